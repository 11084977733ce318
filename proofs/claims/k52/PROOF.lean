import PyProof.Rows.All
import Wide.All
import OpenK.AllK
import Wide.FinOn
import KE.KStateDown
import HandS.ForMost
import HandS.Exc
import HandS.ExcOwn
import HandS.WordsExc
import HandS.Defaults
import HandS.TupAny
import HandS.TupMul
import HandS.Deep
import HandS.IsInst
import HandS.Style
import HandS.Zip
import HandS.Strs
import KE.GoesEnum
import HandS.Codes
import HandS.Head0
import HandS.Head1
import HandS.Head2
import HandS.HeadEnd
import HandS.HeadHook1
import HandS.HeadHook2
import PySem.Challenge.RW_talehouse_k52_whole_numbers_of_values
section
set_option Elab.async false
set_option linter.all false
set_option maxRecDepth 100000
set_option maxHeartbeats 4000000
/-! E1: data, values, stores, the relation to the abstract heap, outcomes, readings -/
namespace Ev
open PySem PySem.Spec L2

/-! ### data on the heap -/
mutual
inductive Da (K : PySem.W.Frag) (F : Hp) : V → PyData → Prop
  | non : Da K F .non .none
  | bl (b : Bool) : Da K F (.bl b) (.bool b)
  | int (i : Int) : Da K F (.int i) (.int i)
  | str (x : Str) : Da K F (.str x) (.str x)
  | lst {a : Addr} {xs : List V} {ds : List PyData} : Rd F a (.lst xs) → DaAll K F xs ds → Da K F (.ref a) (.list ds)
  | tup {a : Addr} {xs : List V} {ds : List PyData} : SqT K F a xs → DaAll K F xs ds → Da K F (.ref a) (.tuple ds)
  | dct {a : Addr} : F a = some (.dK []) → Da K F (.ref a) (.dict [])
inductive DaAll (K : PySem.W.Frag) (F : Hp) : List V → List PyData → Prop
  | nil : DaAll K F [] []
  | cons {v : V} {vs : List V} {d : PyData} {ds : List PyData} : Da K F v d → DaAll K F vs ds → DaAll K F (v :: vs) (d :: ds)
end
theorem SqL.sub {K : PySem.W.Frag} {F G : Hp} {a : Addr} {xs : List V} (e : ∀ b o, F b = some o → G b = some o) (h : SqL K F a xs) : SqL K G a xs := by
  rcases h with (h | ⟨o, h⟩) | h
  · exact .inl (.inl (e _ _ h))
  · exact .inl (.inr ⟨o, e _ _ h⟩)
  · exact .inr h
theorem Rd.sub {F G : Hp} {a : Addr} {u : HO} (e : ∀ b o, F b = some o → G b = some o) (h : Rd F a u) : Rd G a u := by
  rcases h with h | ⟨o, h⟩
  · exact .inl (e _ _ h)
  · exact .inr ⟨o, e _ _ h⟩
theorem SqT.sub {K : PySem.W.Frag} {F G : Hp} {a : Addr} {xs : List V} (e : ∀ b o, F b = some o → G b = some o) (h : SqT K F a xs) : SqT K G a xs := by
  rcases h with (h | ⟨o, h⟩) | h
  · exact .inl (.inl (e _ _ h))
  · exact .inl (.inr ⟨o, e _ _ h⟩)
  · exact .inr h
mutual
theorem Da.sub {K : PySem.W.Frag} {F G : Hp} (e : ∀ b o, F b = some o → G b = some o) : ∀ {v : V} {d : PyData}, Da K F v d → Da K G v d
  | _, _, .non => .non
  | _, _, .bl b => .bl b
  | _, _, .int b => .int b
  | _, _, .str b => .str b
  | _, _, .lst h t => .lst (Rd.sub e h) (DaAll.sub e t)
  | _, _, .tup h t => .tup (SqT.sub e h) (DaAll.sub e t)
  | _, _, .dct h => .dct (e _ _ h)
theorem DaAll.sub {K : PySem.W.Frag} {F G : Hp} (e : ∀ b o, F b = some o → G b = some o) : ∀ {v : List V} {d : List PyData}, DaAll K F v d → DaAll K G v d
  | _, _, .nil => .nil
  | _, _, .cons h t => .cons (Da.sub e h) (DaAll.sub e t)
end
theorem DaAll.len {K : PySem.W.Frag} {F : Hp} : ∀ {v : List V} {d : List PyData}, DaAll K F v d → v.length = d.length
  | _, _, .nil => rfl
  | _, _, .cons _ t => congrArg Nat.succ (DaAll.len t)
theorem DaAll.get {K : PySem.W.Frag} {F : Hp} : ∀ {v : List V} {d : List PyData} {i : Nat} {x : PyData}, DaAll K F v d → d[i]? = some x → ∃ y, v[i]? = some y ∧ Da K F y x
  | _, _, _, _, .nil, e => by simp at e
  | _, _, 0, x, .cons h _, e => by simp at e; subst e; exact ⟨_, rfl, h⟩
  | _, _, i + 1, x, .cons _ t, e => by
    obtain ⟨y, h1, h2⟩ := DaAll.get (i := i) (x := x) t (by simpa using e)
    exact ⟨y, by simpa using h1, h2⟩
theorem DaAll.getV {K : PySem.W.Frag} {F : Hp} : ∀ {v : List V} {d : List PyData} {i : Nat} {y : V}, DaAll K F v d → v[i]? = some y → ∃ x, d[i]? = some x ∧ Da K F y x
  | _, _, _, _, .nil, e => by simp at e
  | _, _, 0, x, .cons h _, e => by simp at e; subst e; exact ⟨_, rfl, h⟩
  | _, _, i + 1, x, .cons _ t, e => by
    obtain ⟨y, h1, h2⟩ := DaAll.getV (i := i) (y := x) t (by simpa using e)
    exact ⟨y, by simpa using h1, h2⟩
theorem DaAll.append {K : PySem.W.Frag} {F : Hp} : ∀ {v w : List V} {d e : List PyData}, DaAll K F v d → DaAll K F w e → DaAll K F (v ++ w) (d ++ e)
  | _, _, _, _, .nil, h => h
  | _, _, _, _, .cons a t, h => .cons a (DaAll.append t h)
theorem DaAll.one {K : PySem.W.Frag} {F : Hp} {v : V} {d : PyData} (h : Da K F v d) : DaAll K F [v] [d] := .cons h .nil
theorem DaAll.set {K : PySem.W.Frag} {F : Hp} {y : V} {x : PyData} (h : Da K F y x) : ∀ {v : List V} {d : List PyData} (i : Nat), DaAll K F v d → DaAll K F (v.set i y) (d.set i x)
  | _, _, _, .nil => .nil
  | _, _, 0, .cons _ t => .cons h t
  | _, _, i + 1, .cons a t => .cons a (DaAll.set h i t)
theorem DaAll.drop {K : PySem.W.Frag} {F : Hp} : ∀ {v : List V} {d : List PyData} (n : Nat), DaAll K F v d → DaAll K F (v.drop n) (d.drop n)
  | _, _, 0, h => h
  | _, _, _ + 1, .nil => .nil
  | _, _, n + 1, .cons _ t => DaAll.drop n t
theorem DaAll.take {K : PySem.W.Frag} {F : Hp} : ∀ {v : List V} {d : List PyData} (n : Nat), DaAll K F v d → DaAll K F (v.take n) (d.take n)
  | _, _, 0, h => by simp; exact .nil
  | _, _, _ + 1, .nil => .nil
  | _, _, n + 1, .cons h t => .cons h (DaAll.take n t)
theorem DaAll.reverse {K : PySem.W.Frag} {F : Hp} : ∀ {v : List V} {d : List PyData}, DaAll K F v d → DaAll K F v.reverse d.reverse
  | _, _, .nil => .nil
  | _, _, .cons h t => by rw [List.reverse_cons, List.reverse_cons]; exact (DaAll.reverse t).append (.one h)

/-! ### values, objects, outcomes -/
inductive Val where
  | d (x : PyData) | loc (n : Nat) | fn (g : Nat)
inductive Ob where
  | lst (xs : List PyData)
abbrev Store := List Ob
structure Exn where
  cls : Nat
  val : PyData
inductive Out (α : Type) where
  | ok (a : α) (S : Store) | err (e : Exn) (S : Store) | stuck
def Out.bind {α β : Type} (o : Out α) (φ : α → Store → Out β) : Out β := match o with
  | .ok a S => φ a S
  | .err e S => .err e S
  | .stuck => .stuck
abbrev EnvD := List (Option Val)
abbrev TD (α : Type) := EnvD → Store → Out α
inductive SOut where
  | next (ρ : EnvD) (S : Store) | ret (v : Val) (S : Store) | brk (ρ : EnvD) (S : Store) | cont (ρ : EnvD) (S : Store) | err (e : Exn) (ρ : EnvD) (S : Store) | stuck
abbrev SD := EnvD → Store → SOut
@[simp] theorem Out.bind_ok {α β : Type} (a : α) (S : Store) (φ : α → Store → Out β) : (Out.ok a S).bind φ = φ a S := rfl
@[simp] theorem Out.bind_err {α β : Type} (e : Exn) (S : Store) (φ : α → Store → Out β) : (Out.err e S).bind φ = .err e S := rfl
@[simp] theorem Out.bind_stuck {α β : Type} (φ : α → Store → Out β) : (Out.stuck : Out α).bind φ = .stuck := rfl

/-- what is fixed: the written part, where defs and classes stand -/
structure Gc where
  K : PySem.W.Frag
  ad : Nat → Addr
  ca : Nat → Addr
def VR (g : Gc) (F : Hp) (f : List Addr) : V → Val → Prop
  | x, .d y => Da g.K F x y
  | x, .loc n => ∃ a : Addr, f[n]? = some a ∧ x = .ref a
  | x, .fn k => x = .ref (g.ad k)
inductive VRs (g : Gc) (F : Hp) (f : List Addr) : List V → List Val → Prop
  | nil : VRs g F f [] []
  | cons {x : V} {v : Val} {xs : List V} {vs : List Val} : VR g F f x v → VRs g F f xs vs → VRs g F f (x :: xs) (v :: vs)
def ObR (g : Gc) (F : Hp) : Ob → Option HO → Prop
  | .lst ds, o => ∃ xs, o = some (.lst xs) ∧ DaAll g.K F xs ds
abbrev Rs := List (Addr × HO)
/-- the abstract heap H holds: the frozen part F, the mutable objects at f (the store S), the reserved ones R -/
structure Sm (g : Gc) (F : Hp) (f : List Addr) (R : Rs) (S : Store) (H : Hp) : Prop where
  le : ∀ a o, F a = some o → H a = some o
  nof : ∀ a ∈ f, F a = none
  nd : f.Nodup
  len : S.length = f.length
  st : ∀ (n : Nat) (ob : Ob) (a : Addr), S[n]? = some ob → f[n]? = some a → ObR g F ob (H a)
  res : ∀ p ∈ R, H p.1 = some p.2 ∧ F p.1 = none ∧ p.1 ∉ f
structure En (g : Gc) (F : Hp) (f : List Addr) (ρ : EnvD) (σ : St) : Prop where
  len : ρ.length = σ.length
  get : ∀ (i : Nat) (v : Val), ρ[i]? = some (some v) → ∃ x, σ[i]? = some (some x) ∧ VR g F f x v
structure Ext (F : Hp) (f : List Addr) (F' : Hp) (f' : List Addr) : Prop where
  le : ∀ a o, F a = some o → F' a = some o
  pre : ∀ (n : Nat) (a : Addr), f[n]? = some a → f'[n]? = some a
theorem Ext.refl (F : Hp) (f : List Addr) : Ext F f F f := ⟨fun _ _ h => h, fun _ _ h => h⟩
theorem Ext.trans {F G J : Hp} {f h k : List Addr} (a : Ext F f G h) (b : Ext G h J k) : Ext F f J k := ⟨fun x o e => b.le x o (a.le x o e), fun n x e => b.pre n x (a.pre n x e)⟩
section
variable {g : Gc} {F F' : Hp} {f f' : List Addr}
theorem VR.sub (e : Ext F f F' f') {x : V} {v : Val} (h : VR g F f x v) : VR g F' f' x v := by
  cases v with
  | d y => exact Da.sub e.le h
  | loc n => obtain ⟨a, h1, h2⟩ := h; exact ⟨a, e.pre n a h1, h2⟩
  | fn k => exact h
theorem VRs.sub (e : Ext F f F' f') : ∀ {xs : List V} {vs : List Val}, VRs g F f xs vs → VRs g F' f' xs vs
  | _, _, .nil => .nil
  | _, _, .cons h t => .cons (h.sub e) (VRs.sub e t)
theorem VRs.len : ∀ {xs : List V} {vs : List Val}, VRs g F f xs vs → xs.length = vs.length
  | _, _, .nil => rfl
  | _, _, .cons _ t => congrArg Nat.succ (VRs.len t)
theorem VRs.get : ∀ {xs : List V} {vs : List Val} {i : Nat} {v : Val}, VRs g F f xs vs → vs[i]? = some v → ∃ x, xs[i]? = some x ∧ VR g F f x v
  | _, _, _, _, .nil, e => by simp at e
  | _, _, 0, x, .cons h _, e => by simp at e; subst e; exact ⟨_, rfl, h⟩
  | _, _, i + 1, x, .cons _ t, e => by
    obtain ⟨y, h1, h2⟩ := VRs.get (i := i) (v := x) t (by simpa using e)
    exact ⟨y, by simpa using h1, h2⟩
theorem VRs.append : ∀ {xs ys : List V} {vs ws : List Val}, VRs g F f xs vs → VRs g F f ys ws → VRs g F f (xs ++ ys) (vs ++ ws)
  | _, _, _, _, .nil, h => h
  | _, _, _, _, .cons a t, h => .cons a (VRs.append t h)
theorem En.sub {ρ : EnvD} {σ : St} (e : Ext F f F' f') (h : En g F f ρ σ) : En g F' f' ρ σ := ⟨h.len, fun i v q => let ⟨x, h1, h2⟩ := h.get i v q; ⟨x, h1, h2.sub e⟩⟩
theorem En.set {ρ : EnvD} {σ : St} (h : En g F f ρ σ) (i : Nat) {x : V} {v : Val} (r : VR g F f x v) : En g F f (ρ.set i (some v)) (σ.set i (some x)) := by
  refine ⟨by simpa using h.len, fun j w q => ?_⟩
  by_cases hj : i = j
  · subst hj
    by_cases hl : i < ρ.length
    · rw [List.getElem?_set_self hl] at q
      cases q
      exact ⟨x, by rw [List.getElem?_set_self (by rw [← h.len]; exact hl)], r⟩
    · rw [List.getElem?_eq_none (by simpa using Nat.le_of_not_lt hl)] at q
      cases q
  · rw [List.getElem?_set_ne hj] at q
    obtain ⟨y, h1, h2⟩ := h.get j w q
    exact ⟨y, by rw [List.getElem?_set_ne hj]; exact h1, h2⟩
theorem En.wipe {ρ : EnvD} {σ : St} (h : En g F f ρ σ) (i : Nat) : En g F f (ρ.set i none) (σ.set i none) := by
  refine ⟨by simpa using h.len, fun j w q => ?_⟩
  by_cases hj : i = j
  · subst hj
    by_cases hl : i < ρ.length
    · rw [List.getElem?_set_self hl] at q
      cases q
    · rw [List.getElem?_eq_none (by simpa using Nat.le_of_not_lt hl)] at q
      cases q
  · rw [List.getElem?_set_ne hj] at q
    obtain ⟨y, h1, h2⟩ := h.get j w q
    exact ⟨y, by rw [List.getElem?_set_ne hj]; exact h1, h2⟩
end
theorem Sm.getL {g : Gc} {F : Hp} {f : List Addr} {R : Rs} {S : Store} {H : Hp} (s : Sm g F f R S H) {n : Nat} {ds : List PyData} (h : S[n]? = some (.lst ds)) : ∃ a xs, f[n]? = some a ∧ H a = some (.lst xs) ∧ DaAll g.K F xs ds := by
  have hl : n < S.length := (List.getElem?_eq_some_iff.mp h).1
  have hf : n < f.length := by rw [← s.len]; exact hl
  obtain ⟨xs, h1, h2⟩ := s.st n _ f[n] h (List.getElem?_eq_getElem hf)
  exact ⟨f[n], xs, List.getElem?_eq_getElem hf, h1, h2⟩
/-- a new frozen object -/
theorem Sm.new {g : Gc} {F : Hp} {f : List Addr} {R : Rs} {S : Store} {H : Hp} (s : Sm g F f R S H) {p : Addr} {o : HO} (hp : H p = none) : Sm g (upd F p o) f R S (upd H p o) ∧ Ext F f (upd F p o) f := by
  have fp : F p = none := by
    cases q : F p with
    | none => rfl
    | some u => rw [s.le p u q] at hp; cases hp
  have fl : ∀ a ∈ f, a ≠ p := fun a ha z => by
    subst z
    obtain ⟨n, hn, e⟩ := List.getElem_of_mem ha
    have hS : n < S.length := by rw [s.len]; exact hn
    have q := s.st n S[n] f[n] (List.getElem?_eq_getElem hS) (List.getElem?_eq_getElem hn)
    rw [e] at q
    revert q
    cases S[n] with
    | lst ds => rintro ⟨xs, h1, _⟩; rw [hp] at h1; cases h1
  have ext : ∀ a u, F a = some u → upd F p o a = some u := fun a u e => by rw [upd_ne (ne_of_none e fp)]; exact e
  refine ⟨⟨fun a u e => ?_, fun a ha => by rw [upd_ne (fl a ha)]; exact s.nof a ha, s.nd, s.len, fun n ob a h1 h2 => ?_, fun q hq => ?_⟩, ⟨ext, fun _ _ h => h⟩⟩
  · by_cases h : a = p
    · subst h; rw [upd_same] at e ⊢; exact e
    · rw [upd_ne h] at e ⊢; exact s.le a u e
  · have na : a ≠ p := fl a (List.mem_of_getElem? h2)
    have q := s.st n ob a h1 h2
    rw [upd_ne na]
    cases ob with
    | lst ds => obtain ⟨xs, e1, e2⟩ := q; exact ⟨xs, e1, DaAll.sub ext e2⟩
  · obtain ⟨e1, e2, e3⟩ := s.res q hq
    have nq : q.1 ≠ p := ne_of_none e1 hp
    rw [upd_ne nq, upd_ne nq]
    exact ⟨e1, e2, e3⟩
/-- the heap has one object more that is told nowhere -/
theorem Sm.idle {g : Gc} {F : Hp} {f : List Addr} {R : Rs} {S : Store} {H H' : Hp} (s : Sm g F f R S H) (k : ∀ a o, H a = some o → H' a = some o) : Sm g F f R S H' := by
  refine ⟨fun a u e => k a u (s.le a u e), s.nof, s.nd, s.len, fun n ob a h1 h2 => ?_, fun q hq => let ⟨e1, e2, e3⟩ := s.res q hq; ⟨k _ _ e1, e2, e3⟩⟩
  have q := s.st n ob a h1 h2
  cases ob with
  | lst ds => obtain ⟨xs, e1, e2⟩ := q; exact ⟨xs, k _ _ e1, e2⟩
theorem Sm.notin {g : Gc} {F : Hp} {f : List Addr} {R : Rs} {S : Store} {H : Hp} (s : Sm g F f R S H) {p : Addr} (hp : H p = none) : p ∉ f ∧ F p = none := by
  refine ⟨fun ha => ?_, ?_⟩
  · obtain ⟨n, hn, e⟩ := List.getElem_of_mem ha
    have hS : n < S.length := by rw [s.len]; exact hn
    have q := s.st n S[n] f[n] (List.getElem?_eq_getElem hS) (List.getElem?_eq_getElem hn)
    rw [e] at q
    revert q
    cases S[n] with
    | lst ds => rintro ⟨xs, h1, _⟩; rw [hp] at h1; cases h1
  · cases q : F p with
    | none => rfl
    | some u => rw [s.le p u q] at hp; cases hp
/-- a new mutable object -/
theorem Sm.newM {g : Gc} {F : Hp} {f : List Addr} {R : Rs} {S : Store} {H : Hp} (s : Sm g F f R S H) {p : Addr} {o : HO} {ob : Ob} (hp : H p = none) (ho : ObR g F ob (some o)) :
    Sm g F (f ++ [p]) R (S ++ [ob]) (upd H p o) ∧ Ext F f F (f ++ [p]) ∧ (f ++ [p])[S.length]? = some p := by
  obtain ⟨n1, n2⟩ := s.notin hp
  have pre : ∀ (n : Nat) (a : Addr), f[n]? = some a → (f ++ [p])[n]? = some a := fun n a e => by
    rw [List.getElem?_append_left (List.getElem?_eq_some_iff.mp e).1]; exact e
  refine ⟨⟨fun a u e => ?_, fun a ha => ?_, ?_, by simp [s.len], fun n ob' a h1 h2 => ?_, fun q hq => ?_⟩, ⟨fun _ _ h => h, pre⟩, by rw [s.len]; simp⟩
  · rw [upd_ne (ne_of_none e n2)]; exact s.le a u e
  · rcases List.mem_append.mp ha with h | h
    · exact s.nof a h
    · rw [List.mem_singleton.mp h]; exact n2
  · exact List.nodup_append.mpr ⟨s.nd, by simp, fun a ha b hb => by rw [List.mem_singleton.mp hb]; exact fun z => n1 (z ▸ ha)⟩
  · by_cases hn : n < S.length
    · rw [List.getElem?_append_left hn] at h1
      rw [List.getElem?_append_left (by rw [← s.len]; exact hn)] at h2
      have na : a ≠ p := fun z => n1 (z ▸ List.mem_of_getElem? h2)
      rw [upd_ne na]
      exact s.st n ob' a h1 h2
    · have hn' : n = S.length := by
        have := (List.getElem?_eq_some_iff.mp h1).1
        simp at this; omega
      subst hn'
      rw [List.getElem?_append_right (Nat.le_refl _)] at h1
      rw [s.len, List.getElem?_append_right (Nat.le_refl _)] at h2
      simp at h1 h2
      subst h1 h2
      rw [upd_same]; exact ho
  · obtain ⟨e1, e2, e3⟩ := s.res q hq
    have nq : q.1 ≠ p := ne_of_none e1 hp
    rw [upd_ne nq]
    exact ⟨e1, e2, fun z => (List.mem_append.mp z).elim e3 fun z => nq (List.mem_singleton.mp z)⟩
/-- a mutable object is written -/
theorem Sm.put {g : Gc} {F : Hp} {f : List Addr} {R : Rs} {S : Store} {H : Hp} (s : Sm g F f R S H) {n : Nat} {p : Addr} {o : HO} {ob : Ob} (hn : f[n]? = some p) (ho : ObR g F ob (some o)) : Sm g F f R (S.set n ob) (upd H p o) := by
  have pf : p ∈ f := List.mem_of_getElem? hn
  refine ⟨fun a u e => ?_, s.nof, s.nd, by simpa using s.len, fun m ob' a h1 h2 => ?_, fun q hq => ?_⟩
  · rw [upd_ne (fun z => by rw [z, s.nof p pf] at e; cases e)]; exact s.le a u e
  · by_cases hm : n = m
    · subst hm
      rw [hn] at h2
      cases h2
      have hl : n < S.length := by rw [s.len]; exact (List.getElem?_eq_some_iff.mp hn).1
      rw [List.getElem?_set_self hl] at h1
      cases h1
      rw [upd_same]; exact ho
    · rw [List.getElem?_set_ne hm] at h1
      have na : a ≠ p := fun z => by
        subst z
        obtain ⟨h3, e3⟩ := List.getElem?_eq_some_iff.mp hn
        obtain ⟨h4, e4⟩ := List.getElem?_eq_some_iff.mp h2
        exact hm ((List.getElem_inj s.nd).mp (e3.trans e4.symm))
      rw [upd_ne na]
      exact s.st m ob' a h1 h2
  · obtain ⟨e1, e2, e3⟩ := s.res q hq
    have nq : q.1 ≠ p := fun z => e3 (by rw [z]; exact pf)
    rw [upd_ne nq]
    exact ⟨e1, e2, e3⟩
/-- a reserved object comes, and goes -/
theorem Sm.hold {g : Gc} {F : Hp} {f : List Addr} {R : Rs} {S : Store} {H : Hp} (s : Sm g F f R S H) {p : Addr} {o : HO} (hp : H p = none) : Sm g F f ((p, o) :: R) S (upd H p o) := by
  obtain ⟨n1, n2⟩ := s.notin hp
  refine ⟨fun a u e => by rw [upd_ne (ne_of_none e n2)]; exact s.le a u e, s.nof, s.nd, s.len, fun n ob a h1 h2 => ?_, fun q hq => ?_⟩
  · have na : a ≠ p := fun z => n1 (by rw [← z]; exact List.mem_of_getElem? h2)
    rw [upd_ne na]; exact s.st n ob a h1 h2
  · rcases List.mem_cons.mp hq with rfl | hq
    · exact ⟨upd_same, n2, n1⟩
    · obtain ⟨e1, e2, e3⟩ := s.res q hq
      rw [upd_ne (ne_of_none e1 hp)]
      exact ⟨e1, e2, e3⟩
theorem Sm.unhold {g : Gc} {F : Hp} {f : List Addr} {R : Rs} {S : Store} {H : Hp} {p : Addr × HO} (s : Sm g F f (p :: R) S H) : Sm g F f R S H :=
  ⟨s.le, s.nof, s.nd, s.len, s.st, fun q hq => s.res q (List.mem_cons_of_mem _ hq)⟩
/-- the held object is written -/
theorem Sm.rehold {g : Gc} {F : Hp} {f : List Addr} {R : Rs} {S : Store} {H : Hp} {p : Addr} {o o' : HO} (s : Sm g F f ((p, o) :: R) S H) (hR : ∀ q ∈ R, q.1 ≠ p) : Sm g F f ((p, o') :: R) S (upd H p o') := by
  obtain ⟨h1, h2, h3⟩ := s.res (p, o) List.mem_cons_self
  refine ⟨fun a u e => by rw [upd_ne (ne_of_none e h2)]; exact s.le a u e, s.nof, s.nd, s.len, fun n ob a e1 e2 => ?_, fun q hq => ?_⟩
  · have na : a ≠ p := fun z => h3 (by rw [← z]; exact List.mem_of_getElem? e2)
    rw [upd_ne na]; exact s.st n ob a e1 e2
  · rcases List.mem_cons.mp hq with rfl | hq
    · exact ⟨upd_same, h2, h3⟩
    · obtain ⟨e1, e2, e3⟩ := s.res q (List.mem_cons_of_mem _ hq)
      rw [upd_ne (hR q hq)]
      exact ⟨e1, e2, e3⟩
/-- the held object is frozen -/
theorem Sm.freeze {g : Gc} {F : Hp} {f : List Addr} {R : Rs} {S : Store} {H : Hp} {p : Addr} {o : HO} (s : Sm g F f ((p, o) :: R) S H) (hR : ∀ q ∈ R, q.1 ≠ p) : Sm g (upd F p o) f R S H ∧ Ext F f (upd F p o) f := by
  obtain ⟨h1, h2, h3⟩ := s.res (p, o) List.mem_cons_self
  have ext : ∀ a u, F a = some u → upd F p o a = some u := fun a u e => by rw [upd_ne (ne_of_none e h2)]; exact e
  refine ⟨⟨fun a u e => ?_, fun a ha => by
    have na : a ≠ p := fun z => h3 (by rw [← z]; exact ha)
    rw [upd_ne na]; exact s.nof a ha, s.nd, s.len, fun n ob a e1 e2 => ?_, fun q hq => ?_⟩, ⟨ext, fun _ _ h => h⟩⟩
  · by_cases h : a = p
    · subst h; rw [upd_same] at e; cases e; exact h1
    · rw [upd_ne h] at e; exact s.le a u e
  · have q := s.st n ob a e1 e2
    cases ob with
    | lst ds => obtain ⟨xs, q1, q2⟩ := q; exact ⟨xs, q1, DaAll.sub ext q2⟩
  · obtain ⟨e1, e2, e3⟩ := s.res q (List.mem_cons_of_mem _ hq)
    rw [upd_ne (hR q hq)]
    exact ⟨e1, e2, e3⟩

/-! ### readings -/
/-- how an exception lies behind -/
def ErrR (g : Gc) (F : Hp) (e : Exn) (C : Value) (d : Option Addr) (H : Hp) : Prop := ∃ dA x, C = .ref (g.ca e.cls) ∧ d = some dA ∧ H dA = some (.xd [(("value" : Str), x)]) ∧ Da g.K F x e.val
abbrev Kn (α : Type) := α → Hp → List Addr → Store → Hp → Prop
def Sat {α : Type} (g : Gc) (F : Hp) (f : List Addr) (R : Rs) (W : Value → Option Addr → Hp → Prop) (o : Out α) (k : Kn α) : Prop := match o with
  | .ok a S => ∀ F' f' H, Ext F f F' f' → Sm g F' f' R S H → k a F' f' S H
  | .err e S => ∀ F' f' H C d, Ext F f F' f' → Sm g F' f' R S H → ErrR g F' e C d H → W C d H
  | .stuck => False
section
variable {α β : Type} {g : Gc} {F F' : Hp} {f f' : List Addr} {R : Rs} {W : Value → Option Addr → Hp → Prop} {o : Out α} {k k' : Kn α}
theorem Sat.step (h : Sat g F f R W o k) (e : Ext F f F' f') : Sat g F' f' R W o k := by
  cases o with
  | ok a S => exact fun F2 f2 H2 e2 s => h F2 f2 H2 (e.trans e2) s
  | err x S => exact fun F2 f2 H2 C d e2 s r => h F2 f2 H2 C d (e.trans e2) s r
  | stuck => exact h
theorem Sat.imp (h : Sat g F f R W o k) (hk : ∀ a F' f' S H, Ext F f F' f' → Sm g F' f' R S H → o = .ok a S → k a F' f' S H → k' a F' f' S H) : Sat g F f R W o k' := by
  cases o with
  | ok a S => exact fun F2 f2 H2 e2 s => hk _ _ _ _ _ e2 s rfl (h F2 f2 H2 e2 s)
  | err x S => exact h
  | stuck => exact h
theorem Sat.bind {φ : α → Store → Out β} {k : Kn β} (h : Sat g F f R W (o.bind φ) k) : Sat g F f R W o fun a F' f' S' H' => Sat g F' f' R W (φ a S') k := by
  cases o with
  | ok a S => exact fun F2 f2 H2 e2 s => Sat.step h e2
  | err x S => exact h
  | stuck => exact h
/-- a value is there -/
theorem Sat.ok {a : α} {S : Store} {H : Hp} (h : Sat g F f R W (.ok a S) k) (s : Sm g F f R S H) : k a F f S H := h F f H (Ext.refl _ _) s
end
/-- a reading from a meaning -/
def rdG {α β : Type} (g : Gc) (W : WX) (rel : Hp → List Addr → β → α → Prop) (t : TD α) : St → Hp → (β → Hp → Prop) → Prop := fun σ H Q =>
  ∃ F f R ρ S, Sm g F f R S H ∧ En g F f ρ σ ∧ Sat g F f R (fun C d H' => W C d σ H') (t ρ S) fun v F' f' S' H' => ∀ x, rel F' f' x v → Q x H'
abbrev rd (g : Gc) (W : WX) (t : TD Val) : TE := rdG g W (fun F f x v => VR g F f x v) t
abbrev rdA (g : Gc) (W : WX) (t : TD (List Val)) : TA := rdG g W (fun F f x v => VRs g F f x v) t
abbrev rdT (g : Gc) (W : WX) (t : TD Bool) : TT := rdG g W (fun _ _ x v => x = v) t
section
variable {α β γ δ : Type} {g : Gc} {F : Hp} {f : List Addr} {R : Rs} {W : WX} {S : Store} {H : Hp} {ρ : EnvD} {σ : St} {rel : Hp → List Addr → β → α → Prop} {t : TD α} {Q : β → Hp → Prop}
theorem rd_of {k : Kn α} (s : Sm g F f R S H) (e : En g F f ρ σ) (h : Sat g F f R (fun C d H' => W C d σ H') (t ρ S) k)
    (hk : ∀ v F' f' S' H' x, Ext F f F' f' → Sm g F' f' R S' H' → En g F' f' ρ σ → rel F' f' x v → k v F' f' S' H' → Q x H') : rdG g W rel t σ H Q :=
  ⟨F, f, R, ρ, S, s, e, h.imp fun a F' f' S' H' x s' _ q y r => hk a F' f' S' H' y x s' (e.sub x) r q⟩
theorem rd_bind {φ : α → Store → Out γ} {k : Kn γ} (s : Sm g F f R S H) (e : En g F f ρ σ) (h : Sat g F f R (fun C d H' => W C d σ H') ((t ρ S).bind φ) k)
    (hk : ∀ v F' f' S' H' x, Ext F f F' f' → Sm g F' f' R S' H' → En g F' f' ρ σ → rel F' f' x v → Sat g F' f' R (fun C d H' => W C d σ H') (φ v S') k → Q x H') : rdG g W rel t σ H Q :=
  rd_of s e h.bind hk
end
/-! ### a weaker reading -/
theorem PE.imp {X : Cx} {e : Expr} {t u : TE} (h : PE X e t) (i : ∀ σ H Q, u σ H Q → t σ H Q) : PE X e u := ⟨fun pins s σ H Q I q => h.run pins s σ H Q I (i σ H Q q)⟩
theorem PT.imp {X : Cx} {e : Expr} {t u : TT} (h : PT X e t) (i : ∀ σ H Q, u σ H Q → t σ H Q) : PT X e u := ⟨fun pins s σ H Q I q => h.run pins s σ H Q I (i σ H Q q)⟩
theorem PW.imp {X : Cx} {e : Expr} {t u : TT} (h : PW X e t) (i : ∀ σ H Q, u σ H Q → t σ H Q) : PW X e u := ⟨fun wh pins s σ H Q I q => h.run wh pins s σ H Q I (i σ H Q q)⟩
theorem PA.imp {X : Cx} {e : List Expr} {t u : TA} (h : PA X e t) (i : ∀ σ H Q, u σ H Q → t σ H Q) : PA X e u := ⟨fun pos pins s σ H Q I q => h.run pos pins s σ H Q I (i σ H Q q)⟩
theorem PS.imp {X : Cx} {e : Stmt} {t u : TS} (h : PS X e t) (i : ∀ D σ H, u D σ H → t D σ H) : PS X e u := ⟨fun pins s σ H Q I q => h.run pins s σ H Q I (i Q σ H q)⟩
theorem PSs.imp {X : Cx} {e : List Stmt} {t u : TS} (h : PSs X e t) (i : ∀ D σ H, u D σ H → t D σ H) : PSs X e u := ⟨fun pins s σ H Q I q => h.run pins s σ H Q I (i Q σ H q)⟩
end Ev
end

section
set_option Elab.async false
set_option linter.all false
set_option maxRecDepth 100000
set_option maxHeartbeats 4000000
/-! E2: the small syntax and its meaning on data (no heap here) -/
namespace Ev
open PySem PySem.Spec L2

/-! ### operations on values -/
def seqOf (S : Store) : Val → Option (List PyData)
  | .d (.list xs) => some xs
  | .d (.tuple xs) => some xs
  | .loc n => match S[n]? with
    | some (.lst xs) => some xs
    | _ => none
  | _ => none
def lstOf (S : Store) : Val → Option (List PyData)
  | .d (.list xs) => some xs
  | .loc n => match S[n]? with
    | some (.lst xs) => some xs
    | _ => none
  | _ => none
/-- the data that a value is now -/
def datOf (S : Store) : Val → Option PyData
  | .d x => some x
  | .loc n => match S[n]? with
    | some (.lst xs) => some (.list xs)
    | _ => none
  | .fn _ => none
def truV (S : Store) : Val → Option Bool
  | .d .none => some false
  | .d (.bool b) => some b
  | .d (.int i) => some (i != 0)
  | .d (.str s) => if s.length ≤ sizeLine then some ((s.length : Int) != 0) else none
  | .d (.list xs) => some (!xs.isEmpty)
  | .d (.tuple xs) => some (!xs.isEmpty)
  | .loc n => match S[n]? with
    | some (.lst xs) => some (!xs.isEmpty)
    | _ => none
  | _ => none
def okIf (c : Prop) [Decidable c] (v : PyData) (S : Store) : Out Val := if c then .ok (.d v) S else .stuck
def binV (op : Operator) (v u : Val) (S : Store) : Out Val := match op, v, u with
  | .Add, .d (.int i), .d (.int j) => .ok (.d (.int (i + j))) S
  | .Add, .d (.str i), .d (.str j) => okIf (i.length + j.length ≤ sizeLine) (.str (i ++ j)) S
  | .Add, .d (.tuple xs), .d (.tuple ys) => okIf (xs.length + ys.length ≤ sizeLine) (.tuple (xs ++ ys)) S
  | .Add, .d (.list xs), .d (.list ys) => okIf (xs.length + ys.length ≤ sizeLine) (.list (xs ++ ys)) S
  | .Sub, .d (.int i), .d (.int j) => .ok (.d (.int (i - j))) S
  | .Mult, .d (.int i), .d (.int j) => okIf ((-(2 ^ 64) < i ∧ i < 2 ^ 64) ∨ (-(2 ^ 64) < j ∧ j < 2 ^ 64)) (.int (i * j)) S
  | .Mult, .d (.tuple xs), .d (.int j) => okIf (j = 1 ∨ (xs.isEmpty = false ∧ 2 ≤ j ∧ j ≤ 1000 ∧ xs.length ≤ 1000)) (.tuple (List.replicate j.toNat xs).flatten) S
  | .Mod, .d (.int i), .d (.int j) => okIf (j ≠ 0) (.int (i.fmod j)) S
  | .FloorDiv, .d (.int i), .d (.int j) => okIf (j ≠ 0 ∧ j.natAbs < 1073741824) (.int (i.fdiv j)) S
  | .Pow, .d (.int i), .d (.int j) => okIf (0 ≤ j ∧ j ≤ 1000000 ∧ i.natAbs < 2 ^ 64) (.int (i ^ j.toNat)) S
  | _, _, _ => .stuck
/-- ints, all of a list -/
def intsOf : List PyData → Option (List Int)
  | [] => some []
  | .int i :: r => (intsOf r).map (i :: ·)
  | _ => none
def boolsOf : List PyData → Option (List Bool)
  | [] => some []
  | .bool i :: r => (boolsOf r).map (i :: ·)
  | _ => none
def cmpV (op : CmpOp) (v u : Val) (S : Store) : Out Val := match op with
  | .Eq => match v, u with
    | .d (.str i), .d (.str j) => .ok (.d (.bool (i == j))) S
    | v, u => match datOf S v, datOf S u with
      | some x, some y => okIf (SeqAt.shaped x = true ∧ SeqAt.shaped y = true) (.bool (PyData.eqv x y)) S
      | _, _ => .stuck
  | .NotEq => match v, u with
    | .d (.str i), .d (.str j) => .ok (.d (.bool (!(i == j)))) S
    | v, u => match datOf S v, datOf S u with
      | some x, some y => okIf (SeqAt.shaped x = true ∧ SeqAt.shaped y = true) (.bool (!PyData.eqv x y)) S
      | _, _ => .stuck
  | .Lt => match v, u with
    | .d (.int i), .d (.int j) => .ok (.d (.bool (decide (i < j)))) S
    | .d (.str i), .d (.str j) => .ok (.d (.bool (decide (i.cps.toList < j.cps.toList)))) S
    | .d (.tuple xs), .d (.tuple ys) => match intsOf xs, intsOf ys with
      | some ns, some ms => .ok (.d (.bool (HT.lexLt ns ms))) S
      | _, _ => .stuck
    | _, _ => .stuck
  | .LtE => match v, u with
    | .d (.int i), .d (.int j) => .ok (.d (.bool (decide (i ≤ j)))) S
    | .d (.str i), .d (.str j) => .ok (.d (.bool (!decide (j.cps.toList < i.cps.toList)))) S
    | _, _ => .stuck
  | .Gt => match v, u with
    | .d (.int i), .d (.int j) => .ok (.d (.bool (decide (j < i)))) S
    | _, _ => .stuck
  | .GtE => match v, u with
    | .d (.int i), .d (.int j) => .ok (.d (.bool (decide (j ≤ i)))) S
    | _, _ => .stuck
  | .Is => match v, u with
    | .d .none, .d .none => .ok (.d (.bool true)) S
    | _, .d .none => .ok (.d (.bool false)) S
    | _, _ => .stuck
  | .IsNot => match v, u with
    | .d .none, .d .none => .ok (.d (.bool false)) S
    | _, .d .none => .ok (.d (.bool true)) S
    | _, _ => .stuck
  | .In => match u with
    | .d (.str z) => match v with
      | .d (.str x) => okIf (x.length = 1) (.bool (decide (x.cps.getD 0 0 ∈ z.cps.toList))) S
      | _ => .stuck
    | _ => match datOf S v, seqOf S u with
      | some x, some ys => okIf (SeqAt.shaped x = true ∧ SeqAt.shaped (.list ys) = true) (.bool (ys.any fun z => PyData.eqv z x)) S
      | _, _ => .stuck
  | .NotIn => match u with
    | .d (.str z) => match v with
      | .d (.str x) => okIf (x.length = 1) (.bool (!decide (x.cps.getD 0 0 ∈ z.cps.toList))) S
      | _ => .stuck
    | _ => match datOf S v, seqOf S u with
      | some x, some ys => okIf (SeqAt.shaped x = true ∧ SeqAt.shaped (.list ys) = true) (.bool (!ys.any fun z => PyData.eqv z x)) S
      | _, _ => .stuck
def idxV (v u : Val) (S : Store) : Out Val := match u with
  | .d (.int i) => match v with
    | .d (.str z) => if z.length ≤ sizeLine then match atI z.cps.toList i with
        | some c => .ok (.d (.str ⟨#[c]⟩)) S
        | none => .stuck
      else .stuck
    | _ => match seqOf S v with
      | some xs => match atI xs i with
        | some x => .ok (.d x) S
        | none => .stuck
      | none => .stuck
  | _ => .stuck
def prtV (v : Val) (S : Store) : Out (Option Int) := match v with
  | .d (.int i) => .ok (some i) S
  | _ => .stuck
def cutD (xs : List PyData) (lo hi : Option Int) : List PyData := (xs.drop (HT.sIx xs.length 0 lo)).take (HT.sIx xs.length xs.length hi - HT.sIx xs.length 0 lo)
/-- v[lo:hi] -/
def sliV (v : Val) (lo hi : Option Int) (S : Store) : Out Val := match v with
  | .d (.str z) => okIf (z.length ≤ sizeLine) (.str (cutS z lo hi)) S
  | .d (.tuple xs) => .ok (.d (.tuple (cutD xs lo hi))) S
  | _ => match lstOf S v with
    | some xs => .ok (.d (.list (cutD xs lo hi))) S
    | none => .stuck
/-- v[::-1], v[:0:-1] -/
def revV (z : Bool) (v : Val) (S : Store) : Out Val := match v with
  | .d (.tuple xs) => .ok (.d (.tuple (if z = true then (xs.drop 1).reverse else xs.reverse))) S
  | _ => match lstOf S v with
    | some xs => if z = true then .stuck else .ok (.d (.list xs.reverse)) S
    | none => .stuck
/-- the kinds that isinstance is asked for -/
inductive Ty where
  | int | bool | str | tuple | list | dict
  deriving DecidableEq
def Ty.name : Ty → String
  | .int => "int" | .bool => "bool" | .str => "str" | .tuple => "tuple" | .list => "list" | .dict => "dict"
def isTy (S : Store) (v : Val) (t : Ty) : Option Bool := match v with
  | .d .none => some false
  | .d (.bool _) => some (t == .bool || t == .int)
  | .d (.int _) => some (t == .int)
  | .d (.str _) => some (t == .str)
  | .d (.tuple _) => some (t == .tuple)
  | .d (.list _) => some (t == .list)
  | .d (.dict _) => some (t == .dict)
  | .loc n => match S[n]? with
    | some (.lst _) => some (t == .list)
    | _ => none
  | .fn _ => none
def addD (acc : List Str) (x : Str) : List Str := if x ∈ acc then acc else acc ++ [x]
/-- the texts, each once -/
def onceS (xs : List Str) : List Str := xs.foldl addD []
inductive BI where
  | len | all | any | tuple | list | sum | abs | max2 | min2 | int | strI | divmod | repr | ord | lenSet | listM
  deriving DecidableEq
def strsOf : List PyData → Option (List Str)
  | [] => some []
  | .str i :: r => (strsOf r).map (i :: ·)
  | _ => none
def biV (b : BI) (vs : List Val) (S : Store) : Out Val := match b, vs with
  | .len, [.d (.str s)] => okIf (s.length ≤ sizeLine) (.int s.length) S
  | .len, [v] => match seqOf S v with
    | some xs => .ok (.d (.int xs.length)) S
    | none => .stuck
  | .all, [v] => match (lstOf S v).bind boolsOf with
    | some bs => .ok (.d (.bool (bs.all id))) S
    | none => .stuck
  | .any, [v] => match (lstOf S v).bind boolsOf with
    | some bs => .ok (.d (.bool (bs.any id))) S
    | none => .stuck
  | .tuple, [v] => match seqOf S v with
    | some xs => .ok (.d (.tuple xs)) S
    | none => .stuck
  | .list, [v] => match seqOf S v with
    | some xs => .ok (.d (.list xs)) S
    | none => .stuck
  | .listM, [v] => match seqOf S v with
    | some xs => .ok (.loc S.length) (S ++ [.lst xs])
    | none => .stuck
  | .sum, [v] => match (lstOf S v).bind intsOf with
    | some ns => .ok (.d (.int ns.sum)) S
    | none => .stuck
  | .abs, [.d (.int i)] => .ok (.d (.int (if i < 0 then -i else i))) S
  | .max2, [.d (.int i), .d (.int j)] => .ok (.d (.int (if j > i then j else i))) S
  | .min2, [.d (.int i), .d (.int j)] => .ok (.d (.int (if j < i then j else i))) S
  | .int, [.d (.int i)] => .ok (.d (.int i)) S
  | .int, [.d (.bool b)] => .ok (.d (.int (if b then 1 else 0))) S
  | .strI, [.d (.int i)] => okIf (i.natAbs.log2 < 1920) (.str (toString i)) S
  | .divmod, [.d (.int i), .d (.int j)] => okIf (0 < j ∧ j < 1073741824) (.tuple [.int (i / j), .int (i % j)]) S
  | .ord, [.d (.str x)] => okIf (x.length = 1) (.int (x.cps.getD 0 0 : Nat)) S
  | .lenSet, [v] => match (seqOf S v).bind strsOf with
    | some ss => okIf (ss.length < 4000) (.int ((onceS ss).length : Nat)) S
    | none => .stuck
  | .repr, [v] => match datOf S v with
    | some x => okIf (x.showable = true ∧ x.depth ≤ 60 ∧ x.shown.length ≤ sizeLine) (.str x.shown) S
    | none => .stuck
  | _, _ => .stuck
inductive Me where
  | append
  deriving DecidableEq
def meV (m : Me) (v : Val) (vs : List Val) (S : Store) : Out Val := match m, v, vs with
  | .append, .loc n, [.d x] => match S[n]? with
    | some (.lst xs) => if xs.length < sizeLine then .ok (.d .none) (S.set n (.lst (xs ++ [x]))) else .stuck
    | _ => .stuck
  | _, _, _ => .stuck
/-- the receiver of a method call -/
def recV (v : Val) (S : Store) : Out Val := match v with
  | .loc n => match S[n]? with
    | some (.lst _) => .ok v S
    | _ => .stuck
  | _ => .stuck
/-- v[u] = w -/
def setV (v u w : Val) (S : Store) : Out Unit := match v, u, w with
  | .loc n, .d (.int i), .d x => match S[n]? with
    | some (.lst xs) => match ixN xs.length i with
      | some j => .ok () (S.set n (.lst (xs.set j x)))
      | none => .stuck
    | _ => .stuck
  | _, _, _ => .stuck
/-- all are data -/
def datas : List Val → Option (List PyData)
  | [] => some []
  | .d x :: r => (datas r).map (x :: ·)
  | _ => none

/-! ### the syntax -/
inductive Tg where
  | nm (i : Nat) | tup (is : List Nat)
mutual
inductive CE where
  | var (i : Nat) | cst (d : PyData) | glb (k : Nat) | fnv (k : Nat)
  | bin (op : Operator) (a b : CE) | cmp (op : CmpOp) (a b : CE) | chn (o1 o2 : CmpOp) (a b c : CE)
  | and (es : CEs) | or (es : CEs) | not (a : CE) | ife (c a b : CE)
  | tup (es : CEs) | lst (m : Bool) (es : CEs) | idx (a i : CE) | sli (a : CE) (lo hi : CO) | rev (z : Bool) (a : CE)
  | call (k : Nat) (es : CEs) | kall (k : Nat) (gs : List Nat) (es ks : CEs) | isi (a : CE) (t : Ty) | bi (b : BI) (es : CEs) | meth (m : Me) (a : CE) (es : CEs)
  | lc (m : Bool) (elt : CE) (own : List (Str × Nat)) (tg : Tg) (it : CI) (cond : CO)
inductive CEs where
  | nil | cons (a : CE) (es : CEs)
inductive CO where
  | none | some (a : CE)
inductive CI where
  | seq (a : CE) | rng1 (a : CE) | rng2 (a b : CE) | rng3 (a b c : CE) | zip (a b : CE) | enum (a : CE)
end
/-- targets of an unpacking -/
inductive CT where
  | nm (i : Nat) | sub (a i : CE)
mutual
inductive CS where
  | ret (a : CE) | retN | ife (c : CE) (a b : CSs) | asg (t : Tg) (e : CE) | par (is : List Nat) (es : CEs) | seti (a i e : CE) | unp (ts : List CT) (e : CE)
  | for_ (tg : Tg) (it : CI) (b : CSs) | whl (n : Nat) (c : CE) (b : CSs) | expr (e : CE) | pass | brk | cnt | raise (c : Nat) (e : CE) | never
inductive CSs where
  | nil | cons (a : CS) (r : CSs)
end

/-! ### the meaning -/
abbrev Calls := Nat → List Val → Store → Out Val
def dVar (i : Nat) : TD Val := fun ρ S => match ρ[i]? with
  | some (some v) => .ok v S
  | _ => .stuck
def dCst (d : PyData) : TD Val := fun _ S => .ok (.d d) S
def dB2 (φ : Val → Val → Store → Out Val) (a b : TD Val) : TD Val := fun ρ S => (a ρ S).bind fun v S1 => (b ρ S1).bind fun u S2 => φ v u S2
def dU (φ : Val → Store → Out Val) (a : TD Val) : TD Val := fun ρ S => (a ρ S).bind fun v S1 => φ v S1
def dN (φ : List Val → Store → Out Val) (es : TD (List Val)) : TD Val := fun ρ S => (es ρ S).bind fun vs S1 => φ vs S1
/-- a truth value -/
def tobV (v : Val) (S : Store) : Out Bool := match v with
  | .d (.bool b) => .ok b S
  | _ => .stuck
def ofB (o : Out Bool) : Out Val := o.bind fun b S => .ok (.d (.bool b)) S
def truO (v : Val) (S : Store) : Out Bool := match truV S v with
  | some b => .ok b S
  | none => .stuck
def dIf {α : Type} (c : TD Bool) (a b : TD α) : TD α := fun ρ S => (c ρ S).bind fun k S1 => if k = true then a ρ S1 else b ρ S1
def lstV (m : Bool) (vs : List Val) (S : Store) : Out Val := match datas vs with
  | some xs => if xs.length ≤ sizeLine then (if m = true then .ok (.loc S.length) (S ++ [.lst xs]) else .ok (.d (.list xs)) S) else .stuck
  | none => .stuck
def tupV (vs : List Val) (S : Store) : Out Val := match datas vs with
  | some xs => okIf (xs.length ≤ sizeLine) (.tuple xs) S
  | none => .stuck
/-- what a loop walks: the items; what the store must hold at each turn -/
structure Itm where
  vs : List Val
  n : Option (Nat × List PyData)
def Itm.ck (w : Itm) (S : Store) : Prop := match w.n with
  | none => True
  | some (n, xs) => S[n]? = some (.lst xs)
def seqI (v : Val) (S : Store) : Out Itm := match v with
  | .d (.list xs) => .ok ⟨xs.map .d, none⟩ S
  | .d (.tuple xs) => .ok ⟨xs.map .d, none⟩ S
  | .d (.str z) => .ok ⟨z.cps.toList.map fun c => .d (.str ⟨#[c]⟩), none⟩ S
  | .loc n => match S[n]? with
    | some (.lst xs) => .ok ⟨xs.map .d, some (n, xs)⟩ S
    | _ => .stuck
  | _ => .stuck
def rngI (lo : Int) (n : Nat) : Itm := ⟨(List.range n).map fun (i : Nat) => Val.d (.int (lo + (i : Int))), none⟩
def rng1I (v : Val) (S : Store) : Out Itm := match v with
  | .d (.int j) => if -(2 ^ 62) ≤ j ∧ j < 2 ^ 62 then .ok (rngI 0 j.toNat) S else .stuck
  | _ => .stuck
def rng2I (v u : Val) (S : Store) : Out Itm := match v, u with
  | .d (.int i), .d (.int j) => if -(2 ^ 62) ≤ i ∧ i < 2 ^ 62 ∧ -(2 ^ 62) ≤ j ∧ j < 2 ^ 62 then .ok (rngI i (j - i).toNat) S else .stuck
  | _, _ => .stuck
/-- range(i, j, -1) -/
def rng3I (v u w : Val) (S : Store) : Out Itm := match v, u, w with
  | .d (.int i), .d (.int j), .d (.int c) => if c = -1 ∧ -(2 ^ 62) ≤ i ∧ i < 2 ^ 62 ∧ -(2 ^ 62) ≤ j ∧ j < 2 ^ 62 then .ok ⟨(List.range (i - j).toNat).map fun (k : Nat) => Val.d (.int (i - (k : Int))), none⟩ S else .stuck
  | _, _, _ => .stuck
def zipI (v u : Val) (S : Store) : Out Itm := match v, u with
  | .d (.list xs), .d (.list ys) => .ok ⟨(xs.zip ys).map fun p => .d (.tuple [p.1, p.2]), none⟩ S
  | .d (.tuple xs), .d (.tuple ys) => .ok ⟨(xs.zip ys).map fun p => .d (.tuple [p.1, p.2]), none⟩ S
  | _, _ => .stuck
def enumI (v : Val) (S : Store) : Out Itm := match v with
  | .d (.list xs) => .ok ⟨xs.zipIdx.map fun p => .d (.tuple [.int (p.2 : Int), p.1]), none⟩ S
  | .d (.tuple xs) => .ok ⟨xs.zipIdx.map fun p => .d (.tuple [.int (p.2 : Int), p.1]), none⟩ S
  | _ => .stuck
/-- names are bound one by one -/
def setAll : List Nat → List PyData → EnvD → EnvD
  | i :: is, x :: xs, ρ => setAll is xs (ρ.set i (some (.d x)))
  | _, _, ρ => ρ
def tgt (t : Tg) (v : Val) (ρ : EnvD) : Option EnvD := match t, v with
  | .nm i, v => some (ρ.set i (some v))
  | .tup is, .d (.tuple xs) => if xs.length = is.length then some (setAll is xs ρ) else none
  | _, _ => none
def wipeD (ρ : EnvD) : List Nat → EnvD
  | [] => ρ
  | v :: vs => (wipeD ρ vs).set v none
open Classical in
/-- a comprehension's turns; acc: what is made so far -/
noncomputable def lcD (w : Itm) (tg : Tg) (cond : TD Bool) (elt : TD Val) (ρ : EnvD) : List Val → List PyData → Store → Out (List PyData)
  | [], acc, S => if w.ck S then .ok acc S else .stuck
  | v :: vs, acc, S => if w.ck S then match tgt tg v ρ with
      | some ρ1 => match cond ρ1 S with
        | .ok true S1 => match elt ρ1 S1 with
          | .ok (.d x) S2 => if acc.length < sizeLine then lcD w tg cond elt ρ vs (acc ++ [x]) S2 else .stuck
          | _ => .stuck
        | .ok false S1 => lcD w tg cond elt ρ vs acc S1
        | _ => .stuck
      | none => .stuck
    else .stuck
noncomputable def dLc (m : Bool) (it : TD Itm) (own : List Nat) (tg : Tg) (cond : TD Bool) (elt : TD Val) : TD Val := fun ρ S => match it ρ S with
  | .ok w S1 => match lcD w tg cond elt (wipeD ρ own) w.vs [] S1 with
    | .ok xs S2 => if m = true then .ok (.loc S2.length) (S2 ++ [.lst xs]) else .ok (.d (.list xs)) S2
    | _ => .stuck
  | _ => .stuck
def dCall (C : Calls) (k : Nat) (es : TD (List Val)) : TD Val := dN (C k) es
/-- the values by places: positional ones, then those of keywords -/
def pick (gs : List Nat) (vs : List Val) : Option (List Val) := gs.mapM fun i => vs[i]?
def dKall (C : Calls) (k : Nat) (gs : List Nat) (es ks : TD (List Val)) : TD Val := fun ρ S => (es ρ S).bind fun vs S1 => (ks ρ S1).bind fun us S2 => match pick gs (vs ++ us) with
  | some ws => C k ws S2
  | none => .stuck
def isiV (t : Ty) (v : Val) (S : Store) : Out Val := match isTy S v t with
  | some b => .ok (.d (.bool b)) S
  | none => .stuck
section
variable (Gl : List PyData) (C : Calls)
mutual
noncomputable def dE : CE → TD Val
  | .var i => dVar i
  | .cst d => dCst d
  | .glb k => match Gl[k]? with
    | some d => dCst d
    | none => fun _ _ => .stuck
  | .fnv k => fun _ S => .ok (.fn k) S
  | .bin op a b => dB2 (binV op) (dE a) (dE b)
  | .cmp op a b => dB2 (cmpV op) (dE a) (dE b)
  | .chn o1 o2 a b c => fun ρ S => (dE a ρ S).bind fun v S1 => (dE b ρ S1).bind fun u S2 => (cmpV o1 v u S2).bind fun k S3 => (tobV k S3).bind fun kb S4 => if kb = true then (dE c ρ S4).bind fun z S5 => cmpV o2 u z S5 else .ok (.d (.bool false)) S4
  | .and es => dAnd es
  | .or es => dOr es
  | .not a => fun ρ S => (dE a ρ S).bind fun v S1 => (tobV v S1).bind fun b S2 => .ok (.d (.bool !b)) S2
  | .ife c a b => dIf (dT c) (dE a) (dE b)
  | .tup es => dN tupV (dEs es)
  | .lst m es => dN (lstV m) (dEs es)
  | .idx a i => dB2 idxV (dE a) (dE i)
  | .sli a lo hi => fun ρ S => (dE a ρ S).bind fun v S1 => (dO lo ρ S1).bind fun l S2 => (dO hi ρ S2).bind fun h S3 => sliV v l h S3
  | .rev z a => dU (revV z) (dE a)
  | .call k es => dCall C k (dEs es)
  | .kall k gs es ks => dKall C k gs (dEs es) (dEs ks)
  | .isi a t => dU (isiV t) (dE a)
  | .bi b es => dN (biV b) (dEs es)
  | .meth m a es => fun ρ S => (dE a ρ S).bind fun u S0 => (recV u S0).bind fun v S1 => (dEs es ρ S1).bind fun vs S2 => meV m v vs S2
  | .lc m elt own tg it cond => dLc m (dI it) (own.map (·.2)) tg (dC cond) (dE elt)
noncomputable def dEs : CEs → TD (List Val)
  | .nil => fun _ S => .ok [] S
  | .cons a es => fun ρ S => (dE a ρ S).bind fun v S1 => (dEs es ρ S1).bind fun vs S2 => .ok (v :: vs) S2
noncomputable def dO : CO → TD (Option Int)
  | .none => fun _ S => .ok none S
  | .some a => fun ρ S => (dE a ρ S).bind prtV
/-- a comprehension's test -/
noncomputable def dC : CO → TD Bool
  | .none => fun _ S => .ok true S
  | .some a => dT a
noncomputable def dI : CI → TD Itm
  | .seq a => fun ρ S => (dE a ρ S).bind seqI
  | .rng1 a => fun ρ S => (dE a ρ S).bind rng1I
  | .rng2 a b => fun ρ S => (dE a ρ S).bind fun v S1 => (dE b ρ S1).bind fun u S2 => rng2I v u S2
  | .rng3 a b c => fun ρ S => (dE a ρ S).bind fun v S1 => (dE b ρ S1).bind fun u S2 => (dE c ρ S2).bind fun w S3 => rng3I v u w S3
  | .zip a b => fun ρ S => (dE a ρ S).bind fun v S1 => (dE b ρ S1).bind fun u S2 => zipI v u S2
  | .enum a => fun ρ S => (dE a ρ S).bind enumI
noncomputable def dAnd : CEs → TD Val
  | .nil => fun _ _ => .stuck
  | .cons a .nil => dE a
  | .cons a (.cons b r) => fun ρ S => (dE a ρ S).bind fun v S1 => (tobV v S1).bind fun k S2 => if k = true then dAnd (.cons b r) ρ S2 else .ok (.d (.bool false)) S2
noncomputable def dOr : CEs → TD Val
  | .nil => fun _ _ => .stuck
  | .cons a .nil => dE a
  | .cons a (.cons b r) => fun ρ S => (dE a ρ S).bind fun v S1 => (tobV v S1).bind fun k S2 => if k = true then .ok (.d (.bool true)) S2 else dOr (.cons b r) ρ S2
/-- a test -/
noncomputable def dT : CE → TD Bool
  | .and es => tAnd es
  | .or es => tOr es
  | .not a => fun ρ S => (dT a ρ S).bind fun b S1 => .ok (!b) S1
  | .cmp op a b => fun ρ S => (dB2 (cmpV op) (dE a) (dE b) ρ S).bind tobV
  | .chn o1 o2 a b c => fun ρ S => (dE a ρ S).bind fun v S1 => (dE b ρ S1).bind fun u S2 => (cmpV o1 v u S2).bind fun k S3 => (tobV k S3).bind fun kb S4 => if kb = true then (dE c ρ S4).bind fun z S5 => (cmpV o2 u z S5).bind tobV else .ok false S4
  | .var i => fun ρ S => (dVar i ρ S).bind truO
  | .idx a i => fun ρ S => (dB2 idxV (dE a) (dE i) ρ S).bind truO
  | .call k es => fun ρ S => (dCall C k (dEs es) ρ S).bind truO
  | .isi a t => fun ρ S => (dU (isiV t) (dE a) ρ S).bind truO
  | .bi b es => fun ρ S => (dN (biV b) (dEs es) ρ S).bind truO
  | .cst d => fun ρ S => (dCst d ρ S).bind truO
  | _ => fun _ _ => .stuck
noncomputable def tAnd : CEs → TD Bool
  | .nil => fun _ _ => .stuck
  | .cons a .nil => dT a
  | .cons a (.cons b r) => fun ρ S => (dT a ρ S).bind fun k S1 => if k = true then tAnd (.cons b r) ρ S1 else .ok false S1
noncomputable def tOr : CEs → TD Bool
  | .nil => fun _ _ => .stuck
  | .cons a .nil => dT a
  | .cons a (.cons b r) => fun ρ S => (dT a ρ S).bind fun k S1 => if k = true then .ok true S1 else tOr (.cons b r) ρ S1
end
/-! ### statements -/
def SOut.seq (o : SOut) (k : EnvD → Store → SOut) : SOut := match o with
  | .next ρ S => k ρ S
  | o => o
def Out.s {α : Type} (o : Out α) (ρ : EnvD) (k : α → Store → SOut) : SOut := match o with
  | .ok a S => k a S
  | .err e S => .err e ρ S
  | .stuck => .stuck
open Classical in
noncomputable def forD (w : Itm) (tg : Tg) (body : SD) : List Val → EnvD → Store → SOut
  | [], ρ, S => if w.ck S then .next ρ S else .stuck
  | v :: vs, ρ, S => if w.ck S then match tgt tg v ρ with
      | some ρ1 => match body ρ1 S with
        | .next ρ2 S2 => forD w tg body vs ρ2 S2
        | .cont ρ2 S2 => forD w tg body vs ρ2 S2
        | .brk ρ2 S2 => .next ρ2 S2
        | .ret u S2 => .ret u S2
        | .err e ρ2 S2 => .err e ρ2 S2
        | .stuck => .stuck
      | none => .stuck
    else .stuck
def whlD (c : TD Bool) (body : SD) : Nat → EnvD → Store → SOut
  | 0, _, _ => .stuck
  | n + 1, ρ, S => (c ρ S).s ρ fun k S1 => if k = true then match body ρ S1 with
      | .next ρ2 S2 => whlD c body n ρ2 S2
      | .cont ρ2 S2 => whlD c body n ρ2 S2
      | .brk ρ2 S2 => .next ρ2 S2
      | o => o
    else .next ρ S1
/-- the targets of an unpacking, from the left -/
noncomputable def unpD : List CT → List PyData → SD
  | [], _, ρ, S => .next ρ S
  | .nm i :: ts, x :: xs, ρ, S => unpD ts xs (ρ.set i (some (.d x))) S
  | .sub a i :: ts, x :: xs, ρ, S => ((dE Gl C a ρ S).bind fun v S1 => (dE Gl C i ρ S1).bind fun u S2 => setV v u (.d x) S2).s ρ fun _ S3 => unpD ts xs ρ S3
  | _, _, _, _ => .stuck
/-- a, b = x, y: stored from the right (no name twice) -/
def parD : List Nat → List Val → EnvD → EnvD
  | i :: is, v :: vs, ρ => parD is vs (ρ.set i (some v))
  | _, _, ρ => ρ
mutual
noncomputable def dS : CS → SD
  | .ret a => fun ρ S => (dE Gl C a ρ S).s ρ fun v S1 => .ret v S1
  | .retN => fun _ S => .ret (.d .none) S
  | .ife c a b => fun ρ S => (dT Gl C c ρ S).s ρ fun k S1 => if k = true then dSs a ρ S1 else dSs b ρ S1
  | .asg t e => fun ρ S => (dE Gl C e ρ S).s ρ fun v S1 => match tgt t v ρ with
    | some ρ1 => .next ρ1 S1
    | none => .stuck
  | .par is es => fun ρ S => (dEs Gl C es ρ S).s ρ fun vs S1 => if vs.length = is.length then .next (parD is vs ρ) S1 else .stuck
  | .seti a i e => fun ρ S => ((dE Gl C e ρ S).bind fun w S1 => (dE Gl C a ρ S1).bind fun v S2 => (dE Gl C i ρ S2).bind fun u S3 => setV v u w S3).s ρ fun _ S4 => .next ρ S4
  | .unp ts e => fun ρ S => (dE Gl C e ρ S).s ρ fun v S1 => match v with
    | .d (.tuple xs) => if xs.length = ts.length then unpD Gl C ts xs ρ S1 else .stuck
    | _ => .stuck
  | .for_ tg it b => fun ρ S => (dI Gl C it ρ S).s ρ fun w S1 => forD w tg (dSs b) w.vs ρ S1
  | .whl n c b => fun ρ S => whlD (dT Gl C c) (dSs b) n ρ S
  | .expr e => fun ρ S => (dE Gl C e ρ S).s ρ fun _ S1 => .next ρ S1
  | .pass => fun ρ S => .next ρ S
  | .brk => fun ρ S => .brk ρ S
  | .cnt => fun ρ S => .cont ρ S
  | .raise c e => fun ρ S => (dE Gl C e ρ S).s ρ fun v S1 => match v with
    | .d x => .err ⟨c, x⟩ ρ S1
    | _ => .stuck
  | .never => fun _ _ => .stuck
noncomputable def dSs : CSs → SD
  | .nil => fun ρ S => .next ρ S
  | .cons a r => fun ρ S => (dS a ρ S).seq fun ρ1 S1 => dSs r ρ1 S1
end
end
/-! ### defs -/
/-- the store behind a call: what the callee made is dropped, but the list it hands back (mu: to be written further) -/
def back (mu : Bool) (n : Nat) (v : Val) (S : Store) : Out Val := match v with
  | .loc m => if m < n then .ok v (S.take n) else match S[m]? with
    | some (.lst xs) => if mu = true then .ok (.loc n) (S.take n ++ [.lst xs]) else .ok (.d (.list xs)) (S.take n)
    | none => .stuck
  | v => .ok v (S.take n)
def ofS (mu : Bool) (n : Nat) : SOut → Out Val
  | .next _ S => .ok (.d .none) (S.take n)
  | .ret v S => back mu n v S
  | .err e _ S => .err e (S.take n)
  | _ => .stuck
structure Df where
  np : Nat
  nn : Nat
  body : CSs
  mu : Bool := false
def entry (np nn : Nat) (vs : List Val) : EnvD := vs.map some ++ List.replicate (nn - vs.length) none
/-- what the defs do, n calls deep -/
noncomputable def sem (Gl : List PyData) (T : List Df) : Nat → Calls
  | 0 => fun _ _ _ => .stuck
  | n + 1 => fun k vs S => match T[k]? with
    | some d => if vs.length = d.np then ofS d.mu S.length (dSs Gl (sem Gl T n) d.body (entry d.np d.nn vs) S) else .stuck
    | none => .stuck
end Ev
end

section
set_option Elab.async false
set_option linter.all false
set_option maxRecDepth 100000
set_option maxHeartbeats 4000000
/-! E3: the operations on values, by the hand layer's rules -/
namespace Ev
open PySem PySem.Spec PyProof.Rows L2

theorem OpR.or {X : Cx} {f : Value → Value → Sem Value} {r r' : R2} (h : OpR X f r) (h' : OpR X f r') : OpR X f (fun x y H Q => r x y H Q ∨ r' x y H Q) := by
  intro pins s σ H x y v u Q I rx ry q
  rcases q with q | q
  · exact h pins s σ H x y v u Q I rx ry q
  · exact h' pins s σ H x y v u Q I rx ry q
/-! ### data as the layer's data -/
mutual
theorem Da.dp {K : PySem.W.Frag} {F H : Hp} (e : ∀ b o, F b = some o → H b = some o) : ∀ {d : PyData} {v : V}, d.canLay0 = true → Da K F v d → Dp K H v d
  | _, _, _, .non => .non
  | _, _, _, .bl b => .bl b
  | _, _, _, .int b => .int b
  | _, _, _, .str b => .str b
  | _, _, c, .lst h t => .lst (.inl (Rd.sub e h)) (DaAll.dp e (by simpa [PyData.canLay0] using c) t)
  | _, _, c, .tup h t => .tup (SqT.sub e h) (DaAll.dp e (by simpa [PyData.canLay0] using c) t)
  | _, _, c, .dct _ => by simp [PyData.canLay0] at c
theorem DaAll.dp {K : PySem.W.Frag} {F H : Hp} (e : ∀ b o, F b = some o → H b = some o) : ∀ {ds : List PyData} {vs : List V}, PyData.canLayAll0 ds = true → DaAll K F vs ds → DpAll K H vs ds
  | _, _, _, .nil => .nil
  | _, _, c, .cons h t => by
    have c' : _ = true ∧ _ = true := Bool.and_eq_true_iff.mp (by simpa [PyData.canLayAll0] using c)
    exact .cons (Da.dp e c'.1 h) (DaAll.dp e c'.2 t)
end
section
variable {g : Gc} {F : Hp} {f : List Addr} {R : Rs} {S : Store} {H : Hp}
theorem dat_dp (s : Sm g F f R S H) {v : Val} {x : V} {d : PyData} (r : VR g F f x v) (e : datOf S v = some d) (c : SeqAt.shaped d = true) : Dp g.K H x d := by
  have c' := SeqAt.canLay_of_shaped c
  cases v with
  | d y => cases e; exact Da.dp s.le c' r
  | fn k => cases e
  | loc n =>
    obtain ⟨a, h1, rfl⟩ := r
    unfold datOf at e
    split at e
    · rename_i xs hx
      cases hx
    · rename_i n' hx
      cases hx
      split at e
      · rename_i xs hS
        cases e
        obtain ⟨a', ys, q1, q2, q3⟩ := s.getL hS
        rw [h1] at q1; cases q1
        exact .lst (.inl (.inl q2)) (DaAll.dp s.le (by simpa [PyData.canLay0] using c') q3)
      · cases e
    · cases e
/-- a sequence as it is read -/
theorem seq_of (s : Sm g F f R S H) {v : Val} {x : V} {ds : List PyData} (r : VR g F f x v) (e : seqOf S v = some ds) : ∃ a xs, x = .ref a ∧ (Rd H a (.lst xs) ∨ (SqT g.K H a xs ∧ v = .d (.tuple ds))) ∧ DaAll g.K F xs ds := by
  unfold seqOf at e
  split at e
  · cases e
    cases r with
    | lst h t => exact ⟨_, _, rfl, .inl (Rd.sub s.le h), t⟩
  · cases e
    cases r with
    | tup h t => exact ⟨_, _, rfl, .inr ⟨SqT.sub s.le h, rfl⟩, t⟩
  · split at e
    · rename_i xs hS
      cases e
      obtain ⟨a, h1, rfl⟩ := r
      obtain ⟨a', ys, q1, q2, q3⟩ := s.getL hS
      rw [h1] at q1; cases q1
      exact ⟨_, _, rfl, .inl (.inl q2), q3⟩
    · cases e
  · cases e
theorem lst_of (s : Sm g F f R S H) {v : Val} {x : V} {ds : List PyData} (r : VR g F f x v) (e : lstOf S v = some ds) : ∃ a xs, x = .ref a ∧ Rd H a (.lst xs) ∧ DaAll g.K F xs ds := by
  unfold lstOf at e
  split at e
  · cases e
    cases r with
    | lst h t => exact ⟨_, _, rfl, Rd.sub s.le h, t⟩
  · split at e
    · rename_i xs hS
      cases e
      obtain ⟨a, h1, rfl⟩ := r
      obtain ⟨a', ys, q1, q2, q3⟩ := s.getL hS
      rw [h1] at q1; cases q1
      exact ⟨_, _, rfl, .inl q2, q3⟩
    · cases e
  · cases e
theorem ints_da {K : PySem.W.Frag} {F : Hp} : ∀ {ds : List PyData} {xs : List V} {ns : List Int}, DaAll K F xs ds → intsOf ds = some ns → xs = ns.map V.int
  | _, _, _, .nil, e => by cases e; rfl
  | _, _, _, .cons (d := d) (ds := ds) h t, e => by
    unfold intsOf at e
    split at e
    · rename_i hn; cases hn
    · rename_i i r q
      cases q
      cases q2 : intsOf ds with
      | none => rw [q2] at e; cases e
      | some ms =>
        rw [q2] at e
        cases e
        cases h
        rw [ints_da t q2]; rfl
    · cases e
theorem bools_da {K : PySem.W.Frag} {F : Hp} : ∀ {ds : List PyData} {xs : List V} {ns : List Bool}, DaAll K F xs ds → boolsOf ds = some ns → xs = ns.map V.bl
  | _, _, _, .nil, e => by cases e; rfl
  | _, _, _, .cons (d := d) (ds := ds) h t, e => by
    unfold boolsOf at e
    split at e
    · rename_i hn; cases hn
    · rename_i i r q
      cases q
      cases q2 : boolsOf ds with
      | none => rw [q2] at e; cases e
      | some ms =>
        rw [q2] at e
        cases e
        cases h
        rw [bools_da t q2]; rfl
    · cases e
end

/-! ### two-place operations -/
abbrev WH := Value → Option Addr → Hp → Prop
def RealB (g : Gc) (r : R2) (φ : Val → Val → Store → Out Val) : Prop := ∀ (F : Hp) (f : List Addr) (R : Rs) (S : Store) (H : Hp) (x y : V) (v u : Val) (W : WH) (Q : VK), Sm g F f R S H → VR g F f x v → VR g F f y u →
  Sat g F f R W (φ v u S) (fun w F' f' S' H' => ∀ z, VR g F' f' z w → Q z H') → r x y H Q
/-- a value that stays as it is -/
theorem sat_d {g : Gc} {F : Hp} {f : List Addr} {R : Rs} {S : Store} {H : Hp} {W : WH} {Q : VK} {v : Val} (h : Sat g F f R W (.ok v S) (fun w F' f' S' H' => ∀ z, VR g F' f' z w → Q z H')) (s : Sm g F f R S H) {z : V} (r : VR g F f z v) : Q z H := h.ok s z r
/-- a new tuple, a new list -/
theorem sat_tup {g : Gc} {F : Hp} {f : List Addr} {R : Rs} {S : Store} {H : Hp} {W : WH} {Q : VK} {ds : List PyData} {xs : List V} (h : Sat g F f R W (.ok (.d (.tuple ds)) S) (fun w F' f' S' H' => ∀ z, VR g F' f' z w → Q z H')) (s : Sm g F f R S H) (t : DaAll g.K F xs ds)
    {p : Addr} (hp : H p = none) : Q (.ref p) (upd H p (.tup xs)) := by
  obtain ⟨s1, e1⟩ := s.new (o := .tup xs) hp
  exact h _ _ _ e1 s1 (.ref p) (.tup (.inl (.inl upd_same)) (DaAll.sub e1.le t))
theorem sat_lst {g : Gc} {F : Hp} {f : List Addr} {R : Rs} {S : Store} {H : Hp} {W : WH} {Q : VK} {ds : List PyData} {xs : List V} (h : Sat g F f R W (.ok (.d (.list ds)) S) (fun w F' f' S' H' => ∀ z, VR g F' f' z w → Q z H')) (s : Sm g F f R S H) (t : DaAll g.K F xs ds)
    {p : Addr} (hp : H p = none) : Q (.ref p) (upd H p (.lst xs)) := by
  obtain ⟨s1, e1⟩ := s.new (o := .lst xs) hp
  exact h _ _ _ e1 s1 (.ref p) (.lst (.inl upd_same) (DaAll.sub e1.le t))
/-- a new mutable list -/
theorem sat_lstM {g : Gc} {F : Hp} {f : List Addr} {R : Rs} {S : Store} {H : Hp} {W : WH} {Q : VK} {ds : List PyData} {xs : List V} (h : Sat g F f R W (.ok (.loc S.length) (S ++ [.lst ds])) (fun w F' f' S' H' => ∀ z, VR g F' f' z w → Q z H')) (s : Sm g F f R S H) (t : DaAll g.K F xs ds)
    {p : Addr} (hp : H p = none) : Q (.ref p) (upd H p (.lst xs)) := by
  obtain ⟨s1, e1, e2⟩ := s.newM (o := .lst xs) (ob := .lst ds) hp ⟨xs, rfl, t⟩
  exact h _ _ _ e1 s1 (.ref p) ⟨p, e2, rfl⟩
theorem okIf_pos {g : Gc} {F : Hp} {f : List Addr} {R : Rs} {W : WH} {c : Prop} [Decidable c] {x : PyData} {S : Store} {k : Kn Val} (h : Sat g F f R W (okIf c x S) k) : c ∧ Sat g F f R W (.ok (.d x) S) k := by
  unfold okIf at h
  by_cases hc : c
  · rw [if_pos hc] at h; exact ⟨hc, h⟩
  · rw [if_neg hc] at h; exact h.elim
/-- a list + a list, readable ones -/
def rCatR : R2 := fun x y H Q => ∃ l b xs zs, x = .ref l ∧ y = .ref b ∧ Rd H l (.lst xs) ∧ Rd H b (.lst zs) ∧ xs.length + zs.length ≤ sizeLine ∧ ∀ p, H p = none → Q (.ref p) (upd H p (.lst (xs ++ zs)))
theorem op_catR {X : Cx} : OpR X (binaryOp .Add) rCatR := by
  intro pins s σ H x y v u Q I rx ry h
  obtain ⟨l, b, xs, zs, rfl, rfl, hH, hB, hz, q⟩ := h
  cases rx
  cases ry
  obtain ⟨_, its, n, r, e⟩ := hH.ok I.hok
  obtain ⟨_, its2, n2, r2, e2⟩ := hB.ok I.hok
  have hl := r.length
  have hl2 := r2.length
  refine PySem.P.add_list e e2 ?_ (by rw [List.size_toArray, List.size_toArray]; omega)
  have ea : its.toArray ++ its2.toArray = (its ++ its2).toArray := by simp
  rw [ea]
  refine ⟨.ref s.heap.objs.size, _, I.laid (t' := s.toks) (o := .lst (xs ++ zs)) (fun b ob q => Heap.get?_push_of_some _ q) (Nat.le_refl _) ?_, rfl, q _ (I.hok.fresh (Nat.le_refl _))⟩
  exact ⟨by rw [List.length_append]; omega, _, 0, r.append r2, Heap.get?_push_size _ rfl⟩
def rAddV (K : PySem.W.Frag) : R2 := fun x y H Q => (rI0 (fun i j => .int (i + j)) x y H Q ∨ (∃ i j, x = .str i ∧ y = .str j ∧ i.length + j.length ≤ sizeLine ∧ Q (.str (i ++ j)) H)) ∨ (rCatA K x y H Q ∨ rCatR x y H Q)
theorem op_addV {X : Cx} : OpR X (binaryOp .Add) (rAddV X.K) := OpR.or (OpR.or op_add op_add_str) (OpR.or op_catA op_catR)
theorem real_add {g : Gc} : RealB g (rAddV g.K) (binV .Add) := by
  intro F f R S H x y v u W Q s rx ry h
  unfold binV at h
  split at h <;> first | (rename_i z; cases z; done) | skip
  · cases rx; cases ry; exact .inl (.inl ⟨_, _, rfl, rfl, sat_d h s (.int _)⟩)
  · obtain ⟨c, h⟩ := okIf_pos h
    cases rx; cases ry; exact .inl (.inr ⟨_, _, rfl, rfl, c, sat_d h s (.str _)⟩)
  · obtain ⟨c, h⟩ := okIf_pos h
    cases rx with
    | tup h1 t1 =>
      cases ry with
      | tup h2 t2 =>
        refine .inr (.inl ⟨_, _, _, _, rfl, rfl, SqT.sub s.le h1, SqT.sub s.le h2, by rw [t1.len, t2.len]; exact c, fun e => ?_, fun n e => ?_, fun n1 n2 p hp => sat_tup h s (t1.append t2) hp⟩)
        · subst e; cases t1
          exact sat_d h s (.tup h2 t2)
        · subst e; cases t2
          refine sat_d h s ?_
          rw [List.append_nil]; exact .tup h1 t1
  · obtain ⟨c, h⟩ := okIf_pos h
    cases rx with
    | lst h1 t1 =>
      cases ry with
      | lst h2 t2 => exact .inr (.inr ⟨_, _, _, _, rfl, rfl, Rd.sub s.le h1, Rd.sub s.le h2, by rw [t1.len, t2.len]; exact c, fun p hp => sat_lst h s (t1.append t2) hp⟩)
  all_goals exact h.elim
theorem real_sub {g : Gc} : RealB g (rI0 (fun i j => .int (i - j))) (binV .Sub) := by
  intro F f R S H x y v u W Q s rx ry h
  unfold binV at h
  split at h <;> first | (rename_i z; cases z; done) | skip
  · cases rx; cases ry; exact ⟨_, _, rfl, rfl, sat_d h s (.int _)⟩
  all_goals exact h.elim

/-- t * 1 is t -/
theorem tuple_mul1 (l : Addr) (items : Array Value) (n : Nat) (dd : Option Addr) (sl : Array (Option Value)) (u : Tok) :
    Meets (Builtin.«tuple.__mul__» ⟨[.ref l, .int 1 u], []⟩) (fun _ R s => s.heap.get? l = some { cls := .type "tuple", dict := dd, data := .seq items n, slots := sl } ∧
      R (.ok (.ret (Value.ref l))) s) :=
  .of_wp fun prog w A R s h => by
    obtain ⟨hp, g, d, t, os⟩ := s
    obtain ⟨hl, h⟩ := h
    have f1 := AutoSeq1.idx_int
    have c0 : (decide ((1 : Int) < -(2 ^ 63)) || decide ((1 : Int) ≥ 2 ^ 63)) = false := by decide
    have c1 : (items.isEmpty || (1 : Int) == 1) = true := by simp
    wp_walk using wpAny_loadPart' hl
    repeat (first
      | (refine wpAny_ite_false (decide_eq_false (by rw [c0]; exact Bool.false_ne_true)) ?_; wp_walk using wpAny_loadPart' hl)
      | (refine wpAny_ite_true (decide_eq_true c1) ?_; wp_walk using wpAny_loadPart' hl))
    exact ⟨_, rfl, h⟩
def rRep1 (K : PySem.W.Frag) : R2 := fun x y H Q => ∃ l xs, x = .ref l ∧ y = .int 1 ∧ SqT K H l xs ∧ Q (.ref l) H
theorem op_rep1 {X : Cx} : OpR X (binaryOp .Mult) (rRep1 X.K) := by
  intro pins s σ H x y v u Q I rx ry h
  obtain ⟨l, xs, rfl, rfl, hT, q⟩ := h
  cases rx
  obtain ⟨t, rfl⟩ := ry
  obtain ⟨its, r, ⟨⟨cls, dd, data, sl⟩, ho, hc, n, hd⟩, hs⟩ := I.tuple hT
  simp only at hc hd
  subst hc hd
  exact wpAny_binaryOp_repeat_ref (T := "tuple") (U := "int") (by decide) ⟨_, ho, rfl⟩ (fun s' => typeIs_int s' 1 t) noFill_tuple_mul F.fills_int_mul F.slot_int_rmul repeat_tuple F.slot_int_index.lookup
    (call_meets F.slot_int_rmul (typeIs_int s 1 t) F.entry_int_rmul (F.args_int_rmul_2 _ _) (int_rmul_tuple 1 t l its.toArray n dd sl)
      ⟨ho, rfl, ⟨_, ho, rfl⟩, call_meets F.slot_tuple_mul ⟨_, ho, rfl⟩ F.entry_tuple_mul (F.args_tuple_mul_2 _ _) (tuple_mul1 l its.toArray n dd sl t) ⟨ho, ⟨.ref l, H, I, rfl, q⟩⟩⟩)
theorem DaAll.rep {K : PySem.W.Frag} {F : Hp} {v : List V} {d : List PyData} (h : DaAll K F v d) : ∀ n : Nat, DaAll K F (List.replicate n v).flatten (List.replicate n d).flatten
  | 0 => .nil
  | n + 1 => by
    rw [List.replicate_succ, List.replicate_succ, List.flatten_cons, List.flatten_cons]
    exact h.append (DaAll.rep h n)
def rMulV (K : PySem.W.Frag) : R2 := fun x y H Q => rI CMul (fun i j => .int (i * j)) x y H Q ∨ (rRepT K x y H Q ∨ rRep1 K x y H Q)
theorem op_mulV {X : Cx} : OpR X (binaryOp .Mult) (rMulV X.K) := OpR.or op_mul (OpR.or op_repT op_rep1)
theorem real_mul {g : Gc} : RealB g (rMulV g.K) (binV .Mult) := by
  intro F f R S H x y v u W Q s rx ry h
  unfold binV at h
  split at h <;> first | (rename_i z; cases z; done) | skip
  · obtain ⟨c, h⟩ := okIf_pos h
    cases rx; cases ry; exact .inl ⟨_, _, rfl, rfl, c, sat_d h s (.int _)⟩
  · obtain ⟨c, h⟩ := okIf_pos h
    cases ry
    cases rx with
    | tup h1 t1 =>
      rcases c with rfl | ⟨c1, c2, c3, c4⟩
      · refine .inr (.inr ⟨_, _, rfl, rfl, SqT.sub s.le h1, sat_d h s ?_⟩)
        have e : (List.replicate (1 : Int).toNat ‹List PyData›).flatten = ‹List PyData› := by simp
        rw [e]; exact .tup h1 t1
      · refine .inr (.inl ⟨_, _, _, rfl, rfl, SqT.sub s.le h1, fun e => ?_, c2, c3, by rw [t1.len]; exact c4, fun p hp => sat_tup h s (t1.rep _) hp⟩)
        subst e; cases t1; cases c1
  all_goals exact h.elim
theorem real_mod {g : Gc} : RealB g (rI (fun _ j => j ≠ 0) fun i j => .int (i.fmod j)) (binV .Mod) := by
  intro F f R S H x y v u W Q s rx ry h
  unfold binV at h
  split at h <;> first | (rename_i z; cases z; done) | skip
  · obtain ⟨c, h⟩ := okIf_pos h
    cases rx; cases ry; exact ⟨_, _, rfl, rfl, c, sat_d h s (.int _)⟩
  all_goals exact h.elim
theorem real_fdiv {g : Gc} : RealB g (rI CDivN fun i j => .int (i.fdiv j)) (binV .FloorDiv) := by
  intro F f R S H x y v u W Q s rx ry h
  unfold binV at h
  split at h <;> first | (rename_i z; cases z; done) | skip
  · obtain ⟨c, h⟩ := okIf_pos h
    cases rx; cases ry; exact ⟨_, _, rfl, rfl, c, sat_d h s (.int _)⟩
  all_goals exact h.elim
theorem real_pow {g : Gc} : RealB g (rI CPow fun i j => .int (i ^ j.toNat)) (binV .Pow) := by
  intro F f R S H x y v u W Q s rx ry h
  unfold binV at h
  split at h <;> first | (rename_i z; cases z; done) | skip
  · obtain ⟨c, h⟩ := okIf_pos h
    cases rx; cases ry; exact ⟨_, _, rfl, rfl, c, sat_d h s (.int _)⟩
  all_goals exact h.elim
def opOk : Operator → Bool
  | .Add | .Sub | .Mult | .Mod | .FloorDiv | .Pow => true
  | _ => false
theorem bin_real {X : Cx} {g : Gc} (hK : g.K = X.K) (op : Operator) (h : opOk op = true) : ∃ r, OpR X (binaryOp op) r ∧ RealB g r (binV op) := by
  cases op <;> first | (cases h; done) | skip
  · exact ⟨_, op_addV, hK ▸ real_add⟩
  · exact ⟨_, op_sub, real_sub⟩
  · exact ⟨_, op_mulV, hK ▸ real_mul⟩
  · exact ⟨_, op_modN, real_mod⟩
  · exact ⟨_, op_pow, real_pow⟩
  · exact ⟨_, op_fdivN, real_fdiv⟩
/-! ### comparisons -/
def rLtV (K : PySem.W.Frag) : R2 := fun x y H Q => rI0 (fun i j => .bl (decide (i < j))) x y H Q ∨ ((∃ i j, x = .str i ∧ y = .str j ∧ Q (.bl (decide (i.cps.toList < j.cps.toList))) H) ∨ rLtT K x y H Q)
theorem op_ltV {X : Cx} (hu : X.A.units < cLine) : OpR X (compareOp .Lt) (rLtV X.K) := OpR.or op_lt (OpR.or op_lt_str (op_ltT hu))
def rLeV : R2 := fun x y H Q => rI0 (fun i j => .bl (decide (i ≤ j))) x y H Q ∨ (∃ i j, x = .str i ∧ y = .str j ∧ Q (.bl (!decide (j.cps.toList < i.cps.toList))) H)
theorem op_leV {X : Cx} : OpR X (compareOp .LtE) rLeV := OpR.or op_le op_le_str
def rEqV (K : PySem.W.Frag) : R2 := fun x y H Q => rEq x y H Q ∨ rEqD K x y H Q
def rNeV (K : PySem.W.Frag) : R2 := fun x y H Q => rNe x y H Q ∨ rNeD K x y H Q
theorem real_eq {g : Gc} : RealB g (rEqV g.K) (cmpV .Eq) := by
  intro F f R S H x y v u W Q s rx ry h
  dsimp only [cmpV] at h
  split at h
  · cases rx
    cases ry
    exact .inl ⟨rfl, sat_d h s (by rw [dec_str]; exact .bl _)⟩
  · split at h
    · rename_i a b e1 e2
      obtain ⟨⟨c1, c2⟩, h⟩ := okIf_pos h
      exact .inr ⟨_, _, dat_dp s rx e1 c1, dat_dp s ry e2 c2, c1, c2, sat_d h s (.bl _)⟩
    · exact h.elim
theorem real_ne {g : Gc} : RealB g (rNeV g.K) (cmpV .NotEq) := by
  intro F f R S H x y v u W Q s rx ry h
  dsimp only [cmpV] at h
  split at h
  · cases rx
    cases ry
    exact .inl ⟨rfl, sat_d h s (by rw [dec_str]; exact .bl _)⟩
  · split at h
    · rename_i a b e1 e2
      obtain ⟨⟨c1, c2⟩, h⟩ := okIf_pos h
      exact .inr ⟨_, _, dat_dp s rx e1 c1, dat_dp s ry e2 c2, c1, c2, sat_d h s (.bl _)⟩
    · exact h.elim
theorem real_lt {g : Gc} : RealB g (rLtV g.K) (cmpV .Lt) := by
  intro F f R S H x y v u W Q s rx ry h
  dsimp only [cmpV] at h
  split at h
  · cases rx; cases ry; exact .inl ⟨_, _, rfl, rfl, sat_d h s (.bl _)⟩
  · cases rx; cases ry; exact .inr (.inl ⟨_, _, rfl, rfl, sat_d h s (.bl _)⟩)
  · split at h
    · rename_i e1 e2
      cases rx with
      | tup h1 t1 =>
        cases ry with
        | tup h2 t2 =>
          have q1 := ints_da t1 e1
          have q2 := ints_da t2 e2
          subst q1 q2
          exact .inr (.inr ⟨_, _, _, _, rfl, rfl, SqT.sub s.le h1, SqT.sub s.le h2, sat_d h s (.bl _)⟩)
    · exact h.elim
  · exact h.elim
theorem real_le {g : Gc} : RealB g rLeV (cmpV .LtE) := by
  intro F f R S H x y v u W Q s rx ry h
  dsimp only [cmpV] at h
  split at h
  · cases rx; cases ry; exact .inl ⟨_, _, rfl, rfl, sat_d h s (.bl _)⟩
  · cases rx; cases ry; exact .inr ⟨_, _, rfl, rfl, sat_d h s (.bl _)⟩
  · exact h.elim
theorem real_gt {g : Gc} : RealB g (rI0 (fun i j => .bl (decide (j < i)))) (cmpV .Gt) := by
  intro F f R S H x y v u W Q s rx ry h
  dsimp only [cmpV] at h
  split at h
  · cases rx; cases ry; exact ⟨_, _, rfl, rfl, sat_d h s (.bl _)⟩
  · exact h.elim
theorem real_ge {g : Gc} : RealB g (rI0 (fun i j => .bl (decide (j ≤ i)))) (cmpV .GtE) := by
  intro F f R S H x y v u W Q s rx ry h
  dsimp only [cmpV] at h
  split at h
  · cases rx; cases ry; exact ⟨_, _, rfl, rfl, sat_d h s (.bl _)⟩
  · exact h.elim
theorem vr_non {g : Gc} {F : Hp} {f : List Addr} {x : V} {v : Val} (r : VR g F f x v) (h : v ≠ .d .none) : decide (x = V.non) = false := by
  refine decide_eq_false fun e => ?_
  subst e
  cases v with
  | d y => cases r; exact h rfl
  | loc n => obtain ⟨a, _, e⟩ := r; cases e
  | fn k => cases r
theorem real_is {g : Gc} : RealB g (fun x y H Q => y = .non ∧ Q (.bl (decide (x = .non))) H) (cmpV .Is) := by
  intro F f R S H x y v u W Q s rx ry h
  dsimp only [cmpV] at h
  split at h
  · cases rx; cases ry; exact ⟨rfl, sat_d h s (.bl _)⟩
  · rename_i hn
    cases ry
    refine ⟨rfl, ?_⟩
    rw [vr_non rx hn]
    exact sat_d h s (.bl _)
  · exact h.elim
theorem real_isnot {g : Gc} : RealB g (fun x y H Q => y = .non ∧ Q (.bl (!decide (x = .non))) H) (cmpV .IsNot) := by
  intro F f R S H x y v u W Q s rx ry h
  dsimp only [cmpV] at h
  split at h
  · cases rx; cases ry; exact ⟨rfl, sat_d h s (.bl _)⟩
  · rename_i hn
    cases ry
    refine ⟨rfl, ?_⟩
    rw [vr_non rx hn]
    exact sat_d h s (.bl _)
  · exact h.elim
theorem str_one {x : Str} (h : x.length = 1) : x = ⟨#[x.cps.getD 0 0]⟩ := by
  obtain ⟨a⟩ := x
  have h' : a.size = 1 := h
  obtain ⟨l⟩ := a
  cases l with
  | nil => cases h'
  | cons c r =>
    cases r with
    | nil => rfl
    | cons _ _ => simp at h'
/-- x in a readable sequence of data -/
def rInA (K : PySem.W.Frag) (neg : Bool) : R2 := fun x y H Q => ∃ d ds, Dp K H x d ∧ (Dp K H y (.list ds) ∨ Dp K H y (.tuple ds)) ∧ SeqAt.shaped d = true ∧ SeqAt.shaped (.list ds) = true ∧ Q (.bl (if neg = true then !ds.any fun z => PyData.eqv z d else ds.any fun z => PyData.eqv z d)) H
section
variable {X : Cx}
theorem op_inA (hu : X.A.units + 65 < cLine) : OpR X (compareOp .In) (rInA X.K false) := by
  intro pins s σ H x y v u Q I rx ry h
  obtain ⟨d, ds, hd, he, sd, se, q⟩ := h
  obtain ⟨as, r1⟩ := Dp.reads I d x v hd rx
  rcases he with he | he
  · obtain ⟨bs, r2⟩ := Dp.reads I (.list ds) y u he ry
    exact SeqAt.in_list_reads r2 r1 (SeqAt.canLay_of_shaped se) (SeqAt.canLay_of_shaped sd) (room_in_shaped sd hu) ⟨.bl _, H, I, rfl, q⟩
  · obtain ⟨bs, r2⟩ := Dp.reads I (.tuple ds) y u he ry
    exact SeqAt.in_tuple_reads r2 r1 (SeqAt.canLay_of_shaped se) (SeqAt.canLay_of_shaped sd) (room_in_shaped sd hu) ⟨.bl _, H, I, rfl, q⟩
theorem op_notInA (hu : X.A.units + 65 < cLine) : OpR X (compareOp .NotIn) (rInA X.K true) := by
  intro pins s σ H x y v u Q I rx ry h
  obtain ⟨d, ds, hd, he, sd, se, q⟩ := h
  obtain ⟨as, r1⟩ := Dp.reads I d x v hd rx
  rcases he with he | he
  · obtain ⟨bs, r2⟩ := Dp.reads I (.list ds) y u he ry
    exact SeqAt.notIn_list_reads r2 r1 (SeqAt.canLay_of_shaped se) (SeqAt.canLay_of_shaped sd) (room_in_shaped sd hu) ⟨.bl _, H, I, rfl, q⟩
  · obtain ⟨bs, r2⟩ := Dp.reads I (.tuple ds) y u he ry
    exact SeqAt.notIn_tuple_reads r2 r1 (SeqAt.canLay_of_shaped se) (SeqAt.canLay_of_shaped sd) (room_in_shaped sd hu) ⟨.bl _, H, I, rfl, q⟩
end
theorem seq_dp {g : Gc} {F : Hp} {f : List Addr} {R : Rs} {S : Store} {H : Hp} (s : Sm g F f R S H) {v : Val} {x : V} {ds : List PyData} (r : VR g F f x v) (e : seqOf S v = some ds) (c : SeqAt.shaped (.list ds) = true) : Dp g.K H x (.list ds) ∨ Dp g.K H x (.tuple ds) := by
  have c' : PyData.canLayAll0 ds = true := by simpa [PyData.canLay0] using SeqAt.canLay_of_shaped c
  obtain ⟨a, xs, rfl, h | ⟨h, _⟩, t⟩ := seq_of s r e
  · exact .inl (.lst (.inl h) (DaAll.dp s.le c' t))
  · exact .inr (.tup h (DaAll.dp s.le c' t))
def rInV (K : PySem.W.Frag) (neg : Bool) : R2 := fun x y H Q => (∃ (c : Nat) (z : Str), x = .str ⟨#[c]⟩ ∧ y = .str z ∧ Q (.bl (if neg = true then !decide (c ∈ z.cps.toList) else decide (c ∈ z.cps.toList))) H) ∨ rInA K neg x y H Q
theorem op_inV {X : Cx} (hu : X.A.units + 65 < cLine) : OpR X (compareOp .In) (rInV X.K false) := OpR.or op_in_sign (op_inA hu)
theorem op_notInV {X : Cx} (hu : X.A.units + 65 < cLine) : OpR X (compareOp .NotIn) (rInV X.K true) := OpR.or op_notIn_sign (op_notInA hu)
theorem real_in {g : Gc} : RealB g (rInV g.K false) (cmpV .In) := by
  intro F f R S H x y v u W Q s rx ry h
  dsimp only [cmpV] at h
  split at h
  · split at h
    · obtain ⟨c, h⟩ := okIf_pos h
      cases rx; cases ry
      exact .inl ⟨_, _, congrArg V.str (str_one c), rfl, sat_d h s (.bl _)⟩
    · exact h.elim
  · split at h
    · rename_i e1 e2
      obtain ⟨⟨c1, c2⟩, h⟩ := okIf_pos h
      exact .inr ⟨_, _, dat_dp s rx e1 c1, seq_dp s ry e2 c2, c1, c2, sat_d h s (.bl _)⟩
    · exact h.elim
theorem real_notin {g : Gc} : RealB g (rInV g.K true) (cmpV .NotIn) := by
  intro F f R S H x y v u W Q s rx ry h
  dsimp only [cmpV] at h
  split at h
  · split at h
    · obtain ⟨c, h⟩ := okIf_pos h
      cases rx; cases ry
      exact .inl ⟨_, _, congrArg V.str (str_one c), rfl, sat_d h s (.bl _)⟩
    · exact h.elim
  · split at h
    · rename_i e1 e2
      obtain ⟨⟨c1, c2⟩, h⟩ := okIf_pos h
      exact .inr ⟨_, _, dat_dp s rx e1 c1, seq_dp s ry e2 c2, c1, c2, sat_d h s (.bl _)⟩
    · exact h.elim
theorem cmp_real {X : Cx} {g : Gc} (hK : g.K = X.K) (hu : X.A.units + 65 < cLine) (op : CmpOp) : ∃ r, OpR X (compareOp op) r ∧ RealB g r (cmpV op) := by
  cases op
  · exact ⟨_, OpR.or op_eq (op_eqD (by omega)), hK ▸ real_eq⟩
  · exact ⟨_, OpR.or op_ne (op_neD (by omega)), hK ▸ real_ne⟩
  · exact ⟨_, op_ltV (by omega), hK ▸ real_lt⟩
  · exact ⟨_, op_leV, real_le⟩
  · exact ⟨_, op_gt, real_gt⟩
  · exact ⟨_, op_ge, real_ge⟩
  · exact ⟨_, op_isN, real_is⟩
  · exact ⟨_, op_notN, real_isnot⟩
  · exact ⟨_, op_inV hu, hK ▸ real_in⟩
  · exact ⟨_, op_notInV hu, hK ▸ real_notin⟩
/-! ### subscripts -/
theorem DaAll.atI {K : PySem.W.Frag} {F : Hp} {xs : List V} {ds : List PyData} {i : Int} {d : PyData} (t : DaAll K F xs ds) (e : L2.atI ds i = some d) : ∃ x, L2.atI xs i = some x ∧ Da K F x d := by
  unfold L2.atI at e ⊢
  rw [t.len]
  cases q : ixN ds.length i with
  | none => rw [q] at e; cases e
  | some j =>
    rw [q] at e
    exact t.get e
theorem real_idx {g : Gc} : RealB g (rIx g.K) idxV := by
  intro F f R S H x y v u W Q s rx ry h
  unfold idxV at h
  split at h
  · cases ry
    split at h
    · split at h
      · rename_i c
        split at h
        · rename_i e
          cases rx
          exact .inr (.inr ⟨_, _, _, rfl, rfl, c, e, sat_d h s (.str _)⟩)
        · exact h.elim
      · exact h.elim
    · split at h
      · rename_i e
        split at h
        · rename_i e2
          obtain ⟨a, ys, rfl, q, t⟩ := seq_of s rx e
          obtain ⟨z, q2, r2⟩ := t.atI e2
          rcases q with q | ⟨q, _⟩
          · exact .inl ⟨_, _, _, _, rfl, rfl, .inl q, q2, sat_d h s r2⟩
          · exact .inr (.inl ⟨_, _, _, _, rfl, rfl, q, q2, sat_d h s r2⟩)
        · exact h.elim
      · exact h.elim
  · exact h.elim
end Ev
end

section
set_option Elab.async false
set_option linter.all false
set_option maxRecDepth 100000
set_option maxHeartbeats 4000000
/-! E4: built-ins, methods, stores, slices on values -/
namespace Ev
open PySem PySem.Spec PyProof.Rows L2

def RealN (g : Gc) (r : List V → Hp → VK → Prop) (φ : List Val → Store → Out Val) : Prop := ∀ (F : Hp) (f : List Addr) (R : Rs) (S : Store) (H : Hp) (xs : List V) (vs : List Val) (W : WH) (Q : VK), Sm g F f R S H → VRs g F f xs vs →
  Sat g F f R W (φ vs S) (fun w F' f' S' H' => ∀ z, VR g F' f' z w → Q z H') → r xs H Q
theorem CallR.or {X : Cx} {f : Value} {r r' : List V → Hp → VK → Prop} (h : CallR X f r) (h' : CallR X f r') : CallR X f (fun x H Q => r x H Q ∨ r' x H Q) := by
  intro pins s σ H x u Q I rx q
  rcases q with q | q
  · exact h pins s σ H x u Q I rx q
  · exact h' pins s σ H x u Q I rx q
section
variable {g : Gc}
theorem vrs1 {F : Hp} {f : List Addr} {xs : List V} {v : Val} (r : VRs g F f xs [v]) : ∃ x, xs = [x] ∧ VR g F f x v := by
  cases r with
  | cons a t => cases t; exact ⟨_, rfl, a⟩
theorem vrs2 {F : Hp} {f : List Addr} {xs : List V} {v u : Val} (r : VRs g F f xs [v, u]) : ∃ x y, xs = [x, y] ∧ VR g F f x v ∧ VR g F f y u := by
  cases r with
  | cons a t =>
    obtain ⟨y, rfl, b⟩ := vrs1 t
    exact ⟨_, _, rfl, a, b⟩
theorem real_len : RealN g (fun xs H Q => ∃ x n, xs = [x] ∧ LenV g.K x H n ∧ Q (.int n) H) (biV .len) := by
  intro F f R S H xs vs W Q s rx h
  unfold biV at h
  split at h <;> first | (rename_i z; cases z; done) | skip
  · obtain ⟨c, h⟩ := okIf_pos h
    obtain ⟨x, rfl, r⟩ := vrs1 rx
    cases r
    exact ⟨_, _, rfl, ⟨c, rfl⟩, sat_d h s (.int _)⟩
  · obtain ⟨x, rfl, r⟩ := vrs1 rx
    split at h
    · rename_i e
      obtain ⟨a, ys, rfl, q, t⟩ := seq_of s r e
      refine ⟨_, ys.length, rfl, ?_, ?_⟩
      · rcases q with q | ⟨q, _⟩
        · exact .inl ⟨_, .inl q, rfl⟩
        · exact .inr ⟨_, q, rfl⟩
      · rw [t.len]; exact sat_d h s (.int _)
    · exact h.elim
  all_goals exact h.elim
theorem real_all : RealN g (rAll g.K) (biV .all) := by
  intro F f R S H xs vs W Q s rx h
  unfold biV at h
  split at h <;> first | (rename_i z; cases z; done) | skip
  · obtain ⟨x, rfl, r⟩ := vrs1 rx
    split at h
    · rename_i e
      obtain ⟨ds, e1, e2⟩ := Option.bind_eq_some_iff.mp e
      obtain ⟨a, ys, rfl, q, t⟩ := lst_of s r e1
      have q2 := bools_da t e2
      subst q2
      exact ⟨_, _, rfl, .inl q, sat_d h s (.bl _)⟩
    · exact h.elim
  all_goals exact h.elim
theorem real_any : RealN g (rAny g.K) (biV .any) := by
  intro F f R S H xs vs W Q s rx h
  unfold biV at h
  split at h <;> first | (rename_i z; cases z; done) | skip
  · obtain ⟨x, rfl, r⟩ := vrs1 rx
    split at h
    · rename_i e
      obtain ⟨ds, e1, e2⟩ := Option.bind_eq_some_iff.mp e
      obtain ⟨a, ys, rfl, q, t⟩ := lst_of s r e1
      have q2 := bools_da t e2
      subst q2
      exact ⟨_, _, rfl, .inl q, sat_d h s (.bl _)⟩
    · exact h.elim
  all_goals exact h.elim
theorem real_sum : RealN g (rSum g.K) (biV .sum) := by
  intro F f R S H xs vs W Q s rx h
  unfold biV at h
  split at h <;> first | (rename_i z; cases z; done) | skip
  · obtain ⟨x, rfl, r⟩ := vrs1 rx
    split at h
    · rename_i e
      obtain ⟨ds, e1, e2⟩ := Option.bind_eq_some_iff.mp e
      obtain ⟨a, ys, rfl, q, t⟩ := lst_of s r e1
      have q2 := ints_da t e2
      subst q2
      exact ⟨_, _, rfl, .inl q, sat_d h s (.int _)⟩
    · exact h.elim
  all_goals exact h.elim
theorem real_tuple : RealN g (fun xs H Q => ∃ p ys, xs = [.ref p] ∧ ((SqL g.K H p ys ∧ ∀ l, H l = none → Q (.ref l) (upd H l (.tup ys))) ∨ (SqT g.K H p ys ∧ Q (.ref p) H))) (biV .tuple) := by
  intro F f R S H xs vs W Q s rx h
  unfold biV at h
  split at h <;> first | (rename_i z; cases z; done) | skip
  · obtain ⟨x, rfl, r⟩ := vrs1 rx
    split at h
    · rename_i v ds e
      obtain ⟨a, ys, rfl, q, t⟩ := seq_of s r e
      rcases q with q | ⟨q, e2⟩
      · exact ⟨_, _, rfl, .inl ⟨.inl q, fun l hl => sat_tup h s t hl⟩⟩
      · subst e2
        exact ⟨_, _, rfl, .inr ⟨q, sat_d h s r⟩⟩
    · exact h.elim
  all_goals exact h.elim
theorem real_list : RealN g (fun xs H Q => ∃ p ys, xs = [.ref p] ∧ (SqL g.K H p ys ∨ SqT g.K H p ys) ∧ ∀ l, H l = none → Q (.ref l) (upd H l (.lst ys))) (biV .list) := by
  intro F f R S H xs vs W Q s rx h
  unfold biV at h
  split at h <;> first | (rename_i z; cases z; done) | skip
  · obtain ⟨x, rfl, r⟩ := vrs1 rx
    split at h
    · rename_i v ds e
      obtain ⟨a, ys, rfl, q, t⟩ := seq_of s r e
      exact ⟨_, _, rfl, q.imp .inl (·.1), fun l hl => sat_lst h s t hl⟩
    · exact h.elim
  all_goals exact h.elim
theorem real_listM : RealN g (fun xs H Q => ∃ p ys, xs = [.ref p] ∧ (SqL g.K H p ys ∨ SqT g.K H p ys) ∧ ∀ l, H l = none → Q (.ref l) (upd H l (.lst ys))) (biV .listM) := by
  intro F f R S H xs vs W Q s rx h
  unfold biV at h
  split at h <;> first | (rename_i z; cases z; done) | skip
  · obtain ⟨x, rfl, r⟩ := vrs1 rx
    split at h
    · rename_i v ds e
      obtain ⟨a, ys, rfl, q, t⟩ := seq_of s r e
      exact ⟨_, _, rfl, q.imp .inl (·.1), fun l hl => sat_lstM h s t hl⟩
    · exact h.elim
  all_goals exact h.elim
theorem real_abs : RealN g (fun xs H Q => ∃ i, xs = [.int i] ∧ Q (.int (if i < 0 then -i else i)) H) (biV .abs) := by
  intro F f R S H xs vs W Q s rx h
  unfold biV at h
  split at h <;> first | (rename_i z; cases z; done) | skip
  · obtain ⟨x, rfl, r⟩ := vrs1 rx
    cases r
    exact ⟨_, rfl, sat_d h s (.int _)⟩
  all_goals exact h.elim
theorem real_max2 : RealN g (fun xs H Q => ∃ i j, xs = [.int i, .int j] ∧ Q (.int (if j > i then j else i)) H) (biV .max2) := by
  intro F f R S H xs vs W Q s rx h
  unfold biV at h
  split at h <;> first | (rename_i z; cases z; done) | skip
  · obtain ⟨x, y, rfl, r, r2⟩ := vrs2 rx
    cases r; cases r2
    exact ⟨_, _, rfl, sat_d h s (.int _)⟩
  all_goals exact h.elim
theorem real_min2 : RealN g (fun xs H Q => ∃ i j, xs = [.int i, .int j] ∧ Q (.int (if j < i then j else i)) H) (biV .min2) := by
  intro F f R S H xs vs W Q s rx h
  unfold biV at h
  split at h <;> first | (rename_i z; cases z; done) | skip
  · obtain ⟨x, y, rfl, r, r2⟩ := vrs2 rx
    cases r; cases r2
    exact ⟨_, _, rfl, sat_d h s (.int _)⟩
  all_goals exact h.elim
theorem real_int : RealN g (fun xs H Q => (∃ i, xs = [.int i] ∧ Q (.int i) H) ∨ ∃ k, xs = [.bl k] ∧ Q (.int (if k then 1 else 0)) H) (biV .int) := by
  intro F f R S H xs vs W Q s rx h
  unfold biV at h
  split at h <;> first | (rename_i z; cases z; done) | skip
  · obtain ⟨x, rfl, r⟩ := vrs1 rx
    cases r
    exact .inl ⟨_, rfl, sat_d h s (.int _)⟩
  · obtain ⟨x, rfl, r⟩ := vrs1 rx
    cases r
    exact .inr ⟨_, rfl, sat_d h s (.int _)⟩
  all_goals exact h.elim
theorem real_strI : RealN g (fun xs H Q => ∃ i, xs = [.int i] ∧ i.natAbs.log2 < 1920 ∧ Q (.str (toString i)) H) (biV .strI) := by
  intro F f R S H xs vs W Q s rx h
  unfold biV at h
  split at h <;> first | (rename_i z; cases z; done) | skip
  · obtain ⟨c, h⟩ := okIf_pos h
    obtain ⟨x, rfl, r⟩ := vrs1 rx
    cases r
    exact ⟨_, rfl, c, sat_d h s (.str _)⟩
  all_goals exact h.elim
theorem real_divmod : RealN g (fun xs H Q => ∃ i j, xs = [.int i, .int j] ∧ CDiv i j ∧ ∀ p, H p = none → Q (.ref p) (upd H p (.tup [.int (i / j), .int (i % j)]))) (biV .divmod) := by
  intro F f R S H xs vs W Q s rx h
  unfold biV at h
  split at h <;> first | (rename_i z; cases z; done) | skip
  · obtain ⟨c, h⟩ := okIf_pos h
    obtain ⟨x, y, rfl, r, r2⟩ := vrs2 rx
    cases r; cases r2
    exact ⟨_, _, rfl, c, fun p hp => sat_tup h s (.cons (.int _) (.one (.int _))) hp⟩
  all_goals exact h.elim
theorem real_ord : RealN g (fun xs H Q => ∃ x, xs = [.str x] ∧ x.length = 1 ∧ Q (.int (x.cps.getD 0 0 : Nat)) H) (biV .ord) := by
  intro F f R S H xs vs W Q s rx h
  unfold biV at h
  split at h <;> first | (rename_i z; cases z; done) | skip
  · obtain ⟨c, h⟩ := okIf_pos h
    obtain ⟨x, rfl, r⟩ := vrs1 rx
    cases r
    exact ⟨_, rfl, c, sat_d h s (.int _)⟩
  all_goals exact h.elim
end
/-! ### repr -/
section
variable {X : Cx} {pins : List (Addr × Obj)} {σ : L2.St} {H : Hp} {s : Shared}
/-- the written part holds sys.modules: a dict -/
def SysK (K : PySem.W.Frag) : Prop := ∃ o, K.lookup sysModules = some o ∧ o.cls = .type "dict"
theorem dict_nil {P : Program} {w : World} {h : Heap} {a : Addr} (x : ObjOk P w H h a (.dK [])) : ∃ o es n, h.get? a = some o ∧ o.cls = .type "dict" ∧ o.data = .dict es n ∧ es.toList = [] ∧ a ≠ sysModules := by
  obtain ⟨_, ns, vs, kv, o, es, ep, e1, e2, e3, _, e5, _⟩ := x
  cases kv
  refine ⟨o, es, ep, e1, e2.1, e3, ?_, beq_eq_false_iff_ne.mp ns⟩
  cases e6 : es.toList with
  | nil => rfl
  | cons a b => rw [e6] at e5; cases e5
mutual
theorem Da.reads (sy : SysK X.K) (I : Inv X pins σ H s) : ∀ (d : PyData) (v : V) (u : Value), Da X.K H v d → RelV v u → ∃ as, Reads s.heap u d as ∧ sysModules ∉ as
  | .none, _, _, h, r => by
    cases h
    cases r
    exact ⟨_, Reads.none, by simp⟩
  | .bool b, _, _, h, r => by
    cases h
    cases r
    exact ⟨_, Reads.bool b, by simp⟩
  | .int i, _, _, h, r => by
    cases h
    obtain ⟨t, rfl⟩ := r
    exact ⟨_, Reads.int i t, by simp⟩
  | .str x, _, _, h, r => by
    cases h
    obtain ⟨t, rfl⟩ := r
    exact ⟨_, Reads.str x t, by simp⟩
  | .list ds, _, _, h, r => by
    cases h with
    | lst hs ha =>
      cases r
      obtain ⟨its, rv, ⟨o, n, ho, hc, _, hd⟩, _⟩ := I.list (.inl hs)
      obtain ⟨as, hr, hn⟩ := Da.readsAll sy I ds _ its ha rv
      refine ⟨_, Reads.list ho hc hd hr, fun z => ?_⟩
      rcases List.mem_cons.mp z with z | z
      · obtain ⟨os, e1, e2⟩ := sy
        have e3 := I.kIn _ _ e1
        rw [z, ho] at e3
        cases e3
        rw [hc] at e2
        injection e2 with e2
        exact absurd e2 (by decide)
      · exact hn z
  | .tuple ds, _, _, h, r => by
    cases h with
    | tup hs ha =>
      cases r
      obtain ⟨its, rv, ⟨o, ho, hc, n, hd⟩, _⟩ := I.tuple hs
      obtain ⟨as, hr, hn⟩ := Da.readsAll sy I ds _ its ha rv
      exact ⟨_, Reads.tuple ho hc hd hr, hn⟩
  | .dict kvs, _, _, h, r => by
    cases h with
    | dct hs =>
      cases r
      obtain ⟨o, es, n, e1, e2, e3, e4, e5⟩ := dict_nil (I.hok _ _ hs)
      refine ⟨_, Reads.dict (as := []) (bs := []) e1 e2 e3 (by rw [e4]; exact .nil) (by rw [e4]; exact .nil), ?_⟩
      simp
      exact fun z => e5 z.symm
theorem Da.readsAll (sy : SysK X.K) (I : Inv X pins σ H s) : ∀ (ds : List PyData) (vs : List V) (us : List Value), DaAll X.K H vs ds → Vals vs us → ∃ as, ReadsAll s.heap us ds as ∧ sysModules ∉ as
  | [], _, _, h, r => by
    cases h
    cases r
    exact ⟨_, ReadsAll.nil, by simp⟩
  | d :: ds, _, _, h, r => by
    cases h with
    | cons h1 h2 =>
      cases r with
      | cons r1 r2 =>
        obtain ⟨as, q1, n1⟩ := Da.reads sy I d _ _ h1 r1
        obtain ⟨bs, q2, n2⟩ := Da.readsAll sy I ds _ _ h2 r2
        exact ⟨_, ReadsAll.cons q1 q2, fun z => (List.mem_append.mp z).elim n1 n2⟩
end
def rRepr (K : PySem.W.Frag) : List V → Hp → VK → Prop := fun xs H Q => ∃ x d, xs = [x] ∧ Da K H x d ∧ d.showable = true ∧ d.depth ≤ 60 ∧ d.shown.length ≤ sizeLine ∧ Q (.str d.shown) H
theorem call_repr (sy : SysK X.K) (hu : X.A.units + 64 < cLine) (hg : X.A.guards = some []) : CallR X (.builtin "repr") (rRepr X.K) := by
  intro pins s σ H xs us Q I r h
  obtain ⟨x, d, rfl, hd, c1, c2, c3, q⟩ := h
  obtain ⟨u, rfl, ru⟩ := vals1 r
  have fin : ∀ (h' : Heap) (t : Tok) (tk : Nat), (∀ b o, s.heap.get? b = some o → h'.get? b = some o) → EP X pins σ Q (.str d.shown t) { s with heap := h', toks := tk } := fun h' t tk k => ⟨.str d.shown, H, I.kept k, ⟨_, rfl⟩, q⟩
  cases hd with
  | non => cases ru; exact PySem.P.repr_of_none (fin s.heap _ _ fun _ _ e => e)
  | bl b =>
    cases ru
    refine PySem.P.repr_of_bool (b := b) ?_
    have e : (PyData.bool b).shown = (if b then "True" else "False" : Str) := by cases b <;> rfl
    rw [← e]
    exact fin s.heap _ _ fun _ _ e => e
  | int i =>
    obtain ⟨t, rfl⟩ := ru
    exact PySem.P.repr_of_int (by simpa [PyData.showable] using c1) (fin s.heap _ _ fun _ _ e => e)
  | str z =>
    obtain ⟨t, rfl⟩ := ru
    exact PySem.P.repr_of_str (fin s.heap _ _ fun _ _ e => e) c3
  | lst h1 t1 =>
    obtain ⟨as, hr, hn⟩ := Da.reads sy I _ _ u (.lst h1 t1) ru
    cases ru
    exact repr_of_reads' hr c1 (fun _ => hn) hg (by omega) (fun _ _ e => e) (fun h' u tk k => fin h' u tk k) c3
  | tup h1 t1 =>
    obtain ⟨as, hr, hn⟩ := Da.reads sy I _ _ u (.tup h1 t1) ru
    cases ru
    exact repr_of_reads' hr c1 (fun _ => hn) hg (by omega) (fun _ _ e => e) (fun h' u tk k => fin h' u tk k) c3
  | dct h1 =>
    obtain ⟨as, hr, hn⟩ := Da.reads sy I _ _ u (.dct h1) ru
    cases ru
    exact repr_of_reads' hr c1 (fun _ => hn) hg (by omega) (fun _ _ e => e) (fun h' u tk k => fin h' u tk k) c3
end
theorem dat_da {g : Gc} {F : Hp} {f : List Addr} {R : Rs} {S : Store} {H : Hp} (s : Sm g F f R S H) {v : Val} {x : V} {d : PyData} (r : VR g F f x v) (e : datOf S v = some d) : Da g.K H x d := by
  cases v with
  | d y => cases e; exact Da.sub s.le r
  | fn k => cases e
  | loc n =>
    obtain ⟨a, h1, rfl⟩ := r
    dsimp only [datOf] at e
    split at e
    · rename_i xs hS
      cases e
      obtain ⟨a', ys, q1, q2, q3⟩ := s.getL hS
      rw [h1] at q1; cases q1
      exact .lst (.inl q2) (DaAll.sub s.le q3)
    · cases e
theorem real_repr {g : Gc} : RealN g (rRepr g.K) (biV .repr) := by
  intro F f R S H xs vs W Q s rx h
  unfold biV at h
  split at h <;> first | (rename_i z; cases z; done) | skip
  · obtain ⟨x, rfl, r⟩ := vrs1 rx
    split at h
    · rename_i e
      obtain ⟨⟨c1, c2, c3⟩, h⟩ := okIf_pos h
      exact ⟨x, _, rfl, dat_da s r e, c1, c2, c3, sat_d h s (.str _)⟩
    · exact h.elim
  all_goals exact h.elim
/-! ### isinstance -/
theorem kit_all : ∀ (a : Ty) (b : Ty), L2.kitB a.name b.name = some (a == b || (a == .bool && b == .int)) := by
  intro a b
  cases a <;> cases b <;> decide +kernel
theorem kit_none : ∀ (b : Ty), L2.kitB "NoneType" b.name = some false := by
  intro b
  cases b <;> decide +kernel
theorem tyx_tuple {K : PySem.W.Frag} {H : Hp} {a : Addr} {xs : List V} (h : SqT K H a xs) : TyX K H (.ref a) (.type "tuple") := by
  rcases h with (h | ⟨o, h⟩) | ⟨o, its, n, h1, h2, _⟩
  · exact .base (.tup h)
  · exact .fTuple h
  · exact .kTuple h1 h2
theorem tyx_list {K : PySem.W.Frag} {H : Hp} {a : Addr} {xs : List V} (h : Rd H a (.lst xs)) : TyX K H (.ref a) (.type "list") := by
  rcases h with h | ⟨o, h⟩
  · exact .base (.lst h)
  · exact .base (.frz h)
/-- isinstance(v, T) by the value v alone -/
def rIsiT1 (K : PySem.W.Frag) (t : Ty) : V → Hp → VK → Prop := fun x H Q => ∃ (ty : Value) (b : Bool), TyX K H x ty ∧ PySem.W.kitOne K ty (.type t.name) = some b ∧ Q (.bl b) H
theorem real_isi {g : Gc} {t : Ty} {F : Hp} {f : List Addr} {R : Rs} {S : Store} {H : Hp} {x : V} {v : Val} {W : WH} {Q : VK} (s : Sm g F f R S H) (r : VR g F f x v)
    (h : Sat g F f R W (isiV t v S) (fun w F' f' S' H' => ∀ z, VR g F' f' z w → Q z H')) : rIsiT1 g.K t x H Q := by
  unfold isiV at h
  split at h
  · rename_i b e
    unfold isTy at e
    split at e
    · cases e; cases r
      exact ⟨.type "NoneType", _, .base .non, kit_ty (kit_none t), sat_d h s (.bl _)⟩
    · cases e; cases r
      refine ⟨.type "bool", _, .base (.bl _), kit_ty (kit_all .bool t), ?_⟩
      have q := sat_d h s (.bl _)
      have e : (Ty.bool == t || (Ty.bool == Ty.bool && t == Ty.int)) = (t == Ty.bool || t == Ty.int) := by cases t <;> rfl
      rw [e]; exact q
    · cases e; cases r
      refine ⟨.type "int", _, .base (.int _), kit_ty (kit_all .int t), ?_⟩
      have q := sat_d h s (.bl _)
      have e : (Ty.int == t || (Ty.int == Ty.bool && t == Ty.int)) = (t == Ty.int) := by cases t <;> rfl
      rw [e]; exact q
    · cases e; cases r
      refine ⟨.type "str", _, .base (.str _), kit_ty (kit_all .str t), ?_⟩
      have q := sat_d h s (.bl _)
      have e : (Ty.str == t || (Ty.str == Ty.bool && t == Ty.int)) = (t == Ty.str) := by cases t <;> rfl
      rw [e]; exact q
    · cases e
      cases r with
      | tup h1 t1 =>
        refine ⟨.type "tuple", _, tyx_tuple (SqT.sub s.le h1), kit_ty (kit_all .tuple t), ?_⟩
        have q := sat_d h s (.bl _)
        have e : (Ty.tuple == t || (Ty.tuple == Ty.bool && t == Ty.int)) = (t == Ty.tuple) := by cases t <;> rfl
        rw [e]; exact q
    · cases e
      cases r with
      | lst h1 t1 =>
        refine ⟨.type "list", _, tyx_list (Rd.sub s.le h1), kit_ty (kit_all .list t), ?_⟩
        have q := sat_d h s (.bl _)
        have e : (Ty.list == t || (Ty.list == Ty.bool && t == Ty.int)) = (t == Ty.list) := by cases t <;> rfl
        rw [e]; exact q
    · cases e
      cases r with
      | dct h1 =>
        refine ⟨.type "dict", _, .base (.dK (s.le _ _ h1)), kit_ty (kit_all .dict t), ?_⟩
        have q := sat_d h s (.bl _)
        have e : (Ty.dict == t || (Ty.dict == Ty.bool && t == Ty.int)) = (t == Ty.dict) := by cases t <;> rfl
        rw [e]; exact q
    · split at e
      · rename_i hS
        cases e
        obtain ⟨a, h1, rfl⟩ := r
        obtain ⟨a', zs, q1, q2, q3⟩ := s.getL hS
        rw [h1] at q1; cases q1
        refine ⟨.type "list", _, .base (.lst q2), kit_ty (kit_all .list t), ?_⟩
        have q := sat_d h s (.bl _)
        have e : (Ty.list == t || (Ty.list == Ty.bool && t == Ty.int)) = (t == Ty.list) := by cases t <;> rfl
        rw [e]; exact q
      · cases e
    · cases e
  · exact h.elim
/-! ### a list's append, a store -/
theorem real_append {g : Gc} {F : Hp} {f : List Addr} {R : Rs} {S : Store} {H : Hp} {x : V} {v : Val} {xs : List V} {vs : List Val} {W : WH} {Q : VK} (s : Sm g F f R S H) (r : VR g F f x v) (rs : VRs g F f xs vs)
    (h : Sat g F f R W (meV .append v vs S) (fun w F' f' S' H' => ∀ z, VR g F' f' z w → Q z H')) : rAppend x xs H Q ∧ ∃ a ys, x = .ref a ∧ SqL g.K H a ys := by
  unfold meV at h
  split at h
  · split at h
    · rename_i hS
      split at h
      · rename_i c
        obtain ⟨a, h1, rfl⟩ := r
        obtain ⟨y, rfl, ry⟩ := vrs1 rs
        obtain ⟨a', zs, q1, q2, q3⟩ := s.getL hS
        rw [h1] at q1; cases q1
        refine ⟨⟨_, _, y, rfl, rfl, q2, by rw [q3.len]; exact c, ?_⟩, _, _, rfl, .inl (.inl q2)⟩
        have s1 := s.put (o := .lst (zs ++ [y])) (ob := .lst (_ ++ [_])) h1 ⟨_, rfl, q3.append (.one ry)⟩
        exact h F f _ (Ext.refl _ _) s1 .non .non
      · exact h.elim
    · exact h.elim
  · exact h.elim
theorem real_set {g : Gc} {F : Hp} {f : List Addr} {R : Rs} {S : Store} {H : Hp} {x y z : V} {v u w : Val} {W : WH} {Q : Hp → Prop} (s : Sm g F f R S H) (r : VR g F f x v) (r2 : VR g F f y u) (r3 : VR g F f z w)
    (h : Sat g F f R W (setV v u w S) (fun _ F' f' S' H' => Q H')) : rSetL x y z H Q := by
  unfold setV at h
  split at h
  · split at h
    · rename_i hS
      split at h
      · rename_i j c
        obtain ⟨a, h1, rfl⟩ := r
        cases r2
        obtain ⟨a', zs, q1, q2, q3⟩ := s.getL hS
        rw [h1] at q1; cases q1
        refine ⟨_, _, _, j, rfl, rfl, q2, by rw [q3.len]; exact c, ?_⟩
        have s1 := s.put (o := .lst (zs.set j z)) (ob := .lst (_)) h1 ⟨_, rfl, DaAll.set r3 j q3⟩
        exact h F f _ (Ext.refl _ _) s1
      · exact h.elim
    · exact h.elim
  · exact h.elim
end Ev
end

section
set_option Elab.async false
set_option linter.all false
set_option maxRecDepth 100000
set_option maxHeartbeats 4000000
/-! E4b: len(set(texts)) -/
namespace Ev
open PySem PySem.Spec PyProof.Rows L2

theorem addD_len (acc : List Str) (x : Str) : (addD acc x).length ≤ acc.length + 1 := by
  unfold addD
  split <;> simp
theorem once_len : ∀ (xs acc : List Str), (xs.foldl addD acc).length ≤ acc.length + xs.length
  | [], acc => by simp
  | x :: xs, acc => by
    have h1 := once_len xs (addD acc x)
    have h2 := addD_len acc x
    show (xs.foldl addD (addD acc x)).length ≤ _
    rw [List.length_cons]
    omega
section
variable {prog : Program} {w : World} {A : Around} {R : Result → Shared → Prop} {I S : Addr} {fp wr : List Addr} {G : Array GenState → Array GenState → Prop} {P : Nat → Value → Prop} {St : Nat → Shared → Prop}
abbrev SetS (prog : Program) (w : World) (h : Heap) (S : Addr) (acc : List Str) : Prop := h.SetOf (PySem.strKind prog w) S (fun k => decide (k ∈ acc)) acc.length
/-- the loop that fills a set, from turn i on -/
theorem fill_loop (W : WalksS prog w A.in1 I fp wr G n P St) (off : S ∉ fp) {xs : List Str} (few : xs.length < 4000) (hn : xs.length = n) (val : ∀ i v, P i v → ∃ t, v = .str (xs.getD i Str.empty) t) :
    ∀ (rest : List Str) (i : Nat) (acc : List Str) (s : Shared), xs.drop i = rest → i ≤ n → acc.length ≤ i → St i s → SetS prog w s.heap S acc →
      (∀ s', Moved (S :: wr) G s s' → SetS prog w s'.heap S (rest.foldl addD acc) → R (.ok (.ret .none)) s') →
      codeAny (model prog w) A (.builtin "set.update.loop" ⟨[.ref S, .ref I], []⟩) R s := by
  have offw : S ∉ wr := fun h => off (W.sub _ h)
  have more : ∀ b ∈ wr, b ∈ S :: wr := fun b hb => List.mem_cons_of_mem _ hb
  have still : ∀ {s s' : Shared} {acc : List Str}, Moved wr G s s' → SetS prog w s.heap S acc → SetS prog w s'.heap S acc := fun {s s' acc} m ⟨o, es, ep, t, ho, z⟩ => ⟨o, es, ep, t, m.heap S _ offw ho, z⟩
  intro rest
  induction rest with
  | nil =>
    intro i acc s hd hi hl st hS fin
    have ei : i = n := by
      have := List.drop_eq_nil_iff.mp hd
      omega
    subst ei
    refine codeAny_builtin PyProof.Rows.F.entry_set_update_loop ?_
    rw [Around.under_plainId PyProof.Rows.F.plain_set_update_loop _]
    refine wpAny_bind (W.done s _ _ st fun s' hm => ?_)
    exact wpAny_pure (fin s' (hm.mono more) (still hm hS))
  | cons y rest ih =>
    intro i acc s hd hi hl st hS fin
    have lt : i < xs.length := by
      have := congrArg List.length hd
      rw [List.length_drop, List.length_cons] at this
      omega
    have hy : xs.getD i Str.empty = y := by
      rw [List.drop_eq_getElem_cons lt] at hd
      rw [List.getD_eq_getElem?_getD, List.getElem?_eq_getElem lt]
      exact (List.cons.inj hd).1
    have hd2 : xs.drop (i + 1) = rest := by
      rw [List.drop_eq_getElem_cons lt] at hd
      exact (List.cons.inj hd).2
    refine codeAny_builtin PyProof.Rows.F.entry_set_update_loop ?_
    rw [Around.under_plainId PyProof.Rows.F.plain_set_update_loop _]
    refine wpAny_bind (W.item i s _ _ (by omega) st fun v s' hP st' hm => ?_)
    obtain ⟨t, rfl⟩ := val i v hP
    rw [hy]
    have hS' := still hm hS
    refine wpAny_bind (wpAny_holding ?_)
    unfold setAdd
    refine wpAny_holding (wpAny_bind ((PySem.strKind prog w).pyHash (k := y) (strKind_is _ _ _ _) ?_))
    refine wpAny_setAddHashed_of (knd := PySem.strKind prog w) (s := { s' with toks := s'.toks + 1 }) (strKind_is _ _ _ _) rfl hS' (by unfold scanBound; omega) fun h' hsb hS2 => ?_
    have hS3 : SetS prog w h' S (addD acc y) := by
      refine SetOf_congr hS2 (fun k => ?_) ?_
      · unfold addD
        by_cases m : y ∈ acc
        · rw [if_pos m]
          by_cases e : k = y
          · subst e; simp [m]
          · simp [e]
        · rw [if_neg m]; simp
      · unfold addD
        by_cases m : y ∈ acc
        · simp [m]
        · simp [m]
    refine wpAny_pure ⟨plainId_quiet PyProof.Rows.F.plain_set_update_loop _, ih (i + 1) (addD acc y) _ hd2 (by omega) (by have := addD_len acc y; omega) (W.frame _ s' _ _ st' (Nat.le_succ _) fun b hb o e => ?_) hS3 fun s'' hm2 hS4 => ?_⟩
    · rw [hsb.2 b (fun h : b = S => off (h ▸ hb))]; exact e
    · refine fin s'' (Moved.trans W.gtrans ((hm.mono more).then_heap (Nat.le_succ _) fun b o hb e => ?_) hm2) hS4
      rw [hsb.2 b (fun h : b = S => hb (h ▸ List.mem_cons_self))]; exact e
end
/-- the object at l is walked in order -/
def Goes (prog : Program) (w : World) (T : String) (l : Addr) (od : Option Addr) (items : Array Value) (nl : Nat) (sl : Array (Option Value)) : Prop :=
  ∀ (A : Around) (Q : Value → Shared → Prop) (E : Value → Shared → Prop) (s : Shared), s.heap.get? l = some ⟨.type T, od, .seq items nl, sl⟩ →
    (∀ (io : Obj) (St : Nat → Heap → Prop), io.isFreed = false → (∀ A' : Around, A'.handled = none → Walks prog w A' s.heap.objs.size [s.heap.objs.size, l] [s.heap.objs.size] items.size (fun i v => items[i]? = some v) St) → St 0 (s.heap.push io) →
      Q (.ref s.heap.objs.size) { s with heap := s.heap.push io }) → wpAny (model prog w) A (pyIter (.ref l)) Q E s
theorem goes_list {prog : Program} {w : World} {l : Addr} {od : Option Addr} {items : Array Value} {nl : Nat} {sl : Array (Option Value)} : Goes prog w "list" l od items nl sl := fun A Q E s ho h => by
  have hl : s.heap.IsList l items := ⟨_, ho, rfl, nl, rfl⟩
  have ne : l ≠ s.heap.objs.size := Nat.ne_of_lt (Heap.lt_size ho)
  refine wpAny_pyIter_list hl (h _ _ rfl (fun A' hh => Walks.list hh _ l ne items) ⟨⟨_, Heap.get?_push_size _ rfl, rfl, rfl⟩, hl.push _⟩)
theorem goes_tuple {prog : Program} {w : World} {l : Addr} {od : Option Addr} {items : Array Value} {nl : Nat} {sl : Array (Option Value)} : Goes prog w "tuple" l od items nl sl := fun A Q E s ho h => by
  have hl : s.heap.IsTuple l items := ⟨_, ho, rfl, nl, rfl⟩
  have ne : l ≠ s.heap.objs.size := Nat.ne_of_lt (Heap.lt_size ho)
  refine wpAny_pyIter_tuple hl (h _ _ rfl (fun A' hh => Walks.tuple hh _ l ne items) ⟨⟨_, Heap.get?_push_size _ rfl, rfl, rfl⟩, hl.push _⟩)
section
variable {prog : Program} {w : World} {A : Around} {E : Value → Shared → Prop} {s : Shared}
set_option maxHeartbeats 16000000 in
theorem call_set_texts {T : String} {l : Addr} {od : Option Addr} {items : Array Value} {nl : Nat} {sl : Array (Option Value)} {xs : List Str} {Q : Value → Shared → Prop}
    (hh : A.handled = none) (ho : s.heap.get? l = some ⟨.type T, od, .seq items nl, sl⟩) (goes : Goes prog w T l od items nl sl) (hsls : isSubtype (.type T) (.type "set") = pure false) (hslf : isSubtype (.type T) (.type "frozenset") = pure false)
    (hne : (Value.type T == Value.type "dict") = false) (hi : PyProof.Rows.StrsAre items.toList xs) (few : xs.length < 4000)
    (h : ∀ (h' : Heap) (tk : Nat), SetS prog w h' s.heap.objs.size (onceS xs) → (∀ b o, b < s.heap.objs.size → s.heap.get? b = some o → h'.get? b = some o) → Q (.ref s.heap.objs.size) { s with heap := h', toks := tk }) :
    wpAny (model prog w) A (call (.type "set") [.ref l]) Q E s := by
  obtain ⟨c, tl, hmro⟩ := PySem.F.called_set.mro
  have hmade := PySem.F.called_set.made
  have hsub := PySem.F.called_set.sub
  refine wpAny_call (codeAny_of_tree ?_)
  show wpAny _ _ (callAny (.type "set") _) _ _ _
  refine wpAny_pure ⟨Code.quiet_builtin _ (by decide +kernel), codeAny_builtin PySem.F.entry_type_call ?_⟩
  rw [Around.under_plain (weight_type_call_type "set" [.ref l] []) rfl]
  have h1 := PySem.F.called_set.notType
  have h2 := PySem.F.called_set.canCreate
  have hct := PySem.F.typeCall_set_1 (.ref l)
  repeat (any_goals (first | assumption | wp_step))
  generalize hnew : (fun led : Bool => ({ cls := .type "set", dict := none, data := .set #[] 0 (.fresh 0 0 led) } : Obj)) = new
  refine codeAny_mono (code_set_new_1 (.ref l) (E := E) (Q₁ := fun obj s₁ => ∃ led : Bool, obj = .ref s.heap.objs.size ∧ s₁ = { s with heap := s.heap.push (new led) }) fun led => ⟨led, rfl, by rw [← hnew]⟩) fun r s₁ hr => ?_
  cases r with
  | error e => exact hr
  | ok fl =>
    cases fl with
    | ret obj =>
      obtain ⟨led, rfl, rfl⟩ := hr
      have enew : new led = { cls := .type "set", dict := none, data := .set #[] 0 (.fresh 0 0 led) } := by rw [← hnew]
      have hS : (s.heap.push (new led)).get? s.heap.objs.size = some { cls := .type "set", dict := none, data := .set #[] 0 (.fresh 0 0 led) } := by rw [enew]; exact Heap.get?_push_size _ rfl
      have hT : Shared.TypeIs { s with heap := s.heap.push (new led) } (.ref s.heap.objs.size) "set" := ⟨_, hS, rfl⟩
      have hli := PySem.F.called_set.init.lookup
      have hbi := PySem.F.called_set.init.bind (.ref s.heap.objs.size)
      repeat (any_goals (first | assumption | wp_step))
      refine codeAny_mono (codeAny_call_builtin (R := wants (fun r s₂ => r = .none ∧ ∃ h' tk, s₂ = { s with heap := h', toks := tk } ∧ SetS prog w h' s.heap.objs.size (onceS xs) ∧
          (∀ b o, b < s.heap.objs.size → s.heap.get? b = some o → h'.get? b = some o)) E) PySem.F.called_set.init.plain PySem.F.entry_set_init (check_set_init_1 hT ?_)) fun r₂ s₂ hr₂ => ?_
      · have hol' : (s.heap.push (new led)).get? l = some ⟨.type T, od, .seq items nl, sl⟩ := Heap.get?_push_of_some _ ho
        have lS : l < s.heap.objs.size := Heap.lt_size ho
        unfold Builtin.«set.__init__» noKeywords Builtin.Frozenset.updateFrom
        generalize hPI : pyIter = PI
        wp_walk
        subst hPI
        refine goes _ _ _ _ hol' fun io St fr walk st => ?_
        refine wpAny_bind (wpAny_runValue ?_)
        have sz : xs.length = items.size := by rw [← StrsAre.len_eq hi, Array.length_toList]
        have apart : s.heap.objs.size ∉ [(s.heap.push (new led)).objs.size, l] := by
          rw [Heap.size_push]
          simp only [List.mem_cons, List.not_mem_nil, or_false, not_or]
          exact ⟨Nat.ne_of_lt (Nat.lt_succ_self _), Nat.ne_of_gt lS⟩
        refine fill_loop ((walk A.in1.in1.in1 (by simp [hh])).toS) apart few sz (fun i v hv => SS.strs_at hi i v (by rw [Array.getElem?_toList]; exact hv)) xs 0 [] _ rfl (Nat.zero_le _) (Nat.le_refl _) st ?_ ?_
        · exact PyProof.Rows.SetOf_congr ((PyProof.Rows.setObjOf_fresh (knd := PySem.strKind prog w) led).setOf (Heap.get?_push_of_some _ hS) (by unfold scanBound; omega)) (fun _ => rfl) rfl
        · intro s' hm hS'
          obtain ⟨h', g', d', tk', os'⟩ := s'
          obtain rfl : g' = s.gens := hm.gens
          obtain rfl : d' = s.drawn := hm.drawn
          obtain rfl : os' = s.os := hm.os
          refine wpAny_pure ?_
          refine wpAny_pure ⟨rfl, h', tk', rfl, hS', fun b o hb e => ?_⟩
          refine hm.heap b o ?_ (Heap.get?_push_of_some _ (Heap.get?_push_of_some _ e))
          simp only [List.mem_cons, List.not_mem_nil, or_false, not_or]
          exact ⟨Nat.ne_of_lt hb, by rw [Heap.size_push]; exact Nat.ne_of_lt (Nat.lt_succ_of_lt hb)⟩
      · cases r₂ with
        | error e => exact hr₂
        | ok fl₂ =>
          cases fl₂ with
          | ret r =>
            obtain ⟨rfl, h', tk, rfl, hS', hk'⟩ := hr₂
            repeat (any_goals (first | assumption | wp_step))
            exact h _ _ hS' hk'
          | _ => exact hr₂.elim
    | _ => exact hr.elim
end
end Ev
end

section
set_option Elab.async false
set_option linter.all false
set_option maxRecDepth 100000
set_option maxHeartbeats 4000000
/-! E5: slices -/
namespace Ev
open PySem PySem.Spec PyProof.Rows L2

abbrev rdO (g : Gc) (W : WX) (t : TD (Option Int)) : TO := rdG g W (fun _ _ x v => x = v) t
def rSliV (K : PySem.W.Frag) : V → Option Int → Option Int → Hp → VK → Prop := fun x lo hi H Q => rSlL K x lo hi H Q ∨ (rSlA K x lo hi H Q ∨ rSlS x lo hi H Q)
theorem sl_V {X : Cx} : SlR X (rSliV X.K) := SlR.or sl_list (SlR.or sl_tupA sl_str)
theorem cut_da {K : PySem.W.Frag} {F : Hp} {xs : List V} {ds : List PyData} (t : DaAll K F xs ds) (lo hi : Option Int) : DaAll K F (cutV xs lo hi) (cutD ds lo hi) := by
  unfold cutV cutD
  rw [t.len]
  exact (t.drop _).take _
theorem cut_all {K : PySem.W.Frag} {F : Hp} {xs : List V} {ds : List PyData} (t : DaAll K F xs ds) {lo hi : Option Int} (h : HT.sIx xs.length 0 lo = 0 ∧ HT.sIx xs.length xs.length hi = xs.length) : cutD ds lo hi = ds := by
  unfold cutD
  rw [← t.len, h.1, h.2]
  simp [t.len]
theorem real_sli {g : Gc} {F : Hp} {f : List Addr} {R : Rs} {S : Store} {H : Hp} {x : V} {v : Val} {lo hi : Option Int} {W : WH} {Q : VK} (s : Sm g F f R S H) (r : VR g F f x v)
    (h : Sat g F f R W (sliV v lo hi S) (fun w F' f' S' H' => ∀ z, VR g F' f' z w → Q z H')) : rSliV g.K x lo hi H Q := by
  unfold sliV at h
  split at h
  · obtain ⟨c, h⟩ := okIf_pos h
    cases r
    exact .inr (.inr ⟨_, rfl, c, sat_d h s (.str _)⟩)
  · cases r with
    | tup h1 t1 =>
      refine .inr (.inl ⟨_, _, rfl, SqT.sub s.le h1, fun e => ?_, fun _ p hp => sat_tup h s (cut_da t1 lo hi) hp⟩)
      rw [cut_all t1 e] at h
      exact sat_d h s (.tup h1 t1)
  · split at h
    · rename_i e
      obtain ⟨a, ys, rfl, q, t⟩ := lst_of s r e
      exact .inl ⟨_, _, rfl, .inl q, fun p hp => sat_lst h s (cut_da t lo hi) hp⟩
    · exact h.elim
theorem fm_some {α β : Type} (f : α → Option β) (k : α → β) : ∀ l : List α, (∀ a ∈ l, f a = some (k a)) → l.filterMap f = l.map k
  | [], _ => rfl
  | a :: l, h => by
    rw [List.filterMap_cons, h a List.mem_cons_self, List.map_cons, fm_some f k l fun b hb => h b (List.mem_cons_of_mem _ hb)]
/-! ### t[::-1], t[:0:-1] -/
section
variable {prog : Program} {w : World} {A : Around} {E : Value → Shared → Prop} {s : Shared}
theorem range_back (xs : Array Value) (n : Nat) (hn : n ≤ xs.size) : (List.range n).filterMap (fun (m : Nat) => xs[(((xs.size : Int) - 1) + (m : Int) * (-1)).toNat]?) = (xs.toList.drop (xs.size - n)).reverse := by
  have e : ∀ m ∈ List.range n, xs[(((xs.size : Int) - 1) + (m : Int) * (-1)).toNat]? = some ((xs.toList.drop (xs.size - n)).reverse.getD m default) := fun m hm => by
    have hm' := List.mem_range.mp hm
    have e1 : (((xs.size : Int) - 1) + (m : Int) * (-1)).toNat = xs.size - 1 - m := by omega
    have hlt : xs.size - 1 - m < xs.size := by omega
    rw [e1, Array.getElem?_eq_getElem hlt, List.getD_eq_getElem?_getD, List.getElem?_eq_getElem (by simp; omega)]
    simp only [Option.getD_some, Option.some.injEq]
    rw [List.getElem_reverse, List.getElem_drop]
    simp only [Array.getElem_toList, List.length_drop, Array.length_toList]
    congr 1
    omega
  have e2 : (List.range n).filterMap (fun (m : Nat) => xs[(((xs.size : Int) - 1) + (m : Int) * (-1)).toNat]?) = (List.range n).map fun m => (xs.toList.drop (xs.size - n)).reverse.getD m default := by
    exact fm_some _ _ _ e
  rw [e2]
  apply List.ext_getElem
  · simp; omega
  · intro i h1 h2
    simp only [List.getElem_map, List.getElem_range, List.getD_eq_getElem?_getD]
    rw [List.getElem?_eq_getElem h2, Option.getD_some]
/-- z: with the stop 0 -/
def stopOf (z : Bool) : Option Int := if z = true then some 0 else none
theorem sliceApplied_back {sl : Addr} {vu vs : Value} {z : Bool} {n : Nat} {Q : Int × Int × Nat → Shared → Prop} (hs : s.heap.IsSliceOf sl .none vu vs) (pu : IsPart vu (stopOf z)) (ps : IsPart vs (some (-1)))
    (h : Q ((n : Int) - 1, -1, if z = true then n - 1 else n) s) : wpAny (model prog w) A (Builtin.Slice.sliceApplied (.ref sl) (pure (n : Int))) Q E s := by
  obtain ⟨os, hos, hcs, hds⟩ := id hs
  unfold Builtin.Slice.sliceApplied Builtin.Slice.sliceFields
  refine wpAny_bind (wpAny_bind (wpAny_field hos hds (x := .none) rfl (wpAny_bind (wpAny_field hos hds (x := vu) rfl (wpAny_bind (wpAny_field hos hds (x := vs) rfl (wpAny_pure ?_)))))))
  refine wpAny_bind (HT.slicePart_ ps ?_)
  show wpAny _ _ (if ((-1 : Int) == 0) = true then _ else _) _ _ s
  rw [if_neg (by decide)]
  refine wpAny_bind (HT.slicePart_ .none (wpAny_bind (HT.slicePart_ pu (wpAny_bind (wpAny_pure ?_)))))
  have e : Builtin.Slice.sliceAdjust none (stopOf z) (-1) (n : Int) = ((n : Int) - 1, if z = true then min 0 ((n : Int) - 1) else -1) := by
    cases z
    · rfl
    · unfold Builtin.Slice.sliceAdjust stopOf
      simp
  have e2 : Builtin.Slice.slicePlaces ((n : Int) - 1) (if z = true then min 0 ((n : Int) - 1) else -1) (-1) = if z = true then n - 1 else n := by
    unfold Builtin.Slice.slicePlaces
    cases z
    · simp only [Bool.false_eq_true, if_false]
      rw [if_neg (by decide)]
      by_cases h0 : n = 0
      · subst h0; rfl
      · rw [if_pos (by omega)]
        rw [show (-(-1) : Int) = 1 by decide, Int.ediv_one]
        omega
    · simp only [if_true]
      rw [if_neg (by decide)]
      by_cases h0 : n ≤ 1
      · rw [if_neg (by omega)]
        omega
      · rw [if_pos (by omega), show (-(-1) : Int) = 1 by decide, Int.ediv_one]
        omega
  show wpAny _ _ (match Builtin.Slice.sliceAdjust none (stopOf z) (-1) (n : Int) with | (lo, hi) => pure (lo, (-1 : Int), Builtin.Slice.slicePlaces lo hi (-1))) _ _ s
  rw [e]
  show wpAny _ _ (pure ((n : Int) - 1, (-1 : Int), Builtin.Slice.slicePlaces ((n : Int) - 1) (if z = true then min 0 ((n : Int) - 1) else -1) (-1))) _ _ s
  rw [e2]
  exact wpAny_pure h
theorem getItem_tuple_back {t sl : Addr} {items : Array Value} {vu vs : Value} {z : Bool} {Q : Value → Shared → Prop} (ht : IsTup s.heap t items) (hs : s.heap.IsSliceOf sl .none vu vs) (pu : IsPart vu (stopOf z)) (ps : IsPart vs (some (-1)))
    (h : Q (.ref s.heap.objs.size) { s with heap := s.heap.push { cls := .type "tuple", data := .seq (items.toList.drop (items.size - (if z = true then items.size - 1 else items.size))).reverse.toArray } })
    (hsz : items.size ≤ sizeLine) : wpAny (model prog w) A (getItem (.ref t) (.ref sl)) Q E s := by
  have hle : (if z = true then items.size - 1 else items.size) ≤ items.size := by cases z <;> simp
  have htake : sizeOk (.seq (items.toList.drop (items.size - (if z = true then items.size - 1 else items.size))).reverse.toArray) := by
    show (items.toList.drop (items.size - (if z = true then items.size - 1 else items.size))).reverse.toArray.size ≤ sizeLine
    rw [List.size_toArray, List.length_reverse, List.length_drop, Array.length_toList]
    omega
  obtain ⟨os, hos, hcs, hds⟩ := id hs
  have hTs : s.TypeIs (.ref sl) "slice" := ⟨os, hos, hcs⟩
  unfold getItem
  try with_reducible refine wpAny_holding ?_
  first | refine wpAny_bind (wpAny_pure ?_) | skip
  refine wpAny_bind (wpAny_sequenceKey ht.typeIs (by decide) ?_)
  refine wpAny_bind (wpAny_callSpecial?_slot (name := Str.ofString "__getitem__") ht.typeIs PyProof.Rows.slot_tuple_getitem
    (wpAny_call_entry PyProof.Rows.slot_tuple_getitem ht.typeIs entry_tuple_getitem ?_ (args_tuple_getitem _ _)))
  show wpAny _ _ (Builtin.Tuple.tupleItemsOf (.ref t) >>= _) _ _ s
  refine wpAny_bind (tupleItemsOf_ ht ?_)
  refine wpAny_bind (wpAny_typeOf hTs ?_)
  rw [if_pos (by decide)]
  refine wpAny_bind (sliceApplied_back hs pu ps ?_)
  have hno : ¬ ((((items.size : Int) - 1) == 0 && (-1 : Int) == 1 && (if z = true then items.size - 1 else items.size) == items.size) = true) := by
    intro q
    rw [Bool.and_eq_true, Bool.and_eq_true] at q
    have q1 : (-1 : Int) = 1 := eq_of_beq q.1.2
    exact absurd q1 (by decide)
  show wpAny _ _ (if (((items.size : Int) - 1) == 0 && (-1 : Int) == 1 && (if z = true then items.size - 1 else items.size) == items.size) = true then _ else _) _ _ s
  rw [if_neg hno, range_back items _ hle]
  first
    | exact wpAny_bind (m := Builtin.Tuple.tupleExact _) (wpAny_newObj_type (wpAny_pure ⟨_, rfl, wpAny_pure h⟩) htake)
    | exact wpAny_bind (m := Builtin.Tuple.tupleExact _) (wpAny_newObj_type (wpAny_bind (wpAny_pure (wpAny_pure ⟨_, rfl, wpAny_pure h⟩))) htake)
    | exact wpAny_bind (wpAny_bind (m := Builtin.Tuple.tupleExact _) (wpAny_newObj_type (wpAny_pure (wpAny_pure ⟨_, rfl, wpAny_pure h⟩)) htake))
    | exact wpAny_bind (wpAny_bind (m := Builtin.Tuple.tupleExact _) (wpAny_newObj_type (wpAny_pure ⟨_, rfl, wpAny_pure h⟩) htake))
end
def rRevV (K : PySem.W.Frag) (z : Bool) : V → Hp → VK → Prop := fun x H Q => (∃ a xs, x = .ref a ∧ Rd H a (.lst xs) ∧ z = false ∧ ∀ p, H p = none → Q (.ref p) (upd H p (.lst xs.reverse))) ∨
  (∃ a xs, x = .ref a ∧ SqT K H a xs ∧ ∀ p, H p = none → Q (.ref p) (upd H p (.tup (if z = true then (xs.drop 1).reverse else xs.reverse))))
theorem real_rev {g : Gc} {F : Hp} {f : List Addr} {R : Rs} {S : Store} {H : Hp} {x : V} {v : Val} {z : Bool} {W : WH} {Q : VK} (s : Sm g F f R S H) (r : VR g F f x v)
    (h : Sat g F f R W (revV z v S) (fun w F' f' S' H' => ∀ z, VR g F' f' z w → Q z H')) : rRevV g.K z x H Q := by
  unfold revV at h
  split at h
  · cases r with
    | tup h1 t1 =>
      refine .inr ⟨_, _, rfl, SqT.sub s.le h1, fun p hp => sat_tup h s ?_ hp⟩
      cases z
      · exact t1.reverse
      · exact (t1.drop 1).reverse
  · split at h
    · rename_i e
      obtain ⟨a, ys, rfl, q, t⟩ := lst_of s r e
      cases z
      · exact .inl ⟨_, _, rfl, q, rfl, fun p hp => sat_lst h s t.reverse hp⟩
      · exact h.elim
    · exact h.elim
theorem Vals.reverseV : ∀ {xs : List V} {us : List Value}, Vals xs us → Vals xs.reverse us.reverse
  | _, _, .nil => .nil
  | _, _, .cons a t => by rw [List.reverse_cons, List.reverse_cons]; exact (Vals.reverseV t).append (.cons a .nil)
section
variable {X : Cx}
/-- the values behind the brackets are there: a[:stop:-1] -/
theorem rev_tail {pins : List (Addr × Obj)} {σ : L2.St} {H : Hp} {s : Shared} {z : Bool} {x : V} {v vu vs : Value} {Q : VK} {e sl : Expr} (I : Inv X pins σ H s) (rx : RelV x v) (pu : IsPart vu (stopOf z)) (ps : IsPart vs (some (-1))) (h : rRevV X.K z x H Q)
    (hs : ∀ o i, subscripted sl false o i = operate [o, i] (getItem o i) ∨ subscripted sl false o i = operate [i, o] (getItem o i)) :
    wpAny (model X.prog X.w) X.A (subscriptTail e sl v (.ref s.heap.objs.size)) (EP X pins σ Q) X.xe { s with heap := s.heap.push { cls := .type "slice", data := .fields #[.none, vu, vs] } } := by
  have I5 : Inv X pins σ H { s with heap := s.heap.push { cls := .type "slice", data := .fields #[.none, vu, vs] } } := I.kept (t' := s.toks) fun b ob q => Heap.get?_push_of_some _ q
  have isl : (s.heap.push { cls := .type "slice", data := .fields #[.none, vu, vs] }).IsSliceOf s.heap.objs.size .none vu vs := Heap.IsSliceOf.new _ .none vu vs
  rcases h with ⟨a, xs, rfl, hx, rfl, q⟩ | ⟨a, xs, rfl, hx, q⟩
  · cases rx
    obtain ⟨its, r, ht, hz⟩ := I5.list (.inl hx)
    have hlen := r.length
    have go : wpAny (model X.prog X.w) X.A (getItem (.ref a) (.ref s.heap.objs.size)) (EP X pins σ Q) X.xe { s with heap := s.heap.push { cls := .type "slice", data := .fields #[.none, vu, vs] } } := by
      refine wpAny_getItem_list_slice ht.isList isl .none pu ps (by decide) ?_ (by rw [List.size_toArray]; omega)
      show EP X pins σ Q _ { s with heap := (s.heap.push _).push { cls := .type "list", data := .seq (slicePick its.toArray none none (some (-1))) } }
      rw [PySem.W.krv_pick]
      refine ⟨.ref _, _, I5.laid (t' := s.toks) (o := .lst xs.reverse) (fun b ob q => Heap.get?_push_of_some _ q) (Nat.le_refl _) ?_, rfl, q _ (I5.hok.fresh (Nat.le_refl _))⟩
      exact ⟨by rw [List.length_reverse]; exact hz, _, 0, Vals.reverseV r, Heap.get?_push_size _ rfl⟩
    rcases hs (.ref a) (.ref s.heap.objs.size) with e1 | e1
    · exact tail_any ht.isList.typeIs (PySem.slot_list_getitem.lookup) go e1
    · exact tail_any ht.isList.typeIs (PySem.slot_list_getitem.lookup) go e1
  · cases rx
    obtain ⟨its, r, ht, hz⟩ := I5.tuple hx
    have hlen := r.length
    have go : wpAny (model X.prog X.w) X.A (getItem (.ref a) (.ref s.heap.objs.size)) (EP X pins σ Q) X.xe { s with heap := s.heap.push { cls := .type "slice", data := .fields #[.none, vu, vs] } } := by
      refine getItem_tuple_back ht isl pu ps ?_ (by rw [List.size_toArray]; omega)
      have e2 : (its.toArray.toList.drop (its.toArray.size - (if z = true then its.toArray.size - 1 else its.toArray.size))).reverse = if z = true then (its.drop 1).reverse else its.reverse := by
        cases z
        · simp
        · simp only [if_true, List.size_toArray]
          cases its with
          | nil => rfl
          | cons a b =>
            have : (a :: b).length - ((a :: b).length - 1) = 1 := by simp
            rw [this]
      rw [e2]
      refine ⟨.ref _, _, I5.laid (t' := s.toks) (o := .tup (if z = true then (xs.drop 1).reverse else xs.reverse)) (fun b ob q => Heap.get?_push_of_some _ q) (Nat.le_refl _) ?_, rfl, q _ (I5.hok.fresh (Nat.le_refl _))⟩
      cases z
      · exact ⟨by simp; exact hz, _, Vals.reverseV r, IsTup.new _ _⟩
      · exact ⟨by simp; omega, _, Vals.reverseV (r.drop 1), IsTup.new _ _⟩
    rcases hs (.ref a) (.ref s.heap.objs.size) with e1 | e1
    · exact tail_any ht.typeIs (PyProof.Rows.slot_tuple_getitem.lookup) go e1
    · exact tail_any ht.typeIs (PyProof.Rows.slot_tuple_getitem.lookup) go e1
theorem pe_rev {e : Expr} {te : TE} {k : Nat} {p1 p2 p3 pos : Pos} (he : PE X e te) : PE X (.Subscript e (.Slice none none (some (.UnaryOp .USub (.Constant (.int 1) k p1) p2)) p3) pos) (tUn (rRevV X.K false) te) := by
  refine ⟨fun pins s σ H Q I h => ?_⟩
  refine Subscript_ (thn (he.run pins s σ H _ I h) fun v s1 ⟨x, H1, I1, r1, q1⟩ => ?_)
  have hst : PO X (some (.UnaryOp .USub (.Constant (.int 1) k p1) p2)) (tPart (tUn (rU fun i => .int (-i)) (tC (.int 1)))) := po_some (pe_un un_neg pe_int)
  refine wpAny_Slice (thn (po_none.run pins s1 σ H1 (fun o H2 => o = none ∧ H2 = H1) I1 ⟨rfl, rfl⟩) fun vl s2 ⟨l, H2, I2, pl, el, e2⟩ => ?_)
  subst el e2
  refine thn (po_none.run pins s2 σ H2 (fun o H3 => o = none ∧ H3 = H2) I2 ⟨rfl, rfl⟩) fun vu s3 ⟨u, H3, I3, pu, eu, e3⟩ => ?_
  subst eu e3
  refine thn (hst.run pins s3 σ H3 (fun o H4 => o = some (-1) ∧ H4 = H3) I3 ⟨1, rfl, -1, rfl, rfl, rfl⟩) fun vs s4 ⟨o, H4, I4, ps, eo, e4⟩ => ?_
  subst eo e4
  cases pl
  exact rev_tail (z := false) I4 r1 pu ps q1 fun o i => by first | exact .inl (by with_unfolding_all rfl) | exact .inr (by with_unfolding_all rfl)
theorem pe_rev0 {e : Expr} {te : TE} {k k0 : Nat} {p1 p2 p3 p4 pos : Pos} (he : PE X e te) : PE X (.Subscript e (.Slice none (some (.Constant (.int 0) k0 p4)) (some (.UnaryOp .USub (.Constant (.int 1) k p1) p2)) p3) pos) (tUn (rRevV X.K true) te) := by
  refine ⟨fun pins s σ H Q I h => ?_⟩
  refine Subscript_ (thn (he.run pins s σ H _ I h) fun v s1 ⟨x, H1, I1, r1, q1⟩ => ?_)
  have hst : PO X (some (.UnaryOp .USub (.Constant (.int 1) k p1) p2)) (tPart (tUn (rU fun i => .int (-i)) (tC (.int 1)))) := po_some (pe_un un_neg pe_int)
  have hst0 : PO X (some (.Constant (.int 0) k0 p4)) (tPart (tC (.int 0))) := po_some pe_int
  refine wpAny_Slice (thn (po_none.run pins s1 σ H1 (fun o H2 => o = none ∧ H2 = H1) I1 ⟨rfl, rfl⟩) fun vl s2 ⟨l, H2, I2, pl, el, e2⟩ => ?_)
  subst el e2
  refine thn (hst0.run pins s2 σ H2 (fun o H3 => o = some 0 ∧ H3 = H2) I2 ⟨0, rfl, rfl, rfl⟩) fun vu s3 ⟨u, H3, I3, pu, eu, e3⟩ => ?_
  subst eu e3
  refine thn (hst.run pins s3 σ H3 (fun o H4 => o = some (-1) ∧ H4 = H3) I3 ⟨1, rfl, -1, rfl, rfl, rfl⟩) fun vs s4 ⟨o, H4, I4, ps, eo, e4⟩ => ?_
  subst eo e4
  cases pl
  exact rev_tail (z := true) I4 r1 pu ps q1 fun o i => by first | exact .inl (by with_unfolding_all rfl) | exact .inr (by with_unfolding_all rfl)
end
end Ev
end

section
set_option Elab.async false
set_option linter.all false
set_option maxRecDepth 100000
set_option maxHeartbeats 4000000
/-! E6: what loops walk -/
namespace Ev
open PySem PySem.Spec PyProof.Rows L2

/-! ### enumerate of a tuple -/
set_option maxHeartbeats 8000000 in
theorem meets_enumerate_newT (l : Addr) (items : Array Value) (n : Nat) (dct : Option Addr) (sl : Array (Option Value)) :
    Meets (Builtin.«enumerate.__new__» ⟨[.type "enumerate", .ref l], []⟩) (fun _ R s => s.heap.get? l = some { cls := .type "tuple", dict := dct, data := .seq items n, slots := sl } ∧
      R (.ok (.ret (.ref (s.heap.push { cls := .type "tuple_iterator", data := .fields #[.ref l, .int 0 0] }).objs.size)))
        { s with heap := (s.heap.push { cls := .type "tuple_iterator", data := .fields #[.ref l, .int 0 0] }).push { cls := .type "enumerate", data := .fields #[.none, .bool false, .ref s.heap.objs.size, rawInt 0, .none, .none] } }) :=
  .of_wp fun prog w A R s h => by
    obtain ⟨hp, g, d, tk, os⟩ := s; obtain ⟨hl, h⟩ := h
    have hsub := sub_enumerate
    have hL : Heap.IsTuple (Shared.heap ⟨hp, g, d, tk, os⟩) l items := ⟨_, hl, rfl, n, rfl⟩
    wp_walk using wpAny_loadPart' hl
    refine wpAny_stack_any fun st => wpAny_pure ?_
    split
    · rename_i c _ _ _ _ _
      cases (c == Value.type "enumerate")
      · wp_walk using wpAny_loadPart' hl, wpAny_pyIter_tuple hL
        exact ⟨_, rfl, h⟩
      · wp_walk using wpAny_loadPart' hl, wpAny_pyIter_tuple hL
        exact ⟨_, rfl, h⟩
    · wp_walk using wpAny_loadPart' hl, wpAny_pyIter_tuple hL
      exact ⟨_, rfl, h⟩
section
variable {prog : Program} {w : World} {A : Around} {E : Value → Shared → Prop} {s : Shared}
theorem call_enumerate_tuple {l : Addr} {items : Array Value} {Q : Value → Shared → Prop} (hL : s.heap.IsTuple l items)
    (h : ∀ h', IsEnum h' (s.heap.objs.size + 1) s.heap.objs.size 0 .none → h'.IsTupleIter s.heap.objs.size l 0 → h'.objs.size = s.heap.objs.size + 2 →
      (∀ b o, s.heap.get? b = some o → h'.get? b = some o) → Q (.ref (s.heap.objs.size + 1)) { s with heap := h' }) :
    wpAny (model prog w) A (call (.type "enumerate") [.ref l]) Q E s := by
  obtain ⟨⟨c, dct, dt, sl⟩, hl, hc, n, hd⟩ := hL
  replace hc : c = .type "tuple" := hc
  replace hd : dt = .seq items n := hd
  subst hc hd
  refine callType_new F.called_enumerate (by decide) (F.typeCall_enumerate_1 _) (F.newCall_enumerate_1 _) (fun obj => F.args_object_init_2 obj _) F.entry_enumerate_new
    (meets_enumerate_newT l items n dct sl) ⟨hl, ?_⟩
  have hz : (s.heap.push { cls := .type "tuple_iterator", data := .fields #[.ref l, .int 0 0] }).objs.size = s.heap.objs.size + 1 := Heap.size_push ..
  show _ ∧ _
  rw [hz]
  have he : IsEnum ((s.heap.push { cls := .type "tuple_iterator", data := .fields #[.ref l, .int 0 0] }).push
      { cls := .type "enumerate", data := .fields #[.none, .bool false, .ref s.heap.objs.size, rawInt 0, .none, .none] }) (s.heap.objs.size + 1) s.heap.objs.size 0 .none := by
    have := Heap.get?_push_size (s.heap.push { cls := .type "tuple_iterator", data := .fields #[.ref l, .int 0 0] })
      (o := { cls := .type "enumerate", data := .fields #[.none, .bool false, .ref s.heap.objs.size, rawInt 0, .none, .none] }) rfl
    rw [hz] at this; exact this
  refine ⟨⟨_, he, rfl⟩, h _ he ⟨_, Heap.get?_push_of_some _ (Heap.get?_push_size _ rfl), rfl, rfl⟩ (by rw [Heap.size_push, hz]) fun b o x => Heap.get?_push_of_some _ (Heap.get?_push_of_some _ x)⟩
end
def IteT (K : PySem.W.Frag) (a : Addr) : It :=
  ⟨fun i H => ∃ (xs : List V) (x : V), SqT K H a xs ∧ xs[i]? = some x, fun i H v H' => ∃ T x, v = .ref T ∧ H T = none ∧ H' = upd H T (.tup [.int (i : Nat), x]) ∧ ∀ xs, SqT K H a xs → xs[i]? = some x, fun i H => ∃ xs : List V, SqT K H a xs ∧ xs.length ≤ i⟩
theorem turn_enumT {P : Program} {w : World} {K : PySem.W.Frag} {elts : List Expr} {kk : Nat} {tpos : Pos} (a e it : Addr) :
    Turn P w K (.Tuple elts kk tpos) (IteT K a) [e, it] e (fun i h => (∃ old, IsEnum h e it ((i : Nat) : Int) old) ∧ h.IsTupleIter it a i ∧ e ≠ it) where
  mem := by simp
  obj := fun i h st b hb => by
    obtain ⟨⟨old, he⟩, ⟨o, ho, hc, hd⟩, _⟩ := st
    have e' : b = e ∨ b = it := by simpa using hb
    rcases e' with z | z
    · rw [z]; exact ⟨_, he, fun v q => nomatch q⟩
    · rw [z]; exact ⟨o, ho, fun v q => by rw [hd] at q; cases q⟩
  keep := fun i h h' st k => let ⟨⟨old, he⟩, hi, hne⟩ := st; ⟨⟨old, k e (by simp) _ he⟩, hi.at fun o q => k it (by simp) o q, hne⟩
  item := by
    intro X hP hw hK hc i pins s σ H E I hf st hg
    subst hP hw hK
    obtain ⟨⟨old, he⟩, hit, hne⟩ := st
    obtain ⟨xs, x, hq, hx⟩ := hg
    obtain ⟨its, rv, p, hz⟩ := I.tuple hq
    obtain ⟨u, hu, ru⟩ := rv.get hx
    have hel : e < s.heap.objs.size := Heap.lt_size he
    have hil : it < s.heap.objs.size := by obtain ⟨_, q, _⟩ := hit; exact Heap.lt_size q
    have hp : s.heap.IsTuple a its.toArray := p
    have ne1 : a ≠ it := fun z => by
      obtain ⟨o1, e1, c1, _⟩ := hp
      obtain ⟨o2, e2, c2, _⟩ := hit
      rw [z, e2] at e1; cases e1
      rw [c2] at c1; injection c1 with c1; exact absurd c1 (by decide)
    have ne2 : e ≠ a := fun z => by
      obtain ⟨o1, e1, c1, _⟩ := hp
      rw [← z, he] at e1; cases e1
      injection c1 with c1; exact absurd c1 (by decide)
    have hlt : i < its.toArray.size := by
      have := (List.getElem?_eq_some_iff.mp hx).1
      rw [List.size_toArray, ← rv.length]; exact this
    refine wpAny_pyNext_enum_itemC (Draws.tuple (prog := X.prog) (w := X.w) (A := X.A.in1) (I.ok.hd hc) it a ne1 its.toArray) he ⟨hit, hp⟩ hlt hne (by simp [hne, ne2]) fun y h' tk hy ho hit' hT hsz hk => ?_
    have ey : y = u := by
      have hy' : its.toArray[i]? = some y := hy
      have hu' : its.toArray[i]? = some u := by simpa using hu
      rw [hy'] at hu'
      exact Option.some.inj hu'
    subst ey
    refine ⟨_, rfl, wpAny_letOwnedTupleGo_enum (s := { s with heap := h', toks := tk + 1 }) ho fun h'' he' sb => ?_⟩
    have hT2 : h''.get? s.heap.objs.size = some { cls := .type "tuple", data := .seq #[.int i tk, y] } := (sb.2 _ (Nat.ne_of_gt hel)).trans hT
    have new : ObjOk X.prog X.w (upd H s.heap.objs.size (.tup [.int (i : Nat), x])) h'' s.heap.objs.size (.tup [.int (i : Nat), x]) :=
      ⟨by show 2 ≤ sizeLine; decide, [.int i tk, y], .cons ⟨_, rfl⟩ (.cons ru .nil), ⟨_, hT2, rfl, _, rfl⟩⟩
    have I1 : Inv X pins σ (upd H s.heap.objs.size (.tup [.int (i : Nat), x])) { s with heap := h'', toks := tk + 1 } :=
      I.turnedNew (ch := [e, it]) (fun b ob hb q => (sb.2 b (fun z => hb (by simp [z]))).trans (hk b ob (fun z => hb (by simp [z])) (fun z => hb (by simp [z])) q)) hf (Nat.le_refl _) new
    refine ⟨.ref s.heap.objs.size, _, I1, rfl, ⟨_, x, rfl, I.hok.fresh (Nat.le_refl _), rfl, fun ys hy => by rw [I.tuple_inj hy hq]; exact hx⟩, ⟨⟨y, ?_⟩, hit'.1.at fun o q => (sb.2 it (Ne.symm hne)).trans q, hne⟩, fun b hb => ?_⟩
    · have e1 : ((i + 1 : Nat) : Int) = (i : Int) + 1 := by omega
      rw [e1]; exact he'
    · have hb' : b < s.heap.objs.size := by
        have e' : b = e ∨ b = it := by simpa using hb
        rcases e' with z | z
        · rw [z]; exact hel
        · rw [z]; exact hil
      rw [upd_ne (Nat.ne_of_lt hb')]
      exact (hf b hb).1
  done := by
    intro X hP hw hK hc i pins s σ H E I hf st hg
    subst hP hw hK
    obtain ⟨⟨old, he⟩, hit, hne⟩ := st
    obtain ⟨xs, hq, hx⟩ := hg
    obtain ⟨its, rv, p, hz⟩ := I.tuple hq
    obtain ⟨f0, f1, f2, f3, f4, f5⟩ := hf it (by simp)
    have hl := rv.length
    have hp : s.heap.IsTuple a its.toArray := p
    have ne1 : a ≠ it := fun z => by
      obtain ⟨o1, e1, c1, _⟩ := hp
      obtain ⟨o2, e2, c2, _⟩ := hit
      rw [z, e2] at e1; cases e1
      rw [c2] at c1; injection c1 with c1; exact absurd c1 (by decide)
    have hT : s.TypeIs (.ref e) "enumerate" := ⟨_, he, rfl⟩
    unfold pyNext
    refine wpAny_bind (wpAny_attempt (wpAny_callSpecial?_slot (name := Str.ofString "__next__") hT F.slot_enumerate_next
      (wpAny_call_entry F.slot_enumerate_next hT F.entry_enumerate_next ?_ (F.args_enumerate_next_1 _))))
    show wpAny _ _ (field (.ref e) 2 >>= _) _ _ _
    refine wpAny_bind (wpAny_field he rfl (x := .ref it) rfl ?_)
    refine wpAny_bind (wpAny_nextOf_tuple_end (A := X.A.in1) (I.ok.hd hc) hit hp (by simp; omega) fun h' x he' hx' => ?_)
    obtain ⟨o, ho, hc⟩ := hx'
    refine wpAny_bind (wpAny_isInstance (T := "StopIteration") (b := true) ⟨o, ho, hc⟩ isSubtype_stop ?_)
    exact wpAny_pure ⟨rfl, I.turned (t' := s.toks) (fun b o hb q => he' b o hb q) f0 f1 f3 f4 f5⟩
  self := fun A i s Q E st h => let ⟨⟨_, he⟩, _⟩ := st; wpAny_pyIter_enum he h
def iEnumT (K : PySem.W.Frag) (ta : TA) : TI := fun σ H R => ta σ H fun vs H1 => ∃ a xs, vs = [.ref a] ∧ ((Rd H1 a (.lst xs) ∧ R (Ite K a) H1) ∨ (SqT K H1 a xs ∧ R (IteT K a) H1))
theorem pi_enumT {X : Cx} {e : Expr} {ta : TA} {p pos tpos : Pos} {elts : List Expr} {kk : Nat} (hg : Gl X "enumerate") (hm : X.mg "enumerate" = none) (ha : PA X [e] ta) (hs : starEach [e] X.env = [(false, eval e X.env)]) :
    PI X (.Tuple elts kk tpos) (.Call (.Name "enumerate" p) [e] [] pos) (iEnumT X.K ta) := by
  refine ⟨fun pins s σ H R I h => ?_⟩
  refine Call_ (ld_blt I hg hm boot_enumerate (PyProof.Rows.callWith_type1 (thn (ha.run pos pins s σ H _ I h) fun us s1 ⟨vs, H1, I1, r1, q1⟩ => ?_) hs rfl))
  obtain ⟨a, xs, ex, q⟩ := q1
  subst ex
  cases r1 with
  | cons r rr =>
    cases rr
    cases r
    have sz : ∀ (b : Addr), b ∈ [s1.heap.objs.size + 1, s1.heap.objs.size] → FpOk X pins H1 b := fun b hb => by
      have e' : b = s1.heap.objs.size + 1 ∨ b = s1.heap.objs.size := by simpa using hb
      have hle : s1.heap.objs.size ≤ b := by
        rcases e' with z | z
        · rw [z]; exact Nat.le_add_right _ _
        · rw [z]; exact Nat.le_refl _
      exact I1.fpOk hle (I1.hok.fresh hle)
    rcases q with ⟨hq, q⟩ | ⟨hq, q⟩
    · obtain ⟨its, rv, p', hz⟩ := I1.list (.inl hq)
      refine call_enumerate_list p'.isList fun h' he hit hsz hk => wpAny_pyIter_enum he ?_
      have I2 : Inv X pins σ H1 { s1 with heap := h' } := I1.kept (t' := s1.toks) hk
      exact ⟨s1.heap.objs.size + 1, [s1.heap.objs.size + 1, s1.heap.objs.size], _, _, H1, rfl, I2, turn_enum a (s1.heap.objs.size + 1) s1.heap.objs.size, ⟨⟨.none, he⟩, hit, Nat.succ_ne_self _⟩, sz, q⟩
    · obtain ⟨its, rv, p', hz⟩ := I1.tuple hq
      refine call_enumerate_tuple p' fun h' he hit hsz hk => wpAny_pyIter_enum he ?_
      have I2 : Inv X pins σ H1 { s1 with heap := h' } := I1.kept (t' := s1.toks) hk
      exact ⟨s1.heap.objs.size + 1, [s1.heap.objs.size + 1, s1.heap.objs.size], _, _, H1, rfl, I2, turn_enumT a (s1.heap.objs.size + 1) s1.heap.objs.size, ⟨⟨.none, he⟩, hit, Nat.succ_ne_self _⟩, sz, q⟩

/-! ### iterators by data -/
def ItR (g : Gc) (F : Hp) (f : List Addr) (J : It) (w : Itm) : Prop := ∀ (R : Rs) (i : Nat) (F' : Hp) (f' : List Addr) (S' : Store) (H' : Hp), Ext F f F' f' → Sm g F' f' R S' H' → w.ck S' →
  (∀ v, w.vs[i]? = some v → J.go i H' ∧ ∀ x H'', J.yld i H' x H'' → ∃ F'', Ext F' f' F'' f' ∧ Sm g F'' f' R S' H'' ∧ VR g F'' f' x v) ∧ (w.vs.length ≤ i → J.stop i H')
theorem ItR.sub {g : Gc} {F F1 : Hp} {f f1 : List Addr} {J : It} {w : Itm} (h : ItR g F f J w) (e : Ext F f F1 f1) : ItR g F1 f1 J w := fun R i F' f' S' H' e' s c => h R i F' f' S' H' (e.trans e') s c
section
variable {g : Gc} {F : Hp} {f : List Addr}
theorem itr_list {a : Addr} {xs : List V} {ds : List PyData} (h : Rd F a (.lst xs)) (t : DaAll g.K F xs ds) : ItR g F f (Itl g.K a) ⟨ds.map .d, none⟩ := by
  intro R i F' f' S' H' e s _
  have h' : SqL g.K H' a xs := .inl (Rd.sub (fun b o q => s.le b o (e.le b o q)) h)
  refine ⟨fun v hv => ?_, fun hi => ⟨xs, h', by rw [t.len]; simpa using hi⟩⟩
  rw [List.getElem?_map] at hv
  obtain ⟨d, hd, rfl⟩ := Option.map_eq_some_iff.mp hv
  obtain ⟨y, hy, ry⟩ := t.get hd
  refine ⟨⟨xs, y, h', hy⟩, fun x H'' q => ?_⟩
  obtain ⟨rfl, q⟩ := q
  have e2 := q xs h'
  rw [hy] at e2
  cases e2
  exact ⟨F', Ext.refl _ _, s, Da.sub e.le ry⟩
theorem itr_tup {a : Addr} {xs : List V} {ds : List PyData} (h : SqT g.K F a xs) (t : DaAll g.K F xs ds) : ItR g F f (Itt g.K a) ⟨ds.map .d, none⟩ := by
  intro R i F' f' S' H' e s _
  have h' : SqT g.K H' a xs := SqT.sub (fun b o q => s.le b o (e.le b o q)) h
  refine ⟨fun v hv => ?_, fun hi => ⟨xs, h', by rw [t.len]; simpa using hi⟩⟩
  rw [List.getElem?_map] at hv
  obtain ⟨d, hd, rfl⟩ := Option.map_eq_some_iff.mp hv
  obtain ⟨y, hy, ry⟩ := t.get hd
  refine ⟨⟨xs, y, h', hy⟩, fun x H'' q => ?_⟩
  obtain ⟨rfl, q⟩ := q
  have e2 := q xs h'
  rw [hy] at e2
  cases e2
  exact ⟨F', Ext.refl _ _, s, Da.sub e.le ry⟩
theorem itr_loc {a : Addr} {n : Nat} {ds : List PyData} (h : f[n]? = some a) : ItR g F f (Itl g.K a) ⟨ds.map .d, some (n, ds)⟩ := by
  intro R i F' f' S' H' e s c
  have c' : S'[n]? = some (.lst ds) := c
  obtain ⟨a', xs, q1, q2, t⟩ := s.getL c'
  rw [e.pre n a h] at q1
  cases q1
  have h' : SqL g.K H' a xs := .inl (.inl q2)
  refine ⟨fun v hv => ?_, fun hi => ⟨xs, h', by rw [t.len]; simpa using hi⟩⟩
  rw [List.getElem?_map] at hv
  obtain ⟨d, hd, rfl⟩ := Option.map_eq_some_iff.mp hv
  obtain ⟨y, hy, ry⟩ := t.get hd
  refine ⟨⟨xs, y, h', hy⟩, fun x H'' q => ?_⟩
  obtain ⟨rfl, q⟩ := q
  have e2 := q xs h'
  rw [hy] at e2
  cases e2
  exact ⟨F', Ext.refl _ _, s, ry⟩
theorem itr_str {z : Str} : ItR g F f (Its z) ⟨z.cps.toList.map fun c => .d (.str ⟨#[c]⟩), none⟩ := by
  intro R i F' f' S' H' e s _
  refine ⟨fun v hv => ?_, fun hi => by show z.cps.size ≤ i; simpa using hi⟩
  rw [List.getElem?_map] at hv
  obtain ⟨d, hd, rfl⟩ := Option.map_eq_some_iff.mp hv
  have hd' : z.cps[i]? = some d := by simpa using hd
  refine ⟨(Array.getElem?_eq_some_iff.mp hd').1, fun x H'' q => ?_⟩
  obtain ⟨rfl, c, q1, rfl⟩ := q
  rw [hd'] at q1
  cases q1
  exact ⟨F', Ext.refl _ _, s, .str _⟩
theorem itr_rng {lo : Int} {n : Nat} : ItR g F f (Itr lo n) (rngI lo n) := by
  intro R i F' f' S' H' e s _
  refine ⟨fun v hv => ?_, fun hi => by show n ≤ i; simpa [rngI] using hi⟩
  have hv' : ((List.range n).map fun (i : Nat) => Val.d (.int (lo + (i : Int))))[i]? = some v := hv
  rw [List.getElem?_map] at hv'
  obtain ⟨d, hd, rfl⟩ := Option.map_eq_some_iff.mp hv'
  obtain ⟨h1, h2⟩ := List.getElem?_eq_some_iff.mp hd
  simp at h1 h2
  subst h2
  refine ⟨h1, fun x H'' q => ?_⟩
  obtain ⟨rfl, rfl⟩ := q
  exact ⟨F', Ext.refl _ _, s, .int _⟩
theorem itr_down {lo : Int} {n : Nat} : ItR g F f (Itc lo (-1) n) ⟨(List.range n).map fun (k : Nat) => Val.d (.int (lo - (k : Int))), none⟩ := by
  intro R i F' f' S' H' e s _
  refine ⟨fun v hv => ?_, fun hi => by show n ≤ i; simpa using hi⟩
  rw [List.getElem?_map] at hv
  obtain ⟨d, hd, rfl⟩ := Option.map_eq_some_iff.mp hv
  obtain ⟨h1, h2⟩ := List.getElem?_eq_some_iff.mp hd
  simp at h1 h2
  subst h2
  refine ⟨h1, fun x H'' q => ?_⟩
  obtain ⟨rfl, rfl⟩ := q
  refine ⟨F', Ext.refl _ _, s, ?_⟩
  have e1 : lo + (i : Int) * -1 = lo - (i : Int) := by omega
  rw [e1]
  exact .int _
/-- a new pair is handed out -/
theorem itr_pair {F' : Hp} {f' : List Addr} {R : Rs} {S' : Store} {H' : Hp} {T : Addr} {x y : V} {c d : PyData} (s : Sm g F' f' R S' H') (hT : H' T = none) (rx : Da g.K F' x c) (ry : Da g.K F' y d) :
    ∃ F'', Ext F' f' F'' f' ∧ Sm g F'' f' R S' (upd H' T (.tup [x, y])) ∧ VR g F'' f' (.ref T) (.d (.tuple [c, d])) := by
  obtain ⟨s1, e1⟩ := s.new (o := .tup [x, y]) hT
  exact ⟨_, e1, s1, .tup (.inl (.inl upd_same)) (.cons (Da.sub e1.le rx) (.one (Da.sub e1.le ry)))⟩
theorem zip_get {α β γ : Type} (φ : α × β → γ) {xs : List α} {ys : List β} {i : Nat} {v : γ} (h : ((xs.zip ys).map φ)[i]? = some v) : ∃ a b, xs[i]? = some a ∧ ys[i]? = some b ∧ v = φ (a, b) := by
  rw [List.getElem?_map] at h
  obtain ⟨⟨a, b⟩, hp, rfl⟩ := Option.map_eq_some_iff.mp h
  rw [List.getElem?_zip_eq_some] at hp
  exact ⟨a, b, hp.1, hp.2, rfl⟩
theorem itr_zipL {a b : Addr} {xs ys : List V} {ds es : List PyData} (h : Rd F a (.lst xs)) (t : DaAll g.K F xs ds) (h2 : Rd F b (.lst ys)) (t2 : DaAll g.K F ys es) :
    ItR g F f (Itz g.K a b) ⟨(ds.zip es).map fun p => .d (.tuple [p.1, p.2]), none⟩ := by
  intro R i F' f' S' H' e s _
  have h' : SqL g.K H' a xs := .inl (Rd.sub (fun b o q => s.le b o (e.le b o q)) h)
  have h2' : SqL g.K H' b ys := .inl (Rd.sub (fun b o q => s.le b o (e.le b o q)) h2)
  refine ⟨fun v hv => ?_, fun hi => ⟨xs, ys, h', h2', ?_⟩⟩
  · obtain ⟨c, d, hc, hd, rfl⟩ := zip_get (fun p => Val.d (.tuple [p.1, p.2])) hv
    obtain ⟨x1, hx1, r1⟩ := t.get hc
    obtain ⟨x2, hx2, r2⟩ := t2.get hd
    refine ⟨⟨xs, ys, x1, x2, h', h2', hx1, hx2⟩, fun x H'' q => ?_⟩
    obtain ⟨T, y1, y2, rfl, hT, rfl, q1, q2⟩ := q
    have e1 := q1 xs h'
    have e2 := q2 ys h2'
    rw [hx1] at e1; rw [hx2] at e2
    cases e1; cases e2
    exact itr_pair s hT (Da.sub e.le r1) (Da.sub e.le r2)
  · have hi' : (ds.zip es).length ≤ i := by simpa using hi
    rw [List.length_zip] at hi'
    rw [t.len, t2.len]
    omega
theorem itr_zipT {a b : Addr} {xs ys : List V} {ds es : List PyData} (h : SqT g.K F a xs) (t : DaAll g.K F xs ds) (h2 : SqT g.K F b ys) (t2 : DaAll g.K F ys es) :
    ItR g F f (RZ.ItzT g.K a b) ⟨(ds.zip es).map fun p => .d (.tuple [p.1, p.2]), none⟩ := by
  intro R i F' f' S' H' e s _
  have h' : SqT g.K H' a xs := SqT.sub (fun b o q => s.le b o (e.le b o q)) h
  have h2' : SqT g.K H' b ys := SqT.sub (fun b o q => s.le b o (e.le b o q)) h2
  refine ⟨fun v hv => ?_, fun hi => ⟨xs, ys, h', h2', ?_⟩⟩
  · obtain ⟨c, d, hc, hd, rfl⟩ := zip_get (fun p => Val.d (.tuple [p.1, p.2])) hv
    obtain ⟨x1, hx1, r1⟩ := t.get hc
    obtain ⟨x2, hx2, r2⟩ := t2.get hd
    refine ⟨⟨xs, ys, x1, x2, h', h2', hx1, hx2⟩, fun x H'' q => ?_⟩
    obtain ⟨T, y1, y2, rfl, hT, rfl, q1, q2⟩ := q
    have e1 := q1 xs h'
    have e2 := q2 ys h2'
    rw [hx1] at e1; rw [hx2] at e2
    cases e1; cases e2
    exact itr_pair s hT (Da.sub e.le r1) (Da.sub e.le r2)
  · have hi' : (ds.zip es).length ≤ i := by simpa using hi
    rw [List.length_zip] at hi'
    rw [t.len, t2.len]
    omega
theorem idx_get {ds : List PyData} {i : Nat} {v : Val} (h : ((ds.zipIdx).map fun p => Val.d (.tuple [.int (p.2 : Int), p.1]))[i]? = some v) : ∃ a, ds[i]? = some a ∧ v = .d (.tuple [.int (i : Int), a]) := by
  rw [List.getElem?_map] at h
  obtain ⟨⟨a, j⟩, hp, rfl⟩ := Option.map_eq_some_iff.mp h
  rw [List.getElem?_zipIdx] at hp
  obtain ⟨b, hb, e⟩ := Option.map_eq_some_iff.mp hp
  simp at e
  obtain ⟨rfl, rfl⟩ := e
  exact ⟨_, hb, rfl⟩
theorem itr_enumL {a : Addr} {xs : List V} {ds : List PyData} (h : Rd F a (.lst xs)) (t : DaAll g.K F xs ds) : ItR g F f (Ite g.K a) ⟨ds.zipIdx.map fun p => .d (.tuple [.int (p.2 : Int), p.1]), none⟩ := by
  intro R i F' f' S' H' e s _
  have h' : SqL g.K H' a xs := .inl (Rd.sub (fun b o q => s.le b o (e.le b o q)) h)
  refine ⟨fun v hv => ?_, fun hi => ⟨xs, h', by rw [t.len]; simpa using hi⟩⟩
  obtain ⟨c, hc, rfl⟩ := idx_get hv
  obtain ⟨x1, hx1, r1⟩ := t.get hc
  refine ⟨⟨xs, x1, h', hx1⟩, fun x H'' q => ?_⟩
  obtain ⟨T, y1, rfl, hT, rfl, q1⟩ := q
  have e1 := q1 xs h'
  rw [hx1] at e1
  cases e1
  exact itr_pair s hT (.int _) (Da.sub e.le r1)
theorem itr_enumT {a : Addr} {xs : List V} {ds : List PyData} (h : SqT g.K F a xs) (t : DaAll g.K F xs ds) : ItR g F f (IteT g.K a) ⟨ds.zipIdx.map fun p => .d (.tuple [.int (p.2 : Int), p.1]), none⟩ := by
  intro R i F' f' S' H' e s _
  have h' : SqT g.K H' a xs := SqT.sub (fun b o q => s.le b o (e.le b o q)) h
  refine ⟨fun v hv => ?_, fun hi => ⟨xs, h', by rw [t.len]; simpa using hi⟩⟩
  obtain ⟨c, hc, rfl⟩ := idx_get hv
  obtain ⟨x1, hx1, r1⟩ := t.get hc
  refine ⟨⟨xs, x1, h', hx1⟩, fun x H'' q => ?_⟩
  obtain ⟨T, y1, rfl, hT, rfl, q1⟩ := q
  have e1 := q1 xs h'
  rw [hx1] at e1
  cases e1
  exact itr_pair s hT (.int _) (Da.sub e.le r1)
end
end Ev
end

section
set_option Elab.async false
set_option linter.all false
set_option maxRecDepth 100000
set_option maxHeartbeats 4000000
/-! E7: calls, expressions, tests -/
namespace Ev
open PySem PySem.Spec PyProof.Rows L2

theorem _root_.L2.PE.imp {X : Cx} {e : Expr} {t u : TE} (h : L2.PE X e t) (i : ∀ σ H Q, u σ H Q → t σ H Q) : L2.PE X e u := Ev.PE.imp h i
theorem _root_.L2.PT.imp {X : Cx} {e : Expr} {t u : TT} (h : L2.PT X e t) (i : ∀ σ H Q, u σ H Q → t σ H Q) : L2.PT X e u := Ev.PT.imp h i
theorem _root_.L2.PW.imp {X : Cx} {e : Expr} {t u : TT} (h : L2.PW X e t) (i : ∀ σ H Q, u σ H Q → t σ H Q) : L2.PW X e u := Ev.PW.imp h i
theorem _root_.L2.PA.imp {X : Cx} {e : List Expr} {t u : TA} (h : L2.PA X e t) (i : ∀ σ H Q, u σ H Q → t σ H Q) : L2.PA X e u := Ev.PA.imp h i
theorem _root_.L2.PS.imp {X : Cx} {e : Stmt} {t u : TS} (h : L2.PS X e t) (i : ∀ D σ H, u D σ H → t D σ H) : L2.PS X e u := Ev.PS.imp h i
theorem _root_.L2.PSs.imp {X : Cx} {e : List Stmt} {t u : TS} (h : L2.PSs X e t) (i : ∀ D σ H, u D σ H → t D σ H) : L2.PSs X e u := Ev.PSs.imp h i

/-! ### what a def keeps, where no repr is under way -/
structure FnG (P : Program) (w : World) (K : PySem.W.Frag) (mg : Str → Option Value) (base : Heap) (k : Nat) (f : Addr) (fd : FuncData) (ps : List Str) (sp : Sp) : Prop where
  len : ∀ vs H Q E, sp vs H Q E → vs.length = ps.length
  run : ∀ (A : Around) (outer : List Env) (s : Shared) (H : Hp) (args : Args) (us : List Value) (vs : List V) (Q : VK) (E : XK), Room k A → A.guards = some [] → Env0 P w K mg base A outer s H →
    BindsTo s fd args (ps.zip us) → Vals vs us → sp vs H Q E → codeAny (model P w) A (.call (.ref f) args) (CR (L2.CX P w) outer P w H s Q E) s
theorem fnG_of {P : Program} {w : World} {K : PySem.W.Frag} {mg : Str → Option Value} {base : Heap} {k : Nat} {f : Addr} {fd : FuncData} {x qual : Str} {params : Arguments} {body : List Stmt} {scope : Scope} {dvs : List V} {kws : List (Str × V)} {N ps : List Str} {sp : Sp}
    (Fd : FunD K x qual params body scope dvs kws f fd) (S : FnScope N ps scope) (len : ∀ vs H Q E, sp vs H Q E → vs.length = ps.length)
    (hb : ∀ (cdv : Value) (A : Around) (outer : List Env) (s : Shared) (H : Hp) (vs : List V) (Q : VK) (E : XK), Room k (A.deeper (envOfC qual scope s.heap.objs.size f cdv)) → A.guards = some [] → sp vs H Q E →
      ∃ t, PSs (cxOf (L2.CX P w) P w K mg base N qual scope f cdv A outer s H E) body t ∧ t { nx := fun _ H' => Q .non H', rt := Q } (start N vs) H) : FnG P w K mg base (k + 1) f fd ps sp := by
  obtain ⟨oc, od, dV, kV, doc, pm, an, cdv, ct, osl, rfl, lk, hcd, _, _⟩ := Fd.ex
  refine ⟨len, fun A outer s H args us vs Q E hr hg e0 hbind r hsp => ?_⟩
  have hl := len _ _ _ _ hsp
  have KX : K.In s.heap := e0.mod.kin.keeps fun b o e => (e0.bs b o e).1
  have lim : s.heap.NoLimit := e0.mod.nolimit.keeps fun b o e => (e0.bs b o e).1
  have hkind : ∀ y ∈ ps.zip us, scope.names.lookup y.1 = some .local ∨ (scope.names.lookup y.1 = some .cell ∧ ((cellsFrom (s.heap.objs.size + 1) scope.names []).lookup y.1).isSome = true) := fun ⟨n, v⟩ hy => by
    rcases S.par n (List.of_mem_zip hy).1 with q | q
    · exact .inl q
    · exact .inr ⟨q, PySem.W.cellsFrom_some _ _ _ (.inl q)⟩
  refine codeAny_call_function hr.depth (KX _ _ lk) rfl S.co S.gen rfl (PySem.W.codeRec_of KX hcd) (hbind _ _ _ _ ?_)
  refine wpAny_newFunctionEnv_cells S.kind hkind fun env he s1 x => ?_
  subst he
  refine ⟨lim.keeps x.toInCall.keep, codeAny_func ?_⟩
  obtain ⟨t, ht, hq⟩ := hb cdv A outer s H vs Q E (hr.deeper _) hg hsp
  have I : Inv (cxOf (L2.CX P w) P w K mg base N qual scope f cdv A outer s H E) [] (start N vs) H s1 := inv_start S hr.hd e0 hl r x
  refine wpAny_mono (ht.run [] s1 (start N vs) H _ I hq) (fun fl s' hs => ?_) fun e s' hs => hs
  have fin : ∀ {σ' : L2.St} {H' : Hp} {v : V} {u : Value}, Inv (cxOf (L2.CX P w) P w K mg base N qual scope f cdv A outer s H E) [] σ' H' s' → RelV v u → Q v H' → L2.CE outer P w H s Q u s' :=
    fun {σ' H' v u} J rv q => ⟨v, H', J.os, J.bare, J.base, J.hok, rv, q⟩
  cases fl with
  | ret u =>
    obtain ⟨v, σ', H', J, rv, q⟩ := hs
    exact fin J rv q
  | next =>
    obtain ⟨σ', H', J, q⟩ := hs
    exact fin (v := V.non) (u := Value.none) J rfl q
  | brk =>
    obtain ⟨_, _, _, q⟩ := hs
    exact False.elim q
  | cont =>
    obtain ⟨_, _, _, q⟩ := hs
    exact False.elim q
/-- a def's promise by its meaning -/
def spD (g : Gc) (C : Calls) (k np : Nat) : Sp := fun vs H Q E => ∃ F f R S args, Sm g F f R S H ∧ VRs g F f vs args ∧ args.length = np ∧
  Sat g F f R (fun c d H' => E c d H') (C k args S) (fun v F' f' S' H' => ∀ x, VR g F' f' x v → Q x H')
theorem spD_len {g : Gc} {C : Calls} {k np : Nat} : ∀ vs H Q E, spD g C k np vs H Q E → vs.length = np := fun vs H Q E h => by
  obtain ⟨F, f, R, S, args, _, r, e, _⟩ := h
  rw [r.len, e]

/-! ### small facts -/
def nstar : Expr → Bool
  | .Starred _ _ => false
  | _ => true
theorem star_cons {e : Expr} {es : List Expr} {env : Env} (h : nstar e = true) : starEach (e :: es) env = (false, eval e env) :: starEach es env := by
  cases e <;> first | rfl | exact (Bool.false_ne_true h).elim
theorem star_any {pos : Pos} {env : Env} : ∀ {es : List Expr}, es.all nstar = true → (backTo pos (starEach es env)).any (·.1) = false
  | [], _ => rfl
  | e :: es, h => by
    rw [List.all_cons, Bool.and_eq_true] at h
    rw [star_cons h.1]
    exact star_any (es := es) h.2
theorem asg_cons {e : Expr} {es : List Expr} {env : Env} (h : nstar e = true) : assignEach (e :: es) env = (false, assign e env) :: assignEach es env := by
  cases e <;> first | rfl | exact (Bool.false_ne_true h).elim
def nslice : Expr → Bool
  | .Slice _ _ _ _ => false
  | _ => true
theorem plain_of {b : Expr} (h : nslice b = true) : PlainIx b := by
  intro o i
  cases b <;> first | rfl | exact (Bool.false_ne_true h).elim
/-- an expression whose test is its value's -/
def ntest : Expr → Bool
  | .UnaryOp .Not _ _ => false
  | .BoolOp _ _ _ => false
  | .IfExp _ _ _ _ => false
  | .Compare _ _ _ _ => false
  | _ => true
theorem test_of {a : Expr} {env : Env} (h : ntest a = true) : ∀ whole, isTrue a env whole = (do let v ← whole; standAt a.pos; holding [v] (truthy v)) := by
  intro whole
  cases a <;> first
    | rfl
    | exact (Bool.false_ne_true h).elim
    | (rename_i op _ _; cases op <;> first | rfl | exact (Bool.false_ne_true h).elim)
def nmark : Expr → Bool
  | .Set _ _ _ => false
  | _ => true
theorem mark_of {b : Expr} {op : CmpOp} (h : nmark b = true) : behindInMarks op b = false := by
  cases b <;> first | rfl | exact (Bool.false_ne_true h).elim
theorem marks_of {b c : Expr} {o1 o2 : CmpOp} (h : nmark c = true) : lastMarks [o1, o2] [b, c] = false := mark_of (op := o2) h

section
variable {g : Gc} {F : Hp} {f : List Addr} {R : Rs} {S : Store} {H : Hp}
theorem tob_of {β : Type} {v : Val} {x : V} {W : WH} {φ : Bool → Store → Out β} {k : Kn β} (h : Sat g F f R W ((tobV v S).bind φ) k) (r : VR g F f x v) : ∃ b, x = .bl b ∧ Sat g F f R W (φ b S) k := by
  unfold tobV at h
  split at h
  · cases r with
    | bl b => exact ⟨_, rfl, h⟩
  · exact h.elim
theorem tob_of' {v : Val} {x : V} {W : WH} {k : Kn Bool} (h : Sat g F f R W (tobV v S) k) (r : VR g F f x v) : ∃ b, x = .bl b ∧ Sat g F f R W (.ok b S) k := by
  unfold tobV at h
  split at h
  · cases r with
    | bl b => exact ⟨_, rfl, h⟩
  · exact h.elim
theorem isE_len {α β : Type} {xs : List α} {ys : List β} (h : xs.length = ys.length) : (!xs.isEmpty) = !ys.isEmpty := by
  cases xs <;> cases ys <;> first | rfl | simp at h
theorem tru_of {v : Val} {x : V} {W : WH} {k : Kn Bool} (s : Sm g F f R S H) (h : Sat g F f R W (truO v S) k) (r : VR g F f x v) : ∃ b, TruV g.K x H b ∧ Sat g F f R W (.ok b S) k := by
  unfold truO at h
  split at h
  · rename_i b hb
    refine ⟨b, ?_, h⟩
    unfold truV at hb
    split at hb
    · cases r; cases hb; rfl
    · cases r; cases hb; rfl
    · cases r; cases hb; rfl
    · cases r
      split at hb
      · rename_i hz; cases hb; exact ⟨hz, rfl⟩
      · cases hb
    · cases r with
      | lst h1 h2 => cases hb; exact .inl ⟨_, .inl (Rd.sub s.le h1), (isE_len h2.len).symm⟩
    · cases r with
      | tup h1 h2 => cases hb; exact .inr (.inl ⟨_, SqT.sub s.le h1, (isE_len h2.len).symm⟩)
    · obtain ⟨a, h1, rfl⟩ := r
      split at hb
      · rename_i xs hS
        cases hb
        obtain ⟨a', ys, q1, q2, q3⟩ := s.getL hS
        rw [h1] at q1; cases q1
        exact .inl ⟨ys, .inl (.inl q2), (isE_len q3.len).symm⟩
      · cases hb
    · cases hb
  · exact h.elim
theorem datas_da : ∀ {vs : List Val} {xs : List V} {ds : List PyData}, VRs g F f xs vs → datas vs = some ds → DaAll g.K F xs ds
  | [], _, _, r, e => by cases r; cases e; exact .nil
  | .d x :: vs, _, _, r, e => by
    cases r with
    | cons r1 r2 =>
      unfold datas at e
      cases q : datas vs with
      | none => rw [q] at e; cases e
      | some l => rw [q] at e; cases e; exact .cons r1 (datas_da r2 q)
  | .loc n :: vs, _, _, r, e => by cases e
  | .fn n :: vs, _, _, r, e => by cases e
end

/-! ### expressions -/
section
variable {X : Cx} {g : Gc} {W : WX} {a b c : Expr} {ta tb tc : TD Val} {pos : Pos}
theorem pd_var {i : Nat} {x : Str} (hN : X.N[i]? = some x) (hv : Vis X.env.scope x) (hd : (x == ("__debug__" : Str)) = false) (hcd : (x == ("__classdict__" : Str)) = false) : PE X (.Name x pos) (rd g W (dVar i)) :=
  (pe_var hN hv hd hcd).imp fun σ H Q ⟨F, f, R, ρ, S, s, e, h⟩ => by
    unfold dVar at h
    split at h
    · rename_i v q
      obtain ⟨y, q1, r⟩ := e.get i v q
      exact ⟨y, q1, h.ok s y r⟩
    · exact h.elim
theorem pd_cst {e : Expr} {d : PyData} {v : V} (h : PE X e (tC v)) (r : ∀ F, Da g.K F v d) : PE X e (rd g W (dCst d)) := h.imp fun σ H Q ⟨F, f, R, ρ, S, s, e, q⟩ => q.ok s v (r F)
theorem pd_fnv {e : Expr} {k : Nat} (h : PE X e (tC (.ref (g.ad k)))) : PE X e (rd g W fun _ S => .ok (.fn k) S) := h.imp fun σ H Q ⟨F, f, R, ρ, S, s, e, q⟩ => q.ok s (.ref (g.ad k)) rfl
theorem tOp_rd {r : R2} {φ : Val → Val → Store → Out Val} (hr : RealB g r φ) {σ : L2.St} {H : Hp} {Q : VK} (h : rd g W (dB2 φ ta tb) σ H Q) : tOp r (rd g W ta) (rd g W tb) σ H Q := by
  obtain ⟨F, f, R, ρ, S, s, e, h⟩ := h
  exact rd_bind s e h fun v F1 f1 S1 H1 x e1 s1 en1 r1 h1 => rd_bind s1 en1 h1 fun u F2 f2 S2 H2 y e2 s2 en2 r2 h2 => hr F2 f2 R S2 H2 x y v u _ Q s2 (r1.sub e2) r2 h2
theorem pd_bin {op : Operator} {r : R2} {φ : Val → Val → Store → Out Val} (ho : OpR X (binaryOp op) r) (hr : RealB g r φ) (ha : PE X a (rd g W ta)) (hb : PE X b (rd g W tb)) : PE X (.BinOp a op b pos) (rd g W (dB2 φ ta tb)) :=
  (pe_op ho ha hb).imp fun σ H Q h => tOp_rd hr h
theorem pd_cmp {op : CmpOp} {r : R2} {φ : Val → Val → Store → Out Val} (ho : OpR X (compareOp op) r) (hr : RealB g r φ) (ha : PE X a (rd g W ta)) (hb : PE X b (rd g W tb)) (hm : nmark b = true) : PE X (.Compare a [op] [b] pos) (rd g W (dB2 φ ta tb)) :=
  (pe_cmpR ho ha hb (mark_of hm)).imp fun σ H Q h => tOp_rd hr h
theorem pt_cmpD {op : CmpOp} {r : R2} {φ : Val → Val → Store → Out Val} (ho : OpR X (compareOp op) r) (hr : RealB g r φ) (ha : PE X a (rd g W ta)) (hb : PE X b (rd g W tb)) (hm : nmark b = true) :
    PT X (.Compare a [op] [b] pos) (rdT g W fun ρ S => (dB2 φ ta tb ρ S).bind tobV) :=
  (pt_cmpR ho ha hb (mark_of hm)).imp fun σ H Q ⟨F, f, R, ρ, S, s, e, h⟩ => tOp_rd hr (Q := fun x H' => ∃ k, x = .bl k ∧ Q k H') (rd_bind s e h fun v F1 f1 S1 H1 x e1 s1 en1 r1 h1 => by
    obtain ⟨k, ex, h2⟩ := tob_of' h1 r1
    exact ⟨k, ex, h2.ok s1 k rfl⟩)
def chnD (φ ψ : Val → Val → Store → Out Val) (ta tb tc : TD Val) : TD Val := fun ρ S => (ta ρ S).bind fun v S1 => (tb ρ S1).bind fun u S2 => (φ v u S2).bind fun k S3 => (tobV k S3).bind fun kb S4 => if kb = true then (tc ρ S4).bind fun z S5 => ψ u z S5 else .ok (.d (.bool false)) S4
theorem chn_rd {r r' : R2} {φ ψ : Val → Val → Store → Out Val} (hr : RealB g r φ) (hr' : RealB g r' ψ) {σ : L2.St} {H : Hp} {Q : VK} (h : rd g W (chnD φ ψ ta tb tc) σ H Q) : tChain r r' (rd g W ta) (rd g W tb) (rd g W tc) σ H Q := by
  obtain ⟨F, f, R, ρ, S, s, e, h⟩ := h
  refine rd_bind s e h fun v F1 f1 S1 H1 x e1 s1 en1 r1 h1 => rd_bind s1 en1 h1 fun u F2 f2 S2 H2 y e2 s2 en2 r2 h2 => ?_
  refine hr F2 f2 R S2 H2 x y v u _ _ s2 (r1.sub e2) r2 (h2.bind.imp fun k F3 f3 S3 H3 e3 s3 _ h3 z rz => ?_)
  obtain ⟨kb, ez, h4⟩ := tob_of h3 rz
  refine ⟨kb, ez, ?_⟩
  by_cases hk : kb = true
  · rw [if_pos hk] at h4 ⊢
    exact rd_bind s3 (en2.sub e3) h4 fun w F5 f5 S5 H5 z' e5 s5 en5 r5 h5 => hr' F5 f5 R S5 H5 y z' u w _ Q s5 ((r2.sub e3).sub e5) r5 h5
  · rw [if_neg hk] at h4 ⊢
    exact h4.ok s3 (.bl false) (.bl false)
theorem pd_chn {o1 o2 : CmpOp} {r r' : R2} {φ ψ : Val → Val → Store → Out Val} (ho : OpR X (compareOp o1) r) (ho' : OpR X (compareOp o2) r') (hr : RealB g r φ) (hr' : RealB g r' ψ) (ha : PE X a (rd g W ta)) (hb : PE X b (rd g W tb)) (hc : PE X c (rd g W tc))
    (hm : nmark c = true) : PE X (.Compare a [o1, o2] [b, c] pos) (rd g W (chnD φ ψ ta tb tc)) := (pe_chain ho ho' ha hb hc (marks_of hm)).imp fun σ H Q h => chn_rd hr hr' h
def chnT (φ ψ : Val → Val → Store → Out Val) (ta tb tc : TD Val) : TD Bool := fun ρ S => (ta ρ S).bind fun v S1 => (tb ρ S1).bind fun u S2 => (φ v u S2).bind fun k S3 => (tobV k S3).bind fun kb S4 => if kb = true then (tc ρ S4).bind fun z S5 => (ψ u z S5).bind tobV else .ok false S4
theorem pt_chnD {o1 o2 : CmpOp} {r r' : R2} {φ ψ : Val → Val → Store → Out Val} (ho : OpR X (compareOp o1) r) (ho' : OpR X (compareOp o2) r') (hr : RealB g r φ) (hr' : RealB g r' ψ) (ha : PE X a (rd g W ta)) (hb : PE X b (rd g W tb)) (hc : PE X c (rd g W tc))
    (hm : nmark c = true) : PT X (.Compare a [o1, o2] [b, c] pos) (rdT g W (chnT φ ψ ta tb tc)) := (pt_chain ho ho' ha hb hc (marks_of hm)).imp fun σ H Q ⟨F, f, R, ρ, S, s, e, h⟩ => by
  refine rd_bind s e h fun v F1 f1 S1 H1 x e1 s1 en1 r1 h1 => rd_bind s1 en1 h1 fun u F2 f2 S2 H2 y e2 s2 en2 r2 h2 => ?_
  refine hr F2 f2 R S2 H2 x y v u _ _ s2 (r1.sub e2) r2 (h2.bind.imp fun k F3 f3 S3 H3 e3 s3 _ h3 z rz => ?_)
  obtain ⟨kb, ez, h4⟩ := tob_of h3 rz
  refine ⟨kb, ez, ?_⟩
  by_cases hk : kb = true
  · rw [if_pos hk] at h4 ⊢
    refine rd_bind s3 (en2.sub e3) h4 fun w F5 f5 S5 H5 z' e5 s5 en5 r5 h5 => hr' F5 f5 R S5 H5 y z' u w _ _ s5 ((r2.sub e3).sub e5) r5 (h5.bind.imp fun k' F6 f6 S6 H6 e6 s6 _ h6 z6 rz6 => ?_)
    obtain ⟨k2, ex, h7⟩ := tob_of' h6 rz6
    exact ⟨k2, ex, h7.ok s6 k2 rfl⟩
  · rw [if_neg hk] at h4 ⊢
    exact ⟨false, rfl, h4.ok s3 false rfl⟩
/-! ### and, or, not, if -/
variable {rest : List Expr} {ua ub : TD Bool}
def andD (ta tb : TD Val) : TD Val := fun ρ S => (ta ρ S).bind fun v S1 => (tobV v S1).bind fun k S2 => if k = true then tb ρ S2 else .ok (.d (.bool false)) S2
def orD (ta tb : TD Val) : TD Val := fun ρ S => (ta ρ S).bind fun v S1 => (tobV v S1).bind fun k S2 => if k = true then .ok (.d (.bool true)) S2 else tb ρ S2
def notD (ta : TD Val) : TD Val := fun ρ S => (ta ρ S).bind fun v S1 => (tobV v S1).bind fun b S2 => .ok (.d (.bool !b)) S2
theorem pd_and (ha : PE X a (rd g W ta)) (hb : PE X (.BoolOp .And (b :: rest) pos) (rd g W tb)) : PE X (.BoolOp .And (a :: b :: rest) pos) (rd g W (andD ta tb)) := (pe_and ha hb).imp fun σ H Q ⟨F, f, R, ρ, S, s, e, h⟩ => by
  refine rd_bind s e h fun v F1 f1 S1 H1 x e1 s1 en1 r1 h1 => ?_
  obtain ⟨k, ex, h2⟩ := tob_of h1 r1
  refine ⟨k, ex, ?_⟩
  by_cases hk : k = true
  · rw [if_pos hk] at h2 ⊢
    exact ⟨F1, f1, R, ρ, S1, s1, en1, h2⟩
  · rw [if_neg hk] at h2 ⊢
    exact h2.ok s1 _ (.bl false)
theorem pd_or (ha : PE X a (rd g W ta)) (hb : PE X (.BoolOp .Or (b :: rest) pos) (rd g W tb)) : PE X (.BoolOp .Or (a :: b :: rest) pos) (rd g W (orD ta tb)) := (pe_or ha hb).imp fun σ H Q ⟨F, f, R, ρ, S, s, e, h⟩ => by
  refine rd_bind s e h fun v F1 f1 S1 H1 x e1 s1 en1 r1 h1 => ?_
  obtain ⟨k, ex, h2⟩ := tob_of h1 r1
  refine ⟨k, ex, ?_⟩
  by_cases hk : k = true
  · rw [if_pos hk] at h2 ⊢
    exact h2.ok s1 _ (.bl true)
  · rw [if_neg hk] at h2 ⊢
    exact ⟨F1, f1, R, ρ, S1, s1, en1, h2⟩
theorem pd_not (ha : PE X a (rd g W ta)) : PE X (.UnaryOp .Not a pos) (rd g W (notD ta)) := (pe_not ha).imp fun σ H Q ⟨F, f, R, ρ, S, s, e, h⟩ => by
  refine rd_bind s e h fun v F1 f1 S1 H1 x e1 s1 en1 r1 h1 => ?_
  obtain ⟨k, ex, h2⟩ := tob_of h1 r1
  exact ⟨k, ex, h2.ok s1 _ (.bl _)⟩
theorem pd_ife {c : Expr} {tc : TD Bool} (hc : PT X c (rdT g W tc)) (ha : PE X a (rd g W ta)) (hb : PE X b (rd g W tb)) : PE X (.IfExp c a b pos) (rd g W (dIf tc ta tb)) := (pe_ifExp hc ha hb).imp fun σ H Q ⟨F, f, R, ρ, S, s, e, h⟩ => by
  refine rd_bind s e h fun k F1 f1 S1 H1 x e1 s1 en1 r1 h1 => ?_
  subst r1
  by_cases hk : x = true
  · rw [if_pos hk] at h1 ⊢
    exact ⟨F1, f1, R, ρ, S1, s1, en1, h1⟩
  · rw [if_neg hk] at h1 ⊢
    exact ⟨F1, f1, R, ρ, S1, s1, en1, h1⟩
def andT (ta tb : TD Bool) : TD Bool := fun ρ S => (ta ρ S).bind fun k S1 => if k = true then tb ρ S1 else .ok false S1
def orT (ta tb : TD Bool) : TD Bool := fun ρ S => (ta ρ S).bind fun k S1 => if k = true then .ok true S1 else tb ρ S1
def notT (ta : TD Bool) : TD Bool := fun ρ S => (ta ρ S).bind fun b S1 => .ok (!b) S1
theorem pt_and (ha : PT X a (rdT g W ua)) (hb : PW X (.BoolOp .And (b :: rest) pos) (rdT g W ub)) : PW X (.BoolOp .And (a :: b :: rest) pos) (rdT g W (andT ua ub)) := (pw_and ha hb).imp fun σ H Q ⟨F, f, R, ρ, S, s, e, h⟩ => by
  refine rd_bind s e h fun k F1 f1 S1 H1 x e1 s1 en1 r1 h1 => ?_
  subst r1
  by_cases hk : x = true
  · rw [if_pos hk] at h1 ⊢
    exact ⟨F1, f1, R, ρ, S1, s1, en1, h1⟩
  · rw [if_neg hk] at h1 ⊢
    exact h1.ok s1 false rfl
theorem pt_or (ha : PT X a (rdT g W ua)) (hb : PW X (.BoolOp .Or (b :: rest) pos) (rdT g W ub)) : PW X (.BoolOp .Or (a :: b :: rest) pos) (rdT g W (orT ua ub)) := (pw_or ha hb).imp fun σ H Q ⟨F, f, R, ρ, S, s, e, h⟩ => by
  refine rd_bind s e h fun k F1 f1 S1 H1 x e1 s1 en1 r1 h1 => ?_
  subst r1
  by_cases hk : x = true
  · rw [if_pos hk] at h1 ⊢
    exact h1.ok s1 true rfl
  · rw [if_neg hk] at h1 ⊢
    exact ⟨F1, f1, R, ρ, S1, s1, en1, h1⟩
theorem pt_notD (ha : PT X a (rdT g W ua)) : PT X (.UnaryOp .Not a pos) (rdT g W (notT ua)) := (pt_not ha).imp fun σ H Q ⟨F, f, R, ρ, S, s, e, h⟩ =>
  rd_bind s e h fun k F1 f1 S1 H1 x e1 s1 en1 r1 h1 => by
    subst r1
    exact h1.ok s1 _ rfl
/-- a value's truth -/
theorem pt_tru (hK : g.K = X.K) (ha : PE X a (rd g W ta)) (h : ntest a = true) : PT X a (rdT g W fun ρ S => (ta ρ S).bind truO) := (pt_truth ha (test_of h)).imp fun σ H Q ⟨F, f, R, ρ, S, s, e, h⟩ =>
  rd_bind s e h fun v F1 f1 S1 H1 x e1 s1 en1 r1 h1 => by
    obtain ⟨b, h2, h3⟩ := tru_of s1 h1 r1
    exact ⟨b, hK ▸ h2, h3.ok s1 b rfl⟩
/-! ### argument lists, displays -/
variable {es : List Expr} {t : TD (List Val)}
def consD (ta : TD Val) (t : TD (List Val)) : TD (List Val) := fun ρ S => (ta ρ S).bind fun v S1 => (t ρ S1).bind fun vs S2 => .ok (v :: vs) S2
theorem pd_nil : PA X [] (rdA g W fun _ S => .ok [] S) := pa_nil.imp fun σ H Q ⟨F, f, R, ρ, S, s, e, h⟩ => h.ok s [] .nil
theorem pd_cons (ha : PE X a (rd g W ta)) (hr : PA X es (rdA g W t)) (hs : nstar a = true) : PA X (a :: es) (rdA g W (consD ta t)) := (pa_cons ha hr (star_cons hs)).imp fun σ H Q ⟨F, f, R, ρ, S, s, e, h⟩ =>
  rd_bind s e h fun v F1 f1 S1 H1 x e1 s1 en1 r1 h1 => rd_bind s1 en1 h1 fun vs F2 f2 S2 H2 xs e2 s2 en2 r2 h2 => h2.ok s2 _ (.cons (r1.sub e2) r2)
theorem pd_tup {k : Nat} (h : PA X es (rdA g W t)) : PE X (.Tuple es k pos) (rd g W (dN tupV t)) := (pe_tup h).imp fun σ H Q ⟨F, f, R, ρ, S, s, e, h⟩ =>
  rd_bind s e h fun vs F1 f1 S1 H1 xs e1 s1 en1 r1 h1 => by
    unfold tupV at h1
    split at h1
    · rename_i ds hd
      obtain ⟨hz, h2⟩ := okIf_pos h1
      have t := datas_da r1 hd
      exact ⟨by rw [t.len]; exact hz, fun p hp => sat_tup h2 s1 t hp⟩
    · exact h1.elim
theorem pd_lst {m : Bool} (h : PA X es (rdA g W t)) : PE X (.List es pos) (rd g W (dN (lstV m) t)) := (pe_lst h).imp fun σ H Q ⟨F, f, R, ρ, S, s, e, h⟩ =>
  rd_bind s e h fun vs F1 f1 S1 H1 xs e1 s1 en1 r1 h1 => by
    unfold lstV at h1
    split at h1
    · rename_i ds hd
      have t := datas_da r1 hd
      split at h1
      · rename_i hz
        refine ⟨by rw [t.len]; exact hz, fun p hp => ?_⟩
        split at h1
        · exact sat_lstM h1 s1 t hp
        · exact sat_lst h1 s1 t hp
      · exact h1.elim
    · exact h1.elim
/-! ### subscripts, slices -/
theorem pd_idx (hK : g.K = X.K) (ha : PE X a (rd g W ta)) (hb : PE X b (rd g W tb)) (hs : nslice b = true) : PE X (.Subscript a b pos) (rd g W (dB2 idxV ta tb)) := (pe_ix ix_seq ha hb (plain_of hs)).imp fun σ H Q h => by
  have hr : RealB g (rIx X.K) idxV := hK ▸ real_idx
  exact tOp_rd hr h
theorem pd_none : PO X none (rdO g W fun _ S => .ok none S) := by
  refine ⟨fun pins s σ H Q I ⟨F, f, R, ρ, S, sm, e, h⟩ => ?_⟩
  exact po_none.run pins s σ H Q I (h.ok sm none rfl)
theorem pd_some (ha : PE X a (rd g W ta)) : PO X (some a) (rdO g W fun ρ S => (ta ρ S).bind prtV) := by
  refine ⟨fun pins s σ H Q I ⟨F, f, R, ρ, S, sm, e, h⟩ => ?_⟩
  refine (po_some ha).run pins s σ H Q I (rd_bind sm e h fun v F1 f1 S1 H1 x e1 s1 en1 r1 h1 => ?_)
  unfold prtV at h1
  split at h1
  · cases r1 with
    | int i => exact ⟨_, rfl, h1.ok s1 _ rfl⟩
  · exact h1.elim
theorem pd_sli {lo hi : Option Expr} {tl th : TD (Option Int)} {p2 : Pos} (hK : g.K = X.K) (ha : PE X a (rd g W ta)) (hl : PO X lo (rdO g W tl)) (hh : PO X hi (rdO g W th)) :
    PE X (.Subscript a (.Slice lo hi none p2) pos) (rd g W fun ρ S => (ta ρ S).bind fun v S1 => (tl ρ S1).bind fun l S2 => (th ρ S2).bind fun u S3 => sliV v l u S3) :=
  (pe_slice sl_V ha hl hh).imp fun σ H Q ⟨F, f, R, ρ, S, s, e, h⟩ => by
    refine rd_bind s e h fun v F1 f1 S1 H1 x e1 s1 en1 r1 h1 => rd_bind s1 en1 h1 fun l F2 f2 S2 H2 l' e2 s2 en2 r2 h2 => rd_bind s2 en2 h2 fun u F3 f3 S3 H3 u' e3 s3 en3 r3 h3 => ?_
    subst r2 r3
    have q := real_sli s3 ((r1.sub e2).sub e3) h3
    rw [hK] at q
    exact q
theorem pd_rev {k : Nat} {p1 p2 p3 : Pos} (hK : g.K = X.K) (ha : PE X a (rd g W ta)) : PE X (.Subscript a (.Slice none none (some (.UnaryOp .USub (.Constant (.int 1) k p1) p2)) p3) pos) (rd g W (dU (revV false) ta)) :=
  (pe_rev ha).imp fun σ H Q ⟨F, f, R, ρ, S, s, e, h⟩ => rd_bind s e h fun v F1 f1 S1 H1 x e1 s1 en1 r1 h1 => by
    have q := real_rev s1 r1 h1
    rw [hK] at q
    exact q
theorem pd_rev0 {k k0 : Nat} {p1 p2 p3 p4 : Pos} (hK : g.K = X.K) (ha : PE X a (rd g W ta)) :
    PE X (.Subscript a (.Slice none (some (.Constant (.int 0) k0 p4)) (some (.UnaryOp .USub (.Constant (.int 1) k p1) p2)) p3) pos) (rd g W (dU (revV true) ta)) :=
  (pe_rev0 ha).imp fun σ H Q ⟨F, f, R, ρ, S, s, e, h⟩ => rd_bind s e h fun v F1 f1 S1 H1 x e1 s1 en1 r1 h1 => by
    have q := real_rev s1 r1 h1
    rw [hK] at q
    exact q
/-! ### calls -/
variable {x : Str} {p : Pos} {T id : String} {r : List V → Hp → VK → Prop} {φ : List Val → Store → Out Val}
theorem pd_bi (hc : CallR X (.builtin id) r) (hr : RealN g r φ) (hg : Gl X x) (hm : X.mg x = none) (hv : bootBuiltins x = some (.builtin id)) (ha : PA X (a :: es) (rdA g W t)) (hn : x ≠ "__name__") (hdb : (x == ("__debug__" : Str)) = false) (hs : (a :: es).all nstar = true) :
    PE X (.Call (.Name x p) (a :: es) [] pos) (rd g W (dN φ t)) := by
  rw [List.all_cons, Bool.and_eq_true] at hs
  exact (pe_callB hc hg hm hv ha hn hdb (star_cons hs.1) (star_any hs.2)).imp fun σ H Q ⟨F, f, R, ρ, S, s, e, h⟩ =>
    rd_bind s e h fun vs F1 f1 S1 H1 xs e1 s1 en1 r1 h1 => hr F1 f1 R S1 H1 xs vs _ Q s1 r1 h1
theorem pd_ty (hc : CallR X (.type T) r) (hr : RealN g r φ) (hg : Gl X x) (hm : X.mg x = none) (hv : bootBuiltins x = some (.type T)) (ha : PA X (a :: es) (rdA g W t)) (hn : x ≠ "__name__") (hdb : (x == ("__debug__" : Str)) = false) (hs : (a :: es).all nstar = true) :
    PE X (.Call (.Name x p) (a :: es) [] pos) (rd g W (dN φ t)) := by
  rw [List.all_cons, Bool.and_eq_true] at hs
  exact (pe_callTy hc hg hm hv ha hn hdb (star_cons hs.1) (star_any hs.2)).imp fun σ H Q ⟨F, f, R, ρ, S, s, e, h⟩ =>
    rd_bind s e h fun vs F1 f1 S1 H1 xs e1 s1 en1 r1 h1 => hr F1 f1 R S1 H1 xs vs _ Q s1 r1 h1
/-- isinstance(a, T) -/
theorem pd_isi {ty : Ty} {p2 : Pos} {y : Str} (hK : g.K = X.K) (hg : Gl X x) (hm : X.mg x = none) (hv : bootBuiltins x = some (.builtin "isinstance")) (hn : x ≠ "__name__") (hdb : (x == ("__debug__" : Str)) = false)
    (hg2 : Gl X y) (hm2 : X.mg y = none) (hv2 : bootBuiltins y = some (.type ty.name)) (hn2 : y ≠ "__name__") (hdb2 : (y == ("__debug__" : Str)) = false) (ha : PE X a (rd g W ta)) (hs : nstar a = true) :
    PE X (.Call (.Name x p) [a, .Name y p2] [] pos) (rd g W (dU (isiV ty) ta)) :=
  (pe_callB call_isi hg hm hv (pa_cons ha (pa_cons (pe_bltn hg2 hm2 hv2 (v := .ty ty.name) rfl hn2 hdb2) pa_nil) (star_cons hs)) hn hdb (star_cons hs) (by rfl)).imp fun σ H Q ⟨F, f, R, ρ, S, s, e, h⟩ =>
    rd_bind s e h fun v F1 f1 S1 H1 x e1 s1 en1 r1 h1 => by
      obtain ⟨tv, b, q1, q2, q3⟩ := real_isi s1 r1 h1
      rw [hK] at q1 q2
      exact ⟨x, .ty ty.name, tv, _, b, rfl, .ty _, q1, q2, q3⟩
/-- a.append(b) -/
theorem pd_app {apos : Pos} (hK : g.K = X.K) (ha : PE X a (rd g W ta)) (hb : PA X [b] (rdA g W t)) (hbase : attributeBase a "append" X.env (eval a X.env) = eval a X.env) (hs : nstar b = true) (hline : (apos.endLine == pos.line) = true) :
    PE X (.Call (.Attribute a "append" apos) [b] [] pos) (rd g W fun ρ S => (ta ρ S).bind fun u S0 => (recV u S0).bind fun v S1 => (t ρ S1).bind fun vs S2 => meV .append v vs S2) := by
  refine (pe_bm PySem.F.plainAttrs_list PySem.F.slot_list_append PySem.F.type_list_append mt_append ha hb hbase ?_ hline (star_cons hs) rfl).imp fun σ H Q ⟨F, f, R, ρ, S, s, e, h⟩ => ?_
  · rw [star_cons hs]; rfl
  · refine rd_bind s e h fun v F1 f1 S1 H1 x e1 s1 en1 r1 h1 => ?_
    unfold recV at h1
    split at h1
    · split at h1
      · rename_i ds hS
        obtain ⟨a', ys, q1, q2, q3⟩ := s1.getL hS
        refine ⟨?_, ?_⟩
        · obtain ⟨a2, z1, rfl⟩ := r1
          rw [q1] at z1; cases z1
          exact .inl ⟨rfl, ys, .inl (.inl q2)⟩
        · refine rd_bind s1 en1 h1 fun vs F2 f2 S2 H2 xs e2 s2 en2 r2 h2 => ?_
          exact (real_append s2 (r1.sub e2) r2 h2).1
      · exact h1.elim
    · exact h1.elim
/-- f(..), f a def -/
theorem run_fnG {k : Nat} {fa : Addr} {fd : FuncData} {ps : List Str} {sp : Sp} {E : L2.St → XK} {pins : List (Addr × Obj)} {σ : L2.St} {H : Hp} {s : Shared} {Q : VK} {us : List Value} {vs : List V} (Fn : FnG X.prog X.w X.K X.mg X.base k fa fd ps sp)
    (hr : Room k X.A) (hgd : X.A.guards = some []) (hb : Binds X.K fd ps []) (hx : PassesAt (L2.CX X.prog X.w) X σ (E σ))
    (I : Inv X pins σ H s) (r : Vals vs us) (h : sp vs H Q (E σ)) : wpAny (model X.prog X.w) X.A (call (.ref fa) us) (EP X pins σ Q) X.xe s := by
  have hl : us.length = ps.length := by rw [← r.length]; exact Fn.len _ _ _ _ h
  have b := hb s us I.kIn (by rw [List.append_nil]; exact hl)
  rw [List.append_nil] at b
  refine wpAny_call (codeAny_mono (Fn.run X.A X.stack s H ⟨us, []⟩ us vs Q (E σ) hr hgd I.env0 b r h) fun r s' hq => ?_)
  cases r with
  | error e => exact hx pins H s e s' I hq
  | ok fl =>
    cases fl with
    | ret u => exact I.after hq
    | next => exact False.elim hq
    | brk => exact False.elim hq
    | cont => exact False.elim hq
theorem pd_call {C : Calls} {k n : Nat} {fa : Addr} {fd : FuncData} {ps : List Str} (Fn : FnG X.prog X.w X.K X.mg X.base n fa fd ps (spD g C k ps.length)) (hr : Room n X.A) (hgd : X.A.guards = some []) (hg : Gl X x) (hm : X.mg x = some (.ref fa))
    (hk : PySem.W.keepIn X.K (.ref fa) = true) (hb : Binds X.K fd ps []) (tk : Takes X W) (ha : PA X (a :: es) (rdA g W t)) (hlen : ∀ ρ S vs S', t ρ S = .ok vs S' → vs.length = ps.length) (hdb : (x == ("__debug__" : Str)) = false) (hs : (a :: es).all nstar = true) :
    PE X (.Call (.Name x p) (a :: es) [] pos) (rd g W (dCall C k t)) := by
  rw [List.all_cons, Bool.and_eq_true] at hs
  refine ⟨fun pins s σ H Q I ⟨F, f, R, ρ, S, sm, e, h⟩ => ?_⟩
  refine wpAny_Call_Name_kw (ld_glob I hg hm ?_ hdb)
  have h2 : rdA g W t σ H fun vs H1 => spD g C k ps.length vs H1 Q (WE W σ) := ⟨F, f, R, ρ, S, sm, e, h.bind.imp fun vs F1 f1 S1 H1 e1 s1 ht q xs rx => ⟨F1, f1, R, S1, vs, s1, rx, hlen _ _ _ _ ht, q⟩⟩
  refine PySem.W.callWith_K (h₀ := X.base) I.ok.mod.kin hk (thn (ha.run pos pins s σ H _ I h2) fun us s1 ⟨vs, H1, I1, r, q⟩ => ⟨I1.kIn, ?_⟩) (star_cons hs.1) (star_any hs.2)
  exact run_fnG (E := WE W) Fn hr hgd hb (passAt tk σ) I1 r q
theorem pd_call0 {C : Calls} {k n : Nat} {fa : Addr} {fd : FuncData} {ps : List Str} (Fn : FnG X.prog X.w X.K X.mg X.base n fa fd ps (spD g C k ps.length)) (hr : Room n X.A) (hgd : X.A.guards = some []) (hg : Gl X x) (hm : X.mg x = some (.ref fa))
    (hk : PySem.W.keepIn X.K (.ref fa) = true) (hb : Binds X.K fd ps []) (tk : Takes X W) (hlen : ps.length = 0) (hdb : (x == ("__debug__" : Str)) = false) :
    PE X (.Call (.Name x p) [] [] pos) (rd g W (dCall C k fun _ S => .ok [] S)) := by
  refine ⟨fun pins s σ H Q I ⟨F, f, R, ρ, S, sm, e, h⟩ => ?_⟩
  refine wpAny_Call_Name_kw (ld_glob I hg hm ?_ hdb)
  exact PySem.W.callWith_K0 I.kIn hk (run_fnG (E := WE W) (us := []) Fn hr hgd hb (passAt tk σ) I .nil ⟨F, f, R, S, [], sm, .nil, hlen.symm, h⟩)
/-- len(set(a)), a of texts -/
theorem strs_da {K : PySem.W.Frag} {F : Hp} : ∀ {ds : List PyData} {xs : List V} {ss : List Str}, DaAll K F xs ds → strsOf ds = some ss → xs = ss.map V.str
  | [], _, _, t, e => by cases t; cases e; rfl
  | .str x :: ds, _, _, t, e => by
    cases t with
    | cons h t =>
      unfold strsOf at e
      cases q : strsOf ds with
      | none => rw [q] at e; cases e
      | some l =>
        rw [q] at e
        cases e
        cases h
        rw [strs_da t q]
        rfl
  | .none :: _, _, _, _, e => by cases e
  | .bool _ :: _, _, _, _, e => by cases e
  | .int _ :: _, _, _, _, e => by cases e
  | .list _ :: _, _, _, _, e => by cases e
  | .tuple _ :: _, _, _, _, e => by cases e
  | .dict _ :: _, _, _, _, e => by cases e
theorem pd_lenSet {y : Str} {p2 q : Pos} (hK : g.K = X.K) (hc : X.calm = true) (hg : Gl X x) (hm : X.mg x = none) (hv : bootBuiltins x = some (.builtin "len")) (hn : x ≠ "__name__") (hdb : (x == ("__debug__" : Str)) = false)
    (hg2 : Gl X y) (hm2 : X.mg y = none) (hv2 : bootBuiltins y = some (.type "set")) (hn2 : y ≠ "__name__") (hdb2 : (y == ("__debug__" : Str)) = false) (ha : PA X [a] (rdA g W t)) (hs : nstar a = true) :
    PE X (.Call (.Name x p) [.Call (.Name y p2) [a] [] q] [] pos) (rd g W (dN (biV .lenSet) t)) := by
  refine ⟨fun pins s σ H Q I ⟨F, f, R, ρ, S, sm, e, h⟩ => ?_⟩
  have h2 : rdA g W t σ H fun vs H1 => ∃ (l : Addr) (ss : List Str), vs = [.ref l] ∧ (SqL X.K H1 l (ss.map V.str) ∨ SqT X.K H1 l (ss.map V.str)) ∧ ss.length < 4000 ∧ Q (.int ((onceS ss).length : Nat)) H1 :=
    rd_bind sm e h fun vs F1 f1 S1 H1 xs e1 s1 en1 r1 h1 => by
      unfold biV at h1
      split at h1 <;> first | (rename_i z; cases z; done) | skip
      · obtain ⟨x, rfl, r⟩ := vrs1 r1
        split at h1
        · rename_i e3
          obtain ⟨ds, e1, e2⟩ := Option.bind_eq_some_iff.mp e3
          obtain ⟨a, ys, rfl, q, t⟩ := seq_of s1 r e1
          obtain ⟨hz, h1⟩ := okIf_pos h1
          have q2 := strs_da t e2
          subst q2
          refine ⟨_, _, rfl, ?_, hz, sat_d h1 s1 (.int _)⟩
          rw [← hK]
          exact q.imp .inl (·.1)
        · exact h1.elim
      all_goals exact h1.elim
  refine Call_ (ld_blt I hg hm hv ?_ hn hdb)
  refine PyProof.Rows.callWith_builtin1 (PyProof.Rows.args_cons ?_ rfl) rfl rfl
  refine Call_ (ld_blt I hg2 hm2 hv2 ?_ hn2 hdb2)
  refine PyProof.Rows.callWith_type1 (thn (ha.run q pins s σ H _ I h2) fun us s1 ⟨vs, H1, I1, r1, l, ss, ev, hq, hz, q1⟩ => ?_) (star_cons hs) rfl
  subst ev
  cases r1 with
  | cons r rr =>
    cases rr
    cases r
    have fin : ∀ (h' : Heap) (tk : Nat), SetS X.prog X.w h' s1.heap.objs.size (onceS ss) → (∀ b o, b < s1.heap.objs.size → s1.heap.get? b = some o → h'.get? b = some o) →
        wpAny (model X.prog X.w) X.A (spliced (backTo pos (starEach [] X.env))) (fun vs s₂ => wpAny (model X.prog X.w) X.A (call (.builtin "len") (Value.ref s1.heap.objs.size :: vs)) (EP X pins σ Q) X.xe s₂) X.xe { s1 with heap := h', toks := tk } := fun h' tk hS hk => by
      refine PyProof.Rows.args_nil ?_
      obtain ⟨o, es, ep, t, ho, hex, hd, _, _, _, hf, hn⟩ := hS
      have I2 : Inv X pins σ H1 { s1 with heap := h', toks := tk } := I1.kept fun b o e => hk b o (Heap.lt_size e) e
      have hfew : (onceS ss).length ≤ ss.length := by have := once_len ss []; simpa [onceS] using this
      exact call_len_set ho hex hd hf (by rw [hn]; omega) ⟨.int ((onceS ss).length : Nat), H1, I2.tok _, ⟨_, by rw [hn]⟩, q1⟩
    rcases hq with hq | hq
    · obtain ⟨its, r, ⟨o, n, ho, hc1, hd1, hdt⟩, hz2⟩ := I1.list hq
      obtain ⟨oc, od, dt, sl⟩ := o
      simp only at hc1 hd1 hdt
      subst hc1 hdt
      exact call_set_texts (I1.ok.hd hc) ho goes_list PySem.F.sub_list_set PySem.F.sub_list_frozenset (by decide) (by simpa using L2.strsAre_of r) hz fin
    · obtain ⟨its, r, ⟨o, ho, hc1, n, hdt⟩, hz2⟩ := I1.tuple hq
      obtain ⟨oc, od, dt, sl⟩ := o
      simp only at hc1 hdt
      subst hc1 hdt
      exact call_set_texts (I1.ok.hd hc) ho goes_tuple PySem.F.sub_tuple_set PySem.F.sub_tuple_frozenset (by decide) (by simpa using L2.strsAre_of r) hz fin
end
end Ev
end

section
set_option Elab.async false
set_option linter.all false
set_option maxRecDepth 100000
set_option maxHeartbeats 4000000
/-! E8: iterators, targets, comprehensions -/
namespace Ev
open PySem PySem.Spec PyProof.Rows L2

/-! ### iterators -/
def rdI (g : Gc) (W : WX) (t : TD Itm) : TI := fun σ H R => ∃ F f Rs ρ S, Sm g F f Rs S H ∧ En g F f ρ σ ∧
  Sat g F f Rs (fun C d H' => W C d σ H') (t ρ S) fun w F' f' S' H' => ∀ J, ItR g F' f' J w → R J H'
section
variable {X : Cx} {g : Gc} {W : WX} {a b c tg : Expr} {ta tb tc : TD Val} {pos p tpos : Pos} {elts : List Expr} {kk : Nat}
theorem pi_seqD (hK : g.K = X.K) (ha : PE X a (rd g W ta)) : PI X tg a (rdI g W fun ρ S => (ta ρ S).bind seqI) := by
  refine ⟨fun pins s σ H R I ⟨F, f, Rs, ρ, S, sm, e, h⟩ => ?_⟩
  dsimp only at h
  cases eq : ta ρ S with
  | err x S1 =>
    rw [eq] at h
    exact (pi_list ha).run pins s σ H R I ⟨F, f, Rs, ρ, S, sm, e, by rw [eq]; exact h⟩
  | stuck => rw [eq] at h; exact h.elim
  | ok v S1 =>
    rw [eq] at h
    have h : Sat g F f Rs (fun C d H' => W C d σ H') (seqI v S1) fun w F' f' S' H' => ∀ J, ItR g F' f' J w → R J H' := h
    unfold seqI at h
    split at h
    · refine (pi_list ha).run pins s σ H R I ⟨F, f, Rs, ρ, S, sm, e, ?_⟩
      rw [eq]
      intro F' f' H' ex sm' x r
      cases r with
      | lst h1 h2 => exact ⟨_, rfl, ⟨_, .inl (Rd.sub sm'.le h1)⟩, hK ▸ h F' f' H' ex sm' _ (itr_list h1 h2)⟩
    · refine (pi_tup ha).run pins s σ H R I ⟨F, f, Rs, ρ, S, sm, e, ?_⟩
      rw [eq]
      intro F' f' H' ex sm' x r
      cases r with
      | tup h1 h2 => exact ⟨_, rfl, ⟨_, hK ▸ SqT.sub sm'.le h1⟩, hK ▸ h F' f' H' ex sm' _ (itr_tup h1 h2)⟩
    · refine (pi_str ha).run pins s σ H R I ⟨F, f, Rs, ρ, S, sm, e, ?_⟩
      rw [eq]
      intro F' f' H' ex sm' x r
      cases r with
      | str z => exact ⟨_, rfl, h F' f' H' ex sm' _ itr_str⟩
    · split at h
      · rename_i ds hS
        refine (pi_list ha).run pins s σ H R I ⟨F, f, Rs, ρ, S, sm, e, ?_⟩
        rw [eq]
        intro F' f' H' ex sm' x r
        obtain ⟨a', q1, rfl⟩ := r
        obtain ⟨a2, ys, z1, z2, z3⟩ := sm'.getL hS
        rw [q1] at z1; cases z1
        exact ⟨_, rfl, ⟨ys, .inl (.inl z2)⟩, hK ▸ h F' f' H' ex sm' _ (itr_loc q1)⟩
      · exact h.elim
    · exact h.elim
theorem pi_rng1 (hg : Gl X "range") (hm : X.mg "range" = none) (ha : PE X a (rd g W ta)) (hs : nstar a = true) : PI X tg (.Call (.Name "range" p) [a] [] pos) (rdI g W fun ρ S => (ta ρ S).bind rng1I) := by
  refine ⟨fun pins s σ H R I ⟨F, f, Rs, ρ, S, sm, e, h⟩ => ?_⟩
  refine (pi_range1 hg hm (pa_cons ha pa_nil (star_cons hs)) (star_cons hs)).run pins s σ H R I (rd_bind sm e h fun v F1 f1 S1 H1 x e1 s1 en1 r1 h1 => ?_)
  unfold rng1I at h1
  split at h1
  · split at h1
    · rename_i hb
      cases r1
      exact ⟨_, rfl, hb.1, hb.2, h1.ok s1 _ itr_rng⟩
    · exact h1.elim
  · exact h1.elim
theorem pi_rng2 (hg : Gl X "range") (hm : X.mg "range" = none) (ha : PE X a (rd g W ta)) (hb : PE X b (rd g W tb)) (hs : nstar a = true) (hs2 : nstar b = true) : PI X tg (.Call (.Name "range" p) [a, b] [] pos) (rdI g W fun ρ S => (ta ρ S).bind fun v S1 => (tb ρ S1).bind fun u S2 => rng2I v u S2) := by
  refine ⟨fun pins s σ H R I ⟨F, f, Rs, ρ, S, sm, e, h⟩ => ?_⟩
  refine (pi_range2 hg hm (pa_cons ha (pa_cons hb pa_nil (star_cons hs2)) (star_cons hs)) ((star_cons hs).trans (by rw [star_cons hs2] <;> rfl)) (star_cons hs2)).run pins s σ H R I
    (rd_bind sm e h fun v F1 f1 S1 H1 x e1 s1 en1 r1 h1 => rd_bind s1 en1 h1 fun u F2 f2 S2 H2 y e2 s2 en2 r2 h2 => ?_)
  unfold rng2I at h2
  split at h2
  · split at h2
    · rename_i hb
      cases r1
      cases r2
      exact ⟨_, _, rfl, hb, h2.ok s2 _ itr_rng⟩
    · exact h2.elim
  · exact h2.elim
theorem pi_rng3 (hg : Gl X "range") (hm : X.mg "range" = none) (ha : PE X a (rd g W ta)) (hb : PE X b (rd g W tb)) (hc : PE X c (rd g W tc)) (hs : nstar a = true) (hs2 : nstar b = true) (hs3 : nstar c = true) :
    PI X tg (.Call (.Name "range" p) [a, b, c] [] pos) (rdI g W fun ρ S => (ta ρ S).bind fun v S1 => (tb ρ S1).bind fun u S2 => (tc ρ S2).bind fun w S3 => rng3I v u w S3) := by
  refine ⟨fun pins s σ H R I ⟨F, f, Rs, ρ, S, sm, e, h⟩ => ?_⟩
  refine (pi_range3 hg hm (pa_cons ha (pa_cons hb (pa_cons hc pa_nil (star_cons hs3)) (star_cons hs2)) (star_cons hs)) (star_cons hs) (star_any (by simp [hs2, hs3]))).run pins s σ H R I
    (rd_bind sm e h fun v F1 f1 S1 H1 x e1 s1 en1 r1 h1 => rd_bind s1 en1 h1 fun u F2 f2 S2 H2 y e2 s2 en2 r2 h2 => rd_bind s2 en2 h2 fun w F3 f3 S3 H3 z e3 s3 en3 r3 h3 => ?_)
  unfold rng3I at h3
  split at h3
  · split at h3
    · rename_i hb
      cases r1
      cases r2
      cases r3
      obtain ⟨rfl, b1, b2, b3, b4⟩ := hb
      exact ⟨_, _, _, _, rfl, RgC.neg b1 b2 b3 b4, h3.ok s3 _ itr_down⟩
    · exact h3.elim
  · exact h3.elim
theorem pi_zipD (hK : g.K = X.K) (hg : Gl X "zip") (hm : X.mg "zip" = none) (ha : PE X a (rd g W ta)) (hb : PE X b (rd g W tb)) (hs : nstar a = true) (hs2 : nstar b = true) :
    PI X (.Tuple elts kk tpos) (.Call (.Name "zip" p) [a, b] [] pos) (rdI g W fun ρ S => (ta ρ S).bind fun v S1 => (tb ρ S1).bind fun u S2 => zipI v u S2) := by
  refine ⟨fun pins s σ H R I ⟨F, f, Rs, ρ, S, sm, e, h⟩ => ?_⟩
  refine (RZ.pi_zipA hg hm (pa_cons ha (pa_cons hb pa_nil (star_cons hs2)) (star_cons hs)) (star_cons hs) (star_any (by simp [hs2]))).run pins s σ H R I
    (rd_bind sm e h fun v F1 f1 S1 H1 x e1 s1 en1 r1 h1 => rd_bind s1 en1 h1 fun u F2 f2 S2 H2 y e2 s2 en2 r2 h2 => ?_)
  unfold zipI at h2
  split at h2
  · have r1 := r1.sub e2
    cases r1 with
    | lst h1 t1 =>
      cases r2 with
      | lst h3 t3 => exact ⟨_, _, _, _, rfl, .inl ⟨.inl (Rd.sub s2.le h1), .inl (Rd.sub s2.le h3), hK ▸ h2.ok s2 _ (itr_zipL h1 t1 h3 t3)⟩⟩
  · have r1 := r1.sub e2
    cases r1 with
    | tup h1 t1 =>
      cases r2 with
      | tup h3 t3 => exact ⟨_, _, _, _, rfl, .inr ⟨hK ▸ SqT.sub s2.le h1, hK ▸ SqT.sub s2.le h3, hK ▸ h2.ok s2 _ (itr_zipT h1 t1 h3 t3)⟩⟩
  · exact h2.elim
theorem pi_enumD (hK : g.K = X.K) (hg : Gl X "enumerate") (hm : X.mg "enumerate" = none) (ha : PE X a (rd g W ta)) (hs : nstar a = true) :
    PI X (.Tuple elts kk tpos) (.Call (.Name "enumerate" p) [a] [] pos) (rdI g W fun ρ S => (ta ρ S).bind enumI) := by
  refine ⟨fun pins s σ H R I ⟨F, f, Rs, ρ, S, sm, e, h⟩ => ?_⟩
  refine (pi_enumT hg hm (pa_cons ha pa_nil (star_cons hs)) (star_cons hs)).run pins s σ H R I (rd_bind sm e h fun v F1 f1 S1 H1 x e1 s1 en1 r1 h1 => ?_)
  unfold enumI at h1
  split at h1
  · cases r1 with
    | lst h2 t2 => exact ⟨_, _, rfl, .inl ⟨Rd.sub s1.le h2, hK ▸ h1.ok s1 _ (itr_enumL h2 t2)⟩⟩
  · cases r1 with
    | tup h2 t2 => exact ⟨_, _, rfl, .inr ⟨hK ▸ SqT.sub s1.le h2, hK ▸ h1.ok s1 _ (itr_enumT h2 t2)⟩⟩
  · exact h1.elim
end

/-! ### targets -/
def Tg.ix : Tg → List Nat
  | .nm i => [i]
  | .tup is => is
theorem wipe_set {σ : L2.St} {i : Nat} {x : Option V} : ∀ {vs : List Nat}, i ∈ vs → wipe (σ.set i x) vs = wipe σ vs
  | v :: vs, h => by
    by_cases hv : v = i
    · subst hv
      by_cases hm : v ∈ vs
      · unfold wipe
        rw [wipe_set hm]
      · unfold wipe
        have : ∀ ws : List Nat, v ∉ ws → wipe (σ.set v x) ws = (wipe σ ws).set v x := by
          intro ws
          induction ws with
          | nil => intro _; rfl
          | cons w ws ih =>
            intro hw
            unfold wipe
            rw [ih (fun z => hw (List.mem_cons_of_mem _ z)), List.set_comm _ _ (fun z => hw (by rw [z]; exact List.mem_cons_self))]
        rw [this vs hm, List.set_set]
    · unfold wipe
      rw [wipe_set ((List.mem_cons.mp h).resolve_left (Ne.symm hv))]
theorem wipe_wipe {σ : L2.St} : ∀ (ws vs : List Nat), (∀ w ∈ ws, w ∈ vs) → wipe (wipe σ ws) vs = wipe σ vs
  | [], vs, _ => rfl
  | w :: ws, vs, h => by
    show wipe ((wipe σ ws).set w none) vs = wipe σ vs
    rw [wipe_set (h w List.mem_cons_self)]
    exact wipe_wipe ws vs fun x hx => h x (List.mem_cons_of_mem _ hx)
theorem En.wipes {g : Gc} {F : Hp} {f : List Addr} {ρ : EnvD} {σ : L2.St} (h : En g F f ρ σ) : ∀ vs : List Nat, En g F f (wipeD ρ vs) (L2.wipe σ vs)
  | [] => h
  | v :: vs => (En.wipes h vs).wipe v
/-- a target's reading serves its meaning -/
def TgR (g : Gc) (tg : Tg) (G : TG) : Prop := ∀ (F : Hp) (f : List Addr) (R : Rs) (S : Store) (H : Hp) (σ : L2.St) (ρ ρ1 : EnvD) (x : V) (v : Val) (Q : L2.St → Hp → Prop), Sm g F f R S H → En g F f ρ σ → VR g F f x v → tgt tg v ρ = some ρ1 →
  (∀ σ1, En g F f ρ1 σ1 → (∀ vs : List Nat, (∀ i ∈ tg.ix, i ∈ vs) → wipe σ1 vs = wipe σ vs) → Q σ1 H) → G x σ H Q
theorem tgr_nm {g : Gc} {i : Nat} : TgR g (.nm i) (gName i) := fun F f R S H σ ρ ρ1 x v Q s e r h q => by
  cases h
  exact q _ (e.set i r) fun vs hv => wipe_set (hv i (by simp [Tg.ix]))
def gNames : List Nat → TGs
  | [] => gNil
  | i :: is => gCons (gName i) (gNames is)
theorem names_set {g : Gc} {F : Hp} {f : List Addr} : ∀ {is : List Nat} {xs : List V} {ds : List PyData} {ρ : EnvD} {σ : L2.St} {H : Hp} {Q : L2.St → Hp → Prop}, xs.length = is.length → DaAll g.K F xs ds → En g F f ρ σ →
    (∀ σ1, En g F f (setAll is ds ρ) σ1 → (∀ vs : List Nat, (∀ i ∈ is, i ∈ vs) → wipe σ1 vs = wipe σ vs) → Q σ1 H) → gNames is xs σ H Q
  | [], [], _, ρ, σ, H, Q, _, t, e, q => ⟨rfl, q σ (by cases t; exact e) fun _ _ => rfl⟩
  | i :: is, x :: xs, _, ρ, σ, H, Q, hl, .cons h t, e, q => ⟨x, xs, rfl, names_set (is := is) (by simpa using hl) t (e.set i (v := .d _) h) fun σ1 e1 w1 => q σ1 e1 fun vs hv => by
      rw [w1 vs fun j hj => hv j (List.mem_cons_of_mem _ hj)]
      exact wipe_set (hv i List.mem_cons_self)⟩
theorem tgr_tup {g : Gc} {is : List Nat} : TgR g (.tup is) (gTup g.K is.length (gNames is)) := fun F f R S H σ ρ ρ1 x v Q s e r h q => by
  cases v with
  | d y =>
    cases y with
    | tuple ds =>
      dsimp only [tgt] at h
      split at h
      · rename_i hl
        cases h
        cases r with
        | tup h1 t => exact ⟨_, _, rfl, SqT.sub s.le h1, by rw [t.len]; exact hl, names_set (by rw [t.len]; exact hl) t e q⟩
      · cases h
    | _ => cases h
  | _ => cases h
section
variable {X : Cx}
theorem hn_names : ∀ {es : List Expr} {env : Env}, es.all nstar = true → (assignEach es env).length = es.length ∧ (assignEach es env).findIdx? (·.1) = none
  | [], _, _ => ⟨rfl, rfl⟩
  | e :: es, env, h => by
    rw [List.all_cons, Bool.and_eq_true] at h
    obtain ⟨h1, h2⟩ := hn_names (es := es) (env := env) h.2
    rw [asg_cons h.1]
    refine ⟨by simp [h1], ?_⟩
    rw [List.findIdx?_cons]
    simp [h2]
end

/-! ### comprehensions -/
/-- the held object becomes a mutable one of the store -/
theorem Sm.loosen {g : Gc} {F : Hp} {f : List Addr} {R : Rs} {S : Store} {H : Hp} {p : Addr} {o : HO} {ob : Ob} (s : Sm g F f ((p, o) :: R) S H) (hR : ∀ q ∈ R, q.1 ≠ p) (ho : ObR g F ob (some o)) :
    Sm g F (f ++ [p]) R (S ++ [ob]) H ∧ Ext F f F (f ++ [p]) ∧ (f ++ [p])[S.length]? = some p := by
  obtain ⟨h1, n2, n1⟩ := s.res (p, o) List.mem_cons_self
  have pre : ∀ (n : Nat) (a : Addr), f[n]? = some a → (f ++ [p])[n]? = some a := fun n a e => by
    rw [List.getElem?_append_left (List.getElem?_eq_some_iff.mp e).1]; exact e
  refine ⟨⟨s.le, fun a ha => ?_, ?_, by simp [s.len], fun n ob' a q1 q2 => ?_, fun q hq => ?_⟩, ⟨fun _ _ h => h, pre⟩, by rw [s.len]; simp⟩
  · rcases List.mem_append.mp ha with h | h
    · exact s.nof a h
    · rw [List.mem_singleton.mp h]; exact n2
  · exact List.nodup_append.mpr ⟨s.nd, by simp, fun a ha b hb => by rw [List.mem_singleton.mp hb]; exact fun z => n1 (z ▸ ha)⟩
  · by_cases hn : n < S.length
    · rw [List.getElem?_append_left hn] at q1
      rw [List.getElem?_append_left (by rw [← s.len]; exact hn)] at q2
      exact s.st n ob' a q1 q2
    · have hn' : n = S.length := by
        have := (List.getElem?_eq_some_iff.mp q1).1
        simp at this; omega
      subst hn'
      rw [List.getElem?_append_right (Nat.le_refl _)] at q1
      rw [s.len, List.getElem?_append_right (Nat.le_refl _)] at q2
      simp at q1 q2
      subst q1 q2
      rw [h1]; exact ho
  · obtain ⟨e1, e2, e3⟩ := s.res q (List.mem_cons_of_mem _ hq)
    exact ⟨e1, e2, fun z => (List.mem_append.mp z).elim e3 fun z => hR q hq (List.mem_singleton.mp z)⟩
abbrev W0 : WX := fun _ _ _ _ => False
theorem lc_rd {g : Gc} {W : WX} {m : Bool} {it : TD Itm} {own : List Nat} {tg : Tg} {G : TG} {cond : TD Bool} {elt : TD Val} {σ : L2.St} {H : Hp} {Q : VK} (hG : TgR g tg G) (hix : ∀ i ∈ tg.ix, i ∈ own)
    (h : rd g W (dLc m it own tg cond elt) σ H Q) : tLc (rdI g W it) G (rdT g W0 cond) (rd g W0 elt) own σ H Q := by
  obtain ⟨F, f, R, ρ, S, sm, e, h⟩ := h
  unfold dLc at h
  cases eq : it ρ S with
  | err x S1 => rw [eq] at h; exact h.elim
  | stuck => rw [eq] at h; exact h.elim
  | ok w S1 =>
    rw [eq] at h
    dsimp only at h
    cases eq2 : lcD w tg cond elt (wipeD ρ own) w.vs [] S1 with
    | err x S1 => rw [eq2] at h; exact h.elim
    | stuck => rw [eq2] at h; exact h.elim
    | ok xs Sf =>
      rw [eq2] at h
      dsimp only at h
      refine ⟨F, f, R, ρ, S, sm, e, ?_⟩
      rw [eq]
      intro F1 f1 H1 x1 sm1 J hJ D hD
      have hR : ∀ q ∈ R, q.1 ≠ D := fun q hq => ne_of_none (sm1.res q hq).1 hD
      refine ⟨fun i k H => k = w.vs.length - i ∧ i ≤ w.vs.length ∧ ∃ F2 f2 S2 acc accD, Ext F1 f1 F2 f2 ∧ Sm g F2 f2 ((D, .lst acc) :: R) S2 H ∧ DaAll g.K F2 acc accD ∧
          lcD w tg cond elt (wipeD ρ own) (w.vs.drop i) accD S2 = .ok xs Sf, ⟨w.vs.length, by simp, Nat.zero_le _, F1, f1, S1, [], [], Ext.refl _ _, sm1.hold hD, .nil, by simpa using eq2⟩, ?_⟩
      rintro i k H2 ⟨rfl, hi, F2, f2, S2, acc, accD, x2, sm2, t2, q2⟩
      by_cases hlt : i < w.vs.length
      · refine .inr ?_
        rw [List.drop_eq_getElem_cons hlt] at q2
        unfold lcD at q2
        split at q2
        · rename_i hck
          obtain ⟨j1, j2⟩ := hJ ((D, .lst acc) :: R) i F2 f2 S2 H2 x2 sm2 hck
          obtain ⟨go, yl⟩ := j1 w.vs[i] (List.getElem?_eq_getElem hlt)
          split at q2
          · rename_i ρ1 ht
            refine ⟨go, _, fun H' n' => ⟨w.vs.length - (i + 1), by omega, n'⟩, fun x H3 y3 => ?_⟩
            obtain ⟨F3, x3, sm3, r3⟩ := yl x H3 y3
            have e3 : En g F3 f2 (wipeD ρ own) (wipe σ own) := ((e.sub x1).sub (x2.trans x3)).wipes own
            refine hG F3 f2 _ S2 H3 _ _ ρ1 x _ _ sm3 e3 r3 ht fun σ1 e4 w4 => ⟨?_, ?_⟩
            · rw [w4 own hix]
              exact wipe_wipe own own fun _ h => h
            · cases eqc : cond ρ1 S2 with
              | err _ _ => rw [eqc] at q2; cases q2
              | stuck => rw [eqc] at q2; cases q2
              | ok b S4 =>
                rw [eqc] at q2
                refine ⟨F3, f2, _, ρ1, S2, sm3, e4, ?_⟩
                rw [eqc]
                rintro F4 f4 H4 x4 sm4 b' rfl
                cases b' with
                | false =>
                  dsimp only at q2
                  rw [if_neg (by decide)]
                  exact ⟨rfl, hlt, F4, f4, S4, acc, accD, x2.trans (x3.trans x4), sm4, DaAll.sub (x3.trans x4).le t2, q2⟩
                | true =>
                  dsimp only at q2
                  rw [if_pos rfl]
                  cases eqe : elt ρ1 S4 with
                  | err _ _ => rw [eqe] at q2; cases q2
                  | stuck => rw [eqe] at q2; cases q2
                  | ok v5 S5 =>
                    rw [eqe] at q2
                    cases v5 with
                    | loc _ => cases q2
                    | fn _ => cases q2
                    | d y5 =>
                      dsimp only at q2
                      split at q2
                      · rename_i hz
                        refine ⟨F4, f4, _, ρ1, S4, sm4, e4.sub x4, ?_⟩
                        rw [eqe]
                        intro F5 f5 H5 x5 sm5 y ry
                        have t5 : DaAll g.K F5 acc accD := DaAll.sub ((x3.trans x4).trans x5).le t2
                        refine ⟨acc, (sm5.res _ List.mem_cons_self).1, by rw [t5.len]; exact hz, ?_⟩
                        exact ⟨rfl, hlt, F5, f5, S5, acc ++ [y], accD ++ [y5], x2.trans ((x3.trans x4).trans x5), sm5.rehold hR, t5.append (.one ry), q2⟩
                      · cases q2
          · cases q2
        · cases q2
      · have ei : i = w.vs.length := by omega
        subst ei
        rw [List.drop_length] at q2
        unfold lcD at q2
        split at q2
        · rename_i hck
          obtain ⟨_, j2⟩ := hJ ((D, .lst acc) :: R) w.vs.length F2 f2 S2 H2 x2 sm2 hck
          cases q2
          refine .inl ⟨j2 (Nat.le_refl _), ?_⟩
          split at h
          · obtain ⟨sm3, x3, g3⟩ := sm2.loosen (ob := .lst xs) hR ⟨acc, rfl, t2⟩
            exact h F2 _ H2 ((x1.trans x2).trans x3) sm3 _ ⟨D, g3, rfl⟩
          · obtain ⟨sm3, x3⟩ := sm2.freeze hR
            exact h _ f2 H2 ((x1.trans x2).trans x3) sm3 _ (Da.lst (.inl upd_same) (DaAll.sub x3.le t2))
        · cases q2
section
variable {X : Cx} {g : Gc} {W : WX} {m : Bool} {it : TD Itm} {tgd : Tg} {G : TG} {cond : TD Bool} {td : TD Val} {elt tg iter : Expr} {ifs : List Expr} {scope : Scope} {own : List (Str × Nat)} {pos : Pos}
theorem pd_lc (hc : X.calm = true) (hN : X.N.Nodup) (hi : PI X tg iter (rdI g W it)) (ok : BlkOk X.N X.env.scope scope own) (hG : TgR g tgd G) (hix : ∀ i ∈ tgd.ix, i ∈ own.map (·.2))
    (hg : ∀ (s : Shared) (H : Hp) (C : Addr) (cl : List (Str × Addr)) (fp : List Addr), PG (X.blk s H scope (compEnvC scope cl C X.env) fp) tg G) (ht : ∀ (s : Shared) (H : Hp) (C : Addr) (cl : List (Str × Addr)) (fp : List Addr), PTs (X.blk s H scope (compEnvC scope cl C X.env) fp) ifs (rdT g W0 cond))
    (he : ∀ (s : Shared) (H : Hp) (C : Addr) (cl : List (Str × Addr)) (fp : List Addr), PE (X.blk s H scope (compEnvC scope cl C X.env) fp) elt (rd g W0 td)) (hs : ∀ x, foldedSetIterable iter X.env x = pure x) :
    PE X (.ListComp elt [⟨tg, iter, ifs, 0⟩] scope pos) (rd g W (dLc m it (own.map (·.2)) tgd cond td)) := (pe_lc hc hN hi ok hg ht he hs).imp fun σ H Q h => lc_rd hG hix h
theorem pts_nilD : PTs X [] (rdT g W fun _ S => .ok true S) := ⟨fun pins s σ H Q I ⟨F, f, R, ρ, S, sm, e, h⟩ => pts_nil.run pins s σ H Q I (h.ok sm true rfl)⟩
end
end Ev
end

section
set_option Elab.async false
set_option linter.all false
set_option maxRecDepth 100000
set_option maxHeartbeats 4000000
/-! E9: statements, keyword calls, defs -/
namespace Ev
open PySem PySem.Spec PyProof.Rows L2

def SatS (g : Gc) (F : Hp) (f : List Addr) (R : Rs) (W : WX) (o : SOut) (D : Ends) : Prop := match o with
  | .next ρ S => ∀ F' f' σ' H', Ext F f F' f' → Sm g F' f' R S H' → En g F' f' ρ σ' → D.nx σ' H'
  | .brk ρ S => ∀ F' f' σ' H', Ext F f F' f' → Sm g F' f' R S H' → En g F' f' ρ σ' → D.bk σ' H'
  | .cont ρ S => ∀ F' f' σ' H', Ext F f F' f' → Sm g F' f' R S H' → En g F' f' ρ σ' → D.ct σ' H'
  | .ret v S => ∀ F' f' H' x, Ext F f F' f' → Sm g F' f' R S H' → VR g F' f' x v → D.rt x H'
  | .err e ρ S => ∀ F' f' σ' H' C d, Ext F f F' f' → Sm g F' f' R S H' → En g F' f' ρ σ' → ErrR g F' e C d H' → W C d σ' H'
  | .stuck => False
section
variable {g : Gc} {F F' : Hp} {f f' : List Addr} {R : Rs} {W : WX} {D D' : Ends} {o : SOut}
theorem SatS.step (h : SatS g F f R W o D) (e : Ext F f F' f') : SatS g F' f' R W o D := by
  cases o with
  | next ρ S => exact fun F2 f2 σ2 H2 e2 s => h F2 f2 σ2 H2 (e.trans e2) s
  | brk ρ S => exact fun F2 f2 σ2 H2 e2 s => h F2 f2 σ2 H2 (e.trans e2) s
  | cont ρ S => exact fun F2 f2 σ2 H2 e2 s => h F2 f2 σ2 H2 (e.trans e2) s
  | ret v S => exact fun F2 f2 H2 x e2 s => h F2 f2 H2 x (e.trans e2) s
  | err x ρ S => exact fun F2 f2 σ2 H2 C d e2 s => h F2 f2 σ2 H2 C d (e.trans e2) s
  | stuck => exact h
theorem S_of {α : Type} {o : Out α} {ρ : EnvD} {σ : L2.St} {k : α → Store → SOut} (h : SatS g F f R W (o.s ρ k) D) (e : En g F f ρ σ) :
    Sat g F f R (fun C d H' => W C d σ H') o (fun a F' f' S' H' => SatS g F' f' R W (k a S') D) := by
  cases o with
  | ok a S => exact fun F2 f2 H2 e2 s => SatS.step h e2
  | err x S => exact fun F2 f2 H2 C d e2 s r => h F2 f2 σ H2 C d e2 s (e.sub e2) r
  | stuck => exact h
theorem SatS.nx {ρ : EnvD} {S : Store} {σ : L2.St} {H : Hp} (h : SatS g F f R W (.next ρ S) D) (s : Sm g F f R S H) (e : En g F f ρ σ) : D.nx σ H := h F f σ H (Ext.refl _ _) s e
end
def rdS (g : Gc) (W : WX) (t : SD) : TS := fun D σ H => ∃ F f R ρ S, Sm g F f R S H ∧ En g F f ρ σ ∧ SatS g F f R W (t ρ S) D
theorem rS {g : Gc} {W : WX} {α β : Type} {rel : Hp → List Addr → β → α → Prop} {t : TD α} {Q : β → Hp → Prop} {F : Hp} {f : List Addr} {R : Rs} {S : Store} {H : Hp} {ρ : EnvD} {σ : L2.St} {k : α → Store → SOut} {D : Ends}
    (s : Sm g F f R S H) (e : En g F f ρ σ) (h : SatS g F f R W ((t ρ S).s ρ k) D)
    (hk : ∀ v F' f' S' H' x, Ext F f F' f' → Sm g F' f' R S' H' → En g F' f' ρ σ → rel F' f' x v → SatS g F' f' R W (k v S') D → Q x H') : rdG g W rel t σ H Q := rd_of s e (S_of h e) hk
section
variable {X : Cx} {g : Gc} {W : WX} {e a b c : Expr} {te ta tb : TD Val} {tc : TD Bool} {pos : Pos} {st : Stmt} {rest sa sb : List Stmt} {t u : SD}
theorem ss_nil : PSs X [] (rdS g W fun ρ S => .next ρ S) := pss_nil.imp fun D σ H ⟨F, f, R, ρ, S, s, e, h⟩ => h.nx s e
theorem ss_cons (h1 : PS X st (rdS g W t)) (h2 : PSs X rest (rdS g W u)) : PSs X (st :: rest) (rdS g W fun ρ S => (t ρ S).seq u) := (pss_cons h1 h2).imp fun D σ H ⟨F, f, R, ρ, S, s, e, h⟩ => by
  refine ⟨F, f, R, ρ, S, s, e, ?_⟩
  dsimp only at h
  cases eq : t ρ S with
  | next ρ1 S1 =>
    rw [eq] at h
    exact fun F2 f2 σ2 H2 e2 s2 en2 => ⟨F2, f2, R, ρ1, S1, s2, en2, SatS.step (o := u ρ1 S1) h e2⟩
  | brk ρ1 S1 => rw [eq] at h; exact h
  | cont ρ1 S1 => rw [eq] at h; exact h
  | ret v S1 => rw [eq] at h; exact h
  | err x ρ1 S1 => rw [eq] at h; exact h
  | stuck => rw [eq] at h; exact h
theorem sd_ret (he : PE X e (rd g W te)) : PS X (.Return (some e) pos) (rdS g W fun ρ S => (te ρ S).s ρ fun v S1 => .ret v S1) := (ps_ret he).imp fun D σ H ⟨F, f, R, ρ, S, s, e, h⟩ =>
  rS s e h fun v F1 f1 S1 H1 x e1 s1 en1 r1 h1 => h1 F1 f1 H1 x (Ext.refl _ _) s1 r1
theorem sd_retN : PS X (.Return none pos) (rdS g W fun _ S => .ret (.d .none) S) := ps_retN.imp fun D σ H ⟨F, f, R, ρ, S, s, e, h⟩ => h F f H .non (Ext.refl _ _) s .non
theorem sd_if (hc : PT X c (rdT g W tc)) (ha : PSs X sa (rdS g W t)) (hb : PSs X sb (rdS g W u)) : PS X (.If c sa sb pos) (rdS g W fun ρ S => (tc ρ S).s ρ fun k S1 => if k = true then t ρ S1 else u ρ S1) :=
  (ps_if hc ha hb).imp fun D σ H ⟨F, f, R, ρ, S, s, e, h⟩ => rS s e h fun k F1 f1 S1 H1 x e1 s1 en1 r1 h1 => by
    subst r1
    by_cases hk : x = true
    · rw [if_pos hk] at h1 ⊢
      exact ⟨F1, f1, R, ρ, S1, s1, en1, h1⟩
    · rw [if_neg hk] at h1 ⊢
      exact ⟨F1, f1, R, ρ, S1, s1, en1, h1⟩
theorem sd_pass : PS X (.Pass pos) (rdS g W fun ρ S => .next ρ S) := ps_pass.imp fun D σ H ⟨F, f, R, ρ, S, s, e, h⟩ => h.nx s e
theorem sd_brk : PS X (.Break pos) (rdS g W fun ρ S => .brk ρ S) := ps_break.imp fun D σ H ⟨F, f, R, ρ, S, s, e, h⟩ => h F f σ H (Ext.refl _ _) s e
theorem sd_cnt : PS X (.Continue pos) (rdS g W fun ρ S => .cont ρ S) := ps_continue.imp fun D σ H ⟨F, f, R, ρ, S, s, e, h⟩ => h F f σ H (Ext.refl _ _) s e
theorem sd_never : PS X st (rdS g W fun _ _ => .stuck) := ps_never.imp fun D σ H ⟨F, f, R, ρ, S, s, e, h⟩ => h
theorem sd_expr (he : PE X e (rd g W te)) (hs : swapsWith e none pos.line X.env = pure false) : PS X (.Expr e pos) (rdS g W fun ρ S => (te ρ S).s ρ fun _ S1 => .next ρ S1) :=
  (ps_expr he hs).imp fun D σ H ⟨F, f, R, ρ, S, s, e, h⟩ => rS s e h fun v F1 f1 S1 H1 x e1 s1 en1 r1 h1 => h1.nx s1 en1
theorem sd_doc {x : Str} {j : Nat} {pos' : Pos} : PS X (.Expr (.Constant (.str x) j pos) pos') (rdS g W fun ρ S => .next ρ S) := ps_doc.imp fun D σ H ⟨F, f, R, ρ, S, s, e, h⟩ => h.nx s e
def asgD (t : Tg) (te : TD Val) : SD := fun ρ S => (te ρ S).s ρ fun v S1 => match tgt t v ρ with
  | some ρ1 => .next ρ1 S1
  | none => .stuck
theorem asg_rd {tg : Tg} {G : TG} (hG : TgR g tg G) {D : Ends} {σ : L2.St} {H : Hp} (h : rdS g W (asgD tg te) D σ H) : tAsg (rd g W te) G D σ H := by
  obtain ⟨F, f, R, ρ, S, s, e, h⟩ := h
  refine rS s e h fun v F1 f1 S1 H1 x e1 s1 en1 r1 h1 => ?_
  cases q : tgt tg v ρ with
  | none => rw [q] at h1; exact h1.elim
  | some ρ1 =>
    rw [q] at h1
    exact hG F1 f1 R S1 H1 σ ρ ρ1 x v _ s1 en1 r1 q fun σ1 e2 _ => h1.nx s1 e2
theorem sd_asg {tg : Expr} {tgd : Tg} {G : TG} (hG : TgR g tgd G) (he : PE X e (rd g W te)) (hg : PG X tg G) (hs : swapsWithSole [tg] e pos.line X.env = pure false) (hw : swappedStores [tg] e X.env = pure none) (hn : nstar tg = true) :
    PS X (.Assign [tg] e pos) (rdS g W (asgD tgd te)) := (ps_asg he hg hs hw (by rw [asg_cons hn]; rfl)).imp fun D σ H h => asg_rd hG h
theorem sd_set {i : Nat} {x : Str} {p' : Pos} (hN : X.N.Nodup) (hi : X.N[i]? = some x) (hx : Loc X.env.scope x) (he : PE X e (rd g W te)) (hs : swapsWith e (some (.Name x p')) pos.line X.env = pure false) (hf : X.fn x = true ∨ X.env.scope.names.lookup x = some .local) :
    PS X (.Assign [.Name x p'] e pos) (rdS g W (asgD (.nm i) te)) := (ps_set hN hi hx he hs hf).imp fun D σ H h => asg_rd tgr_nm h
theorem sd_setLc {i : Nat} {y : Str} {py spos : Pos} {m : Bool} {it : TD Itm} {tgd : Tg} {G : TG} {cond : TD Bool} {td : TD Val} {elt tg iter : Expr} {ifs : List Expr} {scope : Scope} {own : List (Str × Nat)}
    (hc : X.calm = true) (hN : X.N.Nodup) (hy : X.N[i]? = some y) (hyl : X.env.scope.names.lookup y = some .local)
    (hsw : swapsWith (.ListComp elt [⟨tg, iter, ifs, 0⟩] scope pos) (some (.Name y py)) spos.line X.env = pure true) (hi : PI X tg iter (rdI g W it)) (ok : BlkOk X.N X.env.scope scope own) (hG : TgR g tgd G) (hix : ∀ i ∈ tgd.ix, i ∈ own.map (·.2))
    (hg : ∀ (s : Shared) (H : Hp) (C : Addr) (cl : List (Str × Addr)) (fp : List Addr), PG (X.blk s H scope (compEnvC scope cl C X.env) fp) tg G) (ht : ∀ (s : Shared) (H : Hp) (C : Addr) (cl : List (Str × Addr)) (fp : List Addr), PTs (X.blk s H scope (compEnvC scope cl C X.env) fp) ifs (rdT g W0 cond))
    (he : ∀ (s : Shared) (H : Hp) (C : Addr) (cl : List (Str × Addr)) (fp : List Addr), PE (X.blk s H scope (compEnvC scope cl C X.env) fp) elt (rd g W0 td)) (hs : ∀ x, foldedSetIterable iter X.env x = pure x) :
    PS X (.Assign [.Name y py] (.ListComp elt [⟨tg, iter, ifs, 0⟩] scope pos) spos) (rdS g W (asgD (.nm i) (dLc m it (own.map (·.2)) tgd cond td))) :=
  (ps_setLc hc hN hy hyl hsw hi ok hg ht he hs).imp fun D σ H ⟨F, f, R, ρ, S, s, e, h⟩ => by
    have h2 := asg_rd (W := W) tgr_nm ⟨F, f, R, ρ, S, s, e, h⟩
    exact lc_rd hG hix h2
/-- a, b = x, y -/
def parS (is : List Nat) (t : TD (List Val)) : SD := fun ρ S => (t ρ S).s ρ fun vs S1 => if vs.length = is.length then .next (parD is vs ρ) S1 else .stuck
theorem sd_par {i j : Nat} {x y : Str} {t : TD (List Val)} {px py pt : Pos} {kt k2 pt2} (hc : X.calm = true) (hN : X.N.Nodup) (hi : X.N[i]? = some x) (hj : X.N[j]? = some y) (hij : i ≠ j)
    (hx : X.env.scope.names.lookup x = some .local) (hy : X.env.scope.names.lookup y = some .local) (ha : PA X [a, b] (rdA g W t))
    (hw : swappedStores [.Tuple [.Name x px, .Name y py] kt pt] (.Tuple [a, b] k2 pt2) X.env = pure (some [x, y])) :
    PS X (.Assign [.Tuple [.Name x px, .Name y py] kt pt] (.Tuple [a, b] k2 pt2) pos) (rdS g W (parS [i, j] t)) := (ps_par hc hN hi hj hij hx hy ha hw).imp fun D σ H ⟨F, f, R, ρ, S, s, e, h⟩ =>
  rS s e h fun vs F1 f1 S1 H1 xs e1 s1 en1 r1 h1 => by
    split at h1
    · cases r1 with
      | nil => rename_i hl; cases hl
      | cons p1 q1 => cases q1 with
        | nil => rename_i hl; cases hl
        | cons p2 q2 => cases q2 with
          | nil => exact ⟨_, _, rfl, h1.nx s1 ((en1.set i p1).set j p2)⟩
          | cons p3 q3 => rename_i hl; simp at hl
    · exact h1.elim
theorem sd_par3 {i j l : Nat} {x y z : Str} {t : TD (List Val)} {px py pz pt : Pos} {kt k2 pt2} (hc : X.calm = true) (hN : X.N.Nodup) (hi : X.N[i]? = some x) (hj : X.N[j]? = some y) (hl : X.N[l]? = some z) (hij : i ≠ j) (hil : i ≠ l) (hjl : j ≠ l)
    (hx : X.env.scope.names.lookup x = some .local) (hy : X.env.scope.names.lookup y = some .local) (hz : X.env.scope.names.lookup z = some .local) (ha : PA X [a, b, c] (rdA g W t))
    (hw : swappedStores [.Tuple [.Name x px, .Name y py, .Name z pz] kt pt] (.Tuple [a, b, c] k2 pt2) X.env = pure (some [x, y, z])) :
    PS X (.Assign [.Tuple [.Name x px, .Name y py, .Name z pz] kt pt] (.Tuple [a, b, c] k2 pt2) pos) (rdS g W (parS [i, j, l] t)) := (ps_par3 hc hN hi hj hl hij hil hjl hx hy hz ha hw).imp fun D σ H ⟨F, f, R, ρ, S, s, e, h⟩ =>
  rS s e h fun vs F1 f1 S1 H1 xs e1 s1 en1 r1 h1 => by
    split at h1
    · cases r1 with
      | nil => rename_i hl; cases hl
      | cons p1 q1 => cases q1 with
        | nil => rename_i hl; cases hl
        | cons p2 q2 => cases q2 with
          | nil => rename_i hl; cases hl
          | cons p3 q3 => cases q3 with
            | nil => exact ⟨_, _, _, rfl, h1.nx s1 (((en1.set i p1).set j p2).set l p3)⟩
            | cons p4 q4 => rename_i hl; simp at hl
    · exact h1.elim
/-- o[i] = e -/
def setS (te to ti : TD Val) : SD := fun ρ S => ((te ρ S).bind fun w S1 => (to ρ S1).bind fun v S2 => (ti ρ S2).bind fun u S3 => setV v u w S3).s ρ fun _ S4 => .next ρ S4
theorem Sat.sbind {α β : Type} {F : Hp} {f : List Addr} {R : Rs} {S : Store} {o : Out α} {φ : α → Store → Out β} {k : β → Store → SOut} {ρ : EnvD} {D : Ends} : SatS g F f R W ((o.bind φ).s ρ k) D → SatS g F f R W (o.s ρ fun a S => (φ a S).s ρ k) D := by
  intro h
  cases o with
  | ok a S => exact h
  | err x S => exact h
  | stuck => exact h
theorem sd_seti {o i : Expr} {to ti : TD Val} {p : Pos} (ho : PE X o (rd g W to)) (hi : PE X i (rd g W ti)) (he : PE X e (rd g W te)) (hs : swapsWithSole [.Subscript o i p] e pos.line X.env = pure false) (hw : swappedStores [.Subscript o i p] e X.env = pure none)
    (ha : ∀ v, assign (.Subscript o i p) X.env v = (do
      let ov ← holding [v] (eval o X.env)
      let iv ← holding [v, ov] (eval i X.env)
      standAt p
      holding [v, ov, iv] (setItem ov iv v)
      release [v, ov, iv] [])) : PS X (.Assign [.Subscript o i p] e pos) (rdS g W (setS te to ti)) :=
  (ps_asg he (pg_sub ho hi set_list ha) hs hw rfl).imp fun D σ H ⟨F, f, R, ρ, S, s, e, h⟩ => by
    refine rS s e (Sat.sbind (S := S) h) fun w F1 f1 S1 H1 z e1 s1 en1 r1 h1 => ?_
    refine rS s1 en1 (Sat.sbind (S := S) h1) fun v F2 f2 S2 H2 x e2 s2 en2 r2 h2 => ?_
    refine rS s2 en2 (Sat.sbind (S := S) h2) fun u F3 f3 S3 H3 y e3 s3 en3 r3 h3 => ?_
    exact real_set s3 (r2.sub e3) r3 ((r1.sub e2).sub e3) ((S_of h3 en3).imp fun _ F4 f4 S4 H4 e4 s4 _ h4 => h4.nx s4 (en3.sub e4))
/-! ### loops -/
theorem sd_for {tg iter : Expr} {tgd : Tg} {G : TG} {it : TD Itm} (hp : PassesOwn (model X.prog X.w) X.A X.env X.xe) (hc : X.calm = true) (hG : TgR g tgd G) (hi : PI X tg iter (rdI g W it)) (hg : PG X tg G) (hb : PSs X sa (rdS g W t))
    (hs : ∀ x, foldedSetIterable iter X.env x = pure x) : PS X (.For tg iter sa [] pos) (rdS g W fun ρ S => (it ρ S).s ρ fun w S1 => forD w tgd t w.vs ρ S1) :=
  (ps_for hp hc hi hg hb hs).imp fun D σ H ⟨F, f, R, ρ, S, s, e, h⟩ => by
    refine ⟨F, f, R, ρ, S, s, e, (S_of h e).imp fun w F1 f1 S1 H1 x1 s1 _ h1 J hJ => ?_⟩
    refine ⟨fun i k σ H => k = w.vs.length - i ∧ i ≤ w.vs.length ∧ ∃ F2 f2 S2 ρ2, Ext F1 f1 F2 f2 ∧ Sm g F2 f2 R S2 H ∧ En g F2 f2 ρ2 σ ∧ SatS g F2 f2 R W (forD w tgd t (w.vs.drop i) ρ2 S2) D,
      ⟨w.vs.length, by simp, Nat.zero_le _, F1, f1, S1, ρ, Ext.refl _ _, s1, e.sub x1, by simpa using h1⟩, ?_⟩
    rintro i k σ2 H2 ⟨rfl, hi', F2, f2, S2, ρ2, x2, s2, e2, q2⟩
    by_cases hlt : i < w.vs.length
    · refine .inr ?_
      rw [List.drop_eq_getElem_cons hlt] at q2
      unfold forD at q2
      split at q2
      · rename_i hck
        obtain ⟨j1, j2⟩ := hJ R i F2 f2 S2 H2 x2 s2 hck
        obtain ⟨go, yl⟩ := j1 w.vs[i] (List.getElem?_eq_getElem hlt)
        split at q2
        · rename_i ρ1 ht
          refine ⟨go, _, fun σ' H' n' => ⟨w.vs.length - (i + 1), by omega, n'⟩, fun x H3 y3 => ?_⟩
          obtain ⟨F3, x3, s3, r3⟩ := yl x H3 y3
          refine hG F3 f2 R S2 H3 _ _ ρ1 x _ _ s3 (e2.sub x3) r3 ht fun σ1 e4 _ => ⟨F3, f2, R, ρ1, S2, s3, e4, ?_⟩
          have nx : ∀ {ρ5 : EnvD} {S5 : Store}, SatS g F2 f2 R W (forD w tgd t (w.vs.drop (i + 1)) ρ5 S5) D → ∀ F' f' σ' H', Ext F3 f2 F' f' → Sm g F' f' R S5 H' → En g F' f' ρ5 σ' →
              w.vs.length - (i + 1) = w.vs.length - (i + 1) ∧ i + 1 ≤ w.vs.length ∧ ∃ F2 f2 S2 ρ2, Ext F1 f1 F2 f2 ∧ Sm g F2 f2 R S2 H' ∧ En g F2 f2 ρ2 σ' ∧ SatS g F2 f2 R W (forD w tgd t (w.vs.drop (i + 1)) ρ2 S2) D :=
            fun {ρ5 S5} q F' f' σ' H' x5 s5 e5 => ⟨rfl, hlt, F', f', S5, ρ5, x2.trans (x3.trans x5), s5, e5, q.step (x3.trans x5)⟩
          cases eqb : t ρ1 S2 with
          | next ρ5 S5 => rw [eqb] at q2; exact nx q2
          | cont ρ5 S5 => rw [eqb] at q2; exact nx q2
          | brk ρ5 S5 => rw [eqb] at q2; exact fun F' f' σ' H' x5 s5 e5 => q2 F' f' σ' H' (x3.trans x5) s5 e5
          | ret v S5 => rw [eqb] at q2; exact fun F' f' H' x x5 s5 r5 => q2 F' f' H' x (x3.trans x5) s5 r5
          | err v ρ5 S5 => rw [eqb] at q2; exact fun F' f' σ' H' C d x5 s5 e5 r5 => q2 F' f' σ' H' C d (x3.trans x5) s5 e5 r5
          | stuck => rw [eqb] at q2; exact q2
        · exact q2.elim
      · exact q2.elim
    · have ei : i = w.vs.length := by omega
      subst ei
      rw [List.drop_length] at q2
      unfold forD at q2
      split at q2
      · rename_i hck
        obtain ⟨_, j2⟩ := hJ R w.vs.length F2 f2 S2 H2 x2 s2 hck
        exact .inl ⟨j2 (Nat.le_refl _), q2.nx s2 e2⟩
      · exact q2.elim
theorem sd_whl {n : Nat} (hp : PassesOwn (model X.prog X.w) X.A X.env X.xe) (hc : PT X c (rdT g W tc)) (hb : PSs X sa (rdS g W t)) : PS X (.While c sa [] pos) (rdS g W fun ρ S => whlD tc t n ρ S) :=
  (ps_while hp hc hb).imp fun D σ H ⟨F, f, R, ρ, S, s, e, h⟩ => by
    refine ⟨fun m σ H => ∃ F f R ρ S, Sm g F f R S H ∧ En g F f ρ σ ∧ SatS g F f R W (whlD tc t m ρ S) D, ⟨n, F, f, R, ρ, S, s, e, h⟩, ?_⟩
    rintro m σ2 H2 ⟨F2, f2, R2, ρ2, S2, s2, e2, q2⟩
    cases m with
    | zero => exact q2.elim
    | succ m =>
      refine rS s2 e2 q2 fun k F3 f3 S3 H3 x e3 s3 en3 r3 h3 => ?_
      subst r3
      by_cases hk : x = true
      · rw [if_pos hk] at h3 ⊢
        refine ⟨_, fun σ' H' n' => ⟨m, Nat.lt_succ_self m, n'⟩, F3, f3, R2, ρ2, S3, s3, en3, ?_⟩
        cases eqb : t ρ2 S3 with
        | next ρ5 S5 => rw [eqb] at h3; exact fun F' f' σ' H' x5 s5 e5 => ⟨F', f', R2, ρ5, S5, s5, e5, SatS.step (o := whlD tc t m ρ5 S5) h3 x5⟩
        | cont ρ5 S5 => rw [eqb] at h3; exact fun F' f' σ' H' x5 s5 e5 => ⟨F', f', R2, ρ5, S5, s5, e5, SatS.step (o := whlD tc t m ρ5 S5) h3 x5⟩
        | brk ρ5 S5 => rw [eqb] at h3; exact h3
        | ret v S5 => rw [eqb] at h3; exact h3
        | err v ρ5 S5 => rw [eqb] at h3; exact h3
        | stuck => rw [eqb] at h3; exact h3
      · rw [if_neg hk] at h3 ⊢
        exact h3.nx s3 en3
end
/-! ### keyword calls -/
/-- how n positional values and keywords named ks are bound -/
def pickG {α : Type} (gs : List Nat) (l : List α) : Option (List α) := gs.mapM fun i => l[i]?
def KwB (K : PySem.W.Frag) (fd : FuncData) (ps : List Str) (n : Nat) (ks : List Str) (gs : List Nat) : Prop := ∀ (s : Shared) (us ws : List Value), K.In s.heap → us.length = n → ws.length = ks.length →
  ∃ zs, pickG gs (us ++ ws) = some zs ∧ BindsTo s fd ⟨us, ks.zip ws⟩ (ps.zip zs)
theorem pick_nil {α : Type} (l : List α) : pickG [] l = some [] := rfl
theorem pick_cons {α : Type} (i : Nat) (gs : List Nat) (l : List α) : pickG (i :: gs) l = (l[i]?).bind fun x => (pickG gs l).map (x :: ·) := by
  show List.mapM _ (i :: gs) = _
  rw [List.mapM_cons]
  cases l[i]? with
  | none => rfl
  | some x =>
    show (do let r ← List.mapM (fun i => l[i]?) gs; pure (x :: r)) = _
    cases h : List.mapM (fun i => l[i]?) gs with
    | none => simp [pickG, h]
    | some r => simp [pickG, h]
theorem pick_vrs {g : Gc} {F : Hp} {f : List Addr} {xs : List V} {vs : List Val} (r : VRs g F f xs vs) : ∀ {gs : List Nat} {ws : List Val}, pickG gs vs = some ws → ∃ ys, pickG gs xs = some ys ∧ VRs g F f ys ws
  | [], _, h => by cases h; exact ⟨[], rfl, .nil⟩
  | i :: gs, ws, h => by
    rw [pick_cons] at h
    cases e : vs[i]? with
    | none => rw [e] at h; cases h
    | some v =>
      rw [e] at h
      cases e2 : pickG gs vs with
      | none => rw [e2] at h; cases h
      | some l =>
        rw [e2] at h
        cases h
        obtain ⟨x, q1, q2⟩ := r.get e
        obtain ⟨ys, q3, q4⟩ := pick_vrs r e2
        exact ⟨x :: ys, by rw [pick_cons, q1, q3]; rfl, .cons q2 q4⟩
theorem pick_vals {xs : List V} {us : List Value} (r : Vals xs us) : ∀ {gs : List Nat} {ys : List V} {zs : List Value}, pickG gs xs = some ys → pickG gs us = some zs → Vals ys zs
  | [], _, _, h, h2 => by cases h; cases h2; exact .nil
  | i :: gs, ys, zs, h, h2 => by
    rw [pick_cons] at h h2
    cases e : xs[i]? with
    | none => rw [e] at h; cases h
    | some v =>
      obtain ⟨u, q1, q2⟩ := r.get e
      rw [e] at h; rw [q1] at h2
      cases e2 : pickG gs xs with
      | none => rw [e2] at h; cases h
      | some l =>
        cases e3 : pickG gs us with
        | none => rw [e3] at h2; cases h2
        | some l2 =>
          rw [e2] at h; rw [e3] at h2
          cases h; cases h2
          exact .cons q2 (pick_vals r e2 e3)
section
variable {X : Cx} {g : Gc} {W : WX} {a : Expr} {es : List Expr} {kws : List Keyword} {t tk : TD (List Val)} {pos p : Pos} {x : Str}
theorem pk_nilD : PK X [] (rdA g W fun _ S => .ok [] S) := ⟨fun pos pins s σ H Q I ⟨F, f, R, ρ, S, sm, e, h⟩ => pk_nil.run pos pins s σ H Q I (h.ok sm [] .nil)⟩
theorem pk_consD {ta : TD Val} {nm : Option Str} {kpos : Pos} (ha : PE X a (rd g W ta)) (hr : PK X kws (rdA g W t)) : PK X (⟨nm, a, kpos⟩ :: kws) (rdA g W (consD ta t)) :=
  ⟨fun pos pins s σ H Q I ⟨F, f, R, ρ, S, sm, e, h⟩ => (pk_cons ha hr).run pos pins s σ H Q I (rd_bind sm e h fun v F1 f1 S1 H1 x e1 s1 en1 r1 h1 => rd_bind s1 en1 h1 fun vs F2 f2 S2 H2 xs e2 s2 en2 r2 h2 => h2.ok s2 _ (.cons (r1.sub e2) r2))⟩
def kwNm : List Keyword → Option (List Str)
  | [] => some []
  | ⟨some n, _, _⟩ :: r => (kwNm r).map (n :: ·)
  | _ => none
theorem kw_facts {pos : Pos} {env : Env} : ∀ {kws : List Keyword} {ks : List Str}, kwNm kws = some ks → (backToKw pos (keywordEach kws env)).all (·.1.isSome) = true ∧ (backToKw pos (keywordEach kws env)).filterMap (·.1) = ks ∧
    (backToKw pos (keywordEach kws env)).any (·.1.isNone) = false
  | [], _, h => by cases h; exact ⟨rfl, rfl, rfl⟩
  | ⟨none, _, _⟩ :: r, _, h => by cases h
  | ⟨some n, v, q⟩ :: r, ks, h => by
    unfold kwNm at h
    cases e : kwNm r with
    | none => rw [e] at h; cases h
    | some l =>
      rw [e] at h
      cases h
      obtain ⟨h1, h2, h3⟩ := kw_facts (pos := pos) (env := env) e
      refine ⟨h1, ?_, h3⟩
      show List.filterMap _ (_ :: _) = _
      rw [List.filterMap_cons]
      show n :: _ = _
      exact congrArg _ h2
theorem run_fnGK {k n : Nat} {fa : Addr} {fd : FuncData} {ps ks : List Str} {gs : List Nat} {sp : Sp} {E : L2.St → XK} {pins : List (Addr × Obj)} {σ : L2.St} {H : Hp} {s : Shared} {Q : VK} {us ws : List Value} {vs zs ys : List V} (Fn : FnG X.prog X.w X.K X.mg X.base k fa fd ps sp)
    (hr : Room k X.A) (hgd : X.A.guards = some []) (hb : KwB X.K fd ps n ks gs) (hx : PassesAt (L2.CX X.prog X.w) X σ (E σ)) (l1 : us.length = n) (l2 : ws.length = ks.length)
    (I : Inv X pins σ H s) (r : Vals vs us) (rz : Vals zs ws) (hy : pickG gs (vs ++ zs) = some ys) (h : sp ys H Q (E σ)) : wpAny (model X.prog X.w) X.A (call (.ref fa) us (ks.zip ws)) (EP X pins σ Q) X.xe s := by
  obtain ⟨qs, q1, b⟩ := hb s us ws I.kIn l1 l2
  have r2 : Vals ys qs := pick_vals (r.append rz) hy q1
  refine wpAny_call (codeAny_mono (Fn.run X.A X.stack s H ⟨us, ks.zip ws⟩ qs ys Q (E σ) hr hgd I.env0 b r2 h) fun r s' hq => ?_)
  cases r with
  | error e => exact hx pins H s e s' I hq
  | ok fl =>
    cases fl with
    | ret u => exact I.after hq
    | next => exact False.elim hq
    | brk => exact False.elim hq
    | cont => exact False.elim hq
variable {C : Calls} {k n m : Nat} {fa : Addr} {fd : FuncData} {ps ks : List Str} {gs : List Nat}
theorem kall_rd {ρ : EnvD} {S : Store} {σ : L2.St} {H : Hp} {Q : VK} {F : Hp} {f : List Addr} {R : Rs} (hl : gs.length = ps.length) (ht : ∀ ρ S vs S', t ρ S = .ok vs S' → vs.length = m) (htk : ∀ ρ S vs S', tk ρ S = .ok vs S' → vs.length = ks.length)
    (sm : Sm g F f R S H) (e : En g F f ρ σ) (h : Sat g F f R (fun C d H' => W C d σ H') (dKall C k gs t tk ρ S) fun v F' f' S' H' => ∀ x, VR g F' f' x v → Q x H') :
    rdA g W t σ H fun vs H1 => vs.length = m ∧ rdA g W tk σ H1 fun zs H2 => zs.length = ks.length ∧ ∃ ys, pickG gs (vs ++ zs) = some ys ∧ spD g C k ps.length ys H2 Q (WE W σ) := by
  refine ⟨F, f, R, ρ, S, sm, e, h.bind.imp fun vs F1 f1 S1 H1 e1 s1 h1 q xs rx => ⟨by rw [rx.len]; exact ht _ _ _ _ h1, F1, f1, R, ρ, S1, s1, e.sub e1, q.bind.imp fun us F2 f2 S2 H2 e2 s2 h2 q2 zs rz => ⟨by rw [rz.len]; exact htk _ _ _ _ h2, ?_⟩⟩⟩
  cases hp : pick gs (vs ++ us) with
  | none => rw [hp] at q2; exact q2.elim
  | some ws =>
    rw [hp] at q2
    obtain ⟨ys, q3, q4⟩ := pick_vrs ((rx.sub e2).append rz) hp
    have pl : ∀ {gs : List Nat} {ws : List Val}, pickG gs (vs ++ us) = some ws → ws.length = gs.length := by
      intro gs
      induction gs with
      | nil => intro ws h; cases h; rfl
      | cons i gs ih =>
        intro ws h
        rw [pick_cons] at h
        cases e : (vs ++ us)[i]? with
        | none => rw [e] at h; cases h
        | some v =>
          rw [e] at h
          cases e2 : pickG gs (vs ++ us) with
          | none => rw [e2] at h; cases h
          | some l => rw [e2] at h; cases h; simp [ih e2]
    exact ⟨ys, q3, F2, f2, R, S2, ws, s2, q4, (pl hp).trans hl, q2⟩
theorem pd_kall (Fn : FnG X.prog X.w X.K X.mg X.base n fa fd ps (spD g C k ps.length)) (hr : Room n X.A) (hgd : X.A.guards = some []) (hg : Gl X x) (hm : X.mg x = some (.ref fa))
    (hk : PySem.W.keepIn X.K (.ref fa) = true) (hb : KwB X.K fd ps m ks gs) (tke : Takes X W) (ha : PA X (a :: es) (rdA g W t)) (hkw : PK X kws (rdA g W tk)) (hl : gs.length = ps.length) (ht : ∀ ρ S vs S', t ρ S = .ok vs S' → vs.length = m) (htk : ∀ ρ S vs S', tk ρ S = .ok vs S' → vs.length = ks.length)
    (hn : kwNm kws = some ks) (hdb : (x == ("__debug__" : Str)) = false) (hs : (a :: es).all nstar = true) : PE X (.Call (.Name x p) (a :: es) kws pos) (rd g W (dKall C k gs t tk)) := by
  have hs0 := hs
  rw [List.all_cons, Bool.and_eq_true] at hs
  obtain ⟨k1, k2, k3⟩ := kw_facts (pos := pos) (env := X.env) hn
  refine ⟨fun pins s σ H Q I ⟨F, f, R, ρ, S, sm, e, h⟩ => ?_⟩
  have h2 := kall_rd hl ht htk sm e h
  refine wpAny_Call_Name_kw (ld_glob I hg hm ?_ hdb)
  refine PySem.W.callWith_KW (h₀ := X.base) I.ok.mod.kin hk k1 (thn (ha.run pos pins s σ H _ I h2) fun us s1 ⟨vs, H1, I1, r, l1, q⟩ => ?_) (by rw [star_any hs0, k3] <;> rfl) (star_cons hs.1)
  refine thn (hkw.run pos pins s1 σ H1 _ I1 q) fun ws s2 ⟨zs, H2, I2, rz, l2, ys, hy, q2⟩ => ⟨I2.kIn, ?_⟩
  rw [k2]
  exact run_fnGK (E := WE W) Fn hr hgd hb (passAt tke σ) (r.length.symm.trans l1) (rz.length.symm.trans l2) I2 r rz hy q2
theorem pd_kall0 (Fn : FnG X.prog X.w X.K X.mg X.base n fa fd ps (spD g C k ps.length)) (hr : Room n X.A) (hgd : X.A.guards = some []) (hg : Gl X x) (hm : X.mg x = some (.ref fa))
    (hk : PySem.W.keepIn X.K (.ref fa) = true) (hb : KwB X.K fd ps 0 ks gs) (tke : Takes X W) (hkw : PK X kws (rdA g W tk)) (hl : gs.length = ps.length) (htk : ∀ ρ S vs S', tk ρ S = .ok vs S' → vs.length = ks.length)
    (hn : kwNm kws = some ks) (hdb : (x == ("__debug__" : Str)) = false) : PE X (.Call (.Name x p) [] kws pos) (rd g W (dKall C k gs (fun _ S => .ok [] S) tk)) := by
  obtain ⟨k1, k2, k3⟩ := kw_facts (pos := pos) (env := X.env) hn
  refine ⟨fun pins s σ H Q I ⟨F, f, R, ρ, S, sm, e, h⟩ => ?_⟩
  have h2 := kall_rd (m := 0) hl (fun _ _ vs _ q => by cases q; rfl) htk sm e h
  refine wpAny_Call_Name_kw (ld_glob I hg hm ?_ hdb)
  refine PySem.W.callWith_KW0 (h₀ := X.base) I.ok.mod.kin hk k1 ?_ (by rw [k3] <;> rfl)
  have h3 : rdA g W tk σ H fun zs H2 => zs.length = ks.length ∧ ∃ ys, pickG gs ([] ++ zs) = some ys ∧ spD g C k ps.length ys H2 Q (WE W σ) := by
    obtain ⟨F2, f2, R2, ρ2, S2, sm2, e2, q⟩ := h2
    exact (q.ok sm2 [] .nil).2
  refine thn (hkw.run pos pins s σ H _ I h3) fun ws s2 ⟨zs, H2, I2, rz, l2, ys, hy, q2⟩ => ⟨I2.kIn, ?_⟩
  rw [k2]
  exact run_fnGK (E := WE W) (us := []) Fn hr hgd hb (passAt tke σ) rfl (rz.length.symm.trans l2) I2 .nil rz hy q2
end
/-! ### a def's body -/
theorem Sm.cut {g : Gc} {F : Hp} {f : List Addr} {R : Rs} {S : Store} {H : Hp} (s : Sm g F f R S H) (n : Nat) : Sm g F (f.take n) R (S.take n) H := by
  refine ⟨s.le, fun a ha => s.nof a (List.mem_of_mem_take ha), s.nd.sublist (List.take_sublist _ _), by simp [s.len], fun m ob a h1 h2 => ?_, fun q hq => let ⟨e1, e2, e3⟩ := s.res q hq; ⟨e1, e2, fun z => e3 (List.mem_of_mem_take z)⟩⟩
  rw [List.getElem?_take] at h1 h2
  split at h1
  · rename_i hm
    rw [if_pos hm] at h2
    exact s.st m ob a h1 h2
  · cases h1
theorem Ext.cut {F F' : Hp} {f f' : List Addr} (e : Ext F f F' f') : f'.take f.length = f := by
  refine List.ext_getElem? fun i => ?_
  rw [List.getElem?_take]
  split
  · rename_i h
    rw [e.pre i f[i] (List.getElem?_eq_getElem h), List.getElem?_eq_getElem h]
  · rename_i h
    rw [List.getElem?_eq_none (by omega)]
/-- the store behind a call -/
theorem back_of {mu : Bool} {g : Gc} {F F' : Hp} {f f' : List Addr} {R : Rs} {S S' : Store} {H' : Hp} {v : Val} {x : V} {W : WH} {Q : VK} (hl : S.length = f.length) (x1 : Ext F f F' f') (s : Sm g F' f' R S' H') (r : VR g F' f' x v)
    (h : Sat g F f R W (back mu S.length v S') fun v F' f' S' H' => ∀ x, VR g F' f' x v → Q x H') : Q x H' := by
  have s2 : Sm g F' f R (S'.take S.length) H' := by
    have := s.cut S.length
    rw [hl, x1.cut] at this
    rw [hl]; exact this
  have x2 : Ext F f F' f := ⟨x1.le, fun _ _ h => h⟩
  cases v with
  | d y => exact h F' f H' x2 s2 x r
  | fn k => exact h F' f H' x2 s2 x r
  | loc m =>
    unfold back at h
    obtain ⟨a, q1, rfl⟩ := r
    dsimp only at h
    split at h
    · rename_i hm
      refine h F' f H' x2 s2 _ ⟨a, ?_, rfl⟩
      rw [← x1.cut, List.getElem?_take, if_pos (by omega)]
      exact q1
    · rename_i hm
      split at h
      · rename_i xs hS
        have fl : f'.take S.length = f := by rw [hl]; exact x1.cut
        have an : a ∉ f := fun ha => by
          rw [← fl] at ha
          obtain ⟨j, hj, e⟩ := List.getElem_of_mem ha
          rw [List.getElem_take] at e
          have hj2 : j < f'.length := by simp at hj; omega
          have hj3 : j < S.length := by simp at hj; omega
          obtain ⟨h3, e3⟩ := List.getElem?_eq_some_iff.mp q1
          have := (List.getElem_inj s.nd).mp (e.trans e3.symm)
          omega
        have am : a ∈ f' := List.mem_of_getElem? q1
        split at h
        rotate_left
        · obtain ⟨ys, hy1, hy2⟩ := s.st m _ a hS q1
          have fa : F' a = none := s.nof a am
          have x5 : ∀ b u, F' b = some u → upd F' a (.lst ys) b = some u := fun b u e => by rw [upd_ne (ne_of_none e fa)]; exact e
          have s5 : Sm g (upd F' a (.lst ys)) f R (S'.take S.length) H' := by
            refine ⟨fun b u e => ?_, fun b hb => ?_, s2.nd, s2.len, fun i ob b z1 z2 => ?_, fun q hq => ?_⟩
            · by_cases e2 : b = a
              · subst e2; rw [upd_same] at e; cases e; exact hy1
              · rw [upd_ne e2] at e; exact s.le b u e
            · rw [upd_ne (fun z => an (by rw [← z]; exact hb))]; exact s2.nof b hb
            · have z := s2.st i ob b z1 z2
              cases ob with
              | lst ds => obtain ⟨zs, w1, w2⟩ := z; exact ⟨zs, w1, DaAll.sub x5 w2⟩
            · obtain ⟨e1, e2, e3⟩ := s2.res q hq
              obtain ⟨_, _, e4⟩ := s.res q hq
              rw [upd_ne (fun z => e4 (by rw [z]; exact am))]
              exact ⟨e1, e2, e3⟩
          exact h _ f H' ⟨fun b u e => x5 b u (x1.le b u e), fun _ _ h => h⟩ s5 _ (Da.lst (.inl upd_same) (DaAll.sub x5 hy2))
        have s3 : Sm g F' (f ++ [a]) R (S'.take S.length ++ [.lst xs]) H' := by
          refine ⟨s.le, fun b hb => ?_, ?_, ?_, fun i ob' b z1 z2 => ?_, fun q hq => ?_⟩
          · rcases List.mem_append.mp hb with z | z
            · exact s2.nof b z
            · rw [List.mem_singleton.mp z]; exact s.nof a am
          · exact List.nodup_append.mpr ⟨s2.nd, by simp, fun b hb c hc => by rw [List.mem_singleton.mp hc]; exact fun z => an (z ▸ hb)⟩
          · rw [List.length_append, List.length_append, s2.len]; rfl
          · by_cases hi : i < f.length
            · rw [List.getElem?_append_left (by rw [s2.len]; exact hi)] at z1
              rw [List.getElem?_append_left hi] at z2
              exact s2.st i ob' b z1 z2
            · rw [List.getElem?_append_right (by rw [s2.len]; omega), s2.len] at z1
              rw [List.getElem?_append_right (by omega)] at z2
              have hi0 : i - f.length = 0 := by
                have := (List.getElem?_eq_some_iff.mp z2).1
                simp at this; omega
              rw [hi0] at z1 z2
              simp at z1 z2
              subst z1 z2
              exact s.st m (.lst xs) a hS q1
          · obtain ⟨e1, e2, e3⟩ := s.res q hq
            exact ⟨e1, e2, fun z => (List.mem_append.mp z).elim (fun z => by rw [← fl] at z; exact e3 (List.mem_of_mem_take z)) fun z => e3 (by rw [List.mem_singleton.mp z]; exact am)⟩
        have x3 : Ext F f F' (f ++ [a]) := ⟨x1.le, fun n b e => by rw [List.getElem?_append_left (List.getElem?_eq_some_iff.mp e).1]; exact e⟩
        exact h F' (f ++ [a]) H' x3 s3 _ ⟨a, by rw [hl]; simp, rfl⟩
      · exact h.elim
theorem body_of {mu : Bool} {g : Gc} {F : Hp} {f : List Addr} {R : Rs} {S : Store} {E : XK} {Q : VK} {o : SOut} (hl : S.length = f.length)
    (h : Sat g F f R (fun C d H' => E C d H') (ofS mu S.length o) fun v F' f' S' H' => ∀ x, VR g F' f' x v → Q x H') : SatS g F f R (fun c d _ H => E c d H) o { nx := fun _ H' => Q .non H', rt := Q } := by
  have s2 : ∀ {F' : Hp} {f' : List Addr} {S' : Store} {H' : Hp}, Ext F f F' f' → Sm g F' f' R S' H' → Sm g F' f R (S'.take S.length) H' := fun x1 s => by
    have := s.cut S.length
    rw [hl, x1.cut] at this
    rw [hl]; exact this
  cases o with
  | next ρ S' => exact fun F' f' σ' H' x1 s1 _ => h F' f H' ⟨x1.le, fun _ _ h => h⟩ (s2 x1 s1) .non .non
  | ret v S' => exact fun F' f' H' x x1 s1 r => back_of hl x1 s1 r h
  | brk ρ S' => exact h.elim
  | cont ρ S' => exact h.elim
  | err e ρ S' => exact fun F' f' σ' H' C d x1 s1 _ r => h F' f H' C d ⟨x1.le, fun _ _ h => h⟩ (s2 x1 s1) r
  | stuck => exact h.elim
theorem entry_en {g : Gc} {F : Hp} {f : List Addr} {N : List Str} {xs : List V} {vs : List Val} {np nn : Nat} (hN : N.length = nn) (r : VRs g F f xs vs) : En g F f (entry np nn vs) (L2.start N xs) := by
  unfold entry L2.start
  have hl := r.len
  refine ⟨by simp [hN, hl], fun i v q => ?_⟩
  by_cases hi : i < vs.length
  · rw [List.getElem?_append_left (by simpa using hi), List.getElem?_map] at q
    cases e : vs[i]? with
    | none => rw [e] at q; cases q
    | some w =>
      rw [e] at q
      cases q
      obtain ⟨x, q1, q2⟩ := r.get e
      exact ⟨x, by rw [List.getElem?_append_left (by simpa [hl] using hi), List.getElem?_map, q1]; rfl, q2⟩
  · rw [List.getElem?_append_right (by simpa using hi), List.getElem?_replicate] at q
    split at q <;> cases q
end Ev
end

section
set_option Elab.async false
set_option linter.all false
set_option maxRecDepth 100000
set_option maxHeartbeats 4000000
/-! E10: the checker of expressions and its soundness -/
namespace Ev
open PySem PySem.Spec PyProof.Rows L2

structure Dd where
  name : Str
  ps : List Str
structure Pg where
  defs : List Dd
  gl : List Str
  bl : List Str
  kws : List (Nat × Nat × List Str × List Nat)
/-- what stands around every body -/
structure Wo (P : Program) (w : World) (K : PySem.W.Frag) (mg : Str → Option Value) (base : Heap) (A : Around) (g : Gc) (pr : Pg) (Gl : List PyData) (C : Calls) (n : Nat) : Prop where
  hK : g.K = K
  sy : SysK K
  rm : Room n A
  gd : A.guards = some []
  gl : ∀ (k : Nat) (x : Str), pr.gl[k]? = some x → ∃ d v u, Gl[k]? = some d ∧ mg x = some u ∧ RelV v u ∧ ∀ F, Da g.K F v d
  bl : ∀ x ∈ pr.bl, mg x = none
  fn : ∀ (k : Nat) (dd : Dd), pr.defs[k]? = some dd → mg dd.name = some (.ref (g.ad k)) ∧ PySem.W.keepIn K (.ref (g.ad k)) = true ∧
    ∃ fd, FnG P w K mg base n (g.ad k) fd dd.ps (spD g C k dd.ps.length) ∧ L2.Binds K fd dd.ps [] ∧ ∀ q ∈ pr.kws, q.1 = k → KwB K fd dd.ps q.2.1 q.2.2.1 q.2.2.2
/-- the context of a body or of a block -/
structure Cok (X : Cx) (g : Gc) (W : WX) (pr : Pg) (Gl : List PyData) (C : Calls) (n : Nat) (N : List Str) (sc : Scope) (cf : Str → Bool) : Prop where
  wo : Wo X.prog X.w X.K X.mg X.base X.A g pr Gl C n
  hN : X.N = N
  nd : N.Nodup
  hsc : X.env.scope = sc
  kd : sc.kind = .function
  calm : X.calm = true
  tk : Takes X W
  fn : ∀ x, cf x = true → X.fn x = true
def cfB (scope : Scope) (x : Str) : Bool := scope.names.lookup x == some .cell
theorem Cok.blk {X : Cx} {g : Gc} {W : WX} {pr : Pg} {Gl : List PyData} {C : Calls} {n : Nat} {N : List Str} {sc : Scope} {cf : Str → Bool} (c : Cok X g W pr Gl C n N sc cf) {scope : Scope} (hk : scope.kind = .function) (s : Shared) (H : Hp) (C' : Addr) (cl : List (Str × Addr)) (fp : List Addr) :
    Cok (X.blk s H scope (compEnvC scope cl C' X.env) fp) g W0 pr Gl C n N (relS scope sc) (cfB scope) :=
  ⟨c.wo, c.hN, c.nd, by rw [← c.hsc]; rfl, hk, c.calm, takes0, fun x h => h⟩

/-! ### the checker -/
def visB (sc : Scope) (x : Str) : Bool := match sc.names.lookup x with
  | some .local => true
  | some .cell => true
  | some .free => true
  | _ => false
def glB (sc : Scope) (x : Str) : Bool := decide (sc.names.lookup x = some .globalImplicit)
def okNm (x : Str) : Bool := !(x == ("__debug__" : Str)) && !(x == ("__classdict__" : Str)) && !decide (x = ("__name__" : Str))
def cstB : PyData → Const → Bool
  | .none, .none => true
  | .bool b, .bool c => b == c
  | .int i, .int j => decide (i = j)
  | .str x, .str y => decide (x = y)
  | _, _ => false
/-- a built-in function, or a type, by its name -/
def bltB (pr : Pg) (sc : Scope) (x : Str) (v : String) (ty : Bool) : Bool := glB sc x && okNm x && decide (x ∈ pr.bl) && (match bootBuiltins x with
  | some (.builtin y) => !ty && y == v
  | some (.type y) => ty && y == v
  | _ => false)
def BI.nm : BI → String
  | .len => "len" | .all => "all" | .any => "any" | .tuple => "tuple" | .list => "list" | .sum => "sum" | .abs => "abs" | .max2 => "max" | .min2 => "min" | .int => "int" | .strI => "str" | .divmod => "divmod" | .repr => "repr" | .ord => "ord" | .lenSet => "len" | .listM => "list"
def BI.ty : BI → Bool
  | .tuple => true | .list => true | .int => true | .strI => true | .listM => true | _ => false
def tgB (sc : Scope) (cf : Str → Bool) (N : List Str) (i : Nat) (e : Expr) : Bool := match e with
  | .Name x _ => decide (N[i]? = some x) && (decide (sc.names.lookup x = some .local) || (decide (sc.names.lookup x = some .cell) && cf x))
  | _ => false
def tgsB (sc : Scope) (cf : Str → Bool) (N : List Str) : List Nat → List Expr → Bool
  | [], [] => true
  | i :: is, e :: es => tgB sc cf N i e && tgsB sc cf N is es
  | _, _ => false
def ckTg (sc : Scope) (cf : Str → Bool) (N : List Str) (t : Tg) (e : Expr) : Bool := match t, e with
  | .nm i, e => tgB sc cf N i e
  | .tup is, .Tuple es _ _ => tgsB sc cf N is es
  | _, _ => false
def isTup : Expr → Bool
  | .Tuple _ _ _ => true
  | _ => false
def nset : Expr → Bool
  | .Set _ _ _ => false
  | _ => true
def nBI : BI → CEs → Bool
  | .lenSet, _ => false
  | _, .nil => false
  | _, _ => true
def lenEs : CEs → Nat
  | .nil => 0
  | .cons _ r => lenEs r + 1
def nilEs : CEs → Bool
  | .nil => true
  | _ => false
/-- o.append's o is no call of super -/
def nsup : Expr → Bool
  | .Name _ _ => true
  | .Subscript _ _ _ => true
  | _ => false
section
variable (pr : Pg)
mutual
def ckE (sc : Scope) (cf : Str → Bool) (N : List Str) : CE → Expr → Bool
  | .var i, e => match e with
    | .Name x _ => decide (N[i]? = some x) && visB sc x && okNm x
    | _ => false
  | .cst d, e => match e with
    | .Constant c _ _ => cstB d c
    | .UnaryOp .USub (.Constant (.int j) _ _) _ => match d with
      | .int i => decide (i = -j)
      | _ => false
    | .Dict [] [] _ => match d with
      | .dict [] => true
      | _ => false
    | _ => false
  | .glb k, e => match e with
    | .Name x _ => decide (pr.gl[k]? = some x) && glB sc x && okNm x
    | _ => false
  | .fnv k, e => match e with
    | .Name x _ => (match pr.defs[k]? with | some dd => decide (dd.name = x) | none => false) && glB sc x && okNm x
    | _ => false
  | .bin op a b, e => match e with
    | .BinOp a' op' b' _ => decide (op = op') && opOk op && ckE sc cf N a a' && ckE sc cf N b b'
    | _ => false
  | .cmp op a b, e => match e with
    | .Compare a' [op'] [b'] _ => decide (op = op') && nmark b' && ckE sc cf N a a' && ckE sc cf N b b'
    | _ => false
  | .chn o1 o2 a b c, e => match e with
    | .Compare a' [p1, p2] [b', c'] _ => decide (o1 = p1) && decide (o2 = p2) && nmark c' && ckE sc cf N a a' && ckE sc cf N b b' && ckE sc cf N c c'
    | _ => false
  | .and es, e => match e with
    | .BoolOp .And es' _ => !nilEs es && ckEs sc cf N es es'
    | _ => false
  | .or es, e => match e with
    | .BoolOp .Or es' _ => !nilEs es && ckEs sc cf N es es'
    | _ => false
  | .not a, e => match e with
    | .UnaryOp .Not a' _ => ckE sc cf N a a'
    | _ => false
  | .ife c a b, e => match e with
    | .IfExp c' a' b' _ => ckT sc cf N c c' && ckE sc cf N a a' && ckE sc cf N b b'
    | _ => false
  | .tup es, e => match e with
    | .Tuple es' _ _ => ckEs sc cf N es es'
    | _ => false
  | .lst _ es, e => match e with
    | .List es' _ => ckEs sc cf N es es'
    | _ => false
  | .idx a i, e => match e with
    | .Subscript a' i' _ => nslice i' && ckE sc cf N a a' && ckE sc cf N i i'
    | _ => false
  | .sli a lo hi, e => match e with
    | .Subscript a' (.Slice lo' hi' none _) _ => ckE sc cf N a a' && ckO sc cf N lo lo' && ckO sc cf N hi hi'
    | _ => false
  | .rev z a, e => match e with
    | .Subscript a' (.Slice none none (some (.UnaryOp .USub (.Constant (.int 1) _ _) _)) _) _ => !z && ckE sc cf N a a'
    | .Subscript a' (.Slice none (some (.Constant (.int 0) _ _)) (some (.UnaryOp .USub (.Constant (.int 1) _ _) _)) _) _ => z && ckE sc cf N a a'
    | _ => false
  | .call k es, e => match e with
    | .Call (.Name x _) es' [] _ => (match pr.defs[k]? with | some dd => decide (dd.name = x) && decide (dd.ps.length = lenEs es) | none => false) && glB sc x && okNm x && ckEs sc cf N es es'
    | _ => false
  | .kall k gs es ks, e => match e with
    | .Call (.Name x _) es' kws' _ => (match pr.defs[k]? with | some dd => decide (dd.name = x) && decide (dd.ps.length = gs.length) | none => false) && glB sc x && okNm x && ckEs sc cf N es es' && ckK sc cf N ks kws' &&
      (match kwNm kws' with | some nms => decide ((k, lenEs es, nms, gs) ∈ pr.kws) && decide (nms.length = lenEs ks) | none => false)
    | _ => false
  | .isi a t, e => match e with
    | .Call (.Name x _) [a', .Name y _] [] _ => bltB pr sc x "isinstance" false && bltB pr sc y t.name true && ckE sc cf N a a'
    | _ => false
  | .bi b es, e => match e with
    | .Call (.Name x _) [.Call (.Name y p2) [a'] [] q2] [] _ => (nBI b es && bltB pr sc x b.nm b.ty && ckEs sc cf N es [.Call (.Name y p2) [a'] [] q2]) || (decide (b = .lenSet) && bltB pr sc x "len" false && bltB pr sc y "set" true && ckEs sc cf N es [a'])
    | .Call (.Name x _) es' [] _ => nBI b es && bltB pr sc x b.nm b.ty && ckEs sc cf N es es'
    | _ => false
  | .meth _ a es, e => match e with
    | .Call (.Attribute a' m' p) [b'] [] q => decide (m' = ("append" : Str)) && nsup a' && (p.endLine == q.line) && ckE sc cf N a a' && ckEs sc cf N es [b']
    | _ => false
  | .lc _ elt own tg it cond, e => match e with
    | .ListComp elt' [⟨tg', iter', ifs', 0⟩] scope _ => blkC N sc scope own && nset iter' && ckTg (relS scope sc) (cfB scope) N tg tg' && tg.ix.all (fun i => decide (i ∈ own.map (·.2))) && ckI sc cf N (isTup tg') it iter' && ckC (relS scope sc) (cfB scope) N cond ifs' && ckE (relS scope sc) (cfB scope) N elt elt'
    | _ => false
def ckEs (sc : Scope) (cf : Str → Bool) (N : List Str) : CEs → List Expr → Bool
  | .nil, es => es.isEmpty
  | .cons a r, es => match es with
    | e :: es => ckE sc cf N a e && ckEs sc cf N r es
    | [] => false
/-- the values of keywords -/
def ckK (sc : Scope) (cf : Str → Bool) (N : List Str) : CEs → List Keyword → Bool
  | .nil, es => es.isEmpty
  | .cons a r, es => match es with
    | ⟨_, e, _⟩ :: es => ckE sc cf N a e && ckK sc cf N r es
    | [] => false
def ckO (sc : Scope) (cf : Str → Bool) (N : List Str) : CO → Option Expr → Bool
  | .none, e => e.isNone
  | .some a, e => match e with
    | some e => ckE sc cf N a e
    | none => false
def ckC (sc : Scope) (cf : Str → Bool) (N : List Str) : CO → List Expr → Bool
  | .none, es => es.isEmpty
  | .some a, es => match es with
    | [e] => ckT sc cf N a e
    | _ => false
def ckI (sc : Scope) (cf : Str → Bool) (N : List Str) (tp : Bool) : CI → Expr → Bool
  | .seq a, e => ckE sc cf N a e
  | .rng1 a, e => match e with
    | .Call (.Name x _) [a'] [] _ => decide (x = ("range" : Str)) && bltB pr sc x "range" true && ckE sc cf N a a'
    | _ => false
  | .rng2 a b, e => match e with
    | .Call (.Name x _) [a', b'] [] _ => decide (x = ("range" : Str)) && bltB pr sc x "range" true && ckE sc cf N a a' && ckE sc cf N b b'
    | _ => false
  | .rng3 a b c, e => match e with
    | .Call (.Name x _) [a', b', c'] [] _ => decide (x = ("range" : Str)) && bltB pr sc x "range" true && ckE sc cf N a a' && ckE sc cf N b b' && ckE sc cf N c c'
    | _ => false
  | .zip a b, e => match e with
    | .Call (.Name x _) [a', b'] [] _ => tp && decide (x = ("zip" : Str)) && bltB pr sc x "zip" true && ckE sc cf N a a' && ckE sc cf N b b'
    | _ => false
  | .enum a, e => match e with
    | .Call (.Name x _) [a'] [] _ => tp && decide (x = ("enumerate" : Str)) && bltB pr sc x "enumerate" true && ckE sc cf N a a'
    | _ => false
def ckT (sc : Scope) (cf : Str → Bool) (N : List Str) : CE → Expr → Bool
  | .and es, e => match e with
    | .BoolOp .And es' _ => !nilEs es && ckTs sc cf N es es'
    | _ => false
  | .or es, e => match e with
    | .BoolOp .Or es' _ => !nilEs es && ckTs sc cf N es es'
    | _ => false
  | .not a, e => match e with
    | .UnaryOp .Not a' _ => ckT sc cf N a a'
    | _ => false
  | .cmp op a b, e => match e with
    | .Compare a' [op'] [b'] _ => decide (op = op') && nmark b' && ckE sc cf N a a' && ckE sc cf N b b'
    | _ => false
  | .chn o1 o2 a b c, e => match e with
    | .Compare a' [p1, p2] [b', c'] _ => decide (o1 = p1) && decide (o2 = p2) && nmark c' && ckE sc cf N a a' && ckE sc cf N b b' && ckE sc cf N c c'
    | _ => false
  | .var i, e => match e with
    | .Name x _ => decide (N[i]? = some x) && visB sc x && okNm x
    | _ => false
  | .idx a i, e => match e with
    | .Subscript a' i' _ => nslice i' && ckE sc cf N a a' && ckE sc cf N i i'
    | _ => false
  | .call k es, e => match e with
    | .Call (.Name x _) es' [] _ => (match pr.defs[k]? with | some dd => decide (dd.name = x) && decide (dd.ps.length = lenEs es) | none => false) && glB sc x && okNm x && ckEs sc cf N es es'
    | _ => false
  | .isi a t, e => match e with
    | .Call (.Name x _) [a', .Name y _] [] _ => bltB pr sc x "isinstance" false && bltB pr sc y t.name true && ckE sc cf N a a'
    | _ => false
  | .bi b es, e => match e with
    | .Call (.Name x _) es' [] _ => nBI b es && bltB pr sc x b.nm b.ty && ckEs sc cf N es es'
    | _ => false
  | .cst d, e => match e with
    | .Constant c _ _ => cstB d c
    | _ => false
  | _, _ => false
def ckTs (sc : Scope) (cf : Str → Bool) (N : List Str) : CEs → List Expr → Bool
  | .nil, es => es.isEmpty
  | .cons a r, es => match es with
    | e :: es => ckT sc cf N a e && ckTs sc cf N r es
    | [] => false
end
end
end Ev
end

section
set_option Elab.async false
set_option linter.all false
set_option maxRecDepth 100000
set_option maxHeartbeats 8000000
/-! E11: the checker of expressions is sound -/
namespace Ev
open PySem PySem.Spec PyProof.Rows L2

theorem ck_star {pr : Pg} {sc : Scope} {cf : Str → Bool} {N : List Str} (ce : CE) {e : Expr} (h : ckE pr sc cf N ce e = true) : nstar e = true := by
  cases e <;> first
    | rfl
    | (cases ce <;> exact (Bool.false_ne_true h).elim)
theorem ck_stars {pr : Pg} {sc : Scope} {cf : Str → Bool} {N : List Str} : ∀ (es : CEs) {es' : List Expr}, ckEs pr sc cf N es es' = true → es'.all nstar = true ∧ es'.length = lenEs es
  | .nil, es', h => by
    unfold ckEs at h
    cases es' with
    | nil => exact ⟨rfl, rfl⟩
    | cons e r => cases h
  | .cons a r, es', h => by
    unfold ckEs at h
    cases es' with
    | nil => cases h
    | cons e es =>
      dsimp only at h
      rw [Bool.and_eq_true] at h
      obtain ⟨h1, h2⟩ := ck_stars r h.2
      exact ⟨by rw [List.all_cons, ck_star a h.1, h1] <;> rfl, by show es.length + 1 = lenEs r + 1; rw [h2]⟩
theorem dEs_len {Gd : List PyData} {C : Calls} : ∀ (es : CEs) (ρ : EnvD) (S : Store) (vs : List Val) (S' : Store), dEs Gd C es ρ S = .ok vs S' → vs.length = lenEs es
  | .nil, ρ, S, vs, S', h => by
    unfold dEs at h
    cases h; rfl
  | .cons a r, ρ, S, vs, S', h => by
    unfold dEs at h
    cases e1 : dE Gd C a ρ S with
    | err _ _ => rw [e1] at h; cases h
    | stuck => rw [e1] at h; cases h
    | ok v S1 =>
      rw [e1, Out.bind_ok] at h
      cases e2 : dEs Gd C r ρ S1 with
      | err _ _ => rw [e2] at h; cases h
      | stuck => rw [e2] at h; cases h
      | ok us S2 =>
        rw [e2, Out.bind_ok] at h
        cases h
        show us.length + 1 = _
        rw [dEs_len r _ _ _ _ e2]
        rfl
section
variable {X : Cx} {g : Gc} {W : WX} {pr : Pg} {Gd : List PyData} {C : Calls} {n : Nat} {N : List Str} {sc : Scope} {cf : Str → Bool}
theorem gl_of (c : Cok X g W pr Gd C n N sc cf) {x : Str} (h : glB sc x = true) : L2.Gl X x := by
  show X.env.scope.names.lookup x = _
  rw [c.hsc]
  exact of_decide_eq_true h
theorem nm_of {x : Str} (h : okNm x = true) : (x == ("__debug__" : Str)) = false ∧ (x == ("__classdict__" : Str)) = false ∧ x ≠ ("__name__" : Str) := by
  unfold okNm at h
  simp only [Bool.and_eq_true, Bool.not_eq_true', decide_eq_false_iff_not] at h
  exact ⟨h.1.1, h.1.2, h.2⟩
theorem blt_of (c : Cok X g W pr Gd C n N sc cf) {x : Str} {v : String} {ty : Bool} (h : bltB pr sc x v ty = true) :
    L2.Gl X x ∧ X.mg x = none ∧ bootBuiltins x = some (if ty = true then .type v else .builtin v) ∧ x ≠ ("__name__" : Str) ∧ (x == ("__debug__" : Str)) = false := by
  unfold bltB at h
  simp only [Bool.and_eq_true, decide_eq_true_eq] at h
  obtain ⟨⟨⟨h1, h2⟩, h3⟩, h4⟩ := h
  obtain ⟨n1, n2, n3⟩ := nm_of h2
  refine ⟨gl_of c h1, c.wo.bl x h3, ?_, n3, n1⟩
  split at h4
  · rename_i y e
    rw [e]
    cases ty with
    | false => simp at h4; rw [h4]; rfl
    | true => simp at h4
  · rename_i y e
    rw [e]
    cases ty with
    | true => simp at h4; rw [h4]; rfl
    | false => simp at h4
  · cases h4
theorem Cok.units (c : Cok X g W pr Gd C n N sc cf) : X.A.units + 200 < cLine := by
  have := c.wo.rm.un
  omega
theorem bi_real (c : Cok X g W pr Gd C n N sc cf) (b : BI) (hb : b ≠ .lenSet) : ∃ r, CallR X (if b.ty = true then .type b.nm else .builtin b.nm) r ∧ RealN g r (biV b) := by
  have hK := c.wo.hK
  have hc := c.calm
  have hu := c.units
  cases b with
  | len => exact ⟨_, call_len, hK ▸ real_len⟩
  | all => exact ⟨_, cr_all hc, hK ▸ real_all⟩
  | any => exact ⟨_, cr_any hc, hK ▸ real_any⟩
  | tuple => exact ⟨_, call_tuple_of, hK ▸ real_tuple⟩
  | list => exact ⟨_, call_list_of, hK ▸ real_list⟩
  | listM => exact ⟨_, call_list_of, hK ▸ real_listM⟩
  | sum => exact ⟨_, cr_sum hc, hK ▸ real_sum⟩
  | abs => exact ⟨_, call_abs, real_abs⟩
  | max2 => exact ⟨_, call_max2 hc, real_max2⟩
  | min2 => exact ⟨_, call_min2 hc, real_min2⟩
  | int => exact ⟨_, call_int1, real_int⟩
  | strI => exact ⟨_, call_str_int, real_strI⟩
  | divmod => exact ⟨_, call_divmod, real_divmod⟩
  | ord => exact ⟨_, call_ord, real_ord⟩
  | repr => exact ⟨_, call_repr c.wo.sy (by omega) c.wo.gd, hK ▸ real_repr⟩
  | lenSet => exact absurd rfl hb
theorem vis_of (c : Cok X g W pr Gd C n N sc cf) {x : Str} (h : visB sc x = true) : Vis X.env.scope x := by
  rw [c.hsc]
  unfold visB at h
  split at h
  · exact .inl (by assumption)
  · exact .inr (.inl (by assumption))
  · exact .inr (.inr (by assumption))
  · cases h
theorem var_of (c : Cok X g W pr Gd C n N sc cf) {i : Nat} {x : Str} {p : Pos} (h : (decide (N[i]? = some x) && visB sc x && okNm x) = true) : PE X (.Name x p) (rd g W (dVar i)) := by
  simp only [Bool.and_eq_true, decide_eq_true_eq] at h
  obtain ⟨⟨h1, h2⟩, h3⟩ := h
  obtain ⟨n1, n2, n3⟩ := nm_of h3
  exact pd_var (by rw [c.hN]; exact h1) (vis_of c h2) n1 n2
theorem cst_of (c : Cok X g W pr Gd C n N sc cf) {d : PyData} {k : Const} {j : Nat} {p : Pos} (h : cstB d k = true) : PE X (.Constant k j p) (rd g W (dCst d)) := by
  unfold cstB at h
  split at h
  · exact pd_cst pe_non fun _ => .non
  · cases (beq_iff_eq.mp h); exact pd_cst pe_bl fun _ => .bl _
  · cases (of_decide_eq_true h); exact pd_cst pe_int fun _ => .int _
  · cases (of_decide_eq_true h); exact pd_cst pe_str fun _ => .str _
  · cases h
theorem neg_of (c : Cok X g W pr Gd C n N sc cf) {i j : Int} {k : Nat} {p q : Pos} (h : i = -j) : PE X (.UnaryOp .USub (.Constant (.int j) k p) q) (rd g W (dCst (.int i))) :=
  (pe_un un_neg pe_int).imp fun σ H Q ⟨F, f, R, ρ, S, s, e, z⟩ => ⟨j, rfl, z.ok s _ (by rw [h]; exact .int _)⟩
theorem dict_of {p : Pos} : PE X (.Dict [] [] p) (rd g W (dCst (.dict []))) :=
  pe_dnewK.imp fun σ H Q ⟨F, f, R, ρ, S, s, e, z⟩ p hp => by
    obtain ⟨s2, x2⟩ := s.new (o := .dK []) hp
    exact z _ f _ x2 s2 _ (Da.dct upd_same)
theorem glb_of (c : Cok X g W pr Gd C n N sc cf) {k : Nat} {x : Str} {p : Pos} (h1 : pr.gl[k]? = some x) (h2 : glB sc x = true) (h3 : okNm x = true) : PE X (.Name x p) (rd g W (dE Gd C (.glb k))) := by
  obtain ⟨n1, n2, n3⟩ := nm_of h3
  obtain ⟨d, v, u, q1, q2, q3, q4⟩ := c.wo.gl k x h1
  have : dE Gd C (.glb k) = dCst d := by
    unfold dE
    rw [q1]
  rw [this]
  exact pd_cst (pe_glob (gl_of c h2) q2 q3 n1) q4
theorem fnv_of (c : Cok X g W pr Gd C n N sc cf) {k : Nat} {x : Str} {p : Pos} {dd : Dd} (h1 : pr.defs[k]? = some dd) (e : dd.name = x) (h2 : glB sc x = true) (h3 : okNm x = true) : PE X (.Name x p) (rd g W fun _ S => .ok (.fn k) S) := by
  obtain ⟨n1, n2, n3⟩ := nm_of h3
  obtain ⟨q1, q2, q3⟩ := c.wo.fn k dd h1
  rw [e] at q1
  exact pd_fnv (pe_glob (gl_of c h2) q1 rfl n1)
theorem call_of (c : Cok X g W pr Gd C n N sc cf) {k : Nat} {x : Str} {p pos : Pos} {es : CEs} {es' : List Expr} (h1 : (match pr.defs[k]? with | some dd => decide (dd.name = x) && decide (dd.ps.length = lenEs es) | none => false) = true)
    (h2 : glB sc x = true) (h3 : okNm x = true) (h4 : ckEs pr sc cf N es es' = true) (ih : PA X es' (rdA g W (dEs Gd C es))) : PE X (.Call (.Name x p) es' [] pos) (rd g W (dCall C k (dEs Gd C es))) := by
  split at h1
  · rename_i dd hd
    simp only [Bool.and_eq_true, decide_eq_true_eq] at h1
    obtain ⟨e1, e2⟩ := h1
    obtain ⟨n1, n2, n3⟩ := nm_of h3
    obtain ⟨q1, q2, fd, q3, q4, _⟩ := c.wo.fn k dd hd
    rw [e1] at q1
    obtain ⟨s1, s2⟩ := ck_stars es h4
    cases es with
    | nil =>
      cases es' with
      | nil => exact pd_call0 q3 c.wo.rm c.wo.gd (gl_of c h2) q1 q2 q4 c.tk e2 n1
      | cons e r => simp [lenEs] at s2
    | cons a r =>
      cases es' with
      | nil => simp [lenEs] at s2
      | cons e r' => exact pd_call q3 c.wo.rm c.wo.gd (gl_of c h2) q1 q2 q4 c.tk ih (fun ρ S vs S' z => by rw [dEs_len _ _ _ _ _ z, e2]) n1 s1
  · cases h1
theorem kall_of (c : Cok X g W pr Gd C n N sc cf) {k : Nat} {x : Str} {p pos : Pos} {gs : List Nat} {es ks : CEs} {es' : List Expr} {kws' : List Keyword} (h1 : (match pr.defs[k]? with | some dd => decide (dd.name = x) && decide (dd.ps.length = gs.length) | none => false) = true)
    (h2 : glB sc x = true) (h3 : okNm x = true) (h4 : ckEs pr sc cf N es es' = true) (h5 : (match kwNm kws' with | some nms => decide ((k, lenEs es, nms, gs) ∈ pr.kws) && decide (nms.length = lenEs ks) | none => false) = true)
    (ih : PA X es' (rdA g W (dEs Gd C es))) (ihk : PK X kws' (rdA g W (dEs Gd C ks))) : PE X (.Call (.Name x p) es' kws' pos) (rd g W (dKall C k gs (dEs Gd C es) (dEs Gd C ks))) := by
  split at h1
  · rename_i dd hd
    simp only [Bool.and_eq_true, decide_eq_true_eq] at h1
    obtain ⟨e1, e2⟩ := h1
    split at h5
    · rename_i nms hn
      simp only [Bool.and_eq_true, decide_eq_true_eq] at h5
      obtain ⟨k1, k2⟩ := h5
      obtain ⟨n1, n2, n3⟩ := nm_of h3
      obtain ⟨q1, q2, fd, q3, q4, q5⟩ := c.wo.fn k dd hd
      rw [e1] at q1
      obtain ⟨s1, s2⟩ := ck_stars es h4
      have kb := q5 _ k1 rfl
      have hk2 : ∀ ρ S vs S', dEs Gd C ks ρ S = .ok vs S' → vs.length = nms.length := fun ρ S vs S' z => by rw [dEs_len _ _ _ _ _ z, k2]
      cases es with
      | nil =>
        cases es' with
        | nil => exact pd_kall0 q3 c.wo.rm c.wo.gd (gl_of c h2) q1 q2 kb c.tk ihk e2.symm hk2 hn n1
        | cons e r => simp [lenEs] at s2
      | cons a r =>
        cases es' with
        | nil => simp [lenEs] at s2
        | cons e r' => exact pd_kall q3 c.wo.rm c.wo.gd (gl_of c h2) q1 q2 kb c.tk ih ihk e2.symm (fun ρ S vs S' z => dEs_len _ _ _ _ _ z) hk2 hn n1 s1
    · cases h5
  · cases h1
theorem bi_of (c : Cok X g W pr Gd C n N sc cf) {b : BI} {x : Str} {p pos : Pos} {es : CEs} {es' : List Expr} (h1 : nBI b es = true) (h2 : bltB pr sc x b.nm b.ty = true) (h4 : ckEs pr sc cf N es es' = true) (ih : PA X es' (rdA g W (dEs Gd C es))) :
    PE X (.Call (.Name x p) es' [] pos) (rd g W (dN (biV b) (dEs Gd C es))) := by
  have hb : b ≠ .lenSet := fun z => by
    subst z
    exact (Bool.false_ne_true h1).elim
  obtain ⟨s1, s2⟩ := ck_stars es h4
  obtain ⟨b1, b2, b3, b4, b5⟩ := blt_of c h2
  obtain ⟨r, r1, r2⟩ := bi_real c b hb
  cases es' with
  | nil =>
    cases es with
    | nil => cases b <;> exact (Bool.false_ne_true h1).elim
    | cons a r => simp [lenEs] at s2
  | cons e r' =>
    cases ht : b.ty with
    | true =>
      rw [ht] at r1 b3
      exact pd_ty r1 r2 b1 b2 b3 ih b4 b5 s1
    | false =>
      rw [ht] at r1 b3
      exact pd_bi r1 r2 b1 b2 b3 ih b4 b5 s1
theorem set_of (c : Cok X g W pr Gd C n N sc cf) {b : BI} {x y : Str} {p p2 q pos : Pos} {a' : Expr} {es : CEs} (hb : b = .lenSet) (h1 : bltB pr sc x "len" false = true) (h2 : bltB pr sc y "set" true = true) (h4 : ckEs pr sc cf N es [a'] = true) (ih : PA X [a'] (rdA g W (dEs Gd C es))) :
    PE X (.Call (.Name x p) [.Call (.Name y p2) [a'] [] q] [] pos) (rd g W (dN (biV b) (dEs Gd C es))) := by
  subst hb
  obtain ⟨b1, b2, b3, b4, b5⟩ := blt_of c h1
  obtain ⟨d1, d2, d3, d4, d5⟩ := blt_of c h2
  obtain ⟨s1, _⟩ := ck_stars es h4
  rw [List.all_cons, Bool.and_eq_true] at s1
  exact pd_lenSet c.wo.hK c.calm b1 b2 b3 b4 b5 d1 d2 d3 d4 d5 ih s1.1
theorem isi_of (c : Cok X g W pr Gd C n N sc cf) {t : Ty} {x y : Str} {p p2 pos : Pos} {a' : Expr} {ta : TD Val} (h1 : bltB pr sc x "isinstance" false = true) (h2 : bltB pr sc y t.name true = true) (ih : PE X a' (rd g W ta)) (hs : nstar a' = true) :
    PE X (.Call (.Name x p) [a', .Name y p2] [] pos) (rd g W (dU (isiV t) ta)) := by
  obtain ⟨b1, b2, b3, b4, b5⟩ := blt_of c h1
  obtain ⟨d1, d2, d3, d4, d5⟩ := blt_of c h2
  exact pd_isi c.wo.hK b1 b2 b3 b4 b5 d1 d2 d3 d4 d5 ih hs
theorem sup_of {a : Expr} {m : Str} {env : Env} {w : Sem Value} (h : nsup a = true) : attributeBase a m env w = w := by
  cases a <;> first | rfl | exact (Bool.false_ne_true h).elim
theorem fold_of {e : Expr} {env : Env} (h : nset e = true) : ∀ x, foldedSetIterable e env x = pure x := by
  intro x
  cases e <;> first | rfl | exact (Bool.false_ne_true h).elim
/-! ### targets -/
theorem tg_of (c : Cok X g W pr Gd C n N sc cf) {i : Nat} {e : Expr} (h : tgB sc cf N i e = true) : PG X e (gName i) ∧ nstar e = true := by
  unfold tgB at h
  split at h
  · rename_i x p
    simp only [Bool.and_eq_true, decide_eq_true_eq, Bool.or_eq_true] at h
    obtain ⟨h1, h2⟩ := h
    refine ⟨?_, rfl⟩
    have hN : X.N[i]? = some x := by rw [c.hN]; exact h1
    have nd : X.N.Nodup := by rw [c.hN]; exact c.nd
    rcases h2 with h2 | ⟨h2, h3⟩
    · exact pg_name nd hN (.inl (by rw [c.hsc]; exact h2)) (.inr (by rw [c.hsc]; exact h2))
    · exact pg_name nd hN (.inr (by rw [c.hsc]; exact h2)) (.inl (c.fn x h3))
  · cases h
theorem tgs_of (c : Cok X g W pr Gd C n N sc cf) : ∀ {is : List Nat} {es : List Expr}, tgsB sc cf N is es = true → PGs X es (gNames is) ∧ es.all nstar = true ∧ es.length = is.length
  | [], [], _ => ⟨pgs_nil, rfl, rfl⟩
  | [], _ :: _, h => by cases h
  | _ :: _, [], h => by cases h
  | i :: is, e :: es, h => by
    unfold tgsB at h
    rw [Bool.and_eq_true] at h
    obtain ⟨h1, h2⟩ := tg_of c h.1
    obtain ⟨h3, h4, h5⟩ := tgs_of c h.2
    refine ⟨pgs_cons h1 h3 (by rw [asg_cons h2]; rfl), by rw [List.all_cons, h2, h4] <;> rfl, by rw [List.length_cons, List.length_cons, h5]⟩
def tgG (g : Gc) : Tg → TG
  | .nm i => gName i
  | .tup is => gTup g.K is.length (gNames is)
theorem tgG_r (g : Gc) (t : Tg) : TgR g t (tgG g t) := by
  cases t with
  | nm i => exact tgr_nm
  | tup is => exact tgr_tup
theorem ckTg_of (c : Cok X g W pr Gd C n N sc cf) {t : Tg} {e : Expr} (h : ckTg sc cf N t e = true) : PG X e (tgG g t) ∧ nstar e = true := by
  unfold ckTg at h
  split at h
  · obtain ⟨h1, h2⟩ := tg_of c h
    exact ⟨h1, h2⟩
  · obtain ⟨h1, h2, h3⟩ := tgs_of c h
    obtain ⟨n1, n2⟩ := hn_names (env := X.env) h2
    refine ⟨?_, rfl⟩
    unfold tgG
    rw [c.wo.hK]
    exact pg_tup c.calm h1 (n1.trans h3) n2
  · cases h
end
end Ev
end

section
set_option Elab.async false
set_option linter.all false
set_option maxRecDepth 100000
set_option maxHeartbeats 16000000
/-! E12: soundness of the checker, expressions -/
namespace Ev
open PySem PySem.Spec PyProof.Rows L2
variable {g : Gc} {pr : Pg} {Gd : List PyData} {C : Calls} {n : Nat} {N : List Str}
mutual
theorem sE : ∀ (ce : CE) {X : Cx} {W : WX} {sc : Scope} {cf : Str → Bool} (c : Cok X g W pr Gd C n N sc cf) {e : Expr}, ckE pr sc cf N ce e = true → PE X e (rd g W (dE Gd C ce))
  | .var i, X, W, sc, cf, c, e, h => by
    unfold ckE at h
    split at h
    · exact var_of c h
    · cases h
  | .cst d, X, W, sc, cf, c, e, h => by
    unfold ckE at h
    split at h
    · exact cst_of c h
    · split at h
      · exact neg_of c (of_decide_eq_true h)
      · cases h
    · split at h
      · exact dict_of
      · cases h
    · cases h
  | .glb k, X, W, sc, cf, c, e, h => by
    unfold ckE at h
    split at h
    · simp only [Bool.and_eq_true, decide_eq_true_eq] at h
      exact glb_of c h.1.1 h.1.2 h.2
    · cases h
  | .fnv k, X, W, sc, cf, c, e, h => by
    unfold ckE at h
    split at h
    · rw [Bool.and_eq_true, Bool.and_eq_true] at h
      obtain ⟨⟨h1, h2⟩, h3⟩ := h
      split at h1
      · rename_i dd hd
        exact fnv_of c hd (of_decide_eq_true h1) h2 h3
      · cases h1
    · cases h
  | .bin op a b, X, W, sc, cf, c, e, h => by
    unfold ckE at h
    split at h
    · simp only [Bool.and_eq_true, decide_eq_true_eq] at h
      obtain ⟨⟨⟨h1, h2⟩, h3⟩, h4⟩ := h
      subst h1
      obtain ⟨r, ho, hr⟩ := bin_real c.wo.hK op h2
      exact pd_bin ho hr (sE a c h3) (sE b c h4)
    · cases h
  | .cmp op a b, X, W, sc, cf, c, e, h => by
    unfold ckE at h
    split at h
    · simp only [Bool.and_eq_true, decide_eq_true_eq] at h
      obtain ⟨⟨⟨h1, h2⟩, h3⟩, h4⟩ := h
      subst h1
      obtain ⟨r, ho, hr⟩ := cmp_real c.wo.hK (by have := c.units; omega) op
      exact pd_cmp ho hr (sE a c h3) (sE b c h4) h2
    · cases h
  | .chn o1 o2 a b d, X, W, sc, cf, c, e, h => by
    unfold ckE at h
    split at h
    · simp only [Bool.and_eq_true, decide_eq_true_eq] at h
      obtain ⟨⟨⟨⟨⟨h1, h2⟩, h3⟩, h4⟩, h5⟩, h6⟩ := h
      subst h1 h2
      obtain ⟨r, ho, hr⟩ := cmp_real c.wo.hK (by have := c.units; omega) o1
      obtain ⟨r', ho', hr'⟩ := cmp_real c.wo.hK (by have := c.units; omega) o2
      exact pd_chn ho ho' hr hr' (sE a c h4) (sE b c h5) (sE d c h6) h3
    · cases h
  | .and es, X, W, sc, cf, c, e, h => by
    unfold ckE at h
    split at h
    · rw [Bool.and_eq_true] at h
      exact sAnd es c h.1 h.2
    · cases h
  | .or es, X, W, sc, cf, c, e, h => by
    unfold ckE at h
    split at h
    · rw [Bool.and_eq_true] at h
      exact sOr es c h.1 h.2
    · cases h
  | .not a, X, W, sc, cf, c, e, h => by
    unfold ckE at h
    split at h
    · exact pd_not (sE a c h)
    · cases h
  | .ife t a b, X, W, sc, cf, c, e, h => by
    unfold ckE at h
    split at h
    · simp only [Bool.and_eq_true] at h
      exact pd_ife (sT t c h.1.1) (sE a c h.1.2) (sE b c h.2)
    · cases h
  | .tup es, X, W, sc, cf, c, e, h => by
    unfold ckE at h
    split at h
    · exact pd_tup (sEs es c h)
    · cases h
  | .lst m es, X, W, sc, cf, c, e, h => by
    unfold ckE at h
    split at h
    · exact pd_lst (sEs es c h)
    · cases h
  | .idx a i, X, W, sc, cf, c, e, h => by
    unfold ckE at h
    split at h
    · simp only [Bool.and_eq_true] at h
      exact pd_idx c.wo.hK (sE a c h.1.2) (sE i c h.2) h.1.1
    · cases h
  | .sli a lo hi, X, W, sc, cf, c, e, h => by
    unfold ckE at h
    split at h
    · simp only [Bool.and_eq_true] at h
      exact pd_sli c.wo.hK (sE a c h.1.1) (sO lo c h.1.2) (sO hi c h.2)
    · cases h
  | .rev z a, X, W, sc, cf, c, e, h => by
    unfold ckE at h
    split at h
    · rw [Bool.and_eq_true] at h
      cases z with
      | true => exact absurd h.1 (by decide)
      | false => exact pd_rev c.wo.hK (sE a c h.2)
    · rw [Bool.and_eq_true] at h
      cases z with
      | false => exact absurd h.1 (by decide)
      | true => exact pd_rev0 c.wo.hK (sE a c h.2)
    · cases h
  | .call k es, X, W, sc, cf, c, e, h => by
    unfold ckE at h
    split at h
    · rw [Bool.and_eq_true, Bool.and_eq_true, Bool.and_eq_true] at h
      exact call_of c h.1.1.1 h.1.1.2 h.1.2 h.2 (sEs es c h.2)
    · cases h
  | .kall k gs es ks, X, W, sc, cf, c, e, h => by
    unfold ckE at h
    split at h
    · rw [Bool.and_eq_true, Bool.and_eq_true, Bool.and_eq_true, Bool.and_eq_true, Bool.and_eq_true] at h
      obtain ⟨⟨⟨⟨⟨h1, h2⟩, h3⟩, h4⟩, h5⟩, h6⟩ := h
      exact kall_of c h1 h2 h3 h4 h6 (sEs es c h4) (sK ks c h5)
    · cases h
  | .isi a t, X, W, sc, cf, c, e, h => by
    unfold ckE at h
    split at h
    · rw [Bool.and_eq_true, Bool.and_eq_true] at h
      exact isi_of c h.1.1 h.1.2 (sE a c h.2) (ck_star a h.2)
    · cases h
  | .bi b es, X, W, sc, cf, c, e, h => by
    unfold ckE at h
    split at h
    · rw [Bool.or_eq_true] at h
      rcases h with h | h
      · rw [Bool.and_eq_true, Bool.and_eq_true] at h
        exact bi_of c h.1.1 h.1.2 h.2 (sEs es c h.2)
      · rw [Bool.and_eq_true, Bool.and_eq_true, Bool.and_eq_true] at h
        exact set_of c (of_decide_eq_true h.1.1.1) h.1.1.2 h.1.2 h.2 (sEs es c h.2)
    · rw [Bool.and_eq_true, Bool.and_eq_true] at h
      exact bi_of c h.1.1 h.1.2 h.2 (sEs es c h.2)
    · cases h
  | .meth m a es, X, W, sc, cf, c, e, h => by
    unfold ckE at h
    split at h
    · simp only [Bool.and_eq_true, decide_eq_true_eq] at h
      obtain ⟨⟨⟨⟨h1, h2⟩, h3⟩, h4⟩, h5⟩ := h
      subst h1
      cases m
      obtain ⟨s1, s2⟩ := ck_stars es h5
      rw [List.all_cons, Bool.and_eq_true] at s1
      exact pd_app c.wo.hK (sE a c h4) (sEs es c h5) (sup_of h2) s1.1 h3
    · cases h
  | .lc m elt own tg it cond, X, W, sc, cf, c, e, h => by
    unfold ckE at h
    split at h
    · rename_i elt' tg' iter' ifs' scope p
      simp only [Bool.and_eq_true, List.all_eq_true, decide_eq_true_eq] at h
      obtain ⟨⟨⟨⟨⟨⟨h1, h2⟩, h3⟩, h4⟩, h5⟩, h6⟩, h7⟩ := h
      have ok := blkOk_by h1
      have nd : X.N.Nodup := by rw [c.hN]; exact c.nd
      have ok' : BlkOk X.N X.env.scope scope own := by rw [c.hN, c.hsc]; exact ok
      exact pd_lc c.calm nd (sI it c h5) ok' (tgG_r g tg) h4 (fun s H C' cl fp => (ckTg_of (c.blk ok.kind s H C' cl fp) h3).1) (fun s H C' cl fp => sC cond (c.blk ok.kind s H C' cl fp) h6) (fun s H C' cl fp => sE elt (c.blk ok.kind s H C' cl fp) h7) (fold_of h2)
    · cases h
theorem sEs : ∀ (es : CEs) {X : Cx} {W : WX} {sc : Scope} {cf : Str → Bool} (c : Cok X g W pr Gd C n N sc cf) {es' : List Expr}, ckEs pr sc cf N es es' = true → PA X es' (rdA g W (dEs Gd C es))
  | .nil, X, W, sc, cf, c, es', h => by
    unfold ckEs at h
    cases es' with
    | nil => exact pd_nil
    | cons e r => cases h
  | .cons a r, X, W, sc, cf, c, es', h => by
    unfold ckEs at h
    cases es' with
    | nil => cases h
    | cons e es =>
      dsimp only at h
      rw [Bool.and_eq_true] at h
      exact pd_cons (sE a c h.1) (sEs r c h.2) (ck_star a h.1)
theorem sK : ∀ (es : CEs) {X : Cx} {W : WX} {sc : Scope} {cf : Str → Bool} (c : Cok X g W pr Gd C n N sc cf) {es' : List Keyword}, ckK pr sc cf N es es' = true → PK X es' (rdA g W (dEs Gd C es))
  | .nil, X, W, sc, cf, c, es', h => by
    unfold ckK at h
    cases es' with
    | nil => exact pk_nilD
    | cons e r => cases h
  | .cons a r, X, W, sc, cf, c, es', h => by
    unfold ckK at h
    cases es' with
    | nil => cases h
    | cons e es =>
      cases e with
      | mk nm v p =>
        dsimp only at h
        rw [Bool.and_eq_true] at h
        exact pk_consD (sE a c h.1) (sK r c h.2)
theorem sO : ∀ (o : CO) {X : Cx} {W : WX} {sc : Scope} {cf : Str → Bool} (c : Cok X g W pr Gd C n N sc cf) {e : Option Expr}, ckO pr sc cf N o e = true → PO X e (rdO g W (dO Gd C o))
  | .none, X, W, sc, cf, c, e, h => by
    unfold ckO at h
    cases e with
    | none => exact pd_none
    | some e => cases h
  | .some a, X, W, sc, cf, c, e, h => by
    unfold ckO at h
    cases e with
    | none => cases h
    | some e => exact pd_some (sE a c h)
theorem sC : ∀ (o : CO) {X : Cx} {W : WX} {sc : Scope} {cf : Str → Bool} (c : Cok X g W pr Gd C n N sc cf) {es : List Expr}, ckC pr sc cf N o es = true → PTs X es (rdT g W (dC Gd C o))
  | .none, X, W, sc, cf, c, es, h => by
    unfold ckC at h
    cases es with
    | nil => exact pts_nilD
    | cons e r => cases h
  | .some a, X, W, sc, cf, c, es, h => by
    unfold ckC at h
    split at h
    · exact pts_one (sT a c h)
    · cases h
theorem sI : ∀ (it : CI) {X : Cx} {W : WX} {sc : Scope} {cf : Str → Bool} (c : Cok X g W pr Gd C n N sc cf) {tg e : Expr}, ckI pr sc cf N (isTup tg) it e = true → PI X tg e (rdI g W (dI Gd C it))
  | .seq a, X, W, sc, cf, c, tg, e, h => by
    unfold ckI at h
    exact pi_seqD c.wo.hK (sE a c h)
  | .rng1 a, X, W, sc, cf, c, tg, e, h => by
    unfold ckI at h
    split at h
    · simp only [Bool.and_eq_true, decide_eq_true_eq] at h
      obtain ⟨⟨h1, h2⟩, h3⟩ := h
      subst h1
      obtain ⟨b1, b2, _⟩ := blt_of c h2
      exact pi_rng1 b1 b2 (sE a c h3) (ck_star a h3)
    · cases h
  | .rng2 a b, X, W, sc, cf, c, tg, e, h => by
    unfold ckI at h
    split at h
    · simp only [Bool.and_eq_true, decide_eq_true_eq] at h
      obtain ⟨⟨⟨h1, h2⟩, h3⟩, h4⟩ := h
      subst h1
      obtain ⟨b1, b2, _⟩ := blt_of c h2
      exact pi_rng2 b1 b2 (sE a c h3) (sE b c h4) (ck_star a h3) (ck_star b h4)
    · cases h
  | .rng3 a b d, X, W, sc, cf, c, tg, e, h => by
    unfold ckI at h
    split at h
    · simp only [Bool.and_eq_true, decide_eq_true_eq] at h
      obtain ⟨⟨⟨⟨h1, h2⟩, h3⟩, h4⟩, h5⟩ := h
      subst h1
      obtain ⟨b1, b2, _⟩ := blt_of c h2
      exact pi_rng3 b1 b2 (sE a c h3) (sE b c h4) (sE d c h5) (ck_star a h3) (ck_star b h4) (ck_star d h5)
    · cases h
  | .zip a b, X, W, sc, cf, c, tg, e, h => by
    unfold ckI at h
    split at h
    · simp only [Bool.and_eq_true, decide_eq_true_eq] at h
      obtain ⟨⟨⟨⟨h0, h1⟩, h2⟩, h3⟩, h4⟩ := h
      subst h1
      obtain ⟨b1, b2, _⟩ := blt_of c h2
      cases tg <;> first
        | exact (Bool.false_ne_true h0).elim
        | exact pi_zipD c.wo.hK b1 b2 (sE a c h3) (sE b c h4) (ck_star a h3) (ck_star b h4)
    · cases h
  | .enum a, X, W, sc, cf, c, tg, e, h => by
    unfold ckI at h
    split at h
    · simp only [Bool.and_eq_true, decide_eq_true_eq] at h
      obtain ⟨⟨⟨h0, h1⟩, h2⟩, h3⟩ := h
      subst h1
      obtain ⟨b1, b2, _⟩ := blt_of c h2
      cases tg <;> first
        | exact (Bool.false_ne_true h0).elim
        | exact pi_enumD c.wo.hK b1 b2 (sE a c h3) (ck_star a h3)
    · cases h
theorem sAnd : ∀ (es : CEs) {X : Cx} {W : WX} {sc : Scope} {cf : Str → Bool} (c : Cok X g W pr Gd C n N sc cf) {es' : List Expr} {pos : Pos}, (!nilEs es) = true → ckEs pr sc cf N es es' = true → PE X (.BoolOp .And es' pos) (rd g W (dAnd Gd C es))
  | .nil, X, W, sc, cf, c, es', pos, h0, h => (Bool.false_ne_true h0).elim
  | .cons a .nil, X, W, sc, cf, c, es', pos, h0, h => by
    unfold ckEs at h
    cases es' with
    | nil => cases h
    | cons e es =>
      dsimp only at h
      rw [Bool.and_eq_true] at h
      cases es with
      | nil => exact pe_one (sE a c h.1)
      | cons _ _ => exact absurd h.2 (by unfold ckEs; exact Bool.false_ne_true)
  | .cons a (.cons b r), X, W, sc, cf, c, es', pos, h0, h => by
    unfold ckEs at h
    cases es' with
    | nil => cases h
    | cons e es =>
      dsimp only at h
      rw [Bool.and_eq_true] at h
      cases es with
      | nil => exact absurd h.2 (by unfold ckEs; exact Bool.false_ne_true)
      | cons e2 es2 => exact pd_and (sE a c h.1) (sAnd (.cons b r) c rfl h.2)
theorem sOr : ∀ (es : CEs) {X : Cx} {W : WX} {sc : Scope} {cf : Str → Bool} (c : Cok X g W pr Gd C n N sc cf) {es' : List Expr} {pos : Pos}, (!nilEs es) = true → ckEs pr sc cf N es es' = true → PE X (.BoolOp .Or es' pos) (rd g W (dOr Gd C es))
  | .nil, X, W, sc, cf, c, es', pos, h0, h => (Bool.false_ne_true h0).elim
  | .cons a .nil, X, W, sc, cf, c, es', pos, h0, h => by
    unfold ckEs at h
    cases es' with
    | nil => cases h
    | cons e es =>
      dsimp only at h
      rw [Bool.and_eq_true] at h
      cases es with
      | nil => exact pe_one (sE a c h.1)
      | cons _ _ => exact absurd h.2 (by unfold ckEs; exact Bool.false_ne_true)
  | .cons a (.cons b r), X, W, sc, cf, c, es', pos, h0, h => by
    unfold ckEs at h
    cases es' with
    | nil => cases h
    | cons e es =>
      dsimp only at h
      rw [Bool.and_eq_true] at h
      cases es with
      | nil => exact absurd h.2 (by unfold ckEs; exact Bool.false_ne_true)
      | cons e2 es2 => exact pd_or (sE a c h.1) (sOr (.cons b r) c rfl h.2)
theorem sT : ∀ (ce : CE) {X : Cx} {W : WX} {sc : Scope} {cf : Str → Bool} (c : Cok X g W pr Gd C n N sc cf) {e : Expr}, ckT pr sc cf N ce e = true → PT X e (rdT g W (dT Gd C ce))
  | .and es, X, W, sc, cf, c, e, h => by
    unfold ckT at h
    split at h
    · rw [Bool.and_eq_true] at h
      exact (sTAnd es c h.1 h.2).pt
    · cases h
  | .or es, X, W, sc, cf, c, e, h => by
    unfold ckT at h
    split at h
    · rw [Bool.and_eq_true] at h
      exact (sTOr es c h.1 h.2).pt
    · cases h
  | .not a, X, W, sc, cf, c, e, h => by
    unfold ckT at h
    split at h
    · exact pt_notD (sT a c h)
    · cases h
  | .cmp op a b, X, W, sc, cf, c, e, h => by
    unfold ckT at h
    split at h
    · simp only [Bool.and_eq_true, decide_eq_true_eq] at h
      obtain ⟨⟨⟨h1, h2⟩, h3⟩, h4⟩ := h
      subst h1
      obtain ⟨r, ho, hr⟩ := cmp_real c.wo.hK (by have := c.units; omega) op
      exact pt_cmpD ho hr (sE a c h3) (sE b c h4) h2
    · cases h
  | .chn o1 o2 a b d, X, W, sc, cf, c, e, h => by
    unfold ckT at h
    split at h
    · simp only [Bool.and_eq_true, decide_eq_true_eq] at h
      obtain ⟨⟨⟨⟨⟨h1, h2⟩, h3⟩, h4⟩, h5⟩, h6⟩ := h
      subst h1 h2
      obtain ⟨r, ho, hr⟩ := cmp_real c.wo.hK (by have := c.units; omega) o1
      obtain ⟨r', ho', hr'⟩ := cmp_real c.wo.hK (by have := c.units; omega) o2
      exact pt_chnD ho ho' hr hr' (sE a c h4) (sE b c h5) (sE d c h6) h3
    · cases h
  | .var i, X, W, sc, cf, c, e, h => by
    unfold ckT at h
    split at h
    · exact pt_tru c.wo.hK (var_of c h) rfl
    · cases h
  | .idx a i, X, W, sc, cf, c, e, h => by
    unfold ckT at h
    split at h
    · simp only [Bool.and_eq_true] at h
      exact pt_tru c.wo.hK (pd_idx c.wo.hK (sE a c h.1.2) (sE i c h.2) h.1.1) rfl
    · cases h
  | .call k es, X, W, sc, cf, c, e, h => by
    unfold ckT at h
    split at h
    · rw [Bool.and_eq_true, Bool.and_eq_true, Bool.and_eq_true] at h
      exact pt_tru c.wo.hK (call_of c h.1.1.1 h.1.1.2 h.1.2 h.2 (sEs es c h.2)) rfl
    · cases h
  | .isi a t, X, W, sc, cf, c, e, h => by
    unfold ckT at h
    split at h
    · rw [Bool.and_eq_true, Bool.and_eq_true] at h
      exact pt_tru c.wo.hK (isi_of c h.1.1 h.1.2 (sE a c h.2) (ck_star a h.2)) rfl
    · cases h
  | .bi b es, X, W, sc, cf, c, e, h => by
    unfold ckT at h
    split at h
    · rw [Bool.and_eq_true, Bool.and_eq_true] at h
      exact pt_tru c.wo.hK (bi_of c h.1.1 h.1.2 h.2 (sEs es c h.2)) rfl
    · cases h
  | .cst d, X, W, sc, cf, c, e, h => by
    unfold ckT at h
    split at h
    · exact pt_tru c.wo.hK (cst_of c h) rfl
    · cases h
  | .glb _, X, W, sc, cf, c, e, h => (Bool.false_ne_true h).elim
  | .fnv _, X, W, sc, cf, c, e, h => (Bool.false_ne_true h).elim
  | .bin _ _ _, X, W, sc, cf, c, e, h => (Bool.false_ne_true h).elim
  | .ife _ _ _, X, W, sc, cf, c, e, h => (Bool.false_ne_true h).elim
  | .tup _, X, W, sc, cf, c, e, h => (Bool.false_ne_true h).elim
  | .lst _ _, X, W, sc, cf, c, e, h => (Bool.false_ne_true h).elim
  | .sli _ _ _, X, W, sc, cf, c, e, h => (Bool.false_ne_true h).elim
  | .rev _ _, X, W, sc, cf, c, e, h => (Bool.false_ne_true h).elim
  | .kall _ _ _ _, X, W, sc, cf, c, e, h => (Bool.false_ne_true h).elim
  | .meth _ _ _, X, W, sc, cf, c, e, h => (Bool.false_ne_true h).elim
  | .lc _ _ _ _ _ _, X, W, sc, cf, c, e, h => (Bool.false_ne_true h).elim
theorem sTAnd : ∀ (es : CEs) {X : Cx} {W : WX} {sc : Scope} {cf : Str → Bool} (c : Cok X g W pr Gd C n N sc cf) {es' : List Expr} {pos : Pos}, (!nilEs es) = true → ckTs pr sc cf N es es' = true → PW X (.BoolOp .And es' pos) (rdT g W (tAnd Gd C es))
  | .nil, X, W, sc, cf, c, es', pos, h0, h => (Bool.false_ne_true h0).elim
  | .cons a .nil, X, W, sc, cf, c, es', pos, h0, h => by
    unfold ckTs at h
    cases es' with
    | nil => cases h
    | cons e es =>
      dsimp only at h
      rw [Bool.and_eq_true] at h
      cases es with
      | nil => exact pw_and1 (sT a c h.1)
      | cons _ _ => exact absurd h.2 (by unfold ckTs; exact Bool.false_ne_true)
  | .cons a (.cons b r), X, W, sc, cf, c, es', pos, h0, h => by
    unfold ckTs at h
    cases es' with
    | nil => cases h
    | cons e es =>
      dsimp only at h
      rw [Bool.and_eq_true] at h
      cases es with
      | nil => exact absurd h.2 (by unfold ckTs; exact Bool.false_ne_true)
      | cons e2 es2 => exact pt_and (sT a c h.1) (sTAnd (.cons b r) c rfl h.2)
theorem sTOr : ∀ (es : CEs) {X : Cx} {W : WX} {sc : Scope} {cf : Str → Bool} (c : Cok X g W pr Gd C n N sc cf) {es' : List Expr} {pos : Pos}, (!nilEs es) = true → ckTs pr sc cf N es es' = true → PW X (.BoolOp .Or es' pos) (rdT g W (tOr Gd C es))
  | .nil, X, W, sc, cf, c, es', pos, h0, h => (Bool.false_ne_true h0).elim
  | .cons a .nil, X, W, sc, cf, c, es', pos, h0, h => by
    unfold ckTs at h
    cases es' with
    | nil => cases h
    | cons e es =>
      dsimp only at h
      rw [Bool.and_eq_true] at h
      cases es with
      | nil => exact pw_or1 (sT a c h.1)
      | cons _ _ => exact absurd h.2 (by unfold ckTs; exact Bool.false_ne_true)
  | .cons a (.cons b r), X, W, sc, cf, c, es', pos, h0, h => by
    unfold ckTs at h
    cases es' with
    | nil => cases h
    | cons e es =>
      dsimp only at h
      rw [Bool.and_eq_true] at h
      cases es with
      | nil => exact absurd h.2 (by unfold ckTs; exact Bool.false_ne_true)
      | cons e2 es2 => exact pt_or (sT a c h.1) (sTOr (.cons b r) c rfl h.2)
end
end Ev
end

section
set_option Elab.async false
set_option linter.all false
set_option maxRecDepth 100000
set_option maxHeartbeats 16000000
/-! E13: statements: the checker, its soundness; the defs of a program -/
namespace Ev
open PySem PySem.Spec PyProof.Rows L2

theorem PGs.imp {X : Cx} {es : List Expr} {t u : TGs} (h : L2.PGs X es t) (i : ∀ vs σ H Q, u vs σ H Q → t vs σ H Q) : L2.PGs X es u := ⟨fun pins s σ H vs us Q I r q => h.run pins s σ H vs us Q I r (i vs σ H Q q)⟩
def nlc : Expr → Bool
  | .ListComp _ _ _ _ => false
  | .SetComp _ _ _ _ => false
  | .DictComp _ _ _ _ _ => false
  | _ => true
theorem sw_nlc {e : Expr} {t : Option Expr} {l : Nat} {env : Env} (h : nlc e = true) : swapsWith e t l env = pure false := by
  cases e <;> first | rfl | exact (Bool.false_ne_true h).elim
theorem sw_tup {e : Expr} {es : List Expr} {k : Nat} {p : Pos} {l : Nat} {env : Env} : swapsWithSole [.Tuple es k p] e l env = pure false := by
  show swapsWith e (some (.Tuple es k p)) l env = pure false
  cases e <;> rfl
theorem sw_sub {e a i : Expr} {p : Pos} {l : Nat} {env : Env} : swapsWithSole [.Subscript a i p] e l env = pure false := by
  show swapsWith e (some (.Subscript a i p)) l env = pure false
  cases e <;> rfl
theorem st_name {x : Str} {p : Pos} {e : Expr} {env : Env} : swappedStores [.Name x p] e env = pure none := by
  cases e <;> rfl
theorem st_sub {a i : Expr} {p : Pos} {e : Expr} {env : Env} : swappedStores [.Subscript a i p] e env = pure none := by
  cases e <;> rfl
def isTupE : Expr → Bool
  | .Tuple _ _ _ => true
  | _ => false
theorem st_ntup {ts : List Expr} {k : Nat} {p : Pos} {e : Expr} {env : Env} (h : isTupE e = false) : swappedStores [.Tuple ts k p] e env = pure none := by
  cases e <;> first | rfl | exact (Bool.false_ne_true h.symm).elim
def isStar : Expr → Bool
  | .Starred _ _ => true
  | _ => false
def swNm (sc : Scope) (line : Nat) : Expr → Option Str
  | .Name id pos => if sc.names.lookup id == some .local && pos.line == line then some id else none
  | _ => none
def swSt (sc : Scope) (ts vs : List Expr) : Option (Option (List Str)) :=
  if !(ts.length == 2 || ts.length == 3) || vs.length != ts.length then some none else
  if vs.any isStar then some none else
  let names := ts.filterMap (swNm sc ((ts.head?.map (·.pos.line)).getD 0))
  if names.length != ts.length || names.eraseDups.length != names.length then some none else
  if vs.all (foldedForSure 8) then some none else
  if vs.all (constantsAlone 8) then none else some (some names)
theorem swSt_of {sc : Scope} {ts vs : List Expr} {k k2 : Nat} {p p2 : Pos} {env : Env} {r : Option (List Str)} (hs : env.scope = sc) (hk : sc.kind = .function) (h : swSt sc ts vs = some r) : swappedStores [.Tuple ts k p] (.Tuple vs k2 p2) env = pure r := by
  subst hs
  have hb : env.blockKind = .function := by unfold Env.blockKind; rw [hk]; rfl
  unfold swappedStores
  rw [hb]
  have hz : (ScopeKind.function != ScopeKind.function) = false := by decide
  rw [hz]
  change (if (!(ts.length == 2 || ts.length == 3) || vs.length != ts.length || false) = true then (pure none : Sem (Option (List Str))) else
    if vs.any isStar = true then pure none else
    if ((ts.filterMap (swNm env.scope ((ts.head?.map (·.pos.line)).getD 0))).length != ts.length || (ts.filterMap (swNm env.scope ((ts.head?.map (·.pos.line)).getD 0))).eraseDups.length != (ts.filterMap (swNm env.scope ((ts.head?.map (·.pos.line)).getD 0))).length) = true then pure none else
    if vs.all (foldedForSure 8) = true then pure none else
    if vs.all (constantsAlone 8) = true then _ else pure (some (ts.filterMap (swNm env.scope ((ts.head?.map (·.pos.line)).getD 0))))) = _
  unfold swSt at h
  dsimp only at h
  rw [Bool.or_false]
  split
  · rename_i h1; rw [if_pos h1] at h; cases h; rfl
  · rename_i h1
    rw [if_neg h1] at h
    split
    · rename_i h2; rw [if_pos h2] at h; cases h; rfl
    · rename_i h2
      rw [if_neg h2] at h
      split
      · rename_i h3; rw [if_pos h3] at h; cases h; rfl
      · rename_i h3
        rw [if_neg h3] at h
        split
        · rename_i h4; rw [if_pos h4] at h; cases h; rfl
        · rename_i h4
          rw [if_neg h4] at h
          split
          · rename_i h5; rw [if_pos h5] at h; cases h
          · rename_i h5; rw [if_neg h5] at h; cases h; rfl
/-! ### unpacking onto names and places -/
def tU (g : Gc) (W : WX) (Gd : List PyData) (C : Calls) (ts : List CT) : TGs := fun xs σ H Q => ∃ F f R ρ S ds D, Sm g F f R S H ∧ En g F f ρ σ ∧ DaAll g.K F xs ds ∧ ds.length = ts.length ∧ (∀ σ' H', D.nx σ' H' → Q σ' H') ∧ SatS g F f R W (unpD Gd C ts ds ρ S) D
section
variable {X : Cx} {g : Gc} {W : WX} {Gd : List PyData} {C : Calls}
theorem pu_nil : PGs X [] (tU g W Gd C []) := PGs.imp pgs_nil fun xs σ H Q ⟨F, f, R, ρ, S, ds, D, s, e, t, hl, hq, h⟩ => by
  cases ds with
  | cons _ _ => cases hl
  | nil =>
    cases t
    exact ⟨rfl, hq _ _ (h.nx s e)⟩
theorem pu_nm {i : Nat} {ts : List CT} {e : Expr} {es : List Expr} (h1 : PG X e (gName i)) (hn : nstar e = true) (h2 : PGs X es (tU g W Gd C ts)) : PGs X (e :: es) (tU g W Gd C (.nm i :: ts)) :=
  PGs.imp (pgs_cons h1 h2 (by rw [asg_cons hn]; rfl)) fun xs σ H Q ⟨F, f, R, ρ, S, ds, D, s, e, t, hl, hq, h⟩ => by
    cases t with
    | nil => cases hl
    | cons t1 t2 => exact ⟨_, _, rfl, F, f, R, _, S, _, D, s, e.set i (v := .d _) t1, t2, by simpa using hl, hq, h⟩
theorem pu_sub {a i : CE} {ts : List CT} {o ix : Expr} {p : Pos} {es : List Expr} (ho : PE X o (rd g W (dE Gd C a))) (hi : PE X ix (rd g W (dE Gd C i))) (hn : nslice ix = true) (h2 : PGs X es (tU g W Gd C ts)) : PGs X (.Subscript o ix p :: es) (tU g W Gd C (.sub a i :: ts)) :=
  PGs.imp (pgs_cons (pg_sub ho hi set_list (by intro v; cases ix <;> first | rfl | exact (Bool.false_ne_true hn).elim)) h2 (by rw [asg_cons rfl]; rfl)) fun xs σ H Q ⟨F, f, R, ρ, S, ds, D, s, e, t, hl, hq, h⟩ => by
    cases t with
    | nil => cases hl
    | cons t1 t2 =>
      refine ⟨_, _, rfl, ?_⟩
      refine rS s e (Sat.sbind (S := S) h) fun v F1 f1 S1 H1 x e1 s1 en1 r1 h1 => ?_
      refine rS s1 en1 (Sat.sbind (S := S) h1) fun u F2 f2 S2 H2 y e2 s2 en2 r2 h2 => ?_
      exact real_set s2 (r1.sub e2) r2 (w := .d _) (Da.sub e2.le (Da.sub e1.le t1)) ((S_of h2 en2).imp fun _ F4 f4 S4 H4 e4 s4 _ h4 =>
        ⟨F4, f4, R, ρ, S4, _, D, s4, en2.sub e4, DaAll.sub e4.le (DaAll.sub e2.le (DaAll.sub e1.le t2)), by simpa using hl, hq, h4⟩)
theorem sd_unp {te : TD Val} {ts : List CT} {es : List Expr} {e : Expr} {k : Nat} {p pos : Pos} (hK : g.K = X.K) (hc : X.calm = true) (he : PE X e (rd g W te)) (hg : PGs X es (tU g W Gd C ts)) (hst : es.all nstar = true) (hl : es.length = ts.length) (hw : swappedStores [.Tuple es k p] e X.env = pure none) :
    PS X (.Assign [.Tuple es k p] e pos) (rdS g W fun ρ S => (te ρ S).s ρ fun v S1 => match v with
      | .d (.tuple xs) => if xs.length = ts.length then unpD Gd C ts xs ρ S1 else .stuck
      | _ => .stuck) := by
  obtain ⟨n1, n2⟩ := hn_names (env := X.env) hst
  refine (ps_asg he (pg_tup hc hg (n1.trans hl) n2) sw_tup hw rfl).imp fun D σ H ⟨F, f, R, ρ, S, s, e, h⟩ => ?_
  refine rS s e h fun v F1 f1 S1 H1 x e1 s1 en1 r1 h1 => ?_
  split at h1
  · split at h1
    · rename_i hlen
      cases r1 with
      | tup h2 t => exact ⟨_, _, rfl, hK ▸ SqT.sub s1.le h2, by rw [t.len]; exact hlen, F1, f1, R, ρ, S1, _, D, s1, en1, t, hlen, fun _ _ h => h, h1⟩
    · exact h1.elim
  · exact h1.elim
end
/-! ### the checker -/
section
variable (pr : Pg)
def ckUn (sc : Scope) (N : List Str) : List CT → List Expr → Bool
  | [], es => es.isEmpty
  | .nm i :: ts, es => match es with
    | e :: es => tgB sc (fun _ => true) N i e && ckUn sc N ts es
    | [] => false
  | .sub a i :: ts, es => match es with
    | .Subscript a' i' _ :: es => nslice i' && ckE pr sc (fun _ => true) N a a' && ckE pr sc (fun _ => true) N i i' && ckUn sc N ts es
    | _ => false
/-- a list comprehension goes to a local name of the same line -/
def ckLc (sc : Scope) (y : Str) (py : Pos) : Expr → Bool
  | .ListComp _ _ scope p => (py.line == p.line) && !(scope.names.any fun (n, k) => n == y && (k == .local || k == .cell))
  | _ => false
def isLc : CE → Bool
  | .lc _ _ _ _ _ _ => true
  | _ => false
def noneB : Option (Option (List Str)) → Bool
  | some none => true
  | _ => false
def ckAsg (sc : Scope) (N : List Str) (t : Tg) (e : CE) (tg e' : Expr) : Bool := match t, tg with
  | .nm i, .Name x p => tgB sc (fun _ => true) N i tg && ckE pr sc (fun _ => true) N e e' && (nlc e' || (decide (sc.names.lookup x = some .cell) && isLc e) || (decide (sc.names.lookup x = some .local) && ckLc sc x p e' && isLc e))
  | .tup is, .Tuple ts _ _ => tgsB sc (fun _ => true) N is ts && ckE pr sc (fun _ => true) N e e' && (match e' with
    | .Tuple vs _ _ => noneB (swSt sc ts vs)
    | _ => true)
  | _, _ => false
def ckPar (sc : Scope) (N : List Str) (is : List Nat) (es : CEs) (ts vs : List Expr) : Bool := match is, ts, vs with
  | [i, j], [.Name x _, .Name y _], [_, _] => decide (N[i]? = some x) && decide (N[j]? = some y) && decide (i ≠ j) && decide (sc.names.lookup x = some .local) && decide (sc.names.lookup y = some .local) && decide (swSt sc ts vs = some (some [x, y])) && ckEs pr sc (fun _ => true) N es vs
  | [i, j, l], [.Name x _, .Name y _, .Name z _], [_, _, _] => decide (N[i]? = some x) && decide (N[j]? = some y) && decide (N[l]? = some z) && decide (i ≠ j ∧ i ≠ l ∧ j ≠ l) && decide (sc.names.lookup x = some .local) && decide (sc.names.lookup y = some .local) && decide (sc.names.lookup z = some .local) &&
    decide (swSt sc ts vs = some (some [x, y, z])) && ckEs pr sc (fun _ => true) N es vs
  | _, _, _ => false
mutual
def ckS (sc : Scope) (N : List Str) : CS → Stmt → Bool
  | .ret a, s => match s with
    | .Return (some e) _ => ckE pr sc (fun _ => true) N a e
    | _ => false
  | .retN, s => match s with
    | .Return none _ => true
    | _ => false
  | .ife c a b, s => match s with
    | .If c' a' b' _ => ckT pr sc (fun _ => true) N c c' && ckSs sc N a a' && ckSs sc N b b'
    | _ => false
  | .asg t e, s => match s with
    | .Assign [tg] e' _ => ckAsg pr sc N t e tg e'
    | _ => false
  | .par is es, s => match s with
    | .Assign [.Tuple ts _ _] (.Tuple vs _ _) _ => ckPar pr sc N is es ts vs
    | _ => false
  | .seti a i e, s => match s with
    | .Assign [.Subscript a' i' _] e' _ => nslice i' && ckE pr sc (fun _ => true) N a a' && ckE pr sc (fun _ => true) N i i' && ckE pr sc (fun _ => true) N e e'
    | _ => false
  | .unp ts e, s => match s with
    | .Assign [.Tuple es' _ _] e' _ => ckUn pr sc N ts es' && es'.all nstar && decide (es'.length = ts.length) && !isTupE e' && ckE pr sc (fun _ => true) N e e'
    | _ => false
  | .for_ tg it b, s => match s with
    | .For tg' it' b' [] _ => nset it' && ckTg sc (fun _ => true) N tg tg' && ckI pr sc (fun _ => true) N (isTup tg') it it' && ckSs sc N b b'
    | _ => false
  | .whl _ c b, s => match s with
    | .While c' b' [] _ => ckT pr sc (fun _ => true) N c c' && ckSs sc N b b'
    | _ => false
  | .expr e, s => match s with
    | .Expr e' _ => nlc e' && ckE pr sc (fun _ => true) N e e'
    | _ => false
  | .pass, s => match s with
    | .Pass _ => true
    | .Expr (.Constant (.str _) _ _) _ => true
    | _ => false
  | .brk, s => match s with
    | .Break _ => true
    | _ => false
  | .cnt, s => match s with
    | .Continue _ => true
    | _ => false
  | .raise _ _, _ => false
  | .never, _ => true
def ckSs (sc : Scope) (N : List Str) : CSs → List Stmt → Bool
  | .nil, ss => ss.isEmpty
  | .cons a r, ss => match ss with
    | s :: ss => ckS sc N a s && ckSs sc N r ss
    | [] => false
end
end
end Ev
end

section
set_option Elab.async false
set_option linter.all false
set_option maxRecDepth 100000
set_option maxHeartbeats 16000000
/-! E14: statements and defs are sound -/
namespace Ev
open PySem PySem.Spec PyProof.Rows L2
section
variable {g : Gc} {pr : Pg} {Gd : List PyData} {C : Calls} {n : Nat} {N : List Str} {sc : Scope} {X : Cx} {W : WX}
theorem un_of (c : Cok X g W pr Gd C n N sc fun _ => true) : ∀ {ts : List CT} {es : List Expr}, ckUn pr sc N ts es = true → PGs X es (tU g W Gd C ts)
  | [], es, h => by
    cases es with
    | nil => exact pu_nil
    | cons _ _ => cases h
  | .nm i :: ts, es, h => by
    unfold ckUn at h
    cases es with
    | nil => cases h
    | cons e es =>
      dsimp only at h
      rw [Bool.and_eq_true] at h
      obtain ⟨h1, h2⟩ := tg_of c h.1
      exact pu_nm h1 h2 (un_of c h.2)
  | .sub a i :: ts, es, h => by
    unfold ckUn at h
    split at h
    · simp only [Bool.and_eq_true] at h
      exact pu_sub (sE a c h.1.1.2) (sE i c h.1.2) h.1.1.1 (un_of c h.2)
    · cases h
theorem lc_asg (c : Cok X g W pr Gd C n N sc fun _ => true) {m : Bool} {elt : CE} {own : List (Str × Nat)} {tg : Tg} {it : CI} {cond : CO} {i : Nat} {y : Str} {py spos : Pos} {e : Expr}
    (h : ckE pr sc (fun _ => true) N (.lc m elt own tg it cond) e = true) (hi : N[i]? = some y) (hy : sc.names.lookup y = some .local) (hl : ckLc sc y py e = true) : PS X (.Assign [.Name y py] e spos) (rdS g W (asgD (.nm i) (dE Gd C (.lc m elt own tg it cond)))) := by
  unfold ckE at h
  split at h
  · rename_i elt' tg' iter' ifs' scope p
    simp only [Bool.and_eq_true, List.all_eq_true, decide_eq_true_eq] at h
    obtain ⟨⟨⟨⟨⟨⟨h1, h2⟩, h3⟩, h4⟩, h5⟩, h6⟩, h7⟩ := h
    have ok := blkOk_by h1
    have nd : X.N.Nodup := by rw [c.hN]; exact c.nd
    have ok' : BlkOk X.N X.env.scope scope own := by rw [c.hN, c.hsc]; exact ok
    unfold ckLc at hl
    rw [Bool.and_eq_true, Bool.not_eq_true'] at hl
    have hk : X.env.scope.kind = .function := by rw [c.hsc]; exact c.kd
    have hy' : X.env.scope.names.lookup y = some .local := by rw [c.hsc]; exact hy
    exact sd_setLc c.calm nd (by rw [c.hN]; exact hi) hy' (sw_true hk hy' hl.1 hl.2) (sI it c h5) ok' (tgG_r g tg) h4 (fun s H C' cl fp => (ckTg_of (c.blk ok.kind s H C' cl fp) h3).1)
      (fun s H C' cl fp => sC cond (c.blk ok.kind s H C' cl fp) h6) (fun s H C' cl fp => sE elt (c.blk ok.kind s H C' cl fp) h7) (fold_of h2)
  · cases h
theorem sw_cell {e : Expr} {y : Str} {p : Pos} {l : Nat} {env : Env} (h : env.scope.names.lookup y = some .cell) : swapsWith e (some (.Name y p)) l env = pure false := by
  have hk : (env.kindOf y == some NameKind.local) = false := by
    show (env.scope.names.lookup y == some NameKind.local) = false
    rw [h]; rfl
  cases e <;> first
    | rfl
    | (unfold swapsWith; simp only [hk, Bool.and_false, Bool.false_and])
theorem asg_of (c : Cok X g W pr Gd C n N sc fun _ => true) {t : Tg} {e : CE} {tg e' : Expr} {pos : Pos} (h : ckAsg pr sc N t e tg e' = true) : PS X (.Assign [tg] e' pos) (rdS g W (asgD t (dE Gd C e))) := by
  unfold ckAsg at h
  split at h
  · rename_i i x p
    rw [Bool.and_eq_true, Bool.and_eq_true, Bool.or_eq_true, Bool.or_eq_true] at h
    obtain ⟨⟨h1, h2⟩, h3⟩ := h
    have q := h1
    unfold tgB at q
    simp only [Bool.and_eq_true, Bool.or_eq_true, decide_eq_true_eq, and_true] at q
    have hN : X.N[i]? = some x := by rw [c.hN]; exact q.1
    have nd : X.N.Nodup := by rw [c.hN]; exact c.nd
    have hloc : Loc X.env.scope x := by rw [c.hsc]; exact q.2
    rcases h3 with (h3 | h3) | h3
    · exact sd_set nd hN hloc (sE e c h2) (sw_nlc h3) (.inl (c.fn x rfl))
    · rw [Bool.and_eq_true] at h3
      exact sd_set nd hN hloc (sE e c h2) (sw_cell (by rw [c.hsc]; exact of_decide_eq_true h3.1)) (.inl (c.fn x rfl))
    · rw [Bool.and_eq_true, Bool.and_eq_true] at h3
      obtain ⟨⟨h4, h5⟩, h6⟩ := h3
      cases e <;> first
        | exact (Bool.false_ne_true h6).elim
        | exact lc_asg c h2 q.1 (of_decide_eq_true h4) h5
  · rename_i is ts k p
    rw [Bool.and_eq_true, Bool.and_eq_true] at h
    obtain ⟨⟨h1, h2⟩, h3⟩ := h
    obtain ⟨g1, g2⟩ := ckTg_of (t := .tup is) (e := .Tuple ts k p) c h1
    refine sd_asg (tgG_r g (.tup is)) (sE e c h2) g1 sw_tup ?_ rfl
    by_cases ht : isTupE e' = true
    · cases e' <;> first
        | exact (Bool.false_ne_true ht).elim
        | (dsimp only at h3
           unfold noneB at h3
           split at h3
           · rename_i hs
             exact swSt_of c.hsc c.kd hs
           · cases h3)
    · exact st_ntup (Bool.eq_false_iff.mpr ht)
  · cases h
theorem par_of (c : Cok X g W pr Gd C n N sc fun _ => true) {is : List Nat} {es : CEs} {ts vs : List Expr} {k k2 : Nat} {p p2 pos : Pos} (h : ckPar pr sc N is es ts vs = true) : PS X (.Assign [.Tuple ts k p] (.Tuple vs k2 p2) pos) (rdS g W (parS is (dEs Gd C es))) := by
  have nd : X.N.Nodup := by rw [c.hN]; exact c.nd
  unfold ckPar at h
  split at h
  · simp only [Bool.and_eq_true, decide_eq_true_eq] at h
    obtain ⟨⟨⟨⟨⟨⟨h1, h2⟩, h3⟩, h4⟩, h5⟩, h6⟩, h7⟩ := h
    exact sd_par c.calm nd (by rw [c.hN]; exact h1) (by rw [c.hN]; exact h2) h3 (by rw [c.hsc]; exact h4) (by rw [c.hsc]; exact h5) (sEs es c h7) (swSt_of c.hsc c.kd h6)
  · simp only [Bool.and_eq_true, decide_eq_true_eq] at h
    obtain ⟨⟨⟨⟨⟨⟨⟨⟨h1, h2⟩, h3⟩, ⟨h4, h5, h6⟩⟩, h7⟩, h8⟩, h9⟩, h10⟩, h11⟩ := h
    exact sd_par3 c.calm nd (by rw [c.hN]; exact h1) (by rw [c.hN]; exact h2) (by rw [c.hN]; exact h3) h4 h5 h6 (by rw [c.hsc]; exact h7) (by rw [c.hsc]; exact h8) (by rw [c.hsc]; exact h9) (sEs es c h11) (swSt_of c.hsc c.kd h10)
  · cases h
end
section
variable {g : Gc} {pr : Pg} {Gd : List PyData} {C : Calls} {n : Nat} {N : List Str} {sc : Scope} {X : Cx} {W : WX}
mutual
theorem sS (c : Cok X g W pr Gd C n N sc fun _ => true) (own : PassesOwn (model X.prog X.w) X.A X.env X.xe) : ∀ (cs : CS) {s : Stmt}, ckS pr sc N cs s = true → PS X s (rdS g W (dS Gd C cs))
  | .ret a, s, h => by
    unfold ckS at h
    split at h
    · exact sd_ret (sE a c h)
    · cases h
  | .retN, s, h => by
    unfold ckS at h
    split at h
    · exact sd_retN
    · cases h
  | .ife t a b, s, h => by
    unfold ckS at h
    split at h
    · simp only [Bool.and_eq_true] at h
      exact sd_if (sT t c h.1.1) (sSs c own a h.1.2) (sSs c own b h.2)
    · cases h
  | .asg t e, s, h => by
    unfold ckS at h
    split at h
    · exact asg_of c h
    · cases h
  | .par is es, s, h => by
    unfold ckS at h
    split at h
    · exact par_of c h
    · cases h
  | .seti a i e, s, h => by
    unfold ckS at h
    split at h
    · rename_i a' i' p e' q
      simp only [Bool.and_eq_true] at h
      exact sd_seti (sE a c h.1.1.2) (sE i c h.1.2) (sE e c h.2) sw_sub st_sub (by have hn := h.1.1.1; intro v; cases i' <;> first | rfl | exact (Bool.false_ne_true hn).elim)
    · cases h
  | .unp ts e, s, h => by
    unfold ckS at h
    split at h
    · simp only [Bool.and_eq_true, decide_eq_true_eq, Bool.not_eq_true'] at h
      obtain ⟨⟨⟨⟨h1, h2⟩, h3⟩, h4⟩, h5⟩ := h
      exact sd_unp c.wo.hK c.calm (sE e c h5) (un_of c h1) h2 h3 (st_ntup h4)
    · cases h
  | .for_ tg it b, s, h => by
    unfold ckS at h
    split at h
    · simp only [Bool.and_eq_true] at h
      obtain ⟨⟨⟨h1, h2⟩, h3⟩, h4⟩ := h
      exact sd_for own c.calm (tgG_r g tg) (sI it c h3) (ckTg_of c h2).1 (sSs c own b h4) (fold_of h1)
    · cases h
  | .whl k t b, s, h => by
    unfold ckS at h
    split at h
    · simp only [Bool.and_eq_true] at h
      exact sd_whl own (sT t c h.1) (sSs c own b h.2)
    · cases h
  | .expr e, s, h => by
    unfold ckS at h
    split at h
    · simp only [Bool.and_eq_true] at h
      exact sd_expr (sE e c h.2) (sw_nlc h.1)
    · cases h
  | .pass, s, h => by
    unfold ckS at h
    split at h
    · exact sd_pass
    · exact sd_doc
    · cases h
  | .brk, s, h => by
    unfold ckS at h
    split at h
    · exact sd_brk
    · cases h
  | .cnt, s, h => by
    unfold ckS at h
    split at h
    · exact sd_cnt
    · cases h
  | .raise k e, s, h => (Bool.false_ne_true h).elim
  | .never, s, h => sd_never
theorem sSs (c : Cok X g W pr Gd C n N sc fun _ => true) (own : PassesOwn (model X.prog X.w) X.A X.env X.xe) : ∀ (cs : CSs) {ss : List Stmt}, ckSs pr sc N cs ss = true → PSs X ss (rdS g W (dSs Gd C cs))
  | .nil, ss, h => by
    unfold ckSs at h
    cases ss with
    | nil => exact ss_nil
    | cons _ _ => cases h
  | .cons a r, ss, h => by
    unfold ckSs at h
    cases ss with
    | nil => cases h
    | cons s ss =>
      dsimp only at h
      rw [Bool.and_eq_true] at h
      exact ss_cons (sS c own a h.1) (sSs c own r h.2)
end
end
/-! ### all defs of a program -/
structure Tx (P : Program) (w : World) (K : PySem.W.Frag) (mg : Str → Option Value) (base : Heap) (g : Gc) (pr : Pg) (Gd : List PyData) (T : List Df) : Prop where
  hK : g.K = K
  sy : SysK K
  gl : ∀ (k : Nat) (x : Str), pr.gl[k]? = some x → ∃ d v u, Gd[k]? = some d ∧ mg x = some u ∧ RelV v u ∧ ∀ F, Da g.K F v d
  bl : ∀ x ∈ pr.bl, mg x = none
  fn : ∀ (k : Nat) (dd : Dd), pr.defs[k]? = some dd → mg dd.name = some (.ref (g.ad k)) ∧ PySem.W.keepIn K (.ref (g.ad k)) = true ∧
    ∃ (x qual : Str) (params : Arguments) (body : List Stmt) (scope : Scope) (dvs : List V) (kws : List (Str × V)) (fd : FuncData) (N : List Str) (df : Df), FunD K x qual params body scope dvs kws (g.ad k) fd ∧ FnScope N dd.ps scope ∧
      T[k]? = some df ∧ df.np = dd.ps.length ∧ df.nn = N.length ∧ ckSs pr scope N df.body body = true ∧ L2.Binds K fd dd.ps [] ∧ ∀ q ∈ pr.kws, q.1 = k → KwB K fd dd.ps q.2.1 q.2.2.1 q.2.2.2
section
variable {P : Program} {w : World} {K : PySem.W.Frag} {mg : Str → Option Value} {base : Heap} {g : Gc} {pr : Pg} {Gd : List PyData} {T : List Df}
/-- the defs at a depth -/
def FnA (P : Program) (w : World) (K : PySem.W.Frag) (mg : Str → Option Value) (base : Heap) (g : Gc) (pr : Pg) (Gd : List PyData) (T : List Df) (n : Nat) : Prop := ∀ (k : Nat) (dd : Dd), pr.defs[k]? = some dd → mg dd.name = some (.ref (g.ad k)) ∧ PySem.W.keepIn K (.ref (g.ad k)) = true ∧
    ∃ fd, (∃ oc od osl, K.lookup (g.ad k) = some ⟨oc, od, .func fd, osl⟩) ∧ FnG P w K mg base n (g.ad k) fd dd.ps (spD g (sem Gd T n) k dd.ps.length) ∧ L2.Binds K fd dd.ps [] ∧ ∀ q ∈ pr.kws, q.1 = k → KwB K fd dd.ps q.2.1 q.2.2.1 q.2.2.2
theorem FunD.at_ {x qual : Str} {params : Arguments} {body : List Stmt} {scope : Scope} {dvs : List V} {kws : List (Str × V)} {f : Addr} {fd : FuncData} (F : L2.FunD K x qual params body scope dvs kws f fd) : ∃ oc od osl, K.lookup f = some ⟨oc, od, .func fd, osl⟩ :=
  let ⟨oc, od, _, _, _, _, _, _, _, osl, _, lk, _⟩ := F.ex
  ⟨oc, od, osl, lk⟩
theorem fn_all (t : Tx P w K mg base g pr Gd T) : ∀ n, FnA P w K mg base g pr Gd T n
  | 0 => fun k dd hk => by
    obtain ⟨h1, h2, x, qual, params, body, scope, dvs, kws, fd, N, df, h3, h4, h5, h6, h7, h8, h9, h10⟩ := t.fn k dd hk
    refine ⟨h1, h2, fd, FunD.at_ h3, ⟨spD_len, fun A outer s H args us vs Q E hr hg e0 hb r hsp => ?_⟩, h9, h10⟩
    obtain ⟨F, f, R, S, as, _, _, _, z⟩ := hsp
    exact z.elim
  | n + 1 => fun k dd hk => by
    have ih := fn_all t n
    obtain ⟨h1, h2, x, qual, params, body, scope, dvs, kws, fd, N, df, h3, h4, h5, h6, h7, h8, h9, h10⟩ := t.fn k dd hk
    refine ⟨h1, h2, fd, FunD.at_ h3, fnG_of h3 h4 spD_len fun cdv A outer s H vs Q E hr hg hsp => ?_, h9, h10⟩
    obtain ⟨F, f, R, S, as, sm, rs, hl, z⟩ := hsp
    have c : Cok (cxOf (L2.CX P w) P w K mg base N qual scope (g.ad k) cdv A outer s H E) g (fun cls d _ H => E cls d H) pr Gd (sem Gd T n) n N scope fun _ => true :=
      ⟨⟨t.hK, t.sy, hr, hg, t.gl, t.bl, fun k dd h => let ⟨a, b, fd, _, c⟩ := ih k dd h; ⟨a, b, fd, c⟩⟩, rfl, h4.nd, rfl, h4.kind, rfl, takes_of rfl rfl rfl rfl, fun _ _ => rfl⟩
    refine ⟨_, sSs c (passes_of rfl) df.body h8, F, f, R, entry df.np df.nn as, S, sm, entry_en h7.symm rs, ?_⟩
    have z : Sat g F f R (fun C d H' => E C d H') (sem Gd T (n + 1) k as S) fun v F' f' S' H' => ∀ x, VR g F' f' x v → Q x H' := z
    unfold sem at z
    rw [h5] at z
    dsimp only at z
    rw [if_pos (hl.trans h6.symm)] at z
    exact body_of sm.len z
end
end Ev
end

section
set_option Elab.async false
set_option linter.all false
set_option maxRecDepth 100000
set_option maxHeartbeats 4000000
/-! E15: a law's end -/
namespace Ev
open PySem PySem.Spec PyProof.Rows L2

/-! ### the law's def is called with the script -/
theorem law_callG {P : Program} {w : World} {K : PySem.W.Frag} {mg mb : Str → Option Value} {k : Nat} {fa a : Addr} {fd : FuncData} {x : Str} {sp : Sp} {s₁ : Shared} {vs : List Value} {ns : List Int}
    (KX : K.In s₁.heap) (hns : s₁.heap.Ns mainGlobals mg) (hb : s₁.heap.Ns builtinsNs mb) (hbb : ∀ x : Str, x ≠ "__name__" → mb x = bootBuiltins x) (hlim : s₁.heap.NoLimit) (hg : s₁.gens = #[])
    (ha : s₁.heap.get? a = some { cls := .type "list", data := .seq vs.toArray }) (hi : IntsAre vs ns) (hl : ns.length ≤ sizeLine) (hr : Room k callerA) (nk : K.lookup a = none)
    (Fn : ∀ base : Heap, K.In base → base.Ns mainGlobals mg → FnG P w K mg base k fa fd [x] sp) (hbind : ∀ (s : Shared) (u : Value), BindsTo s fd ⟨[u], []⟩ [(x, u)])
    (hsp : ∀ H : Hp, Rd H a (.lst (ns.map V.int)) → sp [.ref a] H (fun v _ => v = .bl true) fun _ _ _ => False) :
    codeAny (model P w) callerA (.call (.ref fa) ⟨[.ref a], []⟩) (fun r s' => r = .ok (.ret (.bool true)) ∧ OldK s₁.heap s'.heap ∧ s'.os = s₁.os ∧ AllBare s'.gens) s₁ := by
  generalize hob : ({ cls := .type "list", data := .seq vs.toArray } : Obj) = ob at ha
  generalize hH : (fun b => if b = a then some (HO.frz ob (.lst (ns.map V.int))) else none : Hp) = H
  have at_a : H a = some (.frz ob (.lst (ns.map V.int))) := by subst hH; exact if_pos rfl
  have off : ∀ b, b ≠ a → H b = none := fun b hb => by subst hH; exact if_neg hb
  have only : ∀ {b : Addr} {o : Obj}, s₁.heap.get? b = some o → b ≠ a → (hidT s₁.heap H).get? b = some o := fun e n => hidT_get e (off _ n)
  have ns_off : ∀ {b : Addr} {m : Str → Option Value}, s₁.heap.Ns b m → (hidT s₁.heap H).Ns b m := fun {b m} ⟨o, es, ep, e, d, r⟩ => by
    refine ⟨o, es, ep, only e fun z => ?_, d, r⟩
    subst z
    rw [ha] at e; cases e
    rw [← hob] at d
    cases d
  have inK : K.In (hidT s₁.heap H) := fun b o e => only (KX b o e) fun z => by
    subst z
    rw [nk] at e; cases e
  have mod : Mod K mg (hidT s₁.heap H) := ⟨inK, ns_off hns, ⟨mb, ns_off hb, hbb⟩, let ⟨mc, h1, h2⟩ := hlim; ⟨mc, ns_off h1, h2⟩⟩
  have hok : HOk P w H s₁.heap := fun b u z => by
    by_cases e : b = a
    · subst e
      rw [at_a] at z; cases z
      exact ⟨ha, by rw [List.length_map]; exact hl, vs, _, vals_ints hi, by rw [ha, ← hob]⟩
    · rw [off b e] at z; cases z
  have env : Env0 P w K mg (hidT s₁.heap H) callerA [] s₁ H := ⟨rfl, mod, fun b o e => of_hidT e, Nat.le_of_eq (hidT_size _ _), trivial, fun b z => absurd (show b ∈ ([] : List Addr) from z) (by simp), hok, .of_eq hg⟩
  refine codeAny_mono ((Fn _ inK (ns_off hns)).run callerA [] s₁ H ⟨[.ref a], []⟩ [.ref a] [.ref a] _ _ hr rfl env (hbind s₁ (.ref a)) (.cons rfl .nil) (hsp H (.inr ⟨ob, at_a⟩))) fun r s' h => ?_
  cases r with
  | error e =>
    obtain ⟨_, _, _, _, _, _, _, _, _, _, _, _, z⟩ := (show L2.CX P w [] H s₁ (fun _ _ _ => False) e s' from h)
    exact z.elim
  | ok fl =>
    cases fl with
    | next => exact False.elim h
    | brk => exact False.elim h
    | cont => exact False.elim h
    | ret u =>
      obtain ⟨v, H', os, bare, un, hok', r', q⟩ := h
      have q' : v = .bl true := q
      subst q'
      obtain rfl : u = Value.bool true := r'
      refine ⟨rfl, OldK.of_keep fun b o e => ?_, os, bare⟩
      by_cases eb : b = a
      · subst eb
        have z2 := un.frzs b ob _ at_a
        obtain ⟨e1, _⟩ := hok b _ at_a
        obtain ⟨e2, _⟩ := hok' b _ z2
        rw [e] at e1; cases e1
        exact e2
      · exact un.keep b o e (off b eb) (by intro z; exact absurd (show b ∈ ([] : List Addr) from z) (by simp)) (by simp)
/-- the promise about the script -/
theorem spD_law {g : Gc} {K : PySem.W.Frag} {C : Calls} {k : Nat} {ns : List Int} {a : Addr} {H : Hp} (hK : g.K = K) (h : Rd H a (.lst (ns.map V.int))) (z : ∃ S', C k [.d (.list (ns.map .int))] [] = .ok (.d (.bool true)) S') :
    spD g C k 1 [.ref a] H (fun v _ => v = .bl true) fun _ _ _ => False := by
  obtain ⟨S', z⟩ := z
  have allI : ∀ ns : List Int, DaAll g.K H (ns.map V.int) (ns.map PyData.int) := by
    intro ns
    induction ns with
    | nil => exact .nil
    | cons n ns ih => exact .cons (.int n) ih
  refine ⟨H, [], [], [], [.d (.list (ns.map .int))], ⟨fun _ _ e => e, fun _ z => absurd z (by simp), List.nodup_nil, rfl, fun n ob a z => by simp at z, fun q z => absurd z (by simp)⟩, .cons (.lst h (allI ns)) .nil, rfl, ?_⟩
  rw [z]
  intro F' f' H' _ _ x r
  cases r
  rfl
theorem walkV {l : PySem.W.OpenLaw} {n m k : Nat} {q : Program} {loose : List Str} {XP : (Str → Option Value) → Heap → Prop} {YP : World → Heap → Prop} {d : DefRec} {x : Str}
    (hn : l.most = some n) (hn2 : n ≤ sizeLine) (hdf : d.params.defaults = []) (hr : Room m callerA) {Gd : List PyData} {T : List Df}
    (sound : ∀ ns : List Int, ns.length ≤ n → ∃ S', sem Gd T m k [.d (.list (ns.map .int))] [] = .ok (.d (.bool true)) S')
    (Fn : ∀ (w : World) (mg : Str → Option Value) (fa : Addr) (h : Heap), YP w h → h.Ns mainGlobals mg → mg d.name = some (.ref fa) →
      ∃ (K : PySem.W.Frag) (fd : FuncData) (g : Gc), K.In h ∧ g.K = K ∧ (∀ a o, K.lookup a = some o → o.cls ≠ .type "list") ∧ (∀ (s : Shared) (u : Value), BindsTo s fd ⟨[u], []⟩ [(x, u)]) ∧
        ∀ base : Heap, K.In base → base.Ns mainGlobals mg → FnG l.prog w K mg base m fa fd [x] (spD g (sem Gd T m) k 1)) :
    PySem.W.WalkO q loose XP YP l.row.toRowW d [] (fun f vs => PySem.call f vs) := by
  refine Att.attach_call hn hdf fun w s₀ s₁ mg mb fa o pm cd doc a vs ns G Y ho hd hcd hmg hobj hints hlen hg => ?_
  obtain ⟨K, fd, g, KX, hK, nl, hb, hF⟩ := Fn w mg fa _ Y G.T.g hmg
  have nk : K.lookup a = none := by
    cases e : K.lookup a with
    | none => rfl
    | some o =>
      have := KX a o e
      rw [hobj] at this
      cases this
      exact absurd rfl (nl a _ e)
  exact law_callG KX G.T.g G.T.b G.T.builtins G.T.nolimit hg hobj hints (Nat.le_trans hlen hn2) hr nk hF hb fun H hS => spD_law hK hS (sound ns hlen)

/-! ### what the run of the top tells -/
def kOf (n : Nat) (g : Addr → Option Obj) : PySem.W.Frag := He.frG g (sysModules :: He.asD g n)
abbrev AlV : Type := Bool × List He.FnW
def SaysV (fn : List He.DefD) (ex : PySem.W.Frag → Bool) (K : PySem.W.Frag) : Prop := ((fn.all fun d => d.ok K) && ex K, fn.map fun d => He.fnW K d.at_) = (true, fn.map He.DefD.val)
def obsV (n : Nat) (fn : List He.DefD) (ex : PySem.W.Frag → Bool) (g : Addr → Option Obj) : AlV := (fun K => ((fn.all fun d => d.ok K) && ex K, fn.map fun d => He.fnW K d.at_)) (kOf n g)
def hookV (n : Nat) (fn : List He.DefD) (ex : PySem.W.Frag → Bool) : PySem.W.Hook where
  α := AlV
  obs := fun s => obsV n fn ex s.heap.get?
  val := fun _ => (true, fn.map He.DefD.val)
  says := fun _ h => ∃ K : PySem.W.Frag, K.In h ∧ SaysV fn ex K
  of := fun _ _ e => ⟨_, He.frG_in, e⟩
  keeps := fun _ _ _ ⟨K, hK, c⟩ k => ⟨K, PySem.W.Frag.In.keeps hK k, c⟩
theorem obsV_eq {n : Nat} {fn : List He.DefD} {ex : PySem.W.Frag → Bool} {g : Addr → Option Obj} {s : Shared} (h : ∀ a, g a = s.heap.get? a) : obsV n fn ex g = (hookV n fn ex).obs s := by
  have e : g = s.heap.get? := funext h
  rw [e] <;> rfl
theorem SaysV.fun_ {fn : List He.DefD} {ex : PySem.W.Frag → Bool} {K : PySem.W.Frag} (c : SaysV fn ex K) {i : Nat} {d : He.DefD} (h : fn[i]? = some d) : ∃ fd, FunD K d.name d.qual d.params d.body d.scope (d.dvs K) (d.kws K) (He.fAd K d.at_) fd := by
  have c1 : ((fn.all fun d => d.ok K) && ex K) = true := congrArg (fun z : AlV => z.1) c
  have e : fn.map (fun d => He.fnW K d.at_) = fn.map He.DefD.val := congrArg (fun z : AlV => z.2) c
  rw [Bool.and_eq_true, List.all_eq_true] at c1
  have e2 : (fn.map fun d => He.fnW K d.at_)[i]? = (fn.map He.DefD.val)[i]? := by rw [e]
  rw [List.getElem?_map, List.getElem?_map, h] at e2
  exact He.DefD.funD (Option.some.inj e2) (c1.1 d (List.mem_of_getElem? h))
theorem SaysV.ex_ {fn : List He.DefD} {ex : PySem.W.Frag → Bool} {K : PySem.W.Frag} (c : SaysV fn ex K) : ex K = true := by
  have c1 : ((fn.all fun d => d.ok K) && ex K) = true := congrArg (fun z : AlV => z.1) c
  rw [Bool.and_eq_true] at c1
  exact c1.2

/-! ### constants of the module -/
mutual
/-- the value u is the data d, within K -/
def datB (K : PySem.W.Frag) : PyData → Value → Bool
  | .none, .none => true
  | .bool b, .bool c => b == c
  | .int i, .int j _ => decide (i = j)
  | .str x, .str y _ => decide (x = y)
  | .tuple ds, .ref a => match K.lookup a with
    | some ⟨.type c, _, .seq its _, _⟩ => decide (c = "tuple") && decide (its.size ≤ sizeLine) && datsB K ds its.toList
    | _ => false
  | _, _ => false
def datsB (K : PySem.W.Frag) : List PyData → List Value → Bool
  | [], [] => true
  | d :: ds, u :: us => datB K d u && datsB K ds us
  | _, _ => false
end
mutual
theorem datB_ok {K : PySem.W.Frag} : ∀ {d : PyData} {u : Value}, datB K d u = true → ∃ v, RelV v u ∧ ∀ F, Da K F v d
  | .none, u, h => by
    cases u with
    | none => exact ⟨.non, rfl, fun _ => .non⟩
    | _ => exact (Bool.false_ne_true h).elim
  | .bool b, u, h => by
    cases u with
    | bool c =>
      unfold datB at h
      cases (beq_iff_eq.mp h)
      exact ⟨.bl b, rfl, fun _ => .bl b⟩
    | _ => exact (Bool.false_ne_true h).elim
  | .int i, u, h => by
    cases u with
    | int j t =>
      unfold datB at h
      cases (of_decide_eq_true h)
      exact ⟨.int i, ⟨t, rfl⟩, fun _ => .int i⟩
    | _ => exact (Bool.false_ne_true h).elim
  | .str i, u, h => by
    cases u with
    | str j t =>
      unfold datB at h
      cases (of_decide_eq_true h)
      exact ⟨.str i, ⟨t, rfl⟩, fun _ => .str i⟩
    | _ => exact (Bool.false_ne_true h).elim
  | .tuple ds, u, h => by
    cases u with
    | ref a =>
      unfold datB at h
      split at h
      · rename_i c dd its n sl hk
        rw [Bool.and_eq_true, Bool.and_eq_true] at h
        obtain ⟨⟨h1, h2⟩, h3⟩ := h
        obtain ⟨vs, r, t⟩ := datsB_ok h3
        exact ⟨.ref a, rfl, fun F => .tup (.inr ⟨_, its, n, hk, congrArg Value.type (of_decide_eq_true h1), rfl, of_decide_eq_true h2, r⟩) (t F)⟩
      · cases h
    | _ => exact (Bool.false_ne_true h).elim
  | .list ds, u, h => by cases u <;> exact (Bool.false_ne_true h).elim
  | .dict ds, u, h => by cases u <;> exact (Bool.false_ne_true h).elim
theorem datsB_ok {K : PySem.W.Frag} : ∀ {ds : List PyData} {us : List Value}, datsB K ds us = true → ∃ vs, Vals vs us ∧ ∀ F, DaAll K F vs ds
  | [], us, h => by
    cases us with
    | nil => exact ⟨[], .nil, fun _ => .nil⟩
    | cons _ _ => exact (Bool.false_ne_true h).elim
  | d :: ds, us, h => by
    cases us with
    | nil => exact (Bool.false_ne_true h).elim
    | cons u us =>
      unfold datsB at h
      rw [Bool.and_eq_true] at h
      obtain ⟨v, r1, t1⟩ := datB_ok h.1
      obtain ⟨vs, r2, t2⟩ := datsB_ok h.2
      exact ⟨v :: vs, .cons r1 r2, fun F => .cons (t1 F) (t2 F)⟩
end
def gcB (K : PySem.W.Frag) (x : Str) (d : PyData) : Bool := match PySem.W.nsIn K mainGlobals x with
  | some (some u) => datB K d u
  | _ => false
def sysB (K : PySem.W.Frag) : Bool := match K.lookup sysModules with
  | some ⟨.type c, _, _, _⟩ => decide (c = "dict")
  | _ => false
theorem sysB_ok {K : PySem.W.Frag} (h : sysB K = true) : SysK K := by
  unfold sysB at h
  split at h
  · rename_i c _ _ _ e
    exact ⟨_, e, congrArg Value.type (of_decide_eq_true h)⟩
  · cases h
def nlB (K : PySem.W.Frag) : Bool := K.all fun p => !decide (p.2.cls = .type "list")
theorem lk_mem {α : Type} {a : Addr} {o : α} : ∀ {l : List (Addr × α)}, l.lookup a = some o → (a, o) ∈ l
  | [], h => by cases h
  | (b, u) :: r, h => by
    rw [List.lookup_cons] at h
    split at h
    · rename_i e
      cases h
      rw [beq_iff_eq.mp e]
      exact List.mem_cons_self
    · exact List.mem_cons_of_mem _ (lk_mem h)
theorem nlB_ok {K : PySem.W.Frag} (h : nlB K = true) : ∀ a o, K.lookup a = some o → o.cls ≠ .type "list" := by
  intro a o e
  have m : (a, o) ∈ K := lk_mem e
  have q := List.all_eq_true.mp h _ m
  simpa using q

/-! ### a program as data -/
/-- a def: what stands in the module, its parameters, its names, its form here -/
structure Dn where
  dd : He.DefD
  ps : List Str
  N : List Str
  df : Df
structure Pd where
  ds : List Dn
  gl : List (Str × PyData)
  bl : List Str
  kws : List (Nat × Nat × List Str × List Nat)
def Pd.pg (p : Pd) : Pg := ⟨p.ds.map fun d => ⟨d.dd.name, d.ps⟩, p.gl.map (·.1), p.bl, p.kws⟩
def Pd.T (p : Pd) : List Df := p.ds.map (·.df)
def Pd.Gd (p : Pd) : List PyData := p.gl.map (·.2)
def Pd.fn (p : Pd) : List He.DefD := p.ds.map (·.dd)
def Pd.ex (p : Pd) (K : PySem.W.Frag) : Bool := sysB K && nlB K && (p.ds.all fun d => (He.Fa.glo d.dd.name).ok K) && (p.gl.all fun q => gcB K q.1 q.2) && (p.bl.all fun x => (He.Fa.free x).ok K)
def Pd.okD (p : Pg) (d : Dn) : Bool := C8.scC d.N d.ps d.dd.scope && decide (d.df.np = d.ps.length) && decide (d.df.nn = d.N.length) && decide (d.dd.at_ = (d.dd.name, none)) && d.dd.dfl.isEmpty && d.dd.kwd.isEmpty && ckSs p d.dd.scope d.N d.df.body d.dd.body
def BnOk (d : Dn) : Prop := ∀ (kV doc pm : Value) (an : Option Addr) (cdv ct : Value) (us : List Value), us.length = d.ps.length → bindArgs (PySem.W.fnOf d.dd.name d.dd.qual d.dd.params d.dd.body d.dd.scope .none kV doc pm an cdv ct) ⟨us, []⟩ = pure (d.ps.zip us)
def KwOk (d : Dn) (n : Nat) (ks : List Str) (gs : List Nat) : Prop := ∀ (kV doc pm : Value) (an : Option Addr) (cdv ct : Value) (us ws : List Value), us.length = n → ws.length = ks.length →
  ∃ zs, pickG gs (us ++ ws) = some zs ∧ bindArgs (PySem.W.fnOf d.dd.name d.dd.qual d.dd.params d.dd.body d.dd.scope .none kV doc pm an cdv ct) ⟨us, ks.zip ws⟩ = pure (d.ps.zip zs)
def AllB : List Dn → Prop
  | [] => True
  | d :: r => BnOk d ∧ AllB r
def AllK (ds : List Dn) : List (Nat × Nat × List Str × List Nat) → Prop
  | [] => True
  | q :: r => (match ds[q.1]? with | some d => KwOk d q.2.1 q.2.2.1 q.2.2.2 | none => True) ∧ AllK ds r
theorem AllB.get : ∀ {ds : List Dn} {d : Dn}, AllB ds → d ∈ ds → BnOk d
  | _ :: _, _, ⟨h, t⟩, m => by
    rcases List.mem_cons.mp m with e | m
    · rw [e]; exact h
    · exact AllB.get t m
theorem AllK.get {ds : List Dn} : ∀ {l : List (Nat × Nat × List Str × List Nat)} {q : Nat × Nat × List Str × List Nat} {d : Dn}, AllK ds l → q ∈ l → ds[q.1]? = some d → KwOk d q.2.1 q.2.2.1 q.2.2.2
  | p :: _, q, d, ⟨h, t⟩, m, e => by
    rcases List.mem_cons.mp m with e2 | m
    · subst e2
      rw [e] at h
      exact h
    · exact AllK.get t m e
/-- the whole: a program's data, checked -/
structure Pd.Ok (p : Pd) : Prop where
  ok : ∀ d ∈ p.ds, Pd.okD p.pg d = true
  bn : AllB p.ds
  kw : AllK p.ds p.kws
theorem FunD.kwb {K : PySem.W.Frag} {d : Dn} {f : Addr} {fd : FuncData} {kws : List (Str × V)} (Fd : FunD K d.dd.name d.dd.qual d.dd.params d.dd.body d.dd.scope [] kws f fd) {n : Nat} {ks : List Str} {gs : List Nat} (h : KwOk d n ks gs) : KwB K fd d.ps n ks gs := by
  obtain ⟨oc, od, dV, kV, doc, pm, an, cdv, ct, osl, rfl, lk, hcd, hD, hK⟩ := Fd.ex
  rcases hD with ⟨_, rfl⟩ | ⟨e, _⟩
  · intro s us ws _ l1 l2
    obtain ⟨zs, z1, z2⟩ := h kV doc pm an cdv ct us ws l1 l2
    exact ⟨zs, z1, .of_eq z2⟩
  · exact absurd rfl e
theorem Pd.tx {p : Pd} (o : p.Ok) {P : Program} {w : World} {K : PySem.W.Frag} {mg : Str → Option Value} {base h : Heap} (X : K.In h) (G : h.Ns mainGlobals mg) (c : SaysV p.fn p.ex K) :
    Tx P w K mg base ⟨K, fun k => match p.ds[k]? with | some d => He.fAd K d.dd.at_ | none => 0, fun _ => 0⟩ p.pg p.Gd p.T := by
  have ex := c.ex_
  unfold Pd.ex at ex
  simp only [Bool.and_eq_true, List.all_eq_true] at ex
  obtain ⟨⟨⟨⟨e1, e2⟩, e3⟩, e4⟩, e5⟩ := ex
  refine ⟨rfl, sysB_ok e1, fun k x hx => ?_, fun x hx => He.free_ok X G (e5 x hx), fun k dd hk => ?_⟩
  · have hx : (p.gl.map (·.1))[k]? = some x := hx
    rw [List.getElem?_map] at hx
    cases q : p.gl[k]? with
    | none => rw [q] at hx; cases hx
    | some r =>
      rw [q] at hx
      cases hx
      have z := e4 r (List.mem_of_getElem? q)
      unfold gcB at z
      split at z
      · rename_i u hu
        obtain ⟨v, r1, t1⟩ := datB_ok z
        exact ⟨r.2, v, u, by show (p.gl.map (·.2))[k]? = _; rw [List.getElem?_map, q]; rfl, PySem.W.mg_of X G hu, r1, t1⟩
      · cases z
  · have hk : (p.ds.map fun d => (⟨d.dd.name, d.ps⟩ : Dd))[k]? = some dd := hk
    rw [List.getElem?_map] at hk
    cases q : p.ds[k]? with
    | none => rw [q] at hk; cases hk
    | some d =>
      rw [q] at hk
      cases hk
      have m := List.mem_of_getElem? q
      have z := o.ok d m
      unfold Pd.okD at z
      simp only [Bool.and_eq_true, decide_eq_true_eq, List.isEmpty_iff] at z
      obtain ⟨⟨⟨⟨⟨⟨z1, z2⟩, z3⟩, z4⟩, z5⟩, z6⟩, z7⟩ := z
      obtain ⟨fd, Fd⟩ := c.fun_ (i := k) (d := d.dd) (by show (p.ds.map (·.dd))[k]? = _; rw [List.getElem?_map, q]; rfl)
      have d0 : d.dd.dvs K = [] := by unfold He.DefD.dvs; rw [z5]; rfl
      rw [d0] at Fd
      have ga : He.fAd K d.dd.at_ = He.ga K d.dd.name := by rw [z4]; rfl
      refine ⟨?_, ?_, d.dd.name, d.dd.qual, d.dd.params, d.dd.body, d.dd.scope, [], d.dd.kws K, fd, d.N, d.df, ?_, C8.fnScope_by z1, ?_, z2, z3, z7, ?_, ?_⟩
      · show mg d.dd.name = some (.ref (match p.ds[k]? with | some d => He.fAd K d.dd.at_ | none => 0))
        rw [q]
        show mg d.dd.name = some (Value.ref (He.fAd K d.dd.at_))
        rw [ga]
        exact He.glo_ok X G (e3 d m)
      · show PySem.W.keepIn K (.ref (match p.ds[k]? with | some d => He.fAd K d.dd.at_ | none => 0)) = true
        rw [q]
        exact Fd.kp
      · show FunD K _ _ _ _ _ _ _ (match p.ds[k]? with | some d => He.fAd K d.dd.at_ | none => 0) fd
        rw [q]
        exact Fd
      · show (p.ds.map (·.df))[k]? = some d.df
        rw [List.getElem?_map, q]; rfl
      · exact Fd.bindsN (ps := d.ps) (o.bn.get m)
      · intro r hr e
        subst e
        exact FunD.kwb Fd (o.kw.get hr q)
/-- the end of a law -/
theorem Pd.walk {p : Pd} (o : p.Ok) {l : PySem.W.OpenLaw} {n m k hn0 : Nat} {q : Program} {loose : List Str} {XP : (Str → Option Value) → Heap → Prop} {d : DefRec} {x : Str} {dn : Dn}
    (hn : l.most = some n) (hn2 : n ≤ sizeLine) (hdf : d.params.defaults = []) (hr : Room m callerA) (hk : p.ds[k]? = some dn) (hx : dn.ps = [x]) (hname : dn.dd.name = d.name)
    (sound : ∀ ns : List Int, ns.length ≤ n → ∃ S', sem p.Gd p.T m k [.d (.list (ns.map .int))] [] = .ok (.d (.bool true)) S') :
    PySem.W.WalkO q loose XP (hookV hn0 p.fn p.ex).says l.row.toRowW d [] (fun f vs => PySem.call f vs) := by
  refine walkV (x := x) hn hn2 hdf hr sound fun w mg fa h Y G hmg => ?_
  obtain ⟨K, KX, c⟩ := Y
  have ex := c.ex_
  unfold Pd.ex at ex
  simp only [Bool.and_eq_true, List.all_eq_true] at ex
  have nl := nlB_ok ex.1.1.1.2
  have dd : p.pg.defs[k]? = some ⟨dn.dd.name, dn.ps⟩ := by
    show (p.ds.map fun d => (⟨d.dd.name, d.ps⟩ : Dd))[k]? = _
    rw [List.getElem?_map, hk]; rfl
  obtain ⟨fd, Fd⟩ := c.fun_ (i := k) (d := dn.dd) (by show (p.ds.map (·.dd))[k]? = _; rw [List.getElem?_map, hk]; rfl)
  -- the def's address, the same over every base
  obtain ⟨a1, _, fd0, _, _, b0, _⟩ := fn_all (P := l.prog) (w := w) (base := h) (Pd.tx o KX G c) m k _ dd
  have ea : fa = He.fAd K dn.dd.at_ := by
    have z : mg dn.dd.name = some (.ref (match p.ds[k]? with | some d => He.fAd K d.dd.at_ | none => 0)) := a1
    rw [hk, hname, hmg] at z
    cases z
    rfl
  have z0 := o.ok dn (List.mem_of_getElem? hk)
  unfold Pd.okD at z0
  simp only [Bool.and_eq_true, decide_eq_true_eq, List.isEmpty_iff] at z0
  have d0 : dn.dd.dvs K = [] := by unfold He.DefD.dvs; rw [z0.1.1.2]; rfl
  rw [d0] at Fd
  refine ⟨K, fd, ⟨K, fun k => match p.ds[k]? with | some d => He.fAd K d.dd.at_ | none => 0, fun _ => 0⟩, KX, rfl, nl, fun s u => ?_, fun base hB hG => ?_⟩
  · have b := Fd.bindsA (ps := dn.ps) (o.bn.get (List.mem_of_getElem? hk)) s [u] (by rw [hx]; rfl)
    rw [hx] at b
    exact b
  · obtain ⟨_, _, fd2, lk2, f2, _, _⟩ := fn_all (P := l.prog) (w := w) (base := base) (Pd.tx o (base := base) hB hG c) m k _ dd
    have f2 : FnG l.prog w K mg base m (match p.ds[k]? with | some d => He.fAd K d.dd.at_ | none => 0) fd2 dn.ps _ := f2
    have lk2 : ∃ oc od osl, K.lookup (match p.ds[k]? with | some d => He.fAd K d.dd.at_ | none => 0) = some ⟨oc, od, .func fd2, osl⟩ := lk2
    rw [hk] at f2 lk2
    have f2 : FnG l.prog w K mg base m (He.fAd K dn.dd.at_) fd2 dn.ps (spD ⟨K, fun k => match p.ds[k]? with | some d => He.fAd K d.dd.at_ | none => 0, fun _ => 0⟩ (sem p.Gd p.T m) k dn.ps.length) := f2
    obtain ⟨oc, od, osl, lk2⟩ := lk2
    obtain ⟨oc', od', osl', lk1⟩ := FunD.at_ Fd
    have lk2 : K.lookup (He.fAd K dn.dd.at_) = some ⟨oc, od, .func fd2, osl⟩ := lk2
    rw [lk1] at lk2
    cases lk2
    rw [← ea, hx] at f2
    exact f2
end Ev
end

section
set_option Elab.async false
set_option linter.all false
set_option maxRecDepth 100000
set_option maxHeartbeats 4000000
/-! Q1: the meaning, evaluated -/
namespace Ev
open PySem PySem.Spec L2

def Gets {α : Type} (o : Out α) (Q : α → Store → Prop) : Prop := ∃ a S, o = .ok a S ∧ Q a S
@[simp] theorem gets_ok {α : Type} {a : α} {S : Store} {Q : α → Store → Prop} : Gets (.ok a S) Q ↔ Q a S := ⟨(fun ⟨_, _, e, q⟩ => by cases e; exact q), fun q => ⟨_, _, rfl, q⟩⟩
@[simp] theorem gets_bind {α β : Type} {o : Out α} {φ : α → Store → Out β} {Q : β → Store → Prop} : Gets (o.bind φ) Q ↔ Gets o fun a S => Gets (φ a S) Q := by
  cases o with
  | ok a S => simp
  | err e S => exact ⟨(fun ⟨_, _, e, _⟩ => by cases e), (fun ⟨_, _, e, _⟩ => by cases e)⟩
  | stuck => exact ⟨(fun ⟨_, _, e, _⟩ => by cases e), (fun ⟨_, _, e, _⟩ => by cases e)⟩
theorem Gets.imp {α : Type} {o : Out α} {Q Q' : α → Store → Prop} (h : Gets o Q) (i : ∀ a S, Q a S → Q' a S) : Gets o Q' := let ⟨a, S, e, q⟩ := h; ⟨a, S, e, i a S q⟩
/-- a statement's end -/
def GS (o : SOut) (N : EnvD → Store → Prop) (R : Val → Store → Prop) (B C : EnvD → Store → Prop) : Prop := match o with
  | .next ρ S => N ρ S
  | .ret v S => R v S
  | .brk ρ S => B ρ S
  | .cont ρ S => C ρ S
  | _ => False
section
variable {N B C : EnvD → Store → Prop} {R : Val → Store → Prop} {ρ : EnvD} {S : Store} {v : Val}
@[simp] theorem gs_next : GS (.next ρ S) N R B C ↔ N ρ S := Iff.rfl
@[simp] theorem gs_ret : GS (.ret v S) N R B C ↔ R v S := Iff.rfl
@[simp] theorem gs_brk : GS (.brk ρ S) N R B C ↔ B ρ S := Iff.rfl
@[simp] theorem gs_cont : GS (.cont ρ S) N R B C ↔ C ρ S := Iff.rfl
@[simp] theorem gs_seq {o : SOut} {k : EnvD → Store → SOut} : GS (o.seq k) N R B C ↔ GS o (fun ρ S => GS (k ρ S) N R B C) R B C := by
  cases o <;> exact Iff.rfl
@[simp] theorem gs_s {α : Type} {o : Out α} {k : α → Store → SOut} : GS (o.s ρ k) N R B C ↔ Gets o fun a S => GS (k a S) N R B C := by
  cases o with
  | ok a S =>
    show GS (k a S) N R B C ↔ _
    rw [gets_ok]
  | err e S => exact ⟨(fun h => h.elim), (fun ⟨_, _, e, _⟩ => by cases e)⟩
  | stuck => exact ⟨(fun h => h.elim), (fun ⟨_, _, e, _⟩ => by cases e)⟩
end
theorem gets_sem {Gd : List PyData} {T : List Df} {n k : Nat} {vs : List Val} {S : Store} {d : Df} {Q : Val → Store → Prop} (h : T[k]? = some d) (hl : vs.length = d.np)
    (q : GS (dSs Gd (sem Gd T n) d.body (entry d.np d.nn vs) S) (fun _ S' => Q (.d .none) (S'.take S.length)) (fun v S' => Gets (back d.mu S.length v S') Q) (fun _ _ => False) fun _ _ => False) : Gets (sem Gd T (n + 1) k vs S) Q := by
  unfold sem
  rw [h]
  dsimp only
  rw [if_pos hl]
  generalize dSs Gd (sem Gd T n) d.body (entry d.np d.nn vs) S = o at q
  cases o with
  | next ρ S' => exact ⟨_, _, rfl, q⟩
  | ret v S' => exact q
  | brk ρ S' => exact q.elim
  | cont ρ S' => exact q.elim
  | err e ρ S' => exact q.elim
  | stuck => exact q.elim
theorem ok_of {α : Type} {o : Out α} {a : α} {S : Store} (h : Gets o fun v S' => v = a ∧ S' = S) : o = .ok a S := by
  obtain ⟨v, S', e, rfl, rfl⟩ := h
  exact e
@[simp] theorem gets_ite {α : Type} {c : Prop} [Decidable c] {x y : Out α} {Q : α → Store → Prop} : Gets (if c then x else y) Q ↔ (c → Gets x Q) ∧ (¬ c → Gets y Q) := by
  by_cases h : c
  · simp [h]
  · simp [h]
@[simp] theorem gs_ite {c : Prop} [Decidable c] {x y : SOut} {N B C : EnvD → Store → Prop} {R : Val → Store → Prop} : GS (if c then x else y) N R B C ↔ (c → GS x N R B C) ∧ (¬ c → GS y N R B C) := by
  by_cases h : c
  · simp [h]
  · simp [h]
@[simp] theorem gets_stuck {α : Type} {Q : α → Store → Prop} : Gets (.stuck : Out α) Q ↔ False := ⟨(fun ⟨_, _, e, _⟩ => by cases e), fun h => h.elim⟩
@[simp] theorem gs_stuck {N B C : EnvD → Store → Prop} {R : Val → Store → Prop} : GS .stuck N R B C ↔ False := Iff.rfl
@[simp] theorem back_d {mu : Bool} {n : Nat} {x : PyData} {S : Store} {Q : Val → Store → Prop} : Gets (back mu n (.d x) S) Q ↔ Q (.d x) (S.take n) := gets_ok
@[simp] theorem back_fn {mu : Bool} {n : Nat} {x : Nat} {S : Store} {Q : Val → Store → Prop} : Gets (back mu n (.fn x) S) Q ↔ Q (.fn x) (S.take n) := gets_ok
end Ev
end

section
set_option Elab.async false
set_option linter.all false
set_option maxRecDepth 100000
set_option maxHeartbeats 4000000
/-! Q2: lists, loops, texts shown -/
namespace Ev
open PySem PySem.Spec L2

theorem sem_eq {Gd : List PyData} {T : List Df} {n k : Nat} {vs : List Val} {S : Store} {d : Df} (h : T[k]? = some d) (hl : vs.length = d.np) :
    sem Gd T (n + 1) k vs S = ofS d.mu S.length (dSs Gd (sem Gd T n) d.body (entry d.np d.nn vs) S) := by
  show (match T[k]? with | some d => if vs.length = d.np then ofS d.mu S.length (dSs Gd (sem Gd T n) d.body (entry d.np d.nn vs) S) else .stuck | none => .stuck) = _
  rw [h]
  exact if_pos hl
/-! ### operations at known kinds -/
section
variable {S : Store} {i j : Int} {a b : Str} {xs ys : List PyData} {x y : PyData} {v : Val} {p : Nat}
@[simp] theorem add_ii : binV .Add (.d (.int i)) (.d (.int j)) S = .ok (.d (.int (i + j))) S := rfl
@[simp] theorem add_ss : binV .Add (.d (.str a)) (.d (.str b)) S = okIf (a.length + b.length ≤ sizeLine) (.str (a ++ b)) S := rfl
@[simp] theorem add_tt : binV .Add (.d (.tuple xs)) (.d (.tuple ys)) S = okIf (xs.length + ys.length ≤ sizeLine) (.tuple (xs ++ ys)) S := rfl
@[simp] theorem add_ll : binV .Add (.d (.list xs)) (.d (.list ys)) S = okIf (xs.length + ys.length ≤ sizeLine) (.list (xs ++ ys)) S := rfl
@[simp] theorem sub_ii : binV .Sub (.d (.int i)) (.d (.int j)) S = .ok (.d (.int (i - j))) S := rfl
@[simp] theorem mul_ii : binV .Mult (.d (.int i)) (.d (.int j)) S = okIf ((-(2 ^ 64) < i ∧ i < 2 ^ 64) ∨ (-(2 ^ 64) < j ∧ j < 2 ^ 64)) (.int (i * j)) S := rfl
@[simp] theorem mul_ti : binV .Mult (.d (.tuple xs)) (.d (.int j)) S = okIf (j = 1 ∨ (xs.isEmpty = false ∧ 2 ≤ j ∧ j ≤ 1000 ∧ xs.length ≤ 1000)) (.tuple (List.replicate j.toNat xs).flatten) S := rfl
@[simp] theorem mod_ii : binV .Mod (.d (.int i)) (.d (.int j)) S = okIf (j ≠ 0) (.int (i.fmod j)) S := rfl
@[simp] theorem div_ii : binV .FloorDiv (.d (.int i)) (.d (.int j)) S = okIf (j ≠ 0 ∧ j.natAbs < 1073741824) (.int (i.fdiv j)) S := rfl
@[simp] theorem pow_ii : binV .Pow (.d (.int i)) (.d (.int j)) S = okIf (0 ≤ j ∧ j ≤ 1000000 ∧ i.natAbs < 2 ^ 64) (.int (i ^ j.toNat)) S := rfl
@[simp] theorem eq_ss : cmpV .Eq (.d (.str a)) (.d (.str b)) S = .ok (.d (.bool (a == b))) S := rfl
@[simp] theorem ne_ss : cmpV .NotEq (.d (.str a)) (.d (.str b)) S = .ok (.d (.bool (!(a == b)))) S := rfl
theorem eq_dd (h : SeqAt.shaped x = true) (h2 : SeqAt.shaped y = true) : cmpV .Eq (.d x) (.d y) S = .ok (.d (.bool (PyData.eqv x y))) S := by
  cases x <;> cases y <;> first
    | (show okIf (SeqAt.shaped _ = true ∧ SeqAt.shaped _ = true) (.bool (PyData.eqv _ _)) S = _; unfold okIf; exact if_pos ⟨h, h2⟩)
    | (simp [cmpV, PyData.eqv]; done)
theorem ne_dd (h : SeqAt.shaped x = true) (h2 : SeqAt.shaped y = true) : cmpV .NotEq (.d x) (.d y) S = .ok (.d (.bool (!PyData.eqv x y))) S := by
  cases x <;> cases y <;> first
    | (show okIf (SeqAt.shaped _ = true ∧ SeqAt.shaped _ = true) (.bool (!PyData.eqv _ _)) S = _; unfold okIf; exact if_pos ⟨h, h2⟩)
    | (simp [cmpV, PyData.eqv]; done)
@[simp] theorem shaped_int (i : Int) : SeqAt.shaped (.int i) = true := rfl
@[simp] theorem shaped_bool (i : Bool) : SeqAt.shaped (.bool i) = true := rfl
@[simp] theorem shaped_none : SeqAt.shaped .none = true := rfl
@[simp] theorem eqv_int (i j : Int) : PyData.eqv (.int i) (.int j) = (i == j) := by simp [PyData.eqv]
@[simp] theorem eqv_bool (i j : Bool) : PyData.eqv (.bool i) (.bool j) = (i == j) := by simp [PyData.eqv]
@[simp] theorem eqv_str (i j : Str) : PyData.eqv (.str i) (.str j) = (i == j) := by simp [PyData.eqv]
@[simp] theorem eq_ii : cmpV .Eq (.d (.int i)) (.d (.int j)) S = .ok (.d (.bool (decide (i = j)))) S := by
  rw [eq_dd rfl rfl, eqv_int]
  rfl
@[simp] theorem ne_ii : cmpV .NotEq (.d (.int i)) (.d (.int j)) S = .ok (.d (.bool (decide (i ≠ j)))) S := by
  rw [ne_dd rfl rfl, eqv_int]
  congr 3
  rw [Bool.eq_iff_iff]
  simp
@[simp] theorem lt_ii : cmpV .Lt (.d (.int i)) (.d (.int j)) S = .ok (.d (.bool (decide (i < j)))) S := rfl
@[simp] theorem le_ii : cmpV .LtE (.d (.int i)) (.d (.int j)) S = .ok (.d (.bool (decide (i ≤ j)))) S := rfl
@[simp] theorem gt_ii : cmpV .Gt (.d (.int i)) (.d (.int j)) S = .ok (.d (.bool (decide (j < i)))) S := rfl
@[simp] theorem ge_ii : cmpV .GtE (.d (.int i)) (.d (.int j)) S = .ok (.d (.bool (decide (j ≤ i)))) S := rfl
@[simp] theorem lt_ss : cmpV .Lt (.d (.str a)) (.d (.str b)) S = .ok (.d (.bool (decide (a.cps.toList < b.cps.toList)))) S := rfl
@[simp] theorem le_ss : cmpV .LtE (.d (.str a)) (.d (.str b)) S = .ok (.d (.bool (!decide (b.cps.toList < a.cps.toList)))) S := rfl
@[simp] theorem is_nn : cmpV .Is (.d .none) (.d .none) S = .ok (.d (.bool true)) S := rfl
@[simp] theorem isnot_nn : cmpV .IsNot (.d .none) (.d .none) S = .ok (.d (.bool false)) S := rfl
@[simp] theorem is_tn : cmpV .Is (.d (.tuple xs)) (.d .none) S = .ok (.d (.bool false)) S := rfl
@[simp] theorem isnot_tn : cmpV .IsNot (.d (.tuple xs)) (.d .none) S = .ok (.d (.bool true)) S := rfl
@[simp] theorem is_in : cmpV .Is (.d (.int i)) (.d .none) S = .ok (.d (.bool false)) S := rfl
@[simp] theorem idx_li : idxV (.d (.list xs)) (.d (.int i)) S = (match atI xs i with | some x => .ok (.d x) S | none => .stuck) := rfl
@[simp] theorem idx_ti : idxV (.d (.tuple xs)) (.d (.int i)) S = (match atI xs i with | some x => .ok (.d x) S | none => .stuck) := rfl
theorem idx_loc (h : S[p]? = some (.lst xs)) : idxV (.loc p) (.d (.int i)) S = (match atI xs i with | some x => .ok (.d x) S | none => .stuck) := by
  simp [idxV, seqOf, h]
  all_goals (cases atI xs i <;> rfl)
theorem set_loc {w : PyData} (h : S[p]? = some (.lst xs)) : setV (.loc p) (.d (.int i)) (.d w) S = (match ixN xs.length i with | some j => .ok () (S.set p (.lst (xs.set j w))) | none => .stuck) := by
  simp [setV, h]
  all_goals (cases ixN xs.length i <;> rfl)
theorem app_loc {w : PyData} (h : S[p]? = some (.lst xs)) (hz : xs.length < sizeLine) : meV .append (.loc p) [.d w] S = .ok (.d .none) (S.set p (.lst (xs ++ [w]))) := by
  simp [meV, h, hz]
@[simp] theorem len_l : biV .len [.d (.list xs)] S = .ok (.d (.int xs.length)) S := rfl
@[simp] theorem len_t : biV .len [.d (.tuple xs)] S = .ok (.d (.int xs.length)) S := rfl
@[simp] theorem len_s : biV .len [.d (.str a)] S = okIf (a.length ≤ sizeLine) (.int a.length) S := rfl
theorem len_loc (h : S[p]? = some (.lst xs)) : biV .len [.loc p] S = .ok (.d (.int xs.length)) S := by
  simp [biV, seqOf, h]
@[simp] theorem all_v : biV .all [v] S = (match (lstOf S v).bind boolsOf with | some bs => .ok (.d (.bool (bs.all id))) S | none => .stuck) := by cases v <;> rfl
@[simp] theorem any_v : biV .any [v] S = (match (lstOf S v).bind boolsOf with | some bs => .ok (.d (.bool (bs.any id))) S | none => .stuck) := by cases v <;> rfl
@[simp] theorem sum_v : biV .sum [v] S = (match (lstOf S v).bind intsOf with | some ns => .ok (.d (.int ns.sum)) S | none => .stuck) := by cases v <;> rfl
@[simp] theorem tuple_l : biV .tuple [.d (.list xs)] S = .ok (.d (.tuple xs)) S := rfl
@[simp] theorem tuple_t : biV .tuple [.d (.tuple xs)] S = .ok (.d (.tuple xs)) S := rfl
theorem tuple_loc (h : S[p]? = some (.lst xs)) : biV .tuple [.loc p] S = .ok (.d (.tuple xs)) S := by
  simp [biV, seqOf, h]
@[simp] theorem list_l : biV .list [.d (.list xs)] S = .ok (.d (.list xs)) S := rfl
@[simp] theorem list_t : biV .list [.d (.tuple xs)] S = .ok (.d (.list xs)) S := rfl
@[simp] theorem listM_l : biV .listM [.d (.list xs)] S = .ok (.loc S.length) (S ++ [.lst xs]) := rfl
@[simp] theorem listM_t : biV .listM [.d (.tuple xs)] S = .ok (.loc S.length) (S ++ [.lst xs]) := rfl
@[simp] theorem abs_i : biV .abs [.d (.int i)] S = .ok (.d (.int (if i < 0 then -i else i))) S := rfl
@[simp] theorem max_i : biV .max2 [.d (.int i), .d (.int j)] S = .ok (.d (.int (if j > i then j else i))) S := rfl
@[simp] theorem min_i : biV .min2 [.d (.int i), .d (.int j)] S = .ok (.d (.int (if j < i then j else i))) S := rfl
@[simp] theorem int_i : biV .int [.d (.int i)] S = .ok (.d (.int i)) S := rfl
@[simp] theorem strI_i : biV .strI [.d (.int i)] S = okIf (i.natAbs.log2 < 1920) (.str (toString i)) S := rfl
@[simp] theorem divmod_i : biV .divmod [.d (.int i), .d (.int j)] S = okIf (0 < j ∧ j < 1073741824) (.tuple [.int (i / j), .int (i % j)]) S := rfl
@[simp] theorem lenSet_v : biV .lenSet [v] S = (match (seqOf S v).bind strsOf with | some ss => okIf (ss.length < 4000) (.int ((onceS ss).length : Nat)) S | none => .stuck) := by cases v <;> rfl
@[simp] theorem sli_s {lo hi : Option Int} : sliV (.d (.str a)) lo hi S = okIf (a.length ≤ sizeLine) (.str (cutS a lo hi)) S := rfl
@[simp] theorem sli_t {lo hi : Option Int} : sliV (.d (.tuple xs)) lo hi S = .ok (.d (.tuple (cutD xs lo hi))) S := rfl
@[simp] theorem sli_l {lo hi : Option Int} : sliV (.d (.list xs)) lo hi S = .ok (.d (.list (cutD xs lo hi))) S := rfl
@[simp] theorem rev_t : revV false (.d (.tuple xs)) S = .ok (.d (.tuple xs.reverse)) S := rfl
@[simp] theorem rev_t0 : revV true (.d (.tuple xs)) S = .ok (.d (.tuple (xs.drop 1).reverse)) S := rfl
@[simp] theorem rev_l : revV false (.d (.list xs)) S = .ok (.d (.list xs.reverse)) S := rfl
theorem rev_loc (h : S[p]? = some (.lst xs)) : revV false (.loc p) S = .ok (.d (.list xs.reverse)) S := by
  simp [revV, lstOf, h]
@[simp] theorem prt_i : prtV (.d (.int i)) S = .ok (some i) S := rfl
@[simp] theorem seqI_l : seqI (.d (.list xs)) S = .ok ⟨xs.map .d, none⟩ S := rfl
@[simp] theorem seqI_t : seqI (.d (.tuple xs)) S = .ok ⟨xs.map .d, none⟩ S := rfl
@[simp] theorem seqI_s : seqI (.d (.str a)) S = .ok ⟨a.cps.toList.map fun c => .d (.str ⟨#[c]⟩), none⟩ S := rfl
@[simp] theorem zip_l : zipI (.d (.list xs)) (.d (.list ys)) S = .ok ⟨(xs.zip ys).map fun p => .d (.tuple [p.1, p.2]), none⟩ S := rfl
@[simp] theorem zip_t : zipI (.d (.tuple xs)) (.d (.tuple ys)) S = .ok ⟨(xs.zip ys).map fun p => .d (.tuple [p.1, p.2]), none⟩ S := rfl
@[simp] theorem enum_l : enumI (.d (.list xs)) S = .ok ⟨xs.zipIdx.map fun p => .d (.tuple [.int (p.2 : Int), p.1]), none⟩ S := rfl
@[simp] theorem enum_t : enumI (.d (.tuple xs)) S = .ok ⟨xs.zipIdx.map fun p => .d (.tuple [.int (p.2 : Int), p.1]), none⟩ S := rfl
@[simp] theorem rng1_i : rng1I (.d (.int j)) S = (if -(2 ^ 62) ≤ j ∧ j < 2 ^ 62 then .ok (rngI 0 j.toNat) S else .stuck) := rfl
@[simp] theorem rng2_i : rng2I (.d (.int i)) (.d (.int j)) S = (if -(2 ^ 62) ≤ i ∧ i < 2 ^ 62 ∧ -(2 ^ 62) ≤ j ∧ j < 2 ^ 62 then .ok (rngI i (j - i).toNat) S else .stuck) := rfl
@[simp] theorem rng3_i {c : Int} : rng3I (.d (.int i)) (.d (.int j)) (.d (.int c)) S = (if c = -1 ∧ -(2 ^ 62) ≤ i ∧ i < 2 ^ 62 ∧ -(2 ^ 62) ≤ j ∧ j < 2 ^ 62 then .ok ⟨(List.range (i - j).toNat).map fun (k : Nat) => Val.d (.int (i - (k : Int))), none⟩ S else .stuck) := rfl
theorem atI_mid {α : Type} {l r : List α} {z : α} : atI (l ++ z :: r) (l.length : Int) = some z := by
  unfold atI ixN
  rw [if_pos (by omega), if_pos (by simp; omega)]
  simp
theorem ixN_mid {α : Type} {l r : List α} {z : α} : ixN (l ++ z :: r).length (l.length : Int) = some l.length := by
  unfold ixN
  rw [if_pos (by omega), if_pos (by simp; omega)]
  simp
@[simp] theorem take_set {o : Ob} : (S.set p o).take S.length = S.set p o := List.take_of_length_le (by simp)
@[simp] theorem take_app {T : Store} : (S ++ T).take S.length = S := by simp
@[simp] theorem ck_none {vs : List Val} : (⟨vs, none⟩ : Itm).ck S := True.intro
@[simp] theorem ck_rng {n : Nat} : (rngI i n).ck S := True.intro
end
/-! ### all of a kind -/
@[simp] theorem bools_map {α : Type} (f : α → Bool) (l : List α) : boolsOf (l.map fun x => .bool (f x)) = some (l.map f) := by
  induction l with
  | nil => rfl
  | cons x l ih => simp [boolsOf, ih]
@[simp] theorem bools_nil : boolsOf [] = some [] := rfl
@[simp] theorem bools_cons (b : Bool) (r : List PyData) : boolsOf (.bool b :: r) = (boolsOf r).map (b :: ·) := rfl
@[simp] theorem bools_rep (n : Nat) (b : Bool) : boolsOf (List.replicate n (.bool b)) = some (List.replicate n b) := by
  induction n with
  | zero => rfl
  | succ n ih => simp [List.replicate_succ, ih]
@[simp] theorem ints_nil : intsOf [] = some [] := rfl
@[simp] theorem ints_cons (b : Int) (r : List PyData) : intsOf (.int b :: r) = (intsOf r).map (b :: ·) := rfl
@[simp] theorem ints_map {α : Type} (f : α → Int) (l : List α) : intsOf (l.map fun x => .int (f x)) = some (l.map f) := by
  induction l with
  | nil => rfl
  | cons x l ih => simp [intsOf, ih]
@[simp] theorem ints_map' (l : List Int) : intsOf (l.map .int) = some l := by
  have := ints_map id l
  simpa using this
@[simp] theorem strs_map {α : Type} (f : α → Str) (l : List α) : strsOf (l.map fun x => .str (f x)) = some (l.map f) := by
  induction l with
  | nil => rfl
  | cons x l ih => simp [strsOf, ih]
@[simp] theorem strs_map' (l : List Str) : strsOf (l.map .str) = some l := by
  have := strs_map id l
  simpa using this
/-! ### cuts -/
def cutL {α : Type} (xs : List α) (lo hi : Option Int) : List α := (xs.drop (HT.sIx xs.length 0 lo)).take (HT.sIx xs.length xs.length hi - HT.sIx xs.length 0 lo)
@[simp] theorem cut_map {α : Type} (f : α → PyData) (xs : List α) (lo hi : Option Int) : cutD (xs.map f) lo hi = (cutL xs lo hi).map f := by
  simp [cutD, cutL, List.map_take, List.map_drop]
theorem cut_to {α : Type} (xs : List α) (k : Nat) : cutL xs none (some (k : Int)) = xs.take k := by
  unfold cutL
  rw [HT.sIx_none, HT.sIx_nat]
  simp [List.take_eq_take_iff]
theorem cut_from {α : Type} (xs : List α) (k : Nat) : cutL xs (some (k : Int)) none = xs.drop k := by
  unfold cutL
  rw [HT.sIx_none, HT.sIx_nat]
  by_cases h : k ≤ xs.length
  · rw [Nat.min_eq_left h, List.take_of_length_le (by simp)]
  · rw [Nat.min_eq_right (by omega)]
    simp [List.drop_eq_nil_of_le (show xs.length ≤ k by omega)]
theorem zw {α β γ : Type} (f : α → β → γ) : ∀ (xs : List α) (ys : List β), List.zipWith f xs ys = (xs.zip ys).map fun p => f p.1 p.2
  | [], _ => by simp
  | _ :: _, [] => by simp
  | x :: xs, y :: ys => by simp [zw f xs ys]
/-! ### comprehensions -/
theorem lc_map {w : Itm} {tg : Tg} {elt : TD Val} {ρ : EnvD} {α : Type} (g : α → Val) (f : α → PyData) (l : List α) (acc : List PyData) (S : Store) (hc : w.ck S)
    (he : ∀ x ∈ l, ∃ ρ1, tgt tg (g x) ρ = some ρ1 ∧ elt ρ1 S = .ok (.d (f x)) S) (hl : acc.length + l.length ≤ sizeLine) : lcD w tg (fun _ S => .ok true S) elt ρ (l.map g) acc S = .ok (acc ++ l.map f) S := by
  induction l generalizing acc with
  | nil => simp [lcD, hc]
  | cons x l ih =>
    obtain ⟨ρ1, h1, h2⟩ := he x List.mem_cons_self
    rw [List.length_cons] at hl
    have := ih (acc ++ [f x]) (fun y hy => he y (List.mem_cons_of_mem _ hy)) (by rw [List.length_append, List.length_singleton]; omega)
    show lcD w tg (fun _ S => .ok true S) elt ρ (g x :: l.map g) acc S = _
    unfold lcD
    rw [if_pos hc, h1]
    dsimp only
    rw [h2]
    dsimp only
    rw [if_pos (by omega), this]
    simp
/-- [f for x in xs], xs as data -/
theorem lc_each {tg : Tg} {elt : TD Val} {ρ : EnvD} {own : List Nat} {m : Bool} {it : TD Itm} {α : Type} (g : α → Val) (f : α → PyData) (l : List α) (S S0 : Store) (n : Option (Nat × List PyData)) (hi : it ρ S0 = .ok ⟨l.map g, n⟩ S) (hc : (⟨l.map g, n⟩ : Itm).ck S)
    (he : ∀ x ∈ l, ∃ ρ1, tgt tg (g x) (wipeD ρ own) = some ρ1 ∧ elt ρ1 S = .ok (.d (f x)) S) (hl : l.length ≤ sizeLine) : dLc m it own tg (fun _ S => .ok true S) elt ρ S0 = if m = true then .ok (.loc S.length) (S ++ [.lst (l.map f)]) else .ok (.d (.list (l.map f))) S := by
  unfold dLc
  rw [hi]
  dsimp only
  rw [lc_map g f l [] S hc he (by simpa using hl)]
  simp
theorem gets_each {tg : Tg} {elt : TD Val} {ρ : EnvD} {own : List Nat} {m : Bool} {it : TD Itm} {Q : Val → Store → Prop} {α : Type} (g : α → Val) (f : α → PyData) (l : List α) {S S0 : Store} {n : Option (Nat × List PyData)} (hi : it ρ S0 = .ok ⟨l.map g, n⟩ S) (hc : (⟨l.map g, n⟩ : Itm).ck S)
    (he : ∀ x ∈ l, ∃ ρ1, tgt tg (g x) (wipeD ρ own) = some ρ1 ∧ elt ρ1 S = .ok (.d (f x)) S) (hl : l.length ≤ sizeLine) (q : if m = true then Q (.loc S.length) (S ++ [.lst (l.map f)]) else Q (.d (.list (l.map f))) S) : Gets (dLc m it own tg (fun _ S => .ok true S) elt ρ S0) Q := by
  rw [lc_each g f l S S0 n hi hc he hl]
  split at q
  · rename_i h; rw [if_pos h]; exact ⟨_, _, rfl, q⟩
  · rename_i h; rw [if_neg h]; exact ⟨_, _, rfl, q⟩
/-- turns that write -/
theorem gets_lc {w : Itm} {tg : Tg} {cond : TD Bool} {elt : TD Val} {ρ : EnvD} {Q : List PyData → Store → Prop} (I : List Val → List PyData → Store → Prop)
    (step : ∀ v vs acc S, I (v :: vs) acc S → w.ck S ∧ acc.length < sizeLine ∧ ∃ ρ1, tgt tg v ρ = some ρ1 ∧ Gets (cond ρ1 S) fun b S1 => (b = true → Gets (elt ρ1 S1) fun x S2 => ∃ d, x = .d d ∧ I vs (acc ++ [d]) S2) ∧ (b = false → I vs acc S1))
    (last : ∀ acc S, I [] acc S → w.ck S ∧ Q acc S) : ∀ (vs : List Val) (acc : List PyData) (S : Store), I vs acc S → Gets (lcD w tg cond elt ρ vs acc S) Q
  | [], acc, S, h => by
    obtain ⟨h1, h2⟩ := last acc S h
    unfold lcD
    rw [if_pos h1]
    exact ⟨_, _, rfl, h2⟩
  | v :: vs, acc, S, h => by
    obtain ⟨h1, hz, ρ1, h2, b, S1, h3, h4, h5⟩ := step v vs acc S h
    unfold lcD
    rw [if_pos h1, h2]
    dsimp only
    rw [h3]
    cases b with
    | false => exact gets_lc I step last vs acc S1 (h5 rfl)
    | true =>
      obtain ⟨x, S2, h6, d, rfl, h7⟩ := h4 rfl
      dsimp only
      rw [h6]
      dsimp only
      rw [if_pos hz]
      exact gets_lc I step last vs _ S2 h7
theorem gets_dLc {m : Bool} {it : TD Itm} {own : List Nat} {tg : Tg} {cond : TD Bool} {elt : TD Val} {ρ : EnvD} {S : Store} {Q : Val → Store → Prop}
    (h : Gets (it ρ S) fun w S1 => Gets (lcD w tg cond elt (wipeD ρ own) w.vs [] S1) fun xs S2 => if m = true then Q (.loc S2.length) (S2 ++ [.lst xs]) else Q (.d (.list xs)) S2) : Gets (dLc m it own tg cond elt ρ S) Q := by
  obtain ⟨w, S1, h1, xs, S2, h2, h3⟩ := h
  unfold dLc
  rw [h1]
  dsimp only
  rw [h2]
  dsimp only
  split at h3
  · rename_i hm; rw [if_pos hm]; exact ⟨_, _, rfl, h3⟩
  · rename_i hm; rw [if_neg hm]; exact ⟨_, _, rfl, h3⟩
/-! ### loops -/
theorem gs_for {w : Itm} {tg : Tg} {body : SD} {N B C : EnvD → Store → Prop} {R : Val → Store → Prop} (I : List Val → EnvD → Store → Prop)
    (step : ∀ v vs ρ S, I (v :: vs) ρ S → w.ck S ∧ ∃ ρ1, tgt tg v ρ = some ρ1 ∧ GS (body ρ1 S) (I vs) R N (I vs)) (last : ∀ ρ S, I [] ρ S → w.ck S ∧ N ρ S) : ∀ (vs : List Val) (ρ : EnvD) (S : Store), I vs ρ S → GS (forD w tg body vs ρ S) N R B C
  | [], ρ, S, h => by
    obtain ⟨h1, h2⟩ := last ρ S h
    unfold forD
    rw [if_pos h1]
    exact h2
  | v :: vs, ρ, S, h => by
    obtain ⟨h1, ρ1, h2, h3⟩ := step v vs ρ S h
    unfold forD
    rw [if_pos h1, h2]
    dsimp only
    cases e : body ρ1 S with
    | next ρ2 S2 => rw [e] at h3; exact gs_for I step last vs ρ2 S2 h3
    | cont ρ2 S2 => rw [e] at h3; exact gs_for I step last vs ρ2 S2 h3
    | brk ρ2 S2 => rw [e] at h3; exact h3
    | ret u S2 => rw [e] at h3; exact h3
    | err x ρ2 S2 => rw [e] at h3; exact h3
    | stuck => rw [e] at h3; exact h3
/-! ### what is shown -/
mutual
def lf : PyData → Bool
  | .int i => decide (i.natAbs < 10 ^ 100)
  | .str x => x.cps.toList.all fun c => decide (c < 1114112)
  | .list xs => lfAll xs
  | .tuple xs => lfAll xs
  | .dict kvs => kvs.isEmpty
  | _ => true
def lfAll : List PyData → Bool
  | [] => true
  | x :: xs => lf x && lfAll xs
end
theorem lfAll_iff : ∀ {ds : List PyData}, lfAll ds = true ↔ ∀ d ∈ ds, lf d = true
  | [] => by simp [lfAll]
  | d :: ds => by simp [lfAll, lfAll_iff (ds := ds)]
theorem small_log {i : Int} (h : i.natAbs < 10 ^ 100) : i.natAbs.log2 < 1920 := by
  by_cases z : i.natAbs = 0
  · rw [z]; decide
  · have e : (10 : Nat) ^ 100 ≤ 2 ^ 400 := by
      have : (10 : Nat) ≤ 2 ^ 4 := by decide
      calc (10 : Nat) ^ 100 ≤ (2 ^ 4) ^ 100 := Nat.pow_le_pow_left this 100
        _ = 2 ^ 400 := (Nat.pow_mul 2 4 100).symm
    exact Nat.lt_trans ((Nat.log2_lt (k := 400) z).mpr (Nat.lt_of_lt_of_le h e)) (by decide)
mutual
theorem lf_show : ∀ {d : PyData}, lf d = true → d.showable = true ∧ d.leavesShort 101 = true
  | .none, _ => ⟨rfl, rfl⟩
  | .bool _, _ => ⟨rfl, rfl⟩
  | .int i, h => by
    have h : i.natAbs < 10 ^ 100 := of_decide_eq_true h
    refine ⟨decide_eq_true (small_log h), decide_eq_true ?_⟩
    have e := PySem.int_text_length_le10 (k := 100) (by decide) h
    show (PySem.Str.ofString (toString i)).length ≤ 101
    rw [PySem.ofString_length]
    exact e
  | .str x, h => by
    refine ⟨rfl, ?_⟩
    unfold lf at h
    unfold PyData.leavesShort
    rw [List.all_eq_true] at h ⊢
    intro c hc
    have := of_decide_eq_true (h c hc)
    exact decide_eq_true (Nat.lt_of_lt_of_le this (by decide))
  | .list xs, h => by
    unfold lf at h
    obtain ⟨h1, h2⟩ := lfs_show h
    exact ⟨by unfold PyData.showable; exact h1, by unfold PyData.leavesShort; exact h2⟩
  | .tuple xs, h => by
    unfold lf at h
    obtain ⟨h1, h2⟩ := lfs_show h
    exact ⟨by unfold PyData.showable; exact h1, by unfold PyData.leavesShort; exact h2⟩
  | .dict kvs, h => by
    unfold lf at h
    cases kvs with
    | nil => exact ⟨rfl, rfl⟩
    | cons _ _ => cases h
theorem lfs_show : ∀ {ds : List PyData}, lfAll ds = true → PyData.showableAll ds = true ∧ PyData.leavesShortAll 101 ds = true
  | [], _ => ⟨rfl, rfl⟩
  | d :: ds, h => by
    unfold lfAll at h
    rw [Bool.and_eq_true] at h
    obtain ⟨a1, a2⟩ := lf_show h.1
    obtain ⟨b1, b2⟩ := lfs_show h.2
    exact ⟨by unfold PyData.showableAll; rw [a1, b1] <;> rfl, by unfold PyData.leavesShortAll; rw [a2, b2] <;> rfl⟩
end
/-- small data: its leaves, its bulk, its depth -/
structure Tame (m k : Nat) (d : PyData) : Prop where
  lf : lf d = true
  bulk : d.bulk ≤ m
  dp : d.depth ≤ k
theorem Tame.imp {m k m' k' : Nat} {d : PyData} (h : Tame m k d) (h1 : m ≤ m') (h2 : k ≤ k') : Tame m' k' d := ⟨h.lf, Nat.le_trans h.bulk h1, Nat.le_trans h.dp h2⟩
theorem tame_none {m k : Nat} : Tame m k .none := ⟨rfl, Nat.zero_le _, Nat.zero_le _⟩
theorem tame_bool {m k : Nat} {b : Bool} : Tame m k (.bool b) := ⟨rfl, Nat.zero_le _, Nat.zero_le _⟩
theorem tame_int {m k : Nat} {i : Int} (h : i.natAbs < 10 ^ 100) : Tame m k (.int i) := ⟨decide_eq_true h, Nat.zero_le _, Nat.zero_le _⟩
theorem bulkAll_le {m : Nat} : ∀ {ds : List PyData}, (∀ d ∈ ds, d.bulk ≤ m) → PyData.bulkAll ds ≤ (m + 1) * ds.length
  | [], _ => Nat.zero_le _
  | d :: ds, h => by
    have h1 := h d List.mem_cons_self
    have h2 := bulkAll_le (ds := ds) fun x hx => h x (List.mem_cons_of_mem _ hx)
    unfold PyData.bulkAll
    rw [List.length_cons, Nat.mul_add]
    omega
theorem depthAll_le {k : Nat} : ∀ {ds : List PyData}, (∀ d ∈ ds, d.depth ≤ k) → PyData.depthAll ds ≤ k
  | [], _ => Nat.zero_le _
  | d :: ds, h => by
    unfold PyData.depthAll
    exact Nat.max_le.mpr ⟨h d List.mem_cons_self, depthAll_le fun x hx => h x (List.mem_cons_of_mem _ hx)⟩
theorem tame_list {m k n : Nat} {ds : List PyData} (h : ∀ d ∈ ds, Tame m k d) (hn : (m + 1) * ds.length ≤ n) : Tame n (k + 1) (.list ds) :=
  ⟨by unfold Ev.lf; exact lfAll_iff.mpr fun d hd => (h d hd).lf, by unfold PyData.bulk; exact Nat.le_trans (bulkAll_le fun d hd => (h d hd).bulk) hn, by unfold PyData.depth; exact Nat.succ_le_succ (depthAll_le fun d hd => (h d hd).dp)⟩
theorem tame_tuple {m k n : Nat} {ds : List PyData} (h : ∀ d ∈ ds, Tame m k d) (hn : (m + 1) * ds.length ≤ n) : Tame n (k + 1) (.tuple ds) :=
  ⟨by unfold Ev.lf; exact lfAll_iff.mpr fun d hd => (h d hd).lf, by unfold PyData.bulk; exact Nat.le_trans (bulkAll_le fun d hd => (h d hd).bulk) hn, by unfold PyData.depth; exact Nat.succ_le_succ (depthAll_le fun d hd => (h d hd).dp)⟩
/-- it can be shown -/
def Rp (d : PyData) : Prop := d.showable = true ∧ d.depth ≤ 60 ∧ d.shown.length ≤ sizeLine
theorem rp_of {m k : Nat} {d : PyData} (h : Tame m k d) (hm : m ≤ 160000) (hk : k ≤ 60) : Rp d := by
  obtain ⟨h1, h2⟩ := lf_show h.lf
  refine ⟨h1, Nat.le_trans h.dp hk, ?_⟩
  have h3 := PyData.shown_le_bulk 101 (by decide) d h2
  have h4 := h.bulk
  rw [sizeLine_eq]
  omega
theorem repr_ok {v : Val} {S : Store} {d : PyData} (h : datOf S v = some d) (r : Rp d) : biV .repr [v] S = .ok (.d (.str d.shown)) S := by
  have e : biV .repr [v] S = (match datOf S v with | some x => okIf (x.showable = true ∧ x.depth ≤ 60 ∧ x.shown.length ≤ sizeLine) (.str x.shown) S | none => .stuck) := by
    cases v <;> rfl
  rw [e, h]
  exact if_pos r
end Ev
end

section
set_option Elab.async false
set_option linter.all false
set_option maxRecDepth 100000
set_option maxHeartbeats 4000000
namespace HT
open PySem PySem.Spec L2 Ev
/-! ### the defs -/
def f_is_integer : Df := ⟨1, 1, (.cons (.ret (.and (.cons (.isi (.var 0) .int) (.cons (.not (.isi (.var 0) .bool)) .nil)))) .nil), false⟩
def f_is_within : Df := ⟨3, 3, (.cons (.ret (.and (.cons (.call 0 (.cons (.var 0) .nil)) (.cons (.chn .LtE .LtE (.var 1) (.var 0) (.var 2)) .nil)))) .nil), false⟩
def f_is_tuple : Df := ⟨2, 2, (.cons (.ret (.and (.cons (.isi (.var 0) .tuple) (.cons (.cmp .Eq (.bi .len (.cons (.var 0) .nil)) (.var 1)) .nil)))) .nil), false⟩
def f_is_text : Df := ⟨1, 2, (.cons (.ife (.or (.cons (.not (.isi (.var 0) .str)) (.cons (.not (.chn .LtE .LtE (.cst (.int 1)) (.bi .len (.cons (.var 0) .nil)) (.glb 0))) .nil))) (.cons (.ret (.cst (.bool false))) .nil) .nil) (.cons (.ret (.bi .all (.cons (.lc false (.chn .LtE .LtE (.cst (.str " ")) (.var 1) (.cst (.str "~"))) [("one", 1)] (.nm 1) (.seq (.var 0)) .none) .nil))) .nil)), false⟩
def f_is_variable : Df := ⟨1, 2, (.cons (.ife (.or (.cons (.not (.call 2 (.cons (.var 0) (.cons (.cst (.int 2)) .nil)))) (.cons (.not (.call 3 (.cons (.idx (.var 0) (.cst (.int 0))) .nil))) (.cons (.not (.isi (.idx (.var 0) (.cst (.int 1))) .tuple)) (.cons (.cmp .Eq (.bi .len (.cons (.idx (.var 0) (.cst (.int 1))) .nil)) (.cst (.int 0))) .nil))))) (.cons (.ret (.cst (.bool false))) .nil) .nil) (.cons (.ret (.and (.cons (.bi .all (.cons (.lc false (.isi (.var 1) .str) [("one", 1)] (.nm 1) (.seq (.idx (.var 0) (.cst (.int 1)))) .none) .nil)) (.cons (.cmp .Eq (.bi .lenSet (.cons (.idx (.var 0) (.cst (.int 1))) .nil)) (.bi .len (.cons (.idx (.var 0) (.cst (.int 1))) .nil))) .nil)))) .nil)), false⟩
def f_are_variables : Df := ⟨1, 3, (.cons (.ife (.or (.cons (.not (.isi (.var 0) .tuple)) (.cons (.cmp .Lt (.bi .len (.cons (.var 0) .nil)) (.cst (.int 2))) (.cons (.not (.bi .all (.cons (.lc false (.call 4 (.cons (.var 1) .nil)) [("one", 1)] (.nm 1) (.seq (.var 0)) .none) .nil))) .nil)))) (.cons (.ret (.cst (.bool false))) .nil) .nil) (.cons (.asg (.nm 2) (.lc false (.idx (.var 1) (.cst (.int 0))) [("one", 1)] (.nm 1) (.seq (.var 0)) .none)) (.cons (.ret (.and (.cons (.cmp .Eq (.bi .lenSet (.cons (.var 2) .nil)) (.bi .len (.cons (.var 2) .nil))) (.cons (.cmp .Eq (.idx (.var 2) (.cst (.int 0))) (.cst (.str "room"))) (.cons (.cmp .Eq (.idx (.var 2) (.cst (.int (-1)))) (.cst (.str "ended"))) (.cons (.cmp .Eq (.idx (.idx (.idx (.var 0) (.cst (.int (-1)))) (.cst (.int 1))) (.cst (.int 0))) (.cst (.str ""))) .nil)))))) .nil))), false⟩
def f_are_values_of : Df := ⟨2, 4, (.cons (.ife (.not (.call 2 (.cons (.var 1) (.cons (.bi .len (.cons (.var 0) .nil)) .nil)))) (.cons (.ret (.cst (.bool false))) .nil) .nil) (.cons (.ret (.bi .all (.cons (.lc false (.call 1 (.cons (.var 2) (.cons (.cst (.int 0)) (.cons (.bin .Sub (.bi .len (.cons (.idx (.var 3) (.cst (.int 1))) .nil)) (.cst (.int 1))) .nil)))) [("one", 2), ("variable", 3)] (.tup [2, 3]) (.zip (.var 1) (.var 0)) .none) .nil))) .nil)), false⟩
def f_is_place_in : Df := ⟨2, 2, (.cons (.ret (.call 1 (.cons (.var 1) (.cons (.cst (.int 0)) (.cons (.bin .Sub (.bi .len (.cons (.var 0) .nil)) (.cst (.int 1))) .nil))))) .nil), false⟩
def f_is_value_in : Df := ⟨3, 3, (.cons (.ret (.and (.cons (.call 7 (.cons (.var 0) (.cons (.var 1) .nil))) (.cons (.call 1 (.cons (.var 2) (.cons (.cst (.int 0)) (.cons (.bin .Sub (.bi .len (.cons (.idx (.idx (.var 0) (.var 1)) (.cst (.int 1))) .nil)) (.cst (.int 1))) .nil)))) .nil)))) .nil), false⟩
def f_is_guard_in : Df := ⟨3, 4, (.cons (.ife (.or (.cons (.cmp .Eq (.var 2) (.cst (.int 0))) (.cons (.not (.isi (.var 1) .tuple)) (.cons (.cmp .Lt (.bi .len (.cons (.var 1) .nil)) (.cst (.int 2))) (.cons (.not (.isi (.idx (.var 1) (.cst (.int 0))) .str)) .nil))))) (.cons (.ret (.cst (.bool false))) .nil) .nil) (.cons (.ife (.cmp .Eq (.idx (.var 1) (.cst (.int 0))) (.cst (.str "is"))) (.cons (.ret (.and (.cons (.cmp .Eq (.bi .len (.cons (.var 1) .nil)) (.cst (.int 3))) (.cons (.call 8 (.cons (.var 0) (.cons (.idx (.var 1) (.cst (.int 1))) (.cons (.idx (.var 1) (.cst (.int 2))) .nil)))) .nil)))) .nil) .nil) (.cons (.ife (.cmp .Eq (.idx (.var 1) (.cst (.int 0))) (.cst (.str "same"))) (.cons (.ret (.and (.cons (.cmp .Eq (.bi .len (.cons (.var 1) .nil)) (.cst (.int 3))) (.cons (.call 7 (.cons (.var 0) (.cons (.idx (.var 1) (.cst (.int 1))) .nil))) (.cons (.call 7 (.cons (.var 0) (.cons (.idx (.var 1) (.cst (.int 2))) .nil))) .nil))))) .nil) .nil) (.cons (.ife (.cmp .NotEq (.bi .len (.cons (.var 1) .nil)) (.cst (.int 2))) (.cons (.ret (.cst (.bool false))) .nil) .nil) (.cons (.ife (.cmp .Eq (.idx (.var 1) (.cst (.int 0))) (.cst (.str "not"))) (.cons (.ret (.call 9 (.cons (.var 0) (.cons (.idx (.var 1) (.cst (.int 1))) (.cons (.bin .Sub (.var 2) (.cst (.int 1))) .nil))))) .nil) .nil) (.cons (.ife (.or (.cons (.cmp .NotIn (.idx (.var 1) (.cst (.int 0))) (.tup (.cons (.cst (.str "all")) (.cons (.cst (.str "any")) .nil)))) (.cons (.not (.isi (.idx (.var 1) (.cst (.int 1))) .tuple)) .nil))) (.cons (.ret (.cst (.bool false))) .nil) .nil) (.cons (.ret (.bi .all (.cons (.lc false (.call 9 (.cons (.var 0) (.cons (.var 3) (.cons (.bin .Sub (.var 2) (.cst (.int 1))) .nil)))) [("one", 3)] (.nm 3) (.seq (.idx (.var 1) (.cst (.int 1)))) .none) .nil))) .nil))))))), false⟩
def f_is_act_in : Df := ⟨2, 2, (.cons (.ife (.or (.cons (.not (.call 2 (.cons (.var 1) (.cons (.cst (.int 3)) .nil)))) (.cons (.not (.isi (.idx (.var 1) (.cst (.int 0))) .str)) .nil))) (.cons (.ret (.cst (.bool false))) .nil) .nil) (.cons (.ife (.cmp .Eq (.idx (.var 1) (.cst (.int 0))) (.cst (.str "set"))) (.cons (.ret (.call 8 (.cons (.var 0) (.cons (.idx (.var 1) (.cst (.int 1))) (.cons (.idx (.var 1) (.cst (.int 2))) .nil))))) .nil) .nil) (.cons (.ife (.or (.cons (.cmp .NotEq (.idx (.var 1) (.cst (.int 0))) (.cst (.str "copy"))) (.cons (.not (.call 7 (.cons (.var 0) (.cons (.idx (.var 1) (.cst (.int 1))) .nil)))) (.cons (.not (.call 7 (.cons (.var 0) (.cons (.idx (.var 1) (.cst (.int 2))) .nil)))) .nil)))) (.cons (.ret (.cst (.bool false))) .nil) .nil) (.cons (.ret (.cmp .LtE (.bi .len (.cons (.idx (.idx (.var 0) (.idx (.var 1) (.cst (.int 2)))) (.cst (.int 1))) .nil)) (.bi .len (.cons (.idx (.idx (.var 0) (.idx (.var 1) (.cst (.int 1)))) (.cst (.int 1))) .nil)))) .nil)))), false⟩
def f_is_say : Df := ⟨1, 1, (.cons (.ife (.or (.cons (.not (.isi (.var 0) .tuple)) (.cons (.cmp .Eq (.bi .len (.cons (.var 0) .nil)) (.cst (.int 0))) (.cons (.not (.isi (.idx (.var 0) (.cst (.int 0))) .str)) .nil)))) (.cons (.ret (.cst (.bool false))) .nil) .nil) (.cons (.ife (.cmp .Eq (.idx (.var 0) (.cst (.int 0))) (.cst (.str "words"))) (.cons (.ret (.and (.cons (.cmp .Eq (.bi .len (.cons (.var 0) .nil)) (.cst (.int 2))) (.cons (.call 3 (.cons (.idx (.var 0) (.cst (.int 1))) .nil)) .nil)))) .nil) .nil) (.cons (.ret (.and (.cons (.cmp .In (.idx (.var 0) (.cst (.int 0))) (.tup (.cons (.cst (.str "look")) (.cons (.cst (.str "held")) .nil)))) (.cons (.cmp .Eq (.bi .len (.cons (.var 0) .nil)) (.cst (.int 1))) .nil)))) .nil))), false⟩
def f_are_doings : Df := ⟨4, 5, (.cons (.ife (.or (.cons (.not (.call 9 (.cons (.var 0) (.cons (.var 1) (.cons (.glb 1) .nil))))) (.cons (.not (.isi (.var 2) .tuple)) (.cons (.not (.isi (.var 3) .tuple)) .nil)))) (.cons (.ret (.cst (.bool false))) .nil) .nil) (.cons (.ret (.and (.cons (.bi .all (.cons (.lc false (.call 10 (.cons (.var 0) (.cons (.var 4) .nil))) [("one", 4)] (.nm 4) (.seq (.var 2)) .none) .nil)) (.cons (.bi .all (.cons (.lc false (.call 11 (.cons (.var 4) .nil)) [("one", 4)] (.nm 4) (.seq (.var 3)) .none) .nil)) .nil)))) .nil)), false⟩
def f_is_table_in : Df := ⟨2, 3, (.cons (.ife (.or (.cons (.not (.isi (.var 1) .tuple)) (.cons (.cmp .Eq (.bi .len (.cons (.var 1) .nil)) (.cst (.int 0))) (.cons (.not (.bi .all (.cons (.lc false (.call 2 (.cons (.var 2) (.cons (.cst (.int 4)) .nil))) [("one", 2)] (.nm 2) (.seq (.var 1)) .none) .nil))) .nil)))) (.cons (.ret (.cst (.bool false))) .nil) .nil) (.cons (.ife (.not (.bi .all (.cons (.lc false (.and (.cons (.call 1 (.cons (.idx (.var 2) (.cst (.int 3))) (.cons (.cst (.int 0)) (.cons (.cst (.int 1)) .nil)))) (.cons (.call 12 (.cons (.var 0) (.cons (.idx (.var 2) (.cst (.int 0))) (.cons (.idx (.var 2) (.cst (.int 1))) (.cons (.idx (.var 2) (.cst (.int 2))) .nil))))) .nil))) [("one", 2)] (.nm 2) (.seq (.var 1)) .none) .nil))) (.cons (.ret (.cst (.bool false))) .nil) .nil) (.cons (.ret (.cmp .Eq (.idx (.idx (.var 1) (.cst (.int (-1)))) (.cst (.int 0))) (.tup (.cons (.cst (.str "all")) (.cons (.tup .nil) .nil))))) .nil))), false⟩
def f_is_group_in : Df := ⟨2, 3, (.cons (.ife (.or (.cons (.not (.isi (.var 1) .tuple)) (.cons (.not (.bi .all (.cons (.lc false (.call 2 (.cons (.var 2) (.cons (.cst (.int 3)) .nil))) [("one", 2)] (.nm 2) (.seq (.var 1)) .none) .nil))) .nil))) (.cons (.ret (.cst (.bool false))) .nil) .nil) (.cons (.ret (.bi .all (.cons (.lc false (.call 12 (.cons (.var 0) (.cons (.idx (.var 2) (.cst (.int 0))) (.cons (.idx (.var 2) (.cst (.int 1))) (.cons (.idx (.var 2) (.cst (.int 2))) .nil))))) [("one", 2)] (.nm 2) (.seq (.var 1)) .none) .nil))) .nil)), false⟩
def f_is_ending_in : Df := ⟨2, 2, (.cons (.ife (.or (.cons (.not (.call 2 (.cons (.var 1) (.cons (.cst (.int 3)) .nil)))) (.cons (.not (.call 1 (.cons (.idx (.var 1) (.cst (.int 0))) (.cons (.cst (.int 1)) (.cons (.bin .Sub (.bi .len (.cons (.idx (.idx (.var 0) (.cst (.int (-1)))) (.cst (.int 1))) .nil)) (.cst (.int 1))) .nil))))) .nil))) (.cons (.ret (.cst (.bool false))) .nil) .nil) (.cons (.ret (.call 12 (.cons (.var 0) (.cons (.idx (.var 1) (.cst (.int 1))) (.cons (.tup .nil) (.cons (.idx (.var 1) (.cst (.int 2))) .nil)))))) .nil)), false⟩
def f_is_door_way : Df := ⟨2, 2, (.cons (.ife (.or (.cons (.not (.call 2 (.cons (.var 1) (.cons (.cst (.int 2)) .nil)))) (.cons (.not (.isi (.idx (.var 1) (.cst (.int 0))) .str)) (.cons (.cmp .NotIn (.idx (.var 1) (.cst (.int 0))) (.glb 2)) .nil)))) (.cons (.ret (.cst (.bool false))) .nil) .nil) (.cons (.ret (.or (.cons (.cmp .Is (.idx (.var 1) (.cst (.int 1))) (.cst .none)) (.cons (.call 7 (.cons (.var 0) (.cons (.idx (.var 1) (.cst (.int 1))) .nil))) .nil)))) .nil)), false⟩
def f_is_shown_in : Df := ⟨2, 4, (.cons (.asg (.nm 2) (.bi .len (.cons (.idx (.idx (.var 0) (.cst (.int 0))) (.cst (.int 1))) .nil))) (.cons (.ife (.or (.cons (.not (.isi (.var 1) .tuple)) (.cons (.cmp .Lt (.bi .len (.cons (.var 1) .nil)) (.cst (.int 3))) (.cons (.not (.isi (.idx (.var 1) (.cst (.int 0))) .str)) (.cons (.not (.call 3 (.cons (.idx (.var 1) (.cst (.int 1))) .nil))) .nil))))) (.cons (.ret (.cst (.bool false))) .nil) .nil) (.cons (.ife (.cmp .Eq (.idx (.var 1) (.cst (.int 0))) (.cst (.str "thing"))) (.cons (.ret (.and (.cons (.cmp .Eq (.bi .len (.cons (.var 1) .nil)) (.cst (.int 3))) (.cons (.call 7 (.cons (.var 0) (.cons (.idx (.var 1) (.cst (.int 2))) .nil))) (.cons (.cmp .Gt (.bi .len (.cons (.idx (.idx (.var 0) (.idx (.var 1) (.cst (.int 2)))) (.cst (.int 1))) .nil)) (.var 2)) .nil))))) .nil) .nil) (.cons (.ife (.cmp .Eq (.idx (.var 1) (.cst (.int 0))) (.cst (.str "fixed"))) (.cons (.ret (.and (.cons (.cmp .Eq (.bi .len (.cons (.var 1) .nil)) (.cst (.int 3))) (.cons (.call 1 (.cons (.idx (.var 1) (.cst (.int 2))) (.cons (.cst (.int 0)) (.cons (.bin .Sub (.var 2) (.cst (.int 1))) .nil)))) .nil)))) .nil) .nil) (.cons (.ife (.cmp .Eq (.idx (.var 1) (.cst (.int 0))) (.cst (.str "box"))) (.cons (.ife (.or (.cons (.cmp .NotEq (.bi .len (.cons (.var 1) .nil)) (.cst (.int 5))) (.cons (.not (.call 1 (.cons (.idx (.var 1) (.cst (.int 2))) (.cons (.cst (.int 0)) (.cons (.bin .Sub (.var 2) (.cst (.int 1))) .nil))))) (.cons (.not (.call 7 (.cons (.var 0) (.cons (.idx (.var 1) (.cst (.int 3))) .nil)))) .nil)))) (.cons (.ret (.cst (.bool false))) .nil) .nil) (.cons (.ret (.and (.cons (.call 0 (.cons (.idx (.var 1) (.cst (.int 4))) .nil)) (.cons (.cmp .Gt (.idx (.var 1) (.cst (.int 4))) (.var 2)) .nil)))) .nil)) .nil) (.cons (.ife (.or (.cons (.cmp .NotEq (.idx (.var 1) (.cst (.int 0))) (.cst (.str "folk"))) (.cons (.cmp .NotEq (.bi .len (.cons (.var 1) .nil)) (.cst (.int 4))) (.cons (.not (.call 7 (.cons (.var 0) (.cons (.idx (.var 1) (.cst (.int 2))) .nil)))) .nil)))) (.cons (.ret (.cst (.bool false))) .nil) .nil) (.cons (.ife (.or (.cons (.not (.isi (.idx (.var 1) (.cst (.int 3))) .tuple)) (.cons (.cmp .NotEq (.bi .len (.cons (.idx (.var 1) (.cst (.int 3))) .nil)) (.bi .len (.cons (.idx (.idx (.var 0) (.idx (.var 1) (.cst (.int 2)))) (.cst (.int 1))) .nil))) .nil))) (.cons (.ret (.cst (.bool false))) .nil) .nil) (.cons (.ret (.bi .all (.cons (.lc false (.call 1 (.cons (.var 3) (.cons (.cst (.int 0)) (.cons (.bin .Sub (.var 2) (.cst (.int 1))) .nil)))) [("one", 3)] (.nm 3) (.seq (.idx (.var 1) (.cst (.int 3)))) .none) .nil))) .nil)))))))), false⟩
def f_are_views : Df := ⟨2, 5, (.cons (.asg (.nm 2) (.bi .len (.cons (.idx (.idx (.var 0) (.cst (.int 0))) (.cst (.int 1))) .nil))) (.cons (.ife (.or (.cons (.not (.call 2 (.cons (.var 1) (.cons (.cst (.int 3)) .nil)))) (.cons (.not (.call 2 (.cons (.idx (.var 1) (.cst (.int 0))) (.cons (.var 2) .nil)))) (.cons (.not (.call 2 (.cons (.idx (.var 1) (.cst (.int 1))) (.cons (.var 2) .nil)))) .nil)))) (.cons (.ret (.cst (.bool false))) .nil) .nil) (.cons (.ife (.or (.cons (.not (.bi .all (.cons (.lc false (.call 3 (.cons (.var 3) .nil)) [("one", 3)] (.nm 3) (.seq (.idx (.var 1) (.cst (.int 0)))) .none) .nil))) (.cons (.not (.bi .all (.cons (.lc false (.isi (.var 3) .tuple) [("one", 3)] (.nm 3) (.seq (.idx (.var 1) (.cst (.int 1)))) .none) .nil))) .nil))) (.cons (.ret (.cst (.bool false))) .nil) .nil) (.cons (.ife (.not (.bi .all (.cons (.lc false (.bi .all (.cons (.lc false (.call 16 (.cons (.var 0) (.cons (.var 4) .nil))) [("way", 4)] (.nm 4) (.seq (.var 3)) .none) .nil)) [("one", 3)] (.nm 3) (.seq (.idx (.var 1) (.cst (.int 1)))) .none) .nil))) (.cons (.ret (.cst (.bool false))) .nil) .nil) (.cons (.ret (.and (.cons (.isi (.idx (.var 1) (.cst (.int 2))) .tuple) (.cons (.bi .all (.cons (.lc false (.call 17 (.cons (.var 0) (.cons (.var 3) .nil))) [("one", 3)] (.nm 3) (.seq (.idx (.var 1) (.cst (.int 2)))) .none) .nil)) .nil)))) .nil))))), false⟩
def f_is_middle_value : Df := ⟨1, 3, (.cons (.ife (.or (.cons (.not (.call 2 (.cons (.var 0) (.cons (.cst (.int 6)) .nil)))) (.cons (.not (.call 5 (.cons (.idx (.var 0) (.cst (.int 0))) .nil))) (.cons (.not (.call 6 (.cons (.idx (.var 0) (.cst (.int 0))) (.cons (.idx (.var 0) (.cst (.int 1))) .nil)))) .nil)))) (.cons (.ret (.cst (.bool false))) .nil) .nil) (.cons (.ife (.not (.bi .all (.cons (.lc false (.isi (.var 1) .tuple) [("one", 1)] (.nm 1) (.seq (.sli (.var 0) (.some (.cst (.int 2))) (.some (.cst (.int 5))))) .none) .nil))) (.cons (.ret (.cst (.bool false))) .nil) .nil) (.cons (.asg (.nm 2) (.idx (.var 0) (.cst (.int 0)))) (.cons (.ife (.not (.bi .all (.cons (.lc false (.call 13 (.cons (.var 2) (.cons (.var 1) .nil))) [("one", 1)] (.nm 1) (.seq (.idx (.var 0) (.cst (.int 2)))) .none) .nil))) (.cons (.ret (.cst (.bool false))) .nil) .nil) (.cons (.ife (.not (.bi .all (.cons (.lc false (.call 14 (.cons (.var 2) (.cons (.var 1) .nil))) [("one", 1)] (.nm 1) (.seq (.idx (.var 0) (.cst (.int 3)))) .none) .nil))) (.cons (.ret (.cst (.bool false))) .nil) .nil) (.cons (.ret (.and (.cons (.bi .all (.cons (.lc false (.call 15 (.cons (.var 2) (.cons (.var 1) .nil))) [("one", 1)] (.nm 1) (.seq (.idx (.var 0) (.cst (.int 4)))) .none) .nil)) (.cons (.call 18 (.cons (.var 2) (.cons (.idx (.var 0) (.cst (.int 5))) .nil))) .nil)))) .nil)))))), false⟩
def f_want_middle : Df := ⟨1, 1, (.cons (.ife (.not (.call 19 (.cons (.var 0) .nil))) (.cons .never .nil) .nil) .nil), false⟩
def f_want_values : Df := ⟨2, 2, (.cons (.ife (.not (.call 6 (.cons (.idx (.var 0) (.cst (.int 0))) (.cons (.var 1) .nil)))) (.cons .never .nil) .nil) .nil), false⟩
def f_is_sizes_value : Df := ⟨1, 2, (.cons (.ret (.and (.cons (.isi (.var 0) .tuple) (.cons (.cmp .Gt (.bi .len (.cons (.var 0) .nil)) (.cst (.int 0))) (.cons (.bi .all (.cons (.lc false (.and (.cons (.call 0 (.cons (.var 1) .nil)) (.cons (.cmp .GtE (.var 1) (.cst (.int 1))) .nil))) [("one", 1)] (.nm 1) (.seq (.var 0)) .none) .nil)) .nil))))) .nil), false⟩
def f_are_values : Df := ⟨2, 4, (.cons (.ife (.or (.cons (.not (.isi (.var 1) .tuple)) (.cons (.cmp .NotEq (.bi .len (.cons (.var 1) .nil)) (.bi .len (.cons (.var 0) .nil))) .nil))) (.cons (.ret (.cst (.bool false))) .nil) .nil) (.cons (.ret (.bi .all (.cons (.lc false (.call 1 (.cons (.var 2) (.cons (.cst (.int 0)) (.cons (.bin .Sub (.var 3) (.cst (.int 1))) .nil)))) [("one", 2), ("size", 3)] (.tup [2, 3]) (.zip (.var 1) (.var 0)) .none) .nil))) .nil)), false⟩
def f_sizes_by : Df := ⟨1, 2, (.cons (.ret (.bi .tuple (.cons (.lc false (.bi .len (.cons (.idx (.var 1) (.cst (.int 1))) .nil)) [("variable", 1)] (.nm 1) (.seq (.idx (.var 0) (.cst (.int 0)))) .none) .nil))) .nil), false⟩
def f_weights_by : Df := ⟨1, 3, (.cons (.asg (.nm 1) (.lst true (.cons (.cst (.int 1)) .nil))) (.cons (.for_ (.nm 2) (.seq (.rev true (.var 0))) (.cons (.expr (.meth .append (.var 1) (.cons (.bin .Mult (.idx (.var 1) (.cst (.int (-1)))) (.var 2)) .nil))) .nil)) (.cons (.ret (.bi .tuple (.cons (.rev false (.var 1)) .nil))) .nil))), false⟩
def f_product_of : Df := ⟨1, 3, (.cons (.asg (.nm 1) (.cst (.int 1))) (.cons (.for_ (.nm 2) (.seq (.var 0)) (.cons (.asg (.nm 1) (.bin .Mult (.var 1) (.var 2))) .nil)) (.cons (.ret (.var 1)) .nil))), false⟩
def f_number_by : Df := ⟨2, 5, (.cons (.asg (.nm 2) (.cst (.int 0))) (.cons (.for_ (.tup [3, 4]) (.zip (.var 0) (.var 1)) (.cons (.asg (.nm 2) (.bin .Add (.bin .Mult (.var 2) (.var 3)) (.var 4))) .nil)) (.cons (.ret (.var 2)) .nil))), false⟩
def f_values_by_number : Df := ⟨2, 5, (.cons (.par [2, 3] (.cons (.lst true .nil) (.cons (.var 1) .nil))) (.cons (.for_ (.nm 4) (.seq (.rev false (.var 0))) (.cons (.expr (.meth .append (.var 2) (.cons (.bin .Mod (.var 3) (.var 4)) .nil))) (.cons (.asg (.nm 3) (.bin .FloorDiv (.var 3) (.var 4))) .nil))) (.cons (.ret (.bi .tuple (.cons (.rev false (.var 2)) .nil))) .nil))), false⟩
def f_want_sizes : Df := ⟨1, 1, (.cons (.ife (.not (.call 22 (.cons (.var 0) .nil))) (.cons .never .nil) .nil) .nil), false⟩
def f_want_number : Df := ⟨2, 2, (.cons (.ife (.not (.call 1 (.cons (.var 1) (.cons (.cst (.int 0)) (.cons (.bin .Sub (.call 26 (.cons (.var 0) .nil)) (.cst (.int 1))) .nil))))) (.cons .never .nil) .nil) .nil), false⟩
def f_is_sizes : Df := ⟨1, 1, (.cons (.ret (.call 22 (.cons (.var 0) .nil))) .nil), false⟩
def f_sizes_of : Df := ⟨1, 1, (.cons (.expr (.call 20 (.cons (.var 0) .nil))) (.cons (.ret (.call 24 (.cons (.var 0) .nil))) .nil)), false⟩
def f_how_many : Df := ⟨1, 1, (.cons (.expr (.call 29 (.cons (.var 0) .nil))) (.cons (.ret (.call 26 (.cons (.var 0) .nil))) .nil)), false⟩
def f_weights : Df := ⟨1, 1, (.cons (.expr (.call 29 (.cons (.var 0) .nil))) (.cons (.ret (.call 25 (.cons (.var 0) .nil))) .nil)), false⟩
def f_number_of : Df := ⟨2, 2, (.cons (.expr (.call 29 (.cons (.var 0) .nil))) (.cons (.ife (.not (.call 23 (.cons (.var 0) (.cons (.var 1) .nil)))) (.cons .never .nil) .nil) (.cons (.ret (.call 27 (.cons (.var 0) (.cons (.var 1) .nil)))) .nil))), false⟩
def f_values_at : Df := ⟨2, 2, (.cons (.expr (.call 29 (.cons (.var 0) .nil))) (.cons (.expr (.call 30 (.cons (.var 0) (.cons (.var 1) .nil)))) (.cons (.ret (.call 28 (.cons (.var 0) (.cons (.var 1) .nil)))) .nil))), false⟩
def f_pack : Df := ⟨2, 2, (.cons (.expr (.call 20 (.cons (.var 0) .nil))) (.cons (.expr (.call 21 (.cons (.var 0) (.cons (.var 1) .nil)))) (.cons (.ret (.call 27 (.cons (.call 24 (.cons (.var 0) .nil)) (.cons (.var 1) .nil)))) .nil))), false⟩
def f_unpack : Df := ⟨2, 2, (.cons (.expr (.call 20 (.cons (.var 0) .nil))) (.cons (.expr (.call 30 (.cons (.call 24 (.cons (.var 0) .nil)) (.cons (.var 1) .nil)))) (.cons (.ret (.call 28 (.cons (.call 24 (.cons (.var 0) .nil)) (.cons (.var 1) .nil)))) .nil))), false⟩
def f_law_pot : Df := ⟨2, 3, (.cons (.asg (.nm 2) (.ife (.cmp .Lt (.var 1) (.bi .len (.cons (.var 0) .nil))) (.bi .abs (.cons (.idx (.var 0) (.var 1)) .nil)) (.bin .Add (.bin .Add (.bin .Mult (.cst (.int 5437)) (.var 1)) (.cst (.int 2203))) (.bin .Mod (.bi .int (.cons (.bi .abs (.cons (.bi .sum (.cons (.sli (.var 0) .none (.some (.cst (.int 1)))) .nil)) .nil)) .nil)) (.cst (.int 1000003)))))) (.cons (.ret (.lst true (.cons (.bi .max2 (.cons (.cst (.int 0)) (.cons (.bin .Sub (.var 2) (.bin .Pow (.cst (.int 10)) (.cst (.int 18)))) .nil))) (.cons (.bin .Add (.bin .Mod (.bi .int (.cons (.bin .Add (.bin .Add (.bin .Mult (.bin .Mod (.bi .int (.cons (.var 2) .nil)) (.cst (.int 2147483549))) (.cst (.int 41843))) (.bin .Mult (.cst (.int 11927)) (.var 1))) (.cst (.int 307))) .nil)) (.cst (.int 2147483563))) (.cst (.int 1))) .nil)))) .nil)), true⟩
def f_law_draw : Df := ⟨2, 3, (.cons (.ife (.cmp .Gt (.idx (.var 0) (.cst (.int 0))) (.cst (.int 0))) (.cons (.unp [.sub (.var 0) (.cst (.int 0)), .nm 2] (.bi .divmod (.cons (.idx (.var 0) (.cst (.int 0))) (.cons (.var 1) .nil)))) (.cons (.ret (.var 2)) .nil)) .nil) (.cons (.seti (.var 0) (.cst (.int 1)) (.bin .Mod (.bi .int (.cons (.bin .Add (.bin .Mult (.idx (.var 0) (.cst (.int 1))) (.cst (.int 39373))) (.cst (.int 10601))) .nil)) (.cst (.int 2147483587)))) (.cons (.ret (.bin .Mod (.bi .int (.cons (.bin .FloorDiv (.bin .Mod (.bi .int (.cons (.bin .Mult (.idx (.var 0) (.cst (.int 1))) (.idx (.var 0) (.cst (.int 1)))) .nil)) (.cst (.int 2147483549))) (.cst (.int 31))) .nil)) (.var 1))) .nil))), false⟩
def f_law_pick : Df := ⟨2, 2, (.cons (.ret (.idx (.var 1) (.call 40 (.cons (.var 0) (.cons (.bi .len (.cons (.var 1) .nil)) .nil))))) .nil), false⟩
def f_law_product : Df := ⟨1, 3, (.cons (.asg (.nm 1) (.cst (.int 1))) (.cons (.for_ (.nm 2) (.seq (.var 0)) (.cons (.asg (.nm 1) (.bin .Mult (.var 1) (.var 2))) .nil)) (.cons (.ret (.var 1)) .nil))), false⟩
def f_law_number : Df := ⟨2, 4, (.cons (.ret (.bi .sum (.cons (.lc false (.bin .Mult (.var 3) (.call 42 (.cons (.sli (.var 0) (.some (.bin .Add (.var 2) (.cst (.int 1)))) .none) .nil))) [("at", 2), ("value", 3)] (.tup [2, 3]) (.enum (.var 1)) .none) .nil))) .nil), false⟩
def f_law_behind : Df := ⟨2, 4, (.cons (.asg (.nm 2) (.bi .listM (.cons (.var 1) .nil))) (.cons (.for_ (.nm 3) (.rng3 (.bin .Sub (.bi .len (.cons (.var 0) .nil)) (.cst (.int 1))) (.cst (.int (-1))) (.cst (.int (-1)))) (.cons (.ife (.cmp .Lt (.bin .Add (.idx (.var 2) (.var 3)) (.cst (.int 1))) (.idx (.var 0) (.var 3))) (.cons (.seti (.var 2) (.var 3) (.bin .Add (.idx (.var 2) (.var 3)) (.cst (.int 1)))) (.cons (.ret (.bi .tuple (.cons (.var 2) .nil))) .nil)) .nil) (.cons (.seti (.var 2) (.var 3) (.cst (.int 0))) .nil))) (.cons (.ret (.cst .none)) .nil))), false⟩
def f_law_sizes : Df := ⟨1, 3, (.cons (.asg (.nm 1) (.call 41 (.cons (.var 0) (.cons (.lst false (.cons (.cst (.int 3)) (.cons (.cst (.int 8)) (.cons (.cst (.int 22)) .nil)))) .nil)))) (.cons (.ret (.bi .tuple (.cons (.lc false (.call 41 (.cons (.var 0) (.cons (.lst false (.cons (.cst (.int 1)) (.cons (.cst (.int 2)) (.cons (.cst (.int 2)) (.cons (.cst (.int 3)) (.cons (.cst (.int 5)) (.cons (.bin .Add (.cst (.int 1)) (.call 40 (.cons (.var 0) (.cons (.cst (.int 20)) .nil)))) .nil))))))) .nil))) [("turn", 2)] (.nm 2) (.rng1 (.bin .Add (.cst (.int 2)) (.call 40 (.cons (.var 0) (.cons (.bin .Sub (.var 1) (.cst (.int 1))) .nil))))) .none) .nil))) .nil)), false⟩
def f_law_values : Df := ⟨2, 4, (.cons (.asg (.nm 2) (.call 40 (.cons (.var 0) (.cons (.cst (.int 6)) .nil)))) (.cons (.ife (.cmp .Eq (.var 2) (.cst (.int 0))) (.cons (.ret (.bin .Mult (.tup (.cons (.cst (.int 0)) .nil)) (.bi .len (.cons (.var 1) .nil)))) .nil) .nil) (.cons (.ife (.cmp .Eq (.var 2) (.cst (.int 1))) (.cons (.ret (.bi .tuple (.cons (.lc false (.bin .Sub (.var 3) (.cst (.int 1))) [("size", 3)] (.nm 3) (.seq (.var 1)) .none) .nil))) .nil) .nil) (.cons (.ret (.bi .tuple (.cons (.lc false (.call 41 (.cons (.var 0) (.cons (.lst false (.cons (.cst (.int 0)) (.cons (.bin .Sub (.var 3) (.cst (.int 1))) (.cons (.call 40 (.cons (.var 0) (.cons (.var 3) .nil))) (.cons (.call 40 (.cons (.var 0) (.cons (.var 3) .nil))) .nil))))) .nil))) [("size", 3)] (.nm 3) (.seq (.var 1)) .none) .nil))) .nil)))), false⟩
def f_law_middle : Df := ⟨2, 6, (.cons (.asg (.nm 2) (.lst true (.cons (.tup (.cons (.cst (.str "room")) (.cons (.bi .tuple (.cons (.lc false (.bin .Add (.cst (.str "r")) (.bi .strI (.cons (.var 3) .nil))) [("at", 3)] (.nm 3) (.rng1 (.idx (.var 1) (.cst (.int 0)))) .none) .nil)) .nil))) .nil))) (.cons (.for_ (.nm 4) (.rng2 (.cst (.int 1)) (.bin .Sub (.bi .len (.cons (.var 1) .nil)) (.cst (.int 1)))) (.cons (.expr (.meth .append (.var 2) (.cons (.tup (.cons (.bin .Add (.cst (.str "v")) (.bi .strI (.cons (.var 4) .nil))) (.cons (.bi .tuple (.cons (.lc false (.bi .strI (.cons (.var 3) .nil)) [("at", 3)] (.nm 3) (.rng1 (.idx (.var 1) (.var 4))) .none) .nil)) .nil))) .nil))) .nil)) (.cons (.expr (.meth .append (.var 2) (.cons (.tup (.cons (.cst (.str "ended")) (.cons (.bi .tuple (.cons (.sli (.lst false (.cons (.cst (.str "")) (.cons (.cst (.str "a")) (.cons (.cst (.str "b")) (.cons (.cst (.str "c")) (.cons (.cst (.str "d")) (.cons (.cst (.str "e")) (.cons (.cst (.str "f")) (.cons (.cst (.str "g")) (.cons (.cst (.str "h")) (.cons (.cst (.str "i")) (.cons (.cst (.str "j")) (.cons (.cst (.str "k")) (.cons (.cst (.str "l")) (.cons (.cst (.str "m")) (.cons (.cst (.str "n")) (.cons (.cst (.str "o")) (.cons (.cst (.str "p")) (.cons (.cst (.str "q")) (.cons (.cst (.str "r")) (.cons (.cst (.str "s")) .nil))))))))))))))))))))) .none (.some (.idx (.var 1) (.cst (.int (-1)))))) .nil)) .nil))) .nil))) (.cons (.asg (.nm 5) (.tup (.cons (.bin .Mult (.tup (.cons (.cst (.str "A room.")) .nil)) (.idx (.var 1) (.cst (.int 0)))) (.cons (.bin .Mult (.tup (.cons (.tup .nil) .nil)) (.idx (.var 1) (.cst (.int 0)))) (.cons (.tup .nil) .nil))))) (.cons (.ret (.tup (.cons (.bi .tuple (.cons (.var 2) .nil)) (.cons (.call 46 (.cons (.var 0) (.cons (.var 1) .nil))) (.cons (.tup .nil) (.cons (.tup .nil) (.cons (.tup .nil) (.cons (.var 5) .nil)))))))) .nil))))), false⟩
def f_law_small_right : Df := ⟨1, 5, (.cons (.asg (.nm 1) (.bi .tuple (.cons (.lc false (.call 41 (.cons (.var 0) (.cons (.lst false (.cons (.cst (.int 1)) (.cons (.cst (.int 2)) (.cons (.cst (.int 3)) (.cons (.cst (.int 4)) .nil))))) .nil))) [("turn", 2)] (.nm 2) (.rng1 (.bin .Add (.cst (.int 1)) (.call 40 (.cons (.var 0) (.cons (.cst (.int 4)) .nil))))) .none) .nil))) (.cons (.asg (.nm 3) (.bin .Mult (.tup (.cons (.cst (.int 0)) .nil)) (.bi .len (.cons (.var 1) .nil)))) (.cons (.for_ (.nm 4) (.rng1 (.call 42 (.cons (.var 1) .nil))) (.cons (.ife (.cmp .NotEq (.bi .repr (.cons (.lst false (.cons (.call 36 (.cons (.var 1) (.cons (.var 4) .nil))) (.cons (.call 35 (.cons (.var 1) (.cons (.var 3) .nil))) .nil))) .nil)) (.bi .repr (.cons (.lst false (.cons (.var 3) (.cons (.var 4) .nil))) .nil))) (.cons (.ret (.cst (.bool false))) .nil) .nil) (.cons (.asg (.nm 3) (.call 44 (.cons (.var 1) (.cons (.var 3) .nil)))) .nil))) (.cons (.ret (.cmp .Is (.var 3) (.cst .none))) .nil)))), false⟩
def f_law_any_right : Df := ⟨2, 8, (.cons (.asg (.nm 2) (.bi .listM (.cons (.var 1) .nil))) (.cons (.seti (.var 2) (.call 40 (.cons (.var 0) (.cons (.bi .len (.cons (.var 2) .nil)) .nil))) (.call 41 (.cons (.var 0) (.cons (.lst false (.cons (.cst (.int 0)) (.cons (.cst (.int (-1))) (.cons (.cst (.bool true)) (.cons (.cst .none) (.cons (.cst (.str "2")) (.cons (.tup (.cons (.cst (.int 2)) .nil)) (.cons (.bin .Pow (.cst (.int 10)) (.cst (.int 20))) .nil)))))))) .nil)))) (.cons (.asg (.nm 3) (.lst true (.cons (.tup (.cons (.var 1) (.cons (.cst (.bool true)) .nil))) (.cons (.tup (.cons (.bi .list (.cons (.var 1) .nil)) (.cons (.cst (.bool false)) .nil))) (.cons (.tup (.cons (.tup .nil) (.cons (.cst (.bool false)) .nil))) (.cons (.tup (.cons (.cst .none) (.cons (.cst (.bool false)) .nil))) (.cons (.tup (.cons (.cst (.int 2)) (.cons (.cst (.bool false)) .nil))) (.cons (.tup (.cons (.cst (.str "2")) (.cons (.cst (.bool false)) .nil))) (.cons (.tup (.cons (.cst (.dict [])) (.cons (.cst (.bool false)) .nil))) (.cons (.tup (.cons (.tup (.cons (.cst (.int 1)) .nil)) (.cons (.cst (.bool true)) .nil))) (.cons (.tup (.cons (.tup (.cons (.cst (.int 0)) .nil)) (.cons (.cst (.bool false)) .nil))) .nil))))))))))) (.cons (.expr (.meth .append (.var 3) (.cons (.tup (.cons (.bi .tuple (.cons (.var 2) .nil)) (.cons (.bi .all (.cons (.lc false (.and (.cons (.isi (.var 4) .int) (.cons (.not (.isi (.var 4) .bool)) (.cons (.cmp .Gt (.var 4) (.cst (.int 0))) .nil)))) [("one", 4)] (.nm 4) (.seq (.var 2)) .none) .nil)) .nil))) .nil))) (.cons (.for_ (.tup [5, 6]) (.seq (.var 3)) (.cons (.asg (.nm 7) (.bi .repr (.cons (.var 5) .nil))) (.cons (.ife (.or (.cons (.cmp .NotEq (.bi .repr (.cons (.lst false (.cons (.call 31 (.cons (.var 5) .nil)) (.cons (.kall 31 [0] .nil (.cons (.var 5) .nil)) .nil))) .nil)) (.bi .repr (.cons (.lst false (.cons (.var 6) (.cons (.var 6) .nil))) .nil))) (.cons (.cmp .NotEq (.bi .repr (.cons (.var 5) .nil)) (.var 7)) .nil))) (.cons (.ret (.cst (.bool false))) .nil) .nil) .nil))) (.cons (.ret (.cst (.bool true))) .nil)))))), false⟩
def f_law_right : Df := ⟨1, 13, (.cons (.asg (.nm 1) (.call 45 (.cons (.var 0) .nil))) (.cons (.par [2, 3, 4] (.cons (.call 46 (.cons (.var 0) (.cons (.var 1) .nil))) (.cons (.call 46 (.cons (.var 0) (.cons (.var 1) .nil))) (.cons (.call 42 (.cons (.var 1) .nil)) .nil)))) (.cons (.par [5, 6] (.cons (.call 43 (.cons (.var 1) (.cons (.var 2) .nil))) (.cons (.call 43 (.cons (.var 1) (.cons (.var 3) .nil))) .nil))) (.cons (.asg (.nm 7) (.bi .tuple (.cons (.lc false (.call 42 (.cons (.sli (.var 1) (.some (.bin .Add (.var 8) (.cst (.int 1)))) .none) .nil)) [("at", 8)] (.nm 8) (.rng1 (.bi .len (.cons (.var 1) .nil))) .none) .nil))) (.cons (.ife (.cmp .NotEq (.bi .repr (.cons (.lst false (.cons (.call 33 (.cons (.var 1) .nil)) (.cons (.kall 33 [0] .nil (.cons (.var 1) .nil)) (.cons (.call 34 (.cons (.var 1) .nil)) (.cons (.kall 34 [0] .nil (.cons (.var 1) .nil)) .nil))))) .nil)) (.bi .repr (.cons (.lst false (.cons (.var 4) (.cons (.var 4) (.cons (.var 7) (.cons (.var 7) .nil))))) .nil))) (.cons (.ret (.cst (.bool false))) .nil) .nil) (.cons (.asg (.nm 9) (.lst false (.cons (.call 35 (.cons (.var 1) (.cons (.var 2) .nil))) (.cons (.kall 35 [1, 0] .nil (.cons (.var 2) (.cons (.var 1) .nil))) (.cons (.call 35 (.cons (.var 1) (.cons (.var 3) .nil))) .nil))))) (.cons (.ife (.or (.cons (.cmp .NotEq (.bi .repr (.cons (.var 9) .nil)) (.bi .repr (.cons (.lst false (.cons (.var 5) (.cons (.var 5) (.cons (.var 6) .nil)))) .nil))) (.cons (.cmp .NotEq (.cmp .Lt (.idx (.var 9) (.cst (.int 0))) (.idx (.var 9) (.cst (.int 2)))) (.cmp .Lt (.var 2) (.var 3))) .nil))) (.cons (.ret (.cst (.bool false))) .nil) .nil) (.cons (.ife (.cmp .NotEq (.bi .repr (.cons (.lst false (.cons (.call 36 (.cons (.var 1) (.cons (.var 5) .nil))) (.cons (.kall 36 [1, 0] .nil (.cons (.var 6) (.cons (.var 1) .nil))) .nil))) .nil)) (.bi .repr (.cons (.lst false (.cons (.var 2) (.cons (.var 3) .nil))) .nil))) (.cons (.ret (.cst (.bool false))) .nil) .nil) (.cons (.asg (.nm 10) (.call 44 (.cons (.var 1) (.cons (.var 2) .nil)))) (.cons (.ife (.or (.cons (.and (.cons (.cmp .Is (.var 10) (.cst .none)) (.cons (.cmp .NotEq (.var 5) (.bin .Sub (.var 4) (.cst (.int 1)))) .nil))) (.cons (.and (.cons (.cmp .IsNot (.var 10) (.cst .none)) (.cons (.cmp .NotEq (.bi .repr (.cons (.call 36 (.cons (.var 1) (.cons (.bin .Add (.var 5) (.cst (.int 1))) .nil))) .nil)) (.bi .repr (.cons (.var 10) .nil))) .nil))) .nil))) (.cons (.ret (.cst (.bool false))) .nil) .nil) (.cons (.asg (.nm 11) (.call 47 (.cons (.var 0) (.cons (.var 1) .nil)))) (.cons (.asg (.nm 12) (.bi .repr (.cons (.var 11) .nil))) (.cons (.ife (.cmp .NotEq (.bi .repr (.cons (.lst false (.cons (.call 32 (.cons (.var 11) .nil)) (.cons (.kall 32 [0] .nil (.cons (.var 11) .nil)) (.cons (.call 37 (.cons (.var 11) (.cons (.var 2) .nil))) (.cons (.kall 37 [1, 0] .nil (.cons (.var 3) (.cons (.var 11) .nil))) .nil))))) .nil)) (.bi .repr (.cons (.lst false (.cons (.var 1) (.cons (.var 1) (.cons (.var 5) (.cons (.var 6) .nil))))) .nil))) (.cons (.ret (.cst (.bool false))) .nil) .nil) (.cons (.ife (.cmp .NotEq (.bi .repr (.cons (.lst false (.cons (.call 38 (.cons (.var 11) (.cons (.var 5) .nil))) (.cons (.kall 38 [1, 0] .nil (.cons (.var 6) (.cons (.var 11) .nil))) .nil))) .nil)) (.bi .repr (.cons (.lst false (.cons (.var 2) (.cons (.var 3) .nil))) .nil))) (.cons (.ret (.cst (.bool false))) .nil) .nil) (.cons (.ret (.and (.cons (.cmp .Eq (.bi .repr (.cons (.var 11) .nil)) (.var 12)) (.cons (.call 49 (.cons (.var 0) (.cons (.var 1) .nil))) (.cons (.call 48 (.cons (.var 0) .nil)) .nil))))) .nil))))))))))))))), false⟩
def f_law : Df := ⟨1, 2, (.cons (.ret (.bi .all (.cons (.lc false (.call 50 (.cons (.call 39 (.cons (.var 0) (.cons (.var 1) .nil))) .nil)) [("k", 1)] (.nm 1) (.rng1 (.cst (.int 2))) .none) .nil))) .nil), false⟩
def T : List Df := [f_is_integer, f_is_within, f_is_tuple, f_is_text, f_is_variable, f_are_variables, f_are_values_of, f_is_place_in, f_is_value_in, f_is_guard_in, f_is_act_in, f_is_say, f_are_doings, f_is_table_in, f_is_group_in, f_is_ending_in, f_is_door_way, f_is_shown_in, f_are_views, f_is_middle_value, f_want_middle, f_want_values, f_is_sizes_value, f_are_values, f_sizes_by, f_weights_by, f_product_of, f_number_by, f_values_by_number, f_want_sizes, f_want_number, f_is_sizes, f_sizes_of, f_how_many, f_weights, f_number_of, f_values_at, f_pack, f_unpack, f_law_pot, f_law_draw, f_law_pick, f_law_product, f_law_number, f_law_behind, f_law_sizes, f_law_values, f_law_middle, f_law_small_right, f_law_any_right, f_law_right, f_law]
def G : List PyData := [(.int 200), (.int 14), (.tuple [(.str "north"), (.str "south"), (.str "east"), (.str "west"), (.str "up"), (.str "down")])]
theorem t_is_integer : T[0]? = some f_is_integer := rfl
theorem t_is_within : T[1]? = some f_is_within := rfl
theorem t_is_tuple : T[2]? = some f_is_tuple := rfl
theorem t_is_text : T[3]? = some f_is_text := rfl
theorem t_is_variable : T[4]? = some f_is_variable := rfl
theorem t_are_variables : T[5]? = some f_are_variables := rfl
theorem t_are_values_of : T[6]? = some f_are_values_of := rfl
theorem t_is_place_in : T[7]? = some f_is_place_in := rfl
theorem t_is_value_in : T[8]? = some f_is_value_in := rfl
theorem t_is_guard_in : T[9]? = some f_is_guard_in := rfl
theorem t_is_act_in : T[10]? = some f_is_act_in := rfl
theorem t_is_say : T[11]? = some f_is_say := rfl
theorem t_are_doings : T[12]? = some f_are_doings := rfl
theorem t_is_table_in : T[13]? = some f_is_table_in := rfl
theorem t_is_group_in : T[14]? = some f_is_group_in := rfl
theorem t_is_ending_in : T[15]? = some f_is_ending_in := rfl
theorem t_is_door_way : T[16]? = some f_is_door_way := rfl
theorem t_is_shown_in : T[17]? = some f_is_shown_in := rfl
theorem t_are_views : T[18]? = some f_are_views := rfl
theorem t_is_middle_value : T[19]? = some f_is_middle_value := rfl
theorem t_want_middle : T[20]? = some f_want_middle := rfl
theorem t_want_values : T[21]? = some f_want_values := rfl
theorem t_is_sizes_value : T[22]? = some f_is_sizes_value := rfl
theorem t_are_values : T[23]? = some f_are_values := rfl
theorem t_sizes_by : T[24]? = some f_sizes_by := rfl
theorem t_weights_by : T[25]? = some f_weights_by := rfl
theorem t_product_of : T[26]? = some f_product_of := rfl
theorem t_number_by : T[27]? = some f_number_by := rfl
theorem t_values_by_number : T[28]? = some f_values_by_number := rfl
theorem t_want_sizes : T[29]? = some f_want_sizes := rfl
theorem t_want_number : T[30]? = some f_want_number := rfl
theorem t_is_sizes : T[31]? = some f_is_sizes := rfl
theorem t_sizes_of : T[32]? = some f_sizes_of := rfl
theorem t_how_many : T[33]? = some f_how_many := rfl
theorem t_weights : T[34]? = some f_weights := rfl
theorem t_number_of : T[35]? = some f_number_of := rfl
theorem t_values_at : T[36]? = some f_values_at := rfl
theorem t_pack : T[37]? = some f_pack := rfl
theorem t_unpack : T[38]? = some f_unpack := rfl
theorem t_law_pot : T[39]? = some f_law_pot := rfl
theorem t_law_draw : T[40]? = some f_law_draw := rfl
theorem t_law_pick : T[41]? = some f_law_pick := rfl
theorem t_law_product : T[42]? = some f_law_product := rfl
theorem t_law_number : T[43]? = some f_law_number := rfl
theorem t_law_behind : T[44]? = some f_law_behind := rfl
theorem t_law_sizes : T[45]? = some f_law_sizes := rfl
theorem t_law_values : T[46]? = some f_law_values := rfl
theorem t_law_middle : T[47]? = some f_law_middle := rfl
theorem t_law_small_right : T[48]? = some f_law_small_right := rfl
theorem t_law_any_right : T[49]? = some f_law_any_right := rfl
theorem t_law_right : T[50]? = some f_law_right := rfl
theorem t_law : T[51]? = some f_law := rfl
end HT
end

section
set_option Elab.async false
set_option linter.all false
set_option maxRecDepth 100000
set_option maxHeartbeats 4000000
namespace HT
open PySem PySem.Spec L2 Ev
def isInt : PyData → Bool
  | .int _ => true
  | _ => false
theorem r_is_integer {n : Nat} (hn : 0 < n) (d : PyData) (S : Store) : sem G T n 0 [.d d] S = .ok (.d (.bool (isInt d))) S := by
  obtain ⟨m, rfl⟩ : ∃ m, n = m + 1 := ⟨n - 1, by omega⟩
  refine ok_of (gets_sem t_is_integer rfl ?_)
  cases d <;> simp [dSs, dS, dE, dEs, dAnd, dOr, dT, Ev.tAnd, Ev.tOr, dU, dN, dB2, dIf, dVar, dCst, dO, dC, dI, dCall, dKall, pick, entry, isiV, isTy, tobV, truO, truV, okIf, datOf, seqOf, lstOf, datas, lstV, tupV, Out.bind_ok, f_is_integer, isInt]
def within (a b : Int) : PyData → Bool
  | .int i => decide (a ≤ i) && decide (i ≤ b)
  | _ => false
theorem r_is_within {n : Nat} (hn : 1 < n) (d : PyData) (a b : Int) (S : Store) : sem G T n 1 [.d d, .d (.int a), .d (.int b)] S = .ok (.d (.bool (within a b d))) S := by
  obtain ⟨m, rfl⟩ : ∃ m, n = m + 1 := ⟨n - 1, by omega⟩
  refine ok_of (gets_sem t_is_within rfl ?_)
  have c := r_is_integer (n := m) (by omega)
  cases d <;> simp [dSs, dS, dE, dEs, dAnd, dOr, dT, Ev.tAnd, Ev.tOr, dU, dN, dB2, dIf, dVar, dCst, dO, dC, dI, dCall, dKall, pick, entry, isiV, isTy, tobV, truO, truV, okIf, datOf, seqOf, lstOf, datas, lstV, tupV, Out.bind_ok, f_is_within, isInt, c, within]
  refine ⟨fun h _ => h, fun h1 h2 => ?_⟩
  omega
def tupN (k : Int) : PyData → Bool
  | .tuple ds => decide ((ds.length : Int) = k)
  | _ => false
theorem r_is_tuple {n : Nat} (hn : 0 < n) (d : PyData) (k : Int) (S : Store) : sem G T n 2 [.d d, .d (.int k)] S = .ok (.d (.bool (tupN k d))) S := by
  obtain ⟨m, rfl⟩ : ∃ m, n = m + 1 := ⟨n - 1, by omega⟩
  refine ok_of (gets_sem t_is_tuple rfl ?_)
  cases d <;> simp [dSs, dS, dE, dEs, dAnd, dOr, dT, Ev.tAnd, Ev.tOr, dU, dN, dB2, dIf, dVar, dCst, dO, dC, dI, dCall, dKall, pick, entry, isiV, isTy, tobV, truO, truV, okIf, datOf, seqOf, lstOf, datas, lstV, tupV, Out.bind_ok, f_is_tuple, tupN]

/-! ### draws -/
def PotO (o : Ob) : Prop := ∃ a b : Int, o = .lst [.int a, .int b] ∧ 0 ≤ a ∧ 0 ≤ b ∧ b < 2147483587
def Pot (p : Nat) (S : Store) : Prop := ∃ o, S[p]? = some o ∧ PotO o
theorem Pot.lt {p : Nat} {S : Store} (h : Pot p S) : p < S.length := let ⟨_, e, _⟩ := h; (List.getElem?_eq_some_iff.mp e).1
theorem Pot.set {p : Nat} {S : Store} {o : Ob} (h : Pot p S) (ho : PotO o) : Pot p (S.set p o) := ⟨o, List.getElem?_set_self h.lt, ho⟩
theorem r_draw {n : Nat} (hn : 0 < n) {p : Nat} {m : Int} {S : Store} (h : Pot p S) (hm : 0 < m) (hm2 : m < 1073741824) :
    Gets (sem G T n 40 [.loc p, .d (.int m)] S) fun v S' => ∃ d o, v = .d (.int d) ∧ 0 ≤ d ∧ d < m ∧ PotO o ∧ S' = S.set p o := by
  obtain ⟨n', rfl⟩ : ∃ m, n = m + 1 := ⟨n - 1, by omega⟩
  have hp := h.lt
  obtain ⟨_, hS, a, b, rfl, ha, hb, hb2⟩ := h
  refine gets_sem t_law_draw rfl ?_
  have g1 := fun (o : Ob) => List.getElem?_set_self (l := S) (i := p) (a := o) hp
  simp [dSs, dS, dE, dEs, dAnd, dOr, dT, Ev.tAnd, Ev.tOr, dU, dN, dB2, dIf, dVar, dCst, dO, dC, dI, dCall, dKall, pick, entry, isiV, isTy, tobV, truO, truV, okIf, datOf, seqOf, lstOf, datas, lstV, tupV, Out.bind_ok, f_law_draw, atI, unpD, ixN, idx_loc hS, set_loc hS, idx_loc (g1 _), hm, hm2]
  refine ⟨fun _ => ?_, fun _ => ?_⟩
  · exact ⟨Int.emod_nonneg _ (by omega), Int.emod_lt_of_pos _ hm, _, ⟨_, _, rfl, Int.ediv_nonneg ha (by omega), hb, hb2⟩, rfl⟩
  · have e1 := Int.fmod_nonneg_of_pos (b * 39373 + 10601) (b := 2147483587) (by decide)
    have e2 := Int.fmod_lt_of_pos (b * 39373 + 10601) (b := 2147483587) (by decide)
    refine ⟨fun _ _ => ⟨by omega, fun _ => ⟨Int.fmod_nonneg_of_pos _ hm, Int.fmod_lt_of_pos _ hm, _, ⟨_, _, rfl, ha, e1, e2⟩, rfl⟩⟩, by omega, by omega⟩
/-- some[draw] -/
theorem r_pick {n : Nat} (hn : 1 < n) {p : Nat} {some : List PyData} {S : Store} (h : Pot p S) (h0 : some ≠ []) (hm : some.length < 1073741824) :
    Gets (sem G T n 41 [.loc p, .d (.list some)] S) fun v S' => ∃ d ∈ some, ∃ o, v = .d d ∧ PotO o ∧ S' = S.set p o := by
  obtain ⟨n', rfl⟩ : ∃ m, n = m + 1 := ⟨n - 1, by omega⟩
  refine gets_sem t_law_pick rfl ?_
  have hl : 0 < some.length := List.length_pos_iff.mpr h0
  obtain ⟨v, S', e, d, o, rfl, h1, h2, h3, rfl⟩ := r_draw (n := n') (by omega) h (m := some.length) (by omega) (by omega)
  have hd : d.toNat < some.length := by omega
  have e2 : atI some d = some[d.toNat]? := by
    unfold atI ixN
    rw [if_pos h1, if_pos h2]
    rfl
  simp [dSs, dS, dE, dEs, dAnd, dOr, dT, Ev.tAnd, Ev.tOr, dU, dN, dB2, dIf, dVar, dCst, dO, dC, dI, dCall, dKall, pick, entry, isiV, isTy, tobV, truO, truV, okIf, datOf, seqOf, lstOf, datas, lstV, tupV, Out.bind_ok, f_law_pick, e, e2, List.getElem?_eq_getElem hd]
  exact ⟨_, List.getElem_mem hd, rfl, o, h3, rfl⟩
theorem pot_o (c k : Int) : PotO (.lst [.int (if 1000000000000000000 < c then c - 1000000000000000000 else 0), .int ((c.fmod 2147483549 * 41843 + 11927 * k + 307).fmod 2147483563 + 1)]) := by
  refine ⟨_, _, rfl, ?_, ?_, ?_⟩
  · split <;> omega
  · have e1 := Int.fmod_nonneg_of_pos (c.fmod 2147483549 * 41843 + 11927 * k + 307) (b := 2147483563) (by decide)
    omega
  · have e2 := Int.fmod_lt_of_pos (c.fmod 2147483549 * 41843 + 11927 * k + 307) (b := 2147483563) (by decide)
    omega
theorem two_line : (2 : Nat) ≤ sizeLine := by rw [sizeLine_eq]; decide
/-- the pot that is laid -/
theorem r_pot {n : Nat} (hn : 0 < n) {ns : List Int} {k : Int} (hk : 0 ≤ k) (hk2 : k < 100) {S : Store} :
    Gets (sem G T n 39 [.d (.list (ns.map .int)), .d (.int k)] S) fun v S' => ∃ o, v = .loc S.length ∧ PotO o ∧ S' = S ++ [o] := by
  obtain ⟨n', rfl⟩ : ∃ m, n = m + 1 := ⟨n - 1, by omega⟩
  refine gets_sem t_law_pot rfl ?_
  simp [dSs, dS, dE, dEs, dAnd, dOr, dT, Ev.tAnd, Ev.tOr, dU, dN, dB2, dIf, dVar, dCst, dO, dC, dI, dCall, dKall, pick, entry, isiV, isTy, tobV, truO, truV, okIf, datOf, seqOf, lstOf, datas, lstV, tupV, Out.bind_ok, f_law_pot, tgt]
  refine ⟨fun hk3 => ?_, fun hk3 => ?_⟩
  · have hd : k.toNat < ns.length := by omega
    have ea : atI (ns.map PyData.int) k = some (.int ns[k.toNat]) := by
      unfold atI ixN
      rw [if_pos hk, if_pos (by simpa using hk3)]
      simp [hd]
    rw [ea]
    simp [dSs, dS, dE, dEs, dAnd, dOr, dT, Ev.tAnd, Ev.tOr, dU, dN, dB2, dIf, dVar, dCst, dO, dC, dI, dCall, dKall, pick, entry, isiV, isTy, tobV, truO, truV, okIf, datOf, seqOf, lstOf, datas, lstV, tupV, Out.bind_ok, back, two_line]
    exact pot_o _ k
  · have e1 : cutL ns none (some 1) = ns.take 1 := cut_to ns 1
    simp [dSs, dS, dE, dEs, dAnd, dOr, dT, Ev.tAnd, Ev.tOr, dU, dN, dB2, dIf, dVar, dCst, dO, dC, dI, dCall, dKall, pick, entry, isiV, isTy, tobV, truO, truV, okIf, datOf, seqOf, lstOf, datas, lstV, tupV, Out.bind_ok, back, two_line, e1]
    exact pot_o _ k
/-! ### products, numbers -/
def prodL : List Int → Int
  | [] => 1
  | z :: zs => z * prodL zs
abbrev Ints (zs : List Int) : PyData := .tuple (zs.map .int)
/-- sizes: each from 1 to 20 -/
def Sz (zs : List Int) : Prop := ∀ z ∈ zs, 1 ≤ z ∧ z ≤ 20
def IProd (zs : List Int) (S : Store) (vs : List Val) (ρ : EnvD) (S' : Store) : Prop := ∃ (ys : List Int) (c : Int) (x : Option Val), vs = ys.map (fun y => Val.d (.int y)) ∧ ρ = [some (.d (Ints zs)), some (.d (.int c)), x] ∧ c * prodL ys = prodL zs ∧ Sz ys ∧ S' = S
theorem r_product_at {n k : Nat} (hk : T[k]? = some f_product_of) (hn : 0 < n) {zs : List Int} (hz : Sz zs) (S : Store) : sem G T n k [.d (Ints zs)] S = .ok (.d (.int (prodL zs))) S := by
  obtain ⟨n', rfl⟩ : ∃ m, n = m + 1 := ⟨n - 1, by omega⟩
  refine ok_of (gets_sem hk rfl ?_)
  simp [dSs, dS, dE, dEs, dAnd, dOr, dT, Ev.tAnd, Ev.tOr, dU, dN, dB2, dIf, dVar, dCst, dO, dC, dI, dCall, dKall, pick, entry, isiV, isTy, tobV, truO, truV, okIf, datOf, seqOf, lstOf, datas, lstV, tupV, Out.bind_ok, f_product_of, tgt]
  refine gs_for (IProd zs S) ?_ ?_ _ _ _ ⟨zs, 1, none, by simp, rfl, by simp, hz, rfl⟩
  · rintro v vs ρ S' ⟨ys, c, x, e, rfl, hp, hy, rfl⟩
    cases ys with
    | nil => cases e
    | cons y ys =>
      cases e
      have h1 := hy y List.mem_cons_self
      simp [dSs, dS, dE, dEs, dAnd, dOr, dT, Ev.tAnd, Ev.tOr, dU, dN, dB2, dIf, dVar, dCst, dO, dC, dI, dCall, dKall, pick, entry, isiV, isTy, tobV, truO, truV, okIf, datOf, seqOf, lstOf, datas, lstV, tupV, Out.bind_ok, tgt]
      exact ⟨fun _ => ⟨ys, c * y, _, rfl, rfl, by rw [← hp]; exact Int.mul_assoc _ _ _, fun z hz => hy z (List.mem_cons_of_mem _ hz), rfl⟩, by omega⟩
  · rintro ρ S' ⟨ys, c, x, e, rfl, hp, hy, rfl⟩
    cases ys with
    | cons y ys => cases e
    | nil =>
      simp [dSs, dS, dE, dEs, dAnd, dOr, dT, Ev.tAnd, Ev.tOr, dU, dN, dB2, dIf, dVar, dCst, dO, dC, dI, dCall, dKall, pick, entry, isiV, isTy, tobV, truO, truV, okIf, datOf, seqOf, lstOf, datas, lstV, tupV, Out.bind_ok]
      simpa [prodL] using hp
theorem r_product_of {n : Nat} (hn : 0 < n) {zs : List Int} (hz : Sz zs) (S : Store) : sem G T n 26 [.d (Ints zs)] S = .ok (.d (.int (prodL zs))) S := r_product_at rfl hn hz S
theorem r_law_product {n : Nat} (hn : 0 < n) {zs : List Int} (hz : Sz zs) (S : Store) : sem G T n 42 [.d (Ints zs)] S = .ok (.d (.int (prodL zs))) S := r_product_at rfl hn hz S
end HT
end

section
set_option Elab.async false
set_option linter.all false
set_option maxRecDepth 100000
set_option maxHeartbeats 4000000
namespace HT
open PySem PySem.Spec L2 Ev
def pos1 : PyData → Bool
  | .int i => decide (1 ≤ i)
  | _ => false
def isSizes : PyData → Bool
  | .tuple ds => !ds.isEmpty && ds.all pos1
  | _ => false
theorem r_is_sizes_value {n : Nat} (hn : 1 < n) (d : PyData) (hd : ∀ ds, d = .tuple ds → ds.length ≤ sizeLine) (S : Store) : sem G T n 22 [.d d] S = .ok (.d (.bool (isSizes d))) S := by
  obtain ⟨m, rfl⟩ : ∃ m, n = m + 1 := ⟨n - 1, by omega⟩
  refine ok_of (gets_sem t_is_sizes_value rfl ?_)
  have c := r_is_integer (n := m) (by omega)
  cases d with
  | tuple ds =>
    simp [dSs, dS, dE, dEs, dAnd, dOr, dT, Ev.tAnd, Ev.tOr, dU, dN, dB2, dIf, dVar, dCst, dO, dC, dI, dCall, dKall, pick, entry, isiV, isTy, tobV, truO, truV, okIf, datOf, seqOf, lstOf, datas, lstV, tupV, Out.bind_ok, f_is_sizes_value, isSizes]
    refine ⟨fun h => ?_, fun h => by simp [h]⟩
    refine gets_each .d (fun x => .bool (pos1 x)) ds (n := none) (S := S) (by simp [dSs, dS, dE, dEs, dAnd, dOr, dT, Ev.tAnd, Ev.tOr, dU, dN, dB2, dIf, dVar, dCst, dO, dC, dI, dCall, dKall, pick, entry, isiV, isTy, tobV, truO, truV, okIf, datOf, seqOf, lstOf, datas, lstV, tupV, Out.bind_ok]) (by simp) (fun x hx => ⟨_, rfl, ?_⟩) (hd ds rfl) ?_
    · cases x <;> simp [dSs, dS, dE, dEs, dAnd, dOr, dT, Ev.tAnd, Ev.tOr, dU, dN, dB2, dIf, dVar, dCst, dO, dC, dI, dCall, dKall, pick, entry, isiV, isTy, tobV, truO, truV, okIf, datOf, seqOf, lstOf, datas, lstV, tupV, Out.bind_ok, c, isInt, pos1, wipeD]
    · simp
      intro _ z
      simp [z] at h
  | _ => simp [dSs, dS, dE, dEs, dAnd, dOr, dT, Ev.tAnd, Ev.tOr, dU, dN, dB2, dIf, dVar, dCst, dO, dC, dI, dCall, dKall, pick, entry, isiV, isTy, tobV, truO, truV, okIf, datOf, seqOf, lstOf, datas, lstV, tupV, Out.bind_ok, f_is_sizes_value, isSizes]
theorem r_is_sizes {n : Nat} (hn : 2 < n) (d : PyData) (hd : ∀ ds, d = .tuple ds → ds.length ≤ sizeLine) (S : Store) : sem G T n 31 [.d d] S = .ok (.d (.bool (isSizes d))) S := by
  obtain ⟨m, rfl⟩ : ∃ m, n = m + 1 := ⟨n - 1, by omega⟩
  refine ok_of (gets_sem t_is_sizes rfl ?_)
  have c := r_is_sizes_value (n := m) (by omega) d hd
  simp [dSs, dS, dE, dEs, dAnd, dOr, dT, Ev.tAnd, Ev.tOr, dU, dN, dB2, dIf, dVar, dCst, dO, dC, dI, dCall, dKall, pick, entry, isiV, isTy, tobV, truO, truV, okIf, datOf, seqOf, lstOf, datas, lstV, tupV, Out.bind_ok, f_is_sizes, c]
theorem sz_pos {zs : List Int} (h : Sz zs) (h0 : zs ≠ []) : isSizes (Ints zs) = true := by
  simp [isSizes, h0]
  intro z hz
  simp [pos1, (h z hz).1]
/-- values under their sizes -/
def InR : List Int → List Int → Prop
  | [], [] => True
  | z :: zs, v :: vs => (0 ≤ v ∧ v < z) ∧ InR zs vs
  | _, _ => False
theorem InR.len : ∀ {zs vs : List Int}, InR zs vs → vs.length = zs.length
  | [], [], _ => rfl
  | _ :: _, _ :: _, h => congrArg Nat.succ (InR.len h.2)
  | [], _ :: _, h => h.elim
  | _ :: _, [], h => h.elim
theorem InR.zip : ∀ {zs vs : List Int}, InR zs vs → ∀ p ∈ vs.zip zs, 0 ≤ p.1 ∧ p.1 < p.2
  | [], [], _, p, hp => by cases hp
  | z :: zs, v :: vs, h, p, hp => by
    rcases List.mem_cons.mp hp with e | hp
    · rw [e]; exact h.1
    · exact InR.zip h.2 p hp
  | [], _ :: _, h, _, _ => h.elim
  | _ :: _, [], h, _, _ => h.elim
theorem line_of {k : Nat} (h : k ≤ 100000) : k ≤ sizeLine := by rw [sizeLine_eq]; omega
theorem zipI_ints (vs zs : List Int) (S : Store) : zipI (.d (Ints vs)) (.d (Ints zs)) S = .ok ⟨(vs.zip zs).map fun p => Val.d (.tuple [.int p.1, .int p.2]), none⟩ S := by
  simp [List.zip_map]
theorem r_are_values {n : Nat} (hn : 2 < n) {zs vs : List Int} (h : InR zs vs) (hl : zs.length ≤ 1000) (S : Store) : sem G T n 23 [.d (Ints zs), .d (Ints vs)] S = .ok (.d (.bool true)) S := by
  obtain ⟨m, rfl⟩ : ∃ m, n = m + 1 := ⟨n - 1, by omega⟩
  refine ok_of (gets_sem t_are_values rfl ?_)
  have c := r_is_within (n := m) (by omega)
  have hlen := h.len
  simp [dSs, dS, dE, dEs, dAnd, dOr, dT, Ev.tAnd, Ev.tOr, dU, dN, dB2, dIf, dVar, dCst, dO, dC, dI, dCall, dKall, pick, entry, isiV, isTy, tobV, truO, truV, okIf, datOf, seqOf, lstOf, datas, lstV, tupV, Out.bind_ok, f_are_values, hlen]
  refine gets_each (fun p : Int × Int => Val.d (.tuple [.int p.1, .int p.2])) (fun p => .bool true) (vs.zip zs) (n := none) (S := S) (by simp [dSs, dS, dE, dEs, dAnd, dOr, dT, Ev.tAnd, Ev.tOr, dU, dN, dB2, dIf, dVar, dCst, dO, dC, dI, dCall, dKall, pick, entry, isiV, isTy, tobV, truO, truV, okIf, datOf, seqOf, lstOf, datas, lstV, tupV, Out.bind_ok, List.zip_map]) (by simp) (fun p hp => ⟨_, rfl, ?_⟩) (by simp [hlen]; exact line_of (by omega)) ?_
  · have := h.zip p hp
    simp [dSs, dS, dE, dEs, dAnd, dOr, dT, Ev.tAnd, Ev.tOr, dU, dN, dB2, dIf, dVar, dCst, dO, dC, dI, dCall, dKall, pick, entry, isiV, isTy, tobV, truO, truV, okIf, datOf, seqOf, lstOf, datas, lstV, tupV, Out.bind_ok, c, wipeD, setAll, within]
    omega
  · simp
end HT
end

section
set_option Elab.async false
set_option linter.all false
set_option maxRecDepth 100000
set_option maxHeartbeats 4000000
namespace HT
open PySem PySem.Spec L2 Ev
/-! ### numbers of values -/
def numR : List Int → List Int → Int
  | z :: zs, v :: vs => v * prodL zs + numR zs vs
  | _, _ => 0
theorem numR_nil (vs : List Int) : numR [] vs = 0 := by cases vs <;> rfl
def horner : Int → List Int → List Int → Int
  | c, z :: zs, v :: vs => horner (c * z + v) zs vs
  | c, _, _ => c
theorem horner_eq : ∀ {zs vs : List Int} (c : Int), InR zs vs → horner c zs vs = c * prodL zs + numR zs vs
  | [], [], c, _ => by simp [horner, prodL, numR]
  | z :: zs, v :: vs, c, h => by
    show horner (c * z + v) zs vs = c * (z * prodL zs) + (v * prodL zs + numR zs vs)
    rw [horner_eq _ h.2, Int.add_mul, Int.mul_assoc, Int.add_assoc]
  | [], _ :: _, _, h => h.elim
  | _ :: _, [], _, h => h.elim
def INum (zs vs : List Int) (S : Store) (its : List Val) (ρ : EnvD) (S' : Store) : Prop := ∃ (ys us : List Int) (c : Int) (x y : Option Val), its = (ys.zip us).map (fun p => Val.d (.tuple [.int p.1, .int p.2])) ∧ ρ = [some (.d (Ints zs)), some (.d (Ints vs)), some (.d (.int c)), x, y] ∧
  horner c ys us = numR zs vs ∧ InR ys us ∧ Sz ys ∧ S' = S
theorem r_number_by {n : Nat} (hn : 0 < n) {zs vs : List Int} (hz : Sz zs) (h : InR zs vs) (S : Store) : sem G T n 27 [.d (Ints zs), .d (Ints vs)] S = .ok (.d (.int (numR zs vs))) S := by
  obtain ⟨m, rfl⟩ : ∃ m, n = m + 1 := ⟨n - 1, by omega⟩
  refine ok_of (gets_sem t_number_by rfl ?_)
  simp [dSs, dS, dE, dEs, dAnd, dOr, dT, Ev.tAnd, Ev.tOr, dU, dN, dB2, dIf, dVar, dCst, dO, dC, dI, dCall, dKall, pick, entry, isiV, isTy, tobV, truO, truV, okIf, datOf, seqOf, lstOf, datas, lstV, tupV, Out.bind_ok, f_number_by, tgt]
  refine gs_for (INum zs vs S) ?_ ?_ _ _ _ ⟨zs, vs, 0, none, none, by simp [List.zip_map], rfl, by rw [horner_eq 0 h]; simp, h, hz, rfl⟩
  · rintro v its ρ S' ⟨ys, us, c, x, y, e, rfl, hp, hr, hy, rfl⟩
    cases ys with
    | nil => cases e
    | cons y' ys =>
      cases us with
      | nil => cases e
      | cons u us =>
        cases e
        have h1 := hy y' List.mem_cons_self
        simp [dSs, dS, dE, dEs, dAnd, dOr, dT, Ev.tAnd, Ev.tOr, dU, dN, dB2, dIf, dVar, dCst, dO, dC, dI, dCall, dKall, pick, entry, isiV, isTy, tobV, truO, truV, okIf, datOf, seqOf, lstOf, datas, lstV, tupV, Out.bind_ok, tgt, setAll]
        exact ⟨fun _ => ⟨ys, us, c * y' + u, _, _, zw _ _ _, rfl, hp, hr.2, fun z hz => hy z (List.mem_cons_of_mem _ hz), rfl⟩, by omega⟩
  · rintro ρ S' ⟨ys, us, c, x, y, e, rfl, hp, hr, hy, rfl⟩
    cases ys with
    | nil =>
      simp [dSs, dS, dE, dEs, dAnd, dOr, dT, Ev.tAnd, Ev.tOr, dU, dN, dB2, dIf, dVar, dCst, dO, dC, dI, dCall, dKall, pick, entry, isiV, isTy, tobV, truO, truV, okIf, datOf, seqOf, lstOf, datas, lstV, tupV, Out.bind_ok]
      exact hp
    | cons y' ys =>
      cases us with
      | nil => exact hr.elim
      | cons u us => cases e
theorem sum_idx : ∀ (vs zs zs' : List Int) (k : Nat), zs'.drop k = zs → vs.length = zs.length → ((vs.zipIdx k).map fun p => p.1 * prodL (zs'.drop (p.2 + 1))).sum = numR zs vs
  | [], zs, zs', k, _, hl => by
    cases zs with
    | nil => rfl
    | cons _ _ => cases hl
  | v :: vs, zs, zs', k, hd, hl => by
    cases zs with
    | nil => cases hl
    | cons z zs =>
      have h2 : zs'.drop (k + 1) = zs := by
        have := congrArg (List.drop 1) hd
        simpa [List.drop_drop, Nat.add_comm] using this
      have := sum_idx vs zs zs' (k + 1) h2 (by simpa using hl)
      simp only [List.zipIdx_cons, List.map_cons, List.sum_cons, numR, h2]
      rw [this]
theorem r_law_number {n : Nat} (hn : 1 < n) {zs vs : List Int} (hz : Sz zs) (h : InR zs vs) (hl : zs.length ≤ 1000) (S : Store) : sem G T n 43 [.d (Ints zs), .d (Ints vs)] S = .ok (.d (.int (numR zs vs))) S := by
  obtain ⟨m, rfl⟩ : ∃ m, n = m + 1 := ⟨n - 1, by omega⟩
  refine ok_of (gets_sem t_law_number rfl ?_)
  have hlen := h.len
  simp [dSs, dS, dE, dEs, dAnd, dOr, dT, Ev.tAnd, Ev.tOr, dU, dN, dB2, dIf, dVar, dCst, dO, dC, dI, dCall, dKall, pick, entry, isiV, isTy, tobV, truO, truV, okIf, datOf, seqOf, lstOf, datas, lstV, tupV, Out.bind_ok, f_law_number]
  refine gets_each (fun p : Int × Nat => Val.d (.tuple [.int (p.2 : Int), .int p.1])) (fun p => .int (p.1 * prodL (zs.drop (p.2 + 1)))) vs.zipIdx (n := none) (S := S) (by simp [dSs, dS, dE, dEs, dAnd, dOr, dT, Ev.tAnd, Ev.tOr, dU, dN, dB2, dIf, dVar, dCst, dO, dC, dI, dCall, dKall, pick, entry, isiV, isTy, tobV, truO, truV, okIf, datOf, seqOf, lstOf, datas, lstV, tupV, Out.bind_ok, List.zipIdx_map]) (by simp) (fun p hp => ⟨_, rfl, ?_⟩) (by simp [hlen]; exact line_of (by omega)) ?_
  · have e1 : cutL zs (some ((p.2 : Int) + 1)) none = zs.drop (p.2 + 1) := cut_from zs (p.2 + 1)
    have hz2 : Sz (zs.drop (p.2 + 1)) := fun z hz' => hz z (List.mem_of_mem_drop hz')
    have hv : 0 ≤ p.1 ∧ p.1 < 20 := by
      have hi := List.mem_zipIdx hp
      have hlt : p.2 < vs.length := by omega
      have hpz : (p.1, zs[p.2]'(by omega)) ∈ vs.zip zs := by
        rw [List.mem_iff_getElem]
        exact ⟨p.2, by simp; omega, by simp [hi.2.2]⟩
      have h1 := h.zip _ hpz
      have h2 := hz _ (List.getElem_mem (show p.2 < zs.length by omega))
      exact ⟨h1.1, by have := h1.2; dsimp only at this; omega⟩
    have c2 := r_law_product (n := m) (by omega) hz2 S
    simp [Ints] at c2
    simp [dSs, dS, dE, dEs, dAnd, dOr, dT, Ev.tAnd, Ev.tOr, dU, dN, dB2, dIf, dVar, dCst, dO, dC, dI, dCall, dKall, pick, entry, isiV, isTy, tobV, truO, truV, okIf, datOf, seqOf, lstOf, datas, lstV, tupV, Out.bind_ok, wipeD, setAll, e1, c2]
    omega
  · simp
    exact sum_idx vs zs zs 0 rfl hlen
/-! ### from the end -/
def numL : List Int → List Int → Int
  | z :: zs, v :: vs => v + z * numL zs vs
  | _, _ => 0
theorem prod_snoc : ∀ (zs : List Int) (z : Int), prodL (zs ++ [z]) = prodL zs * z
  | [], z => by simp [prodL]
  | y :: zs, z => by
    show y * prodL (zs ++ [z]) = y * prodL zs * z
    rw [prod_snoc zs z, Int.mul_assoc]
theorem num_snoc : ∀ {zs vs : List Int} (z v : Int), vs.length = zs.length → numR (zs ++ [z]) (vs ++ [v]) = numR zs vs * z + v
  | [], [], z, v, _ => by simp [numR, prodL]
  | y :: zs, u :: vs, z, v, h => by
    show u * prodL (zs ++ [z]) + numR (zs ++ [z]) (vs ++ [v]) = (u * prodL zs + numR zs vs) * z + v
    rw [prod_snoc, num_snoc z v (by simpa using h), Int.add_mul, Int.mul_assoc, Int.add_assoc]
  | [], _ :: _, _, _, h => by cases h
  | _ :: _, [], _, _, h => by cases h
theorem num_rev : ∀ {zs vs : List Int}, vs.length = zs.length → numL zs vs = numR zs.reverse vs.reverse
  | [], [], _ => rfl
  | z :: zs, v :: vs, h => by
    have hl : vs.length = zs.length := by simpa using h
    show v + z * numL zs vs = _
    rw [List.reverse_cons, List.reverse_cons, num_snoc z v (by simpa using hl), num_rev hl, Int.add_comm, Int.mul_comm]
  | [], _ :: _, h => by cases h
  | _ :: _, [], h => by cases h
theorem InR.app : ∀ {zs vs ys us : List Int}, InR zs vs → InR ys us → InR (zs ++ ys) (vs ++ us)
  | [], [], _, _, _, h => h
  | _ :: _, _ :: _, _, _, h, h2 => ⟨h.1, InR.app h.2 h2⟩
  | [], _ :: _, _, _, h, _ => h.elim
  | _ :: _, [], _, _, h, _ => h.elim
theorem InR.rev : ∀ {zs vs : List Int}, InR zs vs → InR zs.reverse vs.reverse
  | [], [], _ => True.intro
  | z :: zs, v :: vs, h => by
    rw [List.reverse_cons, List.reverse_cons]
    exact InR.app (InR.rev h.2) ⟨h.1, True.intro⟩
  | [], _ :: _, h => h.elim
  | _ :: _, [], h => h.elim
def IVal (zs : List Int) (k : Int) (vs : List Int) (S : Store) (its : List Val) (ρ : EnvD) (S' : Store) : Prop := ∃ (ys us ws : List Int) (x : Option Val), its = ys.map (fun y => Val.d (.int y)) ∧ ρ = [some (.d (Ints zs)), some (.d (.int k)), some (.loc S.length), some (.d (.int (numL ys us))), x] ∧
  InR ys us ∧ Sz ys ∧ ws ++ us = vs.reverse ∧ ws.length ≤ 1000 ∧ us.length + ws.length ≤ 1000 ∧ S' = S ++ [.lst (ws.map .int)]
theorem fdiv_at {v z q : Int} (h : 0 ≤ v ∧ v < z) : (v + z * q).fmod z = v ∧ (v + z * q).fdiv z = q := by
  have hz : 0 < z := by omega
  rw [Int.fmod_eq_emod_of_nonneg _ (by omega), Int.fdiv_eq_ediv_of_nonneg _ (by omega), Int.add_mul_emod_self_left, Int.add_mul_ediv_left _ _ (by omega), Int.emod_eq_of_lt h.1 h.2, Int.ediv_eq_zero_of_lt h.1 h.2]
  exact ⟨rfl, by omega⟩
theorem r_values_by_number {n : Nat} (hn : 0 < n) {zs vs : List Int} (hz : Sz zs) (h : InR zs vs) (hl : zs.length ≤ 1000) (S : Store) : sem G T n 28 [.d (Ints zs), .d (.int (numR zs vs))] S = .ok (.d (Ints vs)) S := by
  obtain ⟨m, rfl⟩ : ∃ m, n = m + 1 := ⟨n - 1, by omega⟩
  refine ok_of (gets_sem t_values_by_number rfl ?_)
  have hlen := h.len
  have e0 : numL zs.reverse vs.reverse = numR zs vs := by
    rw [num_rev (by simp [hlen])]
    simp
  simp [dSs, dS, dE, dEs, dAnd, dOr, dT, Ev.tAnd, Ev.tOr, dU, dN, dB2, dIf, dVar, dCst, dO, dC, dI, dCall, dKall, pick, entry, isiV, isTy, tobV, truO, truV, okIf, datOf, seqOf, lstOf, datas, lstV, tupV, Out.bind_ok, f_values_by_number, tgt, parD]
  refine gs_for (IVal zs (numR zs vs) vs S) ?_ ?_ _ _ _ ⟨zs.reverse, vs.reverse, [], none, by simp, by rw [e0], h.rev, fun z hz' => hz z (List.mem_reverse.mp hz'), rfl, by simp, by simp [hlen]; omega, rfl⟩
  · rintro v its ρ S' ⟨ys, us, ws, x, e, rfl, hr, hy, hw, hw2, hw3, rfl⟩
    cases ys with
    | nil => cases e
    | cons y ys =>
      cases us with
      | nil => exact hr.elim
      | cons u us =>
        cases e
        have h1 := hy y List.mem_cons_self
        obtain ⟨d1, d2⟩ := fdiv_at (q := numL ys us) hr.1
        have hS : (S ++ [Ob.lst (ws.map PyData.int)])[S.length]? = some (.lst (ws.map .int)) := by simp
        have hz3 : (ws.map PyData.int).length < sizeLine := by
          rw [List.length_map, sizeLine_eq]
          omega
        simp [dSs, dS, dE, dEs, dAnd, dOr, dT, Ev.tAnd, Ev.tOr, dU, dN, dB2, dIf, dVar, dCst, dO, dC, dI, dCall, dKall, pick, entry, isiV, isTy, tobV, truO, truV, okIf, datOf, seqOf, lstOf, datas, lstV, tupV, Out.bind_ok, tgt, recV, app_loc hS hz3, numL, d1, d2]
        refine ⟨by omega, fun _ => ⟨fun _ _ => ⟨ys, us, ws ++ [u], some (.d (.int y)), rfl, by simp, hr.2, fun z hz => hy z (List.mem_cons_of_mem _ hz), by simp [← hw], by simp at hw3 ⊢; omega, by simp at hw3 ⊢; omega, by simp⟩, by omega, by omega⟩⟩
  · rintro ρ S' ⟨ys, us, ws, x, e, rfl, hr, hy, hw, hw2, hw3, rfl⟩
    cases ys with
    | cons y' ys => cases e
    | nil =>
      cases us with
      | cons u us => exact hr.elim
      | nil =>
        have hS : (S ++ [Ob.lst (ws.map PyData.int)])[S.length]? = some (.lst (ws.map .int)) := by simp
        have e2 : ws.reverse = vs := by
          rw [List.append_nil] at hw
          rw [hw, List.reverse_reverse]
        simp [dSs, dS, dE, dEs, dAnd, dOr, dT, Ev.tAnd, Ev.tOr, dU, dN, dB2, dIf, dVar, dCst, dO, dC, dI, dCall, dKall, pick, entry, isiV, isTy, tobV, truO, truV, okIf, datOf, seqOf, lstOf, datas, lstV, tupV, Out.bind_ok, rev_loc hS]
        rw [← List.map_reverse, e2]
end HT
end

section
set_option Elab.async false
set_option linter.all false
set_option maxRecDepth 100000
set_option maxHeartbeats 4000000
namespace HT
open PySem PySem.Spec L2 Ev
theorem prod_pos : ∀ {zs : List Int}, Sz zs → 1 ≤ prodL zs
  | [], _ => by simp [prodL]
  | z :: zs, h => by
    have h1 := h z List.mem_cons_self
    have h2 := prod_pos (zs := zs) fun y hy => h y (List.mem_cons_of_mem _ hy)
    show 1 ≤ z * prodL zs
    have := Int.mul_le_mul h1.1 h2 (by decide) (by omega)
    omega
theorem prod_le : ∀ {zs : List Int}, Sz zs → prodL zs ≤ 20 ^ zs.length
  | [], _ => by simp [prodL]
  | z :: zs, h => by
    have h1 := h z List.mem_cons_self
    have h2 := prod_le (zs := zs) fun y hy => h y (List.mem_cons_of_mem _ hy)
    have h3 := prod_pos (zs := zs) fun y hy => h y (List.mem_cons_of_mem _ hy)
    show z * prodL zs ≤ 20 ^ (zs.length + 1)
    have := Int.mul_le_mul h1.2 h2 (by omega) (by decide)
    rw [Int.pow_succ, Int.mul_comm (20 ^ zs.length)]
    exact this
theorem num_lt : ∀ {zs vs : List Int}, InR zs vs → 0 ≤ numR zs vs ∧ numR zs vs < prodL zs
  | [], [], _ => by simp [numR, prodL]
  | z :: zs, v :: vs, h => by
    have h2 := num_lt h.2
    have hp : 0 < prodL zs := by omega
    have h3 : 0 ≤ v * prodL zs := Int.mul_nonneg h.1.1 (by omega)
    have h4 : (v + 1) * prodL zs ≤ z * prodL zs := Int.mul_le_mul_of_nonneg_right (by have := h.1.2; omega) (by omega)
    rw [Int.add_mul, Int.one_mul] at h4
    show 0 ≤ v * prodL zs + numR zs vs ∧ v * prodL zs + numR zs vs < z * prodL zs
    omega
  | [], _ :: _, h => h.elim
  | _ :: _, [], h => h.elim
/-- small enough to be shown -/
theorem small_of {zs : List Int} (hz : Sz zs) (hl : zs.length ≤ 23) {i : Int} (h0 : -1 ≤ i) (h1 : i ≤ prodL zs) : i.natAbs < 10 ^ 100 := by
  have h2 := prod_le hz
  have h3 : (20 : Int) ^ zs.length ≤ 20 ^ 23 := by
    have : (20 : Nat) ^ zs.length ≤ 20 ^ 23 := Nat.pow_le_pow_right (by decide) hl
    exact_mod_cast this
  have h4 : (20 : Int) ^ 23 < 10 ^ 100 := by decide
  have h5 : ((10 : Nat) ^ 100 : Nat) = ((10 : Int) ^ 100) := by norm_cast
  omega
theorem ints_line {zs : List Int} (hl : zs.length ≤ 1000) : ∀ ds, Ints zs = .tuple ds → ds.length ≤ sizeLine := by
  rintro ds e
  cases e
  rw [List.length_map]
  exact line_of (by omega)
theorem r_want_sizes {n : Nat} (hn : 2 < n) {zs : List Int} (hz : Sz zs) (h0 : zs ≠ []) (hl : zs.length ≤ 1000) (S : Store) : sem G T n 29 [.d (Ints zs)] S = .ok (.d .none) S := by
  obtain ⟨m, rfl⟩ : ∃ m, n = m + 1 := ⟨n - 1, by omega⟩
  refine ok_of (gets_sem t_want_sizes rfl ?_)
  have c := r_is_sizes_value (n := m) (by omega) (Ints zs) (ints_line hl)
  rw [sz_pos hz h0] at c
  simp [dSs, dS, dE, dEs, dAnd, dOr, dT, Ev.tAnd, Ev.tOr, dU, dN, dB2, dIf, dVar, dCst, dO, dC, dI, dCall, dKall, pick, entry, isiV, isTy, tobV, truO, truV, okIf, datOf, seqOf, lstOf, datas, lstV, tupV, Out.bind_ok, f_want_sizes, c]
theorem r_want_number {n : Nat} (hn : 2 < n) {zs : List Int} (hz : Sz zs) {i : Int} (h0 : 0 ≤ i) (h1 : i < prodL zs) (S : Store) : sem G T n 30 [.d (Ints zs), .d (.int i)] S = .ok (.d .none) S := by
  obtain ⟨m, rfl⟩ : ∃ m, n = m + 1 := ⟨n - 1, by omega⟩
  refine ok_of (gets_sem t_want_number rfl ?_)
  have c := r_is_within (n := m) (by omega)
  have c2 := r_product_of (n := m) (by omega) hz
  have e : within 0 (prodL zs - 1) (.int i) = true := by
    simp [within]
    omega
  simp [dSs, dS, dE, dEs, dAnd, dOr, dT, Ev.tAnd, Ev.tOr, dU, dN, dB2, dIf, dVar, dCst, dO, dC, dI, dCall, dKall, pick, entry, isiV, isTy, tobV, truO, truV, okIf, datOf, seqOf, lstOf, datas, lstV, tupV, Out.bind_ok, f_want_number, c, c2, e]
theorem r_how_many {n : Nat} (hn : 3 < n) {zs : List Int} (hz : Sz zs) (h0 : zs ≠ []) (hl : zs.length ≤ 1000) (S : Store) : sem G T n 33 [.d (Ints zs)] S = .ok (.d (.int (prodL zs))) S := by
  obtain ⟨m, rfl⟩ : ∃ m, n = m + 1 := ⟨n - 1, by omega⟩
  refine ok_of (gets_sem t_how_many rfl ?_)
  simp [dSs, dS, dE, dEs, dAnd, dOr, dT, Ev.tAnd, Ev.tOr, dU, dN, dB2, dIf, dVar, dCst, dO, dC, dI, dCall, dKall, pick, entry, isiV, isTy, tobV, truO, truV, okIf, datOf, seqOf, lstOf, datas, lstV, tupV, Out.bind_ok, f_how_many, r_want_sizes (n := m) (by omega) hz h0 hl, r_product_of (n := m) (by omega) hz]
theorem r_number_of {n : Nat} (hn : 3 < n) {zs vs : List Int} (hz : Sz zs) (h0 : zs ≠ []) (hl : zs.length ≤ 1000) (h : InR zs vs) (S : Store) : sem G T n 35 [.d (Ints zs), .d (Ints vs)] S = .ok (.d (.int (numR zs vs))) S := by
  obtain ⟨m, rfl⟩ : ∃ m, n = m + 1 := ⟨n - 1, by omega⟩
  refine ok_of (gets_sem t_number_of rfl ?_)
  simp [dSs, dS, dE, dEs, dAnd, dOr, dT, Ev.tAnd, Ev.tOr, dU, dN, dB2, dIf, dVar, dCst, dO, dC, dI, dCall, dKall, pick, entry, isiV, isTy, tobV, truO, truV, okIf, datOf, seqOf, lstOf, datas, lstV, tupV, Out.bind_ok, f_number_of, r_want_sizes (n := m) (by omega) hz h0 hl, r_are_values (n := m) (by omega) h hl, r_number_by (n := m) (by omega) hz h]
theorem r_values_at {n : Nat} (hn : 3 < n) {zs vs : List Int} (hz : Sz zs) (h0 : zs ≠ []) (hl : zs.length ≤ 1000) (h : InR zs vs) (S : Store) : sem G T n 36 [.d (Ints zs), .d (.int (numR zs vs))] S = .ok (.d (Ints vs)) S := by
  obtain ⟨m, rfl⟩ : ∃ m, n = m + 1 := ⟨n - 1, by omega⟩
  refine ok_of (gets_sem t_values_at rfl ?_)
  have hb := num_lt h
  simp [dSs, dS, dE, dEs, dAnd, dOr, dT, Ev.tAnd, Ev.tOr, dU, dN, dB2, dIf, dVar, dCst, dO, dC, dI, dCall, dKall, pick, entry, isiV, isTy, tobV, truO, truV, okIf, datOf, seqOf, lstOf, datas, lstV, tupV, Out.bind_ok, f_values_at, r_want_sizes (n := m) (by omega) hz h0 hl, r_want_number (n := m) (by omega) hz hb.1 hb.2, r_values_by_number (n := m) (by omega) hz h hl]
/-! ### weights -/
def wts : List Int → List Int
  | [] => []
  | _ :: zs => prodL zs :: wts zs
theorem wts_idx : ∀ (zs zs' : List Int) (k : Nat), zs'.drop k = zs → (List.range' k zs.length).map (fun i => prodL (zs'.drop (i + 1))) = wts zs
  | [], _, _, _ => rfl
  | z :: zs, zs', k, hd => by
    have h2 : zs'.drop (k + 1) = zs := by
      have := congrArg (List.drop 1) hd
      simpa [List.drop_drop, Nat.add_comm] using this
    show (List.range' k (zs.length + 1)).map _ = _
    rw [List.range'_succ, List.map_cons, wts_idx zs zs' (k + 1) h2, h2]
    rfl
theorem wts_len : ∀ zs, (wts zs).length = zs.length
  | [] => rfl
  | _ :: zs => congrArg Nat.succ (wts_len zs)
theorem atI_last {xs : List PyData} {x : PyData} : atI (xs ++ [x]) (-1) = some x := by
  unfold atI ixN
  rw [if_neg (by decide), if_pos (by simp; omega)]
  have e : (-1 + ((xs.length : Int) + 1)).toNat = xs.length := by omega
  simp [e]
def IWts (zs : List Int) (S : Store) (its : List Val) (ρ : EnvD) (S' : Store) : Prop := ∃ (ys q : List Int) (x : Option Val), its = ys.map (fun y => Val.d (.int y)) ∧ ρ = [some (.d (Ints zs)), some (.loc S.length), x] ∧ Sz ys ∧ Sz q ∧ ys.reverse ++ q = zs.drop 1 ∧ ys.length + q.length ≤ 1000 ∧
  S' = S ++ [.lst ((wts q).reverse.map .int ++ [.int (prodL q)])]
theorem r_weights_by {n : Nat} (hn : 0 < n) {zs : List Int} (hz : Sz zs) (h0 : zs ≠ []) (hl : zs.length ≤ 1000) (S : Store) : sem G T n 25 [.d (Ints zs)] S = .ok (.d (Ints (wts zs))) S := by
  obtain ⟨m, rfl⟩ : ∃ m, n = m + 1 := ⟨n - 1, by omega⟩
  refine ok_of (gets_sem t_weights_by rfl ?_)
  have e1 : (1 : Nat) ≤ sizeLine := line_of (by decide)
  simp [dSs, dS, dE, dEs, dAnd, dOr, dT, Ev.tAnd, Ev.tOr, dU, dN, dB2, dIf, dVar, dCst, dO, dC, dI, dCall, dKall, pick, entry, isiV, isTy, tobV, truO, truV, okIf, datOf, seqOf, lstOf, datas, lstV, tupV, Out.bind_ok, f_weights_by, tgt, e1]
  refine gs_for (IWts zs S) ?_ ?_ _ _ _ ⟨(zs.drop 1).reverse, [], none, (by simp; rfl), rfl, (fun z hz' => hz z (List.mem_of_mem_drop (List.mem_reverse.mp hz'))), (fun _ h => by cases h), by simp, by simp; omega, by simp [wts, prodL]⟩
  · rintro v its ρ S' ⟨ys, q, x, e, rfl, hy, hq, hw, hw2, rfl⟩
    cases ys with
    | nil => cases e
    | cons y ys =>
      cases e
      have h1 := hy y List.mem_cons_self
      have hS : ∀ xs, (S ++ [Ob.lst xs])[S.length]? = some (.lst xs) := fun xs => by simp
      have hz3 : ((wts q).reverse.map PyData.int ++ [PyData.int (prodL q)]).length < sizeLine := by
        rw [List.length_append, List.length_map, List.length_reverse, wts_len, List.length_singleton, sizeLine_eq]
        simp at hw2
        omega
      have e5 := idx_loc (S := S ++ [Ob.lst ((wts q).reverse.map PyData.int ++ [PyData.int (prodL q)])]) (i := -1) (hS _)
      rw [atI_last] at e5
      simp [dSs, dS, dE, dEs, dAnd, dOr, dT, Ev.tAnd, Ev.tOr, dU, dN, dB2, dIf, dVar, dCst, dO, dC, dI, dCall, dKall, pick, entry, isiV, isTy, tobV, truO, truV, okIf, datOf, seqOf, lstOf, datas, lstV, tupV, Out.bind_ok, tgt, recV, -List.map_reverse, e5, app_loc (hS _) hz3]
      refine ⟨fun _ => ⟨ys, y :: q, some (.d (.int y)), rfl, rfl, fun z hz => hy z (List.mem_cons_of_mem _ hz), fun z hz => ?_, by simpa using hw, by simp at hw2 ⊢; omega, ?_⟩, by omega⟩
      · rcases List.mem_cons.mp hz with e | hz
        · rw [e]; exact h1
        · exact hq z hz
      · simp [wts, prodL, Int.mul_comm]
  · rintro ρ S' ⟨ys, q, x, e, rfl, hy, hq, hw, hw2, rfl⟩
    cases ys with
    | cons y' ys => cases e
    | nil =>
      have hS : ∀ xs, (S ++ [Ob.lst xs])[S.length]? = some (.lst xs) := fun xs => by simp
      cases zs with
      | nil => exact absurd rfl h0
      | cons z zs =>
        have e2 : q = zs := by simpa using hw
        subst e2
        simp [dSs, dS, dE, dEs, dAnd, dOr, dT, Ev.tAnd, Ev.tOr, dU, dN, dB2, dIf, dVar, dCst, dO, dC, dI, dCall, dKall, pick, entry, isiV, isTy, tobV, truO, truV, okIf, datOf, seqOf, lstOf, datas, lstV, tupV, Out.bind_ok, -List.map_reverse, rev_loc (hS _)]
        simp [wts]
theorem r_weights {n : Nat} (hn : 3 < n) {zs : List Int} (hz : Sz zs) (h0 : zs ≠ []) (hl : zs.length ≤ 1000) (S : Store) : sem G T n 34 [.d (Ints zs)] S = .ok (.d (Ints (wts zs))) S := by
  obtain ⟨m, rfl⟩ : ∃ m, n = m + 1 := ⟨n - 1, by omega⟩
  refine ok_of (gets_sem t_weights rfl ?_)
  simp [dSs, dS, dE, dEs, dAnd, dOr, dT, Ev.tAnd, Ev.tOr, dU, dN, dB2, dIf, dVar, dCst, dO, dC, dI, dCall, dKall, pick, entry, isiV, isTy, tobV, truO, truV, okIf, datOf, seqOf, lstOf, datas, lstV, tupV, Out.bind_ok, f_weights, r_want_sizes (n := m) (by omega) hz h0 hl, r_weights_by (n := m) (by omega) hz h0 hl]
end HT
end

section
set_option Elab.async false
set_option linter.all false
set_option maxRecDepth 100000
set_option maxHeartbeats 4000000
namespace HT
open PySem PySem.Spec L2 Ev
/-! ### the next values -/
def sucL : List Int → List Int → Option (List Int)
  | z :: zs, v :: vs => if v + 1 < z then some ((v + 1) :: vs) else (sucL zs vs).map (0 :: ·)
  | _, _ => none
def sucO (zs vs : List Int) : PyData := match sucL zs.reverse vs.reverse with
  | some w => Ints w.reverse
  | none => .none
theorem suc_some : ∀ {zs vs w : List Int}, Sz zs → InR zs vs → sucL zs vs = some w → InR zs w ∧ numL zs w = numL zs vs + 1
  | [], [], _, _, _, h => by cases h
  | z :: zs, v :: vs, w, hz, hr, h => by
    unfold sucL at h
    split at h
    · rename_i hlt
      cases h
      have := hr.1
      exact ⟨⟨⟨by omega, hlt⟩, hr.2⟩, by show v + 1 + z * numL zs vs = v + z * numL zs vs + 1; omega⟩
    · rename_i hlt
      cases e : sucL zs vs with
      | none => rw [e] at h; cases h
      | some u =>
        rw [e] at h
        cases h
        obtain ⟨h1, h2⟩ := suc_some (fun y hy => hz y (List.mem_cons_of_mem _ hy)) hr.2 e
        have h3 := hr.1
        have h4 := hz z List.mem_cons_self
        refine ⟨⟨⟨by omega, by omega⟩, h1⟩, ?_⟩
        show 0 + z * numL zs u = v + z * numL zs vs + 1
        rw [h2, Int.mul_add, Int.mul_one]
        omega
  | [], _ :: _, _, _, h, _ => h.elim
  | _ :: _, [], _, _, h, _ => h.elim
theorem suc_none : ∀ {zs vs : List Int}, Sz zs → InR zs vs → sucL zs vs = none → numL zs vs + 1 = prodL zs
  | [], [], _, _, _ => by simp [numL, prodL]
  | z :: zs, v :: vs, hz, hr, h => by
    unfold sucL at h
    split at h
    · cases h
    · rename_i hlt
      have h1 := suc_none (fun y hy => hz y (List.mem_cons_of_mem _ hy)) hr.2 (by simpa using h)
      have h3 := hr.1
      show v + z * numL zs vs + 1 = z * prodL zs
      rw [← h1, Int.mul_add, Int.mul_one]
      omega
  | [], _ :: _, _, h, _ => h.elim
  | _ :: _, [], _, h, _ => h.elim
theorem prod_rev : ∀ zs : List Int, prodL zs.reverse = prodL zs
  | [] => rfl
  | z :: zs => by
    rw [List.reverse_cons, prod_snoc, prod_rev zs, Int.mul_comm]
    rfl
theorem Sz.rev {zs : List Int} (h : Sz zs) : Sz zs.reverse := fun z hz => h z (List.mem_reverse.mp hz)
/-- what comes next, by the numbers -/
theorem suc_cases {zs vs : List Int} (hz : Sz zs) (hr : InR zs vs) : (sucO zs vs = .none ∧ numR zs vs = prodL zs - 1) ∨ ∃ ws, sucO zs vs = Ints ws ∧ InR zs ws ∧ numR zs ws = numR zs vs + 1 := by
  have hl := hr.len
  have e0 : numL zs.reverse vs.reverse = numR zs vs := by
    rw [num_rev (by simp [hl])]
    simp
  unfold sucO
  cases e : sucL zs.reverse vs.reverse with
  | none =>
    have := suc_none hz.rev hr.rev e
    rw [e0, prod_rev] at this
    exact .inl ⟨rfl, by omega⟩
  | some w =>
    obtain ⟨h1, h2⟩ := suc_some hz.rev hr.rev e
    have hw := h1.len
    refine .inr ⟨w.reverse, rfl, by simpa using h1.rev, ?_⟩
    rw [e0] at h2
    rw [← h2, num_rev hw]
    simp
def IBeh (zs vs : List Int) (S : Store) (its : List Val) (ρ : EnvD) (S' : Store) : Prop := ∃ (rz rv pz : List Int) (k : Nat) (x : Option Val), its = (List.range' k rz.length).map (fun (j : Nat) => Val.d (.int ((zs.length : Int) - 1 - (j : Int)))) ∧ ρ = [some (.d (Ints zs)), some (.d (Ints vs)), some (.loc S.length), x] ∧
  k + rz.length = zs.length ∧ rv.length = rz.length ∧ zs = rz.reverse ++ pz ∧ sucL zs.reverse vs.reverse = (sucL rz rv).map (fun w => List.replicate k 0 ++ w) ∧ S' = S ++ [.lst ((rv.reverse ++ List.replicate k 0).map .int)]
theorem r_behind {n : Nat} (hn : 0 < n) {zs vs : List Int} (h : InR zs vs) (hl : zs.length ≤ 1000) (S : Store) : sem G T n 44 [.d (Ints zs), .d (Ints vs)] S = .ok (.d (sucO zs vs)) S := by
  obtain ⟨m, rfl⟩ : ∃ m, n = m + 1 := ⟨n - 1, by omega⟩
  refine ok_of (gets_sem t_law_behind rfl ?_)
  have hlen := h.len
  simp [dSs, dS, dE, dEs, dAnd, dOr, dT, Ev.tAnd, Ev.tOr, dU, dN, dB2, dIf, dVar, dCst, dO, dC, dI, dCall, dKall, pick, entry, isiV, isTy, tobV, truO, truV, okIf, datOf, seqOf, lstOf, datas, lstV, tupV, Out.bind_ok, f_law_behind, tgt]
  refine ⟨fun _ _ => ?_, by omega, by omega⟩
  refine gs_for (IBeh zs vs S) ?_ ?_ _ _ _ ⟨zs.reverse, vs.reverse, [], 0, none, ?_, rfl, by simp, by simp [hlen], by simp, by simp, by simp⟩
  · rintro v its ρ S' ⟨rz, rv, pz, k, x, e, rfl, hk, hv, hz, hs, rfl⟩
    cases rz with
    | nil => cases e
    | cons z rz =>
      cases rv with
      | nil => cases hv
      | cons u rv =>
        rw [List.length_cons, List.range'_succ, List.map_cons] at e
        cases e
        have hv' : rv.length = rz.length := by simpa using hv
        have ix : (zs.length : Int) - 1 - (k : Int) = (rz.length : Int) := by
          simp at hk
          omega
        have hS : ∀ xs, (S ++ [Ob.lst xs])[S.length]? = some (.lst xs) := fun xs => by simp
        obtain ⟨late, hlate⟩ : ∃ l, l = ((u :: rv).reverse ++ List.replicate k 0).map PyData.int := ⟨_, rfl⟩
        obtain ⟨L, hL⟩ : ∃ L : Int → List PyData, L = fun y => (rv.reverse ++ y :: List.replicate k 0).map PyData.int := ⟨_, rfl⟩
        rw [← hlate]
        have e1 : atI late (rz.length : Int) = some (.int u) := by
          have := atI_mid (l := rv.reverse.map PyData.int) (z := PyData.int u) (r := (List.replicate k 0).map PyData.int)
          rw [hlate]
          simpa [hv'] using this
        have e2 : atI (zs.map PyData.int) (rz.length : Int) = some (.int z) := by
          have := atI_mid (l := rz.reverse.map PyData.int) (z := PyData.int z) (r := pz.map PyData.int)
          rw [hz]
          simpa using this
        have e3 : ixN late.length (rz.length : Int) = some rz.length := by
          have := ixN_mid (l := rv.reverse.map PyData.int) (z := PyData.int u) (r := (List.replicate k 0).map PyData.int)
          rw [hlate]
          simpa [hv'] using this
        have e4 : ∀ y : Int, late.set rz.length (.int y) = L y := fun y => by
          rw [← hv', hlate, hL]
          simp [List.set_append]
        have g1 := idx_loc (i := (rz.length : Int)) (hS late)
        rw [e1] at g1
        have g2 := fun y : Int => set_loc (i := (rz.length : Int)) (w := .int y) (hS late)
        have st : ∀ y : Int, (S ++ [Ob.lst late]).set S.length (Ob.lst (L y)) = S ++ [Ob.lst (L y)] := fun y => by simp
        simp only [e3, e4, st] at g2
        have g3 : ∀ y : Int, biV .tuple [.loc S.length] (S ++ [Ob.lst (L y)]) = .ok (.d (.tuple (L y))) (S ++ [Ob.lst (L y)]) := fun y => tuple_loc (hS _)
        have hsuc : sucL zs.reverse vs.reverse = (if u + 1 < z then some (List.replicate k 0 ++ (u + 1) :: rv) else (sucL rz rv).map fun w => List.replicate (k + 1) 0 ++ w) := by
          rw [hs]
          show Option.map _ (if u + 1 < z then some ((u + 1) :: rv) else (sucL rz rv).map (0 :: ·)) = _
          split
          · rfl
          · rw [Option.map_map]
            congr 1
            funext w
            simp [List.replicate_succ']
        simp [dSs, dS, dE, dEs, dAnd, dOr, dT, Ev.tAnd, Ev.tOr, dU, dN, dB2, dIf, dVar, dCst, dO, dC, dI, dCall, dKall, pick, entry, isiV, isTy, tobV, truO, truV, okIf, datOf, seqOf, lstOf, datas, lstV, tupV, Out.bind_ok, tgt, ix, g1, g2, g3, e2]
        refine ⟨fun hlt => ?_, fun hge => ?_⟩
        · unfold sucO
          rw [hsuc, if_pos hlt, hL]
          simp
        · refine ⟨rz, rv, z :: pz, k + 1, _, rfl, rfl, by simp at hk; omega, hv', by rw [hz]; simp, ?_, ?_⟩
          · rw [hsuc, if_neg (by omega)]
          · rw [hL]
            simp [List.replicate_succ]
  · rintro ρ S' ⟨rz, rv, pz, k, x, e, rfl, hk, hv, hz, hs, rfl⟩
    cases rz with
    | cons z rz => rw [List.length_cons, List.range'_succ, List.map_cons] at e; cases e
    | nil =>
      simp [dSs, dS, dE, dEs, dAnd, dOr, dT, Ev.tAnd, Ev.tOr, dU, dN, dB2, dIf, dVar, dCst, dO, dC, dI, dCall, dKall, pick, entry, isiV, isTy, tobV, truO, truV, okIf, datOf, seqOf, lstOf, datas, lstV, tupV, Out.bind_ok]
      unfold sucO
      rw [hs]
      cases rv <;> rfl
  · simp only [List.length_reverse, List.range_eq_range']
/-! ### what is drawn -/
def ISz (S : Store) (p : Nat) (L : Nat) (its : List Val) (acc : List PyData) (S' : Store) : Prop := ∃ zs : List Int, ∃ o, acc = zs.map .int ∧ Sz zs ∧ zs.length + its.length = L ∧ PotO o ∧ S' = S.set p o
theorem r_sizes {n : Nat} (hn : 2 < n) {p : Nat} {S : Store} (h : Pot p S) :
    Gets (sem G T n 45 [.loc p] S) fun v S' => ∃ zs o, v = .d (Ints zs) ∧ Sz zs ∧ 2 ≤ zs.length ∧ zs.length ≤ 22 ∧ PotO o ∧ S' = S.set p o := by
  obtain ⟨m, rfl⟩ : ∃ m, n = m + 1 := ⟨n - 1, by omega⟩
  refine gets_sem t_law_sizes rfl ?_
  obtain ⟨_, _, e1, d, hd, o1, rfl, h1, rfl⟩ := r_pick (n := m) (by omega) (some := [.int 3, .int 8, .int 22]) h (by simp) (by simp)
  obtain ⟨i, rfl, hi, hi2⟩ : ∃ i : Int, d = .int i ∧ 3 ≤ i ∧ i ≤ 22 := by
    simp at hd
    rcases hd with rfl | rfl | rfl
    · exact ⟨3, rfl, by decide, by decide⟩
    · exact ⟨8, rfl, by decide, by decide⟩
    · exact ⟨22, rfl, by decide, by decide⟩
  have p1 := h.set h1
  obtain ⟨_, _, e2, j, o2, rfl, hj, hj2, h2, rfl⟩ := r_draw (n := m) (by omega) p1 (m := i - 1) (by omega) (by omega)
  have six : (6 : Nat) ≤ sizeLine := line_of (by decide)
  have three : (3 : Nat) ≤ sizeLine := line_of (by decide)
  simp [dSs, dS, dE, dEs, dAnd, dOr, dT, Ev.tAnd, Ev.tOr, dU, dN, dB2, dIf, dVar, dCst, dO, dC, dI, dCall, dKall, pick, entry, isiV, isTy, tobV, truO, truV, okIf, datOf, seqOf, lstOf, datas, lstV, tupV, Out.bind_ok, f_law_sizes, tgt, three, e1, e2]
  refine gets_dLc ?_
  simp [dSs, dS, dE, dEs, dAnd, dOr, dT, Ev.tAnd, Ev.tOr, dU, dN, dB2, dIf, dVar, dCst, dO, dC, dI, dCall, dKall, pick, entry, isiV, isTy, tobV, truO, truV, okIf, datOf, seqOf, lstOf, datas, lstV, tupV, Out.bind_ok, e2]
  refine ⟨fun _ _ => ?_, by omega, by omega⟩
  have hp2 : Pot p (S.set p o2) := h.set h2
  refine gets_lc (ISz S p (2 + j).toNat) ?_ ?_ _ _ _ ⟨[], o2, rfl, (fun _ h => by cases h), by simp [rngI], h2, rfl⟩
  · rintro v its acc S' ⟨zs, o, rfl, hz, hl, ho, rfl⟩
    refine ⟨by simp [Itm.ck, rngI], by rw [List.length_map, sizeLine_eq]; simp at hl; omega, _, rfl, ?_⟩
    have p3 := h.set ho
    obtain ⟨_, _, e3, a, o3, rfl, ha, ha2, h3, rfl⟩ := r_draw (n := m) (by omega) p3 (m := 20) (by omega) (by omega)
    have p4 := p3.set h3
    obtain ⟨_, _, e4, d, hd, o4, rfl, h4, rfl⟩ := r_pick (n := m) (by omega) (some := [.int 1, .int 2, .int 2, .int 3, .int 5, .int (1 + a)]) p4 (by simp) (by simp)
    obtain ⟨y, rfl, hy, hy2⟩ : ∃ y : Int, d = .int y ∧ 1 ≤ y ∧ y ≤ 20 := by
      simp at hd
      rcases hd with rfl | rfl | rfl | rfl | rfl
      · exact ⟨1, rfl, by decide, by decide⟩
      · exact ⟨2, rfl, by decide, by decide⟩
      · exact ⟨3, rfl, by decide, by decide⟩
      · exact ⟨5, rfl, by decide, by decide⟩
      · exact ⟨1 + a, rfl, by omega, by omega⟩
    simp only [List.set_set] at e3 e4
    simp [dSs, dS, dE, dEs, dAnd, dOr, dT, Ev.tAnd, Ev.tOr, dU, dN, dB2, dIf, dVar, dCst, dO, dC, dI, dCall, dKall, pick, entry, isiV, isTy, tobV, truO, truV, okIf, datOf, seqOf, lstOf, datas, lstV, tupV, Out.bind_ok, wipeD, e3, e4, six]
    refine ⟨zs ++ [y], o4, by simp, fun w hw => ?_, by simp at hl ⊢; omega, h4, rfl⟩
    rcases List.mem_append.mp hw with hw | hw
    · exact hz w hw
    · rw [List.mem_singleton.mp hw]; exact ⟨hy, hy2⟩
  · rintro acc S' ⟨zs, o, rfl, hz, hl, ho, rfl⟩
    refine ⟨by simp [Itm.ck, rngI], ?_⟩
    simp at hl
    simp
    exact ⟨zs, rfl, hz, by omega, by omega, o, ho, rfl⟩
def IVs (zs : List Int) (S : Store) (p : Nat) (its : List Val) (acc : List PyData) (S' : Store) : Prop := ∃ ys us rs : List Int, ∃ o, acc = us.map .int ∧ its = rs.map (fun y => Val.d (.int y)) ∧ zs = ys ++ rs ∧ InR ys us ∧ PotO o ∧ S' = S.set p o
theorem inr_zero : ∀ {zs : List Int}, Sz zs → InR zs (List.replicate zs.length 0)
  | [], _ => True.intro
  | z :: zs, h => ⟨⟨by decide, by have := h z List.mem_cons_self; omega⟩, inr_zero fun y hy => h y (List.mem_cons_of_mem _ hy)⟩
theorem inr_top : ∀ {zs : List Int}, Sz zs → InR zs (zs.map fun z => z - 1)
  | [], _ => True.intro
  | z :: zs, h => ⟨by have := h z List.mem_cons_self; show 0 ≤ z - 1 ∧ z - 1 < z; omega, inr_top fun y hy => h y (List.mem_cons_of_mem _ hy)⟩
theorem r_values {n : Nat} (hn : 2 < n) {p : Nat} {S : Store} (h : Pot p S) {zs : List Int} (hz : Sz zs) (h2 : 2 ≤ zs.length) (hl : zs.length ≤ 23) :
    Gets (sem G T n 46 [.loc p, .d (Ints zs)] S) fun v S' => ∃ vs o, v = .d (Ints vs) ∧ InR zs vs ∧ PotO o ∧ S' = S.set p o := by
  obtain ⟨m, rfl⟩ : ∃ m, n = m + 1 := ⟨n - 1, by omega⟩
  refine gets_sem t_law_values rfl ?_
  obtain ⟨_, _, e1, d, o1, rfl, hd, hd2, h1, rfl⟩ := r_draw (n := m) (by omega) h (m := 6) (by omega) (by omega)
  have four : (4 : Nat) ≤ sizeLine := line_of (by decide)
  have one : (1 : Nat) ≤ sizeLine := line_of (by decide)
  simp [dSs, dS, dE, dEs, dAnd, dOr, dT, Ev.tAnd, Ev.tOr, dU, dN, dB2, dIf, dVar, dCst, dO, dC, dI, dCall, dKall, pick, entry, isiV, isTy, tobV, truO, truV, okIf, datOf, seqOf, lstOf, datas, lstV, tupV, Out.bind_ok, f_law_values, tgt, e1, one]
  refine ⟨fun _ => ?_, fun _ => ⟨fun _ => ?_, fun _ => ?_⟩⟩
  · have hm := inr_zero hz
    exact ⟨fun _ => ⟨List.replicate zs.length 0, by simp, hm, o1, h1, rfl⟩, by omega⟩
  · refine gets_each (fun z : Int => Val.d (.int z)) (fun z => .int (z - 1)) zs (n := none) (S := S.set p o1) (by simp [dSs, dS, dE, dEs, dAnd, dOr, dT, Ev.tAnd, Ev.tOr, dU, dN, dB2, dIf, dVar, dCst, dO, dC, dI, dCall, dKall, pick, entry, isiV, isTy, tobV, truO, truV, okIf, datOf, seqOf, lstOf, datas, lstV, tupV, Out.bind_ok]) (by simp) (fun z hz => ⟨_, rfl, by simp [dSs, dS, dE, dEs, dAnd, dOr, dT, Ev.tAnd, Ev.tOr, dU, dN, dB2, dIf, dVar, dCst, dO, dC, dI, dCall, dKall, pick, entry, isiV, isTy, tobV, truO, truV, okIf, datOf, seqOf, lstOf, datas, lstV, tupV, Out.bind_ok, wipeD]⟩) (line_of (by omega)) ?_
    simp
    exact ⟨zs.map fun z => z - 1, by simp, inr_top hz, o1, h1, rfl⟩
  · refine gets_dLc ?_
    simp [dSs, dS, dE, dEs, dAnd, dOr, dT, Ev.tAnd, Ev.tOr, dU, dN, dB2, dIf, dVar, dCst, dO, dC, dI, dCall, dKall, pick, entry, isiV, isTy, tobV, truO, truV, okIf, datOf, seqOf, lstOf, datas, lstV, tupV, Out.bind_ok]
    refine gets_lc (IVs zs S p) ?_ ?_ _ _ _ ⟨[], [], zs, o1, rfl, by simp, rfl, True.intro, h1, rfl⟩
    · rintro v its acc S' ⟨ys, us, rs, o, rfl, e, hzs, hr, ho, rfl⟩
      cases rs with
      | nil => cases e
      | cons r rs =>
        cases e
        have hr1 := hz r (by rw [hzs]; simp)
        have hus := hr.len
        have hys : ys.length + (r :: rs).length = zs.length := by rw [hzs]; simp
        refine ⟨True.intro, by rw [List.length_map, sizeLine_eq]; simp at hys; omega, _, rfl, ?_⟩
        have p3 := h.set ho
        obtain ⟨_, _, e3, a, o3, rfl, ha, ha2, h3, rfl⟩ := r_draw (n := m) (by omega) p3 (m := r) (by omega) (by omega)
        have p4 := p3.set h3
        obtain ⟨_, _, e4, b, o4, rfl, hb, hb2, h4, rfl⟩ := r_draw (n := m) (by omega) p4 (m := r) (by omega) (by omega)
        have p5 := p4.set h4
        obtain ⟨_, _, e5, d, hd, o5, rfl, h5, rfl⟩ := r_pick (n := m) (by omega) (some := [.int 0, .int (r - 1), .int a, .int b]) p5 (by simp) (by simp)
        obtain ⟨y, rfl, hy, hy2⟩ : ∃ y : Int, d = .int y ∧ 0 ≤ y ∧ y < r := by
          simp at hd
          rcases hd with rfl | rfl | rfl | rfl
          · exact ⟨0, rfl, by decide, by omega⟩
          · exact ⟨r - 1, rfl, by omega, by omega⟩
          · exact ⟨a, rfl, ha, ha2⟩
          · exact ⟨b, rfl, hb, hb2⟩
        simp only [List.set_set] at e3 e4 e5
        simp [dSs, dS, dE, dEs, dAnd, dOr, dT, Ev.tAnd, Ev.tOr, dU, dN, dB2, dIf, dVar, dCst, dO, dC, dI, dCall, dKall, pick, entry, isiV, isTy, tobV, truO, truV, okIf, datOf, seqOf, lstOf, datas, lstV, tupV, Out.bind_ok, wipeD, e3, e4, e5, four]
        exact ⟨ys ++ [r], us ++ [y], rs, o5, by simp, rfl, by rw [hzs]; simp, InR.app hr ⟨⟨hy, hy2⟩, True.intro⟩, h5, rfl⟩
    · rintro acc S' ⟨ys, us, rs, o, rfl, e, hzs, hr, ho, rfl⟩
      cases rs with
      | cons r rs => cases e
      | nil =>
        rw [List.append_nil] at hzs
        subst hzs
        refine ⟨True.intro, ?_⟩
        simp
        exact ⟨us, rfl, hr, o, ho, rfl⟩
end HT
end

section
set_option Elab.async false
set_option linter.all false
set_option maxRecDepth 100000
set_option maxHeartbeats 4000000
namespace HT
open PySem PySem.Spec L2 Ev
/-! ### texts, variables -/
def Txt (x : Str) : Prop := 1 ≤ x.length ∧ x.length ≤ 200 ∧ ∀ c ∈ x.cps.toList, 32 ≤ c ∧ c ≤ 126
theorem sp_ord {c : Nat} (h : 32 ≤ c ∧ c ≤ 126) : (!decide ((⟨#[c]⟩ : Str).cps.toList < (" " : Str).cps.toList)) = true ∧ (!decide (("~" : Str).cps.toList < (⟨#[c]⟩ : Str).cps.toList)) = true := by
  have e1 : (" " : Str).cps.toList = [32] := by decide +kernel
  have e2 : ("~" : Str).cps.toList = [126] := by decide +kernel
  rw [e1, e2]
  simp [List.cons_lt_cons_iff]
  omega
theorem r_is_text {n : Nat} (hn : 0 < n) {x : Str} (h : Txt x) (S : Store) : sem G T n 3 [.d (.str x)] S = .ok (.d (.bool true)) S := by
  obtain ⟨m, rfl⟩ : ∃ m, n = m + 1 := ⟨n - 1, by omega⟩
  refine ok_of (gets_sem t_is_text rfl ?_)
  obtain ⟨h1, h2, h3⟩ := h
  have hx : x.length ≤ sizeLine := line_of (by omega)
  have hg : G[0]? = some (.int 200) := rfl
  have a1 : (1 : Int) ≤ (x.length : Int) := by omega
  have a2 : (x.length : Int) ≤ 200 := by omega
  simp [dSs, dS, dE, dEs, dAnd, dOr, dT, Ev.tAnd, Ev.tOr, dU, dN, dB2, dIf, dVar, dCst, dO, dC, dI, dCall, dKall, pick, entry, isiV, isTy, tobV, truO, truV, okIf, datOf, seqOf, lstOf, datas, lstV, tupV, Out.bind_ok, f_is_text, hx, hg, a1, a2]
  refine gets_each (fun c : Nat => Val.d (.str ⟨#[c]⟩)) (fun _ => .bool true) x.cps.toList (n := none) (S := S) (by simp [dSs, dS, dE, dEs, dAnd, dOr, dT, Ev.tAnd, Ev.tOr, dU, dN, dB2, dIf, dVar, dCst, dO, dC, dI, dCall, dKall, pick, entry, isiV, isTy, tobV, truO, truV, okIf, datOf, seqOf, lstOf, datas, lstV, tupV, Out.bind_ok]) (by simp) (fun c hc => ⟨_, rfl, ?_⟩) (by rw [Array.length_toList]; exact hx) ?_
  · obtain ⟨e1, e2⟩ := sp_ord (h3 c hc)
    simp only [dSs, dS, dE, dEs, dAnd, dOr, dT, Ev.tAnd, Ev.tOr, dU, dN, dB2, dIf, dVar, dCst, dO, dC, dI, dCall, dKall, pick, entry, isiV, isTy, tobV, truO, truV, okIf, datOf, seqOf, lstOf, datas, lstV, tupV, Out.bind_ok, wipeD, List.set, List.getElem?_cons_succ, List.getElem?_cons_zero, le_ss, e1, e2]
    simp [dSs, dS, dE, dEs, dAnd, dOr, dT, Ev.tAnd, Ev.tOr, dU, dN, dB2, dIf, dVar, dCst, dO, dC, dI, dCall, dKall, pick, entry, isiV, isTy, tobV, truO, truV, okIf, datOf, seqOf, lstOf, datas, lstV, tupV, Out.bind_ok, e1, e2]
  · simp
theorem once_nodup : ∀ {ss acc : List Str}, ss.Nodup → (∀ x ∈ ss, x ∉ acc) → ss.foldl addD acc = acc ++ ss
  | [], acc, _, _ => by simp
  | x :: ss, acc, h, h2 => by
    obtain ⟨h3, h4⟩ := List.nodup_cons.mp h
    have e : addD acc x = acc ++ [x] := if_neg (h2 x List.mem_cons_self)
    show ss.foldl addD (addD acc x) = _
    rw [e, once_nodup h4 fun y hy => ?_]
    · simp
    · intro m
      rcases List.mem_append.mp m with m | m
      · exact h2 y (List.mem_cons_of_mem _ hy) m
      · rw [List.mem_singleton.mp m] at hy
        exact h3 hy
theorem once_of {ss : List Str} (h : ss.Nodup) : onceS ss = ss := by
  have := once_nodup (acc := []) h (by simp)
  simpa [onceS] using this
abbrev Va := Str × List Str
abbrev varD (v : Va) : PyData := .tuple [.str v.1, .tuple (v.2.map .str)]
abbrev varsD (l : List Va) : PyData := .tuple (l.map varD)
structure VaOk (v : Va) : Prop where
  txt : Txt v.1
  nd : v.2.Nodup
  one : 1 ≤ v.2.length
  few : v.2.length ≤ 100
theorem r_is_variable {n : Nat} (hn : 1 < n) {v : Va} (h : VaOk v) (S : Store) : sem G T n 4 [.d (varD v)] S = .ok (.d (.bool true)) S := by
  obtain ⟨m, rfl⟩ : ∃ m, n = m + 1 := ⟨n - 1, by omega⟩
  refine ok_of (gets_sem t_is_variable rfl ?_)
  obtain ⟨lab, names⟩ := v
  have h1 := h.one
  have h2 := h.few
  dsimp only at h1 h2
  simp [dSs, dS, dE, dEs, dAnd, dOr, dT, Ev.tAnd, Ev.tOr, dU, dN, dB2, dIf, dVar, dCst, dO, dC, dI, dCall, dKall, pick, entry, isiV, isTy, tobV, truO, truV, okIf, datOf, seqOf, lstOf, datas, lstV, tupV, Out.bind_ok, f_is_variable, r_is_tuple (n := m) (by omega), tupN, atI, ixN, r_is_text (n := m) (by omega) h.txt]
  refine ⟨fun e => ?_, fun _ => ?_⟩
  · simp [e] at h1
  · refine gets_each (fun x : Str => Val.d (.str x)) (fun _ => .bool true) names (n := none) (S := S) (by simp [dSs, dS, dE, dEs, dAnd, dOr, dT, Ev.tAnd, Ev.tOr, dU, dN, dB2, dIf, dVar, dCst, dO, dC, dI, dCall, dKall, pick, entry, isiV, isTy, tobV, truO, truV, okIf, datOf, seqOf, lstOf, datas, lstV, tupV, Out.bind_ok, atI, ixN]) (by simp) (fun x hx => ⟨_, rfl, by simp [dSs, dS, dE, dEs, dAnd, dOr, dT, Ev.tAnd, Ev.tOr, dU, dN, dB2, dIf, dVar, dCst, dO, dC, dI, dCall, dKall, pick, entry, isiV, isTy, tobV, truO, truV, okIf, datOf, seqOf, lstOf, datas, lstV, tupV, Out.bind_ok, wipeD]⟩) (line_of (by omega)) ?_
    simp [once_of h.nd]
    omega
structure VasOk (l : List Va) : Prop where
  each : ∀ v ∈ l, VaOk v
  nd : (l.map (·.1)).Nodup
  two : 2 ≤ l.length
  few : l.length ≤ 100
  room : ∃ v r, l = v :: r ∧ v.1 = ("room" : Str)
  ended : ∃ v r ns, l = r ++ [v] ∧ v.1 = ("ended" : Str) ∧ v.2 = ("" : Str) :: ns
theorem atI_end {α : Type} {l : List α} {x : α} : atI (l ++ [x]) (-1) = some x := by
  unfold atI ixN
  rw [if_neg (by decide), if_pos (by simp; omega)]
  have e : (-1 + ((l.length : Int) + 1)).toNat = l.length := by omega
  simp [e]
theorem r_are_variables {n : Nat} (hn : 2 < n) {l : List Va} (h : VasOk l) (S : Store) : sem G T n 5 [.d (varsD l)] S = .ok (.d (.bool true)) S := by
  obtain ⟨m, rfl⟩ : ∃ m, n = m + 1 := ⟨n - 1, by omega⟩
  refine ok_of (gets_sem t_are_variables rfl ?_)
  have h1 := h.two
  have h2 := h.few
  have line : l.length ≤ sizeLine := line_of (by omega)
  simp [dSs, dS, dE, dEs, dAnd, dOr, dT, Ev.tAnd, Ev.tOr, dU, dN, dB2, dIf, dVar, dCst, dO, dC, dI, dCall, dKall, pick, entry, isiV, isTy, tobV, truO, truV, okIf, datOf, seqOf, lstOf, datas, lstV, tupV, Out.bind_ok, f_are_variables, tgt]
  refine ⟨by omega, fun _ => ?_⟩
  refine gets_each (fun v : Va => Val.d (varD v)) (fun _ => .bool true) l (n := none) (S := S) (by simp [dSs, dS, dE, dEs, dAnd, dOr, dT, Ev.tAnd, Ev.tOr, dU, dN, dB2, dIf, dVar, dCst, dO, dC, dI, dCall, dKall, pick, entry, isiV, isTy, tobV, truO, truV, okIf, datOf, seqOf, lstOf, datas, lstV, tupV, Out.bind_ok]) (by simp) (fun v hv => ⟨_, rfl, by simp [dSs, dS, dE, dEs, dAnd, dOr, dT, Ev.tAnd, Ev.tOr, dU, dN, dB2, dIf, dVar, dCst, dO, dC, dI, dCall, dKall, pick, entry, isiV, isTy, tobV, truO, truV, okIf, datOf, seqOf, lstOf, datas, lstV, tupV, Out.bind_ok, wipeD, r_is_variable (n := m) (by omega) (h.each v hv)]⟩) line ?_
  simp
  refine gets_each (fun v : Va => Val.d (varD v)) (fun v => .str v.1) l (n := none) (S := S) (by simp [dSs, dS, dE, dEs, dAnd, dOr, dT, Ev.tAnd, Ev.tOr, dU, dN, dB2, dIf, dVar, dCst, dO, dC, dI, dCall, dKall, pick, entry, isiV, isTy, tobV, truO, truV, okIf, datOf, seqOf, lstOf, datas, lstV, tupV, Out.bind_ok]) (by simp) (fun v hv => ⟨_, rfl, by simp [dSs, dS, dE, dEs, dAnd, dOr, dT, Ev.tAnd, Ev.tOr, dU, dN, dB2, dIf, dVar, dCst, dO, dC, dI, dCall, dKall, pick, entry, isiV, isTy, tobV, truO, truV, okIf, datOf, seqOf, lstOf, datas, lstV, tupV, Out.bind_ok, wipeD, atI, ixN]⟩) line ?_
  obtain ⟨v, r, e1, e2⟩ := h.room
  obtain ⟨v', r', ns, e3, e4, e5⟩ := h.ended
  have i1 : atI (l.map fun v => PyData.str v.1) 0 = some (.str "room") := by
    rw [e1]
    simp [atI, ixN, e2]
  have i2 : atI (l.map fun v => PyData.str v.1) (-1) = some (.str "ended") := by
    rw [e3, List.map_append]
    show atI (_ ++ [_]) (-1) = _
    rw [atI_end]
    show some (PyData.str v'.1) = _
    rw [e4]
  have i3 : atI (l.map varD) (-1) = some (varD v') := by
    rw [e3, List.map_append]
    exact atI_end
  have fs := once_of h.nd
  simp [dSs, dS, dE, dEs, dAnd, dOr, dT, Ev.tAnd, Ev.tOr, dU, dN, dB2, dIf, dVar, dCst, dO, dC, dI, dCall, dKall, pick, entry, isiV, isTy, tobV, truO, truV, okIf, datOf, seqOf, lstOf, datas, lstV, tupV, Out.bind_ok, fs, i1, i2, i3]
  refine ⟨fun _ => ?_, by omega⟩
  simp [dSs, dS, dE, dEs, dAnd, dOr, dT, Ev.tAnd, Ev.tOr, dU, dN, dB2, dIf, dVar, dCst, dO, dC, dI, dCall, dKall, pick, entry, isiV, isTy, tobV, truO, truV, okIf, datOf, seqOf, lstOf, datas, lstV, tupV, Out.bind_ok, atI, ixN, e5]
/-! ### the middle form -/
abbrev szs (l : List Va) : List Int := l.map fun v => (v.2.length : Int)
theorem r_are_values_of {n : Nat} (hn : 2 < n) {l : List Va} (h : VasOk l) {vs : List Int} (hr : InR (szs l) vs) (S : Store) : sem G T n 6 [.d (varsD l), .d (Ints vs)] S = .ok (.d (.bool true)) S := by
  obtain ⟨m, rfl⟩ : ∃ m, n = m + 1 := ⟨n - 1, by omega⟩
  refine ok_of (gets_sem t_are_values_of rfl ?_)
  have hl : vs.length = l.length := by simpa using hr.len
  have h2 := h.few
  simp [dSs, dS, dE, dEs, dAnd, dOr, dT, Ev.tAnd, Ev.tOr, dU, dN, dB2, dIf, dVar, dCst, dO, dC, dI, dCall, dKall, pick, entry, isiV, isTy, tobV, truO, truV, okIf, datOf, seqOf, lstOf, datas, lstV, tupV, Out.bind_ok, f_are_values_of, r_is_tuple (n := m) (by omega), tupN, hl]
  refine gets_each (fun p : Int × Va => Val.d (.tuple [.int p.1, varD p.2])) (fun _ => .bool true) (vs.zip l) (n := none) (S := S) (by simp [dSs, dS, dE, dEs, dAnd, dOr, dT, Ev.tAnd, Ev.tOr, dU, dN, dB2, dIf, dVar, dCst, dO, dC, dI, dCall, dKall, pick, entry, isiV, isTy, tobV, truO, truV, okIf, datOf, seqOf, lstOf, datas, lstV, tupV, Out.bind_ok, List.zip_map]) (by simp) (fun p hp => ⟨_, rfl, ?_⟩) (by simp [hl]; exact line_of (by omega)) ?_
  · have hq : (p.1, (p.2.2.length : Int)) ∈ vs.zip (szs l) := by
      rw [List.zip_map_right]
      exact List.mem_map.mpr ⟨p, hp, rfl⟩
    have := hr.zip _ hq
    dsimp only at this
    simp [dSs, dS, dE, dEs, dAnd, dOr, dT, Ev.tAnd, Ev.tOr, dU, dN, dB2, dIf, dVar, dCst, dO, dC, dI, dCall, dKall, pick, entry, isiV, isTy, tobV, truO, truV, okIf, datOf, seqOf, lstOf, datas, lstV, tupV, Out.bind_ok, wipeD, setAll, atI, ixN, r_is_within (n := m) (by omega), within]
    omega
  · simp
abbrev viewsD (r : Nat) : PyData := .tuple [.tuple (List.replicate r (.str ("A room." : Str))), .tuple (List.replicate r (.tuple [])), .tuple []]
theorem room_txt : Txt ("A room." : Str) := ⟨by decide +kernel, by decide +kernel, by decide +kernel⟩
theorem r_are_views {n : Nat} (hn : 1 < n) {l : List Va} (h : VasOk l) {v : Va} {r : List Va} (e : l = v :: r) (S : Store) : sem G T n 18 [.d (varsD l), .d (viewsD v.2.length)] S = .ok (.d (.bool true)) S := by
  obtain ⟨m, rfl⟩ : ∃ m, n = m + 1 := ⟨n - 1, by omega⟩
  refine ok_of (gets_sem t_are_views rfl ?_)
  subst e
  have hv := (h.each v List.mem_cons_self).few
  have line : v.2.length ≤ sizeLine := line_of (by omega)
  simp [dSs, dS, dE, dEs, dAnd, dOr, dT, Ev.tAnd, Ev.tOr, dU, dN, dB2, dIf, dVar, dCst, dO, dC, dI, dCall, dKall, pick, entry, isiV, isTy, tobV, truO, truV, okIf, datOf, seqOf, lstOf, datas, lstV, tupV, Out.bind_ok, f_are_views, tgt, atI, ixN, r_is_tuple (n := m) (by omega), tupN]
  refine gets_each (fun _ : Unit => Val.d (.str ("A room." : Str))) (fun _ => .bool true) (List.replicate v.2.length ()) (n := none) (S := S) (by simp [dSs, dS, dE, dEs, dAnd, dOr, dT, Ev.tAnd, Ev.tOr, dU, dN, dB2, dIf, dVar, dCst, dO, dC, dI, dCall, dKall, pick, entry, isiV, isTy, tobV, truO, truV, okIf, datOf, seqOf, lstOf, datas, lstV, tupV, Out.bind_ok, atI, ixN]) (by simp) (fun x hx => ⟨_, rfl, by simp [dSs, dS, dE, dEs, dAnd, dOr, dT, Ev.tAnd, Ev.tOr, dU, dN, dB2, dIf, dVar, dCst, dO, dC, dI, dCall, dKall, pick, entry, isiV, isTy, tobV, truO, truV, okIf, datOf, seqOf, lstOf, datas, lstV, tupV, Out.bind_ok, wipeD, r_is_text (n := m) (by omega) room_txt]⟩) (by simpa using line) ?_
  simp
  refine gets_each (fun _ : Unit => Val.d (.tuple [])) (fun _ => .bool true) (List.replicate v.2.length ()) (n := none) (S := S) (by simp [dSs, dS, dE, dEs, dAnd, dOr, dT, Ev.tAnd, Ev.tOr, dU, dN, dB2, dIf, dVar, dCst, dO, dC, dI, dCall, dKall, pick, entry, isiV, isTy, tobV, truO, truV, okIf, datOf, seqOf, lstOf, datas, lstV, tupV, Out.bind_ok, atI, ixN]) (by simp) (fun x hx => ⟨_, rfl, by simp [dSs, dS, dE, dEs, dAnd, dOr, dT, Ev.tAnd, Ev.tOr, dU, dN, dB2, dIf, dVar, dCst, dO, dC, dI, dCall, dKall, pick, entry, isiV, isTy, tobV, truO, truV, okIf, datOf, seqOf, lstOf, datas, lstV, tupV, Out.bind_ok, wipeD]⟩) (by simpa using line) ?_
  simp
  refine gets_each (fun _ : Unit => Val.d (.tuple [])) (fun _ => .bool true) (List.replicate v.2.length ()) (n := none) (S := S) (by simp [dSs, dS, dE, dEs, dAnd, dOr, dT, Ev.tAnd, Ev.tOr, dU, dN, dB2, dIf, dVar, dCst, dO, dC, dI, dCall, dKall, pick, entry, isiV, isTy, tobV, truO, truV, okIf, datOf, seqOf, lstOf, datas, lstV, tupV, Out.bind_ok, atI, ixN]) (by simp) (fun x hx => ⟨_, rfl, ?_⟩) (by simpa using line) ?_
  · refine ok_of ?_
    simp [dSs, dS, dE, dEs, dAnd, dOr, dT, Ev.tAnd, Ev.tOr, dU, dN, dB2, dIf, dVar, dCst, dO, dC, dI, dCall, dKall, pick, entry, isiV, isTy, tobV, truO, truV, okIf, datOf, seqOf, lstOf, datas, lstV, tupV, Out.bind_ok, wipeD]
    refine gets_each (fun x : PyData => Val.d x) (fun _ => .bool true) [] (n := none) (S := S) (by simp [dSs, dS, dE, dEs, dAnd, dOr, dT, Ev.tAnd, Ev.tOr, dU, dN, dB2, dIf, dVar, dCst, dO, dC, dI, dCall, dKall, pick, entry, isiV, isTy, tobV, truO, truV, okIf, datOf, seqOf, lstOf, datas, lstV, tupV, Out.bind_ok]) (by simp) (fun x hx => by cases hx) (by simp) ?_
    simp
  · simp
    refine gets_each (fun x : PyData => Val.d x) (fun _ => .bool true) [] (n := none) (S := S) (by simp [dSs, dS, dE, dEs, dAnd, dOr, dT, Ev.tAnd, Ev.tOr, dU, dN, dB2, dIf, dVar, dCst, dO, dC, dI, dCall, dKall, pick, entry, isiV, isTy, tobV, truO, truV, okIf, datOf, seqOf, lstOf, datas, lstV, tupV, Out.bind_ok, atI, ixN]) (by simp) (fun x hx => by cases hx) (by simp) ?_
    simp
abbrev midD (l : List Va) (vs : List Int) (r : Nat) : PyData := .tuple [varsD l, Ints vs, .tuple [], .tuple [], .tuple [], viewsD r]
theorem r_is_middle {n : Nat} (hn : 3 < n) {l : List Va} (h : VasOk l) {v : Va} {r : List Va} (e : l = v :: r) {vs : List Int} (hr : InR (szs l) vs) (S : Store) : sem G T n 19 [.d (midD l vs v.2.length)] S = .ok (.d (.bool true)) S := by
  obtain ⟨m, rfl⟩ : ∃ m, n = m + 1 := ⟨n - 1, by omega⟩
  refine ok_of (gets_sem t_is_middle_value rfl ?_)
  have c1 := r_are_variables (n := m) (by omega) h
  have c2 := r_are_values_of (n := m) (by omega) h hr
  have c3 := r_are_views (n := m) (by omega) h e
  have cut : cutD [varsD l, Ints vs, .tuple [], .tuple [], .tuple [], viewsD v.2.length] (some 2) (some 5) = [.tuple [], .tuple [], .tuple []] := by
    unfold cutD
    rfl
  simp [dSs, dS, dE, dEs, dAnd, dOr, dT, Ev.tAnd, Ev.tOr, dU, dN, dB2, dIf, dVar, dCst, dO, dC, dI, dCall, dKall, pick, entry, isiV, isTy, tobV, truO, truV, okIf, datOf, seqOf, lstOf, datas, lstV, tupV, Out.bind_ok, f_is_middle_value, tgt, r_is_tuple (n := m) (by omega), tupN, atI, ixN, c1, c2, c3]
  refine gets_each (fun x : PyData => Val.d x) (fun _ => .bool true) [.tuple [], .tuple [], .tuple []] (n := none) (S := S) (by simp [dSs, dS, dE, dEs, dAnd, dOr, dT, Ev.tAnd, Ev.tOr, dU, dN, dB2, dIf, dVar, dCst, dO, dC, dI, dCall, dKall, pick, entry, isiV, isTy, tobV, truO, truV, okIf, datOf, seqOf, lstOf, datas, lstV, tupV, Out.bind_ok, cut]) (by simp) (fun x hx => ⟨_, rfl, ?_⟩) (line_of (by simp)) ?_
  · simp at hx
    subst hx
    simp [dSs, dS, dE, dEs, dAnd, dOr, dT, Ev.tAnd, Ev.tOr, dU, dN, dB2, dIf, dVar, dCst, dO, dC, dI, dCall, dKall, pick, entry, isiV, isTy, tobV, truO, truV, okIf, datOf, seqOf, lstOf, datas, lstV, tupV, Out.bind_ok, wipeD]
  · simp
    refine gets_each (fun x : PyData => Val.d x) (fun _ => .bool true) [] (n := none) (S := S) (by simp [dSs, dS, dE, dEs, dAnd, dOr, dT, Ev.tAnd, Ev.tOr, dU, dN, dB2, dIf, dVar, dCst, dO, dC, dI, dCall, dKall, pick, entry, isiV, isTy, tobV, truO, truV, okIf, datOf, seqOf, lstOf, datas, lstV, tupV, Out.bind_ok, atI, ixN]) (by simp) (fun x hx => by cases hx) (by simp) ?_
    simp
    refine gets_each (fun x : PyData => Val.d x) (fun _ => .bool true) [] (n := none) (S := S) (by simp [dSs, dS, dE, dEs, dAnd, dOr, dT, Ev.tAnd, Ev.tOr, dU, dN, dB2, dIf, dVar, dCst, dO, dC, dI, dCall, dKall, pick, entry, isiV, isTy, tobV, truO, truV, okIf, datOf, seqOf, lstOf, datas, lstV, tupV, Out.bind_ok, atI, ixN]) (by simp) (fun x hx => by cases hx) (by simp) ?_
    simp
    refine gets_each (fun x : PyData => Val.d x) (fun _ => .bool true) [] (n := none) (S := S) (by simp [dSs, dS, dE, dEs, dAnd, dOr, dT, Ev.tAnd, Ev.tOr, dU, dN, dB2, dIf, dVar, dCst, dO, dC, dI, dCall, dKall, pick, entry, isiV, isTy, tobV, truO, truV, okIf, datOf, seqOf, lstOf, datas, lstV, tupV, Out.bind_ok, atI, ixN]) (by simp) (fun x hx => by cases hx) (by simp) ?_
    simp [c3]
theorem r_want_middle {n : Nat} (hn : 4 < n) {l : List Va} (h : VasOk l) {v : Va} {r : List Va} (e : l = v :: r) {vs : List Int} (hr : InR (szs l) vs) (S : Store) : sem G T n 20 [.d (midD l vs v.2.length)] S = .ok (.d .none) S := by
  obtain ⟨m, rfl⟩ : ∃ m, n = m + 1 := ⟨n - 1, by omega⟩
  refine ok_of (gets_sem t_want_middle rfl ?_)
  simp [dSs, dS, dE, dEs, dAnd, dOr, dT, Ev.tAnd, Ev.tOr, dU, dN, dB2, dIf, dVar, dCst, dO, dC, dI, dCall, dKall, pick, entry, isiV, isTy, tobV, truO, truV, okIf, datOf, seqOf, lstOf, datas, lstV, tupV, Out.bind_ok, f_want_middle, r_is_middle (n := m) (by omega) h e hr]
theorem r_want_values {n : Nat} (hn : 3 < n) {l : List Va} (h : VasOk l) {k : Nat} {vs us : List Int} (hr : InR (szs l) us) (S : Store) : sem G T n 21 [.d (midD l vs k), .d (Ints us)] S = .ok (.d .none) S := by
  obtain ⟨m, rfl⟩ : ∃ m, n = m + 1 := ⟨n - 1, by omega⟩
  refine ok_of (gets_sem t_want_values rfl ?_)
  simp [dSs, dS, dE, dEs, dAnd, dOr, dT, Ev.tAnd, Ev.tOr, dU, dN, dB2, dIf, dVar, dCst, dO, dC, dI, dCall, dKall, pick, entry, isiV, isTy, tobV, truO, truV, okIf, datOf, seqOf, lstOf, datas, lstV, tupV, Out.bind_ok, f_want_values, atI, ixN, r_are_values_of (n := m) (by omega) h hr]
theorem r_sizes_by {n : Nat} (hn : 0 < n) {l : List Va} (h : l.length ≤ 100) {k : Nat} {vs : List Int} (S : Store) : sem G T n 24 [.d (midD l vs k)] S = .ok (.d (Ints (szs l))) S := by
  obtain ⟨m, rfl⟩ : ∃ m, n = m + 1 := ⟨n - 1, by omega⟩
  refine ok_of (gets_sem t_sizes_by rfl ?_)
  simp [dSs, dS, dE, dEs, dAnd, dOr, dT, Ev.tAnd, Ev.tOr, dU, dN, dB2, dIf, dVar, dCst, dO, dC, dI, dCall, dKall, pick, entry, isiV, isTy, tobV, truO, truV, okIf, datOf, seqOf, lstOf, datas, lstV, tupV, Out.bind_ok, f_sizes_by]
  refine gets_each (fun v : Va => Val.d (varD v)) (fun v => .int (v.2.length : Int)) l (n := none) (S := S) (by simp [dSs, dS, dE, dEs, dAnd, dOr, dT, Ev.tAnd, Ev.tOr, dU, dN, dB2, dIf, dVar, dCst, dO, dC, dI, dCall, dKall, pick, entry, isiV, isTy, tobV, truO, truV, okIf, datOf, seqOf, lstOf, datas, lstV, tupV, Out.bind_ok, atI, ixN]) (by simp) (fun v hv => ⟨_, rfl, by simp [dSs, dS, dE, dEs, dAnd, dOr, dT, Ev.tAnd, Ev.tOr, dU, dN, dB2, dIf, dVar, dCst, dO, dC, dI, dCall, dKall, pick, entry, isiV, isTy, tobV, truO, truV, okIf, datOf, seqOf, lstOf, datas, lstV, tupV, Out.bind_ok, wipeD, atI, ixN]⟩) (line_of (by omega)) ?_
  simp
theorem r_sizes_of {n : Nat} (hn : 5 < n) {l : List Va} (h : VasOk l) {v : Va} {r : List Va} (e : l = v :: r) {vs : List Int} (hr : InR (szs l) vs) (S : Store) : sem G T n 32 [.d (midD l vs v.2.length)] S = .ok (.d (Ints (szs l))) S := by
  obtain ⟨m, rfl⟩ : ∃ m, n = m + 1 := ⟨n - 1, by omega⟩
  refine ok_of (gets_sem t_sizes_of rfl ?_)
  simp [dSs, dS, dE, dEs, dAnd, dOr, dT, Ev.tAnd, Ev.tOr, dU, dN, dB2, dIf, dVar, dCst, dO, dC, dI, dCall, dKall, pick, entry, isiV, isTy, tobV, truO, truV, okIf, datOf, seqOf, lstOf, datas, lstV, tupV, Out.bind_ok, f_sizes_of, r_want_middle (n := m) (by omega) h e hr, r_sizes_by (n := m) (by omega) h.few]
theorem r_pack {n : Nat} (hn : 5 < n) {l : List Va} (h : VasOk l) (hz : Sz (szs l)) {v : Va} {r : List Va} (e : l = v :: r) {vs us : List Int} (hr : InR (szs l) vs) (hu : InR (szs l) us) (S : Store) : sem G T n 37 [.d (midD l vs v.2.length), .d (Ints us)] S = .ok (.d (.int (numR (szs l) us))) S := by
  obtain ⟨m, rfl⟩ : ∃ m, n = m + 1 := ⟨n - 1, by omega⟩
  refine ok_of (gets_sem t_pack rfl ?_)
  simp [dSs, dS, dE, dEs, dAnd, dOr, dT, Ev.tAnd, Ev.tOr, dU, dN, dB2, dIf, dVar, dCst, dO, dC, dI, dCall, dKall, pick, entry, isiV, isTy, tobV, truO, truV, okIf, datOf, seqOf, lstOf, datas, lstV, tupV, Out.bind_ok, f_pack, r_want_middle (n := m) (by omega) h e hr, r_want_values (n := m) (by omega) h hu, r_sizes_by (n := m) (by omega) h.few, r_number_by (n := m) (by omega) hz hu]
theorem r_unpack {n : Nat} (hn : 5 < n) {l : List Va} (h : VasOk l) (hz : Sz (szs l)) {v : Va} {r : List Va} (e : l = v :: r) {vs us : List Int} (hr : InR (szs l) vs) (hu : InR (szs l) us) (S : Store) : sem G T n 38 [.d (midD l vs v.2.length), .d (.int (numR (szs l) us))] S = .ok (.d (Ints us)) S := by
  obtain ⟨m, rfl⟩ : ∃ m, n = m + 1 := ⟨n - 1, by omega⟩
  refine ok_of (gets_sem t_unpack rfl ?_)
  have hb := num_lt hu
  have hf : (szs l).length ≤ 1000 := by have := h.few; simp; omega
  simp [dSs, dS, dE, dEs, dAnd, dOr, dT, Ev.tAnd, Ev.tOr, dU, dN, dB2, dIf, dVar, dCst, dO, dC, dI, dCall, dKall, pick, entry, isiV, isTy, tobV, truO, truV, okIf, datOf, seqOf, lstOf, datas, lstV, tupV, Out.bind_ok, f_unpack, r_want_middle (n := m) (by omega) h e hr, r_sizes_by (n := m) (by omega) h.few, r_want_number (n := m) (by omega) hz hb.1 hb.2, r_values_by_number (n := m) (by omega) hz hu hf]
end HT
end

section
set_option Elab.async false
set_option linter.all false
set_option maxRecDepth 100000
set_option maxHeartbeats 4000000
namespace HT
open PySem PySem.Spec L2 Ev
/-! ### the middle form that is made -/
def nm (i : Nat) : Str := (toString (i : Int) : String)
theorem nm_ok : ∀ i, i < 30 → (1 ≤ (nm i).length ∧ (nm i).length ≤ 2) ∧ (nm i).cps.toList.all (fun c => decide (48 ≤ c) && decide (c ≤ 57)) = true := by decide +kernel
theorem r_inj : ∀ i, i < 30 → ∀ j, j < 30 → (("r" : Str) ++ nm i = ("r" : Str) ++ nm j → i = j) ∧ (nm i = nm j → i = j) ∧ (("v" : Str) ++ nm i = ("v" : Str) ++ nm j → i = j) := by decide +kernel
theorem r_txt : ∀ i, i < 30 → ((1 ≤ (("v" : Str) ++ nm i).length ∧ (("v" : Str) ++ nm i).length ≤ 3) ∧ (("v" : Str) ++ nm i).cps.toList.all (fun c => decide (32 ≤ c) && decide (c ≤ 126)) = true) ∧
    ((("r" : Str) ++ nm i).length ≤ 3 ∧ (("r" : Str) ++ nm i).cps.toList.all (fun c => decide (32 ≤ c) && decide (c ≤ 126)) = true) ∧ ("v" : Str) ++ nm i ≠ ("room" : Str) ∧ ("v" : Str) ++ nm i ≠ ("ended" : Str) := by decide +kernel
def letters : List Str := [("" : Str), ("a" : Str), ("b" : Str), ("c" : Str), ("d" : Str), ("e" : Str), ("f" : Str), ("g" : Str), ("h" : Str), ("i" : Str), ("j" : Str), ("k" : Str), ("l" : Str), ("m" : Str), ("n" : Str), ("o" : Str), ("p" : Str), ("q" : Str), ("r" : Str), ("s" : Str)]
theorem letters_nd : letters.Nodup := by decide +kernel
theorem letters_ok : letters.all (fun x => decide (x.length ≤ 3) && x.cps.toList.all (fun c => decide (c < 1114112))) = true := by decide +kernel
def vF (z : Int) : Va := (("room" : Str), (List.range z.toNat).map fun i => ("r" : Str) ++ nm i)
def vM (i : Nat) (z : Int) : Va := (("v" : Str) ++ nm i, (List.range z.toNat).map nm)
def vE (z : Int) : Va := (("ended" : Str), letters.take z.toNat)
theorem nodup_range {f : Nat → Str} {n : Nat} (h : ∀ i, i < n → ∀ j, j < n → f i = f j → i = j) : ((List.range n).map f).Nodup := by
  refine List.pairwise_map.mpr ((List.nodup_range (n := n)).imp_of_mem fun {a b} ha hb hne e => hne (h a (List.mem_range.mp ha) b (List.mem_range.mp hb) e))
theorem txt_of {x : Str} (h1 : 1 ≤ x.length) (h2 : x.length ≤ 200) (h : x.cps.toList.all (fun c => decide (32 ≤ c) && decide (c ≤ 126)) = true) : Txt x := by
  refine ⟨h1, h2, fun c hc => ?_⟩
  have := List.all_eq_true.mp h c hc
  simpa using this
theorem txt_room : Txt ("room" : Str) := txt_of (by decide +kernel) (by decide +kernel) (by decide +kernel)
theorem txt_ended : Txt ("ended" : Str) := txt_of (by decide +kernel) (by decide +kernel) (by decide +kernel)
theorem vF_ok {z : Int} (h : 1 ≤ z ∧ z ≤ 20) : VaOk (vF z) := by
  refine ⟨txt_room, nodup_range fun i hi j hj e => ?_, by simp [vF]; omega, by simp [vF]; omega⟩
  exact (r_inj i (by omega) j (by omega)).1 e
theorem vM_ok {i : Nat} (hi : i < 30) {z : Int} (h : 1 ≤ z ∧ z ≤ 20) : VaOk (vM i z) := by
  have t := (r_txt i hi).1
  refine ⟨txt_of t.1.1 (by have := t.1.2; show (("v" : Str) ++ nm i).length ≤ 200; omega) t.2, nodup_range fun i hi j hj e => ?_, by simp [vM]; omega, by simp [vM]; omega⟩
  exact (r_inj i (by omega) j (by omega)).2.1 e
theorem vE_ok {z : Int} (h : 1 ≤ z ∧ z ≤ 20) : VaOk (vE z) := by
  have hl : (vE z).2.length = z.toNat := by
    simp [vE, letters]
    omega
  refine ⟨txt_ended, letters_nd.sublist (List.take_sublist _ _), by omega, by omega⟩
/-- the variables of sizes a :: ms ++ [b] -/
def mkV (a : Int) (ms : List Int) (b : Int) : List Va := vF a :: ((ms.zipIdx 1).map fun p => vM p.2 p.1) ++ [vE b]
theorem mkV_szs {a b : Int} {ms : List Int} (h : Sz (a :: ms ++ [b])) : szs (mkV a ms b) = a :: ms ++ [b] := by
  have ha := h a (by simp)
  have hb := h b (by simp)
  have hm : ∀ (ms : List Int) (k : Nat), Sz ms → ((ms.zipIdx k).map fun p => ((vM p.2 p.1).2.length : Int)) = ms := by
    intro ms
    induction ms with
    | nil => intro k _; rfl
    | cons y ms ih =>
      intro k hy
      have h1 := hy y List.mem_cons_self
      rw [List.zipIdx_cons, List.map_cons, ih (k + 1) fun z hz => hy z (List.mem_cons_of_mem _ hz)]
      simp [vM]
      omega
  have e1 : (((vE b).2.length : Nat) : Int) = b := by
    simp [vE, letters]
    omega
  have e2 : (((vF a).2.length : Nat) : Int) = a := by
    simp [vF]
    omega
  have e3 := hm ms 1 fun z hz => h z (by simp [hz])
  unfold szs mkV
  simp only [List.map_append, List.map_cons, List.map_map, List.map_nil, e1, e2]
  congr 1
  congr 1
theorem mkV_ok {a b : Int} {ms : List Int} (h : Sz (a :: ms ++ [b])) (hl : ms.length ≤ 22) : VasOk (mkV a ms b) := by
  have idx : ∀ p ∈ ms.zipIdx 1, p.2 < 30 ∧ 1 ≤ p.1 ∧ p.1 ≤ 20 := by
    intro p hp
    have h1 := List.mem_zipIdx hp
    refine ⟨by omega, ?_⟩
    refine h p.1 ?_
    rw [h1.2.2]
    simp
  refine ⟨fun v hv => ?_, ?_, by simp [mkV], by simp [mkV]; omega, ⟨_, _, rfl, rfl⟩, ?_⟩
  · unfold mkV at hv
    rcases List.mem_append.mp hv with hv | hv
    · rcases List.mem_cons.mp hv with e | hv
      · rw [e]; exact vF_ok (h a (by simp))
      · obtain ⟨p, hp, rfl⟩ := List.mem_map.mp hv
        exact vM_ok (idx p hp).1 (idx p hp).2
    · rw [List.mem_singleton.mp hv]; exact vE_ok (h b (by simp))
  · have e : (mkV a ms b).map (·.1) = ("room" : Str) :: ((List.range' 1 ms.length).map fun i => ("v" : Str) ++ nm i) ++ [("ended" : Str)] := by
      unfold mkV
      simp only [List.map_append, List.map_cons, List.map_map, List.map_nil]
      congr 1
      congr 1
      have : ∀ (ms : List Int) (k : Nat), (ms.zipIdx k).map (Prod.fst ∘ fun p => vM p.2 p.1) = (List.range' k ms.length).map fun i => ("v" : Str) ++ nm i := by
        intro ms
        induction ms with
        | nil => intro k; rfl
        | cons y ms ih => intro k; rw [List.zipIdx_cons, List.map_cons, ih (k + 1), List.length_cons, List.range'_succ, List.map_cons]; rfl
      exact this ms 1
    rw [e]
    have mem : ∀ x ∈ (List.range' 1 ms.length).map fun i => ("v" : Str) ++ nm i, ∃ i, i < 30 ∧ x = ("v" : Str) ++ nm i := by
      intro x hx
      obtain ⟨i, hi, rfl⟩ := List.mem_map.mp hx
      rw [List.mem_range'_1] at hi
      exact ⟨i, by omega, rfl⟩
    refine List.nodup_append.mpr ⟨List.nodup_cons.mpr ⟨fun hm => ?_, ?_⟩, by simp, fun x hx y hy => ?_⟩
    · obtain ⟨i, hi, e⟩ := mem _ hm
      exact (r_txt i hi).2.2.1 e.symm
    · refine List.pairwise_map.mpr ((List.nodup_range' (s := 1) (n := ms.length)).imp_of_mem fun {i j} hi hj hne e => hne ?_)
      rw [List.mem_range'_1] at hi hj
      exact (r_inj i (by omega) j (by omega)).2.2 e
    · rw [List.mem_singleton.mp hy]
      rcases List.mem_cons.mp hx with e | hx
      · rw [e]; decide +kernel
      · obtain ⟨i, hi, rfl⟩ := mem _ hx
        exact (r_txt i hi).2.2.2
  · have hb := h b (by simp)
    refine ⟨vE b, _, (letters.take b.toNat).drop 1, rfl, rfl, ?_⟩
    obtain ⟨k, hk⟩ : ∃ k, b.toNat = k + 1 := ⟨b.toNat - 1, by omega⟩
    simp [vE, hk, letters]
end HT
end

section
set_option Elab.async false
set_option linter.all false
set_option maxRecDepth 100000
set_option maxHeartbeats 4000000
namespace HT
open PySem PySem.Spec L2 Ev
theorem nm_eq (i : Nat) : Str.ofString ((i : Int)).repr = nm i := rfl
theorem Pot.app {p : Nat} {S T : Store} (h : Pot p S) : Pot p (S ++ T) := let ⟨o, e, ho⟩ := h; ⟨o, by rw [List.getElem?_append_left (List.getElem?_eq_some_iff.mp e).1]; exact e, ho⟩
def IMid (a b : Int) (ms : List Int) (p : Nat) (S : Store) (its : List Val) (ρ : EnvD) (S' : Store) : Prop := ∃ (ds rs : List Int) (x y : Option Val), its = (List.range' ds.length rs.length).map (fun (i : Nat) => Val.d (.int (1 + (i : Int)))) ∧
  ρ = [some (.loc p), some (.d (Ints (a :: ms ++ [b]))), some (.loc S.length), x, y, none] ∧ ms = ds ++ rs ∧ S' = S ++ [.lst ((vF a :: (ds.zipIdx 1).map fun p => vM p.2 p.1).map varD)]
theorem small_nat {i : Nat} (h : i < 100) : i.log2 < 1920 := by
  have := small_log (i := (i : Int)) (by
    have e : (i : Int).natAbs = i := rfl
    rw [e]
    exact Nat.lt_of_lt_of_le h (by decide))
  exact this
theorem r_middle {n : Nat} (hn : 3 < n) {p : Nat} {S : Store} (h : Pot p S) {a b : Int} {ms : List Int} (hz : Sz (a :: ms ++ [b])) (hl : ms.length ≤ 20) :
    Gets (sem G T n 47 [.loc p, .d (Ints (a :: ms ++ [b]))] S) fun v S' => ∃ vs o, v = .d (midD (mkV a ms b) vs a.toNat) ∧ InR (a :: ms ++ [b]) vs ∧ PotO o ∧ S' = S.set p o := by
  obtain ⟨m, rfl⟩ : ∃ m, n = m + 1 := ⟨n - 1, by omega⟩
  refine gets_sem t_law_middle rfl ?_
  have ha := hz a (by simp)
  have hb := hz b (by simp)
  have i0 : atI ((a :: ms ++ [b]).map PyData.int) 0 = some (.int a) := by
    have := atI_mid (l := ([] : List PyData)) (z := PyData.int a) (r := (ms ++ [b]).map PyData.int)
    simpa using this
  have hr : a = (a.toNat : Int) := by omega
  simp [dSs, dS, dE, dEs, dAnd, dOr, dT, Ev.tAnd, Ev.tOr, dU, dN, dB2, dIf, dVar, dCst, dO, dC, dI, dCall, dKall, pick, entry, isiV, isTy, tobV, truO, truV, okIf, datOf, seqOf, lstOf, datas, lstV, tupV, Out.bind_ok, f_law_middle, tgt]
  refine gets_each (fun i : Nat => Val.d (.int (i : Int))) (fun i => .str (("r" : Str) ++ nm i)) (List.range a.toNat) (n := none) (S := S) ?_ (by simp) (fun i hi => ⟨_, rfl, ?_⟩) (by rw [List.length_range]; exact line_of (by omega)) ?_
  · simp at i0
    simp [dSs, dS, dE, dEs, dAnd, dOr, dT, Ev.tAnd, Ev.tOr, dU, dN, dB2, dIf, dVar, dCst, dO, dC, dI, dCall, dKall, pick, entry, isiV, isTy, tobV, truO, truV, okIf, datOf, seqOf, lstOf, datas, lstV, tupV, Out.bind_ok, i0, rngI]
    omega
  · have hi := List.mem_range.mp hi
    have t := r_txt i (by omega)
    have t2 := nm_ok i (by omega)
    have e1 : ("r" : Str).length + (nm i).length ≤ sizeLine := line_of (by
      have : ("r" : Str).length = 1 := by decide +kernel
      omega)
    simp [dSs, dS, dE, dEs, dAnd, dOr, dT, Ev.tAnd, Ev.tOr, dU, dN, dB2, dIf, dVar, dCst, dO, dC, dI, dCall, dKall, pick, entry, isiV, isTy, tobV, truO, truV, okIf, datOf, seqOf, lstOf, datas, lstV, tupV, Out.bind_ok, wipeD, small_nat (i := i) (by omega), nm_eq, e1]
  · simp [dSs, dS, dE, dEs, dAnd, dOr, dT, Ev.tAnd, Ev.tOr, dU, dN, dB2, dIf, dVar, dCst, dO, dC, dI, dCall, dKall, pick, entry, isiV, isTy, tobV, truO, truV, okIf, datOf, seqOf, lstOf, datas, lstV, tupV, Out.bind_ok, sizeLine_eq]
    refine ⟨fun _ _ => ?_, by omega⟩
    refine gs_for (IMid a b ms p S) ?_ ?_ _ _ _ ⟨[], ms, none, none, ?_, rfl, by simp, by simp [vF]⟩
    · rintro v its ρ S' ⟨ds, rs, x, y, e, rfl, hm, rfl⟩
      cases rs with
      | nil => cases e
      | cons r rs =>
        rw [List.length_cons, List.range'_succ, List.map_cons] at e
        cases e
        have hrr := hz r (by rw [hm]; simp)
        have hds : ds.length + (rs.length + 1) = ms.length := by rw [hm]; simp
        have ir : atI ((a :: ms ++ [b]).map PyData.int) (1 + (ds.length : Int)) = some (.int r) := by
          have := atI_mid (l := (a :: ds).map PyData.int) (z := PyData.int r) (r := (rs ++ [b]).map PyData.int)
          rw [hm]
          simpa [Int.add_comm] using this
        obtain ⟨K, hK⟩ : ∃ K : Nat, K = ds.length + 1 := ⟨_, rfl⟩
        have cast : (1 + (ds.length : Int)) = (K : Int) := by omega
        obtain ⟨late, hlate⟩ : ∃ l, l = (vF a :: (ds.zipIdx 1).map fun p => vM p.2 p.1).map varD := ⟨_, rfl⟩
        rw [← hlate]
        have hS : ∀ xs, (S ++ [Ob.lst xs])[S.length]? = some (.lst xs) := fun xs => by simp
        have hz3 : late.length < sizeLine := by
          rw [hlate, sizeLine_eq]
          simp
          omega
        have ap := fun w : PyData => app_loc (w := w) (hS late) hz3
        have st : ∀ o, (S ++ [Ob.lst late]).set S.length o = S ++ [o] := fun y => by simp
        simp only [st] at ap
        have e1 : ("v" : Str).length + (nm K).length ≤ 16777216 := by
          have : ("v" : Str).length = 1 := by decide +kernel
          have := (nm_ok K (by omega)).1.2
          omega
        refine ⟨True.intro, _, rfl, ?_⟩
        simp only [cast] at ir ⊢
        simp at ir
        simp [dSs, dS, dE, dEs, dAnd, dOr, dT, Ev.tAnd, Ev.tOr, dU, dN, dB2, dIf, dVar, dCst, dO, dC, dI, dCall, dKall, pick, entry, isiV, isTy, tobV, truO, truV, okIf, datOf, seqOf, lstOf, datas, lstV, tupV, Out.bind_ok, sizeLine_eq, recV, hS, nm_eq, small_nat (i := K) (by omega), e1]
        refine gets_each (fun i : Nat => Val.d (.int (i : Int))) (fun i => .str (nm i)) (List.range r.toNat) (n := none) (S := S ++ [Ob.lst late]) ?_ (by simp) (fun i hi => ⟨_, rfl, ?_⟩) (by rw [List.length_range]; exact line_of (by omega)) ?_
        · simp [dSs, dS, dE, dEs, dAnd, dOr, dT, Ev.tAnd, Ev.tOr, dU, dN, dB2, dIf, dVar, dCst, dO, dC, dI, dCall, dKall, pick, entry, isiV, isTy, tobV, truO, truV, okIf, datOf, seqOf, lstOf, datas, lstV, tupV, Out.bind_ok, ir, rngI]
          omega
        · have hi := List.mem_range.mp hi
          simp [dSs, dS, dE, dEs, dAnd, dOr, dT, Ev.tAnd, Ev.tOr, dU, dN, dB2, dIf, dVar, dCst, dO, dC, dI, dCall, dKall, pick, entry, isiV, isTy, tobV, truO, truV, okIf, datOf, seqOf, lstOf, datas, lstV, tupV, Out.bind_ok, wipeD, small_nat (i := i) (by omega), nm_eq]
        · simp [dSs, dS, dE, dEs, dAnd, dOr, dT, Ev.tAnd, Ev.tOr, dU, dN, dB2, dIf, dVar, dCst, dO, dC, dI, dCall, dKall, pick, entry, isiV, isTy, tobV, truO, truV, okIf, datOf, seqOf, lstOf, datas, lstV, tupV, Out.bind_ok, ap]
          refine ⟨ds ++ [r], rs, x, _, by simp, rfl, by rw [hm]; simp, ?_⟩
          rw [hlate, hK]
          simp [List.zipIdx_append, vM, Nat.add_comm]
    · rintro ρ S' ⟨ds, rs, x, y, e, rfl, hm, rfl⟩
      cases rs with
      | cons r rs => rw [List.length_cons, List.range'_succ, List.map_cons] at e; cases e
      | nil =>
        rw [List.append_nil] at hm
        subst hm
        refine ⟨True.intro, ?_⟩
        obtain ⟨late, hlate⟩ : ∃ l, l = (vF a :: (ms.zipIdx 1).map fun p => vM p.2 p.1).map varD := ⟨_, rfl⟩
        rw [← hlate]
        have hS : ∀ xs, (S ++ [Ob.lst xs])[S.length]? = some (.lst xs) := fun xs => by simp
        have hz3 : late.length < sizeLine := by
          rw [hlate, sizeLine_eq]
          simp
          omega
        have ap := fun w : PyData => app_loc (w := w) (hS late) hz3
        have st : ∀ o, (S ++ [Ob.lst late]).set S.length o = S ++ [o] := fun y => by simp
        simp only [st] at ap
        have ib : atI ((a :: ms ++ [b]).map PyData.int) (-1) = some (.int b) := by
          rw [List.map_append]
          exact atI_end
        have il : [PyData.str "", PyData.str "a", PyData.str "b", PyData.str "c", PyData.str "d", PyData.str "e", PyData.str "f", PyData.str "g", PyData.str "h", PyData.str "i", PyData.str "j", PyData.str "k", PyData.str "l", PyData.str "m", PyData.str "n", PyData.str "o", PyData.str "p", PyData.str "q", PyData.str "r", PyData.str "s"] = letters.map PyData.str := rfl
        have ic : cutL letters none (some b) = letters.take b.toNat := by
          have : b = (b.toNat : Int) := by omega
          rw [this, cut_to]
          rfl
        have ha1 : a = 1 ∨ 2 ≤ a ∧ a ≤ 1000 := by omega
        have ha2 : ¬ a = 1 → 2 ≤ a ∧ a ≤ 1000 := by omega
        obtain ⟨fin, hfin⟩ : ∃ f, f = late ++ [PyData.tuple [PyData.str (Str.ofString "ended"), PyData.tuple ((letters.take b.toNat).map PyData.str)]] := ⟨_, rfl⟩
        obtain ⟨_, _, e5, vs, o, rfl, hvs, ho, rfl⟩ := r_values (n := m) (by omega) (h.app (T := [Ob.lst fin])) hz (by simp) (by simp; omega)
        have hp := h.lt
        simp only [List.cons_append] at e5
        simp at ib i0
        simp [dSs, dS, dE, dEs, dAnd, dOr, dT, Ev.tAnd, Ev.tOr, dU, dN, dB2, dIf, dVar, dCst, dO, dC, dI, dCall, dKall, pick, entry, isiV, isTy, tobV, truO, truV, okIf, datOf, seqOf, lstOf, datas, lstV, tupV, Out.bind_ok, sizeLine_eq, recV, hS, ib, i0, il, ic, ap, ha1, -List.map_take]
        rw [← hfin]
        simp [tuple_loc (hS fin), e5, dSs, dS, dE, dEs, dAnd, dOr, dT, Ev.tAnd, Ev.tOr, dU, dN, dB2, dIf, dVar, dCst, dO, dC, dI, dCall, dKall, pick, entry, isiV, isTy, tobV, truO, truV, okIf, datOf, seqOf, lstOf, datas, lstV, tupV, Out.bind_ok]
        refine ⟨vs, ⟨?_, rfl⟩, hvs, o, ho, ?_⟩
        · rw [hfin, hlate]
          simp [mkV, vE, -List.map_take]
        · rw [List.set_append_left _ _ hp]
          simp
    · simp [rngI, List.range_eq_range']
end HT
end

section
set_option Elab.async false
set_option linter.all false
set_option maxRecDepth 100000
set_option maxHeartbeats 4000000
namespace HT
open PySem PySem.Spec L2 Ev
theorem tame_ints {zs : List Int} (h : ∀ z ∈ zs, z.natAbs < 10 ^ 100) {n : Nat} (hn : zs.length ≤ n) : Tame n 1 (Ints zs) :=
  tame_tuple (m := 0) (fun d hd => by obtain ⟨z, hz, rfl⟩ := List.mem_map.mp hd; exact tame_int (h z hz)) (by simpa using hn)
theorem small_abs {z : Int} (h0 : -100 ≤ z) (h1 : z ≤ 100) : z.natAbs < 10 ^ 100 := by
  have : (100 : Nat) < 10 ^ 100 := by decide
  omega
theorem tame_sz {zs : List Int} (h : Sz zs) {n : Nat} (hn : zs.length ≤ n) : Tame n 1 (Ints zs) := tame_ints (fun z hz => small_abs (by have := h z hz; omega) (by have := h z hz; omega)) hn
theorem inr_small : ∀ {zs vs : List Int}, Sz zs → InR zs vs → ∀ v ∈ vs, v.natAbs < 10 ^ 100
  | [], [], _, _, v, hv => by cases hv
  | z :: zs, u :: vs, hz, h, v, hv => by
    rcases List.mem_cons.mp hv with e | hv
    · rw [e]
      have h1 := h.1
      have h2 := hz z List.mem_cons_self
      exact small_abs (by omega) (by omega)
    · exact inr_small (fun y hy => hz y (List.mem_cons_of_mem _ hy)) h.2 v hv
  | [], _ :: _, _, h, _, _ => h.elim
  | _ :: _, [], _, h, _, _ => h.elim
theorem tame_in {zs vs : List Int} (hz : Sz zs) (h : InR zs vs) {n : Nat} (hn : zs.length ≤ n) : Tame n 1 (Ints vs) := tame_ints (inr_small hz h) (by rw [h.len]; exact hn)
def ISz4 (S : Store) (p : Nat) (L : Nat) (its : List Val) (acc : List PyData) (S' : Store) : Prop := ∃ zs : List Int, ∃ o, acc = zs.map .int ∧ Sz zs ∧ zs.length + its.length = L ∧ PotO o ∧ S' = S.set p o
def IAll (zs : List Int) (p : Nat) (S : Store) (its : List Val) (ρ : EnvD) (S' : Store) : Prop := ∃ (k cnt : Nat) (d : PyData) (x : Option Val), its = (List.range' k cnt).map (fun (i : Nat) => Val.d (.int (i : Int))) ∧ (k : Int) + cnt = prodL zs ∧
  ρ = [some (.loc p), some (.d (Ints zs)), none, some (.d d), x] ∧ ((cnt = 0 ∧ d = .none) ∨ (0 < cnt ∧ ∃ vs, d = Ints vs ∧ InR zs vs ∧ numR zs vs = k)) ∧ S' = S
theorem repr_list {S : Store} {d : PyData} (h : Rp d) : biV .repr [.d d] S = .ok (.d (.str d.shown)) S := repr_ok rfl h
theorem r_small {n : Nat} (hn : 5 < n) {p : Nat} {S : Store} (h : Pot p S) : Gets (sem G T n 48 [.loc p] S) fun v S' => ∃ o, v = .d (.bool true) ∧ PotO o ∧ S' = S.set p o := by
  obtain ⟨m, rfl⟩ : ∃ m, n = m + 1 := ⟨n - 1, by omega⟩
  refine gets_sem t_law_small_right rfl ?_
  obtain ⟨_, _, e2, j, o2, rfl, hj, hj2, h2, rfl⟩ := r_draw (n := m) (by omega) h (m := 4) (by omega) (by omega)
  simp [dSs, dS, dE, dEs, dAnd, dOr, dT, Ev.tAnd, Ev.tOr, dU, dN, dB2, dIf, dVar, dCst, dO, dC, dI, dCall, dKall, pick, entry, isiV, isTy, tobV, truO, truV, okIf, datOf, seqOf, lstOf, datas, lstV, tupV, Out.bind_ok, f_law_small_right, tgt]
  refine gets_dLc ?_
  simp [dSs, dS, dE, dEs, dAnd, dOr, dT, Ev.tAnd, Ev.tOr, dU, dN, dB2, dIf, dVar, dCst, dO, dC, dI, dCall, dKall, pick, entry, isiV, isTy, tobV, truO, truV, okIf, datOf, seqOf, lstOf, datas, lstV, tupV, Out.bind_ok, e2]
  refine ⟨fun _ _ => ?_, by omega, by omega⟩
  refine gets_lc (ISz4 S p (1 + j).toNat) ?_ ?_ _ _ _ ⟨[], o2, rfl, (fun _ h => by cases h), by simp [rngI], h2, rfl⟩
  · rintro v its acc S' ⟨zs, o, rfl, hz, hl, ho, rfl⟩
    refine ⟨by simp [Itm.ck, rngI], by rw [List.length_map, sizeLine_eq]; simp at hl; omega, _, rfl, ?_⟩
    have p3 := h.set ho
    obtain ⟨_, _, e4, d, hd, o4, rfl, h4, rfl⟩ := r_pick (n := m) (by omega) (some := [.int 1, .int 2, .int 3, .int 4]) p3 (by simp) (by simp)
    obtain ⟨y, rfl, hy, hy2⟩ : ∃ y : Int, d = .int y ∧ 1 ≤ y ∧ y ≤ 4 := by
      simp at hd
      rcases hd with rfl | rfl | rfl | rfl
      · exact ⟨1, rfl, by decide, by decide⟩
      · exact ⟨2, rfl, by decide, by decide⟩
      · exact ⟨3, rfl, by decide, by decide⟩
      · exact ⟨4, rfl, by decide, by decide⟩
    simp only [List.set_set] at e4
    simp [dSs, dS, dE, dEs, dAnd, dOr, dT, Ev.tAnd, Ev.tOr, dU, dN, dB2, dIf, dVar, dCst, dO, dC, dI, dCall, dKall, pick, entry, isiV, isTy, tobV, truO, truV, okIf, datOf, seqOf, lstOf, datas, lstV, tupV, Out.bind_ok, wipeD, e4, sizeLine_eq]
    refine ⟨zs ++ [y], o4, by simp, fun w hw => ?_, by simp at hl ⊢; omega, h4, rfl⟩
    rcases List.mem_append.mp hw with hw | hw
    · exact hz w hw
    · rw [List.mem_singleton.mp hw]; exact ⟨hy, by omega⟩
  · rintro acc S' ⟨zs, o, rfl, hz, hl, ho, rfl⟩
    refine ⟨by simp [Itm.ck, rngI], ?_⟩
    simp at hl
    have hlen : 1 ≤ zs.length ∧ zs.length ≤ 4 := by omega
    have hne : zs ≠ [] := by rintro rfl; simp at hlen
    have hp1 := prod_pos hz
    have hp2 : prodL zs ≤ 160000 := by
      refine Int.le_trans (prod_le hz) ?_
      have : (20 : Nat) ^ zs.length ≤ 20 ^ 4 := Nat.pow_le_pow_right (by decide) hlen.2
      have e : ((20 ^ zs.length : Nat) : Int) = (20 : Int) ^ zs.length := by norm_cast
      rw [← e]
      have e4 : (20 : Nat) ^ 4 = 160000 := by decide
      omega
    have c1 : (zs.length : Int) = 1 ∨ 2 ≤ (zs.length : Int) ∧ (zs.length : Int) ≤ 1000 := by omega
    have pr := r_law_product (n := m) (by omega) hz (S.set p o)
    simp [dSs, dS, dE, dEs, dAnd, dOr, dT, Ev.tAnd, Ev.tOr, dU, dN, dB2, dIf, dVar, dCst, dO, dC, dI, dCall, dKall, pick, entry, isiV, isTy, tobV, truO, truV, okIf, datOf, seqOf, lstOf, datas, lstV, tupV, Out.bind_ok, sizeLine_eq, c1, pr]
    refine ⟨⟨fun _ _ => ?_, by omega, by omega⟩, by omega⟩
    refine gs_for (IAll zs p (S.set p o)) ?_ ?_ _ _ _ ⟨0, (prodL zs).toNat, Ints (List.replicate zs.length 0), none, by simp [rngI, List.range_eq_range'], by omega, by simp, .inr ⟨by omega, _, rfl, inr_zero hz, ?_⟩, rfl⟩
    · rintro v its ρ S' ⟨k, cnt, d, x, e, hk, rfl, hd, rfl⟩
      cases cnt with
      | zero => cases e
      | succ cnt =>
        rw [List.range'_succ, List.map_cons] at e
        cases e
        rcases hd with ⟨hd, _⟩ | ⟨_, vs, rfl, hv, hnum⟩
        · cases hd
        · have va := r_values_at (n := m) (by omega) hz hne (by omega) hv (S.set p o)
          have no := r_number_of (n := m) (by omega) hz hne (by omega) hv (S.set p o)
          have be := r_behind (n := m) (by omega) hv (by omega) (S.set p o)
          rw [hnum] at va no
          have rp : Rp (.list [Ints vs, .int (k : Int)]) := by
            refine rp_of (tame_list (m := 4) (k := 1) (n := 100) ?_ (by simp)) (by decide) (by decide)
            intro d hd
            simp at hd
            rcases hd with rfl | rfl
            · exact tame_in hz hv hlen.2
            · refine (tame_int (m := 4) (k := 1) ?_)
              have : (160000 : Nat) < 10 ^ 100 := by decide
              omega
          refine ⟨True.intro, _, rfl, ?_⟩
          simp [dSs, dS, dE, dEs, dAnd, dOr, dT, Ev.tAnd, Ev.tOr, dU, dN, dB2, dIf, dVar, dCst, dO, dC, dI, dCall, dKall, pick, entry, isiV, isTy, tobV, truO, truV, okIf, datOf, seqOf, lstOf, datas, lstV, tupV, Out.bind_ok, sizeLine_eq, va, no, be, repr_list rp]
          rcases suc_cases hz hv with ⟨e1, e2⟩ | ⟨ws, e1, g1, g2⟩
          · rw [e1]
            have e2 : (numR zs vs : Int) = k := hnum
            exact ⟨k + 1, cnt, .none, _, rfl, by omega, rfl, .inl ⟨by omega, rfl⟩, rfl⟩
          · rw [e1]
            have := (num_lt g1).2
            exact ⟨k + 1, cnt, Ints ws, _, rfl, by omega, rfl, .inr ⟨by omega, ws, rfl, g1, by omega⟩, rfl⟩
    · rintro ρ S' ⟨k, cnt, d, x, e, hk, rfl, hd, rfl⟩
      cases cnt with
      | succ cnt => rw [List.range'_succ, List.map_cons] at e; cases e
      | zero =>
        rcases hd with ⟨_, rfl⟩ | ⟨hd, _⟩
        · refine ⟨True.intro, ?_⟩
          simp [dSs, dS, dE, dEs, dAnd, dOr, dT, Ev.tAnd, Ev.tOr, dU, dN, dB2, dIf, dVar, dCst, dO, dC, dI, dCall, dKall, pick, entry, isiV, isTy, tobV, truO, truV, okIf, datOf, seqOf, lstOf, datas, lstV, tupV, Out.bind_ok]
          exact ⟨o, ho, rfl⟩
        · cases hd
    · have : ∀ zs : List Int, numR zs (List.replicate zs.length 0) = 0 := by
        intro zs
        induction zs with
        | nil => rfl
        | cons z zs ih =>
          rw [List.length_cons, List.replicate_succ]
          show 0 * prodL zs + numR zs (List.replicate zs.length 0) = 0
          rw [ih]
          simp
      rw [this zs]
      rfl
/-! ### any value as sizes -/
def IDue (its0 : List (PyData × Bool)) (p a b : Nat) (zs : PyData) (S : Store) (its : List Val) (ρ : EnvD) (S' : Store) : Prop := ∃ (rs : List (PyData × Bool)) (x y z : Option Val), its = rs.map (fun q => Val.d (.tuple [q.1, .bool q.2])) ∧ (∀ q ∈ rs, q ∈ its0) ∧
  ρ = [some (.loc p), some (.d zs), some (.loc a), some (.loc b), none, x, y, z] ∧ S' = S
theorem r_kall1 {C : Calls} {k : Nat} {v : Val} {S : Store} : dKall C k [0] (fun _ S => .ok [] S) (fun _ S => .ok [v] S) [] S = C k [v] S := rfl
end HT
end

section
set_option Elab.async false
set_option linter.all false
set_option maxRecDepth 100000
set_option maxHeartbeats 4000000
namespace HT
open PySem PySem.Spec L2 Ev
/-! ### any value as sizes -/
abbrev dueD (q : PyData × Bool) : PyData := .tuple [q.1, .bool q.2]
def GoodQ (q : PyData × Bool) : Prop := q.2 = isSizes q.1 ∧ Rp q.1 ∧ (∀ ds, q.1 = .tuple ds → ds.length ≤ sizeLine)
def IDueJ (p a b : Nat) (zs : PyData) (S : Store) (its : List Val) (ρ : EnvD) (S' : Store) : Prop := ∃ (rs : List (PyData × Bool)) (x y z : Option Val), its = (rs.map dueD).map Val.d ∧ (∀ q ∈ rs, GoodQ q) ∧
  ρ = [some (.loc p), some (.d zs), some (.loc a), some (.loc b), none, x, y, z] ∧ S' = S
def oddD (d : PyData) : Prop := Tame 1 1 d
theorem rp_dict : Rp (.dict []) := ⟨by rfl, by decide, by rw [sizeLine_eq]; decide⟩
theorem rp_bools {a b : Bool} : Rp (.list [.bool a, .bool b]) := rp_of (m := 2) (k := 1) (tame_list (m := 0) (k := 0) (by intro d hd; simp at hd; rcases hd with rfl | rfl <;> exact tame_bool) (by simp)) (by decide) (by decide)
def L0 (zs : List Int) : List (PyData × Bool) := [(Ints zs, true), (.list (zs.map .int), false), (.tuple [], false), (.none, false), (.int 2, false), (.str "2", false), (.dict [], false), (.tuple [.int 1], true), (.tuple [.int 0], false)]
theorem tame_small {z : Int} {n k : Nat} (h0 : -100 ≤ z) (h1 : z ≤ 100) : Tame n k (.int z) := tame_int (small_abs h0 h1)
theorem t2 : Tame 1 0 (.str "2") := ⟨by decide, by decide, by decide⟩
theorem good0 {zs : List Int} (hz : Sz zs) (h0 : zs ≠ []) (hl : zs.length ≤ 1000) : ∀ q ∈ L0 zs, GoodQ q := by
  intro q hq
  have hs := sizeLine_eq
  simp [L0] at hq
  rcases hq with rfl | rfl | rfl | rfl | rfl | rfl | rfl | rfl | rfl
  · refine ⟨(sz_pos hz h0).symm, rp_of (tame_sz hz hl) (by decide) (by decide), ?_⟩
    intro ds e; cases e; rw [List.length_map]; omega
  · exact ⟨rfl, rp_of (tame_list (m := 0) (k := 0) (n := 1000) (fun d hd => by obtain ⟨z, hz', rfl⟩ := List.mem_map.mp hd; have := hz z hz'; exact tame_small (by omega) (by omega)) (by simpa using hl)) (by decide) (by decide), fun _ e => by cases e⟩
  · exact ⟨rfl, rp_of (m := 0) (k := 1) (tame_tuple (m := 0) (k := 0) (fun d hd => by cases hd) (by simp)) (by decide) (by decide), fun _ e => by cases e; simp⟩
  · exact ⟨rfl, rp_of (m := 0) (k := 0) tame_none (by decide) (by decide), fun _ e => by cases e⟩
  · exact ⟨rfl, rp_of (m := 0) (k := 0) (tame_small (by decide) (by decide)) (by decide) (by decide), fun _ e => by cases e⟩
  · exact ⟨rfl, rp_of (m := 4) (k := 0) (t2.imp (by decide) (by decide)) (by decide) (by decide), fun _ e => by cases e⟩
  · exact ⟨rfl, rp_dict, fun _ e => by cases e⟩
  · exact ⟨rfl, rp_of (m := 1) (k := 1) (tame_tuple (m := 0) (k := 0) (fun d hd => by simp at hd; subst hd; exact tame_small (by decide) (by decide)) (by simp)) (by decide) (by decide), fun _ e => by cases e; simp [sizeLine_eq]⟩
  · exact ⟨rfl, rp_of (m := 1) (k := 1) (tame_tuple (m := 0) (k := 0) (fun d hd => by simp at hd; subst hd; exact tame_small (by decide) (by decide)) (by simp)) (by decide) (by decide), fun _ e => by cases e; simp [sizeLine_eq]⟩
theorem r_any {n : Nat} (hn : 5 < n) {p : Nat} {S : Store} (h : Pot p S) {zs : List Int} (hz : Sz zs) (h0 : zs ≠ []) (hl : zs.length ≤ 22) :
    Gets (sem G T n 49 [.loc p, .d (Ints zs)] S) fun v S' => ∃ o, v = .d (.bool true) ∧ PotO o ∧ S' = S.set p o := by
  obtain ⟨m, rfl⟩ : ∃ m, n = m + 1 := ⟨n - 1, by omega⟩
  refine gets_sem t_law_any_right rfl ?_
  have hp := h.lt
  have hlen : 0 < zs.length := List.length_pos_iff.mpr h0
  have p1 : Pot p (S ++ [.lst (zs.map .int)]) := by
    obtain ⟨o, e, ho⟩ := h
    exact ⟨o, by rw [List.getElem?_append_left hp]; exact e, ho⟩
  obtain ⟨_, _, e2, w, hw, o2, rfl, h2, rfl⟩ := r_pick (n := m) (by omega) (some := [.int 0, .int (-1), .bool true, .none, .str "2", .tuple [.int 2], .int 100000000000000000000]) p1 (by simp) (by simp)
  have p2 := p1.set h2
  obtain ⟨_, _, e3, j, o3, rfl, hj, hj2, h3, rfl⟩ := r_draw (n := m) (by omega) p2 (m := zs.length) (by omega) (by omega)
  have tw : Tame 2 1 w := by
    simp at hw
    rcases hw with rfl | rfl | rfl | rfl | rfl | rfl | rfl
    · exact tame_small (by decide) (by decide)
    · exact tame_small (by decide) (by decide)
    · exact tame_bool
    · exact tame_none
    · exact t2.imp (by decide) (by decide)
    · exact tame_tuple (m := 0) (k := 0) (fun d hd => by simp at hd; subst hd; exact tame_small (by decide) (by decide)) (by simp)
    · exact tame_int (by decide)
  have x10 : (10 : Int) ^ 20 = 100000000000000000000 := by decide
  have gA : ∀ o X R, (S.set p o ++ X :: R)[S.length]? = some X := fun o X R => by
    rw [List.getElem?_append_right (by simp)]; simp
  have gB : ∀ o X Y, (S.set p o ++ [X, Y])[S.length + 1]? = some Y := fun o X Y => by
    rw [List.getElem?_append_right (by simp)]; simp
  have sA : ∀ o X Z, (S.set p o ++ [X]).set S.length Z = S.set p o ++ [Z] := fun o X Z => by
    rw [List.set_append_right _ _ (by simp)]; simp
  have sB : ∀ o X Y Z, (S.set p o ++ [X, Y]).set (S.length + 1) Z = S.set p o ++ [X, Z] := fun o X Y Z => by
    rw [List.set_append_right _ _ (by simp)]; simp
  have sP : ∀ o o' R, (S.set p o ++ R).set p o' = S.set p o' ++ R := fun o o' R => by
    rw [List.set_append_left _ _ (by simpa using hp), List.set_set]
  have aA : ∀ o X Y, S.set p o ++ [X] ++ [Y] = S.set p o ++ [X, Y] := fun o X Y => by simp
  have tk : ∀ o R, (S.set p o ++ R).take S.length = S.set p o := fun o R => by
    rw [List.take_append_of_le_length (by simp), List.take_of_length_le (by simp)]
  simp only [List.set_append_left _ _ hp, List.set_set, sP] at e2 e3
  obtain ⟨jn, rfl⟩ : ∃ k : Nat, j = (k : Int) := ⟨j.toNat, by omega⟩
  have ix : ixN zs.length (jn : Int) = some jn := by
    unfold ixN
    simp
    omega
  have hlz : ∀ o R, biV .len [.loc S.length] (S.set p o ++ .lst (zs.map .int) :: R) = .ok (.d (.int zs.length)) (S.set p o ++ .lst (zs.map .int) :: R) := fun o R => by
    rw [len_loc (gA o _ R)]; simp
  have hst : ∀ o, setV (.loc S.length) (.d (.int jn)) (.d w) (S.set p o ++ [.lst (zs.map .int)]) = .ok () (S.set p o ++ [.lst ((zs.map .int).set jn w)]) := fun o => by
    rw [set_loc (gA o _ _)]; simp only [List.length_map, ix, sA]
  simp [dSs, dS, dE, dEs, dAnd, dOr, dT, Ev.tAnd, Ev.tOr, dU, dN, dB2, dIf, dVar, dCst, dO, dC, dI, dCall, dKall, pick, entry, isiV, isTy, tobV, truO, truV, okIf, datOf, seqOf, lstOf, datas, lstV, tupV, Out.bind_ok, f_law_any_right, tgt, x10, sizeLine_eq, e2, e3, hlz, hst]
  obtain ⟨ys, hys⟩ : ∃ ys, ys = (zs.map PyData.int).set jn w := ⟨_, rfl⟩
  have hyl : ys.length = zs.length := by rw [hys]; simp
  have hyt : ∀ d ∈ ys, Tame 2 1 d := by
    intro d hd
    rw [hys] at hd
    rcases List.mem_or_eq_of_mem_set hd with hd | rfl
    · obtain ⟨z, hz', rfl⟩ := List.mem_map.mp hd
      have := hz z hz'
      exact tame_small (by omega) (by omega)
    · exact tw
  have hy0 : ys ≠ [] := by intro e; rw [e] at hyl; simp at hyl; omega
  rw [← hys]
  have rB : ∀ o X L, recV (.loc (S.length + 1)) (S.set p o ++ [X, .lst L]) = .ok (.loc (S.length + 1)) (S.set p o ++ [X, .lst L]) := fun o X L => by
    unfold recV; simp only [gB]
  have tA : ∀ o L R, biV .tuple [.loc S.length] (S.set p o ++ .lst L :: R) = .ok (.d (.tuple L)) (S.set p o ++ .lst L :: R) := fun o L R => tuple_loc (gA o _ _)
  have qA : ∀ o L R, seqI (.loc S.length) (S.set p o ++ .lst L :: R) = .ok ⟨L.map .d, some (S.length, L)⟩ (S.set p o ++ .lst L :: R) := fun o L R => by
    unfold seqI; simp only [gA]
  have qB : ∀ o X L, seqI (.loc (S.length + 1)) (S.set p o ++ [X, .lst L]) = .ok ⟨L.map .d, some (S.length + 1, L)⟩ (S.set p o ++ [X, .lst L]) := fun o X L => by
    unfold seqI; simp only [gB]
  have pB : ∀ o X (L : List PyData) d, L.length < sizeLine → meV .append (.loc (S.length + 1)) [.d d] (S.set p o ++ [X, .lst L]) = .ok (.d .none) (S.set p o ++ [X, .lst (L ++ [d])]) := fun o X L d hL => by
    rw [app_loc (gB _ _ _) hL, sB]
  simp [rB, tA]
  refine gets_each .d (fun x => .bool (pos1 x)) ys (n := some (S.length, ys)) (S := S.set p o3 ++ [.lst ys, .lst ((L0 zs).map dueD)]) ?_ ?_ ?_ (by rw [hyl, sizeLine_eq]; omega) ?_
  · simp [qA, L0]
  · simp [Itm.ck, gA]
  · intro x hx
    refine ⟨_, rfl, ?_⟩
    cases x <;> simp [dSs, dS, dE, dEs, dAnd, dOr, dT, Ev.tAnd, Ev.tOr, dU, dN, dB2, dIf, dVar, dCst, dO, dC, dI, dCall, dKall, pick, entry, isiV, isTy, tobV, truO, truV, okIf, datOf, seqOf, lstOf, datas, lstV, tupV, Out.bind_ok, pos1, wipeD, isInt]
    omega
  · have good : ∀ q ∈ L0 zs ++ [(PyData.tuple ys, ys.all pos1)], GoodQ q := by
      intro q hq
      rcases List.mem_append.mp hq with hq | hq
      · exact good0 hz h0 (by omega) q hq
      · simp at hq
        subst hq
        refine ⟨by simp [isSizes, hy0], rp_of (m := 100) (k := 2) (tame_tuple (m := 2) (k := 1) hyt (by omega)) (by decide) (by decide), ?_⟩
        intro ds e; cases e; rw [sizeLine_eq]; omega
    have hLl : ((L0 zs).map dueD).length < sizeLine := by simp [L0, sizeLine_eq]
    have d2 : datas [Val.d (.tuple ys), Val.d (.bool (ys.all pos1))] = some [.tuple ys, .bool (ys.all pos1)] := rfl
    have eL : (L0 zs).map dueD ++ [PyData.tuple [.tuple ys, .bool (ys.all pos1)]] = (L0 zs ++ [(PyData.tuple ys, ys.all pos1)]).map dueD := by simp
    simp [d2, pB _ _ ((L0 zs).map dueD) _ hLl, qB]
    obtain ⟨rs0, hrs⟩ : ∃ rs : List (PyData × Bool), rs = L0 zs ++ [(PyData.tuple ys, ys.all pos1)] := ⟨_, rfl⟩
    rw [eL, ← hrs]
    rw [← hrs] at good
    refine gs_for (IDueJ p S.length (S.length + 1) (Ints zs) (S.set p o3 ++ [.lst ys, .lst (rs0.map dueD)])) ?_ ?_ _ _ _ ⟨rs0, none, none, none, (by rw [hrs]; simp), good, rfl, rfl⟩
    · rintro v its ρ S' ⟨rs, x, y, z, e, hg, rfl, rfl⟩
      refine ⟨by simp [Itm.ck, gB], ?_⟩
      cases rs with
      | nil => cases e
      | cons q rs =>
        cases e
        obtain ⟨g1, g2, g3⟩ := hg q List.mem_cons_self
        have is1 := r_is_sizes (n := m) (by omega) q.1 g3
        refine ⟨_, rfl, ?_⟩
        simp [dSs, dS, dE, dEs, dAnd, dOr, dT, Ev.tAnd, Ev.tOr, dU, dN, dB2, dIf, dVar, dCst, dO, dC, dI, dCall, dKall, pick, entry, isiV, isTy, tobV, truO, truV, okIf, datOf, seqOf, lstOf, datas, lstV, tupV, Out.bind_ok, setAll, sizeLine_eq, repr_list g2, is1, g1, repr_list rp_bools]
        exact ⟨rs, _, _, _, (by simp), fun q' hq' => hg q' (List.mem_cons_of_mem _ hq'), rfl, rfl⟩
    · rintro ρ S' ⟨rs, x, y, z, e, hg, rfl, rfl⟩
      refine ⟨by simp [Itm.ck, gB], ?_⟩
      simp [dSs, dS, dE, dEs, dAnd, dOr, dT, Ev.tAnd, Ev.tOr, dU, dN, dB2, dIf, dVar, dCst, dO, dC, dI, dCall, dKall, pick, entry, isiV, isTy, tobV, truO, truV, okIf, datOf, seqOf, lstOf, datas, lstV, tupV, Out.bind_ok]
      exact ⟨o3, h3, rfl⟩
end HT
end

section
set_option Elab.async false
set_option linter.all false
set_option maxRecDepth 100000
set_option maxHeartbeats 4000000
namespace HT
open PySem PySem.Spec L2 Ev
/-! ### the order of values is the order of numbers -/
theorem lex_num : ∀ {zs vs us : List Int}, InR zs vs → InR zs us → lexLt vs us = decide (numR zs vs < numR zs us)
  | [], [], [], _, _ => by simp [lexLt, numR]
  | [], [], _ :: _, _, h => h.elim
  | [], _ :: _, _, h, _ => h.elim
  | _ :: _, [], _, h, _ => h.elim
  | _ :: _, _ :: _, [], _, h => h.elim
  | z :: zs, v :: vs, u :: us, h, g => by
    rw [lexLt_cons, lex_num h.2 g.2]
    have h2 := num_lt h.2
    have g2 := num_lt g.2
    have hp : 0 < prodL zs := by omega
    show _ = decide (v * prodL zs + numR zs vs < u * prodL zs + numR zs us)
    by_cases e : v = u
    · subst e
      rw [if_pos rfl]
      congr 1
      apply propext
      omega
    · rw [if_neg e]
      congr 1
      apply propext
      constructor
      · intro lt
        have : (v + 1) * prodL zs ≤ u * prodL zs := Int.mul_le_mul_of_nonneg_right (by omega) (by omega)
        rw [Int.add_mul] at this
        omega
      · intro lt
        by_cases c : v < u
        · exact c
        · have : (u + 1) * prodL zs ≤ v * prodL zs := Int.mul_le_mul_of_nonneg_right (by omega) (by omega)
          rw [Int.add_mul] at this
          omega
/-! ### the middle value can be shown -/
theorem tame_txt {x : Str} {n : Nat} (h : x.length ≤ n) (hc : ∀ c ∈ x.cps.toList, c < 1114112) : Tame n 0 (.str x) := by
  refine ⟨?_, h, Nat.le_refl _⟩
  unfold Ev.lf
  rw [List.all_eq_true]
  exact fun c hc' => decide_eq_true (hc c hc')
structure VaSm (v : Va) : Prop where
  a : v.1.length ≤ 5 ∧ ∀ c ∈ v.1.cps.toList, c < 1114112
  b : v.2.length ≤ 20
  c : ∀ x ∈ v.2, x.length ≤ 3 ∧ ∀ c ∈ x.cps.toList, c < 1114112
theorem tame_va {v : Va} (h : VaSm v) : Tame 200 2 (varD v) := by
  refine tame_tuple (m := 80) (fun d hd => ?_) (by simp)
  simp at hd
  rcases hd with rfl | rfl
  · exact (tame_txt h.a.1 h.a.2).imp (by decide) (by decide)
  · refine tame_tuple (m := 3) (k := 0) (fun d hd => ?_) (by have := h.b; rw [List.length_map]; omega)
    obtain ⟨x, hx, rfl⟩ := List.mem_map.mp hd
    exact tame_txt (h.c x hx).1 (h.c x hx).2
theorem va_small {a b : Int} {ms : List Int} (h : Sz (a :: ms ++ [b])) (hl : ms.length ≤ 20) : ∀ v ∈ mkV a ms b, VaSm v := by
  have cp : ∀ {x : Str}, x.cps.toList.all (fun c => decide (32 ≤ c) && decide (c ≤ 126)) = true → ∀ c ∈ x.cps.toList, c < 1114112 := by
    intro x hx c hc
    have := List.all_eq_true.mp hx c hc
    simp at this
    omega
  have cp2 : ∀ {x : Str}, x.cps.toList.all (fun c => decide (48 ≤ c) && decide (c ≤ 57)) = true → ∀ c ∈ x.cps.toList, c < 1114112 := by
    intro x hx c hc
    have := List.all_eq_true.mp hx c hc
    simp at this
    omega
  intro v hv
  unfold mkV at hv
  rcases List.mem_append.mp hv with hv | hv
  · rcases List.mem_cons.mp hv with e | hv
    · subst e
      have ha := h a (by simp)
      refine ⟨⟨(show ("room" : Str).length ≤ 5 by decide +kernel), cp (show ("room" : Str).cps.toList.all (fun c => decide (32 ≤ c) && decide (c ≤ 126)) = true by decide +kernel)⟩, by simp [vF]; omega, fun x hx => ?_⟩
      obtain ⟨i, hi, rfl⟩ := List.mem_map.mp hx
      rw [List.mem_range] at hi
      have t := (r_txt i (by omega)).2.1
      exact ⟨t.1, cp t.2⟩
    · obtain ⟨p, hp, rfl⟩ := List.mem_map.mp hv
      have h1 := List.mem_zipIdx hp
      have hz := h p.1 (by rw [h1.2.2]; simp)
      have t := (r_txt p.2 (by omega)).1
      refine ⟨⟨Nat.le_trans t.1.2 (by decide), cp t.2⟩, by simp [vM]; omega, fun x hx => ?_⟩
      obtain ⟨i, hi, rfl⟩ := List.mem_map.mp hx
      rw [List.mem_range] at hi
      have t := nm_ok i (by omega)
      exact ⟨by omega, cp2 t.2⟩
  · rw [List.mem_singleton.mp hv]
    have hb := h b (by simp)
    refine ⟨⟨(show ("ended" : Str).length ≤ 5 by decide +kernel), cp (show ("ended" : Str).cps.toList.all (fun c => decide (32 ≤ c) && decide (c ≤ 126)) = true by decide +kernel)⟩, by simp [vE]; omega, fun x hx => ?_⟩
    have := List.all_eq_true.mp letters_ok x (List.mem_of_mem_take hx)
    rw [Bool.and_eq_true] at this
    exact ⟨of_decide_eq_true this.1, fun c hc => of_decide_eq_true (List.all_eq_true.mp this.2 c hc)⟩
theorem tame_mid {a b : Int} {ms vs : List Int} (h : Sz (a :: ms ++ [b])) (hl : ms.length ≤ 20) (hr : InR (a :: ms ++ [b]) vs) : Rp (midD (mkV a ms b) vs a.toNat) := by
  have ha := h a (by simp)
  refine rp_of (m := 60000) (k := 4) (tame_tuple (m := 9000) (k := 3) (fun d hd => ?_) (by simp)) (by decide) (by decide)
  simp at hd
  rcases hd with rfl | rfl | rfl | rfl
  · refine tame_tuple (m := 200) (k := 2) (fun d hd => ?_) (by simp [mkV]; omega)
    obtain ⟨v, hv, rfl⟩ := List.mem_map.mp hd
    exact tame_va (va_small h hl v hv)
  · exact (tame_in h hr (n := 22) (by simp; omega)).imp (by decide) (by decide)
  · exact tame_tuple (m := 0) (k := 2) (fun d hd => by cases hd) (by simp)
  · refine tame_tuple (m := 400) (k := 2) (fun d hd => ?_) (by simp)
    simp at hd
    rcases hd with rfl | rfl | rfl
    · refine tame_tuple (m := 7) (k := 1) (fun d hd => ?_) (by simp; omega)
      rw [(List.mem_replicate.mp hd).2]
      exact (tame_txt (n := 7) (by decide +kernel) (by decide +kernel)).imp (by decide) (by decide)
    · refine tame_tuple (m := 0) (k := 1) (fun d hd => ?_) (by simp; omega)
      rw [(List.mem_replicate.mp hd).2]
      exact tame_tuple (m := 0) (k := 0) (fun d hd => by cases hd) (by simp)
    · exact tame_tuple (m := 0) (k := 1) (fun d hd => by cases hd) (by simp)
end HT
end

section
set_option Elab.async false
set_option linter.all false
set_option maxRecDepth 100000
set_option maxHeartbeats 4000000
namespace HT
open PySem PySem.Spec L2 Ev
theorem split_sz {zs : List Int} (h : 2 ≤ zs.length) : ∃ a ms b, zs = a :: ms ++ [b] := by
  cases zs with
  | nil => simp at h
  | cons a r =>
    have hr : r ≠ [] := by rintro rfl; simp at h
    exact ⟨a, r.dropLast, r.getLast hr, by rw [List.cons_append, List.dropLast_concat_getLast hr]⟩
theorem prod_big {zs : List Int} (hz : Sz zs) (hl : zs.length ≤ 22) : 1 ≤ prodL zs ∧ prodL zs ≤ 20 ^ 22 := by
  have h1 := prod_pos hz
  refine ⟨by omega, Int.le_trans (prod_le hz) ?_⟩
  have : (20 : Nat) ^ zs.length ≤ 20 ^ 22 := Nat.pow_le_pow_right (by decide) hl
  have e : ((20 ^ zs.length : Nat) : Int) = (20 : Int) ^ zs.length := by norm_cast
  rw [← e]
  have e2 : ((20 ^ 22 : Nat) : Int) = (20 : Int) ^ 22 := by norm_cast
  omega
theorem tame_upto {z : Int} {n k : Nat} (h0 : -(20 ^ 22) ≤ z) (h1 : z ≤ 20 ^ 22) : Tame n k (.int z) := tame_int (by
  have : (20 : Nat) ^ 22 < 10 ^ 100 := by decide
  have e2 : ((20 ^ 22 : Nat) : Int) = (20 : Int) ^ 22 := by norm_cast
  omega)
theorem wts_big : ∀ {zs : List Int}, Sz zs → zs.length ≤ 22 → ∀ w ∈ wts zs, -(20 ^ 22) ≤ w ∧ w ≤ 20 ^ 22
  | [], _, _, _, h => by cases h
  | z :: zs, hz, hl, w, h => by
    have hz2 : Sz zs := fun y hy => hz y (List.mem_cons_of_mem _ hy)
    have hl2 : zs.length ≤ 22 := by rw [List.length_cons] at hl; omega
    rcases List.mem_cons.mp h with e | h
    · rw [e]
      have := prod_big hz2 hl2
      omega
    · exact wts_big hz2 hl2 w h
theorem rp_mix {ds : List PyData} (h : ∀ d ∈ ds, Tame 1000 3 d) (hl : ds.length ≤ 4) : Rp (.list ds) := rp_of (m := 10000) (k := 4) (tame_list (m := 1000) (k := 3) h (by omega)) (by decide) (by decide)
theorem gs_cons {Gd : List PyData} {C : Calls} {s : CS} {r : CSs} {ρ : EnvD} {S : Store} {N B Cn : EnvD → Store → Prop} {R : Val → Store → Prop} (ρ' : EnvD) (S' : Store)
    (h : GS (dS Gd C s ρ S) (fun ρ1 S1 => ρ1 = ρ' ∧ S1 = S') R B Cn) (k : GS (dSs Gd C r ρ' S') N R B Cn) : GS (dSs Gd C (.cons s r) ρ S) N R B Cn := by
  have e : dSs Gd C (.cons s r) ρ S = (dS Gd C s ρ S).seq (dSs Gd C r) := by simp only [dSs]
  rw [e, gs_seq]
  cases q : dS Gd C s ρ S with
  | next ρ1 S1 => rw [q] at h; obtain ⟨rfl, rfl⟩ := h; exact k
  | _ => rw [q] at h; exact h
def dropB : Nat → CSs → CSs
  | 0, b => b
  | n + 1, .cons _ r => dropB n r
  | _ + 1, .nil => .nil
def BR (k : Nat) : CSs := dropB k f_law_right.body
def br14 := (rfl : BR 14 = CSs.cons _ CSs.nil)
theorem gs_at {BB : Nat → CSs} (hB : ∀ k, BB k = BR k) {Gd : List PyData} {C : Calls} {s : CS} (k k' : Nat) {ρ : EnvD} {S : Store} {N B Cn : EnvD → Store → Prop} {R : Val → Store → Prop} (e : BR k = .cons s (BR k')) (ρ' : EnvD) (S' : Store)
    (h : GS (dS Gd C s ρ S) (fun ρ1 S1 => ρ1 = ρ' ∧ S1 = S') R B Cn) (q : GS (dSs Gd C (BB k') ρ' S') N R B Cn) : GS (dSs Gd C (BB k) ρ S) N R B Cn := by
  rw [hB k, e]
  rw [hB k'] at q
  exact gs_cons ρ' S' h q
theorem gs_imp {o : SOut} {N N' B B' C C' : EnvD → Store → Prop} {R R' : Val → Store → Prop} (h : GS o N R B C) (n : ∀ ρ S, N ρ S → N' ρ S) (r : ∀ v S, R v S → R' v S) (b : ∀ ρ S, B ρ S → B' ρ S) (c : ∀ ρ S, C ρ S → C' ρ S) : GS o N' R' B' C' := by
  cases o with
  | next ρ S => exact n _ _ h
  | ret v S => exact r _ _ h
  | brk ρ S => exact b _ _ h
  | cont ρ S => exact c _ _ h
  | _ => exact h
structure RF (BB : Nat → CSs) (m p : Nat) (S : Store) (zs vs us : List Int) (o1 o2 o3 o4 o5 o6 : Ob) (M : PyData) (R : Val → Store → Prop) : Prop where
  hB : ∀ k, BB k = BR k
  hz : Sz zs
  h0 : zs ≠ []
  hzl : zs.length ≤ 22
  hm : 6 < m
  hv : InR zs vs
  hu : InR zs us
  e1 : sem G T m 45 [.loc p] S = .ok (.d (Ints zs)) (S.set p o1)
  e2 : sem G T m 46 [.loc p, .d (Ints zs)] (S.set p o1) = .ok (.d (Ints vs)) (S.set p o2)
  e3 : sem G T m 46 [.loc p, .d (Ints zs)] (S.set p o2) = .ok (.d (Ints us)) (S.set p o3)
  e4 : sem G T m 47 [.loc p, .d (Ints zs)] (S.set p o3) = .ok (.d M) (S.set p o4)
  e5 : sem G T m 49 [.loc p, .d (Ints zs)] (S.set p o4) = .ok (.d (.bool true)) (S.set p o5)
  e6 : sem G T m 48 [.loc p] (S.set p o5) = .ok (.d (.bool true)) (S.set p o6)
  rpM : Rp M
  c1 : ∀ S, sem G T m 42 [.d (Ints zs)] S = .ok (.d (.int (prodL zs))) S
  c2 : ∀ S, sem G T m 43 [.d (Ints zs), .d (Ints vs)] S = .ok (.d (.int (numR zs vs))) S
  c3 : ∀ S, sem G T m 43 [.d (Ints zs), .d (Ints us)] S = .ok (.d (.int (numR zs us))) S
  c4 : ∀ S, sem G T m 33 [.d (Ints zs)] S = .ok (.d (.int (prodL zs))) S
  c5 : ∀ S, sem G T m 34 [.d (Ints zs)] S = .ok (.d (Ints (wts zs))) S
  c6 : ∀ S, sem G T m 35 [.d (Ints zs), .d (Ints vs)] S = .ok (.d (.int (numR zs vs))) S
  c7 : ∀ S, sem G T m 35 [.d (Ints zs), .d (Ints us)] S = .ok (.d (.int (numR zs us))) S
  c8 : ∀ S, sem G T m 36 [.d (Ints zs), .d (.int (numR zs vs))] S = .ok (.d (Ints vs)) S
  c9 : ∀ S, sem G T m 36 [.d (Ints zs), .d (.int (numR zs us))] S = .ok (.d (Ints us)) S
  c10 : ∀ S, sem G T m 44 [.d (Ints zs), .d (Ints vs)] S = .ok (.d (sucO zs vs)) S
  d1 : ∀ S, sem G T m 32 [.d M] S = .ok (.d (Ints zs)) S
  d2 : ∀ S, sem G T m 37 [.d M, .d (Ints vs)] S = .ok (.d (.int (numR zs vs))) S
  d3 : ∀ S, sem G T m 37 [.d M, .d (Ints us)] S = .ok (.d (.int (numR zs us))) S
  d4 : ∀ S, sem G T m 38 [.d M, .d (.int (numR zs vs))] S = .ok (.d (Ints vs)) S
  d5 : ∀ S, sem G T m 38 [.d M, .d (.int (numR zs us))] S = .ok (.d (Ints us)) S
  rpA : Rp (.list [.int (prodL zs), .int (prodL zs), Ints (wts zs), Ints (wts zs)])
  rpB : Rp (.list [.int (numR zs vs), .int (numR zs vs), .int (numR zs us)])
  rpC : Rp (.list [Ints vs, Ints us])
  rpD : Rp (.list [Ints zs, Ints zs, .int (numR zs vs), .int (numR zs us)])
  fin : R (.d (.bool true)) (S.set p o6)
theorem r_s0 {BB : Nat → CSs} {m p : Nat} {S : Store} {zs vs us : List Int} {o1 o2 o3 o4 o5 o6 : Ob} {M : PyData} {R : Val → Store → Prop} (F : RF BB m p S zs vs us o1 o2 o3 o4 o5 o6 M R) : GS (dSs G (sem G T m) (BB 1) [some (.loc p), some (.d (Ints zs)), none, none, none, none, none, none, none, none, none, none, none] (S.set p o1)) (fun _ _ => False) R (fun _ _ => False) (fun _ _ => False) → GS (dSs G (sem G T m) (BB 0) [some (.loc p), none, none, none, none, none, none, none, none, none, none, none, none] (S)) (fun _ _ => False) R (fun _ _ => False) (fun _ _ => False) := by
  obtain ⟨hB, hz, h0, hzl, hm, hv, hu, e1, e2, e3, e4, e5, e6, rpM, c1, c2, c3, c4, c5, c6, c7, c8, c9, c10, d1, d2, d3, d4, d5, rpA, rpB, rpC, rpD, fin⟩ := F
  exact fun q => gs_at hB 0 1 rfl _ _ (by simp [dSs, dS, dE, dEs, dAnd, dOr, dT, Ev.tAnd, Ev.tOr, dU, dN, dB2, dIf, dVar, dCst, dO, dC, dI, dCall, dKall, pick, entry, isiV, isTy, tobV, truO, truV, okIf, datOf, seqOf, lstOf, datas, lstV, tupV, Out.bind_ok, tgt, e1]) q
theorem r_s1 {BB : Nat → CSs} {m p : Nat} {S : Store} {zs vs us : List Int} {o1 o2 o3 o4 o5 o6 : Ob} {M : PyData} {R : Val → Store → Prop} (F : RF BB m p S zs vs us o1 o2 o3 o4 o5 o6 M R) : GS (dSs G (sem G T m) (BB 2) [some (.loc p), some (.d (Ints zs)), some (.d (Ints vs)), some (.d (Ints us)), some (.d (.int (prodL zs))), none, none, none, none, none, none, none, none] (S.set p o3)) (fun _ _ => False) R (fun _ _ => False) (fun _ _ => False) → GS (dSs G (sem G T m) (BB 1) [some (.loc p), some (.d (Ints zs)), none, none, none, none, none, none, none, none, none, none, none] (S.set p o1)) (fun _ _ => False) R (fun _ _ => False) (fun _ _ => False) := by
  obtain ⟨hB, hz, h0, hzl, hm, hv, hu, e1, e2, e3, e4, e5, e6, rpM, c1, c2, c3, c4, c5, c6, c7, c8, c9, c10, d1, d2, d3, d4, d5, rpA, rpB, rpC, rpD, fin⟩ := F
  exact fun q => gs_at hB 1 2 rfl _ _ (by simp [dSs, dS, dE, dEs, dAnd, dOr, dT, Ev.tAnd, Ev.tOr, dU, dN, dB2, dIf, dVar, dCst, dO, dC, dI, dCall, dKall, pick, entry, isiV, isTy, tobV, truO, truV, okIf, datOf, seqOf, lstOf, datas, lstV, tupV, Out.bind_ok, parD, e2, e3, c1]) q
theorem r_s2 {BB : Nat → CSs} {m p : Nat} {S : Store} {zs vs us : List Int} {o1 o2 o3 o4 o5 o6 : Ob} {M : PyData} {R : Val → Store → Prop} (F : RF BB m p S zs vs us o1 o2 o3 o4 o5 o6 M R) : GS (dSs G (sem G T m) (BB 3) [some (.loc p), some (.d (Ints zs)), some (.d (Ints vs)), some (.d (Ints us)), some (.d (.int (prodL zs))), some (.d (.int (numR zs vs))), some (.d (.int (numR zs us))), none, none, none, none, none, none] (S.set p o3)) (fun _ _ => False) R (fun _ _ => False) (fun _ _ => False) → GS (dSs G (sem G T m) (BB 2) [some (.loc p), some (.d (Ints zs)), some (.d (Ints vs)), some (.d (Ints us)), some (.d (.int (prodL zs))), none, none, none, none, none, none, none, none] (S.set p o3)) (fun _ _ => False) R (fun _ _ => False) (fun _ _ => False) := by
  obtain ⟨hB, hz, h0, hzl, hm, hv, hu, e1, e2, e3, e4, e5, e6, rpM, c1, c2, c3, c4, c5, c6, c7, c8, c9, c10, d1, d2, d3, d4, d5, rpA, rpB, rpC, rpD, fin⟩ := F
  exact fun q => gs_at hB 2 3 rfl _ _ (by simp [dSs, dS, dE, dEs, dAnd, dOr, dT, Ev.tAnd, Ev.tOr, dU, dN, dB2, dIf, dVar, dCst, dO, dC, dI, dCall, dKall, pick, entry, isiV, isTy, tobV, truO, truV, okIf, datOf, seqOf, lstOf, datas, lstV, tupV, Out.bind_ok, parD, c2, c3]) q
theorem rng1_nat {k : Nat} (h : k < 1000) {S : Store} : rng1I (.d (.int (k : Int))) S = .ok ⟨(List.range k).map (fun (i : Nat) => Val.d (.int (i : Int))), none⟩ S := by
  have hc : -(2 ^ 62 : Int) ≤ (k : Int) ∧ (k : Int) < 2 ^ 62 := ⟨by omega, by omega⟩
  have e : rngI 0 (k : Int).toNat = ⟨(List.range k).map (fun (i : Nat) => Val.d (.int (i : Int))), none⟩ := by simp [rngI]
  rw [← e]
  unfold rng1I
  exact if_pos hc
theorem bind_gen {α β : Type} {o : Out α} {v : α} {S : Store} {f : α → Store → Out β} (h : o = .ok v S) : o.bind f = f v S := by
  rw [h]
  rfl
theorem rng1_of {C : Calls} {a : CE} {ρ : EnvD} {S : Store} {k : Nat} (h : dE G C a ρ S = .ok (.d (.int (k : Int))) S) (hk : k < 1000) : dI G C (.rng1 a) ρ S = .ok ⟨(List.range k).map (fun (i : Nat) => Val.d (.int (i : Int))), none⟩ S := by
  have e : dI G C (.rng1 a) ρ S = (dE G C a ρ S).bind rng1I := by rw [dI]
  exact e.trans ((bind_gen h).trans (rng1_nat hk))
theorem comp3 {m : Nat} (hm : 6 < m) {zs : List Int} (hz : Sz zs) (hzl : zs.length ≤ 22) {a : Nat} {b c d e f : Val} (S : Store) :
    dE G (sem G T m) (.lc false (.call 42 (.cons (.sli (.var 1) (.some (.bin .Add (.var 8) (.cst (.int 1)))) .none) .nil)) [("at", 8)] (.nm 8) (.rng1 (.bi .len (.cons (.var 1) .nil))) .none) [some (.loc a), some (.d (Ints zs)), some b, some c, some d, some e, some f, none, none, none, none, none, none] S = .ok (.d (.list ((wts zs).map .int))) S := by
  have ew : (List.range zs.length).map (fun i => PyData.int (prodL (zs.drop (i + 1)))) = (wts zs).map .int := by
    rw [← wts_idx zs zs 0 rfl, List.map_map, List.range_eq_range']
    rfl
  have hs := sizeLine_eq
  simp only [dE, dC]
  rw [lc_each (fun i : Nat => Val.d (.int (i : Int))) (fun i => .int (prodL (zs.drop (i + 1)))) (List.range zs.length) S S none ?_ (by simp) (fun i hi => ⟨_, rfl, ?_⟩) (by rw [List.length_range]; omega), if_neg (by simp), ew]
  · have hl : dE G (sem G T m) (.bi .len (.cons (.var 1) .nil)) [some (.loc a), some (.d (Ints zs)), some b, some c, some d, some e, some f, none, none, none, none, none, none] S = .ok (.d (.int (zs.length : Int))) S := by simp [dSs, dS, dE, dEs, dAnd, dOr, dT, Ev.tAnd, Ev.tOr, dU, dN, dB2, dIf, dVar, dCst, dO, dC, dI, dCall, dKall, pick, entry, isiV, isTy, tobV, truO, truV, okIf, datOf, seqOf, lstOf, datas, lstV, tupV, Out.bind_ok]
    exact rng1_of hl (by omega)
  · have c := r_law_product (n := m) (by omega) (zs := zs.drop (i + 1)) (fun y hy => hz y (List.mem_of_mem_drop hy)) S
    have ci : (i : Int) + 1 = ((i + 1 : Nat) : Int) := by omega
    have c2 : sem G T m 42 [Val.d (.tuple ((zs.map PyData.int).drop (i + 1)))] S = .ok (.d (.int (prodL (zs.drop (i + 1))))) S := by rw [← List.map_drop]; exact c
    simp [dSs, dS, dE, dEs, dAnd, dOr, dT, Ev.tAnd, Ev.tOr, dU, dN, dB2, dIf, dVar, dCst, dO, dC, dI, dCall, dKall, pick, entry, isiV, isTy, tobV, truO, truV, okIf, datOf, seqOf, lstOf, datas, lstV, tupV, Out.bind_ok, wipeD, ci, cut_from, c2, -Int.natCast_add]
theorem s3gen {C : Calls} {W : CE} {ρ : EnvD} {S : Store} {L : List PyData} {B Cn : EnvD → Store → Prop} {R : Val → Store → Prop} (hw : dE G C W ρ S = .ok (.d (.list L)) S) :
    GS (dS G C (.asg (.nm 7) (.bi .tuple (.cons W .nil))) ρ S) (fun ρ1 S1 => ρ1 = ρ.set 7 (some (.d (.tuple L))) ∧ S1 = S) R B Cn := by
  simp [dSs, dS, dE, dEs, dAnd, dOr, dT, Ev.tAnd, Ev.tOr, dU, dN, dB2, dIf, dVar, dCst, dO, dC, dI, dCall, dKall, pick, entry, isiV, isTy, tobV, truO, truV, okIf, datOf, seqOf, lstOf, datas, lstV, tupV, Out.bind_ok, tgt, hw]
theorem s3step {BB : Nat → CSs} (hB : ∀ k, BB k = BR k) {C : Calls} {W : CE} {ρ ρ' : EnvD} {S : Store} {L : List PyData} {N B Cn : EnvD → Store → Prop} {R : Val → Store → Prop} (e : BR 3 = .cons (.asg (.nm 7) (.bi .tuple (.cons W .nil))) (BR 4)) (hw : dE G C W ρ S = .ok (.d (.list L)) S)
    (hr : ρ.set 7 (some (.d (.tuple L))) = ρ') (q : GS (dSs G C (BB 4) ρ' S) N R B Cn) : GS (dSs G C (BB 3) ρ S) N R B Cn := by
  subst hr
  exact gs_at hB 3 4 e _ _ (s3gen hw) q
theorem r_s3 {BB : Nat → CSs} {m p : Nat} {S : Store} {zs vs us : List Int} {o1 o2 o3 o4 o5 o6 : Ob} {M : PyData} {R : Val → Store → Prop} (F : RF BB m p S zs vs us o1 o2 o3 o4 o5 o6 M R) : GS (dSs G (sem G T m) (BB 4) [some (.loc p), some (.d (Ints zs)), some (.d (Ints vs)), some (.d (Ints us)), some (.d (.int (prodL zs))), some (.d (.int (numR zs vs))), some (.d (.int (numR zs us))), some (.d (Ints (wts zs))), none, none, none, none, none] (S.set p o3)) (fun _ _ => False) R (fun _ _ => False) (fun _ _ => False) → GS (dSs G (sem G T m) (BB 3) [some (.loc p), some (.d (Ints zs)), some (.d (Ints vs)), some (.d (Ints us)), some (.d (.int (prodL zs))), some (.d (.int (numR zs vs))), some (.d (.int (numR zs us))), none, none, none, none, none, none] (S.set p o3)) (fun _ _ => False) R (fun _ _ => False) (fun _ _ => False) := by
  obtain ⟨hB, hz, h0, hzl, hm, hv, hu, e1, e2, e3, e4, e5, e6, rpM, c1, c2, c3, c4, c5, c6, c7, c8, c9, c10, d1, d2, d3, d4, d5, rpA, rpB, rpC, rpD, fin⟩ := F
  exact fun q => s3step hB rfl (comp3 hm hz hzl _) rfl q
theorem r_s4 {BB : Nat → CSs} {m p : Nat} {S : Store} {zs vs us : List Int} {o1 o2 o3 o4 o5 o6 : Ob} {M : PyData} {R : Val → Store → Prop} (F : RF BB m p S zs vs us o1 o2 o3 o4 o5 o6 M R) : GS (dSs G (sem G T m) (BB 5) [some (.loc p), some (.d (Ints zs)), some (.d (Ints vs)), some (.d (Ints us)), some (.d (.int (prodL zs))), some (.d (.int (numR zs vs))), some (.d (.int (numR zs us))), some (.d (Ints (wts zs))), none, none, none, none, none] (S.set p o3)) (fun _ _ => False) R (fun _ _ => False) (fun _ _ => False) → GS (dSs G (sem G T m) (BB 4) [some (.loc p), some (.d (Ints zs)), some (.d (Ints vs)), some (.d (Ints us)), some (.d (.int (prodL zs))), some (.d (.int (numR zs vs))), some (.d (.int (numR zs us))), some (.d (Ints (wts zs))), none, none, none, none, none] (S.set p o3)) (fun _ _ => False) R (fun _ _ => False) (fun _ _ => False) := by
  obtain ⟨hB, hz, h0, hzl, hm, hv, hu, e1, e2, e3, e4, e5, e6, rpM, c1, c2, c3, c4, c5, c6, c7, c8, c9, c10, d1, d2, d3, d4, d5, rpA, rpB, rpC, rpD, fin⟩ := F
  exact fun q => gs_at hB 4 5 rfl _ _ (by
    simp [dSs, dS, dE, dEs, dAnd, dOr, dT, Ev.tAnd, Ev.tOr, dU, dN, dB2, dIf, dVar, dCst, dO, dC, dI, dCall, dKall, pick, entry, isiV, isTy, tobV, truO, truV, okIf, datOf, seqOf, lstOf, datas, lstV, tupV, Out.bind_ok, c4, c5, sizeLine_eq, repr_list rpA]) q
theorem r_s5 {BB : Nat → CSs} {m p : Nat} {S : Store} {zs vs us : List Int} {o1 o2 o3 o4 o5 o6 : Ob} {M : PyData} {R : Val → Store → Prop} (F : RF BB m p S zs vs us o1 o2 o3 o4 o5 o6 M R) : GS (dSs G (sem G T m) (BB 6) [some (.loc p), some (.d (Ints zs)), some (.d (Ints vs)), some (.d (Ints us)), some (.d (.int (prodL zs))), some (.d (.int (numR zs vs))), some (.d (.int (numR zs us))), some (.d (Ints (wts zs))), none, some (.d (.list [.int (numR zs vs), .int (numR zs vs), .int (numR zs us)])), none, none, none] (S.set p o3)) (fun _ _ => False) R (fun _ _ => False) (fun _ _ => False) → GS (dSs G (sem G T m) (BB 5) [some (.loc p), some (.d (Ints zs)), some (.d (Ints vs)), some (.d (Ints us)), some (.d (.int (prodL zs))), some (.d (.int (numR zs vs))), some (.d (.int (numR zs us))), some (.d (Ints (wts zs))), none, none, none, none, none] (S.set p o3)) (fun _ _ => False) R (fun _ _ => False) (fun _ _ => False) := by
  obtain ⟨hB, hz, h0, hzl, hm, hv, hu, e1, e2, e3, e4, e5, e6, rpM, c1, c2, c3, c4, c5, c6, c7, c8, c9, c10, d1, d2, d3, d4, d5, rpA, rpB, rpC, rpD, fin⟩ := F
  exact fun q => gs_at hB 5 6 rfl _ _ (by
    simp [dSs, dS, dE, dEs, dAnd, dOr, dT, Ev.tAnd, Ev.tOr, dU, dN, dB2, dIf, dVar, dCst, dO, dC, dI, dCall, dKall, pick, entry, isiV, isTy, tobV, truO, truV, okIf, datOf, seqOf, lstOf, datas, lstV, tupV, Out.bind_ok, tgt, c6, c7, sizeLine_eq]) q
theorem r_s6 {BB : Nat → CSs} {m p : Nat} {S : Store} {zs vs us : List Int} {o1 o2 o3 o4 o5 o6 : Ob} {M : PyData} {R : Val → Store → Prop} (F : RF BB m p S zs vs us o1 o2 o3 o4 o5 o6 M R) : GS (dSs G (sem G T m) (BB 7) [some (.loc p), some (.d (Ints zs)), some (.d (Ints vs)), some (.d (Ints us)), some (.d (.int (prodL zs))), some (.d (.int (numR zs vs))), some (.d (.int (numR zs us))), some (.d (Ints (wts zs))), none, some (.d (.list [.int (numR zs vs), .int (numR zs vs), .int (numR zs us)])), none, none, none] (S.set p o3)) (fun _ _ => False) R (fun _ _ => False) (fun _ _ => False) → GS (dSs G (sem G T m) (BB 6) [some (.loc p), some (.d (Ints zs)), some (.d (Ints vs)), some (.d (Ints us)), some (.d (.int (prodL zs))), some (.d (.int (numR zs vs))), some (.d (.int (numR zs us))), some (.d (Ints (wts zs))), none, some (.d (.list [.int (numR zs vs), .int (numR zs vs), .int (numR zs us)])), none, none, none] (S.set p o3)) (fun _ _ => False) R (fun _ _ => False) (fun _ _ => False) := by
  obtain ⟨hB, hz, h0, hzl, hm, hv, hu, e1, e2, e3, e4, e5, e6, rpM, c1, c2, c3, c4, c5, c6, c7, c8, c9, c10, d1, d2, d3, d4, d5, rpA, rpB, rpC, rpD, fin⟩ := F
  have cl : ∀ S, cmpV .Lt (.d (Ints vs)) (.d (Ints us)) S = .ok (.d (.bool (decide (numR zs vs < numR zs us)))) S := by
    intro S
    have i1 : ∀ l : List Int, intsOf (l.map .int) = some l := fun l => by simpa using ints_map id l
    unfold cmpV
    simp only [i1, lex_num hv hu]
  have nb : ∀ (b : Bool) (S : Store), cmpV .NotEq (.d (.bool b)) (.d (.bool b)) S = .ok (.d (.bool false)) S := by
    intro b S
    cases b <;> rfl
  exact fun q => gs_at hB 6 7 rfl _ _ (by
    simp [dSs, dS, dE, dEs, dAnd, dOr, dT, Ev.tAnd, Ev.tOr, dU, dN, dB2, dIf, dVar, dCst, dO, dC, dI, dCall, dKall, pick, entry, isiV, isTy, tobV, truO, truV, okIf, datOf, seqOf, lstOf, datas, lstV, tupV, Out.bind_ok, sizeLine_eq, repr_list rpB, atI, ixN, cl, nb]) q
theorem r_s7 {BB : Nat → CSs} {m p : Nat} {S : Store} {zs vs us : List Int} {o1 o2 o3 o4 o5 o6 : Ob} {M : PyData} {R : Val → Store → Prop} (F : RF BB m p S zs vs us o1 o2 o3 o4 o5 o6 M R) : GS (dSs G (sem G T m) (BB 8) [some (.loc p), some (.d (Ints zs)), some (.d (Ints vs)), some (.d (Ints us)), some (.d (.int (prodL zs))), some (.d (.int (numR zs vs))), some (.d (.int (numR zs us))), some (.d (Ints (wts zs))), none, some (.d (.list [.int (numR zs vs), .int (numR zs vs), .int (numR zs us)])), none, none, none] (S.set p o3)) (fun _ _ => False) R (fun _ _ => False) (fun _ _ => False) → GS (dSs G (sem G T m) (BB 7) [some (.loc p), some (.d (Ints zs)), some (.d (Ints vs)), some (.d (Ints us)), some (.d (.int (prodL zs))), some (.d (.int (numR zs vs))), some (.d (.int (numR zs us))), some (.d (Ints (wts zs))), none, some (.d (.list [.int (numR zs vs), .int (numR zs vs), .int (numR zs us)])), none, none, none] (S.set p o3)) (fun _ _ => False) R (fun _ _ => False) (fun _ _ => False) := by
  obtain ⟨hB, hz, h0, hzl, hm, hv, hu, e1, e2, e3, e4, e5, e6, rpM, c1, c2, c3, c4, c5, c6, c7, c8, c9, c10, d1, d2, d3, d4, d5, rpA, rpB, rpC, rpD, fin⟩ := F
  have cl : ∀ S, cmpV .Lt (.d (Ints vs)) (.d (Ints us)) S = .ok (.d (.bool (decide (numR zs vs < numR zs us)))) S := by
    intro S
    have i1 : ∀ l : List Int, intsOf (l.map .int) = some l := fun l => by simpa using ints_map id l
    unfold cmpV
    simp only [i1, lex_num hv hu]
  have nb : ∀ (b : Bool) (S : Store), cmpV .NotEq (.d (.bool b)) (.d (.bool b)) S = .ok (.d (.bool false)) S := by
    intro b S
    cases b <;> rfl
  exact fun q => gs_at hB 7 8 rfl _ _ (by
    simp [dSs, dS, dE, dEs, dAnd, dOr, dT, Ev.tAnd, Ev.tOr, dU, dN, dB2, dIf, dVar, dCst, dO, dC, dI, dCall, dKall, pick, entry, isiV, isTy, tobV, truO, truV, okIf, datOf, seqOf, lstOf, datas, lstV, tupV, Out.bind_ok, sizeLine_eq, c8, c9, repr_list rpC]) q
theorem r_s8 {BB : Nat → CSs} {m p : Nat} {S : Store} {zs vs us : List Int} {o1 o2 o3 o4 o5 o6 : Ob} {M : PyData} {R : Val → Store → Prop} (F : RF BB m p S zs vs us o1 o2 o3 o4 o5 o6 M R) : GS (dSs G (sem G T m) (BB 9) [some (.loc p), some (.d (Ints zs)), some (.d (Ints vs)), some (.d (Ints us)), some (.d (.int (prodL zs))), some (.d (.int (numR zs vs))), some (.d (.int (numR zs us))), some (.d (Ints (wts zs))), none, some (.d (.list [.int (numR zs vs), .int (numR zs vs), .int (numR zs us)])), some (.d (sucO zs vs)), none, none] (S.set p o3)) (fun _ _ => False) R (fun _ _ => False) (fun _ _ => False) → GS (dSs G (sem G T m) (BB 8) [some (.loc p), some (.d (Ints zs)), some (.d (Ints vs)), some (.d (Ints us)), some (.d (.int (prodL zs))), some (.d (.int (numR zs vs))), some (.d (.int (numR zs us))), some (.d (Ints (wts zs))), none, some (.d (.list [.int (numR zs vs), .int (numR zs vs), .int (numR zs us)])), none, none, none] (S.set p o3)) (fun _ _ => False) R (fun _ _ => False) (fun _ _ => False) := by
  obtain ⟨hB, hz, h0, hzl, hm, hv, hu, e1, e2, e3, e4, e5, e6, rpM, c1, c2, c3, c4, c5, c6, c7, c8, c9, c10, d1, d2, d3, d4, d5, rpA, rpB, rpC, rpD, fin⟩ := F
  have cl : ∀ S, cmpV .Lt (.d (Ints vs)) (.d (Ints us)) S = .ok (.d (.bool (decide (numR zs vs < numR zs us)))) S := by
    intro S
    have i1 : ∀ l : List Int, intsOf (l.map .int) = some l := fun l => by simpa using ints_map id l
    unfold cmpV
    simp only [i1, lex_num hv hu]
  have nb : ∀ (b : Bool) (S : Store), cmpV .NotEq (.d (.bool b)) (.d (.bool b)) S = .ok (.d (.bool false)) S := by
    intro b S
    cases b <;> rfl
  exact fun q => gs_at hB 8 9 rfl _ _ (by
    simp [dSs, dS, dE, dEs, dAnd, dOr, dT, Ev.tAnd, Ev.tOr, dU, dN, dB2, dIf, dVar, dCst, dO, dC, dI, dCall, dKall, pick, entry, isiV, isTy, tobV, truO, truV, okIf, datOf, seqOf, lstOf, datas, lstV, tupV, Out.bind_ok, tgt, c10]) q
theorem r_s9 {BB : Nat → CSs} {m p : Nat} {S : Store} {zs vs us : List Int} {o1 o2 o3 o4 o5 o6 : Ob} {M : PyData} {R : Val → Store → Prop} (F : RF BB m p S zs vs us o1 o2 o3 o4 o5 o6 M R) : GS (dSs G (sem G T m) (BB 10) [some (.loc p), some (.d (Ints zs)), some (.d (Ints vs)), some (.d (Ints us)), some (.d (.int (prodL zs))), some (.d (.int (numR zs vs))), some (.d (.int (numR zs us))), some (.d (Ints (wts zs))), none, some (.d (.list [.int (numR zs vs), .int (numR zs vs), .int (numR zs us)])), some (.d (sucO zs vs)), none, none] (S.set p o3)) (fun _ _ => False) R (fun _ _ => False) (fun _ _ => False) → GS (dSs G (sem G T m) (BB 9) [some (.loc p), some (.d (Ints zs)), some (.d (Ints vs)), some (.d (Ints us)), some (.d (.int (prodL zs))), some (.d (.int (numR zs vs))), some (.d (.int (numR zs us))), some (.d (Ints (wts zs))), none, some (.d (.list [.int (numR zs vs), .int (numR zs vs), .int (numR zs us)])), some (.d (sucO zs vs)), none, none] (S.set p o3)) (fun _ _ => False) R (fun _ _ => False) (fun _ _ => False) := by
  obtain ⟨hB, hz, h0, hzl, hm, hv, hu, e1, e2, e3, e4, e5, e6, rpM, c1, c2, c3, c4, c5, c6, c7, c8, c9, c10, d1, d2, d3, d4, d5, rpA, rpB, rpC, rpD, fin⟩ := F
  have cl : ∀ S, cmpV .Lt (.d (Ints vs)) (.d (Ints us)) S = .ok (.d (.bool (decide (numR zs vs < numR zs us)))) S := by
    intro S
    have i1 : ∀ l : List Int, intsOf (l.map .int) = some l := fun l => by simpa using ints_map id l
    unfold cmpV
    simp only [i1, lex_num hv hu]
  have nb : ∀ (b : Bool) (S : Store), cmpV .NotEq (.d (.bool b)) (.d (.bool b)) S = .ok (.d (.bool false)) S := by
    intro b S
    cases b <;> rfl
  exact fun q => gs_at hB 9 10 rfl _ _ (by
    rcases suc_cases hz hv with ⟨q1, q2⟩ | ⟨ws, q1, q2, q3⟩
    · have nn : ∀ S, cmpV .IsNot (.d .none) (.d .none) S = .ok (.d (.bool false)) S := fun _ => rfl
      rw [q1]
      simp [dSs, dS, dE, dEs, dAnd, dOr, dT, Ev.tAnd, Ev.tOr, dU, dN, dB2, dIf, dVar, dCst, dO, dC, dI, dCall, dKall, pick, entry, isiV, isTy, tobV, truO, truV, okIf, datOf, seqOf, lstOf, datas, lstV, tupV, Out.bind_ok, q2, nn]
    · have nn : ∀ xs S, cmpV .IsNot (.d (.tuple xs)) (.d .none) S = .ok (.d (.bool true)) S := fun _ _ => rfl
      have cw := fun S => r_values_at (n := m) (by omega) hz h0 (by omega) q2 S
      rw [q3] at cw
      have rw1 : Rp (Ints ws) := rp_of ((tame_in hz q2 hzl) : Tame 22 1 _) (by decide) (by decide)
      rw [q1]
      simp [dSs, dS, dE, dEs, dAnd, dOr, dT, Ev.tAnd, Ev.tOr, dU, dN, dB2, dIf, dVar, dCst, dO, dC, dI, dCall, dKall, pick, entry, isiV, isTy, tobV, truO, truV, okIf, datOf, seqOf, lstOf, datas, lstV, tupV, Out.bind_ok, nn, cw, repr_list rw1]) q
theorem r_s10 {BB : Nat → CSs} {m p : Nat} {S : Store} {zs vs us : List Int} {o1 o2 o3 o4 o5 o6 : Ob} {M : PyData} {R : Val → Store → Prop} (F : RF BB m p S zs vs us o1 o2 o3 o4 o5 o6 M R) : GS (dSs G (sem G T m) (BB 11) [some (.loc p), some (.d (Ints zs)), some (.d (Ints vs)), some (.d (Ints us)), some (.d (.int (prodL zs))), some (.d (.int (numR zs vs))), some (.d (.int (numR zs us))), some (.d (Ints (wts zs))), none, some (.d (.list [.int (numR zs vs), .int (numR zs vs), .int (numR zs us)])), some (.d (sucO zs vs)), some (.d M), none] (S.set p o4)) (fun _ _ => False) R (fun _ _ => False) (fun _ _ => False) → GS (dSs G (sem G T m) (BB 10) [some (.loc p), some (.d (Ints zs)), some (.d (Ints vs)), some (.d (Ints us)), some (.d (.int (prodL zs))), some (.d (.int (numR zs vs))), some (.d (.int (numR zs us))), some (.d (Ints (wts zs))), none, some (.d (.list [.int (numR zs vs), .int (numR zs vs), .int (numR zs us)])), some (.d (sucO zs vs)), none, none] (S.set p o3)) (fun _ _ => False) R (fun _ _ => False) (fun _ _ => False) := by
  obtain ⟨hB, hz, h0, hzl, hm, hv, hu, e1, e2, e3, e4, e5, e6, rpM, c1, c2, c3, c4, c5, c6, c7, c8, c9, c10, d1, d2, d3, d4, d5, rpA, rpB, rpC, rpD, fin⟩ := F
  have cl : ∀ S, cmpV .Lt (.d (Ints vs)) (.d (Ints us)) S = .ok (.d (.bool (decide (numR zs vs < numR zs us)))) S := by
    intro S
    have i1 : ∀ l : List Int, intsOf (l.map .int) = some l := fun l => by simpa using ints_map id l
    unfold cmpV
    simp only [i1, lex_num hv hu]
  have nb : ∀ (b : Bool) (S : Store), cmpV .NotEq (.d (.bool b)) (.d (.bool b)) S = .ok (.d (.bool false)) S := by
    intro b S
    cases b <;> rfl
  exact fun q => gs_at hB 10 11 rfl _ _ (by
    simp [dSs, dS, dE, dEs, dAnd, dOr, dT, Ev.tAnd, Ev.tOr, dU, dN, dB2, dIf, dVar, dCst, dO, dC, dI, dCall, dKall, pick, entry, isiV, isTy, tobV, truO, truV, okIf, datOf, seqOf, lstOf, datas, lstV, tupV, Out.bind_ok, tgt, e4]) q
theorem r_s11 {BB : Nat → CSs} {m p : Nat} {S : Store} {zs vs us : List Int} {o1 o2 o3 o4 o5 o6 : Ob} {M : PyData} {R : Val → Store → Prop} (F : RF BB m p S zs vs us o1 o2 o3 o4 o5 o6 M R) : GS (dSs G (sem G T m) (BB 12) [some (.loc p), some (.d (Ints zs)), some (.d (Ints vs)), some (.d (Ints us)), some (.d (.int (prodL zs))), some (.d (.int (numR zs vs))), some (.d (.int (numR zs us))), some (.d (Ints (wts zs))), none, some (.d (.list [.int (numR zs vs), .int (numR zs vs), .int (numR zs us)])), some (.d (sucO zs vs)), some (.d M), some (.d (.str M.shown))] (S.set p o4)) (fun _ _ => False) R (fun _ _ => False) (fun _ _ => False) → GS (dSs G (sem G T m) (BB 11) [some (.loc p), some (.d (Ints zs)), some (.d (Ints vs)), some (.d (Ints us)), some (.d (.int (prodL zs))), some (.d (.int (numR zs vs))), some (.d (.int (numR zs us))), some (.d (Ints (wts zs))), none, some (.d (.list [.int (numR zs vs), .int (numR zs vs), .int (numR zs us)])), some (.d (sucO zs vs)), some (.d M), none] (S.set p o4)) (fun _ _ => False) R (fun _ _ => False) (fun _ _ => False) := by
  obtain ⟨hB, hz, h0, hzl, hm, hv, hu, e1, e2, e3, e4, e5, e6, rpM, c1, c2, c3, c4, c5, c6, c7, c8, c9, c10, d1, d2, d3, d4, d5, rpA, rpB, rpC, rpD, fin⟩ := F
  have cl : ∀ S, cmpV .Lt (.d (Ints vs)) (.d (Ints us)) S = .ok (.d (.bool (decide (numR zs vs < numR zs us)))) S := by
    intro S
    have i1 : ∀ l : List Int, intsOf (l.map .int) = some l := fun l => by simpa using ints_map id l
    unfold cmpV
    simp only [i1, lex_num hv hu]
  have nb : ∀ (b : Bool) (S : Store), cmpV .NotEq (.d (.bool b)) (.d (.bool b)) S = .ok (.d (.bool false)) S := by
    intro b S
    cases b <;> rfl
  exact fun q => gs_at hB 11 12 rfl _ _ (by
    simp [dSs, dS, dE, dEs, dAnd, dOr, dT, Ev.tAnd, Ev.tOr, dU, dN, dB2, dIf, dVar, dCst, dO, dC, dI, dCall, dKall, pick, entry, isiV, isTy, tobV, truO, truV, okIf, datOf, seqOf, lstOf, datas, lstV, tupV, Out.bind_ok, tgt, repr_list rpM]) q
theorem r_s12 {BB : Nat → CSs} {m p : Nat} {S : Store} {zs vs us : List Int} {o1 o2 o3 o4 o5 o6 : Ob} {M : PyData} {R : Val → Store → Prop} (F : RF BB m p S zs vs us o1 o2 o3 o4 o5 o6 M R) : GS (dSs G (sem G T m) (BB 13) [some (.loc p), some (.d (Ints zs)), some (.d (Ints vs)), some (.d (Ints us)), some (.d (.int (prodL zs))), some (.d (.int (numR zs vs))), some (.d (.int (numR zs us))), some (.d (Ints (wts zs))), none, some (.d (.list [.int (numR zs vs), .int (numR zs vs), .int (numR zs us)])), some (.d (sucO zs vs)), some (.d M), some (.d (.str M.shown))] (S.set p o4)) (fun _ _ => False) R (fun _ _ => False) (fun _ _ => False) → GS (dSs G (sem G T m) (BB 12) [some (.loc p), some (.d (Ints zs)), some (.d (Ints vs)), some (.d (Ints us)), some (.d (.int (prodL zs))), some (.d (.int (numR zs vs))), some (.d (.int (numR zs us))), some (.d (Ints (wts zs))), none, some (.d (.list [.int (numR zs vs), .int (numR zs vs), .int (numR zs us)])), some (.d (sucO zs vs)), some (.d M), some (.d (.str M.shown))] (S.set p o4)) (fun _ _ => False) R (fun _ _ => False) (fun _ _ => False) := by
  obtain ⟨hB, hz, h0, hzl, hm, hv, hu, e1, e2, e3, e4, e5, e6, rpM, c1, c2, c3, c4, c5, c6, c7, c8, c9, c10, d1, d2, d3, d4, d5, rpA, rpB, rpC, rpD, fin⟩ := F
  have cl : ∀ S, cmpV .Lt (.d (Ints vs)) (.d (Ints us)) S = .ok (.d (.bool (decide (numR zs vs < numR zs us)))) S := by
    intro S
    have i1 : ∀ l : List Int, intsOf (l.map .int) = some l := fun l => by simpa using ints_map id l
    unfold cmpV
    simp only [i1, lex_num hv hu]
  have nb : ∀ (b : Bool) (S : Store), cmpV .NotEq (.d (.bool b)) (.d (.bool b)) S = .ok (.d (.bool false)) S := by
    intro b S
    cases b <;> rfl
  exact fun q => gs_at hB 12 13 rfl _ _ (by
    simp [dSs, dS, dE, dEs, dAnd, dOr, dT, Ev.tAnd, Ev.tOr, dU, dN, dB2, dIf, dVar, dCst, dO, dC, dI, dCall, dKall, pick, entry, isiV, isTy, tobV, truO, truV, okIf, datOf, seqOf, lstOf, datas, lstV, tupV, Out.bind_ok, sizeLine_eq, d1, d2, d3, repr_list rpD]) q
theorem r_s13 {BB : Nat → CSs} {m p : Nat} {S : Store} {zs vs us : List Int} {o1 o2 o3 o4 o5 o6 : Ob} {M : PyData} {R : Val → Store → Prop} (F : RF BB m p S zs vs us o1 o2 o3 o4 o5 o6 M R) : GS (dSs G (sem G T m) (BB 14) [some (.loc p), some (.d (Ints zs)), some (.d (Ints vs)), some (.d (Ints us)), some (.d (.int (prodL zs))), some (.d (.int (numR zs vs))), some (.d (.int (numR zs us))), some (.d (Ints (wts zs))), none, some (.d (.list [.int (numR zs vs), .int (numR zs vs), .int (numR zs us)])), some (.d (sucO zs vs)), some (.d M), some (.d (.str M.shown))] (S.set p o4)) (fun _ _ => False) R (fun _ _ => False) (fun _ _ => False) → GS (dSs G (sem G T m) (BB 13) [some (.loc p), some (.d (Ints zs)), some (.d (Ints vs)), some (.d (Ints us)), some (.d (.int (prodL zs))), some (.d (.int (numR zs vs))), some (.d (.int (numR zs us))), some (.d (Ints (wts zs))), none, some (.d (.list [.int (numR zs vs), .int (numR zs vs), .int (numR zs us)])), some (.d (sucO zs vs)), some (.d M), some (.d (.str M.shown))] (S.set p o4)) (fun _ _ => False) R (fun _ _ => False) (fun _ _ => False) := by
  obtain ⟨hB, hz, h0, hzl, hm, hv, hu, e1, e2, e3, e4, e5, e6, rpM, c1, c2, c3, c4, c5, c6, c7, c8, c9, c10, d1, d2, d3, d4, d5, rpA, rpB, rpC, rpD, fin⟩ := F
  have cl : ∀ S, cmpV .Lt (.d (Ints vs)) (.d (Ints us)) S = .ok (.d (.bool (decide (numR zs vs < numR zs us)))) S := by
    intro S
    have i1 : ∀ l : List Int, intsOf (l.map .int) = some l := fun l => by simpa using ints_map id l
    unfold cmpV
    simp only [i1, lex_num hv hu]
  have nb : ∀ (b : Bool) (S : Store), cmpV .NotEq (.d (.bool b)) (.d (.bool b)) S = .ok (.d (.bool false)) S := by
    intro b S
    cases b <;> rfl
  exact fun q => gs_at hB 13 14 rfl _ _ (by
    simp [dSs, dS, dE, dEs, dAnd, dOr, dT, Ev.tAnd, Ev.tOr, dU, dN, dB2, dIf, dVar, dCst, dO, dC, dI, dCall, dKall, pick, entry, isiV, isTy, tobV, truO, truV, okIf, datOf, seqOf, lstOf, datas, lstV, tupV, Out.bind_ok, sizeLine_eq, d4, d5, repr_list rpC]) q
theorem r_s14 {BB : Nat → CSs} {m p : Nat} {S : Store} {zs vs us : List Int} {o1 o2 o3 o4 o5 o6 : Ob} {M : PyData} {R : Val → Store → Prop} (F : RF BB m p S zs vs us o1 o2 o3 o4 o5 o6 M R) : GS (dSs G (sem G T m) (BB 14) [some (.loc p), some (.d (Ints zs)), some (.d (Ints vs)), some (.d (Ints us)), some (.d (.int (prodL zs))), some (.d (.int (numR zs vs))), some (.d (.int (numR zs us))), some (.d (Ints (wts zs))), none, some (.d (.list [.int (numR zs vs), .int (numR zs vs), .int (numR zs us)])), some (.d (sucO zs vs)), some (.d M), some (.d (.str M.shown))] (S.set p o4)) (fun _ _ => False) R (fun _ _ => False) (fun _ _ => False) := by
  obtain ⟨hB, hz, h0, hzl, hm, hv, hu, e1, e2, e3, e4, e5, e6, rpM, c1, c2, c3, c4, c5, c6, c7, c8, c9, c10, d1, d2, d3, d4, d5, rpA, rpB, rpC, rpD, fin⟩ := F
  have cl : ∀ S, cmpV .Lt (.d (Ints vs)) (.d (Ints us)) S = .ok (.d (.bool (decide (numR zs vs < numR zs us)))) S := by
    intro S
    have i1 : ∀ l : List Int, intsOf (l.map .int) = some l := fun l => by simpa using ints_map id l
    unfold cmpV
    simp only [i1, lex_num hv hu]
  have nb : ∀ (b : Bool) (S : Store), cmpV .NotEq (.d (.bool b)) (.d (.bool b)) S = .ok (.d (.bool false)) S := by
    intro b S
    cases b <;> rfl
  have e14 : BR 14 = .cons _ .nil := rfl
  rw [hB, e14]
  simp [dSs, dS, dE, dEs, dAnd, dOr, dT, Ev.tAnd, Ev.tOr, dU, dN, dB2, dIf, dVar, dCst, dO, dC, dI, dCall, dKall, pick, entry, isiV, isTy, tobV, truO, truV, okIf, datOf, seqOf, lstOf, datas, lstV, tupV, Out.bind_ok, repr_list rpM, e5, e6]
  exact fin
theorem right_core {BB : Nat → CSs} {m p : Nat} {S : Store} {zs vs us : List Int} {o1 o2 o3 o4 o5 o6 : Ob} {M : PyData} {R : Val → Store → Prop} (F : RF BB m p S zs vs us o1 o2 o3 o4 o5 o6 M R) : GS (dSs G (sem G T m) (BB 0) [some (.loc p), none, none, none, none, none, none, none, none, none, none, none, none] S) (fun _ _ => False) R (fun _ _ => False) (fun _ _ => False) :=
  r_s0 F (r_s1 F (r_s2 F (r_s3 F (r_s4 F (r_s5 F (r_s6 F (r_s7 F (r_s8 F (r_s9 F (r_s10 F (r_s11 F (r_s12 F (r_s13 F (r_s14 F))))))))))))))
theorem right_rps {zs vs us : List Int} (hz : Sz zs) (hzl : zs.length ≤ 22) (hv : InR zs vs) (hu : InR zs us) : Rp (.list [.int (prodL zs), .int (prodL zs), Ints (wts zs), Ints (wts zs)]) ∧ Rp (.list [.int (numR zs vs), .int (numR zs vs), .int (numR zs us)]) ∧ Rp (.list [Ints vs, Ints us]) ∧
    Rp (.list [Ints zs, Ints zs, .int (numR zs vs), .int (numR zs us)]) := by
  have tP := prod_big hz hzl
  have bN := num_lt hv
  have bN2 := num_lt hu
  have tP : Tame 1000 3 (.int (prodL zs)) := tame_upto (by omega) (by omega)
  have tN : Tame 1000 3 (.int (numR zs vs)) := tame_upto (by omega) (by omega)
  have tN2 : Tame 1000 3 (.int (numR zs us)) := tame_upto (by omega) (by omega)
  have tV : Tame 1000 3 (Ints vs) := (tame_in hz hv hzl).imp (by decide) (by decide)
  have tU : Tame 1000 3 (Ints us) := (tame_in hz hu hzl).imp (by decide) (by decide)
  have tZ : Tame 1000 3 (Ints zs) := (tame_sz hz hzl).imp (by decide) (by decide)
  have tW : Tame 1000 3 (Ints (wts zs)) := (tame_ints (n := 22) (fun w hw => by
    have := wts_big hz hzl w hw
    have h2 : (20 : Nat) ^ 22 < 10 ^ 100 := by decide
    have e2 : ((20 ^ 22 : Nat) : Int) = (20 : Int) ^ 22 := by norm_cast
    omega) (by rw [wts_len]; exact hzl)).imp (by decide) (by decide)
  have rpA : Rp (.list [.int (prodL zs), .int (prodL zs), Ints (wts zs), Ints (wts zs)]) := rp_mix (fun d hd => by
    simp at hd
    rcases hd with rfl | rfl
    · exact tP.imp (by decide) (by decide)
    · exact tW) (by simp)
  have rpB : Rp (.list [.int (numR zs vs), .int (numR zs vs), .int (numR zs us)]) := rp_mix (fun d hd => by
    simp at hd
    rcases hd with rfl | rfl
    · exact tN
    · exact tN2) (by simp)
  have rpC : Rp (.list [Ints vs, Ints us]) := rp_mix (fun d hd => by
    simp at hd
    rcases hd with rfl | rfl
    · exact tV
    · exact tU) (by simp)
  have rpD : Rp (.list [Ints zs, Ints zs, .int (numR zs vs), .int (numR zs us)]) := rp_mix (fun d hd => by
    simp at hd
    rcases hd with rfl | rfl | rfl
    · exact tZ
    · exact tN
    · exact tN2) (by simp)
  exact ⟨rpA, rpB, rpC, rpD⟩
theorem r_right {n : Nat} (hn : 7 < n) {p : Nat} {S : Store} (h : Pot p S) : Gets (sem G T n 50 [.loc p] S) fun v S' => ∃ o, v = .d (.bool true) ∧ PotO o ∧ S' = S.set p o := by
  obtain ⟨m, rfl⟩ : ∃ m, n = m + 1 := ⟨n - 1, by omega⟩
  refine gets_sem t_law_right rfl ?_
  have hp := h.lt
  obtain ⟨_, _, e1, zs, o1, rfl, hz, hz2, hzl, h1, rfl⟩ := r_sizes (n := m) (by omega) h
  have p1 := h.set h1
  obtain ⟨_, _, e2, vs, o2, rfl, hv, h2, rfl⟩ := r_values (n := m) (by omega) p1 hz hz2 (by omega)
  have p2 := p1.set h2
  obtain ⟨_, _, e3, us, o3, rfl, hu, h3, rfl⟩ := r_values (n := m) (by omega) p2 hz hz2 (by omega)
  have p3 := p2.set h3
  have h0 : zs ≠ [] := by rintro rfl; simp at hz2
  obtain ⟨a, ms, b, hab⟩ := split_sz hz2
  have hms : ms.length ≤ 20 := by rw [hab] at hzl; simp at hzl; omega
  have hz' : Sz (a :: ms ++ [b]) := hab ▸ hz
  obtain ⟨_, _, e4, ks, o4, rfl, hk, h4, rfl⟩ := r_middle (n := m) (by omega) p3 hz' hms
  have p4 := p3.set h4
  obtain ⟨_, _, e5, o5, rfl, h5, rfl⟩ := r_any (n := m) (by omega) p4 hz h0 hzl
  have p5 := p4.set h5
  obtain ⟨_, _, e6, o6, rfl, h6, rfl⟩ := r_small (n := m) (by omega) p5
  rw [← hab] at e4 hk
  simp only [List.set_set] at e1 e2 e3 e4 e5 e6
  have c1 := fun S => r_law_product (n := m) (by omega) hz S
  have c2 := fun S => r_law_number (n := m) (by omega) hz hv (by omega) S
  have c3 := fun S => r_law_number (n := m) (by omega) hz hu (by omega) S
  have c4 := fun S => r_how_many (n := m) (by omega) hz h0 (by omega) S
  have c5 := fun S => r_weights (n := m) (by omega) hz h0 (by omega) S
  have c6 := fun S => r_number_of (n := m) (by omega) hz h0 (by omega) hv S
  have c7 := fun S => r_number_of (n := m) (by omega) hz h0 (by omega) hu S
  have c8 := fun S => r_values_at (n := m) (by omega) hz h0 (by omega) hv S
  have c9 := fun S => r_values_at (n := m) (by omega) hz h0 (by omega) hu S
  have c10 := fun S => r_behind (n := m) (by omega) hv (by omega) S
  obtain ⟨rpA, rpB, rpC, rpD⟩ := right_rps hz hzl hv hu
  have okm := mkV_ok hz' (by omega)
  have sm : szs (mkV a ms b) = zs := by rw [mkV_szs hz', hab]
  have rpM := tame_mid hz' hms (hab ▸ hk)
  have al : (vF a).2.length = a.toNat := by simp [vF]
  have d1 := fun S => r_sizes_of (n := m) (by omega) okm (v := vF a) rfl (vs := ks) (by rw [sm]; exact hk) S
  have d2 := fun S => r_pack (n := m) (by omega) okm (by rw [sm]; exact hz) (v := vF a) rfl (vs := ks) (us := vs) (by rw [sm]; exact hk) (by rw [sm]; exact hv) S
  have d3 := fun S => r_pack (n := m) (by omega) okm (by rw [sm]; exact hz) (v := vF a) rfl (vs := ks) (us := us) (by rw [sm]; exact hk) (by rw [sm]; exact hu) S
  have d4 := fun S => r_unpack (n := m) (by omega) okm (by rw [sm]; exact hz) (v := vF a) rfl (vs := ks) (us := vs) (by rw [sm]; exact hk) (by rw [sm]; exact hv) S
  have d5 := fun S => r_unpack (n := m) (by omega) okm (by rw [sm]; exact hz) (v := vF a) rfl (vs := ks) (us := us) (by rw [sm]; exact hk) (by rw [sm]; exact hu) S
  rw [sm] at d1 d2 d3 d4 d5
  rw [al] at d1 d2 d3 d4 d5
  obtain ⟨M, hM⟩ : ∃ M, M = midD (mkV a ms b) ks a.toNat := ⟨_, rfl⟩
  rw [← hM] at d1 d2 d3 d4 d5 e4 rpM
  have core := right_core (BB := BR) (m := m) (p := p) (S := S) (R := fun v S' => Gets (back f_law_right.mu S.length v S') fun v S' => ∃ o, v = .d (.bool true) ∧ PotO o ∧ S' = S.set p o) ⟨(fun _ => rfl), hz, h0, hzl, (by omega), hv, hu, e1, e2, e3, e4, e5, e6, rpM, c1, c2, c3, c4, c5, c6, c7, c8, c9, c10, d1, d2, d3, d4, d5, rpA, rpB, rpC, rpD, (by simp; exact ⟨o6, h6, rfl⟩)⟩
  refine gs_imp (o := dSs G (sem G T m) f_law_right.body (entry f_law_right.np f_law_right.nn [Val.loc p]) S) core (fun _ _ h => h.elim) (fun _ _ h => h) (fun _ _ h => h) fun _ _ h => h
end HT
end

section
set_option Elab.async false
set_option linter.all false
set_option maxRecDepth 100000
set_option maxHeartbeats 4000000
namespace HT
open PySem PySem.Spec L2 Ev
def ILaw (its : List Val) (acc : List PyData) (_S : Store) : Prop := ∃ k cnt : Nat, k + cnt = 2 ∧ its = (List.range' k cnt).map (fun (i : Nat) => Val.d (.int (i : Int))) ∧ acc = (List.replicate k true).map .bool
theorem r_law {n : Nat} (hn : 8 < n) (ns : List Int) : Gets (sem G T n 51 [.d (.list (ns.map .int))] []) fun v _ => v = .d (.bool true) := by
  obtain ⟨m, rfl⟩ : ∃ m, n = m + 1 := ⟨n - 1, by omega⟩
  refine gets_sem t_law rfl ?_
  simp [dSs, dS, dE, dEs, dAnd, dOr, dT, Ev.tAnd, Ev.tOr, dU, dN, dB2, dIf, dVar, dCst, dO, dC, dI, dCall, dKall, pick, entry, isiV, isTy, tobV, truO, truV, okIf, datOf, seqOf, lstOf, datas, lstV, tupV, Out.bind_ok, f_law, tgt]
  refine gets_dLc ?_
  simp [dSs, dS, dE, dEs, dAnd, dOr, dT, Ev.tAnd, Ev.tOr, dU, dN, dB2, dIf, dVar, dCst, dO, dC, dI, dCall, dKall, pick, entry, isiV, isTy, tobV, truO, truV, okIf, datOf, seqOf, lstOf, datas, lstV, tupV, Out.bind_ok, rng1I, rngI]
  refine gets_lc ILaw ?_ ?_ _ _ _ ⟨0, 2, rfl, rfl, rfl⟩
  · rintro v its acc S' ⟨k, cnt, hk, e, rfl⟩
    cases cnt with
    | zero => cases e
    | succ cnt =>
      rw [List.range'_succ, List.map_cons] at e
      cases e
      refine ⟨by simp [Itm.ck], by rw [sizeLine_eq]; simp; omega, _, rfl, ?_⟩
      obtain ⟨_, _, e1, o, rfl, ho, rfl⟩ := r_pot (n := m) (by omega) (ns := ns) (k := (k : Int)) (by omega) (by omega) (S := S')
      have hp : Pot S'.length (S' ++ [o]) := ⟨o, by simp, ho⟩
      obtain ⟨_, _, e2, o2, rfl, ho2, rfl⟩ := r_right (n := m) (by omega) hp
      simp [dSs, dS, dE, dEs, dAnd, dOr, dT, Ev.tAnd, Ev.tOr, dU, dN, dB2, dIf, dVar, dCst, dO, dC, dI, dCall, dKall, pick, entry, isiV, isTy, tobV, truO, truV, okIf, datOf, seqOf, lstOf, datas, lstV, tupV, Out.bind_ok, wipeD, e1, e2]
      exact ⟨k + 1, cnt, by omega, rfl, by simp [List.replicate_succ']⟩
  · rintro acc S' ⟨k, cnt, hk, e, rfl⟩
    cases cnt with
    | succ cnt => rw [List.range'_succ, List.map_cons] at e; cases e
    | zero =>
      refine ⟨by simp [Itm.ck], ?_⟩
      have : k = 2 := by omega
      subst this
      simp [dSs, dS, dE, dEs, dAnd, dOr, dT, Ev.tAnd, Ev.tOr, dU, dN, dB2, dIf, dVar, dCst, dO, dC, dI, dCall, dKall, pick, entry, isiV, isTy, tobV, truO, truV, okIf, datOf, seqOf, lstOf, datas, lstV, tupV, Out.bind_ok]
      try rfl
end HT
end

section
set_option Elab.async false
set_option linter.all false
set_option maxRecDepth 100000
set_option maxHeartbeats 0
namespace HT
open PySem PySem.Spec PyProof.Rows L2 Ev
def top (i : Nat) : Stmt := PySem.Challenge.pw_talehouse_k52_whole_numbers_of_values.main.body.getD i (.Pass ⟨0, 0, 0, 0⟩)
def d_is_integer : Dn := ⟨⟨("is_integer", none), "is_integer", "is_integer", L2.defArgs (top 1), L2.defBody (top 1), L2.defScope (top 1), [], []⟩, ["value"], ["value"], f_is_integer⟩
def d_is_within : Dn := ⟨⟨("is_within", none), "is_within", "is_within", L2.defArgs (top 2), L2.defBody (top 2), L2.defScope (top 2), [], []⟩, ["value", "least", "most"], ["value", "least", "most"], f_is_within⟩
def d_is_tuple : Dn := ⟨⟨("is_tuple", none), "is_tuple", "is_tuple", L2.defArgs (top 3), L2.defBody (top 3), L2.defScope (top 3), [], []⟩, ["value", "many"], ["value", "many"], f_is_tuple⟩
def d_is_text : Dn := ⟨⟨("is_text", none), "is_text", "is_text", L2.defArgs (top 14), L2.defBody (top 14), L2.defScope (top 14), [], []⟩, ["value"], ["value", "one"], f_is_text⟩
def d_is_variable : Dn := ⟨⟨("is_variable", none), "is_variable", "is_variable", L2.defArgs (top 15), L2.defBody (top 15), L2.defScope (top 15), [], []⟩, ["value"], ["value", "one"], f_is_variable⟩
def d_are_variables : Dn := ⟨⟨("are_variables", none), "are_variables", "are_variables", L2.defArgs (top 16), L2.defBody (top 16), L2.defScope (top 16), [], []⟩, ["value"], ["value", "one", "labels"], f_are_variables⟩
def d_are_values_of : Dn := ⟨⟨("are_values_of", none), "are_values_of", "are_values_of", L2.defArgs (top 17), L2.defBody (top 17), L2.defScope (top 17), [], []⟩, ["variables", "value"], ["variables", "value", "one", "variable"], f_are_values_of⟩
def d_is_place_in : Dn := ⟨⟨("is_place_in", none), "is_place_in", "is_place_in", L2.defArgs (top 18), L2.defBody (top 18), L2.defScope (top 18), [], []⟩, ["variables", "value"], ["variables", "value"], f_is_place_in⟩
def d_is_value_in : Dn := ⟨⟨("is_value_in", none), "is_value_in", "is_value_in", L2.defArgs (top 19), L2.defBody (top 19), L2.defScope (top 19), [], []⟩, ["variables", "variable", "value"], ["variables", "variable", "value"], f_is_value_in⟩
def d_is_guard_in : Dn := ⟨⟨("is_guard_in", none), "is_guard_in", "is_guard_in", L2.defArgs (top 20), L2.defBody (top 20), L2.defScope (top 20), [], []⟩, ["variables", "value", "deep"], ["variables", "value", "deep", "one"], f_is_guard_in⟩
def d_is_act_in : Dn := ⟨⟨("is_act_in", none), "is_act_in", "is_act_in", L2.defArgs (top 21), L2.defBody (top 21), L2.defScope (top 21), [], []⟩, ["variables", "value"], ["variables", "value"], f_is_act_in⟩
def d_is_say : Dn := ⟨⟨("is_say", none), "is_say", "is_say", L2.defArgs (top 22), L2.defBody (top 22), L2.defScope (top 22), [], []⟩, ["value"], ["value"], f_is_say⟩
def d_are_doings : Dn := ⟨⟨("are_doings", none), "are_doings", "are_doings", L2.defArgs (top 23), L2.defBody (top 23), L2.defScope (top 23), [], []⟩, ["variables", "guard", "acts", "says"], ["variables", "guard", "acts", "says", "one"], f_are_doings⟩
def d_is_table_in : Dn := ⟨⟨("is_table_in", none), "is_table_in", "is_table_in", L2.defArgs (top 24), L2.defBody (top 24), L2.defScope (top 24), [], []⟩, ["variables", "value"], ["variables", "value", "one"], f_is_table_in⟩
def d_is_group_in : Dn := ⟨⟨("is_group_in", none), "is_group_in", "is_group_in", L2.defArgs (top 25), L2.defBody (top 25), L2.defScope (top 25), [], []⟩, ["variables", "value"], ["variables", "value", "one"], f_is_group_in⟩
def d_is_ending_in : Dn := ⟨⟨("is_ending_in", none), "is_ending_in", "is_ending_in", L2.defArgs (top 26), L2.defBody (top 26), L2.defScope (top 26), [], []⟩, ["variables", "value"], ["variables", "value"], f_is_ending_in⟩
def d_is_door_way : Dn := ⟨⟨("is_door_way", none), "is_door_way", "is_door_way", L2.defArgs (top 27), L2.defBody (top 27), L2.defScope (top 27), [], []⟩, ["variables", "value"], ["variables", "value"], f_is_door_way⟩
def d_is_shown_in : Dn := ⟨⟨("is_shown_in", none), "is_shown_in", "is_shown_in", L2.defArgs (top 28), L2.defBody (top 28), L2.defScope (top 28), [], []⟩, ["variables", "value"], ["variables", "value", "rooms", "one"], f_is_shown_in⟩
def d_are_views : Dn := ⟨⟨("are_views", none), "are_views", "are_views", L2.defArgs (top 29), L2.defBody (top 29), L2.defScope (top 29), [], []⟩, ["variables", "value"], ["variables", "value", "rooms", "one", "way"], f_are_views⟩
def d_is_middle_value : Dn := ⟨⟨("is_middle_value", none), "is_middle_value", "is_middle_value", L2.defArgs (top 30), L2.defBody (top 30), L2.defScope (top 30), [], []⟩, ["value"], ["value", "one", "variables"], f_is_middle_value⟩
def d_want_middle : Dn := ⟨⟨("want_middle", none), "want_middle", "want_middle", L2.defArgs (top 31), L2.defBody (top 31), L2.defScope (top 31), [], []⟩, ["middle"], ["middle"], f_want_middle⟩
def d_want_values : Dn := ⟨⟨("want_values", none), "want_values", "want_values", L2.defArgs (top 32), L2.defBody (top 32), L2.defScope (top 32), [], []⟩, ["middle", "values"], ["middle", "values"], f_want_values⟩
def d_is_sizes_value : Dn := ⟨⟨("is_sizes_value", none), "is_sizes_value", "is_sizes_value", L2.defArgs (top 34), L2.defBody (top 34), L2.defScope (top 34), [], []⟩, ["value"], ["value", "one"], f_is_sizes_value⟩
def d_are_values : Dn := ⟨⟨("are_values", none), "are_values", "are_values", L2.defArgs (top 35), L2.defBody (top 35), L2.defScope (top 35), [], []⟩, ["sizes", "value"], ["sizes", "value", "one", "size"], f_are_values⟩
def d_sizes_by : Dn := ⟨⟨("sizes_by", none), "sizes_by", "sizes_by", L2.defArgs (top 36), L2.defBody (top 36), L2.defScope (top 36), [], []⟩, ["middle"], ["middle", "variable"], f_sizes_by⟩
def d_weights_by : Dn := ⟨⟨("weights_by", none), "weights_by", "weights_by", L2.defArgs (top 37), L2.defBody (top 37), L2.defScope (top 37), [], []⟩, ["sizes"], ["sizes", "found", "size"], f_weights_by⟩
def d_product_of : Dn := ⟨⟨("product_of", none), "product_of", "product_of", L2.defArgs (top 38), L2.defBody (top 38), L2.defScope (top 38), [], []⟩, ["sizes"], ["sizes", "found", "size"], f_product_of⟩
def d_number_by : Dn := ⟨⟨("number_by", none), "number_by", "number_by", L2.defArgs (top 39), L2.defBody (top 39), L2.defScope (top 39), [], []⟩, ["sizes", "values"], ["sizes", "values", "found", "size", "value"], f_number_by⟩
def d_values_by_number : Dn := ⟨⟨("values_by_number", none), "values_by_number", "values_by_number", L2.defArgs (top 40), L2.defBody (top 40), L2.defScope (top 40), [], []⟩, ["sizes", "number"], ["sizes", "number", "found", "left", "size"], f_values_by_number⟩
def d_want_sizes : Dn := ⟨⟨("want_sizes", none), "want_sizes", "want_sizes", L2.defArgs (top 41), L2.defBody (top 41), L2.defScope (top 41), [], []⟩, ["sizes"], ["sizes"], f_want_sizes⟩
def d_want_number : Dn := ⟨⟨("want_number", none), "want_number", "want_number", L2.defArgs (top 42), L2.defBody (top 42), L2.defScope (top 42), [], []⟩, ["sizes", "number"], ["sizes", "number"], f_want_number⟩
def d_is_sizes : Dn := ⟨⟨("is_sizes", none), "is_sizes", "is_sizes", L2.defArgs (top 43), L2.defBody (top 43), L2.defScope (top 43), [], []⟩, ["value"], ["value"], f_is_sizes⟩
def d_sizes_of : Dn := ⟨⟨("sizes_of", none), "sizes_of", "sizes_of", L2.defArgs (top 44), L2.defBody (top 44), L2.defScope (top 44), [], []⟩, ["middle"], ["middle"], f_sizes_of⟩
def d_how_many : Dn := ⟨⟨("how_many", none), "how_many", "how_many", L2.defArgs (top 45), L2.defBody (top 45), L2.defScope (top 45), [], []⟩, ["sizes"], ["sizes"], f_how_many⟩
def d_weights : Dn := ⟨⟨("weights", none), "weights", "weights", L2.defArgs (top 46), L2.defBody (top 46), L2.defScope (top 46), [], []⟩, ["sizes"], ["sizes"], f_weights⟩
def d_number_of : Dn := ⟨⟨("number_of", none), "number_of", "number_of", L2.defArgs (top 47), L2.defBody (top 47), L2.defScope (top 47), [], []⟩, ["sizes", "values"], ["sizes", "values"], f_number_of⟩
def d_values_at : Dn := ⟨⟨("values_at", none), "values_at", "values_at", L2.defArgs (top 48), L2.defBody (top 48), L2.defScope (top 48), [], []⟩, ["sizes", "number"], ["sizes", "number"], f_values_at⟩
def d_pack : Dn := ⟨⟨("pack", none), "pack", "pack", L2.defArgs (top 49), L2.defBody (top 49), L2.defScope (top 49), [], []⟩, ["middle", "values"], ["middle", "values"], f_pack⟩
def d_unpack : Dn := ⟨⟨("unpack", none), "unpack", "unpack", L2.defArgs (top 50), L2.defBody (top 50), L2.defScope (top 50), [], []⟩, ["middle", "number"], ["middle", "number"], f_unpack⟩
def d_law_pot : Dn := ⟨⟨("_law_pot", none), "_law_pot", "_law_pot", L2.defArgs (top 52), L2.defBody (top 52), L2.defScope (top 52), [], []⟩, ["script", "k"], ["script", "k", "cell"], f_law_pot⟩
def d_law_draw : Dn := ⟨⟨("_law_draw", none), "_law_draw", "_law_draw", L2.defArgs (top 53), L2.defBody (top 53), L2.defScope (top 53), [], []⟩, ["pot", "many"], ["pot", "many", "digit"], f_law_draw⟩
def d_law_pick : Dn := ⟨⟨("_law_pick", none), "_law_pick", "_law_pick", L2.defArgs (top 54), L2.defBody (top 54), L2.defScope (top 54), [], []⟩, ["pot", "some"], ["pot", "some"], f_law_pick⟩
def d_law_product : Dn := ⟨⟨("_law_product", none), "_law_product", "_law_product", L2.defArgs (top 55), L2.defBody (top 55), L2.defScope (top 55), [], []⟩, ["some"], ["some", "found", "one"], f_law_product⟩
def d_law_number : Dn := ⟨⟨("_law_number", none), "_law_number", "_law_number", L2.defArgs (top 56), L2.defBody (top 56), L2.defScope (top 56), [], []⟩, ["sizes", "values"], ["sizes", "values", "at", "value"], f_law_number⟩
def d_law_behind : Dn := ⟨⟨("_law_behind", none), "_law_behind", "_law_behind", L2.defArgs (top 57), L2.defBody (top 57), L2.defScope (top 57), [], []⟩, ["sizes", "values"], ["sizes", "values", "late", "at"], f_law_behind⟩
def d_law_sizes : Dn := ⟨⟨("_law_sizes", none), "_law_sizes", "_law_sizes", L2.defArgs (top 58), L2.defBody (top 58), L2.defScope (top 58), [], []⟩, ["pot"], ["pot", "most", "turn"], f_law_sizes⟩
def d_law_values : Dn := ⟨⟨("_law_values", none), "_law_values", "_law_values", L2.defArgs (top 59), L2.defBody (top 59), L2.defScope (top 59), [], []⟩, ["pot", "sizes"], ["pot", "sizes", "way", "size"], f_law_values⟩
def d_law_middle : Dn := ⟨⟨("_law_middle", none), "_law_middle", "_law_middle", L2.defArgs (top 60), L2.defBody (top 60), L2.defScope (top 60), [], []⟩, ["pot", "sizes"], ["pot", "sizes", "variables", "at", "place", "views"], f_law_middle⟩
def d_law_small_right : Dn := ⟨⟨("_law_small_right", none), "_law_small_right", "_law_small_right", L2.defArgs (top 61), L2.defBody (top 61), L2.defScope (top 61), [], []⟩, ["pot"], ["pot", "sizes", "turn", "values", "number"], f_law_small_right⟩
def d_law_any_right : Dn := ⟨⟨("_law_any_right", none), "_law_any_right", "_law_any_right", L2.defArgs (top 62), L2.defBody (top 62), L2.defScope (top 62), [], []⟩, ["pot", "sizes"], ["pot", "sizes", "some", "dues", "one", "value", "due", "looks"], f_law_any_right⟩
def d_law_right : Dn := ⟨⟨("_law_right", none), "_law_right", "_law_right", L2.defArgs (top 63), L2.defBody (top 63), L2.defScope (top 63), [], []⟩, ["pot"], ["pot", "sizes", "values", "other", "many", "number", "far", "heavy", "at", "told", "late", "middle", "shown"], f_law_right⟩
def d_law : Dn := ⟨⟨("law", none), "law", "law", L2.defArgs (top 64), L2.defBody (top 64), L2.defScope (top 64), [], []⟩, ["script"], ["script", "k"], f_law⟩
def P : Pd := ⟨[d_is_integer, d_is_within, d_is_tuple, d_is_text, d_is_variable, d_are_variables, d_are_values_of, d_is_place_in, d_is_value_in, d_is_guard_in, d_is_act_in, d_is_say, d_are_doings, d_is_table_in, d_is_group_in, d_is_ending_in, d_is_door_way, d_is_shown_in, d_are_views, d_is_middle_value, d_want_middle, d_want_values, d_is_sizes_value, d_are_values, d_sizes_by, d_weights_by, d_product_of, d_number_by, d_values_by_number, d_want_sizes, d_want_number, d_is_sizes, d_sizes_of, d_how_many, d_weights, d_number_of, d_values_at, d_pack, d_unpack, d_law_pot, d_law_draw, d_law_pick, d_law_product, d_law_number, d_law_behind, d_law_sizes, d_law_values, d_law_middle, d_law_small_right, d_law_any_right, d_law_right, d_law], [("MOST_TEXT", (.int 200)), ("MOST_DEEP", (.int 14)), ("WAYS", (.tuple [(.str "north"), (.str "south"), (.str "east"), (.str "west"), (.str "up"), (.str "down")]))], ["isinstance", "bool", "int", "len", "tuple", "all", "str", "set", "zip", "max", "abs", "sum", "divmod", "enumerate", "range", "list", "repr"], [(31, 0, ["value"], [0]), (38, 0, ["number", "middle"], [1, 0]), (37, 0, ["values", "middle"], [1, 0]), (32, 0, ["middle"], [0]), (36, 0, ["number", "sizes"], [1, 0]), (35, 0, ["values", "sizes"], [1, 0]), (34, 0, ["sizes"], [0]), (33, 0, ["sizes"], [0])]⟩
/-! ### the check -/
theorem k_is_integer : Pd.okD P.pg d_is_integer = true := by decide +kernel
theorem k_is_within : Pd.okD P.pg d_is_within = true := by decide +kernel
theorem k_is_tuple : Pd.okD P.pg d_is_tuple = true := by decide +kernel
theorem k_is_text : Pd.okD P.pg d_is_text = true := by decide +kernel
theorem k_is_variable : Pd.okD P.pg d_is_variable = true := by decide +kernel
theorem k_are_variables : Pd.okD P.pg d_are_variables = true := by decide +kernel
theorem k_are_values_of : Pd.okD P.pg d_are_values_of = true := by decide +kernel
theorem k_is_place_in : Pd.okD P.pg d_is_place_in = true := by decide +kernel
theorem k_is_value_in : Pd.okD P.pg d_is_value_in = true := by decide +kernel
theorem k_is_guard_in : Pd.okD P.pg d_is_guard_in = true := by decide +kernel
theorem k_is_act_in : Pd.okD P.pg d_is_act_in = true := by decide +kernel
theorem k_is_say : Pd.okD P.pg d_is_say = true := by decide +kernel
theorem k_are_doings : Pd.okD P.pg d_are_doings = true := by decide +kernel
theorem k_is_table_in : Pd.okD P.pg d_is_table_in = true := by decide +kernel
theorem k_is_group_in : Pd.okD P.pg d_is_group_in = true := by decide +kernel
theorem k_is_ending_in : Pd.okD P.pg d_is_ending_in = true := by decide +kernel
theorem k_is_door_way : Pd.okD P.pg d_is_door_way = true := by decide +kernel
theorem k_is_shown_in : Pd.okD P.pg d_is_shown_in = true := by decide +kernel
theorem k_are_views : Pd.okD P.pg d_are_views = true := by decide +kernel
theorem k_is_middle_value : Pd.okD P.pg d_is_middle_value = true := by decide +kernel
theorem k_want_middle : Pd.okD P.pg d_want_middle = true := by decide +kernel
theorem k_want_values : Pd.okD P.pg d_want_values = true := by decide +kernel
theorem k_is_sizes_value : Pd.okD P.pg d_is_sizes_value = true := by decide +kernel
theorem k_are_values : Pd.okD P.pg d_are_values = true := by decide +kernel
theorem k_sizes_by : Pd.okD P.pg d_sizes_by = true := by decide +kernel
theorem k_weights_by : Pd.okD P.pg d_weights_by = true := by decide +kernel
theorem k_product_of : Pd.okD P.pg d_product_of = true := by decide +kernel
theorem k_number_by : Pd.okD P.pg d_number_by = true := by decide +kernel
theorem k_values_by_number : Pd.okD P.pg d_values_by_number = true := by decide +kernel
theorem k_want_sizes : Pd.okD P.pg d_want_sizes = true := by decide +kernel
theorem k_want_number : Pd.okD P.pg d_want_number = true := by decide +kernel
theorem k_is_sizes : Pd.okD P.pg d_is_sizes = true := by decide +kernel
theorem k_sizes_of : Pd.okD P.pg d_sizes_of = true := by decide +kernel
theorem k_how_many : Pd.okD P.pg d_how_many = true := by decide +kernel
theorem k_weights : Pd.okD P.pg d_weights = true := by decide +kernel
theorem k_number_of : Pd.okD P.pg d_number_of = true := by decide +kernel
theorem k_values_at : Pd.okD P.pg d_values_at = true := by decide +kernel
theorem k_pack : Pd.okD P.pg d_pack = true := by decide +kernel
theorem k_unpack : Pd.okD P.pg d_unpack = true := by decide +kernel
theorem k_law_pot : Pd.okD P.pg d_law_pot = true := by decide +kernel
theorem k_law_draw : Pd.okD P.pg d_law_draw = true := by decide +kernel
theorem k_law_pick : Pd.okD P.pg d_law_pick = true := by decide +kernel
theorem k_law_product : Pd.okD P.pg d_law_product = true := by decide +kernel
theorem k_law_number : Pd.okD P.pg d_law_number = true := by decide +kernel
theorem k_law_behind : Pd.okD P.pg d_law_behind = true := by decide +kernel
theorem k_law_sizes : Pd.okD P.pg d_law_sizes = true := by decide +kernel
theorem k_law_values : Pd.okD P.pg d_law_values = true := by decide +kernel
theorem k_law_middle : Pd.okD P.pg d_law_middle = true := by decide +kernel
theorem k_law_small_right : Pd.okD P.pg d_law_small_right = true := by decide +kernel
theorem k_law_any_right : Pd.okD P.pg d_law_any_right = true := by decide +kernel
theorem k_law_right : Pd.okD P.pg d_law_right = true := by decide +kernel
theorem k_law : Pd.okD P.pg d_law = true := by decide +kernel
theorem b_is_integer : BnOk d_is_integer := fun _ _ _ _ _ _ us hl => match us, hl with | [_], _ => rfl
theorem b_is_within : BnOk d_is_within := fun _ _ _ _ _ _ us hl => match us, hl with | [_, _, _], _ => rfl
theorem b_is_tuple : BnOk d_is_tuple := fun _ _ _ _ _ _ us hl => match us, hl with | [_, _], _ => rfl
theorem b_is_text : BnOk d_is_text := fun _ _ _ _ _ _ us hl => match us, hl with | [_], _ => rfl
theorem b_is_variable : BnOk d_is_variable := fun _ _ _ _ _ _ us hl => match us, hl with | [_], _ => rfl
theorem b_are_variables : BnOk d_are_variables := fun _ _ _ _ _ _ us hl => match us, hl with | [_], _ => rfl
theorem b_are_values_of : BnOk d_are_values_of := fun _ _ _ _ _ _ us hl => match us, hl with | [_, _], _ => rfl
theorem b_is_place_in : BnOk d_is_place_in := fun _ _ _ _ _ _ us hl => match us, hl with | [_, _], _ => rfl
theorem b_is_value_in : BnOk d_is_value_in := fun _ _ _ _ _ _ us hl => match us, hl with | [_, _, _], _ => rfl
theorem b_is_guard_in : BnOk d_is_guard_in := fun _ _ _ _ _ _ us hl => match us, hl with | [_, _, _], _ => rfl
theorem b_is_act_in : BnOk d_is_act_in := fun _ _ _ _ _ _ us hl => match us, hl with | [_, _], _ => rfl
theorem b_is_say : BnOk d_is_say := fun _ _ _ _ _ _ us hl => match us, hl with | [_], _ => rfl
theorem b_are_doings : BnOk d_are_doings := fun _ _ _ _ _ _ us hl => match us, hl with | [_, _, _, _], _ => rfl
theorem b_is_table_in : BnOk d_is_table_in := fun _ _ _ _ _ _ us hl => match us, hl with | [_, _], _ => rfl
theorem b_is_group_in : BnOk d_is_group_in := fun _ _ _ _ _ _ us hl => match us, hl with | [_, _], _ => rfl
theorem b_is_ending_in : BnOk d_is_ending_in := fun _ _ _ _ _ _ us hl => match us, hl with | [_, _], _ => rfl
theorem b_is_door_way : BnOk d_is_door_way := fun _ _ _ _ _ _ us hl => match us, hl with | [_, _], _ => rfl
theorem b_is_shown_in : BnOk d_is_shown_in := fun _ _ _ _ _ _ us hl => match us, hl with | [_, _], _ => rfl
theorem b_are_views : BnOk d_are_views := fun _ _ _ _ _ _ us hl => match us, hl with | [_, _], _ => rfl
theorem b_is_middle_value : BnOk d_is_middle_value := fun _ _ _ _ _ _ us hl => match us, hl with | [_], _ => rfl
theorem b_want_middle : BnOk d_want_middle := fun _ _ _ _ _ _ us hl => match us, hl with | [_], _ => rfl
theorem b_want_values : BnOk d_want_values := fun _ _ _ _ _ _ us hl => match us, hl with | [_, _], _ => rfl
theorem b_is_sizes_value : BnOk d_is_sizes_value := fun _ _ _ _ _ _ us hl => match us, hl with | [_], _ => rfl
theorem b_are_values : BnOk d_are_values := fun _ _ _ _ _ _ us hl => match us, hl with | [_, _], _ => rfl
theorem b_sizes_by : BnOk d_sizes_by := fun _ _ _ _ _ _ us hl => match us, hl with | [_], _ => rfl
theorem b_weights_by : BnOk d_weights_by := fun _ _ _ _ _ _ us hl => match us, hl with | [_], _ => rfl
theorem b_product_of : BnOk d_product_of := fun _ _ _ _ _ _ us hl => match us, hl with | [_], _ => rfl
theorem b_number_by : BnOk d_number_by := fun _ _ _ _ _ _ us hl => match us, hl with | [_, _], _ => rfl
theorem b_values_by_number : BnOk d_values_by_number := fun _ _ _ _ _ _ us hl => match us, hl with | [_, _], _ => rfl
theorem b_want_sizes : BnOk d_want_sizes := fun _ _ _ _ _ _ us hl => match us, hl with | [_], _ => rfl
theorem b_want_number : BnOk d_want_number := fun _ _ _ _ _ _ us hl => match us, hl with | [_, _], _ => rfl
theorem b_is_sizes : BnOk d_is_sizes := fun _ _ _ _ _ _ us hl => match us, hl with | [_], _ => rfl
theorem b_sizes_of : BnOk d_sizes_of := fun _ _ _ _ _ _ us hl => match us, hl with | [_], _ => rfl
theorem b_how_many : BnOk d_how_many := fun _ _ _ _ _ _ us hl => match us, hl with | [_], _ => rfl
theorem b_weights : BnOk d_weights := fun _ _ _ _ _ _ us hl => match us, hl with | [_], _ => rfl
theorem b_number_of : BnOk d_number_of := fun _ _ _ _ _ _ us hl => match us, hl with | [_, _], _ => rfl
theorem b_values_at : BnOk d_values_at := fun _ _ _ _ _ _ us hl => match us, hl with | [_, _], _ => rfl
theorem b_pack : BnOk d_pack := fun _ _ _ _ _ _ us hl => match us, hl with | [_, _], _ => rfl
theorem b_unpack : BnOk d_unpack := fun _ _ _ _ _ _ us hl => match us, hl with | [_, _], _ => rfl
theorem b_law_pot : BnOk d_law_pot := fun _ _ _ _ _ _ us hl => match us, hl with | [_, _], _ => rfl
theorem b_law_draw : BnOk d_law_draw := fun _ _ _ _ _ _ us hl => match us, hl with | [_, _], _ => rfl
theorem b_law_pick : BnOk d_law_pick := fun _ _ _ _ _ _ us hl => match us, hl with | [_, _], _ => rfl
theorem b_law_product : BnOk d_law_product := fun _ _ _ _ _ _ us hl => match us, hl with | [_], _ => rfl
theorem b_law_number : BnOk d_law_number := fun _ _ _ _ _ _ us hl => match us, hl with | [_, _], _ => rfl
theorem b_law_behind : BnOk d_law_behind := fun _ _ _ _ _ _ us hl => match us, hl with | [_, _], _ => rfl
theorem b_law_sizes : BnOk d_law_sizes := fun _ _ _ _ _ _ us hl => match us, hl with | [_], _ => rfl
theorem b_law_values : BnOk d_law_values := fun _ _ _ _ _ _ us hl => match us, hl with | [_, _], _ => rfl
theorem b_law_middle : BnOk d_law_middle := fun _ _ _ _ _ _ us hl => match us, hl with | [_, _], _ => rfl
theorem b_law_small_right : BnOk d_law_small_right := fun _ _ _ _ _ _ us hl => match us, hl with | [_], _ => rfl
theorem b_law_any_right : BnOk d_law_any_right := fun _ _ _ _ _ _ us hl => match us, hl with | [_, _], _ => rfl
theorem b_law_right : BnOk d_law_right := fun _ _ _ _ _ _ us hl => match us, hl with | [_], _ => rfl
theorem b_law : BnOk d_law := fun _ _ _ _ _ _ us hl => match us, hl with | [_], _ => rfl
theorem w_0 : KwOk d_is_sizes 0 ["value"] [0] := fun _ _ _ _ _ _ us ws h1 h2 => match us, ws, h1, h2 with | [], [_], _, _ => ⟨_, rfl, rfl⟩
theorem w_1 : KwOk d_unpack 0 ["number", "middle"] [1, 0] := fun _ _ _ _ _ _ us ws h1 h2 => match us, ws, h1, h2 with | [], [_, _], _, _ => ⟨_, rfl, rfl⟩
theorem w_2 : KwOk d_pack 0 ["values", "middle"] [1, 0] := fun _ _ _ _ _ _ us ws h1 h2 => match us, ws, h1, h2 with | [], [_, _], _, _ => ⟨_, rfl, rfl⟩
theorem w_3 : KwOk d_sizes_of 0 ["middle"] [0] := fun _ _ _ _ _ _ us ws h1 h2 => match us, ws, h1, h2 with | [], [_], _, _ => ⟨_, rfl, rfl⟩
theorem w_4 : KwOk d_values_at 0 ["number", "sizes"] [1, 0] := fun _ _ _ _ _ _ us ws h1 h2 => match us, ws, h1, h2 with | [], [_, _], _, _ => ⟨_, rfl, rfl⟩
theorem w_5 : KwOk d_number_of 0 ["values", "sizes"] [1, 0] := fun _ _ _ _ _ _ us ws h1 h2 => match us, ws, h1, h2 with | [], [_, _], _, _ => ⟨_, rfl, rfl⟩
theorem w_6 : KwOk d_weights 0 ["sizes"] [0] := fun _ _ _ _ _ _ us ws h1 h2 => match us, ws, h1, h2 with | [], [_], _, _ => ⟨_, rfl, rfl⟩
theorem w_7 : KwOk d_how_many 0 ["sizes"] [0] := fun _ _ _ _ _ _ us ws h1 h2 => match us, ws, h1, h2 with | [], [_], _, _ => ⟨_, rfl, rfl⟩
theorem okP : P.Ok where
  ok := by
    intro d m
    have m : d ∈ [d_is_integer, d_is_within, d_is_tuple, d_is_text, d_is_variable, d_are_variables, d_are_values_of, d_is_place_in, d_is_value_in, d_is_guard_in, d_is_act_in, d_is_say, d_are_doings, d_is_table_in, d_is_group_in, d_is_ending_in, d_is_door_way, d_is_shown_in, d_are_views, d_is_middle_value, d_want_middle, d_want_values, d_is_sizes_value, d_are_values, d_sizes_by, d_weights_by, d_product_of, d_number_by, d_values_by_number, d_want_sizes, d_want_number, d_is_sizes, d_sizes_of, d_how_many, d_weights, d_number_of, d_values_at, d_pack, d_unpack, d_law_pot, d_law_draw, d_law_pick, d_law_product, d_law_number, d_law_behind, d_law_sizes, d_law_values, d_law_middle, d_law_small_right, d_law_any_right, d_law_right, d_law] := m
    simp only [List.mem_cons, List.not_mem_nil, or_false] at m
    rcases m with rfl | rfl | rfl | rfl | rfl | rfl | rfl | rfl | rfl | rfl | rfl | rfl | rfl | rfl | rfl | rfl | rfl | rfl | rfl | rfl | rfl | rfl | rfl | rfl | rfl | rfl | rfl | rfl | rfl | rfl | rfl | rfl | rfl | rfl | rfl | rfl | rfl | rfl | rfl | rfl | rfl | rfl | rfl | rfl | rfl | rfl | rfl | rfl | rfl | rfl | rfl | rfl
    · exact k_is_integer
    · exact k_is_within
    · exact k_is_tuple
    · exact k_is_text
    · exact k_is_variable
    · exact k_are_variables
    · exact k_are_values_of
    · exact k_is_place_in
    · exact k_is_value_in
    · exact k_is_guard_in
    · exact k_is_act_in
    · exact k_is_say
    · exact k_are_doings
    · exact k_is_table_in
    · exact k_is_group_in
    · exact k_is_ending_in
    · exact k_is_door_way
    · exact k_is_shown_in
    · exact k_are_views
    · exact k_is_middle_value
    · exact k_want_middle
    · exact k_want_values
    · exact k_is_sizes_value
    · exact k_are_values
    · exact k_sizes_by
    · exact k_weights_by
    · exact k_product_of
    · exact k_number_by
    · exact k_values_by_number
    · exact k_want_sizes
    · exact k_want_number
    · exact k_is_sizes
    · exact k_sizes_of
    · exact k_how_many
    · exact k_weights
    · exact k_number_of
    · exact k_values_at
    · exact k_pack
    · exact k_unpack
    · exact k_law_pot
    · exact k_law_draw
    · exact k_law_pick
    · exact k_law_product
    · exact k_law_number
    · exact k_law_behind
    · exact k_law_sizes
    · exact k_law_values
    · exact k_law_middle
    · exact k_law_small_right
    · exact k_law_any_right
    · exact k_law_right
    · exact k_law
  bn := ⟨b_is_integer, b_is_within, b_is_tuple, b_is_text, b_is_variable, b_are_variables, b_are_values_of, b_is_place_in, b_is_value_in, b_is_guard_in, b_is_act_in, b_is_say, b_are_doings, b_is_table_in, b_is_group_in, b_is_ending_in, b_is_door_way, b_is_shown_in, b_are_views, b_is_middle_value, b_want_middle, b_want_values, b_is_sizes_value, b_are_values, b_sizes_by, b_weights_by, b_product_of, b_number_by, b_values_by_number, b_want_sizes, b_want_number, b_is_sizes, b_sizes_of, b_how_many, b_weights, b_number_of, b_values_at, b_pack, b_unpack, b_law_pot, b_law_draw, b_law_pick, b_law_product, b_law_number, b_law_behind, b_law_sizes, b_law_values, b_law_middle, b_law_small_right, b_law_any_right, b_law_right, b_law, True.intro⟩
  kw := ⟨w_0, w_1, w_2, w_3, w_4, w_5, w_6, w_7, True.intro⟩
/-! ### the head -/
def lo0 : List PySem.Str := ["is_integer", "is_within", "is_tuple", "TaleError", "InvalidMiddle", "InvalidNumber", "InvalidSizes", "InvalidValues", "WAYS", "MOST_DEEP", "MOST_TEXT", "is_text", "is_variable", "are_variables", "are_values_of", "is_place_in", "is_value_in", "is_guard_in", "is_act_in", "is_say", "are_doings", "is_table_in", "is_group_in", "is_ending_in", "is_door_way", "is_shown_in", "are_views", "is_middle_value", "want_middle", "want_values"]
def lo1 : List PySem.Str := ["is_sizes_value", "are_values", "sizes_by", "weights_by", "product_of", "number_by", "values_by_number", "want_sizes", "want_number", "is_sizes", "sizes_of", "how_many", "weights", "number_of", "values_at", "pack", "unpack", "_law_pot", "_law_draw", "_law_pick", "_law_product", "_law_number", "_law_behind", "_law_sizes", "_law_values", "_law_middle", "_law_small_right", "_law_any_right", "_law_right"]
def loose : List PySem.Str := lo0 ++ lo1
abbrev R : PySem.W.OpenRow := PySem.W.OpenLaw.row PySem.Challenge.rw_talehouse_k52_whole_numbers_of_values
abbrev hk : PySem.W.Hook := hookV 4 P.fn P.ex
def ob (s : PySem.W.SharedT) : AlV := obsV 4 P.fn P.ex (HandSHeadRun.getT s)
theorem ob_eq (s : PySem.W.SharedT) : ob s = hk.obs s.abs := obsV_eq (HandSHeadRun.getT_eq s)
theorem run (w : World) : HandSHeadRun.RunEq R (PySem.W.view R.prog [64]) hk ob 3000 loose w := by
  intro os
  kernel_rfl
def DEPTH : Nat := 60
end HT
end

section
namespace HT
open PySem PySem.Spec L2 Ev
theorem sound : ∀ ns : List Int, ns.length ≤ 63 → ∃ S', sem P.Gd P.T DEPTH 51 [.d (.list (ns.map .int))] [] = .ok (.d (.bool true)) S' := by
  intro ns _
  obtain ⟨v, S', e, rfl⟩ := r_law (n := DEPTH) (by decide) ns
  exact ⟨S', e⟩
end HT
end

section
set_option Elab.async false
set_option linter.all false
set_option maxRecDepth 100000
set_option maxHeartbeats 0
open PySem PySem.W PySem.Calls PyProof.Rows in
theorem PySem.Challenge.cw_talehouse_k52_whole_numbers_of_values_holds : PySem.Challenge.rw_talehouse_k52_whole_numbers_of_values.Holds := by
  w_on; o_law
  refine HandSHeadRun.head_any (r := OpenLaw.row PySem.Challenge.rw_talehouse_k52_whole_numbers_of_values) (q := view (OpenLaw.row PySem.Challenge.rw_talehouse_k52_whole_numbers_of_values).prog [64]) (H := HT.hk) (ob := HT.ob) (M := 3000) (loose := HT.loose) (d := HandSHeadRun.topDef (OpenLaw.row PySem.Challenge.rw_talehouse_k52_whole_numbers_of_values).prog 64) (kwd := []) HT.ob_eq
    (by kernel_rfl) (fun s => by kernel_rfl) HT.run (by kernel_rfl) (by kernel_rfl) (by kernel_rfl) (by rfl) (by first | assumption | decide +kernel) (by decide +kernel) ⟨rfl, rfl, rfl, rfl, rfl, by decide +kernel⟩ ?hw ?hc
  case hw => w_witness2
  case hc => exact Ev.Pd.walk (k := 51) (m := HT.DEPTH) (x := "script") (dn := HT.d_law) HT.okP rfl (by decide) (by kernel_rfl) ⟨rfl, by decide, by decide⟩ rfl rfl (by kernel_rfl) HT.sound
end
