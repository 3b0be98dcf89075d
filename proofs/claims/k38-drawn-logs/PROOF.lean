import PyProof.Rows.All
import HandS.ForMost
import HandS.IsInst
import HandS.Zip
import HandS.Wide
import HandS.WideBits
import HandS.TupAny
import HandS.Flow
import HandS.More
import HandS.RaiseMore
import HandS.SortOrd
import HandS.SortRule
import HandS.Style
import HandS.Conv
import HandS.Words
import HandS.EndBits
import HandS.Defaults
import PySem.Challenge.RW_rulesbehind_k38_drawn_logs_made_forms
set_option Elab.async false
set_option linter.all false
set_option maxRecDepth 100000
set_option maxHeartbeats 2000000
namespace RB
open PySem PySem.Spec PyProof.Rows L2

abbrev Sg := L2.St
inductive D where
  | non | bl (b : Bool) | int (i : Int) | str (x : Str) | tup (xs : List D) | lst (xs : List D) | tok (n : Nat) | scr (ns : List Int)
  deriving Inhabited

/-- what the tokens stand for: each one's objects, the first one its own -/
abbrev TT' := List (List Addr)

mutual
def Rep (K : PySem.W.Frag) (θ : TT') (B : Hp) : D → V → Prop
  | .non, v => v = .non
  | .bl b, v => v = .bl b
  | .int i, v => v = .int i
  | .str x, v => v = .str x
  | .tup xs, v => ∃ a vs, v = .ref a ∧ SqT K B a vs ∧ Reps K θ B xs vs
  | .lst xs, v => ∃ a vs, v = .ref a ∧ B a = some (.lst vs) ∧ Reps K θ B xs vs
  | .tok n, v => ∃ a r, θ[n]? = some (a :: r) ∧ v = .ref a
  | .scr ns, v => ∃ a, v = .ref a ∧ SqL K B a (ns.map V.int)
def Reps (K : PySem.W.Frag) (θ : TT') (B : Hp) : List D → List V → Prop
  | [], vs => vs = []
  | x :: xs, vs => ∃ v r, vs = v :: r ∧ Rep K θ B x v ∧ Reps K θ B xs r
end

section
variable {K : PySem.W.Frag} {θ θ' : TT'} {B B' H H' : Hp}
theorem Same.sqT {a : Addr} {xs : List V} (e : Same B B') (h : SqT K B a xs) : SqT K B' a xs := by
  rcases h with (h | ⟨o, h⟩) | h
  · exact .inl (.inl (e _ _ h))
  · exact .inl (.inr ⟨o, e _ _ h⟩)
  · exact .inr h
mutual
theorem Rep.mono (e : Same B B') (t : θ <+: θ') : ∀ (d : D) (v : V), Rep K θ B d v → Rep K θ' B' d v
  | .non, v, h => h
  | .bl b, v, h => h
  | .int i, v, h => h
  | .str x, v, h => h
  | .tup xs, v, h => by
    simp only [Rep] at h ⊢
    obtain ⟨a, vs, e1, e2, e3⟩ := h
    exact ⟨a, vs, e1, Same.sqT e e2, Reps.mono e t xs vs e3⟩
  | .lst xs, v, h => by
    simp only [Rep] at h ⊢
    obtain ⟨a, vs, e1, e2, e3⟩ := h
    exact ⟨a, vs, e1, e _ _ e2, Reps.mono e t xs vs e3⟩
  | .tok n, v, h => by
    simp only [Rep] at h ⊢
    obtain ⟨a, r, e1, e2⟩ := h
    obtain ⟨z, rfl⟩ := t
    refine ⟨a, r, ?_, e2⟩
    rw [List.getElem?_append_left (List.getElem?_eq_some_iff.mp e1).1]
    exact e1
  | .scr ns, v, h => by
    simp only [Rep] at h ⊢
    obtain ⟨a, e1, e2⟩ := h
    exact ⟨a, e1, e.seq e2⟩
theorem Reps.mono (e : Same B B') (t : θ <+: θ') : ∀ (ds : List D) (vs : List V), Reps K θ B ds vs → Reps K θ' B' ds vs
  | [], vs, h => h
  | d :: ds, vs, h => by
    simp only [Reps] at h ⊢
    obtain ⟨v, r, e1, e2, e3⟩ := h
    exact ⟨v, r, e1, Rep.mono e t d v e2, Reps.mono e t ds r e3⟩
end
theorem Reps.nil {vs : List V} : Reps K θ B [] vs ↔ vs = [] := by simp only [Reps]
theorem Reps.cons {d : D} {ds : List D} {vs : List V} : Reps K θ B (d :: ds) vs ↔ ∃ v r, vs = v :: r ∧ Rep K θ B d v ∧ Reps K θ B ds r := by simp only [Reps]
theorem Reps.mk {d : D} {ds : List D} {v : V} {vs : List V} (h : Rep K θ B d v) (h2 : Reps K θ B ds vs) : Reps K θ B (d :: ds) (v :: vs) := Reps.cons.mpr ⟨v, vs, rfl, h, h2⟩
theorem Reps.length : ∀ {ds : List D} {vs : List V}, Reps K θ B ds vs → ds.length = vs.length
  | [], vs, h => by rw [Reps.nil.mp h]; rfl
  | d :: ds, vs, h => by
    obtain ⟨v, r, rfl, _, h2⟩ := Reps.cons.mp h
    rw [List.length_cons, List.length_cons, Reps.length h2]
theorem Reps.get : ∀ {ds : List D} {vs : List V} {i : Nat} {d : D}, Reps K θ B ds vs → ds[i]? = some d → ∃ v, vs[i]? = some v ∧ Rep K θ B d v
  | [], _, _, _, _, e => by simp at e
  | x :: xs, vs, i, d, h, e => by
    obtain ⟨v, r, rfl, h1, h2⟩ := Reps.cons.mp h
    cases i with
    | zero => simp at e; subst e; exact ⟨v, rfl, h1⟩
    | succ i => exact Reps.get (i := i) h2 (by simpa using e)
theorem Reps.getV : ∀ {ds : List D} {vs : List V} {i : Nat} {v : V}, Reps K θ B ds vs → vs[i]? = some v → ∃ d, ds[i]? = some d ∧ Rep K θ B d v
  | [], vs, _, _, h, e => by rw [Reps.nil.mp h] at e; simp at e
  | x :: xs, vs, i, d, h, e => by
    obtain ⟨v, r, rfl, h1, h2⟩ := Reps.cons.mp h
    cases i with
    | zero => simp at e; subst e; exact ⟨x, rfl, h1⟩
    | succ i => exact Reps.getV (i := i) h2 (by simpa using e)
theorem Reps.append : ∀ {ds es : List D} {vs us : List V}, Reps K θ B ds vs → Reps K θ B es us → Reps K θ B (ds ++ es) (vs ++ us)
  | [], _, vs, _, h, k => by rw [Reps.nil.mp h]; exact k
  | x :: xs, _, vs, _, h, k => by
    obtain ⟨v, r, rfl, h1, h2⟩ := Reps.cons.mp h
    exact Reps.mk h1 (Reps.append h2 k)
theorem Reps.take : ∀ {ds : List D} {vs : List V} (n : Nat), Reps K θ B ds vs → Reps K θ B (ds.take n) (vs.take n)
  | _, _, 0, _ => by rw [List.take_zero, List.take_zero]; exact Reps.nil.mpr rfl
  | [], vs, n + 1, h => by rw [Reps.nil.mp h]; exact Reps.nil.mpr rfl
  | x :: xs, vs, n + 1, h => by
    obtain ⟨v, r, rfl, h1, h2⟩ := Reps.cons.mp h
    exact Reps.mk h1 (Reps.take n h2)
theorem Reps.drop : ∀ {ds : List D} {vs : List V} (n : Nat), Reps K θ B ds vs → Reps K θ B (ds.drop n) (vs.drop n)
  | _, _, 0, h => h
  | [], vs, n + 1, h => by rw [Reps.nil.mp h]; exact Reps.nil.mpr rfl
  | x :: xs, vs, n + 1, h => by
    obtain ⟨v, r, rfl, h1, h2⟩ := Reps.cons.mp h
    exact Reps.drop n h2
theorem Reps.set : ∀ {ds : List D} {vs : List V} (i : Nat) {d : D} {v : V}, Reps K θ B ds vs → Rep K θ B d v → Reps K θ B (ds.set i d) (vs.set i v)
  | [], vs, _, _, _, h, _ => by rw [Reps.nil.mp h]; exact Reps.nil.mpr rfl
  | x :: xs, vs, i, d, w, h, k => by
    obtain ⟨v, r, rfl, h1, h2⟩ := Reps.cons.mp h
    cases i with
    | zero => exact Reps.mk k h2
    | succ i => exact Reps.mk h1 (Reps.set i h2 k)
theorem Reps.eraseIdx : ∀ {ds : List D} {vs : List V} (i : Nat), Reps K θ B ds vs → Reps K θ B (ds.eraseIdx i) (vs.eraseIdx i)
  | [], vs, i, h => by rw [Reps.nil.mp h]; exact Reps.nil.mpr rfl
  | x :: xs, vs, i, h => by
    obtain ⟨v, r, rfl, h1, h2⟩ := Reps.cons.mp h
    cases i with
    | zero => exact h2
    | succ i => exact Reps.mk h1 (Reps.eraseIdx i h2)
theorem Reps.dropLast {ds : List D} {vs : List V} (h : Reps K θ B ds vs) : Reps K θ B ds.dropLast vs.dropLast := by
  rw [List.dropLast_eq_take, List.dropLast_eq_take, h.length]; exact h.take _
theorem Reps.reverse : ∀ {ds : List D} {vs : List V}, Reps K θ B ds vs → Reps K θ B ds.reverse vs.reverse
  | [], vs, h => by rw [Reps.nil.mp h]; exact Reps.nil.mpr rfl
  | x :: xs, vs, h => by
    obtain ⟨v, r, rfl, h1, h2⟩ := Reps.cons.mp h
    rw [List.reverse_cons, List.reverse_cons]
    exact (Reps.reverse h2).append (Reps.mk h1 (Reps.nil.mpr rfl))
theorem same_upd {p : Addr} {o : HO} (h : H p = none) : Same H (upd H p o) := fun b x e => by rw [upd_ne (ne_of_none e h)]; exact e
end

/-- an exception: its class's name, its fields -/
structure Ex where
  cls : String
  args : List D
inductive Out (G α : Type) where
  | ok (a : α) (g : G) | exc (x : Ex) (g : G) | bad
def Out.bind {G α β : Type} (m : Out G α) (k : α → G → Out G β) : Out G β := match m with
  | .ok a g => k a g
  | .exc x g => .exc x g
  | .bad => .bad
def Out.sat {G α : Type} (m : Out G α) (P : α → G → Prop) (E : Ex → G → Prop) : Prop := match m with
  | .ok a g => P a g
  | .exc x g => E x g
  | .bad => False
section
variable {G α β : Type}
theorem Out.sat_bind {m : Out G α} {k : α → G → Out G β} {P : β → G → Prop} {E : Ex → G → Prop} : (m.bind k).sat P E ↔ m.sat (fun a g => (k a g).sat P E) E := by cases m <;> exact Iff.rfl
theorem Out.bind_assoc {γ : Type} {m : Out G α} {k : α → G → Out G β} {l : β → G → Out G γ} : (m.bind k).bind l = m.bind fun a g => (k a g).bind l := by cases m <;> rfl
theorem Out.sat_mono {m : Out G α} {P P' : α → G → Prop} {E E' : Ex → G → Prop} (h : m.sat P E) (hp : ∀ a g, P a g → P' a g) (he : ∀ x g, E x g → E' x g) : m.sat P' E' := by
  cases m with
  | ok a g => exact hp a g h
  | exc x g => exact he x g h
  | bad => exact h
end

/-- what a slot holds: data, or a list that nothing else holds -/
inductive Sl where
  | dat (d : D) | own (xs : List D)
abbrev Fr := List (Option Sl)
/-- a value: data; a new list that nothing else holds; the list of a slot -/
inductive Vl where
  | dat (d : D) | own (xs : List D) | pk (i : Nat)

/-- the context of a whole law: what holds of the run -/
structure Law (G : Type) where
  P : Program
  w : World
  K : PySem.W.Frag
  mg : Str → Option Value
  base : Heap
  RG : G → TT' → Hp → Prop
  stable : ∀ g θ H H', (∀ a ∈ θ.flatten, H a = H' a) → RG g θ H → RG g θ H'

variable {G : Type}

/-- the abstract heap beside its frozen part -/
structure Core (L : Law G) (B0 H0 : Hp) (θ0 : TT') (B H : Hp) (θ : TT') (g : G) : Prop where
  bb : Same B0 B
  bh : Same B H
  keep : ∀ a o, H0 a = some o → a ∉ θ0.flatten → H a = some o
  bn : ∀ a, B0 a = none → H0 a ≠ none → B a = none
  th : θ0 <+: θ
  thn : ∀ a ∈ θ.flatten, a ∉ θ0.flatten → H0 a = none
  tb : ∀ a ∈ θ.flatten, B a = none
  ta : ∀ a ∈ θ.flatten, H a ≠ none
  rg : L.RG g θ H

/-- at a new list of ours -/
structure OwnAt (K : PySem.W.Frag) (H0 : Hp) (B H : Hp) (θ : TT') (xs : List D) (a : Addr) : Prop where
  b : B a = none
  h0 : H0 a = none
  t : a ∉ θ.flatten
  ex : ∃ vs, H a = some (.lst vs) ∧ Reps K θ B xs vs

def SlotOk (K : PySem.W.Frag) (H0 : Hp) (B H : Hp) (θ : TT') : Sl → V → Prop
  | .dat d, v => Rep K θ B d v
  | .own xs, v => ∃ a, v = .ref a ∧ OwnAt K H0 B H θ xs a

structure SO (L : Law G) (B0 H0 : Hp) (θ0 : TT') (B H : Hp) (θ : TT') (σ : Sg) (fr : Fr) (g : G) : Prop where
  core : Core L B0 H0 θ0 B H θ g
  len : fr.length = σ.length
  sl : ∀ (i : Nat) (s : Sl), fr[i]? = some (some s) → ∃ v, σ[i]? = some (some v) ∧ SlotOk L.K H0 B H θ s v
  dist : ∀ (i j : Nat) (xs ys : List D) (v : V), fr[i]? = some (some (.own xs)) → fr[j]? = some (some (.own ys)) → σ[i]? = some (some v) → σ[j]? = some (some v) → i = j

/-- the address of a slot's own list -/
def OwnA (σ : Sg) (fr : Fr) (a : Addr) : Prop := ∃ (i : Nat) (ys : List D), fr[i]? = some (some (.own ys)) ∧ σ[i]? = some (some (.ref a))

def ValOk (K : PySem.W.Frag) (H0 : Hp) (B H : Hp) (θ : TT') (σ : Sg) (fr : Fr) : Vl → V → Prop
  | .dat d, v => Rep K θ B d v
  | .own xs, v => ∃ a, v = .ref a ∧ OwnAt K H0 B H θ xs a ∧ ¬ OwnA σ fr a
  | .pk i, v => σ[i]? = some (some v) ∧ ∃ xs, fr[i]? = some (some (.own xs))

section
variable {L : Law G} {B0 H0 B H B' H' : Hp} {θ0 θ θ' : TT'} {σ : Sg} {fr : Fr} {g g' : G}

/-- a new object is laid: tracked, not frozen -/
theorem Core.laid (c : Core L B0 H0 θ0 B H θ g) {p : Addr} (hp : H p = none) (o : HO) : Core L B0 H0 θ0 B (upd H p o) θ g where
  bb := c.bb
  bh := c.bh.trans (same_upd hp)
  keep := fun a u h n => by
    have := c.keep a u h n
    exact same_upd hp _ _ this
  bn := c.bn
  th := c.th
  thn := c.thn
  tb := c.tb
  ta := fun a ha e => by
    by_cases z : a = p
    · subst z; exact c.ta _ ha hp
    · rw [upd_ne z] at e; exact c.ta a ha e
  rg := L.stable g θ H _ (fun a ha => by
    have z : a ≠ p := fun z => by subst z; exact c.ta _ ha hp
    rw [upd_ne z]) c.rg
/-- a tracked object that is ours is frozen -/
theorem Core.freeze (c : Core L B0 H0 θ0 B H θ g) {p : Addr} {o : HO} (hb : B p = none) (h0 : H0 p = none) (ht : p ∉ θ.flatten) (ho : H p = some o) : Core L B0 H0 θ0 (upd B p o) H θ g where
  bb := c.bb.trans (same_upd hb)
  bh := fun a u e => by
    by_cases z : a = p
    · subst z; rw [upd_same] at e; rw [ho]; exact e
    · rw [upd_ne z] at e; exact c.bh a u e
  keep := c.keep
  bn := fun a e1 e2 => by
    by_cases z : a = p
    · subst z; exact absurd h0 e2
    · rw [upd_ne z]; exact c.bn a e1 e2
  th := c.th
  thn := c.thn
  tb := fun a ha => by
    have z : a ≠ p := fun z => by subst z; exact ht ha
    rw [upd_ne z]; exact c.tb a ha
  ta := c.ta
  rg := c.rg
theorem Core.fresh0 (c : Core L B0 H0 θ0 B H θ g) {p : Addr} (hp : H p = none) : H0 p = none ∧ B p = none ∧ p ∉ θ.flatten := by
  have ht : p ∉ θ.flatten := fun z => c.ta p z hp
  have hb : B p = none := by
    cases e : B p with
    | none => rfl
    | some o => rw [c.bh _ _ e] at hp; cases hp
  refine ⟨?_, hb, ht⟩
  cases e : H0 p with
  | none => rfl
  | some o =>
    by_cases z : p ∈ θ0.flatten
    · obtain ⟨r, er⟩ := c.th
      exact absurd (by rw [← er, List.flatten_append]; exact List.mem_append_left _ z) ht
    · rw [c.keep _ _ e z] at hp; cases hp
/-- a new frozen object -/
theorem Core.new (c : Core L B0 H0 θ0 B H θ g) {p : Addr} (hp : H p = none) (o : HO) : Core L B0 H0 θ0 (upd B p o) (upd H p o) θ g := by
  obtain ⟨h0, hb, ht⟩ := c.fresh0 hp
  exact (c.laid hp o).freeze hb h0 ht upd_same
theorem OwnAt.mono {xs : List D} {a : Addr} (o : OwnAt L.K H0 B H θ xs a) (e : Same B B') (t : θ <+: θ') (hb : B' a = none) (ht : a ∉ θ'.flatten) (hh : H' a = H a) : OwnAt L.K H0 B' H' θ' xs a :=
  ⟨hb, o.h0, ht, let ⟨vs, e1, e2⟩ := o.ex; ⟨vs, hh.trans e1, Reps.mono e t xs vs e2⟩⟩
/-- the slots stay as they are where our own lists do -/
theorem SO.step (s : SO L B0 H0 θ0 B H θ σ fr g) (c : Core L B0 H0 θ0 B' H' θ' g') (e : Same B B') (t : θ <+: θ') (k : ∀ (a : Addr) (xs : List D), OwnAt L.K H0 B H θ xs a → (∃ i : Nat, σ[i]? = some (some (.ref a)) ∧ fr[i]? = some (some (.own xs))) → B' a = none ∧ a ∉ θ'.flatten ∧ H' a = H a) : SO L B0 H0 θ0 B' H' θ' σ fr g' where
  core := c
  len := s.len
  sl := fun i q h => by
    obtain ⟨v, e1, e2⟩ := s.sl i q h
    refine ⟨v, e1, ?_⟩
    cases q with
    | dat d => exact Rep.mono e t d v e2
    | own xs =>
      obtain ⟨a, rfl, o⟩ := e2
      obtain ⟨k1, k2, k3⟩ := k a xs o ⟨i, e1, h⟩
      exact ⟨a, rfl, o.mono e t k1 k2 k3⟩
  dist := s.dist
theorem SO.laid (s : SO L B0 H0 θ0 B H θ σ fr g) {p : Addr} (hp : H p = none) (o : HO) : SO L B0 H0 θ0 B (upd H p o) θ σ fr g :=
  s.step (s.core.laid hp o) (fun _ _ h => h) (List.prefix_refl _) fun a xs q _ => by
    refine ⟨q.b, q.t, ?_⟩
    obtain ⟨vs, e, _⟩ := q.ex
    rw [upd_ne (ne_of_none e hp)]
theorem SO.new (s : SO L B0 H0 θ0 B H θ σ fr g) {p : Addr} (hp : H p = none) (o : HO) : SO L B0 H0 θ0 (upd B p o) (upd H p o) θ σ fr g := by
  obtain ⟨h0, hb, ht⟩ := s.core.fresh0 hp
  refine s.step (s.core.new hp o) (same_upd hb) (List.prefix_refl _) fun a xs q _ => ?_
  obtain ⟨vs, e, _⟩ := q.ex
  exact ⟨by rw [upd_ne (ne_of_none e hp)]; exact q.b, q.t, by rw [upd_ne (ne_of_none e hp)]⟩
theorem SO.freeze (s : SO L B0 H0 θ0 B H θ σ fr g) {xs : List D} {p : Addr} {o : HO} (q : OwnAt L.K H0 B H θ xs p) (ho : H p = some o) (n : ¬ OwnA σ fr p) : SO L B0 H0 θ0 (upd B p o) H θ σ fr g := by
  refine s.step (s.core.freeze q.b q.h0 q.t ho) (same_upd q.b) (List.prefix_refl _) fun a ys r hi => ?_
  obtain ⟨i, e1, e2⟩ := hi
  have z : a ≠ p := fun z => by subst z; exact n ⟨i, ys, e2, e1⟩
  exact ⟨by rw [upd_ne z]; exact r.b, r.t, rfl⟩
structure Stp (σ : Sg) (fr fr' : Fr) (θ θ' : TT') (B B' H H' : Hp) : Prop where
  same : Same B B'
  pre : θ <+: θ'
  keep : ∀ a o, H a = some o → a ∉ θ.flatten → ¬ OwnA σ fr a → H' a = some o
  sub : ∀ a, OwnA σ fr' a → OwnA σ fr a
  thn : ∀ a ∈ θ'.flatten, a ∉ θ.flatten → H a = none ∨ OwnA σ fr a
  ex : ∀ a, H a ≠ none → H' a ≠ none
  bn : ∀ a, B a = none → H a ≠ none → ¬ OwnA σ fr a → B' a = none
theorem Stp.refl {σ : Sg} {fr : Fr} {θ : TT'} {B H : Hp} : Stp σ fr fr θ θ B B H H := ⟨fun _ _ h => h, List.prefix_refl _, fun _ _ h _ _ => h, fun _ h => h, fun _ h n => absurd h n, fun _ h => h, fun _ h _ _ => h⟩
theorem Stp.trans {σ : Sg} {fr fr1 fr2 : Fr} {θ θ1 θ2 : TT'} {B B1 B2 H H1 H2 : Hp} (s : Stp σ fr fr1 θ θ1 B B1 H H1) (t : Stp σ fr1 fr2 θ1 θ2 B1 B2 H1 H2) : Stp σ fr fr2 θ θ2 B B2 H H2 where
  same := s.same.trans t.same
  pre := s.pre.trans t.pre
  keep := fun a o h n1 n2 => by
    refine t.keep a o (s.keep a o h n1 n2) (fun z => ?_) fun z => n2 (s.sub a z)
    rcases s.thn a z n1 with this | this
    · rw [h] at this; cases this
    · exact n2 this
  sub := fun a h => s.sub a (t.sub a h)
  thn := fun a h n => by
    by_cases z : a ∈ θ1.flatten
    · exact s.thn a z n
    · rcases t.thn a h z with e | e
      · cases q : H a with
        | none => exact .inl rfl
        | some o => exact absurd e (s.ex a (by rw [q]; exact fun z => nomatch z))
      · exact .inr (s.sub a e)
  ex := fun a h => t.ex a (s.ex a h)
  bn := fun a h1 h2 h3 => t.bn a (s.bn a h1 h2 h3) (s.ex a h2) fun z => h3 (s.sub a z)
/-- a new list of a value was not there at the start -/
def FreshV (H : Hp) : Vl → V → Prop
  | .own _, x => ∀ a, x = .ref a → H a = none
  | _, _ => True
theorem FreshV.lift {H H' : Hp} (ex : ∀ a, H a ≠ none → H' a ≠ none) {v : Vl} {x : V} (h : FreshV H' v x) : FreshV H v x := by
  cases v with
  | own xs =>
    intro a e
    have := h a e
    cases q : H a with
    | none => rfl
    | some o => exact absurd this (ex a (by rw [q]; exact fun z => nomatch z))
  | dat d => trivial
  | pk i => trivial
end
end RB

namespace RB
open PySem PySem.Spec PyProof.Rows L2
variable {G : Type}

section
variable {L : Law G} {B0 H0 B H B' H' : Hp} {θ0 θ θ' : TT'} {σ : Sg} {fr : Fr} {g g' : G}
theorem getElem?_set_cases {α : Type} {l : List α} {i j : Nat} {x y : α} (h : (l.set i x)[j]? = some y) : (j = i ∧ y = x) ∨ (j ≠ i ∧ l[j]? = some y) := by
  by_cases z : j = i
  · subst z
    by_cases hl : j < l.length
    · rw [List.getElem?_set_self hl] at h; cases h; exact .inl ⟨rfl, rfl⟩
    · rw [List.getElem?_eq_none (by rw [List.length_set]; omega)] at h; cases h
  · rw [List.getElem?_set_ne (Ne.symm z)] at h
    exact .inr ⟨z, h⟩
theorem SO.drop (s : SO L B0 H0 θ0 B H θ σ fr g) (i : Nat) : SO L B0 H0 θ0 B H θ σ (fr.set i none) g where
  core := s.core
  len := by rw [List.length_set]; exact s.len
  sl := fun j q h => by
    rcases getElem?_set_cases h with ⟨_, z⟩ | ⟨_, z⟩
    · cases z
    · exact s.sl j q z
  dist := fun j k xs ys v h1 h2 => by
    rcases getElem?_set_cases h1 with ⟨_, z⟩ | ⟨_, z⟩
    · cases z
    rcases getElem?_set_cases h2 with ⟨_, w⟩ | ⟨_, w⟩
    · cases w
    exact s.dist j k xs ys v z w
theorem OwnA.drop {σ : Sg} {fr : Fr} {i : Nat} {a : Addr} (h : OwnA σ (fr.set i none) a) : OwnA σ fr a := by
  obtain ⟨j, ys, e1, e2⟩ := h
  rcases getElem?_set_cases e1 with ⟨_, z⟩ | ⟨_, z⟩
  · cases z
  · exact ⟨j, ys, z, e2⟩
theorem SO.put (s : SO L B0 H0 θ0 B H θ σ fr g) {i : Nat} {v : V} {q : Sl} (hv : σ[i]? = some (some v)) (hq : SlotOk L.K H0 B H θ q v) (hn : ∀ xs a, q = .own xs → v = .ref a → ¬ OwnA σ (fr.set i none) a) : SO L B0 H0 θ0 B H θ σ (fr.set i (some q)) g where
  core := s.core
  len := by rw [List.length_set]; exact s.len
  sl := fun j p h => by
    rcases getElem?_set_cases h with ⟨rfl, z⟩ | ⟨_, z⟩
    · cases z; exact ⟨v, hv, hq⟩
    · exact s.sl j p z
  dist := fun j k xs ys w h1 h2 h3 h4 => by
    have key : ∀ (m n : Nat) (zs : List D), m = i → n ≠ i → q = Sl.own zs → (∃ ws, fr[n]? = some (some (Sl.own ws))) → σ[m]? = some (some w) → σ[n]? = some (some w) → m = n := by
      intro m n zs hm hni hqz ⟨ws, hws⟩ e3 e4
      subst hm
      rw [hv] at e3; cases e3
      subst hqz
      obtain ⟨a, rfl, _⟩ := hq
      exact absurd ⟨n, ws, by rw [List.getElem?_set_ne (Ne.symm hni)]; exact hws, e4⟩ (hn _ a rfl rfl)
    rcases getElem?_set_cases h1 with ⟨e1, z⟩ | ⟨e1, z⟩ <;> rcases getElem?_set_cases h2 with ⟨e2, w'⟩ | ⟨e2, w'⟩
    · rw [e1, e2]
    · exact key j k xs e1 e2 (by cases z; rfl) ⟨ys, w'⟩ h3 h4
    · exact (key k j ys e2 e1 (by cases w'; rfl) ⟨xs, z⟩ h4 h3).symm
    · exact s.dist j k xs ys w z w' h3 h4
theorem SO.lt (s : SO L B0 H0 θ0 B H θ σ fr g) {i : Nat} {q : Sl} (h : fr[i]? = some (some q)) : i < fr.length := (List.getElem?_eq_some_iff.mp h).1
/-- a name is stored -/
theorem SO.assign0 (s : SO L B0 H0 θ0 B H θ σ fr g) {i : Nat} (hi : i < fr.length) {v : V} {q : Sl} (hq : SlotOk L.K H0 B H θ q v) (hn : ∀ xs a, q = .own xs → v = .ref a → ¬ OwnA σ fr a) : SO L B0 H0 θ0 B H θ (σ.set i (some v)) (fr.set i (some q)) g := by
  have s1 : SO L B0 H0 θ0 B H θ (σ.set i (some v)) (fr.set i none) g := by
    refine ⟨s.core, by rw [List.length_set, List.length_set]; exact s.len, fun j p h => ?_, fun j k xs ys w h1 h2 h3 h4 => ?_⟩
    · rcases getElem?_set_cases h with ⟨_, z⟩ | ⟨n, z⟩
      · cases z
      · obtain ⟨u, e1, e2⟩ := s.sl j p z
        exact ⟨u, by rw [List.getElem?_set_ne (Ne.symm n)]; exact e1, e2⟩
    · rcases getElem?_set_cases h1 with ⟨_, z⟩ | ⟨n1, z⟩
      · cases z
      rcases getElem?_set_cases h2 with ⟨_, w'⟩ | ⟨n2, w'⟩
      · cases w'
      rw [List.getElem?_set_ne (Ne.symm n1)] at h3
      rw [List.getElem?_set_ne (Ne.symm n2)] at h4
      exact s.dist j k xs ys w z w' h3 h4
  have e : (fr.set i none).set i (some q) = fr.set i (some q) := by rw [List.set_set]
  rw [← e]
  refine s1.put (v := v) (by rw [List.getElem?_set_self (by rw [← s.len]; exact hi)]) hq fun xs a e1 e2 z => ?_
  rw [List.set_set] at z
  obtain ⟨j, ys, e3, e4⟩ := z
  rcases getElem?_set_cases e3 with ⟨_, z⟩ | ⟨n, z⟩
  · cases z
  rw [List.getElem?_set_ne (Ne.symm n)] at e4
  exact hn xs a e1 e2 ⟨j, ys, z, e4⟩
theorem SO.assign (s : SO L B0 H0 θ0 B H θ σ fr g) {i : Nat} {v : V} {q : Sl} (hq : SlotOk L.K H0 B H θ q v) (hn : ∀ xs a, q = .own xs → v = .ref a → ¬ OwnA σ fr a) : SO L B0 H0 θ0 B H θ (σ.set i (some v)) (fr.set i (some q)) g := by
  by_cases hi : i < fr.length
  · exact s.assign0 hi hq hn
  · have hl := s.len
    rw [List.set_eq_of_length_le (l := σ) (by omega), List.set_eq_of_length_le (l := fr) (by omega)]; exact s
/-- a slot's own list is frozen -/
theorem SO.frzSlot (s : SO L B0 H0 θ0 B H θ σ fr g) {i : Nat} {xs : List D} {v : V} (hf : fr[i]? = some (some (.own xs))) (hv : σ[i]? = some (some v)) :
    ∃ B', SO L B0 H0 θ0 B' H θ σ (fr.set i (some (.dat (.lst xs)))) g ∧ Stp σ fr (fr.set i (some (.dat (.lst xs)))) θ θ B B' H H ∧ Rep L.K θ B' (.lst xs) v := by
  obtain ⟨u, e1, e2⟩ := s.sl i _ hf
  rw [hv] at e1; cases e1
  obtain ⟨a, rfl, o⟩ := e2
  obtain ⟨vs, ho, hr⟩ := o.ex
  have hn : ¬ OwnA σ (fr.set i none) a := fun ⟨j, ys, e3, e4⟩ => by
    rcases getElem?_set_cases e3 with ⟨_, z⟩ | ⟨n, z⟩
    · cases z
    · exact n (s.dist j i ys xs _ z hf e4 hv)
  have s2 := (s.drop i).freeze o ho hn
  have hs : Same B (upd B a (.lst vs)) := same_upd o.b
  have hrep : Rep L.K θ (upd B a (.lst vs)) (.lst xs) (.ref a) := by
    simp only [Rep]
    exact ⟨a, vs, rfl, upd_same, Reps.mono hs (List.prefix_refl _) _ _ hr⟩
  refine ⟨upd B a (.lst vs), ?_, ⟨hs, List.prefix_refl _, fun _ _ h _ _ => h, fun b hb => ?_, fun _ h n => absurd h n, fun _ h => h, fun b e1 _ e3 => ?_⟩, hrep⟩
  · have := s2.put (q := .dat (.lst xs)) hv hrep fun _ _ e => nomatch e
    rw [List.set_set] at this
    exact this
  · obtain ⟨j, ys, e3, e4⟩ := hb
    rcases getElem?_set_cases e3 with ⟨_, z⟩ | ⟨n, z⟩
    · cases z
    · exact ⟨j, ys, z, e4⟩
  · have z : b ≠ a := fun z => by subst z; exact e3 ⟨i, xs, hf, hv⟩
    rw [upd_ne z]; exact e1
theorem SO.frzVal (s : SO L B0 H0 θ0 B H θ σ fr g) {xs : List D} {v : V} (h : ValOk L.K H0 B H θ σ fr (.own xs) v) :
    ∃ B', SO L B0 H0 θ0 B' H θ σ fr g ∧ Rep L.K θ B' (.lst xs) v ∧ Same B B' ∧ ∀ {frs : Fr} {θs : TT'} {Bs Hs : Hp}, Stp σ frs fr θs θ Bs B Hs H → FreshV Hs (.own xs) v → Stp σ frs fr θs θ Bs B' Hs H := by
  obtain ⟨a, rfl, o, hn⟩ := h
  obtain ⟨vs, ho, hr⟩ := o.ex
  have hs : Same B (upd B a (.lst vs)) := same_upd o.b
  refine ⟨upd B a (.lst vs), s.freeze o ho hn, ?_, hs, fun {frs θs Bs Hs} st fv => ⟨st.same.trans hs, st.pre, st.keep, st.sub, st.thn, st.ex, fun b e1 e2 e3 => ?_⟩⟩
  · simp only [Rep]
    exact ⟨a, vs, rfl, upd_same, Reps.mono hs (List.prefix_refl _) _ _ hr⟩
  · have z : b ≠ a := fun z => by subst z; exact e2 (fv _ rfl)
    rw [upd_ne z]; exact st.bn b e1 e2 e3
end

structure Stt (G : Type) where
  fr : Fr
  g : G
abbrev EDen (G : Type) := Stt G → Out (Stt G) Vl
abbrev TDen (G : Type) := Stt G → Out (Stt G) Bool
abbrev ADen (G : Type) := Stt G → Out (Stt G) (List D)
/-- a value as data; a list that was ours is from then on data -/
def frz (v : Vl) (s : Stt G) : Out (Stt G) D := match v with
  | .dat d => .ok d s
  | .own xs => .ok (.lst xs) s
  | .pk i => match s.fr[i]? with
    | some (some (.own xs)) => .ok (.lst xs) { s with fr := s.fr.set i (some (.dat (.lst xs))) }
    | _ => .bad
abbrev noE : Ex → Stt G → Prop := fun _ _ => False
section
variable {L : Law G} {B0 H0 B H B' H' : Hp} {θ0 θ θ' : TT'} {σ : Sg} {s s' : Stt G}
theorem frz_ok {v : Vl} {x : V} {P : D → Stt G → Prop} {frs : Fr} {θs : TT'} {Bs Hs : Hp} (so : SO L B0 H0 θ0 B H θ σ s.fr s.g) (vo : ValOk L.K H0 B H θ σ s.fr v x) (st : Stp σ frs s.fr θs θ Bs B Hs H) (fv : FreshV Hs v x) (h : (frz v s).sat P noE) :
    ∃ d s2 B2, P d s2 ∧ SO L B0 H0 θ0 B2 H θ σ s2.fr s2.g ∧ Stp σ frs s2.fr θs θ Bs B2 Hs H ∧ Rep L.K θ B2 d x ∧ Same B B2 := by
  cases v with
  | dat d => exact ⟨d, s, B, h, so, st, vo, fun _ _ h => h⟩
  | own xs =>
    obtain ⟨B2, h1, h3, h4, h2⟩ := so.frzVal vo
    exact ⟨_, s, B2, h, h1, h2 st fv, h3, h4⟩
  | pk i =>
    obtain ⟨e1, xs, e2⟩ := vo
    simp only [frz, e2] at h
    obtain ⟨B2, h1, h2, h3⟩ := so.frzSlot e2 e1
    exact ⟨_, _, B2, h, h1, st.trans h2, h3, h2.same⟩

def PostV (L : Law G) (B0 H0 : Hp) (θ0 : TT') (σ : Sg) (s : Stt G) (B H : Hp) (θ : TT') (Q : VK) (v : Vl) (s' : Stt G) : Prop :=
  ∀ x H' B' θ', SO L B0 H0 θ0 B' H' θ' σ s'.fr s'.g → Stp σ s.fr s'.fr θ θ' B B' H H' → ValOk L.K H0 B' H' θ' σ s'.fr v x → FreshV H v x → Q x H'
def tD (L : Law G) (f : EDen G) : TE := fun σ H Q => ∃ B0 H0 θ0 B θ s, SO L B0 H0 θ0 B H θ σ s.fr s.g ∧ (f s).sat (PostV L B0 H0 θ0 σ s B H θ Q) noE
def tDT (L : Law G) (f : TDen G) : TT := fun σ H Q => ∃ B0 H0 θ0 B θ s, SO L B0 H0 θ0 B H θ σ s.fr s.g ∧ (f s).sat (fun b s' =>
  ∀ H' B' θ', SO L B0 H0 θ0 B' H' θ' σ s'.fr s'.g → Stp σ s.fr s'.fr θ θ' B B' H H' → Q b H') noE
def tDA (L : Law G) (f : ADen G) : TA := fun σ H Q => ∃ B0 H0 θ0 B θ s, SO L B0 H0 θ0 B H θ σ s.fr s.g ∧ (f s).sat (fun ds s' =>
  ∀ vs H' B' θ', SO L B0 H0 θ0 B' H' θ' σ s'.fr s'.g → Stp σ s.fr s'.fr θ θ' B B' H H' → Reps L.K θ' B' ds vs → Q vs H') noE
theorem tD_run {α : Type} {f : EDen G} {k : Vl → Stt G → Out (Stt G) α} {P : α → Stt G → Prop} {Q : VK} (so : SO L B0 H0 θ0 B H θ σ s.fr s.g) (h : ((f s).bind k).sat P noE)
    (hc : ∀ v s' x H' B' θ', (k v s').sat P noE → SO L B0 H0 θ0 B' H' θ' σ s'.fr s'.g → Stp σ s.fr s'.fr θ θ' B B' H H' → ValOk L.K H0 B' H' θ' σ s'.fr v x → FreshV H v x → Q x H') : tD L f σ H Q :=
  ⟨B0, H0, θ0, B, θ, s, so, Out.sat_mono (Out.sat_bind.mp h) (fun v s' hk x H' B' θ' a b c d => hc v s' x H' B' θ' hk a b c d) fun _ _ z => z⟩
/-- an expression as data -/
def eD (f : EDen G) : Stt G → Out (Stt G) D := fun s => (f s).bind frz
theorem tD_runD {α : Type} {f : EDen G} {k : D → Stt G → Out (Stt G) α} {P : α → Stt G → Prop} {Q : VK} (so : SO L B0 H0 θ0 B H θ σ s.fr s.g) (h : ((eD f s).bind k).sat P noE)
    (hc : ∀ d s' x H' B' θ', (k d s').sat P noE → SO L B0 H0 θ0 B' H' θ' σ s'.fr s'.g → Stp σ s.fr s'.fr θ θ' B B' H H' → Rep L.K θ' B' d x → Q x H') : tD L f σ H Q := by
  have h' : ((f s).bind fun v s' => (frz v s').bind k).sat P noE := by
    unfold eD at h
    cases e : f s with
    | ok v s' => rw [e] at h; exact h
    | exc x s' => rw [e] at h; exact h
    | bad => rw [e] at h; exact h
  refine tD_run so h' fun v s' x H' B' θ' hk so' st vo fv => ?_
  obtain ⟨d, s2, B2, hp, so2, st2, rep, _⟩ := frz_ok so' vo st fv (Out.sat_bind.mp hk)
  exact hc d s2 x H' B2 θ' hp so2 st2 rep
theorem tDA_run {α : Type} {f : ADen G} {k : List D → Stt G → Out (Stt G) α} {P : α → Stt G → Prop} {Q : List V → Hp → Prop} (so : SO L B0 H0 θ0 B H θ σ s.fr s.g) (h : ((f s).bind k).sat P noE)
    (hc : ∀ ds s' vs H' B' θ', (k ds s').sat P noE → SO L B0 H0 θ0 B' H' θ' σ s'.fr s'.g → Stp σ s.fr s'.fr θ θ' B B' H H' → Reps L.K θ' B' ds vs → Q vs H') : tDA L f σ H Q :=
  ⟨B0, H0, θ0, B, θ, s, so, Out.sat_mono (Out.sat_bind.mp h) (fun v s' hk x H' B' θ' a b c => hc v s' x H' B' θ' hk a b c) fun _ _ z => z⟩
theorem tDT_run {α : Type} {f : TDen G} {k : Bool → Stt G → Out (Stt G) α} {P : α → Stt G → Prop} {Q : Bool → Hp → Prop} (so : SO L B0 H0 θ0 B H θ σ s.fr s.g) (h : ((f s).bind k).sat P noE)
    (hc : ∀ b s' H' B' θ', (k b s').sat P noE → SO L B0 H0 θ0 B' H' θ' σ s'.fr s'.g → Stp σ s.fr s'.fr θ θ' B B' H H' → Q b H') : tDT L f σ H Q :=
  ⟨B0, H0, θ0, B, θ, s, so, Out.sat_mono (Out.sat_bind.mp h) (fun v s' hk H' B' θ' a b => hc v s' H' B' θ' hk a b) fun _ _ z => z⟩
end

structure CE where
  N : List Str
  sc : Scope
  fn : Str → Bool
structure Ok (L : Law G) (X : Cx) (ce : CE) (lv : Nat) : Prop where
  P : X.prog = L.P
  w : X.w = L.w
  K : X.K = L.K
  mg : X.mg = L.mg
  base : X.base = L.base
  N : X.N = ce.N
  nd : X.N.Nodup
  calm : X.calm = true
  sc : X.env.scope = ce.sc
  fn : ∀ x, ce.fn x = true → X.fn x = true
  room : Room lv X.A

/-- an expression that is told: its look, its meaning, what it leans on -/
structure EI (G : Type) where
  chk : CE → Expr → Bool
  den : EDen G
  need : Law G → Nat → Prop
  ok : ∀ (L : Law G) (lv : Nat) (X : Cx) (ce : CE) (e : Expr), Ok L X ce lv → need L lv → chk ce e = true → PE X e (tD L den)
structure TI' (G : Type) where
  chk : CE → Expr → Bool
  den : TDen G
  need : Law G → Nat → Prop
  ok : ∀ (L : Law G) (lv : Nat) (X : Cx) (ce : CE) (e : Expr), Ok L X ce lv → need L lv → chk ce e = true → PT X e (tDT L den)
/-- arguments, as data -/
structure AI (G : Type) where
  n : Nat
  chk : CE → List Expr → Bool
  den : ADen G
  len : ∀ s ds s', den s = .ok ds s' → ds.length = n
  need : Law G → Nat → Prop
  ok : ∀ (L : Law G) (lv : Nat) (X : Cx) (ce : CE) (es : List Expr), Ok L X ce lv → need L lv → chk ce es = true → PA X es (tDA L den)

theorem _root_.L2.PE.imp {X : Cx} {e : Expr} {t t' : TE} (h : PE X e t) (k : ∀ σ H Q, t' σ H Q → t σ H Q) : PE X e t' := ⟨fun pins s σ H Q I q => h.run pins s σ H Q I (k σ H Q q)⟩
theorem _root_.L2.PT.imp {X : Cx} {e : Expr} {t t' : TT} (h : PT X e t) (k : ∀ σ H Q, t' σ H Q → t σ H Q) : PT X e t' := ⟨fun pins s σ H Q I q => h.run pins s σ H Q I (k σ H Q q)⟩
theorem _root_.L2.PA.imp {X : Cx} {e : List Expr} {t t' : TA} (h : PA X e t) (k : ∀ σ H Q, t' σ H Q → t σ H Q) : PA X e t' := ⟨fun pos pins s σ H Q I q => h.run pos pins s σ H Q I (k σ H Q q)⟩
end RB

namespace RB
open PySem PySem.Spec PyProof.Rows L2

mutual
def eqB : D → D → Bool
  | .non, .non => true
  | .bl a, .bl b => a == b
  | .bl a, .int j => (if a then 1 else 0) == j
  | .int i, .bl b => i == (if b then 1 else 0)
  | .int i, .int j => i == j
  | .str x, .str y => x == y
  | .lst xs, .lst ys => eqBs xs ys
  | .tup xs, .tup ys => eqBs xs ys
  | _, _ => false
def eqBs : List D → List D → Bool
  | [], [] => true
  | x :: xs, y :: ys => eqB x y && eqBs xs ys
  | _, _ => false
end
mutual
def depB : D → Nat
  | .lst xs | .tup xs => depBs xs + 1
  | _ => 0
def depBs : List D → Nat
  | [] => 0
  | x :: xs => max (depB x) (depBs xs)
end
mutual
/-- no token, no script within -/
def pln : D → Bool
  | .lst xs | .tup xs => plns xs
  | .tok _ => false
  | .scr _ => false
  | _ => true
def plns : List D → Bool
  | [] => true
  | x :: xs => pln x && plns xs
end
mutual
/-- a value of the machine's heap, as data -/
def RdV (h : Heap) : D → Value → Prop
  | .non, u => u = Value.none
  | .bl b, u => u = Value.bool b
  | .int i, u => ∃ t, u = Value.int i t
  | .str x, u => ∃ t, u = Value.str x t
  | .tup xs, u => ∃ l its, u = Value.ref l ∧ h.IsTuple l its ∧ RdVs h xs its.toList
  | .lst xs, u => ∃ l its, u = Value.ref l ∧ h.IsList l its ∧ RdVs h xs its.toList
  | .tok _, _ => False
  | .scr _, _ => False
def RdVs (h : Heap) : List D → List Value → Prop
  | [], us => us = []
  | d :: ds, us => ∃ u r, us = u :: r ∧ RdV h d u ∧ RdVs h ds r
end
section
variable {h : Heap}
theorem RdVs.nil {us : List Value} : RdVs h [] us ↔ us = [] := by simp only [RdVs]
theorem RdVs.cons {d : D} {ds : List D} {us : List Value} : RdVs h (d :: ds) us ↔ ∃ u r, us = u :: r ∧ RdV h d u ∧ RdVs h ds r := by simp only [RdVs]
theorem RdVs.length : ∀ {ds : List D} {us : List Value}, RdVs h ds us → ds.length = us.length
  | [], us, q => by rw [RdVs.nil.mp q]; rfl
  | d :: ds, us, q => by
    obtain ⟨u, r, rfl, _, h2⟩ := RdVs.cons.mp q
    rw [List.length_cons, List.length_cons, RdVs.length h2]
theorem IsTuple.uniq {l : Addr} {a b : Array Value} (p : h.IsTuple l a) (q : h.IsTuple l b) : a = b := by
  obtain ⟨o, h1, h2, n, h3⟩ := p
  obtain ⟨o', h1', h2', n', h3'⟩ := q
  rw [h1] at h1'; cases h1'
  rw [h3] at h3'; cases h3'; rfl
theorem IsList.uniq {l : Addr} {a b : Array Value} (p : h.IsList l a) (q : h.IsList l b) : a = b := by
  obtain ⟨o, h1, h2, n, h3⟩ := p
  obtain ⟨o', h1', h2', n', h3'⟩ := q
  rw [h1] at h1'; cases h1'
  rw [h3] at h3'; cases h3'; rfl
theorem listTup {l : Addr} {a b : Array Value} (p : h.IsList l a) (q : h.IsTuple l b) : False := by
  obtain ⟨o, h1, h2, _⟩ := p
  obtain ⟨o', h1', h2', _⟩ := q
  rw [h1] at h1'; cases h1'
  rw [h2] at h2'
  exact absurd h2' (by simp)
mutual
theorem RdV.uniq : ∀ (d e : D) (u : Value), RdV h d u → RdV h e u → d = e
  | .non, e, u, p, q => by
    simp only [RdV] at p; subst p
    cases e <;> simp [RdV] at q <;> rfl
  | .bl b, e, u, p, q => by
    simp only [RdV] at p; subst p
    cases e <;> simp [RdV] at q
    rw [q]
  | .int b, e, u, p, q => by
    simp only [RdV] at p; obtain ⟨t, rfl⟩ := p
    cases e <;> simp [RdV] at q
    rw [q]
  | .str b, e, u, p, q => by
    simp only [RdV] at p; obtain ⟨t, rfl⟩ := p
    cases e <;> simp [RdV] at q
    rw [q]
  | .tup xs, e, u, p, q => by
    simp only [RdV] at p; obtain ⟨l, its, rfl, h1, h2⟩ := p
    cases e <;> simp only [RdV] at q
    · cases q
    · cases q
    · obtain ⟨t, e'⟩ := q; cases e'
    · obtain ⟨t, e'⟩ := q; cases e'
    · obtain ⟨l', its', e', h1', h2'⟩ := q
      cases e'
      have := IsTuple.uniq h1 h1'; subst this; rw [RdVs.uniq _ _ _ h2 h2']
    · obtain ⟨l', its', e', h1', h2'⟩ := q
      cases e'
      exact (listTup h1' h1).elim
  | .lst xs, e, u, p, q => by
    simp only [RdV] at p; obtain ⟨l, its, rfl, h1, h2⟩ := p
    cases e <;> simp only [RdV] at q
    · cases q
    · cases q
    · obtain ⟨t, e'⟩ := q; cases e'
    · obtain ⟨t, e'⟩ := q; cases e'
    · obtain ⟨l', its', e', h1', h2'⟩ := q
      cases e'
      exact (listTup h1 h1').elim
    · obtain ⟨l', its', e', h1', h2'⟩ := q
      cases e'
      have := IsList.uniq h1 h1'; subst this; rw [RdVs.uniq _ _ _ h2 h2']
  | .tok _, _, _, p, _ => by simp only [RdV] at p
  | .scr _, _, _, p, _ => by simp only [RdV] at p
theorem RdVs.uniq : ∀ (ds es : List D) (us : List Value), RdVs h ds us → RdVs h es us → ds = es
  | [], es, us, p, q => by
    have := RdVs.nil.mp p; subst this
    cases es with
    | nil => rfl
    | cons e es => obtain ⟨_, _, z, _⟩ := RdVs.cons.mp q; cases z
  | d :: ds, es, us, p, q => by
    obtain ⟨u, r, rfl, h1, h2⟩ := RdVs.cons.mp p
    cases es with
    | nil => have := RdVs.nil.mp q; cases this
    | cons e es =>
      obtain ⟨u', r', z, h1', h2'⟩ := RdVs.cons.mp q
      cases z
      rw [RdV.uniq d e u h1 h1', RdVs.uniq ds es r h2 h2']
end
end
mutual
theorem eqB_refl : ∀ (d : D), pln d = true → eqB d d = true
  | .non, _ => by simp only [eqB]
  | .bl b, _ => by simp [eqB]
  | .int b, _ => by simp [eqB]
  | .str b, _ => by simp [eqB]
  | .tup xs, h => by simp only [eqB]; exact eqBs_refl xs (by simpa only [pln] using h)
  | .lst xs, h => by simp only [eqB]; exact eqBs_refl xs (by simpa only [pln] using h)
  | .tok _, h => by simp [pln] at h
  | .scr _, h => by simp [pln] at h
theorem eqBs_refl : ∀ (ds : List D), plns ds = true → eqBs ds ds = true
  | [], _ => by simp only [eqBs]
  | d :: ds, h => by
    simp only [plns, Bool.and_eq_true] at h
    simp only [eqBs, Bool.and_eq_true]
    exact ⟨eqB_refl d h.1, eqBs_refl ds h.2⟩
end
mutual
theorem RdV.pln {h : Heap} : ∀ (d : D) (u : Value), RdV h d u → pln d = true
  | .non, _, _ => by simp [RB.pln]
  | .bl _, _, _ => by simp [RB.pln]
  | .int _, _, _ => by simp [RB.pln]
  | .str _, _, _ => by simp [RB.pln]
  | .tup xs, u, p => by
    simp only [RdV] at p; obtain ⟨_, _, _, _, h2⟩ := p
    simp only [RB.pln]; exact RdVs.pln xs _ h2
  | .lst xs, u, p => by
    simp only [RdV] at p; obtain ⟨_, _, _, _, h2⟩ := p
    simp only [RB.pln]; exact RdVs.pln xs _ h2
  | .tok _, _, p => by simp only [RdV] at p
  | .scr _, _, p => by simp only [RdV] at p
theorem RdVs.pln {h : Heap} : ∀ (ds : List D) (us : List Value), RdVs h ds us → plns ds = true
  | [], _, _ => by simp [RB.plns]
  | d :: ds, us, p => by
    obtain ⟨u, r, rfl, h1, h2⟩ := RdVs.cons.mp p
    simp only [RB.plns, Bool.and_eq_true]
    exact ⟨RdV.pln d u h1, RdVs.pln ds r h2⟩
end
/-- the j-th pair -/
def prE (xs ys : List D) (j : Nat) : Bool := match xs[j]?, ys[j]? with
  | some x, some y => eqB x y
  | _, _ => false
theorem eqBs_eq : ∀ (xs ys : List D), ((List.range (min xs.length ys.length)).all (prE xs ys) && xs.length == ys.length) = eqBs xs ys
  | [], [] => by simp [eqBs]
  | [], y :: ys => by simp [eqBs]
  | x :: xs, [] => by simp [eqBs]
  | x :: xs, y :: ys => by
    have ih := eqBs_eq xs ys
    have e1 : min (x :: xs).length (y :: ys).length = min xs.length ys.length + 1 := by simp only [List.length_cons]; omega
    have e2 : ((x :: xs).length == (y :: ys).length) = (xs.length == ys.length) := by simp
    have e3 : (List.range (min xs.length ys.length + 1)).all (prE (x :: xs) (y :: ys)) = (eqB x y && (List.range (min xs.length ys.length)).all (prE xs ys)) := by
      rw [List.range_succ_eq_map, List.all_cons, List.all_map]
      first | rfl | simp [prE, Function.comp_def]
    rw [e1, e2, e3, eqBs, ← ih, Bool.and_assoc]
theorem eqBs_len {xs ys : List D} (h : xs.length = ys.length) : (List.range xs.length).all (prE xs ys) = eqBs xs ys := by
  have := eqBs_eq xs ys
  rw [← h, Nat.min_self] at this
  simpa using this
theorem eqBs_other {xs ys : List D} (h : xs.length ≠ ys.length) : eqBs xs ys = false := by
  rw [← eqBs_eq xs ys]
  simp [h]
theorem rm_here {u a b : Nat} (h : u + min (a + 1) (b + 1) < cLine) : u < cLine := by omega
open SeqAt in
mutual
theorem eqAtD : ∀ (d e : D) (A : Around) (s : Shared) (a b : Value), RdV s.heap d a → RdV s.heap e b → A.units + min (depB d) (depB e) < cLine → EqAt A s a b (eqB d e)
  | .non, e, A, s, a, b, ra, rb, hu => by
    simp only [RdV] at ra; subst ra
    have hu' : A.units < cLine := by omega
    cases e <;> simp only [RdV] at rb
    · subst rb; simp only [eqB]; exact EqAt.same _
    · subst rb; simp only [eqB]; exact EqAt.none_bool _
    · obtain ⟨t, rfl⟩ := rb; simp only [eqB]; exact EqAt.none_int _ t
    · obtain ⟨t, rfl⟩ := rb; simp only [eqB]; exact EqAt.none_str _ t
    · obtain ⟨l, its, rfl, h1, h2⟩ := rb; simp only [eqB]; exact EqAt.none_tuple h1 hu'
    · obtain ⟨l, its, rfl, h1, h2⟩ := rb; simp only [eqB]; exact EqAt.none_list h1 hu'
  | .bl x, e, A, s, a, b, ra, rb, hu => by
    simp only [RdV] at ra; subst ra
    have hu' : A.units < cLine := by omega
    cases e <;> simp only [RdV] at rb
    · subst rb; simp only [eqB]; exact EqAt.bool_none _
    · subst rb; simp only [eqB]; exact EqAt.bool_bool _ _
    · obtain ⟨t, rfl⟩ := rb; simp only [eqB]; exact EqAt.bool_int _ _ t
    · obtain ⟨t, rfl⟩ := rb; simp only [eqB]; exact EqAt.bool_str _ _ t
    · obtain ⟨l, its, rfl, h1, h2⟩ := rb; simp only [eqB]; exact EqAt.bool_tuple _ h1 hu'
    · obtain ⟨l, its, rfl, h1, h2⟩ := rb; simp only [eqB]; exact EqAt.bool_list _ h1 hu'
  | .int x, e, A, s, a, b, ra, rb, hu => by
    simp only [RdV] at ra; obtain ⟨t0, rfl⟩ := ra
    have hu' : A.units < cLine := by omega
    cases e <;> simp only [RdV] at rb
    · subst rb; simp only [eqB]; exact EqAt.int_none _ _
    · subst rb; simp only [eqB]; exact EqAt.int_bool _ _ _
    · obtain ⟨t, rfl⟩ := rb; simp only [eqB]; exact EqAt.int_int _ _ _ t
    · obtain ⟨t, rfl⟩ := rb; simp only [eqB]; exact EqAt.int_str _ _ _ t
    · obtain ⟨l, its, rfl, h1, h2⟩ := rb; simp only [eqB]; exact EqAt.int_tuple _ _ h1 hu'
    · obtain ⟨l, its, rfl, h1, h2⟩ := rb; simp only [eqB]; exact EqAt.int_list _ _ h1 hu'
  | .str x, e, A, s, a, b, ra, rb, hu => by
    simp only [RdV] at ra; obtain ⟨t0, rfl⟩ := ra
    have hu' : A.units < cLine := by omega
    cases e <;> simp only [RdV] at rb
    · subst rb; simp only [eqB]; exact EqAt.str_none _ _
    · subst rb; simp only [eqB]; exact EqAt.str_bool _ _ _
    · obtain ⟨t, rfl⟩ := rb; simp only [eqB]; exact EqAt.str_int _ _ _ t
    · obtain ⟨t, rfl⟩ := rb; simp only [eqB]; exact EqAt.str_str _ _ _ t
    · obtain ⟨l, its, rfl, h1, h2⟩ := rb; simp only [eqB]; exact EqAt.str_tuple _ _ h1 hu'
    · obtain ⟨l, its, rfl, h1, h2⟩ := rb; simp only [eqB]; exact EqAt.str_list _ _ h1 hu'
  | .lst xs, e, A, s, a, b, ra, rb, hu => by
    have hp := RdV.pln _ _ ra
    have ra' := ra
    simp only [RdV] at ra; obtain ⟨l0, its0, rfl, hl, h4⟩ := ra
    have hu' : A.units < cLine := by omega
    cases e <;> simp only [RdV] at rb
    · subst rb; simp only [eqB]; exact EqAt.list_none hl hu'
    · subst rb; simp only [eqB]; exact EqAt.list_bool _ hl hu'
    · obtain ⟨t, rfl⟩ := rb; simp only [eqB]; exact EqAt.list_int _ t hl hu'
    · obtain ⟨t, rfl⟩ := rb; simp only [eqB]; exact EqAt.list_str _ t hl hu'
    · obtain ⟨l, its, rfl, h1, h2⟩ := rb; simp only [eqB]; exact EqAt.list_tuple hl h1 hu'
    · rename_i ys
      obtain ⟨l, its, rfl, h1, h2⟩ := rb
      by_cases hll : l0 = l
      · subst hll
        have e : D.lst xs = D.lst ys := RdV.uniq _ _ _ ra' (by simp only [RdV]; exact ⟨_, _, rfl, h1, h2⟩)
        rw [← e, eqB_refl _ hp]
        exact EqAt.same _
      · have n1 : its0.size = xs.length := by have := h4.length; simpa using this.symm
        have n2 : its.size = ys.length := by have := h2.length; simpa using this.symm
        simp only [eqB]
        by_cases hsz : its0.size = its.size
        · rw [← eqBs_len (by omega : xs.length = ys.length), ← n1]
          refine EqAt.of_refs hll (RcAt.lists hl h1 hsz hu' fun j j1 j2 => ?_)
          have := eqAtDs xs ys A.in1 s its0.toList its.toList h4 h2 (by simp only [depB] at hu; show A.units + 1 + _ < _; omega) j (by simpa using j1) (by simpa using j2)
          simpa using this
        · rw [eqBs_other (by omega : xs.length ≠ ys.length)]
          exact EqAt.of_refs hll (RcAt.lists_lengths hl h1 (by simpa using hsz) hu')
  | .tup xs, e, A, s, a, b, ra, rb, hu => by
    have hp := RdV.pln _ _ ra
    have ra' := ra
    simp only [RdV] at ra; obtain ⟨l0, its0, rfl, hl, h4⟩ := ra
    have hu' : A.units < cLine := by omega
    cases e <;> simp only [RdV] at rb
    · subst rb; simp only [eqB]; exact EqAt.tuple_none hl hu'
    · subst rb; simp only [eqB]; exact EqAt.tuple_bool _ hl hu'
    · obtain ⟨t, rfl⟩ := rb; simp only [eqB]; exact EqAt.tuple_int _ t hl hu'
    · obtain ⟨t, rfl⟩ := rb; simp only [eqB]; exact EqAt.tuple_str _ t hl hu'
    · rename_i ys
      obtain ⟨l, its, rfl, h1, h2⟩ := rb
      by_cases hll : l0 = l
      · subst hll
        have e : D.tup xs = D.tup ys := RdV.uniq _ _ _ ra' (by simp only [RdV]; exact ⟨_, _, rfl, h1, h2⟩)
        rw [← e, eqB_refl _ hp]
        exact EqAt.same _
      · have n1 : its0.size = xs.length := by have := h4.length; simpa using this.symm
        have n2 : its.size = ys.length := by have := h2.length; simpa using this.symm
        simp only [eqB]
        rw [← eqBs_eq xs ys, ← n1, ← n2]
        refine EqAt.of_refs hll (RcAt.tuples hl h1 hu' fun j j1 j2 => ?_)
        have := eqAtDs xs ys A.in1 s its0.toList its.toList h4 h2 (by simp only [depB] at hu; show A.units + 1 + _ < _; omega) j (by simpa using j1) (by simpa using j2)
        simpa using this
    · obtain ⟨l, its, rfl, h1, h2⟩ := rb; simp only [eqB]; exact EqAt.tuple_list hl h1 hu'
  | .tok _, _, _, _, _, _, p, _, _ => by simp only [RdV] at p
  | .scr _, _, _, _, _, _, p, _, _ => by simp only [RdV] at p
theorem eqAtDs : ∀ (xs ys : List D) (A : Around) (s : Shared) (vs ws : List Value), RdVs s.heap xs vs → RdVs s.heap ys ws → A.units + min (depBs xs) (depBs ys) < cLine → ∀ j (h1 : j < vs.length) (h2 : j < ws.length), EqAt A s vs[j] ws[j] (prE xs ys j)
  | [], _, _, _, vs, _, ra, _, _, j, h1, _ => by have := RdVs.nil.mp ra; subst this; exact absurd h1 (Nat.not_lt_zero _)
  | _ :: _, [], _, _, _, ws, _, rb, _, j, _, h2 => by have := RdVs.nil.mp rb; subst this; exact absurd h2 (Nat.not_lt_zero _)
  | x :: xs, y :: ys, A, s, vs, ws, ra, rb, hu, j, h1, h2 => by
    obtain ⟨u, r, rfl, p1, p2⟩ := RdVs.cons.mp ra
    obtain ⟨u', r', rfl, q1, q2⟩ := RdVs.cons.mp rb
    simp only [depBs] at hu
    cases j with
    | zero => exact eqAtD x y A s _ _ p1 q1 (by omega)
    | succ j => exact eqAtDs xs ys A s _ _ p2 q2 (by omega) j (Nat.lt_of_succ_lt_succ h1) (Nat.lt_of_succ_lt_succ h2)
end
open SeqAt in
theorem rcAtD : ∀ (d e : D) (A : Around) (s : Shared) (a b : Value), RdV s.heap d a → RdV s.heap e b → A.units + min (depB d) (depB e) < cLine → RcAt A s a b (eqB d e)
  | .non, e, A, s, a, b, ra, rb, hu => by
    simp only [RdV] at ra; subst ra
    have hu' : A.units < cLine := by omega
    cases e <;> simp only [RdV] at rb
    · subst rb; simp only [eqB]; exact RcAt.none_none
    · subst rb; simp only [eqB]; exact RcAt.none_bool _
    · obtain ⟨t, rfl⟩ := rb; simp only [eqB]; exact RcAt.none_int _ t
    · obtain ⟨t, rfl⟩ := rb; simp only [eqB]; exact RcAt.none_str _ t
    · obtain ⟨l, its, rfl, h1, h2⟩ := rb; simp only [eqB]; exact RcAt.none_tuple h1 hu'
    · obtain ⟨l, its, rfl, h1, h2⟩ := rb; simp only [eqB]; exact RcAt.none_list h1 hu'
  | .bl x, e, A, s, a, b, ra, rb, hu => by
    simp only [RdV] at ra; subst ra
    have hu' : A.units < cLine := by omega
    cases e <;> simp only [RdV] at rb
    · subst rb; simp only [eqB]; exact RcAt.bool_none _
    · subst rb; simp only [eqB]; exact RcAt.bool_bool _ _
    · obtain ⟨t, rfl⟩ := rb; simp only [eqB]; exact RcAt.bool_int _ _ t
    · obtain ⟨t, rfl⟩ := rb; simp only [eqB]; exact RcAt.bool_str _ _ t
    · obtain ⟨l, its, rfl, h1, h2⟩ := rb; simp only [eqB]; exact RcAt.bool_tuple _ h1 hu'
    · obtain ⟨l, its, rfl, h1, h2⟩ := rb; simp only [eqB]; exact RcAt.bool_list _ h1 hu'
  | .int x, e, A, s, a, b, ra, rb, hu => by
    simp only [RdV] at ra; obtain ⟨t0, rfl⟩ := ra
    have hu' : A.units < cLine := by omega
    cases e <;> simp only [RdV] at rb
    · subst rb; simp only [eqB]; exact RcAt.int_none _ _
    · subst rb; simp only [eqB]; exact RcAt.int_bool _ _ _
    · obtain ⟨t, rfl⟩ := rb; simp only [eqB]; exact RcAt.int_int _ _ _ t
    · obtain ⟨t, rfl⟩ := rb; simp only [eqB]; exact RcAt.int_str _ _ _ t
    · obtain ⟨l, its, rfl, h1, h2⟩ := rb; simp only [eqB]; exact RcAt.int_tuple _ _ h1 hu'
    · obtain ⟨l, its, rfl, h1, h2⟩ := rb; simp only [eqB]; exact RcAt.int_list _ _ h1 hu'
  | .str x, e, A, s, a, b, ra, rb, hu => by
    simp only [RdV] at ra; obtain ⟨t0, rfl⟩ := ra
    have hu' : A.units < cLine := by omega
    cases e <;> simp only [RdV] at rb
    · subst rb; simp only [eqB]; exact RcAt.str_none _ _
    · subst rb; simp only [eqB]; exact RcAt.str_bool _ _ _
    · obtain ⟨t, rfl⟩ := rb; simp only [eqB]; exact RcAt.str_int _ _ _ t
    · obtain ⟨t, rfl⟩ := rb; simp only [eqB]; exact RcAt.str_str _ _ _ t
    · obtain ⟨l, its, rfl, h1, h2⟩ := rb; simp only [eqB]; exact RcAt.str_tuple _ _ h1 hu'
    · obtain ⟨l, its, rfl, h1, h2⟩ := rb; simp only [eqB]; exact RcAt.str_list _ _ h1 hu'
  | .lst xs, e, A, s, a, b, ra, rb, hu => by
    have hp := RdV.pln _ _ ra
    have ra' := ra
    simp only [RdV] at ra; obtain ⟨l0, its0, rfl, hl, h4⟩ := ra
    have hu' : A.units < cLine := by omega
    cases e <;> simp only [RdV] at rb
    · subst rb; simp only [eqB]; exact RcAt.list_none hl hu'
    · subst rb; simp only [eqB]; exact RcAt.list_bool _ hl hu'
    · obtain ⟨t, rfl⟩ := rb; simp only [eqB]; exact RcAt.list_int _ t hl hu'
    · obtain ⟨t, rfl⟩ := rb; simp only [eqB]; exact RcAt.list_str _ t hl hu'
    · obtain ⟨l, its, rfl, h1, h2⟩ := rb; simp only [eqB]; exact RcAt.list_tuple hl h1 hu'
    · rename_i ys
      obtain ⟨l, its, rfl, h1, h2⟩ := rb
      first | skip
      · have n1 : its0.size = xs.length := by have := h4.length; simpa using this.symm
        have n2 : its.size = ys.length := by have := h2.length; simpa using this.symm
        simp only [eqB]
        by_cases hsz : its0.size = its.size
        · rw [← eqBs_len (by omega : xs.length = ys.length), ← n1]
          refine (RcAt.lists hl h1 hsz hu' fun j j1 j2 => ?_)
          have := eqAtDs xs ys A.in1 s its0.toList its.toList h4 h2 (by simp only [depB] at hu; show A.units + 1 + _ < _; omega) j (by simpa using j1) (by simpa using j2)
          simpa using this
        · rw [eqBs_other (by omega : xs.length ≠ ys.length)]
          exact (RcAt.lists_lengths hl h1 (by simpa using hsz) hu')
  | .tup xs, e, A, s, a, b, ra, rb, hu => by
    have hp := RdV.pln _ _ ra
    have ra' := ra
    simp only [RdV] at ra; obtain ⟨l0, its0, rfl, hl, h4⟩ := ra
    have hu' : A.units < cLine := by omega
    cases e <;> simp only [RdV] at rb
    · subst rb; simp only [eqB]; exact RcAt.tuple_none hl hu'
    · subst rb; simp only [eqB]; exact RcAt.tuple_bool _ hl hu'
    · obtain ⟨t, rfl⟩ := rb; simp only [eqB]; exact RcAt.tuple_int _ t hl hu'
    · obtain ⟨t, rfl⟩ := rb; simp only [eqB]; exact RcAt.tuple_str _ t hl hu'
    · rename_i ys
      obtain ⟨l, its, rfl, h1, h2⟩ := rb
      first | skip
      · have n1 : its0.size = xs.length := by have := h4.length; simpa using this.symm
        have n2 : its.size = ys.length := by have := h2.length; simpa using this.symm
        simp only [eqB]
        rw [← eqBs_eq xs ys, ← n1, ← n2]
        refine (RcAt.tuples hl h1 hu' fun j j1 j2 => ?_)
        have := eqAtDs xs ys A.in1 s its0.toList its.toList h4 h2 (by simp only [depB] at hu; show A.units + 1 + _ < _; omega) j (by simpa using j1) (by simpa using j2)
        simpa using this
    · obtain ⟨l, its, rfl, h1, h2⟩ := rb; simp only [eqB]; exact RcAt.tuple_list hl h1 hu'
  | .tok _, _, _, _, _, _, p, _, _ => by simp only [RdV] at p
  | .scr _, _, _, _, _, _, p, _, _ => by simp only [RdV] at p
open SeqAt in
theorem rcNeAtD : ∀ (d e : D) (A : Around) (s : Shared) (a b : Value), RdV s.heap d a → RdV s.heap e b → A.units + min (depB d) (depB e) < cLine → RcNeAt A s a b (!eqB d e)
  | .non, e, A, s, a, b, ra, rb, hu => by
    simp only [RdV] at ra; subst ra
    have hu' : A.units < cLine := by omega
    cases e <;> simp only [RdV] at rb
    · subst rb; simp only [eqB]; exact RcNeAt.none_none
    · subst rb; simp only [eqB]; exact RcNeAt.none_bool _
    · obtain ⟨t, rfl⟩ := rb; simp only [eqB]; exact RcNeAt.none_int _ t
    · obtain ⟨t, rfl⟩ := rb; simp only [eqB]; exact RcNeAt.none_str _ t
    · obtain ⟨l, its, rfl, h1, h2⟩ := rb; simp only [eqB]; exact RcNeAt.none_tuple h1 hu'
    · obtain ⟨l, its, rfl, h1, h2⟩ := rb; simp only [eqB]; exact RcNeAt.none_list h1 hu'
  | .bl x, e, A, s, a, b, ra, rb, hu => by
    simp only [RdV] at ra; subst ra
    have hu' : A.units < cLine := by omega
    cases e <;> simp only [RdV] at rb
    · subst rb; simp only [eqB]; exact RcNeAt.bool_none _
    · subst rb; simp only [eqB]; exact RcNeAt.bool_bool _ _
    · obtain ⟨t, rfl⟩ := rb; simp only [eqB]; exact RcNeAt.bool_int _ _ t
    · obtain ⟨t, rfl⟩ := rb; simp only [eqB]; exact RcNeAt.bool_str _ _ t
    · obtain ⟨l, its, rfl, h1, h2⟩ := rb; simp only [eqB]; exact RcNeAt.bool_tuple _ h1 hu'
    · obtain ⟨l, its, rfl, h1, h2⟩ := rb; simp only [eqB]; exact RcNeAt.bool_list _ h1 hu'
  | .int x, e, A, s, a, b, ra, rb, hu => by
    simp only [RdV] at ra; obtain ⟨t0, rfl⟩ := ra
    have hu' : A.units < cLine := by omega
    cases e <;> simp only [RdV] at rb
    · subst rb; simp only [eqB]; exact RcNeAt.int_none _ _
    · subst rb; simp only [eqB]; exact RcNeAt.int_bool _ _ _
    · obtain ⟨t, rfl⟩ := rb; simp only [eqB]; exact RcNeAt.int_int _ _ _ t
    · obtain ⟨t, rfl⟩ := rb; simp only [eqB]; exact RcNeAt.int_str _ _ _ t
    · obtain ⟨l, its, rfl, h1, h2⟩ := rb; simp only [eqB]; exact RcNeAt.int_tuple _ _ h1 hu'
    · obtain ⟨l, its, rfl, h1, h2⟩ := rb; simp only [eqB]; exact RcNeAt.int_list _ _ h1 hu'
  | .str x, e, A, s, a, b, ra, rb, hu => by
    simp only [RdV] at ra; obtain ⟨t0, rfl⟩ := ra
    have hu' : A.units < cLine := by omega
    cases e <;> simp only [RdV] at rb
    · subst rb; simp only [eqB]; exact RcNeAt.str_none _ _
    · subst rb; simp only [eqB]; exact RcNeAt.str_bool _ _ _
    · obtain ⟨t, rfl⟩ := rb; simp only [eqB]; exact RcNeAt.str_int _ _ _ t
    · obtain ⟨t, rfl⟩ := rb; simp only [eqB]; exact RcNeAt.str_str _ _ _ t
    · obtain ⟨l, its, rfl, h1, h2⟩ := rb; simp only [eqB]; exact RcNeAt.str_tuple _ _ h1 hu'
    · obtain ⟨l, its, rfl, h1, h2⟩ := rb; simp only [eqB]; exact RcNeAt.str_list _ _ h1 hu'
  | .lst xs, e, A, s, a, b, ra, rb, hu => by
    have hp := RdV.pln _ _ ra
    have ra' := ra
    simp only [RdV] at ra; obtain ⟨l0, its0, rfl, hl, h4⟩ := ra
    have hu' : A.units < cLine := by omega
    cases e <;> simp only [RdV] at rb
    · subst rb; simp only [eqB]; exact RcNeAt.list_none hl hu'
    · subst rb; simp only [eqB]; exact RcNeAt.list_bool _ hl hu'
    · obtain ⟨t, rfl⟩ := rb; simp only [eqB]; exact RcNeAt.list_int _ t hl hu'
    · obtain ⟨t, rfl⟩ := rb; simp only [eqB]; exact RcNeAt.list_str _ t hl hu'
    · obtain ⟨l, its, rfl, h1, h2⟩ := rb; simp only [eqB]; exact RcNeAt.list_tuple hl h1 hu'
    · rename_i ys
      obtain ⟨l, its, rfl, h1, h2⟩ := rb
      first | skip
      · have n1 : its0.size = xs.length := by have := h4.length; simpa using this.symm
        have n2 : its.size = ys.length := by have := h2.length; simpa using this.symm
        simp only [eqB]
        by_cases hsz : its0.size = its.size
        · rw [← eqBs_len (by omega : xs.length = ys.length), ← n1]
          refine (RcNeAt.lists hl h1 hsz hu' fun j j1 j2 => ?_)
          have := eqAtDs xs ys A.in1 s its0.toList its.toList h4 h2 (by simp only [depB] at hu; show A.units + 1 + _ < _; omega) j (by simpa using j1) (by simpa using j2)
          simpa using this
        · rw [eqBs_other (by omega : xs.length ≠ ys.length)]
          exact (RcNeAt.lists_lengths hl h1 (by simpa using hsz) hu')
  | .tup xs, e, A, s, a, b, ra, rb, hu => by
    have hp := RdV.pln _ _ ra
    have ra' := ra
    simp only [RdV] at ra; obtain ⟨l0, its0, rfl, hl, h4⟩ := ra
    have hu' : A.units < cLine := by omega
    cases e <;> simp only [RdV] at rb
    · subst rb; simp only [eqB]; exact RcNeAt.tuple_none hl hu'
    · subst rb; simp only [eqB]; exact RcNeAt.tuple_bool _ hl hu'
    · obtain ⟨t, rfl⟩ := rb; simp only [eqB]; exact RcNeAt.tuple_int _ t hl hu'
    · obtain ⟨t, rfl⟩ := rb; simp only [eqB]; exact RcNeAt.tuple_str _ t hl hu'
    · rename_i ys
      obtain ⟨l, its, rfl, h1, h2⟩ := rb
      first | skip
      · have n1 : its0.size = xs.length := by have := h4.length; simpa using this.symm
        have n2 : its.size = ys.length := by have := h2.length; simpa using this.symm
        simp only [eqB]
        rw [← eqBs_eq xs ys, ← n1, ← n2]
        refine (RcNeAt.tuples hl h1 hu' fun j j1 j2 => ?_)
        have := eqAtDs xs ys A.in1 s its0.toList its.toList h4 h2 (by simp only [depB] at hu; show A.units + 1 + _ < _; omega) j (by simpa using j1) (by simpa using j2)
        simpa using this
    · obtain ⟨l, its, rfl, h1, h2⟩ := rb; simp only [eqB]; exact RcNeAt.tuple_list hl h1 hu'
  | .tok _, _, _, _, _, _, p, _, _ => by simp only [RdV] at p
  | .scr _, _, _, _, _, _, p, _, _ => by simp only [RdV] at p

mutual
/-- whether the one is ahead; none where Python does not say -/
def ltB : D → D → Option Bool
  | .int i, .int j => some (decide (i < j))
  | .str x, .str y => some (decide (x.cps.toList < y.cps.toList))
  | .tup xs, .tup ys => ltBs xs ys
  | _, _ => none
def ltBs : List D → List D → Option Bool
  | [], [] => some false
  | [], _ :: _ => some true
  | _ :: _, [] => some false
  | x :: xs, y :: ys => if eqB x y then ltBs xs ys else ltB x y
end
/-- the comparison's answer -/
def RcLt (A : Around) (s : Shared) (y x : Value) (b : Bool) : Prop :=
  ∀ (prog : Program) (w : World) (E : Value → Shared → Prop) (Q : Value → Shared → Prop), Q (.bool b) s → wpAny (model prog w) A (richCompare .Lt y x) Q E s
section
open PySem.SeqAt
open PySem.AutoSeq1 (wpAny_loadPart')
open PySem.MeetsSeq PySem.MeetsSeq2 PySem.MeetsSeq3
theorem tuple_ltAt (l b : Addr) (items items2 : Array Value) (n n2 : Nat) (dd dd2 : Option Addr) (sl sl2 : Array (Option Value)) (xs ys : List D) (r : Bool) (hr : ltBs xs ys = some r) (hx : xs.length = items.size) (hy : ys.length = items2.size) :
    Meets (Builtin.«tuple.__lt__» ⟨[.ref l, .ref b], []⟩)
      (fun A R s => s.heap.get? l = some { cls := .type "tuple", dict := dd, data := .seq items n, slots := sl } ∧ s.heap.get? b = some { cls := .type "tuple", dict := dd2, data := .seq items2 n2, slots := sl2 } ∧
        (∀ j (h1 : j < items.toList.length) (h2 : j < items2.toList.length), EqAt A.in1 s items.toList[j] items2.toList[j] (prE xs ys j)) ∧
        (∀ j (h1 : j < items.toList.length) (h2 : j < items2.toList.length) x y q, xs[j]? = some x → ys[j]? = some y → ltB x y = some q → RcLt A.in1 s items.toList[j] items2.toList[j] q) ∧
        R (.ok (.ret (.bool r))) s) :=
  .of_wp fun prog w A R s h => by
    obtain ⟨hp, g, d, tk, os⟩ := s; obtain ⟨hl, hb, hE, hL, h⟩ := h
    have f2 := AutoSeq1.sub_tuple_tuple
    have z1 : items.toList.length = items.size := by simp
    have z2 : items2.toList.length = items2.size := by simp
    wp_walk using wpAny_loadPart' hl, wpAny_loadPart' hb, wpAny_forIn_list _ (fun rest b s' => b.1 = none ∧ s' = ⟨hp, g, d, tk, os⟩ ∧ ∃ (i : Nat), rest = (items.toList.zip items2.toList).drop i ∧ i ≤ items.size ∧ i ≤ items2.size ∧
      ltBs (xs.drop i) (ys.drop i) = some r) _
    case turn =>
      rintro ⟨y, x⟩ rest b s' ⟨hb', rfl, i, hz, hi1, hi2, hlt⟩
      have hlen : i < (items.toList.zip items2.toList).length := by
        have := congrArg List.length hz
        simp only [List.length_cons, List.length_drop] at this
        omega
      have l1 : i < items.toList.length := by rw [List.length_zip] at hlen; omega
      have l2 : i < items2.toList.length := by rw [List.length_zip] at hlen; omega
      rw [List.drop_eq_getElem_cons hlen, List.getElem_zip] at hz
      injection hz with hyx hrest
      injection hyx with hy' hx'
      subst hy' hx'
      have k1 : i < xs.length := by omega
      have k2 : i < ys.length := by omega
      rw [List.drop_eq_getElem_cons k1, List.drop_eq_getElem_cons k2, ltBs] at hlt
      have he := hE i l1 l2
      have hpr : prE xs ys i = eqB xs[i] ys[i] := by unfold prE; rw [List.getElem?_eq_getElem k1, List.getElem?_eq_getElem k2]
      rw [hpr] at he
      refine wpAny_bind (he prog w _ _ ?_)
      cases e : eqB xs[i] ys[i] with
      | true =>
        rw [e, if_pos rfl] at hlt
        wp_walk
        exact ⟨rfl, rfl, i + 1, hrest, by omega, by omega, hlt⟩
      | false =>
        rw [e, if_neg Bool.false_ne_true] at hlt
        have hri := hL i l1 l2 _ _ _ (List.getElem?_eq_getElem k1) (List.getElem?_eq_getElem k2) hlt prog w
        wp_walk using hri
        exact ⟨_, rfl, by simpa using h⟩
    case fin =>
      rintro ⟨b1, b2⟩ s' ⟨hb', rfl, i, hz, hi1, hi2, hlt⟩
      simp only at hb'
      subst hb'
      have hlen : (items.toList.zip items2.toList).length ≤ i := by
        have := congrArg List.length hz
        simp only [List.length_nil, List.length_drop] at this
        omega
      have hv : r = decide (items.size < items2.size) := by
        rw [List.length_zip] at hlen
        by_cases e1 : i = items.size
        · by_cases e2 : i = items2.size
          · rw [List.drop_of_length_le (by omega), List.drop_of_length_le (by omega), ltBs] at hlt
            cases hlt
            exact (decide_eq_false (by omega)).symm
          · have k2 : i < ys.length := by omega
            rw [List.drop_of_length_le (show xs.length ≤ i by omega), List.drop_eq_getElem_cons k2, ltBs] at hlt
            cases hlt
            exact (decide_eq_true (by omega)).symm
        · have k1 : i < xs.length := by omega
          have e2 : i = items2.size := by omega
          rw [List.drop_eq_getElem_cons k1, List.drop_of_length_le (show ys.length ≤ i by omega), ltBs] at hlt
          cases hlt
          exact (decide_eq_false (by omega)).symm
      rw [hv] at h
      wp_walk
      exact ⟨_, rfl, by simpa [Builtin.Tuple.tupleCompareSizes] using h⟩
    case h =>
      exact ⟨rfl, rfl, 0, by simp, Nat.zero_le _, Nat.zero_le _, by simpa using hr⟩
end
theorem RdVs.get {h : Heap} : ∀ {ds : List D} {us : List Value} {i : Nat} {u : Value} {d : D}, RdVs h ds us → us[i]? = some u → ds[i]? = some d → RdV h d u
  | [], us, i, u, d, q, e, f => by simp at f
  | x :: xs, us, i, u, d, q, e, f => by
    obtain ⟨v, r, rfl, h1, h2⟩ := RdVs.cons.mp q
    cases i with
    | zero => simp at e f; subst e; subst f; exact h1
    | succ i => exact RdVs.get (i := i) h2 (by simpa using e) (by simpa using f)
theorem depBs_get : ∀ {xs : List D} {i : Nat} {x : D}, xs[i]? = some x → depB x ≤ depBs xs
  | [], _, _, h => by simp at h
  | y :: ys, 0, x, h => by simp at h; subst h; simp only [depBs]; exact Nat.le_max_left _ _
  | y :: ys, i + 1, x, h => by simp only [depBs]; exact Nat.le_trans (depBs_get (i := i) (by simpa using h)) (Nat.le_max_right _ _)
theorem rcLtD_aux : ∀ (n : Nat) (d e : D) (r : Bool) (A : Around) (s : Shared) (a b : Value), depB d ≤ n → RdV s.heap d a → RdV s.heap e b → A.units + min (depB d) (depB e) < cLine → ltB d e = some r → RcLt A s a b r
  | n, d, e, r, A, s, a, b, hn, ra, rb, hu, hr => by
    cases d <;> cases e <;> simp only [ltB] at hr <;> try (cases hr; done)
    · rename_i i j
      simp only [RdV] at ra rb
      obtain ⟨t, rfl⟩ := ra
      obtain ⟨t', rfl⟩ := rb
      cases hr
      exact fun prog w E Q h => HT.rcLt_int A s i t j t' prog w E Q h
    · rename_i i j
      simp only [RdV] at ra rb
      obtain ⟨t, rfl⟩ := ra
      obtain ⟨t', rfl⟩ := rb
      cases hr
      exact fun prog w E Q h => (PySem.P.lt_str h : wpAny (model prog w) A (compareOp .Lt _ _) Q E s)
    · rename_i xs ys
      simp only [RdV] at ra rb
      obtain ⟨l, items, rfl, hl, h2⟩ := ra
      obtain ⟨l', items2, rfl, hl', h2'⟩ := rb
      have hu' : A.units < cLine := by omega
      simp only [depB] at hu hn
      match n, hn with
      | n + 1, hn =>
      refine fun prog w E Q h => ?_
      have z1 : xs.length = items.size := by have := h2.length; simpa using this
      have z2 : ys.length = items2.size := by have := h2'.length; simpa using this
      obtain ⟨⟨cls, dd, data, sl⟩, ho, hc, n1, hd⟩ := id hl
      obtain ⟨⟨cls2, dd2, data2, sl2⟩, ho2, hc2, n2, hd2⟩ := id hl'
      simp only at hc hd hc2 hd2
      subst hc hd hc2 hd2
      have hE := eqAtDs xs ys A.in1.in1 s items.toList items2.toList h2 h2'
      refine richCompare_meets_room (op := .Lt) ⟨_, ho, rfl⟩ ⟨_, ho2, rfl⟩ PySem.F.slot_tuple_lt PySem.F.entry_tuple_lt (PySem.F.args_tuple_lt_2 _ _) (tuple_ltAt l l' items items2 n1 n2 dd dd2 sl sl2 xs ys r hr z1 z2)
        ⟨ho, ho2, fun j h1 h2j => ?_, fun j h1 h2j x y q ex ey hq => ?_, show Value.bool r ≠ Value.notImplemented ∧ Q (.bool r) s from ⟨(fun x => nomatch x), h⟩⟩ hu'
      · exact eqAtDs xs ys _ s items.toList items2.toList h2 h2' (by first | (show A.units + 1 + _ < _; omega) | (show A.units + 1 + 1 + _ < _; omega)) j h1 h2j
      · have d1 := depBs_get ex
        have d2 := depBs_get ey
        exact rcLtD_aux n x y q _ s _ _ (by omega) (RdVs.get h2 (List.getElem?_eq_getElem h1) ex) (RdVs.get h2' (List.getElem?_eq_getElem h2j) ey) (by first | (show A.units + 1 + _ < _; omega) | (show A.units + 1 + 1 + _ < _; omega)) hq
theorem rcLtD (d e : D) (r : Bool) (A : Around) (s : Shared) (a b : Value) (ra : RdV s.heap d a) (rb : RdV s.heap e b) (hu : A.units + min (depB d) (depB e) < cLine) (h : ltB d e = some r) : RcLt A s a b r := rcLtD_aux (depB d) d e r A s a b (Nat.le_refl _) ra rb hu h
end RB

namespace RB
open PySem PySem.Spec PyProof.Rows L2
variable {G : Type}

def dVar (i : Nat) : EDen G := fun s => match s.fr[i]? with
  | some (some (.dat d)) => .ok (.dat d) s
  | some (some (.own _)) => .ok (.pk i) s
  | _ => .bad
def dC (d : D) : EDen G := fun s => .ok (.dat d) s
def visB (ce : CE) (i : Nat) (x : Str) : Bool := decide (ce.N[i]? = some x) && (decide (ce.sc.names.lookup x = some .local) || decide (ce.sc.names.lookup x = some .cell) || decide (ce.sc.names.lookup x = some .free)) &&
  !(x == ("__debug__" : Str)) && !(x == ("__classdict__" : Str))
def eVar (i : Nat) : EI G where
  chk := fun ce e => match e with
    | .Name x _ => visB ce i x
    | _ => false
  den := dVar i
  need := fun _ _ => True
  ok := fun L lv X ce e hX _ h => by
    cases e <;> try (exact absurd h Bool.false_ne_true)
    rename_i x pos
    simp only [visB, Bool.and_eq_true, decide_eq_true_eq, Bool.or_eq_true, Bool.not_eq_true'] at h
    obtain ⟨⟨⟨h1, h2⟩, h3⟩, h4⟩ := h
    refine (pe_var (i := i) (by rw [hX.N]; exact h1) (by unfold Vis; rw [hX.sc]; rcases h2 with (h2 | h2) | h2; exact .inl h2; exact .inr (.inl h2); exact .inr (.inr h2)) h3 h4).imp fun σ H Q ⟨B0, H0, θ0, B, θ, s, so, q⟩ => ?_
    unfold dVar at q
    split at q
    · rename_i d e
      obtain ⟨v, e1, e2⟩ := so.sl i _ e
      exact ⟨v, e1, q v H B θ so .refl e2 trivial⟩
    · rename_i xs e
      obtain ⟨v, e1, e2⟩ := so.sl i _ e
      exact ⟨v, e1, q v H B θ so .refl ⟨e1, xs, e⟩ trivial⟩
    · exact q.elim
theorem tC_of {L : Law G} {v : V} {d : D} (h : ∀ K θ B, Rep K θ B d v) : ∀ σ H Q, tD L (dC d) σ H Q → tC v σ H Q := fun σ H Q ⟨B0, H0, θ0, B, θ, s, so, q⟩ => q v H B θ so .refl (h _ _ _) trivial
def eInt (i : Int) : EI G where
  chk := fun _ e => match e with
    | .Constant (.int j) _ _ => decide (j = i)
    | _ => false
  den := dC (.int i)
  need := fun _ _ => True
  ok := fun L lv X ce e hX _ h => by
    cases e <;> try (exact absurd h Bool.false_ne_true)
    rename_i c k pos
    cases c <;> try (exact absurd h Bool.false_ne_true)
    cases of_decide_eq_true h
    exact pe_int.imp (tC_of fun _ _ _ => by simp only [Rep])
def eBl (b : Bool) : EI G where
  chk := fun _ e => match e with
    | .Constant (.bool j) _ _ => decide (j = b)
    | _ => false
  den := dC (.bl b)
  need := fun _ _ => True
  ok := fun L lv X ce e hX _ h => by
    cases e <;> try (exact absurd h Bool.false_ne_true)
    rename_i c k pos
    cases c <;> try (exact absurd h Bool.false_ne_true)
    cases of_decide_eq_true h
    exact pe_bl.imp (tC_of fun _ _ _ => by simp only [Rep])
def eNon : EI G where
  chk := fun _ e => match e with
    | .Constant .none _ _ => true
    | _ => false
  den := dC .non
  need := fun _ _ => True
  ok := fun L lv X ce e hX _ h => by
    cases e <;> try (exact absurd h Bool.false_ne_true)
    rename_i c k pos
    cases c <;> try (exact absurd h Bool.false_ne_true)
    exact pe_non.imp (tC_of fun _ _ _ => by simp only [Rep])
def eStr (x : Str) : EI G where
  chk := fun _ e => match e with
    | .Constant (.str j) _ _ => decide (j = x)
    | _ => false
  den := dC (.str x)
  need := fun _ _ => True
  ok := fun L lv X ce e hX _ h => by
    cases e <;> try (exact absurd h Bool.false_ne_true)
    rename_i c k pos
    cases c <;> try (exact absurd h Bool.false_ne_true)
    cases of_decide_eq_true h
    exact pe_str.imp (tC_of fun _ _ _ => by simp only [Rep])
/-- a global name of the module that is not a builtin's -/
def glB (ce : CE) (x : Str) : Bool := decide (ce.sc.names.lookup x = some .globalImplicit) && !(x == ("__debug__" : Str))
theorem glB_ok {L : Law G} {X : Cx} {ce : CE} {lv : Nat} {x : Str} (hX : Ok L X ce lv) (h : glB ce x = true) : Gl X x ∧ (x == ("__debug__" : Str)) = false := by
  simp only [glB, Bool.and_eq_true, decide_eq_true_eq, Bool.not_eq_true'] at h
  exact ⟨by unfold Gl Env.kindOf; rw [hX.sc]; exact h.1, h.2⟩
/-- a constant of the module: data of the written part -/
def GlobAt (L : Law G) (x : Str) (d : D) : Prop := ∃ v u, L.mg x = some u ∧ RelV v u ∧ Rep L.K [] (fun _ => none) d v
def eGlob (x : Str) (d : D) : EI G where
  chk := fun ce e => match e with
    | .Name y _ => decide (y = x) && glB ce x
    | _ => false
  den := dC d
  need := fun L _ => GlobAt L x d
  ok := fun L lv X ce e hX hn h => by
    cases e <;> try (exact absurd h Bool.false_ne_true)
    rename_i y pos
    simp only [Bool.and_eq_true, decide_eq_true_eq] at h
    obtain ⟨rfl, h⟩ := h
    obtain ⟨g1, g2⟩ := glB_ok hX h
    obtain ⟨v, u, m, r, rep⟩ := hn
    refine (pe_glob g1 (by rw [hX.mg]; exact m) r g2).imp fun σ H Q ⟨B0, H0, θ0, B, θ, s, so, q⟩ => ?_
    exact q v H B θ so .refl (Rep.mono (show Same (fun _ => none) B from fun _ _ z => nomatch z) ⟨θ, rfl⟩ d v rep) trivial

/-- an operation on two data: what its value is -/
def Prim2 (r : PySem.W.Frag → R2) (op : D → D → Option Vl) : Prop :=
  ∀ {G : Type} {L : Law G} {B0 H0 : Hp} {θ0 : TT'} {B H : Hp} {θ : TT'} {σ : Sg} {s : Stt G} {d1 d2 : D} {x y : V} {v : Vl} {Q : VK}, SO L B0 H0 θ0 B H θ σ s.fr s.g → Rep L.K θ B d1 x → Rep L.K θ B d2 y → op d1 d2 = some v →
    (∀ z H' B', SO L B0 H0 θ0 B' H' θ σ s.fr s.g → Stp σ s.fr s.fr θ θ B B' H H' → ValOk L.K H0 B' H' θ σ s.fr v z → FreshV H v z → Q z H') → r L.K x y H Q
def opt (o : Option α) (s : σ) : Out σ α := match o with
  | some v => .ok v s
  | none => .bad
theorem opt_sat {α σ : Type} {o : Option α} {s : σ} {P : α → σ → Prop} {E : Ex → σ → Prop} (h : (opt o s).sat P E) : ∃ v, o = some v ∧ P v s := by
  cases o with
  | none => exact h.elim
  | some v => exact ⟨v, rfl, h⟩
def dBin (op : D → D → Option Vl) (a b : EDen G) : EDen G := fun s => (eD a s).bind fun x s => (eD b s).bind fun y s => opt (op x y) s
theorem bin_imp {L : Law G} {r : PySem.W.Frag → R2} {op : D → D → Option Vl} (hp : Prim2 r op) (a b : EDen G) : ∀ σ H Q, tD L (dBin op a b) σ H Q → tOp (r L.K) (tD L a) (tD L b) σ H Q := by
  rintro σ H Q ⟨B0, H0, θ0, B, θ, s, so, q⟩
  refine tD_runD so q fun d1 s1 x H1 B1 θ1 q1 so1 st1 r1 => ?_
  refine tD_runD so1 q1 fun d2 s2 y H2 B2 θ2 q2 so2 st2 r2 => ?_
  obtain ⟨v, e, q3⟩ := opt_sat q2
  exact hp so2 (Rep.mono st2.same st2.pre _ _ r1) r2 e fun z H' B' so3 st3 vo fv => q3 z H' B' θ2 so3 ((st1.trans st2).trans st3) vo (fv.lift (st1.trans st2).ex)

section
variable {L : Law G} {B0 H0 B H : Hp} {θ0 θ : TT'} {σ : Sg} {fr : Fr} {g : G}
theorem stp_laid {p : Addr} {o : HO} (hp : H p = none) : Stp σ fr fr θ θ B B H (upd H p o) :=
  ⟨fun _ _ h => h, List.prefix_refl _, fun a u h _ _ => same_upd hp a u h, fun _ h => h, fun _ h n => absurd h n, fun a h z => by
    by_cases e : a = p
    · subst e; exact h hp
    · rw [upd_ne e] at z; exact h z, fun _ h _ _ => h⟩
theorem stp_new {p : Addr} {o : HO} (hb : B p = none) (hp : H p = none) : Stp σ fr fr θ θ B (upd B p o) H (upd H p o) :=
  ⟨same_upd hb, List.prefix_refl _, fun a u h _ _ => same_upd hp a u h, fun _ h => h, fun _ h n => absurd h n, fun a h z => by
    by_cases e : a = p
    · subst e; exact h hp
    · rw [upd_ne e] at z; exact h z, fun a h1 h2 _ => by
    have z : a ≠ p := fun z => by subst z; exact h2 hp
    rw [upd_ne z]; exact h1⟩
/-- a new tuple -/
theorem new_tup (so : SO L B0 H0 θ0 B H θ σ fr g) {p : Addr} (hp : H p = none) {xs : List D} {vs : List V} (hr : Reps L.K θ B xs vs) :
    SO L B0 H0 θ0 (upd B p (.tup vs)) (upd H p (.tup vs)) θ σ fr g ∧ Stp σ fr fr θ θ B (upd B p (.tup vs)) H (upd H p (.tup vs)) ∧ Rep L.K θ (upd B p (.tup vs)) (.tup xs) (.ref p) := by
  obtain ⟨h0, hb, ht⟩ := so.core.fresh0 hp
  refine ⟨so.new hp _, stp_new hb hp, ?_⟩
  simp only [Rep]
  exact ⟨p, vs, rfl, .inl (.inl upd_same), Reps.mono (same_upd hb) (List.prefix_refl _) _ _ hr⟩
/-- a new list, ours -/
theorem new_lst (so : SO L B0 H0 θ0 B H θ σ fr g) {p : Addr} (hp : H p = none) {xs : List D} {vs : List V} (hr : Reps L.K θ B xs vs) :
    SO L B0 H0 θ0 B (upd H p (.lst vs)) θ σ fr g ∧ Stp σ fr fr θ θ B B H (upd H p (.lst vs)) ∧ ValOk L.K H0 B (upd H p (.lst vs)) θ σ fr (.own xs) (.ref p) ∧ FreshV H (.own xs) (.ref p) := by
  obtain ⟨h0, hb, ht⟩ := so.core.fresh0 hp
  refine ⟨so.laid hp _, stp_laid hp, ⟨p, rfl, ⟨hb, h0, ht, vs, upd_same, hr⟩, ?_⟩, fun a e => by cases e; exact hp⟩
  rintro ⟨i, ys, e1, e2⟩
  obtain ⟨v, e3, e4⟩ := so.sl i _ e1
  rw [e2] at e3; cases e3
  obtain ⟨a, e5, o⟩ := e4
  cases e5
  obtain ⟨ws, e6, _⟩ := o.ex
  rw [hp] at e6; cases e6
end

def valI (i : Int) : Option Vl := some (.dat (.int i))
def opAdd (a b : D) : Option Vl := match a, b with
  | .int i, .int j => valI (i + j)
  | .str x, .str y => if x.length + y.length ≤ sizeLine then some (.dat (.str (x ++ y))) else none
  | .tup xs, .tup ys => if xs.length + ys.length ≤ sizeLine then some (.dat (.tup (xs ++ ys))) else none
  | .lst xs, .lst ys => if xs.length + ys.length ≤ sizeLine then some (.own (xs ++ ys)) else none
  | _, _ => none
def opI (f : Int → Int → Int) (C : Int → Int → Bool) (a b : D) : Option Vl := match a, b with
  | .int i, .int j => if C i j then valI (f i j) else none
  | _, _ => none
abbrev opSub : D → D → Option Vl := opI (fun i j => i - j) fun _ _ => true
abbrev opMul : D → D → Option Vl := opI (fun i j => i * j) fun i j => decide (i.natAbs.log2 + j.natAbs.log2 < 1000000)
abbrev opFdiv : D → D → Option Vl := opI (fun i j => i / j) fun i j => decide (0 < j) && decide (j.natAbs.log2 < 9000)
abbrev opMod : D → D → Option Vl := opI (fun i j => i % j) fun i j => decide (0 < j)
abbrev opPow : D → D → Option Vl := opI (fun i j => i ^ j.toNat) fun i j => decide (0 ≤ j) && decide (j ≤ 1000000) && decide (i.natAbs < 2 ^ 64)
abbrev opShl : D → D → Option Vl := opI (fun i j => i * 2 ^ j.toNat) fun i j => decide (0 ≤ j) && decide (j ≤ 1000000) && decide (i.natAbs < 2 ^ 64)
abbrev opShr : D → D → Option Vl := opI (fun i j => i / 2 ^ j.toNat) fun i j => decide (0 ≤ j)
abbrev opAnd : D → D → Option Vl := opI (fun i j => Builtin.bitAnd i j) fun _ _ => true
abbrev opOr : D → D → Option Vl := opI (fun i j => Builtin.bitOr i j) fun _ _ => true
theorem rep_int {K : PySem.W.Frag} {θ : TT'} {B : Hp} {i : Int} {v : V} : Rep K θ B (.int i) v ↔ v = .int i := by simp only [Rep]
theorem rep_str {K : PySem.W.Frag} {θ : TT'} {B : Hp} {i : Str} {v : V} : Rep K θ B (.str i) v ↔ v = .str i := by simp only [Rep]
theorem rep_bl {K : PySem.W.Frag} {θ : TT'} {B : Hp} {i : Bool} {v : V} : Rep K θ B (.bl i) v ↔ v = .bl i := by simp only [Rep]
theorem rep_non {K : PySem.W.Frag} {θ : TT'} {B : Hp} {v : V} : Rep K θ B .non v ↔ v = .non := by simp only [Rep]
theorem rep_tup {K : PySem.W.Frag} {θ : TT'} {B : Hp} {xs : List D} {v : V} : Rep K θ B (.tup xs) v ↔ ∃ a vs, v = .ref a ∧ SqT K B a vs ∧ Reps K θ B xs vs := by simp only [Rep]
theorem rep_lst {K : PySem.W.Frag} {θ : TT'} {B : Hp} {xs : List D} {v : V} : Rep K θ B (.lst xs) v ↔ ∃ a vs, v = .ref a ∧ B a = some (.lst vs) ∧ Reps K θ B xs vs := by simp only [Rep]
theorem vo_int {K : PySem.W.Frag} {H0 B H : Hp} {θ : TT'} {σ : Sg} {fr : Fr} {i : Int} : ValOk K H0 B H θ σ fr (.dat (.int i)) (.int i) := (rep_int (K := K) (θ := θ) (B := B)).mpr rfl
theorem vo_str {K : PySem.W.Frag} {H0 B H : Hp} {θ : TT'} {σ : Sg} {fr : Fr} {i : Str} : ValOk K H0 B H θ σ fr (.dat (.str i)) (.str i) := (rep_str (K := K) (θ := θ) (B := B)).mpr rfl
theorem vo_bl {K : PySem.W.Frag} {H0 B H : Hp} {θ : TT'} {σ : Sg} {fr : Fr} {i : Bool} : ValOk K H0 B H θ σ fr (.dat (.bl i)) (.bl i) := (rep_bl (K := K) (θ := θ) (B := B)).mpr rfl
theorem vo_dat {K : PySem.W.Frag} {H0 B H : Hp} {θ : TT'} {σ : Sg} {fr : Fr} {d : D} {v : V} (h : Rep K θ B d v) : ValOk K H0 B H θ σ fr (.dat d) v := h
theorem prim_int {r : R2} {f : Int → Int → Int} {C : Int → Int → Bool} (h : ∀ i j H Q, C i j = true → Q (V.int (f i j)) H → r (.int i) (.int j) H Q) : Prim2 (fun _ => r) (opI f C) := by
  intro G L B0 H0 θ0 B H θ σ s d1 d2 x y v Q so r1 r2 e q
  unfold opI at e
  split at e
  · rename_i i j
    rw [rep_int] at r1 r2
    subst r1; subst r2
    split at e
    · rename_i hc
      cases e
      exact h i j H Q hc (q _ H B so .refl vo_int trivial)
    · cases e
  · cases e
def rAddAll (K : PySem.W.Frag) : R2 := fun x y H Q => (rI0 (fun i j => .int (i + j)) x y H Q ∨ ∃ i j, x = .str i ∧ y = .str j ∧ i.length + j.length ≤ sizeLine ∧ Q (.str (i ++ j)) H) ∨ (rCatA K x y H Q ∨ rCat x y H Q)
theorem prim_add : Prim2 rAddAll opAdd := by
  intro G L B0 H0 θ0 B H θ σ s d1 d2 x y v Q so r1 r2 e q
  unfold opAdd at e
  split at e
  · rename_i i j
    rw [rep_int] at r1 r2
    subst r1; subst r2
    cases e
    exact .inl (.inl ⟨i, j, rfl, rfl, q _ H B so .refl vo_int trivial⟩)
  · rename_i i j
    rw [rep_str] at r1 r2
    subst r1; subst r2
    split at e
    · rename_i hl
      cases e
      exact .inl (.inr ⟨i, j, rfl, rfl, hl, q _ H B so .refl vo_str trivial⟩)
    · cases e
  · rename_i xs ys
    split at e
    · rename_i hl
      cases e
      obtain ⟨a, vs, rfl, ha, hr⟩ := rep_tup.mp r1
      obtain ⟨b, us, rfl, hb, hk⟩ := rep_tup.mp r2
      have l1 := hr.length
      have l2 := hk.length
      refine .inr (.inl ⟨a, b, vs, us, rfl, rfl, Same.sqT so.core.bh ha, Same.sqT so.core.bh hb, by omega, fun e0 => ?_, fun e0 e1 => ?_, fun e0 e1 p hp => ?_⟩)
      · subst e0
        have : xs = [] := List.eq_nil_of_length_eq_zero (by rw [l1]; rfl)
        subst this
        exact q _ H B so .refl (vo_dat r2) trivial
      · subst e1
        have : ys = [] := List.eq_nil_of_length_eq_zero (by rw [l2]; rfl)
        subst this
        exact q _ H B so .refl (vo_dat (by rw [List.append_nil]; exact r1)) trivial
      · obtain ⟨h1, h2, h3⟩ := new_tup so hp (hr.append hk)
        exact q _ _ _ h1 h2 (vo_dat h3) trivial
    · cases e
  · rename_i xs ys
    split at e
    · rename_i hl
      cases e
      obtain ⟨a, vs, rfl, ha, hr⟩ := rep_lst.mp r1
      obtain ⟨b, us, rfl, hb, hk⟩ := rep_lst.mp r2
      have l1 := hr.length
      have l2 := hk.length
      refine .inr (.inr ⟨a, b, vs, us, rfl, rfl, so.core.bh _ _ ha, so.core.bh _ _ hb, by omega, fun p hp => ?_⟩)
      obtain ⟨h1, h2, h3, h4⟩ := new_lst so hp (hr.append hk)
      exact q _ _ _ h1 h2 h3 h4
    · cases e
  · cases e
/-- a BinOp of this operator -/
def isBin (o : Operator) (ce : CE) (ca cb : CE → Expr → Bool) (e : Expr) : Bool := match e with
  | .BinOp x p y _ => decide (p = o) && ca ce x && cb ce y
  | _ => false
def mkBin (o : Operator) (r : PySem.W.Frag → R2) (op : D → D → Option Vl) (hp : Prim2 r op) (hr : ∀ (X : Cx), X.calm = true → OpR X (binaryOp o) (r X.K)) (a b : EI G) : EI G where
  chk := fun ce e => isBin o ce a.chk b.chk e
  den := dBin op a.den b.den
  need := fun L lv => a.need L lv ∧ b.need L lv
  ok := fun L lv X ce e hX hn h => by
    cases e <;> try (exact absurd h Bool.false_ne_true)
    rename_i x p y pos
    simp only [isBin, Bool.and_eq_true, decide_eq_true_eq] at h
    obtain ⟨⟨rfl, h1⟩, h2⟩ := h
    refine (pe_op (hr X hX.calm) (a.ok L lv X ce x hX hn.1 h1) (b.ok L lv X ce y hX hn.2 h2)).imp ?_
    rw [hX.K]
    exact bin_imp hp _ _
def eAdd (a b : EI G) : EI G := mkBin .Add rAddAll opAdd prim_add (fun X _ => (op_add.or op_add_str).or (op_catA.or op_cat)) a b
def eSub (a b : EI G) : EI G := mkBin .Sub (fun _ => rI0 (fun i j => .int (i - j))) opSub (prim_int fun i j H Q _ q => ⟨i, j, rfl, rfl, q⟩) (fun X _ => op_sub) a b
def eMul (a b : EI G) : EI G := mkBin .Mult (fun _ => rI CMulW fun i j => .int (i * j)) opMul (prim_int fun i j H Q hc q => ⟨i, j, rfl, rfl, (by have h := of_decide_eq_true hc; exact h), q⟩) (fun X _ => op_mulW) a b
def eFdiv (a b : EI G) : EI G := mkBin .FloorDiv (fun _ => rI CDivW fun i j => .int (i / j)) opFdiv (prim_int fun i j H Q hc q => ⟨i, j, rfl, rfl, by simp only [Bool.and_eq_true, decide_eq_true_eq] at hc; exact hc, q⟩) (fun X _ => op_fdivW) a b
def eMod (a b : EI G) : EI G := mkBin .Mod (fun _ => rI (fun _ j => 0 < j) fun i j => .int (i % j)) opMod (prim_int fun i j H Q hc q => ⟨i, j, rfl, rfl, of_decide_eq_true hc, q⟩) (fun X _ => op_mod) a b
def ePow (a b : EI G) : EI G := mkBin .Pow (fun _ => rI CPow fun i j => .int (i ^ j.toNat)) opPow (prim_int fun i j H Q hc q => ⟨i, j, rfl, rfl, by simp only [Bool.and_eq_true, decide_eq_true_eq] at hc; exact ⟨hc.1.1, hc.1.2, hc.2⟩, q⟩) (fun X _ => op_pow) a b
def eShl (a b : EI G) : EI G := mkBin .LShift (fun _ => rI CPow fun i j => .int (i * 2 ^ j.toNat)) opShl (prim_int fun i j H Q hc q => ⟨i, j, rfl, rfl, by simp only [Bool.and_eq_true, decide_eq_true_eq] at hc; exact ⟨hc.1.1, hc.1.2, hc.2⟩, q⟩) (fun X _ => op_shl) a b
def eShr (a b : EI G) : EI G := mkBin .RShift (fun _ => rI (fun _ j => 0 ≤ j) fun i j => .int (i / 2 ^ j.toNat)) opShr (prim_int fun i j H Q hc q => ⟨i, j, rfl, rfl, of_decide_eq_true hc, q⟩) (fun X _ => op_shr) a b
def eAnd2 (a b : EI G) : EI G := mkBin .BitAnd (fun _ => rI0 fun i j => .int (Builtin.bitAnd i j)) opAnd (prim_int fun i j H Q _ q => ⟨i, j, rfl, rfl, q⟩) (fun X _ => op_and) a b
def eOr2 (a b : EI G) : EI G := mkBin .BitOr (fun _ => rI0 fun i j => .int (Builtin.bitOr i j)) opOr (prim_int fun i j H Q _ q => ⟨i, j, rfl, rfl, q⟩) (fun X _ => op_or) a b
end RB

namespace RB
open PySem PySem.Spec PyProof.Rows L2
variable {G : Type}

section
variable {X : Cx} {pins : List (Addr × Obj)} {σ : Sg} {H B : Hp} {s : Shared} {θ : TT'}
mutual
theorem Rep.rd (I : Inv X pins σ H s) (hb : Same B H) : ∀ (d : D) (v : V) (u : Value), Rep X.K θ B d v → pln d = true → RelV v u → RdV s.heap d u
  | .non, v, u, h, _, r => by simp only [Rep] at h; subst h; simp only [RdV]; exact r
  | .bl b, v, u, h, _, r => by simp only [Rep] at h; subst h; simp only [RdV]; exact r
  | .int i, v, u, h, _, r => by simp only [Rep] at h; subst h; simp only [RdV]; exact r
  | .str x, v, u, h, _, r => by simp only [Rep] at h; subst h; simp only [RdV]; exact r
  | .tup xs, v, u, h, p, r => by
    obtain ⟨a, vs, rfl, ha, hr⟩ := rep_tup.mp h
    obtain ⟨its, rv, ht, _⟩ := I.tuple (Same.sqT hb ha)
    simp only [RdV]
    refine ⟨a, its.toArray, r, ht, ?_⟩
    exact Reps.rd I hb xs vs its hr (by simpa only [pln] using p) rv
  | .lst xs, v, u, h, p, r => by
    obtain ⟨a, vs, rfl, ha, hr⟩ := rep_lst.mp h
    obtain ⟨its, rv, ht, _⟩ := I.list (SqL.of (K := X.K) (hb _ _ ha))
    simp only [RdV]
    refine ⟨a, its.toArray, r, ht.isList, ?_⟩
    exact Reps.rd I hb xs vs its hr (by simpa only [pln] using p) rv
  | .tok _, _, _, _, p, _ => by simp [pln] at p
  | .scr _, _, _, _, p, _ => by simp [pln] at p
theorem Reps.rd (I : Inv X pins σ H s) (hb : Same B H) : ∀ (ds : List D) (vs : List V) (us : List Value), Reps X.K θ B ds vs → plns ds = true → Vals vs us → RdVs s.heap ds us
  | [], vs, us, h, _, r => by
    have := Reps.nil.mp h; subst this
    cases r
    exact RdVs.nil.mpr rfl
  | d :: ds, vs, us, h, p, r => by
    obtain ⟨v, vr, rfl, h1, h2⟩ := Reps.cons.mp h
    simp only [plns, Bool.and_eq_true] at p
    cases r with
    | cons r1 r2 => exact RdVs.cons.mpr ⟨_, _, rfl, Rep.rd I hb d v _ h1 p.1 r1, Reps.rd I hb ds vr _ h2 p.2 r2⟩
end
end

def cmpOk (a b : D) : Bool := pln a && pln b && decide (min (depB a) (depB b) ≤ 60)
def opEq (a b : D) : Option Vl := if cmpOk a b then some (.dat (.bl (eqB a b))) else none
def opNe (a b : D) : Option Vl := if cmpOk a b then some (.dat (.bl (!eqB a b))) else none
/-- data that compare: f of it -/
def rDat (f : D → D → Bool) (K : PySem.W.Frag) : R2 := fun x y H Q => ∃ (θ : TT') (B : Hp) (d e : D), Same B H ∧ Rep K θ B d x ∧ Rep K θ B e y ∧ cmpOk d e = true ∧ Q (.bl (f d e)) H
theorem cmpOk_iff {a b : D} : cmpOk a b = true ↔ (pln a = true ∧ pln b = true) ∧ min (depB a) (depB b) ≤ 60 := by simp only [cmpOk, Bool.and_eq_true, decide_eq_true_eq]
theorem or_eqD {X : Cx} (hu : X.A.units + 64 < cLine) : OpR X (compareOp .Eq) (rDat eqB X.K) := by
  intro pins s σ H x y v u Q I rx ry ⟨θ, B, d, e, hb, h1, h2, hc, q⟩
  obtain ⟨⟨p1, p2⟩, p3⟩ := cmpOk_iff.mp hc
  exact rcAtD d e X.A s v u (Rep.rd I hb d x v h1 p1 rx) (Rep.rd I hb e y u h2 p2 ry) (by omega) X.prog X.w X.xe _ ⟨.bl _, H, I, rfl, q⟩
theorem or_neD {X : Cx} (hu : X.A.units + 64 < cLine) : OpR X (compareOp .NotEq) (rDat (fun a b => !eqB a b) X.K) := by
  intro pins s σ H x y v u Q I rx ry ⟨θ, B, d, e, hb, h1, h2, hc, q⟩
  obtain ⟨⟨p1, p2⟩, p3⟩ := cmpOk_iff.mp hc
  exact rcNeAtD d e X.A s v u (Rep.rd I hb d x v h1 p1 rx) (Rep.rd I hb e y u h2 p2 ry) (by omega) X.prog X.w X.xe _ ⟨.bl _, H, I, rfl, q⟩
theorem prim_dat {f : D → D → Bool} {op : D → D → Option Vl} (h : ∀ a b v, op a b = some v → cmpOk a b = true ∧ v = .dat (.bl (f a b))) : Prim2 (rDat f) op := by
  intro G L B0 H0 θ0 B H θ σ s d1 d2 x y v Q so r1 r2 e q
  obtain ⟨h1, rfl⟩ := h _ _ _ e
  exact ⟨θ, B, d1, d2, so.core.bh, r1, r2, h1, q _ H B so .refl vo_bl trivial⟩

def roomU {X : Cx} {L : Law G} {ce : CE} {lv : Nat} (h : Ok L X ce lv) : X.A.units + 64 < cLine := h.room.units
/-- a comparison: as a value, as a test -/
structure CI (G : Type) where
  chk : CE → Expr → Bool
  den : EDen G
  need : Law G → Nat → Prop
  ok : ∀ (L : Law G) (lv : Nat) (X : Cx) (ce : CE) (e : Expr), Ok L X ce lv → need L lv → chk ce e = true → PE X e (tD L den)
  okT : ∀ (L : Law G) (lv : Nat) (X : Cx) (ce : CE) (e : Expr), Ok L X ce lv → need L lv → chk ce e = true → PT X e (tTest (tD L den))
def mkCmp (o : CmpOp) (ho : o ≠ .In ∧ o ≠ .NotIn) (r : PySem.W.Frag → R2) (op : D → D → Option Vl) (hp : Prim2 r op) (hr : ∀ (X : Cx), X.calm = true → X.A.units + 64 < cLine → OpR X (compareOp o) (r X.K)) (a b : EI G) : CI G where
  chk := fun ce e => match e with
    | .Compare x [p] [y] _ => decide (p = o) && a.chk ce x && b.chk ce y
    | _ => false
  den := dBin op a.den b.den
  need := fun L lv => a.need L lv ∧ b.need L lv
  ok := fun L lv X ce e hX hn h => by
    split at h
    · rename_i x p y pos
      simp only [Bool.and_eq_true, decide_eq_true_eq] at h
      obtain ⟨⟨rfl, h1⟩, h2⟩ := h
      refine (pe_cmpR (hr X hX.calm (roomU hX)) (a.ok L lv X ce x hX hn.1 h1) (b.ok L lv X ce y hX hn.2 h2) (nobehind _ ho.1 ho.2)).imp ?_
      rw [hX.K]
      exact bin_imp hp _ _
    · cases h
  okT := fun L lv X ce e hX hn h => by
    split at h
    · rename_i x p y pos
      simp only [Bool.and_eq_true, decide_eq_true_eq] at h
      obtain ⟨⟨rfl, h1⟩, h2⟩ := h
      refine (pt_cmpR (hr X hX.calm (roomU hX)) (a.ok L lv X ce x hX hn.1 h1) (b.ok L lv X ce y hX hn.2 h2) (nobehind _ ho.1 ho.2)).imp fun σ H Q q => ?_
      rw [hX.K]
      exact bin_imp hp _ _ σ H _ q
    · cases h
theorem prim_eq : Prim2 (rDat eqB) opEq := prim_dat fun a b v e => by
  unfold opEq at e; split at e
  · rename_i h; cases e; exact ⟨h, rfl⟩
  · cases e
theorem prim_ne : Prim2 (rDat (fun a b => !eqB a b)) opNe := prim_dat fun a b v e => by
  unfold opNe at e; split at e
  · rename_i h; cases e; exact ⟨h, rfl⟩
  · cases e
def cEq (a b : EI G) : CI G := mkCmp .Eq ⟨by decide, by decide⟩ (rDat eqB) opEq prim_eq (fun X _ hu => or_eqD hu) a b
def cNe (a b : EI G) : CI G := mkCmp .NotEq ⟨by decide, by decide⟩ (rDat fun a b => !eqB a b) opNe prim_ne (fun X _ hu => or_neD hu) a b

def opLt (a b : D) : Option Vl := if pln a && pln b && decide (min (depB a) (depB b) ≤ 60) then (ltB a b).map fun r => .dat (.bl r) else none
def rLtD (K : PySem.W.Frag) : R2 := fun x y H Q => ∃ (θ : TT') (B : Hp) (d e : D) (r : Bool), Same B H ∧ Rep K θ B d x ∧ Rep K θ B e y ∧ cmpOk d e = true ∧ ltB d e = some r ∧ Q (.bl r) H
theorem or_ltD {X : Cx} (hu : X.A.units + 64 < cLine) : OpR X (compareOp .Lt) (rLtD X.K) := by
  intro pins s σ H x y v u Q I rx ry ⟨θ, B, d, e, r, hb, h1, h2, hc, hr, q⟩
  obtain ⟨⟨p1, p2⟩, p3⟩ := cmpOk_iff.mp hc
  exact rcLtD d e r X.A s v u (Rep.rd I hb d x v h1 p1 rx) (Rep.rd I hb e y u h2 p2 ry) (by omega) hr X.prog X.w X.xe _ ⟨.bl _, H, I, rfl, q⟩
theorem prim_lt : Prim2 rLtD opLt := by
  intro G L B0 H0 θ0 B H θ σ s d1 d2 x y v Q so r1 r2 e q
  unfold opLt at e
  split at e
  · rename_i hc
    cases hr : ltB d1 d2 with
    | none => rw [hr] at e; cases e
    | some r =>
      rw [hr] at e; cases e
      exact ⟨θ, B, d1, d2, r, so.core.bh, r1, r2, hc, hr, q _ H B so .refl vo_bl trivial⟩
  · cases e
def opB (f : Int → Int → Bool) (k : List Nat → List Nat → Bool) (a b : D) : Option Vl := match a, b with
  | .int i, .int j => some (.dat (.bl (f i j)))
  | .str x, .str y => some (.dat (.bl (k x.cps.toList y.cps.toList)))
  | _, _ => none
def rB (f : Int → Int → Bool) (k : List Nat → List Nat → Bool) : R2 := fun x y H Q => rI0 (fun i j => .bl (f i j)) x y H Q ∨ ∃ i j, x = .str i ∧ y = .str j ∧ Q (.bl (k i.cps.toList j.cps.toList)) H
theorem prim_B {f : Int → Int → Bool} {k : List Nat → List Nat → Bool} : Prim2 (fun _ => rB f k) (opB f k) := by
  intro G L B0 H0 θ0 B H θ σ s d1 d2 x y v Q so r1 r2 e q
  unfold opB at e
  split at e
  · rename_i i j
    rw [rep_int] at r1 r2
    subst r1; subst r2
    cases e
    exact .inl ⟨i, j, rfl, rfl, q _ H B so .refl vo_bl trivial⟩
  · rename_i i j
    rw [rep_str] at r1 r2
    subst r1; subst r2
    cases e
    exact .inr ⟨i, j, rfl, rfl, q _ H B so .refl vo_bl trivial⟩
  · cases e
abbrev opLe := opB (fun i j => decide (i ≤ j)) fun i j => !decide (j < i)
abbrev opGt := opB (fun i j => decide (j < i)) fun i j => decide (j < i)
abbrev opGe := opB (fun i j => decide (j ≤ i)) fun i j => !decide (i < j)
def cLt (a b : EI G) : CI G := mkCmp .Lt ⟨by decide, by decide⟩ rLtD opLt prim_lt (fun X _ hu => or_ltD hu) a b
def cLe (a b : EI G) : CI G := mkCmp .LtE ⟨by decide, by decide⟩ (fun _ => rB (fun i j => decide (i ≤ j)) fun i j => !decide (j < i)) opLe prim_B (fun X _ hu => op_le.or op_le_str) a b
def cGt (a b : EI G) : CI G := mkCmp .Gt ⟨by decide, by decide⟩ (fun _ => rB (fun i j => decide (j < i)) fun i j => decide (j < i)) opGt prim_B (fun X _ hu => op_gt.or op_gt_str) a b
def cGe (a b : EI G) : CI G := mkCmp .GtE ⟨by decide, by decide⟩ (fun _ => rB (fun i j => decide (j ≤ i)) fun i j => !decide (i < j)) opGe prim_B (fun X _ hu => op_ge.or op_ge_str) a b

def isNon : D → Bool
  | .non => true
  | _ => false
def opIsN (k : Bool) (a b : D) : Option Vl := match b with
  | .non => some (.dat (.bl (if k then isNon a else !isNon a)))
  | _ => none
theorem rep_isNon {K : PySem.W.Frag} {θ : TT'} {B : Hp} {d : D} {v : V} (h : Rep K θ B d v) : decide (v = .non) = isNon d := by
  cases d <;> simp only [Rep] at h
  · subst h; rfl
  · subst h; rfl
  · subst h; rfl
  · subst h; rfl
  · obtain ⟨_, _, rfl, _⟩ := h; rfl
  · obtain ⟨_, _, rfl, _⟩ := h; rfl
  · obtain ⟨_, _, _, rfl⟩ := h; rfl
  · obtain ⟨_, rfl, _⟩ := h; rfl
theorem prim_isN : Prim2 (fun _ => fun x y H Q => y = .non ∧ Q (.bl (decide (x = .non))) H) (opIsN true) := by
  intro G L B0 H0 θ0 B H θ σ s d1 d2 x y v Q so r1 r2 e q
  unfold opIsN at e
  split at e
  · cases e
    rw [rep_non] at r2
    exact ⟨r2, q _ H B so .refl (by rw [rep_isNon r1, if_pos rfl]; exact vo_bl) trivial⟩
  · cases e
theorem prim_notN : Prim2 (fun _ => fun x y H Q => y = .non ∧ Q (.bl (!decide (x = .non))) H) (opIsN false) := by
  intro G L B0 H0 θ0 B H θ σ s d1 d2 x y v Q so r1 r2 e q
  unfold opIsN at e
  split at e
  · cases e
    rw [rep_non] at r2
    exact ⟨r2, q _ H B so .refl (by rw [rep_isNon r1, if_neg Bool.false_ne_true]; exact vo_bl) trivial⟩
  · cases e
def cIs (a b : EI G) : CI G := mkCmp .Is ⟨by decide, by decide⟩ (fun _ => fun x y H Q => y = .non ∧ Q (.bl (decide (x = .non))) H) (opIsN true) prim_isN (fun X _ _ => op_isN) a b
def cIsNot (a b : EI G) : CI G := mkCmp .IsNot ⟨by decide, by decide⟩ (fun _ => fun x y H Q => y = .non ∧ Q (.bl (!decide (x = .non))) H) (opIsN false) prim_notN (fun X _ _ => op_notN) a b

/-- what a value holds: a tuple's items (false), a list's (true) -/
def seqOf (v : Vl) (s : Stt G) : Option (Bool × List D) := match v with
  | .dat (.tup xs) => some (false, xs)
  | .dat (.lst xs) => some (true, xs)
  | .own xs => some (true, xs)
  | .pk i => match s.fr[i]? with
    | some (some (.own xs)) => some (true, xs)
    | _ => none
  | _ => none
theorem seqOf_ok {L : Law G} {B0 H0 B H : Hp} {θ0 θ : TT'} {σ : Sg} {s : Stt G} {v : Vl} {x : V} {b : Bool} {xs : List D} (so : SO L B0 H0 θ0 B H θ σ s.fr s.g) (vo : ValOk L.K H0 B H θ σ s.fr v x) (h : seqOf v s = some (b, xs)) :
    ∃ a vs, x = .ref a ∧ (if b = true then H a = some (.lst vs) else SqT L.K H a vs) ∧ Reps L.K θ B xs vs := by
  unfold seqOf at h
  split at h
  · cases h
    obtain ⟨a, vs, e1, e2, e3⟩ := rep_tup.mp (show Rep L.K θ B _ x from vo)
    exact ⟨a, vs, e1, Same.sqT so.core.bh e2, e3⟩
  · cases h
    obtain ⟨a, vs, e1, e2, e3⟩ := rep_lst.mp (show Rep L.K θ B _ x from vo)
    exact ⟨a, vs, e1, so.core.bh _ _ e2, e3⟩
  · cases h
    obtain ⟨a, e1, o, _⟩ := vo
    obtain ⟨vs, e2, e3⟩ := o.ex
    exact ⟨a, vs, e1, e2, e3⟩
  · split at h
    · rename_i i ys e
      cases h
      obtain ⟨e1, _⟩ := vo
      obtain ⟨v, e2, a, rfl, o⟩ := so.sl _ _ e
      rw [e1] at e2; cases e2
      obtain ⟨vs, e2, e3⟩ := o.ex
      exact ⟨a, vs, rfl, e2, e3⟩
    · cases h
  · cases h
/-- a value that is kept while others are reckoned: a new list becomes data -/
def hold (v : Vl) : Vl := match v with
  | .own xs => .dat (.lst xs)
  | v => v
theorem hold_ok {L : Law G} {B0 H0 B H : Hp} {θ0 θ : TT'} {σ : Sg} {s : Stt G} {v : Vl} {x : V} {frs : Fr} {θs : TT'} {Bs Hs : Hp} (so : SO L B0 H0 θ0 B H θ σ s.fr s.g) (vo : ValOk L.K H0 B H θ σ s.fr v x) (st : Stp σ frs s.fr θs θ Bs B Hs H) (fv : FreshV Hs v x) :
    ∃ B2, SO L B0 H0 θ0 B2 H θ σ s.fr s.g ∧ Stp σ frs s.fr θs θ Bs B2 Hs H ∧ ValOk L.K H0 B2 H θ σ s.fr (hold v) x := by
  cases v with
  | dat d => exact ⟨B, so, st, vo⟩
  | pk i => exact ⟨B, so, st, vo⟩
  | own xs =>
    obtain ⟨B2, h1, h3, _, h2⟩ := so.frzVal vo
    exact ⟨B2, h1, h2 st fv, h3⟩

/-- whether a value of the heap is data that equals d -/
noncomputable def hitV (h : Heap) (d : D) (u : Value) : Bool := @decide (∃ y, RdV h y u ∧ eqB y d = true) (Classical.propDecidable _)
theorem hitV_eq {h : Heap} {d y : D} {u : Value} (r : RdV h y u) : hitV h d u = eqB y d := by
  unfold hitV
  cases e : eqB y d with
  | true => exact @decide_eq_true _ (Classical.propDecidable _) ⟨y, r, e⟩
  | false =>
    refine @decide_eq_false _ (Classical.propDecidable _) ?_
    rintro ⟨z, rz, ez⟩
    rw [RdV.uniq z y u rz r, e] at ez
    cases ez
theorem any_hit {h : Heap} {d : D} : ∀ {xs : List D} {us : List Value}, RdVs h xs us → us.any (hitV h d) = xs.any fun y => eqB y d
  | [], us, r => by rw [RdVs.nil.mp r]; rfl
  | x :: xs, us, r => by
    obtain ⟨u, t, rfl, r1, r2⟩ := RdVs.cons.mp r
    rw [List.any_cons, List.any_cons, hitV_eq r1, any_hit r2]
theorem hit_at {A : Around} {s : Shared} {d : D} {x : Value} (rx : RdV s.heap d x) (hu : A.units + depB d < cLine) : ∀ {xs : List D} {us : List Value}, RdVs s.heap xs us → ∀ u ∈ us, SeqAt.EqAt A s u x (hitV s.heap d u)
  | [], us, r, u, hm => by rw [RdVs.nil.mp r] at hm; simp at hm
  | y :: ys, us, r, u, hm => by
    obtain ⟨v, t, rfl, r1, r2⟩ := RdVs.cons.mp r
    rcases List.mem_cons.mp hm with rfl | hm
    · rw [hitV_eq r1]
      exact eqAtD y d A s u x r1 rx (by omega)
    · exact hit_at rx hu r2 u hm
/-- x in a list or a tuple of data -/
def rInX (neg : Bool) (K : PySem.W.Frag) : R2 := fun x y H Q => ∃ (θ : TT') (B : Hp) (d : D) (xs : List D) (b : Bool) (a : Addr) (vs : List V), Same B H ∧ Rep K θ B d x ∧ y = .ref a ∧ (if b = true then H a = some (.lst vs) else SqT K H a vs) ∧ Reps K θ B xs vs ∧ pln d = true ∧ plns xs = true ∧ depB d ≤ 60 ∧
  Q (.bl (if neg then !(xs.any fun y => eqB y d) else xs.any fun y => eqB y d)) H
theorem or_inX {X : Cx} (hu : X.A.units + 64 < cLine) (neg : Bool) : OpR X (compareOp (if neg then .NotIn else .In)) (rInX neg X.K) := by
  intro pins s σ H x y v u Q I rx ry hh
  obtain ⟨θ, B, d, xs, b, a, vs, hb, h1, rfl, h2, h3, p1, p2, p3, q⟩ := hh
  cases ry
  have rd := Rep.rd I hb d x v h1 p1 rx
  have hA : X.A.in1.units + depB d < cLine := by show X.A.units + 1 + _ < _; omega
  cases b with
  | true =>
    obtain ⟨its, rv, ht, _⟩ := I.list (SqL.of (K := X.K) (show H a = some (.lst vs) from h2))
    have rds := Reps.rd I hb xs vs its h3 p2 rv
    have ee := any_hit (d := d) rds
    cases neg with
    | false =>
      rw [if_neg Bool.false_ne_true] at q
      refine SeqAt.in_listAt (hitV s.heap d) ht.isList (fun y hy => hit_at rd hA rds y (by simpa using hy)) ?_
      rw [show its.toArray.any (hitV s.heap d) = its.any (hitV s.heap d) by simp, ee]
      exact ⟨.bl _, H, I, rfl, q⟩
    | true =>
      rw [if_pos rfl] at q
      refine SeqAt.notIn_listAt (hitV s.heap d) ht.isList (fun y hy => hit_at rd hA rds y (by simpa using hy)) ?_
      rw [show its.toArray.any (hitV s.heap d) = its.any (hitV s.heap d) by simp, ee]
      exact ⟨.bl _, H, I, rfl, q⟩
  | false =>
    obtain ⟨its, rv, ht, _⟩ := I.tuple (show SqT X.K H a vs from h2)
    have rds := Reps.rd I hb xs vs its h3 p2 rv
    have ee := any_hit (d := d) rds
    cases neg with
    | false =>
      rw [if_neg Bool.false_ne_true] at q
      refine SeqAt.in_tupleAt (hitV s.heap d) ht (fun y hy => hit_at rd hA rds y (by simpa using hy)) ?_
      rw [show its.toArray.any (hitV s.heap d) = its.any (hitV s.heap d) by simp, ee]
      exact ⟨.bl _, H, I, rfl, q⟩
    | true =>
      rw [if_pos rfl] at q
      refine SeqAt.notIn_tupleAt (hitV s.heap d) ht (fun y hy => hit_at rd hA rds y (by simpa using hy)) ?_
      rw [show its.toArray.any (hitV s.heap d) = its.any (hitV s.heap d) by simp, ee]
      exact ⟨.bl _, H, I, rfl, q⟩
/-- the one text within the other -/
def strIn (i j : Str) : Bool := if i.cps.size = 1 then decide (i.cps.getD 0 0 ∈ j.cps.toList) else !(Builtin.Str.occurrences j i 0 j.length 1).isEmpty
def rInS (neg : Bool) : R2 := fun x y H Q => ∃ i j, x = .str i ∧ y = .str j ∧ Q (.bl (if neg then !strIn i j else strIn i j)) H
theorem one_sign {i : Str} (h : i.cps.size = 1) : i = ⟨#[i.cps.getD 0 0]⟩ := by
  obtain ⟨⟨l⟩⟩ := i
  match l, h with
  | [c], _ => rfl
theorem or_inS {X : Cx} (neg : Bool) : OpR X (compareOp (if neg then .NotIn else .In)) (rInS neg) := by
  intro pins s σ H x y v u Q I rx ry hh
  obtain ⟨i, j, rfl, rfl, q⟩ := hh
  unfold strIn at q
  by_cases h : i.cps.size = 1
  · rw [if_pos h] at q
    rw [one_sign h] at rx
    cases neg with
    | false =>
      rw [if_neg Bool.false_ne_true] at q
      exact op_in_sign pins s σ H _ _ v u Q I rx ry ⟨_, j, rfl, rfl, q⟩
    | true =>
      rw [if_pos rfl] at q
      exact op_notIn_sign pins s σ H _ _ v u Q I rx ry ⟨_, j, rfl, rfl, q⟩
  · rw [if_neg h] at q
    cases neg with
    | false => exact op_in_str pins s σ H _ _ v u Q I rx ry ⟨i, j, rfl, rfl, q⟩
    | true => exact op_notIn_str pins s σ H _ _ v u Q I rx ry ⟨i, j, rfl, rfl, q⟩
def rInA (neg : Bool) (K : PySem.W.Frag) : R2 := fun x y H Q => rInX neg K x y H Q ∨ rInS neg x y H Q
/-- what «in» says -/
def inD (neg : Bool) (d : D) (v : Vl) (s : Stt G) : Option Bool := match d, v with
  | .str i, .dat (.str j) => some (if neg then !strIn i j else strIn i j)
  | d, v => match seqOf v s with
    | some (_, xs) => if pln d && plns xs && decide (depB d ≤ 60) then some (if neg then !(xs.any fun y => eqB y d) else xs.any fun y => eqB y d) else none
    | none => none
def dIn (neg : Bool) (a b : EDen G) : EDen G := fun s => (eD a s).bind fun d s => (b s).bind fun v s => (opt (inD neg d v s) s).bind fun r s => .ok (.dat (.bl r)) s
theorem in_imp {L : Law G} (neg : Bool) (a b : EDen G) : ∀ σ H Q, tD L (dIn neg a b) σ H Q → tOp (rInA neg L.K) (tD L a) (tD L b) σ H Q := by
  rintro σ H Q ⟨B0, H0, θ0, B, θ, s, so, q⟩
  refine tD_runD so q fun d1 s1 x H1 B1 θ1 q1 so1 st1 r1 => ?_
  refine tD_run so1 q1 fun v s2 y H2 B2 θ2 q2 so2 st2 vo hfv => ?_
  clear hfv
  obtain ⟨r, e, q3⟩ := opt_sat (Out.sat_bind.mp q2)
  have fin : Q (.bl r) H2 := q3 (.bl r) H2 B2 θ2 so2 (st1.trans st2) vo_bl trivial
  have r1' := Rep.mono st2.same st2.pre _ _ r1
  unfold inD at e
  split at e
  · rename_i i j
    cases e
    refine .inr ⟨i, j, rep_str.mp r1', rep_str.mp (show Rep L.K θ2 B2 _ y from vo), fin⟩
  · split at e
    · rename_i b xs es
      split at e
      · rename_i hc
        cases e
        simp only [Bool.and_eq_true, decide_eq_true_eq] at hc
        obtain ⟨a, vs, e1, e2, e3⟩ := seqOf_ok so2 vo es
        exact .inl ⟨θ2, B2, d1, xs, b, a, vs, so2.core.bh, r1', e1, e2, e3, hc.1.1, hc.1.2, hc.2, fin⟩
      · cases e
    · cases e
def notSetD (e : Expr) : Bool := match e with
  | .Set .. => false
  | _ => true
theorem behind_notSet {op : CmpOp} {e : Expr} (h : notSetD e = true) : behindInMarks op e = false := by
  cases e <;> first | rfl | exact absurd h Bool.false_ne_true
def mkIn (neg : Bool) (o : CmpOp) (ho : o = if neg then .NotIn else .In) (a b : EI G) : CI G where
  chk := fun ce e => match e with
    | .Compare x [p] [y] _ => decide (p = o) && a.chk ce x && b.chk ce y && notSetD y
    | _ => false
  den := dIn neg a.den b.den
  need := fun L lv => a.need L lv ∧ b.need L lv
  ok := fun L lv X ce e hX hn h => by
    split at h
    · rename_i x p y pos
      simp only [Bool.and_eq_true, decide_eq_true_eq] at h
      obtain ⟨⟨⟨rfl, h1⟩, h2⟩, h3⟩ := h
      subst ho
      refine (pe_cmpR ((or_inX (roomU hX) neg).or (or_inS neg)) (a.ok L lv X ce x hX hn.1 h1) (b.ok L lv X ce y hX hn.2 h2) (behind_notSet h3)).imp ?_
      rw [hX.K]
      exact in_imp neg _ _
    · cases h
  okT := fun L lv X ce e hX hn h => by
    split at h
    · rename_i x p y pos
      simp only [Bool.and_eq_true, decide_eq_true_eq] at h
      obtain ⟨⟨⟨rfl, h1⟩, h2⟩, h3⟩ := h
      subst ho
      refine (pt_cmpR ((or_inX (roomU hX) neg).or (or_inS neg)) (a.ok L lv X ce x hX hn.1 h1) (b.ok L lv X ce y hX hn.2 h2) (behind_notSet h3)).imp fun σ H Q q => ?_
      rw [hX.K]
      exact in_imp neg _ _ σ H _ q
    · cases h
def cIn (a b : EI G) : CI G := mkIn false .In rfl a b
def cNotIn (a b : EI G) : CI G := mkIn true .NotIn rfl a b
end RB

namespace RB
open PySem PySem.Spec PyProof.Rows L2
variable {G : Type}

def eC (c : CI G) : EI G := ⟨c.chk, c.den, c.need, c.ok⟩
/-- a value that is a bool -/
def asB (f : EDen G) : TDen G := fun s => (f s).bind fun v s => match v with
  | .dat (.bl b) => .ok b s
  | _ => .bad
theorem test_imp {L : Law G} {f : EDen G} : ∀ σ H Q, tDT L (asB f) σ H Q → tTest (tD L f) σ H Q := by
  rintro σ H Q ⟨B0, H0, θ0, B, θ, s, so, q⟩
  refine tD_run so q fun v s' x H' B' θ' q' so' st vo fv => ?_
  split at q'
  · rename_i b
    exact ⟨b, rep_bl.mp (show Rep L.K θ' B' _ x from vo), q' H' B' θ' so' st⟩
  · exact q'.elim
def tC' (c : CI G) : TI' G := ⟨c.chk, asB c.den, c.need, fun L lv X ce e hX hn h => (c.okT L lv X ce e hX hn h).imp test_imp⟩
def isBlV (v : Vl) : Option Bool := match v with
  | .dat (.bl b) => some b
  | _ => none
def dChain (op op' : D → D → Option Vl) (a b c : EDen G) : EDen G := fun s => (eD a s).bind fun x s => (eD b s).bind fun y s => (opt ((op x y).bind isBlV) s).bind fun k s =>
  if k = true then (eD c s).bind fun z s => opt (op' y z) s else .ok (.dat (.bl false)) s
theorem chain_imp {L : Law G} {r r' : PySem.W.Frag → R2} {op op' : D → D → Option Vl} (hp : Prim2 r op) (hp' : Prim2 r' op') (a b c : EDen G) : ∀ σ H Q, tD L (dChain op op' a b c) σ H Q → tChain (r L.K) (r' L.K) (tD L a) (tD L b) (tD L c) σ H Q := by
  rintro σ H Q ⟨B0, H0, θ0, B, θ, s, so, q⟩
  refine tD_runD so q fun d1 s1 x H1 B1 θ1 q1 so1 st1 r1 => ?_
  refine tD_runD so1 q1 fun d2 s2 y H2 B2 θ2 q2 so2 st2 r2 => ?_
  obtain ⟨k, e, q3⟩ := opt_sat (Out.sat_bind.mp q2)
  obtain ⟨v, ev, ek⟩ := Option.bind_eq_some_iff.mp e
  have ev2 : v = .dat (.bl k) := by
    unfold isBlV at ek
    split at ek
    · cases ek; rfl
    · cases ek
  subst ev2
  refine hp so2 (Rep.mono st2.same st2.pre _ _ r1) r2 ev fun z H' B' so3 st3 vo _ => ?_
  refine ⟨k, rep_bl.mp (show Rep L.K θ2 B' _ z from vo), ?_⟩
  cases k with
  | true =>
    rw [if_pos rfl] at q3 ⊢
    refine tD_runD so3 q3 fun d3 s3 w H3 B3 θ3 q4 so4 st4 r3 => ?_
    obtain ⟨v, e, q5⟩ := opt_sat q4
    exact hp' so4 (Rep.mono (st3.same.trans st4.same) st4.pre _ _ r2) r3 e fun z H' B' so5 st5 vo fv => q5 z H' B' θ3 so5 ((((st1.trans st2).trans st3).trans st4).trans st5) vo (fv.lift (((st1.trans st2).trans st3).trans st4).ex)
  | false =>
    rw [if_neg Bool.false_ne_true] at q3 ⊢
    exact q3 _ H' B' θ2 so3 ((st1.trans st2).trans st3) vo_bl trivial
def mkChain (o o' : CmpOp) (ho : o' ≠ .In ∧ o' ≠ .NotIn) (r r' : PySem.W.Frag → R2) (op op' : D → D → Option Vl) (hp : Prim2 r op) (hp' : Prim2 r' op') (hr : ∀ (X : Cx), X.A.units + 64 < cLine → OpR X (compareOp o) (r X.K)) (hr' : ∀ (X : Cx), X.A.units + 64 < cLine → OpR X (compareOp o') (r' X.K)) (a b c : EI G) : CI G where
  chk := fun ce e => match e with
    | .Compare x [p, p'] [y, z] _ => decide (p = o) && decide (p' = o') && a.chk ce x && b.chk ce y && c.chk ce z
    | _ => false
  den := dChain op op' a.den b.den c.den
  need := fun L lv => a.need L lv ∧ b.need L lv ∧ c.need L lv
  ok := fun L lv X ce e hX hn h => by
    split at h
    · rename_i x p p' y z pos
      simp only [Bool.and_eq_true, decide_eq_true_eq] at h
      obtain ⟨⟨⟨⟨rfl, rfl⟩, h1⟩, h2⟩, h3⟩ := h
      refine (pe_chain (hr X (roomU hX)) (hr' X (roomU hX)) (a.ok L lv X ce x hX hn.1 h1) (b.ok L lv X ce y hX hn.2.1 h2) (c.ok L lv X ce z hX hn.2.2 h3) (by simp only [lastMarks]; exact nobehind _ ho.1 ho.2)).imp ?_
      rw [hX.K]
      exact chain_imp hp hp' _ _ _
    · cases h
  okT := fun L lv X ce e hX hn h => by
    split at h
    · rename_i x p p' y z pos
      simp only [Bool.and_eq_true, decide_eq_true_eq] at h
      obtain ⟨⟨⟨⟨rfl, rfl⟩, h1⟩, h2⟩, h3⟩ := h
      refine (pt_chain (hr X (roomU hX)) (hr' X (roomU hX)) (a.ok L lv X ce x hX hn.1 h1) (b.ok L lv X ce y hX hn.2.1 h2) (c.ok L lv X ce z hX hn.2.2 h3) (by simp only [lastMarks]; exact nobehind _ ho.1 ho.2)).imp fun σ H Q q => ?_
      rw [hX.K]
      exact chain_imp hp hp' _ _ _ σ H _ q
    · cases h
/-- a <= b <= c -/
def cLeLe (a b c : EI G) : CI G := mkChain .LtE .LtE ⟨by decide, by decide⟩ (fun _ => rB (fun i j => decide (i ≤ j)) fun i j => !decide (j < i)) (fun _ => rB (fun i j => decide (i ≤ j)) fun i j => !decide (j < i)) opLe opLe prim_B prim_B (fun X hu => op_le.or op_le_str) (fun X hu => op_le.or op_le_str) a b c

def truD (v : Vl) (s : Stt G) : Option Bool := match v with
  | .dat .non => some false
  | .dat (.bl b) => some b
  | .dat (.int i) => some (i != 0)
  | .dat (.str x) => if x.length ≤ sizeLine then some ((x.length : Int) != 0) else none
  | .dat (.tup xs) => some (!xs.isEmpty)
  | .dat (.lst xs) => some (!xs.isEmpty)
  | .own xs => some (!xs.isEmpty)
  | .pk i => (seqOf (.pk i) s).map fun p => !p.2.isEmpty
  | _ => none
theorem isEmpty_rep {K : PySem.W.Frag} {θ : TT'} {B : Hp} {xs : List D} {vs : List V} (h : Reps K θ B xs vs) : xs.isEmpty = vs.isEmpty := by
  have := h.length
  cases xs <;> cases vs <;> first | rfl | (simp at this)
theorem truD_ok {L : Law G} {B0 H0 B H : Hp} {θ0 θ : TT'} {σ : Sg} {s : Stt G} {v : Vl} {x : V} {k : Bool} (so : SO L B0 H0 θ0 B H θ σ s.fr s.g) (vo : ValOk L.K H0 B H θ σ s.fr v x) (h : truD v s = some k) : TruV L.K x H k := by
  have fin : ∀ {b : Bool} {xs : List D} (v : Vl), seqOf v s = some (b, xs) → ValOk L.K H0 B H θ σ s.fr v x → TruV L.K x H (!xs.isEmpty) := fun {b xs} v e vo => by
    obtain ⟨a, vs, rfl, e2, e3⟩ := seqOf_ok so vo e
    show (∃ xs, SqL L.K H a xs ∧ _) ∨ (∃ xs, SqT L.K H a xs ∧ _) ∨ _
    cases b with
    | true => exact .inl ⟨vs, SqL.of (show H a = some (.lst vs) from e2), by rw [isEmpty_rep e3]⟩
    | false => exact .inr (.inl ⟨vs, e2, by rw [isEmpty_rep e3]⟩)
  unfold truD at h
  split at h
  · cases h
    rw [rep_non.mp (show Rep L.K θ B _ x from vo)]; rfl
  · cases h
    rw [rep_bl.mp (show Rep L.K θ B _ x from vo)]; rfl
  · cases h
    rw [rep_int.mp (show Rep L.K θ B _ x from vo)]; rfl
  · split at h
    · rename_i hl
      cases h
      rw [rep_str.mp (show Rep L.K θ B _ x from vo)]; exact ⟨hl, rfl⟩
    · cases h
  · cases h; exact fin _ rfl vo
  · cases h; exact fin _ rfl vo
  · cases h; exact fin _ rfl vo
  · rename_i i
    cases e : seqOf (.pk i) s with
    | none => rw [e] at h; cases h
    | some p =>
      obtain ⟨b, xs⟩ := p
      rw [e] at h; cases h
      exact fin _ e vo
  · cases h
/-- a value's truth -/
def dTru (a : EDen G) : TDen G := fun s => (a s).bind fun v s => opt (truD v s) s
def eNot (a : EI G) : EI G where
  chk := fun ce e => match e with
    | .UnaryOp .Not x _ => a.chk ce x
    | _ => false
  den := fun s => (dTru a.den s).bind fun k s => .ok (.dat (.bl (!k))) s
  need := a.need
  ok := fun L lv X ce e hX hn h => by
    split at h
    · rename_i x pos
      refine (pe_notT (a.ok L lv X ce x hX hn h)).imp ?_
      rintro σ H Q ⟨B0, H0, θ0, B, θ, s, so, q⟩
      dsimp only [dTru] at q
      rw [Out.bind_assoc] at q
      refine tD_run so q fun v s' x H' B' θ' q' so' st vo fv => ?_
      obtain ⟨k, e, q2⟩ := opt_sat (Out.sat_bind.mp q')
      rw [hX.K]
      exact ⟨k, truD_ok so' vo e, q2 _ H' B' θ' so' st vo_bl trivial⟩
    · cases h
/-- the rest of an «and», an «or», as a value -/
structure BI (G : Type) (o : BoolOp) where
  chk : CE → List Expr → Bool
  den : EDen G
  need : Law G → Nat → Prop
  ok : ∀ (L : Law G) (lv : Nat) (X : Cx) (ce : CE) (es : List Expr) (pos : Pos), Ok L X ce lv → need L lv → chk ce es = true → es ≠ [] ∧ PE X (.BoolOp o es pos) (tD L den)
def bOne {o : BoolOp} (a : EI G) : BI G o where
  chk := fun ce es => match es with
    | [x] => a.chk ce x
    | _ => false
  den := a.den
  need := a.need
  ok := fun L lv X ce es pos hX hn h => by
    split at h
    · exact ⟨by simp, pe_one (a.ok L lv X ce _ hX hn h)⟩
    · cases h
def dAnd (a b : EDen G) : EDen G := fun s => (a s).bind fun v s => (opt (truD v s) s).bind fun k s => if k = true then b s else .ok v s
def dOr (a b : EDen G) : EDen G := fun s => (a s).bind fun v s => (opt (truD v s) s).bind fun k s => if k = true then .ok v s else b s
theorem tD_tail {L : Law G} {f : EDen G} {B0 H0 B H B' H' : Hp} {θ0 θ θ' : TT'} {σ : Sg} {s s' : Stt G} {Q : VK} (q : (f s').sat (PostV L B0 H0 θ0 σ s B H θ Q) noE) (so : SO L B0 H0 θ0 B' H' θ' σ s'.fr s'.g) (st : Stp σ s.fr s'.fr θ θ' B B' H H') : tD L f σ H' Q :=
  ⟨B0, H0, θ0, B', θ', s', so, Out.sat_mono q (fun v s2 k x H2 B2 θ2 so2 st2 vo fv => k x H2 B2 θ2 so2 (st.trans st2) vo (fv.lift st.ex)) fun _ _ z => z⟩
def bAnd (a : EI G) (b : BI G .And) : BI G .And where
  chk := fun ce es => match es with
    | x :: r => a.chk ce x && b.chk ce r
    | _ => false
  den := dAnd a.den b.den
  need := fun L lv => a.need L lv ∧ b.need L lv
  ok := fun L lv X ce es pos hX hn h => by
    split at h
    · rename_i x r
      simp only [Bool.and_eq_true] at h
      obtain ⟨hne, hb⟩ := b.ok L lv X ce r pos hX hn.2 h.2
      refine ⟨by simp, ?_⟩
      match r, hne, hb with
      | y :: r, _, hb =>
      refine (pe_andT (a.ok L lv X ce x hX hn.1 h.1) hb).imp ?_
      rintro σ H Q ⟨B0, H0, θ0, B, θ, s, so, q⟩
      refine tD_run so q fun v s' x H' B' θ' q' so' st vo fv => ?_
      obtain ⟨k, e, q2⟩ := opt_sat (Out.sat_bind.mp q')
      rw [hX.K]
      refine ⟨k, truD_ok so' vo e, ?_⟩
      cases k with
      | true => rw [if_pos rfl] at q2 ⊢; exact tD_tail q2 so' st
      | false => rw [if_neg Bool.false_ne_true] at q2 ⊢; exact q2 x H' B' θ' so' st vo fv
    · cases h
def bOr (a : EI G) (b : BI G .Or) : BI G .Or where
  chk := fun ce es => match es with
    | x :: r => a.chk ce x && b.chk ce r
    | _ => false
  den := dOr a.den b.den
  need := fun L lv => a.need L lv ∧ b.need L lv
  ok := fun L lv X ce es pos hX hn h => by
    split at h
    · rename_i x r
      simp only [Bool.and_eq_true] at h
      obtain ⟨hne, hb⟩ := b.ok L lv X ce r pos hX hn.2 h.2
      refine ⟨by simp, ?_⟩
      match r, hne, hb with
      | y :: r, _, hb =>
      refine (pe_orT (a.ok L lv X ce x hX hn.1 h.1) hb).imp ?_
      rintro σ H Q ⟨B0, H0, θ0, B, θ, s, so, q⟩
      refine tD_run so q fun v s' x H' B' θ' q' so' st vo fv => ?_
      obtain ⟨k, e, q2⟩ := opt_sat (Out.sat_bind.mp q')
      rw [hX.K]
      refine ⟨k, truD_ok so' vo e, ?_⟩
      cases k with
      | true => rw [if_pos rfl] at q2 ⊢; exact q2 x H' B' θ' so' st vo fv
      | false => rw [if_neg Bool.false_ne_true] at q2 ⊢; exact tD_tail q2 so' st
    · cases h
def eBool {o : BoolOp} (b : BI G o) : EI G where
  chk := fun ce e => match e with
    | .BoolOp p es _ => decide (p = o) && b.chk ce es
    | _ => false
  den := b.den
  need := b.need
  ok := fun L lv X ce e hX hn h => by
    split at h
    · rename_i p es pos
      simp only [Bool.and_eq_true, decide_eq_true_eq] at h
      obtain ⟨rfl, h⟩ := h
      exact (b.ok L lv X ce es pos hX hn h).2
    · cases h

def plainT (e : Expr) : Bool := match e with
  | .UnaryOp .Not _ _ => false
  | .BoolOp _ _ _ => false
  | .IfExp _ _ _ _ => false
  | .Compare _ _ _ _ => false
  | _ => true
theorem plainT_ok {e : Expr} {env : Env} (h : plainT e = true) : ∀ whole, isTrue e env whole = (do let v ← whole; standAt e.pos; holding [v] (truthy v)) := by
  intro whole
  cases e <;> first | rfl | exact absurd h Bool.false_ne_true | skip
  rename_i o x pos
  cases o <;> first | rfl | exact absurd h Bool.false_ne_true
/-- a value, by its truth -/
def tV (a : EI G) : TI' G where
  chk := fun ce e => plainT e && a.chk ce e
  den := dTru a.den
  need := a.need
  ok := fun L lv X ce e hX hn h => by
    simp only [Bool.and_eq_true] at h
    refine (pt_truth (a.ok L lv X ce e hX hn h.2) (plainT_ok h.1)).imp ?_
    rintro σ H Q ⟨B0, H0, θ0, B, θ, s, so, q⟩
    refine tD_run so q fun v s' x H' B' θ' q' so' st vo fv => ?_
    obtain ⟨k, e, q2⟩ := opt_sat q'
    rw [hX.K]
    exact ⟨k, truD_ok so' vo e, q2 H' B' θ' so' st⟩
def tNt (a : TI' G) : TI' G where
  chk := fun ce e => match e with
    | .UnaryOp .Not x _ => a.chk ce x
    | _ => false
  den := fun s => (a.den s).bind fun k s => .ok (!k) s
  need := a.need
  ok := fun L lv X ce e hX hn h => by
    split at h
    · rename_i x pos
      refine (pt_not (a.ok L lv X ce x hX hn h)).imp ?_
      rintro σ H Q ⟨B0, H0, θ0, B, θ, s, so, q⟩
      exact tDT_run so q fun b s' H' B' θ' q' so' st => q' H' B' θ' so' st
    · cases h
structure WI (G : Type) (o : BoolOp) where
  chk : CE → List Expr → Bool
  den : TDen G
  need : Law G → Nat → Prop
  ok : ∀ (L : Law G) (lv : Nat) (X : Cx) (ce : CE) (es : List Expr) (pos : Pos), Ok L X ce lv → need L lv → chk ce es = true → es ≠ [] ∧ PW X (.BoolOp o es pos) (tDT L den)
def wOne (o : BoolOp) (a : TI' G) : WI G o where
  chk := fun ce es => match es with
    | [x] => a.chk ce x
    | _ => false
  den := a.den
  need := a.need
  ok := fun L lv X ce es pos hX hn h => by
    split at h
    · refine ⟨by simp, ?_⟩
      cases o with
      | And => exact pw_and1 (a.ok L lv X ce _ hX hn h)
      | Or => exact pw_or1 (a.ok L lv X ce _ hX hn h)
    · cases h
def dtAnd (a b : TDen G) : TDen G := fun s => (a s).bind fun k s => if k = true then b s else .ok false s
def dtOr (a b : TDen G) : TDen G := fun s => (a s).bind fun k s => if k = true then .ok true s else b s
theorem tDT_tail {L : Law G} {f : TDen G} {B0 H0 B H B' H' : Hp} {θ0 θ θ' : TT'} {σ : Sg} {s s' : Stt G} {Q : Bool → Hp → Prop} (q : (f s').sat (fun b s' => ∀ H' B' θ', SO L B0 H0 θ0 B' H' θ' σ s'.fr s'.g → Stp σ s.fr s'.fr θ θ' B B' H H' → Q b H') noE) (so : SO L B0 H0 θ0 B' H' θ' σ s'.fr s'.g) (st : Stp σ s.fr s'.fr θ θ' B B' H H') : tDT L f σ H' Q :=
  ⟨B0, H0, θ0, B', θ', s', so, Out.sat_mono q (fun v s2 k H2 B2 θ2 so2 st2 => k H2 B2 θ2 so2 (st.trans st2)) fun _ _ z => z⟩
theorem _root_.L2.PW.imp {X : Cx} {e : Expr} {t t' : TT} (h : PW X e t) (k : ∀ σ H Q, t' σ H Q → t σ H Q) : PW X e t' := ⟨fun wh pins s σ H Q I q => h.run wh pins s σ H Q I (k σ H Q q)⟩
def wAnd (a : TI' G) (b : WI G .And) : WI G .And where
  chk := fun ce es => match es with
    | x :: r => a.chk ce x && b.chk ce r
    | _ => false
  den := dtAnd a.den b.den
  need := fun L lv => a.need L lv ∧ b.need L lv
  ok := fun L lv X ce es pos hX hn h => by
    split at h
    · rename_i x r
      simp only [Bool.and_eq_true] at h
      obtain ⟨hne, hb⟩ := b.ok L lv X ce r pos hX hn.2 h.2
      refine ⟨by simp, ?_⟩
      match r, hne, hb with
      | y :: r, _, hb =>
      refine (pw_and (a.ok L lv X ce x hX hn.1 h.1) hb).imp ?_
      rintro σ H Q ⟨B0, H0, θ0, B, θ, s, so, q⟩
      refine tDT_run so q fun k s' H' B' θ' q2 so' st => ?_
      cases k with
      | true => rw [if_pos rfl] at q2 ⊢; exact tDT_tail q2 so' st
      | false => rw [if_neg Bool.false_ne_true] at q2 ⊢; exact q2 H' B' θ' so' st
    · cases h
def wOr (a : TI' G) (b : WI G .Or) : WI G .Or where
  chk := fun ce es => match es with
    | x :: r => a.chk ce x && b.chk ce r
    | _ => false
  den := dtOr a.den b.den
  need := fun L lv => a.need L lv ∧ b.need L lv
  ok := fun L lv X ce es pos hX hn h => by
    split at h
    · rename_i x r
      simp only [Bool.and_eq_true] at h
      obtain ⟨hne, hb⟩ := b.ok L lv X ce r pos hX hn.2 h.2
      refine ⟨by simp, ?_⟩
      match r, hne, hb with
      | y :: r, _, hb =>
      refine (pw_or (a.ok L lv X ce x hX hn.1 h.1) hb).imp ?_
      rintro σ H Q ⟨B0, H0, θ0, B, θ, s, so, q⟩
      refine tDT_run so q fun k s' H' B' θ' q2 so' st => ?_
      cases k with
      | true => rw [if_pos rfl] at q2 ⊢; exact q2 H' B' θ' so' st
      | false => rw [if_neg Bool.false_ne_true] at q2 ⊢; exact tDT_tail q2 so' st
    · cases h
def tBool {o : BoolOp} (b : WI G o) : TI' G where
  chk := fun ce e => match e with
    | .BoolOp p es _ => decide (p = o) && b.chk ce es
    | _ => false
  den := b.den
  need := b.need
  ok := fun L lv X ce e hX hn h => by
    split at h
    · rename_i p es pos
      simp only [Bool.and_eq_true, decide_eq_true_eq] at h
      obtain ⟨rfl, h⟩ := h
      exact (b.ok L lv X ce es pos hX hn h).2.pt
    · cases h
/-- a if t else b -/
def eIf (t : TI' G) (a b : EI G) : EI G where
  chk := fun ce e => match e with
    | .IfExp c x y _ => t.chk ce c && a.chk ce x && b.chk ce y
    | _ => false
  den := fun s => (t.den s).bind fun k s => if k = true then a.den s else b.den s
  need := fun L lv => t.need L lv ∧ a.need L lv ∧ b.need L lv
  ok := fun L lv X ce e hX hn h => by
    split at h
    · rename_i c x y pos
      simp only [Bool.and_eq_true] at h
      refine (pe_ifExp (t.ok L lv X ce c hX hn.1 h.1.1) (a.ok L lv X ce x hX hn.2.1 h.1.2) (b.ok L lv X ce y hX hn.2.2 h.2)).imp ?_
      rintro σ H Q ⟨B0, H0, θ0, B, θ, s, so, q⟩
      refine tDT_run so q fun k s' H' B' θ' q2 so' st => ?_
      cases k with
      | true => rw [if_pos rfl] at q2 ⊢; exact tD_tail q2 so' st
      | false => rw [if_neg Bool.false_ne_true] at q2 ⊢; exact tD_tail q2 so' st
    · cases h
end RB

namespace RB
open PySem PySem.Spec PyProof.Rows L2
variable {G : Type}

def notStar (e : Expr) : Bool := match e with
  | .Starred _ _ => false
  | _ => true
theorem star_cons {e : Expr} {es : List Expr} {env : Env} (h : notStar e = true) : starEach (e :: es) env = (false, eval e env) :: starEach es env := by
  cases e <;> first | rfl | exact absurd h Bool.false_ne_true
def aNil : AI G where
  n := 0
  len := fun s ds s' h => by cases h; rfl
  chk := fun _ es => match es with
    | [] => true
    | _ => false
  den := fun s => .ok [] s
  need := fun _ _ => True
  ok := fun L lv X ce es hX hn h => by
    split at h
    · refine pa_nil.imp ?_
      rintro σ H Q ⟨B0, H0, θ0, B, θ, s, so, q⟩
      exact q [] H B θ so .refl (Reps.nil.mpr rfl)
    · cases h
def dCons (a : EDen G) (r : ADen G) : ADen G := fun s => (eD a s).bind fun d s => (r s).bind fun ds s => .ok (d :: ds) s
theorem Out.bind_ok {S α β : Type} {m : Out S α} {k : α → S → Out S β} {b : β} {s' : S} (h : m.bind k = .ok b s') : ∃ a s, m = .ok a s ∧ k a s = .ok b s' := by
  cases m with
  | ok a s => exact ⟨a, s, rfl, h⟩
  | exc x s => cases h
  | bad => cases h
def aCons (a : EI G) (r : AI G) : AI G where
  n := r.n + 1
  len := fun s ds s' h => by
    obtain ⟨d, s1, _, h⟩ := Out.bind_ok h
    obtain ⟨es, s2, h2, h⟩ := Out.bind_ok h
    cases h
    rw [List.length_cons, r.len _ _ _ h2]
  chk := fun ce es => match es with
    | x :: xs => notStar x && a.chk ce x && r.chk ce xs
    | _ => false
  den := dCons a.den r.den
  need := fun L lv => a.need L lv ∧ r.need L lv
  ok := fun L lv X ce es hX hn h => by
    split at h
    · rename_i x xs
      simp only [Bool.and_eq_true] at h
      refine (pa_cons (a.ok L lv X ce x hX hn.1 h.1.2) (r.ok L lv X ce xs hX hn.2 h.2) (star_cons h.1.1)).imp ?_
      rintro σ H Q ⟨B0, H0, θ0, B, θ, s, so, q⟩
      refine tD_runD so q fun d s1 x H1 B1 θ1 q1 so1 st1 r1 => ?_
      refine tDA_run so1 q1 fun ds s2 vs H2 B2 θ2 q2 so2 st2 r2 => ?_
      exact q2 (x :: vs) H2 B2 θ2 so2 (st1.trans st2) (Reps.mk (Rep.mono st2.same st2.pre _ _ r1) r2)
    · cases h

def eTup (a : AI G) : EI G where
  chk := fun ce e => match e with
    | .Tuple es _ _ => a.chk ce es
    | _ => false
  den := fun s => (a.den s).bind fun ds s => if ds.length ≤ sizeLine then .ok (.dat (.tup ds)) s else .bad
  need := a.need
  ok := fun L lv X ce e hX hn h => by
    split at h
    · rename_i es k pos
      refine (pe_tup (a.ok L lv X ce es hX hn h)).imp ?_
      rintro σ H Q ⟨B0, H0, θ0, B, θ, s, so, q⟩
      refine tDA_run so q fun ds s1 vs H1 B1 θ1 q1 so1 st1 r1 => ?_
      split at q1
      · rename_i hl
        refine ⟨by rw [← r1.length]; exact hl, fun p hp => ?_⟩
        obtain ⟨h1, h2, h3⟩ := new_tup so1 hp r1
        exact q1 _ _ _ θ1 h1 (st1.trans h2) (vo_dat h3) trivial
      · exact q1.elim
    · cases h
def eLst (a : AI G) : EI G where
  chk := fun ce e => match e with
    | .List es _ => a.chk ce es
    | _ => false
  den := fun s => (a.den s).bind fun ds s => if ds.length ≤ sizeLine then .ok (.own ds) s else .bad
  need := a.need
  ok := fun L lv X ce e hX hn h => by
    split at h
    · rename_i es pos
      refine (pe_lst (a.ok L lv X ce es hX hn h)).imp ?_
      rintro σ H Q ⟨B0, H0, θ0, B, θ, s, so, q⟩
      refine tDA_run so q fun ds s1 vs H1 B1 θ1 q1 so1 st1 r1 => ?_
      split at q1
      · rename_i hl
        refine ⟨by rw [← r1.length]; exact hl, fun p hp => ?_⟩
        obtain ⟨h1, h2, h3, h4⟩ := new_lst so1 hp r1
        exact q1 _ _ _ θ1 h1 (st1.trans h2) h3 (h4.lift st1.ex)
      · exact q1.elim
    · cases h

def notSlice (e : Expr) : Bool := match e with
  | .Slice _ _ _ _ => false
  | _ => true
theorem plainIx_of {e : Expr} (h : notSlice e = true) : PlainIx e := by
  intro o i
  cases e <;> first | rfl | exact absurd h Bool.false_ne_true
def ixD (v : Vl) (d : D) (s : Stt G) : Option Vl := match d with
  | .int i => match v with
    | .dat (.str z) => if z.length ≤ sizeLine then (atI z.cps.toList i).map fun c => .dat (.str ⟨#[c]⟩) else none
    | v => match seqOf v s with
      | some (_, xs) => (atI xs i).map .dat
      | none => none
  | _ => none
theorem atI_rep {K : PySem.W.Frag} {θ : TT'} {B : Hp} {xs : List D} {vs : List V} {i : Int} {d : D} (h : Reps K θ B xs vs) (e : atI xs i = some d) : ∃ v, atI vs i = some v ∧ Rep K θ B d v := by
  unfold atI at e ⊢
  rw [← h.length]
  obtain ⟨j, e1, e2⟩ := Option.bind_eq_some_iff.mp e
  obtain ⟨v, e3, e4⟩ := h.get e2
  exact ⟨v, by rw [e1]; exact e3, e4⟩
theorem valOk_step {K : PySem.W.Frag} {H0 B B' H H' : Hp} {θ θ' : TT'} {σ : Sg} {fr fr' : Fr} {v : Vl} {x : V} (st : Stp σ fr fr' θ θ' B B' H H') (hv : ∀ xs, v ≠ .own xs) (hk : ∀ i, v = .pk i → ∃ xs, fr'[i]? = some (some (.own xs))) (vo : ValOk K H0 B H θ σ fr v x) : ValOk K H0 B' H' θ' σ fr' v x := by
  cases v with
  | dat d => exact Rep.mono st.same st.pre d x vo
  | own xs => exact absurd rfl (hv xs)
  | pk i => exact ⟨vo.1, hk i rfl⟩
theorem hold_ne (v : Vl) : ∀ xs, hold v ≠ .own xs := by intro xs; cases v <;> (intro e; cases e)
def eIx (a b : EI G) : EI G where
  chk := fun ce e => match e with
    | .Subscript x y _ => notSlice y && a.chk ce x && b.chk ce y
    | _ => false
  den := fun s => (a.den s).bind fun v s => (eD b.den s).bind fun d s => opt (ixD (hold v) d s) s
  need := fun L lv => a.need L lv ∧ b.need L lv
  ok := fun L lv X ce e hX hn h => by
    split at h
    · rename_i x y pos
      simp only [Bool.and_eq_true] at h
      refine (pe_ix ix_seq (a.ok L lv X ce x hX hn.1 h.1.2) (b.ok L lv X ce y hX hn.2 h.2) (plainIx_of h.1.1)).imp ?_
      rw [hX.K]
      rintro σ H Q ⟨B0, H0, θ0, B, θ, s, so, q⟩
      refine tD_run so q fun v s1 x H1 B1 θ1 q1 so1 st1 vo1 fv1 => ?_
      obtain ⟨B1', so1', st1', vo1'⟩ := hold_ok so1 vo1 st1 fv1
      refine tD_runD so1' q1 fun d s2 y H2 B2 θ2 q2 so2 st2 r2 => ?_
      obtain ⟨w, e, q3⟩ := opt_sat q2
      have stf := st1'.trans st2
      unfold ixD at e
      split at e
      · rename_i i
        have ey := rep_int.mp r2
        have hne := hold_ne v
        generalize hold v = hv at e vo1' hne
        split at e
        · rename_i z
          split at e
          · rename_i hl
            obtain ⟨c, e1, rfl⟩ := Option.map_eq_some_iff.mp e
            exact .inr (.inr ⟨z, i, c, rep_str.mp (show Rep L.K θ1 B1' _ x from vo1'), ey, hl, e1, q3 _ H2 B2 θ2 so2 stf vo_str trivial⟩)
          · cases e
        · split at e
          · rename_i u hs b xs es
            obtain ⟨w', e1, rfl⟩ := Option.map_eq_some_iff.mp e
            have vo2 : ValOk L.K H0 B2 H2 θ2 σ s2.fr hv x := by
              refine valOk_step st2 (fun ys e => ?_) (fun j e => ?_) vo1'
              · exact hne ys e
              · subst e
                unfold seqOf at es
                dsimp only at es
                split at es
                · rename_i ys e3; exact ⟨ys, e3⟩
                · cases es
            obtain ⟨a, vs, rfl, e2, e3⟩ := seqOf_ok so2 vo2 es
            obtain ⟨u, e4, e5⟩ := atI_rep e3 e1
            have fin := q3 u H2 B2 θ2 so2 stf (vo_dat e5) trivial
            cases b with
            | true => exact .inl ⟨a, vs, i, u, rfl, ey, SqL.of (show H2 a = some (.lst vs) from e2), e4, fin⟩
            | false => exact .inr (.inl ⟨a, vs, i, u, rfl, ey, e2, e4, fin⟩)
          · cases e
      · cases e
    · cases h

/-- a slice's part -/
structure OI (G : Type) where
  chk : CE → Option Expr → Bool
  den : Stt G → Out (Stt G) (Option Int)
  need : Law G → Nat → Prop
  ok : ∀ (L : Law G) (lv : Nat) (X : Cx) (ce : CE) (e : Option Expr), Ok L X ce lv → need L lv → chk ce e = true → PO X e (fun σ H Q => ∃ B0 H0 θ0 B θ s, SO L B0 H0 θ0 B H θ σ s.fr s.g ∧ (den s).sat (fun b s' =>
    ∀ H' B' θ', SO L B0 H0 θ0 B' H' θ' σ s'.fr s'.g → Stp σ s.fr s'.fr θ θ' B B' H H' → Q b H') noE)
theorem _root_.L2.PO.imp {X : Cx} {e : Option Expr} {t t' : TO} (h : PO X e t) (k : ∀ σ H Q, t' σ H Q → t σ H Q) : PO X e t' := ⟨fun pins s σ H Q I q => h.run pins s σ H Q I (k σ H Q q)⟩
def oNone : OI G where
  chk := fun _ e => match e with
    | none => true
    | _ => false
  den := fun s => .ok none s
  need := fun _ _ => True
  ok := fun L lv X ce e hX hn h => by
    split at h
    · refine po_none.imp ?_
      rintro σ H Q ⟨B0, H0, θ0, B, θ, s, so, q⟩
      exact q H B θ so .refl
    · cases h
def oSome (a : EI G) : OI G where
  chk := fun ce e => match e with
    | some x => a.chk ce x
    | none => false
  den := fun s => (eD a.den s).bind fun d s => match d with
    | .int i => .ok (some i) s
    | _ => .bad
  need := a.need
  ok := fun L lv X ce e hX hn h => by
    split at h
    · rename_i x
      refine (po_some (a.ok L lv X ce x hX hn h)).imp ?_
      rintro σ H Q ⟨B0, H0, θ0, B, θ, s, so, q⟩
      refine tD_runD so q fun d s1 x H1 B1 θ1 q1 so1 st1 r1 => ?_
      split at q1
      · rename_i i
        exact ⟨i, rep_int.mp r1, q1 H1 B1 θ1 so1 st1⟩
      · exact q1.elim
    · cases h
def cutL {α : Type} (xs : List α) (lo hi : Option Int) : List α := (xs.drop (HT.sIx xs.length 0 lo)).take (HT.sIx xs.length xs.length hi - HT.sIx xs.length 0 lo)
def slD (v : Vl) (lo hi : Option Int) (s : Stt G) : Option Vl := match v with
  | .dat (.str z) => if z.length ≤ sizeLine then some (.dat (.str (cutS z lo hi))) else none
  | .dat (.scr ns) => some (.own ((cutL ns lo hi).map .int))
  | v => match seqOf v s with
    | some (true, xs) => some (.own (cutL xs lo hi))
    | some (false, xs) => some (.dat (.tup (cutL xs lo hi)))
    | none => none
theorem cut_rep {K : PySem.W.Frag} {θ : TT'} {B : Hp} {xs : List D} {vs : List V} (lo hi : Option Int) (h : Reps K θ B xs vs) : Reps K θ B (cutL xs lo hi) (cutV vs lo hi) := by
  unfold cutL cutV
  rw [← h.length]
  exact (h.drop _).take _
theorem reps_ints {K : PySem.W.Frag} {θ : TT'} {B : Hp} : ∀ (ns : List Int), Reps K θ B (ns.map .int) (ns.map V.int)
  | [] => Reps.nil.mpr rfl
  | n :: ns => Reps.mk (rep_int.mpr rfl) (reps_ints ns)
theorem cutV_map (ns : List Int) (lo hi : Option Int) : cutV (ns.map V.int) lo hi = (cutL ns lo hi).map V.int := by
  unfold cutV cutL
  rw [List.length_map, List.map_take, List.map_drop]
def rSlAll (K : PySem.W.Frag) : V → Option Int → Option Int → Hp → VK → Prop := fun x lo hi H Q => rSlA K x lo hi H Q ∨ (rSlL K x lo hi H Q ∨ rSlS x lo hi H Q)
theorem slD_ok {L : Law G} {B0 H0 B H : Hp} {θ0 θ : TT'} {σ : Sg} {s : Stt G} {v w : Vl} {x : V} {lo hi : Option Int} {Q : VK} (so : SO L B0 H0 θ0 B H θ σ s.fr s.g) (vo : ValOk L.K H0 B H θ σ s.fr v x) (h : slD v lo hi s = some w)
    (q : ∀ z H' B', SO L B0 H0 θ0 B' H' θ σ s.fr s.g → Stp σ s.fr s.fr θ θ B B' H H' → ValOk L.K H0 B' H' θ σ s.fr w z → FreshV H w z → Q z H') : rSlAll L.K x lo hi H Q := by
  unfold slD at h
  split at h
  · rename_i z
    split at h
    · rename_i hl
      cases h
      exact .inr (.inr ⟨z, rep_str.mp (show Rep L.K θ B _ x from vo), hl, q _ H B so .refl vo_str trivial⟩)
    · cases h
  · rename_i ns
    cases h
    have vo' : Rep L.K θ B (.scr ns) x := vo
    simp only [Rep] at vo'
    obtain ⟨a, rfl, e2⟩ := vo'
    refine .inr (.inl ⟨a, _, rfl, so.core.bh.seq e2, fun p hp => ?_⟩)
    rw [cutV_map]
    obtain ⟨h1, h2, h3, h4⟩ := new_lst so hp (reps_ints (K := L.K) (θ := θ) (B := B) (cutL ns lo hi))
    exact q _ _ _ h1 h2 h3 h4
  · split at h
    · rename_i es
      cases h
      obtain ⟨a, vs, rfl, e2, e3⟩ := seqOf_ok so vo es
      refine .inr (.inl ⟨a, vs, rfl, SqL.of (show H a = some (.lst vs) from e2), fun p hp => ?_⟩)
      obtain ⟨h1, h2, h3, h4⟩ := new_lst so hp (cut_rep lo hi e3)
      exact q _ _ _ h1 h2 h3 h4
    · rename_i xs es
      cases h
      obtain ⟨a, vs, rfl, e2, e3⟩ := seqOf_ok so vo es
      have e2 : SqT L.K H a vs := e2
      refine .inl ⟨a, vs, rfl, e2, fun hw => ?_, fun hw p hp => ?_⟩
      · have hc : cutL xs lo hi = xs := by
          unfold cutL
          rw [e3.length, hw.1, hw.2, List.drop_zero, Nat.sub_zero, ← e3.length, List.take_length]
        rw [hc] at q
        have vo2 : ValOk L.K H0 B H θ σ s.fr (.dat (.tup xs)) (.ref a) := by
          unfold seqOf at es
          split at es
          · cases es; exact vo
          · cases es
          · cases es
          · split at es <;> cases es
          · cases es
        exact q _ H B so .refl vo2 trivial
      · obtain ⟨h1, h2, h3⟩ := new_tup so hp (cut_rep lo hi e3)
        exact q _ _ _ h1 h2 (vo_dat h3) trivial
    · cases h
def eSl (a : EI G) (lo hi : OI G) : EI G where
  chk := fun ce e => match e with
    | .Subscript x (.Slice l u none _) _ => a.chk ce x && lo.chk ce l && hi.chk ce u
    | _ => false
  den := fun s => (a.den s).bind fun v s => (lo.den s).bind fun l s => (hi.den s).bind fun u s => opt (slD (hold v) l u s) s
  need := fun L lv => a.need L lv ∧ lo.need L lv ∧ hi.need L lv
  ok := fun L lv X ce e hX hn h => by
    split at h
    · rename_i x l u p2 pos
      simp only [Bool.and_eq_true] at h
      refine (pe_slice (sl_tupA.or (sl_list.or sl_str)) (a.ok L lv X ce x hX hn.1 h.1.1) (lo.ok L lv X ce l hX hn.2.1 h.1.2) (hi.ok L lv X ce u hX hn.2.2 h.2)).imp ?_
      rw [hX.K]
      rintro σ H Q ⟨B0, H0, θ0, B, θ, s, so, q⟩
      refine tD_run so q fun v s1 x H1 B1 θ1 q1 so1 st1 vo1 fv1 => ?_
      obtain ⟨B1', so1', st1', vo1'⟩ := hold_ok so1 vo1 st1 fv1
      refine ⟨B0, H0, θ0, B1', θ1, s1, so1', Out.sat_mono (Out.sat_bind.mp q1) (fun l s2 q2 H2 B2 θ2 so2 st2 => ?_) fun _ _ z => z⟩
      refine ⟨B0, H0, θ0, B2, θ2, s2, so2, Out.sat_mono (Out.sat_bind.mp q2) (fun u s3 q3 H3 B3 θ3 so3 st3 => ?_) fun _ _ z => z⟩
      obtain ⟨w, e, q4⟩ := opt_sat q3
      have stf := (st1'.trans st2).trans st3
      have hne := hold_ne v
      generalize hold v = hv at e vo1' hne
      have hk : ∀ i, hv = .pk i → ∃ xs, s3.fr[i]? = some (some (.own xs)) := fun i ei => by
        subst ei
        unfold slD at e
        dsimp only at e
        split at e
        · rename_i es
          unfold seqOf at es
          dsimp only at es
          split at es
          · rename_i ys e3; exact ⟨ys, e3⟩
          · cases es
        · rename_i es
          unfold seqOf at es
          dsimp only at es
          split at es
          · rename_i ys e3; exact ⟨ys, e3⟩
          · cases es
        · cases e
      have vo3 := valOk_step (st2.trans st3) hne hk vo1'
      exact slD_ok so3 vo3 e fun z H' B' so4 st4 vo4 fv4 => q4 z H' B' θ3 so4 (stf.trans st4) vo4 (fv4.lift stf.ex)
    · cases h

/-- what a def hands back -/
def RetOk (K : PySem.W.Frag) (H0 B H : Hp) (θ : TT') : Vl → V → Prop
  | .dat d, v => Rep K θ B d v
  | .own xs, v => ∃ a, v = .ref a ∧ OwnAt K H0 B H θ xs a
  | .pk _, _ => False
/-- a def: its name, how many parameters, its level, its meaning -/
structure FR (G : Type) where
  name : Str
  n : Nat
  lv : Nat
  F : List D → G → Out G Vl
def spD (L : Law G) (n : Nat) (F : List D → G → Out G Vl) : Sp := fun vs H Q E => ∃ B θ ds g, vs.length = n ∧ Same B H ∧ (∀ a ∈ θ.flatten, B a = none) ∧ (∀ a ∈ θ.flatten, H a ≠ none) ∧ L.RG g θ H ∧ Reps L.K θ B ds vs ∧
  (F ds g).sat (fun v g' => ∀ x H' B' θ', Core L B H θ B' H' θ' g' → RetOk L.K H B' H' θ' v x → Q x H') (fun _ _ => False)
/-- the def stands at its name -/
def FnAt (L : Law G) (lv : Nat) (c : FR G) : Prop := ∃ f fd ps, FnOk L.P L.w L.K L.mg L.base CX0 c.lv f fd ps (spD L c.n c.F) ∧ L.mg c.name = some (.ref f) ∧ PySem.W.keepIn L.K (.ref f) = true ∧ Binds L.K fd ps [] ∧ c.lv ≤ lv
section
variable {L : Law G} {B0 H0 B H B' H' : Hp} {θ0 θ θ' : TT'} {σ : Sg} {fr : Fr} {g g' : G}
theorem Core.alive (c : Core L B0 H0 θ0 B H θ g) {a : Addr} (h : H0 a ≠ none) : H a ≠ none := by
  cases e : H0 a with
  | none => exact absurd e h
  | some o =>
    by_cases z : a ∈ θ0.flatten
    · obtain ⟨r, er⟩ := c.th
      exact c.ta a (by rw [← er, List.flatten_append]; exact List.mem_append_left _ z)
    · rw [c.keep a o e z]; exact fun z => nomatch z
theorem Core.comp (c : Core L B0 H0 θ0 B H θ g) (d : Core L B H θ B' H' θ' g') : Core L B0 H0 θ0 B' H' θ' g' where
  bb := c.bb.trans d.bb
  bh := d.bh
  keep := fun a o e n => d.keep a o (c.keep a o e n) fun z => by
    have := c.thn a z n
    rw [e] at this; cases this
  bn := fun a e1 e2 => d.bn a (c.bn a e1 e2) (c.alive e2)
  th := c.th.trans d.th
  thn := fun a h n => by
    by_cases z : a ∈ θ.flatten
    · exact c.thn a z n
    · have e := d.thn a h z
      cases q : H0 a with
      | none => rfl
      | some o => rw [c.keep a o q n] at e; cases e
  tb := d.tb
  ta := d.ta
  rg := d.rg
theorem SO.call (so : SO L B0 H0 θ0 B H θ σ fr g) (d : Core L B H θ B' H' θ' g') : SO L B0 H0 θ0 B' H' θ' σ fr g' ∧ Stp σ fr fr θ θ' B B' H H' := by
  refine ⟨so.step (so.core.comp d) d.bb d.th fun a xs o hi => ?_, d.bb, d.th, fun a o e n _ => d.keep a o e n, fun _ h => h, (fun a h n => .inl (d.thn a h n)), fun a h => d.alive h, fun a h1 h2 _ => d.bn a h1 h2⟩
  obtain ⟨vs, e, _⟩ := o.ex
  have hne : H a ≠ none := by rw [e]; exact fun z => nomatch z
  refine ⟨d.bn a o.b hne, fun z => ?_, ?_⟩
  · have := d.thn a z o.t
    rw [e] at this; cases this
  · rw [e]; exact d.keep a _ e o.t
theorem SO.fresh (so : SO L B0 H0 θ0 B H θ σ fr g) {a : Addr} (h : H a = none) : ¬ OwnA σ fr a := by
  rintro ⟨i, ys, e1, e2⟩
  obtain ⟨v, e3, e4⟩ := so.sl i _ e1
  rw [e2] at e3; cases e3
  obtain ⟨b, e5, o⟩ := e4
  cases e5
  obtain ⟨ws, e6, _⟩ := o.ex
  rw [h] at e6; cases e6
theorem retOk_val (so : SO L B0 H0 θ0 B H θ σ fr g) {v : Vl} {x : V} (r : RetOk L.K H B' H' θ' v x) : ValOk L.K H0 B' H' θ' σ fr v x := by
  cases v with
  | dat d => exact r
  | own xs =>
    obtain ⟨a, e, o⟩ := r
    exact ⟨a, e, ⟨o.b, (so.core.fresh0 o.h0).1, o.t, o.ex⟩, so.fresh o.h0⟩
  | pk i => exact r.elim
end
theorem retOk_fresh {K : PySem.W.Frag} {H B' H' : Hp} {θ' : TT'} {v : Vl} {x : V} (r : RetOk K H B' H' θ' v x) : FreshV H v x := by
  cases v with
  | dat d => trivial
  | own xs =>
    obtain ⟨a, e, o⟩ := r
    intro b e'
    rw [e] at e'; cases e'
    exact o.h0
  | pk i => trivial
def dCall (F : List D → G → Out G Vl) (args : ADen G) : EDen G := fun s => (args s).bind fun ds s => match F ds s.g with
  | .ok v g => .ok v { s with g := g }
  | .exc x g => .exc x { s with g := g }
  | .bad => .bad
theorem key_call {L : Law G} {c : FR G} {args : AI G} (hn : args.n = c.n) : ∀ σ H Q, tD L (dCall c.F args.den) σ H Q → tDA L args.den σ H (fun vs H1 => spD L c.n c.F (vs ++ []) H1 Q E0) := by
  rintro σ H Q ⟨B0, H0, θ0, B, θ, s, so, q⟩
  refine ⟨B0, H0, θ0, B, θ, s, so, ?_⟩
  cases e0 : args.den s with
  | bad => rw [dCall, e0] at q; exact q
  | exc x g => rw [dCall, e0] at q; exact q
  | ok ds s1 =>
    rw [dCall, e0] at q
    intro vs H1 B1 θ1 so1 st1 r1
    have q1 : (match c.F ds s1.g with
      | .ok v g => (.ok v { s1 with g := g } : Out (Stt G) Vl)
      | .exc x g => .exc x { s1 with g := g }
      | .bad => .bad).sat (PostV L B0 H0 θ0 σ s B H θ Q) noE := q
    refine ⟨B1, θ1, ds, s1.g, by rw [List.append_nil, ← r1.length, args.len _ _ _ e0, hn], so1.core.bh, so1.core.tb, so1.core.ta, so1.core.rg, by rw [List.append_nil]; exact r1, ?_⟩
    cases e : c.F ds s1.g with
    | bad => rw [e] at q1; exact q1
    | exc x g => rw [e] at q1; exact q1
    | ok v g =>
      rw [e] at q1
      intro z H2 B2 θ2 d r
      obtain ⟨so2, st2⟩ := so1.call d
      exact q1 z H2 B2 θ2 so2 (st1.trans st2) (retOk_val so1 r) ((retOk_fresh r).lift st1.ex)
theorem plain_args {es : List Expr} {env : Env} {pos : Pos} (h : es.all notStar = true) : (backTo pos (starEach es env)).any (·.1) = false := by
  have key : ∀ es : List Expr, es.all notStar = true → (starEach es env).any (·.1) = false := by
    intro es
    induction es with
    | nil => intro _; rfl
    | cons e es ih =>
      intro h
      rw [List.all_cons, Bool.and_eq_true] at h
      rw [star_cons h.1, List.any_cons, ih h.2]; rfl
  have h2 := key es h
  have e2 : (backTo pos (starEach es env)).any (·.1) = (starEach es env).any (·.1) := by
    unfold backTo
    rw [List.any_map]
    rfl
  rw [e2, h2]
def eCall (c : FR G) (args : AI G) : EI G where
  chk := fun ce e => match e with
    | .Call (.Name x _) (e :: es) [] _ => decide (x = c.name) && glB ce c.name && args.chk ce (e :: es) && decide (args.n = c.n) && (e :: es).all notStar
    | _ => false
  den := dCall c.F args.den
  need := fun L lv => FnAt L lv c ∧ args.need L lv
  ok := fun L lv X ce e hX hn h => by
    split at h
    · rename_i x p e es pos
      simp only [Bool.and_eq_true, decide_eq_true_eq, List.all_cons] at h
      obtain ⟨⟨⟨⟨rfl, h2⟩, h3⟩, h4⟩, h5, h6⟩ := h
      obtain ⟨g1, g2⟩ := glB_ok hX h2
      obtain ⟨⟨f, fd, ps, F, m, kp, bd, hl⟩, hn2⟩ := hn
      have F' : FnOk X.prog X.w X.K X.mg X.base CX0 c.lv f fd ps (spD L c.n c.F) := by rw [hX.P, hX.w, hX.K, hX.mg, hX.base]; exact F
      exact (pe_call F' (hX.room.mono hl) g1 (by rw [hX.mg]; exact m) (by rw [hX.K]; exact kp) (by rw [hX.K]; exact bd) .nil pass0 (args.ok L lv X ce (e :: es) hX hn2 h3) g2 (star_cons h5) (plain_args h6)).imp (key_call h4)
    · cases h
def eCall0 (c : FR G) : EI G where
  chk := fun ce e => match e with
    | .Call (.Name x _) [] [] _ => decide (x = c.name) && glB ce c.name && decide (c.n = 0)
    | _ => false
  den := dCall c.F fun s => .ok [] s
  need := fun L lv => FnAt L lv c
  ok := fun L lv X ce e hX hn h => by
    split at h
    · rename_i x p pos
      simp only [Bool.and_eq_true, decide_eq_true_eq] at h
      obtain ⟨⟨rfl, h2⟩, h4⟩ := h
      obtain ⟨g1, g2⟩ := glB_ok hX h2
      obtain ⟨f, fd, ps, F, m, kp, bd, hl⟩ := hn
      have F' : FnOk X.prog X.w X.K X.mg X.base CX0 c.lv f fd ps (spD L c.n c.F) := by rw [hX.P, hX.w, hX.K, hX.mg, hX.base]; exact F
      refine (pe_call0 F' (hX.room.mono hl) g1 (by rw [hX.mg]; exact m) (by rw [hX.K]; exact kp) (by rw [hX.K]; exact bd) .nil pass0 g2).imp fun σ H Q q => ?_
      obtain ⟨B0, H0, θ0, B, θ, s, so, q1⟩ := key_call (args := aNil) (show 0 = c.n from h4.symm) σ H Q q
      exact q1 [] H B θ so .refl (Reps.nil.mpr rfl)
    · cases h
end RB

namespace RB
open PySem PySem.Spec PyProof.Rows L2
variable {G : Type}

inductive Fl (G : Type) where
  | nx (s : Stt G) | rt (v : Vl) (s : Stt G) | bk (s : Stt G) | ct (s : Stt G) | exc (x : Ex) (s : Stt G) | bad
abbrev SDen (G : Type) := Stt G → Fl G
def Fl.of {α : Type} (m : Out (Stt G) α) (k : α → Stt G → Fl G) : Fl G := match m with
  | .ok a s => k a s
  | .exc x s => .exc x s
  | .bad => .bad
def Fl.nxt (r : Fl G) (k : SDen G) : Fl G := match r with
  | .nx s => k s
  | r => r
section
variable (L : Law G) (B0 H0 : Hp) (θ0 : TT')
def FlSat (B : Hp) (θ : TT') (En : Ends) (r : Fl G) : Prop := match r with
  | .nx s' => ∀ σ' H' B' θ', SO L B0 H0 θ0 B' H' θ' σ' s'.fr s'.g → Same B B' → θ <+: θ' → En.nx σ' H'
  | .bk s' => ∀ σ' H' B' θ', SO L B0 H0 θ0 B' H' θ' σ' s'.fr s'.g → Same B B' → θ <+: θ' → En.bk σ' H'
  | .ct s' => ∀ σ' H' B' θ', SO L B0 H0 θ0 B' H' θ' σ' s'.fr s'.g → Same B B' → θ <+: θ' → En.ct σ' H'
  | .rt v s' => ∀ x H' B' θ', Core L B0 H0 θ0 B' H' θ' s'.g → RetOk L.K H0 B' H' θ' v x → En.rt x H'
  | .exc _ _ => False
  | .bad => False
end
def tDS (L : Law G) (f : SDen G) : TS := fun D σ H => ∃ B0 H0 θ0 B θ s, SO L B0 H0 θ0 B H θ σ s.fr s.g ∧ FlSat L B0 H0 θ0 B θ D (f s)
section
variable {L : Law G} {B0 H0 B H B' H' : Hp} {θ0 θ θ' : TT'} {σ : Sg} {s s' : Stt G} {En : Ends}
theorem FlSat.mono {r : Fl G} (h : FlSat L B0 H0 θ0 B θ En r) (e : Same B B') (t : θ <+: θ') : FlSat L B0 H0 θ0 B' θ' En r := by
  cases r with
  | nx s => exact fun σ1 H1 B1 θ1 a b c => h σ1 H1 B1 θ1 a (e.trans b) (t.trans c)
  | bk s => exact fun σ1 H1 B1 θ1 a b c => h σ1 H1 B1 θ1 a (e.trans b) (t.trans c)
  | ct s => exact fun σ1 H1 B1 θ1 a b c => h σ1 H1 B1 θ1 a (e.trans b) (t.trans c)
  | rt v s => exact h
  | exc x s => exact h
  | bad => exact h
/-- an expression, then what follows -/
theorem tD_runS {f : EDen G} {k : Vl → Stt G → Fl G} {Q : VK} (so : SO L B0 H0 θ0 B H θ σ s.fr s.g) (h : FlSat L B0 H0 θ0 B θ En (Fl.of (f s) k))
    (hc : ∀ v s' x H' B' θ', FlSat L B0 H0 θ0 B' θ' En (k v s') → SO L B0 H0 θ0 B' H' θ' σ s'.fr s'.g → Stp σ s.fr s'.fr θ θ' B B' H H' → ValOk L.K H0 B' H' θ' σ s'.fr v x → FreshV H v x → Q x H') : tD L f σ H Q := by
  refine ⟨B0, H0, θ0, B, θ, s, so, ?_⟩
  cases e : f s with
  | ok v s' =>
    rw [e] at h
    exact fun x H' B' θ' a b c d => hc v s' x H' B' θ' (h.mono b.same b.pre) a b c d
  | exc x s' => rw [e] at h; exact h
  | bad => rw [e] at h; exact h
theorem frz_okS {v : Vl} {x : V} {k : D → Stt G → Fl G} {frs : Fr} {θs : TT'} {Bs Hs : Hp} (st : Stp σ frs s.fr θs θ Bs B Hs H) (fv : FreshV Hs v x) (so : SO L B0 H0 θ0 B H θ σ s.fr s.g) (vo : ValOk L.K H0 B H θ σ s.fr v x) (h : FlSat L B0 H0 θ0 B θ En (Fl.of (frz v s) k)) :
    ∃ d s2 B2, FlSat L B0 H0 θ0 B2 θ En (k d s2) ∧ SO L B0 H0 θ0 B2 H θ σ s2.fr s2.g ∧ Stp σ frs s2.fr θs θ Bs B2 Hs H ∧ Rep L.K θ B2 d x := by
  have hs : (frz v s).sat (fun d s2 => FlSat L B0 H0 θ0 B θ En (k d s2)) noE := by
    cases e : frz v s with
    | ok d s2 => rw [e] at h; exact h
    | exc x s2 => rw [e] at h; exact h
    | bad => rw [e] at h; exact h
  obtain ⟨d, s2, B2, hp, so2, st2, rep, hb⟩ := frz_ok (P := fun d s2 => FlSat L B0 H0 θ0 B θ En (k d s2)) so vo st fv hs
  exact ⟨d, s2, B2, hp.mono hb (List.prefix_refl _), so2, st2, rep⟩
theorem tDT_runS {f : TDen G} {k : Bool → Stt G → Fl G} {Q : Bool → Hp → Prop} (so : SO L B0 H0 θ0 B H θ σ s.fr s.g) (h : FlSat L B0 H0 θ0 B θ En (Fl.of (f s) k))
    (hc : ∀ b s' H' B' θ', FlSat L B0 H0 θ0 B' θ' En (k b s') → SO L B0 H0 θ0 B' H' θ' σ s'.fr s'.g → Stp σ s.fr s'.fr θ θ' B B' H H' → Q b H') : tDT L f σ H Q := by
  refine ⟨B0, H0, θ0, B, θ, s, so, ?_⟩
  cases e : f s with
  | ok v s' =>
    rw [e] at h
    exact fun H' B' θ' a b => hc v s' H' B' θ' (h.mono b.same b.pre) a b
  | exc x s' => rw [e] at h; exact h
  | bad => rw [e] at h; exact h
end
structure OkS (L : Law G) (X : Cx) (ce : CE) (lv : Nat) : Prop where
  ok : Ok L X ce lv
  nox : X.xe = fun _ _ => False
structure SI (G : Type) where
  chk : CE → Stmt → Bool
  den : SDen G
  need : Law G → Nat → Prop
  ok : ∀ (L : Law G) (lv : Nat) (X : Cx) (ce : CE) (st : Stmt), OkS L X ce lv → need L lv → chk ce st = true → PS X st (tDS L den)
structure SB (G : Type) where
  chk : CE → List Stmt → Bool
  den : SDen G
  need : Law G → Nat → Prop
  ok : ∀ (L : Law G) (lv : Nat) (X : Cx) (ce : CE) (st : List Stmt), OkS L X ce lv → need L lv → chk ce st = true → PSs X st (tDS L den)
theorem _root_.L2.PS.imp {X : Cx} {e : Stmt} {t t' : TS} (h : PS X e t) (k : ∀ D σ H, t' D σ H → t D σ H) : PS X e t' := ⟨fun pins s σ H D I q => h.run pins s σ H D I (k D σ H q)⟩
theorem _root_.L2.PSs.imp {X : Cx} {e : List Stmt} {t t' : TS} (h : PSs X e t) (k : ∀ D σ H, t' D σ H → t D σ H) : PSs X e t' := ⟨fun pins s σ H D I q => h.run pins s σ H D I (k D σ H q)⟩

def bNil : SB G where
  chk := fun _ st => match st with
    | [] => true
    | _ => false
  den := .nx
  need := fun _ _ => True
  ok := fun L lv X ce st hX hn h => by
    split at h
    · refine pss_nil.imp ?_
      rintro D σ H ⟨B0, H0, θ0, B, θ, s, so, q⟩
      exact q σ H B θ so (fun _ _ h => h) (List.prefix_refl _)
    · cases h
def bCons (a : SI G) (b : SB G) : SB G where
  chk := fun ce st => match st with
    | x :: r => a.chk ce x && b.chk ce r
    | _ => false
  den := fun s => (a.den s).nxt b.den
  need := fun L lv => a.need L lv ∧ b.need L lv
  ok := fun L lv X ce st hX hn h => by
    split at h
    · rename_i x r
      simp only [Bool.and_eq_true] at h
      refine (pss_cons (a.ok L lv X ce x hX hn.1 h.1) (b.ok L lv X ce r hX hn.2 h.2)).imp ?_
      rintro D σ H ⟨B0, H0, θ0, B, θ, s, so, q⟩
      refine ⟨B0, H0, θ0, B, θ, s, so, ?_⟩
      dsimp only at q
      cases e : a.den s with
      | nx s' =>
        rw [e] at q
        exact fun σ1 H1 B1 θ1 so1 e1 t1 => ⟨B0, H0, θ0, B1, θ1, s', so1, q.mono e1 t1⟩
      | rt v s' => rw [e] at q; exact q
      | bk s' => rw [e] at q; exact q
      | ct s' => rw [e] at q; exact q
      | exc x s' => rw [e] at q; exact q
      | bad => rw [e] at q; exact q
    · cases h

/-- a value as a slot's -/
def slotOf (v : Vl) (s : Stt G) : Out (Stt G) Sl := match v with
  | .dat d => .ok (.dat d) s
  | .own xs => .ok (.own xs) s
  | .pk i => (frz (.pk i) s).bind fun d s => .ok (.dat d) s
def putS (i : Nat) (q : Sl) (s : Stt G) : Stt G := { s with fr := s.fr.set i (some q) }
/-- a name that may be stored -/
def locB (ce : CE) (i : Nat) (x : Str) : Bool := decide (ce.N[i]? = some x) && (decide (ce.sc.names.lookup x = some .local) || (decide (ce.sc.names.lookup x = some .cell) && ce.fn x))
theorem locB_ok {L : Law G} {X : Cx} {ce : CE} {lv : Nat} {i : Nat} {x : Str} (hX : Ok L X ce lv) (h : locB ce i x = true) : X.N[i]? = some x ∧ L2.Loc X.env.scope x ∧ (X.fn x = true ∨ X.env.scope.names.lookup x = some .local) := by
  simp only [locB, Bool.and_eq_true, decide_eq_true_eq, Bool.or_eq_true] at h
  obtain ⟨h1, h2⟩ := h
  refine ⟨by rw [hX.N]; exact h1, ?_, ?_⟩
  · unfold L2.Loc; rw [hX.sc]; rcases h2 with h2 | h2; exact .inl h2; exact .inr h2.1
  · rw [hX.sc]; rcases h2 with h2 | h2; exact .inr h2; exact .inl (hX.fn x h2.2)
def notLC (e : Expr) : Bool := match e with
  | .ListComp _ _ _ _ => false
  | .SetComp _ _ _ _ => false
  | .DictComp _ _ _ _ _ => false
  | _ => true
theorem swaps_no {e : Expr} {t : Option Expr} {n : Nat} {env : Env} (h : notLC e = true) : swapsWith e t n env = pure false := by
  cases e <;> first | rfl | exact absurd h Bool.false_ne_true
theorem slot_okS {L : Law G} {B0 H0 B H : Hp} {θ0 θ : TT'} {σ : Sg} {s : Stt G} {En : Ends} {v : Vl} {x : V} {k : Sl → Stt G → Fl G} {frs : Fr} {θs : TT'} {Bs Hs : Hp} (st : Stp σ frs s.fr θs θ Bs B Hs H) (fv : FreshV Hs v x) (so : SO L B0 H0 θ0 B H θ σ s.fr s.g) (vo : ValOk L.K H0 B H θ σ s.fr v x) (h : FlSat L B0 H0 θ0 B θ En (Fl.of (slotOf v s) k)) :
    ∃ q s2 B2, FlSat L B0 H0 θ0 B2 θ En (k q s2) ∧ SO L B0 H0 θ0 B2 H θ σ s2.fr s2.g ∧ SlotOk L.K H0 B2 H θ q x ∧ ∀ xs a, q = .own xs → x = .ref a → ¬ OwnA σ s2.fr a := by
  cases v with
  | dat d => exact ⟨.dat d, s, B, h, so, vo, fun _ _ e => nomatch e⟩
  | own xs =>
    obtain ⟨a, rfl, o, hn⟩ := vo
    exact ⟨.own xs, s, B, h, so, ⟨a, rfl, o⟩, fun _ b _ e => by cases e; exact hn⟩
  | pk i =>
    have h' : FlSat L B0 H0 θ0 B θ En (Fl.of (frz (.pk i) s) fun d s => k (.dat d) s) := by
      have e0 : slotOf (.pk i) s = (frz (.pk i) s).bind fun d s => (.ok (.dat d) s : Out (Stt G) Sl) := rfl
      rw [e0] at h
      cases e : frz (.pk i) s <;> rw [e] at h <;> exact h
    obtain ⟨d, s2, B2, hp, so2, st2, rep⟩ := frz_okS st fv so vo h'
    exact ⟨.dat d, s2, B2, hp, so2, rep, fun _ _ e => nomatch e⟩
theorem asg_imp {L : Law G} {i : Nat} {f : EDen G} : ∀ D σ H, tDS L (fun s => Fl.of (f s) fun v s => Fl.of (slotOf v s) fun q s => .nx (putS i q s)) D σ H → tAsg (tD L f) (gName i) D σ H := by
  rintro D σ H ⟨B0, H0, θ0, B, θ, s, so, q⟩
  refine tD_runS so q fun v s1 x H1 B1 θ1 q1 so1 st1 vo1 fv1 => ?_
  obtain ⟨sl, s2, B2, q2, so2, ho, hn⟩ := slot_okS st1 fv1 so1 vo1 q1
  exact q2 _ H1 B2 θ1 (so2.assign ho hn) (fun _ _ h => h) (List.prefix_refl _)
/-- x = e -/
def sSet (i : Nat) (a : EI G) : SI G where
  chk := fun ce st => match st with
    | .Assign [.Name x _] e _ => locB ce i x && notLC e && a.chk ce e
    | _ => false
  den := fun s => Fl.of (a.den s) fun v s => Fl.of (slotOf v s) fun q s => .nx (putS i q s)
  need := a.need
  ok := fun L lv X ce st hX hn h => by
    split at h
    · rename_i x p e pos
      simp only [Bool.and_eq_true] at h
      obtain ⟨⟨h1, h2⟩, h3⟩ := h
      obtain ⟨k1, k2, k3⟩ := locB_ok hX.ok h1
      exact (ps_set hX.ok.nd k1 k2 (a.ok L lv X ce e hX.ok hn h3) (swaps_no h2) k3).imp asg_imp
    · cases h
/-- what is handed back -/
def retOf (v : Vl) (s : Stt G) : Fl G := match v with
  | .pk i => match s.fr[i]? with
    | some (some (.own xs)) => .rt (.own xs) s
    | _ => .bad
  | v => .rt v s
theorem ret_okS {L : Law G} {B0 H0 B H : Hp} {θ0 θ : TT'} {σ : Sg} {s : Stt G} {En : Ends} {v : Vl} {x : V} (so : SO L B0 H0 θ0 B H θ σ s.fr s.g) (vo : ValOk L.K H0 B H θ σ s.fr v x) (h : FlSat L B0 H0 θ0 B θ En (retOf v s)) : En.rt x H := by
  cases v with
  | dat d => exact h x H B θ so.core vo
  | own xs =>
    obtain ⟨a, e, o, _⟩ := vo
    exact h x H B θ so.core ⟨a, e, o⟩
  | pk i =>
    obtain ⟨e1, xs, e2⟩ := vo
    simp only [retOf, e2] at h
    obtain ⟨v, e3, a, e4, o⟩ := so.sl i _ e2
    rw [e1] at e3; cases e3
    exact h x H B θ so.core ⟨a, e4, o⟩
def sRet (a : EI G) : SI G where
  chk := fun ce st => match st with
    | .Return (some e) _ => a.chk ce e
    | _ => false
  den := fun s => Fl.of (a.den s) retOf
  need := a.need
  ok := fun L lv X ce st hX hn h => by
    split at h
    · rename_i e pos
      refine (ps_ret (a.ok L lv X ce e hX.ok hn h)).imp ?_
      rintro D σ H ⟨B0, H0, θ0, B, θ, s, so, q⟩
      exact tD_runS so q fun v s1 x H1 B1 θ1 q1 so1 st1 vo1 fv1 => ret_okS so1 vo1 q1
    · cases h
def sExpr (a : EI G) : SI G where
  chk := fun ce st => match st with
    | .Expr e _ => notLC e && a.chk ce e
    | _ => false
  den := fun s => Fl.of (a.den s) fun _ s => .nx s
  need := a.need
  ok := fun L lv X ce st hX hn h => by
    split at h
    · rename_i e pos
      simp only [Bool.and_eq_true] at h
      refine (ps_expr (a.ok L lv X ce e hX.ok hn h.2) (swaps_no h.1)).imp ?_
      rintro D σ H ⟨B0, H0, θ0, B, θ, s, so, q⟩
      exact tD_runS so q fun v s1 x H1 B1 θ1 q1 so1 st1 vo1 fv1 => q1 σ H1 B1 θ1 so1 (fun _ _ h => h) (List.prefix_refl _)
    · cases h
def sPass : SI G where
  chk := fun ce st => match st with
    | .Pass _ => true
    | _ => false
  den := .nx
  need := fun _ _ => True
  ok := fun L lv X ce st hX hn h => by
    split at h
    · refine ps_pass.imp ?_
      rintro D σ H ⟨B0, H0, θ0, B, θ, s, so, q⟩
      exact q σ H B θ so (fun _ _ h => h) (List.prefix_refl _)
    · cases h
def sBreak : SI G where
  chk := fun ce st => match st with
    | .Break _ => true
    | _ => false
  den := .bk
  need := fun _ _ => True
  ok := fun L lv X ce st hX hn h => by
    split at h
    · refine ps_break.imp ?_
      rintro D σ H ⟨B0, H0, θ0, B, θ, s, so, q⟩
      exact q σ H B θ so (fun _ _ h => h) (List.prefix_refl _)
    · cases h
def sCont : SI G where
  chk := fun ce st => match st with
    | .Continue _ => true
    | _ => false
  den := .ct
  need := fun _ _ => True
  ok := fun L lv X ce st hX hn h => by
    split at h
    · refine ps_continue.imp ?_
      rintro D σ H ⟨B0, H0, θ0, B, θ, s, so, q⟩
      exact q σ H B θ so (fun _ _ h => h) (List.prefix_refl _)
    · cases h
def sIf (t : TI' G) (a b : SB G) : SI G where
  chk := fun ce st => match st with
    | .If c x y _ => t.chk ce c && a.chk ce x && b.chk ce y
    | _ => false
  den := fun s => Fl.of (t.den s) fun k s => if k = true then a.den s else b.den s
  need := fun L lv => t.need L lv ∧ a.need L lv ∧ b.need L lv
  ok := fun L lv X ce st hX hn h => by
    split at h
    · rename_i c x y pos
      simp only [Bool.and_eq_true] at h
      refine (ps_if (t.ok L lv X ce c hX.ok hn.1 h.1.1) (a.ok L lv X ce x hX hn.2.1 h.1.2) (b.ok L lv X ce y hX hn.2.2 h.2)).imp ?_
      rintro D σ H ⟨B0, H0, θ0, B, θ, s, so, q⟩
      refine tDT_runS so q fun k s1 H1 B1 θ1 q1 so1 st1 => ?_
      cases k with
      | true => rw [if_pos rfl] at q1 ⊢; exact ⟨B0, H0, θ0, B1, θ1, s1, so1, q1⟩
      | false => rw [if_neg Bool.false_ne_true] at q1 ⊢; exact ⟨B0, H0, θ0, B1, θ1, s1, so1, q1⟩
    · cases h
end RB

namespace RB
open PySem PySem.Spec PyProof.Rows L2
variable {G : Type}

/-- the slots that are stored; the others are as they were -/
structure SameOut (ix : List Nat) (σ σ' : Sg) : Prop where
  len : σ'.length = σ.length
  out : ∀ j : Nat, j ∉ ix → σ'[j]? = σ[j]?
theorem SameOut.refl {ix : List Nat} {σ : Sg} : SameOut ix σ σ := ⟨rfl, fun _ _ => rfl⟩
theorem SameOut.trans {ix : List Nat} {σ σ1 σ2 : Sg} (a : SameOut ix σ σ1) (b : SameOut ix σ1 σ2) : SameOut ix σ σ2 := ⟨b.len.trans a.len, fun j h => (b.out j h).trans (a.out j h)⟩
theorem SameOut.mono {ix ix' : List Nat} {σ σ' : Sg} (a : SameOut ix σ σ') (h : ∀ j ∈ ix, j ∈ ix') : SameOut ix' σ σ' := ⟨a.len, fun j n => a.out j fun z => n (h j z)⟩
theorem SameOut.set {σ : Sg} (i : Nat) (v : Option V) : SameOut [i] σ (σ.set i v) := ⟨by rw [List.length_set], fun j h => by rw [List.getElem?_set_ne (fun z => h (by simp [z]))]⟩
abbrev GDen (G : Type) := D → Stt G → Out (Stt G) Unit
abbrev GsDen (G : Type) := List D → Stt G → Out (Stt G) Unit
def tDG (L : Law G) (ix : List Nat) (f : GDen G) : TG := fun v σ H Q => ∃ B0 H0 θ0 B θ s d, SO L B0 H0 θ0 B H θ σ s.fr s.g ∧ Rep L.K θ B d v ∧ (f d s).sat (fun _ s' => ∀ σ', SO L B0 H0 θ0 B H θ σ' s'.fr s'.g → SameOut ix σ σ' → (∀ a, OwnA σ' s'.fr a → OwnA σ s.fr a) → Q σ' H) noE
def tDGs (L : Law G) (ix : List Nat) (f : GsDen G) : TGs := fun vs σ H Q => ∃ B0 H0 θ0 B θ s ds, SO L B0 H0 θ0 B H θ σ s.fr s.g ∧ Reps L.K θ B ds vs ∧ (f ds s).sat (fun _ s' => ∀ σ', SO L B0 H0 θ0 B H θ σ' s'.fr s'.g → SameOut ix σ σ' → (∀ a, OwnA σ' s'.fr a → OwnA σ s.fr a) → Q σ' H) noE
structure GI (G : Type) where
  ix : List Nat
  chk : CE → Expr → Bool
  den : GDen G
  ok : ∀ (L : Law G) (lv : Nat) (X : Cx) (ce : CE) (e : Expr), Ok L X ce lv → chk ce e = true → PG X e (tDG L ix den)
structure GsI (G : Type) where
  ix : List Nat
  chk : CE → List Expr → Bool
  den : GsDen G
  ok : ∀ (L : Law G) (lv : Nat) (X : Cx) (ce : CE) (es : List Expr), Ok L X ce lv → chk ce es = true → PGs X es (tDGs L ix den)
theorem _root_.L2.PG.imp {X : Cx} {e : Expr} {t t' : TG} (h : PG X e t) (k : ∀ v σ H Q, t' v σ H Q → t v σ H Q) : PG X e t' := ⟨fun pins s σ H v u Q I r q => h.run pins s σ H v u Q I r (k v σ H Q q)⟩
theorem _root_.L2.PGs.imp {X : Cx} {e : List Expr} {t t' : TGs} (h : PGs X e t) (k : ∀ v σ H Q, t' v σ H Q → t v σ H Q) : PGs X e t' := ⟨fun pins s σ H v u Q I r q => h.run pins s σ H v u Q I r (k v σ H Q q)⟩
def gN (i : Nat) : GI G where
  ix := [i]
  chk := fun ce e => match e with
    | .Name x _ => locB ce i x
    | _ => false
  den := fun d s => .ok () (putS i (.dat d) s)
  ok := fun L lv X ce e hX h => by
    split at h
    · rename_i x p
      obtain ⟨k1, k2, k3⟩ := locB_ok hX h
      refine (pg_name hX.nd k1 k2 k3).imp ?_
      rintro v σ H Q ⟨B0, H0, θ0, B, θ, s, d, so, r, q⟩
      exact q _ (so.assign (q := .dat d) r fun _ _ e => nomatch e) (SameOut.set i _) fun a ⟨j, ys, e1, e2⟩ => by
        rcases getElem?_set_cases e1 with ⟨_, z⟩ | ⟨n, z⟩
        · cases z
        · exact ⟨j, ys, z, by rw [List.getElem?_set_ne (Ne.symm n)] at e2; exact e2⟩
    · cases h
def gsNil : GsI G where
  ix := []
  chk := fun _ es => match es with
    | [] => true
    | _ => false
  den := fun ds s => match ds with
    | [] => .ok () s
    | _ => .bad
  ok := fun L lv X ce es hX h => by
    split at h
    · refine pgs_nil.imp ?_
      rintro vs σ H Q ⟨B0, H0, θ0, B, θ, s, ds, so, r, q⟩
      dsimp only at q
      split at q
      · exact ⟨Reps.nil.mp r, q σ so .refl fun _ h => h⟩
      · exact q.elim
    · cases h
theorem assignEach_cons {e : Expr} {es : List Expr} {env : Env} (h : notStar e = true) : assignEach (e :: es) env = (false, assign e env) :: assignEach es env := by
  cases e <;> first | rfl | exact absurd h Bool.false_ne_true
def gsCons (a : GI G) (r : GsI G) : GsI G where
  ix := a.ix ++ r.ix
  chk := fun ce es => match es with
    | x :: xs => notStar x && a.chk ce x && r.chk ce xs
    | _ => false
  den := fun ds s => match ds with
    | d :: ds => (a.den d s).bind fun _ s => r.den ds s
    | _ => .bad
  ok := fun L lv X ce es hX h => by
    split at h
    · rename_i x xs
      simp only [Bool.and_eq_true] at h
      refine (pgs_cons (a.ok L lv X ce x hX h.1.2) (r.ok L lv X ce xs hX h.2) (by rw [assignEach_cons h.1.1]; rfl)).imp ?_
      rintro vs σ H Q ⟨B0, H0, θ0, B, θ, s, ds, so, rp, q⟩
      dsimp only at q
      split at q
      · rename_i d ds
        obtain ⟨v, vr, rfl, r1, r2⟩ := Reps.cons.mp rp
        refine ⟨v, vr, rfl, B0, H0, θ0, B, θ, s, d, so, r1, Out.sat_mono (Out.sat_bind.mp q) (fun _ s1 q1 σ1 so1 o1 k1 => ?_) fun _ _ z => z⟩
        refine ⟨B0, H0, θ0, B, θ, s1, ds, so1, r2, Out.sat_mono q1 (fun _ s2 q2 σ2 so2 o2 k2 => ?_) fun _ _ z => z⟩
        exact q2 σ2 so2 ((o1.mono fun j h => List.mem_append_left _ h).trans (o2.mono fun j h => List.mem_append_right _ h)) fun a h => k1 a (k2 a h)
      · exact q.elim
    · cases h
theorem assignEach_plain {es : List Expr} {env : Env} (h : es.all notStar = true) : (assignEach es env).length = es.length ∧ (assignEach es env).findIdx? (·.1) = none := by
  induction es with
  | nil => exact ⟨rfl, rfl⟩
  | cons e es ih =>
    rw [List.all_cons, Bool.and_eq_true] at h
    obtain ⟨h1, h2⟩ := ih h.2
    rw [assignEach_cons h.1]
    refine ⟨by rw [List.length_cons, List.length_cons, h1], ?_⟩
    rw [List.findIdx?_cons]
    simp [h2]
/-- a, b, .. = a tuple -/
def gT (n : Nat) (g : GsI G) : GI G where
  ix := g.ix
  chk := fun ce e => match e with
    | .Tuple es _ _ => decide (es.length = n) && es.all notStar && g.chk ce es
    | _ => false
  den := fun d s => match d with
    | .tup ds => if ds.length = n then g.den ds s else .bad
    | _ => .bad
  ok := fun L lv X ce e hX h => by
    split at h
    · rename_i es k pos
      simp only [Bool.and_eq_true, decide_eq_true_eq] at h
      obtain ⟨⟨h1, h2⟩, h3⟩ := h
      obtain ⟨k1, k2⟩ := assignEach_plain (env := X.env) h2
      refine (pg_tup (n := n) hX.calm (g.ok L lv X ce es hX h3) (k1.trans h1) k2).imp ?_
      rintro v σ H Q ⟨B0, H0, θ0, B, θ, s, d, so, r, q⟩
      dsimp only at q
      split at q
      · rename_i ds
        split at q
        · rename_i hl
          obtain ⟨a, vs, rfl, ha, hr⟩ := rep_tup.mp r
          refine ⟨a, vs, rfl, by rw [hX.K]; exact Same.sqT so.core.bh ha, by rw [← hr.length]; exact hl, B0, H0, θ0, B, θ, s, ds, so, hr, q⟩
        · exact q.elim
      · exact q.elim
    · cases h
def notDisp (e : Expr) : Bool := match e with
  | .Tuple _ _ _ => false
  | .List _ _ => false
  | _ => true
theorem swapped_no {tg e : Expr} {env : Env} (h : notDisp e = true) : swappedStores [tg] e env = pure none := by
  unfold swappedStores
  cases e <;> first | (cases tg <;> rfl) | exact absurd h Bool.false_ne_true
/-- targets = e, e no display -/
def sAsg (g : GI G) (a : EI G) : SI G where
  chk := fun ce st => match st with
    | .Assign [tg] e _ => notDisp e && notLC e && notStar tg && g.chk ce tg && a.chk ce e
    | _ => false
  den := fun s => Fl.of (eD a.den s) fun d s => Fl.of (g.den d s) fun _ s => .nx s
  need := a.need
  ok := fun L lv X ce st hX hn h => by
    split at h
    · rename_i tg e pos
      simp only [Bool.and_eq_true] at h
      obtain ⟨⟨⟨⟨h1, h2⟩, h3⟩, h4⟩, h5⟩ := h
      refine (ps_asg (a.ok L lv X ce e hX.ok hn h5) (g.ok L lv X ce tg hX.ok h4) (swaps_no h2) (swapped_no h1) (by rw [assignEach_cons h3]; rfl)).imp ?_
      rintro D σ H ⟨B0, H0, θ0, B, θ, s, so, q⟩
      have q' : FlSat L B0 H0 θ0 B θ D (Fl.of (a.den s) fun v s => Fl.of (frz v s) fun d s => Fl.of (g.den d s) fun _ s => .nx s) := by
        dsimp only [eD] at q
        cases e : a.den s <;> rw [e] at q <;> exact q
      refine tD_runS so q' fun v s1 x H1 B1 θ1 q1 so1 st1 vo1 fv1 => ?_
      obtain ⟨d, s2, B2, q2, so2, st2, rep⟩ := frz_okS st1 fv1 so1 vo1 q1
      refine ⟨B0, H0, θ0, B2, θ1, s2, d, so2, rep, ?_⟩
      cases e : g.den d s2 with
      | ok u s3 => rw [e] at q2; exact fun σ' so' _ _ => q2 σ' H1 B2 θ1 so' (fun _ _ h => h) (List.prefix_refl _)
      | exc x s3 => rw [e] at q2; exact q2
      | bad => rw [e] at q2; exact q2
    · cases h

/-- the items, one after another, as data -/
structure WalkD (K : PySem.W.Frag) (θ : TT') (B : Hp) (J : It) (ds : List D) : Prop where
  goes : ∀ i H, i < ds.length → Same B H → J.go i H
  stops : ∀ H, Same B H → J.stop ds.length H
  yields : ∀ i H x H' d, ds[i]? = some d → Same B H → J.yld i H x H' → (H' = H ∧ Rep K θ B d x) ∨ ∃ T vs xs, H T = none ∧ x = .ref T ∧ H' = upd H T (.tup vs) ∧ d = .tup xs ∧ Reps K θ B xs vs
def tDI (L : Law G) (f : ADen G) : L2.TI := fun σ H R => ∃ B0 H0 θ0 B θ s, SO L B0 H0 θ0 B H θ σ s.fr s.g ∧ (f s).sat (fun ds s' =>
  ∀ J H' B' θ', SO L B0 H0 θ0 B' H' θ' σ s'.fr s'.g → Stp σ s.fr s'.fr θ θ' B B' H H' → WalkD L.K θ' B' J ds → R J H') noE
structure II (G : Type) where
  chk : CE → Expr → Expr → Bool
  den : ADen G
  need : Law G → Nat → Prop
  ok : ∀ (L : Law G) (lv : Nat) (X : Cx) (ce : CE) (tg e : Expr), Ok L X ce lv → need L lv → chk ce tg e = true → PI X tg e (tDI L den)
theorem _root_.L2.PI.imp {X : Cx} {tg e : Expr} {t t' : L2.TI} (h : PI X tg e t) (k : ∀ σ H Q, t' σ H Q → t σ H Q) : PI X tg e t' := ⟨fun pins s σ H R I q => h.run pins s σ H R I (k σ H R q)⟩
def iAny (K : PySem.W.Frag) (tl : TE) : L2.TI := fun σ H R => tl σ H fun x H1 => (∃ a, x = .ref a ∧ (∃ xs, SqL K H1 a xs) ∧ R (Itl K a) H1) ∨ (∃ a, x = .ref a ∧ (∃ xs, SqT K H1 a xs) ∧ R (Itt K a) H1) ∨ ∃ z, x = .str z ∧ R (Its z) H1
theorem pi_any {X : Cx} {tg l : Expr} {tl : TE} (hl : PE X l tl) : PI X tg l (iAny X.K tl) := by
  refine ⟨fun pins s σ H R I h => ?_⟩
  refine thn (hl.run pins s σ H _ I h) fun v s1 ⟨x, H1, I1, r1, q1⟩ => ?_
  rcases q1 with ⟨a, e, ⟨xs, hq⟩, q⟩ | ⟨a, e, ⟨xs, hq⟩, q⟩ | ⟨x, ex, q⟩
  · subst e
    cases r1
    obtain ⟨its, rv, p, hz⟩ := I1.list hq
    refine wpAny_pyIter_list p.isList ?_
    refine ⟨s1.heap.objs.size, [s1.heap.objs.size], _, _, H1, rfl, I1.kept (t' := s1.toks) fun b o e => Heap.get?_push_of_some _ e, turn_list a _, ⟨_, Heap.get?_push_size _ rfl, rfl, rfl⟩, fun b hb => ?_, q⟩
    have e : b = s1.heap.objs.size := by simpa using hb
    subst e
    exact I1.fpOk (Nat.le_refl _) (I1.hok.fresh (Nat.le_refl _))
  · subst e
    cases r1
    obtain ⟨its, rv, p, hz⟩ := I1.tuple hq
    refine wpAny_pyIter_tuple (show s1.heap.IsTuple a its.toArray from p) ?_
    refine ⟨s1.heap.objs.size, [s1.heap.objs.size], _, _, H1, rfl, I1.kept (t' := s1.toks) fun b o e => Heap.get?_push_of_some _ e, turn_tuple a _, ⟨_, Heap.get?_push_size _ rfl, rfl, rfl⟩, fun b hb => ?_, q⟩
    have e : b = s1.heap.objs.size := by simpa using hb
    subst e
    exact I1.fpOk (Nat.le_refl _) (I1.hok.fresh (Nat.le_refl _))
  · subst ex
    obtain ⟨t, rfl⟩ := r1
    cases ha : x.cps.all (· < 128)
    · exact wpAny_pyIter_wide ha (pi_one (tk := s1.toks) I1 _ (turn_str _ x t "str_iterator" (.inr rfl)) ⟨_, Heap.get?_push_size _ rfl, rfl, rfl⟩ q)
    · exact wpAny_pyIter_ascii ha (pi_one (tk := s1.toks) I1 _ (turn_str _ x t "str_ascii_iterator" (.inl rfl)) ⟨_, Heap.get?_push_size _ rfl, rfl, rfl⟩ q)
/-- the items of data -/
def itemsD (d : D) : Option (List D) := match d with
  | .tup xs => some xs
  | .lst xs => some xs
  | .str z => some (z.cps.toList.map fun c => .str ⟨#[c]⟩)
  | .scr ns => some (ns.map .int)
  | _ => none
theorem walkT {K : PySem.W.Frag} {θ : TT'} {B : Hp} {a : Addr} {xs : List D} {vs : List V} (ha : SqT K B a vs) (hr : Reps K θ B xs vs) : WalkD K θ B (Itt K a) xs where
  goes := fun i H hi hs => by
    have hi' : i < vs.length := by rw [← hr.length]; exact hi
    exact ⟨vs, vs[i], Same.sqT hs ha, by simp [hi']⟩
  stops := fun H hs => ⟨vs, Same.sqT hs ha, by rw [← hr.length]; exact Nat.le_refl _⟩
  yields := fun i H x H' d hd hs hy => by
    obtain ⟨v, e1, e2⟩ := hr.get hd
    have := hy.2 vs (Same.sqT hs ha)
    rw [e1] at this; cases this
    exact .inl ⟨hy.1, e2⟩
theorem walkL {K : PySem.W.Frag} {θ : TT'} {B : Hp} {a : Addr} {xs : List D} {vs : List V} (ha : SqL K B a vs) (hr : Reps K θ B xs vs) : WalkD K θ B (Itl K a) xs where
  goes := fun i H hi hs => by
    have hi' : i < vs.length := by rw [← hr.length]; exact hi
    exact ⟨vs, vs[i], hs.seq ha, by simp [hi']⟩
  stops := fun H hs => ⟨vs, hs.seq ha, by rw [← hr.length]; exact Nat.le_refl _⟩
  yields := fun i H x H' d hd hs hy => by
    obtain ⟨v, e1, e2⟩ := hr.get hd
    have := hy.2 vs (hs.seq ha)
    rw [e1] at this; cases this
    exact .inl ⟨hy.1, e2⟩
theorem walkS {K : PySem.W.Frag} {θ : TT'} {B : Hp} {z : Str} : WalkD K θ B (Its z) (z.cps.toList.map fun c => .str ⟨#[c]⟩) where
  goes := fun i H hi hs => by show i < z.cps.size; simpa using hi
  stops := fun H hs => by show z.cps.size ≤ _; simp
  yields := fun i H x H' d hd hs hy => by
    obtain ⟨e1, c, e2, e3⟩ := hy
    refine .inl ⟨e1, ?_⟩
    rw [List.getElem?_map, Array.getElem?_toList, e2] at hd
    cases hd
    rw [e3]
    exact rep_str.mpr rfl
def iSeq (a : EI G) : II G where
  chk := fun ce _ e => a.chk ce e
  den := fun s => (eD a.den s).bind fun d s => opt (itemsD d) s
  need := a.need
  ok := fun L lv X ce tg e hX hn h => by
    refine (pi_any (a.ok L lv X ce e hX hn h)).imp ?_
    rintro σ H R ⟨B0, H0, θ0, B, θ, s, so, q⟩
    refine tD_runD so q fun d s1 x H1 B1 θ1 q1 so1 st1 r1 => ?_
    obtain ⟨ds, e, q2⟩ := opt_sat q1
    rw [hX.K]
    unfold itemsD at e
    split at e
    · cases e
      obtain ⟨a, vs, rfl, ha, hr⟩ := rep_tup.mp r1
      exact .inr (.inl ⟨a, rfl, ⟨vs, Same.sqT so1.core.bh ha⟩, q2 _ H1 B1 θ1 so1 st1 (walkT ha hr)⟩)
    · cases e
      obtain ⟨a, vs, rfl, ha, hr⟩ := rep_lst.mp r1
      have ha' : SqL L.K B1 a vs := SqL.of ha
      exact .inl ⟨a, rfl, ⟨vs, so1.core.bh.seq ha'⟩, q2 _ H1 B1 θ1 so1 st1 (walkL ha' hr)⟩
    · cases e
      rw [rep_str] at r1
      subst r1
      exact .inr (.inr ⟨_, rfl, q2 _ H1 B1 θ1 so1 st1 walkS⟩)
    · cases e
      simp only [Rep] at r1
      obtain ⟨a, rfl, ha⟩ := r1
      exact .inl ⟨a, rfl, ⟨_, so1.core.bh.seq ha⟩, q2 _ H1 B1 θ1 so1 st1 (walkL ha (reps_ints _))⟩
    · cases e
def rngL (lo : Int) (n : Nat) : List D := (List.range n).map fun (i : Nat) => D.int (lo + i)
theorem walkR {K : PySem.W.Frag} {θ : TT'} {B : Hp} {lo : Int} {n : Nat} : WalkD K θ B (Itr lo n) (rngL lo n) where
  goes := fun i H hi hs => by show i < n; simpa [rngL] using hi
  stops := fun H hs => by show n ≤ _; simp [rngL]
  yields := fun i H x H' d hd hs hy => by
    refine .inl ⟨hy.1, ?_⟩
    rw [hy.2]
    unfold rngL at hd
    rw [List.getElem?_map] at hd
    cases e : (List.range n)[i]? with
    | none => rw [e] at hd; cases hd
    | some j =>
      rw [e] at hd; cases hd
      have := List.getElem?_range (n := n) (i := i)
      rw [List.getElem?_eq_some_iff] at e
      obtain ⟨h1, h2⟩ := e
      rw [List.getElem_range] at h2
      subst h2
      exact rep_int.mpr rfl
def rngC (lo c : Int) (n : Nat) : List D := (List.range n).map fun (i : Nat) => D.int (lo + i * c)
theorem walkC {K : PySem.W.Frag} {θ : TT'} {B : Hp} {lo c : Int} {n : Nat} : WalkD K θ B (Itc lo c n) (rngC lo c n) where
  goes := fun i H hi hs => by show i < n; simpa [rngC] using hi
  stops := fun H hs => by show n ≤ _; simp [rngC]
  yields := fun i H x H' d hd hs hy => by
    refine .inl ⟨hy.1, ?_⟩
    rw [hy.2]
    unfold rngC at hd
    rw [List.getElem?_map] at hd
    cases e : (List.range n)[i]? with
    | none => rw [e] at hd; cases hd
    | some j =>
      rw [e] at hd; cases hd
      rw [List.getElem?_eq_some_iff] at e
      obtain ⟨h1, h2⟩ := e
      rw [List.getElem_range] at h2
      subst h2
      exact rep_int.mpr rfl
/-- a choice that nothing reckons with -/
noncomputable def clI {α : Type} (p : Prop) (a b : α) : α := @ite α p (Classical.propDecidable p) a b
theorem clI_pos {α : Type} {p : Prop} {a b : α} (h : p) : clI p a b = a := @if_pos p (Classical.propDecidable p) h α a b
theorem clI_neg {α : Type} {p : Prop} {a b : α} (h : ¬ p) : clI p a b = b := @if_neg p (Classical.propDecidable p) h α a b
theorem clI_some {α : Type} {p : Prop} {a b : α} (h : clI p (some a) none = some b) : p ∧ a = b := by
  by_cases hp : p
  · rw [clI_pos hp] at h; exact ⟨hp, Option.some.inj h⟩
  · rw [clI_neg hp] at h; cases h
def In62 (j : Int) : Prop := -(2 ^ 62) ≤ j ∧ j < 2 ^ 62
def In63 (j : Int) : Prop := -(2 ^ 63) ≤ j ∧ j < 2 ^ 63
/-- what a range's arguments give -/
noncomputable def rngOf (ds : List D) : Option (List D) := match ds with
  | [.int j] => clI (In62 j) (some (rngL 0 j.toNat)) none
  | [.int i, .int j] => clI (In62 i ∧ In62 j) (some (rngL i (j - i).toNat)) none
  | [.int i, .int j, .int c] => clI (c = -1 ∧ In62 i ∧ In62 j) (some (rngC i (-1) (i - j).toNat)) none
  | _ => none
theorem vals1 {K : PySem.W.Frag} {θ : TT'} {B : Hp} {a : D} {vs : List V} (h : Reps K θ B [a] vs) : ∃ v, vs = [v] ∧ Rep K θ B a v := by
  obtain ⟨v, r, rfl, h1, h2⟩ := Reps.cons.mp h
  rw [Reps.nil.mp h2]; exact ⟨v, rfl, h1⟩
theorem vals2' {K : PySem.W.Frag} {θ : TT'} {B : Hp} {a b : D} {vs : List V} (h : Reps K θ B [a, b] vs) : ∃ v w, vs = [v, w] ∧ Rep K θ B a v ∧ Rep K θ B b w := by
  obtain ⟨v, r, rfl, h1, h2⟩ := Reps.cons.mp h
  obtain ⟨w, rfl, h3⟩ := vals1 h2
  exact ⟨v, w, rfl, h1, h3⟩
theorem vals3' {K : PySem.W.Frag} {θ : TT'} {B : Hp} {a b c : D} {vs : List V} (h : Reps K θ B [a, b, c] vs) : ∃ v w u, vs = [v, w, u] ∧ Rep K θ B a v ∧ Rep K θ B b w ∧ Rep K θ B c u := by
  obtain ⟨v, r, rfl, h1, h2⟩ := Reps.cons.mp h
  obtain ⟨w, u, rfl, h3, h4⟩ := vals2' h2
  exact ⟨v, w, u, rfl, h1, h3, h4⟩
/-- a builtin's name, in this block and in the module -/
noncomputable def iRange (a : AI G) : II G where
  chk := fun ce _ e => match e with
    | .Call (.Name x _) es [] _ => decide (x = ("range" : Str)) && glB ce ("range" : Str) && es.all notStar && decide (1 ≤ es.length) && decide (es.length ≤ 3) && decide (a.n = es.length) && a.chk ce es
    | _ => false
  den := fun s => (a.den s).bind fun ds s => opt (rngOf ds) s
  need := fun L lv => L.mg ("range" : Str) = none ∧ a.need L lv
  ok := fun L lv X ce tg e hX hn h => by
    split at h
    · rename_i x p es pos
      simp only [Bool.and_eq_true, decide_eq_true_eq] at h
      obtain ⟨⟨⟨⟨⟨⟨rfl, h1⟩, h2⟩, h3⟩, h4⟩, h6⟩, h5⟩ := h
      obtain ⟨g1, _⟩ := glB_ok hX h1
      have hm : X.mg ("range" : Str) = none := by rw [hX.mg]; exact hn.1
      have ha := a.ok L lv X ce es hX hn.2 h5
      have hlen := a.len
      match es, h2, h3, h4, h6, ha with
      | [x], h2, _, _, h6, ha =>
        simp only [List.all_cons, Bool.and_eq_true] at h2
        refine (pi_range1 g1 hm ha (by rw [star_cons h2.1]; rfl)).imp ?_
        rintro σ H R ⟨B0, H0, θ0, B, θ, s, so, q⟩
        refine ⟨B0, H0, θ0, B, θ, s, so, ?_⟩
        dsimp only at q
        cases e : a.den s with
        | bad => rw [e] at q; exact q
        | exc x g => rw [e] at q; exact q
        | ok ds s1 =>
          rw [e] at q
          intro vs H1 B1 θ1 so1 st1 r1
          obtain ⟨its, e2, q2⟩ := opt_sat q
          have hl := hlen s ds s1 e
          rw [h6] at hl
          unfold rngOf at e2
          split at e2
          · rename_i j
            obtain ⟨hb, rfl⟩ := clI_some e2
            obtain ⟨v, rfl, rv⟩ := vals1 r1
            rw [rep_int] at rv
            subst rv
            exact ⟨j, rfl, hb.1, hb.2, q2 _ H1 B1 θ1 so1 st1 walkR⟩
          · cases hl
          · cases hl
          · cases e2
      | [x, y], h2, _, _, h6, ha =>
        simp only [List.all_cons, Bool.and_eq_true] at h2
        refine (pi_range2 g1 hm ha (by rw [star_cons h2.1, star_cons h2.2.1]; rfl) (by rw [star_cons h2.2.1]; rfl)).imp ?_
        rintro σ H R ⟨B0, H0, θ0, B, θ, s, so, q⟩
        refine ⟨B0, H0, θ0, B, θ, s, so, ?_⟩
        dsimp only at q
        cases e : a.den s with
        | bad => rw [e] at q; exact q
        | exc x g => rw [e] at q; exact q
        | ok ds s1 =>
          rw [e] at q
          intro vs H1 B1 θ1 so1 st1 r1
          obtain ⟨its, e2, q2⟩ := opt_sat q
          have hl := hlen s ds s1 e
          rw [h6] at hl
          unfold rngOf at e2
          split at e2
          · cases hl
          · rename_i i j
            obtain ⟨hb, rfl⟩ := clI_some e2
            obtain ⟨v, w, rfl, rv, rw'⟩ := vals2' r1
            rw [rep_int] at rv rw'
            subst rv; subst rw'
            exact ⟨i, j, rfl, ⟨hb.1.1, hb.1.2, hb.2⟩, q2 _ H1 B1 θ1 so1 st1 walkR⟩
          · cases hl
          · cases e2
      | [x, y, z], h2, _, _, h6, ha =>
        simp only [List.all_cons, Bool.and_eq_true] at h2
        refine (pi_range3 g1 hm ha (star_cons h2.1) (plain_args (by simp [h2.2.1, h2.2.2.1]))).imp ?_
        rintro σ H R ⟨B0, H0, θ0, B, θ, s, so, q⟩
        refine ⟨B0, H0, θ0, B, θ, s, so, ?_⟩
        dsimp only at q
        cases e : a.den s with
        | bad => rw [e] at q; exact q
        | exc x g => rw [e] at q; exact q
        | ok ds s1 =>
          rw [e] at q
          intro vs H1 B1 θ1 so1 st1 r1
          obtain ⟨its, e2, q2⟩ := opt_sat q
          have hl := hlen s ds s1 e
          rw [h6] at hl
          unfold rngOf at e2
          split at e2
          · cases hl
          · cases hl
          · rename_i i j c
            obtain ⟨⟨rfl, hb⟩, rfl⟩ := clI_some e2
            obtain ⟨v, w, u, rfl, rv, rw', ru⟩ := vals3' r1
            rw [rep_int] at rv rw' ru
            subst rv; subst rw'; subst ru
            exact ⟨i, j, -1, (i - j).toNat, rfl, RgC.neg hb.1.1 hb.1.2 hb.2.1 hb.2.2, q2 _ H1 B1 θ1 so1 st1 walkC⟩
          · cases e2
    · cases h
/-- zip -/
def zipD (ds : List D) : Option (List D) := match ds with
  | [.tup xs, .tup ys] => some ((xs.zip ys).map fun p => .tup [p.1, p.2])
  | [.lst xs, .lst ys] => some ((xs.zip ys).map fun p => .tup [p.1, p.2])
  | _ => none
def iZip (a : AI G) : II G where
  chk := fun ce tg e => match tg, e with
    | .Tuple _ _ _, .Call (.Name x _) [y, z] [] _ => decide (x = ("zip" : Str)) && glB ce ("zip" : Str) && notStar y && notStar z && a.chk ce [y, z]
    | _, _ => false
  den := fun s => (a.den s).bind fun ds s => opt (zipD ds) s
  need := fun L lv => L.mg ("zip" : Str) = none ∧ a.need L lv
  ok := fun L lv X ce tg e hX hn h => by
    split at h
    · rename_i elts kk tpos x p y z pos
      simp only [Bool.and_eq_true, decide_eq_true_eq] at h
      obtain ⟨⟨⟨⟨rfl, h1⟩, h2⟩, h3⟩, h5⟩ := h
      obtain ⟨g1, _⟩ := glB_ok hX h1
      have hm : X.mg ("zip" : Str) = none := by rw [hX.mg]; exact hn.1
      refine (RZ.pi_zipA g1 hm (a.ok L lv X ce _ hX hn.2 h5) (star_cons h2) (plain_args (by simp [h3]))).imp ?_
      rw [hX.K]
      rintro σ H R ⟨B0, H0, θ0, B, θ, s, so, q⟩
      refine tDA_run so q fun ds s1 vs H1 B1 θ1 q1 so1 st1 r1 => ?_
      obtain ⟨its, e2, q2⟩ := opt_sat q1
      unfold zipD at e2
      split at e2
      · rename_i xs ys
        cases e2
        obtain ⟨v, w, rfl, rv, rw'⟩ := vals2' r1
        obtain ⟨a, us, rfl, ha, hr⟩ := rep_tup.mp rv
        obtain ⟨b, ws, rfl, hb, hk⟩ := rep_tup.mp rw'
        refine ⟨a, b, us, ws, rfl, .inr ⟨Same.sqT so1.core.bh ha, Same.sqT so1.core.bh hb, q2 _ H1 B1 θ1 so1 st1 ?_⟩⟩
        have l1 := hr.length
        have l2 := hk.length
        refine ⟨fun i H hi hs => ?_, fun H hs => ?_, fun i H x H' d hd hs hy => ?_⟩
        · rw [List.length_map, List.length_zip] at hi
          exact ⟨us, ws, us[i]'(by omega), ws[i]'(by omega), Same.sqT hs ha, Same.sqT hs hb, by simp, by simp⟩
        · rw [List.length_map, List.length_zip]
          exact ⟨us, ws, Same.sqT hs ha, Same.sqT hs hb, by omega⟩
        · obtain ⟨T, x, y, rfl, hT, rfl, f1, f2⟩ := hy
          rw [List.getElem?_map] at hd
          obtain ⟨pq, e3, rfl⟩ := Option.map_eq_some_iff.mp hd
          have e4 : xs[i]? = some pq.1 ∧ ys[i]? = some pq.2 := List.getElem?_zip_eq_some.mp e3
          obtain ⟨v1, e5, e6⟩ := hr.get e4.1
          obtain ⟨v2, e7, e8⟩ := hk.get e4.2
          have f1' := f1 us (Same.sqT hs ha)
          have f2' := f2 ws (Same.sqT hs hb)
          rw [e5] at f1'; cases f1'
          rw [e7] at f2'; cases f2'
          exact .inr ⟨T, _, _, hT, rfl, rfl, rfl, Reps.mk e6 (Reps.mk e8 (Reps.nil.mpr rfl))⟩
      · rename_i xs ys
        cases e2
        obtain ⟨v, w, rfl, rv, rw'⟩ := vals2' r1
        obtain ⟨a, us, rfl, ha0, hr⟩ := rep_lst.mp rv
        obtain ⟨b, ws, rfl, hb0, hk⟩ := rep_lst.mp rw'
        have ha : SqL L.K B1 a us := SqL.of ha0
        have hb : SqL L.K B1 b ws := SqL.of hb0
        refine ⟨a, b, us, ws, rfl, .inl ⟨so1.core.bh.seq ha, so1.core.bh.seq hb, q2 _ H1 B1 θ1 so1 st1 ?_⟩⟩
        have l1 := hr.length
        have l2 := hk.length
        refine ⟨fun i H hi hs => ?_, fun H hs => ?_, fun i H x H' d hd hs hy => ?_⟩
        · rw [List.length_map, List.length_zip] at hi
          exact ⟨us, ws, us[i]'(by omega), ws[i]'(by omega), hs.seq ha, hs.seq hb, by simp, by simp⟩
        · rw [List.length_map, List.length_zip]
          exact ⟨us, ws, hs.seq ha, hs.seq hb, by omega⟩
        · obtain ⟨T, x, y, rfl, hT, rfl, f1, f2⟩ := hy
          rw [List.getElem?_map] at hd
          obtain ⟨pq, e3, rfl⟩ := Option.map_eq_some_iff.mp hd
          have e4 : xs[i]? = some pq.1 ∧ ys[i]? = some pq.2 := List.getElem?_zip_eq_some.mp e3
          obtain ⟨v1, e5, e6⟩ := hr.get e4.1
          obtain ⟨v2, e7, e8⟩ := hk.get e4.2
          have f1' := f1 us (hs.seq ha)
          have f2' := f2 ws (hs.seq hb)
          rw [e5] at f1'; cases f1'
          rw [e7] at f2'; cases f2'
          exact .inr ⟨T, _, _, hT, rfl, rfl, rfl, Reps.mk e6 (Reps.mk e8 (Reps.nil.mpr rfl))⟩
      · cases e2
    · cases h
end RB

namespace RB
open PySem PySem.Spec PyProof.Rows L2
variable {G : Type}

def forD (g : GDen G) (body : SDen G) : List D → SDen G
  | [], s => .nx s
  | d :: ds, s => match g d s with
    | .ok _ s1 => match body s1 with
      | .nx s2 => forD g body ds s2
      | .ct s2 => forD g body ds s2
      | .bk s2 => .nx s2
      | .rt v s2 => .rt v s2
      | .exc x s2 => .exc x s2
      | .bad => .bad
    | .exc x s1 => .exc x s1
    | .bad => .bad
def dFor (it : ADen G) (g : GDen G) (body : SDen G) : SDen G := fun s => Fl.of (it s) fun ds s => forD g body ds s
theorem for_imp {L : Law G} {it : ADen G} {g : GDen G} {ix : List Nat} {body : SDen G} : ∀ D σ H, tDS L (dFor it g body) D σ H → tFor (tDI L it) (tDG L ix g) (tDS L body) D σ H := by
  rintro D σ H ⟨B0, H0, θ0, B, θ, s, so, q⟩
  refine ⟨B0, H0, θ0, B, θ, s, so, ?_⟩
  unfold dFor at q
  cases e : it s with
  | bad => rw [e] at q; exact q
  | exc x s1 => rw [e] at q; exact q
  | ok ds s1 =>
  rw [e] at q
  intro J H1 B1 θ1 so1 st1 wk
  have q : FlSat L B0 H0 θ0 B1 θ1 D (forD g body ds s1) := FlSat.mono q st1.same st1.pre
  refine ⟨fun i m σ H => m = ds.length - i ∧ i ≤ ds.length ∧ ∃ B θ s, SO L B0 H0 θ0 B H θ σ s.fr s.g ∧ Same B1 B ∧ θ1 <+: θ ∧ FlSat L B0 H0 θ0 B θ D (forD g body (ds.drop i) s), ⟨ds.length, by simp, Nat.zero_le _, B1, θ1, s1, so1, fun _ _ h => h, List.prefix_refl _, by simpa using q⟩, ?_⟩
  rintro i m σ H ⟨rfl, hi, B, θ, s, so, sm, tp, q⟩
  by_cases hlt : i < ds.length
  · right
    have sH : Same B1 H := sm.trans so.core.bh
    refine ⟨wk.goes i H hlt sH, fun σ' H' => ∃ B θ s, SO L B0 H0 θ0 B H' θ σ' s.fr s.g ∧ Same B1 B ∧ θ1 <+: θ ∧ FlSat L B0 H0 θ0 B θ D (forD g body (ds.drop (i + 1)) s), fun σ' H' h => ⟨ds.length - (i + 1), by omega, rfl, hlt, h⟩, fun x H' hy => ?_⟩
    have hd : ds[i]? = some ds[i] := List.getElem?_eq_getElem hlt
    rw [List.drop_eq_getElem_cons hlt] at q
    -- the item
    have key : ∃ B', SO L B0 H0 θ0 B' H' θ σ s.fr s.g ∧ Same B B' ∧ Rep L.K θ B' ds[i] x := by
      rcases wk.yields i H x H' _ hd sH hy with ⟨rfl, r⟩ | ⟨T, vs, xs, hT, rfl, rfl, ed, r⟩
      · exact ⟨B, so, fun _ _ h => h, Rep.mono sm tp _ _ r⟩
      · obtain ⟨h1, h2, h3⟩ := new_tup so hT (Reps.mono sm tp _ _ r)
        exact ⟨_, h1, h2.same, by rw [ed]; exact h3⟩
    obtain ⟨B', so', sm', rep⟩ := key
    refine ⟨B0, H0, θ0, B', θ, s, ds[i], so', rep, ?_⟩
    rw [forD] at q
    cases eg : g ds[i] s with
    | bad => rw [eg] at q; exact q
    | exc x s2 => rw [eg] at q; exact q
    | ok u s2 =>
    rw [eg] at q
    intro σ2 so2 _ _
    refine ⟨B0, H0, θ0, B', θ, s2, so2, ?_⟩
    dsimp only at q
    cases eb : body s2 with
    | nx s3 =>
      rw [eb] at q
      exact fun σ3 H3 B3 θ3 so3 sm3 tp3 => ⟨B3, θ3, s3, so3, (sm.trans sm').trans sm3, tp.trans tp3, FlSat.mono q (sm'.trans sm3) tp3⟩
    | ct s3 =>
      rw [eb] at q
      exact fun σ3 H3 B3 θ3 so3 sm3 tp3 => ⟨B3, θ3, s3, so3, (sm.trans sm').trans sm3, tp.trans tp3, FlSat.mono q (sm'.trans sm3) tp3⟩
    | bk s3 =>
      rw [eb] at q
      exact fun σ3 H3 B3 θ3 so3 sm3 tp3 => q σ3 H3 B3 θ3 so3 (sm'.trans sm3) tp3
    | rt v s3 => rw [eb] at q; exact q
    | exc x s3 => rw [eb] at q; exact q
    | bad => rw [eb] at q; exact q
  · left
    have e : i = ds.length := by omega
    subst e
    rw [List.drop_length] at q
    exact ⟨wk.stops H (sm.trans so.core.bh), q σ H B θ so (fun _ _ h => h) (List.prefix_refl _)⟩
def notSetE (e : Expr) : Bool := match e with
  | .Set _ _ _ => false
  | _ => true
theorem folded_no {e : Expr} {env : Env} (h : notSetE e = true) : ∀ x, foldedSetIterable e env x = pure x := by
  intro x
  cases e <;> first | rfl | exact absurd h Bool.false_ne_true
def sFor (g : GI G) (it : II G) (body : SB G) : SI G where
  chk := fun ce st => match st with
    | .For tg e b [] _ => notSetE e && g.chk ce tg && it.chk ce tg e && body.chk ce b
    | _ => false
  den := dFor it.den g.den body.den
  need := fun L lv => it.need L lv ∧ body.need L lv
  ok := fun L lv X ce st hX hn h => by
    split at h
    · rename_i tg e b pos
      simp only [Bool.and_eq_true] at h
      obtain ⟨⟨⟨h1, h2⟩, h3⟩, h4⟩ := h
      refine (ps_for (by rw [hX.nox]; exact PassesOwn.never) hX.ok.calm (it.ok L lv X ce tg e hX.ok hn.1 h3) (g.ok L lv X ce tg hX.ok h2) (body.ok L lv X ce b hX hn.2 h4) (folded_no h1)).imp for_imp
    · cases h

def whN (t : TDen G) (body : SDen G) : Nat → SDen G
  | 0, _ => .bad
  | n + 1, s => match t s with
    | .ok true s1 => match body s1 with
      | .nx s2 => whN t body n s2
      | .ct s2 => whN t body n s2
      | .bk s2 => .nx s2
      | .rt v s2 => .rt v s2
      | .exc x s2 => .exc x s2
      | .bad => .bad
    | .ok false s1 => .nx s1
    | .exc x s1 => .exc x s1
    | .bad => .bad
theorem whN_mono {t : TDen G} {body : SDen G} : ∀ (n : Nat) (s : Stt G), whN t body n s ≠ .bad → whN t body (n + 1) s = whN t body n s
  | 0, s, h => absurd rfl h
  | n + 1, s, h => by
    rw [whN] at h
    rw [whN]
    conv => rhs; rw [whN]
    cases e : t s with
    | bad => rfl
    | exc x s1 => rfl
    | ok b s1 =>
      cases b with
      | false => rfl
      | true =>
        rw [e] at h
        dsimp only at h ⊢
        cases eb : body s1 with
        | nx s2 => rw [eb] at h; exact whN_mono n s2 h
        | ct s2 => rw [eb] at h; exact whN_mono n s2 h
        | bk s2 => rfl
        | rt v s2 => rfl
        | exc x s2 => rfl
        | bad => rfl
theorem whN_add {t : TDen G} {body : SDen G} {n : Nat} {s : Stt G} (h : whN t body n s ≠ .bad) : ∀ k, whN t body (n + k) s = whN t body n s
  | 0 => rfl
  | k + 1 => by
    have ih := whN_add h k
    rw [← ih]
    exact whN_mono (n + k) s (by rw [ih]; exact h)
open Classical in
noncomputable def whileD (t : TDen G) (body : SDen G) : SDen G := fun s => if h : ∃ n, whN t body n s ≠ .bad then whN t body h.choose s else .bad
theorem while_of {t : TDen G} {body : SDen G} {s : Stt G} {r : Fl G} (n : Nat) (h : whN t body n s = r) (hr : r ≠ .bad) : whileD t body s = r := by
  have hn : whN t body n s ≠ .bad := by rw [h]; exact hr
  have ex : ∃ n, whN t body n s ≠ .bad := ⟨n, hn⟩
  unfold whileD
  rw [dif_pos ex]
  have h1 := whN_add ex.choose_spec n
  have h2 := whN_add hn ex.choose
  rw [← h1, Nat.add_comm, h2, h]
theorem while_imp {L : Law G} {t : TDen G} {body : SDen G} : ∀ D σ H, tDS L (whileD t body) D σ H → tWhile (tDT L t) (tDS L body) D σ H := by
  rintro D σ H ⟨B0, H0, θ0, B, θ, s, so, q⟩
  obtain ⟨n, q⟩ : ∃ n, FlSat L B0 H0 θ0 B θ D (whN t body n s) := by
    unfold whileD at q
    split at q
    · exact ⟨_, q⟩
    · exact q.elim
  refine ⟨fun m σ H => ∃ B θ s, SO L B0 H0 θ0 B H θ σ s.fr s.g ∧ FlSat L B0 H0 θ0 B θ D (whN t body m s), ⟨n, B, θ, s, so, q⟩, ?_⟩
  rintro m σ H ⟨B, θ, s, so, q⟩
  match m, q with
  | 0, q => exact q.elim
  | m + 1, q =>
  refine ⟨B0, H0, θ0, B, θ, s, so, ?_⟩
  rw [whN] at q
  cases e : t s with
  | bad => rw [e] at q; exact q
  | exc x s1 => rw [e] at q; exact q
  | ok b s1 =>
  rw [e] at q
  intro H1 B1 θ1 so1 st1
  cases b with
  | false =>
    rw [if_neg Bool.false_ne_true]
    exact q σ H1 B1 θ1 so1 st1.same st1.pre
  | true =>
    rw [if_pos rfl]
    dsimp only at q
    refine ⟨fun σ' H' => ∃ m', m' < m + 1 ∧ ∃ B θ s, SO L B0 H0 θ0 B H' θ σ' s.fr s.g ∧ FlSat L B0 H0 θ0 B θ D (whN t body m' s), fun _ _ h => h, B0, H0, θ0, B1, θ1, s1, so1, ?_⟩
    cases eb : body s1 with
    | nx s2 =>
      rw [eb] at q
      exact fun σ3 H3 B3 θ3 so3 sm3 tp3 => ⟨m, Nat.lt_succ_self _, B3, θ3, s2, so3, FlSat.mono q (st1.same.trans sm3) (st1.pre.trans tp3)⟩
    | ct s2 =>
      rw [eb] at q
      exact fun σ3 H3 B3 θ3 so3 sm3 tp3 => ⟨m, Nat.lt_succ_self _, B3, θ3, s2, so3, FlSat.mono q (st1.same.trans sm3) (st1.pre.trans tp3)⟩
    | bk s2 =>
      rw [eb] at q
      exact fun σ3 H3 B3 θ3 so3 sm3 tp3 => q σ3 H3 B3 θ3 so3 (st1.same.trans sm3) (st1.pre.trans tp3)
    | rt v s2 => rw [eb] at q; exact q
    | exc x s2 => rw [eb] at q; exact q
    | bad => rw [eb] at q; exact q
noncomputable def sWhile (t : TI' G) (body : SB G) : SI G where
  chk := fun ce st => match st with
    | .While c b [] _ => t.chk ce c && body.chk ce b
    | _ => false
  den := whileD t.den body.den
  need := fun L lv => t.need L lv ∧ body.need L lv
  ok := fun L lv X ce st hX hn h => by
    split at h
    · rename_i c b pos
      simp only [Bool.and_eq_true] at h
      exact (ps_while (by rw [hX.nox]; exact PassesOwn.never) (t.ok L lv X ce c hX.ok hn.1 h.1) (body.ok L lv X ce b hX hn.2 h.2)).imp while_imp
    · cases h

def wipeF (fr : Fr) : List Nat → Fr
  | [] => fr
  | v :: vs => (wipeF fr vs).set v none
def datAt (fr : Fr) (v : Nat) : Option Sl := match fr[v]? with
  | some (some (.dat d)) => some (.dat d)
  | _ => none
def restF (outer inner : Fr) : List Nat → Fr
  | [] => inner
  | v :: vs => (restF outer inner vs).set v (datAt outer v)
def compD (g : GDen G) (t : TDen G) (e : EDen G) (vs : List Nat) : List D → List D → Stt G → Out (Stt G) (List D)
  | [], acc, s => .ok acc s
  | d :: ds, acc, s => (g d s).bind fun _ s => (t s).bind fun b s => if b = true then (eD e s).bind fun x s => if acc.length < sizeLine then compD g t e vs ds (acc ++ [x]) { s with fr := wipeF s.fr vs } else .bad
    else compD g t e vs ds acc { s with fr := wipeF s.fr vs }
def dComp (it : ADen G) (g : GDen G) (t : TDen G) (e : EDen G) (vs : List Nat) : EDen G := fun s => (it s).bind fun ds s1 => (compD g t e vs ds [] { s1 with fr := wipeF s1.fr vs }).bind fun acc s2 => .ok (.own acc) { s2 with fr := restF s1.fr s2.fr vs }
section
variable {L : Law G} {B0 H0 B H B' H' : Hp} {θ0 θ θ' : TT'} {σ σ' : Sg} {fr : Fr} {g : G}
theorem SO.unset (s : SO L B0 H0 θ0 B H θ σ fr g) (v : Nat) : SO L B0 H0 θ0 B H θ (σ.set v none) (fr.set v none) g where
  core := s.core
  len := by rw [List.length_set, List.length_set]; exact s.len
  sl := fun i q h => by
    rcases getElem?_set_cases h with ⟨_, z⟩ | ⟨n, z⟩
    · cases z
    · obtain ⟨u, e1, e2⟩ := s.sl i q z
      exact ⟨u, by rw [List.getElem?_set_ne (Ne.symm n)]; exact e1, e2⟩
  dist := fun j k xs ys w h1 h2 h3 h4 => by
    rcases getElem?_set_cases h1 with ⟨_, z⟩ | ⟨n1, z⟩
    · cases z
    rcases getElem?_set_cases h2 with ⟨_, w'⟩ | ⟨n2, w'⟩
    · cases w'
    rw [List.getElem?_set_ne (Ne.symm n1)] at h3
    rw [List.getElem?_set_ne (Ne.symm n2)] at h4
    exact s.dist j k xs ys w z w' h3 h4
theorem SO.wipe (s : SO L B0 H0 θ0 B H θ σ fr g) : ∀ vs, SO L B0 H0 θ0 B H θ (L2.wipe σ vs) (wipeF fr vs) g
  | [] => s
  | v :: vs => (SO.wipe s vs).unset v
theorem SO.unwipe {vs : List Nat} (s : SO L B0 H0 θ0 B H θ (L2.wipe σ vs) fr g) : SO L B0 H0 θ0 B H θ σ fr g where
  core := s.core
  len := by rw [s.len, wipe_length]
  sl := fun i q h => by
    obtain ⟨v, e1, e2⟩ := s.sl i q h
    exact ⟨v, (wipe_some e1).1, e2⟩
  dist := fun j k xs ys w h1 h2 h3 h4 => by
    obtain ⟨v, e1, e2⟩ := s.sl j _ h1
    obtain ⟨v', e1', e2'⟩ := s.sl k _ h2
    have f1 := (wipe_some e1).1
    have f2 := (wipe_some e1').1
    rw [h3] at f1; cases f1
    rw [h4] at f2; cases f2
    exact s.dist j k xs ys _ h1 h2 e1 e1'
theorem OwnA.unwipe {vs : List Nat} {a : Addr} : OwnA (L2.wipe σ vs) (wipeF fr vs) a → OwnA σ fr a := by
  intro h
  obtain ⟨j, ys, e1, e2⟩ := h
  refine ⟨j, ys, ?_, (wipe_some e2).1⟩
  clear e2
  induction vs with
  | nil => exact e1
  | cons v vs ih =>
    rw [wipeF] at e1
    rcases getElem?_set_cases e1 with ⟨_, z⟩ | ⟨_, z⟩
    · cases z
    · exact ih z
theorem wipe_same {vs ix : List Nat} (h : SameOut ix σ σ') (hi : ∀ j ∈ ix, j ∈ vs) : L2.wipe σ' vs = L2.wipe σ vs := by
  have key : ∀ (ws : List Nat) (σ : Sg) (j : Nat), (L2.wipe σ ws)[j]? = if j ∈ ws then (if j < σ.length then some none else none) else σ[j]? := by
    intro ws
    induction ws with
    | nil => intro σ j; simp [L2.wipe]
    | cons w ws ih =>
      intro σ j
      rw [L2.wipe]
      by_cases e : w = j
      · subst e
        by_cases hl : w < σ.length
        · rw [List.getElem?_set_self (by rw [wipe_length]; exact hl)]; simp [hl]
        · rw [List.getElem?_eq_none (by rw [List.length_set, wipe_length]; omega)]; simp [hl]
      · rw [List.getElem?_set_ne e, ih]
        have : (j ∈ w :: ws) ↔ j ∈ ws := by simp [Ne.symm e]
        simp only [this]
  refine List.ext_getElem? fun j => ?_
  rw [key, key, h.len]
  by_cases hj : j ∈ vs
  · simp [hj]
  · simp only [hj, if_false]
    exact h.out j fun z => hj (hi j z)
theorem Stp.write {fr fr' : Fr} {D : Addr} {o : HO} (st : Stp σ fr fr' θ θ' B B' H H') (hD : H D = none) : Stp σ fr fr' θ θ' B B' H (upd H' D o) where
  same := st.same
  pre := st.pre
  keep := fun a u h n1 n2 => by rw [upd_ne (ne_of_none h hD)]; exact st.keep a u h n1 n2
  sub := st.sub
  thn := st.thn
  ex := fun a h => by
    by_cases e : a = D
    · subst e; exact absurd hD h
    · rw [upd_ne e]; exact st.ex a h
  bn := st.bn
/-- our own object outside of the slots is written -/
theorem SO.write (s : SO L B0 H0 θ0 B H θ σ fr g) {D : Addr} {o o' : HO} (hD : H D = some o) (hb : B D = none) (h0 : H0 D = none) (ht : D ∉ θ.flatten) (hn : ¬ OwnA σ fr D) : SO L B0 H0 θ0 B (upd H D o') θ σ fr g := by
  refine s.step ⟨s.core.bb, fun a u e => ?_, fun a u e n => ?_, s.core.bn, s.core.th, s.core.thn, s.core.tb, fun a h => ?_, ?_⟩ (fun _ _ h => h) (List.prefix_refl _) fun a xs q hi => ?_
  · have z : a ≠ D := fun z => by subst z; rw [hb] at e; cases e
    rw [upd_ne z]; exact s.core.bh a u e
  · have z : a ≠ D := fun z => by subst z; rw [h0] at e; cases e
    rw [upd_ne z]; exact s.core.keep a u e n
  · have z : a ≠ D := fun z => by subst z; exact ht h
    rw [upd_ne z]; exact s.core.ta a h
  · exact L.stable g θ H _ (fun a ha => by
      have z : a ≠ D := fun z => by subst z; exact ht ha
      rw [upd_ne z]) s.core.rg
  · have z : a ≠ D := fun z => by
      subst z
      obtain ⟨i, e1, e2⟩ := hi
      exact hn ⟨i, xs, e2, e1⟩
    exact ⟨q.b, q.t, by rw [upd_ne z]⟩
theorem SO.rest {fr0 : Fr} {B1 H1 : Hp} {θ1 : TT'} {g1 : G} (s0 : SO L B0 H0 θ0 B1 H1 θ1 σ fr0 g1) (s : SO L B0 H0 θ0 B H θ σ fr g) (sm : Same B1 B) (tp : θ1 <+: θ) : ∀ vs, SO L B0 H0 θ0 B H θ σ (restF fr0 fr vs) g
  | [] => s
  | v :: vs => by
    have ih := SO.rest s0 s sm tp vs
    rw [restF]
    unfold datAt
    split
    · rename_i d e
      obtain ⟨x, e1, e2⟩ := s0.sl v _ e
      exact ih.put (q := .dat d) e1 (Rep.mono sm tp _ _ e2) fun _ _ z => nomatch z
    · exact ih.drop v
theorem OwnA.rest {fr0 : Fr} {a : Addr} : ∀ {vs : List Nat}, OwnA σ (restF fr0 fr vs) a → OwnA σ fr a
  | [], h => h
  | v :: vs, ⟨j, ys, e1, e2⟩ => by
    rw [restF] at e1
    rcases getElem?_set_cases e1 with ⟨_, z⟩ | ⟨_, z⟩
    · unfold datAt at z
      split at z <;> cases z
    · exact OwnA.rest (vs := vs) ⟨j, ys, z, e2⟩
end
def PostC (L : Law G) (B0 H0 : Hp) (θ0 : TT') (σ : Sg) (s1 : Stt G) (B1 H1 : Hp) (θ1 : TT') (vs : List Nat) (Q : VK) (acc : List D) (s2 : Stt G) : Prop :=
  ∀ x H' B' θ', SO L B0 H0 θ0 B' H' θ' σ (restF s1.fr s2.fr vs) s2.g → Stp σ s1.fr (restF s1.fr s2.fr vs) θ1 θ' B1 B' H1 H' → ValOk L.K H0 B' H' θ' σ (restF s1.fr s2.fr vs) (.own acc) x → FreshV H1 (.own acc) x → Q x H'
theorem lc_imp {L : Law G} {it : ADen G} {g : GDen G} {ix : List Nat} {t : TDen G} {e : EDen G} {vs : List Nat} (hix : ∀ j ∈ ix, j ∈ vs) : ∀ σ H Q, tD L (dComp it g t e vs) σ H Q → tLc (tDI L it) (tDG L ix g) (tDT L t) (tD L e) vs σ H Q := by
  rintro σ H Q ⟨B0, H0, θ0, B, θ, s, so, q⟩
  refine ⟨B0, H0, θ0, B, θ, s, so, ?_⟩
  unfold dComp at q
  cases ei : it s with
  | bad => rw [ei] at q; exact q
  | exc x s1 => rw [ei] at q; exact q
  | ok ds s1 =>
  rw [ei] at q
  intro J H1 B1 θ1 so1 st1 wk D hD
  obtain ⟨hD0, hDb, hDt⟩ := so1.core.fresh0 hD
  have sw := (so1.wipe vs).laid hD (.lst [])
  refine ⟨fun i m H => m = ds.length - i ∧ i ≤ ds.length ∧ ∃ B θ s2 acc vacc, SO L B0 H0 θ0 B H θ (wipe σ vs) s2.fr s2.g ∧ Stp (wipe σ vs) (wipeF s1.fr vs) s2.fr θ1 θ B1 B H1 H ∧ H D = some (.lst vacc) ∧ Reps L.K θ B acc vacc ∧ B D = none ∧ D ∉ θ.flatten ∧
    (compD g t e vs (ds.drop i) acc s2).sat (PostC L B0 H0 θ0 σ s1 B1 H1 θ1 vs Q) noE, ⟨ds.length, by simp, Nat.zero_le _, B1, θ1, { s1 with fr := wipeF s1.fr vs }, [], [], sw, ?_, upd_same, Reps.nil.mpr rfl, hDb, hDt, ?_⟩, ?_⟩
  · exact stp_laid hD
  · rw [List.drop_zero]
    refine Out.sat_mono (Out.sat_bind.mp q) (fun acc s2 h x H' B' θ' a b c d => ?_) fun _ _ z => z
    exact h x H' B' θ' a (st1.trans b) c (d.lift st1.ex)
  rintro i m H ⟨rfl, hi, B, θ, s2, acc, vacc, so2, st2, hDv, hacc, hDB, hDθ, q⟩
  have sH : Same B1 H := st2.same.trans so2.core.bh
  by_cases hlt : i < ds.length
  · right
    refine ⟨wk.goes i H hlt sH, fun H' => ∃ B θ s2 acc vacc, SO L B0 H0 θ0 B H' θ (wipe σ vs) s2.fr s2.g ∧ Stp (wipe σ vs) (wipeF s1.fr vs) s2.fr θ1 θ B1 B H1 H' ∧ H' D = some (.lst vacc) ∧ Reps L.K θ B acc vacc ∧ B D = none ∧ D ∉ θ.flatten ∧
      (compD g t e vs (ds.drop (i + 1)) acc s2).sat (PostC L B0 H0 θ0 σ s1 B1 H1 θ1 vs Q) noE, fun H' h => ⟨ds.length - (i + 1), by omega, rfl, hlt, h⟩, fun x H' hy => ?_⟩
    have hd : ds[i]? = some ds[i] := List.getElem?_eq_getElem hlt
    rw [List.drop_eq_getElem_cons hlt, compD] at q
    have key : ∃ B', SO L B0 H0 θ0 B' H' θ (wipe σ vs) s2.fr s2.g ∧ Stp (wipe σ vs) s2.fr s2.fr θ θ B B' H H' ∧ Rep L.K θ B' ds[i] x := by
      rcases wk.yields i H x H' _ hd sH hy with ⟨rfl, r⟩ | ⟨T, us, xs, hT, rfl, rfl, ed, r⟩
      · exact ⟨B, so2, .refl, Rep.mono st2.same st2.pre _ _ r⟩
      · obtain ⟨h1, h2, h3⟩ := new_tup so2 hT (Reps.mono st2.same st2.pre _ _ r)
        exact ⟨_, h1, h2, by rw [ed]; exact h3⟩
    obtain ⟨B', so', st', rep⟩ := key
    have nown : ¬ OwnA (wipe σ vs) s2.fr D := fun z => by
      have := (so1.wipe vs).fresh hD
      exact this (st2.sub D z)
    have hD' : H' D = some (.lst vacc) := st'.keep D _ hDv hDθ nown
    have hDB' : B' D = none := st'.bn D hDB (by rw [hDv]; exact fun z => nomatch z) nown
    refine ⟨B0, H0, θ0, B', θ, s2, ds[i], so', rep, Out.sat_mono (Out.sat_bind.mp q) (fun _ s3 q σ3 so3 out3 own3 => ?_) fun _ _ z => z⟩
    have hw : wipe σ3 vs = wipe σ vs := by
      rw [wipe_same out3 hix]
      exact wipe_same (ix := vs) ⟨by rw [wipe_length], fun j h => by
        have key : ∀ (ws : List Nat) (σ : Sg), j ∉ ws → (wipe σ ws)[j]? = σ[j]? := by
          intro ws
          induction ws with
          | nil => intro σ _; rfl
          | cons w ws ih =>
            intro σ hj
            rw [wipe, List.getElem?_set_ne (fun z => hj (by simp [z])), ih σ fun z => hj (List.mem_cons_of_mem _ z)]
        exact key vs σ h⟩ (fun _ h => h)
    refine ⟨hw, B0, H0, θ0, B', θ, s3, so3, Out.sat_mono (Out.sat_bind.mp q) (fun b s4 q H4 B4 θ4 so4 st4 => ?_) fun _ _ z => z⟩
    have nown3 : ¬ OwnA σ3 s3.fr D := fun z => nown (own3 D z)
    have ne' : H' D ≠ none := by rw [hD']; exact fun z => nomatch z
    -- a turn's end
    have close : ∀ {B5 H5 : Hp} {θ5 : TT'} {s5 : Stt G}, SO L B0 H0 θ0 B5 H5 θ5 σ3 s5.fr s5.g → Stp σ3 s3.fr s5.fr θ θ5 B' B5 H' H5 →
        SO L B0 H0 θ0 B5 H5 θ5 (wipe σ vs) (wipeF s5.fr vs) s5.g ∧ Stp (wipe σ vs) (wipeF s1.fr vs) (wipeF s5.fr vs) θ1 θ5 B1 B5 H1 H5 ∧ H5 D = some (.lst vacc) ∧ B5 D = none ∧ D ∉ θ5.flatten ∧ ¬ OwnA (wipe σ vs) (wipeF s5.fr vs) D := by
      intro B5 H5 θ5 s5 so5 st5
      have w5 := so5.wipe vs
      rw [hw] at w5
      have sub5 : ∀ a, OwnA (wipe σ vs) (wipeF s5.fr vs) a → OwnA (wipe σ vs) s2.fr a := fun a h => by
        rw [← hw] at h
        exact own3 a (st5.sub a h.unwipe)
      have stA := st2.trans st'
      refine ⟨w5, ⟨stA.same.trans st5.same, stA.pre.trans st5.pre, fun a o h n1 n2 => ?_, fun a h => stA.sub a (sub5 a h), fun a h n => ?_, fun a h => st5.ex a (stA.ex a h), fun a h1 h2 h3 => ?_⟩, st5.keep D _ hD' hDθ nown3, st5.bn D hDB' ne' nown3, fun z => ?_, fun z => nown (sub5 D z)⟩
      · refine st5.keep a o (stA.keep a o h n1 n2) (fun z => ?_) fun z => n2 (stA.sub a (own3 a z))
        rcases stA.thn a z n1 with this | this
        · rw [h] at this; cases this
        · exact n2 this
      · by_cases z : a ∈ θ.flatten
        · exact stA.thn a z n
        · rcases st5.thn a h z with e5 | e5
          · cases q : H1 a with
            | none => exact .inl rfl
            | some o => exact absurd e5 (stA.ex a (by rw [q]; exact fun z => nomatch z))
          · exact .inr (stA.sub a (own3 a e5))
      · exact st5.bn a (stA.bn a h1 h2 h3) (stA.ex a h2) fun z => h3 (stA.sub a (own3 a z))
      · rcases st5.thn D z hDθ with this | this
        · rw [hD'] at this; cases this
        · exact nown3 this
    cases b with
    | false =>
      dsimp only at q ⊢
      rw [if_neg Bool.false_ne_true] at q ⊢
      obtain ⟨c1, c2, c3, c4, c5, _⟩ := close so4 st4
      exact ⟨B4, θ4, { s4 with fr := wipeF s4.fr vs }, acc, vacc, c1, c2, c3, Reps.mono (st'.same.trans st4.same) st4.pre _ _ hacc, c4, c5, q⟩
    | true =>
      dsimp only at q ⊢
      rw [if_pos rfl] at q ⊢
      refine tD_runD so4 q fun d5 s5 y H5 B5 θ5 q so5 st5 rep5 => ?_
      obtain ⟨c1, c2, c3, c4, c5, c6⟩ := close so5 (st4.trans st5)
      have hacc5 := Reps.mono ((st'.same.trans st4.same).trans st5.same) (st4.pre.trans st5.pre) _ _ hacc
      split at q
      · rename_i hl
        refine ⟨vacc, c3, by rw [← hacc.length]; exact hl, B5, θ5, { s5 with fr := wipeF s5.fr vs }, acc ++ [d5], vacc ++ [y], c1.write c3 c4 hD0 c5 c6, c2.write hD, upd_same, hacc5.append (Reps.mk rep5 (Reps.nil.mpr rfl)), c4, c5, q⟩
      · exact q.elim
  · left
    have ed : i = ds.length := by omega
    subst ed
    rw [List.drop_length, compD] at q
    refine ⟨wk.stops H sH, ?_⟩
    have so3 : SO L B0 H0 θ0 B H θ σ s2.fr s2.g := so2.unwipe
    have so4 := SO.rest so1 so3 st2.same st2.pre vs
    have sub4 : ∀ a, OwnA σ (restF s1.fr s2.fr vs) a → OwnA σ s1.fr a := fun a h => by
      obtain ⟨j, ys, e1, e2⟩ := h.rest
      obtain ⟨u, e3, _⟩ := so2.sl j _ e1
      have f := (wipe_some e3).1
      rw [e2] at f; cases f
      exact (st2.sub a ⟨j, ys, e1, e3⟩).unwipe
    refine q (.ref D) H B θ so4 ⟨st2.same, st2.pre, fun a o h n1 n2 => st2.keep a o h n1 fun z => n2 z.unwipe, sub4, (fun a h n => (st2.thn a h n).imp_right fun z => z.unwipe), st2.ex, fun a h1 h2 h3 => st2.bn a h1 h2 fun z => h3 z.unwipe⟩ ⟨D, rfl, ⟨hDB, hD0, hDθ, vacc, hDv, hacc⟩, fun z => so1.fresh hD (sub4 D z)⟩ fun a e => by cases e; exact hD
end RB

namespace RB
open PySem PySem.Spec PyProof.Rows L2
variable {G : Type}

def comp2i (g : GDen G) (t : TDen G) (e : EDen G) (ws : List Nat) : List D → List D → Stt G → Out (Stt G) (List D)
  | [], acc, s => .ok acc s
  | d :: ds, acc, s => (g d s).bind fun _ s => (t s).bind fun b s => if b = true then (eD e s).bind fun x s => if acc.length < sizeLine then comp2i g t e ws ds (acc ++ [x]) { s with fr := wipeF s.fr ws } else .bad
    else comp2i g t e ws ds acc { s with fr := wipeF s.fr ws }
def comp2o (g : GDen G) (t : TDen G) (it1 : ADen G) (g1 : GDen G) (t1 : TDen G) (e : EDen G) (vs ws : List Nat) : List D → List D → Stt G → Out (Stt G) (List D)
  | [], acc, s => .ok acc s
  | d :: ds, acc, s => (g d s).bind fun _ s => (t s).bind fun b s => if b = true then (it1 s).bind fun es s => (comp2i g1 t1 e ws es acc { s with fr := wipeF s.fr ws }).bind fun acc s => comp2o g t it1 g1 t1 e vs ws ds acc { s with fr := wipeF s.fr vs }
    else comp2o g t it1 g1 t1 e vs ws ds acc { s with fr := wipeF s.fr vs }
def dComp2 (it : ADen G) (g : GDen G) (t : TDen G) (it1 : ADen G) (g1 : GDen G) (t1 : TDen G) (e : EDen G) (vs ws : List Nat) : EDen G := fun s => (it s).bind fun ds s1 => (comp2o g t it1 g1 t1 e vs ws ds [] { s1 with fr := wipeF s1.fr vs }).bind fun acc s2 => .ok (.own acc) { s2 with fr := restF s1.fr s2.fr vs }
theorem wipe_idem (σ : Sg) (vs : List Nat) {ws : List Nat} (h : ∀ j ∈ ws, j ∈ vs) : wipe (wipe σ ws) vs = wipe σ vs := by
  refine wipe_same (ix := ws) ⟨wipe_length _ _, fun j hj => wipe_out hj⟩ h
/-- from one state of the slots to another one -/
structure Stp2 (σ : Sg) (fr : Fr) (σ' : Sg) (fr' : Fr) (θ θ' : TT') (B B' H H' : Hp) : Prop where
  same : Same B B'
  pre : θ <+: θ'
  keep : ∀ a o, H a = some o → a ∉ θ.flatten → ¬ OwnA σ fr a → H' a = some o
  sub : ∀ a, OwnA σ' fr' a → OwnA σ fr a
  thn : ∀ a ∈ θ'.flatten, a ∉ θ.flatten → H a = none ∨ OwnA σ fr a
  ex : ∀ a, H a ≠ none → H' a ≠ none
  bn : ∀ a, B a = none → H a ≠ none → ¬ OwnA σ fr a → B' a = none
theorem Stp.two {σ : Sg} {fr fr' : Fr} {θ θ' : TT'} {B B' H H' : Hp} (s : Stp σ fr fr' θ θ' B B' H H') : Stp2 σ fr σ fr' θ θ' B B' H H' := ⟨s.same, s.pre, s.keep, s.sub, s.thn, s.ex, s.bn⟩
theorem Stp2.one {σ : Sg} {fr fr' : Fr} {θ θ' : TT'} {B B' H H' : Hp} (s : Stp2 σ fr σ fr' θ θ' B B' H H') : Stp σ fr fr' θ θ' B B' H H' := ⟨s.same, s.pre, s.keep, s.sub, s.thn, s.ex, s.bn⟩
theorem Stp2.trans {σ σ1 σ2 : Sg} {fr fr1 fr2 : Fr} {θ θ1 θ2 : TT'} {B B1 B2 H H1 H2 : Hp} (s : Stp2 σ fr σ1 fr1 θ θ1 B B1 H H1) (t : Stp2 σ1 fr1 σ2 fr2 θ1 θ2 B1 B2 H1 H2) : Stp2 σ fr σ2 fr2 θ θ2 B B2 H H2 where
  same := s.same.trans t.same
  pre := s.pre.trans t.pre
  keep := fun a o h n1 n2 => by
    refine t.keep a o (s.keep a o h n1 n2) (fun z => ?_) fun z => n2 (s.sub a z)
    rcases s.thn a z n1 with this | this
    · rw [h] at this; cases this
    · exact n2 this
  sub := fun a h => s.sub a (t.sub a h)
  thn := fun a h n => by
    by_cases z : a ∈ θ1.flatten
    · exact s.thn a z n
    · rcases t.thn a h z with e | e
      · cases q : H a with
        | none => exact .inl rfl
        | some o => exact absurd e (s.ex a (by rw [q]; exact fun z => nomatch z))
      · exact .inr (s.sub a e)
  ex := fun a h => t.ex a (s.ex a h)
  bn := fun a h1 h2 h3 => t.bn a (s.bn a h1 h2 h3) (s.ex a h2) fun z => h3 (s.sub a z)
/-- only the slots change -/
theorem Stp2.slots {σ σ' : Sg} {fr fr' : Fr} {θ : TT'} {B H : Hp} (h : ∀ a, OwnA σ' fr' a → OwnA σ fr a) : Stp2 σ fr σ' fr' θ θ B B H H := ⟨fun _ _ h => h, List.prefix_refl _, fun _ _ h _ _ => h, h, fun _ h n => absurd h n, fun _ h => h, fun _ h _ _ => h⟩
theorem Stp2.wipe {σ : Sg} {fr : Fr} {θ : TT'} {B H : Hp} (vs : List Nat) : Stp2 σ fr (L2.wipe σ vs) (wipeF fr vs) θ θ B B H H := .slots fun _ h => h.unwipe
theorem Stp2.write {σ σ' : Sg} {fr fr' : Fr} {θ θ' : TT'} {B B' H H' : Hp} {D : Addr} {o : HO} (st : Stp2 σ fr σ' fr' θ θ' B B' H H') (hD : H D = none) : Stp2 σ fr σ' fr' θ θ' B B' H (upd H' D o) where
  same := st.same
  pre := st.pre
  keep := fun a u h n1 n2 => by rw [upd_ne (ne_of_none h hD)]; exact st.keep a u h n1 n2
  sub := st.sub
  thn := st.thn
  ex := fun a h => by
    by_cases e : a = D
    · subst e; exact absurd hD h
    · rw [upd_ne e]; exact st.ex a h
  bn := st.bn
/-- an object of ours outside of the slots stays -/
theorem Stp2.mine {σ σ' : Sg} {fr fr' : Fr} {θ θ' : TT'} {B B' H H' : Hp} {D : Addr} {o : HO} (t : Stp2 σ fr σ' fr' θ θ' B B' H H') (hD : H D = some o) (hB : B D = none) (hθ : D ∉ θ.flatten) (n : ¬ OwnA σ fr D) : H' D = some o ∧ B' D = none ∧ D ∉ θ'.flatten ∧ ¬ OwnA σ' fr' D :=
  ⟨t.keep D o hD hθ n, t.bn D hB (by rw [hD]; exact fun z => nomatch z) n, (fun z => by
    rcases t.thn D z hθ with this | this
    · rw [hD] at this; cases this
    · exact n this), fun z => n (t.sub D z)⟩
theorem lc2_imp {L : Law G} {it it1 : ADen G} {g g1 : GDen G} {ix ix1 : List Nat} {t t1 : TDen G} {e : EDen G} {vs ws : List Nat} (hix : ∀ j ∈ ix, j ∈ vs) (hix1 : ∀ j ∈ ix1, j ∈ ws) (hws : ∀ j ∈ ws, j ∈ vs) : ∀ σ H Q, tD L (dComp2 it g t it1 g1 t1 e vs ws) σ H Q → tLc2 (tDI L it) (tDG L ix g) (tDT L t) (tDI L it1) (tDG L ix1 g1) (tDT L t1) (tD L e) vs ws σ H Q := by
  rintro σ H Q ⟨B0, H0, θ0, B, θ, s, so, q⟩
  refine ⟨B0, H0, θ0, B, θ, s, so, ?_⟩
  unfold dComp2 at q
  cases ei : it s with
  | bad => rw [ei] at q; exact q
  | exc x s1 => rw [ei] at q; exact q
  | ok ds s1 =>
  rw [ei] at q
  intro J H1 B1 θ1 so1 st1 wk D hD
  obtain ⟨hD0, hDb, hDt⟩ := so1.core.fresh0 hD
  have sw := (so1.wipe vs).laid hD (.lst [])
  refine ⟨fun i m H => m = ds.length - i ∧ i ≤ ds.length ∧ ∃ B θ s2 acc vacc, SO L B0 H0 θ0 B H θ (wipe σ vs) s2.fr s2.g ∧ Stp (wipe σ vs) (wipeF s1.fr vs) s2.fr θ1 θ B1 B H1 H ∧ H D = some (.lst vacc) ∧ Reps L.K θ B acc vacc ∧ B D = none ∧ D ∉ θ.flatten ∧
    (comp2o g t it1 g1 t1 e vs ws (ds.drop i) acc s2).sat (PostC L B0 H0 θ0 σ s1 B1 H1 θ1 vs Q) noE, ⟨ds.length, by simp, Nat.zero_le _, B1, θ1, { s1 with fr := wipeF s1.fr vs }, [], [], sw, ?_, upd_same, Reps.nil.mpr rfl, hDb, hDt, ?_⟩, ?_⟩
  · exact stp_laid hD
  · rw [List.drop_zero]
    refine Out.sat_mono (Out.sat_bind.mp q) (fun acc s2 h x H' B' θ' a b c d => ?_) fun _ _ z => z
    exact h x H' B' θ' a (st1.trans b) c (d.lift st1.ex)
  rintro i m H ⟨rfl, hi, B, θ, s2, acc, vacc, so2, st2, hDv, hacc, hDB, hDθ, q⟩
  have sH : Same B1 H := st2.same.trans so2.core.bh
  have nown1 : ¬ OwnA (wipe σ vs) (wipeF s1.fr vs) D := (so1.wipe vs).fresh hD
  by_cases hlt : i < ds.length
  · right
    refine ⟨wk.goes i H hlt sH, fun H' => ∃ B θ s2 acc vacc, SO L B0 H0 θ0 B H' θ (wipe σ vs) s2.fr s2.g ∧ Stp (wipe σ vs) (wipeF s1.fr vs) s2.fr θ1 θ B1 B H1 H' ∧ H' D = some (.lst vacc) ∧ Reps L.K θ B acc vacc ∧ B D = none ∧ D ∉ θ.flatten ∧
      (comp2o g t it1 g1 t1 e vs ws (ds.drop (i + 1)) acc s2).sat (PostC L B0 H0 θ0 σ s1 B1 H1 θ1 vs Q) noE, fun H' h => ⟨ds.length - (i + 1), by omega, rfl, hlt, h⟩, fun x H' hy => ?_⟩
    have hd : ds[i]? = some ds[i] := List.getElem?_eq_getElem hlt
    rw [List.drop_eq_getElem_cons hlt, comp2o] at q
    have key : ∃ B', SO L B0 H0 θ0 B' H' θ (wipe σ vs) s2.fr s2.g ∧ Stp (wipe σ vs) s2.fr s2.fr θ θ B B' H H' ∧ Rep L.K θ B' ds[i] x := by
      rcases wk.yields i H x H' _ hd sH hy with ⟨rfl, r⟩ | ⟨T, us, xs, hT, rfl, rfl, ed, r⟩
      · exact ⟨B, so2, .refl, Rep.mono st2.same st2.pre _ _ r⟩
      · obtain ⟨h1, h2, h3⟩ := new_tup so2 hT (Reps.mono st2.same st2.pre _ _ r)
        exact ⟨_, h1, h2, by rw [ed]; exact h3⟩
    obtain ⟨B', so', st', rep⟩ := key
    refine ⟨B0, H0, θ0, B', θ, s2, ds[i], so', rep, Out.sat_mono (Out.sat_bind.mp q) (fun _ s3 q σ3 so3 out3 own3 => ?_) fun _ _ z => z⟩
    have hw : wipe σ3 vs = wipe σ vs := by
      rw [wipe_same out3 hix]
      exact wipe_idem σ vs fun _ h => h
    refine ⟨hw, B0, H0, θ0, B', θ, s3, so3, Out.sat_mono (Out.sat_bind.mp q) (fun b s4 q H4 B4 θ4 so4 st4 => ?_) fun _ _ z => z⟩
    have stA : Stp2 (wipe σ vs) s2.fr σ3 s4.fr θ θ4 B B4 H H4 := (st'.two.trans (.slots own3)).trans st4.two
    cases b with
    | false =>
      dsimp only at q ⊢
      rw [if_neg Bool.false_ne_true] at q ⊢
      have w4 := so4.wipe vs
      rw [hw] at w4
      have stB := stA.trans (.wipe vs)
      rw [hw] at stB
      obtain ⟨m1, m2, m3, m4⟩ := stB.mine hDv hDB hDθ fun z => nown1 (st2.sub D z)
      exact ⟨B4, θ4, { s4 with fr := wipeF s4.fr vs }, acc, vacc, w4, st2.trans stB.one, m1, Reps.mono stB.same stB.pre _ _ hacc, m2, m3, q⟩
    | true =>
      dsimp only at q ⊢
      rw [if_pos rfl] at q ⊢
      refine ⟨B0, H0, θ0, B4, θ4, s4, so4, Out.sat_mono (Out.sat_bind.mp q) (fun es s5 q J1 H5 B5 θ5 so5 st5 wk1 => ?_) fun _ _ z => z⟩
      have stC := (st2.two.trans stA).trans st5.two
      have q := Out.sat_bind.mp q
      have stE := stA.trans st5.two
      obtain ⟨n1, n2, n3, n4⟩ := stE.mine hDv hDB hDθ fun z => nown1 (st2.sub D z)
      have hacc5 : Reps L.K θ5 B5 acc vacc := Reps.mono stE.same stE.pre _ _ hacc
      -- the inner loop
      refine ⟨fun j k H => k = es.length - j ∧ j ≤ es.length ∧ ∃ B θ s6 acc vacc, SO L B0 H0 θ0 B H θ (wipe σ3 ws) s6.fr s6.g ∧ Stp2 (wipe σ vs) (wipeF s1.fr vs) (wipe σ3 ws) s6.fr θ1 θ B1 B H1 H ∧ Same B5 B ∧ θ5 <+: θ ∧ H D = some (.lst vacc) ∧ Reps L.K θ B acc vacc ∧ B D = none ∧ D ∉ θ.flatten ∧
        (comp2i g1 t1 e ws (es.drop j) acc s6).sat (fun acc s => (comp2o g t it1 g1 t1 e vs ws (ds.drop (i + 1)) acc { s with fr := wipeF s.fr vs }).sat (PostC L B0 H0 θ0 σ s1 B1 H1 θ1 vs Q) noE) noE,
        ⟨es.length, by simp, Nat.zero_le _, B5, θ5, { s5 with fr := wipeF s5.fr ws }, acc, vacc, so5.wipe ws, stC.trans (.wipe ws), fun _ _ h => h, List.prefix_refl _, n1, hacc5, n2, n3, by rw [List.drop_zero]; exact q⟩, ?_⟩
      rintro j k H ⟨rfl, hj, B, θ, s6, acc, vacc, so6, st6, sm6, tp6, hDv, hacc, hDB, hDθ6, q⟩
      have sH5 : Same B5 H := sm6.trans so6.core.bh
      have nown6 : ¬ OwnA (wipe σ3 ws) s6.fr D := fun z => nown1 (st6.sub D z)
      by_cases hlt1 : j < es.length
      · right
        refine ⟨wk1.goes j H hlt1 sH5, fun H' => ∃ B θ s6 acc vacc, SO L B0 H0 θ0 B H' θ (wipe σ3 ws) s6.fr s6.g ∧ Stp2 (wipe σ vs) (wipeF s1.fr vs) (wipe σ3 ws) s6.fr θ1 θ B1 B H1 H' ∧ Same B5 B ∧ θ5 <+: θ ∧ H' D = some (.lst vacc) ∧ Reps L.K θ B acc vacc ∧ B D = none ∧ D ∉ θ.flatten ∧
          (comp2i g1 t1 e ws (es.drop (j + 1)) acc s6).sat (fun acc s => (comp2o g t it1 g1 t1 e vs ws (ds.drop (i + 1)) acc { s with fr := wipeF s.fr vs }).sat (PostC L B0 H0 θ0 σ s1 B1 H1 θ1 vs Q) noE) noE, fun H' h => ⟨es.length - (j + 1), by omega, rfl, hlt1, h⟩, fun x1 H7 hy1 => ?_⟩
        have hd1 : es[j]? = some es[j] := List.getElem?_eq_getElem hlt1
        rw [List.drop_eq_getElem_cons hlt1, comp2i] at q
        have key : ∃ B', SO L B0 H0 θ0 B' H7 θ (wipe σ3 ws) s6.fr s6.g ∧ Stp (wipe σ3 ws) s6.fr s6.fr θ θ B B' H H7 ∧ Rep L.K θ B' es[j] x1 := by
          rcases wk1.yields j H x1 H7 _ hd1 sH5 hy1 with ⟨rfl, r⟩ | ⟨T, us, xs, hT, rfl, rfl, ed, r⟩
          · exact ⟨B, so6, .refl, Rep.mono sm6 tp6 _ _ r⟩
          · obtain ⟨h1, h2, h3⟩ := new_tup so6 hT (Reps.mono sm6 tp6 _ _ r)
            exact ⟨_, h1, h2, by rw [ed]; exact h3⟩
        obtain ⟨B7, so7, st7, rep7⟩ := key
        refine ⟨B0, H0, θ0, B7, θ, s6, es[j], so7, rep7, Out.sat_mono (Out.sat_bind.mp q) (fun _ s8 q σ8 so8 out8 own8 => ?_) fun _ _ z => z⟩
        have hw8 : wipe σ8 ws = wipe σ3 ws := by
          rw [wipe_same out8 hix1]
          exact wipe_idem σ3 ws fun _ h => h
        refine ⟨hw8, B0, H0, θ0, B7, θ, s8, so8, Out.sat_mono (Out.sat_bind.mp q) (fun b s9 q H9 B9 θ9 so9 st9 => ?_) fun _ _ z => z⟩
        have stD : Stp2 (wipe σ3 ws) s6.fr σ8 s9.fr θ θ9 B B9 H H9 := (st7.two.trans (.slots own8)).trans st9.two
        cases b with
        | false =>
          dsimp only at q ⊢
          rw [if_neg Bool.false_ne_true] at q ⊢
          have w9 := so9.wipe ws
          rw [hw8] at w9
          have stF := stD.trans (.wipe ws)
          rw [hw8] at stF
          obtain ⟨m1, m2, m3, m4⟩ := stF.mine hDv hDB hDθ6 nown6
          exact ⟨B9, θ9, { s9 with fr := wipeF s9.fr ws }, acc, vacc, w9, st6.trans stF, sm6.trans stF.same, tp6.trans stF.pre, m1, Reps.mono stF.same stF.pre _ _ hacc, m2, m3, q⟩
        | true =>
          dsimp only at q ⊢
          rw [if_pos rfl] at q ⊢
          refine tD_runD so9 q fun d5 s10 y H10 B10 θ10 q so10 st10 rep10 => ?_
          have w10 := so10.wipe ws
          rw [hw8] at w10
          have stF := (stD.trans st10.two).trans (.wipe ws)
          rw [hw8] at stF
          obtain ⟨m1, m2, m3, m4⟩ := stF.mine hDv hDB hDθ6 nown6
          have hacc10 := Reps.mono stF.same stF.pre _ _ hacc
          split at q
          · rename_i hl
            exact ⟨vacc, m1, by rw [← hacc.length]; exact hl, B10, θ10, { s10 with fr := wipeF s10.fr ws }, acc ++ [d5], vacc ++ [y], w10.write m1 m2 hD0 m3 m4, (st6.trans stF).write hD, sm6.trans stF.same, tp6.trans stF.pre, upd_same, hacc10.append (Reps.mk rep10 (Reps.nil.mpr rfl)), m2, m3, q⟩
          · exact q.elim
      · left
        have ed : j = es.length := by omega
        subst ed
        rw [List.drop_length, comp2i] at q
        refine ⟨wk1.stops H sH5, ?_⟩
        have w6 := so6.wipe vs
        rw [wipe_idem σ3 vs hws, hw] at w6
        have stF := st6.trans (.wipe vs)
        rw [wipe_idem σ3 vs hws, hw] at stF
        exact ⟨B, θ, { s6 with fr := wipeF s6.fr vs }, acc, vacc, w6, stF.one, hDv, hacc, hDB, hDθ6, q⟩
  · left
    have ed : i = ds.length := by omega
    subst ed
    rw [List.drop_length, comp2o] at q
    refine ⟨wk.stops H sH, ?_⟩
    have so3 : SO L B0 H0 θ0 B H θ σ s2.fr s2.g := so2.unwipe
    have so4 := SO.rest so1 so3 st2.same st2.pre vs
    have sub4 : ∀ a, OwnA σ (restF s1.fr s2.fr vs) a → OwnA σ s1.fr a := fun a h => by
      obtain ⟨j, ys, e1, e2⟩ := h.rest
      obtain ⟨u, e3, _⟩ := so2.sl j _ e1
      have f := (wipe_some e3).1
      rw [e2] at f; cases f
      exact (st2.sub a ⟨j, ys, e1, e3⟩).unwipe
    refine q (.ref D) H B θ so4 ⟨st2.same, st2.pre, fun a o h n1 n2 => st2.keep a o h n1 fun z => n2 z.unwipe, sub4, (fun a h n => (st2.thn a h n).imp_right fun z => z.unwipe), st2.ex, fun a h1 h2 h3 => st2.bn a h1 h2 fun z => h3 z.unwipe⟩ ⟨D, rfl, ⟨hDB, hD0, hDθ, vacc, hDv, hacc⟩, fun z => so1.fresh hD (sub4 D z)⟩ fun a e => by cases e; exact hD
end RB

namespace RB
open PySem PySem.Spec PyProof.Rows L2
variable {G : Type}

/-- a clause's tests -/
structure QI (G : Type) where
  chk : CE → List Expr → Bool
  den : TDen G
  need : Law G → Nat → Prop
  ok : ∀ (L : Law G) (lv : Nat) (X : Cx) (ce : CE) (es : List Expr), Ok L X ce lv → need L lv → chk ce es = true → PTs X es (tDT L den)
def qNil : QI G where
  chk := fun _ es => match es with
    | [] => true
    | _ => false
  den := fun s => .ok true s
  need := fun _ _ => True
  ok := fun L lv X ce es hX hn h => by
    split at h
    · refine ⟨fun pins s σ H Q I q => pts_nil.run pins s σ H Q I ?_⟩
      obtain ⟨B0, H0, θ0, B, θ, s, so, q⟩ := q
      exact q H B θ so .refl
    · cases h
def qOne (t : TI' G) : QI G where
  chk := fun ce es => match es with
    | [e] => t.chk ce e
    | _ => false
  den := t.den
  need := t.need
  ok := fun L lv X ce es hX hn h => by
    split at h
    · exact pts_one (t.ok L lv X ce _ hX hn h)
    · cases h
/-- the block's context -/
def CE.blk (ce : CE) (scope : Scope) : CE := ⟨ce.N, relS scope ce.sc, fun x => scope.names.lookup x == some .cell⟩
theorem Ok.blk {L : Law G} {X : Cx} {ce : CE} {lv : Nat} (h : Ok L X ce lv) (s : Shared) (H : Hp) (scope : Scope) (C : Addr) (cl : List (Str × Addr)) (fp : List Addr) : Ok L (X.blk s H scope (compEnvC scope cl C X.env) fp) (ce.blk scope) lv where
  P := h.P
  w := h.w
  K := h.K
  mg := h.mg
  base := h.base
  N := h.N
  nd := h.nd
  calm := h.calm
  sc := by show relS scope X.env.scope = _; rw [h.sc]; rfl
  fn := fun x e => e
  room := h.room
/-- a comprehension: as a value, as what is stored at once -/
structure KI (G : Type) where
  chk : CE → Expr → Bool
  den : EDen G
  need : Law G → Nat → Prop
  ok : ∀ (L : Law G) (lv : Nat) (X : Cx) (ce : CE) (e : Expr), Ok L X ce lv → need L lv → chk ce e = true → PE X e (tD L den)
  okS : ∀ (L : Law G) (lv : Nat) (X : Cx) (ce : CE) (e : Expr) (i : Nat) (y : Str) (py spos : Pos), Ok L X ce lv → need L lv → chk ce e = true → X.N[i]? = some y → X.env.scope.names.lookup y = some .local →
    swapsWith e (some (.Name y py)) spos.line X.env = pure true → PS X (.Assign [.Name y py] e spos) (tAsg (tD L den) (gName i))
theorem fold_no {e : Expr} {env : Env} {x : Value} (h : notSetE e = true) : foldedSetIterable e env x = pure x := by
  cases e <;> first | rfl | exact absurd h Bool.false_ne_true
def kOne (own : List (Str × Nat)) (g : GI G) (it : II G) (q : QI G) (a : EI G) : KI G where
  chk := fun ce e => match e with
    | .ListComp elt [⟨tg, iter, ifs, 0⟩] scope _ => blkC ce.N ce.sc scope own && notSetE iter && it.chk ce tg iter && g.chk (ce.blk scope) tg && q.chk (ce.blk scope) ifs && a.chk (ce.blk scope) elt && g.ix.all fun j => decide (j ∈ own.map (·.2))
    | _ => false
  den := dComp it.den g.den q.den a.den (own.map (·.2))
  need := fun L lv => it.need L lv ∧ q.need L lv ∧ a.need L lv
  ok := fun L lv X ce e hX hn h => by
    split at h
    · rename_i elt tg iter ifs scope pos
      simp only [Bool.and_eq_true, List.all_eq_true, decide_eq_true_eq] at h
      obtain ⟨⟨⟨⟨⟨⟨h1, h2⟩, h3⟩, h4⟩, h5⟩, h6⟩, h7⟩ := h
      rw [← hX.N, ← hX.sc] at h1
      exact (pe_lc hX.calm hX.nd (it.ok L lv X ce tg iter hX hn.1 h3) (blkOk_by h1) (fun s H C cl fp => g.ok L lv _ _ tg (hX.blk s H scope C cl fp) h4) (fun s H C cl fp => q.ok L lv _ _ ifs (hX.blk s H scope C cl fp) hn.2.1 h5)
        (fun s H C cl fp => a.ok L lv _ _ elt (hX.blk s H scope C cl fp) hn.2.2 h6) fun x => fold_no h2).imp (lc_imp h7)
    · cases h
  okS := fun L lv X ce e i y py spos hX hn h hy hl hw => by
    split at h
    · rename_i elt tg iter ifs scope pos
      simp only [Bool.and_eq_true, List.all_eq_true, decide_eq_true_eq] at h
      obtain ⟨⟨⟨⟨⟨⟨h1, h2⟩, h3⟩, h4⟩, h5⟩, h6⟩, h7⟩ := h
      rw [← hX.N, ← hX.sc] at h1
      refine (ps_setLc hX.calm hX.nd hy hl hw (it.ok L lv X ce tg iter hX hn.1 h3) (blkOk_by h1) (fun s H C cl fp => g.ok L lv _ _ tg (hX.blk s H scope C cl fp) h4) (fun s H C cl fp => q.ok L lv _ _ ifs (hX.blk s H scope C cl fp) hn.2.1 h5)
        (fun s H C cl fp => a.ok L lv _ _ elt (hX.blk s H scope C cl fp) hn.2.2 h6) fun x => fold_no h2).imp fun D σ H q => ?_
      exact lc_imp h7 σ H _ q
    · cases h
def kTwo (own : List (Str × Nat)) (ws : List Nat) (g : GI G) (it : II G) (q : QI G) (g1 : GI G) (it1 : II G) (q1 : QI G) (a : EI G) : KI G where
  chk := fun ce e => match e with
    | .ListComp elt [⟨tg, iter, ifs, 0⟩, ⟨tg1, iter1, ifs1, 0⟩] scope _ => blkC ce.N ce.sc scope own && notSetE iter && it.chk ce tg iter && g.chk (ce.blk scope) tg && q.chk (ce.blk scope) ifs && a.chk (ce.blk scope) elt && (g.ix.all fun j => decide (j ∈ own.map (·.2))) &&
      notSetE iter1 && it1.chk (ce.blk scope) tg1 iter1 && g1.chk (ce.blk scope) tg1 && q1.chk (ce.blk scope) ifs1 && (g1.ix.all fun j => decide (j ∈ ws)) && ws.all fun j => decide (j ∈ own.map (·.2))
    | _ => false
  den := dComp2 it.den g.den q.den it1.den g1.den q1.den a.den (own.map (·.2)) ws
  need := fun L lv => it.need L lv ∧ q.need L lv ∧ a.need L lv ∧ it1.need L lv ∧ q1.need L lv
  ok := fun L lv X ce e hX hn h => by
    split at h
    · rename_i elt tg iter ifs tg1 iter1 ifs1 scope pos
      simp only [Bool.and_eq_true, List.all_eq_true, decide_eq_true_eq] at h
      obtain ⟨⟨⟨⟨⟨⟨⟨⟨⟨⟨⟨⟨h1, h2⟩, h3⟩, h4⟩, h5⟩, h6⟩, h7⟩, k2⟩, k3⟩, k4⟩, k5⟩, k7⟩, k8⟩ := h
      rw [← hX.N, ← hX.sc] at h1
      exact (pe_lc2 hX.calm hX.nd (it.ok L lv X ce tg iter hX hn.1 h3) (blkOk_by h1) k8 (fun s H C cl fp => g.ok L lv _ _ tg (hX.blk s H scope C cl fp) h4) (fun s H C cl fp => q.ok L lv _ _ ifs (hX.blk s H scope C cl fp) hn.2.1 h5)
        (fun s H C cl fp => it1.ok L lv _ _ tg1 iter1 (hX.blk s H scope C cl fp) hn.2.2.2.1 k3) (fun s H C cl fp => g1.ok L lv _ _ tg1 (hX.blk s H scope C cl fp) k4) (fun s H C cl fp => q1.ok L lv _ _ ifs1 (hX.blk s H scope C cl fp) hn.2.2.2.2 k5)
        (fun s H C cl fp => a.ok L lv _ _ elt (hX.blk s H scope C cl fp) hn.2.2.1 h6) (fun x => fold_no h2) fun env x => fold_no k2).imp (lc2_imp h7 k7 k8)
    · cases h
  okS := fun L lv X ce e i y py spos hX hn h hy hl hw => by
    split at h
    · rename_i elt tg iter ifs tg1 iter1 ifs1 scope pos
      simp only [Bool.and_eq_true, List.all_eq_true, decide_eq_true_eq] at h
      obtain ⟨⟨⟨⟨⟨⟨⟨⟨⟨⟨⟨⟨h1, h2⟩, h3⟩, h4⟩, h5⟩, h6⟩, h7⟩, k2⟩, k3⟩, k4⟩, k5⟩, k7⟩, k8⟩ := h
      rw [← hX.N, ← hX.sc] at h1
      refine (ps_setLc2 hX.calm hX.nd hy hl hw (it.ok L lv X ce tg iter hX hn.1 h3) (blkOk_by h1) k8 (fun s H C cl fp => g.ok L lv _ _ tg (hX.blk s H scope C cl fp) h4) (fun s H C cl fp => q.ok L lv _ _ ifs (hX.blk s H scope C cl fp) hn.2.1 h5)
        (fun s H C cl fp => it1.ok L lv _ _ tg1 iter1 (hX.blk s H scope C cl fp) hn.2.2.2.1 k3) (fun s H C cl fp => g1.ok L lv _ _ tg1 (hX.blk s H scope C cl fp) k4) (fun s H C cl fp => q1.ok L lv _ _ ifs1 (hX.blk s H scope C cl fp) hn.2.2.2.2 k5)
        (fun s H C cl fp => a.ok L lv _ _ elt (hX.blk s H scope C cl fp) hn.2.2.1 h6) (fun x => fold_no h2) fun env x => fold_no k2).imp fun D σ H q => ?_
      exact lc2_imp h7 k7 k8 σ H _ q
    · cases h
/-- a comprehension as a value -/
def eK (k : KI G) : EI G := ⟨k.chk, k.den, k.need, k.ok⟩
def isFun (sc : Scope) : Bool := match sc.kind with
  | .function => true
  | _ => false
/-- is it stored at once? -/
def swB (ce : CE) (y : Str) (py : Pos) (e : Expr) : Bool := match e with
  | .ListComp _ _ scope pos => decide (ce.sc.names.lookup y = some .local) && py.line == pos.line && !(scope.names.any fun (n, k) => n == y && (k == .local || k == .cell))
  | _ => false
theorem swB_ok {L : Law G} {X : Cx} {ce : CE} {lv : Nat} {y : Str} {py : Pos} {elt : Expr} {gs : List Comprehension} {scope : Scope} {pos : Pos} {l : Nat} (hX : Ok L X ce lv) (hk : isFun ce.sc = true) :
    swapsWith (.ListComp elt gs scope pos) (some (.Name y py)) l X.env = pure (swB ce y py (.ListComp elt gs scope pos)) := by
  have hk' : X.env.scope.kind = .function := by
    rw [hX.sc]
    unfold isFun at hk
    split at hk
    · assumption
    · cases hk
  have hb : X.env.blockKind = .function := by unfold Env.blockKind; rw [hk']; rfl
  have ky : X.env.kindOf y = ce.sc.names.lookup y := by unfold Env.kindOf; rw [hX.sc]
  unfold swapsWith swB
  simp only [hb, ky, Expr.pos]
  congr 1
  have e : (ce.sc.names.lookup y == some NameKind.local) = decide (ce.sc.names.lookup y = some .local) := by
    cases z : ce.sc.names.lookup y with
    | none => rfl
    | some k => cases k <;> rfl
  rw [e]
  rfl
def sSetC (i : Nat) (k : KI G) : SI G where
  chk := fun ce st => match st with
    | .Assign [.Name x _] (.ListComp elt gs scope pos) _ => isFun ce.sc && locB ce i x && k.chk ce (.ListComp elt gs scope pos)
    | _ => false
  den := fun s => Fl.of (k.den s) fun v s => Fl.of (slotOf v s) fun q s => .nx (putS i q s)
  need := k.need
  ok := fun L lv X ce st hX hn h => by
    split at h
    · rename_i x p elt gs scope pos spos
      simp only [Bool.and_eq_true] at h
      obtain ⟨⟨h1, h2⟩, h3⟩ := h
      obtain ⟨k1, k2, k3⟩ := locB_ok hX.ok h2
      have sw := swB_ok (y := x) (py := p) (elt := elt) (gs := gs) (scope := scope) (pos := pos) (l := spos.line) hX.ok h1
      cases hb : swB ce x p (.ListComp elt gs scope pos) with
      | true =>
        rw [hb] at sw
        have hl : X.env.scope.names.lookup x = some .local := by
          rw [hX.ok.sc]
          unfold swB at hb
          simp only [Bool.and_eq_true, decide_eq_true_eq] at hb
          exact hb.1.1
        exact (k.okS L lv X ce _ i x p spos hX.ok hn h3 k1 hl sw).imp asg_imp
      | false =>
        rw [hb] at sw
        exact (ps_set hX.ok.nd k1 k2 (k.ok L lv X ce _ hX.ok hn h3) sw k3).imp asg_imp
    · cases h
end RB

namespace RB
open PySem PySem.Spec PyProof.Rows L2

/-- what a token stands for -/
inductive Ct where
  | lst (xs : List D) | dic (kvs : List (D × D))
abbrev TkG := List Ct
def flatD (d : D) : Bool := match d with
  | .non => true
  | .bl _ => true
  | .int _ => true
  | .str _ => true
  | .tok _ => true
  | _ => false
theorem rep_flat {K : PySem.W.Frag} {θ : TT'} {B B' : Hp} {d : D} {v : V} (h : flatD d = true) (r : Rep K θ B d v) : Rep K θ B' d v := by
  cases d <;> first | exact r | cases h | (simp only [Rep] at r ⊢; exact r)
theorem reps_flat {K : PySem.W.Frag} {θ : TT'} {B B' : Hp} : ∀ {ds : List D} {vs : List V}, ds.all flatD = true → Reps K θ B ds vs → Reps K θ B' ds vs
  | [], vs, _, r => Reps.nil.mpr (Reps.nil.mp r)
  | d :: ds, vs, h, r => by
    rw [List.all_cons, Bool.and_eq_true] at h
    obtain ⟨v, t, rfl, r1, r2⟩ := Reps.cons.mp r
    exact Reps.mk (rep_flat h.1 r1) (reps_flat h.2 r2)
abbrev noB : Hp := fun _ => none
def CtAt (K : PySem.W.Frag) (θ : TT') (H : Hp) : Ct → Addr → Prop
  | .lst xs, a => ∃ vs, H a = some (.lst vs) ∧ Reps K θ noB xs vs
  | .dic _, _ => False
structure TkRG (K : PySem.W.Frag) (g : TkG) (θ : TT') (H : Hp) : Prop where
  nd : θ.flatten.Nodup
  len : θ.length = g.length
  at' : ∀ (n : Nat) (c : Ct), g[n]? = some c → ∃ a, θ[n]? = some [a] ∧ CtAt K θ H c a
theorem ctAt_mono {K : PySem.W.Frag} {θ θ' : TT'} {H H' : Hp} {c : Ct} {a : Addr} (h : CtAt K θ H c a) (t : θ <+: θ') (e : H' a = H a) : CtAt K θ' H' c a := by
  cases c with
  | lst xs =>
    obtain ⟨vs, e1, r⟩ := h
    exact ⟨vs, e.trans e1, Reps.mono (fun _ _ z => z) t _ _ r⟩
  | dic kvs => exact h.elim
theorem TkRG.stable {K : PySem.W.Frag} (g : TkG) (θ : TT') (H H' : Hp) (e : ∀ a ∈ θ.flatten, H a = H' a) (h : TkRG K g θ H) : TkRG K g θ H' :=
  ⟨h.nd, h.len, fun n c hc => by
    obtain ⟨a, e1, e2⟩ := h.at' n c hc
    refine ⟨a, e1, ctAt_mono e2 (List.prefix_refl _) (e a ?_).symm⟩
    exact List.mem_flatten.mpr ⟨[a], List.mem_of_getElem? e1, List.mem_singleton.mpr rfl⟩⟩
/-- the laws whose state is that of tokens -/
def TkLaw (L : Law TkG) : Prop := L.RG = TkRG L.K
section
variable {L : Law TkG} {B0 H0 B H B' H' : Hp} {θ0 θ θ' : TT'} {σ : Sg} {fr : Fr} {g g' : TkG} {s s' : Stt TkG}
theorem mem_tok {θ : TT'} {n : Nat} {a : Addr} (h : θ[n]? = some [a]) : a ∈ θ.flatten := List.mem_flatten.mpr ⟨[a], List.mem_of_getElem? h, List.mem_singleton.mpr rfl⟩
/-- a token's list -/
theorem tok_at (hT : TkLaw L) (so : SO L B0 H0 θ0 B H θ σ fr g) {n : Nat} {xs : List D} {x : V} (hn : g[n]? = some (.lst xs)) (r : Rep L.K θ B (.tok n) x) : ∃ a vs, x = .ref a ∧ θ[n]? = some [a] ∧ H a = some (.lst vs) ∧ Reps L.K θ noB xs vs := by
  have rg := so.core.rg
  rw [hT] at rg
  obtain ⟨a, e1, vs, e2, e3⟩ := rg.at' n _ hn
  simp only [Rep] at r
  obtain ⟨b, t, e4, e5⟩ := r
  rw [e1] at e4
  cases e4
  exact ⟨a, vs, e5, e1, e2, e3⟩
theorem noB_same {B : Hp} : Same noB B := fun _ _ z => nomatch z
theorem nodup_flat {θ : TT'} (h : θ.flatten.Nodup) {n m : Nat} {a : Addr} (h1 : θ[n]? = some [a]) (h2 : θ[m]? = some [a]) : n = m := by
  induction θ generalizing n m with
  | nil => cases h1
  | cons t θ ih =>
    rw [List.flatten_cons, List.nodup_append] at h
    obtain ⟨h3, h4, h5⟩ := h
    cases n with
    | zero =>
      cases m with
      | zero => rfl
      | succ m =>
        rw [List.getElem?_cons_zero] at h1
        rw [List.getElem?_cons_succ] at h2
        cases h1
        exact absurd rfl (h5 a (List.mem_singleton.mpr rfl) a (mem_tok h2))
    | succ n =>
      cases m with
      | zero =>
        rw [List.getElem?_cons_zero] at h2
        rw [List.getElem?_cons_succ] at h1
        cases h2
        exact absurd rfl (h5 a (List.mem_singleton.mpr rfl) a (mem_tok h1))
      | succ m =>
        rw [List.getElem?_cons_succ] at h1 h2
        rw [ih h4 h1 h2]
/-- a token's list is changed -/
theorem SO.mutTok (hT : TkLaw L) (so : SO L B0 H0 θ0 B H θ σ fr g) {n : Nat} {a : Addr} {xs ys : List D} {vs us : List V} (hn : g[n]? = some (.lst xs)) (ha : θ[n]? = some [a]) (hH : H a = some (.lst vs)) (r : Reps L.K θ noB ys us) :
    SO L B0 H0 θ0 B (upd H a (.lst us)) θ σ fr (g.set n (.lst ys)) ∧ Stp σ fr fr θ θ B B H (upd H a (.lst us)) := by
  have hm := mem_tok ha
  have hb : B a = none := so.core.tb a hm
  have hne : H a ≠ none := by rw [hH]; exact fun z => nomatch z
  have rg := so.core.rg
  rw [hT] at rg
  have hown : ∀ b xs, OwnAt L.K H0 B H θ xs b → b ≠ a := fun b xs q z => by subst z; exact q.t hm
  refine ⟨so.step ⟨so.core.bb, fun b u e => ?_, fun b u e z => ?_, so.core.bn, so.core.th, so.core.thn, so.core.tb, fun b h => ?_, ?_⟩ (fun _ _ h => h) (List.prefix_refl _) fun b xs q hi => ?_, ⟨fun _ _ h => h, List.prefix_refl _, fun b o e n1 _ => ?_, fun _ h => h, fun _ h z => absurd h z, fun b h => ?_, fun _ h _ _ => h⟩⟩
  · have z : b ≠ a := fun z => by subst z; rw [hb] at e; cases e
    rw [upd_ne z]; exact so.core.bh b u e
  · have z' : b ≠ a := fun z' => by
      subst z'
      have := so.core.thn b hm z
      rw [e] at this; cases this
    rw [upd_ne z']; exact so.core.keep b u e z
  · by_cases z : b = a
    · subst z; rw [upd_same]; exact fun z => nomatch z
    · rw [upd_ne z]; exact so.core.ta b h
  · rw [hT]
    refine ⟨rg.nd, by rw [List.length_set]; exact rg.len, fun m c hc => ?_⟩
    rcases getElem?_set_cases hc with ⟨rfl, rfl⟩ | ⟨z, hc⟩
    · exact ⟨a, ha, us, upd_same, r⟩
    · obtain ⟨b, e1, e2⟩ := rg.at' m c hc
      have : b ≠ a := fun w => by subst w; exact z (nodup_flat rg.nd e1 ha)
      exact ⟨b, e1, ctAt_mono e2 (List.prefix_refl _) (upd_ne this)⟩
  · exact ⟨q.b, q.t, upd_ne (hown b xs q)⟩
  · have z : b ≠ a := fun z => by subst z; exact n1 hm
    rw [upd_ne z]; exact e
  · by_cases z : b = a
    · subst z; rw [upd_same]; exact fun z => nomatch z
    · rw [upd_ne z]; exact h
/-- a slot's list is changed -/
theorem SO.mutOwn {G : Type} {L : Law G} {g : G} (so : SO L B0 H0 θ0 B H θ σ fr g) {i : Nat} {a : Addr} {xs ys : List D} {us : List V} (hf : fr[i]? = some (some (.own xs))) (hv : σ[i]? = some (some (.ref a))) (r : Reps L.K θ B ys us) :
    SO L B0 H0 θ0 B (upd H a (.lst us)) θ σ (fr.set i (some (.own ys))) g ∧ Stp σ fr (fr.set i (some (.own ys))) θ θ B B H (upd H a (.lst us)) := by
  obtain ⟨u, e1, e2⟩ := so.sl i _ hf
  rw [hv] at e1; cases e1
  obtain ⟨b, e3, o⟩ := e2
  cases e3
  obtain ⟨vs, ho, hr⟩ := o.ex
  have hn : ¬ OwnA σ (fr.set i none) a := fun ⟨j, ys, e3, e4⟩ => by
    rcases getElem?_set_cases e3 with ⟨_, z⟩ | ⟨n, z⟩
    · cases z
    · exact n (so.dist j i ys xs _ z hf e4 hv)
  have s2 := (so.drop i).write (o' := .lst us) ho o.b o.h0 o.t hn
  have s3 := s2.put (q := .own ys) hv ⟨a, rfl, ⟨o.b, o.h0, o.t, us, upd_same, r⟩⟩ fun xs b _ e => by
    cases e
    rw [List.set_set]
    exact hn
  rw [List.set_set] at s3
  refine ⟨s3, fun _ _ h => h, List.prefix_refl _, fun b u e _ n => ?_, fun b h => ?_, fun _ h z => absurd h z, fun b h => ?_, fun _ h _ _ => h⟩
  · have z : b ≠ a := fun z => by subst z; exact n ⟨i, xs, hf, hv⟩
    rw [upd_ne z]; exact e
  · obtain ⟨j, zs, e3, e4⟩ := h
    rcases getElem?_set_cases e3 with ⟨rfl, z⟩ | ⟨n, z⟩
    · exact ⟨j, xs, hf, e4⟩
    · exact ⟨j, zs, z, e4⟩
  · by_cases z : b = a
    · subst z; rw [upd_same]; exact fun z => nomatch z
    · rw [upd_ne z]; exact h
/-- a list that may be changed -/
def mutV (op : List D → Option (List D × D)) (v : Vl) (s : Stt TkG) : Out (Stt TkG) D := match v with
  | .pk i => match s.fr[i]? with
    | some (some (.own xs)) => match op xs with
      | some (ys, r) => .ok r { s with fr := s.fr.set i (some (.own ys)) }
      | none => .bad
    | _ => .bad
  | .dat (.tok n) => match s.g[n]? with
    | some (.lst xs) => match op xs with
      | some (ys, r) => if ys.all flatD = true then .ok r { s with g := s.g.set n (.lst ys) } else .bad
      | none => .bad
    | _ => .bad
  | _ => .bad
theorem mutV_ok {op : List D → Option (List D × D)} {v : Vl} {x : V} {P : D → Stt TkG → Prop} (hT : TkLaw L) (so : SO L B0 H0 θ0 B H θ σ s.fr s.g) (vo : ValOk L.K H0 B H θ σ s.fr v x) (h : (mutV op v s).sat P noE) :
    ∃ a xs vs ys r s', x = .ref a ∧ H a = some (.lst vs) ∧ Reps L.K θ B xs vs ∧ op xs = some (ys, r) ∧ P r s' ∧ ∀ us, Reps L.K θ B ys us → SO L B0 H0 θ0 B (upd H a (.lst us)) θ σ s'.fr s'.g ∧ Stp σ s.fr s'.fr θ θ B B H (upd H a (.lst us)) := by
  unfold mutV at h
  split at h
  · rename_i i
    obtain ⟨hv, zs, hf⟩ := vo
    rw [hf] at h
    dsimp only at h
    split at h
    · rename_i ys r e
      obtain ⟨w, e1, a, rfl, o⟩ := so.sl i _ hf
      rw [hv] at e1; cases e1
      obtain ⟨vs, e2, e3⟩ := o.ex
      exact ⟨a, zs, vs, ys, r, _, rfl, e2, e3, e, h, fun us r => so.mutOwn hf hv r⟩
    · exact h.elim
  · rename_i n
    split at h
    · rename_i xs hn
      split at h
      · rename_i ys r e
        split at h
        · rename_i hfl
          obtain ⟨a, vs, rfl, e1, e2, e3⟩ := tok_at hT so hn vo
          exact ⟨a, xs, vs, ys, r, _, rfl, e2, Reps.mono noB_same (List.prefix_refl _) _ _ e3, e, h, fun us r => so.mutTok hT hn e1 e2 (reps_flat hfl r)⟩
        · exact h.elim
      · exact h.elim
    · exact h.elim
  · exact h.elim
end

/-- a method's effect: by the list and the arguments -/
def MutR (r : PySem.W.Frag → V → List V → Hp → VK → Prop) (op : List D → List D → Option (List D × D)) : Prop :=
  ∀ {K : PySem.W.Frag} {θ : TT'} {B H : Hp} {a : Addr} {xs ds ys : List D} {vs us : List V} {d : D} {Q : VK}, Same B H → H a = some (.lst vs) → Reps K θ B xs vs → Reps K θ B ds us → op ds xs = some (ys, d) →
    (∀ ws y, Reps K θ B ys ws → Rep K θ B d y → Q y (upd H a (.lst ws))) → r K (.ref a) us H Q
def dMut (op : List D → List D → Option (List D × D)) (o : EDen TkG) (args : ADen TkG) : EDen TkG := fun s => (o s).bind fun v s => (args s).bind fun ds s => (mutV (op ds) v s).bind fun r s => .ok (.dat r) s
theorem mut_imp {L : Law TkG} {r : PySem.W.Frag → V → List V → Hp → VK → Prop} {op : List D → List D → Option (List D × D)} {o : EDen TkG} {args : ADen TkG} (hT : TkLaw L) (hr : MutR r op) : ∀ σ H Q, tD L (dMut op o args) σ H Q → tBM L.K "list" (r L.K) (tD L o) (tDA L args) σ H Q := by
  rintro σ H Q ⟨B0, H0, θ0, B, θ, s, so, q⟩
  refine tD_run so q fun v s1 x H1 B1 θ1 q1 so1 st1 vo1 fv1 => ?_
  have ty : tyV L.K "list" x H1 := by
    cases v with
    | dat d =>
      cases d <;> first
        | (exfalso
           obtain ⟨ds, s2, e1, e2⟩ : ∃ ds s2, args s1 = .ok ds s2 ∧ True := by
             cases e : args s1 with
             | ok ds s2 => exact ⟨ds, s2, rfl, trivial⟩
             | exc x s2 => rw [e] at q1; exact q1.elim
             | bad => rw [e] at q1; exact q1.elim
           rw [e1] at q1
           exact q1)
        | skip
      rename_i n
      have vo1 : Rep L.K θ1 B1 (.tok n) x := vo1
      have rg := so1.core.rg
      rw [hT] at rg
      simp only [Rep] at vo1
      obtain ⟨a, t, e1, rfl⟩ := vo1
      have hlt : n < s1.g.length := by rw [← rg.len]; exact (List.getElem?_eq_some_iff.mp e1).1
      obtain ⟨b, e2, e3⟩ := rg.at' n _ (List.getElem?_eq_getElem hlt)
      rw [e1] at e2; cases e2
      cases ec : s1.g[n] with
      | lst xs =>
        rw [ec] at e3
        obtain ⟨vs, e4, _⟩ := e3
        exact .inl ⟨rfl, vs, SqL.of e4⟩
      | dic kvs => rw [ec] at e3; exact e3.elim
    | own xs =>
      exfalso
      cases e : args s1 with
      | ok ds s2 => rw [e] at q1; exact q1
      | exc x s2 => rw [e] at q1; exact q1.elim
      | bad => rw [e] at q1; exact q1.elim
    | pk i =>
      obtain ⟨e1, xs, e2⟩ := vo1
      obtain ⟨w, e3, a, rfl, o⟩ := so1.sl i _ e2
      rw [e1] at e3; cases e3
      obtain ⟨vs, e4, _⟩ := o.ex
      exact .inl ⟨rfl, vs, SqL.of e4⟩
  refine ⟨ty, tDA_run so1 q1 fun ds s2 us H2 B2 θ2 q2 so2 st2 r2 => ?_⟩
  have vo2 : ValOk L.K H0 B2 H2 θ2 σ s2.fr v x ∨ (mutV (op ds) v s2 = .bad) := by
    cases v with
    | dat d => exact .inl (Rep.mono st2.same st2.pre d x vo1)
    | own xs => exact .inr rfl
    | pk i =>
      cases e : s2.fr[i]? with
      | none => right; simp only [mutV, e]
      | some w =>
        cases w with
        | none => right; simp only [mutV, e]
        | some w =>
          cases w with
          | dat d => right; simp only [mutV, e]
          | own xs => exact .inl ⟨vo1.1, xs, e⟩
  rcases vo2 with vo2 | vo2
  · obtain ⟨a, xs, vs, ys, rr, s3, rfl, e1, e2, e3, q3, k⟩ := mutV_ok hT so2 vo2 (Out.sat_bind.mp q2)
    refine hr so2.core.bh e1 e2 r2 e3 fun ws y h1 h2 => ?_
    obtain ⟨so3, st3⟩ := k ws h1
    exact q3 y _ B2 θ2 so3 ((st1.trans st2).trans st3) (vo_dat h2) trivial
  · rw [vo2] at q2
    exact q2.elim
def plainBase (o : Expr) : Bool := match o with
  | .Call (.Name _ _) [] [] _ => false
  | _ => true
theorem attr_base {o : Expr} {name : Str} {env : Env} (h : plainBase o = true) : attributeBase o name env (eval o env) = eval o env := by
  unfold attributeBase
  split
  · cases h
  · rfl
end RB

namespace RB
open PySem PySem.Spec PyProof.Rows L2

theorem few_args {es : List Expr} {env : Env} {pos : Pos} (h : es.all notStar = true) (hl : es.length < 30) : ((backTo pos (starEach es env)).all (fun x => !x.1) && (backToKw pos (keywordEach [] env)).all (fun x => x.1.isSome)
      && decide (es.length + ([] : List Keyword).length + (if ([] : List Keyword).isEmpty then 0 else 1) < 30)) = true := by
  have e1 : (backTo pos (starEach es env)).all (fun x => !x.1) = true := by
    have := plain_args (pos := pos) (env := env) h
    rw [List.all_eq_not_any_not]
    simp only [Bool.not_not]
    rw [this]; rfl
  rw [e1]
  simp only [Bool.true_and, Bool.and_eq_true]
  refine ⟨rfl, ?_⟩
  simp
  omega
/-- o.name(args) of a list that may be changed -/
def mkMeth (name : Str) (id : String) (slot : Slot "list" name id) (hty : typeOf (.builtin id) = pure (.type "method_descriptor")) (r : PySem.W.Frag → V → List V → Hp → VK → Prop) (hm : ∀ X, MtR X id (r X.K)) (op : List D → List D → Option (List D × D)) (hr : MutR r op) (o : EI TkG) (args : AI TkG) : EI TkG where
  chk := fun ce e => match e with
    | .Call (.Attribute x nm apos) (a :: es) [] cpos => decide (nm = name) && plainBase x && o.chk ce x && args.chk ce (a :: es) && notStar a && es.all notStar && decide (es.length < 29) && apos.endLine == cpos.line
    | _ => false
  den := dMut op o.den args.den
  need := fun L lv => TkLaw L ∧ o.need L lv ∧ args.need L lv
  ok := fun L lv X ce e hX hn h => by
    split at h
    · rename_i x nm apos a es cpos
      simp only [Bool.and_eq_true, decide_eq_true_eq] at h
      obtain ⟨⟨⟨⟨⟨⟨⟨rfl, h1⟩, h2⟩, h3⟩, h4⟩, h5⟩, h6⟩, h7⟩ := h
      refine (pe_bm PySem.F.plainAttrs_list slot hty (hm X) (o.ok L lv X ce x hX hn.2.1 h2) (args.ok L lv X ce (a :: es) hX hn.2.2 h3) (attr_base h1) (few_args (by rw [List.all_cons, h4, h5]; rfl) (by rw [List.length_cons]; omega)) h7 (star_cons h4) (plain_args h5)).imp ?_
      rw [hX.K]
      exact mut_imp hn.1 hr
    · cases h
def mkMeth0 (name : Str) (id : String) (slot : Slot "list" name id) (hty : typeOf (.builtin id) = pure (.type "method_descriptor")) (r : PySem.W.Frag → V → List V → Hp → VK → Prop) (hm : ∀ X, MtR X id (r X.K)) (op : List D → List D → Option (List D × D)) (hr : MutR r op) (o : EI TkG) : EI TkG where
  chk := fun ce e => match e with
    | .Call (.Attribute x nm apos) [] [] cpos => decide (nm = name) && plainBase x && o.chk ce x && apos.endLine == cpos.line
    | _ => false
  den := dMut op o.den fun s => .ok [] s
  need := fun L lv => TkLaw L ∧ o.need L lv
  ok := fun L lv X ce e hX hn h => by
    split at h
    · rename_i x nm apos cpos
      simp only [Bool.and_eq_true, decide_eq_true_eq] at h
      obtain ⟨⟨⟨rfl, h1⟩, h2⟩, h7⟩ := h
      refine (pe_bm0 PySem.F.plainAttrs_list slot hty (hm X) (o.ok L lv X ce x hX hn.2 h2) (attr_base h1) h7).imp fun σ H Q q => ?_
      rw [hX.K]
      have q2 := mut_imp hn.1 hr σ H Q q
      obtain ⟨B0, H0, θ0, B, θ, s, so, q3⟩ := q2
      refine ⟨B0, H0, θ0, B, θ, s, so, Out.sat_mono q3 (fun v s1 k x H1 B1 θ1 a b c d => ?_) fun _ _ z => z⟩
      obtain ⟨ty, z⟩ := k x H1 B1 θ1 a b c d
      refine ⟨ty, ?_⟩
      obtain ⟨C0, I0, η0, C, η, t, so2, q4⟩ := z
      exact q4 [] H1 C η so2 .refl (Reps.nil.mpr rfl)
    · cases h
def mAppend (ds xs : List D) : Option (List D × D) := match ds with
  | [d] => if xs.length < sizeLine then some (xs ++ [d], .non) else none
  | _ => none
theorem r_append : MutR (fun _ => rAppend) mAppend := by
  intro K θ B H a xs ds ys vs us d Q sm hH r1 r2 e q
  unfold mAppend at e
  split at e
  · rename_i d
    obtain ⟨u, rfl, ru⟩ := vals1 r2
    split at e
    · rename_i hl
      cases e
      exact ⟨a, vs, u, rfl, rfl, hH, by rw [← r1.length]; exact hl, q _ _ (r1.append (Reps.mk ru (Reps.nil.mpr rfl))) (rep_non.mpr rfl)⟩
    · cases e
  · cases e
/-- xs.extend(a tuple) -/
def rExtendT (K : PySem.W.Frag) : V → List V → Hp → VK → Prop := fun x vs H Q => ∃ l b xs zs, x = .ref l ∧ vs = [.ref b] ∧ H l = some (.lst xs) ∧ SqT K H b zs ∧ xs.length + zs.length ≤ sizeLine ∧ Q .non (upd H l (.lst (xs ++ zs)))
set_option maxRecDepth 8000 in
theorem list_extend_tupA (l : Addr) (items : Array Value) (n : Nat) (b : Addr) (items2 : Array Value) (n2 : Nat) (dd : Option Addr) (sl : Array (Option Value)) (hs0 : ¬(!items.isEmpty && Builtin.List.listTooLong (items.size + items2.size)) = true) (hs1 : items.size ≤ sizeLine) (hs2 : items.size + items2.size ≤ sizeLine + 1) :
    Meets (Builtin.«list.extend» ⟨[.ref l, .ref b], []⟩) (fun _ R s => s.heap.get? l = some { cls := .type "list", dict := none, data := .seq items n, slots := #[] } ∧ s.heap.get? b = some { cls := .type "tuple", dict := dd, data := .seq items2 n2, slots := sl } ∧ R (.ok (.ret Value.none)) { s with heap := s.heap.update l (Obj.mapSeq fun x => x ++ items2), toks := s.toks }) :=
  .of_wp fun prog w A R s h => by
    obtain ⟨hp, g, d, tk, os⟩ := s; obtain ⟨hl, hb, h⟩ := h; have f1 := PySem.AutoSeq1.idx_int; have f2 := PySem.AutoSeq1.sub_tuple_tuple; have f3 := PySem.AutoSeq1.sub_list_list; have f4 := PySem.AutoSeq1.sub_tuple_list; have f5 := PySem.AutoSeq1.sub_list_tuple;
    have hz' : (items ++ items2).size ≤ sizeLine + 1 := by rw [Array.size_append]; exact hs2
    wp_walk using (wpAny_updateSeq hl rfl (hz := hs1) (_hz' := hz')), wpAny_loadPart' hl, wpAny_loadPart' hb; exact ⟨_, rfl, h⟩
theorem mt_extendT {X : Cx} : MtR X "list.extend" (rExtendT X.K) := by
  intro pins s σ H x vs v us Q I rx rv h
  obtain ⟨l, b, xs, zs, rfl, rfl, hH, hB, hz, q⟩ := h
  cases rx
  obtain ⟨u, rfl, ru⟩ := rv.one
  cases ru
  obtain ⟨z, its, n, r, hl, e⟩ := I.lstM hH
  obtain ⟨its2, r2, ⟨o, e2, hc, n2, hd⟩, hz2⟩ := I.tuple hB
  obtain ⟨c, dd, dt, sl⟩ := o
  cases hc
  cases hd
  have hl2 := r2.length
  have hsz : its.toArray.size + its2.toArray.size ≤ sizeLine := by rw [List.size_toArray, List.size_toArray]; omega
  have hlong : ¬ (!its.toArray.isEmpty && Builtin.List.listTooLong (its.toArray.size + its2.toArray.size)) = true := by
    rw [notLongL hsz, Bool.and_false]
    exact Bool.false_ne_true
  refine call_meets PySem.F.slot_list_extend ⟨_, e, rfl⟩ PySem.F.entry_list_extend (PySem.F.args_list_extend_2 _ _)
    (list_extend_tupA l its.toArray n b its2.toArray n2 dd sl hlong (by rw [List.size_toArray]; omega) (by omega)) ⟨e, e2, ?_⟩
  refine ⟨.non, _, I.lset (its' := its ++ its2) hH e (by simp) (r.append r2) ?_, rfl, q⟩
  rw [List.length_append]
  omega
theorem MtR.orK {X : Cx} {id : String} {r r' : V → List V → Hp → VK → Prop} (h : MtR X id r) (h' : MtR X id r') : MtR X id (fun x vs H Q => r x vs H Q ∨ r' x vs H Q) := fun pins s σ H x xs v us Q I a b c => c.elim (h pins s σ H x xs v us Q I a b) (h' pins s σ H x xs v us Q I a b)
def mExtend (ds xs : List D) : Option (List D × D) := match ds with
  | [.lst ys] => if xs.length + ys.length ≤ sizeLine then some (xs ++ ys, .non) else none
  | [.tup ys] => if xs.length + ys.length ≤ sizeLine then some (xs ++ ys, .non) else none
  | _ => none
def rExtendAll (K : PySem.W.Frag) : V → List V → Hp → VK → Prop := fun x vs H Q => rExtend x vs H Q ∨ rExtendT K x vs H Q
theorem r_extend : MutR rExtendAll mExtend := by
  intro K θ B H a xs ds ys vs us d Q sm hH r1 r2 e q
  unfold mExtend at e
  split at e
  · obtain ⟨u, rfl, ru⟩ := vals1 r2
    split at e
    · rename_i hl
      cases e
      obtain ⟨b, ws, rfl, hb, hr⟩ := rep_lst.mp ru
      exact .inl ⟨a, b, vs, ws, rfl, rfl, hH, sm _ _ hb, by rw [← r1.length, ← hr.length]; exact hl, q _ _ (r1.append hr) (rep_non.mpr rfl)⟩
    · cases e
  · obtain ⟨u, rfl, ru⟩ := vals1 r2
    split at e
    · rename_i hl
      cases e
      obtain ⟨b, ws, rfl, hb, hr⟩ := rep_tup.mp ru
      exact .inr ⟨a, b, vs, ws, rfl, rfl, hH, Same.sqT sm hb, by rw [← r1.length, ← hr.length]; exact hl, q _ _ (r1.append hr) (rep_non.mpr rfl)⟩
    · cases e
  · cases e
noncomputable def mPop (ds xs : List D) : Option (List D × D) := match ds with
  | [] => (xs[xs.length - 1]?).map fun d => (xs.dropLast, d)
  | [.int i] => clI (In63 i) ((seqIndex? i xs.length).bind fun k => (xs[k]?).map fun d => (xs.eraseIdx k, d)) none
  | _ => none
theorem r_pop : MutR (fun _ x vs H Q => rPop x vs H Q ∨ rPopAt x vs H Q) mPop := by
  intro K θ B H a xs ds ys vs us d Q sm hH r1 r2 e q
  unfold mPop at e
  split at e
  · rw [Reps.nil.mp r2]
    obtain ⟨w, e1, e2⟩ := Option.map_eq_some_iff.mp e
    cases e2
    obtain ⟨y, e3, e4⟩ := r1.get e1
    exact .inl ⟨a, vs, y, rfl, rfl, hH, by rw [← r1.length]; exact e3, q _ _ r1.dropLast e4⟩
  · rename_i i
    obtain ⟨u, rfl, ru⟩ := vals1 r2
    rw [rep_int] at ru
    subst ru
    by_cases hb : In63 i
    · rw [clI_pos hb] at e
      obtain ⟨k, e1, e2⟩ := Option.bind_eq_some_iff.mp e
      obtain ⟨w, e3, e4⟩ := Option.map_eq_some_iff.mp e2
      cases e4
      obtain ⟨y, e5, e6⟩ := r1.get e3
      exact .inr ⟨a, vs, i, k, y, rfl, rfl, hH, hb.1, hb.2, by rw [← r1.length]; exact e1, e5, q _ _ (r1.eraseIdx k) e6⟩
    · rw [clI_neg hb] at e
      cases e
  · cases e
def mReverse (ds xs : List D) : Option (List D × D) := match ds with
  | [] => some (xs.reverse, .non)
  | _ => none
theorem r_reverse : MutR (fun _ => rReverse) mReverse := by
  intro K θ B H a xs ds ys vs us d Q sm hH r1 r2 e q
  unfold mReverse at e
  split at e
  · rw [Reps.nil.mp r2]
    cases e
    exact ⟨a, vs, rfl, rfl, hH, q _ _ r1.reverse (rep_non.mpr rfl)⟩
  · cases e
noncomputable def mInsert (ds xs : List D) : Option (List D × D) := match ds with
  | [.int i, d] => clI (0 ≤ i ∧ In63 i ∧ xs.length < sizeLine) (some (xs.take i.toNat ++ [d] ++ xs.drop i.toNat, .non)) none
  | _ => none
def rInsert : V → List V → Hp → VK → Prop := fun x vs H Q => ∃ (l : Addr) (xs : List V) (i : Int) (y : V), x = .ref l ∧ vs = [.int i, y] ∧ H l = some (.lst xs) ∧ xs.length < sizeLine ∧ 0 ≤ i ∧ i < 2 ^ 63 ∧
    Q .non (upd H l (.lst (xs.take i.toNat ++ [y] ++ xs.drop i.toNat)))
theorem r_insert : MutR (fun _ => rInsert) mInsert := by
  intro K θ B H a xs ds ys vs us d Q sm hH r1 r2 e q
  unfold mInsert at e
  split at e
  · rename_i i d
    obtain ⟨u, w, rfl, ru, rw'⟩ := vals2' r2
    rw [rep_int] at ru
    subst ru
    obtain ⟨hb, e'⟩ := clI_some e
    cases e'
    exact ⟨a, vs, i, w, rfl, rfl, hH, by rw [← r1.length]; exact hb.2.2, hb.1, hb.2.1.2, q _ _ (((r1.take _).append (Reps.mk rw' (Reps.nil.mpr rfl))).append (r1.drop _)) (rep_non.mpr rfl)⟩
  · cases e
def mAppendE (o : EI TkG) (a : EI TkG) : EI TkG := mkMeth ("append" : Str) "list.append" PySem.F.slot_list_append PySem.F.type_list_append (fun _ => rAppend) (fun X => mt_append) mAppend r_append o (aCons a aNil)
def mExtendE (o : EI TkG) (a : EI TkG) : EI TkG := mkMeth ("extend" : Str) "list.extend" PySem.F.slot_list_extend PySem.F.type_list_extend rExtendAll (fun X => MtR.orK mt_extend mt_extendT) mExtend r_extend o (aCons a aNil)
noncomputable def mPopE (o : EI TkG) : EI TkG := mkMeth0 ("pop" : Str) "list.pop" PySem.F.slot_list_pop PySem.F.type_list_pop (fun _ x vs H Q => rPop x vs H Q ∨ rPopAt x vs H Q) (fun X => MtR.orK mt_pop mt_popAt) mPop r_pop o
noncomputable def mPopAtE (o : EI TkG) (a : EI TkG) : EI TkG := mkMeth ("pop" : Str) "list.pop" PySem.F.slot_list_pop PySem.F.type_list_pop (fun _ x vs H Q => rPop x vs H Q ∨ rPopAt x vs H Q) (fun X => MtR.orK mt_pop mt_popAt) mPop r_pop o (aCons a aNil)
def mReverseE (o : EI TkG) : EI TkG := mkMeth0 ("reverse" : Str) "list.reverse" PySem.F.slot_list_reverse PySem.F.type_list_reverse (fun _ => rReverse) (fun X => mt_reverse) mReverse r_reverse o
noncomputable def mInsertE (o : EI TkG) (a b : EI TkG) : EI TkG := mkMeth ("insert" : Str) "list.insert" PySem.F.slot_list_insert PySem.F.type_list_insert (fun _ => rInsert) (fun X => mt_insert) mInsert r_insert o (aCons a (aCons b aNil))
end RB

namespace RB
open PySem PySem.Spec PyProof.Rows L2

def tokL (v : Vl) (s : Stt TkG) : Option (List D) := match v with
  | .dat (.tok n) => match s.g[n]? with
    | some (.lst xs) => some xs
    | _ => none
  | _ => none
theorem tokL_ok {L : Law TkG} {B0 H0 B H : Hp} {θ0 θ : TT'} {σ : Sg} {s : Stt TkG} {v : Vl} {x : V} {xs : List D} (hT : TkLaw L) (so : SO L B0 H0 θ0 B H θ σ s.fr s.g) (vo : ValOk L.K H0 B H θ σ s.fr v x) (h : tokL v s = some xs) :
    ∃ a vs, x = .ref a ∧ H a = some (.lst vs) ∧ Reps L.K θ B xs vs := by
  unfold tokL at h
  split at h
  · rename_i n
    split at h
    · rename_i ys e
      cases h
      obtain ⟨a, vs, e1, e2, e3, e4⟩ := tok_at hT so e vo
      exact ⟨a, vs, e1, e3, Reps.mono noB_same (List.prefix_refl _) _ _ e4⟩
    · cases h
  · cases h
theorem tokL_dat {v : Vl} {s : Stt TkG} {xs : List D} (h : tokL v s = some xs) : ∃ n, v = .dat (.tok n) := by
  unfold tokL at h
  split at h
  · exact ⟨_, rfl⟩
  · cases h
/-- t[i] -/
def eTIx (a b : EI TkG) : EI TkG where
  chk := fun ce e => match e with
    | .Subscript x y _ => notSlice y && a.chk ce x && b.chk ce y
    | _ => false
  den := fun s => (eD a.den s).bind fun v s => (eD b.den s).bind fun d s => match d with
    | .int i => opt (((tokL (.dat v) s).bind fun xs => atI xs i).map .dat) s
    | _ => .bad
  need := fun L lv => TkLaw L ∧ a.need L lv ∧ b.need L lv
  ok := fun L lv X ce e hX hn h => by
    split at h
    · rename_i x y pos
      simp only [Bool.and_eq_true] at h
      refine (pe_ix ix_seq (a.ok L lv X ce x hX hn.2.1 h.1.2) (b.ok L lv X ce y hX hn.2.2 h.2) (plainIx_of h.1.1)).imp ?_
      rw [hX.K]
      rintro σ H Q ⟨B0, H0, θ0, B, θ, s, so, q⟩
      refine tD_runD so q fun v s1 x H1 B1 θ1 q1 so1 st1 r1 => ?_
      refine tD_runD so1 q1 fun d s2 y H2 B2 θ2 q2 so2 st2 r2 => ?_
      split at q2
      · rename_i i
        obtain ⟨w, e, q3⟩ := opt_sat q2
        have ey := rep_int.mp r2
        obtain ⟨u, e1, rfl⟩ := Option.map_eq_some_iff.mp e
        obtain ⟨xs, e2, e3⟩ := Option.bind_eq_some_iff.mp e1
        obtain ⟨a, vs, rfl, e4, e5⟩ := tokL_ok hn.1 so2 (vo_dat (Rep.mono st2.same st2.pre _ _ r1)) e2
        obtain ⟨z, e6, e7⟩ := atI_rep e5 e3
        exact .inl ⟨a, vs, i, z, rfl, ey, SqL.of e4, e6, q3 z H2 B2 θ2 so2 (st1.trans st2) (vo_dat e7) trivial⟩
      · exact q2.elim
    · cases h
/-- the truth of a token's list -/
def tTok (a : EI TkG) : TI' TkG where
  chk := fun ce e => plainT e && a.chk ce e
  den := fun s => (a.den s).bind fun v s => opt ((tokL v s).map fun xs => !xs.isEmpty) s
  need := fun L lv => TkLaw L ∧ a.need L lv
  ok := fun L lv X ce e hX hn h => by
    simp only [Bool.and_eq_true] at h
    refine (pt_truth (a.ok L lv X ce e hX hn.2 h.2) (plainT_ok h.1)).imp ?_
    rintro σ H Q ⟨B0, H0, θ0, B, θ, s, so, q⟩
    refine tD_run so q fun v s' x H' B' θ' q' so' st vo fv => ?_
    obtain ⟨k, e, q2⟩ := opt_sat q'
    obtain ⟨xs, e1, rfl⟩ := Option.map_eq_some_iff.mp e
    obtain ⟨a, vs, rfl, e4, e5⟩ := tokL_ok hn.1 so' vo e1
    rw [hX.K]
    exact ⟨_, .inl ⟨vs, SqL.of e4, by rw [isEmpty_rep e5]⟩, q2 H' B' θ' so' st⟩

section
variable {L : Law TkG} {B0 H0 B H B' H' : Hp} {θ0 θ θ' : TT'} {σ : Sg} {fr : Fr} {g g' : TkG}
theorem SO.newTok (hT : TkLaw L) (so : SO L B0 H0 θ0 B H θ σ fr g) {a : Addr} {xs : List D} {vs : List V} (hB : B a = none) (h0 : H0 a = none) (ht : a ∉ θ.flatten) (hH : H a = some (.lst vs)) (r : Reps L.K θ noB xs vs) (hn : ¬ OwnA σ fr a) :
    SO L B0 H0 θ0 B H (θ ++ [[a]]) σ fr (g ++ [.lst xs]) := by
  have rg := so.core.rg
  rw [hT] at rg
  have hf : (θ ++ [[a]]).flatten = θ.flatten ++ [a] := by rw [List.flatten_append]; rfl
  refine so.step ⟨so.core.bb, so.core.bh, so.core.keep, so.core.bn, so.core.th.trans ⟨_, rfl⟩, fun b hb n => ?_, fun b hb => ?_, fun b hb => ?_, ?_⟩ (fun _ _ h => h) ⟨_, rfl⟩ fun b ys o hi => ?_
  · rw [hf, List.mem_append] at hb
    rcases hb with hb | hb
    · exact so.core.thn b hb n
    · rw [List.mem_singleton.mp hb]; exact h0
  · rw [hf, List.mem_append] at hb
    rcases hb with hb | hb
    · exact so.core.tb b hb
    · rw [List.mem_singleton.mp hb]; exact hB
  · rw [hf, List.mem_append] at hb
    rcases hb with hb | hb
    · exact so.core.ta b hb
    · rw [List.mem_singleton.mp hb, hH]; exact fun z => nomatch z
  · rw [hT]
    refine ⟨?_, by rw [List.length_append, List.length_append, rg.len]; rfl, fun n c hc => ?_⟩
    · rw [hf, List.nodup_append]
      refine ⟨rg.nd, by simp, fun x hx y hy e => ?_⟩
      rw [List.mem_singleton] at hy
      subst hy; subst e
      exact ht hx
    · by_cases hlt : n < g.length
      · rw [List.getElem?_append_left hlt] at hc
        obtain ⟨b, e1, e2⟩ := rg.at' n c hc
        exact ⟨b, by rw [List.getElem?_append_left (by rw [rg.len]; exact hlt)]; exact e1, ctAt_mono e2 ⟨_, rfl⟩ rfl⟩
      · rw [List.getElem?_append_right (by omega)] at hc
        have e : n - g.length = 0 := by
          have := (List.getElem?_eq_some_iff.mp hc).1
          simp only [List.length_singleton] at this
          omega
        rw [e] at hc
        cases hc
        refine ⟨a, ?_, vs, hH, Reps.mono noB_same ⟨_, rfl⟩ _ _ r⟩
        rw [List.getElem?_append_right (by rw [rg.len]; omega), rg.len, e]
        rfl
  · refine ⟨o.b, fun z => ?_, rfl⟩
    rw [hf, List.mem_append] at z
    rcases z with z | z
    · exact o.t z
    · rw [List.mem_singleton] at z
      subst z
      obtain ⟨i, e1, e2⟩ := hi
      exact hn ⟨i, ys, e2, e1⟩
end
/-- a list of ours as a token from now on -/
def toTok (v : Vl) (s : Stt TkG) : Out (Stt TkG) D := match v with
  | .dat (.tok n) => .ok (.tok n) s
  | .own xs => if xs.all flatD = true then .ok (.tok s.g.length) { s with g := s.g ++ [.lst xs] } else .bad
  | .pk i => match s.fr[i]? with
    | some (some (.own xs)) => if xs.all flatD = true then .ok (.tok s.g.length) { fr := s.fr.set i (some (.dat (.tok s.g.length))), g := s.g ++ [.lst xs] } else .bad
    | _ => .bad
  | _ => .bad
theorem rep_tok_new {K : PySem.W.Frag} {θ : TT'} {B : Hp} {a : Addr} {n : Nat} (h : θ.length = n) : Rep K (θ ++ [[a]]) B (.tok n) (.ref a) := by
  simp only [Rep]
  refine ⟨a, [], ?_, rfl⟩
  rw [List.getElem?_append_right (by omega), h, Nat.sub_self]
  rfl
theorem toTok_ok {L : Law TkG} {B0 H0 B H : Hp} {θ0 θ : TT'} {σ : Sg} {s : Stt TkG} {v : Vl} {x : V} {P : D → Stt TkG → Prop} {frs : Fr} {θs : TT'} {Bs Hs : Hp} (hT : TkLaw L) (so : SO L B0 H0 θ0 B H θ σ s.fr s.g) (vo : ValOk L.K H0 B H θ σ s.fr v x) (st : Stp σ frs s.fr θs θ Bs B Hs H) (fv : FreshV Hs v x) (h : (toTok v s).sat P noE) :
    ∃ d s2 θ2, P d s2 ∧ SO L B0 H0 θ0 B H θ2 σ s2.fr s2.g ∧ Stp σ frs s2.fr θs θ2 Bs B Hs H ∧ Rep L.K θ2 B d x ∧ θ <+: θ2 := by
  have rg := so.core.rg
  rw [hT] at rg
  unfold toTok at h
  split at h
  · exact ⟨_, s, θ, h, so, st, vo, List.prefix_refl _⟩
  · rename_i xs
    split at h
    · rename_i hfl
      obtain ⟨a, rfl, o, hn⟩ := vo
      obtain ⟨vs, e1, e2⟩ := o.ex
      have so2 := so.newTok hT o.b o.h0 o.t e1 (reps_flat hfl e2) hn
      refine ⟨_, _, _, h, so2, ⟨st.same, st.pre.trans ⟨_, rfl⟩, st.keep, st.sub, fun b hb n => ?_, st.ex, st.bn⟩, rep_tok_new rg.len, ⟨_, rfl⟩⟩
      rw [List.flatten_append, List.mem_append] at hb
      rcases hb with hb | hb
      · exact st.thn b hb n
      · have : b = a := by simpa using hb
        subst this
        exact .inl (fv _ rfl)
    · exact h.elim
  · rename_i i
    split at h
    · rename_i xs hf
      split at h
      · rename_i hfl
        obtain ⟨hv, _⟩ := vo
        obtain ⟨u, e1, a, rfl, o⟩ := so.sl i _ hf
        rw [hv] at e1; cases e1
        obtain ⟨vs, e1, e2⟩ := o.ex
        have hn : ¬ OwnA σ (s.fr.set i none) a := fun ⟨j, ys, e3, e4⟩ => by
          rcases getElem?_set_cases e3 with ⟨_, z⟩ | ⟨n, z⟩
          · cases z
          · exact n (so.dist j i ys xs _ z hf e4 hv)
        have so2 := (so.drop i).newTok hT o.b o.h0 o.t e1 (reps_flat hfl e2) hn
        have hrep : Rep L.K (θ ++ [[a]]) B (.tok s.g.length) (.ref a) := rep_tok_new rg.len
        have so3 := so2.put (q := .dat (.tok s.g.length)) hv hrep fun _ _ e => nomatch e
        rw [List.set_set] at so3
        have own : OwnA σ s.fr a := ⟨i, xs, hf, hv⟩
        refine ⟨_, _, _, h, so3, ⟨st.same, st.pre.trans ⟨_, rfl⟩, st.keep, fun b hb => st.sub b ?_, fun b hb n => ?_, st.ex, st.bn⟩, hrep, ⟨_, rfl⟩⟩
        · obtain ⟨j, ys, e3, e4⟩ := hb
          rcases getElem?_set_cases e3 with ⟨_, z⟩ | ⟨n, z⟩
          · cases z
          · exact ⟨j, ys, z, e4⟩
        · rw [List.flatten_append, List.mem_append] at hb
          rcases hb with hb | hb
          · exact st.thn b hb n
          · have : b = a := by simpa using hb
            subst this
            exact .inr (st.sub b own)
      · exact h.elim
    · exact h.elim
  · exact h.elim
/-- an expression whose list is a token from now on -/
def eTok (a : EI TkG) : EI TkG where
  chk := a.chk
  den := fun s => (a.den s).bind fun v s => (toTok v s).bind fun d s => .ok (.dat d) s
  need := fun L lv => TkLaw L ∧ a.need L lv
  ok := fun L lv X ce e hX hn h => by
    refine (a.ok L lv X ce e hX hn.2 h).imp ?_
    rintro σ H Q ⟨B0, H0, θ0, B, θ, s, so, q⟩
    refine tD_run so q fun v s1 x H1 B1 θ1 q1 so1 st1 vo1 fv1 => ?_
    obtain ⟨d, s2, θ2, q2, so2, st2, r, _⟩ := toTok_ok hn.1 so1 vo1 st1 fv1 (Out.sat_bind.mp q1)
    exact q2 x H1 B1 θ2 so2 st2 (vo_dat r) trivial

def mSet (k : D) (d : D) (xs : List D) : Option (List D × D) := match k with
  | .int i => (ixN xs.length i).map fun j => (xs.set j d, .non)
  | _ => none
theorem swapped_sub {o i e : Expr} {p : Pos} {env : Env} : swappedStores [.Subscript o i p] e env = pure none := by
  unfold swappedStores
  cases e <;> rfl
def sIxSet (o i : EI TkG) (a : EI TkG) : SI TkG where
  chk := fun ce st => match st with
    | .Assign [.Subscript x y _] e _ => notLC e && notSlice y && o.chk ce x && i.chk ce y && a.chk ce e
    | _ => false
  den := fun s => Fl.of (eD a.den s) fun d s => Fl.of (o.den s) fun v s => Fl.of (eD i.den s) fun k s => Fl.of (mutV (mSet k d) v s) fun _ s => .nx s
  need := fun L lv => TkLaw L ∧ o.need L lv ∧ i.need L lv ∧ a.need L lv
  ok := fun L lv X ce st hX hn h => by
    split at h
    · rename_i x y p e pos
      simp only [Bool.and_eq_true] at h
      obtain ⟨⟨⟨⟨h1, h2⟩, h3⟩, h4⟩, h5⟩ := h
      refine (ps_asg (a.ok L lv X ce e hX.ok hn.2.2.2 h5) (pg_sub (o.ok L lv X ce x hX.ok hn.2.1 h3) (i.ok L lv X ce y hX.ok hn.2.2.1 h4) set_list (fun v => by cases y <;> first | rfl | cases h2)) (by show swapsWith e (some (.Subscript x y p)) pos.line X.env = pure false; exact swaps_no h1) swapped_sub).imp ?_
      rintro D σ H ⟨B0, H0, θ0, B, θ, s, so, q⟩
      have q' : FlSat L B0 H0 θ0 B θ D (Fl.of (a.den s) fun v s => Fl.of (frz v s) fun d s => Fl.of (o.den s) fun v s => Fl.of (eD i.den s) fun k s => Fl.of (mutV (mSet k d) v s) fun _ s => .nx s) := by
        dsimp only [eD] at q
        cases e : a.den s <;> rw [e] at q <;> exact q
      refine tD_runS so q' fun v s1 xv H1 B1 θ1 q1 so1 st1 vo1 fv1 => ?_
      obtain ⟨d, s2, B2, q2, so2, st2, rep⟩ := frz_okS st1 fv1 so1 vo1 q1
      refine tD_runS so2 q2 fun w s3 ov H3 B3 θ3 q3 so3 st3 vo3 fv3 => ?_
      have q3' : FlSat L B0 H0 θ0 B3 θ3 D (Fl.of (i.den s3) fun v s => Fl.of (frz v s) fun k s => Fl.of (mutV (mSet k d) w s) fun _ s => .nx s) := by
        dsimp only [eD] at q3
        cases e : i.den s3 <;> rw [e] at q3 <;> exact q3
      refine tD_runS so3 q3' fun iv s4 kv H4 B4 θ4 q4 so4 st4 vo4 fv4 => ?_
      obtain ⟨k, s5, B5, q5, so5, st5, rk⟩ := frz_okS st4 fv4 so4 vo4 q4
      have vo5 : ValOk L.K H0 B5 H4 θ4 σ s5.fr w ov ∨ mutV (mSet k d) w s5 = .bad := by
        cases w with
        | dat d => exact .inl (Rep.mono st5.same st5.pre d ov vo3)
        | own xs => exact .inr rfl
        | pk i =>
          cases e : s5.fr[i]? with
          | none => right; simp only [mutV, e]
          | some w =>
            cases w with
            | none => right; simp only [mutV, e]
            | some w =>
              cases w with
              | dat d => right; simp only [mutV, e]
              | own xs => exact .inl ⟨vo3.1, xs, e⟩
      rcases vo5 with vo5 | vo5
      · have q6 : (mutV (mSet k d) w s5).sat (fun _ s => FlSat L B0 H0 θ0 B5 θ4 D (.nx s)) noE := by
          cases e : mutV (mSet k d) w s5 <;> rw [e] at q5 <;> exact q5
        obtain ⟨a, xs, vs, ys, rr, s6, rfl, e1, e2, e3, q7, kk⟩ := mutV_ok hn.1 so5 vo5 q6
        unfold mSet at e3
        split at e3
        · rename_i ii
          obtain ⟨j, e4, e5⟩ := Option.map_eq_some_iff.mp e3
          cases e5
          rw [rep_int] at rk
          have r' := Rep.mono (st3.same.trans st5.same) (st3.pre.trans st5.pre) _ _ rep
          obtain ⟨so6, st6⟩ := kk _ (e2.set j r')
          exact ⟨a, vs, ii, j, rfl, rk, e1, by rw [← e2.length]; exact e4, q7 σ _ B5 θ4 so6 (fun _ _ h => h) (List.prefix_refl _)⟩
        · cases e3
      · rw [vo5] at q5
        exact q5.elim
    · cases h
end RB

namespace RB
open PySem PySem.Spec PyProof.Rows L2

/-- a call by one value: what its answer is -/
def Prim1 (r : PySem.W.Frag → List V → Hp → VK → Prop) (op : Vl → Stt TkG → Option Vl) : Prop :=
  ∀ {L : Law TkG} {B0 H0 : Hp} {θ0 : TT'} {B H : Hp} {θ : TT'} {σ : Sg} {s : Stt TkG} {v w : Vl} {x : V} {Q : VK}, TkLaw L → SO L B0 H0 θ0 B H θ σ s.fr s.g → ValOk L.K H0 B H θ σ s.fr v x → op v s = some w →
    (∀ z H' B', SO L B0 H0 θ0 B' H' θ σ s.fr s.g → Stp σ s.fr s.fr θ θ B B' H H' → ValOk L.K H0 B' H' θ σ s.fr w z → FreshV H w z → Q z H') → r L.K [x] H Q
def dCall1 (op : Vl → Stt TkG → Option Vl) (a : EDen TkG) : EDen TkG := fun s => (a s).bind fun v s => opt (op v s) s
theorem pa_one {X : Cx} {e : Expr} {te : TE} (h : PE X e te) (hs : notStar e = true) : PA X [e] (fun σ H Q => te σ H fun v H1 => Q [v] H1) :=
  (pa_cons h pa_nil (star_cons hs)).imp fun σ H Q q => q
theorem call1_imp {L : Law TkG} {r : PySem.W.Frag → List V → Hp → VK → Prop} {op : Vl → Stt TkG → Option Vl} {a : EDen TkG} (hT : TkLaw L) (hp : Prim1 r op) : ∀ σ H Q, tD L (dCall1 op a) σ H Q → tCB (r L.K) (fun σ H Q => tD L a σ H fun v H1 => Q [v] H1) σ H Q := by
  rintro σ H Q ⟨B0, H0, θ0, B, θ, s, so, q⟩
  refine tD_run so q fun v s1 x H1 B1 θ1 q1 so1 st1 vo1 fv1 => ?_
  obtain ⟨w, e, q2⟩ := opt_sat q1
  exact hp hT so1 vo1 e fun z H' B' so2 st2 vo2 fv2 => q2 z H' B' θ1 so2 (st1.trans st2) vo2 (fv2.lift st1.ex)
/-- f(e), f a built-in function -/
def mkB1 (x : Str) (id : String) (hv : bootBuiltins x = some (.builtin id)) (hn : x ≠ "__name__") (hdb : (x == ("__debug__" : Str)) = false) (r : PySem.W.Frag → List V → Hp → VK → Prop) (hc : ∀ X : Cx, X.calm = true → X.A.units + 64 < cLine → CallR X (.builtin id) (r X.K))
    (op : Vl → Stt TkG → Option Vl) (hp : Prim1 r op) (a : EI TkG) : EI TkG where
  chk := fun ce e => match e with
    | .Call (.Name y _) [e] [] _ => decide (y = x) && glB ce x && notStar e && a.chk ce e
    | _ => false
  den := dCall1 op a.den
  need := fun L lv => TkLaw L ∧ L.mg x = none ∧ a.need L lv
  ok := fun L lv X ce e hX hn' h => by
    split at h
    · rename_i y p e pos
      simp only [Bool.and_eq_true, decide_eq_true_eq] at h
      obtain ⟨⟨⟨rfl, h2⟩, h3⟩, h4⟩ := h
      obtain ⟨g1, _⟩ := glB_ok hX h2
      refine (pe_callB (hc X hX.calm (roomU hX)) g1 (by rw [hX.mg]; exact hn'.2.1) hv (pa_one (a.ok L lv X ce e hX hn'.2.2 h4) h3) hn hdb (star_cons h3) rfl).imp ?_
      rw [hX.K]
      exact call1_imp hn'.1 hp
    · cases h
/-- T(e), T a built-in type -/
def mkT1 (x : Str) (T : String) (hv : bootBuiltins x = some (.type T)) (hn : x ≠ "__name__") (hdb : (x == ("__debug__" : Str)) = false) (r : PySem.W.Frag → List V → Hp → VK → Prop) (hc : ∀ X : Cx, X.calm = true → X.A.units + 64 < cLine → CallR X (.type T) (r X.K))
    (op : Vl → Stt TkG → Option Vl) (hp : Prim1 r op) (a : EI TkG) : EI TkG where
  chk := fun ce e => match e with
    | .Call (.Name y _) [e] [] _ => decide (y = x) && glB ce x && notStar e && a.chk ce e
    | _ => false
  den := dCall1 op a.den
  need := fun L lv => TkLaw L ∧ L.mg x = none ∧ a.need L lv
  ok := fun L lv X ce e hX hn' h => by
    split at h
    · rename_i y p e pos
      simp only [Bool.and_eq_true, decide_eq_true_eq] at h
      obtain ⟨⟨⟨rfl, h2⟩, h3⟩, h4⟩ := h
      obtain ⟨g1, _⟩ := glB_ok hX h2
      refine (pe_callTy (hc X hX.calm (roomU hX)) g1 (by rw [hX.mg]; exact hn'.2.1) hv (pa_one (a.ok L lv X ce e hX hn'.2.2 h4) h3) hn hdb (star_cons h3) rfl).imp ?_
      rw [hX.K]
      exact call1_imp hn'.1 hp
    · cases h

/-- a sequence's items: a token's list, too -/
def seqK (v : Vl) (s : Stt TkG) : Option (Bool × List D) := match v with
  | .dat (.tok n) => (tokL (.dat (.tok n)) s).map fun xs => (true, xs)
  | v => seqOf v s
theorem seqK_ok {L : Law TkG} {B0 H0 B H : Hp} {θ0 θ : TT'} {σ : Sg} {s : Stt TkG} {v : Vl} {x : V} {b : Bool} {xs : List D} (hT : TkLaw L) (so : SO L B0 H0 θ0 B H θ σ s.fr s.g) (vo : ValOk L.K H0 B H θ σ s.fr v x) (h : seqK v s = some (b, xs)) :
    ∃ a vs, x = .ref a ∧ (if b = true then H a = some (.lst vs) else SqT L.K H a vs) ∧ Reps L.K θ B xs vs := by
  unfold seqK at h
  split at h
  · obtain ⟨ys, e, e2⟩ := Option.map_eq_some_iff.mp h
    cases e2
    exact tokL_ok hT so vo e
  · exact seqOf_ok so vo h
def lenD (v : Vl) (s : Stt TkG) : Option Vl := match v with
  | .dat (.str z) => if z.length ≤ sizeLine then valI z.length else none
  | .dat (.scr ns) => valI ns.length
  | v => (seqK v s).bind fun p => valI p.2.length
def rLen (K : PySem.W.Frag) : List V → Hp → VK → Prop := fun xs H Q => ∃ x n, xs = [x] ∧ LenV K x H n ∧ Q (.int (n : Nat)) H
theorem prim_len : Prim1 rLen lenD := by
  intro L B0 H0 θ0 B H θ σ s v w x Q hT so vo e q
  unfold lenD at e
  split at e
  · rename_i z
    split at e
    · rename_i hl
      cases e
      have ex := rep_str.mp (show Rep L.K θ B _ x from vo)
      subst ex
      exact ⟨_, z.length, rfl, ⟨hl, rfl⟩, q _ H B so .refl vo_int trivial⟩
    · cases e
  · rename_i ns
    cases e
    have vo' : Rep L.K θ B (.scr ns) x := vo
    simp only [Rep] at vo'
    obtain ⟨a, rfl, e2⟩ := vo'
    refine ⟨_, ns.length, rfl, .inl ⟨_, so.core.bh.seq e2, by rw [List.length_map]⟩, q _ H B so .refl vo_int trivial⟩
  · obtain ⟨⟨b, xs⟩, e1, e2⟩ := Option.bind_eq_some_iff.mp e
    cases e2
    obtain ⟨a, vs, rfl, e3, e4⟩ := seqK_ok hT so vo e1
    refine ⟨_, xs.length, rfl, ?_, q _ H B so .refl vo_int trivial⟩
    cases b with
    | true => exact .inl ⟨vs, SqL.of (show H a = some (.lst vs) from e3), e4.length⟩
    | false => exact .inr ⟨vs, e3, e4.length⟩
def eLen (a : EI TkG) : EI TkG := mkB1 ("len" : Str) "len" (by rfl) (by decide) (by decide) rLen (fun X _ _ => call_len) lenD prim_len a
def tupD (v : Vl) (s : Stt TkG) : Option Vl := match v with
  | .dat (.tup xs) => some (.dat (.tup xs))
  | .dat (.scr ns) => some (.dat (.tup (ns.map .int)))
  | v => match seqK v s with
    | some (true, xs) => some (.dat (.tup xs))
    | _ => none
def rTupOf (K : PySem.W.Frag) : List V → Hp → VK → Prop := fun xs H Q => ∃ p ys, xs = [.ref p] ∧ ((SqL K H p ys ∧ ∀ l, H l = none → Q (.ref l) (upd H l (.tup ys))) ∨ (SqT K H p ys ∧ Q (.ref p) H))
theorem prim_tup : Prim1 rTupOf tupD := by
  intro L B0 H0 θ0 B H θ σ s v w x Q hT so vo e q
  unfold tupD at e
  split at e
  · rename_i xs
    cases e
    obtain ⟨a, vs, rfl, e2, e3⟩ := rep_tup.mp (show Rep L.K θ B _ x from vo)
    exact ⟨a, vs, rfl, .inr ⟨Same.sqT so.core.bh e2, q _ H B so .refl vo trivial⟩⟩
  · rename_i ns
    cases e
    have vo' : Rep L.K θ B (.scr ns) x := vo
    simp only [Rep] at vo'
    obtain ⟨a, rfl, e2⟩ := vo'
    refine ⟨a, _, rfl, .inl ⟨so.core.bh.seq e2, fun l hl => ?_⟩⟩
    obtain ⟨h1, h2, h3⟩ := new_tup so hl (reps_ints (K := L.K) (θ := θ) (B := B) ns)
    exact q _ _ _ h1 h2 (vo_dat h3) trivial
  · split at e
    · rename_i xs e1
      cases e
      obtain ⟨a, vs, rfl, e3, e4⟩ := seqK_ok hT so vo e1
      refine ⟨a, vs, rfl, .inl ⟨SqL.of (show H a = some (.lst vs) from e3), fun l hl => ?_⟩⟩
      obtain ⟨h1, h2, h3⟩ := new_tup so hl e4
      exact q _ _ _ h1 h2 (vo_dat h3) trivial
    · cases e
def eTupOf (a : EI TkG) : EI TkG := mkT1 ("tuple" : Str) "tuple" (by rfl) (by decide) (by decide) rTupOf (fun X _ _ => call_tuple_of) tupD prim_tup a
def lstD (v : Vl) (s : Stt TkG) : Option Vl := match v with
  | .dat (.scr ns) => some (.own (ns.map .int))
  | v => (seqK v s).map fun p => .own p.2
def rLstOf (K : PySem.W.Frag) : List V → Hp → VK → Prop := fun xs H Q => ∃ p ys, xs = [.ref p] ∧ (SqL K H p ys ∨ SqT K H p ys) ∧ ∀ l, H l = none → Q (.ref l) (upd H l (.lst ys))
theorem prim_lst : Prim1 rLstOf lstD := by
  intro L B0 H0 θ0 B H θ σ s v w x Q hT so vo e q
  unfold lstD at e
  split at e
  · rename_i ns
    cases e
    have vo' : Rep L.K θ B (.scr ns) x := vo
    simp only [Rep] at vo'
    obtain ⟨a, rfl, e2⟩ := vo'
    refine ⟨a, _, rfl, .inl (so.core.bh.seq e2), fun l hl => ?_⟩
    obtain ⟨h1, h2, h3, h4⟩ := new_lst so hl (reps_ints (K := L.K) (θ := θ) (B := B) ns)
    exact q _ _ _ h1 h2 h3 h4
  · obtain ⟨⟨b, xs⟩, e1, rfl⟩ := Option.map_eq_some_iff.mp e
    obtain ⟨a, vs, rfl, e3, e4⟩ := seqK_ok hT so vo e1
    refine ⟨a, vs, rfl, ?_, fun l hl => ?_⟩
    · cases b with
      | true => exact .inl (SqL.of (show H a = some (.lst vs) from e3))
      | false => exact .inr e3
    · obtain ⟨h1, h2, h3, h4⟩ := new_lst so hl e4
      exact q _ _ _ h1 h2 h3 h4
def eLstOf (a : EI TkG) : EI TkG := mkT1 ("list" : Str) "list" (by rfl) (by decide) (by decide) rLstOf (fun X _ _ => call_list_of) lstD prim_lst a
def intD (v : Vl) (_ : Stt TkG) : Option Vl := match v with
  | .dat (.int i) => valI i
  | .dat (.bl k) => valI (if k then 1 else 0)
  | .dat (.str a) => if a.length ≤ 640 then (PySem.intText? a).bind valI else none
  | _ => none
def rIntOf : List V → Hp → VK → Prop := fun xs H Q => ((∃ i, xs = [.int i] ∧ Q (.int i) H) ∨ ∃ k, xs = [.bl k] ∧ Q (.int (if k then 1 else 0)) H) ∨ ∃ a n, xs = [.str a] ∧ PySem.intText? a = some n ∧ a.length ≤ 640 ∧ Q (.int n) H
theorem prim_intc : Prim1 (fun _ => rIntOf) intD := by
  intro L B0 H0 θ0 B H θ σ s v w x Q hT so vo e q
  unfold intD at e
  split at e
  · cases e
    rw [rep_int.mp (show Rep L.K θ B _ x from vo)]
    exact .inl (.inl ⟨_, rfl, q _ H B so .refl vo_int trivial⟩)
  · cases e
    rw [rep_bl.mp (show Rep L.K θ B _ x from vo)]
    exact .inl (.inr ⟨_, rfl, q _ H B so .refl vo_int trivial⟩)
  · split at e
    · rename_i a hl
      obtain ⟨n, e1, e2⟩ := Option.bind_eq_some_iff.mp e
      cases e2
      rw [rep_str.mp (show Rep L.K θ B _ x from vo)]
      exact .inr ⟨a, n, rfl, e1, hl, q _ H B so .refl vo_int trivial⟩
    · cases e
  · cases e
def eIntOf (a : EI TkG) : EI TkG := mkT1 ("int" : Str) "int" (by rfl) (by decide) (by decide) (fun _ => rIntOf) (fun X _ _ => CallR.or call_int1 call_int_str) intD prim_intc a
def absD (v : Vl) (_ : Stt TkG) : Option Vl := match v with
  | .dat (.int i) => valI (if i < 0 then -i else i)
  | _ => none
def rAbs : List V → Hp → VK → Prop := fun xs H Q => ∃ i, xs = [.int i] ∧ Q (.int (if i < 0 then -i else i)) H
theorem prim_abs : Prim1 (fun _ => rAbs) absD := by
  intro L B0 H0 θ0 B H θ σ s v w x Q hT so vo e q
  unfold absD at e
  split at e
  · cases e
    rw [rep_int.mp (show Rep L.K θ B _ x from vo)]
    exact ⟨_, rfl, q _ H B so .refl vo_int trivial⟩
  · cases e
def eAbs (a : EI TkG) : EI TkG := mkB1 ("abs" : Str) "abs" (by rfl) (by decide) (by decide) (fun _ => rAbs) (fun X _ _ => call_abs) absD prim_abs a
def strD (v : Vl) (_ : Stt TkG) : Option Vl := match v with
  | .dat (.int i) => if i.natAbs.log2 < 1920 then some (.dat (.str (toString i))) else none
  | .dat (.str a) => some (.dat (.str a))
  | _ => none
def rStrOf : List V → Hp → VK → Prop := fun xs H Q => (∃ i, xs = [.int i] ∧ i.natAbs.log2 < 1920 ∧ Q (.str (toString i)) H) ∨ ∃ a, xs = [.str a] ∧ Q (.str a) H
theorem prim_str : Prim1 (fun _ => rStrOf) strD := by
  intro L B0 H0 θ0 B H θ σ s v w x Q hT so vo e q
  unfold strD at e
  split at e
  · split at e
    · rename_i hl
      cases e
      rw [rep_int.mp (show Rep L.K θ B _ x from vo)]
      exact .inl ⟨_, rfl, hl, q _ H B so .refl vo_str trivial⟩
    · cases e
  · cases e
    rw [rep_str.mp (show Rep L.K θ B _ x from vo)]
    exact .inr ⟨_, rfl, q _ H B so .refl vo_str trivial⟩
  · cases e
def eStrOf (a : EI TkG) : EI TkG := mkT1 ("str" : Str) "str" (by rfl) (by decide) (by decide) (fun _ => rStrOf) (fun X _ _ => CallR.or call_str_int SkE.call_str_str) strD prim_str a
end RB

namespace RB
open PySem PySem.Spec PyProof.Rows L2

def PrimN (r : PySem.W.Frag → List V → Hp → VK → Prop) (op : List D → Option Vl) : Prop :=
  ∀ {L : Law TkG} {B0 H0 : Hp} {θ0 : TT'} {B H : Hp} {θ : TT'} {σ : Sg} {s : Stt TkG} {ds : List D} {w : Vl} {xs : List V} {Q : VK}, SO L B0 H0 θ0 B H θ σ s.fr s.g → Reps L.K θ B ds xs → op ds = some w →
    (∀ z H' B', SO L B0 H0 θ0 B' H' θ σ s.fr s.g → Stp σ s.fr s.fr θ θ B B' H H' → ValOk L.K H0 B' H' θ σ s.fr w z → FreshV H w z → Q z H') → r L.K xs H Q
def dCallN (op : List D → Option Vl) (a : ADen TkG) : EDen TkG := fun s => (a s).bind fun ds s => opt (op ds) s
theorem callN_imp {L : Law TkG} {r : PySem.W.Frag → List V → Hp → VK → Prop} {op : List D → Option Vl} {a : ADen TkG} (hp : PrimN r op) : ∀ σ H Q, tD L (dCallN op a) σ H Q → tCB (r L.K) (tDA L a) σ H Q := by
  rintro σ H Q ⟨B0, H0, θ0, B, θ, s, so, q⟩
  refine tDA_run so q fun ds s1 vs H1 B1 θ1 q1 so1 st1 r1 => ?_
  obtain ⟨w, e, q2⟩ := opt_sat q1
  exact hp so1 r1 e fun z H' B' so2 st2 vo2 fv2 => q2 z H' B' θ1 so2 (st1.trans st2) vo2 (fv2.lift st1.ex)
def mkBN (x : Str) (id : String) (hv : bootBuiltins x = some (.builtin id)) (hn : x ≠ "__name__") (hdb : (x == ("__debug__" : Str)) = false) (r : PySem.W.Frag → List V → Hp → VK → Prop) (hc : ∀ X : Cx, X.calm = true → X.A.units + 64 < cLine → CallR X (.builtin id) (r X.K))
    (op : List D → Option Vl) (hp : PrimN r op) (a : AI TkG) : EI TkG where
  chk := fun ce e => match e with
    | .Call (.Name y _) (e :: es) [] _ => decide (y = x) && glB ce x && notStar e && es.all notStar && a.chk ce (e :: es)
    | _ => false
  den := dCallN op a.den
  need := fun L lv => L.mg x = none ∧ a.need L lv
  ok := fun L lv X ce e hX hn' h => by
    split at h
    · rename_i y p e es pos
      simp only [Bool.and_eq_true, decide_eq_true_eq] at h
      obtain ⟨⟨⟨⟨rfl, h2⟩, h3⟩, h5⟩, h4⟩ := h
      obtain ⟨g1, _⟩ := glB_ok hX h2
      refine (pe_callB (hc X hX.calm (roomU hX)) g1 (by rw [hX.mg]; exact hn'.1) hv (a.ok L lv X ce (e :: es) hX hn'.2 h4) hn hdb (star_cons h3) (plain_args h5)).imp ?_
      rw [hX.K]
      exact callN_imp hp
    · cases h
def rMin2 : List V → Hp → VK → Prop := fun xs H Q => ∃ i j, xs = [.int i, .int j] ∧ Q (.int (if j < i then j else i)) H
def rMax2 : List V → Hp → VK → Prop := fun xs H Q => ∃ i j, xs = [.int i, .int j] ∧ Q (.int (if j > i then j else i)) H
def min2D (ds : List D) : Option Vl := match ds with
  | [.int i, .int j] => valI (if j < i then j else i)
  | _ => none
def max2D (ds : List D) : Option Vl := match ds with
  | [.int i, .int j] => valI (if j > i then j else i)
  | _ => none
theorem prim_min2 : PrimN (fun _ => rMin2) min2D := by
  intro L B0 H0 θ0 B H θ σ s ds w xs Q so r e q
  unfold min2D at e
  split at e
  · cases e
    obtain ⟨v, u, rfl, r1, r2⟩ := vals2' r
    rw [rep_int] at r1 r2
    subst r1; subst r2
    exact ⟨_, _, rfl, q _ H B so .refl vo_int trivial⟩
  · cases e
theorem prim_max2 : PrimN (fun _ => rMax2) max2D := by
  intro L B0 H0 θ0 B H θ σ s ds w xs Q so r e q
  unfold max2D at e
  split at e
  · cases e
    obtain ⟨v, u, rfl, r1, r2⟩ := vals2' r
    rw [rep_int] at r1 r2
    subst r1; subst r2
    exact ⟨_, _, rfl, q _ H B so .refl vo_int trivial⟩
  · cases e
def eMin2 (a b : EI TkG) : EI TkG := mkBN ("min" : Str) "min" (by rfl) (by decide) (by decide) (fun _ => rMin2) (fun X h _ => call_min2 h) min2D prim_min2 (aCons a (aCons b aNil))
def eMax2 (a b : EI TkG) : EI TkG := mkBN ("max" : Str) "max" (by rfl) (by decide) (by decide) (fun _ => rMax2) (fun X h _ => call_max2 h) max2D prim_max2 (aCons a (aCons b aNil))
def intsD : List D → Option (List Int)
  | [] => some []
  | .int i :: r => (intsD r).map (i :: ·)
  | _ => none
def blsD : List D → Option (List Bool)
  | [] => some []
  | .bl i :: r => (blsD r).map (i :: ·)
  | _ => none
theorem reps_of_ints {K : PySem.W.Frag} {θ : TT'} {B : Hp} : ∀ {ds : List D} {ns : List Int} {vs : List V}, intsD ds = some ns → Reps K θ B ds vs → vs = ns.map V.int
  | [], ns, vs, e, r => by cases e; rw [Reps.nil.mp r]; rfl
  | d :: ds, ns, vs, e, r => by
    obtain ⟨v, t, rfl, r1, r2⟩ := Reps.cons.mp r
    cases d <;> try (cases e; done)
    rename_i i
    obtain ⟨ms, e1, rfl⟩ := Option.map_eq_some_iff.mp (show (intsD ds).map (i :: ·) = some ns from e)
    rw [rep_int.mp r1, reps_of_ints e1 r2]; rfl
theorem reps_of_bls {K : PySem.W.Frag} {θ : TT'} {B : Hp} : ∀ {ds : List D} {ns : List Bool} {vs : List V}, blsD ds = some ns → Reps K θ B ds vs → vs = ns.map V.bl
  | [], ns, vs, e, r => by cases e; rw [Reps.nil.mp r]; rfl
  | d :: ds, ns, vs, e, r => by
    obtain ⟨v, t, rfl, r1, r2⟩ := Reps.cons.mp r
    cases d <;> try (cases e; done)
    rename_i i
    obtain ⟨ms, e1, rfl⟩ := Option.map_eq_some_iff.mp (show (blsD ds).map (i :: ·) = some ns from e)
    rw [rep_bl.mp r1, reps_of_bls e1 r2]; rfl
/-- the items of a list (no tuple) -/
def lstItems (v : Vl) (s : Stt TkG) : Option (List D) := match seqK v s with
  | some (true, xs) => some xs
  | _ => none
theorem lstItems_ok {L : Law TkG} {B0 H0 B H : Hp} {θ0 θ : TT'} {σ : Sg} {s : Stt TkG} {v : Vl} {x : V} {xs : List D} (hT : TkLaw L) (so : SO L B0 H0 θ0 B H θ σ s.fr s.g) (vo : ValOk L.K H0 B H θ σ s.fr v x) (h : lstItems v s = some xs) :
    ∃ a vs, x = .ref a ∧ H a = some (.lst vs) ∧ Reps L.K θ B xs vs := by
  unfold lstItems at h
  split at h
  · rename_i ys e
    cases h
    exact seqK_ok hT so vo e
  · cases h
def anyD (v : Vl) (s : Stt TkG) : Option Vl := (lstItems v s).bind fun xs => (blsD xs).map fun bs => .dat (.bl (bs.any id))
def allD (v : Vl) (s : Stt TkG) : Option Vl := (lstItems v s).bind fun xs => (blsD xs).map fun bs => .dat (.bl (bs.all id))
def sumD (v : Vl) (s : Stt TkG) : Option Vl := (lstItems v s).bind fun xs => (intsD xs).map fun ns => .dat (.int ns.sum)
def maxL : Int → List Int → Int
  | a, [] => a
  | a, b :: r => maxL (if b > a then b else a) r
def minL : Int → List Int → Int
  | a, [] => a
  | a, b :: r => minL (if b < a then b else a) r
theorem maxL_mem : ∀ (r : List Int) (a : Int), maxL a r ∈ a :: r ∧ ∀ y ∈ a :: r, y ≤ maxL a r
  | [], a => by simp [maxL]
  | b :: r, a => by
    obtain ⟨h1, h2⟩ := maxL_mem r (if b > a then b else a)
    rw [maxL]
    refine ⟨?_, fun y hy => ?_⟩
    · rcases List.mem_cons.mp h1 with e | h
      · rw [e]; split <;> simp
      · exact List.mem_cons_of_mem _ (List.mem_cons_of_mem _ h)
    · have h0 := h2 _ List.mem_cons_self
      rcases List.mem_cons.mp hy with e | hy
      · rw [e]; refine Int.le_trans ?_ h0; split <;> omega
      · rcases List.mem_cons.mp hy with e | hy
        · rw [e]; refine Int.le_trans ?_ h0; split <;> omega
        · exact h2 y (List.mem_cons_of_mem _ hy)
theorem minL_mem : ∀ (r : List Int) (a : Int), minL a r ∈ a :: r ∧ ∀ y ∈ a :: r, minL a r ≤ y
  | [], a => by simp [minL]
  | b :: r, a => by
    obtain ⟨h1, h2⟩ := minL_mem r (if b < a then b else a)
    rw [minL]
    refine ⟨?_, fun y hy => ?_⟩
    · rcases List.mem_cons.mp h1 with e | h
      · rw [e]; split <;> simp
      · exact List.mem_cons_of_mem _ (List.mem_cons_of_mem _ h)
    · have h0 := h2 _ List.mem_cons_self
      rcases List.mem_cons.mp hy with e | hy
      · rw [e]; refine Int.le_trans h0 ?_; split <;> omega
      · rcases List.mem_cons.mp hy with e | hy
        · rw [e]; refine Int.le_trans h0 ?_; split <;> omega
        · exact h2 y (List.mem_cons_of_mem _ hy)
def max1D (v : Vl) (s : Stt TkG) : Option Vl := (lstItems v s).bind fun xs => (intsD xs).bind fun ns => match ns with
  | a :: r => valI (maxL a r)
  | [] => none
def min1D (v : Vl) (s : Stt TkG) : Option Vl := (lstItems v s).bind fun xs => (intsD xs).bind fun ns => match ns with
  | a :: r => valI (minL a r)
  | [] => none
theorem prim_any : Prim1 rAny anyD := by
  intro L B0 H0 θ0 B H θ σ s v w x Q hT so vo e q
  obtain ⟨xs, e1, e2⟩ := Option.bind_eq_some_iff.mp e
  obtain ⟨bs, e3, rfl⟩ := Option.map_eq_some_iff.mp e2
  obtain ⟨a, vs, rfl, e4, e5⟩ := lstItems_ok hT so vo e1
  refine ⟨a, bs, rfl, ?_, q _ H B so .refl vo_bl trivial⟩
  rw [← reps_of_bls e3 e5]; exact SqL.of e4
theorem prim_all : Prim1 rAll allD := by
  intro L B0 H0 θ0 B H θ σ s v w x Q hT so vo e q
  obtain ⟨xs, e1, e2⟩ := Option.bind_eq_some_iff.mp e
  obtain ⟨bs, e3, rfl⟩ := Option.map_eq_some_iff.mp e2
  obtain ⟨a, vs, rfl, e4, e5⟩ := lstItems_ok hT so vo e1
  refine ⟨a, bs, rfl, ?_, q _ H B so .refl vo_bl trivial⟩
  rw [← reps_of_bls e3 e5]; exact SqL.of e4
theorem prim_sum : Prim1 rSum sumD := by
  intro L B0 H0 θ0 B H θ σ s v w x Q hT so vo e q
  obtain ⟨xs, e1, e2⟩ := Option.bind_eq_some_iff.mp e
  obtain ⟨bs, e3, rfl⟩ := Option.map_eq_some_iff.mp e2
  obtain ⟨a, vs, rfl, e4, e5⟩ := lstItems_ok hT so vo e1
  refine ⟨a, bs, rfl, ?_, q _ H B so .refl vo_int trivial⟩
  rw [← reps_of_ints e3 e5]; exact SqL.of e4
theorem prim_max1 : Prim1 rMax max1D := by
  intro L B0 H0 θ0 B H θ σ s v w x Q hT so vo e q
  obtain ⟨xs, e1, e2⟩ := Option.bind_eq_some_iff.mp e
  obtain ⟨bs, e3, e6⟩ := Option.bind_eq_some_iff.mp e2
  obtain ⟨a, vs, rfl, e4, e5⟩ := lstItems_ok hT so vo e1
  cases bs with
  | nil => cases e6
  | cons b r =>
    cases e6
    refine ⟨a, b :: r, rfl, by rw [← reps_of_ints e3 e5]; exact SqL.of e4, by simp, fun m hm hy => ?_⟩
    obtain ⟨h1, h2⟩ := maxL_mem r b
    have : m = maxL b r := Int.le_antisymm (h2 m hm) (hy _ h1)
    rw [this]
    exact q _ H B so .refl vo_int trivial
theorem prim_min1 : Prim1 rMin min1D := by
  intro L B0 H0 θ0 B H θ σ s v w x Q hT so vo e q
  obtain ⟨xs, e1, e2⟩ := Option.bind_eq_some_iff.mp e
  obtain ⟨bs, e3, e6⟩ := Option.bind_eq_some_iff.mp e2
  obtain ⟨a, vs, rfl, e4, e5⟩ := lstItems_ok hT so vo e1
  cases bs with
  | nil => cases e6
  | cons b r =>
    cases e6
    refine ⟨a, b :: r, rfl, by rw [← reps_of_ints e3 e5]; exact SqL.of e4, by simp, fun m hm hy => ?_⟩
    obtain ⟨h1, h2⟩ := minL_mem r b
    have : m = minL b r := Int.le_antisymm (hy _ h1) (h2 m hm)
    rw [this]
    exact q _ H B so .refl vo_int trivial
def eAny (a : EI TkG) : EI TkG := mkB1 ("any" : Str) "any" (by rfl) (by decide) (by decide) rAny (fun X h _ => cr_any h) anyD prim_any a
def eAll (a : EI TkG) : EI TkG := mkB1 ("all" : Str) "all" (by rfl) (by decide) (by decide) rAll (fun X h _ => cr_all h) allD prim_all a
def eSum (a : EI TkG) : EI TkG := mkB1 ("sum" : Str) "sum" (by rfl) (by decide) (by decide) rSum (fun X h _ => cr_sum h) sumD prim_sum a
def eMax1 (a : EI TkG) : EI TkG := mkB1 ("max" : Str) "max" (by rfl) (by decide) (by decide) rMax (fun X h _ => cr_max h) max1D prim_max1 a
def eMin1 (a : EI TkG) : EI TkG := mkB1 ("min" : Str) "min" (by rfl) (by decide) (by decide) rMin (fun X h _ => cr_min h) min1D prim_min1 a

def negD (v : Vl) (_ : Stt TkG) : Option Vl := match v with
  | .dat (.int i) => valI (-i)
  | _ => none
def eNeg (a : EI TkG) : EI TkG where
  chk := fun ce e => match e with
    | .UnaryOp .USub x _ => a.chk ce x
    | _ => false
  den := dCall1 negD a.den
  need := a.need
  ok := fun L lv X ce e hX hn h => by
    split at h
    · rename_i x pos
      refine (pe_un un_neg (a.ok L lv X ce x hX hn h)).imp ?_
      rintro σ H Q ⟨B0, H0, θ0, B, θ, s, so, q⟩
      refine tD_run so q fun v s1 x H1 B1 θ1 q1 so1 st1 vo1 fv1 => ?_
      obtain ⟨w, e, q2⟩ := opt_sat q1
      unfold negD at e
      split at e
      · cases e
        exact ⟨_, rep_int.mp (show Rep L.K θ1 B1 _ x from vo1), q2 _ H1 B1 θ1 so1 st1 vo_int trivial⟩
      · cases e
    · cases h

/-- the built-in types asked of -/
inductive TyN where
  | int | bool | str | tuple | list
def TyN.nm : TyN → String
  | .int => "int" | .bool => "bool" | .str => "str" | .tuple => "tuple" | .list => "list"
inductive Kd where
  | non | bl | int | str | tup | lst
def Kd.nm : Kd → String
  | .non => "NoneType" | .bl => "bool" | .int => "int" | .str => "str" | .tup => "tuple" | .lst => "list"
def kd (d : D) : Kd := match d with
  | .non => .non
  | .bl _ => .bl
  | .int _ => .int
  | .str _ => .str
  | .tup _ => .tup
  | _ => .lst
def isK (T : TyN) (k : Kd) : Bool := match T, k with
  | .int, .int => true
  | .int, .bl => true
  | .bool, .bl => true
  | .str, .str => true
  | .tuple, .tup => true
  | .list, .lst => true
  | _, _ => false
def isiD (T : TyN) (d : D) : Bool := isK T (kd d)
theorem kit_all : ∀ (T : TyN) (k : Kd), kitB k.nm T.nm = some (isK T k) := by
  intro T k
  cases T <;> cases k <;> decide +kernel
def vlD (v : Vl) : D := match v with
  | .dat d => d
  | .own xs => .lst []
  | .pk _ => .lst []
def tyOfD (d : D) : String := (kd d).nm
theorem tyx_of {L : Law TkG} {B0 H0 B H : Hp} {θ0 θ : TT'} {σ : Sg} {s : Stt TkG} {v : Vl} {x : V} (hT : TkLaw L) (so : SO L B0 H0 θ0 B H θ σ s.fr s.g) (vo : ValOk L.K H0 B H θ σ s.fr v x) : TyX L.K H x (.type (tyOfD (vlD v))) := by
  have lst : ∀ {a : Addr} {vs : List V}, H a = some (.lst vs) → TyX L.K H (.ref a) (.type "list") := fun e => .base (.lst e)
  cases v with
  | dat d =>
    cases d with
    | non => rw [rep_non.mp (show Rep L.K θ B _ x from vo)]; exact .base .non
    | bl b => rw [rep_bl.mp (show Rep L.K θ B _ x from vo)]; exact .base (.bl b)
    | int i => rw [rep_int.mp (show Rep L.K θ B _ x from vo)]; exact .base (.int i)
    | str z => rw [rep_str.mp (show Rep L.K θ B _ x from vo)]; exact .base (.str z)
    | tup xs =>
      obtain ⟨a, vs, rfl, e, _⟩ := rep_tup.mp (show Rep L.K θ B _ x from vo)
      rcases e with (e | ⟨o, e⟩) | ⟨o, its, n, e, c, _⟩
      · exact .base (.tup (so.core.bh _ _ e))
      · exact .fTuple (so.core.bh _ _ e)
      · exact .kTuple e c
    | lst xs =>
      obtain ⟨a, vs, rfl, e, _⟩ := rep_lst.mp (show Rep L.K θ B _ x from vo)
      exact lst (so.core.bh _ _ e)
    | tok n =>
      have vo1 : Rep L.K θ B (.tok n) x := vo
      have rg := so.core.rg
      rw [hT] at rg
      simp only [Rep] at vo1
      obtain ⟨a, t, e1, rfl⟩ := vo1
      have hlt : n < s.g.length := by rw [← rg.len]; exact (List.getElem?_eq_some_iff.mp e1).1
      obtain ⟨b, e2, e3⟩ := rg.at' n _ (List.getElem?_eq_getElem hlt)
      rw [e1] at e2; cases e2
      cases ec : s.g[n] with
      | lst xs =>
        rw [ec] at e3
        obtain ⟨vs, e4, _⟩ := e3
        exact lst e4
      | dic kvs => rw [ec] at e3; exact e3.elim
    | scr ns =>
      have vo1 : Rep L.K θ B (.scr ns) x := vo
      simp only [Rep] at vo1
      obtain ⟨a, rfl, e⟩ := vo1
      rcases e with (e | ⟨o, e⟩) | ⟨o, its, n, e, c, _⟩
      · exact lst (so.core.bh _ _ e)
      · exact .base (.frz (so.core.bh _ _ e))
      · exact .kList e c
  | own xs =>
    obtain ⟨a, rfl, o, _⟩ := vo
    obtain ⟨vs, e, _⟩ := o.ex
    exact lst e
  | pk i =>
    obtain ⟨e1, xs, e2⟩ := vo
    obtain ⟨w, e3, a, rfl, o⟩ := so.sl i _ e2
    rw [e1] at e3; cases e3
    obtain ⟨vs, e, _⟩ := o.ex
    exact lst e
def eIsi (a : EI TkG) (T : TyN) : EI TkG where
  chk := fun ce e => match e with
    | .Call (.Name y _) [e, .Name t _] [] _ => decide (y = ("isinstance" : Str)) && glB ce ("isinstance" : Str) && notStar e && a.chk ce e && decide (t = Str.ofString T.nm) && glB ce (Str.ofString T.nm)
    | _ => false
  den := fun s => (a.den s).bind fun v s => .ok (.dat (.bl (isiD T (vlD v)))) s
  need := fun L lv => TkLaw L ∧ L.mg ("isinstance" : Str) = none ∧ L.mg (Str.ofString T.nm) = none ∧ a.need L lv
  ok := fun L lv X ce e hX hn h => by
    split at h
    · rename_i y p e t p2 pos
      simp only [Bool.and_eq_true, decide_eq_true_eq] at h
      obtain ⟨⟨⟨⟨⟨rfl, h2⟩, h3⟩, h4⟩, rfl⟩, h5⟩ := h
      obtain ⟨g1, _⟩ := glB_ok hX h2
      obtain ⟨g2, _⟩ := glB_ok hX h5
      have hty : PE X (.Name (Str.ofString T.nm) p2) (tC (.ty T.nm)) := by
        refine pe_bltn (u := .type T.nm) g2 (by rw [hX.mg]; exact hn.2.2.1) ?_ rfl ?_ ?_ <;> (cases T <;> first | rfl | decide)
      refine (pe_callB call_isi g1 (by rw [hX.mg]; exact hn.2.1) (by rfl) (pa_cons (a.ok L lv X ce e hX hn.2.2.2 h4) (pa_cons hty pa_nil) (star_cons h3)) (by decide) (by decide) (star_cons h3) rfl).imp ?_
      rw [hX.K]
      rintro σ H Q ⟨B0, H0, θ0, B, θ, s, so, q⟩
      refine tD_run so q fun v s1 x H1 B1 θ1 q1 so1 st1 vo1 fv1 => ?_
      exact ⟨x, .ty T.nm, _, _, _, rfl, .ty _, tyx_of hn.1 so1 vo1, kit_ty (kit_all T (kd (vlD v))), q1 _ H1 B1 θ1 so1 st1 vo_bl trivial⟩
    · cases h
end RB

namespace RB
open PySem PySem.Spec PyProof.Rows L2

/-- three-way, from a strict order -/
def c3 {α : Type} (lt : α → α → Bool) (a b : α) : Ordering := if lt a b = true then .lt else if lt b a = true then .gt else .eq
structure Ord3 {α : Type} (lt : α → α → Bool) : Prop where
  irr : ∀ a, lt a a = false
  tr : ∀ a b c, lt a b = true → lt b c = true → lt a c = true
  tri : ∀ a b, lt a b = false → lt b a = false → a = b
/-- what three answers have to do with one another -/
def Tri3 (o1 o2 o3 : Ordering) : Prop := (o1 = .lt → o2 ≠ .gt → o3 = .lt) ∧ (o1 ≠ .gt → o2 = .lt → o3 = .lt) ∧ (o1 = .eq → o2 = .eq → o3 = .eq)
section
variable {α : Type} {lt : α → α → Bool}
theorem Ord3.asym (O : Ord3 lt) {a b : α} (h : lt a b = true) : lt b a = false := by
  cases e : lt b a with
  | false => rfl
  | true => have := O.tr _ _ _ h e; rw [O.irr] at this; cases this
theorem Ord3.swap (O : Ord3 lt) (a b : α) : c3 lt b a = (c3 lt a b).swap := by
  unfold c3
  cases h1 : lt a b <;> cases h2 : lt b a <;> simp
  have := O.asym h1
  rw [h2] at this; cases this
theorem Ord3.eq (O : Ord3 lt) {a b : α} (h : c3 lt a b = .eq) : a = b := by
  unfold c3 at h
  cases h1 : lt a b <;> cases h2 : lt b a <;> simp [h1, h2] at h
  exact O.tri _ _ h1 h2
theorem Ord3.refl (O : Ord3 lt) (a : α) : c3 lt a a = .eq := by unfold c3; rw [O.irr]; rfl
theorem Ord3.lt_iff (O : Ord3 lt) {a b : α} : c3 lt a b = .lt ↔ lt a b = true := by
  unfold c3
  cases h1 : lt a b <;> cases h2 : lt b a <;> simp
theorem Ord3.tri3 (O : Ord3 lt) (a b c : α) : Tri3 (c3 lt a b) (c3 lt b c) (c3 lt a c) := by
  have key : ∀ {x y : α}, c3 lt x y ≠ .gt → c3 lt x y ≠ .lt → x = y := fun {x y} h1 h2 => O.eq (by cases e : c3 lt x y <;> first | rfl | exact absurd e h1 | exact absurd e h2)
  refine ⟨fun h1 h2 => ?_, fun h1 h2 => ?_, fun h1 h2 => ?_⟩
  · by_cases h3 : c3 lt b c = .lt
    · exact O.lt_iff.mpr (O.tr _ _ _ (O.lt_iff.mp h1) (O.lt_iff.mp h3))
    · rw [← key h2 h3]; exact h1
  · by_cases h3 : c3 lt a b = .lt
    · exact O.lt_iff.mpr (O.tr _ _ _ (O.lt_iff.mp h3) (O.lt_iff.mp h2))
    · rw [key h1 h3]; exact h2
  · rw [O.eq h1, O.eq h2]; exact O.refl _
end
def ltI (a b : Int) : Bool := decide (a < b)
def ltN (a b : Nat) : Bool := decide (a < b)
def ltS (a b : Str) : Bool := decide (a.cps.toList < b.cps.toList)
theorem ordI : Ord3 ltI := ⟨fun a => by simp [ltI], fun a b c h1 h2 => by simp only [ltI, decide_eq_true_eq] at *; omega, fun a b h1 h2 => by simp only [ltI, decide_eq_false_iff_not] at *; omega⟩
theorem ordN : Ord3 ltN := ⟨fun a => by simp [ltN], fun a b c h1 h2 => by simp only [ltN, decide_eq_true_eq] at *; omega, fun a b h1 h2 => by simp only [ltN, decide_eq_false_iff_not] at *; omega⟩
theorem ordS : Ord3 ltS := ⟨fun a => by simp only [ltS, decide_eq_false_iff_not]; exact List.lt_irrefl _, fun a b c h1 h2 => by simp only [ltS, decide_eq_true_eq] at *; exact List.lt_trans h1 h2, fun a b h1 h2 => by
  simp only [ltS, decide_eq_false_iff_not] at *
  have e : a.cps.toList = b.cps.toList := List.le_antisymm h2 h1
  cases a; cases b
  simp only [Array.toList_inj] at e
  rw [e]⟩
def rkD : D → Nat
  | .int _ => 0
  | .str _ => 1
  | .tup _ => 2
  | .non => 3
  | .bl _ => 4
  | .lst _ => 5
  | .tok _ => 6
  | .scr _ => 7
mutual
def cmpD : D → D → Ordering
  | .int i, .int j => c3 ltI i j
  | .str x, .str y => c3 ltS x y
  | .tup xs, .tup ys => cmpDs xs ys
  | a, b => c3 ltN (rkD a) (rkD b)
def cmpDs : List D → List D → Ordering
  | [], [] => .eq
  | [], _ :: _ => .lt
  | _ :: _, [] => .gt
  | x :: xs, y :: ys => (cmpD x y).then (cmpDs xs ys)
end
theorem Ordering.then_swap (a b : Ordering) : (a.then b).swap = a.swap.then b.swap := by cases a <;> rfl
mutual
theorem cmpD_swap : ∀ a b : D, cmpD b a = (cmpD a b).swap
  | .int i, b => by cases b <;> first | (simp only [cmpD]; exact ordI.swap _ _) | (simp only [cmpD]; exact ordN.swap _ _)
  | .str i, b => by cases b <;> first | (simp only [cmpD]; exact ordS.swap _ _) | (simp only [cmpD]; exact ordN.swap _ _)
  | .tup xs, b => by cases b <;> first | (simp only [cmpD]; exact cmpDs_swap xs _) | (simp only [cmpD]; exact ordN.swap _ _)
  | .non, b => by cases b <;> (simp only [cmpD]; exact ordN.swap _ _)
  | .bl _, b => by cases b <;> (simp only [cmpD]; exact ordN.swap _ _)
  | .lst _, b => by cases b <;> (simp only [cmpD]; exact ordN.swap _ _)
  | .tok _, b => by cases b <;> (simp only [cmpD]; exact ordN.swap _ _)
  | .scr _, b => by cases b <;> (simp only [cmpD]; exact ordN.swap _ _)
theorem cmpDs_swap : ∀ a b : List D, cmpDs b a = (cmpDs a b).swap
  | [], b => by cases b <;> simp only [cmpDs] <;> rfl
  | x :: xs, b => by
    cases b with
    | nil => simp only [cmpDs]; rfl
    | cons y ys => simp only [cmpDs]; rw [Ordering.then_swap, ← cmpD_swap x y, ← cmpDs_swap xs ys]
end
theorem tri_then {a b c x y z : Ordering} (h : Tri3 a b c) (k : Tri3 x y z) : Tri3 (a.then x) (b.then y) (c.then z) := by
  obtain ⟨h1, h2, h3⟩ := h
  obtain ⟨k1, k2, k3⟩ := k
  cases a <;> cases b <;> cases x <;> cases y <;> simp_all [Tri3, Ordering.then]
mutual
theorem cmpD_tri : ∀ a b c : D, Tri3 (cmpD a b) (cmpD b c) (cmpD a c)
  | .int i, b, c => by cases b <;> cases c <;> first | (simp only [cmpD]; exact ordI.tri3 _ _ _) | (simp only [cmpD, rkD, c3, ltN, ltI, Tri3]; (repeat split) <;> simp_all)
  | .str i, b, c => by cases b <;> cases c <;> first | (simp only [cmpD]; exact ordS.tri3 _ _ _) | (simp only [cmpD, rkD, c3, ltN, ltS, Tri3]; (repeat split) <;> simp_all)
  | .tup xs, b, c => by cases b <;> cases c <;> first | (simp only [cmpD]; exact cmpDs_tri xs _ _) | (simp only [cmpD, rkD, c3, ltN, Tri3]; (repeat split) <;> simp_all)
  | .non, b, c => by cases b <;> cases c <;> (simp only [cmpD, rkD, c3, ltN, Tri3]; (repeat split) <;> simp_all)
  | .bl _, b, c => by cases b <;> cases c <;> (simp only [cmpD, rkD, c3, ltN, Tri3]; (repeat split) <;> simp_all)
  | .lst _, b, c => by cases b <;> cases c <;> (simp only [cmpD, rkD, c3, ltN, Tri3]; (repeat split) <;> simp_all)
  | .tok _, b, c => by cases b <;> cases c <;> (simp only [cmpD, rkD, c3, ltN, Tri3]; (repeat split) <;> simp_all)
  | .scr _, b, c => by cases b <;> cases c <;> (simp only [cmpD, rkD, c3, ltN, Tri3]; (repeat split) <;> simp_all)
theorem cmpDs_tri : ∀ a b c : List D, Tri3 (cmpDs a b) (cmpDs b c) (cmpDs a c)
  | [], b, c => by cases b <;> cases c <;> simp [cmpDs, Tri3]
  | x :: xs, b, c => by
    cases b with
    | nil => cases c <;> simp [cmpDs, Tri3]
    | cons y ys =>
      cases c with
      | nil => simp [cmpDs, Tri3]
      | cons z zs => simp only [cmpDs]; exact tri_then (cmpD_tri x y z) (cmpDs_tri xs ys zs)
end
end RB

namespace RB
open PySem PySem.Spec PyProof.Rows L2

mutual
/-- data that sorts: ints, texts, tuples of such -/
def ordD : D → Bool
  | .int _ => true
  | .str _ => true
  | .tup xs => ordDs xs
  | _ => false
def ordDs : List D → Bool
  | [] => true
  | x :: xs => ordD x && ordDs xs
end
mutual
theorem cmpD_eq : ∀ a b : D, ordD a = true → cmpD a b = .eq → a = b
  | .int i, b, _, h => by
    cases b <;> simp only [cmpD] at h
    · exact absurd (ordN.eq h) (by simp [rkD])
    · exact absurd (ordN.eq h) (by simp [rkD])
    · rw [ordI.eq h]
    all_goals exact absurd (ordN.eq h) (by simp [rkD])
  | .str i, b, _, h => by
    cases b <;> simp only [cmpD] at h
    · exact absurd (ordN.eq h) (by simp [rkD])
    · exact absurd (ordN.eq h) (by simp [rkD])
    · exact absurd (ordN.eq h) (by simp [rkD])
    · rw [ordS.eq h]
    all_goals exact absurd (ordN.eq h) (by simp [rkD])
  | .tup xs, b, o, h => by
    cases b <;> simp only [cmpD] at h
    · exact absurd (ordN.eq h) (by simp [rkD])
    · exact absurd (ordN.eq h) (by simp [rkD])
    · exact absurd (ordN.eq h) (by simp [rkD])
    · exact absurd (ordN.eq h) (by simp [rkD])
    · rw [cmpDs_eq xs _ (by simpa only [ordD] using o) h]
    all_goals exact absurd (ordN.eq h) (by simp [rkD])
  | .non, b, o, _ => by simp [ordD] at o
  | .bl _, b, o, _ => by simp [ordD] at o
  | .lst _, b, o, _ => by simp [ordD] at o
  | .tok _, b, o, _ => by simp [ordD] at o
  | .scr _, b, o, _ => by simp [ordD] at o
theorem cmpDs_eq : ∀ a b : List D, ordDs a = true → cmpDs a b = .eq → a = b
  | [], b, _, h => by cases b <;> simp_all [cmpDs]
  | x :: xs, b, o, h => by
    simp only [ordDs, Bool.and_eq_true] at o
    cases b with
    | nil => simp [cmpDs] at h
    | cons y ys =>
      simp only [cmpDs] at h
      have h1 : cmpD x y = .eq := by cases e : cmpD x y <;> rw [e] at h <;> simp_all [Ordering.then]
      rw [h1] at h
      rw [cmpD_eq x y o.1 h1, cmpDs_eq xs ys o.2 h]
end
theorem cmpD_refl (a : D) : cmpD a a = .eq := by
  have := cmpD_swap a a
  cases e : cmpD a a <;> rw [e] at this <;> simp_all [Ordering.swap]
mutual
theorem ordD_pln : ∀ d : D, ordD d = true → pln d = true
  | .int i, _ => rfl
  | .str i, _ => rfl
  | .tup xs, h => by simp only [pln]; exact ordDs_pln xs (by simpa only [ordD] using h)
  | .non, h => by simp [ordD] at h
  | .bl _, h => by simp [ordD] at h
  | .lst _, h => by simp [ordD] at h
  | .tok _, h => by simp [ordD] at h
  | .scr _, h => by simp [ordD] at h
theorem ordDs_pln : ∀ d : List D, ordDs d = true → plns d = true
  | [], _ => rfl
  | x :: xs, h => by
    simp only [ordDs, Bool.and_eq_true] at h
    simp only [plns, Bool.and_eq_true]
    exact ⟨ordD_pln x h.1, ordDs_pln xs h.2⟩
end
mutual
theorem eqB_ord : ∀ a b : D, ordD a = true → ordD b = true → eqB a b = true → a = b
  | .int i, b, _, o, h => by cases b <;> simp_all [eqB, ordD]
  | .str i, b, _, o, h => by cases b <;> simp_all [eqB, ordD]
  | .tup xs, b, o1, o, h => by
    cases b <;> simp only [eqB] at h <;> try (cases h; done)
    rename_i ys
    rw [eqBs_ord xs ys (by simpa only [ordD] using o1) (by simpa only [ordD] using o) h]
  | .non, b, o, _, _ => by simp [ordD] at o
  | .bl _, b, o, _, _ => by simp [ordD] at o
  | .lst _, b, o, _, _ => by simp [ordD] at o
  | .tok _, b, o, _, _ => by simp [ordD] at o
  | .scr _, b, o, _, _ => by simp [ordD] at o
theorem eqBs_ord : ∀ a b : List D, ordDs a = true → ordDs b = true → eqBs a b = true → a = b
  | [], b, _, _, h => by cases b <;> simp_all [eqBs]
  | x :: xs, b, o1, o2, h => by
    cases b with
    | nil => simp [eqBs] at h
    | cons y ys =>
      simp only [eqBs, Bool.and_eq_true] at h
      simp only [ordDs, Bool.and_eq_true] at o1 o2
      rw [eqB_ord x y o1.1 o2.1 h.1, eqBs_ord xs ys o1.2 o2.2 h.2]
end
theorem c3_beq {α : Type} (lt : α → α → Bool) (a b : α) : lt a b = (c3 lt a b == .lt) := by
  unfold c3
  by_cases h : lt a b = true
  · rw [if_pos h, h]; rfl
  · rw [if_neg h]
    have h' : lt a b = false := by simpa using h
    rw [h']
    split <;> rfl
mutual
theorem ltB_cmp : ∀ (a b : D) (r : Bool), ordD a = true → ordD b = true → ltB a b = some r → r = (cmpD a b == .lt)
  | .int i, b, r, _, o, h => by
    cases b <;> simp only [ltB] at h <;> try (cases h; done)
    cases h
    simp only [cmpD]
    exact c3_beq ltI _ _
  | .str i, b, r, _, o, h => by
    cases b <;> simp only [ltB] at h <;> try (cases h; done)
    rename_i j
    cases h
    simp only [cmpD]
    exact c3_beq ltS _ _
  | .tup xs, b, r, o1, o, h => by
    cases b <;> simp only [ltB] at h <;> try (cases h; done)
    rename_i ys
    simp only [cmpD]
    exact ltBs_cmp xs ys r (by simpa only [ordD] using o1) (by simpa only [ordD] using o) h
  | .non, b, r, o, _, _ => by simp [ordD] at o
  | .bl _, b, r, o, _, _ => by simp [ordD] at o
  | .lst _, b, r, o, _, _ => by simp [ordD] at o
  | .tok _, b, r, o, _, _ => by simp [ordD] at o
  | .scr _, b, r, o, _, _ => by simp [ordD] at o
theorem ltBs_cmp : ∀ (a b : List D) (r : Bool), ordDs a = true → ordDs b = true → ltBs a b = some r → r = (cmpDs a b == .lt)
  | [], b, r, _, _, h => by cases b <;> simp only [ltBs] at h <;> cases h <;> rfl
  | x :: xs, b, r, o1, o2, h => by
    cases b with
    | nil => simp only [ltBs] at h; cases h; rfl
    | cons y ys =>
      simp only [ltBs] at h
      simp only [ordDs, Bool.and_eq_true] at o1 o2
      simp only [cmpDs]
      cases e : eqB x y with
      | true =>
        rw [e, if_pos rfl] at h
        have := eqB_ord x y o1.1 o2.1 e
        subst this
        rw [cmpD_refl]
        exact ltBs_cmp xs ys r o1.2 o2.2 h
      | false =>
        rw [e, if_neg Bool.false_ne_true] at h
        have h1 := ltB_cmp x y r o1.1 o2.1 h
        have h2 : cmpD x y ≠ .eq := fun z => by
          have := cmpD_eq x y o1.1 z
          subst this
          rw [eqB_refl x (ordD_pln x o1.1)] at e
          cases e
        rw [h1]
        cases e3 : cmpD x y <;> first | rfl | exact absurd e3 h2
end

def insD (x : D) : List D → List D
  | [] => [x]
  | y :: r => if cmpD y x == .lt then y :: insD x r else x :: y :: r
def srtD : List D → List D
  | [] => []
  | x :: r => insD x (srtD r)
/-- not above -/
def LeD (a b : D) : Prop := cmpD b a ≠ .lt
theorem LeD.tr {a b c : D} (h1 : LeD a b) (h2 : LeD b c) : LeD a c := by
  intro h
  have t := cmpD_tri c a b
  have := t.1 h
  by_cases e : cmpD a b = .gt
  · apply h1; rw [cmpD_swap a b, e]; rfl
  · exact h2 (this e)
theorem insD_perm (x : D) : ∀ l, (insD x l).Perm (x :: l)
  | [] => .refl _
  | y :: r => by
    rw [insD]
    split
    · exact ((insD_perm x r).cons y).trans (.swap x y r)
    · exact .refl _
theorem srtD_perm : ∀ l, (srtD l).Perm l
  | [] => .refl _
  | x :: r => (insD_perm x _).trans ((srtD_perm r).cons x)
theorem insD_srt (x : D) : ∀ l, l.Pairwise LeD → (insD x l).Pairwise LeD
  | [], _ => List.pairwise_singleton _ _
  | y :: r, h => by
    rw [insD]
    obtain ⟨h1, h2⟩ := List.pairwise_cons.mp h
    split
    · rename_i e
      refine List.pairwise_cons.mpr ⟨fun z hz => ?_, insD_srt x r h2⟩
      rcases List.mem_cons.mp ((insD_perm x r).mem_iff.mp hz) with rfl | hz
      · intro w
        have e' : cmpD y z = .lt := by simpa using e
        rw [cmpD_swap z y, w] at e'
        cases e'
      · exact h1 z hz
    · rename_i e
      have e' : LeD x y := fun w => e (by simp [w])
      refine List.pairwise_cons.mpr ⟨fun z hz => ?_, h⟩
      rcases List.mem_cons.mp hz with rfl | hz
      · exact e'
      · exact e'.tr (h1 z hz)
theorem srtD_srt : ∀ l, (srtD l).Pairwise LeD
  | [] => List.Pairwise.nil
  | x :: r => insD_srt x _ (srtD_srt r)
theorem srt_uniq : ∀ {l m : List D}, (∀ x ∈ l, ordD x = true) → l.Pairwise LeD → m.Pairwise LeD → l.Perm m → l = m
  | [], m, _, _, _, h => (List.Perm.eq_nil h.symm).symm
  | x :: l, [], _, _, _, h => absurd h.length_eq (by simp)
  | x :: l, y :: m, o, hl, hm, h => by
    obtain ⟨a1, a2⟩ := List.pairwise_cons.mp hl
    obtain ⟨b1, b2⟩ := List.pairwise_cons.mp hm
    have e : x = y := by
      rcases List.mem_cons.mp (h.mem_iff.mp List.mem_cons_self) with e | hx
      · exact e
      · rcases List.mem_cons.mp (h.mem_iff.mpr List.mem_cons_self) with e | hy
        · exact e.symm
        · have h1 := a1 y hy
          have h2 := b1 x hx
          refine cmpD_eq x y (o x List.mem_cons_self) ?_
          cases e : cmpD x y with
          | eq => rfl
          | lt => exact absurd e h2
          | gt => exact absurd (by rw [cmpD_swap x y, e]; rfl) h1
    subst e
    rw [srt_uniq (fun z hz => o z (List.mem_cons_of_mem _ hz)) a2 b2 h.cons_inv]
end RB

namespace RB
open PySem PySem.Spec PyProof.Rows L2
section
variable {prog : Program} {w : World} {A : Around} {E : Value → Shared → Prop} {s : Shared}
/-- a list's or a tuple's items, gathered -/
theorem gather {T : String} (hT : T = "list" ∨ T = "tuple") {l : Addr} {o : Obj} {n : Nat} {vs : List Value} {Q : List Value → Shared → Prop} (ho : s.heap.get? l = some o) (hc : o.cls = .type T) (hd : o.data = .seq vs.toArray n) (hz : vs.length ≤ sizeLine)
    (h : Q vs { s with heap := (s.heap.push (seqObj "list" #[] 0)).update s.heap.objs.size (Obj.mapSeq (· ++ vs.toArray)) }) : wpAny (model prog w) A (collect (.ref l)) Q E s := by
  unfold collect
  refine wpAny_bind (wpAny_runValue (codeAny_builtin entry_proto_collect' ?_))
  show wpAny _ _ (newList [] >>= fun x => again (.builtin "list.__iadd__" ⟨[x, .ref l], []⟩)) _ _ s
  refine wpAny_bind (wpAny_newList (wpAny_pure ⟨Code.quiet_builtin _ (by decide +kernel), codeAny_builtin entry_list_iadd' ?_⟩))
  have ho' : (s.heap.push (seqObj "list" #[] 0)).get? l = some o := Heap.get?_push_of_some _ ho
  show wpAny _ _ (Builtin.List.listExtendWith (.ref s.heap.objs.size) (.ref l) (.ref s.heap.objs.size)) _ _ { s with heap := s.heap.push (seqObj "list" #[] 0) }
  unfold Builtin.List.listExtendWith
  refine wpAny_bind (wpAny_typeOf (T := T) ⟨o, ho', hc⟩ ?_)
  have ht : (Value.type T == Value.type "list" || Value.type T == Value.type "tuple") = true := by rcases hT with rfl | rfl <;> rfl
  rw [if_pos (by rw [Bool.or_assoc, ht, Bool.or_true])]
  refine wpAny_bind (listItems_at ho' hd (wpAny_bind (listItems_at (xs := #[]) (n := 0) (Heap.get?_push_size _ rfl) rfl ?_)))
  rw [if_neg (by simp)]
  refine wpAny_bind (listUpdate_at (xs := #[]) (n := 0) (Heap.get?_push_size _ rfl) rfl (wpAny_pure ?_) (Nat.zero_le _) (by show ((#[] : Array Value) ++ vs.toArray).size ≤ sizeLine + 1; rw [Array.size_append, List.size_toArray]; show 0 + vs.length ≤ _; omega))
  show wpAny (model prog w) A (load s.heap.objs.size >>= fun o => match o.data with
      | .seq xs _ => pure xs.toList
      | _ => unsupported "internal:collect") Q E { s with heap := (s.heap.push (seqObj "list" #[] 0)).update s.heap.objs.size (Obj.mapSeq (· ++ vs.toArray)) }
  refine wpAny_bind (wpAny_load (get?_update_seq (Heap.get?_push_size _ rfl) _) (show wpAny _ _ (pure ((#[] : Array Value) ++ vs.toArray).toList) Q E _ from ?_))
  have e : ((#[] : Array Value) ++ vs.toArray).toList = vs := by simp
  rw [e]
  exact wpAny_pure h
/-- sorted(..) of a list or a tuple, its items in a strict weak order -/
theorem sorted_any {T : String} (hT : T = "list" ∨ T = "tuple") {l : Addr} {o : Obj} {n : Nat} {vs : List Value} {ltv : Value → Value → Bool} {Q : Value → Shared → Prop} (W : SrtO.Swo ltv) (ho : s.heap.get? l = some o) (hc : o.cls = .type T) (hd : o.data = .seq vs.toArray n) (hz : vs.length ≤ sizeLine)
    (hS : 2 ≤ vs.length → ∀ (h₁ : Heap) (a : Addr), h₁.get? a = some (seqObj "list" vs.toArray 0) → (∀ b o, s.heap.get? b = some o → b ≠ a ∧ h₁.get? b = some o) → SrtO.SortableO prog w A.in1.in1 { s with heap := h₁ } a vs ltv)
    (h : ∀ out : List Value, SrtO.Srtd ltv out → SrtO.Stb ltv out vs → Q (.ref (s.heap.objs.size + 1)) { s with heap := sortedAll s.heap vs out.toArray }) :
    wpAny (model prog w) A (call (.builtin "sorted") [.ref l]) Q E s := by
  refine Calls.call_function_entry kind_sorted plain_sorted entry_sorted (args_sorted1 _) ?_
  unfold Builtin.«sorted»
  refine wpAny_bind (m := checkCount "sorted" 1 1 _) (wpAny_pure (wpAny_bind (gather hT ho hc hd hz (wpAny_bind (wpAny_newList ?_ hz)))))
  generalize hh : (s.heap.push (seqObj "list" #[] 0)).update s.heap.objs.size (Obj.mapSeq (· ++ vs.toArray)) = h1
  have z1 : h1.objs.size = s.heap.objs.size + 1 := by rw [← hh, Heap.size_update, size_push']
  have at1 : (h1.push (seqObj "list" vs.toArray 0)).get? (s.heap.objs.size + 1) = some (seqObj "list" vs.toArray 0) := by rw [← z1]; exact Heap.get?_push_size _ rfl
  have k1 : ∀ b o, s.heap.get? b = some o → b ≠ s.heap.objs.size + 1 ∧ (h1.push (seqObj "list" vs.toArray 0)).get? b = some o := fun b o q => by
    have lt := Heap.lt_size q
    refine ⟨Nat.ne_of_lt (Nat.lt_succ_of_lt lt), Heap.get?_push_of_some _ ?_⟩
    rw [← hh, Heap.get?_update_ne _ _ _ _ (Nat.ne_of_lt lt)]
    exact Heap.get?_push_of_some _ q
  show wpAny _ _ _ _ _ { s with heap := h1.push (seqObj "list" vs.toArray 0) }
  rw [z1]
  refine wpAny_bind (wpAny_holding (wpAny_call_entry slot_list_sort ⟨_, at1, rfl⟩ entry_list_sort (SrtO.list_sort_ord W at1 hz (fun z => hS z _ _ at1 k1) fun out u1 u2 => ⟨_, rfl, wpAny_pure ⟨_, rfl, ?_⟩⟩) (args_list_sort _)))
  have := h out u1 u2
  unfold sortedAll at this
  rw [hh] at this
  exact this
end
end RB

namespace RB
open PySem PySem.Spec PyProof.Rows L2

/-- what sorts together -/
inductive SKd where
  | ints | strs | tups (k : Kd)
def isInt (d : D) : Bool := match d with
  | .int _ => true
  | _ => false
def isStr (d : D) : Bool := match d with
  | .str _ => true
  | _ => false
/-- a tuple whose first item has that look -/
def headK (p : D → Bool) (d : D) : Bool := match d with
  | .tup (x :: _) => p x
  | _ => false
def isTup (d : D) : Bool := match d with
  | .tup _ => true
  | _ => false
def kindOk (ds : List D) : Bool := ds.all isInt || ds.all isStr || ds.all (headK isInt) || ds.all (headK isStr) || ds.all (headK isTup)
def sortOk (ds : List D) : Bool := ds.all ordD && (ds.all fun x => ds.all fun y => (ltB x y).isSome) && kindOk ds && ds.all fun d => decide (depB d ≤ 20)
section
open Classical in
/-- the data of a value -/
noncomputable def keyV (h : Heap) (v : Value) : D := if z : ∃ d, RdV h d v then z.choose else .non
theorem keyV_eq {h : Heap} {d : D} {v : Value} (r : RdV h d v) : keyV h v = d := by
  have z : ∃ d, RdV h d v := ⟨d, r⟩
  unfold keyV
  rw [dif_pos z]
  exact RdV.uniq _ _ v z.choose_spec r
noncomputable def ltV (h : Heap) (v u : Value) : Bool := cmpD (keyV h v) (keyV h u) == .lt
theorem swoV (h : Heap) : SrtO.Swo (ltV h) := by
  refine ⟨fun x y e => ?_, fun x y z e1 e2 => ?_⟩
  · have e' : cmpD (keyV h x) (keyV h y) = .lt := by simpa [ltV] using e
    unfold ltV
    rw [cmpD_swap (keyV h x) (keyV h y), e']
    rfl
  · have f1 : LeD (keyV h x) (keyV h y) := by intro w; simp [ltV, w] at e1
    have f2 : LeD (keyV h y) (keyV h z) := by intro w; simp [ltV, w] at e2
    have := f1.tr f2
    simpa [ltV, LeD] using this
end
theorem rdV_keep {h h' : Heap} {a : Addr} (la : ∀ o, h.get? a = some o → o.cls ≠ .type "tuple") (k : ∀ b o, b ≠ a → h.get? b = some o → h'.get? b = some o) : ∀ (n : Nat) (d : D) (v : Value), depB d ≤ n → ordD d = true → RdV h d v → RdV h' d v
  | n, .int i, v, _, _, r => by simp only [RdV] at r ⊢; exact r
  | n, .str i, v, _, _, r => by simp only [RdV] at r ⊢; exact r
  | n, .tup xs, v, hn, o, r => by
    simp only [RdV] at r ⊢
    obtain ⟨l, its, rfl, ⟨ob, e, c, m, hd⟩, hr⟩ := r
    have hl : l ≠ a := fun z => by subst z; exact la _ e c
    refine ⟨l, its, rfl, ⟨ob, k l _ hl e, c, m, hd⟩, ?_⟩
    simp only [depB] at hn
    simp only [ordD] at o
    match n, hn with
    | n + 1, hn =>
      have key : ∀ (ds : List D) (us : List Value), depBs ds ≤ n → ordDs ds = true → RdVs h ds us → RdVs h' ds us := by
        intro ds
        induction ds with
        | nil => intro us _ _ r; exact RdVs.nil.mpr (RdVs.nil.mp r)
        | cons d ds ih =>
          intro us hz o r
          obtain ⟨u, t, rfl, r1, r2⟩ := RdVs.cons.mp r
          simp only [ordDs, Bool.and_eq_true] at o
          simp only [depBs] at hz
          exact RdVs.cons.mpr ⟨u, t, rfl, rdV_keep la k n d u (by omega) o.1 r1, ih t (by omega) o.2 r2⟩
      exact key xs _ (by omega) o hr
  | n, .non, v, _, o, _ => by simp [ordD] at o
  | n, .bl _, v, _, o, _ => by simp [ordD] at o
  | n, .lst _, v, _, o, _ => by simp [ordD] at o
  | n, .tok _, v, _, o, _ => by simp [ordD] at o
  | n, .scr _, v, _, o, _ => by simp [ordD] at o
theorem rdVs_keep {h h' : Heap} {a : Addr} (la : ∀ o, h.get? a = some o → o.cls ≠ .type "tuple") (k : ∀ b o, b ≠ a → h.get? b = some o → h'.get? b = some o) : ∀ (ds : List D) (us : List Value), ds.all ordD = true → RdVs h ds us → RdVs h' ds us
  | [], us, _, r => RdVs.nil.mpr (RdVs.nil.mp r)
  | d :: ds, us, o, r => by
    obtain ⟨u, t, rfl, r1, r2⟩ := RdVs.cons.mp r
    rw [List.all_cons, Bool.and_eq_true] at o
    exact RdVs.cons.mpr ⟨u, t, rfl, rdV_keep la k _ d u (Nat.le_refl _) o.1 r1, rdVs_keep la k ds t o.2 r2⟩
theorem rdVs_mem {h : Heap} : ∀ {ds : List D} {us : List Value} {u : Value}, RdVs h ds us → u ∈ us → ∃ d ∈ ds, RdV h d u
  | [], us, u, r, m => by rw [RdVs.nil.mp r] at m; cases m
  | d :: ds, us, u, r, m => by
    obtain ⟨v, t, rfl, r1, r2⟩ := RdVs.cons.mp r
    rcases List.mem_cons.mp m with rfl | m
    · exact ⟨d, List.mem_cons_self, r1⟩
    · obtain ⟨e, he, re⟩ := rdVs_mem r2 m
      exact ⟨e, List.mem_cons_of_mem _ he, re⟩
theorem keyV_map {h : Heap} : ∀ {ds : List D} {us : List Value}, RdVs h ds us → us.map (keyV h) = ds
  | [], us, r => by rw [RdVs.nil.mp r]; rfl
  | d :: ds, us, r => by
    obtain ⟨u, t, rfl, r1, r2⟩ := RdVs.cons.mp r
    rw [List.map_cons, keyV_eq r1, keyV_map r2]
section
variable {prog : Program} {w : World} {A : Around} {E : Value → Shared → Prop} {s : Shared}
theorem ints_of {h : Heap} : ∀ {ds : List D} {us : List Value}, ds.all isInt = true → RdVs h ds us → ∃ ns, IntsAre us ns
  | [], us, _, r => by rw [RdVs.nil.mp r]; exact ⟨[], .nil⟩
  | d :: ds, us, e, r => by
    obtain ⟨u, t, rfl, r1, r2⟩ := RdVs.cons.mp r
    rw [List.all_cons, Bool.and_eq_true] at e
    obtain ⟨ns, h2⟩ := ints_of e.2 r2
    cases d <;> try (exact absurd e.1 Bool.false_ne_true)
    simp only [RdV] at r1
    obtain ⟨tk, rfl⟩ := r1
    exact ⟨_, .cons _ tk h2⟩
theorem strs_of {h : Heap} : ∀ {ds : List D} {us : List Value}, ds.all isStr = true → RdVs h ds us → ∃ ns, StrsAre us ns
  | [], us, _, r => by rw [RdVs.nil.mp r]; exact ⟨[], .nil⟩
  | d :: ds, us, e, r => by
    obtain ⟨u, t, rfl, r1, r2⟩ := RdVs.cons.mp r
    rw [List.all_cons, Bool.and_eq_true] at e
    obtain ⟨ns, h2⟩ := strs_of e.2 r2
    cases d <;> try (exact absurd e.1 Bool.false_ne_true)
    simp only [RdV] at r1
    obtain ⟨tk, rfl⟩ := r1
    exact ⟨_, .cons _ tk h2⟩
/-- the heads of tuples -/
theorem heads_of {h : Heap} {p : D → Bool} : ∀ {ds : List D} {us : List Value}, ds.all (headK p) = true → RdVs h ds us → ∃ fs, PySem.W.KatTups h us fs ∧ fs.length = us.length ∧ ∀ f ∈ fs, ∃ d, p d = true ∧ RdV h d f
  | [], us, _, r => by rw [RdVs.nil.mp r]; exact ⟨[], .nil, rfl, fun f m => nomatch m⟩
  | d :: ds, us, e, r => by
    obtain ⟨u, t, rfl, r1, r2⟩ := RdVs.cons.mp r
    rw [List.all_cons, Bool.and_eq_true] at e
    obtain ⟨fs, h2, hl, h3⟩ := heads_of e.2 r2
    cases d <;> try (exact absurd e.1 Bool.false_ne_true)
    rename_i xs
    cases xs with
    | nil => exact absurd e.1 Bool.false_ne_true
    | cons x xs =>
      simp only [RdV] at r1
      obtain ⟨l, its, rfl, ⟨o, eo, c, n, hd⟩, hr⟩ := r1
      obtain ⟨f, q, e3, r3, _⟩ := RdVs.cons.mp hr
      have hf : its[0]? = some f := by rw [← Array.getElem?_toList, e3]; rfl
      refine ⟨f :: fs, .cons eo c hd hf h2, by rw [List.length_cons, List.length_cons, hl], fun g m => ?_⟩
      rcases List.mem_cons.mp m with rfl | m
      · exact ⟨x, e.1, r3⟩
      · exact h3 g m
/-- what a first comparison of two heads may be -/
def flagOk (b : Bool) (i : Nat) (x y : D) : Prop := (b && i == 0) = true → (isInt x = true ∧ isInt y = true) ∨ (isStr x = true ∧ isStr y = true)
theorem lex_ok {b fin r : Bool} {Q : Bool → Shared → Prop} (hq : Q r s) : ∀ (xs ys : List D) (vs us : List Value) (i : Nat), RdVs s.heap xs vs → RdVs s.heap ys us → A.units + min (depBs xs) (depBs ys) < cLine → ltBs xs ys = some r → fin = decide (xs.length < ys.length) →
    (∀ x y, xs.head? = some x → ys.head? = some y → flagOk b i x y) → PySem.W.KatLex prog w A b fin Q (vs.zip us) i s
  | [], ys, vs, us, i, r1, r2, hu, hl, hf, _ => by
    rw [RdVs.nil.mp r1, List.zip_nil_left]
    have : fin = r := by
      cases ys <;> simp only [ltBs] at hl <;> cases hl <;> simpa using hf
    exact PySem.W.kat_nil (by rw [this]; exact hq)
  | x :: xs, [], vs, us, i, r1, r2, hu, hl, hf, _ => by
    rw [RdVs.nil.mp r2, List.zip_nil_right]
    simp only [ltBs] at hl
    cases hl
    exact PySem.W.kat_nil (by rw [show fin = false by simpa using hf]; exact hq)
  | x :: xs, y :: ys, vs, us, i, r1, r2, hu, hl, hf, fl => by
    obtain ⟨v, vr, rfl, a1, a2⟩ := RdVs.cons.mp r1
    obtain ⟨u, ur, rfl, b1, b2⟩ := RdVs.cons.mp r2
    simp only [depBs] at hu
    simp only [ltBs] at hl
    refine PySem.W.kat_cons (eqAtD x y A s v u a1 b1 (by omega) prog w _ _ (PySem.W.kat_go (fun e => PySem.W.kat_yes ?_) fun e => PySem.W.kat_no ?_))
    · rw [e, if_pos rfl] at hl
      exact lex_ok hq xs ys vr ur (i + 1) a2 b2 (by omega) hl (by simpa using hf) fun _ _ _ _ z => by simp at z
    · rw [e, if_neg Bool.false_ne_true] at hl
      cases hb : (b && i == 0) with
      | false => exact PySem.W.kat_one v u (rcLtD x y r A s v u a1 b1 (by omega) hl prog w _ _ hq)
      | true =>
        rcases fl x y rfl rfl hb with ⟨i1, i2⟩ | ⟨i1, i2⟩
        · cases x <;> first | cases i1 | skip
          cases y <;> first | cases i2 | skip
          simp only [RdV] at a1 b1
          obtain ⟨t, rfl⟩ := a1
          obtain ⟨t', rfl⟩ := b1
          simp only [ltB] at hl
          cases hl
          exact oneLt_int hq
        · cases x <;> first | cases i1 | skip
          cases y <;> first | cases i2 | skip
          simp only [RdV] at a1 b1
          obtain ⟨t, rfl⟩ := a1
          obtain ⟨t', rfl⟩ := b1
          simp only [ltB] at hl
          cases hl
          exact oneLt_str hq
theorem lt_tups {b r : Bool} {Q : Bool → Shared → Prop} {d e : D} {v u : Value} (rv : RdV s.heap d v) (ru : RdV s.heap e u) (hd : isTup d = true) (he : isTup e = true) (hu : A.units + min (depB d) (depB e) < cLine) (hl : ltB d e = some r) (fl : ∀ xs ys x y, d = .tup xs → e = .tup ys → xs.head? = some x → ys.head? = some y → flagOk b 0 x y) (hq : Q r s) :
    wpAny (model prog w) A (keyLt' (tuples' b) v u) Q E s := by
  cases d <;> first | cases hd | skip
  cases e <;> first | cases he | skip
  rename_i xs ys
  simp only [RdV] at rv ru
  obtain ⟨l, its, rfl, ⟨o, eo, c, n, ed⟩, h1⟩ := rv
  obtain ⟨l', its', rfl, ⟨o', eo', c', n', ed'⟩, h2⟩ := ru
  simp only [depB] at hu
  refine PySem.W.kat_lt eo ed eo' ed' (lex_ok hq xs ys _ _ 0 h1 h2 (by omega) hl ?_ fun x y a b => fl xs ys x y rfl rfl a b)
  have z1 : xs.length = its.size := by have := h1.length; simpa using this
  have z2 : ys.length = its'.size := by have := h2.length; simpa using this
  rw [z1, z2]
end
section
variable {prog : Program} {w : World} {A : Around} {s : Shared}
theorem sortable {a : Addr} {vs : List Value} {ds : List D} (r : RdVs s.heap ds vs) (ok : sortOk ds = true) (h2 : 2 ≤ vs.length) (ha : ∀ o, s.heap.get? a = some o → o.cls ≠ .type "tuple") (hu : A.units + 30 < cLine) : SrtO.SortableO prog w A s a vs (ltV s.heap) := by
  unfold sortOk at ok
  simp only [Bool.and_eq_true] at ok
  obtain ⟨⟨⟨o1, o2⟩, o3⟩, o4⟩ := ok
  intro h' keep
  have r' := rdVs_keep ha (fun b o hb e => keep b o hb e) ds vs o1 r
  -- two of them
  have two : ∀ (p q : Keyed), p.1 ∈ vs → q.1 ∈ vs → ∃ d e b, d ∈ ds ∧ e ∈ ds ∧ RdV h' d p.1 ∧ RdV h' e q.1 ∧ ltB d e = some b ∧ b = ltV s.heap p.1 q.1 ∧ A.units + min (depB d) (depB e) < cLine := by
    intro p q hp hq
    obtain ⟨d, hd, rd⟩ := rdVs_mem r hp
    obtain ⟨e, he, re⟩ := rdVs_mem r hq
    have od := (List.all_eq_true.mp o1) d hd
    have oe := (List.all_eq_true.mp o1) e he
    obtain ⟨b, hb⟩ := Option.isSome_iff_exists.mp ((List.all_eq_true.mp ((List.all_eq_true.mp o2) d hd)) e he)
    refine ⟨d, e, b, hd, he, rdV_keep ha (fun b o hb e => keep b o hb e) _ d _ (Nat.le_refl _) od rd, rdV_keep ha (fun b o hb e => keep b o hb e) _ e _ (Nat.le_refl _) oe re, hb, ?_, ?_⟩
    · rw [ltB_cmp d e b od oe hb]
      unfold ltV
      rw [keyV_eq rd, keyV_eq re]
    · have := of_decide_eq_true ((List.all_eq_true.mp o4) d hd)
      omega
  match vs, h2, r', two with
  | v₁ :: v₂ :: vr, _, r', two =>
  unfold kindOk at o3
  simp only [Bool.or_eq_true] at o3
  have tups : ∀ (p : D → Bool) (T : Value), ds.all (headK p) = true → (∀ f d, p d = true → RdV h' d f → PySem.W.Looks (model prog w) h' (typeOf f) T) → (T == T) = true → (∀ x y : D, p x = true → p y = true → flagOk (T != .type "tuple") 0 x y) →
      ∃ κ, (∀ (Q : SortKind → Shared → Prop) (E : Value → Shared → Prop), Q κ { s with heap := h' } → wpAny (model prog w) A (keyKind' (v₁ :: v₂ :: vr).toArray) Q E { s with heap := h' }) ∧
        SrtO.Cmp prog w A { s with heap := h' } κ (fun p => p.1 ∈ v₁ :: v₂ :: vr) (SrtO.lt2 (ltV s.heap)) := by
    intro p T hp hT hTT hfl
    obtain ⟨fs, k1, k2, k3⟩ := heads_of hp r'
    refine ⟨tuples' (T != .type "tuple"), fun Q E hq => PySem.W.kat_kind (s := { s with heap := h' }) k1 (by rw [k2]; simp) (fun f hf => ?_) hTT hq, fun x y hx hy => ?_⟩
    · obtain ⟨d, hd, rd⟩ := k3 f hf
      exact hT f d hd rd
    · obtain ⟨d, e, b, hd, he, rd, re, hb, eb, hu'⟩ := two x y hx hy
      have kd := (List.all_eq_true.mp hp) d hd
      have ke := (List.all_eq_true.mp hp) e he
      have td : isTup d = true := by cases d <;> first | rfl | cases kd
      have te : isTup e = true := by cases e <;> first | rfl | cases ke
      refine lt_tups (s := { s with heap := h' }) rd re td te hu' hb (fun xs ys u v e1 e2 e3 e4 => ?_) ⟨rfl, eb⟩
      subst e1; subst e2
      cases xs with
      | nil => cases e3
      | cons u' xs =>
        cases ys with
        | nil => cases e4
        | cons v' ys =>
          cases e3; cases e4
          exact hfl _ _ kd ke
  rcases o3 with (((o3 | o3) | o3) | o3) | o3
  · obtain ⟨ns, hI⟩ := ints_of o3 r'
    refine ⟨oneType', fun Q E hq => by rw [keyKind_ints hI]; exact wpAny_pure hq, fun x y hx hy => ?_⟩
    obtain ⟨d, e, b, hd, he, rd, re, hb, eb, hu'⟩ := two x y hx hy
    have kd := (List.all_eq_true.mp o3) d hd
    have ke := (List.all_eq_true.mp o3) e he
    cases d <;> first | cases kd | skip
    cases e <;> first | cases ke | skip
    simp only [RdV] at rd re
    obtain ⟨t, e1⟩ := rd
    obtain ⟨t', e2⟩ := re
    simp only [ltB] at hb
    cases hb
    show wpAny (model prog w) A (oneLt' true x.1 y.1) _ _ _
    rw [e1, e2] at eb ⊢
    refine oneLt_int ⟨rfl, ?_⟩
    show _ = ltV s.heap x.1 y.1
    rw [e1, e2]
    exact eb
  · obtain ⟨ns, hI⟩ := strs_of o3 r'
    refine ⟨oneType', fun Q E hq => by rw [keyKind_strs hI]; exact wpAny_pure hq, fun x y hx hy => ?_⟩
    obtain ⟨d, e, b, hd, he, rd, re, hb, eb, hu'⟩ := two x y hx hy
    have kd := (List.all_eq_true.mp o3) d hd
    have ke := (List.all_eq_true.mp o3) e he
    cases d <;> first | cases kd | skip
    cases e <;> first | cases ke | skip
    simp only [RdV] at rd re
    obtain ⟨t, e1⟩ := rd
    obtain ⟨t', e2⟩ := re
    simp only [ltB] at hb
    cases hb
    show wpAny (model prog w) A (oneLt' true x.1 y.1) _ _ _
    rw [e1, e2] at eb ⊢
    refine oneLt_str ⟨rfl, ?_⟩
    show _ = ltV s.heap x.1 y.1
    rw [e1, e2]
    exact eb
  · refine tups isInt (.type "int") o3 (fun f d hd rd => ?_) (by rfl) fun x y hx hy _ => .inl ⟨hx, hy⟩
    cases d <;> first | cases hd | skip
    simp only [RdV] at rd
    obtain ⟨t, rfl⟩ := rd
    exact PySem.W.Looks.now
  · refine tups isStr (.type "str") o3 (fun f d hd rd => ?_) (by rfl) fun x y hx hy _ => .inr ⟨hx, hy⟩
    cases d <;> first | cases hd | skip
    simp only [RdV] at rd
    obtain ⟨t, rfl⟩ := rd
    exact PySem.W.Looks.now
  · refine tups isTup (.type "tuple") o3 (fun f d hd rd => ?_) (by rfl) fun x y hx hy z => ?_
    · cases d <;> first | cases hd | skip
      simp only [RdV] at rd
      obtain ⟨l, its, rfl, ⟨o, eo, c, n, ed⟩, _⟩ := rd
      have := (PySem.W.Looks.ld (M := model prog w) (part := none) eo).andThen (f := fun o => pure o.cls) .now
      rw [c] at this
      exact this
    · exact absurd z (by rw [show ((Value.type "tuple" != Value.type "tuple") && (0 : Nat) == 0) = false from by decide +kernel]; exact Bool.false_ne_true)
end
end RB

namespace RB
open PySem PySem.Spec PyProof.Rows L2

/-- sorted(x), x a list or a tuple of data that sorts -/
def rSrt (K : PySem.W.Frag) : List V → Hp → VK → Prop := fun xs H Q => ∃ (θ : TT') (B : Hp) (a : Addr) (vs : List V) (ds : List D), xs = [V.ref a] ∧ (SqL K H a vs ∨ SqT K H a vs) ∧ Same B H ∧ Reps K θ B ds vs ∧ sortOk ds = true ∧
  ∀ ws p, Reps K θ B (srtD ds) ws → H p = none → Q (.ref p) (upd H p (.lst ws))
theorem pick_vals {K : PySem.W.Frag} {θ : TT'} {B : Hp} {k : Value → D} : ∀ {us : List Value}, (∀ u ∈ us, ∃ v, RelV v u ∧ Rep K θ B (k u) v) → ∃ ws, Vals ws us ∧ Reps K θ B (us.map k) ws
  | [], _ => ⟨[], .nil, Reps.nil.mpr rfl⟩
  | u :: us, h => by
    obtain ⟨v, h1, h2⟩ := h u List.mem_cons_self
    obtain ⟨ws, k1, k2⟩ := pick_vals fun x hx => h x (List.mem_cons_of_mem _ hx)
    exact ⟨v :: ws, .cons h1 k1, Reps.mk h2 k2⟩
theorem vals_mem : ∀ {vs : List V} {us : List Value} {u : Value} {K : PySem.W.Frag} {θ : TT'} {B : Hp} {ds : List D} {h : Heap}, Vals vs us → Reps K θ B ds vs → RdVs h ds us → u ∈ us → ∃ v, RelV v u ∧ Rep K θ B (keyV h u) v
  | _, _, u, K, θ, B, ds, h, .nil, _, _, m => nomatch m
  | _, _, u, K, θ, B, ds, h, .cons r rr, rp, rd, m => by
    cases ds with
    | nil => cases (Reps.nil.mp rp)
    | cons d ds =>
      obtain ⟨v, t, e1, p1, p2⟩ := Reps.cons.mp rp
      cases e1
      obtain ⟨w, z, e2, q1, q2⟩ := RdVs.cons.mp rd
      cases e2
      rcases List.mem_cons.mp m with rfl | m
      · exact ⟨_, r, by rw [keyV_eq q1]; exact p1⟩
      · exact vals_mem rr p2 q2 m
theorem plns_all : ∀ {ds : List D}, ds.all ordD = true → plns ds = true
  | [], _ => rfl
  | d :: ds, h => by
    rw [List.all_cons, Bool.and_eq_true] at h
    simp only [plns, Bool.and_eq_true]
    exact ⟨ordD_pln d h.1, plns_all h.2⟩
theorem cr_srt {X : Cx} (hu : X.A.units + 64 < cLine) : CallR X (.builtin "sorted") (rSrt X.K) := by
  intro pins s σ H xs us Q I r h
  obtain ⟨θ, B, a, vs, ds, rfl, hq, sm, rp, ok, q⟩ := h
  obtain ⟨u, rfl, ru⟩ := L2.vals1 r
  cases ru
  have o1 : ds.all ordD = true := by
    unfold sortOk at ok
    simp only [Bool.and_eq_true] at ok
    exact ok.1.1.1
  have fin : ∀ {T : String} (hT : T = "list" ∨ T = "tuple") {o : Obj} {n : Nat} {its : List Value}, Vals vs its → s.heap.get? a = some o → o.cls = .type T → o.data = .seq its.toArray n → vs.length ≤ sizeLine → wpAny (model X.prog X.w) X.A (call (.builtin "sorted") [.ref a]) (EP X pins σ Q) X.xe s := by
    intro T hT o n its rv ho hc hd hz
    have rd : RdVs s.heap ds its := Reps.rd I sm ds vs its rp (plns_all o1) rv
    have hl := rv.length
    refine sorted_any hT (swoV s.heap) ho hc hd (by rw [← hl]; exact hz) (fun h2 h₁ b hb k => ?_) fun out h1 h2 => ?_
    · have rd' : RdVs h₁ ds its := Reps.rd (I.kept (t' := s.toks) (h' := h₁) fun c o e => (k c o e).2) sm ds vs its rp (plns_all o1) rv
      have e : ltV s.heap = ltV s.heap := rfl
      have := sortable (prog := X.prog) (w := X.w) (A := X.A.in1.in1) (s := { s with heap := h₁ }) (a := b) rd' ok h2 (fun o e => by
        have e' : some o = some (seqObj "list" its.toArray 0) := e.symm.trans hb
        cases e'
        intro c
        exact absurd (show Value.type "list" = Value.type "tuple" from c) (by simp)) (by show X.A.units + 1 + 1 + 30 < _; omega)
      intro h' kk
      obtain ⟨κ, c1, c2⟩ := this h' kk
      refine ⟨κ, c1, fun x y hx hy => wpAny_mono (c2 x y hx hy) (fun rr ss ⟨e1, e2⟩ => ⟨e1, e2.trans ?_⟩) fun _ _ z => z⟩
      obtain ⟨d, _, d1⟩ := rdVs_mem rd hx
      obtain ⟨e, _, d2⟩ := rdVs_mem rd hy
      obtain ⟨d', _, d1'⟩ := rdVs_mem rd' hx
      obtain ⟨e', _, d2'⟩ := rdVs_mem rd' hy
      have od : ∀ {h : Heap} {v : Value}, v ∈ its → RdVs h ds its → ∃ d ∈ ds, RdV h d v := fun m r => rdVs_mem r m
      show ltV h₁ x.1 y.1 = ltV s.heap x.1 y.1
      unfold ltV
      have key : ∀ v ∈ its, keyV h₁ v = keyV s.heap v := by
        intro v hv
        have m1 := keyV_map rd
        have m2 := keyV_map rd'
        obtain ⟨j, hj⟩ := List.getElem?_of_mem hv
        have a1 := congrArg (fun l : List D => l[j]?) m1
        have a2 := congrArg (fun l : List D => l[j]?) m2
        simp only [List.getElem?_map, hj, Option.map_some] at a1 a2
        rw [← a2] at a1
        exact (Option.some.inj a1).symm
      rw [key _ hx, key _ hy]
    · -- the new list
      have hp : (out.map (keyV s.heap)).Perm ds := by
        have := h2.perm.map (keyV s.heap)
        rw [keyV_map rd] at this
        exact this
      have hs : (out.map (keyV s.heap)).Pairwise LeD := by
        rw [List.pairwise_map]
        exact h1.imp fun {x y} e => by intro w; simp [ltV, w] at e
      have he : out.map (keyV s.heap) = srtD ds := by
        refine srt_uniq (fun x hx => (List.all_eq_true.mp o1) x (hp.mem_iff.mp hx)) hs (srtD_srt ds) (hp.trans (srtD_perm ds).symm)
      obtain ⟨ws, k1, k2⟩ := pick_vals (K := X.K) (θ := θ) (B := B) (k := keyV s.heap) (us := out) fun u hu => vals_mem rv rp rd (h2.perm.mem_iff.mp hu)
      rw [he] at k2
      obtain ⟨ep, he'⟩ := PyProof.Rows.sortedAll_at s.heap its out.toArray
      have hlen : ws.length ≤ sizeLine := by rw [k1.length, h2.perm.length_eq, ← hl]; exact hz
      exact ⟨.ref _, upd H (s.heap.objs.size + 1) (.lst ws), I.laid (t' := s.toks) (fun _ _ => PyProof.Rows.sortedAll_old) (Nat.le_succ _) ⟨hlen, out, ep, k1, he'⟩, rfl, q ws _ k2 (I.hok.fresh (Nat.le_succ _))⟩
  rcases hq with hq | hq
  · obtain ⟨its, rv, pl, hz⟩ := I.list hq
    obtain ⟨o, ho, hc, n, hd⟩ := pl.isList
    exact fin (.inl rfl) rv ho hc hd hz
  · obtain ⟨its, rv, ⟨o, ho, hc, n, hd⟩, hz⟩ := I.tuple hq
    exact fin (.inr rfl) rv ho hc hd hz
def sortedD (v : Vl) (s : Stt TkG) : Option Vl := (seqK v s).bind fun p => if sortOk p.2 = true then some (.own (srtD p.2)) else none
theorem prim_sorted : Prim1 rSrt sortedD := by
  intro L B0 H0 θ0 B H θ σ s v w x Q hT so vo e q
  obtain ⟨⟨b, xs⟩, e1, e2⟩ := Option.bind_eq_some_iff.mp e
  dsimp only at e2
  split at e2
  · rename_i ok
    cases e2
    obtain ⟨a, vs, rfl, e3, e4⟩ := seqK_ok hT so vo e1
    refine ⟨θ, B, a, vs, xs, rfl, ?_, so.core.bh, e4, ok, fun ws p hw hp => ?_⟩
    · cases b with
      | true => exact .inl (SqL.of (show H a = some (.lst vs) from e3))
      | false => exact .inr e3
    · obtain ⟨h1, h2, h3, h4⟩ := new_lst so hp hw
      exact q _ _ _ h1 h2 h3 h4
  · cases e2
def eSorted (a : EI TkG) : EI TkG := mkB1 ("sorted" : Str) "sorted" (by rfl) (by decide) (by decide) rSrt (fun X _ h => cr_srt h) sortedD prim_sorted a
end RB

namespace RB
open PySem PySem.Spec PyProof.Rows L2
section
open HT
variable {prog : Program} {w : World} {A : Around} {E : Value → Shared → Prop} {s : Shared}
theorem adjust_rev (n : Nat) : Builtin.Slice.sliceAdjust none none (-1) (n : Int) = ((n : Int) - 1, -1) := by
  unfold Builtin.Slice.sliceAdjust
  simp
theorem places_rev (n : Nat) : Builtin.Slice.slicePlaces ((n : Int) - 1) (-1) (-1) = n := by
  unfold Builtin.Slice.slicePlaces
  split <;> simp_all <;> omega
theorem fm_congr {α β : Type} {f g : α → Option β} : ∀ {l : List α}, (∀ x ∈ l, f x = g x) → l.filterMap f = l.filterMap g
  | [], _ => rfl
  | x :: l, h => by
    rw [List.filterMap_cons, List.filterMap_cons, h x List.mem_cons_self, fm_congr fun y hy => h y (List.mem_cons_of_mem _ hy)]
theorem pick_rev (xs : Array Value) : ((List.range xs.size).filterMap fun (k : Nat) => xs[((xs.size : Int) - 1 + (k : Int) * (-1)).toNat]?).toArray = xs.toList.reverse.toArray := by
  have e : ∀ k ∈ List.range xs.size, xs[((xs.size : Int) - 1 + (k : Int) * (-1)).toNat]? = xs.toList.reverse[k]? := fun k hk => by
    have hk := List.mem_range.mp hk
    rw [List.getElem?_reverse (by simpa using hk), Array.getElem?_toList, Array.length_toList]
    congr 1
    omega
  rw [fm_congr e]
  have l : xs.size = xs.toList.reverse.length := by simp
  rw [l]
  have all : ∀ l : List Value, ((List.range l.length).filterMap fun k => l[k]?) = l := fun l => by
    induction l with
    | nil => rfl
    | cons a l ih =>
      rw [List.length_cons, List.range_succ_eq_map, List.filterMap_cons]
      simp only [List.getElem?_cons_zero, List.filterMap_map]
      congr 1
  rw [all]
theorem getItem_tuple_rev {t sl : Addr} {items : Array Value} {vl vu vs : Value} {Q : Value → Shared → Prop} (ht : IsTup s.heap t items) (hs : s.heap.IsSliceOf sl vl vu vs) (pl : IsPart vl none) (pu : IsPart vu none) (ps : IsPart vs (some (-1))) (hz : items.size ≤ sizeLine)
    (h : Q (.ref s.heap.objs.size) { s with heap := s.heap.push { cls := .type "tuple", data := .seq items.toList.reverse.toArray } }) : wpAny (model prog w) A (getItem (.ref t) (.ref sl)) Q E s := by
  obtain ⟨os, hos, hcs, hds⟩ := id hs
  have hT : s.TypeIs (.ref sl) "slice" := ⟨os, hos, hcs⟩
  unfold getItem
  try with_reducible refine wpAny_holding ?_
  first | refine wpAny_bind (wpAny_pure ?_) | skip
  refine wpAny_bind (wpAny_sequenceKey ht.typeIs (by decide) (wpAny_bind (wpAny_callSpecial?_slot (name := Str.ofString "__getitem__") ht.typeIs PyProof.Rows.slot_tuple_getitem
    (wpAny_call_entry PyProof.Rows.slot_tuple_getitem ht.typeIs entry_tuple_getitem ?_ (args_tuple_getitem _ _)))))
  show wpAny _ _ (Builtin.Tuple.tupleItemsOf (.ref t) >>= _) _ _ s
  refine wpAny_bind (tupleItemsOf_ ht (wpAny_bind (wpAny_typeOf hT ?_)))
  rw [if_pos (by decide)]
  have sa : ∀ {A : Around} {R : Int × Int × Nat → Shared → Prop} {E' : Value → Shared → Prop}, R ((items.size : Int) - 1, -1, items.size) s → wpAny (model prog w) A (Builtin.Slice.sliceApplied (.ref sl) (pure (items.size : Int))) R E' s := by
    intro A R E' hR
    unfold Builtin.Slice.sliceApplied Builtin.Slice.sliceFields
    refine wpAny_bind (wpAny_bind (wpAny_field hos hds (x := vl) rfl (wpAny_bind (wpAny_field hos hds (x := vu) rfl (wpAny_bind (wpAny_field hos hds (x := vs) rfl (wpAny_pure ?_)))))))
    refine wpAny_bind (slicePart_ ps ?_)
    show wpAny _ _ (if ((-1 : Int) == 0) = true then _ else _) _ _ s
    rw [if_neg (by decide)]
    refine wpAny_bind (slicePart_ pl (wpAny_bind (slicePart_ pu (wpAny_bind (wpAny_pure ?_)))))
    show wpAny _ _ (match Builtin.Slice.sliceAdjust none none (-1) (items.size : Int) with | (lo, hi) => pure (lo, (-1 : Int), Builtin.Slice.slicePlaces lo hi (-1))) _ _ s
    rw [adjust_rev]
    show wpAny _ _ (pure ((items.size : Int) - 1, (-1 : Int), Builtin.Slice.slicePlaces ((items.size : Int) - 1) (-1) (-1))) _ _ s
    rw [places_rev]
    exact wpAny_pure hR
  refine wpAny_bind (sa ?_)
  have hno : ¬ ((((items.size : Int) - 1 == 0) && ((-1 : Int) == 1) && (items.size == items.size)) = true) := by
    simp
  show wpAny _ _ (if (((items.size : Int) - 1 == 0) && ((-1 : Int) == 1) && (items.size == items.size)) = true then _ else _) _ _ s
  rw [if_neg hno, pick_rev]
  have hz' : sizeOk (.seq items.toList.reverse.toArray) := by
    show items.toList.reverse.toArray.size ≤ sizeLine
    simpa using hz
  first
    | exact wpAny_bind (m := Builtin.Tuple.tupleExact _) (wpAny_newObj_type (wpAny_pure ⟨_, rfl, wpAny_pure h⟩) hz')
    | exact wpAny_bind (m := Builtin.Tuple.tupleExact _) (wpAny_newObj_type (wpAny_bind (wpAny_pure (wpAny_pure ⟨_, rfl, wpAny_pure h⟩))) hz')
end
/-- x[::-1] -/
def rRevT (K : PySem.W.Frag) (x : V) (H : Hp) (Q : VK) : Prop := ∃ a xs, x = .ref a ∧ ((SqL K H a xs ∧ ∀ p, H p = none → Q (.ref p) (upd H p (.lst xs.reverse))) ∨ (SqT K H a xs ∧ ∀ p, H p = none → Q (.ref p) (upd H p (.tup xs.reverse))))
theorem pe_rev {X : Cx} {e : Expr} {te : TE} {k : Nat} {p1 p2 p3 pos : Pos} (he : PE X e te) : PE X (.Subscript e (.Slice none none (some (.UnaryOp .USub (.Constant (.int 1) k p1) p2)) p3) pos) (fun σ H Q => te σ H fun x H1 => rRevT X.K x H1 Q) := by
  refine ⟨fun pins s σ H Q I h => Subscript_ (thn (he.run pins s σ H _ I h) fun v s1 ⟨x, H1, I1, r1, q1⟩ => ?_)⟩
  obtain ⟨a, xs, rfl, q⟩ := q1
  cases r1
  have hst : PO X (some (.UnaryOp .USub (.Constant (.int 1) k p1) p2)) (tPart (tUn (rU fun i => .int (-i)) (tC (.int 1)))) := po_some (pe_un un_neg pe_int)
  refine wpAny_Slice (thn (po_none.run pins s1 σ H1 (fun o G => o = none ∧ G = H1) I1 ⟨rfl, rfl⟩) fun vl s2 ⟨l, H2, I2, pl, el, e2⟩ => ?_)
  subst el; subst e2
  refine thn (po_none.run pins s2 σ H2 (fun o G => o = none ∧ G = H2) I2 ⟨rfl, rfl⟩) fun vu s3 ⟨u, H3, I3, pu, eu, e3⟩ => ?_
  subst eu; subst e3
  refine thn (hst.run pins s3 σ H3 (fun o G => o = some (-1) ∧ G = H3) I3 ⟨1, rfl, -1, rfl, rfl, rfl⟩) fun vs s4 ⟨o, H4, I4, ps, eo, e4⟩ => ?_
  subst eo; subst e4
  have I5 : Inv X pins σ H4 { s4 with heap := s4.heap.push { cls := .type "slice", data := .fields #[vl, vu, vs] } } := I4.kept (t' := s4.toks) fun b ob q => Heap.get?_push_of_some _ q
  show wpAny (model X.prog X.w) X.A (subscriptTail e (.Slice none none (some (.UnaryOp .USub (.Constant (.int 1) k p1) p2)) p3) (.ref a) (.ref s4.heap.objs.size)) (EP X pins σ Q) X.xe { s4 with heap := s4.heap.push { cls := .type "slice", data := .fields #[vl, vu, vs] } }
  rcases q with ⟨hx, q⟩ | ⟨hx, q⟩
  · obtain ⟨its, r, ht, hz⟩ := I5.list hx
    have hl := r.length
    refine tail_any (ops := [.ref a, .ref s4.heap.objs.size]) ht.isList.typeIs (PySem.slot_list_getitem.lookup) (wpAny_getItem_list_slice ht.isList (Heap.IsSliceOf.new _ vl vu vs) pl pu ps (by decide) ?_ (by rw [List.size_toArray]; omega)) (by with_unfolding_all rfl)
    rw [PySem.W.krv_pick]
    exact ⟨.ref _, _, I5.laid (t' := s4.toks) (o := .lst xs.reverse) (fun b ob q => Heap.get?_push_of_some _ q) (Nat.le_refl _) ⟨by rw [List.length_reverse]; exact hz, _, 0, r.reverse, Heap.get?_push_size _ rfl⟩, rfl, q _ (I5.hok.fresh (Nat.le_refl _))⟩
  · obtain ⟨its, r, ht, hz⟩ := I5.tuple hx
    have hl := r.length
    refine tail_any (ops := [.ref a, .ref s4.heap.objs.size]) ht.typeIs (PyProof.Rows.slot_tuple_getitem.lookup) (getItem_tuple_rev ht (Heap.IsSliceOf.new _ vl vu vs) pl pu ps (by rw [List.size_toArray]; omega) ?_) (by with_unfolding_all rfl)
    exact ⟨.ref _, _, I5.laid (t' := s4.toks) (o := .tup xs.reverse) (fun b ob q => Heap.get?_push_of_some _ q) (Nat.le_refl _) ⟨by rw [List.length_reverse]; exact hz, _, r.reverse, IsTup.new _ _⟩, rfl, q _ (I5.hok.fresh (Nat.le_refl _))⟩
def revD (v : Vl) (s : Stt TkG) : Option Vl := (seqK v s).map fun p => if p.1 then .own p.2.reverse else .dat (.tup p.2.reverse)
def eRev (a : EI TkG) : EI TkG where
  chk := fun ce e => match e with
    | .Subscript x (.Slice none none (some (.UnaryOp .USub (.Constant (.int 1) _ _) _)) _) _ => a.chk ce x
    | _ => false
  den := dCall1 revD a.den
  need := fun L lv => TkLaw L ∧ a.need L lv
  ok := fun L lv X ce e hX hn h => by
    split at h
    · refine (pe_rev (a.ok L lv X ce _ hX hn.2 h)).imp ?_
      rw [hX.K]
      rintro σ H Q ⟨B0, H0, θ0, B, θ, s, so, q⟩
      refine tD_run so q fun v s1 x H1 B1 θ1 q1 so1 st1 vo1 fv1 => ?_
      obtain ⟨w, e, q2⟩ := opt_sat q1
      obtain ⟨⟨b, xs⟩, e1, rfl⟩ := Option.map_eq_some_iff.mp e
      obtain ⟨a, vs, rfl, e3, e4⟩ := seqK_ok hn.1 so1 vo1 e1
      refine ⟨a, vs, rfl, ?_⟩
      cases b with
      | true =>
        refine .inl ⟨SqL.of (show H1 a = some (.lst vs) from e3), fun p hp => ?_⟩
        obtain ⟨h1, h2, h3, h4⟩ := new_lst so1 hp e4.reverse
        exact q2 _ _ _ θ1 h1 (st1.trans h2) h3 (h4.lift st1.ex)
      | false =>
        refine .inr ⟨e3, fun p hp => ?_⟩
        obtain ⟨h1, h2, h3⟩ := new_tup so1 hp e4.reverse
        exact q2 _ _ _ θ1 h1 (st1.trans h2) (vo_dat h3) trivial
    · cases h
end RB

namespace RB
open PySem PySem.Spec PyProof.Rows L2

structure RgI where
  chk : CE → Expr → Bool
  den : Stt TkG → Out (Stt TkG) (Int × Int)
  need : Law TkG → Nat → Prop
  ok : ∀ (L : Law TkG) (lv : Nat) (X : Cx) (ce : CE) (e : Expr), Ok L X ce lv → need L lv → chk ce e = true → notStar e = true ∧ PRg X e (fun σ H Q => ∃ B0 H0 θ0 B θ s, SO L B0 H0 θ0 B H θ σ s.fr s.g ∧ (den s).sat (fun p s' =>
    ∀ H' B' θ', SO L B0 H0 θ0 B' H' θ' σ s'.fr s'.g → Stp σ s.fr s'.fr θ θ' B B' H H' → Q p.1 p.2 H') noE)
def intOf (d : D) (s : Stt TkG) : Out (Stt TkG) Int := match d with
  | .int i => .ok i s
  | _ => .bad
def rg1 (a : EI TkG) : RgI where
  chk := fun ce e => match e with
    | .Call (.Name y _) [x] [] _ => decide (y = ("range" : Str)) && glB ce ("range" : Str) && notStar x && a.chk ce x
    | _ => false
  den := fun s => (eD a.den s).bind fun d s => (intOf d s).bind fun n s => .ok (0, n) s
  need := fun L lv => L.mg ("range" : Str) = none ∧ a.need L lv
  ok := fun L lv X ce e hX hn h => by
    split at h
    · rename_i y p x pos
      simp only [Bool.and_eq_true, decide_eq_true_eq] at h
      obtain ⟨⟨⟨rfl, h2⟩, h3⟩, h4⟩ := h
      obtain ⟨g1, _⟩ := glB_ok hX h2
      refine ⟨rfl, fun pins s σ H Q I q => prg_1 g1 (by rw [hX.mg]; exact hn.1) (a.ok L lv X ce x hX hn.2 h4) (star_cons h3) pins s σ H Q I ?_⟩
      obtain ⟨B0, H0, θ0, B, θ, s, so, q⟩ := q
      refine tD_runD so q fun d s1 z H1 B1 θ1 q1 so1 st1 r1 => ?_
      cases d <;> first | exact q1.elim | skip
      exact ⟨_, rep_int.mp r1, q1 H1 B1 θ1 so1 st1⟩
    · cases h
def rg2 (a b : EI TkG) : RgI where
  chk := fun ce e => match e with
    | .Call (.Name y _) [x, z] [] _ => decide (y = ("range" : Str)) && glB ce ("range" : Str) && notStar x && notStar z && a.chk ce x && b.chk ce z
    | _ => false
  den := fun s => (eD a.den s).bind fun d s => (eD b.den s).bind fun e s => (intOf d s).bind fun m s => (intOf e s).bind fun n s => .ok (m, n) s
  need := fun L lv => L.mg ("range" : Str) = none ∧ a.need L lv ∧ b.need L lv
  ok := fun L lv X ce e hX hn h => by
    split at h
    · rename_i y p x z pos
      simp only [Bool.and_eq_true, decide_eq_true_eq] at h
      obtain ⟨⟨⟨⟨⟨rfl, h2⟩, h3⟩, h5⟩, h4⟩, h6⟩ := h
      obtain ⟨g1, _⟩ := glB_ok hX h2
      refine ⟨rfl, fun pins s σ H Q I q => prg_2 g1 (by rw [hX.mg]; exact hn.1) (a.ok L lv X ce x hX hn.2.1 h4) (b.ok L lv X ce z hX hn.2.2 h6) (star_cons h3) (star_cons h5) (plain_args (by simp [h5])) pins s σ H Q I ?_⟩
      obtain ⟨B0, H0, θ0, B, θ, s, so, q⟩ := q
      refine tD_runD so q fun d s1 z H1 B1 θ1 q1 so1 st1 r1 => ?_
      refine tD_runD so1 q1 fun e s2 w H2 B2 θ2 q2 so2 st2 r2 => ?_
      cases d <;> first | exact q2.elim | skip
      cases e <;> first | exact q2.elim | skip
      exact ⟨_, _, rep_int.mp r1, rep_int.mp r2, q2 H2 B2 θ2 so2 (st1.trans st2)⟩
    · cases h
def rgOk (a b : Int) : Prop := In62 a ∧ In62 b ∧ (b - a).toNat ≤ 2 ^ 24
theorem rgV_eq (a b : Int) : rgV a b = (List.range (b - a).toNat).map fun (i : Nat) => V.int (a + i) := rfl
theorem reps_rg {K : PySem.W.Frag} {θ : TT'} {B : Hp} (a b : Int) : Reps K θ B (rngL a (b - a).toNat) (rgV a b) := by
  rw [rgV_eq]
  unfold rngL
  generalize List.range (b - a).toNat = l
  induction l with
  | nil => exact Reps.nil.mpr rfl
  | cons x l ih => exact Reps.mk (rep_int.mpr rfl) ih
theorem run_rg {L : Law TkG} {r : RgI} {σ : Sg} {H B0 H0 B : Hp} {θ0 θ : TT'} {s : Stt TkG} {α : Type} {k : Int × Int → Stt TkG → Out (Stt TkG) α} {P : α → Stt TkG → Prop} {Q : Int → Int → Hp → Prop} (so : SO L B0 H0 θ0 B H θ σ s.fr s.g) (h : ((r.den s).bind k).sat P noE)
    (hc : ∀ p s' H' B' θ', (k p s').sat P noE → SO L B0 H0 θ0 B' H' θ' σ s'.fr s'.g → Stp σ s.fr s'.fr θ θ' B B' H H' → Q p.1 p.2 H') :
    ∃ B0 H0 θ0 B θ s, SO L B0 H0 θ0 B H θ σ s.fr s.g ∧ (r.den s).sat (fun p s' => ∀ H' B' θ', SO L B0 H0 θ0 B' H' θ' σ s'.fr s'.g → Stp σ s.fr s'.fr θ θ' B B' H H' → Q p.1 p.2 H') noE :=
  ⟨B0, H0, θ0, B, θ, s, so, Out.sat_mono (Out.sat_bind.mp h) (fun p s' hk H' B' θ' a b => hc p s' H' B' θ' hk a b) fun _ _ z => z⟩
noncomputable def eLstRg (r : RgI) : EI TkG where
  chk := fun ce e => match e with
    | .Call (.Name y _) [x] [] _ => decide (y = ("list" : Str)) && glB ce ("list" : Str) && r.chk ce x
    | _ => false
  den := fun s => (r.den s).bind fun p s => clI (rgOk p.1 p.2) (.ok (.own (rngL p.1 (p.2 - p.1).toNat)) s) .bad
  need := fun L lv => L.mg ("list" : Str) = none ∧ r.need L lv
  ok := fun L lv X ce e hX hn h => by
    split at h
    · rename_i y p x pos
      simp only [Bool.and_eq_true, decide_eq_true_eq] at h
      obtain ⟨⟨rfl, h2⟩, h3⟩ := h
      obtain ⟨g1, _⟩ := glB_ok hX h2
      obtain ⟨k1, k2⟩ := r.ok L lv X ce x hX hn.2 h3
      refine (pe_listRg hX.calm g1 (by rw [hX.mg]; exact hn.1) k2 (star_cons k1)).imp ?_
      rintro σ H Q ⟨B0, H0, θ0, B, θ, s, so, q⟩
      refine run_rg (Q := fun a b H1 => RgOk a b ∧ ∀ q, H1 q = none → Q (.ref q) (upd H1 q (.lst (rgV a b)))) so q fun p s1 H1 B1 θ1 q1 so1 st1 => ?_
      by_cases hb : rgOk p.1 p.2
      · rw [clI_pos hb] at q1
        obtain ⟨⟨b1, b2⟩, ⟨b3, b4⟩, b5⟩ := hb
        refine ⟨⟨b1, b2, b3, b4, b5⟩, fun q hq => ?_⟩
        obtain ⟨h1, h2, h3, h4⟩ := new_lst so1 hq (reps_rg (K := L.K) (θ := θ1) (B := B1) p.1 p.2)
        exact q1 _ _ _ θ1 h1 (st1.trans h2) h3 (h4.lift st1.ex)
      · rw [clI_neg hb] at q1
        exact q1.elim
    · cases h
noncomputable def eTupRg (r : RgI) : EI TkG where
  chk := fun ce e => match e with
    | .Call (.Name y _) [x] [] _ => decide (y = ("tuple" : Str)) && glB ce ("tuple" : Str) && r.chk ce x
    | _ => false
  den := fun s => (r.den s).bind fun p s => clI (rgOk p.1 p.2) (.ok (.dat (.tup (rngL p.1 (p.2 - p.1).toNat))) s) .bad
  need := fun L lv => L.mg ("tuple" : Str) = none ∧ r.need L lv
  ok := fun L lv X ce e hX hn h => by
    split at h
    · rename_i y p x pos
      simp only [Bool.and_eq_true, decide_eq_true_eq] at h
      obtain ⟨⟨rfl, h2⟩, h3⟩ := h
      obtain ⟨g1, _⟩ := glB_ok hX h2
      obtain ⟨k1, k2⟩ := r.ok L lv X ce x hX hn.2 h3
      refine (pe_tupRg hX.calm g1 (by rw [hX.mg]; exact hn.1) k2 (star_cons k1)).imp ?_
      rintro σ H Q ⟨B0, H0, θ0, B, θ, s, so, q⟩
      refine run_rg (Q := fun a b H1 => RgOk a b ∧ ∀ q, H1 q = none → Q (.ref q) (upd H1 q (.tup (rgV a b)))) so q fun p s1 H1 B1 θ1 q1 so1 st1 => ?_
      by_cases hb : rgOk p.1 p.2
      · rw [clI_pos hb] at q1
        obtain ⟨⟨b1, b2⟩, ⟨b3, b4⟩, b5⟩ := hb
        refine ⟨⟨b1, b2, b3, b4, b5⟩, fun q hq => ?_⟩
        obtain ⟨h1, h2, h3⟩ := new_tup so1 hq (reps_rg (K := L.K) (θ := θ1) (B := B1) p.1 p.2)
        exact q1 _ _ _ θ1 h1 (st1.trans h2) (vo_dat h3) trivial
      · rw [clI_neg hb] at q1
        exact q1.elim
    · cases h

def sAug (i : Nat) (a : EI TkG) : SI TkG where
  chk := fun ce st => match st with
    | .AugAssign (.Name x _) .Add e _ => locB ce i x && a.chk ce e
    | _ => false
  den := fun s => match s.fr[i]? with
    | some (some (.dat (.int m))) => Fl.of (eD a.den s) fun d s => Fl.of (intOf d s) fun n s => .nx (putS i (.dat (.int (m + n))) s)
    | _ => .bad
  need := a.need
  ok := fun L lv X ce st hX hn h => by
    split at h
    · rename_i x p e pos
      simp only [Bool.and_eq_true] at h
      obtain ⟨k1, k2, k3⟩ := locB_ok hX.ok h.1
      refine (ps_aug hX.ok.nd k1 k2 (a.ok L lv X ce e hX.ok hn h.2) ip_add k3).imp ?_
      rintro D σ H ⟨B0, H0, θ0, B, θ, s, so, q⟩
      dsimp only at q
      split at q
      · rename_i m hm
        obtain ⟨v, e1, e2⟩ := so.sl i _ hm
        have e2 : Rep L.K θ B (.int m) v := e2
        rw [rep_int] at e2
        subst e2
        refine ⟨_, e1, ?_⟩
        have q' : FlSat L B0 H0 θ0 B θ D (Fl.of (a.den s) fun v s => Fl.of (frz v s) fun d s => Fl.of (intOf d s) fun n s => .nx (putS i (.dat (.int (m + n))) s)) := by
          dsimp only [eD] at q
          cases e : a.den s <;> rw [e] at q <;> exact q
        refine tD_runS so q' fun v s1 x H1 B1 θ1 q1 so1 st1 vo1 fv1 => ?_
        obtain ⟨d, s2, B2, q2, so2, st2, rep⟩ := frz_okS st1 fv1 so1 vo1 q1
        cases d <;> first | exact q2.elim | skip
        rename_i n
        have hq : SlotOk L.K H0 B2 H1 θ1 (.dat (.int (m + n))) (.int (m + n)) := (rep_int (K := L.K) (θ := θ1) (B := B2)).mpr rfl
        exact ⟨m, n, rfl, rep_int.mp rep, q2 _ H1 B2 θ1 (so2.assign hq fun _ _ e => nomatch e) (fun _ _ h => h) (List.prefix_refl _)⟩
      · exact q.elim
    · cases h
theorem valOk_keep {L : Law TkG} {B0 H0 B H B' H' : Hp} {θ0 θ θ' : TT'} {σ : Sg} {s s' : Stt TkG} {q : Sl} {x : V} (so : SO L B0 H0 θ0 B H θ σ s.fr s.g) (st : Stp σ s.fr s'.fr θ θ' B B' H H') (ho : SlotOk L.K H0 B H θ q x) (hn : ∀ xs a, q = .own xs → x = .ref a → ¬ OwnA σ s.fr a) : SlotOk L.K H0 B' H' θ' q x ∧ ∀ xs a, q = .own xs → x = .ref a → ¬ OwnA σ s'.fr a := by
  cases q with
  | dat d => exact ⟨Rep.mono st.same st.pre d x ho, fun _ _ e => nomatch e⟩
  | own xs =>
    obtain ⟨a, rfl, o⟩ := ho
    obtain ⟨vs, e1, e2⟩ := o.ex
    have n1 := hn xs a rfl rfl
    have hne : H a ≠ none := by rw [e1]; exact fun z => nomatch z
    refine ⟨⟨a, rfl, o.mono st.same st.pre (st.bn a o.b hne n1) (fun z => ?_) ((st.keep a _ e1 o.t n1).trans e1.symm)⟩, fun _ b _ e => by cases e; exact fun z => n1 (st.sub a z)⟩
    rcases st.thn a z o.t with w | w
    · exact hne w
    · exact n1 w
theorem swp2 {x y : Str} {px py pt : Pos} {kt k2 : Nat} {a b : Expr} {pt2 : Pos} {env : Env} (hb : env.blockKind = .function) (hx : env.kindOf x = some .local) (hy : env.kindOf y = some .local) (hl : (py.line == px.line) = true) (hne : (y == x) = false) (ha : notStar a = true) (hs : notStar b = true)
    (hf : (foldedForSure 8 a && foldedForSure 8 b) = false) (hc : (constantsAlone 8 a && constantsAlone 8 b) = false) : swappedStores [.Tuple [.Name x px, .Name y py] kt pt] (.Tuple [a, b] k2 pt2) env = pure (some [x, y]) := by
  unfold swappedStores
  have h1 : (some NameKind.local == some NameKind.local) = true := rfl
  have h2 : ((px.line : Nat) == px.line) = true := by simp
  have h3 : (Expr.Name x px).pos = px := rfl
  simp only [hb, hx, hy, h1, h2, h3, hl, List.head?_cons, Option.map_some, Option.getD_some, List.filterMap_cons, List.filterMap_nil, Bool.and_self, if_true]
  have e1 : ([x, y] : List Str).eraseDups.length = 2 := by
    simp [List.eraseDups, List.eraseDupsBy, List.eraseDupsBy.loop, hne]
  simp [e1, hf, hc]
  rintro (z | z)
  · split at z
    · cases ha
    · cases z
  · split at z
    · cases hs
    · cases z
/-- the statement x, y = a, b as HandS has it -/
def sPar2 (i j : Nat) (a b : EI TkG) : SI TkG where
  chk := fun ce st => match st with
    | .Assign [.Tuple [.Name x px, .Name y py] _ _] (.Tuple [e, f] _ _) _ => decide (ce.N[i]? = some x) && decide (ce.N[j]? = some y) && decide (i ≠ j) && decide (ce.sc.names.lookup x = some .local) && decide (ce.sc.names.lookup y = some .local) && isFun ce.sc &&
      py.line == px.line && !(y == x) && notStar e && notStar f && !(foldedForSure 8 e && foldedForSure 8 f) && !(constantsAlone 8 e && constantsAlone 8 f) && a.chk ce e && b.chk ce f
    | _ => false
  den := fun s => Fl.of (a.den s) fun v s => Fl.of (slotOf v s) fun p s => Fl.of (b.den s) fun v s => Fl.of (slotOf v s) fun q s => .nx (putS j q (putS i p s))
  need := fun L lv => a.need L lv ∧ b.need L lv
  ok := fun L lv X ce st hX hn h => by
    split at h
    · rename_i x px y py kt pt e f k2 pt2 pos
      simp only [Bool.and_eq_true, decide_eq_true_eq, Bool.not_eq_true'] at h
      obtain ⟨⟨⟨⟨⟨⟨⟨⟨⟨⟨⟨⟨⟨c1, c2⟩, c3⟩, c4⟩, c5⟩, c6⟩, c7⟩, c8⟩, c9⟩, c10⟩, c11⟩, c12⟩, c13⟩, c14⟩ := h
      have hk : X.env.blockKind = .function := by
        unfold Env.blockKind
        rw [hX.ok.sc]
        unfold isFun at c6
        split at c6
        · rename_i z; rw [z]; rfl
        · cases c6
      have kx : X.env.kindOf x = some .local := by unfold Env.kindOf; rw [hX.ok.sc]; exact c4
      have ky : X.env.kindOf y = some .local := by unfold Env.kindOf; rw [hX.ok.sc]; exact c5
      have pa := pa_cons (a.ok L lv X ce e hX.ok hn.1 c13) (pa_cons (b.ok L lv X ce f hX.ok hn.2 c14) pa_nil (star_cons c10)) (star_cons c9)
      refine (ps_par hX.ok.calm hX.ok.nd (by rw [hX.ok.N]; exact c1) (by rw [hX.ok.N]; exact c2) c3 kx ky pa (swp2 hk kx ky c7 c8 c9 c10 c11 c12)).imp ?_
      rintro D σ H ⟨B0, H0, θ0, B, θ, s, so, q⟩
      refine tD_runS so q fun v s1 z H1 B1 θ1 q1 so1 st1 vo1 fv1 => ?_
      obtain ⟨p, s2, B2, q2, so2, ho2, hn2⟩ := slot_okS st1 fv1 so1 vo1 q1
      refine tD_runS so2 q2 fun w s3 u H3 B3 θ3 q3 so3 st3 vo3 fv3 => ?_
      obtain ⟨k1, k2⟩ := valOk_keep so2 st3 ho2 hn2
      -- the second one
      obtain ⟨r, s4, B4, q4, so4, ho4, hn4, hp4, hpn4, hdis⟩ : ∃ r s4 B4, FlSat L B0 H0 θ0 B4 θ3 D (.nx (putS j r (putS i p s4))) ∧ SO L B0 H0 θ0 B4 H3 θ3 σ s4.fr s4.g ∧ SlotOk L.K H0 B4 H3 θ3 r u ∧ (∀ xs a, r = .own xs → u = .ref a → ¬ OwnA σ s4.fr a) ∧ SlotOk L.K H0 B4 H3 θ3 p z ∧ (∀ xs a, p = .own xs → z = .ref a → ¬ OwnA σ s4.fr a) ∧
          (∀ xs ys a, p = .own xs → r = .own ys → z = .ref a → u ≠ .ref a) := by
        cases w with
        | dat d => exact ⟨.dat d, s3, B3, q3, so3, vo3, (fun _ _ e => nomatch e), k1, k2, fun _ _ _ _ e => nomatch e⟩
        | own xs =>
          obtain ⟨a, rfl, o, hn'⟩ := vo3
          refine ⟨.own xs, s3, B3, q3, so3, ⟨a, rfl, o⟩, (fun _ b _ e => by cases e; exact hn'), k1, k2, fun zs ys b e1 e2 e3 e4 => ?_⟩
          have : H1 a = none := fv3 a rfl
          subst e1
          obtain ⟨c, e5, o5⟩ := ho2
          rw [e3] at e5
          cases e5
          cases e4
          obtain ⟨ws, e6, _⟩ := o5.ex
          rw [this] at e6
          cases e6
        | pk m =>
          have h' : FlSat L B0 H0 θ0 B3 θ3 D (Fl.of (frz (.pk m) s3) fun d s => .nx (putS j (.dat d) (putS i p s))) := by
            have e0 : slotOf (.pk m) s3 = (frz (.pk m) s3).bind fun d s => (.ok (.dat d) s : Out (Stt TkG) Sl) := rfl
            rw [e0] at q3
            cases e : frz (.pk m) s3 <;> rw [e] at q3 <;> exact q3
          obtain ⟨hv, xs, hf⟩ := vo3
          simp only [frz, hf] at h'
          obtain ⟨B4, g1, g2, g3⟩ := so3.frzSlot hf hv
          obtain ⟨m1, m2⟩ := valOk_keep (s' := { s3 with fr := s3.fr.set m (some (.dat (.lst xs))) }) so3 g2 k1 k2
          exact ⟨.dat (.lst xs), _, B4, FlSat.mono h' g2.same (List.prefix_refl _), g1, g3, (fun _ _ e => nomatch e), m1, m2, fun _ _ _ _ e => nomatch e⟩
      refine ⟨z, u, rfl, ?_⟩
      have so5 := so4.assign (i := i) hp4 hpn4
      have so6 := so5.assign (i := j) ho4 fun ys b e1 e2 e3 => by
        obtain ⟨m, zs, e4, e5⟩ := e3
        rcases getElem?_set_cases e4 with ⟨rfl, e6⟩ | ⟨nm, e6⟩
        · have hlt : m < σ.length := by
            have := (List.getElem?_eq_some_iff.mp e5).1
            simpa using this
          rw [List.getElem?_set_self hlt] at e5
          cases e5
          exact hdis zs ys b (by cases e6; rfl) e1 rfl e2
        · rw [List.getElem?_set_ne (Ne.symm nm)] at e5
          exact hn4 ys b e1 e2 ⟨m, zs, e6, e5⟩
      exact q4 _ H3 B4 θ3 so6 (fun _ _ h => h) (List.prefix_refl _)
    · cases h
end RB

namespace RB
open PySem PySem.Spec PyProof.Rows L2
variable {G : Type}

def frame0 (n : Nat) (ds : List D) : Fr := ds.map (fun d => some (.dat d)) ++ List.replicate (n - ds.length) none
/-- what a def's body makes of its arguments -/
def runB (n : Nat) (den : SDen G) (ds : List D) (g : G) : Out G Vl := match den ⟨frame0 n ds, g⟩ with
  | .nx s => .ok (.dat .non) s.g
  | .rt v s => .ok v s.g
  | .exc x s => .exc x s.g
  | _ => .bad
theorem start_get {N : List Str} {vs : List V} {i : Nat} {v : V} (h : vs[i]? = some v) : (L2.start N vs)[i]? = some (some v) := by
  unfold L2.start
  rw [List.getElem?_append_left (by rw [List.length_map]; exact (List.getElem?_eq_some_iff.mp h).1), List.getElem?_map, h]
  rfl
theorem frame0_get {n : Nat} {ds : List D} {i : Nat} {s : Sl} (h : (frame0 n ds)[i]? = some (some s)) : ∃ d, s = .dat d ∧ ds[i]? = some d := by
  unfold frame0 at h
  by_cases hi : i < ds.length
  · rw [List.getElem?_append_left (by rw [List.length_map]; exact hi), List.getElem?_map, List.getElem?_eq_getElem hi] at h
    cases h
    exact ⟨_, rfl, List.getElem?_eq_getElem hi⟩
  · rw [List.getElem?_append_right (by rw [List.length_map]; omega), List.getElem?_replicate] at h
    split at h <;> cases h
theorem fn_rb {L : Law G} {x qual : Str} {st : Stmt} {f : Addr} {fd : FuncData} {N ps : List Str} {k : Nat} {body : SB G} (F : Fun L.K x qual st f fd) (S : FnScope N ps (defScope st)) (hc : body.chk ⟨N, defScope st, fun _ => true⟩ (defBody st) = true) (hn : body.need L k) :
    FnOk L.P L.w L.K L.mg L.base CX0 (k + 1) f fd ps (spD L ps.length (runB N.length body.den)) := by
  refine F.ok S (fun vs H Q E h => ?_) (fun cdv A outer s H vs Q E hr h => ?_)
  · obtain ⟨B, θ, ds, g, h1, _⟩ := h
    exact h1
  · obtain ⟨B, θ, ds, g, h1, h2, h3, h4, h5, h6, h7⟩ := h
    refine ⟨_, body.ok L k _ ⟨N, defScope st, fun _ => true⟩ (defBody st) ⟨⟨rfl, rfl, rfl, rfl, rfl, rfl, S.nd, rfl, rfl, fun _ _ => rfl, hr⟩, rfl⟩ hn hc, ?_⟩
    have hpl : ps.length ≤ N.length := by
      have := congrArg List.length S.pre
      rw [List.length_take] at this
      omega
    have hdl := h6.length
    have c0 : Core L B H θ B H θ g := ⟨fun _ _ z => z, h2, fun _ _ z _ => z, fun _ z _ => z, List.prefix_refl _, fun _ z n => absurd z n, h3, h4, h5⟩
    have so : SO L B H θ B H θ (L2.start N vs) (frame0 N.length ds) g := by
      refine ⟨c0, ?_, fun i q hq => ?_, fun i j xs ys v e1 e2 _ _ => ?_⟩
      · unfold frame0 L2.start
        simp only [List.length_append, List.length_map, List.length_replicate]
        omega
      · obtain ⟨d, rfl, hd⟩ := frame0_get hq
        obtain ⟨v, e1, e2⟩ := h6.get hd
        exact ⟨v, start_get e1, e2⟩
      · obtain ⟨d, e, _⟩ := frame0_get e1
        cases e
    refine ⟨B, H, θ, B, θ, ⟨frame0 N.length ds, g⟩, so, ?_⟩
    unfold runB at h7
    cases e : body.den ⟨frame0 N.length ds, g⟩ with
    | nx s' =>
      rw [e] at h7
      exact fun σ' H' B' θ' so' _ _ => h7 .non H' B' θ' so'.core (show Rep L.K θ' B' .non .non from rep_non.mpr rfl)
    | rt v s' =>
      rw [e] at h7
      exact fun z H' B' θ' c r => h7 z H' B' θ' c r
    | bk s' => rw [e] at h7; exact h7.elim
    | ct s' => rw [e] at h7; exact h7.elim
    | exc z s' => rw [e] at h7; exact h7.elim
    | bad => rw [e] at h7; exact h7.elim

/-- arguments put in the parameters' sequence -/
def pmL {α : Type} (pm : List Nat) (xs ys : List α) : List α := pm.filterMap fun i => (xs ++ ys)[i]?
theorem pm_vals {pm : List Nat} {vs : List V} {us : List Value} {zs : List V} {ws : List Value} (r : Vals vs us) (q : Vals zs ws) : Vals (pmL pm vs zs) (pmL pm us ws) := by
  have h := r.append q
  unfold pmL
  induction pm with
  | nil => exact .nil
  | cons i pm ih =>
    rw [List.filterMap_cons, List.filterMap_cons]
    cases e : (vs ++ zs)[i]? with
    | none =>
      have e2 : (us ++ ws)[i]? = none := by
        rw [List.getElem?_eq_none_iff] at e ⊢
        rw [← h.length]; exact e
      rw [e2]; exact ih
    | some v =>
      obtain ⟨u, e2, r2⟩ := h.get e
      rw [e2]; exact .cons r2 ih
theorem pm_reps {K : PySem.W.Frag} {θ : TT'} {B : Hp} {pm : List Nat} {ds es : List D} {vs zs : List V} (r : Reps K θ B ds vs) (q : Reps K θ B es zs) : Reps K θ B (pmL pm ds es) (pmL pm vs zs) := by
  have h := r.append q
  unfold pmL
  induction pm with
  | nil => exact Reps.nil.mpr rfl
  | cons i pm ih =>
    rw [List.filterMap_cons, List.filterMap_cons]
    cases e : (ds ++ es)[i]? with
    | none =>
      have e2 : (vs ++ zs)[i]? = none := by
        rw [List.getElem?_eq_none_iff] at e ⊢
        rw [← h.length]; exact e
      rw [e2]; exact ih
    | some v =>
      obtain ⟨u, e2, r2⟩ := h.get e
      rw [e2]; exact Reps.mk r2 ih
/-- the def stands at its name, called with n positional values and these keywords -/
def FnAtK (L : Law G) (lv : Nat) (c : FR G) (n : Nat) (ks : List Str) (pm : List Nat) : Prop := ∃ f fd ps, FnOk L.P L.w L.K L.mg L.base CX0 c.lv f fd ps (spD L c.n c.F) ∧ L.mg c.name = some (.ref f) ∧ PySem.W.keepIn L.K (.ref f) = true ∧ KBn L.K fd ps n ks (pmL pm) (pmL pm) ∧ c.lv ≤ lv
/-- the keywords' values -/
structure KWI (G : Type) where
  ks : List Str
  chk : CE → List Keyword → Bool
  den : ADen G
  len : ∀ s ds s', den s = .ok ds s' → ds.length = ks.length
  need : Law G → Nat → Prop
  ok : ∀ (L : Law G) (lv : Nat) (X : Cx) (ce : CE) (kws : List Keyword), Ok L X ce lv → need L lv → chk ce kws = true → PK X kws (tDA L den) ∧ kws.map (fun k => k.arg) = ks.map some
def kwNil : KWI G where
  ks := []
  len := fun s ds s' h => by cases h; rfl
  chk := fun _ es => match es with
    | [] => true
    | _ => false
  den := fun s => .ok [] s
  need := fun _ _ => True
  ok := fun L lv X ce es hX hn h => by
    split at h
    · refine ⟨⟨fun pos pins s σ H Q I q => pk_nil.run pos pins s σ H Q I ?_⟩, rfl⟩
      obtain ⟨B0, H0, θ0, B, θ, s, so, q⟩ := q
      exact q [] H B θ so .refl (Reps.nil.mpr rfl)
    · cases h
def kwCons (k : Str) (a : EI G) (r : KWI G) : KWI G where
  ks := k :: r.ks
  len := fun s ds s' h => by
    obtain ⟨d, s1, _, h⟩ := Out.bind_ok h
    obtain ⟨es, s2, h2, h⟩ := Out.bind_ok h
    cases h
    rw [List.length_cons, List.length_cons, r.len _ _ _ h2]
  chk := fun ce es => match es with
    | ⟨some n, e, _⟩ :: xs => decide (n = k) && a.chk ce e && r.chk ce xs
    | _ => false
  den := dCons a.den r.den
  need := fun L lv => a.need L lv ∧ r.need L lv
  ok := fun L lv X ce es hX hn h => by
    split at h
    · rename_i n e p xs
      simp only [Bool.and_eq_true, decide_eq_true_eq] at h
      obtain ⟨⟨rfl, h2⟩, h3⟩ := h
      obtain ⟨k1, k2⟩ := r.ok L lv X ce xs hX hn.2 h3
      refine ⟨⟨fun pos pins s σ H Q I q => (pk_cons (a.ok L lv X ce e hX hn.1 h2) k1).run pos pins s σ H Q I ?_⟩, by rw [List.map_cons, List.map_cons, k2]⟩
      obtain ⟨B0, H0, θ0, B, θ, s, so, q⟩ := q
      refine tD_runD so q fun d s1 x H1 B1 θ1 q1 so1 st1 r1 => ?_
      refine tDA_run so1 q1 fun ds s2 vs H2 B2 θ2 q2 so2 st2 r2 => ?_
      exact q2 (x :: vs) H2 B2 θ2 so2 (st1.trans st2) (Reps.mk (Rep.mono st2.same st2.pre _ _ r1) r2)
    · cases h
theorem kw_all {kws : List Keyword} {ks : List Str} {pos : Pos} {env : Env} (h : kws.map (fun k => k.arg) = ks.map some) : (backToKw pos (keywordEach kws env)).all (·.1.isSome) = true ∧ (backToKw pos (keywordEach kws env)).filterMap (·.1) = ks ∧ (backToKw pos (keywordEach kws env)).any (·.1.isNone) = false := by
  induction kws generalizing ks with
  | nil =>
    cases ks with
    | nil => exact ⟨rfl, rfl, rfl⟩
    | cons k ks => cases h
  | cons kw kws ih =>
    cases ks with
    | nil => cases h
    | cons k ks =>
      rw [List.map_cons, List.map_cons] at h
      obtain ⟨h1, h2⟩ := List.cons.inj h
      obtain ⟨a, b, c⟩ := ih h2
      obtain ⟨n, e, p⟩ := kw
      have h1 : n = some k := h1
      subst h1
      unfold backToKw at a b c ⊢
      unfold keywordEach
      refine ⟨?_, ?_, ?_⟩
      · rw [List.map_cons, List.all_cons, a]; rfl
      · rw [List.map_cons, List.filterMap_cons, b]
      · rw [List.map_cons, List.any_cons, c]; rfl
def dCallK (F : List D → G → Out G Vl) (pm : List Nat) (args kws : ADen G) : EDen G := fun s => (args s).bind fun ds s => (kws s).bind fun es s => match F (pmL pm ds es) s.g with
  | .ok v g => .ok v { s with g := g }
  | .exc x g => .exc x { s with g := g }
  | .bad => .bad
theorem key_callK {L : Law G} {c : FR G} {pm : List Nat} {args : ADen G} {kws : KWI G} {n : Nat} (hn : ∀ s ds s', args s = .ok ds s' → ds.length = n) (hl : ∀ (xs ys : List D), xs.length = n → ys.length = kws.ks.length → (pmL pm xs ys).length = c.n) :
    ∀ σ H Q, tD L (dCallK c.F pm args kws.den) σ H Q → tDA L args σ H (fun vs H1 => tDA L kws.den σ H1 (fun zs H2 => vs.length = n ∧ zs.length = kws.ks.length ∧ spD L c.n c.F (pmL pm vs zs) H2 Q E0)) := by
  rintro σ H Q ⟨B0, H0, θ0, B, θ, s, so, q⟩
  refine ⟨B0, H0, θ0, B, θ, s, so, ?_⟩
  cases e0 : args s with
  | bad => rw [dCallK, e0] at q; exact q
  | exc x g => rw [dCallK, e0] at q; exact q
  | ok ds s1 =>
  rw [dCallK, e0] at q
  intro vs H1 B1 θ1 so1 st1 r1
  refine ⟨B0, H0, θ0, B1, θ1, s1, so1, ?_⟩
  dsimp only [Out.bind] at q
  cases e1 : kws.den s1 with
  | bad => rw [e1] at q; exact q
  | exc x g => rw [e1] at q; exact q
  | ok es s2 =>
  rw [e1] at q
  intro zs H2 B2 θ2 so2 st2 r2
  have l1 := hn _ _ _ e0
  have l2 := kws.len _ _ _ e1
  refine ⟨by rw [← r1.length, l1], by rw [← r2.length, l2], ?_⟩
  have rr := pm_reps (pm := pm) (Reps.mono st2.same st2.pre _ _ r1) r2
  have q1 : (match c.F (pmL pm ds es) s2.g with
    | .ok v g => (.ok v { s2 with g := g } : Out (Stt G) Vl)
    | .exc x g => .exc x { s2 with g := g }
    | .bad => .bad).sat (PostV L B0 H0 θ0 σ s B H θ Q) noE := q
  refine ⟨B2, θ2, pmL pm ds es, s2.g, by rw [← rr.length]; exact hl ds es l1 l2, so2.core.bh, so2.core.tb, so2.core.ta, so2.core.rg, rr, ?_⟩
  cases e : c.F (pmL pm ds es) s2.g with
  | bad => rw [e] at q1; exact q1
  | exc x g => rw [e] at q1; exact q1
  | ok v g =>
    rw [e] at q1
    intro z H3 B3 θ3 d r
    obtain ⟨so3, st3⟩ := so2.call d
    exact q1 z H3 B3 θ3 so3 ((st1.trans st2).trans st3) (retOk_val so2 r) ((retOk_fresh r).lift (st1.trans st2).ex)
theorem pm_len {α β : Type} {pm : List Nat} {xs ys : List α} {us ws : List β} (h1 : xs.length = us.length) (h2 : ys.length = ws.length) : (pmL pm xs ys).length = (pmL pm us ws).length := by
  unfold pmL
  induction pm with
  | nil => rfl
  | cons i pm ih =>
    rw [List.filterMap_cons, List.filterMap_cons]
    have hl : (xs ++ ys).length = (us ++ ws).length := by simp [h1, h2]
    cases e : (xs ++ ys)[i]? with
    | none =>
      have e2 : (us ++ ws)[i]? = none := by rw [List.getElem?_eq_none_iff] at e ⊢; omega
      rw [e2]; exact ih
    | some v =>
      have hi := (List.getElem?_eq_some_iff.mp e).1
      rw [List.getElem?_eq_getElem (by omega : i < (us ++ ws).length)]
      simp only [List.length_cons, ih]
/-- f(.., k = v, ..) with no positional value -/
theorem pe_callN0 {X : Cx} {CX : CXT} {k : Nat} {f : Addr} {fd : FuncData} {ps ks : List Str} {sp : Sp} {E : XK} {x : Str} {p pos : Pos} {kws : List Keyword} {tk : TA} {g : List Value → List Value → List Value} {gV : List V → List V → List V}
    (F : FnOk X.prog X.w X.K X.mg X.base CX k f fd ps sp) (hr : Room k X.A) (hg : Gl X x) (hm : X.mg x = some (.ref f)) (hk : PySem.W.keepIn X.K (.ref f) = true) (hb : KBn X.K fd ps 0 ks g gV) (hx : Passes CX X E) (hkw : PK X kws tk)
    (hall : (backToKw pos (keywordEach kws X.env)).all (·.1.isSome) = true) (hks : (backToKw pos (keywordEach kws X.env)).filterMap (·.1) = ks) (hdb : (x == ("__debug__" : Str)) = false) (hpl : (backToKw pos (keywordEach kws X.env)).any (·.1.isNone) = false) :
    PE X (.Call (.Name x p) [] kws pos) (fun σ H Q => tk σ H fun zs H2 => zs.length = ks.length ∧ sp (gV [] zs) H2 Q E) := by
  refine ⟨fun pins s σ H Q I h => wpAny_Call_Name_kw (ld_glob I hg hm ?_ hdb)⟩
  refine PySem.W.callWith_KW0 (h₀ := X.base) I.ok.mod.kin hk hall (thn (hkw.run pos pins s σ H _ I h) fun ws s2 ⟨zs, H2, I2, rz, l2, q2⟩ => ⟨I2.kIn, ?_⟩) (by show (false || _) = false; rw [hpl]; rfl)
  rw [hks]
  exact run_fnN F hr hb hx I2 .nil rz rfl l2 q2
def eCallK (c : FR G) (n : Nat) (pm : List Nat) (args : AI G) (kws : KWI G) : EI G where
  chk := fun ce e => match e with
    | .Call (.Name x _) (e :: es) kw _ => decide (x = c.name) && glB ce c.name && args.chk ce (e :: es) && (e :: es).all notStar && kws.chk ce kw && decide (args.n = n) && decide ((pmL pm (List.replicate n 0) (List.replicate kws.ks.length 0)).length = c.n)
    | _ => false
  den := dCallK c.F pm args.den kws.den
  need := fun L lv => FnAtK L lv c n kws.ks pm ∧ args.need L lv ∧ kws.need L lv
  ok := fun L lv X ce e hX hn h => by
    split at h
    · rename_i x p e es kw pos
      simp only [Bool.and_eq_true, decide_eq_true_eq, List.all_cons] at h
      obtain ⟨⟨⟨⟨⟨⟨rfl, h2⟩, h3⟩, h4, h4'⟩, h5⟩, h6⟩, h7⟩ := h
      obtain ⟨g1, g2⟩ := glB_ok hX h2
      obtain ⟨⟨f, fd, ps, F, m, kp, bd, hl⟩, hn2, hn3⟩ := hn
      have F' : FnOk X.prog X.w X.K X.mg X.base CX0 c.lv f fd ps (spD L c.n c.F) := by rw [hX.P, hX.w, hX.K, hX.mg, hX.base]; exact F
      obtain ⟨k1, k2⟩ := kws.ok L lv X ce kw hX hn3 h5
      obtain ⟨a1, a2, a3⟩ := kw_all (pos := pos) (env := X.env) k2
      have hln : ∀ (xs ys : List D), xs.length = n → ys.length = kws.ks.length → (pmL pm xs ys).length = c.n := fun xs ys e1 e2 => by
        rw [← h7]
        exact pm_len (by rw [List.length_replicate, e1]) (by rw [List.length_replicate, e2])
      have han : ∀ s ds s', args.den s = .ok ds s' → ds.length = n := fun s ds s' e => by rw [args.len s ds s' e, h6]
      refine (pe_callN F' (hX.room.mono hl) g1 (by rw [hX.mg]; exact m) (by rw [hX.K]; exact kp) (by rw [hX.K]; exact bd) pass0 (args.ok L lv X ce (e :: es) hX hn2 h3) k1 a1 a2 g2 (star_cons h4) ?_).imp (key_callK han hln)
      rw [a3, Bool.or_false]
      exact plain_args (by rw [List.all_cons, h4, h4']; rfl)
    · cases h
def eCallK0 (c : FR G) (pm : List Nat) (kws : KWI G) : EI G where
  chk := fun ce e => match e with
    | .Call (.Name x _) [] kw _ => decide (x = c.name) && glB ce c.name && kws.chk ce kw && decide ((pmL pm [] (List.replicate kws.ks.length 0)).length = c.n)
    | _ => false
  den := dCallK c.F pm (fun s => .ok [] s) kws.den
  need := fun L lv => FnAtK L lv c 0 kws.ks pm ∧ kws.need L lv
  ok := fun L lv X ce e hX hn h => by
    split at h
    · rename_i x p kw pos
      simp only [Bool.and_eq_true, decide_eq_true_eq] at h
      obtain ⟨⟨⟨rfl, h2⟩, h5⟩, h7⟩ := h
      obtain ⟨g1, g2⟩ := glB_ok hX h2
      obtain ⟨⟨f, fd, ps, F, m, kp, bd, hl⟩, hn3⟩ := hn
      have F' : FnOk X.prog X.w X.K X.mg X.base CX0 c.lv f fd ps (spD L c.n c.F) := by rw [hX.P, hX.w, hX.K, hX.mg, hX.base]; exact F
      obtain ⟨k1, k2⟩ := kws.ok L lv X ce kw hX hn3 h5
      obtain ⟨a1, a2, a3⟩ := kw_all (pos := pos) (env := X.env) k2
      have hln : ∀ (xs ys : List D), xs.length = 0 → ys.length = kws.ks.length → (pmL pm xs ys).length = c.n := fun xs ys e1 e2 => by
        rw [← h7]
        exact pm_len (by rw [e1]; rfl) (by rw [List.length_replicate, e2])
      have han : ∀ (s : Stt G) ds s', (Out.ok [] s : Out (Stt G) (List D)) = .ok ds s' → ds.length = 0 := fun s ds s' e => by cases e; rfl
      refine (pe_callN0 F' (hX.room.mono hl) g1 (by rw [hX.mg]; exact m) (by rw [hX.K]; exact kp) (by rw [hX.K]; exact bd) pass0 k1 a1 a2 g2 a3).imp fun σ H Q q => ?_
      obtain ⟨B0, H0, θ0, B, θ, s, so, q1⟩ := key_callK (L := L) (c := c) (pm := pm) (args := fun s => .ok [] s) (kws := kws) (n := 0) han hln σ H Q q
      obtain ⟨C0, I0, η0, C, η, t, so2, q2⟩ := q1 [] H B θ so .refl (Reps.nil.mpr rfl)
      exact ⟨C0, I0, η0, C, η, t, so2, Out.sat_mono q2 (fun ds s' k vs H' B' θ' a b c => (k vs H' B' θ' a b c).2) fun _ _ z => z⟩
    · cases h
end RB

namespace RB
open PySem PySem.Spec PyProof.Rows L2

theorem tok_imp {L : Law TkG} {f : EDen TkG} (hT : TkLaw L) : ∀ σ H Q, tD L (fun s => (f s).bind fun v s => (toTok v s).bind fun d s => .ok (.dat d) s) σ H Q → tD L f σ H Q := by
  rintro σ H Q ⟨B0, H0, θ0, B, θ, s, so, q⟩
  refine tD_run so q fun v s1 x H1 B1 θ1 q1 so1 st1 vo1 fv1 => ?_
  obtain ⟨d, s2, θ2, q2, so2, st2, r, _⟩ := toTok_ok hT so1 vo1 st1 fv1 (Out.sat_bind.mp q1)
  exact q2 x H1 B1 θ2 so2 st2 (vo_dat r) trivial
def kTok (k : KI TkG) : KI TkG where
  chk := k.chk
  den := fun s => (k.den s).bind fun v s => (toTok v s).bind fun d s => .ok (.dat d) s
  need := fun L lv => TkLaw L ∧ k.need L lv
  ok := fun L lv X ce e hX hn h => (k.ok L lv X ce e hX hn.2 h).imp (tok_imp hn.1)
  okS := fun L lv X ce e i y py spos hX hn h a b c => (k.okS L lv X ce e i y py spos hX hn.2 h a b c).imp fun D σ H q => tok_imp hn.1 σ H _ q

def forT (n k0 : Nat) (g : GDen TkG) (body : SDen TkG) : Nat → SDen TkG
  | 0, s => match s.g[n]? with
    | some (.lst ys) => if ys.length = k0 then .nx s else .bad
    | _ => .bad
  | m + 1, s => match s.g[n]? with
    | some (.lst ys) => if ys.length = k0 then match ys[k0 - (m + 1)]? with
        | some d => match g d s with
          | .ok _ s1 => match body s1 with
            | .nx s2 => forT n k0 g body m s2
            | .ct s2 => forT n k0 g body m s2
            | .bk s2 => .nx s2
            | .rt v s2 => .rt v s2
            | .exc x s2 => .exc x s2
            | .bad => .bad
          | .exc x s1 => .exc x s1
          | .bad => .bad
        | none => .bad
      else .bad
    | _ => .bad
def dForT (a : EDen TkG) (g : GDen TkG) (body : SDen TkG) : SDen TkG := fun s => Fl.of (eD a s) fun d s => match d with
  | .tok n => match s.g[n]? with
    | some (.lst xs) => forT n xs.length g body xs.length s
    | _ => .bad
  | _ => .bad
theorem forT_imp {L : Law TkG} {a : EDen TkG} {g : GDen TkG} {ix : List Nat} {body : SDen TkG} (hT : TkLaw L) : ∀ D σ H, tDS L (dForT a g body) D σ H → tFor (iAny L.K (tD L a)) (tDG L ix g) (tDS L body) D σ H := by
  rintro D σ H ⟨B0, H0, θ0, B, θ, s, so, q⟩
  have q' : FlSat L B0 H0 θ0 B θ D (Fl.of (a s) fun v s => Fl.of (frz v s) fun d s => match d with
    | .tok n => match s.g[n]? with
      | some (.lst xs) => forT n xs.length g body xs.length s
      | _ => .bad
    | _ => .bad) := by
    unfold dForT eD at q
    cases e : a s <;> rw [e] at q <;> exact q
  refine tD_runS so q' fun v s1 x H1 B1 θ1 q1 so1 st1 vo1 fv1 => ?_
  obtain ⟨d, s2, B2, q2, so2, st2, rep⟩ := frz_okS st1 fv1 so1 vo1 q1
  split at q2
  · rename_i n
    split at q2
    · rename_i xs hn
      obtain ⟨p, vs, rfl, hp, hH, hr⟩ := tok_at hT so2 hn rep
      refine .inl ⟨p, rfl, ⟨vs, SqL.of hH⟩, fun i m σ H => m = xs.length - i ∧ i ≤ xs.length ∧ ∃ B θ s, SO L B0 H0 θ0 B H θ σ s.fr s.g ∧ Same B2 B ∧ θ1 <+: θ ∧ FlSat L B0 H0 θ0 B θ D (forT n xs.length g body (xs.length - i) s), ⟨xs.length, by simp, Nat.zero_le _, B2, θ1, s2, so2, fun _ _ h => h, List.prefix_refl _, q2⟩, ?_⟩
      rintro i m σ3 H3 ⟨rfl, hi, B3, θ3, s3, so3, sm3, tp3, q3⟩
      have hp3 : θ3[n]? = some [p] := by
        obtain ⟨z, rfl⟩ := tp3
        rw [List.getElem?_append_left (List.getElem?_eq_some_iff.mp hp).1]
        exact hp
      have rp3 : Rep L.K θ3 B3 (.tok n) (.ref p) := Rep.mono sm3 tp3 _ _ rep
      by_cases hlt : i < xs.length
      · right
        have em : xs.length - i = (xs.length - (i + 1)) + 1 := by omega
        rw [em, forT] at q3
        split at q3
        · rename_i ys hy
          split at q3
          · rename_i hl
            have ei : xs.length - (xs.length - (i + 1) + 1) = i := by omega
            rw [ei] at q3
            obtain ⟨p', ws, e1, e2, e3, e4⟩ := tok_at hT so3 hy rp3
            cases e1
            have hd : ys[i]? = some ys[i] := List.getElem?_eq_getElem (by omega)
            rw [hd] at q3
            obtain ⟨w, hw, rw'⟩ := e4.get hd
            refine ⟨⟨ws, w, SqL.of e3, hw⟩, fun σ' H' => ∃ B θ s, SO L B0 H0 θ0 B H' θ σ' s.fr s.g ∧ Same B2 B ∧ θ1 <+: θ ∧ FlSat L B0 H0 θ0 B θ D (forT n xs.length g body (xs.length - (i + 1)) s), fun σ' H' h => ⟨xs.length - (i + 1), by omega, rfl, hlt, h⟩, fun x H' hy' => ?_⟩
            obtain ⟨rfl, hx⟩ := hy'
            have := hx ws (SqL.of e3)
            rw [hw] at this
            cases this
            refine ⟨B0, H0, θ0, B3, θ3, s3, ys[i], so3, Rep.mono noB_same (List.prefix_refl _) _ _ rw', ?_⟩
            dsimp only at q3
            cases eg : g ys[i] s3 with
            | bad => rw [eg] at q3; exact q3
            | exc x s2 => rw [eg] at q3; exact q3
            | ok u s4 =>
            rw [eg] at q3
            intro σ4 so4 _ _
            refine ⟨B0, H0, θ0, B3, θ3, s4, so4, ?_⟩
            dsimp only at q3
            cases eb : body s4 with
            | nx s5 =>
              rw [eb] at q3
              exact fun σ5 H5 B5 θ5 so5 sm5 tp5 => ⟨B5, θ5, s5, so5, sm3.trans sm5, tp3.trans tp5, FlSat.mono q3 sm5 tp5⟩
            | ct s5 =>
              rw [eb] at q3
              exact fun σ5 H5 B5 θ5 so5 sm5 tp5 => ⟨B5, θ5, s5, so5, sm3.trans sm5, tp3.trans tp5, FlSat.mono q3 sm5 tp5⟩
            | bk s5 =>
              rw [eb] at q3
              exact fun σ5 H5 B5 θ5 so5 sm5 tp5 => q3 σ5 H5 B5 θ5 so5 sm5 tp5
            | rt v s5 => rw [eb] at q3; exact q3
            | exc x s5 => rw [eb] at q3; exact q3
            | bad => rw [eb] at q3; exact q3
          · exact q3.elim
        · exact q3.elim
      · left
        have ei : i = xs.length := by omega
        subst ei
        rw [Nat.sub_self, forT] at q3
        split at q3
        · rename_i ys hy
          split at q3
          · rename_i hl
            obtain ⟨p', ws, e1, e2, e3, e4⟩ := tok_at hT so3 hy rp3
            cases e1
            exact ⟨⟨ws, SqL.of e3, by rw [← e4.length]; omega⟩, q3 σ3 H3 B3 θ3 so3 (fun _ _ h => h) (List.prefix_refl _)⟩
          · exact q3.elim
        · exact q3.elim
    · exact q2.elim
  · exact q2.elim
def sForT (g : GI TkG) (a : EI TkG) (body : SB TkG) : SI TkG where
  chk := fun ce st => match st with
    | .For tg it b [] _ => notSetE it && g.chk ce tg && a.chk ce it && body.chk ce b
    | _ => false
  den := dForT a.den g.den body.den
  need := fun L lv => TkLaw L ∧ a.need L lv ∧ body.need L lv
  ok := fun L lv X ce st hX hn h => by
    split at h
    · rename_i tg it b pos
      simp only [Bool.and_eq_true] at h
      obtain ⟨⟨⟨h1, h2⟩, h3⟩, h4⟩ := h
      refine (ps_for (by rw [hX.nox]; exact PassesOwn.never) hX.ok.calm (pi_any (tg := tg) (a.ok L lv X ce it hX.ok hn.2.1 h3)) (g.ok L lv X ce tg hX.ok h2) (body.ok L lv X ce b hX hn.2.2 h4) (folded_no h1)).imp ?_
      rw [hX.ok.K]
      exact forT_imp hn.1
    · cases h
end RB

namespace RB
open PySem PySem.Spec PyProof.Rows L2
variable {G : Type}
theorem dn_eVar (i : Nat) : (eVar i : EI G).den = dVar i := rfl
theorem dn_eInt (i : Int) : (eInt i : EI G).den = dC (.int i) := rfl
theorem dn_eBl (b : Bool) : (eBl b : EI G).den = dC (.bl b) := rfl
theorem dn_eNon  : (eNon : EI G).den = dC .non := rfl
theorem dn_eStr (x : Str) : (eStr x : EI G).den = dC (.str x) := rfl
theorem dn_eGlob (x : Str) (d : D) : (eGlob x d : EI G).den = dC d := rfl
theorem dn_mkBin (o : Operator) (r : PySem.W.Frag → R2) (op : D → D → Option Vl) (hp : Prim2 r op) (hr : ∀ (X : Cx), X.calm = true → OpR X (binaryOp o) (r X.K)) (a b : EI G) : (mkBin o r op hp hr a b : EI G).den = dBin op a.den b.den := rfl
theorem dn_mkCmp (o : CmpOp) (ho : o ≠ .In ∧ o ≠ .NotIn) (r : PySem.W.Frag → R2) (op : D → D → Option Vl) (hp : Prim2 r op) (hr : ∀ (X : Cx), X.calm = true → X.A.units + 64 < cLine → OpR X (compareOp o) (r X.K)) (a b : EI G) : (mkCmp o ho r op hp hr a b : CI G).den = dBin op a.den b.den := rfl
theorem dn_mkIn (neg : Bool) (o : CmpOp) (ho : o = if neg then .NotIn else .In) (a b : EI G) : (mkIn neg o ho a b : CI G).den = dIn neg a.den b.den := rfl
theorem dn_mkChain (o o' : CmpOp) (ho : o' ≠ .In ∧ o' ≠ .NotIn) (r r' : PySem.W.Frag → R2) (op op' : D → D → Option Vl) (hp : Prim2 r op) (hp' : Prim2 r' op') (hr : ∀ (X : Cx), X.A.units + 64 < cLine → OpR X (compareOp o) (r X.K)) (hr' : ∀ (X : Cx), X.A.units + 64 < cLine → OpR X (compareOp o') (r' X.K)) (a b c : EI G) : (mkChain o o' ho r r' op op' hp hp' hr hr' a b c : CI G).den = dChain op op' a.den b.den c.den := rfl
theorem dn_eNot (a : EI G) : (eNot a : EI G).den = fun s => (dTru a.den s).bind fun k s => .ok (.dat (.bl (!k))) s := rfl
theorem dn_bOne {o : BoolOp} (a : EI G) : (bOne a : BI G o).den = a.den := rfl
theorem dn_bAnd (a : EI G) (b : BI G .And) : (bAnd a b : BI G .And).den = dAnd a.den b.den := rfl
theorem dn_bOr (a : EI G) (b : BI G .Or) : (bOr a b : BI G .Or).den = dOr a.den b.den := rfl
theorem dn_eBool {o : BoolOp} (b : BI G o) : (eBool b : EI G).den = b.den := rfl
theorem dn_tV (a : EI G) : (tV a : TI' G).den = dTru a.den := rfl
theorem dn_tNt (a : TI' G) : (tNt a : TI' G).den = fun s => (a.den s).bind fun k s => .ok (!k) s := rfl
theorem dn_wOne (o : BoolOp) (a : TI' G) : (wOne o a : WI G o).den = a.den := rfl
theorem dn_wAnd (a : TI' G) (b : WI G .And) : (wAnd a b : WI G .And).den = dtAnd a.den b.den := rfl
theorem dn_wOr (a : TI' G) (b : WI G .Or) : (wOr a b : WI G .Or).den = dtOr a.den b.den := rfl
theorem dn_tBool {o : BoolOp} (b : WI G o) : (tBool b : TI' G).den = b.den := rfl
theorem dn_eIf (t : TI' G) (a b : EI G) : (eIf t a b : EI G).den = fun s => (t.den s).bind fun k s => if k = true then a.den s else b.den s := rfl
theorem dn_aNil  : (aNil : AI G).den = fun s => .ok [] s := rfl
theorem dn_aCons (a : EI G) (r : AI G) : (aCons a r : AI G).den = dCons a.den r.den := rfl
theorem dn_eTup (a : AI G) : (eTup a : EI G).den = fun s => (a.den s).bind fun ds s => if ds.length ≤ sizeLine then .ok (.dat (.tup ds)) s else .bad := rfl
theorem dn_eLst (a : AI G) : (eLst a : EI G).den = fun s => (a.den s).bind fun ds s => if ds.length ≤ sizeLine then .ok (.own ds) s else .bad := rfl
theorem dn_eIx (a b : EI G) : (eIx a b : EI G).den = fun s => (a.den s).bind fun v s => (eD b.den s).bind fun d s => opt (ixD (hold v) d s) s := rfl
theorem dn_oNone  : (oNone : OI G).den = fun s => .ok none s := rfl
theorem dn_oSome (a : EI G) : (oSome a : OI G).den = fun s => (eD a.den s).bind fun d s => match d with
      | .int i => .ok (some i) s
      | _ => .bad := rfl
theorem dn_eSl (a : EI G) (lo hi : OI G) : (eSl a lo hi : EI G).den = fun s => (a.den s).bind fun v s => (lo.den s).bind fun l s => (hi.den s).bind fun u s => opt (slD (hold v) l u s) s := rfl
theorem dn_eCall (c : FR G) (args : AI G) : (eCall c args : EI G).den = dCall c.F args.den := rfl
theorem dn_eCall0 (c : FR G) : (eCall0 c : EI G).den = dCall c.F fun s => .ok [] s := rfl
theorem dn_bNil  : (bNil : SB G).den = .nx := rfl
theorem dn_bCons (a : SI G) (b : SB G) : (bCons a b : SB G).den = fun s => (a.den s).nxt b.den := rfl
theorem dn_sSet (i : Nat) (a : EI G) : (sSet i a : SI G).den = fun s => Fl.of (a.den s) fun v s => Fl.of (slotOf v s) fun q s => .nx (putS i q s) := rfl
theorem dn_sRet (a : EI G) : (sRet a : SI G).den = fun s => Fl.of (a.den s) retOf := rfl
theorem dn_sExpr (a : EI G) : (sExpr a : SI G).den = fun s => Fl.of (a.den s) fun _ s => .nx s := rfl
theorem dn_sPass  : (sPass : SI G).den = .nx := rfl
theorem dn_sBreak  : (sBreak : SI G).den = .bk := rfl
theorem dn_sCont  : (sCont : SI G).den = .ct := rfl
theorem dn_sIf (t : TI' G) (a b : SB G) : (sIf t a b : SI G).den = fun s => Fl.of (t.den s) fun k s => if k = true then a.den s else b.den s := rfl
theorem dn_gN (i : Nat) : (gN i : GI G).den = fun d s => .ok () (putS i (.dat d) s) := rfl
theorem dn_gsNil  : (gsNil : GsI G).den = fun ds s => match ds with
      | [] => .ok () s
      | _ => .bad := rfl
theorem dn_gsCons (a : GI G) (r : GsI G) : (gsCons a r : GsI G).den = fun ds s => match ds with
      | d :: ds => (a.den d s).bind fun _ s => r.den ds s
      | _ => .bad := rfl
theorem dn_gT (n : Nat) (g : GsI G) : (gT n g : GI G).den = fun d s => match d with
      | .tup ds => if ds.length = n then g.den ds s else .bad
      | _ => .bad := rfl
theorem dn_sAsg (g : GI G) (a : EI G) : (sAsg g a : SI G).den = fun s => Fl.of (eD a.den s) fun d s => Fl.of (g.den d s) fun _ s => .nx s := rfl
theorem dn_iSeq (a : EI G) : (iSeq a : II G).den = fun s => (eD a.den s).bind fun d s => opt (itemsD d) s := rfl
theorem dn_iRange (a : AI G) : (iRange a : II G).den = fun s => (a.den s).bind fun ds s => opt (rngOf ds) s := rfl
theorem dn_iZip (a : AI G) : (iZip a : II G).den = fun s => (a.den s).bind fun ds s => opt (zipD ds) s := rfl
theorem dn_sFor (g : GI G) (it : II G) (body : SB G) : (sFor g it body : SI G).den = dFor it.den g.den body.den := rfl
theorem dn_sWhile (t : TI' G) (body : SB G) : (sWhile t body : SI G).den = whileD t.den body.den := rfl
theorem dn_qNil  : (qNil : QI G).den = fun s => .ok true s := rfl
theorem dn_qOne (t : TI' G) : (qOne t : QI G).den = t.den := rfl
theorem dn_kOne (own : List (Str × Nat)) (g : GI G) (it : II G) (q : QI G) (a : EI G) : (kOne own g it q a : KI G).den = dComp it.den g.den q.den a.den (own.map (·.2)) := rfl
theorem dn_kTwo (own : List (Str × Nat)) (ws : List Nat) (g : GI G) (it : II G) (q : QI G) (g1 : GI G) (it1 : II G) (q1 : QI G) (a : EI G) : (kTwo own ws g it q g1 it1 q1 a : KI G).den = dComp2 it.den g.den q.den it1.den g1.den q1.den a.den (own.map (·.2)) ws := rfl
theorem dn_sSetC (i : Nat) (k : KI G) : (sSetC i k : SI G).den = fun s => Fl.of (k.den s) fun v s => Fl.of (slotOf v s) fun q s => .nx (putS i q s) := rfl
theorem dn_mkMeth (name : Str) (id : String) (slot : Slot "list" name id) (hty : typeOf (.builtin id) = pure (.type "method_descriptor")) (r : PySem.W.Frag → V → List V → Hp → VK → Prop) (hm : ∀ X, MtR X id (r X.K)) (op : List D → List D → Option (List D × D)) (hr : MutR r op) (o : EI TkG) (args : AI TkG) : (mkMeth name id slot hty r hm op hr o args : EI TkG).den = dMut op o.den args.den := rfl
theorem dn_mkMeth0 (name : Str) (id : String) (slot : Slot "list" name id) (hty : typeOf (.builtin id) = pure (.type "method_descriptor")) (r : PySem.W.Frag → V → List V → Hp → VK → Prop) (hm : ∀ X, MtR X id (r X.K)) (op : List D → List D → Option (List D × D)) (hr : MutR r op) (o : EI TkG) : (mkMeth0 name id slot hty r hm op hr o : EI TkG).den = dMut op o.den fun s => .ok [] s := rfl
theorem dn_eTIx (a b : EI TkG) : (eTIx a b : EI TkG).den = fun s => (eD a.den s).bind fun v s => (eD b.den s).bind fun d s => match d with
      | .int i => opt (((tokL (.dat v) s).bind fun xs => atI xs i).map .dat) s
      | _ => .bad := rfl
theorem dn_tTok (a : EI TkG) : (tTok a : TI' TkG).den = fun s => (a.den s).bind fun v s => opt ((tokL v s).map fun xs => !xs.isEmpty) s := rfl
theorem dn_eTok (a : EI TkG) : (eTok a : EI TkG).den = fun s => (a.den s).bind fun v s => (toTok v s).bind fun d s => .ok (.dat d) s := rfl
theorem dn_sIxSet (o i : EI TkG) (a : EI TkG) : (sIxSet o i a : SI TkG).den = fun s => Fl.of (eD a.den s) fun d s => Fl.of (o.den s) fun v s => Fl.of (eD i.den s) fun k s => Fl.of (mutV (mSet k d) v s) fun _ s => .nx s := rfl
theorem dn_eNeg (a : EI TkG) : (eNeg a : EI TkG).den = dCall1 negD a.den := rfl
theorem dn_eIsi (a : EI TkG) (T : TyN) : (eIsi a T : EI TkG).den = fun s => (a.den s).bind fun v s => .ok (.dat (.bl (isiD T (vlD v)))) s := rfl
theorem dn_eRev (a : EI TkG) : (eRev a : EI TkG).den = dCall1 revD a.den := rfl
theorem dn_rg1 (a : EI TkG) : (rg1 a : RgI).den = fun s => (eD a.den s).bind fun d s => (intOf d s).bind fun n s => .ok (0, n) s := rfl
theorem dn_rg2 (a b : EI TkG) : (rg2 a b : RgI).den = fun s => (eD a.den s).bind fun d s => (eD b.den s).bind fun e s => (intOf d s).bind fun m s => (intOf e s).bind fun n s => .ok (m, n) s := rfl
theorem dn_eLstRg (r : RgI) : (eLstRg r : EI TkG).den = fun s => (r.den s).bind fun p s => clI (rgOk p.1 p.2) (.ok (.own (rngL p.1 (p.2 - p.1).toNat)) s) .bad := rfl
theorem dn_eTupRg (r : RgI) : (eTupRg r : EI TkG).den = fun s => (r.den s).bind fun p s => clI (rgOk p.1 p.2) (.ok (.dat (.tup (rngL p.1 (p.2 - p.1).toNat))) s) .bad := rfl
theorem dn_sAug (i : Nat) (a : EI TkG) : (sAug i a : SI TkG).den = fun s => match s.fr[i]? with
      | some (some (.dat (.int m))) => Fl.of (eD a.den s) fun d s => Fl.of (intOf d s) fun n s => .nx (putS i (.dat (.int (m + n))) s)
      | _ => .bad := rfl
theorem dn_sPar2 (i j : Nat) (a b : EI TkG) : (sPar2 i j a b : SI TkG).den = fun s => Fl.of (a.den s) fun v s => Fl.of (slotOf v s) fun p s => Fl.of (b.den s) fun v s => Fl.of (slotOf v s) fun q s => .nx (putS j q (putS i p s)) := rfl
theorem dn_kwNil  : (kwNil : KWI G).den = fun s => .ok [] s := rfl
theorem dn_kwCons (k : Str) (a : EI G) (r : KWI G) : (kwCons k a r : KWI G).den = dCons a.den r.den := rfl
theorem dn_eCallK (c : FR G) (n : Nat) (pm : List Nat) (args : AI G) (kws : KWI G) : (eCallK c n pm args kws : EI G).den = dCallK c.F pm args.den kws.den := rfl
theorem dn_eCallK0 (c : FR G) (pm : List Nat) (kws : KWI G) : (eCallK0 c pm kws : EI G).den = dCallK c.F pm (fun s => .ok [] s) kws.den := rfl
theorem dn_kTok (k : KI TkG) : (kTok k : KI TkG).den = fun s => (k.den s).bind fun v s => (toTok v s).bind fun d s => .ok (.dat d) s := rfl
theorem dn_sForT (g : GI TkG) (a : EI TkG) (body : SB TkG) : (sForT g a body : SI TkG).den = dForT a.den g.den body.den := rfl
theorem dn_eC (c : CI G) : (eC c).den = c.den := rfl
theorem dn_tC' (c : CI G) : (tC' c).den = asB c.den := rfl
theorem dn_eK (k : KI G) : (eK k).den = k.den := rfl
theorem dn_eAdd (a b : EI G) : (eAdd a b).den = dBin opAdd a.den b.den := rfl
theorem dn_eSub (a b : EI G) : (eSub a b).den = dBin opSub a.den b.den := rfl
theorem dn_eMul (a b : EI G) : (eMul a b).den = dBin opMul a.den b.den := rfl
theorem dn_eFdiv (a b : EI G) : (eFdiv a b).den = dBin opFdiv a.den b.den := rfl
theorem dn_eMod (a b : EI G) : (eMod a b).den = dBin opMod a.den b.den := rfl
theorem dn_ePow (a b : EI G) : (ePow a b).den = dBin opPow a.den b.den := rfl
theorem dn_eShl (a b : EI G) : (eShl a b).den = dBin opShl a.den b.den := rfl
theorem dn_eShr (a b : EI G) : (eShr a b).den = dBin opShr a.den b.den := rfl
theorem dn_eAnd2 (a b : EI G) : (eAnd2 a b).den = dBin opAnd a.den b.den := rfl
theorem dn_eOr2 (a b : EI G) : (eOr2 a b).den = dBin opOr a.den b.den := rfl
theorem dn_cEq (a b : EI G) : (cEq a b).den = dBin opEq a.den b.den := rfl
theorem dn_cNe (a b : EI G) : (cNe a b).den = dBin opNe a.den b.den := rfl
theorem dn_cLt (a b : EI G) : (cLt a b).den = dBin opLt a.den b.den := rfl
theorem dn_cLe (a b : EI G) : (cLe a b).den = dBin opLe a.den b.den := rfl
theorem dn_cGt (a b : EI G) : (cGt a b).den = dBin opGt a.den b.den := rfl
theorem dn_cGe (a b : EI G) : (cGe a b).den = dBin opGe a.den b.den := rfl
theorem dn_cLeLe (a b c : EI G) : (cLeLe a b c).den = dChain opLe opLe a.den b.den c.den := rfl
theorem dn_eLen (a : EI TkG) : (eLen a).den = dCall1 lenD a.den := rfl
theorem dn_eTupOf (a : EI TkG) : (eTupOf a).den = dCall1 tupD a.den := rfl
theorem dn_eLstOf (a : EI TkG) : (eLstOf a).den = dCall1 lstD a.den := rfl
theorem dn_eIntOf (a : EI TkG) : (eIntOf a).den = dCall1 intD a.den := rfl
theorem dn_eAbs (a : EI TkG) : (eAbs a).den = dCall1 absD a.den := rfl
theorem dn_eStrOf (a : EI TkG) : (eStrOf a).den = dCall1 strD a.den := rfl
theorem dn_eAny (a : EI TkG) : (eAny a).den = dCall1 anyD a.den := rfl
theorem dn_eAll (a : EI TkG) : (eAll a).den = dCall1 allD a.den := rfl
theorem dn_eSum (a : EI TkG) : (eSum a).den = dCall1 sumD a.den := rfl
theorem dn_eMax1 (a : EI TkG) : (eMax1 a).den = dCall1 max1D a.den := rfl
theorem dn_eMin1 (a : EI TkG) : (eMin1 a).den = dCall1 min1D a.den := rfl
theorem dn_eSorted (a : EI TkG) : (eSorted a).den = dCall1 sortedD a.den := rfl
theorem dn_eMin2 (a b : EI TkG) : (eMin2 a b).den = dCallN min2D (dCons a.den (dCons b.den fun s => .ok [] s)) := rfl
theorem dn_eMax2 (a b : EI TkG) : (eMax2 a b).den = dCallN max2D (dCons a.den (dCons b.den fun s => .ok [] s)) := rfl
theorem dn_mAppendE (o a : EI TkG) : (mAppendE o a).den = dMut mAppend o.den (dCons a.den fun s => .ok [] s) := rfl
theorem dn_mExtendE (o a : EI TkG) : (mExtendE o a).den = dMut mExtend o.den (dCons a.den fun s => .ok [] s) := rfl
theorem dn_mPopE (o : EI TkG) : (mPopE o).den = dMut mPop o.den (fun s => .ok [] s) := rfl
theorem dn_mPopAtE (o a : EI TkG) : (mPopAtE o a).den = dMut mPop o.den (dCons a.den fun s => .ok [] s) := rfl
theorem dn_mReverseE (o : EI TkG) : (mReverseE o).den = dMut mReverse o.den (fun s => .ok [] s) := rfl
theorem dn_mInsertE (o a b : EI TkG) : (mInsertE o a b).den = dMut mInsert o.den (dCons a.den (dCons b.den fun s => .ok [] s)) := rfl
theorem dn_cIs (a b : EI G) : (cIs a b).den = dBin (opIsN true) a.den b.den := rfl
theorem dn_cIsNot (a b : EI G) : (cIsNot a b).den = dBin (opIsN false) a.den b.den := rfl
theorem dn_cIn (a b : EI G) : (cIn a b).den = dIn false a.den b.den := rfl
theorem dn_cNotIn (a b : EI G) : (cNotIn a b).den = dIn true a.den b.den := rfl
end RB

namespace RB
open PySem PySem.Spec PyProof.Rows L2
section
variable {S α β G : Type}
theorem ob_ok (a : α) (s : S) (k : α → S → Out S β) : (Out.ok a s).bind k = k a s := rfl
theorem ob_exc (x : Ex) (s : S) (k : α → S → Out S β) : (Out.exc x s : Out S α).bind k = .exc x s := rfl
theorem ob_ite (c : Prop) [Decidable c] (a b : Out S α) (k : α → S → Out S β) : (if c then a else b).bind k = if c then a.bind k else b.bind k := by split <;> rfl
theorem fo_ok (a : α) (s : Stt G) (k : α → Stt G → Fl G) : Fl.of (.ok a s) k = k a s := rfl
theorem fo_ite (c : Prop) [Decidable c] (a b : Out (Stt G) α) (k : α → Stt G → Fl G) : Fl.of (if c then a else b) k = if c then Fl.of a k else Fl.of b k := by split <;> rfl
theorem fn_nx (s : Stt G) (k : SDen G) : (Fl.nx s).nxt k = k s := rfl
theorem fn_rt (v : Vl) (s : Stt G) (k : SDen G) : (Fl.rt v s).nxt k = .rt v s := rfl
theorem fn_bk (s : Stt G) (k : SDen G) : (Fl.bk s).nxt k = .bk s := rfl
theorem fn_ct (s : Stt G) (k : SDen G) : (Fl.ct s).nxt k = .ct s := rfl
theorem fn_ite (c : Prop) [Decidable c] (a b : Fl G) (k : SDen G) : (if c then a else b).nxt k = if c then a.nxt k else b.nxt k := by split <;> rfl
theorem op_some (a : α) (s : S) : opt (some a) s = .ok a s := rfl
theorem fz_dat (d : D) (s : Stt G) : frz (.dat d) s = .ok d s := rfl
theorem fz_own (xs : List D) (s : Stt G) : frz (.own xs) s = .ok (.lst xs) s := rfl
theorem so_dat (d : D) (s : Stt G) : slotOf (.dat d) s = .ok (.dat d) s := rfl
theorem so_own (xs : List D) (s : Stt G) : slotOf (.own xs) s = .ok (.own xs) s := rfl
theorem re_dat (d : D) (s : Stt G) : retOf (.dat d) s = .rt (.dat d) s := rfl
theorem re_own (xs : List D) (s : Stt G) : retOf (.own xs) s = .rt (.own xs) s := rfl
theorem dat_ite (c : Prop) [Decidable c] (a b : D) : Vl.dat (if c then a else b) = if c then Vl.dat a else Vl.dat b := by split <;> rfl
end
/-- how a def's body ends -/
def endB {G : Type} (r : Fl G) : Out G Vl := match r with
  | .nx s => .ok (.dat .non) s.g
  | .rt v s => .ok v s.g
  | .exc x s => .exc x s.g
  | _ => .bad
theorem runB_eq {G : Type} (n : Nat) (den : SDen G) (ds : List D) (g : G) : runB n den ds g = endB (den ⟨frame0 n ds, g⟩) := by
  unfold runB endB
  cases den ⟨frame0 n ds, g⟩ <;> rfl
theorem endB_rt {G : Type} (v : Vl) (s : Stt G) : endB (.rt v s) = .ok v s.g := rfl
theorem endB_nx {G : Type} (s : Stt G) : endB (.nx s) = .ok (.dat .non) s.g := rfl
theorem endB_ite {G : Type} (c : Prop) [Decidable c] (a b : Fl G) : endB (if c then a else b) = if c then endB a else endB b := by split <;> rfl
theorem isi_int (d : D) : (isiD .int d && !isiD .bool d) = isInt d := by cases d <;> rfl
/-- a def's answer, put back -/
def back {G : Type} (s : Stt G) (r : Out G Vl) : Out (Stt G) Vl := match r with
  | .ok v g => .ok v { s with g := g }
  | .exc x g => .exc x { s with g := g }
  | .bad => .bad
theorem dCall_eq {G : Type} (F : List D → G → Out G Vl) (args : ADen G) (s : Stt G) : dCall F args s = (args s).bind fun ds s => back s (F ds s.g) := rfl
theorem dCallK_eq {G : Type} (F : List D → G → Out G Vl) (pm : List Nat) (args kws : ADen G) (s : Stt G) : dCallK F pm args kws s = (args s).bind fun ds s => (kws s).bind fun es s => back s (F (pmL pm ds es) s.g) := rfl
theorem back_ok {G : Type} (s : Stt G) (v : Vl) (g : G) : back s (.ok v g) = .ok v { s with g := g } := rfl
section
variable {G : Type}
theorem ob_bad {S α β : Type} (k : α → S → Out S β) : (Out.bad : Out S α).bind k = .bad := rfl
theorem fo_bad {α : Type} (k : α → Stt G → Fl G) : Fl.of .bad k = .bad := rfl
theorem fn_bad (k : SDen G) : (Fl.bad : Fl G).nxt k = .bad := rfl
theorem endB_bad : endB (.bad : Fl G) = .bad := rfl
theorem op_none {S α : Type} (s : S) : opt (none : Option α) s = .bad := rfl
theorem op_ite {S α : Type} (c : Prop) [Decidable c] (a b : Option α) (s : S) : opt (if c then a else b) s = if c then opt a s else opt b s := by split <;> rfl
theorem ho_dat (d : D) : hold (.dat d) = .dat d := rfl
theorem ho_own (xs : List D) : hold (.own xs) = .dat (.lst xs) := rfl
theorem ho_pk (i : Nat) : hold (.pk i) = .pk i := rfl
theorem sq_tup (xs : List D) (s : Stt G) : seqOf (.dat (.tup xs)) s = some (false, xs) := rfl
theorem sq_lst (xs : List D) (s : Stt G) : seqOf (.dat (.lst xs)) s = some (true, xs) := rfl
theorem sq_own (xs : List D) (s : Stt G) : seqOf (.own xs) s = some (true, xs) := rfl
theorem sq_pk (i : Nat) (fr : Fr) (g : G) : seqOf (.pk i) ⟨fr, g⟩ = match fr[i]? with
  | some (some (.own xs)) => some (true, xs)
  | _ => none := rfl
theorem sk_tup (xs : List D) (s : Stt TkG) : seqK (.dat (.tup xs)) s = some (false, xs) := rfl
theorem sk_lst (xs : List D) (s : Stt TkG) : seqK (.dat (.lst xs)) s = some (true, xs) := rfl
theorem sk_own (xs : List D) (s : Stt TkG) : seqK (.own xs) s = some (true, xs) := rfl
theorem sk_pk (i : Nat) (fr : Fr) (g : TkG) : seqK (.pk i) ⟨fr, g⟩ = match fr[i]? with
  | some (some (.own xs)) => some (true, xs)
  | _ => none := rfl
theorem ix_tup (xs : List D) (i : Int) (s : Stt G) : ixD (.dat (.tup xs)) (.int i) s = (atI xs i).map .dat := rfl
theorem ix_lst (xs : List D) (i : Int) (s : Stt G) : ixD (.dat (.lst xs)) (.int i) s = (atI xs i).map .dat := rfl
theorem ix_pk (j : Nat) (i : Int) (fr : Fr) (g : G) : ixD (.pk j) (.int i) ⟨fr, g⟩ = (match fr[j]? with
  | some (some (.own xs)) => (atI xs i).map Vl.dat
  | _ => none : Option Vl) := by
  show (match seqOf (.pk j) ⟨fr, g⟩ with
    | some (_, xs) => (atI xs i).map Vl.dat
    | none => none) = _
  rw [sq_pk]
  split <;> rename_i h
  · split at h
    · cases h; rfl
    · cases h
  · split at h
    · cases h
    · rfl
theorem sl_tup (xs : List D) (lo hi : Option Int) (s : Stt G) : slD (.dat (.tup xs)) lo hi s = some (.dat (.tup (cutL xs lo hi))) := rfl
theorem sl_lst (xs : List D) (lo hi : Option Int) (s : Stt G) : slD (.dat (.lst xs)) lo hi s = some (.own (cutL xs lo hi)) := rfl
theorem sl_scr (ns : List Int) (lo hi : Option Int) (s : Stt G) : slD (.dat (.scr ns)) lo hi s = some (.own ((cutL ns lo hi).map .int)) := rfl
theorem tr_non (s : Stt G) : truD (.dat .non) s = some false := rfl
theorem tr_bl (b : Bool) (s : Stt G) : truD (.dat (.bl b)) s = some b := rfl
theorem tr_int (i : Int) (s : Stt G) : truD (.dat (.int i)) s = some (i != 0) := rfl
theorem tr_tup (xs : List D) (s : Stt G) : truD (.dat (.tup xs)) s = some (!xs.isEmpty) := rfl
theorem tr_lst (xs : List D) (s : Stt G) : truD (.dat (.lst xs)) s = some (!xs.isEmpty) := rfl
theorem tr_own (xs : List D) (s : Stt G) : truD (.own xs) s = some (!xs.isEmpty) := rfl
theorem ln_tup (xs : List D) (s : Stt TkG) : lenD (.dat (.tup xs)) s = some (.dat (.int xs.length)) := rfl
theorem ln_lst (xs : List D) (s : Stt TkG) : lenD (.dat (.lst xs)) s = some (.dat (.int xs.length)) := rfl
theorem ln_own (xs : List D) (s : Stt TkG) : lenD (.own xs) s = some (.dat (.int xs.length)) := rfl
theorem ln_scr (xs : List Int) (s : Stt TkG) : lenD (.dat (.scr xs)) s = some (.dat (.int xs.length)) := rfl
theorem ln_str (z : Str) (s : Stt TkG) : lenD (.dat (.str z)) s = if z.length ≤ sizeLine then some (.dat (.int z.length)) else none := rfl
theorem ln_pk (i : Nat) (fr : Fr) (g : TkG) : lenD (.pk i) ⟨fr, g⟩ = (match fr[i]? with
  | some (some (.own xs)) => some (true, xs)
  | _ => none).bind fun (p : Bool × List D) => some (.dat (.int p.2.length)) := rfl
theorem tp_tup (xs : List D) (s : Stt TkG) : tupD (.dat (.tup xs)) s = some (.dat (.tup xs)) := rfl
theorem tp_lst (xs : List D) (s : Stt TkG) : tupD (.dat (.lst xs)) s = some (.dat (.tup xs)) := rfl
theorem tp_own (xs : List D) (s : Stt TkG) : tupD (.own xs) s = some (.dat (.tup xs)) := rfl
theorem tp_pk (i : Nat) (fr : Fr) (g : TkG) : tupD (.pk i) ⟨fr, g⟩ = match (match fr[i]? with
  | some (some (.own xs)) => some (true, xs)
  | _ => none : Option (Bool × List D)) with
  | some (true, xs) => some (.dat (.tup xs))
  | _ => none := rfl
theorem ls_tup (xs : List D) (s : Stt TkG) : lstD (.dat (.tup xs)) s = some (.own xs) := rfl
theorem ls_lst (xs : List D) (s : Stt TkG) : lstD (.dat (.lst xs)) s = some (.own xs) := rfl
theorem ls_own (xs : List D) (s : Stt TkG) : lstD (.own xs) s = some (.own xs) := rfl
theorem ad_int (i j : Int) : opAdd (.int i) (.int j) = some (.dat (.int (i + j))) := rfl
theorem ad_str (x y : Str) : opAdd (.str x) (.str y) = if x.length + y.length ≤ sizeLine then some (.dat (.str (x ++ y))) else none := rfl
theorem ad_tup (xs ys : List D) : opAdd (.tup xs) (.tup ys) = if xs.length + ys.length ≤ sizeLine then some (.dat (.tup (xs ++ ys))) else none := rfl
theorem ad_lst (xs ys : List D) : opAdd (.lst xs) (.lst ys) = if xs.length + ys.length ≤ sizeLine then some (.own (xs ++ ys)) else none := rfl
theorem oi_int (f : Int → Int → Int) (C : Int → Int → Bool) (i j : Int) : opI f C (.int i) (.int j) = if C i j then some (.dat (.int (f i j))) else none := rfl
theorem ob_int (f : Int → Int → Bool) (k : List Nat → List Nat → Bool) (i j : Int) : opB f k (.int i) (.int j) = some (.dat (.bl (f i j))) := rfl
theorem ob_str (f : Int → Int → Bool) (k : List Nat → List Nat → Bool) (x y : Str) : opB f k (.str x) (.str y) = some (.dat (.bl (k x.cps.toList y.cps.toList))) := rfl
theorem lt_int (i j : Int) : opLt (.int i) (.int j) = some (.dat (.bl (decide (i < j)))) := rfl
theorem eq_int (i j : Int) : opEq (.int i) (.int j) = some (.dat (.bl (i == j))) := by
  unfold opEq
  rw [if_pos (show cmpOk (.int i) (.int j) = true by simp [cmpOk, pln, depB])]
  simp only [eqB]
theorem it_tup (xs : List D) : itemsD (.tup xs) = some xs := rfl
theorem it_lst (xs : List D) : itemsD (.lst xs) = some xs := rfl
theorem it_scr (xs : List Int) : itemsD (.scr xs) = some (xs.map .int) := rfl
theorem ie_int (i : Int) (s : Stt TkG) : intD (.dat (.int i)) s = some (.dat (.int i)) := rfl
theorem ie_bl (k : Bool) (s : Stt TkG) : intD (.dat (.bl k)) s = some (.dat (.int (if k then 1 else 0))) := rfl
theorem io_int (i : Int) (s : Stt TkG) : intOf (.int i) s = .ok i s := rfl
theorem vl_dat (d : D) : vlD (.dat d) = d := rfl
theorem ib_bl (b : Bool) : isBlV (.dat (.bl b)) = some b := rfl
theorem at_0 (x : D) (xs : List D) : atI (x :: xs) 0 = some x := by
  unfold atI ixN
  rw [if_pos (by decide), if_pos (by simp only [List.length_cons]; omega)]
  rfl
theorem at_1 (x y : D) (xs : List D) : atI (x :: y :: xs) 1 = some y := by
  unfold atI ixN
  rw [if_pos (by decide), if_pos (by simp only [List.length_cons]; omega)]
  rfl
theorem at_2 (x y z : D) (xs : List D) : atI (x :: y :: z :: xs) 2 = some z := by
  unfold atI ixN
  rw [if_pos (by decide), if_pos (by simp only [List.length_cons]; omega)]
  rfl
theorem at_nat {α : Type} (xs : List α) (j : Nat) (h : j < xs.length) : atI xs (j : Int) = some xs[j] := atI_nat (List.getElem?_eq_getElem h)
theorem is_non (k : Bool) (a : D) : opIsN k a .non = some (.dat (.bl (if k then isNon a else !isNon a))) := rfl
theorem in62 {j : Int} (h1 : -1000000000 ≤ j) (h2 : j ≤ 1000000000) : In62 j := by unfold In62; omega
theorem in63 {j : Int} (h1 : -1000000000 ≤ j) (h2 : j ≤ 1000000000) : In63 j := by unfold In63; omega
theorem cl_true {α : Type} (a b : α) : clI True a b = a := clI_pos trivial
theorem rg_1 (j : Int) : rngOf [.int j] = clI (In62 j) (some (rngL 0 j.toNat)) none := rfl
theorem rg_2 (i j : Int) : rngOf [.int i, .int j] = clI (In62 i ∧ In62 j) (some (rngL i (j - i).toNat)) none := rfl
theorem rg_3 (i j : Int) : rngOf [.int i, .int j, .int (-1)] = clI ((-1 : Int) = -1 ∧ In62 i ∧ In62 j) (some (rngC i (-1) (i - j).toNat)) none := rfl
theorem line_le {n : Nat} (h : n ≤ 100000) : (n ≤ sizeLine) = True := eq_true (by rw [sizeLine_eq]; omega)
theorem line_lt {n : Nat} (h : n ≤ 100000) : (n < sizeLine) = True := eq_true (by rw [sizeLine_eq]; omega)
end
end RB

namespace RB
open PySem PySem.Spec PyProof.Rows L2
section
variable {G : Type}
/-- a loop whose turns go on, step by step -/
theorem forD_fold {σ : Type} (inv : σ → Prop) (st : σ → Stt G) (step : D → σ → σ) {g : GDen G} {body : SDen G} : ∀ (ds : List D) (a : σ), inv a → (∀ d ∈ ds, ∀ a, inv a → inv (step d a) ∧ ∃ s1, g d (st a) = .ok () s1 ∧ body s1 = .nx (st (step d a))) →
    forD g body ds (st a) = .nx (st (ds.foldl (fun a d => step d a) a)) ∧ inv (ds.foldl (fun a d => step d a) a)
  | [], a, h, _ => ⟨rfl, h⟩
  | d :: ds, a, h, k => by
    obtain ⟨h1, s1, e1, e2⟩ := k d List.mem_cons_self a h
    obtain ⟨i1, i2⟩ := forD_fold inv st step ds (step d a) h1 fun x hx => k x (List.mem_cons_of_mem _ hx)
    refine ⟨?_, i2⟩
    rw [forD, e1]
    dsimp only
    rw [e2]
    exact i1
/-- a loop that goes on while P holds of what has been walked: by the count of turns -/
theorem forD_inv {g : GDen G} {body : SDen G} (ds : List D) (I : Nat → Stt G → Prop) (step : ∀ (k : Nat) (hk : k < ds.length) s, I k s → ∃ s1, g ds[k] s = .ok () s1 ∧ ∃ s2, (body s1 = .nx s2 ∨ body s1 = .ct s2) ∧ I (k + 1) s2) : ∀ (s : Stt G), I 0 s → ∃ s', forD g body ds s = .nx s' ∧ I ds.length s' := by
  have key : ∀ (n k : Nat) s, n = ds.length - k → k ≤ ds.length → I k s → ∃ s', forD g body (ds.drop k) s = .nx s' ∧ I ds.length s' := by
    intro n
    induction n with
    | zero =>
      intro k s e hk h
      have ek : k = ds.length := by omega
      subst ek
      rw [List.drop_length]
      exact ⟨s, rfl, h⟩
    | succ n ih =>
      intro k s e hk h
      have hlt : k < ds.length := by omega
      rw [List.drop_eq_getElem_cons hlt, forD]
      obtain ⟨s1, e1, s2, e2, h2⟩ := step k hlt s h
      rw [e1]
      rcases e2 with e2 | e2
      · dsimp only
        rw [e2]
        exact ih (k + 1) s2 (by omega) hlt h2
      · dsimp only
        rw [e2]
        exact ih (k + 1) s2 (by omega) hlt h2
  intro s h
  have := key _ 0 s rfl (Nat.zero_le _) h
  simpa using this
/-- a loop that may hand back early: R of a value handed back -/
theorem forD_ret {g : GDen G} {body : SDen G} (ds : List D) (I : Nat → Stt G → Prop) (R : Fl G → Prop)
    (step : ∀ (k : Nat) (hk : k < ds.length) s, I k s → ∃ s1, g ds[k] s = .ok () s1 ∧ ((∃ s2, (body s1 = .nx s2 ∨ body s1 = .ct s2) ∧ I (k + 1) s2) ∨ ∃ v s2, body s1 = .rt v s2 ∧ R (.rt v s2))) (hI : ∀ s, I ds.length s → R (.nx s)) : ∀ (s : Stt G), I 0 s → R (forD g body ds s) := by
  have key : ∀ (n k : Nat) s, n = ds.length - k → k ≤ ds.length → I k s → R (forD g body (ds.drop k) s) := by
    intro n
    induction n with
    | zero =>
      intro k s e hk h
      have ek : k = ds.length := by omega
      subst ek
      rw [List.drop_length]
      exact hI s h
    | succ n ih =>
      intro k s e hk h
      have hlt : k < ds.length := by omega
      rw [List.drop_eq_getElem_cons hlt, forD]
      obtain ⟨s1, e1, e2⟩ := step k hlt s h
      rw [e1]
      dsimp only
      rcases e2 with ⟨s2, e2 | e2, h2⟩ | ⟨v, s2, e2, h2⟩
      · rw [e2]; exact ih (k + 1) s2 (by omega) hlt h2
      · rw [e2]; exact ih (k + 1) s2 (by omega) hlt h2
      · rw [e2]; exact h2
  intro s h
  have := key _ 0 s rfl (Nat.zero_le _) h
  simpa using this
/-- a comprehension that changes nothing -/
theorem compD_pure {g : GDen G} {t : TDen G} {e : EDen G} {vs : List Nat} (s : Stt G) (p : D → Bool) (f : D → D) : ∀ (ds acc : List D), (∀ d ∈ ds, ∃ s1, g d s = .ok () s1 ∧ t s1 = .ok (p d) s1 ∧ (p d = true → eD e s1 = .ok (f d) s1) ∧ (⟨wipeF s1.fr vs, s1.g⟩ : Stt G) = s) → acc.length + ds.length ≤ sizeLine →
    compD g t e vs ds acc s = .ok (acc ++ (ds.filter p).map f) s
  | [], acc, _, _ => by rw [compD]; simp
  | d :: ds, acc, h, hl => by
    obtain ⟨s1, e1, e2, e3, e4⟩ := h d List.mem_cons_self
    rw [List.length_cons] at hl
    rw [compD, e1, ob_ok, e2, ob_ok]
    cases hp : p d with
    | true =>
      rw [if_pos rfl, e3 hp, ob_ok, if_pos (by omega)]
      have e4' : ({ s1 with fr := wipeF s1.fr vs } : Stt G) = s := e4
      rw [e4', compD_pure s p f ds (acc ++ [f d]) (fun x hx => h x (List.mem_cons_of_mem _ hx)) (by rw [List.length_append, List.length_singleton]; omega)]
      rw [List.filter_cons_of_pos hp, List.map_cons, List.append_assoc]
      rfl
    | false =>
      rw [if_neg Bool.false_ne_true]
      have e4' : ({ s1 with fr := wipeF s1.fr vs } : Stt G) = s := e4
      rw [e4', compD_pure s p f ds acc (fun x hx => h x (List.mem_cons_of_mem _ hx)) (by omega), List.filter_cons_of_neg (by rw [hp]; exact Bool.false_ne_true)]
/-- a comprehension, turn by turn: acc, the state -/
theorem compD_inv {g : GDen G} {t : TDen G} {e : EDen G} {vs : List Nat} (ds : List D) (I : Nat → List D → Stt G → Prop)
    (step : ∀ (k : Nat) (hk : k < ds.length) acc s, I k acc s → ∃ s1 b s2, g ds[k] s = .ok () s1 ∧ t s1 = .ok b s2 ∧ (b = true → ∃ x s3, eD e s2 = .ok x s3 ∧ acc.length < sizeLine ∧ I (k + 1) (acc ++ [x]) { s3 with fr := wipeF s3.fr vs }) ∧ (b = false → I (k + 1) acc { s2 with fr := wipeF s2.fr vs })) :
    ∀ (s : Stt G) (acc : List D), I 0 acc s → ∃ acc' s', compD g t e vs ds acc s = .ok acc' s' ∧ I ds.length acc' s' := by
  have key : ∀ (n k : Nat) acc s, n = ds.length - k → k ≤ ds.length → I k acc s → ∃ acc' s', compD g t e vs (ds.drop k) acc s = .ok acc' s' ∧ I ds.length acc' s' := by
    intro n
    induction n with
    | zero =>
      intro k acc s h1 hk h
      have ek : k = ds.length := by omega
      subst ek
      rw [List.drop_length]
      exact ⟨acc, s, rfl, h⟩
    | succ n ih =>
      intro k acc s h1 hk h
      have hlt : k < ds.length := by omega
      rw [List.drop_eq_getElem_cons hlt, compD]
      obtain ⟨s1, b, s2, e1, e2, h2, h3⟩ := step k hlt acc s h
      rw [e1, ob_ok, e2, ob_ok]
      cases b with
      | true =>
        obtain ⟨x, s3, e3, hl, h4⟩ := h2 rfl
        rw [if_pos rfl, e3, ob_ok, if_pos hl]
        exact ih (k + 1) _ _ (by omega) hlt h4
      | false =>
        rw [if_neg Bool.false_ne_true]
        exact ih (k + 1) _ _ (by omega) hlt (h3 rfl)
  intro s acc h
  have := key _ 0 acc s rfl (Nat.zero_le _) h
  simpa using this
theorem compD_map {σ : Type} {g : GDen G} {t : TDen G} {e : EDen G} {vs : List Nat} (s : Stt G) (h : σ → D) (p : σ → Bool) (f : σ → D) : ∀ (xs : List σ) (acc : List D), (∀ x ∈ xs, ∃ s1, g (h x) s = .ok () s1 ∧ t s1 = .ok (p x) s1 ∧ (p x = true → eD e s1 = .ok (f x) s1) ∧ (⟨wipeF s1.fr vs, s1.g⟩ : Stt G) = s) → acc.length + xs.length ≤ 100000 →
    compD g t e vs (xs.map h) acc s = .ok (acc ++ (xs.filter p).map f) s
  | [], acc, _, _ => by rw [List.map_nil, compD]; simp
  | x :: xs, acc, k, hl => by
    obtain ⟨s1, e1, e2, e3, e4⟩ := k x List.mem_cons_self
    rw [List.length_cons] at hl
    rw [List.map_cons, compD, e1, ob_ok, e2, ob_ok]
    have e4' : ({ s1 with fr := wipeF s1.fr vs } : Stt G) = s := e4
    cases hp : p x with
    | true =>
      rw [if_pos rfl, e3 hp, ob_ok, if_pos (by have h' : acc.length ≤ 99999 := by omega
                                               rw [sizeLine_eq]; omega)]
      rw [e4', compD_map s h p f xs (acc ++ [f x]) (fun y hy => k y (List.mem_cons_of_mem _ hy)) (by rw [List.length_append, List.length_singleton]; omega)]
      rw [List.filter_cons_of_pos hp, List.map_cons, List.append_assoc]
      rfl
    | false =>
      rw [if_neg Bool.false_ne_true]
      rw [e4', compD_map s h p f xs acc (fun y hy => k y (List.mem_cons_of_mem _ hy)) (by omega), List.filter_cons_of_neg (by rw [hp]; exact Bool.false_ne_true)]
/-- a comprehension over typed items that changes nothing -/
theorem dComp_map {σ : Type} {it : ADen G} {g : GDen G} {t : TDen G} {e : EDen G} {vs : List Nat} {s s' : Stt G} (xs : List σ) (h : σ → D) (p : σ → Bool) (f : σ → D) (h1 : it s = .ok (xs.map h) s')
    (h2 : ∀ x ∈ xs, ∃ s1, g (h x) ⟨wipeF s'.fr vs, s'.g⟩ = .ok () s1 ∧ t s1 = .ok (p x) s1 ∧ (p x = true → eD e s1 = .ok (f x) s1) ∧ (⟨wipeF s1.fr vs, s1.g⟩ : Stt G) = ⟨wipeF s'.fr vs, s'.g⟩) (hl : xs.length ≤ 100000) :
    dComp it g t e vs s = .ok (.own ((xs.filter p).map f)) ⟨restF s'.fr (wipeF s'.fr vs) vs, s'.g⟩ := by
  unfold dComp
  rw [h1, ob_ok, compD_map _ h p f xs [] h2 (by simpa using hl), ob_ok]
  rfl
theorem dComp_eq {it : ADen G} {g : GDen G} {t : TDen G} {e : EDen G} {vs : List Nat} {s s1 s2 : Stt G} {ds acc : List D} (h1 : it s = .ok ds s1) (h2 : compD g t e vs ds [] ⟨wipeF s1.fr vs, s1.g⟩ = .ok acc s2) : dComp it g t e vs s = .ok (.own acc) ⟨restF s1.fr s2.fr vs, s2.g⟩ := by
  unfold dComp
  rw [h1, ob_ok, h2, ob_ok]
/-- a while loop by a measure -/
theorem while_inv {t : TDen G} {body : SDen G} (I : Nat → Stt G → Prop) (R : Fl G → Prop)
    (step : ∀ (m : Nat) s, I m s → ∃ b s1, t s = .ok b s1 ∧ (b = false → R (.nx s1)) ∧ (b = true → (∃ s2 m', (body s1 = .nx s2 ∨ body s1 = .ct s2) ∧ m' < m ∧ I m' s2) ∨ ∃ v s2, body s1 = .rt v s2 ∧ R (.rt v s2)) ) : ∀ (m : Nat) (s : Stt G), I m s → R (whileD t body s) := by
  have key : ∀ (m : Nat) (s : Stt G), I m s → ∃ n, whN t body n s ≠ .bad ∧ R (whN t body n s) := by
    intro m
    induction m using Nat.strongRecOn with
    | _ m ih =>
      intro s h
      obtain ⟨b, s1, e1, h1, h2⟩ := step m s h
      cases b with
      | false =>
        have e : whN t body 1 s = .nx s1 := by rw [whN, e1]
        exact ⟨1, by rw [e]; (intro z; cases z), by rw [e]; exact h1 rfl⟩
      | true =>
        rcases h2 rfl with ⟨s2, m', e2, hm, h3⟩ | ⟨v, s2, e2, h3⟩
        · obtain ⟨n, n1, n2⟩ := ih m' hm s2 h3
          have e : whN t body (n + 1) s = whN t body n s2 := by
            rw [whN, e1]
            dsimp only
            rcases e2 with e2 | e2 <;> rw [e2]
          exact ⟨n + 1, by rw [e]; exact n1, by rw [e]; exact n2⟩
        · have e : whN t body 1 s = .rt v s2 := by
            rw [whN, e1]
            dsimp only
            rw [e2]
          exact ⟨1, by rw [e]; (intro z; cases z), by rw [e]; exact h3⟩
  intro m s h
  obtain ⟨n, n1, n2⟩ := key m s h
  have : whileD t body s = whN t body n s := while_of n rfl n1
  rw [this]
  exact n2
end
end RB

namespace RB
open PySem PySem.Spec PyProof.Rows L2
def mkLaw (P : Program) (w : World) (K : PySem.W.Frag) (mg : Str → Option Value) (base : Heap) : Law TkG where
  P := P
  w := w
  K := K
  mg := mg
  base := base
  RG := TkRG K
  stable := fun g θ H H' => TkRG.stable g θ H H'
/-- a def of the module -/
def DefAt (L : Law TkG) (x : Str) (st : Stmt) (ps : List Str) : Prop := ∃ f fd, Fun L.K x x st f fd ∧ L.mg x = some (.ref f) ∧ PySem.W.keepIn L.K (.ref f) = true ∧ Binds L.K fd ps []
def DefAtK (L : Law TkG) (x : Str) (st : Stmt) (ps : List Str) (n : Nat) (ks : List Str) (pm : List Nat) : Prop := ∃ f fd, Fun L.K x x st f fd ∧ L.mg x = some (.ref f) ∧ PySem.W.keepIn L.K (.ref f) = true ∧ KBn L.K fd ps n ks (pmL pm) (pmL pm)
theorem fun_kb {K : PySem.W.Frag} {x qual : Str} {st : Stmt} {f : Addr} {fd : FuncData} (F : Fun K x qual st f fd) {ps : List Str} {n : Nat} {ks : List Str} {pm : List Nat}
    (h : ∀ (kV doc m : Value) (an : Option Addr) (cdv ct : Value) (us ws : List Value), us.length = n → ws.length = ks.length → bindArgs (PySem.W.fnOf x qual (defArgs st) (defBody st) (defScope st) .none kV doc m an cdv ct) ⟨us, ks.zip ws⟩ = pure (ps.zip (pmL pm us ws))) : KBn K fd ps n ks (pmL pm) (pmL pm) := by
  obtain ⟨oc, od, kV, doc, m, an, cdv, ct, osl, rfl, lk, hcd⟩ := F.ex
  exact ⟨fun s us ws _ l1 l2 => .of_eq (h kV doc m an cdv ct us ws l1 l2), pm_vals⟩
theorem _root_.L2.FnOk.wk {P : Program} {w : World} {K : PySem.W.Frag} {mg : Str → Option Value} {base : Heap} {CX : CXT} {k : Nat} {f : Addr} {fd : FuncData} {ps : List Str} {sp sp' : Sp} (F : FnOk P w K mg base CX k f fd ps sp) (h : ∀ vs H Q E, sp' vs H Q E → sp vs H Q E) : FnOk P w K mg base CX k f fd ps sp' :=
  ⟨fun vs H Q E q => F.len vs H Q E (h _ _ _ _ q), fun A outer s H args us vs Q E hr e0 hb r q => F.run A outer s H args us vs Q E hr e0 hb r (h _ _ _ _ q)⟩
/-- what a law is to keep -/
def spLaw (K : PySem.W.Frag) (n : Nat) : Sp := fun vs H Q _ => ∃ (a : Addr) (ns : List Int), vs = [.ref a] ∧ SqL K H a (ns.map V.int) ∧ ns.length ≤ n ∧ (∀ z ∈ ns, Builtin.Int.intBits z ≤ 1048576) ∧ ∀ H', Q (.bl true) H'
theorem sp_law {L : Law TkG} (hT : TkLaw L) {n : Nat} {F : List D → TkG → Out TkG Vl} (ht : ∀ ns : List Int, ns.length ≤ n → (∀ z ∈ ns, Builtin.Int.intBits z ≤ 1048576) → ∃ g', F [.scr ns] [] = .ok (.dat (.bl true)) g') {vs : List V} {H : Hp} {Q : VK} {E : XK} (h : spLaw L.K n vs H Q E) : spD L 1 F vs H Q E := by
  obtain ⟨a, ns, rfl, hS, hl, hb, q⟩ := h
  obtain ⟨g', e⟩ := ht ns hl hb
  refine ⟨H, [], [.scr ns], [], rfl, fun _ _ z => z, fun _ z => (by cases z), fun _ z => (by cases z), ?_, Reps.mk ?_ (Reps.nil.mpr rfl), ?_⟩
  · rw [hT]
    exact ⟨List.nodup_nil, rfl, fun n c hc => by simp at hc⟩
  · simp only [Rep]
    exact ⟨a, rfl, hS⟩
  · rw [e]
    intro x H' B' θ' c r
    rw [rep_bl.mp (show Rep L.K θ' B' (.bl true) x from r)]
    exact q H'
end RB

namespace K38
open PySem PySem.Spec PyProof.Rows L2 RB
abbrev topS (i : Nat) : Stmt := PySem.Challenge.pw_rulesbehind_k38_drawn_logs_made_forms.main.body.getD i (.Pass ⟨0, 0, 0, 0⟩)
abbrev N_is_integer : List Str := ["thing"]
noncomputable def b_is_integer : SB TkG := (bCons (sRet (eBool (bAnd (eIsi (eVar 0) .int) (bOne (o := .And) (eNot (eIsi (eVar 0) .bool))))))
  bNil)
noncomputable def F_is_integer : List D → TkG → Out TkG Vl := runB 1 b_is_integer.den
noncomputable def fr_is_integer : FR TkG := ⟨"is_integer", 1, 1, F_is_integer⟩
theorem sc_is_integer : FnScope N_is_integer ["thing"] (defScope (topS 1)) := ⟨rfl, rfl, rfl, by decide +kernel, rfl, by decide +kernel, by decide +kernel⟩
theorem ck_is_integer : b_is_integer.chk ⟨N_is_integer, defScope (topS 1), fun _ => true⟩ (defBody (topS 1)) = true := by decide +kernel
abbrev N_chain_form : List Str := ["many"]
noncomputable def b_chain_form : SB TkG := (bCons (sRet (eTup (aCons (eTup (aCons (eStr ("n" : Str)) (aCons (eTup (aCons (eInt 0) (aCons (eVar 0) aNil))) aNil))) aNil)))
  bNil)
noncomputable def F_chain_form : List D → TkG → Out TkG Vl := runB 1 b_chain_form.den
noncomputable def fr_chain_form : FR TkG := ⟨"chain_form", 1, 1, F_chain_form⟩
theorem sc_chain_form : FnScope N_chain_form ["many"] (defScope (topS 18)) := ⟨rfl, rfl, rfl, by decide +kernel, rfl, by decide +kernel, by decide +kernel⟩
theorem ck_chain_form : b_chain_form.chk ⟨N_chain_form, defScope (topS 18), fun _ => true⟩ (defBody (topS 18)) = true := by decide +kernel
abbrev N_box_form : List Str := ["many", "place"]
noncomputable def k_box_form_1 : KI TkG := (kOne [(("place" : Str), 1)] (gN 1) (iRange (aCons (eVar 0) aNil)) qNil (eTup (aCons (eAdd (eStr ("x" : Str)) (eStrOf (eVar 1))) (aCons (eTup (aCons (eInt 0) (aCons (eInt 4) aNil))) aNil))))
noncomputable def b_box_form : SB TkG := (bCons (sRet (eTupOf (eK k_box_form_1)))
  bNil)
noncomputable def F_box_form : List D → TkG → Out TkG Vl := runB 2 b_box_form.den
noncomputable def fr_box_form : FR TkG := ⟨"box_form", 1, 1, F_box_form⟩
theorem sc_box_form : FnScope N_box_form ["many"] (defScope (topS 19)) := ⟨rfl, rfl, rfl, by decide +kernel, rfl, by decide +kernel, by decide +kernel⟩
theorem ck_box_form : b_box_form.chk ⟨N_box_form, defScope (topS 19), fun _ => true⟩ (defBody (topS 19)) = true := by decide +kernel
abbrev N_switch_form : List Str := ["many", "place"]
noncomputable def k_switch_form_1 : KI TkG := (kOne [(("place" : Str), 1)] (gN 1) (iRange (aCons (eVar 0) aNil)) qNil (eTup (aCons (eAdd (eStr ("s" : Str)) (eStrOf (eVar 1))) (aCons (eTup (aCons (eStr ("off" : Str)) (aCons (eStr ("on" : Str)) aNil))) aNil))))
noncomputable def b_switch_form : SB TkG := (bCons (sRet (eTupOf (eK k_switch_form_1)))
  bNil)
noncomputable def F_switch_form : List D → TkG → Out TkG Vl := runB 2 b_switch_form.den
noncomputable def fr_switch_form : FR TkG := ⟨"switch_form", 1, 1, F_switch_form⟩
theorem sc_switch_form : FnScope N_switch_form ["many"] (defScope (topS 20)) := ⟨rfl, rfl, rfl, by decide +kernel, rfl, by decide +kernel, by decide +kernel⟩
theorem ck_switch_form : b_switch_form.chk ⟨N_switch_form, defScope (topS 20), fun _ => true⟩ (defBody (topS 20)) = true := by decide +kernel
abbrev N__law_loom : List Str := ["script", "yarns", "start", "yarn", "cell"]
noncomputable def l__law_loom_1 : SB TkG := (bCons (sSet 2 (eMod (eIntOf (eAdd (eMul (eVar 2) (eInt 97)) (eVar 3))) (eInt 987013)))
  bNil)
noncomputable def k__law_loom_1 : KI TkG := (kOne [(("cell" : Str), 4)] (gN 4) (iSeq (eSl (eVar 0) oNone (oSome (eInt 61)))) qNil (eAbs (eIntOf (eVar 4))))
noncomputable def b__law_loom : SB TkG := (bCons (sSetC 1 (kTok k__law_loom_1))
  (bCons (sSet 2 (eInt 41))
  (bCons (sForT (gN 3) (eVar 1) l__law_loom_1)
  (bCons (sRet (eTok (eLst (aCons (eVar 1) (aCons (eInt 0) (aCons (eVar 2) aNil))))))
  bNil))))
noncomputable def F__law_loom : List D → TkG → Out TkG Vl := runB 5 b__law_loom.den
noncomputable def fr__law_loom : FR TkG := ⟨"_law_loom", 1, 1, F__law_loom⟩
theorem sc__law_loom : FnScope N__law_loom ["script"] (defScope (topS 22)) := ⟨rfl, rfl, rfl, by decide +kernel, rfl, by decide +kernel, by decide +kernel⟩
theorem ck__law_loom : b__law_loom.chk ⟨N__law_loom, defScope (topS 22), fun _ => true⟩ (defBody (topS 22)) = true := by decide +kernel
abbrev N__law_weave : List Str := ["loom", "many", "turn", "yarn", "at", "one", "two"]
noncomputable def b__law_weave : SB TkG := (bCons (sSet 2 (eTIx (eVar 0) (eInt 1)))
  (bCons (sIxSet (eVar 0) (eInt 1) (eAdd (eVar 2) (eInt 1)))
  (bCons (sSet 3 (eInt 13))
  (bCons (sIf (tC' (cGt (eLen (eTIx (eVar 0) (eInt 0))) (eInt 0)))
  (bCons (sSet 4 (eMod (eIntOf (eVar 2)) (eLen (eTIx (eVar 0) (eInt 0)))))
  (bCons (sSet 3 (eTIx (eTIx (eVar 0) (eInt 0)) (eVar 4)))
  (bCons (sIf (tC' (cGe (eVar 3) (ePow (eInt 10) (eInt 18))))
  (bCons (sIxSet (eTIx (eVar 0) (eInt 0)) (eVar 4) (eFdiv (eVar 3) (eVar 1)))
  (bCons (sRet (eMod (eIntOf (eVar 3)) (eVar 1)))
  bNil))
  bNil)
  bNil)))
  bNil)
  (bCons (sSet 5 (eMod (eIntOf (eAdd (eAdd (eMul (eAdd (eMod (eIntOf (eVar 3)) (eInt 1000151)) (eInt 7)) (eInt 52361)) (eMul (eVar 2) (eInt 8419))) (eMul (eTIx (eVar 0) (eInt 2)) (eInt 43)))) (eInt 2147483549)))
  (bCons (sSet 6 (eMod (eIntOf (eAdd (eAdd (eMul (eVar 5) (eVar 5)) (eMul (eVar 2) (eInt 91193))) (eInt 37))) (eInt 2147483543)))
  (bCons (sRet (eMod (eIntOf (eFdiv (eVar 6) (eInt 13))) (eVar 1)))
  bNil)))))))
noncomputable def F__law_weave : List D → TkG → Out TkG Vl := runB 7 b__law_weave.den
noncomputable def fr__law_weave : FR TkG := ⟨"_law_weave", 2, 1, F__law_weave⟩
theorem sc__law_weave : FnScope N__law_weave ["loom", "many"] (defScope (topS 23)) := ⟨rfl, rfl, rfl, by decide +kernel, rfl, by decide +kernel, by decide +kernel⟩
theorem ck__law_weave : b__law_weave.chk ⟨N__law_weave, defScope (topS 23), fun _ => true⟩ (defBody (topS 23)) = true := by decide +kernel
abbrev N__law_same : List Str := ["told", "due", "rest", "one", "other", "k"]
noncomputable def k__law_same_1 : KI TkG := (kOne [(("k" : Str), 5)] (gN 5) (iRange (aCons (eLen (eVar 4)) aNil)) qNil (eTup (aCons (eIx (eVar 3) (eVar 5)) (aCons (eIx (eVar 4) (eVar 5)) aNil))))
noncomputable def t__law_same_1 : TI' TkG := (tC' (cGt (eLen (eVar 2)) (eInt 0)))
noncomputable def l__law_same_1 : SB TkG := (bCons (sAsg (gT 2 (gsCons (gN 3) (gsCons (gN 4) gsNil))) (mPopE (eVar 2)))
  (bCons (sIf (tC' (cIs (eVar 4) eNon))
  (bCons (sIf (tC' (cIsNot (eVar 3) eNon))
  (bCons (sRet (eBl false))
  bNil)
  bNil)
  bNil)
  (bCons (sIf (tV (eIsi (eVar 4) .bool))
  (bCons (sIf (tBool (wOr (tNt (tV (eIsi (eVar 3) .bool))) (wOne .Or (tC' (cNe (eVar 3) (eVar 4))))))
  (bCons (sRet (eBl false))
  bNil)
  bNil)
  bNil)
  (bCons (sIf (tV (eIsi (eVar 4) .int))
  (bCons (sIf (tBool (wOr (tNt (tV (eIsi (eVar 3) .int))) (wOr (tV (eIsi (eVar 3) .bool)) (wOne .Or (tC' (cNe (eVar 3) (eVar 4)))))))
  (bCons (sRet (eBl false))
  bNil)
  bNil)
  bNil)
  (bCons (sIf (tV (eIsi (eVar 4) .str))
  (bCons (sIf (tBool (wOr (tNt (tV (eIsi (eVar 3) .str))) (wOne .Or (tC' (cNe (eVar 3) (eVar 4))))))
  (bCons (sRet (eBl false))
  bNil)
  bNil)
  bNil)
  (bCons (sIf (tBool (wOr (tNt (tV (eIsi (eVar 3) .tuple))) (wOne .Or (tC' (cNe (eLen (eVar 3)) (eLen (eVar 4)))))))
  (bCons (sRet (eBl false))
  bNil)
  (bCons (sExpr (mExtendE (eVar 2) (eK k__law_same_1)))
  bNil))
  bNil))
  bNil))
  bNil))
  bNil))
  bNil))
noncomputable def b__law_same : SB TkG := (bCons (sSet 2 (eLst (aCons (eTup (aCons (eVar 0) (aCons (eVar 1) aNil))) aNil)))
  (bCons (sWhile t__law_same_1 l__law_same_1)
  (bCons (sRet (eBl true))
  bNil)))
noncomputable def F__law_same : List D → TkG → Out TkG Vl := runB 6 b__law_same.den
noncomputable def fr__law_same : FR TkG := ⟨"_law_same", 2, 1, F__law_same⟩
theorem sc__law_same : FnScope N__law_same ["told", "due"] (defScope (topS 25)) := ⟨rfl, rfl, rfl, by decide +kernel, rfl, by decide +kernel, by decide +kernel⟩
theorem ck__law_same : b__law_same.chk ⟨N__law_same, defScope (topS 25), fun _ => true⟩ (defBody (topS 25)) = true := by decide +kernel
abbrev N__law_bag : List Str := ["told"]
noncomputable def b__law_bag : SB TkG := (bCons (sSet 0 (eLst (aCons (eStr ("a" : Str)) (aCons (eStr ("b" : Str)) (aCons (eStr ("c" : Str)) (aCons (eStr ("hour" : Str)) (aCons (eStr ("kind" : Str)) (aCons (eStr ("old" : Str)) (aCons (eStr ("x1" : Str)) (aCons (eStr ("zeta" : Str)) (aCons (eStr ("n" : Str)) (aCons (eStr ("m9" : Str)) (aCons (eStr ("on" : Str)) (aCons (eStr ("off" : Str)) (aCons (eStr ("bill" : Str)) (aCons (eStr ("note" : Str)) (aCons (eStr ("plan" : Str)) (aCons (eStr ("no" : Str)) aNil))))))))))))))))))
  (bCons (sRet (eAdd (eVar 0) (eLst (aCons (eStr ("yes" : Str)) (aCons (eStr ("k" : Str)) (aCons (eStr ("q2" : Str)) (aCons (eStr ("aaaaaaaa" : Str)) (aCons (eStr ("z" : Str)) (aCons (eStr ("w0" : Str)) (aCons (eStr ("far" : Str)) (aCons (eStr ("done7" : Str)) (aCons (eStr ("h" : Str)) (aCons (eStr ("t" : Str)) aNil)))))))))))))
  bNil))
noncomputable def F__law_bag : List D → TkG → Out TkG Vl := runB 1 b__law_bag.den
noncomputable def fr__law_bag : FR TkG := ⟨"_law_bag", 0, 1, F__law_bag⟩
theorem sc__law_bag : FnScope N__law_bag [] (defScope (topS 26)) := ⟨rfl, rfl, rfl, by decide +kernel, rfl, by decide +kernel, by decide +kernel⟩
theorem ck__law_bag : b__law_bag.chk ⟨N__law_bag, defScope (topS 26), fun _ => true⟩ (defBody (topS 26)) = true := by decide +kernel
abbrev N__law_numbers : List Str := ["field"]
noncomputable def b__law_numbers : SB TkG := (bCons (sRet (eIsi (eIx (eIx (eVar 0) (eInt 1)) (eInt 0)) .int))
  bNil)
noncomputable def F__law_numbers : List D → TkG → Out TkG Vl := runB 1 b__law_numbers.den
noncomputable def fr__law_numbers : FR TkG := ⟨"_law_numbers", 1, 1, F__law_numbers⟩
theorem sc__law_numbers : FnScope N__law_numbers ["field"] (defScope (topS 28)) := ⟨rfl, rfl, rfl, by decide +kernel, rfl, by decide +kernel, by decide +kernel⟩
theorem ck__law_numbers : b__law_numbers.chk ⟨N__law_numbers, defScope (topS 28), fun _ => true⟩ (defBody (topS 28)) = true := by decide +kernel
abbrev N_is_number_field : List Str := ["form", "place"]
noncomputable def b_is_number_field : SB TkG := (bCons (sRet (eCall fr_is_integer (aCons (eIx (eIx (eIx (eVar 0) (eVar 1)) (eInt 1)) (eInt 0)) aNil)))
  bNil)
noncomputable def F_is_number_field : List D → TkG → Out TkG Vl := runB 2 b_is_number_field.den
noncomputable def fr_is_number_field : FR TkG := ⟨"is_number_field", 2, 2, F_is_number_field⟩
theorem sc_is_number_field : FnScope N_is_number_field ["form", "place"] (defScope (topS 3)) := ⟨rfl, rfl, rfl, by decide +kernel, rfl, by decide +kernel, by decide +kernel⟩
theorem ck_is_number_field : b_is_number_field.chk ⟨N_is_number_field, defScope (topS 3), fun _ => true⟩ (defBody (topS 3)) = true := by decide +kernel
abbrev N_is_number_condition : List Str := ["condition"]
noncomputable def b_is_number_condition : SB TkG := (bCons (sRet (eCall fr_is_integer (aCons (eIx (eVar 0) (eInt 0)) aNil)))
  bNil)
noncomputable def F_is_number_condition : List D → TkG → Out TkG Vl := runB 1 b_is_number_condition.den
noncomputable def fr_is_number_condition : FR TkG := ⟨"is_number_condition", 1, 2, F_is_number_condition⟩
theorem sc_is_number_condition : FnScope N_is_number_condition ["condition"] (defScope (topS 9)) := ⟨rfl, rfl, rfl, by decide +kernel, rfl, by decide +kernel, by decide +kernel⟩
theorem ck_is_number_condition : b_is_number_condition.chk ⟨N_is_number_condition, defScope (topS 9), fun _ => true⟩ (defBody (topS 9)) = true := by decide +kernel
abbrev N__law_of : List Str := ["loom", "row"]
noncomputable def b__law_of : SB TkG := (bCons (sRet (eIx (eVar 1) (eCall fr__law_weave (aCons (eVar 0) (aCons (eLen (eVar 1)) aNil)))))
  bNil)
noncomputable def F__law_of : List D → TkG → Out TkG Vl := runB 2 b__law_of.den
noncomputable def fr__law_of : FR TkG := ⟨"_law_of", 2, 2, F__law_of⟩
theorem sc__law_of : FnScope N__law_of ["loom", "row"] (defScope (topS 24)) := ⟨rfl, rfl, rfl, by decide +kernel, rfl, by decide +kernel, by decide +kernel⟩
theorem ck__law_of : b__law_of.chk ⟨N__law_of, defScope (topS 24), fun _ => true⟩ (defBody (topS 24)) = true := by decide +kernel
abbrev N__law_form : List Str := ["loom", "fields", "most", "heads", "told", "rules", "lap", "many", "name", "least", "here", "field", "words", "picked", "k"]
noncomputable def k__law_form_1 : KI TkG := (kOne [(("k" : Str), 14)] (gN 14) (iRange (aCons (eVar 7) aNil)) qNil (mPopAtE (eVar 12) (eCall fr__law_weave (aCons (eVar 0) (aCons (eLen (eVar 12)) aNil)))))
noncomputable def l__law_form_1 : SB TkG := (bCons (sSet 7 (eAdd (eInt 2) (eCall fr__law_weave (aCons (eVar 0) (aCons (eInt 3) aNil)))))
  (bCons (sSet 8 (mPopAtE (eVar 3) (eCall fr__law_weave (aCons (eVar 0) (aCons (eLen (eVar 3)) aNil)))))
  (bCons (sIf (tC' (cEq (eCall fr__law_weave (aCons (eVar 0) (aCons (eInt 2) aNil))) (eInt 0)))
  (bCons (sSet 9 (eIx (eLst (aCons (eNeg (eInt 3)) (aCons (eNeg (eInt 1)) (aCons (eInt 0) (aCons (eInt 1) (aCons (eNeg (eInt 40)) (aCons (eSub (eInt 41) (eVar 7)) aNil))))))) (eCall fr__law_weave (aCons (eVar 0) (aCons (eInt 6) aNil)))))
  (bCons (sSet 10 (eFdiv (eMul (eVar 7) (eAdd (eVar 7) (eInt 1))) (eInt 2)))
  (bCons (sSet 11 (eTup (aCons (eVar 8) (aCons (eTup (aCons (eVar 9) (aCons (eSub (eAdd (eVar 9) (eVar 7)) (eInt 1)) aNil))) aNil))))
  bNil)))
  (bCons (sSet 12 (eCall0 fr__law_bag))
  (bCons (sSetC 13 k__law_form_1)
  (bCons (sSet 10 (eIx (eLst (aCons (eInt 0) (aCons (eInt 1) (aCons (eInt 3) (aCons (eInt 7) (aCons (eInt 15) aNil)))))) (eVar 7)))
  (bCons (sSet 11 (eTup (aCons (eVar 8) (aCons (eTupOf (eSorted (eVar 13))) aNil))))
  bNil)))))
  (bCons (sIf (tC' (cLe (eMul (eVar 5) (eVar 10)) (eVar 2)))
  (bCons (sExpr (mAppendE (eVar 4) (eVar 11)))
  (bCons (sSet 5 (eMul (eVar 5) (eVar 10)))
  bNil))
  bNil)
  bNil))))
noncomputable def b__law_form : SB TkG := (bCons (sSet 3 (eCall0 fr__law_bag))
  (bCons (sSet 4 (eLst aNil))
  (bCons (sSet 5 (eInt 1))
  (bCons (sFor (gN 6) (iRange (aCons (eAdd (eInt 1) (eCall fr__law_weave (aCons (eVar 0) (aCons (eVar 1) aNil)))) aNil)) l__law_form_1)
  (bCons (sRet (eIf (tC' (cGt (eLen (eVar 4)) (eInt 0))) (eTupOf (eVar 4)) (eTup (aCons (eTup (aCons (eIx (eVar 3) (eInt 0)) (aCons (eTup (aCons (eInt 0) (aCons (eInt 1) aNil))) aNil))) aNil))))
  bNil)))))
noncomputable def F__law_form : List D → TkG → Out TkG Vl := runB 15 b__law_form.den
noncomputable def fr__law_form : FR TkG := ⟨"_law_form", 3, 2, F__law_form⟩
theorem sc__law_form : FnScope N__law_form ["loom", "fields", "most"] (defScope (topS 27)) := ⟨rfl, rfl, rfl, by decide +kernel, rfl, by decide +kernel, by decide +kernel⟩
theorem ck__law_form : b__law_form.chk ⟨N__law_form, defScope (topS 27), fun _ => true⟩ (defBody (topS 27)) = true := by decide +kernel
abbrev N__law_values : List Str := ["field"]
noncomputable def b__law_values : SB TkG := (bCons (sRet (eIf (tV (eCall fr__law_numbers (aCons (eVar 0) aNil))) (eLstRg (rg2 (eIx (eIx (eVar 0) (eInt 1)) (eInt 0)) (eAdd (eIx (eIx (eVar 0) (eInt 1)) (eInt 1)) (eInt 1)))) (eLstOf (eIx (eVar 0) (eInt 1)))))
  bNil)
noncomputable def F__law_values : List D → TkG → Out TkG Vl := runB 1 b__law_values.den
noncomputable def fr__law_values : FR TkG := ⟨"_law_values", 1, 2, F__law_values⟩
theorem sc__law_values : FnScope N__law_values ["field"] (defScope (topS 29)) := ⟨rfl, rfl, rfl, by decide +kernel, rfl, by decide +kernel, by decide +kernel⟩
theorem ck__law_values : b__law_values.chk ⟨N__law_values, defScope (topS 29), fun _ => true⟩ (defBody (topS 29)) = true := by decide +kernel
abbrev N__law_lets : List Str := ["form", "rule", "case", "k"]
noncomputable def l__law_lets_1 : SB TkG := (bCons (sIf (tV (eCall fr__law_numbers (aCons (eIx (eVar 0) (eVar 3)) aNil)))
  (bCons (sIf (tBool (wOr (tC' (cLt (eIx (eVar 2) (eVar 3)) (eIx (eIx (eVar 1) (eVar 3)) (eInt 0)))) (wOne .Or (tC' (cGt (eIx (eVar 2) (eVar 3)) (eIx (eIx (eVar 1) (eVar 3)) (eInt 1)))))))
  (bCons (sRet (eBl false))
  bNil)
  bNil)
  bNil)
  (bCons (sIf (tC' (cNotIn (eIx (eVar 2) (eVar 3)) (eIx (eVar 1) (eVar 3))))
  (bCons (sRet (eBl false))
  bNil)
  bNil)
  bNil))
  bNil)
noncomputable def b__law_lets : SB TkG := (bCons (sIf (tC' (cIs (eVar 1) eNon))
  (bCons (sRet (eBl false))
  bNil)
  bNil)
  (bCons (sFor (gN 3) (iRange (aCons (eLen (eVar 0)) aNil)) l__law_lets_1)
  (bCons (sRet (eBl true))
  bNil)))
noncomputable def F__law_lets : List D → TkG → Out TkG Vl := runB 4 b__law_lets.den
noncomputable def fr__law_lets : FR TkG := ⟨"_law_lets", 3, 2, F__law_lets⟩
theorem sc__law_lets : FnScope N__law_lets ["form", "rule", "case"] (defScope (topS 30)) := ⟨rfl, rfl, rfl, by decide +kernel, rfl, by decide +kernel, by decide +kernel⟩
theorem ck__law_lets : b__law_lets.chk ⟨N__law_lets, defScope (topS 30), fun _ => true⟩ (defBody (topS 30)) = true := by decide +kernel
abbrev N__law_numbers_of : List Str := ["loom", "many", "told", "lap", "number", "far"]
noncomputable def l__law_numbers_of_1 : SB TkG := (bCons (sSet 4 (eCall fr__law_weave (aCons (eVar 0) (aCons (eVar 1) aNil))))
  (bCons (sSet 5 (eAdd (eVar 4) (eMul (ePow (eInt 10) (eInt 18)) (eAdd (eInt 1) (eCall fr__law_weave (aCons (eVar 0) (aCons (eInt 9) aNil)))))))
  (bCons (sExpr (mAppendE (eVar 2) (eIx (eLst (aCons (eVar 4) (aCons (eVar 4) (aCons (eSub (eVar 1) (eInt 1)) (aCons (eVar 1) (aCons (eAdd (eVar 4) (eVar 1)) (aCons (eVar 5) aNil))))))) (eCall fr__law_weave (aCons (eVar 0) (aCons (eInt 6) aNil))))))
  bNil)))
noncomputable def b__law_numbers_of : SB TkG := (bCons (sSet 2 (eLst aNil))
  (bCons (sFor (gN 3) (iRange (aCons (eCall fr__law_weave (aCons (eVar 0) (aCons (eInt 13) aNil))) aNil)) l__law_numbers_of_1)
  (bCons (sRet (eTupOf (eVar 2)))
  bNil)))
noncomputable def F__law_numbers_of : List D → TkG → Out TkG Vl := runB 6 b__law_numbers_of.den
noncomputable def fr__law_numbers_of : FR TkG := ⟨"_law_numbers_of", 2, 2, F__law_numbers_of⟩
theorem sc__law_numbers_of : FnScope N__law_numbers_of ["loom", "many"] (defScope (topS 34)) := ⟨rfl, rfl, rfl, by decide +kernel, rfl, by decide +kernel, by decide +kernel⟩
theorem ck__law_numbers_of : b__law_numbers_of.chk ⟨N__law_numbers_of, defScope (topS 34), fun _ => true⟩ (defBody (topS 34)) = true := by decide +kernel
abbrev N_values_of : List Str := ["form", "place", "span"]
noncomputable def b_values_of : SB TkG := (bCons (sSet 2 (eIx (eIx (eVar 0) (eVar 1)) (eInt 1)))
  (bCons (sRet (eIf (tV (eCall fr_is_number_field (aCons (eVar 0) (aCons (eVar 1) aNil)))) (eTupRg (rg2 (eIx (eVar 2) (eInt 0)) (eAdd (eIx (eVar 2) (eInt 1)) (eInt 1)))) (eVar 2)))
  bNil))
noncomputable def F_values_of : List D → TkG → Out TkG Vl := runB 3 b_values_of.den
noncomputable def fr_values_of : FR TkG := ⟨"values_of", 2, 3, F_values_of⟩
theorem sc_values_of : FnScope N_values_of ["form", "place"] (defScope (topS 4)) := ⟨rfl, rfl, rfl, by decide +kernel, rfl, by decide +kernel, by decide +kernel⟩
theorem ck_values_of : b_values_of.chk ⟨N_values_of, defScope (topS 4), fun _ => true⟩ (defBody (topS 4)) = true := by decide +kernel
abbrev N_takes : List Str := ["condition", "value"]
noncomputable def b_takes : SB TkG := (bCons (sIf (tV (eCall fr_is_number_condition (aCons (eVar 0) aNil)))
  (bCons (sRet (eC (cLeLe (eIx (eVar 0) (eInt 0)) (eVar 1) (eIx (eVar 0) (eInt 1)))))
  bNil)
  bNil)
  (bCons (sRet (eC (cIn (eVar 1) (eVar 0))))
  bNil))
noncomputable def F_takes : List D → TkG → Out TkG Vl := runB 2 b_takes.den
noncomputable def fr_takes : FR TkG := ⟨"takes", 2, 3, F_takes⟩
theorem sc_takes : FnScope N_takes ["condition", "value"] (defScope (topS 10)) := ⟨rfl, rfl, rfl, by decide +kernel, rfl, by decide +kernel, by decide +kernel⟩
theorem ck_takes : b_takes.chk ⟨N_takes, defScope (topS 10), fun _ => true⟩ (defBody (topS 10)) = true := by decide +kernel
abbrev N__law_rule : List Str := ["loom", "form", "told", "field", "values", "one", "other", "some", "value"]
noncomputable def k__law_rule_1 : KI TkG := (kOne [(("value" : Str), 8)] (gN 8) (iSeq (eVar 4)) (qOne (tC' (cEq (eCall fr__law_weave (aCons (eVar 0) (aCons (eInt 2) aNil))) (eInt 0)))) (eVar 8))
noncomputable def l__law_rule_1 : SB TkG := (bCons (sSet 4 (eCall fr__law_values (aCons (eVar 3) aNil)))
  (bCons (sIf (tV (eCall fr__law_numbers (aCons (eVar 3) aNil)))
  (bCons (sPar2 5 6 (eCall fr__law_of (aCons (eVar 0) (aCons (eVar 4) aNil))) (eCall fr__law_of (aCons (eVar 0) (aCons (eVar 4) aNil))))
  (bCons (sExpr (mAppendE (eVar 2) (eTup (aCons (eMin2 (eVar 5) (eVar 6)) (aCons (eMax2 (eVar 5) (eVar 6)) aNil)))))
  bNil))
  (bCons (sSetC 7 k__law_rule_1)
  (bCons (sExpr (mAppendE (eVar 2) (eIf (tC' (cGt (eLen (eVar 7)) (eInt 0))) (eTupOf (eVar 7)) (eTup (aCons (eCall fr__law_of (aCons (eVar 0) (aCons (eVar 4) aNil))) aNil)))))
  bNil)))
  bNil))
noncomputable def b__law_rule : SB TkG := (bCons (sIf (tC' (cEq (eCall fr__law_weave (aCons (eVar 0) (aCons (eInt 7) aNil))) (eInt 0)))
  (bCons (sRet eNon)
  bNil)
  bNil)
  (bCons (sSet 2 (eLst aNil))
  (bCons (sFor (gN 3) (iSeq (eVar 1)) l__law_rule_1)
  (bCons (sRet (eTupOf (eVar 2)))
  bNil))))
noncomputable def F__law_rule : List D → TkG → Out TkG Vl := runB 9 b__law_rule.den
noncomputable def fr__law_rule : FR TkG := ⟨"_law_rule", 2, 3, F__law_rule⟩
theorem sc__law_rule : FnScope N__law_rule ["loom", "form"] (defScope (topS 31)) := ⟨rfl, rfl, rfl, by decide +kernel, rfl, by decide +kernel, by decide +kernel⟩
theorem ck__law_rule : b__law_rule.chk ⟨N__law_rule, defScope (topS 31), fun _ => true⟩ (defBody (topS 31)) = true := by decide +kernel
abbrev N__law_nth : List Str := ["form", "number", "told", "left", "field", "values"]
noncomputable def l__law_nth_1 : SB TkG := (bCons (sSet 5 (eCall fr__law_values (aCons (eVar 4) aNil)))
  (bCons (sSet 2 (eAdd (eTup (aCons (eIx (eVar 5) (eMod (eIntOf (eVar 3)) (eLen (eVar 5)))) aNil)) (eVar 2)))
  (bCons (sSet 3 (eFdiv (eVar 3) (eLen (eVar 5))))
  bNil)))
noncomputable def b__law_nth : SB TkG := (bCons (sSet 2 (eTup aNil))
  (bCons (sSet 3 (eVar 1))
  (bCons (sFor (gN 4) (iSeq (eRev (eVar 0))) l__law_nth_1)
  (bCons (sRet (eVar 2))
  bNil))))
noncomputable def F__law_nth : List D → TkG → Out TkG Vl := runB 6 b__law_nth.den
noncomputable def fr__law_nth : FR TkG := ⟨"_law_nth", 2, 3, F__law_nth⟩
theorem sc__law_nth : FnScope N__law_nth ["form", "number"] (defScope (topS 32)) := ⟨rfl, rfl, rfl, by decide +kernel, rfl, by decide +kernel, by decide +kernel⟩
theorem ck__law_nth : b__law_nth.chk ⟨N__law_nth, defScope (topS 32), fun _ => true⟩ (defBody (topS 32)) = true := by decide +kernel
abbrev N_value_count : List Str := ["form", "place"]
noncomputable def b_value_count : SB TkG := (bCons (sRet (eLen (eCall fr_values_of (aCons (eVar 0) (aCons (eVar 1) aNil)))))
  bNil)
noncomputable def F_value_count : List D → TkG → Out TkG Vl := runB 2 b_value_count.den
noncomputable def fr_value_count : FR TkG := ⟨"value_count", 2, 4, F_value_count⟩
theorem sc_value_count : FnScope N_value_count ["form", "place"] (defScope (topS 5)) := ⟨rfl, rfl, rfl, by decide +kernel, rfl, by decide +kernel, by decide +kernel⟩
theorem ck_value_count : b_value_count.chk ⟨N_value_count, defScope (topS 5), fun _ => true⟩ (defBody (topS 5)) = true := by decide +kernel
abbrev N_lets : List Str := ["rule", "case", "condition", "value"]
noncomputable def k_lets_1 : KI TkG := (kOne [(("condition" : Str), 2), (("value" : Str), 3)] (gT 2 (gsCons (gN 2) (gsCons (gN 3) gsNil))) (iZip (aCons (eVar 0) (aCons (eVar 1) aNil))) qNil (eCall fr_takes (aCons (eVar 2) (aCons (eVar 3) aNil))))
noncomputable def b_lets : SB TkG := (bCons (sIf (tC' (cIs (eVar 0) eNon))
  (bCons (sRet (eBl false))
  bNil)
  bNil)
  (bCons (sRet (eAll (eK k_lets_1)))
  bNil))
noncomputable def F_lets : List D → TkG → Out TkG Vl := runB 4 b_lets.den
noncomputable def fr_lets : FR TkG := ⟨"lets", 2, 4, F_lets⟩
theorem sc_lets : FnScope N_lets ["rule", "case"] (defScope (topS 11)) := ⟨rfl, rfl, rfl, by decide +kernel, rfl, by decide +kernel, by decide +kernel⟩
theorem ck_lets : b_lets.chk ⟨N_lets, defScope (topS 11), fun _ => true⟩ (defBody (topS 11)) = true := by decide +kernel
abbrev N__law_due : List Str := ["form", "deed", "rule", "numbers", "told", "number", "case"]
noncomputable def l__law_due_1 : SB TkG := (bCons (sSet 6 (eCall fr__law_nth (aCons (eVar 0) (aCons (eVar 5) aNil))))
  (bCons (sExpr (mAppendE (eVar 4) (eTup (aCons (eVar 1) (aCons (eVar 6) (aCons (eIf (tV (eCall fr__law_lets (aCons (eVar 0) (aCons (eVar 2) (aCons (eVar 6) aNil))))) (eStr ("let" : Str)) (eStr ("refused" : Str))) aNil))))))
  bNil))
noncomputable def b__law_due : SB TkG := (bCons (sSet 4 (eLst aNil))
  (bCons (sFor (gN 5) (iSeq (eVar 3)) l__law_due_1)
  (bCons (sRet (eTupOf (eVar 4)))
  bNil)))
noncomputable def F__law_due : List D → TkG → Out TkG Vl := runB 7 b__law_due.den
noncomputable def fr__law_due : FR TkG := ⟨"_law_due", 4, 4, F__law_due⟩
theorem sc__law_due : FnScope N__law_due ["form", "deed", "rule", "numbers"] (defScope (topS 33)) := ⟨rfl, rfl, rfl, by decide +kernel, rfl, by decide +kernel, by decide +kernel⟩
theorem ck__law_due : b__law_due.chk ⟨N__law_due, defScope (topS 33), fun _ => true⟩ (defBody (topS 33)) = true := by decide +kernel
abbrev N_case_count : List Str := ["form", "told", "place"]
noncomputable def l_case_count_1 : SB TkG := (bCons (sSet 1 (eMul (eVar 1) (eCall fr_value_count (aCons (eVar 0) (aCons (eVar 2) aNil)))))
  bNil)
noncomputable def b_case_count : SB TkG := (bCons (sSet 1 (eInt 1))
  (bCons (sFor (gN 2) (iRange (aCons (eLen (eVar 0)) aNil)) l_case_count_1)
  (bCons (sRet (eVar 1))
  bNil)))
noncomputable def F_case_count : List D → TkG → Out TkG Vl := runB 3 b_case_count.den
noncomputable def fr_case_count : FR TkG := ⟨"case_count", 1, 5, F_case_count⟩
theorem sc_case_count : FnScope N_case_count ["form"] (defScope (topS 6)) := ⟨rfl, rfl, rfl, by decide +kernel, rfl, by decide +kernel, by decide +kernel⟩
theorem ck_case_count : b_case_count.chk ⟨N_case_count, defScope (topS 6), fun _ => true⟩ (defBody (topS 6)) = true := by decide +kernel
abbrev N_answered : List Str := ["log", "deed", "rule", "case"]
noncomputable def b_answered : SB TkG := (bCons (sRet (eAdd (eVar 0) (eTup (aCons (eTup (aCons (eVar 1) (aCons (eVar 3) (aCons (eIf (tV (eCall fr_lets (aCons (eVar 2) (aCons (eVar 3) aNil)))) (eStr ("let" : Str)) (eStr ("refused" : Str))) aNil)))) aNil))))
  bNil)
noncomputable def F_answered : List D → TkG → Out TkG Vl := runB 4 b_answered.den
noncomputable def fr_answered : FR TkG := ⟨"answered", 4, 5, F_answered⟩
theorem sc_answered : FnScope N_answered ["log", "deed", "rule", "case"] (defScope (topS 13)) := ⟨rfl, rfl, rfl, by decide +kernel, rfl, by decide +kernel, by decide +kernel⟩
theorem ck_answered : b_answered.chk ⟨N_answered, defScope (topS 13), fun _ => true⟩ (defBody (topS 13)) = true := by decide +kernel
abbrev N_nth_case : List Str := ["form", "number", "rest", "case", "place", "values"]
noncomputable def l_nth_case_1 : SB TkG := (bCons (sSet 5 (eCall fr_values_of (aCons (eVar 0) (aCons (eVar 4) aNil))))
  (bCons (sSet 3 (eAdd (eTup (aCons (eIx (eVar 5) (eMod (eVar 2) (eLen (eVar 5)))) aNil)) (eVar 3)))
  (bCons (sSet 2 (eFdiv (eVar 2) (eLen (eVar 5))))
  bNil)))
noncomputable def b_nth_case : SB TkG := (bCons (sSet 2 (eMod (eVar 1) (eCall fr_case_count (aCons (eVar 0) aNil))))
  (bCons (sSet 3 (eTup aNil))
  (bCons (sFor (gN 4) (iRange (aCons (eSub (eLen (eVar 0)) (eInt 1)) (aCons (eNeg (eInt 1)) (aCons (eNeg (eInt 1)) aNil)))) l_nth_case_1)
  (bCons (sRet (eVar 3))
  bNil))))
noncomputable def F_nth_case : List D → TkG → Out TkG Vl := runB 6 b_nth_case.den
noncomputable def fr_nth_case : FR TkG := ⟨"nth_case", 2, 6, F_nth_case⟩
theorem sc_nth_case : FnScope N_nth_case ["form", "number"] (defScope (topS 7)) := ⟨rfl, rfl, rfl, by decide +kernel, rfl, by decide +kernel, by decide +kernel⟩
theorem ck_nth_case : b_nth_case.chk ⟨N_nth_case, defScope (topS 7), fun _ => true⟩ (defBody (topS 7)) = true := by decide +kernel
abbrev N_drawn_log : List Str := ["form", "deed", "rule", "numbers", "log", "number"]
noncomputable def l_drawn_log_1 : SB TkG := (bCons (sSet 4 (eCall fr_answered (aCons (eVar 4) (aCons (eVar 1) (aCons (eVar 2) (aCons (eCall fr_nth_case (aCons (eVar 0) (aCons (eVar 5) aNil))) aNil))))))
  bNil)
noncomputable def b_drawn_log : SB TkG := (bCons (sSet 4 (eTup aNil))
  (bCons (sFor (gN 5) (iSeq (eVar 3)) l_drawn_log_1)
  (bCons (sRet (eVar 4))
  bNil)))
noncomputable def F_drawn_log : List D → TkG → Out TkG Vl := runB 6 b_drawn_log.den
noncomputable def fr_drawn_log : FR TkG := ⟨"drawn_log", 4, 7, F_drawn_log⟩
theorem sc_drawn_log : FnScope N_drawn_log ["form", "deed", "rule", "numbers"] (defScope (topS 15)) := ⟨rfl, rfl, rfl, by decide +kernel, rfl, by decide +kernel, by decide +kernel⟩
theorem ck_drawn_log : b_drawn_log.chk ⟨N_drawn_log, defScope (topS 15), fun _ => true⟩ (defBody (topS 15)) = true := by decide +kernel
abbrev N_number_log : List Str := ["form", "deed", "rule", "many"]
noncomputable def b_number_log : SB TkG := (bCons (sRet (eCall fr_drawn_log (aCons (eVar 0) (aCons (eVar 1) (aCons (eVar 2) (aCons (eLstRg (rg1 (eVar 3))) aNil))))))
  bNil)
noncomputable def F_number_log : List D → TkG → Out TkG Vl := runB 4 b_number_log.den
noncomputable def fr_number_log : FR TkG := ⟨"number_log", 4, 8, F_number_log⟩
theorem sc_number_log : FnScope N_number_log ["form", "deed", "rule", "many"] (defScope (topS 16)) := ⟨rfl, rfl, rfl, by decide +kernel, rfl, by decide +kernel, by decide +kernel⟩
theorem ck_number_log : b_number_log.chk ⟨N_number_log, defScope (topS 16), fun _ => true⟩ (defBody (topS 16)) = true := by decide +kernel
abbrev N__law_asked : List Str := ["loom", "form", "many", "field", "deed", "rule", "numbers", "first", "due", "told"]
noncomputable def l__law_asked_1 : SB TkG := (bCons (sSet 2 (eMul (eVar 2) (eLen (eCall fr__law_values (aCons (eVar 3) aNil)))))
  bNil)
noncomputable def b__law_asked : SB TkG := (bCons (sSet 2 (eInt 1))
  (bCons (sFor (gN 3) (iSeq (eVar 1)) l__law_asked_1)
  (bCons (sSet 4 (eCall fr__law_of (aCons (eVar 0) (aCons (eCall0 fr__law_bag) aNil))))
  (bCons (sSet 5 (eCall fr__law_rule (aCons (eVar 0) (aCons (eVar 1) aNil))))
  (bCons (sSet 6 (eCall fr__law_numbers_of (aCons (eVar 0) (aCons (eVar 2) aNil))))
  (bCons (sIf (tNt (tV (eCall fr__law_same (aCons (eCallK0 fr_drawn_log [3, 2, 1, 0] (kwCons ("numbers" : Str) (eVar 6) (kwCons ("rule" : Str) (eVar 5) (kwCons ("deed" : Str) (eVar 4) (kwCons ("form" : Str) (eVar 1) kwNil))))) (aCons (eCall fr__law_due (aCons (eVar 1) (aCons (eVar 4) (aCons (eVar 5) (aCons (eVar 6) aNil))))) aNil)))))
  (bCons (sRet (eBl false))
  bNil)
  bNil)
  (bCons (sSet 7 (eMin2 (eVar 2) (eCall fr__law_of (aCons (eVar 0) (aCons (eLst (aCons (eInt 0) (aCons (eInt 1) (aCons (eInt 30) (aCons (eCall fr__law_weave (aCons (eVar 0) (aCons (eInt 31) aNil))) aNil))))) aNil)))))
  (bCons (sSet 8 (eCall fr__law_due (aCons (eVar 1) (aCons (eVar 4) (aCons (eVar 5) (aCons (eTupRg (rg1 (eVar 7))) aNil))))))
  (bCons (sSet 9 (eTup (aCons (eCall fr_number_log (aCons (eVar 1) (aCons (eVar 4) (aCons (eVar 5) (aCons (eVar 7) aNil))))) (aCons (eCall fr_drawn_log (aCons (eVar 1) (aCons (eVar 4) (aCons (eVar 5) (aCons (eTupRg (rg1 (eVar 7))) aNil))))) aNil))))
  (bCons (sRet (eCall fr__law_same (aCons (eVar 9) (aCons (eTup (aCons (eVar 8) (aCons (eVar 8) aNil))) aNil))))
  bNil))))))))))
noncomputable def F__law_asked : List D → TkG → Out TkG Vl := runB 10 b__law_asked.den
noncomputable def fr__law_asked : FR TkG := ⟨"_law_asked", 2, 9, F__law_asked⟩
theorem sc__law_asked : FnScope N__law_asked ["loom", "form"] (defScope (topS 35)) := ⟨rfl, rfl, rfl, by decide +kernel, rfl, by decide +kernel, by decide +kernel⟩
theorem ck__law_asked : b__law_asked.chk ⟨N__law_asked, defScope (topS 35), fun _ => true⟩ (defBody (topS 35)) = true := by decide +kernel
abbrev N__law_made : List Str := ["loom", "many", "boxes", "switches", "chain", "box", "switch", "two", "due", "k"]
noncomputable def k__law_made_1 : KI TkG := (kOne [(("k" : Str), 9)] (gN 9) (iRange (aCons (eVar 3) aNil)) qNil (eTup (aCons (eAdd (eStr ("s" : Str)) (eStrOf (eVar 9))) (aCons (eTup (aCons (eStr ("off" : Str)) (aCons (eStr ("on" : Str)) aNil))) aNil))))
noncomputable def k__law_made_2 : KI TkG := (kOne [(("k" : Str), 9)] (gN 9) (iRange (aCons (eVar 2) aNil)) qNil (eTup (aCons (eAdd (eStr ("x" : Str)) (eStrOf (eVar 9))) (aCons (eTup (aCons (eInt 0) (aCons (eInt 4) aNil))) aNil))))
noncomputable def b__law_made : SB TkG := (bCons (sSet 1 (eAdd (eInt 1) (eCall fr__law_weave (aCons (eVar 0) (aCons (eInt 40) aNil)))))
  (bCons (sSet 2 (eAdd (eInt 1) (eCall fr__law_weave (aCons (eVar 0) (aCons (eInt 3) aNil)))))
  (bCons (sSet 3 (eAdd (eInt 1) (eCall fr__law_weave (aCons (eVar 0) (aCons (eInt 5) aNil)))))
  (bCons (sSet 4 (eTup (aCons (eTup (aCons (eStr ("n" : Str)) (aCons (eTup (aCons (eInt 0) (aCons (eVar 1) aNil))) aNil))) aNil)))
  (bCons (sSet 5 (eTupOf (eK k__law_made_2)))
  (bCons (sSet 6 (eTupOf (eK k__law_made_1)))
  (bCons (sIf (tNt (tV (eCall fr__law_same (aCons (eTup (aCons (eCall fr_chain_form (aCons (eVar 1) aNil)) (aCons (eCall fr_box_form (aCons (eVar 2) aNil)) (aCons (eCall fr_switch_form (aCons (eVar 3) aNil)) aNil)))) (aCons (eTup (aCons (eVar 4) (aCons (eVar 5) (aCons (eVar 6) aNil)))) aNil)))))
  (bCons (sRet (eBl false))
  bNil)
  bNil)
  (bCons (sSet 7 (eTup (aCons (eStr ("off" : Str)) (aCons (eStr ("on" : Str)) aNil))))
  (bCons (sSet 8 (eTup (aCons (eTup (aCons (eTup (aCons (eStr ("n" : Str)) (aCons (eTup (aCons (eInt 0) (aCons (eInt 1) aNil))) aNil))) aNil)) (aCons (eTup (aCons (eTup (aCons (eStr ("x0" : Str)) (aCons (eTup (aCons (eInt 0) (aCons (eInt 4) aNil))) aNil))) (aCons (eTup (aCons (eStr ("x1" : Str)) (aCons (eTup (aCons (eInt 0) (aCons (eInt 4) aNil))) aNil))) (aCons (eTup (aCons (eStr ("x2" : Str)) (aCons (eTup (aCons (eInt 0) (aCons (eInt 4) aNil))) aNil))) aNil)))) (aCons (eTup (aCons (eTup (aCons (eStr ("s0" : Str)) (aCons (eVar 7) aNil))) (aCons (eTup (aCons (eStr ("s1" : Str)) (aCons (eVar 7) aNil))) aNil))) aNil)))))
  (bCons (sIf (tNt (tV (eCall fr__law_same (aCons (eTup (aCons (eCallK0 fr_chain_form [0] (kwCons ("many" : Str) (eInt 1) kwNil)) (aCons (eCallK0 fr_box_form [0] (kwCons ("many" : Str) (eInt 3) kwNil)) (aCons (eCallK0 fr_switch_form [0] (kwCons ("many" : Str) (eInt 2) kwNil)) aNil)))) (aCons (eVar 8) aNil)))))
  (bCons (sRet (eBl false))
  bNil)
  bNil)
  (bCons (sRet (eCall fr__law_asked (aCons (eVar 0) (aCons (eCall fr__law_of (aCons (eVar 0) (aCons (eLst (aCons (eVar 4) (aCons (eVar 5) (aCons (eVar 6) aNil)))) aNil))) aNil))))
  bNil)))))))))))
noncomputable def F__law_made : List D → TkG → Out TkG Vl := runB 10 b__law_made.den
noncomputable def fr__law_made : FR TkG := ⟨"_law_made", 1, 10, F__law_made⟩
theorem sc__law_made : FnScope N__law_made ["loom"] (defScope (topS 36)) := ⟨rfl, rfl, rfl, by decide +kernel, rfl, by decide +kernel, by decide +kernel⟩
theorem ck__law_made : b__law_made.chk ⟨N__law_made, defScope (topS 36), fun _ => true⟩ (defBody (topS 36)) = true := by decide +kernel
abbrev N_law : List Str := ["script", "loom", "form", "rule", "number", "due", "told", "lap", "field", "wide"]
noncomputable def l_law_1 : SB TkG := (bCons (sIf (tBool (wOr (tNt (tV (eCall fr__law_asked (aCons (eVar 1) (aCons (eCall fr__law_form (aCons (eVar 1) (aCons (eInt 5) (aCons (eInt 4000) aNil)))) aNil))))) (wOne .Or (tNt (tV (eCall fr__law_made (aCons (eVar 1) aNil)))))))
  (bCons (sRet (eBl false))
  bNil)
  bNil)
  bNil)
noncomputable def b_law : SB TkG := (bCons (sSet 1 (eCall fr__law_loom (aCons (eVar 0) aNil)))
  (bCons (sSet 2 (eTup (aCons (eTup (aCons (eStr ("hour" : Str)) (aCons (eTup (aCons (eInt 0) (aCons (eInt 5) aNil))) aNil))) (aCons (eTup (aCons (eStr ("kind" : Str)) (aCons (eTup (aCons (eStr ("bill" : Str)) (aCons (eStr ("note" : Str)) (aCons (eStr ("plan" : Str)) aNil)))) aNil))) (aCons (eTup (aCons (eStr ("old" : Str)) (aCons (eTup (aCons (eStr ("no" : Str)) (aCons (eStr ("yes" : Str)) aNil))) aNil))) aNil)))))
  (bCons (sSet 3 (eTup (aCons (eTup (aCons (eInt 1) (aCons (eInt 3) aNil))) (aCons (eTup (aCons (eStr ("bill" : Str)) (aCons (eStr ("note" : Str)) aNil))) (aCons (eTup (aCons (eStr ("no" : Str)) aNil)) aNil)))))
  (bCons (sSet 4 (eMul (eInt 36) (eCall fr__law_weave (aCons (eVar 1) (aCons (eInt 1000) aNil)))))
  (bCons (sSet 5 (eTup (aCons (eTup (aCons (eStr ("d" : Str)) (aCons (eTup (aCons (eInt 1) (aCons (eStr ("note" : Str)) (aCons (eStr ("no" : Str)) aNil)))) (aCons (eStr ("let" : Str)) aNil)))) (aCons (eTup (aCons (eStr ("d" : Str)) (aCons (eTup (aCons (eInt 0) (aCons (eStr ("bill" : Str)) (aCons (eStr ("no" : Str)) aNil)))) (aCons (eStr ("refused" : Str)) aNil)))) (aCons (eTup (aCons (eStr ("d" : Str)) (aCons (eTup (aCons (eInt 5) (aCons (eStr ("plan" : Str)) (aCons (eStr ("yes" : Str)) aNil)))) (aCons (eStr ("refused" : Str)) aNil)))) aNil)))))
  (bCons (sSet 6 (eTup (aCons (eCall fr_drawn_log (aCons (eVar 2) (aCons (eStr ("d" : Str)) (aCons (eVar 3) (aCons (eTup (aCons (eAdd (eInt 8) (eVar 4)) (aCons (eInt 0) (aCons (eInt 35) aNil)))) aNil))))) (aCons (eCall fr_drawn_log (aCons (eVar 2) (aCons (eStr ("d" : Str)) (aCons eNon (aCons (eTup aNil) aNil))))) aNil))))
  (bCons (sIf (tNt (tV (eCall fr__law_same (aCons (eAdd (eVar 6) (eTup (aCons (eCall fr_number_log (aCons (eVar 2) (aCons (eStr ("d" : Str)) (aCons (eVar 3) (aCons (eInt 0) aNil))))) aNil))) (aCons (eTup (aCons (eVar 5) (aCons (eTup aNil) (aCons (eTup aNil) aNil)))) aNil)))))
  (bCons (sRet (eBl false))
  bNil)
  bNil)
  (bCons (sSet 5 (eTup (aCons (eTup (aCons (eStr ("d" : Str)) (aCons (eTup (aCons (eInt 0) (aCons (eStr ("bill" : Str)) (aCons (eStr ("no" : Str)) aNil)))) (aCons (eStr ("refused" : Str)) aNil)))) (aCons (eTup (aCons (eStr ("d" : Str)) (aCons (eTup (aCons (eInt 0) (aCons (eStr ("bill" : Str)) (aCons (eStr ("yes" : Str)) aNil)))) (aCons (eStr ("refused" : Str)) aNil)))) aNil))))
  (bCons (sIf (tNt (tV (eCall fr__law_same (aCons (eTup (aCons (eCallK0 fr_number_log [3, 2, 1, 0] (kwCons ("many" : Str) (eInt 2) (kwCons ("rule" : Str) eNon (kwCons ("deed" : Str) (eStr ("d" : Str)) (kwCons ("form" : Str) (eVar 2) kwNil))))) (aCons (eCall fr_number_log (aCons (eVar 2) (aCons (eStr ("d" : Str)) (aCons (eVar 3) (aCons (eInt 2) aNil))))) aNil))) (aCons (eTup (aCons (eVar 5) (aCons (eVar 5) aNil))) aNil)))))
  (bCons (sRet (eBl false))
  bNil)
  bNil)
  (bCons (sFor (gN 7) (iRange (aCons (eInt 3) aNil)) l_law_1)
  (bCons (sIf (tC' (cEq (eCall fr__law_weave (aCons (eVar 1) (aCons (eInt 7) aNil))) (eInt 3)))
  (bCons (sSet 8 (eTup (aCons (eStr ("f" : Str)) (aCons (eTup (aCons (eNeg (eInt 40)) (aCons (eSub (eInt 39) (eCall fr__law_weave (aCons (eVar 1) (aCons (eInt 10) aNil)))) aNil))) aNil))))
  (bCons (sSet 9 (eTup (aCons (eTup (aCons (eStr ("v" : Str)) (aCons (eTup (aCons (eStr ("a" : Str)) (aCons (eStr ("b" : Str)) (aCons (eStr ("c" : Str)) (aCons (eStr ("d" : Str)) (aCons (eStr ("e" : Str)) aNil)))))) aNil))) (aCons (eVar 8) (aCons (eTup (aCons (eStr ("w" : Str)) (aCons (eTup (aCons (eSub (eInt 40) (eInt 4)) (aCons (eInt 40) aNil))) aNil))) aNil)))))
  (bCons (sRet (eCall fr__law_asked (aCons (eVar 1) (aCons (eSl (eVar 9) (oSome (eCall fr__law_weave (aCons (eVar 1) (aCons (eInt 2) aNil)))) oNone) aNil))))
  bNil)))
  bNil)
  (bCons (sRet (eBl true))
  bNil))))))))))))
noncomputable def F_law : List D → TkG → Out TkG Vl := runB 10 b_law.den
noncomputable def fr_law : FR TkG := ⟨"law", 1, 11, F_law⟩
theorem sc_law : FnScope N_law ["script"] (defScope (topS 37)) := ⟨rfl, rfl, rfl, by decide +kernel, rfl, by decide +kernel, by decide +kernel⟩
theorem ck_law : b_law.chk ⟨N_law, defScope (topS 37), fun _ => true⟩ (defBody (topS 37)) = true := by decide +kernel
end K38

namespace K38
open PySem PySem.Spec RB
theorem is_integer_eq (d : D) (g : TkG) : F_is_integer [d] g = .ok (.dat (.bl (isInt d))) g := by
  simp only [F_is_integer, b_is_integer, runB_eq, frame0, ob_ok, ob_bad, ob_ite, fo_ok, fo_bad, fo_ite, fn_nx, fn_rt, fn_bk, fn_ct, fn_bad, fn_ite, op_some, op_none, op_ite, fz_dat, fz_own, so_dat, so_own, re_dat, re_own, endB_rt, endB_nx, endB_bad, endB_ite, dVar, dC, dBin, eD, dAnd, dOr, dTru, asB, dtAnd, dtOr, dChain, ib_bl, dCons, ho_dat, ho_own, ho_pk, sq_tup, sq_lst, sq_own, sq_pk, sk_tup, sk_lst, sk_own, sk_pk, ix_tup, ix_lst, ix_pk, sl_tup, sl_lst, sl_scr, tr_non, tr_bl, tr_int, tr_tup, tr_lst, tr_own, ln_tup, ln_lst, ln_own, ln_scr, ln_str, ln_pk, tp_tup, tp_lst, tp_own, tp_pk, ls_tup, ls_lst, ls_own, ad_int, ad_str, ad_tup, ad_lst, oi_int, ob_int, ob_str, lt_int, eq_int, it_tup, it_lst, it_scr, ie_int, ie_bl, io_int, vl_dat, at_0, at_1, at_2, is_non, cl_true, rg_1, rg_2, rg_3, dCall_eq, dCallK_eq, back_ok, dCall1, dCallN, min2D, max2D, negD, putS, dFor, line_le, line_lt, and_self, and_true, List.map_cons, List.map_nil, List.length_cons, List.length_nil, List.cons_append, List.nil_append, List.getElem?_cons_zero, List.getElem?_cons_succ, List.set_cons_zero, List.set_cons_succ, Bool.true_and, Bool.and_true, Bool.false_and, Bool.and_false, if_true, if_false, Bool.not_true, Bool.not_false, Bool.false_eq_true, reduceIte, Option.bind_some, Option.map_some, valI, Nat.reduceAdd, Nat.reduceLeDiff, Nat.reduceSub, Nat.reduceLT, Nat.zero_add, List.reduceReplicate, dn_eVar, dn_eInt, dn_eBl, dn_eNon, dn_eStr, dn_eGlob, dn_mkBin, dn_mkCmp, dn_mkIn, dn_mkChain, dn_eNot, dn_bOne, dn_bAnd, dn_bOr, dn_eBool, dn_tV, dn_tNt, dn_wOne, dn_wAnd, dn_wOr, dn_tBool, dn_eIf, dn_aNil, dn_aCons, dn_eTup, dn_eLst, dn_eIx, dn_oNone, dn_oSome, dn_eSl, dn_eCall, dn_eCall0, dn_bNil, dn_bCons, dn_sSet, dn_sRet, dn_sExpr, dn_sPass, dn_sBreak, dn_sCont, dn_sIf, dn_sAsg, dn_iSeq, dn_iRange, dn_iZip, dn_sFor, dn_sWhile, dn_qNil, dn_qOne, dn_kOne, dn_kTwo, dn_sSetC, dn_mkMeth, dn_mkMeth0, dn_eTIx, dn_tTok, dn_eTok, dn_sIxSet, dn_eNeg, dn_eIsi, dn_eRev, dn_rg1, dn_rg2, dn_eLstRg, dn_eTupRg, dn_sAug, dn_sPar2, dn_kwNil, dn_kwCons, dn_eCallK, dn_eCallK0, dn_kTok, dn_sForT, dn_eC, dn_tC', dn_eK, dn_eAdd, dn_eSub, dn_eMul, dn_eFdiv, dn_eMod, dn_ePow, dn_eShl, dn_eShr, dn_eAnd2, dn_eOr2, dn_cEq, dn_cNe, dn_cLt, dn_cLe, dn_cGt, dn_cGe, dn_cLeLe, dn_eLen, dn_eTupOf, dn_eLstOf, dn_eIntOf, dn_eAbs, dn_eStrOf, dn_eAny, dn_eAll, dn_eSum, dn_eMax1, dn_eMin1, dn_eSorted, dn_eMin2, dn_eMax2, dn_mAppendE, dn_mExtendE, dn_mPopE, dn_mPopAtE, dn_mReverseE, dn_mInsertE, dn_cIs, dn_cIsNot, dn_cIn, dn_cNotIn]
  rw [← isi_int]
  cases isiD .int d <;> rfl
theorem chain_form_eq (n : Int) (g : TkG) : F_chain_form [.int n] g = .ok (.dat (.tup [.tup [.str "n", .tup [.int 0, .int n]]])) g := by
  simp only [F_chain_form, b_chain_form, runB_eq, frame0, ob_ok, ob_bad, ob_ite, fo_ok, fo_bad, fo_ite, fn_nx, fn_rt, fn_bk, fn_ct, fn_bad, fn_ite, op_some, op_none, op_ite, fz_dat, fz_own, so_dat, so_own, re_dat, re_own, endB_rt, endB_nx, endB_bad, endB_ite, dVar, dC, dBin, eD, dAnd, dOr, dTru, asB, dtAnd, dtOr, dChain, ib_bl, dCons, ho_dat, ho_own, ho_pk, sq_tup, sq_lst, sq_own, sq_pk, sk_tup, sk_lst, sk_own, sk_pk, ix_tup, ix_lst, ix_pk, sl_tup, sl_lst, sl_scr, tr_non, tr_bl, tr_int, tr_tup, tr_lst, tr_own, ln_tup, ln_lst, ln_own, ln_scr, ln_str, ln_pk, tp_tup, tp_lst, tp_own, tp_pk, ls_tup, ls_lst, ls_own, ad_int, ad_str, ad_tup, ad_lst, oi_int, ob_int, ob_str, lt_int, eq_int, it_tup, it_lst, it_scr, ie_int, ie_bl, io_int, vl_dat, at_0, at_1, at_2, is_non, cl_true, rg_1, rg_2, rg_3, dCall_eq, dCallK_eq, back_ok, dCall1, dCallN, min2D, max2D, negD, putS, dFor, line_le, line_lt, and_self, and_true, List.map_cons, List.map_nil, List.length_cons, List.length_nil, List.cons_append, List.nil_append, List.getElem?_cons_zero, List.getElem?_cons_succ, List.set_cons_zero, List.set_cons_succ, Bool.true_and, Bool.and_true, Bool.false_and, Bool.and_false, if_true, if_false, Bool.not_true, Bool.not_false, Bool.false_eq_true, reduceIte, Option.bind_some, Option.map_some, valI, Nat.reduceAdd, Nat.reduceLeDiff, Nat.reduceSub, Nat.reduceLT, Nat.zero_add, List.reduceReplicate, dn_eVar, dn_eInt, dn_eBl, dn_eNon, dn_eStr, dn_eGlob, dn_mkBin, dn_mkCmp, dn_mkIn, dn_mkChain, dn_eNot, dn_bOne, dn_bAnd, dn_bOr, dn_eBool, dn_tV, dn_tNt, dn_wOne, dn_wAnd, dn_wOr, dn_tBool, dn_eIf, dn_aNil, dn_aCons, dn_eTup, dn_eLst, dn_eIx, dn_oNone, dn_oSome, dn_eSl, dn_eCall, dn_eCall0, dn_bNil, dn_bCons, dn_sSet, dn_sRet, dn_sExpr, dn_sPass, dn_sBreak, dn_sCont, dn_sIf, dn_sAsg, dn_iSeq, dn_iRange, dn_iZip, dn_sFor, dn_sWhile, dn_qNil, dn_qOne, dn_kOne, dn_kTwo, dn_sSetC, dn_mkMeth, dn_mkMeth0, dn_eTIx, dn_tTok, dn_eTok, dn_sIxSet, dn_eNeg, dn_eIsi, dn_eRev, dn_rg1, dn_rg2, dn_eLstRg, dn_eTupRg, dn_sAug, dn_sPar2, dn_kwNil, dn_kwCons, dn_eCallK, dn_eCallK0, dn_kTok, dn_sForT, dn_eC, dn_tC', dn_eK, dn_eAdd, dn_eSub, dn_eMul, dn_eFdiv, dn_eMod, dn_ePow, dn_eShl, dn_eShr, dn_eAnd2, dn_eOr2, dn_cEq, dn_cNe, dn_cLt, dn_cLe, dn_cGt, dn_cGe, dn_cLeLe, dn_eLen, dn_eTupOf, dn_eLstOf, dn_eIntOf, dn_eAbs, dn_eStrOf, dn_eAny, dn_eAll, dn_eSum, dn_eMax1, dn_eMin1, dn_eSorted, dn_eMin2, dn_eMax2, dn_mAppendE, dn_mExtendE, dn_mPopE, dn_mPopAtE, dn_mReverseE, dn_mInsertE, dn_cIs, dn_cIsNot, dn_cIn, dn_cNotIn]
inductive Fld where
  | num (n : Str) (a b : Int) | wrd (n : Str) (ws : List Str)
def Fld.d : Fld → D
  | .num n a b => .tup [.str n, .tup [.int a, .int b]]
  | .wrd n ws => .tup [.str n, .tup (ws.map .str)]
def Fld.isN : Fld → Bool
  | .num .. => true
  | .wrd .. => false
def Fld.vals : Fld → List D
  | .num _ a b => rngL a (b + 1 - a).toNat
  | .wrd _ ws => ws.map .str
def Fld.ok : Fld → Prop
  | .num _ a b => a ≤ b ∧ -1000 ≤ a ∧ b ≤ 1000
  | .wrd _ ws => 0 < ws.length ∧ ws.length ≤ 1000
theorem rngL_len (a : Int) (n : Nat) : (rngL a n).length = n := by simp [rngL]
theorem Fld.ok_vals {x : Fld} (h : x.ok) : 0 < x.vals.length ∧ x.vals.length ≤ 2001 := by
  cases x with
  | num n a b => simp only [Fld.vals, rngL_len, Fld.ok] at *; omega
  | wrd n ws => simp only [Fld.vals, List.length_map, Fld.ok] at *; omega
abbrev formD (f : List Fld) : D := .tup (f.map Fld.d)
theorem at_form (f : List Fld) (k : Nat) (h : k < f.length) : L2.atI (f.map Fld.d) (k : Int) = some f[k].d := by
  rw [at_nat _ _ (by rw [List.length_map]; exact h), List.getElem_map]
theorem is_number_field_eq (f : List Fld) (k : Nat) (h : k < f.length) (ok : f[k].ok) (g : TkG) : F_is_number_field [formD f, .int k] g = .ok (.dat (.bl f[k].isN)) g := by
  simp only [F_is_number_field, b_is_number_field, fr_is_integer, at_form f k h, runB_eq, frame0, ob_ok, ob_bad, ob_ite, fo_ok, fo_bad, fo_ite, fn_nx, fn_rt, fn_bk, fn_ct, fn_bad, fn_ite, op_some, op_none, op_ite, fz_dat, fz_own, so_dat, so_own, re_dat, re_own, endB_rt, endB_nx, endB_bad, endB_ite, dVar, dC, dBin, eD, dAnd, dOr, dTru, asB, dtAnd, dtOr, dChain, ib_bl, dCons, ho_dat, ho_own, ho_pk, sq_tup, sq_lst, sq_own, sq_pk, sk_tup, sk_lst, sk_own, sk_pk, ix_tup, ix_lst, ix_pk, sl_tup, sl_lst, sl_scr, tr_non, tr_bl, tr_int, tr_tup, tr_lst, tr_own, ln_tup, ln_lst, ln_own, ln_scr, ln_str, ln_pk, tp_tup, tp_lst, tp_own, tp_pk, ls_tup, ls_lst, ls_own, ad_int, ad_str, ad_tup, ad_lst, oi_int, ob_int, ob_str, lt_int, eq_int, it_tup, it_lst, it_scr, ie_int, ie_bl, io_int, vl_dat, at_0, at_1, at_2, is_non, cl_true, rg_1, rg_2, rg_3, dCall_eq, dCallK_eq, back_ok, dCall1, dCallN, min2D, max2D, negD, putS, dFor, line_le, line_lt, and_self, and_true, List.map_cons, List.map_nil, List.length_cons, List.length_nil, List.cons_append, List.nil_append, List.getElem?_cons_zero, List.getElem?_cons_succ, List.set_cons_zero, List.set_cons_succ, Bool.true_and, Bool.and_true, Bool.false_and, Bool.and_false, if_true, if_false, Bool.not_true, Bool.not_false, Bool.false_eq_true, reduceIte, Option.bind_some, Option.map_some, valI, Nat.reduceAdd, Nat.reduceLeDiff, Nat.reduceSub, Nat.reduceLT, Nat.zero_add, List.reduceReplicate, dn_eVar, dn_eInt, dn_eBl, dn_eNon, dn_eStr, dn_eGlob, dn_mkBin, dn_mkCmp, dn_mkIn, dn_mkChain, dn_eNot, dn_bOne, dn_bAnd, dn_bOr, dn_eBool, dn_tV, dn_tNt, dn_wOne, dn_wAnd, dn_wOr, dn_tBool, dn_eIf, dn_aNil, dn_aCons, dn_eTup, dn_eLst, dn_eIx, dn_oNone, dn_oSome, dn_eSl, dn_eCall, dn_eCall0, dn_bNil, dn_bCons, dn_sSet, dn_sRet, dn_sExpr, dn_sPass, dn_sBreak, dn_sCont, dn_sIf, dn_sAsg, dn_iSeq, dn_iRange, dn_iZip, dn_sFor, dn_sWhile, dn_qNil, dn_qOne, dn_kOne, dn_kTwo, dn_sSetC, dn_mkMeth, dn_mkMeth0, dn_eTIx, dn_tTok, dn_eTok, dn_sIxSet, dn_eNeg, dn_eIsi, dn_eRev, dn_rg1, dn_rg2, dn_eLstRg, dn_eTupRg, dn_sAug, dn_sPar2, dn_kwNil, dn_kwCons, dn_eCallK, dn_eCallK0, dn_kTok, dn_sForT, dn_eC, dn_tC', dn_eK, dn_eAdd, dn_eSub, dn_eMul, dn_eFdiv, dn_eMod, dn_ePow, dn_eShl, dn_eShr, dn_eAnd2, dn_eOr2, dn_cEq, dn_cNe, dn_cLt, dn_cLe, dn_cGt, dn_cGe, dn_cLeLe, dn_eLen, dn_eTupOf, dn_eLstOf, dn_eIntOf, dn_eAbs, dn_eStrOf, dn_eAny, dn_eAll, dn_eSum, dn_eMax1, dn_eMin1, dn_eSorted, dn_eMin2, dn_eMax2, dn_mAppendE, dn_mExtendE, dn_mPopE, dn_mPopAtE, dn_mReverseE, dn_mInsertE, dn_cIs, dn_cIsNot, dn_cIn, dn_cNotIn]
  generalize f[k] = x at ok
  cases x with
  | num n a b => simp only [Fld.d, is_integer_eq, runB_eq, frame0, ob_ok, ob_bad, ob_ite, fo_ok, fo_bad, fo_ite, fn_nx, fn_rt, fn_bk, fn_ct, fn_bad, fn_ite, op_some, op_none, op_ite, fz_dat, fz_own, so_dat, so_own, re_dat, re_own, endB_rt, endB_nx, endB_bad, endB_ite, dVar, dC, dBin, eD, dAnd, dOr, dTru, asB, dtAnd, dtOr, dChain, ib_bl, dCons, ho_dat, ho_own, ho_pk, sq_tup, sq_lst, sq_own, sq_pk, sk_tup, sk_lst, sk_own, sk_pk, ix_tup, ix_lst, ix_pk, sl_tup, sl_lst, sl_scr, tr_non, tr_bl, tr_int, tr_tup, tr_lst, tr_own, ln_tup, ln_lst, ln_own, ln_scr, ln_str, ln_pk, tp_tup, tp_lst, tp_own, tp_pk, ls_tup, ls_lst, ls_own, ad_int, ad_str, ad_tup, ad_lst, oi_int, ob_int, ob_str, lt_int, eq_int, it_tup, it_lst, it_scr, ie_int, ie_bl, io_int, vl_dat, at_0, at_1, at_2, is_non, cl_true, rg_1, rg_2, rg_3, dCall_eq, dCallK_eq, back_ok, dCall1, dCallN, min2D, max2D, negD, putS, dFor, line_le, line_lt, and_self, and_true, List.map_cons, List.map_nil, List.length_cons, List.length_nil, List.cons_append, List.nil_append, List.getElem?_cons_zero, List.getElem?_cons_succ, List.set_cons_zero, List.set_cons_succ, Bool.true_and, Bool.and_true, Bool.false_and, Bool.and_false, if_true, if_false, Bool.not_true, Bool.not_false, Bool.false_eq_true, reduceIte, Option.bind_some, Option.map_some, valI, Nat.reduceAdd, Nat.reduceLeDiff, Nat.reduceSub, Nat.reduceLT, Nat.zero_add, List.reduceReplicate, dn_eVar, dn_eInt, dn_eBl, dn_eNon, dn_eStr, dn_eGlob, dn_mkBin, dn_mkCmp, dn_mkIn, dn_mkChain, dn_eNot, dn_bOne, dn_bAnd, dn_bOr, dn_eBool, dn_tV, dn_tNt, dn_wOne, dn_wAnd, dn_wOr, dn_tBool, dn_eIf, dn_aNil, dn_aCons, dn_eTup, dn_eLst, dn_eIx, dn_oNone, dn_oSome, dn_eSl, dn_eCall, dn_eCall0, dn_bNil, dn_bCons, dn_sSet, dn_sRet, dn_sExpr, dn_sPass, dn_sBreak, dn_sCont, dn_sIf, dn_sAsg, dn_iSeq, dn_iRange, dn_iZip, dn_sFor, dn_sWhile, dn_qNil, dn_qOne, dn_kOne, dn_kTwo, dn_sSetC, dn_mkMeth, dn_mkMeth0, dn_eTIx, dn_tTok, dn_eTok, dn_sIxSet, dn_eNeg, dn_eIsi, dn_eRev, dn_rg1, dn_rg2, dn_eLstRg, dn_eTupRg, dn_sAug, dn_sPar2, dn_kwNil, dn_kwCons, dn_eCallK, dn_eCallK0, dn_kTok, dn_sForT, dn_eC, dn_tC', dn_eK, dn_eAdd, dn_eSub, dn_eMul, dn_eFdiv, dn_eMod, dn_ePow, dn_eShl, dn_eShr, dn_eAnd2, dn_eOr2, dn_cEq, dn_cNe, dn_cLt, dn_cLe, dn_cGt, dn_cGe, dn_cLeLe, dn_eLen, dn_eTupOf, dn_eLstOf, dn_eIntOf, dn_eAbs, dn_eStrOf, dn_eAny, dn_eAll, dn_eSum, dn_eMax1, dn_eMin1, dn_eSorted, dn_eMin2, dn_eMax2, dn_mAppendE, dn_mExtendE, dn_mPopE, dn_mPopAtE, dn_mReverseE, dn_mInsertE, dn_cIs, dn_cIsNot, dn_cIn, dn_cNotIn]; rfl
  | wrd n ws =>
    cases ws with
    | nil => exact absurd ok.1 (by simp)
    | cons w ws => simp only [Fld.d, is_integer_eq, runB_eq, frame0, ob_ok, ob_bad, ob_ite, fo_ok, fo_bad, fo_ite, fn_nx, fn_rt, fn_bk, fn_ct, fn_bad, fn_ite, op_some, op_none, op_ite, fz_dat, fz_own, so_dat, so_own, re_dat, re_own, endB_rt, endB_nx, endB_bad, endB_ite, dVar, dC, dBin, eD, dAnd, dOr, dTru, asB, dtAnd, dtOr, dChain, ib_bl, dCons, ho_dat, ho_own, ho_pk, sq_tup, sq_lst, sq_own, sq_pk, sk_tup, sk_lst, sk_own, sk_pk, ix_tup, ix_lst, ix_pk, sl_tup, sl_lst, sl_scr, tr_non, tr_bl, tr_int, tr_tup, tr_lst, tr_own, ln_tup, ln_lst, ln_own, ln_scr, ln_str, ln_pk, tp_tup, tp_lst, tp_own, tp_pk, ls_tup, ls_lst, ls_own, ad_int, ad_str, ad_tup, ad_lst, oi_int, ob_int, ob_str, lt_int, eq_int, it_tup, it_lst, it_scr, ie_int, ie_bl, io_int, vl_dat, at_0, at_1, at_2, is_non, cl_true, rg_1, rg_2, rg_3, dCall_eq, dCallK_eq, back_ok, dCall1, dCallN, min2D, max2D, negD, putS, dFor, line_le, line_lt, and_self, and_true, List.map_cons, List.map_nil, List.length_cons, List.length_nil, List.cons_append, List.nil_append, List.getElem?_cons_zero, List.getElem?_cons_succ, List.set_cons_zero, List.set_cons_succ, Bool.true_and, Bool.and_true, Bool.false_and, Bool.and_false, if_true, if_false, Bool.not_true, Bool.not_false, Bool.false_eq_true, reduceIte, Option.bind_some, Option.map_some, valI, Nat.reduceAdd, Nat.reduceLeDiff, Nat.reduceSub, Nat.reduceLT, Nat.zero_add, List.reduceReplicate, dn_eVar, dn_eInt, dn_eBl, dn_eNon, dn_eStr, dn_eGlob, dn_mkBin, dn_mkCmp, dn_mkIn, dn_mkChain, dn_eNot, dn_bOne, dn_bAnd, dn_bOr, dn_eBool, dn_tV, dn_tNt, dn_wOne, dn_wAnd, dn_wOr, dn_tBool, dn_eIf, dn_aNil, dn_aCons, dn_eTup, dn_eLst, dn_eIx, dn_oNone, dn_oSome, dn_eSl, dn_eCall, dn_eCall0, dn_bNil, dn_bCons, dn_sSet, dn_sRet, dn_sExpr, dn_sPass, dn_sBreak, dn_sCont, dn_sIf, dn_sAsg, dn_iSeq, dn_iRange, dn_iZip, dn_sFor, dn_sWhile, dn_qNil, dn_qOne, dn_kOne, dn_kTwo, dn_sSetC, dn_mkMeth, dn_mkMeth0, dn_eTIx, dn_tTok, dn_eTok, dn_sIxSet, dn_eNeg, dn_eIsi, dn_eRev, dn_rg1, dn_rg2, dn_eLstRg, dn_eTupRg, dn_sAug, dn_sPar2, dn_kwNil, dn_kwCons, dn_eCallK, dn_eCallK0, dn_kTok, dn_sForT, dn_eC, dn_tC', dn_eK, dn_eAdd, dn_eSub, dn_eMul, dn_eFdiv, dn_eMod, dn_ePow, dn_eShl, dn_eShr, dn_eAnd2, dn_eOr2, dn_cEq, dn_cNe, dn_cLt, dn_cLe, dn_cGt, dn_cGe, dn_cLeLe, dn_eLen, dn_eTupOf, dn_eLstOf, dn_eIntOf, dn_eAbs, dn_eStrOf, dn_eAny, dn_eAll, dn_eSum, dn_eMax1, dn_eMin1, dn_eSorted, dn_eMin2, dn_eMax2, dn_mAppendE, dn_mExtendE, dn_mPopE, dn_mPopAtE, dn_mReverseE, dn_mInsertE, dn_cIs, dn_cIsNot, dn_cIn, dn_cNotIn]; rfl
theorem values_of_eq (f : List Fld) (k : Nat) (h : k < f.length) (ok : f[k].ok) (g : TkG) : F_values_of [formD f, .int k] g = .ok (.dat (.tup f[k].vals)) g := by
  simp only [F_values_of, b_values_of, fr_is_number_field, at_form f k h, runB_eq, frame0, ob_ok, ob_bad, ob_ite, fo_ok, fo_bad, fo_ite, fn_nx, fn_rt, fn_bk, fn_ct, fn_bad, fn_ite, op_some, op_none, op_ite, fz_dat, fz_own, so_dat, so_own, re_dat, re_own, endB_rt, endB_nx, endB_bad, endB_ite, dVar, dC, dBin, eD, dAnd, dOr, dTru, asB, dtAnd, dtOr, dChain, ib_bl, dCons, ho_dat, ho_own, ho_pk, sq_tup, sq_lst, sq_own, sq_pk, sk_tup, sk_lst, sk_own, sk_pk, ix_tup, ix_lst, ix_pk, sl_tup, sl_lst, sl_scr, tr_non, tr_bl, tr_int, tr_tup, tr_lst, tr_own, ln_tup, ln_lst, ln_own, ln_scr, ln_str, ln_pk, tp_tup, tp_lst, tp_own, tp_pk, ls_tup, ls_lst, ls_own, ad_int, ad_str, ad_tup, ad_lst, oi_int, ob_int, ob_str, lt_int, eq_int, it_tup, it_lst, it_scr, ie_int, ie_bl, io_int, vl_dat, at_0, at_1, at_2, is_non, cl_true, rg_1, rg_2, rg_3, dCall_eq, dCallK_eq, back_ok, dCall1, dCallN, min2D, max2D, negD, putS, dFor, line_le, line_lt, and_self, and_true, List.map_cons, List.map_nil, List.length_cons, List.length_nil, List.cons_append, List.nil_append, List.getElem?_cons_zero, List.getElem?_cons_succ, List.set_cons_zero, List.set_cons_succ, Bool.true_and, Bool.and_true, Bool.false_and, Bool.and_false, if_true, if_false, Bool.not_true, Bool.not_false, Bool.false_eq_true, reduceIte, Option.bind_some, Option.map_some, valI, Nat.reduceAdd, Nat.reduceLeDiff, Nat.reduceSub, Nat.reduceLT, Nat.zero_add, List.reduceReplicate, dn_eVar, dn_eInt, dn_eBl, dn_eNon, dn_eStr, dn_eGlob, dn_mkBin, dn_mkCmp, dn_mkIn, dn_mkChain, dn_eNot, dn_bOne, dn_bAnd, dn_bOr, dn_eBool, dn_tV, dn_tNt, dn_wOne, dn_wAnd, dn_wOr, dn_tBool, dn_eIf, dn_aNil, dn_aCons, dn_eTup, dn_eLst, dn_eIx, dn_oNone, dn_oSome, dn_eSl, dn_eCall, dn_eCall0, dn_bNil, dn_bCons, dn_sSet, dn_sRet, dn_sExpr, dn_sPass, dn_sBreak, dn_sCont, dn_sIf, dn_sAsg, dn_iSeq, dn_iRange, dn_iZip, dn_sFor, dn_sWhile, dn_qNil, dn_qOne, dn_kOne, dn_kTwo, dn_sSetC, dn_mkMeth, dn_mkMeth0, dn_eTIx, dn_tTok, dn_eTok, dn_sIxSet, dn_eNeg, dn_eIsi, dn_eRev, dn_rg1, dn_rg2, dn_eLstRg, dn_eTupRg, dn_sAug, dn_sPar2, dn_kwNil, dn_kwCons, dn_eCallK, dn_eCallK0, dn_kTok, dn_sForT, dn_eC, dn_tC', dn_eK, dn_eAdd, dn_eSub, dn_eMul, dn_eFdiv, dn_eMod, dn_ePow, dn_eShl, dn_eShr, dn_eAnd2, dn_eOr2, dn_cEq, dn_cNe, dn_cLt, dn_cLe, dn_cGt, dn_cGe, dn_cLeLe, dn_eLen, dn_eTupOf, dn_eLstOf, dn_eIntOf, dn_eAbs, dn_eStrOf, dn_eAny, dn_eAll, dn_eSum, dn_eMax1, dn_eMin1, dn_eSorted, dn_eMin2, dn_eMax2, dn_mAppendE, dn_mExtendE, dn_mPopE, dn_mPopAtE, dn_mReverseE, dn_mInsertE, dn_cIs, dn_cIsNot, dn_cIn, dn_cNotIn]
  have e := is_number_field_eq f k h ok g
  generalize f[k] = x at ok e
  cases x with
  | num n a b =>
    simp only [Fld.d, e, runB_eq, frame0, ob_ok, ob_bad, ob_ite, fo_ok, fo_bad, fo_ite, fn_nx, fn_rt, fn_bk, fn_ct, fn_bad, fn_ite, op_some, op_none, op_ite, fz_dat, fz_own, so_dat, so_own, re_dat, re_own, endB_rt, endB_nx, endB_bad, endB_ite, dVar, dC, dBin, eD, dAnd, dOr, dTru, asB, dtAnd, dtOr, dChain, ib_bl, dCons, ho_dat, ho_own, ho_pk, sq_tup, sq_lst, sq_own, sq_pk, sk_tup, sk_lst, sk_own, sk_pk, ix_tup, ix_lst, ix_pk, sl_tup, sl_lst, sl_scr, tr_non, tr_bl, tr_int, tr_tup, tr_lst, tr_own, ln_tup, ln_lst, ln_own, ln_scr, ln_str, ln_pk, tp_tup, tp_lst, tp_own, tp_pk, ls_tup, ls_lst, ls_own, ad_int, ad_str, ad_tup, ad_lst, oi_int, ob_int, ob_str, lt_int, eq_int, it_tup, it_lst, it_scr, ie_int, ie_bl, io_int, vl_dat, at_0, at_1, at_2, is_non, cl_true, rg_1, rg_2, rg_3, dCall_eq, dCallK_eq, back_ok, dCall1, dCallN, min2D, max2D, negD, putS, dFor, line_le, line_lt, and_self, and_true, List.map_cons, List.map_nil, List.length_cons, List.length_nil, List.cons_append, List.nil_append, List.getElem?_cons_zero, List.getElem?_cons_succ, List.set_cons_zero, List.set_cons_succ, Bool.true_and, Bool.and_true, Bool.false_and, Bool.and_false, if_true, if_false, Bool.not_true, Bool.not_false, Bool.false_eq_true, reduceIte, Option.bind_some, Option.map_some, valI, Nat.reduceAdd, Nat.reduceLeDiff, Nat.reduceSub, Nat.reduceLT, Nat.zero_add, List.reduceReplicate, dn_eVar, dn_eInt, dn_eBl, dn_eNon, dn_eStr, dn_eGlob, dn_mkBin, dn_mkCmp, dn_mkIn, dn_mkChain, dn_eNot, dn_bOne, dn_bAnd, dn_bOr, dn_eBool, dn_tV, dn_tNt, dn_wOne, dn_wAnd, dn_wOr, dn_tBool, dn_eIf, dn_aNil, dn_aCons, dn_eTup, dn_eLst, dn_eIx, dn_oNone, dn_oSome, dn_eSl, dn_eCall, dn_eCall0, dn_bNil, dn_bCons, dn_sSet, dn_sRet, dn_sExpr, dn_sPass, dn_sBreak, dn_sCont, dn_sIf, dn_sAsg, dn_iSeq, dn_iRange, dn_iZip, dn_sFor, dn_sWhile, dn_qNil, dn_qOne, dn_kOne, dn_kTwo, dn_sSetC, dn_mkMeth, dn_mkMeth0, dn_eTIx, dn_tTok, dn_eTok, dn_sIxSet, dn_eNeg, dn_eIsi, dn_eRev, dn_rg1, dn_rg2, dn_eLstRg, dn_eTupRg, dn_sAug, dn_sPar2, dn_kwNil, dn_kwCons, dn_eCallK, dn_eCallK0, dn_kTok, dn_sForT, dn_eC, dn_tC', dn_eK, dn_eAdd, dn_eSub, dn_eMul, dn_eFdiv, dn_eMod, dn_ePow, dn_eShl, dn_eShr, dn_eAnd2, dn_eOr2, dn_cEq, dn_cNe, dn_cLt, dn_cLe, dn_cGt, dn_cGe, dn_cLeLe, dn_eLen, dn_eTupOf, dn_eLstOf, dn_eIntOf, dn_eAbs, dn_eStrOf, dn_eAny, dn_eAll, dn_eSum, dn_eMax1, dn_eMin1, dn_eSorted, dn_eMin2, dn_eMax2, dn_mAppendE, dn_mExtendE, dn_mPopE, dn_mPopAtE, dn_mReverseE, dn_mInsertE, dn_cIs, dn_cIsNot, dn_cIn, dn_cNotIn]
    have hb : rgOk a (b + 1) := by
      simp only [Fld.ok] at ok
      exact ⟨in62 (by omega) (by omega), in62 (by omega) (by omega), by omega⟩
    simp only [Fld.isN, clI_pos hb, Fld.vals, runB_eq, frame0, ob_ok, ob_bad, ob_ite, fo_ok, fo_bad, fo_ite, fn_nx, fn_rt, fn_bk, fn_ct, fn_bad, fn_ite, op_some, op_none, op_ite, fz_dat, fz_own, so_dat, so_own, re_dat, re_own, endB_rt, endB_nx, endB_bad, endB_ite, dVar, dC, dBin, eD, dAnd, dOr, dTru, asB, dtAnd, dtOr, dChain, ib_bl, dCons, ho_dat, ho_own, ho_pk, sq_tup, sq_lst, sq_own, sq_pk, sk_tup, sk_lst, sk_own, sk_pk, ix_tup, ix_lst, ix_pk, sl_tup, sl_lst, sl_scr, tr_non, tr_bl, tr_int, tr_tup, tr_lst, tr_own, ln_tup, ln_lst, ln_own, ln_scr, ln_str, ln_pk, tp_tup, tp_lst, tp_own, tp_pk, ls_tup, ls_lst, ls_own, ad_int, ad_str, ad_tup, ad_lst, oi_int, ob_int, ob_str, lt_int, eq_int, it_tup, it_lst, it_scr, ie_int, ie_bl, io_int, vl_dat, at_0, at_1, at_2, is_non, cl_true, rg_1, rg_2, rg_3, dCall_eq, dCallK_eq, back_ok, dCall1, dCallN, min2D, max2D, negD, putS, dFor, line_le, line_lt, and_self, and_true, List.map_cons, List.map_nil, List.length_cons, List.length_nil, List.cons_append, List.nil_append, List.getElem?_cons_zero, List.getElem?_cons_succ, List.set_cons_zero, List.set_cons_succ, Bool.true_and, Bool.and_true, Bool.false_and, Bool.and_false, if_true, if_false, Bool.not_true, Bool.not_false, Bool.false_eq_true, reduceIte, Option.bind_some, Option.map_some, valI, Nat.reduceAdd, Nat.reduceLeDiff, Nat.reduceSub, Nat.reduceLT, Nat.zero_add, List.reduceReplicate, dn_eVar, dn_eInt, dn_eBl, dn_eNon, dn_eStr, dn_eGlob, dn_mkBin, dn_mkCmp, dn_mkIn, dn_mkChain, dn_eNot, dn_bOne, dn_bAnd, dn_bOr, dn_eBool, dn_tV, dn_tNt, dn_wOne, dn_wAnd, dn_wOr, dn_tBool, dn_eIf, dn_aNil, dn_aCons, dn_eTup, dn_eLst, dn_eIx, dn_oNone, dn_oSome, dn_eSl, dn_eCall, dn_eCall0, dn_bNil, dn_bCons, dn_sSet, dn_sRet, dn_sExpr, dn_sPass, dn_sBreak, dn_sCont, dn_sIf, dn_sAsg, dn_iSeq, dn_iRange, dn_iZip, dn_sFor, dn_sWhile, dn_qNil, dn_qOne, dn_kOne, dn_kTwo, dn_sSetC, dn_mkMeth, dn_mkMeth0, dn_eTIx, dn_tTok, dn_eTok, dn_sIxSet, dn_eNeg, dn_eIsi, dn_eRev, dn_rg1, dn_rg2, dn_eLstRg, dn_eTupRg, dn_sAug, dn_sPar2, dn_kwNil, dn_kwCons, dn_eCallK, dn_eCallK0, dn_kTok, dn_sForT, dn_eC, dn_tC', dn_eK, dn_eAdd, dn_eSub, dn_eMul, dn_eFdiv, dn_eMod, dn_ePow, dn_eShl, dn_eShr, dn_eAnd2, dn_eOr2, dn_cEq, dn_cNe, dn_cLt, dn_cLe, dn_cGt, dn_cGe, dn_cLeLe, dn_eLen, dn_eTupOf, dn_eLstOf, dn_eIntOf, dn_eAbs, dn_eStrOf, dn_eAny, dn_eAll, dn_eSum, dn_eMax1, dn_eMin1, dn_eSorted, dn_eMin2, dn_eMax2, dn_mAppendE, dn_mExtendE, dn_mPopE, dn_mPopAtE, dn_mReverseE, dn_mInsertE, dn_cIs, dn_cIsNot, dn_cIn, dn_cNotIn]
  | wrd n ws => simp only [Fld.d, e, Fld.isN, Fld.vals, runB_eq, frame0, ob_ok, ob_bad, ob_ite, fo_ok, fo_bad, fo_ite, fn_nx, fn_rt, fn_bk, fn_ct, fn_bad, fn_ite, op_some, op_none, op_ite, fz_dat, fz_own, so_dat, so_own, re_dat, re_own, endB_rt, endB_nx, endB_bad, endB_ite, dVar, dC, dBin, eD, dAnd, dOr, dTru, asB, dtAnd, dtOr, dChain, ib_bl, dCons, ho_dat, ho_own, ho_pk, sq_tup, sq_lst, sq_own, sq_pk, sk_tup, sk_lst, sk_own, sk_pk, ix_tup, ix_lst, ix_pk, sl_tup, sl_lst, sl_scr, tr_non, tr_bl, tr_int, tr_tup, tr_lst, tr_own, ln_tup, ln_lst, ln_own, ln_scr, ln_str, ln_pk, tp_tup, tp_lst, tp_own, tp_pk, ls_tup, ls_lst, ls_own, ad_int, ad_str, ad_tup, ad_lst, oi_int, ob_int, ob_str, lt_int, eq_int, it_tup, it_lst, it_scr, ie_int, ie_bl, io_int, vl_dat, at_0, at_1, at_2, is_non, cl_true, rg_1, rg_2, rg_3, dCall_eq, dCallK_eq, back_ok, dCall1, dCallN, min2D, max2D, negD, putS, dFor, line_le, line_lt, and_self, and_true, List.map_cons, List.map_nil, List.length_cons, List.length_nil, List.cons_append, List.nil_append, List.getElem?_cons_zero, List.getElem?_cons_succ, List.set_cons_zero, List.set_cons_succ, Bool.true_and, Bool.and_true, Bool.false_and, Bool.and_false, if_true, if_false, Bool.not_true, Bool.not_false, Bool.false_eq_true, reduceIte, Option.bind_some, Option.map_some, valI, Nat.reduceAdd, Nat.reduceLeDiff, Nat.reduceSub, Nat.reduceLT, Nat.zero_add, List.reduceReplicate, dn_eVar, dn_eInt, dn_eBl, dn_eNon, dn_eStr, dn_eGlob, dn_mkBin, dn_mkCmp, dn_mkIn, dn_mkChain, dn_eNot, dn_bOne, dn_bAnd, dn_bOr, dn_eBool, dn_tV, dn_tNt, dn_wOne, dn_wAnd, dn_wOr, dn_tBool, dn_eIf, dn_aNil, dn_aCons, dn_eTup, dn_eLst, dn_eIx, dn_oNone, dn_oSome, dn_eSl, dn_eCall, dn_eCall0, dn_bNil, dn_bCons, dn_sSet, dn_sRet, dn_sExpr, dn_sPass, dn_sBreak, dn_sCont, dn_sIf, dn_sAsg, dn_iSeq, dn_iRange, dn_iZip, dn_sFor, dn_sWhile, dn_qNil, dn_qOne, dn_kOne, dn_kTwo, dn_sSetC, dn_mkMeth, dn_mkMeth0, dn_eTIx, dn_tTok, dn_eTok, dn_sIxSet, dn_eNeg, dn_eIsi, dn_eRev, dn_rg1, dn_rg2, dn_eLstRg, dn_eTupRg, dn_sAug, dn_sPar2, dn_kwNil, dn_kwCons, dn_eCallK, dn_eCallK0, dn_kTok, dn_sForT, dn_eC, dn_tC', dn_eK, dn_eAdd, dn_eSub, dn_eMul, dn_eFdiv, dn_eMod, dn_ePow, dn_eShl, dn_eShr, dn_eAnd2, dn_eOr2, dn_cEq, dn_cNe, dn_cLt, dn_cLe, dn_cGt, dn_cGe, dn_cLeLe, dn_eLen, dn_eTupOf, dn_eLstOf, dn_eIntOf, dn_eAbs, dn_eStrOf, dn_eAny, dn_eAll, dn_eSum, dn_eMax1, dn_eMin1, dn_eSorted, dn_eMin2, dn_eMax2, dn_mAppendE, dn_mExtendE, dn_mPopE, dn_mPopAtE, dn_mReverseE, dn_mInsertE, dn_cIs, dn_cIsNot, dn_cIn, dn_cNotIn]
theorem value_count_eq (f : List Fld) (k : Nat) (h : k < f.length) (ok : f[k].ok) (g : TkG) : F_value_count [formD f, .int k] g = .ok (.dat (.int f[k].vals.length)) g := by
  simp only [F_value_count, b_value_count, fr_values_of, values_of_eq f k h ok, runB_eq, frame0, ob_ok, ob_bad, ob_ite, fo_ok, fo_bad, fo_ite, fn_nx, fn_rt, fn_bk, fn_ct, fn_bad, fn_ite, op_some, op_none, op_ite, fz_dat, fz_own, so_dat, so_own, re_dat, re_own, endB_rt, endB_nx, endB_bad, endB_ite, dVar, dC, dBin, eD, dAnd, dOr, dTru, asB, dtAnd, dtOr, dChain, ib_bl, dCons, ho_dat, ho_own, ho_pk, sq_tup, sq_lst, sq_own, sq_pk, sk_tup, sk_lst, sk_own, sk_pk, ix_tup, ix_lst, ix_pk, sl_tup, sl_lst, sl_scr, tr_non, tr_bl, tr_int, tr_tup, tr_lst, tr_own, ln_tup, ln_lst, ln_own, ln_scr, ln_str, ln_pk, tp_tup, tp_lst, tp_own, tp_pk, ls_tup, ls_lst, ls_own, ad_int, ad_str, ad_tup, ad_lst, oi_int, ob_int, ob_str, lt_int, eq_int, it_tup, it_lst, it_scr, ie_int, ie_bl, io_int, vl_dat, at_0, at_1, at_2, is_non, cl_true, rg_1, rg_2, rg_3, dCall_eq, dCallK_eq, back_ok, dCall1, dCallN, min2D, max2D, negD, putS, dFor, line_le, line_lt, and_self, and_true, List.map_cons, List.map_nil, List.length_cons, List.length_nil, List.cons_append, List.nil_append, List.getElem?_cons_zero, List.getElem?_cons_succ, List.set_cons_zero, List.set_cons_succ, Bool.true_and, Bool.and_true, Bool.false_and, Bool.and_false, if_true, if_false, Bool.not_true, Bool.not_false, Bool.false_eq_true, reduceIte, Option.bind_some, Option.map_some, valI, Nat.reduceAdd, Nat.reduceLeDiff, Nat.reduceSub, Nat.reduceLT, Nat.zero_add, List.reduceReplicate, dn_eVar, dn_eInt, dn_eBl, dn_eNon, dn_eStr, dn_eGlob, dn_mkBin, dn_mkCmp, dn_mkIn, dn_mkChain, dn_eNot, dn_bOne, dn_bAnd, dn_bOr, dn_eBool, dn_tV, dn_tNt, dn_wOne, dn_wAnd, dn_wOr, dn_tBool, dn_eIf, dn_aNil, dn_aCons, dn_eTup, dn_eLst, dn_eIx, dn_oNone, dn_oSome, dn_eSl, dn_eCall, dn_eCall0, dn_bNil, dn_bCons, dn_sSet, dn_sRet, dn_sExpr, dn_sPass, dn_sBreak, dn_sCont, dn_sIf, dn_sAsg, dn_iSeq, dn_iRange, dn_iZip, dn_sFor, dn_sWhile, dn_qNil, dn_qOne, dn_kOne, dn_kTwo, dn_sSetC, dn_mkMeth, dn_mkMeth0, dn_eTIx, dn_tTok, dn_eTok, dn_sIxSet, dn_eNeg, dn_eIsi, dn_eRev, dn_rg1, dn_rg2, dn_eLstRg, dn_eTupRg, dn_sAug, dn_sPar2, dn_kwNil, dn_kwCons, dn_eCallK, dn_eCallK0, dn_kTok, dn_sForT, dn_eC, dn_tC', dn_eK, dn_eAdd, dn_eSub, dn_eMul, dn_eFdiv, dn_eMod, dn_ePow, dn_eShl, dn_eShr, dn_eAnd2, dn_eOr2, dn_cEq, dn_cNe, dn_cLt, dn_cLe, dn_cGt, dn_cGe, dn_cLeLe, dn_eLen, dn_eTupOf, dn_eLstOf, dn_eIntOf, dn_eAbs, dn_eStrOf, dn_eAny, dn_eAll, dn_eSum, dn_eMax1, dn_eMin1, dn_eSorted, dn_eMin2, dn_eMax2, dn_mAppendE, dn_mExtendE, dn_mPopE, dn_mPopAtE, dn_mReverseE, dn_mInsertE, dn_cIs, dn_cIsNot, dn_cIn, dn_cNotIn]
/-- how many cases -/
def prodV (f : List Fld) : Nat := (f.map fun x => x.vals.length).foldl (· * ·) 1
theorem log2_lt {n k : Nat} (h : n < 2 ^ k) : n.log2 ≤ k := by
  by_cases e : n = 0
  · subst e; simp
  · exact Nat.le_of_lt ((Nat.log2_lt e).mpr h)
theorem mul_ok {i j : Int} (h1 : i.natAbs < 2 ^ 4000) (h2 : j.natAbs < 2 ^ 4000) : i.natAbs.log2 + j.natAbs.log2 < 1000000 := by
  have a := log2_lt h1
  have b := log2_lt h2
  omega
theorem rngL_get (a : Int) (n k : Nat) (h : k < (rngL a n).length) : (rngL a n)[k] = .int (a + k) := by simp [rngL]
theorem foldl_mul (l : List Nat) : ∀ a : Nat, l.foldl (· * ·) a = a * l.foldl (· * ·) 1 := by
  induction l with
  | nil => intro a; simp
  | cons x l ih => intro a; rw [List.foldl_cons, List.foldl_cons, ih (a * x), ih (1 * x), Nat.one_mul, Nat.mul_assoc]
theorem prodV_take (f : List Fld) (k : Nat) (h : k < f.length) : prodV (f.take (k + 1)) = prodV (f.take k) * f[k].vals.length := by
  unfold prodV
  rw [List.take_succ_eq_append_getElem h, List.map_append, List.foldl_append]
  rfl
theorem prodV_le (f : List Fld) (ok : ∀ x ∈ f, x.ok) : prodV f ≤ 2048 ^ f.length := by
  induction f with
  | nil => decide
  | cons x f ih =>
    unfold prodV at ih ⊢
    rw [List.map_cons, List.foldl_cons, foldl_mul, Nat.one_mul, List.length_cons, Nat.pow_succ, Nat.mul_comm]
    have h1 := (Fld.ok_vals (ok x List.mem_cons_self)).2
    exact Nat.mul_le_mul (ih fun y hy => ok y (List.mem_cons_of_mem _ hy)) (by omega)
theorem case_count_eq (f : List Fld) (ok : ∀ x ∈ f, x.ok) (hl : f.length ≤ 64) (g : TkG) : F_case_count [formD f] g = .ok (.dat (.int (prodV f))) g := by
  have h62 : In62 (f.map Fld.d).length := in62 (by omega) (by rw [List.length_map]; omega)
  simp only [F_case_count, b_case_count, h62, runB_eq, frame0, ob_ok, ob_bad, ob_ite, fo_ok, fo_bad, fo_ite, fn_nx, fn_rt, fn_bk, fn_ct, fn_bad, fn_ite, op_some, op_none, op_ite, fz_dat, fz_own, so_dat, so_own, re_dat, re_own, endB_rt, endB_nx, endB_bad, endB_ite, dVar, dC, dBin, eD, dAnd, dOr, dTru, asB, dtAnd, dtOr, dChain, ib_bl, dCons, ho_dat, ho_own, ho_pk, sq_tup, sq_lst, sq_own, sq_pk, sk_tup, sk_lst, sk_own, sk_pk, ix_tup, ix_lst, ix_pk, sl_tup, sl_lst, sl_scr, tr_non, tr_bl, tr_int, tr_tup, tr_lst, tr_own, ln_tup, ln_lst, ln_own, ln_scr, ln_str, ln_pk, tp_tup, tp_lst, tp_own, tp_pk, ls_tup, ls_lst, ls_own, ad_int, ad_str, ad_tup, ad_lst, oi_int, ob_int, ob_str, lt_int, eq_int, it_tup, it_lst, it_scr, ie_int, ie_bl, io_int, vl_dat, at_0, at_1, at_2, is_non, cl_true, rg_1, rg_2, rg_3, dCall_eq, dCallK_eq, back_ok, dCall1, dCallN, min2D, max2D, negD, putS, dFor, line_le, line_lt, and_self, and_true, List.map_cons, List.map_nil, List.length_cons, List.length_nil, List.cons_append, List.nil_append, List.getElem?_cons_zero, List.getElem?_cons_succ, List.set_cons_zero, List.set_cons_succ, Bool.true_and, Bool.and_true, Bool.false_and, Bool.and_false, if_true, if_false, Bool.not_true, Bool.not_false, Bool.false_eq_true, reduceIte, Option.bind_some, Option.map_some, valI, Nat.reduceAdd, Nat.reduceLeDiff, Nat.reduceSub, Nat.reduceLT, Nat.zero_add, List.reduceReplicate, dn_eVar, dn_eInt, dn_eBl, dn_eNon, dn_eStr, dn_eGlob, dn_mkBin, dn_mkCmp, dn_mkIn, dn_mkChain, dn_eNot, dn_bOne, dn_bAnd, dn_bOr, dn_eBool, dn_tV, dn_tNt, dn_wOne, dn_wAnd, dn_wOr, dn_tBool, dn_eIf, dn_aNil, dn_aCons, dn_eTup, dn_eLst, dn_eIx, dn_oNone, dn_oSome, dn_eSl, dn_eCall, dn_eCall0, dn_bNil, dn_bCons, dn_sSet, dn_sRet, dn_sExpr, dn_sPass, dn_sBreak, dn_sCont, dn_sIf, dn_sAsg, dn_iSeq, dn_iRange, dn_iZip, dn_sFor, dn_sWhile, dn_qNil, dn_qOne, dn_kOne, dn_kTwo, dn_sSetC, dn_mkMeth, dn_mkMeth0, dn_eTIx, dn_tTok, dn_eTok, dn_sIxSet, dn_eNeg, dn_eIsi, dn_eRev, dn_rg1, dn_rg2, dn_eLstRg, dn_eTupRg, dn_sAug, dn_sPar2, dn_kwNil, dn_kwCons, dn_eCallK, dn_eCallK0, dn_kTok, dn_sForT, dn_eC, dn_tC', dn_eK, dn_eAdd, dn_eSub, dn_eMul, dn_eFdiv, dn_eMod, dn_ePow, dn_eShl, dn_eShr, dn_eAnd2, dn_eOr2, dn_cEq, dn_cNe, dn_cLt, dn_cLe, dn_cGt, dn_cGe, dn_cLeLe, dn_eLen, dn_eTupOf, dn_eLstOf, dn_eIntOf, dn_eAbs, dn_eStrOf, dn_eAny, dn_eAll, dn_eSum, dn_eMax1, dn_eMin1, dn_eSorted, dn_eMin2, dn_eMax2, dn_mAppendE, dn_mExtendE, dn_mPopE, dn_mPopAtE, dn_mReverseE, dn_mInsertE, dn_cIs, dn_cIsNot, dn_cIn, dn_cNotIn]
  obtain ⟨s', e1, x, rfl⟩ := forD_inv (g := (gN 2 : GI TkG).den) (body := l_case_count_1.den) (rngL 0 ((f.map Fld.d).length : Int).toNat) (fun k s => ∃ x, s = (⟨[some (.dat (formD f)), some (.dat (.int (prodV (f.take k)))), x], g⟩ : Stt TkG)) (fun k hk s ⟨x, hs⟩ => by
    subst hs
    have hk' : k < f.length := by simpa [rngL] using hk
    rw [rngL_get]
    refine ⟨_, rfl, _, .inl ?_, some (.dat (.int k)), rfl⟩
    have hb : ((prodV (f.take k) : Nat) : Int).natAbs.log2 + ((f[k].vals.length : Nat) : Int).natAbs.log2 < 1000000 := by
      refine mul_ok ?_ ?_
      · rw [Int.natAbs_natCast]
        refine Nat.lt_of_le_of_lt (prodV_le _ fun y hy => ok y (List.mem_of_mem_take hy)) ?_
        exact Nat.lt_of_le_of_lt (Nat.pow_le_pow_right (by decide) (show (f.take k).length ≤ 64 by rw [List.length_take]; omega)) (by decide +kernel : 2048 ^ 64 < 2 ^ 4000)
      · rw [Int.natAbs_natCast]
        exact Nat.lt_of_le_of_lt (Fld.ok_vals (ok _ (List.getElem_mem _))).2 (by decide +kernel : 2001 < 2 ^ 4000)
    simp only [l_case_count_1, fr_value_count, Int.zero_add, value_count_eq f k hk' (ok _ (List.getElem_mem _)), hb, decide_true, runB_eq, frame0, ob_ok, ob_bad, ob_ite, fo_ok, fo_bad, fo_ite, fn_nx, fn_rt, fn_bk, fn_ct, fn_bad, fn_ite, op_some, op_none, op_ite, fz_dat, fz_own, so_dat, so_own, re_dat, re_own, endB_rt, endB_nx, endB_bad, endB_ite, dVar, dC, dBin, eD, dAnd, dOr, dTru, asB, dtAnd, dtOr, dChain, ib_bl, dCons, ho_dat, ho_own, ho_pk, sq_tup, sq_lst, sq_own, sq_pk, sk_tup, sk_lst, sk_own, sk_pk, ix_tup, ix_lst, ix_pk, sl_tup, sl_lst, sl_scr, tr_non, tr_bl, tr_int, tr_tup, tr_lst, tr_own, ln_tup, ln_lst, ln_own, ln_scr, ln_str, ln_pk, tp_tup, tp_lst, tp_own, tp_pk, ls_tup, ls_lst, ls_own, ad_int, ad_str, ad_tup, ad_lst, oi_int, ob_int, ob_str, lt_int, eq_int, it_tup, it_lst, it_scr, ie_int, ie_bl, io_int, vl_dat, at_0, at_1, at_2, is_non, cl_true, rg_1, rg_2, rg_3, dCall_eq, dCallK_eq, back_ok, dCall1, dCallN, min2D, max2D, negD, putS, dFor, line_le, line_lt, and_self, and_true, List.map_cons, List.map_nil, List.length_cons, List.length_nil, List.cons_append, List.nil_append, List.getElem?_cons_zero, List.getElem?_cons_succ, List.set_cons_zero, List.set_cons_succ, Bool.true_and, Bool.and_true, Bool.false_and, Bool.and_false, if_true, if_false, Bool.not_true, Bool.not_false, Bool.false_eq_true, reduceIte, Option.bind_some, Option.map_some, valI, Nat.reduceAdd, Nat.reduceLeDiff, Nat.reduceSub, Nat.reduceLT, Nat.zero_add, List.reduceReplicate, dn_eVar, dn_eInt, dn_eBl, dn_eNon, dn_eStr, dn_eGlob, dn_mkBin, dn_mkCmp, dn_mkIn, dn_mkChain, dn_eNot, dn_bOne, dn_bAnd, dn_bOr, dn_eBool, dn_tV, dn_tNt, dn_wOne, dn_wAnd, dn_wOr, dn_tBool, dn_eIf, dn_aNil, dn_aCons, dn_eTup, dn_eLst, dn_eIx, dn_oNone, dn_oSome, dn_eSl, dn_eCall, dn_eCall0, dn_bNil, dn_bCons, dn_sSet, dn_sRet, dn_sExpr, dn_sPass, dn_sBreak, dn_sCont, dn_sIf, dn_sAsg, dn_iSeq, dn_iRange, dn_iZip, dn_sFor, dn_sWhile, dn_qNil, dn_qOne, dn_kOne, dn_kTwo, dn_sSetC, dn_mkMeth, dn_mkMeth0, dn_eTIx, dn_tTok, dn_eTok, dn_sIxSet, dn_eNeg, dn_eIsi, dn_eRev, dn_rg1, dn_rg2, dn_eLstRg, dn_eTupRg, dn_sAug, dn_sPar2, dn_kwNil, dn_kwCons, dn_eCallK, dn_eCallK0, dn_kTok, dn_sForT, dn_eC, dn_tC', dn_eK, dn_eAdd, dn_eSub, dn_eMul, dn_eFdiv, dn_eMod, dn_ePow, dn_eShl, dn_eShr, dn_eAnd2, dn_eOr2, dn_cEq, dn_cNe, dn_cLt, dn_cLe, dn_cGt, dn_cGe, dn_cLeLe, dn_eLen, dn_eTupOf, dn_eLstOf, dn_eIntOf, dn_eAbs, dn_eStrOf, dn_eAny, dn_eAll, dn_eSum, dn_eMax1, dn_eMin1, dn_eSorted, dn_eMin2, dn_eMax2, dn_mAppendE, dn_mExtendE, dn_mPopE, dn_mPopAtE, dn_mReverseE, dn_mInsertE, dn_cIs, dn_cIsNot, dn_cIn, dn_cNotIn, dn_gN, dn_gT, dn_gsNil, dn_gsCons]
    rw [prodV_take f k hk', Int.natCast_mul]) ⟨[some (.dat (formD f)), some (.dat (.int 1)), none], g⟩ ⟨none, rfl⟩
  rw [e1]
  have el : (rngL 0 ((f.map Fld.d).length : Int).toNat).length = f.length := by simp [rngL]
  simp only [el, List.take_length, runB_eq, frame0, ob_ok, ob_bad, ob_ite, fo_ok, fo_bad, fo_ite, fn_nx, fn_rt, fn_bk, fn_ct, fn_bad, fn_ite, op_some, op_none, op_ite, fz_dat, fz_own, so_dat, so_own, re_dat, re_own, endB_rt, endB_nx, endB_bad, endB_ite, dVar, dC, dBin, eD, dAnd, dOr, dTru, asB, dtAnd, dtOr, dChain, ib_bl, dCons, ho_dat, ho_own, ho_pk, sq_tup, sq_lst, sq_own, sq_pk, sk_tup, sk_lst, sk_own, sk_pk, ix_tup, ix_lst, ix_pk, sl_tup, sl_lst, sl_scr, tr_non, tr_bl, tr_int, tr_tup, tr_lst, tr_own, ln_tup, ln_lst, ln_own, ln_scr, ln_str, ln_pk, tp_tup, tp_lst, tp_own, tp_pk, ls_tup, ls_lst, ls_own, ad_int, ad_str, ad_tup, ad_lst, oi_int, ob_int, ob_str, lt_int, eq_int, it_tup, it_lst, it_scr, ie_int, ie_bl, io_int, vl_dat, at_0, at_1, at_2, is_non, cl_true, rg_1, rg_2, rg_3, dCall_eq, dCallK_eq, back_ok, dCall1, dCallN, min2D, max2D, negD, putS, dFor, line_le, line_lt, and_self, and_true, List.map_cons, List.map_nil, List.length_cons, List.length_nil, List.cons_append, List.nil_append, List.getElem?_cons_zero, List.getElem?_cons_succ, List.set_cons_zero, List.set_cons_succ, Bool.true_and, Bool.and_true, Bool.false_and, Bool.and_false, if_true, if_false, Bool.not_true, Bool.not_false, Bool.false_eq_true, reduceIte, Option.bind_some, Option.map_some, valI, Nat.reduceAdd, Nat.reduceLeDiff, Nat.reduceSub, Nat.reduceLT, Nat.zero_add, List.reduceReplicate, dn_eVar, dn_eInt, dn_eBl, dn_eNon, dn_eStr, dn_eGlob, dn_mkBin, dn_mkCmp, dn_mkIn, dn_mkChain, dn_eNot, dn_bOne, dn_bAnd, dn_bOr, dn_eBool, dn_tV, dn_tNt, dn_wOne, dn_wAnd, dn_wOr, dn_tBool, dn_eIf, dn_aNil, dn_aCons, dn_eTup, dn_eLst, dn_eIx, dn_oNone, dn_oSome, dn_eSl, dn_eCall, dn_eCall0, dn_bNil, dn_bCons, dn_sSet, dn_sRet, dn_sExpr, dn_sPass, dn_sBreak, dn_sCont, dn_sIf, dn_sAsg, dn_iSeq, dn_iRange, dn_iZip, dn_sFor, dn_sWhile, dn_qNil, dn_qOne, dn_kOne, dn_kTwo, dn_sSetC, dn_mkMeth, dn_mkMeth0, dn_eTIx, dn_tTok, dn_eTok, dn_sIxSet, dn_eNeg, dn_eIsi, dn_eRev, dn_rg1, dn_rg2, dn_eLstRg, dn_eTupRg, dn_sAug, dn_sPar2, dn_kwNil, dn_kwCons, dn_eCallK, dn_eCallK0, dn_kTok, dn_sForT, dn_eC, dn_tC', dn_eK, dn_eAdd, dn_eSub, dn_eMul, dn_eFdiv, dn_eMod, dn_ePow, dn_eShl, dn_eShr, dn_eAnd2, dn_eOr2, dn_cEq, dn_cNe, dn_cLt, dn_cLe, dn_cGt, dn_cGe, dn_cLeLe, dn_eLen, dn_eTupOf, dn_eLstOf, dn_eIntOf, dn_eAbs, dn_eStrOf, dn_eAny, dn_eAll, dn_eSum, dn_eMax1, dn_eMin1, dn_eSorted, dn_eMin2, dn_eMax2, dn_mAppendE, dn_mExtendE, dn_mPopE, dn_mPopAtE, dn_mReverseE, dn_mInsertE, dn_cIs, dn_cIsNot, dn_cIn, dn_cNotIn]
def stepN (p : Nat × List D) (x : Fld) : Nat × List D := (p.1 / x.vals.length, x.vals.getD (p.1 % x.vals.length) .non :: p.2)
/-- the values by the last field first -/
def nthC (f : List Fld) (r : Nat) : List D := (f.reverse.foldl stepN (r, [])).2
theorem at_vals {x : Fld} (h : x.ok) (r : Nat) : L2.atI x.vals ((r % x.vals.length : Nat) : Int) = some (x.vals.getD (r % x.vals.length) .non) := by
  have hl := (Fld.ok_vals h).1
  have hm : r % x.vals.length < x.vals.length := Nat.mod_lt _ hl
  rw [at_nat _ _ hm, List.getD_eq_getElem?_getD, List.getElem?_eq_getElem hm]
  rfl
theorem rngC_len (a c : Int) (n : Nat) : (rngC a c n).length = n := by simp [rngC]
theorem rngC_get (a c : Int) (n k : Nat) (h : k < (rngC a c n).length) : (rngC a c n)[k] = .int (a + k * c) := by simp [rngC]
theorem stepN_len (l : List Fld) : ∀ p : Nat × List D, (l.foldl stepN p).2.length = p.2.length + l.length := by
  induction l with
  | nil => intro p; rfl
  | cons x l ih => intro p; rw [List.foldl_cons, ih]; simp only [stepN, List.length_cons]; omega
theorem take_fold {α β : Type} (f : β → α → β) (b : β) (l : List α) (k : Nat) (h : k < l.length) : (l.take (k + 1)).foldl f b = f ((l.take k).foldl f b) l[k] := by
  rw [List.take_succ_eq_append_getElem h, List.foldl_append]
  rfl
theorem nth_case_eq (f : List Fld) (ok : ∀ x ∈ f, x.ok) (hl : f.length ≤ 64) (m : Nat) (g : TkG) : F_nth_case [formD f, .int m] g = .ok (.dat (.tup (nthC f (m % prodV f)))) g := by
  have hp : 0 < prodV f := by
    unfold prodV
    have key : ∀ l : List Fld, (∀ x ∈ l, x.ok) → 0 < (l.map fun x => x.vals.length).foldl (· * ·) 1 := by
      intro l
      induction l with
      | nil => intro _; decide
      | cons x l ih =>
        intro h
        rw [List.map_cons, List.foldl_cons, foldl_mul, Nat.one_mul]
        exact Nat.mul_pos (Fld.ok_vals (h x List.mem_cons_self)).1 (ih fun y hy => h y (List.mem_cons_of_mem _ hy))
    exact key f ok
  have hp' : (decide ((0 : Int) < (prodV f : Nat))) = true := decide_eq_true (by omega)
  have i1 : In62 ((f.map Fld.d).length - 1) := in62 (by rw [List.length_map]; omega) (by rw [List.length_map]; omega)
  have i2 : In62 (-1) := in62 (by omega) (by omega)
  simp only [F_nth_case, b_nth_case, fr_case_count, case_count_eq f ok hl, hp', i1, i2, runB_eq, frame0, ob_ok, ob_bad, ob_ite, fo_ok, fo_bad, fo_ite, fn_nx, fn_rt, fn_bk, fn_ct, fn_bad, fn_ite, op_some, op_none, op_ite, fz_dat, fz_own, so_dat, so_own, re_dat, re_own, endB_rt, endB_nx, endB_bad, endB_ite, dVar, dC, dBin, eD, dAnd, dOr, dTru, asB, dtAnd, dtOr, dChain, ib_bl, dCons, ho_dat, ho_own, ho_pk, sq_tup, sq_lst, sq_own, sq_pk, sk_tup, sk_lst, sk_own, sk_pk, ix_tup, ix_lst, ix_pk, sl_tup, sl_lst, sl_scr, tr_non, tr_bl, tr_int, tr_tup, tr_lst, tr_own, ln_tup, ln_lst, ln_own, ln_scr, ln_str, ln_pk, tp_tup, tp_lst, tp_own, tp_pk, ls_tup, ls_lst, ls_own, ad_int, ad_str, ad_tup, ad_lst, oi_int, ob_int, ob_str, lt_int, eq_int, it_tup, it_lst, it_scr, ie_int, ie_bl, io_int, vl_dat, at_0, at_1, at_2, is_non, cl_true, rg_1, rg_2, rg_3, dCall_eq, dCallK_eq, back_ok, dCall1, dCallN, min2D, max2D, negD, putS, dFor, line_le, line_lt, and_self, and_true, List.map_cons, List.map_nil, List.length_cons, List.length_nil, List.cons_append, List.nil_append, List.getElem?_cons_zero, List.getElem?_cons_succ, List.set_cons_zero, List.set_cons_succ, Bool.true_and, Bool.and_true, Bool.false_and, Bool.and_false, if_true, if_false, Bool.not_true, Bool.not_false, Bool.false_eq_true, reduceIte, Option.bind_some, Option.map_some, valI, Nat.reduceAdd, Nat.reduceLeDiff, Nat.reduceSub, Nat.reduceLT, Nat.zero_add, List.reduceReplicate, dn_eVar, dn_eInt, dn_eBl, dn_eNon, dn_eStr, dn_eGlob, dn_mkBin, dn_mkCmp, dn_mkIn, dn_mkChain, dn_eNot, dn_bOne, dn_bAnd, dn_bOr, dn_eBool, dn_tV, dn_tNt, dn_wOne, dn_wAnd, dn_wOr, dn_tBool, dn_eIf, dn_aNil, dn_aCons, dn_eTup, dn_eLst, dn_eIx, dn_oNone, dn_oSome, dn_eSl, dn_eCall, dn_eCall0, dn_bNil, dn_bCons, dn_sSet, dn_sRet, dn_sExpr, dn_sPass, dn_sBreak, dn_sCont, dn_sIf, dn_sAsg, dn_iSeq, dn_iRange, dn_iZip, dn_sFor, dn_sWhile, dn_qNil, dn_qOne, dn_kOne, dn_kTwo, dn_sSetC, dn_mkMeth, dn_mkMeth0, dn_eTIx, dn_tTok, dn_eTok, dn_sIxSet, dn_eNeg, dn_eIsi, dn_eRev, dn_rg1, dn_rg2, dn_eLstRg, dn_eTupRg, dn_sAug, dn_sPar2, dn_kwNil, dn_kwCons, dn_eCallK, dn_eCallK0, dn_kTok, dn_sForT, dn_eC, dn_tC', dn_eK, dn_eAdd, dn_eSub, dn_eMul, dn_eFdiv, dn_eMod, dn_ePow, dn_eShl, dn_eShr, dn_eAnd2, dn_eOr2, dn_cEq, dn_cNe, dn_cLt, dn_cLe, dn_cGt, dn_cGe, dn_cLeLe, dn_eLen, dn_eTupOf, dn_eLstOf, dn_eIntOf, dn_eAbs, dn_eStrOf, dn_eAny, dn_eAll, dn_eSum, dn_eMax1, dn_eMin1, dn_eSorted, dn_eMin2, dn_eMax2, dn_mAppendE, dn_mExtendE, dn_mPopE, dn_mPopAtE, dn_mReverseE, dn_mInsertE, dn_cIs, dn_cIsNot, dn_cIn, dn_cNotIn]
  obtain ⟨s', e1, x, y, rfl⟩ := forD_inv (g := (gN 4 : GI TkG).den) (body := l_nth_case_1.den) (rngC (((f.map Fld.d).length : Int) - 1) (-1) (((f.map Fld.d).length : Int) - 1 - -1).toNat)
    (fun k s => ∃ x y, s = (⟨[some (.dat (formD f)), some (.dat (.int m)), some (.dat (.int ((f.reverse.take k).foldl stepN (m % prodV f, [])).1)), some (.dat (.tup ((f.reverse.take k).foldl stepN (m % prodV f, [])).2)), x, y], g⟩ : Stt TkG)) (fun k hk s ⟨x, y, hs⟩ => by
    subst hs
    have hk' : k < f.length := by simp only [rngC_len, List.length_map] at hk; omega
    rw [rngC_get]
    have ei : ((f.map Fld.d).length : Int) - 1 + k * -1 = ((f.length - 1 - k : Nat) : Int) := by rw [List.length_map]; omega
    rw [ei]
    have hk2 : f.length - 1 - k < f.length := by omega
    have okx := ok _ (List.getElem_mem hk2)
    have er : f.reverse[k]'(by rw [List.length_reverse]; exact hk') = f[f.length - 1 - k] := by rw [List.getElem_reverse]
    rw [take_fold stepN _ _ k (by rw [List.length_reverse]; exact hk'), er]
    have hlen := stepN_len (f.reverse.take k) (m % prodV f, [])
    rw [List.length_take, List.length_reverse] at hlen
    generalize (f.reverse.take k).foldl stepN (m % prodV f, []) = st at hlen ⊢
    have hv := (Fld.ok_vals okx).1
    have hv2 := (Fld.ok_vals okx).2
    have h0 : (decide ((0 : Int) < ((f[f.length - 1 - k].vals.length : Nat) : Int))) = true := decide_eq_true (by omega)
    have hlog : (decide (((f[f.length - 1 - k].vals.length : Nat) : Int).natAbs.log2 < 9000)) = true := decide_eq_true (by
      rw [Int.natAbs_natCast]
      have : f[f.length - 1 - k].vals.length < 2 ^ 20 := by omega
      have := log2_lt this
      omega)
    have em : ((st.1 : Nat) : Int) % ((f[f.length - 1 - k].vals.length : Nat) : Int) = ((st.1 % f[f.length - 1 - k].vals.length : Nat) : Int) := rfl
    have ed : ((st.1 : Nat) : Int) / ((f[f.length - 1 - k].vals.length : Nat) : Int) = ((st.1 / f[f.length - 1 - k].vals.length : Nat) : Int) := rfl
    have hs1 : 1 + st.2.length ≤ 100000 := by rw [hlen]; simp; omega
    refine ⟨_, rfl, _, .inl ?_, some (.dat (.int (f.length - 1 - k : Nat))), some (.dat (.tup f[f.length - 1 - k].vals)), rfl⟩
    simp only [l_nth_case_1, fr_values_of, values_of_eq f _ hk2 okx, h0, hlog, em, ed, at_vals okx, hs1, runB_eq, frame0, ob_ok, ob_bad, ob_ite, fo_ok, fo_bad, fo_ite, fn_nx, fn_rt, fn_bk, fn_ct, fn_bad, fn_ite, op_some, op_none, op_ite, fz_dat, fz_own, so_dat, so_own, re_dat, re_own, endB_rt, endB_nx, endB_bad, endB_ite, dVar, dC, dBin, eD, dAnd, dOr, dTru, asB, dtAnd, dtOr, dChain, ib_bl, dCons, ho_dat, ho_own, ho_pk, sq_tup, sq_lst, sq_own, sq_pk, sk_tup, sk_lst, sk_own, sk_pk, ix_tup, ix_lst, ix_pk, sl_tup, sl_lst, sl_scr, tr_non, tr_bl, tr_int, tr_tup, tr_lst, tr_own, ln_tup, ln_lst, ln_own, ln_scr, ln_str, ln_pk, tp_tup, tp_lst, tp_own, tp_pk, ls_tup, ls_lst, ls_own, ad_int, ad_str, ad_tup, ad_lst, oi_int, ob_int, ob_str, lt_int, eq_int, it_tup, it_lst, it_scr, ie_int, ie_bl, io_int, vl_dat, at_0, at_1, at_2, is_non, cl_true, rg_1, rg_2, rg_3, dCall_eq, dCallK_eq, back_ok, dCall1, dCallN, min2D, max2D, negD, putS, dFor, line_le, line_lt, and_self, and_true, List.map_cons, List.map_nil, List.length_cons, List.length_nil, List.cons_append, List.nil_append, List.getElem?_cons_zero, List.getElem?_cons_succ, List.set_cons_zero, List.set_cons_succ, Bool.true_and, Bool.and_true, Bool.false_and, Bool.and_false, if_true, if_false, Bool.not_true, Bool.not_false, Bool.false_eq_true, reduceIte, Option.bind_some, Option.map_some, valI, Nat.reduceAdd, Nat.reduceLeDiff, Nat.reduceSub, Nat.reduceLT, Nat.zero_add, List.reduceReplicate, dn_eVar, dn_eInt, dn_eBl, dn_eNon, dn_eStr, dn_eGlob, dn_mkBin, dn_mkCmp, dn_mkIn, dn_mkChain, dn_eNot, dn_bOne, dn_bAnd, dn_bOr, dn_eBool, dn_tV, dn_tNt, dn_wOne, dn_wAnd, dn_wOr, dn_tBool, dn_eIf, dn_aNil, dn_aCons, dn_eTup, dn_eLst, dn_eIx, dn_oNone, dn_oSome, dn_eSl, dn_eCall, dn_eCall0, dn_bNil, dn_bCons, dn_sSet, dn_sRet, dn_sExpr, dn_sPass, dn_sBreak, dn_sCont, dn_sIf, dn_sAsg, dn_iSeq, dn_iRange, dn_iZip, dn_sFor, dn_sWhile, dn_qNil, dn_qOne, dn_kOne, dn_kTwo, dn_sSetC, dn_mkMeth, dn_mkMeth0, dn_eTIx, dn_tTok, dn_eTok, dn_sIxSet, dn_eNeg, dn_eIsi, dn_eRev, dn_rg1, dn_rg2, dn_eLstRg, dn_eTupRg, dn_sAug, dn_sPar2, dn_kwNil, dn_kwCons, dn_eCallK, dn_eCallK0, dn_kTok, dn_sForT, dn_eC, dn_tC', dn_eK, dn_eAdd, dn_eSub, dn_eMul, dn_eFdiv, dn_eMod, dn_ePow, dn_eShl, dn_eShr, dn_eAnd2, dn_eOr2, dn_cEq, dn_cNe, dn_cLt, dn_cLe, dn_cGt, dn_cGe, dn_cLeLe, dn_eLen, dn_eTupOf, dn_eLstOf, dn_eIntOf, dn_eAbs, dn_eStrOf, dn_eAny, dn_eAll, dn_eSum, dn_eMax1, dn_eMin1, dn_eSorted, dn_eMin2, dn_eMax2, dn_mAppendE, dn_mExtendE, dn_mPopE, dn_mPopAtE, dn_mReverseE, dn_mInsertE, dn_cIs, dn_cIsNot, dn_cIn, dn_cNotIn, dn_gN, dn_gT, dn_gsNil, dn_gsCons]
    rfl) ⟨[some (.dat (formD f)), some (.dat (.int m)), some (.dat (.int ((m : Int) % (prodV f : Nat)))), some (.dat (.tup [])), none, none], g⟩ ⟨none, none, rfl⟩
  rw [e1]
  have el : (rngC (((f.map Fld.d).length : Int) - 1) (-1) (((f.map Fld.d).length : Int) - 1 - -1).toNat).length = f.length := by rw [rngC_len, List.length_map]; omega
  simp only [el, runB_eq, frame0, ob_ok, ob_bad, ob_ite, fo_ok, fo_bad, fo_ite, fn_nx, fn_rt, fn_bk, fn_ct, fn_bad, fn_ite, op_some, op_none, op_ite, fz_dat, fz_own, so_dat, so_own, re_dat, re_own, endB_rt, endB_nx, endB_bad, endB_ite, dVar, dC, dBin, eD, dAnd, dOr, dTru, asB, dtAnd, dtOr, dChain, ib_bl, dCons, ho_dat, ho_own, ho_pk, sq_tup, sq_lst, sq_own, sq_pk, sk_tup, sk_lst, sk_own, sk_pk, ix_tup, ix_lst, ix_pk, sl_tup, sl_lst, sl_scr, tr_non, tr_bl, tr_int, tr_tup, tr_lst, tr_own, ln_tup, ln_lst, ln_own, ln_scr, ln_str, ln_pk, tp_tup, tp_lst, tp_own, tp_pk, ls_tup, ls_lst, ls_own, ad_int, ad_str, ad_tup, ad_lst, oi_int, ob_int, ob_str, lt_int, eq_int, it_tup, it_lst, it_scr, ie_int, ie_bl, io_int, vl_dat, at_0, at_1, at_2, is_non, cl_true, rg_1, rg_2, rg_3, dCall_eq, dCallK_eq, back_ok, dCall1, dCallN, min2D, max2D, negD, putS, dFor, line_le, line_lt, and_self, and_true, List.map_cons, List.map_nil, List.length_cons, List.length_nil, List.cons_append, List.nil_append, List.getElem?_cons_zero, List.getElem?_cons_succ, List.set_cons_zero, List.set_cons_succ, Bool.true_and, Bool.and_true, Bool.false_and, Bool.and_false, if_true, if_false, Bool.not_true, Bool.not_false, Bool.false_eq_true, reduceIte, Option.bind_some, Option.map_some, valI, Nat.reduceAdd, Nat.reduceLeDiff, Nat.reduceSub, Nat.reduceLT, Nat.zero_add, List.reduceReplicate, dn_eVar, dn_eInt, dn_eBl, dn_eNon, dn_eStr, dn_eGlob, dn_mkBin, dn_mkCmp, dn_mkIn, dn_mkChain, dn_eNot, dn_bOne, dn_bAnd, dn_bOr, dn_eBool, dn_tV, dn_tNt, dn_wOne, dn_wAnd, dn_wOr, dn_tBool, dn_eIf, dn_aNil, dn_aCons, dn_eTup, dn_eLst, dn_eIx, dn_oNone, dn_oSome, dn_eSl, dn_eCall, dn_eCall0, dn_bNil, dn_bCons, dn_sSet, dn_sRet, dn_sExpr, dn_sPass, dn_sBreak, dn_sCont, dn_sIf, dn_sAsg, dn_iSeq, dn_iRange, dn_iZip, dn_sFor, dn_sWhile, dn_qNil, dn_qOne, dn_kOne, dn_kTwo, dn_sSetC, dn_mkMeth, dn_mkMeth0, dn_eTIx, dn_tTok, dn_eTok, dn_sIxSet, dn_eNeg, dn_eIsi, dn_eRev, dn_rg1, dn_rg2, dn_eLstRg, dn_eTupRg, dn_sAug, dn_sPar2, dn_kwNil, dn_kwCons, dn_eCallK, dn_eCallK0, dn_kTok, dn_sForT, dn_eC, dn_tC', dn_eK, dn_eAdd, dn_eSub, dn_eMul, dn_eFdiv, dn_eMod, dn_ePow, dn_eShl, dn_eShr, dn_eAnd2, dn_eOr2, dn_cEq, dn_cNe, dn_cLt, dn_cLe, dn_cGt, dn_cGe, dn_cLeLe, dn_eLen, dn_eTupOf, dn_eLstOf, dn_eIntOf, dn_eAbs, dn_eStrOf, dn_eAny, dn_eAll, dn_eSum, dn_eMax1, dn_eMin1, dn_eSorted, dn_eMin2, dn_eMax2, dn_mAppendE, dn_mExtendE, dn_mPopE, dn_mPopAtE, dn_mReverseE, dn_mInsertE, dn_cIs, dn_cIsNot, dn_cIn, dn_cNotIn]
  rw [List.take_of_length_le (by rw [List.length_reverse]; exact Nat.le_refl _)]
  rfl
theorem law_numbers_eq (x : Fld) (ok : x.ok) (g : TkG) : F__law_numbers [x.d] g = .ok (.dat (.bl x.isN)) g := by
  cases x with
  | num n a b => simp only [F__law_numbers, b__law_numbers, Fld.d, runB_eq, frame0, ob_ok, ob_bad, ob_ite, fo_ok, fo_bad, fo_ite, fn_nx, fn_rt, fn_bk, fn_ct, fn_bad, fn_ite, op_some, op_none, op_ite, fz_dat, fz_own, so_dat, so_own, re_dat, re_own, endB_rt, endB_nx, endB_bad, endB_ite, dVar, dC, dBin, eD, dAnd, dOr, dTru, asB, dtAnd, dtOr, dChain, ib_bl, dCons, ho_dat, ho_own, ho_pk, sq_tup, sq_lst, sq_own, sq_pk, sk_tup, sk_lst, sk_own, sk_pk, ix_tup, ix_lst, ix_pk, sl_tup, sl_lst, sl_scr, tr_non, tr_bl, tr_int, tr_tup, tr_lst, tr_own, ln_tup, ln_lst, ln_own, ln_scr, ln_str, ln_pk, tp_tup, tp_lst, tp_own, tp_pk, ls_tup, ls_lst, ls_own, ad_int, ad_str, ad_tup, ad_lst, oi_int, ob_int, ob_str, lt_int, eq_int, it_tup, it_lst, it_scr, ie_int, ie_bl, io_int, vl_dat, at_0, at_1, at_2, is_non, cl_true, rg_1, rg_2, rg_3, dCall_eq, dCallK_eq, back_ok, dCall1, dCallN, min2D, max2D, negD, putS, dFor, line_le, line_lt, and_self, and_true, List.map_cons, List.map_nil, List.length_cons, List.length_nil, List.cons_append, List.nil_append, List.getElem?_cons_zero, List.getElem?_cons_succ, List.set_cons_zero, List.set_cons_succ, Bool.true_and, Bool.and_true, Bool.false_and, Bool.and_false, if_true, if_false, Bool.not_true, Bool.not_false, Bool.false_eq_true, reduceIte, Option.bind_some, Option.map_some, valI, Nat.reduceAdd, Nat.reduceLeDiff, Nat.reduceSub, Nat.reduceLT, Nat.zero_add, List.reduceReplicate, dn_eVar, dn_eInt, dn_eBl, dn_eNon, dn_eStr, dn_eGlob, dn_mkBin, dn_mkCmp, dn_mkIn, dn_mkChain, dn_eNot, dn_bOne, dn_bAnd, dn_bOr, dn_eBool, dn_tV, dn_tNt, dn_wOne, dn_wAnd, dn_wOr, dn_tBool, dn_eIf, dn_aNil, dn_aCons, dn_eTup, dn_eLst, dn_eIx, dn_oNone, dn_oSome, dn_eSl, dn_eCall, dn_eCall0, dn_bNil, dn_bCons, dn_sSet, dn_sRet, dn_sExpr, dn_sPass, dn_sBreak, dn_sCont, dn_sIf, dn_sAsg, dn_iSeq, dn_iRange, dn_iZip, dn_sFor, dn_sWhile, dn_qNil, dn_qOne, dn_kOne, dn_kTwo, dn_sSetC, dn_mkMeth, dn_mkMeth0, dn_eTIx, dn_tTok, dn_eTok, dn_sIxSet, dn_eNeg, dn_eIsi, dn_eRev, dn_rg1, dn_rg2, dn_eLstRg, dn_eTupRg, dn_sAug, dn_sPar2, dn_kwNil, dn_kwCons, dn_eCallK, dn_eCallK0, dn_kTok, dn_sForT, dn_eC, dn_tC', dn_eK, dn_eAdd, dn_eSub, dn_eMul, dn_eFdiv, dn_eMod, dn_ePow, dn_eShl, dn_eShr, dn_eAnd2, dn_eOr2, dn_cEq, dn_cNe, dn_cLt, dn_cLe, dn_cGt, dn_cGe, dn_cLeLe, dn_eLen, dn_eTupOf, dn_eLstOf, dn_eIntOf, dn_eAbs, dn_eStrOf, dn_eAny, dn_eAll, dn_eSum, dn_eMax1, dn_eMin1, dn_eSorted, dn_eMin2, dn_eMax2, dn_mAppendE, dn_mExtendE, dn_mPopE, dn_mPopAtE, dn_mReverseE, dn_mInsertE, dn_cIs, dn_cIsNot, dn_cIn, dn_cNotIn]; rfl
  | wrd n ws =>
    cases ws with
    | nil => exact absurd ok.1 (by simp)
    | cons w ws => simp only [F__law_numbers, b__law_numbers, Fld.d, runB_eq, frame0, ob_ok, ob_bad, ob_ite, fo_ok, fo_bad, fo_ite, fn_nx, fn_rt, fn_bk, fn_ct, fn_bad, fn_ite, op_some, op_none, op_ite, fz_dat, fz_own, so_dat, so_own, re_dat, re_own, endB_rt, endB_nx, endB_bad, endB_ite, dVar, dC, dBin, eD, dAnd, dOr, dTru, asB, dtAnd, dtOr, dChain, ib_bl, dCons, ho_dat, ho_own, ho_pk, sq_tup, sq_lst, sq_own, sq_pk, sk_tup, sk_lst, sk_own, sk_pk, ix_tup, ix_lst, ix_pk, sl_tup, sl_lst, sl_scr, tr_non, tr_bl, tr_int, tr_tup, tr_lst, tr_own, ln_tup, ln_lst, ln_own, ln_scr, ln_str, ln_pk, tp_tup, tp_lst, tp_own, tp_pk, ls_tup, ls_lst, ls_own, ad_int, ad_str, ad_tup, ad_lst, oi_int, ob_int, ob_str, lt_int, eq_int, it_tup, it_lst, it_scr, ie_int, ie_bl, io_int, vl_dat, at_0, at_1, at_2, is_non, cl_true, rg_1, rg_2, rg_3, dCall_eq, dCallK_eq, back_ok, dCall1, dCallN, min2D, max2D, negD, putS, dFor, line_le, line_lt, and_self, and_true, List.map_cons, List.map_nil, List.length_cons, List.length_nil, List.cons_append, List.nil_append, List.getElem?_cons_zero, List.getElem?_cons_succ, List.set_cons_zero, List.set_cons_succ, Bool.true_and, Bool.and_true, Bool.false_and, Bool.and_false, if_true, if_false, Bool.not_true, Bool.not_false, Bool.false_eq_true, reduceIte, Option.bind_some, Option.map_some, valI, Nat.reduceAdd, Nat.reduceLeDiff, Nat.reduceSub, Nat.reduceLT, Nat.zero_add, List.reduceReplicate, dn_eVar, dn_eInt, dn_eBl, dn_eNon, dn_eStr, dn_eGlob, dn_mkBin, dn_mkCmp, dn_mkIn, dn_mkChain, dn_eNot, dn_bOne, dn_bAnd, dn_bOr, dn_eBool, dn_tV, dn_tNt, dn_wOne, dn_wAnd, dn_wOr, dn_tBool, dn_eIf, dn_aNil, dn_aCons, dn_eTup, dn_eLst, dn_eIx, dn_oNone, dn_oSome, dn_eSl, dn_eCall, dn_eCall0, dn_bNil, dn_bCons, dn_sSet, dn_sRet, dn_sExpr, dn_sPass, dn_sBreak, dn_sCont, dn_sIf, dn_sAsg, dn_iSeq, dn_iRange, dn_iZip, dn_sFor, dn_sWhile, dn_qNil, dn_qOne, dn_kOne, dn_kTwo, dn_sSetC, dn_mkMeth, dn_mkMeth0, dn_eTIx, dn_tTok, dn_eTok, dn_sIxSet, dn_eNeg, dn_eIsi, dn_eRev, dn_rg1, dn_rg2, dn_eLstRg, dn_eTupRg, dn_sAug, dn_sPar2, dn_kwNil, dn_kwCons, dn_eCallK, dn_eCallK0, dn_kTok, dn_sForT, dn_eC, dn_tC', dn_eK, dn_eAdd, dn_eSub, dn_eMul, dn_eFdiv, dn_eMod, dn_ePow, dn_eShl, dn_eShr, dn_eAnd2, dn_eOr2, dn_cEq, dn_cNe, dn_cLt, dn_cLe, dn_cGt, dn_cGe, dn_cLeLe, dn_eLen, dn_eTupOf, dn_eLstOf, dn_eIntOf, dn_eAbs, dn_eStrOf, dn_eAny, dn_eAll, dn_eSum, dn_eMax1, dn_eMin1, dn_eSorted, dn_eMin2, dn_eMax2, dn_mAppendE, dn_mExtendE, dn_mPopE, dn_mPopAtE, dn_mReverseE, dn_mInsertE, dn_cIs, dn_cIsNot, dn_cIn, dn_cNotIn]; rfl
theorem law_values_eq (x : Fld) (ok : x.ok) (g : TkG) : F__law_values [x.d] g = .ok (.own x.vals) g := by
  have e := law_numbers_eq x ok g
  cases x with
  | num n a b =>
    have hb : rgOk a (b + 1) := by
      simp only [Fld.ok] at ok
      exact ⟨in62 (by omega) (by omega), in62 (by omega) (by omega), by omega⟩
    simp only [F__law_values, b__law_values, fr__law_numbers, Fld.d, runB_eq, frame0, ob_ok, ob_bad, ob_ite, fo_ok, fo_bad, fo_ite, fn_nx, fn_rt, fn_bk, fn_ct, fn_bad, fn_ite, op_some, op_none, op_ite, fz_dat, fz_own, so_dat, so_own, re_dat, re_own, endB_rt, endB_nx, endB_bad, endB_ite, dVar, dC, dBin, eD, dAnd, dOr, dTru, asB, dtAnd, dtOr, dChain, ib_bl, dCons, ho_dat, ho_own, ho_pk, sq_tup, sq_lst, sq_own, sq_pk, sk_tup, sk_lst, sk_own, sk_pk, ix_tup, ix_lst, ix_pk, sl_tup, sl_lst, sl_scr, tr_non, tr_bl, tr_int, tr_tup, tr_lst, tr_own, ln_tup, ln_lst, ln_own, ln_scr, ln_str, ln_pk, tp_tup, tp_lst, tp_own, tp_pk, ls_tup, ls_lst, ls_own, ad_int, ad_str, ad_tup, ad_lst, oi_int, ob_int, ob_str, lt_int, eq_int, it_tup, it_lst, it_scr, ie_int, ie_bl, io_int, vl_dat, at_0, at_1, at_2, is_non, cl_true, rg_1, rg_2, rg_3, dCall_eq, dCallK_eq, back_ok, dCall1, dCallN, min2D, max2D, negD, putS, dFor, line_le, line_lt, and_self, and_true, List.map_cons, List.map_nil, List.length_cons, List.length_nil, List.cons_append, List.nil_append, List.getElem?_cons_zero, List.getElem?_cons_succ, List.set_cons_zero, List.set_cons_succ, Bool.true_and, Bool.and_true, Bool.false_and, Bool.and_false, if_true, if_false, Bool.not_true, Bool.not_false, Bool.false_eq_true, reduceIte, Option.bind_some, Option.map_some, valI, Nat.reduceAdd, Nat.reduceLeDiff, Nat.reduceSub, Nat.reduceLT, Nat.zero_add, List.reduceReplicate, dn_eVar, dn_eInt, dn_eBl, dn_eNon, dn_eStr, dn_eGlob, dn_mkBin, dn_mkCmp, dn_mkIn, dn_mkChain, dn_eNot, dn_bOne, dn_bAnd, dn_bOr, dn_eBool, dn_tV, dn_tNt, dn_wOne, dn_wAnd, dn_wOr, dn_tBool, dn_eIf, dn_aNil, dn_aCons, dn_eTup, dn_eLst, dn_eIx, dn_oNone, dn_oSome, dn_eSl, dn_eCall, dn_eCall0, dn_bNil, dn_bCons, dn_sSet, dn_sRet, dn_sExpr, dn_sPass, dn_sBreak, dn_sCont, dn_sIf, dn_sAsg, dn_iSeq, dn_iRange, dn_iZip, dn_sFor, dn_sWhile, dn_qNil, dn_qOne, dn_kOne, dn_kTwo, dn_sSetC, dn_mkMeth, dn_mkMeth0, dn_eTIx, dn_tTok, dn_eTok, dn_sIxSet, dn_eNeg, dn_eIsi, dn_eRev, dn_rg1, dn_rg2, dn_eLstRg, dn_eTupRg, dn_sAug, dn_sPar2, dn_kwNil, dn_kwCons, dn_eCallK, dn_eCallK0, dn_kTok, dn_sForT, dn_eC, dn_tC', dn_eK, dn_eAdd, dn_eSub, dn_eMul, dn_eFdiv, dn_eMod, dn_ePow, dn_eShl, dn_eShr, dn_eAnd2, dn_eOr2, dn_cEq, dn_cNe, dn_cLt, dn_cLe, dn_cGt, dn_cGe, dn_cLeLe, dn_eLen, dn_eTupOf, dn_eLstOf, dn_eIntOf, dn_eAbs, dn_eStrOf, dn_eAny, dn_eAll, dn_eSum, dn_eMax1, dn_eMin1, dn_eSorted, dn_eMin2, dn_eMax2, dn_mAppendE, dn_mExtendE, dn_mPopE, dn_mPopAtE, dn_mReverseE, dn_mInsertE, dn_cIs, dn_cIsNot, dn_cIn, dn_cNotIn] at e ⊢
    simp only [e, Fld.isN, clI_pos hb, Fld.vals, runB_eq, frame0, ob_ok, ob_bad, ob_ite, fo_ok, fo_bad, fo_ite, fn_nx, fn_rt, fn_bk, fn_ct, fn_bad, fn_ite, op_some, op_none, op_ite, fz_dat, fz_own, so_dat, so_own, re_dat, re_own, endB_rt, endB_nx, endB_bad, endB_ite, dVar, dC, dBin, eD, dAnd, dOr, dTru, asB, dtAnd, dtOr, dChain, ib_bl, dCons, ho_dat, ho_own, ho_pk, sq_tup, sq_lst, sq_own, sq_pk, sk_tup, sk_lst, sk_own, sk_pk, ix_tup, ix_lst, ix_pk, sl_tup, sl_lst, sl_scr, tr_non, tr_bl, tr_int, tr_tup, tr_lst, tr_own, ln_tup, ln_lst, ln_own, ln_scr, ln_str, ln_pk, tp_tup, tp_lst, tp_own, tp_pk, ls_tup, ls_lst, ls_own, ad_int, ad_str, ad_tup, ad_lst, oi_int, ob_int, ob_str, lt_int, eq_int, it_tup, it_lst, it_scr, ie_int, ie_bl, io_int, vl_dat, at_0, at_1, at_2, is_non, cl_true, rg_1, rg_2, rg_3, dCall_eq, dCallK_eq, back_ok, dCall1, dCallN, min2D, max2D, negD, putS, dFor, line_le, line_lt, and_self, and_true, List.map_cons, List.map_nil, List.length_cons, List.length_nil, List.cons_append, List.nil_append, List.getElem?_cons_zero, List.getElem?_cons_succ, List.set_cons_zero, List.set_cons_succ, Bool.true_and, Bool.and_true, Bool.false_and, Bool.and_false, if_true, if_false, Bool.not_true, Bool.not_false, Bool.false_eq_true, reduceIte, Option.bind_some, Option.map_some, valI, Nat.reduceAdd, Nat.reduceLeDiff, Nat.reduceSub, Nat.reduceLT, Nat.zero_add, List.reduceReplicate, dn_eVar, dn_eInt, dn_eBl, dn_eNon, dn_eStr, dn_eGlob, dn_mkBin, dn_mkCmp, dn_mkIn, dn_mkChain, dn_eNot, dn_bOne, dn_bAnd, dn_bOr, dn_eBool, dn_tV, dn_tNt, dn_wOne, dn_wAnd, dn_wOr, dn_tBool, dn_eIf, dn_aNil, dn_aCons, dn_eTup, dn_eLst, dn_eIx, dn_oNone, dn_oSome, dn_eSl, dn_eCall, dn_eCall0, dn_bNil, dn_bCons, dn_sSet, dn_sRet, dn_sExpr, dn_sPass, dn_sBreak, dn_sCont, dn_sIf, dn_sAsg, dn_iSeq, dn_iRange, dn_iZip, dn_sFor, dn_sWhile, dn_qNil, dn_qOne, dn_kOne, dn_kTwo, dn_sSetC, dn_mkMeth, dn_mkMeth0, dn_eTIx, dn_tTok, dn_eTok, dn_sIxSet, dn_eNeg, dn_eIsi, dn_eRev, dn_rg1, dn_rg2, dn_eLstRg, dn_eTupRg, dn_sAug, dn_sPar2, dn_kwNil, dn_kwCons, dn_eCallK, dn_eCallK0, dn_kTok, dn_sForT, dn_eC, dn_tC', dn_eK, dn_eAdd, dn_eSub, dn_eMul, dn_eFdiv, dn_eMod, dn_ePow, dn_eShl, dn_eShr, dn_eAnd2, dn_eOr2, dn_cEq, dn_cNe, dn_cLt, dn_cLe, dn_cGt, dn_cGe, dn_cLeLe, dn_eLen, dn_eTupOf, dn_eLstOf, dn_eIntOf, dn_eAbs, dn_eStrOf, dn_eAny, dn_eAll, dn_eSum, dn_eMax1, dn_eMin1, dn_eSorted, dn_eMin2, dn_eMax2, dn_mAppendE, dn_mExtendE, dn_mPopE, dn_mPopAtE, dn_mReverseE, dn_mInsertE, dn_cIs, dn_cIsNot, dn_cIn, dn_cNotIn]
  | wrd n ws =>
    simp only [F__law_values, b__law_values, fr__law_numbers, Fld.d, runB_eq, frame0, ob_ok, ob_bad, ob_ite, fo_ok, fo_bad, fo_ite, fn_nx, fn_rt, fn_bk, fn_ct, fn_bad, fn_ite, op_some, op_none, op_ite, fz_dat, fz_own, so_dat, so_own, re_dat, re_own, endB_rt, endB_nx, endB_bad, endB_ite, dVar, dC, dBin, eD, dAnd, dOr, dTru, asB, dtAnd, dtOr, dChain, ib_bl, dCons, ho_dat, ho_own, ho_pk, sq_tup, sq_lst, sq_own, sq_pk, sk_tup, sk_lst, sk_own, sk_pk, ix_tup, ix_lst, ix_pk, sl_tup, sl_lst, sl_scr, tr_non, tr_bl, tr_int, tr_tup, tr_lst, tr_own, ln_tup, ln_lst, ln_own, ln_scr, ln_str, ln_pk, tp_tup, tp_lst, tp_own, tp_pk, ls_tup, ls_lst, ls_own, ad_int, ad_str, ad_tup, ad_lst, oi_int, ob_int, ob_str, lt_int, eq_int, it_tup, it_lst, it_scr, ie_int, ie_bl, io_int, vl_dat, at_0, at_1, at_2, is_non, cl_true, rg_1, rg_2, rg_3, dCall_eq, dCallK_eq, back_ok, dCall1, dCallN, min2D, max2D, negD, putS, dFor, line_le, line_lt, and_self, and_true, List.map_cons, List.map_nil, List.length_cons, List.length_nil, List.cons_append, List.nil_append, List.getElem?_cons_zero, List.getElem?_cons_succ, List.set_cons_zero, List.set_cons_succ, Bool.true_and, Bool.and_true, Bool.false_and, Bool.and_false, if_true, if_false, Bool.not_true, Bool.not_false, Bool.false_eq_true, reduceIte, Option.bind_some, Option.map_some, valI, Nat.reduceAdd, Nat.reduceLeDiff, Nat.reduceSub, Nat.reduceLT, Nat.zero_add, List.reduceReplicate, dn_eVar, dn_eInt, dn_eBl, dn_eNon, dn_eStr, dn_eGlob, dn_mkBin, dn_mkCmp, dn_mkIn, dn_mkChain, dn_eNot, dn_bOne, dn_bAnd, dn_bOr, dn_eBool, dn_tV, dn_tNt, dn_wOne, dn_wAnd, dn_wOr, dn_tBool, dn_eIf, dn_aNil, dn_aCons, dn_eTup, dn_eLst, dn_eIx, dn_oNone, dn_oSome, dn_eSl, dn_eCall, dn_eCall0, dn_bNil, dn_bCons, dn_sSet, dn_sRet, dn_sExpr, dn_sPass, dn_sBreak, dn_sCont, dn_sIf, dn_sAsg, dn_iSeq, dn_iRange, dn_iZip, dn_sFor, dn_sWhile, dn_qNil, dn_qOne, dn_kOne, dn_kTwo, dn_sSetC, dn_mkMeth, dn_mkMeth0, dn_eTIx, dn_tTok, dn_eTok, dn_sIxSet, dn_eNeg, dn_eIsi, dn_eRev, dn_rg1, dn_rg2, dn_eLstRg, dn_eTupRg, dn_sAug, dn_sPar2, dn_kwNil, dn_kwCons, dn_eCallK, dn_eCallK0, dn_kTok, dn_sForT, dn_eC, dn_tC', dn_eK, dn_eAdd, dn_eSub, dn_eMul, dn_eFdiv, dn_eMod, dn_ePow, dn_eShl, dn_eShr, dn_eAnd2, dn_eOr2, dn_cEq, dn_cNe, dn_cLt, dn_cLe, dn_cGt, dn_cGe, dn_cLeLe, dn_eLen, dn_eTupOf, dn_eLstOf, dn_eIntOf, dn_eAbs, dn_eStrOf, dn_eAny, dn_eAll, dn_eSum, dn_eMax1, dn_eMin1, dn_eSorted, dn_eMin2, dn_eMax2, dn_mAppendE, dn_mExtendE, dn_mPopE, dn_mPopAtE, dn_mReverseE, dn_mInsertE, dn_cIs, dn_cIsNot, dn_cIn, dn_cNotIn] at e ⊢
    simp only [e, Fld.isN, Fld.vals, runB_eq, frame0, ob_ok, ob_bad, ob_ite, fo_ok, fo_bad, fo_ite, fn_nx, fn_rt, fn_bk, fn_ct, fn_bad, fn_ite, op_some, op_none, op_ite, fz_dat, fz_own, so_dat, so_own, re_dat, re_own, endB_rt, endB_nx, endB_bad, endB_ite, dVar, dC, dBin, eD, dAnd, dOr, dTru, asB, dtAnd, dtOr, dChain, ib_bl, dCons, ho_dat, ho_own, ho_pk, sq_tup, sq_lst, sq_own, sq_pk, sk_tup, sk_lst, sk_own, sk_pk, ix_tup, ix_lst, ix_pk, sl_tup, sl_lst, sl_scr, tr_non, tr_bl, tr_int, tr_tup, tr_lst, tr_own, ln_tup, ln_lst, ln_own, ln_scr, ln_str, ln_pk, tp_tup, tp_lst, tp_own, tp_pk, ls_tup, ls_lst, ls_own, ad_int, ad_str, ad_tup, ad_lst, oi_int, ob_int, ob_str, lt_int, eq_int, it_tup, it_lst, it_scr, ie_int, ie_bl, io_int, vl_dat, at_0, at_1, at_2, is_non, cl_true, rg_1, rg_2, rg_3, dCall_eq, dCallK_eq, back_ok, dCall1, dCallN, min2D, max2D, negD, putS, dFor, line_le, line_lt, and_self, and_true, List.map_cons, List.map_nil, List.length_cons, List.length_nil, List.cons_append, List.nil_append, List.getElem?_cons_zero, List.getElem?_cons_succ, List.set_cons_zero, List.set_cons_succ, Bool.true_and, Bool.and_true, Bool.false_and, Bool.and_false, if_true, if_false, Bool.not_true, Bool.not_false, Bool.false_eq_true, reduceIte, Option.bind_some, Option.map_some, valI, Nat.reduceAdd, Nat.reduceLeDiff, Nat.reduceSub, Nat.reduceLT, Nat.zero_add, List.reduceReplicate, dn_eVar, dn_eInt, dn_eBl, dn_eNon, dn_eStr, dn_eGlob, dn_mkBin, dn_mkCmp, dn_mkIn, dn_mkChain, dn_eNot, dn_bOne, dn_bAnd, dn_bOr, dn_eBool, dn_tV, dn_tNt, dn_wOne, dn_wAnd, dn_wOr, dn_tBool, dn_eIf, dn_aNil, dn_aCons, dn_eTup, dn_eLst, dn_eIx, dn_oNone, dn_oSome, dn_eSl, dn_eCall, dn_eCall0, dn_bNil, dn_bCons, dn_sSet, dn_sRet, dn_sExpr, dn_sPass, dn_sBreak, dn_sCont, dn_sIf, dn_sAsg, dn_iSeq, dn_iRange, dn_iZip, dn_sFor, dn_sWhile, dn_qNil, dn_qOne, dn_kOne, dn_kTwo, dn_sSetC, dn_mkMeth, dn_mkMeth0, dn_eTIx, dn_tTok, dn_eTok, dn_sIxSet, dn_eNeg, dn_eIsi, dn_eRev, dn_rg1, dn_rg2, dn_eLstRg, dn_eTupRg, dn_sAug, dn_sPar2, dn_kwNil, dn_kwCons, dn_eCallK, dn_eCallK0, dn_kTok, dn_sForT, dn_eC, dn_tC', dn_eK, dn_eAdd, dn_eSub, dn_eMul, dn_eFdiv, dn_eMod, dn_ePow, dn_eShl, dn_eShr, dn_eAnd2, dn_eOr2, dn_cEq, dn_cNe, dn_cLt, dn_cLe, dn_cGt, dn_cGe, dn_cLeLe, dn_eLen, dn_eTupOf, dn_eLstOf, dn_eIntOf, dn_eAbs, dn_eStrOf, dn_eAny, dn_eAll, dn_eSum, dn_eMax1, dn_eMin1, dn_eSorted, dn_eMin2, dn_eMax2, dn_mAppendE, dn_mExtendE, dn_mPopE, dn_mPopAtE, dn_mReverseE, dn_mInsertE, dn_cIs, dn_cIsNot, dn_cIn, dn_cNotIn]
theorem rev_tup (xs : List D) (s : Stt TkG) : revD (.dat (.tup xs)) s = some (.dat (.tup xs.reverse)) := rfl
theorem law_nth_eq (f : List Fld) (ok : ∀ x ∈ f, x.ok) (hl : f.length ≤ 64) (m : Nat) (g : TkG) : F__law_nth [formD f, .int m] g = .ok (.dat (.tup (nthC f m))) g := by
  simp only [F__law_nth, b__law_nth, rev_tup, runB_eq, frame0, ob_ok, ob_bad, ob_ite, fo_ok, fo_bad, fo_ite, fn_nx, fn_rt, fn_bk, fn_ct, fn_bad, fn_ite, op_some, op_none, op_ite, fz_dat, fz_own, so_dat, so_own, re_dat, re_own, endB_rt, endB_nx, endB_bad, endB_ite, dVar, dC, dBin, eD, dAnd, dOr, dTru, asB, dtAnd, dtOr, dChain, ib_bl, dCons, ho_dat, ho_own, ho_pk, sq_tup, sq_lst, sq_own, sq_pk, sk_tup, sk_lst, sk_own, sk_pk, ix_tup, ix_lst, ix_pk, sl_tup, sl_lst, sl_scr, tr_non, tr_bl, tr_int, tr_tup, tr_lst, tr_own, ln_tup, ln_lst, ln_own, ln_scr, ln_str, ln_pk, tp_tup, tp_lst, tp_own, tp_pk, ls_tup, ls_lst, ls_own, ad_int, ad_str, ad_tup, ad_lst, oi_int, ob_int, ob_str, lt_int, eq_int, it_tup, it_lst, it_scr, ie_int, ie_bl, io_int, vl_dat, at_0, at_1, at_2, is_non, cl_true, rg_1, rg_2, rg_3, dCall_eq, dCallK_eq, back_ok, dCall1, dCallN, min2D, max2D, negD, putS, dFor, line_le, line_lt, and_self, and_true, List.map_cons, List.map_nil, List.length_cons, List.length_nil, List.cons_append, List.nil_append, List.getElem?_cons_zero, List.getElem?_cons_succ, List.set_cons_zero, List.set_cons_succ, Bool.true_and, Bool.and_true, Bool.false_and, Bool.and_false, if_true, if_false, Bool.not_true, Bool.not_false, Bool.false_eq_true, reduceIte, Option.bind_some, Option.map_some, valI, Nat.reduceAdd, Nat.reduceLeDiff, Nat.reduceSub, Nat.reduceLT, Nat.zero_add, List.reduceReplicate, dn_eVar, dn_eInt, dn_eBl, dn_eNon, dn_eStr, dn_eGlob, dn_mkBin, dn_mkCmp, dn_mkIn, dn_mkChain, dn_eNot, dn_bOne, dn_bAnd, dn_bOr, dn_eBool, dn_tV, dn_tNt, dn_wOne, dn_wAnd, dn_wOr, dn_tBool, dn_eIf, dn_aNil, dn_aCons, dn_eTup, dn_eLst, dn_eIx, dn_oNone, dn_oSome, dn_eSl, dn_eCall, dn_eCall0, dn_bNil, dn_bCons, dn_sSet, dn_sRet, dn_sExpr, dn_sPass, dn_sBreak, dn_sCont, dn_sIf, dn_sAsg, dn_iSeq, dn_iRange, dn_iZip, dn_sFor, dn_sWhile, dn_qNil, dn_qOne, dn_kOne, dn_kTwo, dn_sSetC, dn_mkMeth, dn_mkMeth0, dn_eTIx, dn_tTok, dn_eTok, dn_sIxSet, dn_eNeg, dn_eIsi, dn_eRev, dn_rg1, dn_rg2, dn_eLstRg, dn_eTupRg, dn_sAug, dn_sPar2, dn_kwNil, dn_kwCons, dn_eCallK, dn_eCallK0, dn_kTok, dn_sForT, dn_eC, dn_tC', dn_eK, dn_eAdd, dn_eSub, dn_eMul, dn_eFdiv, dn_eMod, dn_ePow, dn_eShl, dn_eShr, dn_eAnd2, dn_eOr2, dn_cEq, dn_cNe, dn_cLt, dn_cLe, dn_cGt, dn_cGe, dn_cLeLe, dn_eLen, dn_eTupOf, dn_eLstOf, dn_eIntOf, dn_eAbs, dn_eStrOf, dn_eAny, dn_eAll, dn_eSum, dn_eMax1, dn_eMin1, dn_eSorted, dn_eMin2, dn_eMax2, dn_mAppendE, dn_mExtendE, dn_mPopE, dn_mPopAtE, dn_mReverseE, dn_mInsertE, dn_cIs, dn_cIsNot, dn_cIn, dn_cNotIn]
  obtain ⟨s', e1, x, y, rfl⟩ := forD_inv (g := (gN 4 : GI TkG).den) (body := l__law_nth_1.den) (f.map Fld.d).reverse
    (fun k s => ∃ x y, s = (⟨[some (.dat (formD f)), some (.dat (.int m)), some (.dat (.tup ((f.reverse.take k).foldl stepN (m, [])).2)), some (.dat (.int ((f.reverse.take k).foldl stepN (m, [])).1)), x, y], g⟩ : Stt TkG)) (fun k hk s ⟨x, y, hs⟩ => by
    subst hs
    have hk' : k < f.reverse.length := by simpa using hk
    have er : (f.map Fld.d).reverse[k] = f.reverse[k].d := by simp
    have okx : f.reverse[k].ok := ok _ (List.mem_reverse.mp (List.getElem_mem hk'))
    rw [er, take_fold stepN _ _ k hk']
    have hlen := stepN_len (f.reverse.take k) (m, [])
    rw [List.length_take, List.length_reverse] at hlen
    generalize (f.reverse.take k).foldl stepN (m, []) = st at hlen ⊢
    generalize f.reverse[k] = z at okx ⊢
    have hv := (Fld.ok_vals okx).1
    have hv2 := (Fld.ok_vals okx).2
    have h0 : (decide ((0 : Int) < ((z.vals.length : Nat) : Int))) = true := decide_eq_true (by omega)
    have hlog : (decide (((z.vals.length : Nat) : Int).natAbs.log2 < 9000)) = true := decide_eq_true (by
      rw [Int.natAbs_natCast]
      have : z.vals.length < 2 ^ 20 := by omega
      have := log2_lt this
      omega)
    have em : ((st.1 : Nat) : Int) % ((z.vals.length : Nat) : Int) = ((st.1 % z.vals.length : Nat) : Int) := rfl
    have ed : ((st.1 : Nat) : Int) / ((z.vals.length : Nat) : Int) = ((st.1 / z.vals.length : Nat) : Int) := rfl
    have hs1 : 1 + st.2.length ≤ 100000 := by rw [hlen]; simp; omega
    refine ⟨_, rfl, _, .inl ?_, some (.dat z.d), some (.own z.vals), rfl⟩
    simp only [l__law_nth_1, fr__law_values, law_values_eq z okx, h0, hlog, em, ed, at_vals okx, hs1, runB_eq, frame0, ob_ok, ob_bad, ob_ite, fo_ok, fo_bad, fo_ite, fn_nx, fn_rt, fn_bk, fn_ct, fn_bad, fn_ite, op_some, op_none, op_ite, fz_dat, fz_own, so_dat, so_own, re_dat, re_own, endB_rt, endB_nx, endB_bad, endB_ite, dVar, dC, dBin, eD, dAnd, dOr, dTru, asB, dtAnd, dtOr, dChain, ib_bl, dCons, ho_dat, ho_own, ho_pk, sq_tup, sq_lst, sq_own, sq_pk, sk_tup, sk_lst, sk_own, sk_pk, ix_tup, ix_lst, ix_pk, sl_tup, sl_lst, sl_scr, tr_non, tr_bl, tr_int, tr_tup, tr_lst, tr_own, ln_tup, ln_lst, ln_own, ln_scr, ln_str, ln_pk, tp_tup, tp_lst, tp_own, tp_pk, ls_tup, ls_lst, ls_own, ad_int, ad_str, ad_tup, ad_lst, oi_int, ob_int, ob_str, lt_int, eq_int, it_tup, it_lst, it_scr, ie_int, ie_bl, io_int, vl_dat, at_0, at_1, at_2, is_non, cl_true, rg_1, rg_2, rg_3, dCall_eq, dCallK_eq, back_ok, dCall1, dCallN, min2D, max2D, negD, putS, dFor, line_le, line_lt, and_self, and_true, List.map_cons, List.map_nil, List.length_cons, List.length_nil, List.cons_append, List.nil_append, List.getElem?_cons_zero, List.getElem?_cons_succ, List.set_cons_zero, List.set_cons_succ, Bool.true_and, Bool.and_true, Bool.false_and, Bool.and_false, if_true, if_false, Bool.not_true, Bool.not_false, Bool.false_eq_true, reduceIte, Option.bind_some, Option.map_some, valI, Nat.reduceAdd, Nat.reduceLeDiff, Nat.reduceSub, Nat.reduceLT, Nat.zero_add, List.reduceReplicate, dn_eVar, dn_eInt, dn_eBl, dn_eNon, dn_eStr, dn_eGlob, dn_mkBin, dn_mkCmp, dn_mkIn, dn_mkChain, dn_eNot, dn_bOne, dn_bAnd, dn_bOr, dn_eBool, dn_tV, dn_tNt, dn_wOne, dn_wAnd, dn_wOr, dn_tBool, dn_eIf, dn_aNil, dn_aCons, dn_eTup, dn_eLst, dn_eIx, dn_oNone, dn_oSome, dn_eSl, dn_eCall, dn_eCall0, dn_bNil, dn_bCons, dn_sSet, dn_sRet, dn_sExpr, dn_sPass, dn_sBreak, dn_sCont, dn_sIf, dn_sAsg, dn_iSeq, dn_iRange, dn_iZip, dn_sFor, dn_sWhile, dn_qNil, dn_qOne, dn_kOne, dn_kTwo, dn_sSetC, dn_mkMeth, dn_mkMeth0, dn_eTIx, dn_tTok, dn_eTok, dn_sIxSet, dn_eNeg, dn_eIsi, dn_eRev, dn_rg1, dn_rg2, dn_eLstRg, dn_eTupRg, dn_sAug, dn_sPar2, dn_kwNil, dn_kwCons, dn_eCallK, dn_eCallK0, dn_kTok, dn_sForT, dn_eC, dn_tC', dn_eK, dn_eAdd, dn_eSub, dn_eMul, dn_eFdiv, dn_eMod, dn_ePow, dn_eShl, dn_eShr, dn_eAnd2, dn_eOr2, dn_cEq, dn_cNe, dn_cLt, dn_cLe, dn_cGt, dn_cGe, dn_cLeLe, dn_eLen, dn_eTupOf, dn_eLstOf, dn_eIntOf, dn_eAbs, dn_eStrOf, dn_eAny, dn_eAll, dn_eSum, dn_eMax1, dn_eMin1, dn_eSorted, dn_eMin2, dn_eMax2, dn_mAppendE, dn_mExtendE, dn_mPopE, dn_mPopAtE, dn_mReverseE, dn_mInsertE, dn_cIs, dn_cIsNot, dn_cIn, dn_cNotIn, dn_gN, dn_gT, dn_gsNil, dn_gsCons]
    rfl) ⟨[some (.dat (formD f)), some (.dat (.int m)), some (.dat (.tup [])), some (.dat (.int m)), none, none], g⟩ ⟨none, none, rfl⟩
  rw [e1]
  have el : (f.map Fld.d).reverse.length = f.reverse.length := by simp
  simp only [el, List.take_length, runB_eq, frame0, ob_ok, ob_bad, ob_ite, fo_ok, fo_bad, fo_ite, fn_nx, fn_rt, fn_bk, fn_ct, fn_bad, fn_ite, op_some, op_none, op_ite, fz_dat, fz_own, so_dat, so_own, re_dat, re_own, endB_rt, endB_nx, endB_bad, endB_ite, dVar, dC, dBin, eD, dAnd, dOr, dTru, asB, dtAnd, dtOr, dChain, ib_bl, dCons, ho_dat, ho_own, ho_pk, sq_tup, sq_lst, sq_own, sq_pk, sk_tup, sk_lst, sk_own, sk_pk, ix_tup, ix_lst, ix_pk, sl_tup, sl_lst, sl_scr, tr_non, tr_bl, tr_int, tr_tup, tr_lst, tr_own, ln_tup, ln_lst, ln_own, ln_scr, ln_str, ln_pk, tp_tup, tp_lst, tp_own, tp_pk, ls_tup, ls_lst, ls_own, ad_int, ad_str, ad_tup, ad_lst, oi_int, ob_int, ob_str, lt_int, eq_int, it_tup, it_lst, it_scr, ie_int, ie_bl, io_int, vl_dat, at_0, at_1, at_2, is_non, cl_true, rg_1, rg_2, rg_3, dCall_eq, dCallK_eq, back_ok, dCall1, dCallN, min2D, max2D, negD, putS, dFor, line_le, line_lt, and_self, and_true, List.map_cons, List.map_nil, List.length_cons, List.length_nil, List.cons_append, List.nil_append, List.getElem?_cons_zero, List.getElem?_cons_succ, List.set_cons_zero, List.set_cons_succ, Bool.true_and, Bool.and_true, Bool.false_and, Bool.and_false, if_true, if_false, Bool.not_true, Bool.not_false, Bool.false_eq_true, reduceIte, Option.bind_some, Option.map_some, valI, Nat.reduceAdd, Nat.reduceLeDiff, Nat.reduceSub, Nat.reduceLT, Nat.zero_add, List.reduceReplicate, dn_eVar, dn_eInt, dn_eBl, dn_eNon, dn_eStr, dn_eGlob, dn_mkBin, dn_mkCmp, dn_mkIn, dn_mkChain, dn_eNot, dn_bOne, dn_bAnd, dn_bOr, dn_eBool, dn_tV, dn_tNt, dn_wOne, dn_wAnd, dn_wOr, dn_tBool, dn_eIf, dn_aNil, dn_aCons, dn_eTup, dn_eLst, dn_eIx, dn_oNone, dn_oSome, dn_eSl, dn_eCall, dn_eCall0, dn_bNil, dn_bCons, dn_sSet, dn_sRet, dn_sExpr, dn_sPass, dn_sBreak, dn_sCont, dn_sIf, dn_sAsg, dn_iSeq, dn_iRange, dn_iZip, dn_sFor, dn_sWhile, dn_qNil, dn_qOne, dn_kOne, dn_kTwo, dn_sSetC, dn_mkMeth, dn_mkMeth0, dn_eTIx, dn_tTok, dn_eTok, dn_sIxSet, dn_eNeg, dn_eIsi, dn_eRev, dn_rg1, dn_rg2, dn_eLstRg, dn_eTupRg, dn_sAug, dn_sPar2, dn_kwNil, dn_kwCons, dn_eCallK, dn_eCallK0, dn_kTok, dn_sForT, dn_eC, dn_tC', dn_eK, dn_eAdd, dn_eSub, dn_eMul, dn_eFdiv, dn_eMod, dn_ePow, dn_eShl, dn_eShr, dn_eAnd2, dn_eOr2, dn_cEq, dn_cNe, dn_cLt, dn_cLe, dn_cGt, dn_cGe, dn_cLeLe, dn_eLen, dn_eTupOf, dn_eLstOf, dn_eIntOf, dn_eAbs, dn_eStrOf, dn_eAny, dn_eAll, dn_eSum, dn_eMax1, dn_eMin1, dn_eSorted, dn_eMin2, dn_eMax2, dn_mAppendE, dn_mExtendE, dn_mPopE, dn_mPopAtE, dn_mReverseE, dn_mInsertE, dn_cIs, dn_cIsNot, dn_cIn, dn_cNotIn]
  rfl
theorem prodV_cons (x : Fld) (f : List Fld) : prodV (x :: f) = x.vals.length * prodV f := by
  unfold prodV
  rw [List.map_cons, List.foldl_cons, foldl_mul, Nat.one_mul]
theorem prodV_app (x : Fld) (f : List Fld) : prodV (f ++ [x]) = prodV f * x.vals.length := by
  unfold prodV
  rw [List.map_append, List.foldl_append]
  rfl
theorem prodV_rev (f : List Fld) : prodV f.reverse = prodV f := by
  induction f with
  | nil => rfl
  | cons x f ih => rw [List.reverse_cons, prodV_app, ih, prodV_cons, Nat.mul_comm]
theorem nth_mod_aux : ∀ (l : List Fld) (r : Nat) (acc : List D), (l.foldl stepN (r % prodV l, acc)).2 = (l.foldl stepN (r, acc)).2
  | [], r, acc => rfl
  | x :: l, r, acc => by
    rw [List.foldl_cons, List.foldl_cons, prodV_cons]
    simp only [stepN]
    rw [Nat.mod_mul_right_div_self, Nat.mod_mul_right_mod]
    exact nth_mod_aux l _ _
theorem nth_mod (f : List Fld) (r : Nat) : nthC f (r % prodV f) = nthC f r := by
  unfold nthC
  rw [← prodV_rev]
  exact nth_mod_aux _ _ _
inductive Cnd where
  | num (a b : Int) | wrd (ws : List Str)
def Cnd.d : Cnd → D
  | .num a b => .tup [.int a, .int b]
  | .wrd ws => .tup (ws.map .str)
def Cnd.isN : Cnd → Bool
  | .num .. => true
  | .wrd .. => false
def Cnd.ok : Cnd → Prop
  | .num _ _ => True
  | .wrd ws => 0 < ws.length ∧ ws.length ≤ 1000
def ruleD : Option (List Cnd) → D
  | none => .non
  | some cs => .tup (cs.map Cnd.d)
def takesM (c : Cnd) (v : D) : Bool := match c, v with
  | .num a b, .int i => decide (a ≤ i) && decide (i ≤ b)
  | .wrd ws, v => (ws.map D.str).any fun y => eqB y v
  | _, _ => false
/-- a value that a condition may be asked about -/
def askOk (c : Cnd) (v : D) : Prop := match c, v with
  | .num _ _, .int _ => True
  | .wrd _, .str _ => True
  | _, _ => False
theorem is_number_condition_eq (c : Cnd) (ok : c.ok) (g : TkG) : F_is_number_condition [c.d] g = .ok (.dat (.bl c.isN)) g := by
  cases c with
  | num a b => simp only [F_is_number_condition, b_is_number_condition, fr_is_integer, Cnd.d, is_integer_eq, runB_eq, frame0, ob_ok, ob_bad, ob_ite, fo_ok, fo_bad, fo_ite, fn_nx, fn_rt, fn_bk, fn_ct, fn_bad, fn_ite, op_some, op_none, op_ite, fz_dat, fz_own, so_dat, so_own, re_dat, re_own, endB_rt, endB_nx, endB_bad, endB_ite, dVar, dC, dBin, eD, dAnd, dOr, dTru, asB, dtAnd, dtOr, dChain, ib_bl, dCons, ho_dat, ho_own, ho_pk, sq_tup, sq_lst, sq_own, sq_pk, sk_tup, sk_lst, sk_own, sk_pk, ix_tup, ix_lst, ix_pk, sl_tup, sl_lst, sl_scr, tr_non, tr_bl, tr_int, tr_tup, tr_lst, tr_own, ln_tup, ln_lst, ln_own, ln_scr, ln_str, ln_pk, tp_tup, tp_lst, tp_own, tp_pk, ls_tup, ls_lst, ls_own, ad_int, ad_str, ad_tup, ad_lst, oi_int, ob_int, ob_str, lt_int, eq_int, it_tup, it_lst, it_scr, ie_int, ie_bl, io_int, vl_dat, at_0, at_1, at_2, is_non, cl_true, rg_1, rg_2, rg_3, dCall_eq, dCallK_eq, back_ok, dCall1, dCallN, min2D, max2D, negD, putS, dFor, line_le, line_lt, and_self, and_true, List.map_cons, List.map_nil, List.length_cons, List.length_nil, List.cons_append, List.nil_append, List.getElem?_cons_zero, List.getElem?_cons_succ, List.set_cons_zero, List.set_cons_succ, Bool.true_and, Bool.and_true, Bool.false_and, Bool.and_false, if_true, if_false, Bool.not_true, Bool.not_false, Bool.false_eq_true, reduceIte, Option.bind_some, Option.map_some, valI, Nat.reduceAdd, Nat.reduceLeDiff, Nat.reduceSub, Nat.reduceLT, Nat.zero_add, List.reduceReplicate, dn_eVar, dn_eInt, dn_eBl, dn_eNon, dn_eStr, dn_eGlob, dn_mkBin, dn_mkCmp, dn_mkIn, dn_mkChain, dn_eNot, dn_bOne, dn_bAnd, dn_bOr, dn_eBool, dn_tV, dn_tNt, dn_wOne, dn_wAnd, dn_wOr, dn_tBool, dn_eIf, dn_aNil, dn_aCons, dn_eTup, dn_eLst, dn_eIx, dn_oNone, dn_oSome, dn_eSl, dn_eCall, dn_eCall0, dn_bNil, dn_bCons, dn_sSet, dn_sRet, dn_sExpr, dn_sPass, dn_sBreak, dn_sCont, dn_sIf, dn_sAsg, dn_iSeq, dn_iRange, dn_iZip, dn_sFor, dn_sWhile, dn_qNil, dn_qOne, dn_kOne, dn_kTwo, dn_sSetC, dn_mkMeth, dn_mkMeth0, dn_eTIx, dn_tTok, dn_eTok, dn_sIxSet, dn_eNeg, dn_eIsi, dn_eRev, dn_rg1, dn_rg2, dn_eLstRg, dn_eTupRg, dn_sAug, dn_sPar2, dn_kwNil, dn_kwCons, dn_eCallK, dn_eCallK0, dn_kTok, dn_sForT, dn_eC, dn_tC', dn_eK, dn_eAdd, dn_eSub, dn_eMul, dn_eFdiv, dn_eMod, dn_ePow, dn_eShl, dn_eShr, dn_eAnd2, dn_eOr2, dn_cEq, dn_cNe, dn_cLt, dn_cLe, dn_cGt, dn_cGe, dn_cLeLe, dn_eLen, dn_eTupOf, dn_eLstOf, dn_eIntOf, dn_eAbs, dn_eStrOf, dn_eAny, dn_eAll, dn_eSum, dn_eMax1, dn_eMin1, dn_eSorted, dn_eMin2, dn_eMax2, dn_mAppendE, dn_mExtendE, dn_mPopE, dn_mPopAtE, dn_mReverseE, dn_mInsertE, dn_cIs, dn_cIsNot, dn_cIn, dn_cNotIn]; rfl
  | wrd ws =>
    cases ws with
    | nil => exact absurd ok.1 (by simp)
    | cons w ws => simp only [F_is_number_condition, b_is_number_condition, fr_is_integer, Cnd.d, List.map_cons, is_integer_eq, runB_eq, frame0, ob_ok, ob_bad, ob_ite, fo_ok, fo_bad, fo_ite, fn_nx, fn_rt, fn_bk, fn_ct, fn_bad, fn_ite, op_some, op_none, op_ite, fz_dat, fz_own, so_dat, so_own, re_dat, re_own, endB_rt, endB_nx, endB_bad, endB_ite, dVar, dC, dBin, eD, dAnd, dOr, dTru, asB, dtAnd, dtOr, dChain, ib_bl, dCons, ho_dat, ho_own, ho_pk, sq_tup, sq_lst, sq_own, sq_pk, sk_tup, sk_lst, sk_own, sk_pk, ix_tup, ix_lst, ix_pk, sl_tup, sl_lst, sl_scr, tr_non, tr_bl, tr_int, tr_tup, tr_lst, tr_own, ln_tup, ln_lst, ln_own, ln_scr, ln_str, ln_pk, tp_tup, tp_lst, tp_own, tp_pk, ls_tup, ls_lst, ls_own, ad_int, ad_str, ad_tup, ad_lst, oi_int, ob_int, ob_str, lt_int, eq_int, it_tup, it_lst, it_scr, ie_int, ie_bl, io_int, vl_dat, at_0, at_1, at_2, is_non, cl_true, rg_1, rg_2, rg_3, dCall_eq, dCallK_eq, back_ok, dCall1, dCallN, min2D, max2D, negD, putS, dFor, line_le, line_lt, and_self, and_true, List.map_cons, List.map_nil, List.length_cons, List.length_nil, List.cons_append, List.nil_append, List.getElem?_cons_zero, List.getElem?_cons_succ, List.set_cons_zero, List.set_cons_succ, Bool.true_and, Bool.and_true, Bool.false_and, Bool.and_false, if_true, if_false, Bool.not_true, Bool.not_false, Bool.false_eq_true, reduceIte, Option.bind_some, Option.map_some, valI, Nat.reduceAdd, Nat.reduceLeDiff, Nat.reduceSub, Nat.reduceLT, Nat.zero_add, List.reduceReplicate, dn_eVar, dn_eInt, dn_eBl, dn_eNon, dn_eStr, dn_eGlob, dn_mkBin, dn_mkCmp, dn_mkIn, dn_mkChain, dn_eNot, dn_bOne, dn_bAnd, dn_bOr, dn_eBool, dn_tV, dn_tNt, dn_wOne, dn_wAnd, dn_wOr, dn_tBool, dn_eIf, dn_aNil, dn_aCons, dn_eTup, dn_eLst, dn_eIx, dn_oNone, dn_oSome, dn_eSl, dn_eCall, dn_eCall0, dn_bNil, dn_bCons, dn_sSet, dn_sRet, dn_sExpr, dn_sPass, dn_sBreak, dn_sCont, dn_sIf, dn_sAsg, dn_iSeq, dn_iRange, dn_iZip, dn_sFor, dn_sWhile, dn_qNil, dn_qOne, dn_kOne, dn_kTwo, dn_sSetC, dn_mkMeth, dn_mkMeth0, dn_eTIx, dn_tTok, dn_eTok, dn_sIxSet, dn_eNeg, dn_eIsi, dn_eRev, dn_rg1, dn_rg2, dn_eLstRg, dn_eTupRg, dn_sAug, dn_sPar2, dn_kwNil, dn_kwCons, dn_eCallK, dn_eCallK0, dn_kTok, dn_sForT, dn_eC, dn_tC', dn_eK, dn_eAdd, dn_eSub, dn_eMul, dn_eFdiv, dn_eMod, dn_ePow, dn_eShl, dn_eShr, dn_eAnd2, dn_eOr2, dn_cEq, dn_cNe, dn_cLt, dn_cLe, dn_cGt, dn_cGe, dn_cLeLe, dn_eLen, dn_eTupOf, dn_eLstOf, dn_eIntOf, dn_eAbs, dn_eStrOf, dn_eAny, dn_eAll, dn_eSum, dn_eMax1, dn_eMin1, dn_eSorted, dn_eMin2, dn_eMax2, dn_mAppendE, dn_mExtendE, dn_mPopE, dn_mPopAtE, dn_mReverseE, dn_mInsertE, dn_cIs, dn_cIsNot, dn_cIn, dn_cNotIn]; rfl
theorem plns_strs (ws : List Str) : plns (ws.map D.str) = true := by
  induction ws with
  | nil => rfl
  | cons w ws ih => rw [List.map_cons]; simp only [plns, pln, ih, Bool.and_self]
theorem in_strs (neg : Bool) (ws : List Str) (w : Str) (s : Stt TkG) : inD neg (.str w) (.dat (.tup (ws.map .str))) s = some (if neg then !((ws.map D.str).any fun y => eqB y (.str w)) else (ws.map D.str).any fun y => eqB y (.str w)) := by
  have e : inD neg (.str w) (.dat (.tup (ws.map .str))) s = if pln (.str w) && plns (ws.map D.str) && decide (depB (.str w) ≤ 60) then some (if neg then !((ws.map D.str).any fun y => eqB y (.str w)) else (ws.map D.str).any fun y => eqB y (.str w)) else none := rfl
  rw [e, plns_strs]
  rfl
theorem takes_eq (c : Cnd) (v : D) (ok : c.ok) (ha : askOk c v) (g : TkG) : F_takes [c.d, v] g = .ok (.dat (.bl (takesM c v))) g := by
  have e := is_number_condition_eq c ok g
  cases c with
  | num a b =>
    cases v <;> first | exact ha.elim | skip
    rename_i i
    simp only [F_takes, b_takes, fr_is_number_condition, Cnd.d, runB_eq, frame0, ob_ok, ob_bad, ob_ite, fo_ok, fo_bad, fo_ite, fn_nx, fn_rt, fn_bk, fn_ct, fn_bad, fn_ite, op_some, op_none, op_ite, fz_dat, fz_own, so_dat, so_own, re_dat, re_own, endB_rt, endB_nx, endB_bad, endB_ite, dVar, dC, dBin, eD, dAnd, dOr, dTru, asB, dtAnd, dtOr, dChain, ib_bl, dCons, ho_dat, ho_own, ho_pk, sq_tup, sq_lst, sq_own, sq_pk, sk_tup, sk_lst, sk_own, sk_pk, ix_tup, ix_lst, ix_pk, sl_tup, sl_lst, sl_scr, tr_non, tr_bl, tr_int, tr_tup, tr_lst, tr_own, ln_tup, ln_lst, ln_own, ln_scr, ln_str, ln_pk, tp_tup, tp_lst, tp_own, tp_pk, ls_tup, ls_lst, ls_own, ad_int, ad_str, ad_tup, ad_lst, oi_int, ob_int, ob_str, lt_int, eq_int, it_tup, it_lst, it_scr, ie_int, ie_bl, io_int, vl_dat, at_0, at_1, at_2, is_non, cl_true, rg_1, rg_2, rg_3, dCall_eq, dCallK_eq, back_ok, dCall1, dCallN, min2D, max2D, negD, putS, dFor, line_le, line_lt, and_self, and_true, List.map_cons, List.map_nil, List.length_cons, List.length_nil, List.cons_append, List.nil_append, List.getElem?_cons_zero, List.getElem?_cons_succ, List.set_cons_zero, List.set_cons_succ, Bool.true_and, Bool.and_true, Bool.false_and, Bool.and_false, if_true, if_false, Bool.not_true, Bool.not_false, Bool.false_eq_true, reduceIte, Option.bind_some, Option.map_some, valI, Nat.reduceAdd, Nat.reduceLeDiff, Nat.reduceSub, Nat.reduceLT, Nat.zero_add, List.reduceReplicate, dn_eVar, dn_eInt, dn_eBl, dn_eNon, dn_eStr, dn_eGlob, dn_mkBin, dn_mkCmp, dn_mkIn, dn_mkChain, dn_eNot, dn_bOne, dn_bAnd, dn_bOr, dn_eBool, dn_tV, dn_tNt, dn_wOne, dn_wAnd, dn_wOr, dn_tBool, dn_eIf, dn_aNil, dn_aCons, dn_eTup, dn_eLst, dn_eIx, dn_oNone, dn_oSome, dn_eSl, dn_eCall, dn_eCall0, dn_bNil, dn_bCons, dn_sSet, dn_sRet, dn_sExpr, dn_sPass, dn_sBreak, dn_sCont, dn_sIf, dn_sAsg, dn_iSeq, dn_iRange, dn_iZip, dn_sFor, dn_sWhile, dn_qNil, dn_qOne, dn_kOne, dn_kTwo, dn_sSetC, dn_mkMeth, dn_mkMeth0, dn_eTIx, dn_tTok, dn_eTok, dn_sIxSet, dn_eNeg, dn_eIsi, dn_eRev, dn_rg1, dn_rg2, dn_eLstRg, dn_eTupRg, dn_sAug, dn_sPar2, dn_kwNil, dn_kwCons, dn_eCallK, dn_eCallK0, dn_kTok, dn_sForT, dn_eC, dn_tC', dn_eK, dn_eAdd, dn_eSub, dn_eMul, dn_eFdiv, dn_eMod, dn_ePow, dn_eShl, dn_eShr, dn_eAnd2, dn_eOr2, dn_cEq, dn_cNe, dn_cLt, dn_cLe, dn_cGt, dn_cGe, dn_cLeLe, dn_eLen, dn_eTupOf, dn_eLstOf, dn_eIntOf, dn_eAbs, dn_eStrOf, dn_eAny, dn_eAll, dn_eSum, dn_eMax1, dn_eMin1, dn_eSorted, dn_eMin2, dn_eMax2, dn_mAppendE, dn_mExtendE, dn_mPopE, dn_mPopAtE, dn_mReverseE, dn_mInsertE, dn_cIs, dn_cIsNot, dn_cIn, dn_cNotIn] at e ⊢
    simp only [e, Cnd.isN, takesM, runB_eq, frame0, ob_ok, ob_bad, ob_ite, fo_ok, fo_bad, fo_ite, fn_nx, fn_rt, fn_bk, fn_ct, fn_bad, fn_ite, op_some, op_none, op_ite, fz_dat, fz_own, so_dat, so_own, re_dat, re_own, endB_rt, endB_nx, endB_bad, endB_ite, dVar, dC, dBin, eD, dAnd, dOr, dTru, asB, dtAnd, dtOr, dChain, ib_bl, dCons, ho_dat, ho_own, ho_pk, sq_tup, sq_lst, sq_own, sq_pk, sk_tup, sk_lst, sk_own, sk_pk, ix_tup, ix_lst, ix_pk, sl_tup, sl_lst, sl_scr, tr_non, tr_bl, tr_int, tr_tup, tr_lst, tr_own, ln_tup, ln_lst, ln_own, ln_scr, ln_str, ln_pk, tp_tup, tp_lst, tp_own, tp_pk, ls_tup, ls_lst, ls_own, ad_int, ad_str, ad_tup, ad_lst, oi_int, ob_int, ob_str, lt_int, eq_int, it_tup, it_lst, it_scr, ie_int, ie_bl, io_int, vl_dat, at_0, at_1, at_2, is_non, cl_true, rg_1, rg_2, rg_3, dCall_eq, dCallK_eq, back_ok, dCall1, dCallN, min2D, max2D, negD, putS, dFor, line_le, line_lt, and_self, and_true, List.map_cons, List.map_nil, List.length_cons, List.length_nil, List.cons_append, List.nil_append, List.getElem?_cons_zero, List.getElem?_cons_succ, List.set_cons_zero, List.set_cons_succ, Bool.true_and, Bool.and_true, Bool.false_and, Bool.and_false, if_true, if_false, Bool.not_true, Bool.not_false, Bool.false_eq_true, reduceIte, Option.bind_some, Option.map_some, valI, Nat.reduceAdd, Nat.reduceLeDiff, Nat.reduceSub, Nat.reduceLT, Nat.zero_add, List.reduceReplicate, dn_eVar, dn_eInt, dn_eBl, dn_eNon, dn_eStr, dn_eGlob, dn_mkBin, dn_mkCmp, dn_mkIn, dn_mkChain, dn_eNot, dn_bOne, dn_bAnd, dn_bOr, dn_eBool, dn_tV, dn_tNt, dn_wOne, dn_wAnd, dn_wOr, dn_tBool, dn_eIf, dn_aNil, dn_aCons, dn_eTup, dn_eLst, dn_eIx, dn_oNone, dn_oSome, dn_eSl, dn_eCall, dn_eCall0, dn_bNil, dn_bCons, dn_sSet, dn_sRet, dn_sExpr, dn_sPass, dn_sBreak, dn_sCont, dn_sIf, dn_sAsg, dn_iSeq, dn_iRange, dn_iZip, dn_sFor, dn_sWhile, dn_qNil, dn_qOne, dn_kOne, dn_kTwo, dn_sSetC, dn_mkMeth, dn_mkMeth0, dn_eTIx, dn_tTok, dn_eTok, dn_sIxSet, dn_eNeg, dn_eIsi, dn_eRev, dn_rg1, dn_rg2, dn_eLstRg, dn_eTupRg, dn_sAug, dn_sPar2, dn_kwNil, dn_kwCons, dn_eCallK, dn_eCallK0, dn_kTok, dn_sForT, dn_eC, dn_tC', dn_eK, dn_eAdd, dn_eSub, dn_eMul, dn_eFdiv, dn_eMod, dn_ePow, dn_eShl, dn_eShr, dn_eAnd2, dn_eOr2, dn_cEq, dn_cNe, dn_cLt, dn_cLe, dn_cGt, dn_cGe, dn_cLeLe, dn_eLen, dn_eTupOf, dn_eLstOf, dn_eIntOf, dn_eAbs, dn_eStrOf, dn_eAny, dn_eAll, dn_eSum, dn_eMax1, dn_eMin1, dn_eSorted, dn_eMin2, dn_eMax2, dn_mAppendE, dn_mExtendE, dn_mPopE, dn_mPopAtE, dn_mReverseE, dn_mInsertE, dn_cIs, dn_cIsNot, dn_cIn, dn_cNotIn]
    cases decide (a ≤ i) <;> rfl
  | wrd ws =>
    cases v <;> first | exact ha.elim | skip
    rename_i w
    simp only [F_takes, b_takes, fr_is_number_condition, Cnd.d, runB_eq, frame0, ob_ok, ob_bad, ob_ite, fo_ok, fo_bad, fo_ite, fn_nx, fn_rt, fn_bk, fn_ct, fn_bad, fn_ite, op_some, op_none, op_ite, fz_dat, fz_own, so_dat, so_own, re_dat, re_own, endB_rt, endB_nx, endB_bad, endB_ite, dVar, dC, dBin, eD, dAnd, dOr, dTru, asB, dtAnd, dtOr, dChain, ib_bl, dCons, ho_dat, ho_own, ho_pk, sq_tup, sq_lst, sq_own, sq_pk, sk_tup, sk_lst, sk_own, sk_pk, ix_tup, ix_lst, ix_pk, sl_tup, sl_lst, sl_scr, tr_non, tr_bl, tr_int, tr_tup, tr_lst, tr_own, ln_tup, ln_lst, ln_own, ln_scr, ln_str, ln_pk, tp_tup, tp_lst, tp_own, tp_pk, ls_tup, ls_lst, ls_own, ad_int, ad_str, ad_tup, ad_lst, oi_int, ob_int, ob_str, lt_int, eq_int, it_tup, it_lst, it_scr, ie_int, ie_bl, io_int, vl_dat, at_0, at_1, at_2, is_non, cl_true, rg_1, rg_2, rg_3, dCall_eq, dCallK_eq, back_ok, dCall1, dCallN, min2D, max2D, negD, putS, dFor, line_le, line_lt, and_self, and_true, List.map_cons, List.map_nil, List.length_cons, List.length_nil, List.cons_append, List.nil_append, List.getElem?_cons_zero, List.getElem?_cons_succ, List.set_cons_zero, List.set_cons_succ, Bool.true_and, Bool.and_true, Bool.false_and, Bool.and_false, if_true, if_false, Bool.not_true, Bool.not_false, Bool.false_eq_true, reduceIte, Option.bind_some, Option.map_some, valI, Nat.reduceAdd, Nat.reduceLeDiff, Nat.reduceSub, Nat.reduceLT, Nat.zero_add, List.reduceReplicate, dn_eVar, dn_eInt, dn_eBl, dn_eNon, dn_eStr, dn_eGlob, dn_mkBin, dn_mkCmp, dn_mkIn, dn_mkChain, dn_eNot, dn_bOne, dn_bAnd, dn_bOr, dn_eBool, dn_tV, dn_tNt, dn_wOne, dn_wAnd, dn_wOr, dn_tBool, dn_eIf, dn_aNil, dn_aCons, dn_eTup, dn_eLst, dn_eIx, dn_oNone, dn_oSome, dn_eSl, dn_eCall, dn_eCall0, dn_bNil, dn_bCons, dn_sSet, dn_sRet, dn_sExpr, dn_sPass, dn_sBreak, dn_sCont, dn_sIf, dn_sAsg, dn_iSeq, dn_iRange, dn_iZip, dn_sFor, dn_sWhile, dn_qNil, dn_qOne, dn_kOne, dn_kTwo, dn_sSetC, dn_mkMeth, dn_mkMeth0, dn_eTIx, dn_tTok, dn_eTok, dn_sIxSet, dn_eNeg, dn_eIsi, dn_eRev, dn_rg1, dn_rg2, dn_eLstRg, dn_eTupRg, dn_sAug, dn_sPar2, dn_kwNil, dn_kwCons, dn_eCallK, dn_eCallK0, dn_kTok, dn_sForT, dn_eC, dn_tC', dn_eK, dn_eAdd, dn_eSub, dn_eMul, dn_eFdiv, dn_eMod, dn_ePow, dn_eShl, dn_eShr, dn_eAnd2, dn_eOr2, dn_cEq, dn_cNe, dn_cLt, dn_cLe, dn_cGt, dn_cGe, dn_cLeLe, dn_eLen, dn_eTupOf, dn_eLstOf, dn_eIntOf, dn_eAbs, dn_eStrOf, dn_eAny, dn_eAll, dn_eSum, dn_eMax1, dn_eMin1, dn_eSorted, dn_eMin2, dn_eMax2, dn_mAppendE, dn_mExtendE, dn_mPopE, dn_mPopAtE, dn_mReverseE, dn_mInsertE, dn_cIs, dn_cIsNot, dn_cIn, dn_cNotIn] at e ⊢
    simp only [e, Cnd.isN, takesM, dIn, in_strs, runB_eq, frame0, ob_ok, ob_bad, ob_ite, fo_ok, fo_bad, fo_ite, fn_nx, fn_rt, fn_bk, fn_ct, fn_bad, fn_ite, op_some, op_none, op_ite, fz_dat, fz_own, so_dat, so_own, re_dat, re_own, endB_rt, endB_nx, endB_bad, endB_ite, dVar, dC, dBin, eD, dAnd, dOr, dTru, asB, dtAnd, dtOr, dChain, ib_bl, dCons, ho_dat, ho_own, ho_pk, sq_tup, sq_lst, sq_own, sq_pk, sk_tup, sk_lst, sk_own, sk_pk, ix_tup, ix_lst, ix_pk, sl_tup, sl_lst, sl_scr, tr_non, tr_bl, tr_int, tr_tup, tr_lst, tr_own, ln_tup, ln_lst, ln_own, ln_scr, ln_str, ln_pk, tp_tup, tp_lst, tp_own, tp_pk, ls_tup, ls_lst, ls_own, ad_int, ad_str, ad_tup, ad_lst, oi_int, ob_int, ob_str, lt_int, eq_int, it_tup, it_lst, it_scr, ie_int, ie_bl, io_int, vl_dat, at_0, at_1, at_2, is_non, cl_true, rg_1, rg_2, rg_3, dCall_eq, dCallK_eq, back_ok, dCall1, dCallN, min2D, max2D, negD, putS, dFor, line_le, line_lt, and_self, and_true, List.map_cons, List.map_nil, List.length_cons, List.length_nil, List.cons_append, List.nil_append, List.getElem?_cons_zero, List.getElem?_cons_succ, List.set_cons_zero, List.set_cons_succ, Bool.true_and, Bool.and_true, Bool.false_and, Bool.and_false, if_true, if_false, Bool.not_true, Bool.not_false, Bool.false_eq_true, reduceIte, Option.bind_some, Option.map_some, valI, Nat.reduceAdd, Nat.reduceLeDiff, Nat.reduceSub, Nat.reduceLT, Nat.zero_add, List.reduceReplicate, dn_eVar, dn_eInt, dn_eBl, dn_eNon, dn_eStr, dn_eGlob, dn_mkBin, dn_mkCmp, dn_mkIn, dn_mkChain, dn_eNot, dn_bOne, dn_bAnd, dn_bOr, dn_eBool, dn_tV, dn_tNt, dn_wOne, dn_wAnd, dn_wOr, dn_tBool, dn_eIf, dn_aNil, dn_aCons, dn_eTup, dn_eLst, dn_eIx, dn_oNone, dn_oSome, dn_eSl, dn_eCall, dn_eCall0, dn_bNil, dn_bCons, dn_sSet, dn_sRet, dn_sExpr, dn_sPass, dn_sBreak, dn_sCont, dn_sIf, dn_sAsg, dn_iSeq, dn_iRange, dn_iZip, dn_sFor, dn_sWhile, dn_qNil, dn_qOne, dn_kOne, dn_kTwo, dn_sSetC, dn_mkMeth, dn_mkMeth0, dn_eTIx, dn_tTok, dn_eTok, dn_sIxSet, dn_eNeg, dn_eIsi, dn_eRev, dn_rg1, dn_rg2, dn_eLstRg, dn_eTupRg, dn_sAug, dn_sPar2, dn_kwNil, dn_kwCons, dn_eCallK, dn_eCallK0, dn_kTok, dn_sForT, dn_eC, dn_tC', dn_eK, dn_eAdd, dn_eSub, dn_eMul, dn_eFdiv, dn_eMod, dn_ePow, dn_eShl, dn_eShr, dn_eAnd2, dn_eOr2, dn_cEq, dn_cNe, dn_cLt, dn_cLe, dn_cGt, dn_cGe, dn_cLeLe, dn_eLen, dn_eTupOf, dn_eLstOf, dn_eIntOf, dn_eAbs, dn_eStrOf, dn_eAny, dn_eAll, dn_eSum, dn_eMax1, dn_eMin1, dn_eSorted, dn_eMin2, dn_eMax2, dn_mAppendE, dn_mExtendE, dn_mPopE, dn_mPopAtE, dn_mReverseE, dn_mInsertE, dn_cIs, dn_cIsNot, dn_cIn, dn_cNotIn]
/-- a rule lets a case -/
def letsM (cs : List Cnd) (case : List D) : Bool := (cs.zip case).all fun p => takesM p.1 p.2
theorem lets_none (case : D) (g : TkG) : F_lets [.non, case] g = .ok (.dat (.bl false)) g := by
  simp only [F_lets, b_lets, runB_eq, frame0, ob_ok, ob_bad, ob_ite, fo_ok, fo_bad, fo_ite, fn_nx, fn_rt, fn_bk, fn_ct, fn_bad, fn_ite, op_some, op_none, op_ite, fz_dat, fz_own, so_dat, so_own, re_dat, re_own, endB_rt, endB_nx, endB_bad, endB_ite, dVar, dC, dBin, eD, dAnd, dOr, dTru, asB, dtAnd, dtOr, dChain, ib_bl, dCons, ho_dat, ho_own, ho_pk, sq_tup, sq_lst, sq_own, sq_pk, sk_tup, sk_lst, sk_own, sk_pk, ix_tup, ix_lst, ix_pk, sl_tup, sl_lst, sl_scr, tr_non, tr_bl, tr_int, tr_tup, tr_lst, tr_own, ln_tup, ln_lst, ln_own, ln_scr, ln_str, ln_pk, tp_tup, tp_lst, tp_own, tp_pk, ls_tup, ls_lst, ls_own, ad_int, ad_str, ad_tup, ad_lst, oi_int, ob_int, ob_str, lt_int, eq_int, it_tup, it_lst, it_scr, ie_int, ie_bl, io_int, vl_dat, at_0, at_1, at_2, is_non, cl_true, rg_1, rg_2, rg_3, dCall_eq, dCallK_eq, back_ok, dCall1, dCallN, min2D, max2D, negD, putS, dFor, line_le, line_lt, and_self, and_true, List.map_cons, List.map_nil, List.length_cons, List.length_nil, List.cons_append, List.nil_append, List.getElem?_cons_zero, List.getElem?_cons_succ, List.set_cons_zero, List.set_cons_succ, Bool.true_and, Bool.and_true, Bool.false_and, Bool.and_false, if_true, if_false, Bool.not_true, Bool.not_false, Bool.false_eq_true, reduceIte, Option.bind_some, Option.map_some, valI, Nat.reduceAdd, Nat.reduceLeDiff, Nat.reduceSub, Nat.reduceLT, Nat.zero_add, List.reduceReplicate, dn_eVar, dn_eInt, dn_eBl, dn_eNon, dn_eStr, dn_eGlob, dn_mkBin, dn_mkCmp, dn_mkIn, dn_mkChain, dn_eNot, dn_bOne, dn_bAnd, dn_bOr, dn_eBool, dn_tV, dn_tNt, dn_wOne, dn_wAnd, dn_wOr, dn_tBool, dn_eIf, dn_aNil, dn_aCons, dn_eTup, dn_eLst, dn_eIx, dn_oNone, dn_oSome, dn_eSl, dn_eCall, dn_eCall0, dn_bNil, dn_bCons, dn_sSet, dn_sRet, dn_sExpr, dn_sPass, dn_sBreak, dn_sCont, dn_sIf, dn_sAsg, dn_iSeq, dn_iRange, dn_iZip, dn_sFor, dn_sWhile, dn_qNil, dn_qOne, dn_kOne, dn_kTwo, dn_sSetC, dn_mkMeth, dn_mkMeth0, dn_eTIx, dn_tTok, dn_eTok, dn_sIxSet, dn_eNeg, dn_eIsi, dn_eRev, dn_rg1, dn_rg2, dn_eLstRg, dn_eTupRg, dn_sAug, dn_sPar2, dn_kwNil, dn_kwCons, dn_eCallK, dn_eCallK0, dn_kTok, dn_sForT, dn_eC, dn_tC', dn_eK, dn_eAdd, dn_eSub, dn_eMul, dn_eFdiv, dn_eMod, dn_ePow, dn_eShl, dn_eShr, dn_eAnd2, dn_eOr2, dn_cEq, dn_cNe, dn_cLt, dn_cLe, dn_cGt, dn_cGe, dn_cLeLe, dn_eLen, dn_eTupOf, dn_eLstOf, dn_eIntOf, dn_eAbs, dn_eStrOf, dn_eAny, dn_eAll, dn_eSum, dn_eMax1, dn_eMin1, dn_eSorted, dn_eMin2, dn_eMax2, dn_mAppendE, dn_mExtendE, dn_mPopE, dn_mPopAtE, dn_mReverseE, dn_mInsertE, dn_cIs, dn_cIsNot, dn_cIn, dn_cNotIn]
  rfl
theorem blsD_map (bs : List Bool) : blsD (bs.map D.bl) = some bs := by
  induction bs with
  | nil => rfl
  | cons b bs ih => rw [List.map_cons, blsD, ih]; rfl
theorem zip_tup (xs ys : List D) : zipD [.tup xs, .tup ys] = some ((xs.zip ys).map fun p => .tup [p.1, p.2]) := rfl
theorem lets_eq (cs : List Cnd) (case : List D) (ok : ∀ c ∈ cs, c.ok) (ha : ∀ p ∈ cs.zip case, askOk p.1 p.2) (hl : cs.length ≤ 64) (g : TkG) : F_lets [ruleD (some cs), .tup case] g = .ok (.dat (.bl (letsM cs case))) g := by
  have ek : k_lets_1.den ⟨[some (.dat (ruleD (some cs))), some (.dat (.tup case)), none, none], g⟩ = .ok (.own (((cs.zip case).map fun p => takesM p.1 p.2).map D.bl)) ⟨[some (.dat (ruleD (some cs))), some (.dat (.tup case)), none, none], g⟩ := by
    simp only [k_lets_1, dn_kOne, List.map_cons, List.map_nil]
    have hz : (iZip (aCons (eVar 0) (aCons (eVar 1) aNil)) : II TkG).den ⟨[some (.dat (ruleD (some cs))), some (.dat (.tup case)), none, none], g⟩ = .ok ((cs.zip case).map fun p => .tup [p.1.d, p.2]) ⟨[some (.dat (ruleD (some cs))), some (.dat (.tup case)), none, none], g⟩ := by
      simp only [ruleD, zip_tup, runB_eq, frame0, ob_ok, ob_bad, ob_ite, fo_ok, fo_bad, fo_ite, fn_nx, fn_rt, fn_bk, fn_ct, fn_bad, fn_ite, op_some, op_none, op_ite, fz_dat, fz_own, so_dat, so_own, re_dat, re_own, endB_rt, endB_nx, endB_bad, endB_ite, dVar, dC, dBin, eD, dAnd, dOr, dTru, asB, dtAnd, dtOr, dChain, ib_bl, dCons, ho_dat, ho_own, ho_pk, sq_tup, sq_lst, sq_own, sq_pk, sk_tup, sk_lst, sk_own, sk_pk, ix_tup, ix_lst, ix_pk, sl_tup, sl_lst, sl_scr, tr_non, tr_bl, tr_int, tr_tup, tr_lst, tr_own, ln_tup, ln_lst, ln_own, ln_scr, ln_str, ln_pk, tp_tup, tp_lst, tp_own, tp_pk, ls_tup, ls_lst, ls_own, ad_int, ad_str, ad_tup, ad_lst, oi_int, ob_int, ob_str, lt_int, eq_int, it_tup, it_lst, it_scr, ie_int, ie_bl, io_int, vl_dat, at_0, at_1, at_2, is_non, cl_true, rg_1, rg_2, rg_3, dCall_eq, dCallK_eq, back_ok, dCall1, dCallN, min2D, max2D, negD, putS, dFor, line_le, line_lt, and_self, and_true, List.map_cons, List.map_nil, List.length_cons, List.length_nil, List.cons_append, List.nil_append, List.getElem?_cons_zero, List.getElem?_cons_succ, List.set_cons_zero, List.set_cons_succ, Bool.true_and, Bool.and_true, Bool.false_and, Bool.and_false, if_true, if_false, Bool.not_true, Bool.not_false, Bool.false_eq_true, reduceIte, Option.bind_some, Option.map_some, valI, Nat.reduceAdd, Nat.reduceLeDiff, Nat.reduceSub, Nat.reduceLT, Nat.zero_add, List.reduceReplicate, dn_eVar, dn_eInt, dn_eBl, dn_eNon, dn_eStr, dn_eGlob, dn_mkBin, dn_mkCmp, dn_mkIn, dn_mkChain, dn_eNot, dn_bOne, dn_bAnd, dn_bOr, dn_eBool, dn_tV, dn_tNt, dn_wOne, dn_wAnd, dn_wOr, dn_tBool, dn_eIf, dn_aNil, dn_aCons, dn_eTup, dn_eLst, dn_eIx, dn_oNone, dn_oSome, dn_eSl, dn_eCall, dn_eCall0, dn_bNil, dn_bCons, dn_sSet, dn_sRet, dn_sExpr, dn_sPass, dn_sBreak, dn_sCont, dn_sIf, dn_sAsg, dn_iSeq, dn_iRange, dn_iZip, dn_sFor, dn_sWhile, dn_qNil, dn_qOne, dn_kOne, dn_kTwo, dn_sSetC, dn_mkMeth, dn_mkMeth0, dn_eTIx, dn_tTok, dn_eTok, dn_sIxSet, dn_eNeg, dn_eIsi, dn_eRev, dn_rg1, dn_rg2, dn_eLstRg, dn_eTupRg, dn_sAug, dn_sPar2, dn_kwNil, dn_kwCons, dn_eCallK, dn_eCallK0, dn_kTok, dn_sForT, dn_eC, dn_tC', dn_eK, dn_eAdd, dn_eSub, dn_eMul, dn_eFdiv, dn_eMod, dn_ePow, dn_eShl, dn_eShr, dn_eAnd2, dn_eOr2, dn_cEq, dn_cNe, dn_cLt, dn_cLe, dn_cGt, dn_cGe, dn_cLeLe, dn_eLen, dn_eTupOf, dn_eLstOf, dn_eIntOf, dn_eAbs, dn_eStrOf, dn_eAny, dn_eAll, dn_eSum, dn_eMax1, dn_eMin1, dn_eSorted, dn_eMin2, dn_eMax2, dn_mAppendE, dn_mExtendE, dn_mPopE, dn_mPopAtE, dn_mReverseE, dn_mInsertE, dn_cIs, dn_cIsNot, dn_cIn, dn_cNotIn]
      rw [List.zip_map_left, List.map_map]
      rfl
    refine (dComp_map (cs.zip case) _ (fun _ => true) (fun p => .bl (takesM p.1 p.2)) hz (fun p hp => ?_) (by rw [List.length_zip]; omega)).trans ?_
    · have hc := ok p.1 (List.of_mem_zip hp).1
      refine ⟨⟨[some (.dat (ruleD (some cs))), some (.dat (.tup case)), some (.dat p.1.d), some (.dat p.2)], g⟩, rfl, rfl, fun _ => ?_, rfl⟩
      simp only [fr_takes, takes_eq p.1 p.2 hc (ha p hp), runB_eq, frame0, ob_ok, ob_bad, ob_ite, fo_ok, fo_bad, fo_ite, fn_nx, fn_rt, fn_bk, fn_ct, fn_bad, fn_ite, op_some, op_none, op_ite, fz_dat, fz_own, so_dat, so_own, re_dat, re_own, endB_rt, endB_nx, endB_bad, endB_ite, dVar, dC, dBin, eD, dAnd, dOr, dTru, asB, dtAnd, dtOr, dChain, ib_bl, dCons, ho_dat, ho_own, ho_pk, sq_tup, sq_lst, sq_own, sq_pk, sk_tup, sk_lst, sk_own, sk_pk, ix_tup, ix_lst, ix_pk, sl_tup, sl_lst, sl_scr, tr_non, tr_bl, tr_int, tr_tup, tr_lst, tr_own, ln_tup, ln_lst, ln_own, ln_scr, ln_str, ln_pk, tp_tup, tp_lst, tp_own, tp_pk, ls_tup, ls_lst, ls_own, ad_int, ad_str, ad_tup, ad_lst, oi_int, ob_int, ob_str, lt_int, eq_int, it_tup, it_lst, it_scr, ie_int, ie_bl, io_int, vl_dat, at_0, at_1, at_2, is_non, cl_true, rg_1, rg_2, rg_3, dCall_eq, dCallK_eq, back_ok, dCall1, dCallN, min2D, max2D, negD, putS, dFor, line_le, line_lt, and_self, and_true, List.map_cons, List.map_nil, List.length_cons, List.length_nil, List.cons_append, List.nil_append, List.getElem?_cons_zero, List.getElem?_cons_succ, List.set_cons_zero, List.set_cons_succ, Bool.true_and, Bool.and_true, Bool.false_and, Bool.and_false, if_true, if_false, Bool.not_true, Bool.not_false, Bool.false_eq_true, reduceIte, Option.bind_some, Option.map_some, valI, Nat.reduceAdd, Nat.reduceLeDiff, Nat.reduceSub, Nat.reduceLT, Nat.zero_add, List.reduceReplicate, dn_eVar, dn_eInt, dn_eBl, dn_eNon, dn_eStr, dn_eGlob, dn_mkBin, dn_mkCmp, dn_mkIn, dn_mkChain, dn_eNot, dn_bOne, dn_bAnd, dn_bOr, dn_eBool, dn_tV, dn_tNt, dn_wOne, dn_wAnd, dn_wOr, dn_tBool, dn_eIf, dn_aNil, dn_aCons, dn_eTup, dn_eLst, dn_eIx, dn_oNone, dn_oSome, dn_eSl, dn_eCall, dn_eCall0, dn_bNil, dn_bCons, dn_sSet, dn_sRet, dn_sExpr, dn_sPass, dn_sBreak, dn_sCont, dn_sIf, dn_sAsg, dn_iSeq, dn_iRange, dn_iZip, dn_sFor, dn_sWhile, dn_qNil, dn_qOne, dn_kOne, dn_kTwo, dn_sSetC, dn_mkMeth, dn_mkMeth0, dn_eTIx, dn_tTok, dn_eTok, dn_sIxSet, dn_eNeg, dn_eIsi, dn_eRev, dn_rg1, dn_rg2, dn_eLstRg, dn_eTupRg, dn_sAug, dn_sPar2, dn_kwNil, dn_kwCons, dn_eCallK, dn_eCallK0, dn_kTok, dn_sForT, dn_eC, dn_tC', dn_eK, dn_eAdd, dn_eSub, dn_eMul, dn_eFdiv, dn_eMod, dn_ePow, dn_eShl, dn_eShr, dn_eAnd2, dn_eOr2, dn_cEq, dn_cNe, dn_cLt, dn_cLe, dn_cGt, dn_cGe, dn_cLeLe, dn_eLen, dn_eTupOf, dn_eLstOf, dn_eIntOf, dn_eAbs, dn_eStrOf, dn_eAny, dn_eAll, dn_eSum, dn_eMax1, dn_eMin1, dn_eSorted, dn_eMin2, dn_eMax2, dn_mAppendE, dn_mExtendE, dn_mPopE, dn_mPopAtE, dn_mReverseE, dn_mInsertE, dn_cIs, dn_cIsNot, dn_cIn, dn_cNotIn]
    · rw [List.filter_eq_self.mpr (fun _ _ => rfl), List.map_map]
      rfl
  have en : isNon (ruleD (some cs)) = false := rfl
  simp only [F_lets, b_lets, ek, en, allD, lstItems, blsD_map, runB_eq, frame0, ob_ok, ob_bad, ob_ite, fo_ok, fo_bad, fo_ite, fn_nx, fn_rt, fn_bk, fn_ct, fn_bad, fn_ite, op_some, op_none, op_ite, fz_dat, fz_own, so_dat, so_own, re_dat, re_own, endB_rt, endB_nx, endB_bad, endB_ite, dVar, dC, dBin, eD, dAnd, dOr, dTru, asB, dtAnd, dtOr, dChain, ib_bl, dCons, ho_dat, ho_own, ho_pk, sq_tup, sq_lst, sq_own, sq_pk, sk_tup, sk_lst, sk_own, sk_pk, ix_tup, ix_lst, ix_pk, sl_tup, sl_lst, sl_scr, tr_non, tr_bl, tr_int, tr_tup, tr_lst, tr_own, ln_tup, ln_lst, ln_own, ln_scr, ln_str, ln_pk, tp_tup, tp_lst, tp_own, tp_pk, ls_tup, ls_lst, ls_own, ad_int, ad_str, ad_tup, ad_lst, oi_int, ob_int, ob_str, lt_int, eq_int, it_tup, it_lst, it_scr, ie_int, ie_bl, io_int, vl_dat, at_0, at_1, at_2, is_non, cl_true, rg_1, rg_2, rg_3, dCall_eq, dCallK_eq, back_ok, dCall1, dCallN, min2D, max2D, negD, putS, dFor, line_le, line_lt, and_self, and_true, List.map_cons, List.map_nil, List.length_cons, List.length_nil, List.cons_append, List.nil_append, List.getElem?_cons_zero, List.getElem?_cons_succ, List.set_cons_zero, List.set_cons_succ, Bool.true_and, Bool.and_true, Bool.false_and, Bool.and_false, if_true, if_false, Bool.not_true, Bool.not_false, Bool.false_eq_true, reduceIte, Option.bind_some, Option.map_some, valI, Nat.reduceAdd, Nat.reduceLeDiff, Nat.reduceSub, Nat.reduceLT, Nat.zero_add, List.reduceReplicate, dn_eVar, dn_eInt, dn_eBl, dn_eNon, dn_eStr, dn_eGlob, dn_mkBin, dn_mkCmp, dn_mkIn, dn_mkChain, dn_eNot, dn_bOne, dn_bAnd, dn_bOr, dn_eBool, dn_tV, dn_tNt, dn_wOne, dn_wAnd, dn_wOr, dn_tBool, dn_eIf, dn_aNil, dn_aCons, dn_eTup, dn_eLst, dn_eIx, dn_oNone, dn_oSome, dn_eSl, dn_eCall, dn_eCall0, dn_bNil, dn_bCons, dn_sSet, dn_sRet, dn_sExpr, dn_sPass, dn_sBreak, dn_sCont, dn_sIf, dn_sAsg, dn_iSeq, dn_iRange, dn_iZip, dn_sFor, dn_sWhile, dn_qNil, dn_qOne, dn_kOne, dn_kTwo, dn_sSetC, dn_mkMeth, dn_mkMeth0, dn_eTIx, dn_tTok, dn_eTok, dn_sIxSet, dn_eNeg, dn_eIsi, dn_eRev, dn_rg1, dn_rg2, dn_eLstRg, dn_eTupRg, dn_sAug, dn_sPar2, dn_kwNil, dn_kwCons, dn_eCallK, dn_eCallK0, dn_kTok, dn_sForT, dn_eC, dn_tC', dn_eK, dn_eAdd, dn_eSub, dn_eMul, dn_eFdiv, dn_eMod, dn_ePow, dn_eShl, dn_eShr, dn_eAnd2, dn_eOr2, dn_cEq, dn_cNe, dn_cLt, dn_cLe, dn_cGt, dn_cGe, dn_cLeLe, dn_eLen, dn_eTupOf, dn_eLstOf, dn_eIntOf, dn_eAbs, dn_eStrOf, dn_eAny, dn_eAll, dn_eSum, dn_eMax1, dn_eMin1, dn_eSorted, dn_eMin2, dn_eMax2, dn_mAppendE, dn_mExtendE, dn_mPopE, dn_mPopAtE, dn_mReverseE, dn_mInsertE, dn_cIs, dn_cIsNot, dn_cIn, dn_cNotIn]
  unfold letsM
  rw [List.all_map]
  rfl
end K38

namespace K38
open PySem PySem.Spec RB
theorem tk_eq (n : Nat) (fr : Fr) (g : TkG) : tokL (.dat (.tok n)) ⟨fr, g⟩ = match g[n]? with
  | some (.lst xs) => some xs
  | _ => none := rfl
theorem mv_tk (op : List D → Option (List D × D)) (n : Nat) (fr : Fr) (g : TkG) : mutV op (.dat (.tok n)) ⟨fr, g⟩ = match g[n]? with
  | some (.lst xs) => match op xs with
    | some (ys, r) => if ys.all flatD = true then .ok r ⟨fr, g.set n (.lst ys)⟩ else .bad
    | none => .bad
  | _ => .bad := rfl
theorem mv_pk (op : List D → Option (List D × D)) (i : Nat) (fr : Fr) (g : TkG) : mutV op (.pk i) ⟨fr, g⟩ = match fr[i]? with
  | some (some (.own xs)) => match op xs with
    | some (ys, r) => .ok r ⟨fr.set i (some (.own ys)), g⟩
    | none => .bad
  | _ => .bad := rfl
theorem ms_int (d : D) (i : Int) (xs : List D) : mSet (.int i) d xs = (L2.ixN xs.length i).map fun j => (xs.set j d, .non) := rfl
theorem tt_own (xs : List D) (fr : Fr) (g : TkG) : toTok (.own xs) ⟨fr, g⟩ = if xs.all flatD = true then .ok (.tok g.length) ⟨fr, g ++ [.lst xs]⟩ else .bad := rfl
theorem ix_1 (n : Nat) (h : 2 ≤ n) : L2.ixN n 1 = some 1 := by unfold L2.ixN; rw [if_pos (by decide), if_pos (by omega)]; rfl
theorem flat_ints (ys : List Int) : (ys.map D.int).all flatD = true := by rw [List.all_map]; exact List.all_eq_true.mpr fun _ _ => rfl
theorem ln_tok (n : Nat) (fr : Fr) (g : TkG) : lenD (.dat (.tok n)) ⟨fr, g⟩ = (match g[n]? with
  | some (.lst xs) => some (true, xs)
  | _ => none : Option (Bool × List D)).bind fun (p : Bool × List D) => some (.dat (.int p.2.length)) := by
  unfold lenD
  dsimp only
  unfold seqK
  dsimp only
  rw [tk_eq]
  cases g[n]? with
  | none => rfl
  | some c => cases c <;> rfl
theorem nb {z : Int} (h1 : -1267650600228229401496703205376 ≤ z) (h2 : z ≤ 1267650600228229401496703205376) : z.natAbs < 2 ^ 4000 := by
  have : z.natAbs < 2 ^ 101 := by have e : (2:Nat) ^ 101 = 2535301200456458802993406410752 := by decide +kernel
                                  omega
  exact Nat.lt_of_lt_of_le this (Nat.pow_le_pow_right (by decide) (by decide))
theorem dok {p : Prop} [Decidable p] (h : p) : decide p = true := decide_eq_true h
theorem rem_nat (v : Int) {m : Nat} (h : 0 < m) : ∃ r : Nat, r < m ∧ v % (m : Int) = r := ⟨(v % (m : Int)).toNat, by have := Int.emod_lt_of_pos v (show (0:Int) < m by omega); have := Int.emod_nonneg v (show (m : Int) ≠ 0 by omega); omega, by have := Int.emod_nonneg v (show (m : Int) ≠ 0 by omega); omega⟩
theorem flat3 (n : Nat) (i j : Int) : ([.tok n, .int i, .int j] : List D).all flatD = true := rfl
theorem pow18 : opPow (.int 10) (.int 18) = some (.dat (.int 1000000000000000000)) := by
  show (if (decide ((0 : Int) ≤ 18) && decide ((18 : Int) ≤ 1000000) && decide ((10 : Int).natAbs < 2 ^ 64)) = true then some (Vl.dat (D.int (10 ^ 18))) else none) = _
  rw [if_pos (by decide)]
  rfl
theorem set_ints (ys : List Int) (k : Nat) (v : Int) : (ys.map D.int).set k (.int v) = (ys.set k v).map D.int := by rw [List.map_set]
/-- the loom, n turns at most -/
def LOK (n : Nat) (g : TkG) : Prop := ∃ (ys : List Int) (t : Nat) (st : Nat), g = [.lst (ys.map .int), .lst [.tok 0, .int t, .int st]] ∧ t ≤ n ∧ st < 987013 ∧ ∀ y ∈ ys, 0 ≤ y
/-- the weave's last reckoning -/
theorem weave_end (y : Int) (t st m : Nat) (hy : 0 ≤ y) (ht : t ≤ 1000000000) (hst : st < 987013) (h : 0 < m) (g : TkG) : ∃ r : Nat, r < m ∧ (
            if decide ((0 : Int) < 1000151) = true then
            if decide ((y % 1000151 + 7).natAbs.log2 + (Int.natAbs 52361).log2 < 1000000) = true then
              if decide ((t : Int).natAbs.log2 + (Int.natAbs 8419).log2 < 1000000) = true then
                if decide ((st : Int).natAbs.log2 + (Int.natAbs 43).log2 < 1000000) = true then
                  if decide ((0 : Int) < 2147483549) = true then
                    if decide ((((y % 1000151 + 7) * 52361 + t * 8419 + st * 43) % 2147483549).natAbs.log2 + (((y % 1000151 + 7) * 52361 + t * 8419 + st * 43) % 2147483549).natAbs.log2 < 1000000) = true then
                      if decide ((t : Int).natAbs.log2 + (Int.natAbs 91193).log2 < 1000000) = true then
                        if decide ((0 : Int) < 2147483543) = true then
                          if (decide ((0 : Int) < 13) && decide ((Int.natAbs 13).log2 < 9000)) = true then
                            Out.ok (Vl.dat (D.int ((((y % 1000151 + 7) * 52361 + t * 8419 + st * 43) % 2147483549 * (((y % 1000151 + 7) * 52361 + t * 8419 + st * 43) % 2147483549) + t * 91193 + 37) % 2147483543 / 13 % (m : Int)))) g
                          else Out.bad
                        else Out.bad
                      else Out.bad
                    else Out.bad
                  else Out.bad
                else Out.bad
              else Out.bad
            else Out.bad
          else Out.bad) = Out.ok (.dat (.int r)) g := by
  have b1 : 0 ≤ y % 1000151 ∧ y % 1000151 < 1000151 := by omega
  rw [if_pos (by decide), if_pos (dok (mul_ok (nb (by omega) (by omega)) (nb (by decide) (by decide)))), if_pos (dok (mul_ok (nb (by omega) (by omega)) (nb (by decide) (by decide)))), if_pos (dok (mul_ok (nb (by omega) (by omega)) (nb (by decide) (by decide)))), if_pos (by decide)]
  generalize (y % 1000151 + 7) * 52361 + (t : Int) * 8419 + (st : Int) * 43 = z
  have b2 : 0 ≤ z % 2147483549 ∧ z % 2147483549 < 2147483549 := by omega
  rw [if_pos (dok (mul_ok (nb (by omega) (by omega)) (nb (by omega) (by omega)))), if_pos (dok (mul_ok (nb (by omega) (by omega)) (nb (by decide) (by decide)))), if_pos (by decide), if_pos (by decide)]
  obtain ⟨r, hr, e⟩ := rem_nat ((z % 2147483549 * (z % 2147483549) + t * 91193 + 37) % 2147483543 / 13) h
  exact ⟨r, hr, by rw [e]⟩
theorem weave_eq (m : Nat) (h : 0 < m) (hm : m < 2 ^ 60) (n : Nat) (hn : n ≤ 1000000000) (g : TkG) (hg : LOK n g) : ∃ r g', r < m ∧ F__law_weave [.tok 1, .int m] g = .ok (.dat (.int (r : Nat))) g' ∧ LOK (n + 1) g' := by
  obtain ⟨ys, t, st, rfl, ht, hst, hy⟩ := hg
  have i1 : L2.ixN 3 1 = some 1 := rfl
  have c1 : (decide ((0 : Int) < m)) = true := decide_eq_true (by omega)
  cases ys with
  | nil =>
    have hz : (decide ((0 : Int) < ((0 : Nat) : Int))) = false := rfl
    simp only [F__law_weave, b__law_weave, dMut, ln_tok, flat3, tk_eq, mv_tk, ms_int, i1, c1, hz, runB_eq, frame0, ob_ok, ob_bad, ob_ite, fo_ok, fo_bad, fo_ite, fn_nx, fn_rt, fn_bk, fn_ct, fn_bad, fn_ite, op_some, op_none, op_ite, fz_dat, fz_own, so_dat, so_own, re_dat, re_own, endB_rt, endB_nx, endB_bad, endB_ite, dVar, dC, dBin, eD, dAnd, dOr, dTru, asB, dtAnd, dtOr, dChain, ib_bl, dCons, ho_dat, ho_own, ho_pk, sq_tup, sq_lst, sq_own, sq_pk, sk_tup, sk_lst, sk_own, sk_pk, ix_tup, ix_lst, ix_pk, sl_tup, sl_lst, sl_scr, tr_non, tr_bl, tr_int, tr_tup, tr_lst, tr_own, ln_tup, ln_lst, ln_own, ln_scr, ln_str, ln_pk, tp_tup, tp_lst, tp_own, tp_pk, ls_tup, ls_lst, ls_own, ad_int, ad_str, ad_tup, ad_lst, oi_int, ob_int, ob_str, lt_int, eq_int, it_tup, it_lst, it_scr, ie_int, ie_bl, io_int, vl_dat, at_0, at_1, at_2, is_non, cl_true, rg_1, rg_2, rg_3, dCall_eq, dCallK_eq, back_ok, dCall1, dCallN, min2D, max2D, negD, putS, dFor, line_le, line_lt, and_self, and_true, List.map_cons, List.map_nil, List.length_cons, List.length_nil, List.cons_append, List.nil_append, List.getElem?_cons_zero, List.getElem?_cons_succ, List.set_cons_zero, List.set_cons_succ, Bool.true_and, Bool.and_true, Bool.false_and, Bool.and_false, if_true, if_false, Bool.not_true, Bool.not_false, Bool.false_eq_true, reduceIte, Option.bind_some, Option.map_some, valI, Nat.reduceAdd, Nat.reduceLeDiff, Nat.reduceSub, Nat.reduceLT, Nat.zero_add, List.reduceReplicate, dn_eVar, dn_eInt, dn_eBl, dn_eNon, dn_eStr, dn_eGlob, dn_mkBin, dn_mkCmp, dn_mkIn, dn_mkChain, dn_eNot, dn_bOne, dn_bAnd, dn_bOr, dn_eBool, dn_tV, dn_tNt, dn_wOne, dn_wAnd, dn_wOr, dn_tBool, dn_eIf, dn_aNil, dn_aCons, dn_eTup, dn_eLst, dn_eIx, dn_oNone, dn_oSome, dn_eSl, dn_eCall, dn_eCall0, dn_bNil, dn_bCons, dn_sSet, dn_sRet, dn_sExpr, dn_sPass, dn_sBreak, dn_sCont, dn_sIf, dn_sAsg, dn_iSeq, dn_iRange, dn_iZip, dn_sFor, dn_sWhile, dn_qNil, dn_qOne, dn_kOne, dn_kTwo, dn_sSetC, dn_mkMeth, dn_mkMeth0, dn_eTIx, dn_tTok, dn_eTok, dn_sIxSet, dn_eNeg, dn_eIsi, dn_eRev, dn_rg1, dn_rg2, dn_eLstRg, dn_eTupRg, dn_sAug, dn_sPar2, dn_kwNil, dn_kwCons, dn_eCallK, dn_eCallK0, dn_kTok, dn_sForT, dn_eC, dn_tC', dn_eK, dn_eAdd, dn_eSub, dn_eMul, dn_eFdiv, dn_eMod, dn_ePow, dn_eShl, dn_eShr, dn_eAnd2, dn_eOr2, dn_cEq, dn_cNe, dn_cLt, dn_cLe, dn_cGt, dn_cGe, dn_cLeLe, dn_eLen, dn_eTupOf, dn_eLstOf, dn_eIntOf, dn_eAbs, dn_eStrOf, dn_eAny, dn_eAll, dn_eSum, dn_eMax1, dn_eMin1, dn_eSorted, dn_eMin2, dn_eMax2, dn_mAppendE, dn_mExtendE, dn_mPopE, dn_mPopAtE, dn_mReverseE, dn_mInsertE, dn_cIs, dn_cIsNot, dn_cIn, dn_cNotIn]
    obtain ⟨r, hr, e⟩ := weave_end 13 t st m (by omega) (by omega) hst h [.lst [], .lst [.tok 0, .int (t + 1), .int st]]
    exact ⟨r, _, hr, e, [], t + 1, st, rfl, by omega, hst, fun y hy => (nomatch hy)⟩
  | cons y0 ys0 =>
    have hl : (0 : Int) < ((y0 :: ys0).length : Nat) := by simp only [List.length_cons]; omega
    have hl' : (decide ((0 : Int) < ((y0 :: ys0).length : Nat))) = true := decide_eq_true hl
    obtain ⟨k, hk, ek⟩ := rem_nat (t : Int) (show 0 < (y0 :: ys0).length by simp only [List.length_cons]; omega)
    have hy' := hy _ (List.getElem_mem hk)
    generalize y0 :: ys0 = ys at *
    have hat : L2.atI (ys.map D.int) (k : Int) = some (.int ys[k]) := by rw [at_nat _ _ (by rw [List.length_map]; exact hk), List.getElem_map]
    have hix : L2.ixN ys.length (k : Int) = some k := by unfold L2.ixN; rw [if_pos (by omega), if_pos (by omega), Int.toNat_natCast]
    have c2 : (decide ((m : Int).natAbs.log2 < 9000)) = true := decide_eq_true (by
      rw [Int.natAbs_natCast]
      have := log2_lt hm
      omega)
    have hp : (decide ((0 : Int) ≤ 18) && decide ((18 : Int) ≤ 1000000) && decide (Int.natAbs 10 < 2 ^ 64)) = true := by decide
    by_cases hb : decide ((10 : Int) ^ Int.toNat 18 ≤ ys[k]) = true
    · simp only [F__law_weave, b__law_weave, dMut, ln_tok, flat3, tk_eq, mv_tk, ms_int, i1, c1, c2, List.length_map, hl', ek, hat, hix, hp, hb, set_ints, flat_ints, runB_eq, frame0, ob_ok, ob_bad, ob_ite, fo_ok, fo_bad, fo_ite, fn_nx, fn_rt, fn_bk, fn_ct, fn_bad, fn_ite, op_some, op_none, op_ite, fz_dat, fz_own, so_dat, so_own, re_dat, re_own, endB_rt, endB_nx, endB_bad, endB_ite, dVar, dC, dBin, eD, dAnd, dOr, dTru, asB, dtAnd, dtOr, dChain, ib_bl, dCons, ho_dat, ho_own, ho_pk, sq_tup, sq_lst, sq_own, sq_pk, sk_tup, sk_lst, sk_own, sk_pk, ix_tup, ix_lst, ix_pk, sl_tup, sl_lst, sl_scr, tr_non, tr_bl, tr_int, tr_tup, tr_lst, tr_own, ln_tup, ln_lst, ln_own, ln_scr, ln_str, ln_pk, tp_tup, tp_lst, tp_own, tp_pk, ls_tup, ls_lst, ls_own, ad_int, ad_str, ad_tup, ad_lst, oi_int, ob_int, ob_str, lt_int, eq_int, it_tup, it_lst, it_scr, ie_int, ie_bl, io_int, vl_dat, at_0, at_1, at_2, is_non, cl_true, rg_1, rg_2, rg_3, dCall_eq, dCallK_eq, back_ok, dCall1, dCallN, min2D, max2D, negD, putS, dFor, line_le, line_lt, and_self, and_true, List.map_cons, List.map_nil, List.length_cons, List.length_nil, List.cons_append, List.nil_append, List.getElem?_cons_zero, List.getElem?_cons_succ, List.set_cons_zero, List.set_cons_succ, Bool.true_and, Bool.and_true, Bool.false_and, Bool.and_false, if_true, if_false, Bool.not_true, Bool.not_false, Bool.false_eq_true, reduceIte, Option.bind_some, Option.map_some, valI, Nat.reduceAdd, Nat.reduceLeDiff, Nat.reduceSub, Nat.reduceLT, Nat.zero_add, List.reduceReplicate, dn_eVar, dn_eInt, dn_eBl, dn_eNon, dn_eStr, dn_eGlob, dn_mkBin, dn_mkCmp, dn_mkIn, dn_mkChain, dn_eNot, dn_bOne, dn_bAnd, dn_bOr, dn_eBool, dn_tV, dn_tNt, dn_wOne, dn_wAnd, dn_wOr, dn_tBool, dn_eIf, dn_aNil, dn_aCons, dn_eTup, dn_eLst, dn_eIx, dn_oNone, dn_oSome, dn_eSl, dn_eCall, dn_eCall0, dn_bNil, dn_bCons, dn_sSet, dn_sRet, dn_sExpr, dn_sPass, dn_sBreak, dn_sCont, dn_sIf, dn_sAsg, dn_iSeq, dn_iRange, dn_iZip, dn_sFor, dn_sWhile, dn_qNil, dn_qOne, dn_kOne, dn_kTwo, dn_sSetC, dn_mkMeth, dn_mkMeth0, dn_eTIx, dn_tTok, dn_eTok, dn_sIxSet, dn_eNeg, dn_eIsi, dn_eRev, dn_rg1, dn_rg2, dn_eLstRg, dn_eTupRg, dn_sAug, dn_sPar2, dn_kwNil, dn_kwCons, dn_eCallK, dn_eCallK0, dn_kTok, dn_sForT, dn_eC, dn_tC', dn_eK, dn_eAdd, dn_eSub, dn_eMul, dn_eFdiv, dn_eMod, dn_ePow, dn_eShl, dn_eShr, dn_eAnd2, dn_eOr2, dn_cEq, dn_cNe, dn_cLt, dn_cLe, dn_cGt, dn_cGe, dn_cLeLe, dn_eLen, dn_eTupOf, dn_eLstOf, dn_eIntOf, dn_eAbs, dn_eStrOf, dn_eAny, dn_eAll, dn_eSum, dn_eMax1, dn_eMin1, dn_eSorted, dn_eMin2, dn_eMax2, dn_mAppendE, dn_mExtendE, dn_mPopE, dn_mPopAtE, dn_mReverseE, dn_mInsertE, dn_cIs, dn_cIsNot, dn_cIn, dn_cNotIn]
      obtain ⟨r, hr, e⟩ := rem_nat ys[k] h
      refine ⟨r, [.lst ((ys.set k (ys[k] / m)).map .int), .lst [.tok 0, .int (t + 1), .int st]], hr, by rw [e], ys.set k (ys[k] / m), t + 1, st, rfl, by omega, hst, fun y hy2 => ?_⟩
      rcases List.mem_or_eq_of_mem_set hy2 with h' | h'
      · exact hy y h'
      · rw [h']; exact Int.ediv_nonneg hy' (by omega)
    · rw [Bool.not_eq_true] at hb
      simp only [F__law_weave, b__law_weave, dMut, ln_tok, flat3, tk_eq, mv_tk, ms_int, i1, c1, c2, List.length_map, hl', ek, hat, hix, hp, hb, set_ints, flat_ints, runB_eq, frame0, ob_ok, ob_bad, ob_ite, fo_ok, fo_bad, fo_ite, fn_nx, fn_rt, fn_bk, fn_ct, fn_bad, fn_ite, op_some, op_none, op_ite, fz_dat, fz_own, so_dat, so_own, re_dat, re_own, endB_rt, endB_nx, endB_bad, endB_ite, dVar, dC, dBin, eD, dAnd, dOr, dTru, asB, dtAnd, dtOr, dChain, ib_bl, dCons, ho_dat, ho_own, ho_pk, sq_tup, sq_lst, sq_own, sq_pk, sk_tup, sk_lst, sk_own, sk_pk, ix_tup, ix_lst, ix_pk, sl_tup, sl_lst, sl_scr, tr_non, tr_bl, tr_int, tr_tup, tr_lst, tr_own, ln_tup, ln_lst, ln_own, ln_scr, ln_str, ln_pk, tp_tup, tp_lst, tp_own, tp_pk, ls_tup, ls_lst, ls_own, ad_int, ad_str, ad_tup, ad_lst, oi_int, ob_int, ob_str, lt_int, eq_int, it_tup, it_lst, it_scr, ie_int, ie_bl, io_int, vl_dat, at_0, at_1, at_2, is_non, cl_true, rg_1, rg_2, rg_3, dCall_eq, dCallK_eq, back_ok, dCall1, dCallN, min2D, max2D, negD, putS, dFor, line_le, line_lt, and_self, and_true, List.map_cons, List.map_nil, List.length_cons, List.length_nil, List.cons_append, List.nil_append, List.getElem?_cons_zero, List.getElem?_cons_succ, List.set_cons_zero, List.set_cons_succ, Bool.true_and, Bool.and_true, Bool.false_and, Bool.and_false, if_true, if_false, Bool.not_true, Bool.not_false, Bool.false_eq_true, reduceIte, Option.bind_some, Option.map_some, valI, Nat.reduceAdd, Nat.reduceLeDiff, Nat.reduceSub, Nat.reduceLT, Nat.zero_add, List.reduceReplicate, dn_eVar, dn_eInt, dn_eBl, dn_eNon, dn_eStr, dn_eGlob, dn_mkBin, dn_mkCmp, dn_mkIn, dn_mkChain, dn_eNot, dn_bOne, dn_bAnd, dn_bOr, dn_eBool, dn_tV, dn_tNt, dn_wOne, dn_wAnd, dn_wOr, dn_tBool, dn_eIf, dn_aNil, dn_aCons, dn_eTup, dn_eLst, dn_eIx, dn_oNone, dn_oSome, dn_eSl, dn_eCall, dn_eCall0, dn_bNil, dn_bCons, dn_sSet, dn_sRet, dn_sExpr, dn_sPass, dn_sBreak, dn_sCont, dn_sIf, dn_sAsg, dn_iSeq, dn_iRange, dn_iZip, dn_sFor, dn_sWhile, dn_qNil, dn_qOne, dn_kOne, dn_kTwo, dn_sSetC, dn_mkMeth, dn_mkMeth0, dn_eTIx, dn_tTok, dn_eTok, dn_sIxSet, dn_eNeg, dn_eIsi, dn_eRev, dn_rg1, dn_rg2, dn_eLstRg, dn_eTupRg, dn_sAug, dn_sPar2, dn_kwNil, dn_kwCons, dn_eCallK, dn_eCallK0, dn_kTok, dn_sForT, dn_eC, dn_tC', dn_eK, dn_eAdd, dn_eSub, dn_eMul, dn_eFdiv, dn_eMod, dn_ePow, dn_eShl, dn_eShr, dn_eAnd2, dn_eOr2, dn_cEq, dn_cNe, dn_cLt, dn_cLe, dn_cGt, dn_cGe, dn_cLeLe, dn_eLen, dn_eTupOf, dn_eLstOf, dn_eIntOf, dn_eAbs, dn_eStrOf, dn_eAny, dn_eAll, dn_eSum, dn_eMax1, dn_eMin1, dn_eSorted, dn_eMin2, dn_eMax2, dn_mAppendE, dn_mExtendE, dn_mPopE, dn_mPopAtE, dn_mReverseE, dn_mInsertE, dn_cIs, dn_cIsNot, dn_cIn, dn_cNotIn]
      obtain ⟨r, hr, e⟩ := weave_end ys[k] t st m hy' (by omega) hst h [.lst (ys.map .int), .lst [.tok 0, .int (t + 1), .int st]]
      exact ⟨r, _, hr, e, ys, t + 1, st, rfl, by omega, hst, hy⟩
theorem forT_inv {g : GDen TkG} {body : SDen TkG} (n : Nat) (ds : List D) (I : Nat → Stt TkG → Prop) (hI : ∀ k s, I k s → s.g[n]? = some (.lst ds)) (step : ∀ (k : Nat) (hk : k < ds.length) s, I k s → ∃ s1, g ds[k] s = .ok () s1 ∧ ∃ s2, (body s1 = .nx s2 ∨ body s1 = .ct s2) ∧ I (k + 1) s2) : ∀ (s : Stt TkG), I 0 s → ∃ s', forT n ds.length g body ds.length s = .nx s' ∧ I ds.length s' := by
  have key : ∀ (m k : Nat) s, m = ds.length - k → k ≤ ds.length → I k s → ∃ s', forT n ds.length g body m s = .nx s' ∧ I ds.length s' := by
    intro m
    induction m with
    | zero =>
      intro k s e hk h
      have ek : k = ds.length := by omega
      subst ek
      refine ⟨s, ?_, h⟩
      rw [forT, hI _ _ h]
      dsimp only
      rw [if_pos rfl]
    | succ m ih =>
      intro k s e hk h
      have hlt : k < ds.length := by omega
      rw [forT, hI _ _ h]
      dsimp only
      rw [if_pos rfl, show ds.length - (m + 1) = k by omega, List.getElem?_eq_getElem hlt]
      obtain ⟨s1, e1, s2, e2, h2⟩ := step k hlt s h
      dsimp only
      rw [e1]
      rcases e2 with e2 | e2
      · dsimp only
        rw [e2]
        exact ih (k + 1) s2 (by omega) hlt h2
      · dsimp only
        rw [e2]
        exact ih (k + 1) s2 (by omega) hlt h2
  intro s h
  exact key _ 0 s (by omega) (Nat.zero_le _) h
theorem loom_eq (ns : List Int) (hl : ns.length ≤ 63) : ∃ g', F__law_loom [.scr ns] [] = .ok (.dat (.tok 1)) g' ∧ LOK 0 g' := by
  have ek : k__law_loom_1.den ⟨[some (.dat (.scr ns)), none, none, none, none], []⟩ = .ok (.own ((cutL ns none (some 61)).map fun z => .int (if z < 0 then -z else z))) ⟨[some (.dat (.scr ns)), none, none, none, none], []⟩ := by
    simp only [k__law_loom_1, dn_kOne, List.map_cons, List.map_nil]
    refine (dComp_map (cutL ns none (some 61)) D.int (fun _ => true) (fun z => .int (if z < 0 then -z else z)) (s' := ⟨[some (.dat (.scr ns)), none, none, none, none], []⟩) ?_ (fun z hz => ?_) ?_).trans ?_
    · simp only [runB_eq, frame0, ob_ok, ob_bad, ob_ite, fo_ok, fo_bad, fo_ite, fn_nx, fn_rt, fn_bk, fn_ct, fn_bad, fn_ite, op_some, op_none, op_ite, fz_dat, fz_own, so_dat, so_own, re_dat, re_own, endB_rt, endB_nx, endB_bad, endB_ite, dVar, dC, dBin, eD, dAnd, dOr, dTru, asB, dtAnd, dtOr, dChain, ib_bl, dCons, ho_dat, ho_own, ho_pk, sq_tup, sq_lst, sq_own, sq_pk, sk_tup, sk_lst, sk_own, sk_pk, ix_tup, ix_lst, ix_pk, sl_tup, sl_lst, sl_scr, tr_non, tr_bl, tr_int, tr_tup, tr_lst, tr_own, ln_tup, ln_lst, ln_own, ln_scr, ln_str, ln_pk, tp_tup, tp_lst, tp_own, tp_pk, ls_tup, ls_lst, ls_own, ad_int, ad_str, ad_tup, ad_lst, oi_int, ob_int, ob_str, lt_int, eq_int, it_tup, it_lst, it_scr, ie_int, ie_bl, io_int, vl_dat, at_0, at_1, at_2, is_non, cl_true, rg_1, rg_2, rg_3, dCall_eq, dCallK_eq, back_ok, dCall1, dCallN, min2D, max2D, negD, putS, dFor, line_le, line_lt, and_self, and_true, List.map_cons, List.map_nil, List.length_cons, List.length_nil, List.cons_append, List.nil_append, List.getElem?_cons_zero, List.getElem?_cons_succ, List.set_cons_zero, List.set_cons_succ, Bool.true_and, Bool.and_true, Bool.false_and, Bool.and_false, if_true, if_false, Bool.not_true, Bool.not_false, Bool.false_eq_true, reduceIte, Option.bind_some, Option.map_some, valI, Nat.reduceAdd, Nat.reduceLeDiff, Nat.reduceSub, Nat.reduceLT, Nat.zero_add, List.reduceReplicate, dn_eVar, dn_eInt, dn_eBl, dn_eNon, dn_eStr, dn_eGlob, dn_mkBin, dn_mkCmp, dn_mkIn, dn_mkChain, dn_eNot, dn_bOne, dn_bAnd, dn_bOr, dn_eBool, dn_tV, dn_tNt, dn_wOne, dn_wAnd, dn_wOr, dn_tBool, dn_eIf, dn_aNil, dn_aCons, dn_eTup, dn_eLst, dn_eIx, dn_oNone, dn_oSome, dn_eSl, dn_eCall, dn_eCall0, dn_bNil, dn_bCons, dn_sSet, dn_sRet, dn_sExpr, dn_sPass, dn_sBreak, dn_sCont, dn_sIf, dn_sAsg, dn_iSeq, dn_iRange, dn_iZip, dn_sFor, dn_sWhile, dn_qNil, dn_qOne, dn_kOne, dn_kTwo, dn_sSetC, dn_mkMeth, dn_mkMeth0, dn_eTIx, dn_tTok, dn_eTok, dn_sIxSet, dn_eNeg, dn_eIsi, dn_eRev, dn_rg1, dn_rg2, dn_eLstRg, dn_eTupRg, dn_sAug, dn_sPar2, dn_kwNil, dn_kwCons, dn_eCallK, dn_eCallK0, dn_kTok, dn_sForT, dn_eC, dn_tC', dn_eK, dn_eAdd, dn_eSub, dn_eMul, dn_eFdiv, dn_eMod, dn_ePow, dn_eShl, dn_eShr, dn_eAnd2, dn_eOr2, dn_cEq, dn_cNe, dn_cLt, dn_cLe, dn_cGt, dn_cGe, dn_cLeLe, dn_eLen, dn_eTupOf, dn_eLstOf, dn_eIntOf, dn_eAbs, dn_eStrOf, dn_eAny, dn_eAll, dn_eSum, dn_eMax1, dn_eMin1, dn_eSorted, dn_eMin2, dn_eMax2, dn_mAppendE, dn_mExtendE, dn_mPopE, dn_mPopAtE, dn_mReverseE, dn_mInsertE, dn_cIs, dn_cIsNot, dn_cIn, dn_cNotIn]
    · refine ⟨⟨[some (.dat (.scr ns)), none, none, none, some (.dat (.int z))], []⟩, rfl, rfl, fun _ => ?_, rfl⟩
      simp only [absD, runB_eq, frame0, ob_ok, ob_bad, ob_ite, fo_ok, fo_bad, fo_ite, fn_nx, fn_rt, fn_bk, fn_ct, fn_bad, fn_ite, op_some, op_none, op_ite, fz_dat, fz_own, so_dat, so_own, re_dat, re_own, endB_rt, endB_nx, endB_bad, endB_ite, dVar, dC, dBin, eD, dAnd, dOr, dTru, asB, dtAnd, dtOr, dChain, ib_bl, dCons, ho_dat, ho_own, ho_pk, sq_tup, sq_lst, sq_own, sq_pk, sk_tup, sk_lst, sk_own, sk_pk, ix_tup, ix_lst, ix_pk, sl_tup, sl_lst, sl_scr, tr_non, tr_bl, tr_int, tr_tup, tr_lst, tr_own, ln_tup, ln_lst, ln_own, ln_scr, ln_str, ln_pk, tp_tup, tp_lst, tp_own, tp_pk, ls_tup, ls_lst, ls_own, ad_int, ad_str, ad_tup, ad_lst, oi_int, ob_int, ob_str, lt_int, eq_int, it_tup, it_lst, it_scr, ie_int, ie_bl, io_int, vl_dat, at_0, at_1, at_2, is_non, cl_true, rg_1, rg_2, rg_3, dCall_eq, dCallK_eq, back_ok, dCall1, dCallN, min2D, max2D, negD, putS, dFor, line_le, line_lt, and_self, and_true, List.map_cons, List.map_nil, List.length_cons, List.length_nil, List.cons_append, List.nil_append, List.getElem?_cons_zero, List.getElem?_cons_succ, List.set_cons_zero, List.set_cons_succ, Bool.true_and, Bool.and_true, Bool.false_and, Bool.and_false, if_true, if_false, Bool.not_true, Bool.not_false, Bool.false_eq_true, reduceIte, Option.bind_some, Option.map_some, valI, Nat.reduceAdd, Nat.reduceLeDiff, Nat.reduceSub, Nat.reduceLT, Nat.zero_add, List.reduceReplicate, dn_eVar, dn_eInt, dn_eBl, dn_eNon, dn_eStr, dn_eGlob, dn_mkBin, dn_mkCmp, dn_mkIn, dn_mkChain, dn_eNot, dn_bOne, dn_bAnd, dn_bOr, dn_eBool, dn_tV, dn_tNt, dn_wOne, dn_wAnd, dn_wOr, dn_tBool, dn_eIf, dn_aNil, dn_aCons, dn_eTup, dn_eLst, dn_eIx, dn_oNone, dn_oSome, dn_eSl, dn_eCall, dn_eCall0, dn_bNil, dn_bCons, dn_sSet, dn_sRet, dn_sExpr, dn_sPass, dn_sBreak, dn_sCont, dn_sIf, dn_sAsg, dn_iSeq, dn_iRange, dn_iZip, dn_sFor, dn_sWhile, dn_qNil, dn_qOne, dn_kOne, dn_kTwo, dn_sSetC, dn_mkMeth, dn_mkMeth0, dn_eTIx, dn_tTok, dn_eTok, dn_sIxSet, dn_eNeg, dn_eIsi, dn_eRev, dn_rg1, dn_rg2, dn_eLstRg, dn_eTupRg, dn_sAug, dn_sPar2, dn_kwNil, dn_kwCons, dn_eCallK, dn_eCallK0, dn_kTok, dn_sForT, dn_eC, dn_tC', dn_eK, dn_eAdd, dn_eSub, dn_eMul, dn_eFdiv, dn_eMod, dn_ePow, dn_eShl, dn_eShr, dn_eAnd2, dn_eOr2, dn_cEq, dn_cNe, dn_cLt, dn_cLe, dn_cGt, dn_cGe, dn_cLeLe, dn_eLen, dn_eTupOf, dn_eLstOf, dn_eIntOf, dn_eAbs, dn_eStrOf, dn_eAny, dn_eAll, dn_eSum, dn_eMax1, dn_eMin1, dn_eSorted, dn_eMin2, dn_eMax2, dn_mAppendE, dn_mExtendE, dn_mPopE, dn_mPopAtE, dn_mReverseE, dn_mInsertE, dn_cIs, dn_cIsNot, dn_cIn, dn_cNotIn]
    · unfold cutL; rw [List.length_take, List.length_drop]; omega
    · rw [List.filter_eq_self.mpr (fun _ _ => rfl)]
      rfl
  have hm : ((cutL ns none (some 61)).map fun z => D.int (if z < 0 then -z else z)) = ((cutL ns none (some 61)).map fun z => if z < 0 then -z else z).map D.int := by rw [List.map_map]; rfl
  have hy : ∀ y ∈ (cutL ns none (some 61)).map (fun z => if z < 0 then -z else z), (0 : Int) ≤ y := by
    intro y hy
    obtain ⟨z, _, rfl⟩ := List.mem_map.mp hy
    split <;> omega
  rw [hm] at ek
  generalize (cutL ns none (some 61)).map (fun z => if z < 0 then -z else z) = ys at *
  simp only [F__law_loom, b__law_loom, ek, tt_own, flat_ints, dForT, runB_eq, frame0, ob_ok, ob_bad, ob_ite, fo_ok, fo_bad, fo_ite, fn_nx, fn_rt, fn_bk, fn_ct, fn_bad, fn_ite, op_some, op_none, op_ite, fz_dat, fz_own, so_dat, so_own, re_dat, re_own, endB_rt, endB_nx, endB_bad, endB_ite, dVar, dC, dBin, eD, dAnd, dOr, dTru, asB, dtAnd, dtOr, dChain, ib_bl, dCons, ho_dat, ho_own, ho_pk, sq_tup, sq_lst, sq_own, sq_pk, sk_tup, sk_lst, sk_own, sk_pk, ix_tup, ix_lst, ix_pk, sl_tup, sl_lst, sl_scr, tr_non, tr_bl, tr_int, tr_tup, tr_lst, tr_own, ln_tup, ln_lst, ln_own, ln_scr, ln_str, ln_pk, tp_tup, tp_lst, tp_own, tp_pk, ls_tup, ls_lst, ls_own, ad_int, ad_str, ad_tup, ad_lst, oi_int, ob_int, ob_str, lt_int, eq_int, it_tup, it_lst, it_scr, ie_int, ie_bl, io_int, vl_dat, at_0, at_1, at_2, is_non, cl_true, rg_1, rg_2, rg_3, dCall_eq, dCallK_eq, back_ok, dCall1, dCallN, min2D, max2D, negD, putS, dFor, line_le, line_lt, and_self, and_true, List.map_cons, List.map_nil, List.length_cons, List.length_nil, List.cons_append, List.nil_append, List.getElem?_cons_zero, List.getElem?_cons_succ, List.set_cons_zero, List.set_cons_succ, Bool.true_and, Bool.and_true, Bool.false_and, Bool.and_false, if_true, if_false, Bool.not_true, Bool.not_false, Bool.false_eq_true, reduceIte, Option.bind_some, Option.map_some, valI, Nat.reduceAdd, Nat.reduceLeDiff, Nat.reduceSub, Nat.reduceLT, Nat.zero_add, List.reduceReplicate, dn_eVar, dn_eInt, dn_eBl, dn_eNon, dn_eStr, dn_eGlob, dn_mkBin, dn_mkCmp, dn_mkIn, dn_mkChain, dn_eNot, dn_bOne, dn_bAnd, dn_bOr, dn_eBool, dn_tV, dn_tNt, dn_wOne, dn_wAnd, dn_wOr, dn_tBool, dn_eIf, dn_aNil, dn_aCons, dn_eTup, dn_eLst, dn_eIx, dn_oNone, dn_oSome, dn_eSl, dn_eCall, dn_eCall0, dn_bNil, dn_bCons, dn_sSet, dn_sRet, dn_sExpr, dn_sPass, dn_sBreak, dn_sCont, dn_sIf, dn_sAsg, dn_iSeq, dn_iRange, dn_iZip, dn_sFor, dn_sWhile, dn_qNil, dn_qOne, dn_kOne, dn_kTwo, dn_sSetC, dn_mkMeth, dn_mkMeth0, dn_eTIx, dn_tTok, dn_eTok, dn_sIxSet, dn_eNeg, dn_eIsi, dn_eRev, dn_rg1, dn_rg2, dn_eLstRg, dn_eTupRg, dn_sAug, dn_sPar2, dn_kwNil, dn_kwCons, dn_eCallK, dn_eCallK0, dn_kTok, dn_sForT, dn_eC, dn_tC', dn_eK, dn_eAdd, dn_eSub, dn_eMul, dn_eFdiv, dn_eMod, dn_ePow, dn_eShl, dn_eShr, dn_eAnd2, dn_eOr2, dn_cEq, dn_cNe, dn_cLt, dn_cLe, dn_cGt, dn_cGe, dn_cLeLe, dn_eLen, dn_eTupOf, dn_eLstOf, dn_eIntOf, dn_eAbs, dn_eStrOf, dn_eAny, dn_eAll, dn_eSum, dn_eMax1, dn_eMin1, dn_eSorted, dn_eMin2, dn_eMax2, dn_mAppendE, dn_mExtendE, dn_mPopE, dn_mPopAtE, dn_mReverseE, dn_mInsertE, dn_cIs, dn_cIsNot, dn_cIn, dn_cNotIn]
  obtain ⟨s', e1, st, x, hst, rfl⟩ := forT_inv (g := (gN 3 : GI TkG).den) (body := l__law_loom_1.den) 0 (ys.map D.int)
    (fun k s => ∃ (st : Nat) (x : Option Sl), st < 987013 ∧ s = (⟨[some (.dat (.scr ns)), some (.dat (.tok 0)), some (.dat (.int st)), x, none], [.lst (ys.map D.int)]⟩ : Stt TkG))
    (fun k s ⟨st, x, _, hs⟩ => by subst hs; rfl) (fun k hk s ⟨st, x, hst, hs⟩ => by
      subst hs
      rw [List.getElem_map]
      rw [List.length_map] at hk
      generalize ys[k] = y
      have hm1 : (decide ((st : Int).natAbs.log2 + (Int.natAbs 97).log2 < 1000000)) = true := dok (mul_ok (nb (by omega) (by omega)) (nb (by decide) (by decide)))
      have h0 : (decide ((0 : Int) < 987013)) = true := by decide
      obtain ⟨r, hr, er⟩ := rem_nat ((st : Int) * 97 + y) (show 0 < 987013 by decide)
      refine ⟨_, rfl, ⟨[some (.dat (.scr ns)), some (.dat (.tok 0)), some (.dat (.int r)), some (.dat (.int y)), none], [.lst (ys.map D.int)]⟩, .inl ?_, r, _, hr, rfl⟩
      simp only [l__law_loom_1, hm1, h0, runB_eq, frame0, ob_ok, ob_bad, ob_ite, fo_ok, fo_bad, fo_ite, fn_nx, fn_rt, fn_bk, fn_ct, fn_bad, fn_ite, op_some, op_none, op_ite, fz_dat, fz_own, so_dat, so_own, re_dat, re_own, endB_rt, endB_nx, endB_bad, endB_ite, dVar, dC, dBin, eD, dAnd, dOr, dTru, asB, dtAnd, dtOr, dChain, ib_bl, dCons, ho_dat, ho_own, ho_pk, sq_tup, sq_lst, sq_own, sq_pk, sk_tup, sk_lst, sk_own, sk_pk, ix_tup, ix_lst, ix_pk, sl_tup, sl_lst, sl_scr, tr_non, tr_bl, tr_int, tr_tup, tr_lst, tr_own, ln_tup, ln_lst, ln_own, ln_scr, ln_str, ln_pk, tp_tup, tp_lst, tp_own, tp_pk, ls_tup, ls_lst, ls_own, ad_int, ad_str, ad_tup, ad_lst, oi_int, ob_int, ob_str, lt_int, eq_int, it_tup, it_lst, it_scr, ie_int, ie_bl, io_int, vl_dat, at_0, at_1, at_2, is_non, cl_true, rg_1, rg_2, rg_3, dCall_eq, dCallK_eq, back_ok, dCall1, dCallN, min2D, max2D, negD, putS, dFor, line_le, line_lt, and_self, and_true, List.map_cons, List.map_nil, List.length_cons, List.length_nil, List.cons_append, List.nil_append, List.getElem?_cons_zero, List.getElem?_cons_succ, List.set_cons_zero, List.set_cons_succ, Bool.true_and, Bool.and_true, Bool.false_and, Bool.and_false, if_true, if_false, Bool.not_true, Bool.not_false, Bool.false_eq_true, reduceIte, Option.bind_some, Option.map_some, valI, Nat.reduceAdd, Nat.reduceLeDiff, Nat.reduceSub, Nat.reduceLT, Nat.zero_add, List.reduceReplicate, dn_eVar, dn_eInt, dn_eBl, dn_eNon, dn_eStr, dn_eGlob, dn_mkBin, dn_mkCmp, dn_mkIn, dn_mkChain, dn_eNot, dn_bOne, dn_bAnd, dn_bOr, dn_eBool, dn_tV, dn_tNt, dn_wOne, dn_wAnd, dn_wOr, dn_tBool, dn_eIf, dn_aNil, dn_aCons, dn_eTup, dn_eLst, dn_eIx, dn_oNone, dn_oSome, dn_eSl, dn_eCall, dn_eCall0, dn_bNil, dn_bCons, dn_sSet, dn_sRet, dn_sExpr, dn_sPass, dn_sBreak, dn_sCont, dn_sIf, dn_sAsg, dn_iSeq, dn_iRange, dn_iZip, dn_sFor, dn_sWhile, dn_qNil, dn_qOne, dn_kOne, dn_kTwo, dn_sSetC, dn_mkMeth, dn_mkMeth0, dn_eTIx, dn_tTok, dn_eTok, dn_sIxSet, dn_eNeg, dn_eIsi, dn_eRev, dn_rg1, dn_rg2, dn_eLstRg, dn_eTupRg, dn_sAug, dn_sPar2, dn_kwNil, dn_kwCons, dn_eCallK, dn_eCallK0, dn_kTok, dn_sForT, dn_eC, dn_tC', dn_eK, dn_eAdd, dn_eSub, dn_eMul, dn_eFdiv, dn_eMod, dn_ePow, dn_eShl, dn_eShr, dn_eAnd2, dn_eOr2, dn_cEq, dn_cNe, dn_cLt, dn_cLe, dn_cGt, dn_cGe, dn_cLeLe, dn_eLen, dn_eTupOf, dn_eLstOf, dn_eIntOf, dn_eAbs, dn_eStrOf, dn_eAny, dn_eAll, dn_eSum, dn_eMax1, dn_eMin1, dn_eSorted, dn_eMin2, dn_eMax2, dn_mAppendE, dn_mExtendE, dn_mPopE, dn_mPopAtE, dn_mReverseE, dn_mInsertE, dn_cIs, dn_cIsNot, dn_cIn, dn_cNotIn, dn_gN, dn_gT, dn_gsNil, dn_gsCons]
      rw [← er]
      rfl) ⟨[some (.dat (.scr ns)), some (.dat (.tok 0)), some (.dat (.int 41)), none, none], [.lst (ys.map D.int)]⟩ ⟨41, none, by decide, rfl⟩
  rw [e1]
  simp only [tt_own, flat3, runB_eq, frame0, ob_ok, ob_bad, ob_ite, fo_ok, fo_bad, fo_ite, fn_nx, fn_rt, fn_bk, fn_ct, fn_bad, fn_ite, op_some, op_none, op_ite, fz_dat, fz_own, so_dat, so_own, re_dat, re_own, endB_rt, endB_nx, endB_bad, endB_ite, dVar, dC, dBin, eD, dAnd, dOr, dTru, asB, dtAnd, dtOr, dChain, ib_bl, dCons, ho_dat, ho_own, ho_pk, sq_tup, sq_lst, sq_own, sq_pk, sk_tup, sk_lst, sk_own, sk_pk, ix_tup, ix_lst, ix_pk, sl_tup, sl_lst, sl_scr, tr_non, tr_bl, tr_int, tr_tup, tr_lst, tr_own, ln_tup, ln_lst, ln_own, ln_scr, ln_str, ln_pk, tp_tup, tp_lst, tp_own, tp_pk, ls_tup, ls_lst, ls_own, ad_int, ad_str, ad_tup, ad_lst, oi_int, ob_int, ob_str, lt_int, eq_int, it_tup, it_lst, it_scr, ie_int, ie_bl, io_int, vl_dat, at_0, at_1, at_2, is_non, cl_true, rg_1, rg_2, rg_3, dCall_eq, dCallK_eq, back_ok, dCall1, dCallN, min2D, max2D, negD, putS, dFor, line_le, line_lt, and_self, and_true, List.map_cons, List.map_nil, List.length_cons, List.length_nil, List.cons_append, List.nil_append, List.getElem?_cons_zero, List.getElem?_cons_succ, List.set_cons_zero, List.set_cons_succ, Bool.true_and, Bool.and_true, Bool.false_and, Bool.and_false, if_true, if_false, Bool.not_true, Bool.not_false, Bool.false_eq_true, reduceIte, Option.bind_some, Option.map_some, valI, Nat.reduceAdd, Nat.reduceLeDiff, Nat.reduceSub, Nat.reduceLT, Nat.zero_add, List.reduceReplicate, dn_eVar, dn_eInt, dn_eBl, dn_eNon, dn_eStr, dn_eGlob, dn_mkBin, dn_mkCmp, dn_mkIn, dn_mkChain, dn_eNot, dn_bOne, dn_bAnd, dn_bOr, dn_eBool, dn_tV, dn_tNt, dn_wOne, dn_wAnd, dn_wOr, dn_tBool, dn_eIf, dn_aNil, dn_aCons, dn_eTup, dn_eLst, dn_eIx, dn_oNone, dn_oSome, dn_eSl, dn_eCall, dn_eCall0, dn_bNil, dn_bCons, dn_sSet, dn_sRet, dn_sExpr, dn_sPass, dn_sBreak, dn_sCont, dn_sIf, dn_sAsg, dn_iSeq, dn_iRange, dn_iZip, dn_sFor, dn_sWhile, dn_qNil, dn_qOne, dn_kOne, dn_kTwo, dn_sSetC, dn_mkMeth, dn_mkMeth0, dn_eTIx, dn_tTok, dn_eTok, dn_sIxSet, dn_eNeg, dn_eIsi, dn_eRev, dn_rg1, dn_rg2, dn_eLstRg, dn_eTupRg, dn_sAug, dn_sPar2, dn_kwNil, dn_kwCons, dn_eCallK, dn_eCallK0, dn_kTok, dn_sForT, dn_eC, dn_tC', dn_eK, dn_eAdd, dn_eSub, dn_eMul, dn_eFdiv, dn_eMod, dn_ePow, dn_eShl, dn_eShr, dn_eAnd2, dn_eOr2, dn_cEq, dn_cNe, dn_cLt, dn_cLe, dn_cGt, dn_cGe, dn_cLeLe, dn_eLen, dn_eTupOf, dn_eLstOf, dn_eIntOf, dn_eAbs, dn_eStrOf, dn_eAny, dn_eAll, dn_eSum, dn_eMax1, dn_eMin1, dn_eSorted, dn_eMin2, dn_eMax2, dn_mAppendE, dn_mExtendE, dn_mPopE, dn_mPopAtE, dn_mReverseE, dn_mInsertE, dn_cIs, dn_cIsNot, dn_cIn, dn_cNotIn]
  exact ⟨_, rfl, ys, 0, st, rfl, Nat.le_refl _, hst, hy⟩
theorem law_of_eq (xs : List D) (h0 : 0 < xs.length) (h1 : xs.length ≤ 100000) (n : Nat) (hn : n ≤ 1000000000) (g : TkG) (hg : LOK n g) : ∃ g' k, ∃ h : k < xs.length, F__law_of [.tok 1, .lst xs] g = .ok (.dat xs[k]) g' ∧ LOK (n + 1) g' := by
  obtain ⟨r, g', hr, e, h'⟩ := weave_eq xs.length h0 (by omega) n hn g hg
  refine ⟨g', r, hr, ?_, h'⟩
  simp only [F__law_of, b__law_of, fr__law_weave, e, at_nat xs r hr, runB_eq, frame0, ob_ok, ob_bad, ob_ite, fo_ok, fo_bad, fo_ite, fn_nx, fn_rt, fn_bk, fn_ct, fn_bad, fn_ite, op_some, op_none, op_ite, fz_dat, fz_own, so_dat, so_own, re_dat, re_own, endB_rt, endB_nx, endB_bad, endB_ite, dVar, dC, dBin, eD, dAnd, dOr, dTru, asB, dtAnd, dtOr, dChain, ib_bl, dCons, ho_dat, ho_own, ho_pk, sq_tup, sq_lst, sq_own, sq_pk, sk_tup, sk_lst, sk_own, sk_pk, ix_tup, ix_lst, ix_pk, sl_tup, sl_lst, sl_scr, tr_non, tr_bl, tr_int, tr_tup, tr_lst, tr_own, ln_tup, ln_lst, ln_own, ln_scr, ln_str, ln_pk, tp_tup, tp_lst, tp_own, tp_pk, ls_tup, ls_lst, ls_own, ad_int, ad_str, ad_tup, ad_lst, oi_int, ob_int, ob_str, lt_int, eq_int, it_tup, it_lst, it_scr, ie_int, ie_bl, io_int, vl_dat, at_0, at_1, at_2, is_non, cl_true, rg_1, rg_2, rg_3, dCall_eq, dCallK_eq, back_ok, dCall1, dCallN, min2D, max2D, negD, putS, dFor, line_le, line_lt, and_self, and_true, List.map_cons, List.map_nil, List.length_cons, List.length_nil, List.cons_append, List.nil_append, List.getElem?_cons_zero, List.getElem?_cons_succ, List.set_cons_zero, List.set_cons_succ, Bool.true_and, Bool.and_true, Bool.false_and, Bool.and_false, if_true, if_false, Bool.not_true, Bool.not_false, Bool.false_eq_true, reduceIte, Option.bind_some, Option.map_some, valI, Nat.reduceAdd, Nat.reduceLeDiff, Nat.reduceSub, Nat.reduceLT, Nat.zero_add, List.reduceReplicate, dn_eVar, dn_eInt, dn_eBl, dn_eNon, dn_eStr, dn_eGlob, dn_mkBin, dn_mkCmp, dn_mkIn, dn_mkChain, dn_eNot, dn_bOne, dn_bAnd, dn_bOr, dn_eBool, dn_tV, dn_tNt, dn_wOne, dn_wAnd, dn_wOr, dn_tBool, dn_eIf, dn_aNil, dn_aCons, dn_eTup, dn_eLst, dn_eIx, dn_oNone, dn_oSome, dn_eSl, dn_eCall, dn_eCall0, dn_bNil, dn_bCons, dn_sSet, dn_sRet, dn_sExpr, dn_sPass, dn_sBreak, dn_sCont, dn_sIf, dn_sAsg, dn_iSeq, dn_iRange, dn_iZip, dn_sFor, dn_sWhile, dn_qNil, dn_qOne, dn_kOne, dn_kTwo, dn_sSetC, dn_mkMeth, dn_mkMeth0, dn_eTIx, dn_tTok, dn_eTok, dn_sIxSet, dn_eNeg, dn_eIsi, dn_eRev, dn_rg1, dn_rg2, dn_eLstRg, dn_eTupRg, dn_sAug, dn_sPar2, dn_kwNil, dn_kwCons, dn_eCallK, dn_eCallK0, dn_kTok, dn_sForT, dn_eC, dn_tC', dn_eK, dn_eAdd, dn_eSub, dn_eMul, dn_eFdiv, dn_eMod, dn_ePow, dn_eShl, dn_eShr, dn_eAnd2, dn_eOr2, dn_cEq, dn_cNe, dn_cLt, dn_cLe, dn_cGt, dn_cGe, dn_cLeLe, dn_eLen, dn_eTupOf, dn_eLstOf, dn_eIntOf, dn_eAbs, dn_eStrOf, dn_eAny, dn_eAll, dn_eSum, dn_eMax1, dn_eMin1, dn_eSorted, dn_eMin2, dn_eMax2, dn_mAppendE, dn_mExtendE, dn_mPopE, dn_mPopAtE, dn_mReverseE, dn_mInsertE, dn_cIs, dn_cIsNot, dn_cIn, dn_cNotIn]
end K38

namespace K38
open PySem PySem.Spec RB
inductive Fits : Fld → Cnd → D → Prop
  | num (n : Str) (lo hi a b i : Int) : Fits (.num n lo hi) (.num a b) (.int i)
  | wrd (n : Str) (vs ws : List Str) (w : Str) : Fits (.wrd n vs) (.wrd ws) (.str w)
theorem Fits.ask {x : Fld} {c : Cnd} {v : D} (h : Fits x c v) : askOk c v := by cases h <;> trivial
def AllFit (f : List Fld) (cs : List Cnd) (case : List D) : Prop := ∃ (h1 : cs.length = f.length) (h2 : case.length = f.length), ∀ (k : Nat) (h : k < f.length), Fits f[k] cs[k] case[k]
theorem lets_all (f : List Fld) (cs : List Cnd) (case : List D) (h : AllFit f cs case) : letsM cs case = true ↔ ∀ (k : Nat) (hk : k < f.length) (h1 : k < cs.length) (h2 : k < case.length), takesM cs[k] case[k] = true := by
  obtain ⟨e1, e2, _⟩ := h
  unfold letsM
  rw [List.all_eq_true]
  constructor
  · intro h k hk h1 h2
    have hz : k < (cs.zip case).length := by rw [List.length_zip]; omega
    have := h _ (List.getElem_mem hz)
    rwa [List.getElem_zip] at this
  · intro h p hp
    obtain ⟨k, hk, rfl⟩ := List.getElem_of_mem hp
    rw [List.length_zip] at hk
    rw [List.getElem_zip]
    exact h k (by omega) (by omega) (by omega)
theorem law_lets_eq (f : List Fld) (cs : List Cnd) (case : List D) (ok : ∀ x ∈ f, x.ok) (hl : f.length ≤ 64) (fit : AllFit f cs case) (g : TkG) : F__law_lets [formD f, ruleD (some cs), .tup case] g = .ok (.dat (.bl (letsM cs case))) g := by
  have h62 : In62 (f.map Fld.d).length := in62 (by omega) (by rw [List.length_map]; omega)
  have la := lets_all f cs case fit
  obtain ⟨e1, e2, ft⟩ := fit
  have en : isNon (ruleD (some cs)) = false := rfl
  simp only [F__law_lets, b__law_lets, h62, en, runB_eq, frame0, ob_ok, ob_bad, ob_ite, fo_ok, fo_bad, fo_ite, fn_nx, fn_rt, fn_bk, fn_ct, fn_bad, fn_ite, op_some, op_none, op_ite, fz_dat, fz_own, so_dat, so_own, re_dat, re_own, endB_rt, endB_nx, endB_bad, endB_ite, dVar, dC, dBin, eD, dAnd, dOr, dTru, asB, dtAnd, dtOr, dChain, ib_bl, dCons, ho_dat, ho_own, ho_pk, sq_tup, sq_lst, sq_own, sq_pk, sk_tup, sk_lst, sk_own, sk_pk, ix_tup, ix_lst, ix_pk, sl_tup, sl_lst, sl_scr, tr_non, tr_bl, tr_int, tr_tup, tr_lst, tr_own, ln_tup, ln_lst, ln_own, ln_scr, ln_str, ln_pk, tp_tup, tp_lst, tp_own, tp_pk, ls_tup, ls_lst, ls_own, ad_int, ad_str, ad_tup, ad_lst, oi_int, ob_int, ob_str, lt_int, eq_int, it_tup, it_lst, it_scr, ie_int, ie_bl, io_int, vl_dat, at_0, at_1, at_2, is_non, cl_true, rg_1, rg_2, rg_3, dCall_eq, dCallK_eq, back_ok, dCall1, dCallN, min2D, max2D, negD, putS, dFor, line_le, line_lt, and_self, and_true, List.map_cons, List.map_nil, List.length_cons, List.length_nil, List.cons_append, List.nil_append, List.getElem?_cons_zero, List.getElem?_cons_succ, List.set_cons_zero, List.set_cons_succ, Bool.true_and, Bool.and_true, Bool.false_and, Bool.and_false, if_true, if_false, Bool.not_true, Bool.not_false, Bool.false_eq_true, reduceIte, Option.bind_some, Option.map_some, valI, Nat.reduceAdd, Nat.reduceLeDiff, Nat.reduceSub, Nat.reduceLT, Nat.zero_add, List.reduceReplicate, dn_eVar, dn_eInt, dn_eBl, dn_eNon, dn_eStr, dn_eGlob, dn_mkBin, dn_mkCmp, dn_mkIn, dn_mkChain, dn_eNot, dn_bOne, dn_bAnd, dn_bOr, dn_eBool, dn_tV, dn_tNt, dn_wOne, dn_wAnd, dn_wOr, dn_tBool, dn_eIf, dn_aNil, dn_aCons, dn_eTup, dn_eLst, dn_eIx, dn_oNone, dn_oSome, dn_eSl, dn_eCall, dn_eCall0, dn_bNil, dn_bCons, dn_sSet, dn_sRet, dn_sExpr, dn_sPass, dn_sBreak, dn_sCont, dn_sIf, dn_sAsg, dn_iSeq, dn_iRange, dn_iZip, dn_sFor, dn_sWhile, dn_qNil, dn_qOne, dn_kOne, dn_kTwo, dn_sSetC, dn_mkMeth, dn_mkMeth0, dn_eTIx, dn_tTok, dn_eTok, dn_sIxSet, dn_eNeg, dn_eIsi, dn_eRev, dn_rg1, dn_rg2, dn_eLstRg, dn_eTupRg, dn_sAug, dn_sPar2, dn_kwNil, dn_kwCons, dn_eCallK, dn_eCallK0, dn_kTok, dn_sForT, dn_eC, dn_tC', dn_eK, dn_eAdd, dn_eSub, dn_eMul, dn_eFdiv, dn_eMod, dn_ePow, dn_eShl, dn_eShr, dn_eAnd2, dn_eOr2, dn_cEq, dn_cNe, dn_cLt, dn_cLe, dn_cGt, dn_cGe, dn_cLeLe, dn_eLen, dn_eTupOf, dn_eLstOf, dn_eIntOf, dn_eAbs, dn_eStrOf, dn_eAny, dn_eAll, dn_eSum, dn_eMax1, dn_eMin1, dn_eSorted, dn_eMin2, dn_eMax2, dn_mAppendE, dn_mExtendE, dn_mPopE, dn_mPopAtE, dn_mReverseE, dn_mInsertE, dn_cIs, dn_cIsNot, dn_cIn, dn_cNotIn]
  have key := forD_ret (g := (gN 3 : GI TkG).den) (body := l__law_lets_1.den) (rngL 0 ((f.map Fld.d).length : Int).toNat)
    (fun k s => (∃ x, s = (⟨[some (.dat (formD f)), some (.dat (ruleD (some cs))), some (.dat (.tup case)), x], g⟩ : Stt TkG)) ∧ ∀ (j : Nat) (h1 : j < cs.length) (h2 : j < case.length), j < k → takesM cs[j] case[j] = true)
    (fun r => (∃ s, r = .nx s ∧ s.g = g ∧ letsM cs case = true) ∨ ∃ s, r = .rt (.dat (.bl false)) s ∧ s.g = g ∧ letsM cs case = false)
    (fun k hk s ⟨⟨x, hs⟩, hj⟩ => by
      subst hs
      have hk' : k < f.length := by simpa [rngL] using hk
      rw [rngL_get]
      have hok := ok _ (List.getElem_mem hk')
      have hft := ft k hk'
      have c1 : L2.atI (cs.map Cnd.d) (k : Int) = some cs[k].d := by rw [at_nat _ _ (by rw [List.length_map]; omega), List.getElem_map]
      have c2 : L2.atI case (k : Int) = some case[k] := at_nat case k (by omega)
      have a1 := at_form f k hk'
      have no : takesM cs[k] case[k] = false → letsM cs case = false := fun h => by
        cases hh : letsM cs case with
        | false => rfl
        | true => rw [la.mp hh k hk' (by omega) (by omega)] at h; cases h
      have yes : takesM cs[k] case[k] = true → ∀ (j : Nat) (h1 : j < cs.length) (h2 : j < case.length), j < k + 1 → takesM cs[j] case[j] = true := fun h j h1 h2 h3 => by
        rcases Nat.lt_succ_iff_lt_or_eq.mp h3 with h4 | h4
        · exact hj j h1 h2 h4
        · subst h4; exact h
      generalize f[k] = xx at *
      generalize cs[k] = cc at *
      generalize case[k] = vv at *
      have en := law_numbers_eq xx hok
      refine ⟨_, rfl, ?_⟩
      cases ht : takesM cc vv with
      | true =>
        refine .inl ⟨⟨[some (.dat (formD f)), some (.dat (ruleD (some cs))), some (.dat (.tup case)), some (.dat (.int k))], g⟩, .inl ?_, ⟨_, rfl⟩, yes ht⟩
        cases hft with
        | num n lo hi a b i =>
          simp only [l__law_lets_1, fr__law_numbers, Int.zero_add, a1, c1, c2, en, ruleD, Cnd.d, Fld.isN, runB_eq, frame0, ob_ok, ob_bad, ob_ite, fo_ok, fo_bad, fo_ite, fn_nx, fn_rt, fn_bk, fn_ct, fn_bad, fn_ite, op_some, op_none, op_ite, fz_dat, fz_own, so_dat, so_own, re_dat, re_own, endB_rt, endB_nx, endB_bad, endB_ite, dVar, dC, dBin, eD, dAnd, dOr, dTru, asB, dtAnd, dtOr, dChain, ib_bl, dCons, ho_dat, ho_own, ho_pk, sq_tup, sq_lst, sq_own, sq_pk, sk_tup, sk_lst, sk_own, sk_pk, ix_tup, ix_lst, ix_pk, sl_tup, sl_lst, sl_scr, tr_non, tr_bl, tr_int, tr_tup, tr_lst, tr_own, ln_tup, ln_lst, ln_own, ln_scr, ln_str, ln_pk, tp_tup, tp_lst, tp_own, tp_pk, ls_tup, ls_lst, ls_own, ad_int, ad_str, ad_tup, ad_lst, oi_int, ob_int, ob_str, lt_int, eq_int, it_tup, it_lst, it_scr, ie_int, ie_bl, io_int, vl_dat, at_0, at_1, at_2, is_non, cl_true, rg_1, rg_2, rg_3, dCall_eq, dCallK_eq, back_ok, dCall1, dCallN, min2D, max2D, negD, putS, dFor, line_le, line_lt, and_self, and_true, List.map_cons, List.map_nil, List.length_cons, List.length_nil, List.cons_append, List.nil_append, List.getElem?_cons_zero, List.getElem?_cons_succ, List.set_cons_zero, List.set_cons_succ, Bool.true_and, Bool.and_true, Bool.false_and, Bool.and_false, if_true, if_false, Bool.not_true, Bool.not_false, Bool.false_eq_true, reduceIte, Option.bind_some, Option.map_some, valI, Nat.reduceAdd, Nat.reduceLeDiff, Nat.reduceSub, Nat.reduceLT, Nat.zero_add, List.reduceReplicate, dn_eVar, dn_eInt, dn_eBl, dn_eNon, dn_eStr, dn_eGlob, dn_mkBin, dn_mkCmp, dn_mkIn, dn_mkChain, dn_eNot, dn_bOne, dn_bAnd, dn_bOr, dn_eBool, dn_tV, dn_tNt, dn_wOne, dn_wAnd, dn_wOr, dn_tBool, dn_eIf, dn_aNil, dn_aCons, dn_eTup, dn_eLst, dn_eIx, dn_oNone, dn_oSome, dn_eSl, dn_eCall, dn_eCall0, dn_bNil, dn_bCons, dn_sSet, dn_sRet, dn_sExpr, dn_sPass, dn_sBreak, dn_sCont, dn_sIf, dn_sAsg, dn_iSeq, dn_iRange, dn_iZip, dn_sFor, dn_sWhile, dn_qNil, dn_qOne, dn_kOne, dn_kTwo, dn_sSetC, dn_mkMeth, dn_mkMeth0, dn_eTIx, dn_tTok, dn_eTok, dn_sIxSet, dn_eNeg, dn_eIsi, dn_eRev, dn_rg1, dn_rg2, dn_eLstRg, dn_eTupRg, dn_sAug, dn_sPar2, dn_kwNil, dn_kwCons, dn_eCallK, dn_eCallK0, dn_kTok, dn_sForT, dn_eC, dn_tC', dn_eK, dn_eAdd, dn_eSub, dn_eMul, dn_eFdiv, dn_eMod, dn_ePow, dn_eShl, dn_eShr, dn_eAnd2, dn_eOr2, dn_cEq, dn_cNe, dn_cLt, dn_cLe, dn_cGt, dn_cGe, dn_cLeLe, dn_eLen, dn_eTupOf, dn_eLstOf, dn_eIntOf, dn_eAbs, dn_eStrOf, dn_eAny, dn_eAll, dn_eSum, dn_eMax1, dn_eMin1, dn_eSorted, dn_eMin2, dn_eMax2, dn_mAppendE, dn_mExtendE, dn_mPopE, dn_mPopAtE, dn_mReverseE, dn_mInsertE, dn_cIs, dn_cIsNot, dn_cIn, dn_cNotIn, dn_gN, dn_gT, dn_gsNil, dn_gsCons]
          have h : a ≤ i ∧ i ≤ b := by simpa [takesM] using ht
          rw [if_neg (by rw [decide_eq_true_eq]; omega), if_neg (by rw [decide_eq_true_eq]; omega)]
        | wrd n vs ws w =>
          simp only [l__law_lets_1, fr__law_numbers, Int.zero_add, a1, c1, c2, en, ruleD, Cnd.d, Fld.isN, dIn, in_strs, runB_eq, frame0, ob_ok, ob_bad, ob_ite, fo_ok, fo_bad, fo_ite, fn_nx, fn_rt, fn_bk, fn_ct, fn_bad, fn_ite, op_some, op_none, op_ite, fz_dat, fz_own, so_dat, so_own, re_dat, re_own, endB_rt, endB_nx, endB_bad, endB_ite, dVar, dC, dBin, eD, dAnd, dOr, dTru, asB, dtAnd, dtOr, dChain, ib_bl, dCons, ho_dat, ho_own, ho_pk, sq_tup, sq_lst, sq_own, sq_pk, sk_tup, sk_lst, sk_own, sk_pk, ix_tup, ix_lst, ix_pk, sl_tup, sl_lst, sl_scr, tr_non, tr_bl, tr_int, tr_tup, tr_lst, tr_own, ln_tup, ln_lst, ln_own, ln_scr, ln_str, ln_pk, tp_tup, tp_lst, tp_own, tp_pk, ls_tup, ls_lst, ls_own, ad_int, ad_str, ad_tup, ad_lst, oi_int, ob_int, ob_str, lt_int, eq_int, it_tup, it_lst, it_scr, ie_int, ie_bl, io_int, vl_dat, at_0, at_1, at_2, is_non, cl_true, rg_1, rg_2, rg_3, dCall_eq, dCallK_eq, back_ok, dCall1, dCallN, min2D, max2D, negD, putS, dFor, line_le, line_lt, and_self, and_true, List.map_cons, List.map_nil, List.length_cons, List.length_nil, List.cons_append, List.nil_append, List.getElem?_cons_zero, List.getElem?_cons_succ, List.set_cons_zero, List.set_cons_succ, Bool.true_and, Bool.and_true, Bool.false_and, Bool.and_false, if_true, if_false, Bool.not_true, Bool.not_false, Bool.false_eq_true, reduceIte, Option.bind_some, Option.map_some, valI, Nat.reduceAdd, Nat.reduceLeDiff, Nat.reduceSub, Nat.reduceLT, Nat.zero_add, List.reduceReplicate, dn_eVar, dn_eInt, dn_eBl, dn_eNon, dn_eStr, dn_eGlob, dn_mkBin, dn_mkCmp, dn_mkIn, dn_mkChain, dn_eNot, dn_bOne, dn_bAnd, dn_bOr, dn_eBool, dn_tV, dn_tNt, dn_wOne, dn_wAnd, dn_wOr, dn_tBool, dn_eIf, dn_aNil, dn_aCons, dn_eTup, dn_eLst, dn_eIx, dn_oNone, dn_oSome, dn_eSl, dn_eCall, dn_eCall0, dn_bNil, dn_bCons, dn_sSet, dn_sRet, dn_sExpr, dn_sPass, dn_sBreak, dn_sCont, dn_sIf, dn_sAsg, dn_iSeq, dn_iRange, dn_iZip, dn_sFor, dn_sWhile, dn_qNil, dn_qOne, dn_kOne, dn_kTwo, dn_sSetC, dn_mkMeth, dn_mkMeth0, dn_eTIx, dn_tTok, dn_eTok, dn_sIxSet, dn_eNeg, dn_eIsi, dn_eRev, dn_rg1, dn_rg2, dn_eLstRg, dn_eTupRg, dn_sAug, dn_sPar2, dn_kwNil, dn_kwCons, dn_eCallK, dn_eCallK0, dn_kTok, dn_sForT, dn_eC, dn_tC', dn_eK, dn_eAdd, dn_eSub, dn_eMul, dn_eFdiv, dn_eMod, dn_ePow, dn_eShl, dn_eShr, dn_eAnd2, dn_eOr2, dn_cEq, dn_cNe, dn_cLt, dn_cLe, dn_cGt, dn_cGe, dn_cLeLe, dn_eLen, dn_eTupOf, dn_eLstOf, dn_eIntOf, dn_eAbs, dn_eStrOf, dn_eAny, dn_eAll, dn_eSum, dn_eMax1, dn_eMin1, dn_eSorted, dn_eMin2, dn_eMax2, dn_mAppendE, dn_mExtendE, dn_mPopE, dn_mPopAtE, dn_mReverseE, dn_mInsertE, dn_cIs, dn_cIsNot, dn_cIn, dn_cNotIn, dn_gN, dn_gT, dn_gsNil, dn_gsCons]
          have h : ((ws.map D.str).any fun y => eqB y (D.str w)) = true := ht
          rw [h]
          rfl
      | false =>
        refine .inr ⟨.dat (.bl false), ⟨[some (.dat (formD f)), some (.dat (ruleD (some cs))), some (.dat (.tup case)), some (.dat (.int k))], g⟩, ?_, .inr ⟨_, rfl, rfl, no ht⟩⟩
        cases hft with
        | num n lo hi a b i =>
          simp only [l__law_lets_1, fr__law_numbers, Int.zero_add, a1, c1, c2, en, ruleD, Cnd.d, Fld.isN, runB_eq, frame0, ob_ok, ob_bad, ob_ite, fo_ok, fo_bad, fo_ite, fn_nx, fn_rt, fn_bk, fn_ct, fn_bad, fn_ite, op_some, op_none, op_ite, fz_dat, fz_own, so_dat, so_own, re_dat, re_own, endB_rt, endB_nx, endB_bad, endB_ite, dVar, dC, dBin, eD, dAnd, dOr, dTru, asB, dtAnd, dtOr, dChain, ib_bl, dCons, ho_dat, ho_own, ho_pk, sq_tup, sq_lst, sq_own, sq_pk, sk_tup, sk_lst, sk_own, sk_pk, ix_tup, ix_lst, ix_pk, sl_tup, sl_lst, sl_scr, tr_non, tr_bl, tr_int, tr_tup, tr_lst, tr_own, ln_tup, ln_lst, ln_own, ln_scr, ln_str, ln_pk, tp_tup, tp_lst, tp_own, tp_pk, ls_tup, ls_lst, ls_own, ad_int, ad_str, ad_tup, ad_lst, oi_int, ob_int, ob_str, lt_int, eq_int, it_tup, it_lst, it_scr, ie_int, ie_bl, io_int, vl_dat, at_0, at_1, at_2, is_non, cl_true, rg_1, rg_2, rg_3, dCall_eq, dCallK_eq, back_ok, dCall1, dCallN, min2D, max2D, negD, putS, dFor, line_le, line_lt, and_self, and_true, List.map_cons, List.map_nil, List.length_cons, List.length_nil, List.cons_append, List.nil_append, List.getElem?_cons_zero, List.getElem?_cons_succ, List.set_cons_zero, List.set_cons_succ, Bool.true_and, Bool.and_true, Bool.false_and, Bool.and_false, if_true, if_false, Bool.not_true, Bool.not_false, Bool.false_eq_true, reduceIte, Option.bind_some, Option.map_some, valI, Nat.reduceAdd, Nat.reduceLeDiff, Nat.reduceSub, Nat.reduceLT, Nat.zero_add, List.reduceReplicate, dn_eVar, dn_eInt, dn_eBl, dn_eNon, dn_eStr, dn_eGlob, dn_mkBin, dn_mkCmp, dn_mkIn, dn_mkChain, dn_eNot, dn_bOne, dn_bAnd, dn_bOr, dn_eBool, dn_tV, dn_tNt, dn_wOne, dn_wAnd, dn_wOr, dn_tBool, dn_eIf, dn_aNil, dn_aCons, dn_eTup, dn_eLst, dn_eIx, dn_oNone, dn_oSome, dn_eSl, dn_eCall, dn_eCall0, dn_bNil, dn_bCons, dn_sSet, dn_sRet, dn_sExpr, dn_sPass, dn_sBreak, dn_sCont, dn_sIf, dn_sAsg, dn_iSeq, dn_iRange, dn_iZip, dn_sFor, dn_sWhile, dn_qNil, dn_qOne, dn_kOne, dn_kTwo, dn_sSetC, dn_mkMeth, dn_mkMeth0, dn_eTIx, dn_tTok, dn_eTok, dn_sIxSet, dn_eNeg, dn_eIsi, dn_eRev, dn_rg1, dn_rg2, dn_eLstRg, dn_eTupRg, dn_sAug, dn_sPar2, dn_kwNil, dn_kwCons, dn_eCallK, dn_eCallK0, dn_kTok, dn_sForT, dn_eC, dn_tC', dn_eK, dn_eAdd, dn_eSub, dn_eMul, dn_eFdiv, dn_eMod, dn_ePow, dn_eShl, dn_eShr, dn_eAnd2, dn_eOr2, dn_cEq, dn_cNe, dn_cLt, dn_cLe, dn_cGt, dn_cGe, dn_cLeLe, dn_eLen, dn_eTupOf, dn_eLstOf, dn_eIntOf, dn_eAbs, dn_eStrOf, dn_eAny, dn_eAll, dn_eSum, dn_eMax1, dn_eMin1, dn_eSorted, dn_eMin2, dn_eMax2, dn_mAppendE, dn_mExtendE, dn_mPopE, dn_mPopAtE, dn_mReverseE, dn_mInsertE, dn_cIs, dn_cIsNot, dn_cIn, dn_cNotIn, dn_gN, dn_gT, dn_gsNil, dn_gsCons]
          have h : ¬ (a ≤ i ∧ i ≤ b) := by
            intro h
            have : takesM (.num a b) (.int i) = true := by simpa [takesM] using h
            rw [this] at ht
            cases ht
          by_cases h1 : i < a
          · rw [if_pos (dok h1)]
          · rw [if_neg (by rw [decide_eq_true_eq]; exact h1), if_pos (dok (by omega))]
        | wrd n vs ws w =>
          simp only [l__law_lets_1, fr__law_numbers, Int.zero_add, a1, c1, c2, en, ruleD, Cnd.d, Fld.isN, dIn, in_strs, runB_eq, frame0, ob_ok, ob_bad, ob_ite, fo_ok, fo_bad, fo_ite, fn_nx, fn_rt, fn_bk, fn_ct, fn_bad, fn_ite, op_some, op_none, op_ite, fz_dat, fz_own, so_dat, so_own, re_dat, re_own, endB_rt, endB_nx, endB_bad, endB_ite, dVar, dC, dBin, eD, dAnd, dOr, dTru, asB, dtAnd, dtOr, dChain, ib_bl, dCons, ho_dat, ho_own, ho_pk, sq_tup, sq_lst, sq_own, sq_pk, sk_tup, sk_lst, sk_own, sk_pk, ix_tup, ix_lst, ix_pk, sl_tup, sl_lst, sl_scr, tr_non, tr_bl, tr_int, tr_tup, tr_lst, tr_own, ln_tup, ln_lst, ln_own, ln_scr, ln_str, ln_pk, tp_tup, tp_lst, tp_own, tp_pk, ls_tup, ls_lst, ls_own, ad_int, ad_str, ad_tup, ad_lst, oi_int, ob_int, ob_str, lt_int, eq_int, it_tup, it_lst, it_scr, ie_int, ie_bl, io_int, vl_dat, at_0, at_1, at_2, is_non, cl_true, rg_1, rg_2, rg_3, dCall_eq, dCallK_eq, back_ok, dCall1, dCallN, min2D, max2D, negD, putS, dFor, line_le, line_lt, and_self, and_true, List.map_cons, List.map_nil, List.length_cons, List.length_nil, List.cons_append, List.nil_append, List.getElem?_cons_zero, List.getElem?_cons_succ, List.set_cons_zero, List.set_cons_succ, Bool.true_and, Bool.and_true, Bool.false_and, Bool.and_false, if_true, if_false, Bool.not_true, Bool.not_false, Bool.false_eq_true, reduceIte, Option.bind_some, Option.map_some, valI, Nat.reduceAdd, Nat.reduceLeDiff, Nat.reduceSub, Nat.reduceLT, Nat.zero_add, List.reduceReplicate, dn_eVar, dn_eInt, dn_eBl, dn_eNon, dn_eStr, dn_eGlob, dn_mkBin, dn_mkCmp, dn_mkIn, dn_mkChain, dn_eNot, dn_bOne, dn_bAnd, dn_bOr, dn_eBool, dn_tV, dn_tNt, dn_wOne, dn_wAnd, dn_wOr, dn_tBool, dn_eIf, dn_aNil, dn_aCons, dn_eTup, dn_eLst, dn_eIx, dn_oNone, dn_oSome, dn_eSl, dn_eCall, dn_eCall0, dn_bNil, dn_bCons, dn_sSet, dn_sRet, dn_sExpr, dn_sPass, dn_sBreak, dn_sCont, dn_sIf, dn_sAsg, dn_iSeq, dn_iRange, dn_iZip, dn_sFor, dn_sWhile, dn_qNil, dn_qOne, dn_kOne, dn_kTwo, dn_sSetC, dn_mkMeth, dn_mkMeth0, dn_eTIx, dn_tTok, dn_eTok, dn_sIxSet, dn_eNeg, dn_eIsi, dn_eRev, dn_rg1, dn_rg2, dn_eLstRg, dn_eTupRg, dn_sAug, dn_sPar2, dn_kwNil, dn_kwCons, dn_eCallK, dn_eCallK0, dn_kTok, dn_sForT, dn_eC, dn_tC', dn_eK, dn_eAdd, dn_eSub, dn_eMul, dn_eFdiv, dn_eMod, dn_ePow, dn_eShl, dn_eShr, dn_eAnd2, dn_eOr2, dn_cEq, dn_cNe, dn_cLt, dn_cLe, dn_cGt, dn_cGe, dn_cLeLe, dn_eLen, dn_eTupOf, dn_eLstOf, dn_eIntOf, dn_eAbs, dn_eStrOf, dn_eAny, dn_eAll, dn_eSum, dn_eMax1, dn_eMin1, dn_eSorted, dn_eMin2, dn_eMax2, dn_mAppendE, dn_mExtendE, dn_mPopE, dn_mPopAtE, dn_mReverseE, dn_mInsertE, dn_cIs, dn_cIsNot, dn_cIn, dn_cNotIn, dn_gN, dn_gT, dn_gsNil, dn_gsCons]
          have h : ((ws.map D.str).any fun y => eqB y (D.str w)) = false := ht
          rw [h]
          rfl)
    (fun s ⟨⟨x, hs⟩, hj⟩ => .inl ⟨s, rfl, by rw [hs], la.mpr fun k hk h1 h2 => hj k h1 h2 (by simpa [rngL] using hk)⟩)
    ⟨[some (.dat (formD f)), some (.dat (ruleD (some cs))), some (.dat (.tup case)), none], g⟩ ⟨⟨none, rfl⟩, fun _ _ _ h => absurd h (Nat.not_lt_zero _)⟩
  rcases key with ⟨s, e, hg, hm⟩ | ⟨s, e, hg, hm⟩
  · rw [e, hm]
    simp only [hg, runB_eq, frame0, ob_ok, ob_bad, ob_ite, fo_ok, fo_bad, fo_ite, fn_nx, fn_rt, fn_bk, fn_ct, fn_bad, fn_ite, op_some, op_none, op_ite, fz_dat, fz_own, so_dat, so_own, re_dat, re_own, endB_rt, endB_nx, endB_bad, endB_ite, dVar, dC, dBin, eD, dAnd, dOr, dTru, asB, dtAnd, dtOr, dChain, ib_bl, dCons, ho_dat, ho_own, ho_pk, sq_tup, sq_lst, sq_own, sq_pk, sk_tup, sk_lst, sk_own, sk_pk, ix_tup, ix_lst, ix_pk, sl_tup, sl_lst, sl_scr, tr_non, tr_bl, tr_int, tr_tup, tr_lst, tr_own, ln_tup, ln_lst, ln_own, ln_scr, ln_str, ln_pk, tp_tup, tp_lst, tp_own, tp_pk, ls_tup, ls_lst, ls_own, ad_int, ad_str, ad_tup, ad_lst, oi_int, ob_int, ob_str, lt_int, eq_int, it_tup, it_lst, it_scr, ie_int, ie_bl, io_int, vl_dat, at_0, at_1, at_2, is_non, cl_true, rg_1, rg_2, rg_3, dCall_eq, dCallK_eq, back_ok, dCall1, dCallN, min2D, max2D, negD, putS, dFor, line_le, line_lt, and_self, and_true, List.map_cons, List.map_nil, List.length_cons, List.length_nil, List.cons_append, List.nil_append, List.getElem?_cons_zero, List.getElem?_cons_succ, List.set_cons_zero, List.set_cons_succ, Bool.true_and, Bool.and_true, Bool.false_and, Bool.and_false, if_true, if_false, Bool.not_true, Bool.not_false, Bool.false_eq_true, reduceIte, Option.bind_some, Option.map_some, valI, Nat.reduceAdd, Nat.reduceLeDiff, Nat.reduceSub, Nat.reduceLT, Nat.zero_add, List.reduceReplicate, dn_eVar, dn_eInt, dn_eBl, dn_eNon, dn_eStr, dn_eGlob, dn_mkBin, dn_mkCmp, dn_mkIn, dn_mkChain, dn_eNot, dn_bOne, dn_bAnd, dn_bOr, dn_eBool, dn_tV, dn_tNt, dn_wOne, dn_wAnd, dn_wOr, dn_tBool, dn_eIf, dn_aNil, dn_aCons, dn_eTup, dn_eLst, dn_eIx, dn_oNone, dn_oSome, dn_eSl, dn_eCall, dn_eCall0, dn_bNil, dn_bCons, dn_sSet, dn_sRet, dn_sExpr, dn_sPass, dn_sBreak, dn_sCont, dn_sIf, dn_sAsg, dn_iSeq, dn_iRange, dn_iZip, dn_sFor, dn_sWhile, dn_qNil, dn_qOne, dn_kOne, dn_kTwo, dn_sSetC, dn_mkMeth, dn_mkMeth0, dn_eTIx, dn_tTok, dn_eTok, dn_sIxSet, dn_eNeg, dn_eIsi, dn_eRev, dn_rg1, dn_rg2, dn_eLstRg, dn_eTupRg, dn_sAug, dn_sPar2, dn_kwNil, dn_kwCons, dn_eCallK, dn_eCallK0, dn_kTok, dn_sForT, dn_eC, dn_tC', dn_eK, dn_eAdd, dn_eSub, dn_eMul, dn_eFdiv, dn_eMod, dn_ePow, dn_eShl, dn_eShr, dn_eAnd2, dn_eOr2, dn_cEq, dn_cNe, dn_cLt, dn_cLe, dn_cGt, dn_cGe, dn_cLeLe, dn_eLen, dn_eTupOf, dn_eLstOf, dn_eIntOf, dn_eAbs, dn_eStrOf, dn_eAny, dn_eAll, dn_eSum, dn_eMax1, dn_eMin1, dn_eSorted, dn_eMin2, dn_eMax2, dn_mAppendE, dn_mExtendE, dn_mPopE, dn_mPopAtE, dn_mReverseE, dn_mInsertE, dn_cIs, dn_cIsNot, dn_cIn, dn_cNotIn]
  · rw [e, hm]
    simp only [hg, runB_eq, frame0, ob_ok, ob_bad, ob_ite, fo_ok, fo_bad, fo_ite, fn_nx, fn_rt, fn_bk, fn_ct, fn_bad, fn_ite, op_some, op_none, op_ite, fz_dat, fz_own, so_dat, so_own, re_dat, re_own, endB_rt, endB_nx, endB_bad, endB_ite, dVar, dC, dBin, eD, dAnd, dOr, dTru, asB, dtAnd, dtOr, dChain, ib_bl, dCons, ho_dat, ho_own, ho_pk, sq_tup, sq_lst, sq_own, sq_pk, sk_tup, sk_lst, sk_own, sk_pk, ix_tup, ix_lst, ix_pk, sl_tup, sl_lst, sl_scr, tr_non, tr_bl, tr_int, tr_tup, tr_lst, tr_own, ln_tup, ln_lst, ln_own, ln_scr, ln_str, ln_pk, tp_tup, tp_lst, tp_own, tp_pk, ls_tup, ls_lst, ls_own, ad_int, ad_str, ad_tup, ad_lst, oi_int, ob_int, ob_str, lt_int, eq_int, it_tup, it_lst, it_scr, ie_int, ie_bl, io_int, vl_dat, at_0, at_1, at_2, is_non, cl_true, rg_1, rg_2, rg_3, dCall_eq, dCallK_eq, back_ok, dCall1, dCallN, min2D, max2D, negD, putS, dFor, line_le, line_lt, and_self, and_true, List.map_cons, List.map_nil, List.length_cons, List.length_nil, List.cons_append, List.nil_append, List.getElem?_cons_zero, List.getElem?_cons_succ, List.set_cons_zero, List.set_cons_succ, Bool.true_and, Bool.and_true, Bool.false_and, Bool.and_false, if_true, if_false, Bool.not_true, Bool.not_false, Bool.false_eq_true, reduceIte, Option.bind_some, Option.map_some, valI, Nat.reduceAdd, Nat.reduceLeDiff, Nat.reduceSub, Nat.reduceLT, Nat.zero_add, List.reduceReplicate, dn_eVar, dn_eInt, dn_eBl, dn_eNon, dn_eStr, dn_eGlob, dn_mkBin, dn_mkCmp, dn_mkIn, dn_mkChain, dn_eNot, dn_bOne, dn_bAnd, dn_bOr, dn_eBool, dn_tV, dn_tNt, dn_wOne, dn_wAnd, dn_wOr, dn_tBool, dn_eIf, dn_aNil, dn_aCons, dn_eTup, dn_eLst, dn_eIx, dn_oNone, dn_oSome, dn_eSl, dn_eCall, dn_eCall0, dn_bNil, dn_bCons, dn_sSet, dn_sRet, dn_sExpr, dn_sPass, dn_sBreak, dn_sCont, dn_sIf, dn_sAsg, dn_iSeq, dn_iRange, dn_iZip, dn_sFor, dn_sWhile, dn_qNil, dn_qOne, dn_kOne, dn_kTwo, dn_sSetC, dn_mkMeth, dn_mkMeth0, dn_eTIx, dn_tTok, dn_eTok, dn_sIxSet, dn_eNeg, dn_eIsi, dn_eRev, dn_rg1, dn_rg2, dn_eLstRg, dn_eTupRg, dn_sAug, dn_sPar2, dn_kwNil, dn_kwCons, dn_eCallK, dn_eCallK0, dn_kTok, dn_sForT, dn_eC, dn_tC', dn_eK, dn_eAdd, dn_eSub, dn_eMul, dn_eFdiv, dn_eMod, dn_ePow, dn_eShl, dn_eShr, dn_eAnd2, dn_eOr2, dn_cEq, dn_cNe, dn_cLt, dn_cLe, dn_cGt, dn_cGe, dn_cLeLe, dn_eLen, dn_eTupOf, dn_eLstOf, dn_eIntOf, dn_eAbs, dn_eStrOf, dn_eAny, dn_eAll, dn_eSum, dn_eMax1, dn_eMin1, dn_eSorted, dn_eMin2, dn_eMax2, dn_mAppendE, dn_mExtendE, dn_mPopE, dn_mPopAtE, dn_mReverseE, dn_mInsertE, dn_cIs, dn_cIsNot, dn_cIn, dn_cNotIn]
theorem law_lets_none (f : D) (case : D) (g : TkG) : F__law_lets [f, .non, case] g = .ok (.dat (.bl false)) g := by
  have en : isNon .non = true := rfl
  simp only [F__law_lets, b__law_lets, en, runB_eq, frame0, ob_ok, ob_bad, ob_ite, fo_ok, fo_bad, fo_ite, fn_nx, fn_rt, fn_bk, fn_ct, fn_bad, fn_ite, op_some, op_none, op_ite, fz_dat, fz_own, so_dat, so_own, re_dat, re_own, endB_rt, endB_nx, endB_bad, endB_ite, dVar, dC, dBin, eD, dAnd, dOr, dTru, asB, dtAnd, dtOr, dChain, ib_bl, dCons, ho_dat, ho_own, ho_pk, sq_tup, sq_lst, sq_own, sq_pk, sk_tup, sk_lst, sk_own, sk_pk, ix_tup, ix_lst, ix_pk, sl_tup, sl_lst, sl_scr, tr_non, tr_bl, tr_int, tr_tup, tr_lst, tr_own, ln_tup, ln_lst, ln_own, ln_scr, ln_str, ln_pk, tp_tup, tp_lst, tp_own, tp_pk, ls_tup, ls_lst, ls_own, ad_int, ad_str, ad_tup, ad_lst, oi_int, ob_int, ob_str, lt_int, eq_int, it_tup, it_lst, it_scr, ie_int, ie_bl, io_int, vl_dat, at_0, at_1, at_2, is_non, cl_true, rg_1, rg_2, rg_3, dCall_eq, dCallK_eq, back_ok, dCall1, dCallN, min2D, max2D, negD, putS, dFor, line_le, line_lt, and_self, and_true, List.map_cons, List.map_nil, List.length_cons, List.length_nil, List.cons_append, List.nil_append, List.getElem?_cons_zero, List.getElem?_cons_succ, List.set_cons_zero, List.set_cons_succ, Bool.true_and, Bool.and_true, Bool.false_and, Bool.and_false, if_true, if_false, Bool.not_true, Bool.not_false, Bool.false_eq_true, reduceIte, Option.bind_some, Option.map_some, valI, Nat.reduceAdd, Nat.reduceLeDiff, Nat.reduceSub, Nat.reduceLT, Nat.zero_add, List.reduceReplicate, dn_eVar, dn_eInt, dn_eBl, dn_eNon, dn_eStr, dn_eGlob, dn_mkBin, dn_mkCmp, dn_mkIn, dn_mkChain, dn_eNot, dn_bOne, dn_bAnd, dn_bOr, dn_eBool, dn_tV, dn_tNt, dn_wOne, dn_wAnd, dn_wOr, dn_tBool, dn_eIf, dn_aNil, dn_aCons, dn_eTup, dn_eLst, dn_eIx, dn_oNone, dn_oSome, dn_eSl, dn_eCall, dn_eCall0, dn_bNil, dn_bCons, dn_sSet, dn_sRet, dn_sExpr, dn_sPass, dn_sBreak, dn_sCont, dn_sIf, dn_sAsg, dn_iSeq, dn_iRange, dn_iZip, dn_sFor, dn_sWhile, dn_qNil, dn_qOne, dn_kOne, dn_kTwo, dn_sSetC, dn_mkMeth, dn_mkMeth0, dn_eTIx, dn_tTok, dn_eTok, dn_sIxSet, dn_eNeg, dn_eIsi, dn_eRev, dn_rg1, dn_rg2, dn_eLstRg, dn_eTupRg, dn_sAug, dn_sPar2, dn_kwNil, dn_kwCons, dn_eCallK, dn_eCallK0, dn_kTok, dn_sForT, dn_eC, dn_tC', dn_eK, dn_eAdd, dn_eSub, dn_eMul, dn_eFdiv, dn_eMod, dn_ePow, dn_eShl, dn_eShr, dn_eAnd2, dn_eOr2, dn_cEq, dn_cNe, dn_cLt, dn_cLe, dn_cGt, dn_cGe, dn_cLeLe, dn_eLen, dn_eTupOf, dn_eLstOf, dn_eIntOf, dn_eAbs, dn_eStrOf, dn_eAny, dn_eAll, dn_eSum, dn_eMax1, dn_eMin1, dn_eSorted, dn_eMin2, dn_eMax2, dn_mAppendE, dn_mExtendE, dn_mPopE, dn_mPopAtE, dn_mReverseE, dn_mInsertE, dn_cIs, dn_cIsNot, dn_cIn, dn_cNotIn]
/-- what a rule says of a case -/
def saysM (r : Option (List Cnd)) (case : List D) : Bool := match r with
  | none => false
  | some cs => letsM cs case
def RuleFit (f : List Fld) (r : Option (List Cnd)) (case : List D) : Prop := match r with
  | none => True
  | some cs => AllFit f cs case ∧ ∀ c ∈ cs, c.ok
theorem law_lets_r (f : List Fld) (r : Option (List Cnd)) (case : List D) (ok : ∀ x ∈ f, x.ok) (hl : f.length ≤ 64) (fit : RuleFit f r case) (g : TkG) : F__law_lets [formD f, ruleD r, .tup case] g = .ok (.dat (.bl (saysM r case))) g := by
  cases r with
  | none => exact law_lets_none _ _ g
  | some cs => exact law_lets_eq f cs case ok hl fit.1 g
theorem lets_r (f : List Fld) (r : Option (List Cnd)) (case : List D) (hl : f.length ≤ 64) (fit : RuleFit f r case) (g : TkG) : F_lets [ruleD r, .tup case] g = .ok (.dat (.bl (saysM r case))) g := by
  cases r with
  | none => exact lets_none _ g
  | some cs =>
    obtain ⟨⟨e1, e2, ft⟩, hc⟩ := fit
    refine lets_eq cs case hc (fun p hp => ?_) (by omega) g
    obtain ⟨k, hk, rfl⟩ := List.getElem_of_mem hp
    rw [List.length_zip] at hk
    rw [List.getElem_zip]
    exact (ft k (by omega)).ask
/-- a row of a log -/
def rowD (deed : D) (r : Option (List Cnd)) (case : List D) : D := .tup [deed, .tup case, .str (if saysM r case then "let" else "refused")]
theorem answered_eq (f : List Fld) (log : List D) (deed : D) (r : Option (List Cnd)) (case : List D) (hl : f.length ≤ 64) (fit : RuleFit f r case) (h1 : log.length + 1 ≤ 100000) (g : TkG) : F_answered [.tup log, deed, ruleD r, .tup case] g = .ok (.dat (.tup (log ++ [rowD deed r case]))) g := by
  simp only [F_answered, b_answered, fr_lets, lets_r f r case hl fit, runB_eq, frame0, ob_ok, ob_bad, ob_ite, fo_ok, fo_bad, fo_ite, fn_nx, fn_rt, fn_bk, fn_ct, fn_bad, fn_ite, op_some, op_none, op_ite, fz_dat, fz_own, so_dat, so_own, re_dat, re_own, endB_rt, endB_nx, endB_bad, endB_ite, dVar, dC, dBin, eD, dAnd, dOr, dTru, asB, dtAnd, dtOr, dChain, ib_bl, dCons, ho_dat, ho_own, ho_pk, sq_tup, sq_lst, sq_own, sq_pk, sk_tup, sk_lst, sk_own, sk_pk, ix_tup, ix_lst, ix_pk, sl_tup, sl_lst, sl_scr, tr_non, tr_bl, tr_int, tr_tup, tr_lst, tr_own, ln_tup, ln_lst, ln_own, ln_scr, ln_str, ln_pk, tp_tup, tp_lst, tp_own, tp_pk, ls_tup, ls_lst, ls_own, ad_int, ad_str, ad_tup, ad_lst, oi_int, ob_int, ob_str, lt_int, eq_int, it_tup, it_lst, it_scr, ie_int, ie_bl, io_int, vl_dat, at_0, at_1, at_2, is_non, cl_true, rg_1, rg_2, rg_3, dCall_eq, dCallK_eq, back_ok, dCall1, dCallN, min2D, max2D, negD, putS, dFor, line_le, line_lt, and_self, and_true, List.map_cons, List.map_nil, List.length_cons, List.length_nil, List.cons_append, List.nil_append, List.getElem?_cons_zero, List.getElem?_cons_succ, List.set_cons_zero, List.set_cons_succ, Bool.true_and, Bool.and_true, Bool.false_and, Bool.and_false, if_true, if_false, Bool.not_true, Bool.not_false, Bool.false_eq_true, reduceIte, Option.bind_some, Option.map_some, valI, Nat.reduceAdd, Nat.reduceLeDiff, Nat.reduceSub, Nat.reduceLT, Nat.zero_add, List.reduceReplicate, dn_eVar, dn_eInt, dn_eBl, dn_eNon, dn_eStr, dn_eGlob, dn_mkBin, dn_mkCmp, dn_mkIn, dn_mkChain, dn_eNot, dn_bOne, dn_bAnd, dn_bOr, dn_eBool, dn_tV, dn_tNt, dn_wOne, dn_wAnd, dn_wOr, dn_tBool, dn_eIf, dn_aNil, dn_aCons, dn_eTup, dn_eLst, dn_eIx, dn_oNone, dn_oSome, dn_eSl, dn_eCall, dn_eCall0, dn_bNil, dn_bCons, dn_sSet, dn_sRet, dn_sExpr, dn_sPass, dn_sBreak, dn_sCont, dn_sIf, dn_sAsg, dn_iSeq, dn_iRange, dn_iZip, dn_sFor, dn_sWhile, dn_qNil, dn_qOne, dn_kOne, dn_kTwo, dn_sSetC, dn_mkMeth, dn_mkMeth0, dn_eTIx, dn_tTok, dn_eTok, dn_sIxSet, dn_eNeg, dn_eIsi, dn_eRev, dn_rg1, dn_rg2, dn_eLstRg, dn_eTupRg, dn_sAug, dn_sPar2, dn_kwNil, dn_kwCons, dn_eCallK, dn_eCallK0, dn_kTok, dn_sForT, dn_eC, dn_tC', dn_eK, dn_eAdd, dn_eSub, dn_eMul, dn_eFdiv, dn_eMod, dn_ePow, dn_eShl, dn_eShr, dn_eAnd2, dn_eOr2, dn_cEq, dn_cNe, dn_cLt, dn_cLe, dn_cGt, dn_cGe, dn_cLeLe, dn_eLen, dn_eTupOf, dn_eLstOf, dn_eIntOf, dn_eAbs, dn_eStrOf, dn_eAny, dn_eAll, dn_eSum, dn_eMax1, dn_eMin1, dn_eSorted, dn_eMin2, dn_eMax2, dn_mAppendE, dn_mExtendE, dn_mPopE, dn_mPopAtE, dn_mReverseE, dn_mInsertE, dn_cIs, dn_cIsNot, dn_cIn, dn_cNotIn]
  unfold rowD
  cases saysM r case <;> simp only [h1, runB_eq, frame0, ob_ok, ob_bad, ob_ite, fo_ok, fo_bad, fo_ite, fn_nx, fn_rt, fn_bk, fn_ct, fn_bad, fn_ite, op_some, op_none, op_ite, fz_dat, fz_own, so_dat, so_own, re_dat, re_own, endB_rt, endB_nx, endB_bad, endB_ite, dVar, dC, dBin, eD, dAnd, dOr, dTru, asB, dtAnd, dtOr, dChain, ib_bl, dCons, ho_dat, ho_own, ho_pk, sq_tup, sq_lst, sq_own, sq_pk, sk_tup, sk_lst, sk_own, sk_pk, ix_tup, ix_lst, ix_pk, sl_tup, sl_lst, sl_scr, tr_non, tr_bl, tr_int, tr_tup, tr_lst, tr_own, ln_tup, ln_lst, ln_own, ln_scr, ln_str, ln_pk, tp_tup, tp_lst, tp_own, tp_pk, ls_tup, ls_lst, ls_own, ad_int, ad_str, ad_tup, ad_lst, oi_int, ob_int, ob_str, lt_int, eq_int, it_tup, it_lst, it_scr, ie_int, ie_bl, io_int, vl_dat, at_0, at_1, at_2, is_non, cl_true, rg_1, rg_2, rg_3, dCall_eq, dCallK_eq, back_ok, dCall1, dCallN, min2D, max2D, negD, putS, dFor, line_le, line_lt, and_self, and_true, List.map_cons, List.map_nil, List.length_cons, List.length_nil, List.cons_append, List.nil_append, List.getElem?_cons_zero, List.getElem?_cons_succ, List.set_cons_zero, List.set_cons_succ, Bool.true_and, Bool.and_true, Bool.false_and, Bool.and_false, if_true, if_false, Bool.not_true, Bool.not_false, Bool.false_eq_true, reduceIte, Option.bind_some, Option.map_some, valI, Nat.reduceAdd, Nat.reduceLeDiff, Nat.reduceSub, Nat.reduceLT, Nat.zero_add, List.reduceReplicate, dn_eVar, dn_eInt, dn_eBl, dn_eNon, dn_eStr, dn_eGlob, dn_mkBin, dn_mkCmp, dn_mkIn, dn_mkChain, dn_eNot, dn_bOne, dn_bAnd, dn_bOr, dn_eBool, dn_tV, dn_tNt, dn_wOne, dn_wAnd, dn_wOr, dn_tBool, dn_eIf, dn_aNil, dn_aCons, dn_eTup, dn_eLst, dn_eIx, dn_oNone, dn_oSome, dn_eSl, dn_eCall, dn_eCall0, dn_bNil, dn_bCons, dn_sSet, dn_sRet, dn_sExpr, dn_sPass, dn_sBreak, dn_sCont, dn_sIf, dn_sAsg, dn_iSeq, dn_iRange, dn_iZip, dn_sFor, dn_sWhile, dn_qNil, dn_qOne, dn_kOne, dn_kTwo, dn_sSetC, dn_mkMeth, dn_mkMeth0, dn_eTIx, dn_tTok, dn_eTok, dn_sIxSet, dn_eNeg, dn_eIsi, dn_eRev, dn_rg1, dn_rg2, dn_eLstRg, dn_eTupRg, dn_sAug, dn_sPar2, dn_kwNil, dn_kwCons, dn_eCallK, dn_eCallK0, dn_kTok, dn_sForT, dn_eC, dn_tC', dn_eK, dn_eAdd, dn_eSub, dn_eMul, dn_eFdiv, dn_eMod, dn_ePow, dn_eShl, dn_eShr, dn_eAnd2, dn_eOr2, dn_cEq, dn_cNe, dn_cLt, dn_cLe, dn_cGt, dn_cGe, dn_cLeLe, dn_eLen, dn_eTupOf, dn_eLstOf, dn_eIntOf, dn_eAbs, dn_eStrOf, dn_eAny, dn_eAll, dn_eSum, dn_eMax1, dn_eMin1, dn_eSorted, dn_eMin2, dn_eMax2, dn_mAppendE, dn_mExtendE, dn_mPopE, dn_mPopAtE, dn_mReverseE, dn_mInsertE, dn_cIs, dn_cIsNot, dn_cIn, dn_cNotIn]
theorem nthC_cons (x : Fld) (f : List Fld) (r : Nat) : ∃ j, nthC (x :: f) r = x.vals.getD (j % x.vals.length) .non :: nthC f r := by
  unfold nthC
  rw [List.reverse_cons, List.foldl_append]
  exact ⟨_, rfl⟩
theorem nthC_len (f : List Fld) (r : Nat) : (nthC f r).length = f.length := by
  unfold nthC
  rw [stepN_len, List.length_reverse, List.length_nil, Nat.zero_add]
theorem fits_of {x : Fld} {c : Cnd} (ok : x.ok) (h : x.isN = c.isN) (j : Nat) : Fits x c (x.vals.getD (j % x.vals.length) .non) := by
  have hl := (Fld.ok_vals ok).1
  have hm : j % x.vals.length < x.vals.length := Nat.mod_lt _ hl
  rw [List.getD_eq_getElem?_getD, List.getElem?_eq_getElem hm]
  have hv := List.getElem_mem hm
  show Fits x c (x.vals[j % x.vals.length])
  generalize x.vals[j % x.vals.length] = v at hv
  cases x with
  | num n a b =>
    cases c with
    | num a' b' =>
      simp only [Fld.vals, rngL, List.mem_map] at hv
      obtain ⟨k, _, rfl⟩ := hv
      exact .num ..
    | wrd ws => cases h
  | wrd n vs =>
    cases c with
    | num a' b' => cases h
    | wrd ws =>
      simp only [Fld.vals, List.mem_map] at hv
      obtain ⟨k, _, rfl⟩ := hv
      exact .wrd ..
def RF (f : List Fld) (r : Option (List Cnd)) : Prop := match r with
  | none => True
  | some cs => cs.map Cnd.isN = f.map Fld.isN ∧ ∀ c ∈ cs, c.ok
theorem allfit : ∀ (f : List Fld) (cs : List Cnd) (r : Nat), (∀ x ∈ f, x.ok) → cs.map Cnd.isN = f.map Fld.isN → AllFit f cs (nthC f r)
  | [], [], r, _, _ => ⟨rfl, rfl, fun k h => absurd h (Nat.not_lt_zero _)⟩
  | [], c :: cs, r, _, h => by cases h
  | x :: f, [], r, _, h => by cases h
  | x :: f, c :: cs, r, ok, h => by
    rw [List.map_cons, List.map_cons, List.cons.injEq] at h
    obtain ⟨e1, e2, ft⟩ := allfit f cs r (fun y hy => ok y (List.mem_cons_of_mem _ hy)) h.2
    obtain ⟨j, ej⟩ := nthC_cons x f r
    rw [ej]
    refine ⟨by simp only [List.length_cons, e1], by simp only [List.length_cons, e2], fun k hk => ?_⟩
    cases k with
    | zero => exact fits_of (ok x List.mem_cons_self) h.1.symm j
    | succ k => exact ft k (by simpa using hk)
theorem rulefit (f : List Fld) (rr : Option (List Cnd)) (r : Nat) (ok : ∀ x ∈ f, x.ok) (h : RF f rr) : RuleFit f rr (nthC f r) := by
  cases rr with
  | none => trivial
  | some cs => exact ⟨allfit f cs r ok h.1, h.2⟩
def logD (f : List Fld) (deed : D) (r : Option (List Cnd)) (ms : List Nat) : List D := ms.map fun m => rowD deed r (nthC f m)
theorem logD_snoc (f : List Fld) (deed : D) (r : Option (List Cnd)) (ms : List Nat) (k : Nat) (h : k < ms.length) : logD f deed r (ms.take (k + 1)) = logD f deed r (ms.take k) ++ [rowD deed r (nthC f ms[k])] := by
  unfold logD
  rw [List.take_succ_eq_append_getElem h, List.map_append]
  rfl
theorem drawn_log_eq (f : List Fld) (ok : ∀ x ∈ f, x.ok) (hl : f.length ≤ 64) (deed : D) (r : Option (List Cnd)) (hr : RF f r) (d : D) (ms : List Nat) (hd : itemsD d = some (ms.map fun m : Nat => .int m)) (hm : ms.length ≤ 90000) (g : TkG) : F_drawn_log [formD f, deed, ruleD r, d] g = .ok (.dat (.tup (logD f deed r ms))) g := by
  simp only [F_drawn_log, b_drawn_log, hd, runB_eq, frame0, ob_ok, ob_bad, ob_ite, fo_ok, fo_bad, fo_ite, fn_nx, fn_rt, fn_bk, fn_ct, fn_bad, fn_ite, op_some, op_none, op_ite, fz_dat, fz_own, so_dat, so_own, re_dat, re_own, endB_rt, endB_nx, endB_bad, endB_ite, dVar, dC, dBin, eD, dAnd, dOr, dTru, asB, dtAnd, dtOr, dChain, ib_bl, dCons, ho_dat, ho_own, ho_pk, sq_tup, sq_lst, sq_own, sq_pk, sk_tup, sk_lst, sk_own, sk_pk, ix_tup, ix_lst, ix_pk, sl_tup, sl_lst, sl_scr, tr_non, tr_bl, tr_int, tr_tup, tr_lst, tr_own, ln_tup, ln_lst, ln_own, ln_scr, ln_str, ln_pk, tp_tup, tp_lst, tp_own, tp_pk, ls_tup, ls_lst, ls_own, ad_int, ad_str, ad_tup, ad_lst, oi_int, ob_int, ob_str, lt_int, eq_int, it_tup, it_lst, it_scr, ie_int, ie_bl, io_int, vl_dat, at_0, at_1, at_2, is_non, cl_true, rg_1, rg_2, rg_3, dCall_eq, dCallK_eq, back_ok, dCall1, dCallN, min2D, max2D, negD, putS, dFor, line_le, line_lt, and_self, and_true, List.map_cons, List.map_nil, List.length_cons, List.length_nil, List.cons_append, List.nil_append, List.getElem?_cons_zero, List.getElem?_cons_succ, List.set_cons_zero, List.set_cons_succ, Bool.true_and, Bool.and_true, Bool.false_and, Bool.and_false, if_true, if_false, Bool.not_true, Bool.not_false, Bool.false_eq_true, reduceIte, Option.bind_some, Option.map_some, valI, Nat.reduceAdd, Nat.reduceLeDiff, Nat.reduceSub, Nat.reduceLT, Nat.zero_add, List.reduceReplicate, dn_eVar, dn_eInt, dn_eBl, dn_eNon, dn_eStr, dn_eGlob, dn_mkBin, dn_mkCmp, dn_mkIn, dn_mkChain, dn_eNot, dn_bOne, dn_bAnd, dn_bOr, dn_eBool, dn_tV, dn_tNt, dn_wOne, dn_wAnd, dn_wOr, dn_tBool, dn_eIf, dn_aNil, dn_aCons, dn_eTup, dn_eLst, dn_eIx, dn_oNone, dn_oSome, dn_eSl, dn_eCall, dn_eCall0, dn_bNil, dn_bCons, dn_sSet, dn_sRet, dn_sExpr, dn_sPass, dn_sBreak, dn_sCont, dn_sIf, dn_sAsg, dn_iSeq, dn_iRange, dn_iZip, dn_sFor, dn_sWhile, dn_qNil, dn_qOne, dn_kOne, dn_kTwo, dn_sSetC, dn_mkMeth, dn_mkMeth0, dn_eTIx, dn_tTok, dn_eTok, dn_sIxSet, dn_eNeg, dn_eIsi, dn_eRev, dn_rg1, dn_rg2, dn_eLstRg, dn_eTupRg, dn_sAug, dn_sPar2, dn_kwNil, dn_kwCons, dn_eCallK, dn_eCallK0, dn_kTok, dn_sForT, dn_eC, dn_tC', dn_eK, dn_eAdd, dn_eSub, dn_eMul, dn_eFdiv, dn_eMod, dn_ePow, dn_eShl, dn_eShr, dn_eAnd2, dn_eOr2, dn_cEq, dn_cNe, dn_cLt, dn_cLe, dn_cGt, dn_cGe, dn_cLeLe, dn_eLen, dn_eTupOf, dn_eLstOf, dn_eIntOf, dn_eAbs, dn_eStrOf, dn_eAny, dn_eAll, dn_eSum, dn_eMax1, dn_eMin1, dn_eSorted, dn_eMin2, dn_eMax2, dn_mAppendE, dn_mExtendE, dn_mPopE, dn_mPopAtE, dn_mReverseE, dn_mInsertE, dn_cIs, dn_cIsNot, dn_cIn, dn_cNotIn]
  obtain ⟨s', e1, x, rfl⟩ := forD_inv (g := (gN 5 : GI TkG).den) (body := l_drawn_log_1.den) (ms.map fun m : Nat => D.int m)
    (fun k s => ∃ x, s = (⟨[some (.dat (formD f)), some (.dat deed), some (.dat (ruleD r)), some (.dat d), some (.dat (.tup (logD f deed r (ms.take k)))), x], g⟩ : Stt TkG)) (fun k hk s ⟨x, hs⟩ => by
      subst hs
      have hk' : k < ms.length := by simpa using hk
      rw [List.getElem_map]
      have hlen : (logD f deed r (ms.take k)).length + 1 ≤ 100000 := by unfold logD; rw [List.length_map, List.length_take]; omega
      refine ⟨_, rfl, _, .inl ?_, some (.dat (.int ms[k])), rfl⟩
      rw [logD_snoc f deed r ms k hk']
      simp only [l_drawn_log_1, fr_nth_case, fr_answered, nth_case_eq f ok hl, nth_mod, answered_eq f _ deed r _ hl (rulefit f r ms[k] ok hr) hlen, runB_eq, frame0, ob_ok, ob_bad, ob_ite, fo_ok, fo_bad, fo_ite, fn_nx, fn_rt, fn_bk, fn_ct, fn_bad, fn_ite, op_some, op_none, op_ite, fz_dat, fz_own, so_dat, so_own, re_dat, re_own, endB_rt, endB_nx, endB_bad, endB_ite, dVar, dC, dBin, eD, dAnd, dOr, dTru, asB, dtAnd, dtOr, dChain, ib_bl, dCons, ho_dat, ho_own, ho_pk, sq_tup, sq_lst, sq_own, sq_pk, sk_tup, sk_lst, sk_own, sk_pk, ix_tup, ix_lst, ix_pk, sl_tup, sl_lst, sl_scr, tr_non, tr_bl, tr_int, tr_tup, tr_lst, tr_own, ln_tup, ln_lst, ln_own, ln_scr, ln_str, ln_pk, tp_tup, tp_lst, tp_own, tp_pk, ls_tup, ls_lst, ls_own, ad_int, ad_str, ad_tup, ad_lst, oi_int, ob_int, ob_str, lt_int, eq_int, it_tup, it_lst, it_scr, ie_int, ie_bl, io_int, vl_dat, at_0, at_1, at_2, is_non, cl_true, rg_1, rg_2, rg_3, dCall_eq, dCallK_eq, back_ok, dCall1, dCallN, min2D, max2D, negD, putS, dFor, line_le, line_lt, and_self, and_true, List.map_cons, List.map_nil, List.length_cons, List.length_nil, List.cons_append, List.nil_append, List.getElem?_cons_zero, List.getElem?_cons_succ, List.set_cons_zero, List.set_cons_succ, Bool.true_and, Bool.and_true, Bool.false_and, Bool.and_false, if_true, if_false, Bool.not_true, Bool.not_false, Bool.false_eq_true, reduceIte, Option.bind_some, Option.map_some, valI, Nat.reduceAdd, Nat.reduceLeDiff, Nat.reduceSub, Nat.reduceLT, Nat.zero_add, List.reduceReplicate, dn_eVar, dn_eInt, dn_eBl, dn_eNon, dn_eStr, dn_eGlob, dn_mkBin, dn_mkCmp, dn_mkIn, dn_mkChain, dn_eNot, dn_bOne, dn_bAnd, dn_bOr, dn_eBool, dn_tV, dn_tNt, dn_wOne, dn_wAnd, dn_wOr, dn_tBool, dn_eIf, dn_aNil, dn_aCons, dn_eTup, dn_eLst, dn_eIx, dn_oNone, dn_oSome, dn_eSl, dn_eCall, dn_eCall0, dn_bNil, dn_bCons, dn_sSet, dn_sRet, dn_sExpr, dn_sPass, dn_sBreak, dn_sCont, dn_sIf, dn_sAsg, dn_iSeq, dn_iRange, dn_iZip, dn_sFor, dn_sWhile, dn_qNil, dn_qOne, dn_kOne, dn_kTwo, dn_sSetC, dn_mkMeth, dn_mkMeth0, dn_eTIx, dn_tTok, dn_eTok, dn_sIxSet, dn_eNeg, dn_eIsi, dn_eRev, dn_rg1, dn_rg2, dn_eLstRg, dn_eTupRg, dn_sAug, dn_sPar2, dn_kwNil, dn_kwCons, dn_eCallK, dn_eCallK0, dn_kTok, dn_sForT, dn_eC, dn_tC', dn_eK, dn_eAdd, dn_eSub, dn_eMul, dn_eFdiv, dn_eMod, dn_ePow, dn_eShl, dn_eShr, dn_eAnd2, dn_eOr2, dn_cEq, dn_cNe, dn_cLt, dn_cLe, dn_cGt, dn_cGe, dn_cLeLe, dn_eLen, dn_eTupOf, dn_eLstOf, dn_eIntOf, dn_eAbs, dn_eStrOf, dn_eAny, dn_eAll, dn_eSum, dn_eMax1, dn_eMin1, dn_eSorted, dn_eMin2, dn_eMax2, dn_mAppendE, dn_mExtendE, dn_mPopE, dn_mPopAtE, dn_mReverseE, dn_mInsertE, dn_cIs, dn_cIsNot, dn_cIn, dn_cNotIn, dn_gN, dn_gT, dn_gsNil, dn_gsCons])
    ⟨[some (.dat (formD f)), some (.dat deed), some (.dat (ruleD r)), some (.dat d), some (.dat (.tup [])), none], g⟩ ⟨none, rfl⟩
  rw [e1]
  have el : (ms.map fun m : Nat => D.int m).length = ms.length := by rw [List.length_map]
  simp only [el, List.take_length, runB_eq, frame0, ob_ok, ob_bad, ob_ite, fo_ok, fo_bad, fo_ite, fn_nx, fn_rt, fn_bk, fn_ct, fn_bad, fn_ite, op_some, op_none, op_ite, fz_dat, fz_own, so_dat, so_own, re_dat, re_own, endB_rt, endB_nx, endB_bad, endB_ite, dVar, dC, dBin, eD, dAnd, dOr, dTru, asB, dtAnd, dtOr, dChain, ib_bl, dCons, ho_dat, ho_own, ho_pk, sq_tup, sq_lst, sq_own, sq_pk, sk_tup, sk_lst, sk_own, sk_pk, ix_tup, ix_lst, ix_pk, sl_tup, sl_lst, sl_scr, tr_non, tr_bl, tr_int, tr_tup, tr_lst, tr_own, ln_tup, ln_lst, ln_own, ln_scr, ln_str, ln_pk, tp_tup, tp_lst, tp_own, tp_pk, ls_tup, ls_lst, ls_own, ad_int, ad_str, ad_tup, ad_lst, oi_int, ob_int, ob_str, lt_int, eq_int, it_tup, it_lst, it_scr, ie_int, ie_bl, io_int, vl_dat, at_0, at_1, at_2, is_non, cl_true, rg_1, rg_2, rg_3, dCall_eq, dCallK_eq, back_ok, dCall1, dCallN, min2D, max2D, negD, putS, dFor, line_le, line_lt, and_self, and_true, List.map_cons, List.map_nil, List.length_cons, List.length_nil, List.cons_append, List.nil_append, List.getElem?_cons_zero, List.getElem?_cons_succ, List.set_cons_zero, List.set_cons_succ, Bool.true_and, Bool.and_true, Bool.false_and, Bool.and_false, if_true, if_false, Bool.not_true, Bool.not_false, Bool.false_eq_true, reduceIte, Option.bind_some, Option.map_some, valI, Nat.reduceAdd, Nat.reduceLeDiff, Nat.reduceSub, Nat.reduceLT, Nat.zero_add, List.reduceReplicate, dn_eVar, dn_eInt, dn_eBl, dn_eNon, dn_eStr, dn_eGlob, dn_mkBin, dn_mkCmp, dn_mkIn, dn_mkChain, dn_eNot, dn_bOne, dn_bAnd, dn_bOr, dn_eBool, dn_tV, dn_tNt, dn_wOne, dn_wAnd, dn_wOr, dn_tBool, dn_eIf, dn_aNil, dn_aCons, dn_eTup, dn_eLst, dn_eIx, dn_oNone, dn_oSome, dn_eSl, dn_eCall, dn_eCall0, dn_bNil, dn_bCons, dn_sSet, dn_sRet, dn_sExpr, dn_sPass, dn_sBreak, dn_sCont, dn_sIf, dn_sAsg, dn_iSeq, dn_iRange, dn_iZip, dn_sFor, dn_sWhile, dn_qNil, dn_qOne, dn_kOne, dn_kTwo, dn_sSetC, dn_mkMeth, dn_mkMeth0, dn_eTIx, dn_tTok, dn_eTok, dn_sIxSet, dn_eNeg, dn_eIsi, dn_eRev, dn_rg1, dn_rg2, dn_eLstRg, dn_eTupRg, dn_sAug, dn_sPar2, dn_kwNil, dn_kwCons, dn_eCallK, dn_eCallK0, dn_kTok, dn_sForT, dn_eC, dn_tC', dn_eK, dn_eAdd, dn_eSub, dn_eMul, dn_eFdiv, dn_eMod, dn_ePow, dn_eShl, dn_eShr, dn_eAnd2, dn_eOr2, dn_cEq, dn_cNe, dn_cLt, dn_cLe, dn_cGt, dn_cGe, dn_cLeLe, dn_eLen, dn_eTupOf, dn_eLstOf, dn_eIntOf, dn_eAbs, dn_eStrOf, dn_eAny, dn_eAll, dn_eSum, dn_eMax1, dn_eMin1, dn_eSorted, dn_eMin2, dn_eMax2, dn_mAppendE, dn_mExtendE, dn_mPopE, dn_mPopAtE, dn_mReverseE, dn_mInsertE, dn_cIs, dn_cIsNot, dn_cIn, dn_cNotIn]
theorem law_due_eq (f : List Fld) (ok : ∀ x ∈ f, x.ok) (hl : f.length ≤ 64) (deed : D) (r : Option (List Cnd)) (hr : RF f r) (d : D) (ms : List Nat) (hd : itemsD d = some (ms.map fun m : Nat => .int m)) (hm : ms.length ≤ 90000) (g : TkG) : F__law_due [formD f, deed, ruleD r, d] g = .ok (.dat (.tup (logD f deed r ms))) g := by
  simp only [F__law_due, b__law_due, hd, runB_eq, frame0, ob_ok, ob_bad, ob_ite, fo_ok, fo_bad, fo_ite, fn_nx, fn_rt, fn_bk, fn_ct, fn_bad, fn_ite, op_some, op_none, op_ite, fz_dat, fz_own, so_dat, so_own, re_dat, re_own, endB_rt, endB_nx, endB_bad, endB_ite, dVar, dC, dBin, eD, dAnd, dOr, dTru, asB, dtAnd, dtOr, dChain, ib_bl, dCons, ho_dat, ho_own, ho_pk, sq_tup, sq_lst, sq_own, sq_pk, sk_tup, sk_lst, sk_own, sk_pk, ix_tup, ix_lst, ix_pk, sl_tup, sl_lst, sl_scr, tr_non, tr_bl, tr_int, tr_tup, tr_lst, tr_own, ln_tup, ln_lst, ln_own, ln_scr, ln_str, ln_pk, tp_tup, tp_lst, tp_own, tp_pk, ls_tup, ls_lst, ls_own, ad_int, ad_str, ad_tup, ad_lst, oi_int, ob_int, ob_str, lt_int, eq_int, it_tup, it_lst, it_scr, ie_int, ie_bl, io_int, vl_dat, at_0, at_1, at_2, is_non, cl_true, rg_1, rg_2, rg_3, dCall_eq, dCallK_eq, back_ok, dCall1, dCallN, min2D, max2D, negD, putS, dFor, line_le, line_lt, and_self, and_true, List.map_cons, List.map_nil, List.length_cons, List.length_nil, List.cons_append, List.nil_append, List.getElem?_cons_zero, List.getElem?_cons_succ, List.set_cons_zero, List.set_cons_succ, Bool.true_and, Bool.and_true, Bool.false_and, Bool.and_false, if_true, if_false, Bool.not_true, Bool.not_false, Bool.false_eq_true, reduceIte, Option.bind_some, Option.map_some, valI, Nat.reduceAdd, Nat.reduceLeDiff, Nat.reduceSub, Nat.reduceLT, Nat.zero_add, List.reduceReplicate, dn_eVar, dn_eInt, dn_eBl, dn_eNon, dn_eStr, dn_eGlob, dn_mkBin, dn_mkCmp, dn_mkIn, dn_mkChain, dn_eNot, dn_bOne, dn_bAnd, dn_bOr, dn_eBool, dn_tV, dn_tNt, dn_wOne, dn_wAnd, dn_wOr, dn_tBool, dn_eIf, dn_aNil, dn_aCons, dn_eTup, dn_eLst, dn_eIx, dn_oNone, dn_oSome, dn_eSl, dn_eCall, dn_eCall0, dn_bNil, dn_bCons, dn_sSet, dn_sRet, dn_sExpr, dn_sPass, dn_sBreak, dn_sCont, dn_sIf, dn_sAsg, dn_iSeq, dn_iRange, dn_iZip, dn_sFor, dn_sWhile, dn_qNil, dn_qOne, dn_kOne, dn_kTwo, dn_sSetC, dn_mkMeth, dn_mkMeth0, dn_eTIx, dn_tTok, dn_eTok, dn_sIxSet, dn_eNeg, dn_eIsi, dn_eRev, dn_rg1, dn_rg2, dn_eLstRg, dn_eTupRg, dn_sAug, dn_sPar2, dn_kwNil, dn_kwCons, dn_eCallK, dn_eCallK0, dn_kTok, dn_sForT, dn_eC, dn_tC', dn_eK, dn_eAdd, dn_eSub, dn_eMul, dn_eFdiv, dn_eMod, dn_ePow, dn_eShl, dn_eShr, dn_eAnd2, dn_eOr2, dn_cEq, dn_cNe, dn_cLt, dn_cLe, dn_cGt, dn_cGe, dn_cLeLe, dn_eLen, dn_eTupOf, dn_eLstOf, dn_eIntOf, dn_eAbs, dn_eStrOf, dn_eAny, dn_eAll, dn_eSum, dn_eMax1, dn_eMin1, dn_eSorted, dn_eMin2, dn_eMax2, dn_mAppendE, dn_mExtendE, dn_mPopE, dn_mPopAtE, dn_mReverseE, dn_mInsertE, dn_cIs, dn_cIsNot, dn_cIn, dn_cNotIn]
  obtain ⟨s', e1, x, y, rfl⟩ := forD_inv (g := (gN 5 : GI TkG).den) (body := l__law_due_1.den) (ms.map fun m : Nat => D.int m)
    (fun k s => ∃ x y, s = (⟨[some (.dat (formD f)), some (.dat deed), some (.dat (ruleD r)), some (.dat d), some (.own (logD f deed r (ms.take k))), x, y], g⟩ : Stt TkG)) (fun k hk s ⟨x, y, hs⟩ => by
      subst hs
      have hk' : k < ms.length := by simpa using hk
      rw [List.getElem_map]
      have hlen : (logD f deed r (ms.take k)).length ≤ 100000 := by unfold logD; rw [List.length_map, List.length_take]; omega
      refine ⟨_, rfl, ⟨[some (.dat (formD f)), some (.dat deed), some (.dat (ruleD r)), some (.dat d), some (.own (logD f deed r (ms.take (k + 1)))), some (.dat (.int ms[k])), some (.dat (.tup (nthC f ms[k])))], g⟩, .inl ?_, some (.dat (.int ms[k])), _, rfl⟩
      rw [logD_snoc f deed r ms k hk']
      simp only [l__law_due_1, dMut, fr__law_nth, fr__law_lets, law_nth_eq f ok hl, law_lets_r f r _ ok hl (rulefit f r ms[k] ok hr), runB_eq, frame0, ob_ok, ob_bad, ob_ite, fo_ok, fo_bad, fo_ite, fn_nx, fn_rt, fn_bk, fn_ct, fn_bad, fn_ite, op_some, op_none, op_ite, fz_dat, fz_own, so_dat, so_own, re_dat, re_own, endB_rt, endB_nx, endB_bad, endB_ite, dVar, dC, dBin, eD, dAnd, dOr, dTru, asB, dtAnd, dtOr, dChain, ib_bl, dCons, ho_dat, ho_own, ho_pk, sq_tup, sq_lst, sq_own, sq_pk, sk_tup, sk_lst, sk_own, sk_pk, ix_tup, ix_lst, ix_pk, sl_tup, sl_lst, sl_scr, tr_non, tr_bl, tr_int, tr_tup, tr_lst, tr_own, ln_tup, ln_lst, ln_own, ln_scr, ln_str, ln_pk, tp_tup, tp_lst, tp_own, tp_pk, ls_tup, ls_lst, ls_own, ad_int, ad_str, ad_tup, ad_lst, oi_int, ob_int, ob_str, lt_int, eq_int, it_tup, it_lst, it_scr, ie_int, ie_bl, io_int, vl_dat, at_0, at_1, at_2, is_non, cl_true, rg_1, rg_2, rg_3, dCall_eq, dCallK_eq, back_ok, dCall1, dCallN, min2D, max2D, negD, putS, dFor, line_le, line_lt, and_self, and_true, List.map_cons, List.map_nil, List.length_cons, List.length_nil, List.cons_append, List.nil_append, List.getElem?_cons_zero, List.getElem?_cons_succ, List.set_cons_zero, List.set_cons_succ, Bool.true_and, Bool.and_true, Bool.false_and, Bool.and_false, if_true, if_false, Bool.not_true, Bool.not_false, Bool.false_eq_true, reduceIte, Option.bind_some, Option.map_some, valI, Nat.reduceAdd, Nat.reduceLeDiff, Nat.reduceSub, Nat.reduceLT, Nat.zero_add, List.reduceReplicate, dn_eVar, dn_eInt, dn_eBl, dn_eNon, dn_eStr, dn_eGlob, dn_mkBin, dn_mkCmp, dn_mkIn, dn_mkChain, dn_eNot, dn_bOne, dn_bAnd, dn_bOr, dn_eBool, dn_tV, dn_tNt, dn_wOne, dn_wAnd, dn_wOr, dn_tBool, dn_eIf, dn_aNil, dn_aCons, dn_eTup, dn_eLst, dn_eIx, dn_oNone, dn_oSome, dn_eSl, dn_eCall, dn_eCall0, dn_bNil, dn_bCons, dn_sSet, dn_sRet, dn_sExpr, dn_sPass, dn_sBreak, dn_sCont, dn_sIf, dn_sAsg, dn_iSeq, dn_iRange, dn_iZip, dn_sFor, dn_sWhile, dn_qNil, dn_qOne, dn_kOne, dn_kTwo, dn_sSetC, dn_mkMeth, dn_mkMeth0, dn_eTIx, dn_tTok, dn_eTok, dn_sIxSet, dn_eNeg, dn_eIsi, dn_eRev, dn_rg1, dn_rg2, dn_eLstRg, dn_eTupRg, dn_sAug, dn_sPar2, dn_kwNil, dn_kwCons, dn_eCallK, dn_eCallK0, dn_kTok, dn_sForT, dn_eC, dn_tC', dn_eK, dn_eAdd, dn_eSub, dn_eMul, dn_eFdiv, dn_eMod, dn_ePow, dn_eShl, dn_eShr, dn_eAnd2, dn_eOr2, dn_cEq, dn_cNe, dn_cLt, dn_cLe, dn_cGt, dn_cGe, dn_cLeLe, dn_eLen, dn_eTupOf, dn_eLstOf, dn_eIntOf, dn_eAbs, dn_eStrOf, dn_eAny, dn_eAll, dn_eSum, dn_eMax1, dn_eMin1, dn_eSorted, dn_eMin2, dn_eMax2, dn_mAppendE, dn_mExtendE, dn_mPopE, dn_mPopAtE, dn_mReverseE, dn_mInsertE, dn_cIs, dn_cIsNot, dn_cIn, dn_cNotIn, dn_gN, dn_gT, dn_gsNil, dn_gsCons]
      unfold rowD
      cases saysM r (nthC f ms[k]) <;> simp only [mv_pk, mAppend, hlen, runB_eq, frame0, ob_ok, ob_bad, ob_ite, fo_ok, fo_bad, fo_ite, fn_nx, fn_rt, fn_bk, fn_ct, fn_bad, fn_ite, op_some, op_none, op_ite, fz_dat, fz_own, so_dat, so_own, re_dat, re_own, endB_rt, endB_nx, endB_bad, endB_ite, dVar, dC, dBin, eD, dAnd, dOr, dTru, asB, dtAnd, dtOr, dChain, ib_bl, dCons, ho_dat, ho_own, ho_pk, sq_tup, sq_lst, sq_own, sq_pk, sk_tup, sk_lst, sk_own, sk_pk, ix_tup, ix_lst, ix_pk, sl_tup, sl_lst, sl_scr, tr_non, tr_bl, tr_int, tr_tup, tr_lst, tr_own, ln_tup, ln_lst, ln_own, ln_scr, ln_str, ln_pk, tp_tup, tp_lst, tp_own, tp_pk, ls_tup, ls_lst, ls_own, ad_int, ad_str, ad_tup, ad_lst, oi_int, ob_int, ob_str, lt_int, eq_int, it_tup, it_lst, it_scr, ie_int, ie_bl, io_int, vl_dat, at_0, at_1, at_2, is_non, cl_true, rg_1, rg_2, rg_3, dCall_eq, dCallK_eq, back_ok, dCall1, dCallN, min2D, max2D, negD, putS, dFor, line_le, line_lt, and_self, and_true, List.map_cons, List.map_nil, List.length_cons, List.length_nil, List.cons_append, List.nil_append, List.getElem?_cons_zero, List.getElem?_cons_succ, List.set_cons_zero, List.set_cons_succ, Bool.true_and, Bool.and_true, Bool.false_and, Bool.and_false, if_true, if_false, Bool.not_true, Bool.not_false, Bool.false_eq_true, reduceIte, Option.bind_some, Option.map_some, valI, Nat.reduceAdd, Nat.reduceLeDiff, Nat.reduceSub, Nat.reduceLT, Nat.zero_add, List.reduceReplicate, dn_eVar, dn_eInt, dn_eBl, dn_eNon, dn_eStr, dn_eGlob, dn_mkBin, dn_mkCmp, dn_mkIn, dn_mkChain, dn_eNot, dn_bOne, dn_bAnd, dn_bOr, dn_eBool, dn_tV, dn_tNt, dn_wOne, dn_wAnd, dn_wOr, dn_tBool, dn_eIf, dn_aNil, dn_aCons, dn_eTup, dn_eLst, dn_eIx, dn_oNone, dn_oSome, dn_eSl, dn_eCall, dn_eCall0, dn_bNil, dn_bCons, dn_sSet, dn_sRet, dn_sExpr, dn_sPass, dn_sBreak, dn_sCont, dn_sIf, dn_sAsg, dn_iSeq, dn_iRange, dn_iZip, dn_sFor, dn_sWhile, dn_qNil, dn_qOne, dn_kOne, dn_kTwo, dn_sSetC, dn_mkMeth, dn_mkMeth0, dn_eTIx, dn_tTok, dn_eTok, dn_sIxSet, dn_eNeg, dn_eIsi, dn_eRev, dn_rg1, dn_rg2, dn_eLstRg, dn_eTupRg, dn_sAug, dn_sPar2, dn_kwNil, dn_kwCons, dn_eCallK, dn_eCallK0, dn_kTok, dn_sForT, dn_eC, dn_tC', dn_eK, dn_eAdd, dn_eSub, dn_eMul, dn_eFdiv, dn_eMod, dn_ePow, dn_eShl, dn_eShr, dn_eAnd2, dn_eOr2, dn_cEq, dn_cNe, dn_cLt, dn_cLe, dn_cGt, dn_cGe, dn_cLeLe, dn_eLen, dn_eTupOf, dn_eLstOf, dn_eIntOf, dn_eAbs, dn_eStrOf, dn_eAny, dn_eAll, dn_eSum, dn_eMax1, dn_eMin1, dn_eSorted, dn_eMin2, dn_eMax2, dn_mAppendE, dn_mExtendE, dn_mPopE, dn_mPopAtE, dn_mReverseE, dn_mInsertE, dn_cIs, dn_cIsNot, dn_cIn, dn_cNotIn, dn_gN, dn_gT, dn_gsNil, dn_gsCons])
    ⟨[some (.dat (formD f)), some (.dat deed), some (.dat (ruleD r)), some (.dat d), some (.own []), none, none], g⟩ ⟨none, none, rfl⟩
  rw [e1]
  have el : (ms.map fun m : Nat => D.int m).length = ms.length := by rw [List.length_map]
  simp only [el, List.take_length, runB_eq, frame0, ob_ok, ob_bad, ob_ite, fo_ok, fo_bad, fo_ite, fn_nx, fn_rt, fn_bk, fn_ct, fn_bad, fn_ite, op_some, op_none, op_ite, fz_dat, fz_own, so_dat, so_own, re_dat, re_own, endB_rt, endB_nx, endB_bad, endB_ite, dVar, dC, dBin, eD, dAnd, dOr, dTru, asB, dtAnd, dtOr, dChain, ib_bl, dCons, ho_dat, ho_own, ho_pk, sq_tup, sq_lst, sq_own, sq_pk, sk_tup, sk_lst, sk_own, sk_pk, ix_tup, ix_lst, ix_pk, sl_tup, sl_lst, sl_scr, tr_non, tr_bl, tr_int, tr_tup, tr_lst, tr_own, ln_tup, ln_lst, ln_own, ln_scr, ln_str, ln_pk, tp_tup, tp_lst, tp_own, tp_pk, ls_tup, ls_lst, ls_own, ad_int, ad_str, ad_tup, ad_lst, oi_int, ob_int, ob_str, lt_int, eq_int, it_tup, it_lst, it_scr, ie_int, ie_bl, io_int, vl_dat, at_0, at_1, at_2, is_non, cl_true, rg_1, rg_2, rg_3, dCall_eq, dCallK_eq, back_ok, dCall1, dCallN, min2D, max2D, negD, putS, dFor, line_le, line_lt, and_self, and_true, List.map_cons, List.map_nil, List.length_cons, List.length_nil, List.cons_append, List.nil_append, List.getElem?_cons_zero, List.getElem?_cons_succ, List.set_cons_zero, List.set_cons_succ, Bool.true_and, Bool.and_true, Bool.false_and, Bool.and_false, if_true, if_false, Bool.not_true, Bool.not_false, Bool.false_eq_true, reduceIte, Option.bind_some, Option.map_some, valI, Nat.reduceAdd, Nat.reduceLeDiff, Nat.reduceSub, Nat.reduceLT, Nat.zero_add, List.reduceReplicate, dn_eVar, dn_eInt, dn_eBl, dn_eNon, dn_eStr, dn_eGlob, dn_mkBin, dn_mkCmp, dn_mkIn, dn_mkChain, dn_eNot, dn_bOne, dn_bAnd, dn_bOr, dn_eBool, dn_tV, dn_tNt, dn_wOne, dn_wAnd, dn_wOr, dn_tBool, dn_eIf, dn_aNil, dn_aCons, dn_eTup, dn_eLst, dn_eIx, dn_oNone, dn_oSome, dn_eSl, dn_eCall, dn_eCall0, dn_bNil, dn_bCons, dn_sSet, dn_sRet, dn_sExpr, dn_sPass, dn_sBreak, dn_sCont, dn_sIf, dn_sAsg, dn_iSeq, dn_iRange, dn_iZip, dn_sFor, dn_sWhile, dn_qNil, dn_qOne, dn_kOne, dn_kTwo, dn_sSetC, dn_mkMeth, dn_mkMeth0, dn_eTIx, dn_tTok, dn_eTok, dn_sIxSet, dn_eNeg, dn_eIsi, dn_eRev, dn_rg1, dn_rg2, dn_eLstRg, dn_eTupRg, dn_sAug, dn_sPar2, dn_kwNil, dn_kwCons, dn_eCallK, dn_eCallK0, dn_kTok, dn_sForT, dn_eC, dn_tC', dn_eK, dn_eAdd, dn_eSub, dn_eMul, dn_eFdiv, dn_eMod, dn_ePow, dn_eShl, dn_eShr, dn_eAnd2, dn_eOr2, dn_cEq, dn_cNe, dn_cLt, dn_cLe, dn_cGt, dn_cGe, dn_cLeLe, dn_eLen, dn_eTupOf, dn_eLstOf, dn_eIntOf, dn_eAbs, dn_eStrOf, dn_eAny, dn_eAll, dn_eSum, dn_eMax1, dn_eMin1, dn_eSorted, dn_eMin2, dn_eMax2, dn_mAppendE, dn_mExtendE, dn_mPopE, dn_mPopAtE, dn_mReverseE, dn_mInsertE, dn_cIs, dn_cIsNot, dn_cIn, dn_cNotIn]
end K38

namespace K38
open PySem PySem.Spec RB
mutual
def szB : D → Nat
  | .tup xs => 1 + szL xs
  | _ => 1
def szL : List D → Nat
  | [] => 0
  | x :: xs => szB x + szL xs
end
mutual
def smp : D → Bool
  | .non => true
  | .bl _ => true
  | .int _ => true
  | .str _ => true
  | .tup xs => smps xs
  | _ => false
def smps : List D → Bool
  | [] => true
  | x :: xs => smp x && smps xs
end
theorem szL_app (xs ys : List D) : szL (xs ++ ys) = szL xs + szL ys := by
  induction xs with
  | nil => simp [szL]
  | cons x xs ih => rw [List.cons_append, szL, szL, ih]; omega
theorem smps_app (xs ys : List D) : smps (xs ++ ys) = (smps xs && smps ys) := by
  induction xs with
  | nil => rfl
  | cons x xs ih => rw [List.cons_append, smps, smps, ih, Bool.and_assoc]
theorem szB_pos (d : D) : 1 ≤ szB d := by cases d <;> simp only [szB] <;> omega
theorem szL_len (xs : List D) : xs.length ≤ szL xs := by
  induction xs with
  | nil => exact Nat.zero_le _
  | cons x xs ih => rw [List.length_cons, szL]; have := szB_pos x; omega
abbrev prD (d : D) : D := .tup [d, d]
theorem ne_same (d : D) (h : eqB d d = true) (h1 : pln d = true) (h2 : depB d = 0) : opNe d d = some (.dat (.bl false)) := by
  unfold opNe
  rw [if_pos (by rw [cmpOk_iff]; exact ⟨⟨h1, h1⟩, by omega⟩), h]
  rfl
theorem ne_int (i : Int) : opNe (.int i) (.int i) = some (.dat (.bl false)) := ne_same _ (by simp [eqB]) rfl rfl
theorem ne_bl (i : Bool) : opNe (.bl i) (.bl i) = some (.dat (.bl false)) := ne_same _ (by simp [eqB]) rfl rfl
theorem ne_str (i : Str) : opNe (.str i) (.str i) = some (.dat (.bl false)) := ne_same _ (by simp [eqB]) rfl rfl
theorem isi_bool_bl (b : Bool) : isiD .bool (.bl b) = true := rfl
theorem isi_bool_int (b : Int) : isiD .bool (.int b) = false := rfl
theorem isi_bool_str (b : Str) : isiD .bool (.str b) = false := rfl
theorem isi_bool_tup (b : List D) : isiD .bool (.tup b) = false := rfl
theorem isi_int_bl (b : Bool) : isiD .int (.bl b) = true := rfl
theorem isi_int_int (b : Int) : isiD .int (.int b) = true := rfl
theorem isi_int_str (b : Str) : isiD .int (.str b) = false := rfl
theorem isi_int_tup (b : List D) : isiD .int (.tup b) = false := rfl
theorem isi_str_bl (b : Bool) : isiD .str (.bl b) = false := rfl
theorem isi_str_int (b : Int) : isiD .str (.int b) = false := rfl
theorem isi_str_str (b : Str) : isiD .str (.str b) = true := rfl
theorem isi_str_tup (b : List D) : isiD .str (.tup b) = false := rfl
theorem isi_tuple_bl (b : Bool) : isiD .tuple (.bl b) = false := rfl
theorem isi_tuple_int (b : Int) : isiD .tuple (.int b) = false := rfl
theorem isi_tuple_str (b : Str) : isiD .tuple (.str b) = false := rfl
theorem isi_tuple_tup (b : List D) : isiD .tuple (.tup b) = true := rfl
theorem range_map {α : Type} (xs : List D) (F : D → α) : ((List.range xs.length).map fun k => F (xs.getD k .non)) = xs.map F := by
  refine List.ext_getElem (by simp) fun k h1 h2 => ?_
  rw [List.length_map, List.length_range] at h1
  rw [List.getElem_map, List.getElem_map, List.getElem_range, List.getD_eq_getElem?_getD, List.getElem?_eq_getElem h1]
  rfl
theorem same_k (A B C : Option Sl) (g : TkG) (zs : List D) (hz : zs.length ≤ 90000) : k__law_same_1.den ⟨[A, B, C, some (.dat (.tup zs)), some (.dat (.tup zs)), none], g⟩ = .ok (.own (zs.map prD)) ⟨[A, B, C, some (.dat (.tup zs)), some (.dat (.tup zs)), none], g⟩ := by
  simp only [k__law_same_1, dn_kOne, List.map_cons, List.map_nil]
  refine (dComp_map (List.range zs.length) (fun k : Nat => .int (0 + (k : Int))) (fun _ => true) (fun k => prD (zs.getD k .non)) (s' := ⟨[A, B, C, some (.dat (.tup zs)), some (.dat (.tup zs)), none], g⟩) ?_ (fun k hk => ?_) ?_).trans ?_
  · have h62 : In62 (zs.length : Nat) := in62 (by omega) (by omega)
    simp only [h62, runB_eq, frame0, ob_ok, ob_bad, ob_ite, fo_ok, fo_bad, fo_ite, fn_nx, fn_rt, fn_bk, fn_ct, fn_bad, fn_ite, op_some, op_none, op_ite, fz_dat, fz_own, so_dat, so_own, re_dat, re_own, endB_rt, endB_nx, endB_bad, endB_ite, dVar, dC, dBin, eD, dAnd, dOr, dTru, asB, dtAnd, dtOr, dChain, ib_bl, dCons, ho_dat, ho_own, ho_pk, sq_tup, sq_lst, sq_own, sq_pk, sk_tup, sk_lst, sk_own, sk_pk, ix_tup, ix_lst, ix_pk, sl_tup, sl_lst, sl_scr, tr_non, tr_bl, tr_int, tr_tup, tr_lst, tr_own, ln_tup, ln_lst, ln_own, ln_scr, ln_str, ln_pk, tp_tup, tp_lst, tp_own, tp_pk, ls_tup, ls_lst, ls_own, ad_int, ad_str, ad_tup, ad_lst, oi_int, ob_int, ob_str, lt_int, eq_int, it_tup, it_lst, it_scr, ie_int, ie_bl, io_int, vl_dat, at_0, at_1, at_2, is_non, cl_true, rg_1, rg_2, rg_3, dCall_eq, dCallK_eq, back_ok, dCall1, dCallN, min2D, max2D, negD, putS, dFor, line_le, line_lt, and_self, and_true, List.map_cons, List.map_nil, List.length_cons, List.length_nil, List.cons_append, List.nil_append, List.getElem?_cons_zero, List.getElem?_cons_succ, List.set_cons_zero, List.set_cons_succ, Bool.true_and, Bool.and_true, Bool.false_and, Bool.and_false, if_true, if_false, Bool.not_true, Bool.not_false, Bool.false_eq_true, reduceIte, Option.bind_some, Option.map_some, valI, Nat.reduceAdd, Nat.reduceLeDiff, Nat.reduceSub, Nat.reduceLT, Nat.zero_add, List.reduceReplicate, dn_eVar, dn_eInt, dn_eBl, dn_eNon, dn_eStr, dn_eGlob, dn_mkBin, dn_mkCmp, dn_mkIn, dn_mkChain, dn_eNot, dn_bOne, dn_bAnd, dn_bOr, dn_eBool, dn_tV, dn_tNt, dn_wOne, dn_wAnd, dn_wOr, dn_tBool, dn_eIf, dn_aNil, dn_aCons, dn_eTup, dn_eLst, dn_eIx, dn_oNone, dn_oSome, dn_eSl, dn_eCall, dn_eCall0, dn_bNil, dn_bCons, dn_sSet, dn_sRet, dn_sExpr, dn_sPass, dn_sBreak, dn_sCont, dn_sIf, dn_sAsg, dn_iSeq, dn_iRange, dn_iZip, dn_sFor, dn_sWhile, dn_qNil, dn_qOne, dn_kOne, dn_kTwo, dn_sSetC, dn_mkMeth, dn_mkMeth0, dn_eTIx, dn_tTok, dn_eTok, dn_sIxSet, dn_eNeg, dn_eIsi, dn_eRev, dn_rg1, dn_rg2, dn_eLstRg, dn_eTupRg, dn_sAug, dn_sPar2, dn_kwNil, dn_kwCons, dn_eCallK, dn_eCallK0, dn_kTok, dn_sForT, dn_eC, dn_tC', dn_eK, dn_eAdd, dn_eSub, dn_eMul, dn_eFdiv, dn_eMod, dn_ePow, dn_eShl, dn_eShr, dn_eAnd2, dn_eOr2, dn_cEq, dn_cNe, dn_cLt, dn_cLe, dn_cGt, dn_cGe, dn_cLeLe, dn_eLen, dn_eTupOf, dn_eLstOf, dn_eIntOf, dn_eAbs, dn_eStrOf, dn_eAny, dn_eAll, dn_eSum, dn_eMax1, dn_eMin1, dn_eSorted, dn_eMin2, dn_eMax2, dn_mAppendE, dn_mExtendE, dn_mPopE, dn_mPopAtE, dn_mReverseE, dn_mInsertE, dn_cIs, dn_cIsNot, dn_cIn, dn_cNotIn]
    rfl
  · have hk' : k < zs.length := List.mem_range.mp hk
    refine ⟨⟨[A, B, C, some (.dat (.tup zs)), some (.dat (.tup zs)), some (.dat (.int k))], g⟩, ?_, rfl, fun _ => ?_, rfl⟩
    · rw [Int.zero_add]; rfl
    · have ea : L2.atI zs (k : Int) = some (zs.getD k .non) := by rw [at_nat zs k hk', List.getD_eq_getElem?_getD, List.getElem?_eq_getElem hk']; rfl
      simp only [ea, runB_eq, frame0, ob_ok, ob_bad, ob_ite, fo_ok, fo_bad, fo_ite, fn_nx, fn_rt, fn_bk, fn_ct, fn_bad, fn_ite, op_some, op_none, op_ite, fz_dat, fz_own, so_dat, so_own, re_dat, re_own, endB_rt, endB_nx, endB_bad, endB_ite, dVar, dC, dBin, eD, dAnd, dOr, dTru, asB, dtAnd, dtOr, dChain, ib_bl, dCons, ho_dat, ho_own, ho_pk, sq_tup, sq_lst, sq_own, sq_pk, sk_tup, sk_lst, sk_own, sk_pk, ix_tup, ix_lst, ix_pk, sl_tup, sl_lst, sl_scr, tr_non, tr_bl, tr_int, tr_tup, tr_lst, tr_own, ln_tup, ln_lst, ln_own, ln_scr, ln_str, ln_pk, tp_tup, tp_lst, tp_own, tp_pk, ls_tup, ls_lst, ls_own, ad_int, ad_str, ad_tup, ad_lst, oi_int, ob_int, ob_str, lt_int, eq_int, it_tup, it_lst, it_scr, ie_int, ie_bl, io_int, vl_dat, at_0, at_1, at_2, is_non, cl_true, rg_1, rg_2, rg_3, dCall_eq, dCallK_eq, back_ok, dCall1, dCallN, min2D, max2D, negD, putS, dFor, line_le, line_lt, and_self, and_true, List.map_cons, List.map_nil, List.length_cons, List.length_nil, List.cons_append, List.nil_append, List.getElem?_cons_zero, List.getElem?_cons_succ, List.set_cons_zero, List.set_cons_succ, Bool.true_and, Bool.and_true, Bool.false_and, Bool.and_false, if_true, if_false, Bool.not_true, Bool.not_false, Bool.false_eq_true, reduceIte, Option.bind_some, Option.map_some, valI, Nat.reduceAdd, Nat.reduceLeDiff, Nat.reduceSub, Nat.reduceLT, Nat.zero_add, List.reduceReplicate, dn_eVar, dn_eInt, dn_eBl, dn_eNon, dn_eStr, dn_eGlob, dn_mkBin, dn_mkCmp, dn_mkIn, dn_mkChain, dn_eNot, dn_bOne, dn_bAnd, dn_bOr, dn_eBool, dn_tV, dn_tNt, dn_wOne, dn_wAnd, dn_wOr, dn_tBool, dn_eIf, dn_aNil, dn_aCons, dn_eTup, dn_eLst, dn_eIx, dn_oNone, dn_oSome, dn_eSl, dn_eCall, dn_eCall0, dn_bNil, dn_bCons, dn_sSet, dn_sRet, dn_sExpr, dn_sPass, dn_sBreak, dn_sCont, dn_sIf, dn_sAsg, dn_iSeq, dn_iRange, dn_iZip, dn_sFor, dn_sWhile, dn_qNil, dn_qOne, dn_kOne, dn_kTwo, dn_sSetC, dn_mkMeth, dn_mkMeth0, dn_eTIx, dn_tTok, dn_eTok, dn_sIxSet, dn_eNeg, dn_eIsi, dn_eRev, dn_rg1, dn_rg2, dn_eLstRg, dn_eTupRg, dn_sAug, dn_sPar2, dn_kwNil, dn_kwCons, dn_eCallK, dn_eCallK0, dn_kTok, dn_sForT, dn_eC, dn_tC', dn_eK, dn_eAdd, dn_eSub, dn_eMul, dn_eFdiv, dn_eMod, dn_ePow, dn_eShl, dn_eShr, dn_eAnd2, dn_eOr2, dn_cEq, dn_cNe, dn_cLt, dn_cLe, dn_cGt, dn_cGe, dn_cLeLe, dn_eLen, dn_eTupOf, dn_eLstOf, dn_eIntOf, dn_eAbs, dn_eStrOf, dn_eAny, dn_eAll, dn_eSum, dn_eMax1, dn_eMin1, dn_eSorted, dn_eMin2, dn_eMax2, dn_mAppendE, dn_mExtendE, dn_mPopE, dn_mPopAtE, dn_mReverseE, dn_mInsertE, dn_cIs, dn_cIsNot, dn_cIn, dn_cNotIn]
  · rw [List.length_range]; omega
  · rw [List.filter_eq_self.mpr (fun _ _ => rfl), range_map]
    rfl
theorem same_loop (A B : Option Sl) (g : TkG) (m : Nat) (s : Stt TkG) (h : ∃ (xs : List D) (x y : Option Sl), smps xs = true ∧ m = szL xs ∧ szL xs ≤ 90000 ∧ s = (⟨[A, B, some (.own (xs.map prD)), x, y, none], g⟩ : Stt TkG)) : ∃ s', whileD t__law_same_1.den l__law_same_1.den s = .nx s' ∧ s'.g = g := by
  refine while_inv (t := t__law_same_1.den) (body := l__law_same_1.den) (fun m s => ∃ (xs : List D) (x y : Option Sl), smps xs = true ∧ m = szL xs ∧ szL xs ≤ 90000 ∧ s = (⟨[A, B, some (.own (xs.map prD)), x, y, none], g⟩ : Stt TkG)) (fun r => ∃ s', r = .nx s' ∧ s'.g = g) ?_ m s h
  rintro m s ⟨xs, x, y, hs, rfl, hz, rfl⟩
  rcases List.eq_nil_or_concat xs with rfl | ⟨ys, d, rfl⟩
  · refine ⟨false, ⟨[A, B, some (.own []), x, y, none], g⟩, ?_, fun _ => ⟨_, rfl, rfl⟩, (fun h => nomatch h)⟩
    simp only [t__law_same_1, runB_eq, frame0, ob_ok, ob_bad, ob_ite, fo_ok, fo_bad, fo_ite, fn_nx, fn_rt, fn_bk, fn_ct, fn_bad, fn_ite, op_some, op_none, op_ite, fz_dat, fz_own, so_dat, so_own, re_dat, re_own, endB_rt, endB_nx, endB_bad, endB_ite, dVar, dC, dBin, eD, dAnd, dOr, dTru, asB, dtAnd, dtOr, dChain, ib_bl, dCons, ho_dat, ho_own, ho_pk, sq_tup, sq_lst, sq_own, sq_pk, sk_tup, sk_lst, sk_own, sk_pk, ix_tup, ix_lst, ix_pk, sl_tup, sl_lst, sl_scr, tr_non, tr_bl, tr_int, tr_tup, tr_lst, tr_own, ln_tup, ln_lst, ln_own, ln_scr, ln_str, ln_pk, tp_tup, tp_lst, tp_own, tp_pk, ls_tup, ls_lst, ls_own, ad_int, ad_str, ad_tup, ad_lst, oi_int, ob_int, ob_str, lt_int, eq_int, it_tup, it_lst, it_scr, ie_int, ie_bl, io_int, vl_dat, at_0, at_1, at_2, is_non, cl_true, rg_1, rg_2, rg_3, dCall_eq, dCallK_eq, back_ok, dCall1, dCallN, min2D, max2D, negD, putS, dFor, line_le, line_lt, and_self, and_true, List.map_cons, List.map_nil, List.length_cons, List.length_nil, List.cons_append, List.nil_append, List.getElem?_cons_zero, List.getElem?_cons_succ, List.set_cons_zero, List.set_cons_succ, Bool.true_and, Bool.and_true, Bool.false_and, Bool.and_false, if_true, if_false, Bool.not_true, Bool.not_false, Bool.false_eq_true, reduceIte, Option.bind_some, Option.map_some, valI, Nat.reduceAdd, Nat.reduceLeDiff, Nat.reduceSub, Nat.reduceLT, Nat.zero_add, List.reduceReplicate, dn_eVar, dn_eInt, dn_eBl, dn_eNon, dn_eStr, dn_eGlob, dn_mkBin, dn_mkCmp, dn_mkIn, dn_mkChain, dn_eNot, dn_bOne, dn_bAnd, dn_bOr, dn_eBool, dn_tV, dn_tNt, dn_wOne, dn_wAnd, dn_wOr, dn_tBool, dn_eIf, dn_aNil, dn_aCons, dn_eTup, dn_eLst, dn_eIx, dn_oNone, dn_oSome, dn_eSl, dn_eCall, dn_eCall0, dn_bNil, dn_bCons, dn_sSet, dn_sRet, dn_sExpr, dn_sPass, dn_sBreak, dn_sCont, dn_sIf, dn_sAsg, dn_iSeq, dn_iRange, dn_iZip, dn_sFor, dn_sWhile, dn_qNil, dn_qOne, dn_kOne, dn_kTwo, dn_sSetC, dn_mkMeth, dn_mkMeth0, dn_eTIx, dn_tTok, dn_eTok, dn_sIxSet, dn_eNeg, dn_eIsi, dn_eRev, dn_rg1, dn_rg2, dn_eLstRg, dn_eTupRg, dn_sAug, dn_sPar2, dn_kwNil, dn_kwCons, dn_eCallK, dn_eCallK0, dn_kTok, dn_sForT, dn_eC, dn_tC', dn_eK, dn_eAdd, dn_eSub, dn_eMul, dn_eFdiv, dn_eMod, dn_ePow, dn_eShl, dn_eShr, dn_eAnd2, dn_eOr2, dn_cEq, dn_cNe, dn_cLt, dn_cLe, dn_cGt, dn_cGe, dn_cLeLe, dn_eLen, dn_eTupOf, dn_eLstOf, dn_eIntOf, dn_eAbs, dn_eStrOf, dn_eAny, dn_eAll, dn_eSum, dn_eMax1, dn_eMin1, dn_eSorted, dn_eMin2, dn_eMax2, dn_mAppendE, dn_mExtendE, dn_mPopE, dn_mPopAtE, dn_mReverseE, dn_mInsertE, dn_cIs, dn_cIsNot, dn_cIn, dn_cNotIn]
    rfl
  · rw [List.concat_eq_append] at *
    refine ⟨true, ⟨[A, B, some (.own ((ys ++ [d]).map prD)), x, y, none], g⟩, ?_, (fun h => nomatch h), fun _ => .inl ?_⟩
    · have hl : (decide ((0 : Int) < (((ys ++ [d]).map prD).length : Nat))) = true := dok (by simp only [List.length_map, List.length_append, List.length_cons]; omega)
      simp only [t__law_same_1, hl, runB_eq, frame0, ob_ok, ob_bad, ob_ite, fo_ok, fo_bad, fo_ite, fn_nx, fn_rt, fn_bk, fn_ct, fn_bad, fn_ite, op_some, op_none, op_ite, fz_dat, fz_own, so_dat, so_own, re_dat, re_own, endB_rt, endB_nx, endB_bad, endB_ite, dVar, dC, dBin, eD, dAnd, dOr, dTru, asB, dtAnd, dtOr, dChain, ib_bl, dCons, ho_dat, ho_own, ho_pk, sq_tup, sq_lst, sq_own, sq_pk, sk_tup, sk_lst, sk_own, sk_pk, ix_tup, ix_lst, ix_pk, sl_tup, sl_lst, sl_scr, tr_non, tr_bl, tr_int, tr_tup, tr_lst, tr_own, ln_tup, ln_lst, ln_own, ln_scr, ln_str, ln_pk, tp_tup, tp_lst, tp_own, tp_pk, ls_tup, ls_lst, ls_own, ad_int, ad_str, ad_tup, ad_lst, oi_int, ob_int, ob_str, lt_int, eq_int, it_tup, it_lst, it_scr, ie_int, ie_bl, io_int, vl_dat, at_0, at_1, at_2, is_non, cl_true, rg_1, rg_2, rg_3, dCall_eq, dCallK_eq, back_ok, dCall1, dCallN, min2D, max2D, negD, putS, dFor, line_le, line_lt, and_self, and_true, List.map_cons, List.map_nil, List.length_cons, List.length_nil, List.cons_append, List.nil_append, List.getElem?_cons_zero, List.getElem?_cons_succ, List.set_cons_zero, List.set_cons_succ, Bool.true_and, Bool.and_true, Bool.false_and, Bool.and_false, if_true, if_false, Bool.not_true, Bool.not_false, Bool.false_eq_true, reduceIte, Option.bind_some, Option.map_some, valI, Nat.reduceAdd, Nat.reduceLeDiff, Nat.reduceSub, Nat.reduceLT, Nat.zero_add, List.reduceReplicate, dn_eVar, dn_eInt, dn_eBl, dn_eNon, dn_eStr, dn_eGlob, dn_mkBin, dn_mkCmp, dn_mkIn, dn_mkChain, dn_eNot, dn_bOne, dn_bAnd, dn_bOr, dn_eBool, dn_tV, dn_tNt, dn_wOne, dn_wAnd, dn_wOr, dn_tBool, dn_eIf, dn_aNil, dn_aCons, dn_eTup, dn_eLst, dn_eIx, dn_oNone, dn_oSome, dn_eSl, dn_eCall, dn_eCall0, dn_bNil, dn_bCons, dn_sSet, dn_sRet, dn_sExpr, dn_sPass, dn_sBreak, dn_sCont, dn_sIf, dn_sAsg, dn_iSeq, dn_iRange, dn_iZip, dn_sFor, dn_sWhile, dn_qNil, dn_qOne, dn_kOne, dn_kTwo, dn_sSetC, dn_mkMeth, dn_mkMeth0, dn_eTIx, dn_tTok, dn_eTok, dn_sIxSet, dn_eNeg, dn_eIsi, dn_eRev, dn_rg1, dn_rg2, dn_eLstRg, dn_eTupRg, dn_sAug, dn_sPar2, dn_kwNil, dn_kwCons, dn_eCallK, dn_eCallK0, dn_kTok, dn_sForT, dn_eC, dn_tC', dn_eK, dn_eAdd, dn_eSub, dn_eMul, dn_eFdiv, dn_eMod, dn_ePow, dn_eShl, dn_eShr, dn_eAnd2, dn_eOr2, dn_cEq, dn_cNe, dn_cLt, dn_cLe, dn_cGt, dn_cGe, dn_cLeLe, dn_eLen, dn_eTupOf, dn_eLstOf, dn_eIntOf, dn_eAbs, dn_eStrOf, dn_eAny, dn_eAll, dn_eSum, dn_eMax1, dn_eMin1, dn_eSorted, dn_eMin2, dn_eMax2, dn_mAppendE, dn_mExtendE, dn_mPopE, dn_mPopAtE, dn_mReverseE, dn_mInsertE, dn_cIs, dn_cIsNot, dn_cIn, dn_cNotIn]
    · have hp : mPop [] ((ys ++ [d]).map prD) = some (ys.map prD, prD d) := by
        have e : mPop [] ((ys ++ [d]).map prD) = ((((ys ++ [d]).map prD)[((ys ++ [d]).map prD).length - 1]?).map fun d' => (((ys ++ [d]).map prD).dropLast, d')) := rfl
        rw [e, List.map_append, List.map_singleton, List.dropLast_concat]
        simp
      rw [smps_app] at hs
      simp only [smps, Bool.and_eq_true, and_true] at hs
      rw [szL_app] at hz ⊢
      simp only [szL, Nat.add_zero] at hz ⊢
      have hy := szL_len ys
      cases d with
      | non =>
        refine ⟨_, szL ys, .inl ?_, by simp only [szB]; omega, ys, some (.dat .non), some (.dat .non), hs.1, rfl, by omega, rfl⟩
        simp only [l__law_same_1, dMut, mv_pk, hp, isNon, runB_eq, frame0, ob_ok, ob_bad, ob_ite, fo_ok, fo_bad, fo_ite, fn_nx, fn_rt, fn_bk, fn_ct, fn_bad, fn_ite, op_some, op_none, op_ite, fz_dat, fz_own, so_dat, so_own, re_dat, re_own, endB_rt, endB_nx, endB_bad, endB_ite, dVar, dC, dBin, eD, dAnd, dOr, dTru, asB, dtAnd, dtOr, dChain, ib_bl, dCons, ho_dat, ho_own, ho_pk, sq_tup, sq_lst, sq_own, sq_pk, sk_tup, sk_lst, sk_own, sk_pk, ix_tup, ix_lst, ix_pk, sl_tup, sl_lst, sl_scr, tr_non, tr_bl, tr_int, tr_tup, tr_lst, tr_own, ln_tup, ln_lst, ln_own, ln_scr, ln_str, ln_pk, tp_tup, tp_lst, tp_own, tp_pk, ls_tup, ls_lst, ls_own, ad_int, ad_str, ad_tup, ad_lst, oi_int, ob_int, ob_str, lt_int, eq_int, it_tup, it_lst, it_scr, ie_int, ie_bl, io_int, vl_dat, at_0, at_1, at_2, is_non, cl_true, rg_1, rg_2, rg_3, dCall_eq, dCallK_eq, back_ok, dCall1, dCallN, min2D, max2D, negD, putS, dFor, line_le, line_lt, and_self, and_true, List.map_cons, List.map_nil, List.length_cons, List.length_nil, List.cons_append, List.nil_append, List.getElem?_cons_zero, List.getElem?_cons_succ, List.set_cons_zero, List.set_cons_succ, Bool.true_and, Bool.and_true, Bool.false_and, Bool.and_false, if_true, if_false, Bool.not_true, Bool.not_false, Bool.false_eq_true, reduceIte, Option.bind_some, Option.map_some, valI, Nat.reduceAdd, Nat.reduceLeDiff, Nat.reduceSub, Nat.reduceLT, Nat.zero_add, List.reduceReplicate, dn_eVar, dn_eInt, dn_eBl, dn_eNon, dn_eStr, dn_eGlob, dn_mkBin, dn_mkCmp, dn_mkIn, dn_mkChain, dn_eNot, dn_bOne, dn_bAnd, dn_bOr, dn_eBool, dn_tV, dn_tNt, dn_wOne, dn_wAnd, dn_wOr, dn_tBool, dn_eIf, dn_aNil, dn_aCons, dn_eTup, dn_eLst, dn_eIx, dn_oNone, dn_oSome, dn_eSl, dn_eCall, dn_eCall0, dn_bNil, dn_bCons, dn_sSet, dn_sRet, dn_sExpr, dn_sPass, dn_sBreak, dn_sCont, dn_sIf, dn_sAsg, dn_iSeq, dn_iRange, dn_iZip, dn_sFor, dn_sWhile, dn_qNil, dn_qOne, dn_kOne, dn_kTwo, dn_sSetC, dn_mkMeth, dn_mkMeth0, dn_eTIx, dn_tTok, dn_eTok, dn_sIxSet, dn_eNeg, dn_eIsi, dn_eRev, dn_rg1, dn_rg2, dn_eLstRg, dn_eTupRg, dn_sAug, dn_sPar2, dn_kwNil, dn_kwCons, dn_eCallK, dn_eCallK0, dn_kTok, dn_sForT, dn_eC, dn_tC', dn_eK, dn_eAdd, dn_eSub, dn_eMul, dn_eFdiv, dn_eMod, dn_ePow, dn_eShl, dn_eShr, dn_eAnd2, dn_eOr2, dn_cEq, dn_cNe, dn_cLt, dn_cLe, dn_cGt, dn_cGe, dn_cLeLe, dn_eLen, dn_eTupOf, dn_eLstOf, dn_eIntOf, dn_eAbs, dn_eStrOf, dn_eAny, dn_eAll, dn_eSum, dn_eMax1, dn_eMin1, dn_eSorted, dn_eMin2, dn_eMax2, dn_mAppendE, dn_mExtendE, dn_mPopE, dn_mPopAtE, dn_mReverseE, dn_mInsertE, dn_cIs, dn_cIsNot, dn_cIn, dn_cNotIn, dn_gN, dn_gT, dn_gsNil, dn_gsCons]
      | bl b =>
        refine ⟨_, szL ys, .inl ?_, by simp only [szB]; omega, ys, some (.dat (.bl b)), some (.dat (.bl b)), hs.1, rfl, by omega, rfl⟩
        simp only [l__law_same_1, dMut, mv_pk, hp, isNon, ne_bl, isi_bool_bl, isi_bool_int, isi_bool_str, isi_bool_tup, isi_int_bl, isi_int_int, isi_int_str, isi_int_tup, isi_str_bl, isi_str_int, isi_str_str, isi_str_tup, isi_tuple_bl, isi_tuple_int, isi_tuple_str, isi_tuple_tup, runB_eq, frame0, ob_ok, ob_bad, ob_ite, fo_ok, fo_bad, fo_ite, fn_nx, fn_rt, fn_bk, fn_ct, fn_bad, fn_ite, op_some, op_none, op_ite, fz_dat, fz_own, so_dat, so_own, re_dat, re_own, endB_rt, endB_nx, endB_bad, endB_ite, dVar, dC, dBin, eD, dAnd, dOr, dTru, asB, dtAnd, dtOr, dChain, ib_bl, dCons, ho_dat, ho_own, ho_pk, sq_tup, sq_lst, sq_own, sq_pk, sk_tup, sk_lst, sk_own, sk_pk, ix_tup, ix_lst, ix_pk, sl_tup, sl_lst, sl_scr, tr_non, tr_bl, tr_int, tr_tup, tr_lst, tr_own, ln_tup, ln_lst, ln_own, ln_scr, ln_str, ln_pk, tp_tup, tp_lst, tp_own, tp_pk, ls_tup, ls_lst, ls_own, ad_int, ad_str, ad_tup, ad_lst, oi_int, ob_int, ob_str, lt_int, eq_int, it_tup, it_lst, it_scr, ie_int, ie_bl, io_int, vl_dat, at_0, at_1, at_2, is_non, cl_true, rg_1, rg_2, rg_3, dCall_eq, dCallK_eq, back_ok, dCall1, dCallN, min2D, max2D, negD, putS, dFor, line_le, line_lt, and_self, and_true, List.map_cons, List.map_nil, List.length_cons, List.length_nil, List.cons_append, List.nil_append, List.getElem?_cons_zero, List.getElem?_cons_succ, List.set_cons_zero, List.set_cons_succ, Bool.true_and, Bool.and_true, Bool.false_and, Bool.and_false, if_true, if_false, Bool.not_true, Bool.not_false, Bool.false_eq_true, reduceIte, Option.bind_some, Option.map_some, valI, Nat.reduceAdd, Nat.reduceLeDiff, Nat.reduceSub, Nat.reduceLT, Nat.zero_add, List.reduceReplicate, dn_eVar, dn_eInt, dn_eBl, dn_eNon, dn_eStr, dn_eGlob, dn_mkBin, dn_mkCmp, dn_mkIn, dn_mkChain, dn_eNot, dn_bOne, dn_bAnd, dn_bOr, dn_eBool, dn_tV, dn_tNt, dn_wOne, dn_wAnd, dn_wOr, dn_tBool, dn_eIf, dn_aNil, dn_aCons, dn_eTup, dn_eLst, dn_eIx, dn_oNone, dn_oSome, dn_eSl, dn_eCall, dn_eCall0, dn_bNil, dn_bCons, dn_sSet, dn_sRet, dn_sExpr, dn_sPass, dn_sBreak, dn_sCont, dn_sIf, dn_sAsg, dn_iSeq, dn_iRange, dn_iZip, dn_sFor, dn_sWhile, dn_qNil, dn_qOne, dn_kOne, dn_kTwo, dn_sSetC, dn_mkMeth, dn_mkMeth0, dn_eTIx, dn_tTok, dn_eTok, dn_sIxSet, dn_eNeg, dn_eIsi, dn_eRev, dn_rg1, dn_rg2, dn_eLstRg, dn_eTupRg, dn_sAug, dn_sPar2, dn_kwNil, dn_kwCons, dn_eCallK, dn_eCallK0, dn_kTok, dn_sForT, dn_eC, dn_tC', dn_eK, dn_eAdd, dn_eSub, dn_eMul, dn_eFdiv, dn_eMod, dn_ePow, dn_eShl, dn_eShr, dn_eAnd2, dn_eOr2, dn_cEq, dn_cNe, dn_cLt, dn_cLe, dn_cGt, dn_cGe, dn_cLeLe, dn_eLen, dn_eTupOf, dn_eLstOf, dn_eIntOf, dn_eAbs, dn_eStrOf, dn_eAny, dn_eAll, dn_eSum, dn_eMax1, dn_eMin1, dn_eSorted, dn_eMin2, dn_eMax2, dn_mAppendE, dn_mExtendE, dn_mPopE, dn_mPopAtE, dn_mReverseE, dn_mInsertE, dn_cIs, dn_cIsNot, dn_cIn, dn_cNotIn, dn_gN, dn_gT, dn_gsNil, dn_gsCons]
      | int i =>
        refine ⟨_, szL ys, .inl ?_, by simp only [szB]; omega, ys, some (.dat (.int i)), some (.dat (.int i)), hs.1, rfl, by omega, rfl⟩
        simp only [l__law_same_1, dMut, mv_pk, hp, isNon, ne_int, isi_bool_bl, isi_bool_int, isi_bool_str, isi_bool_tup, isi_int_bl, isi_int_int, isi_int_str, isi_int_tup, isi_str_bl, isi_str_int, isi_str_str, isi_str_tup, isi_tuple_bl, isi_tuple_int, isi_tuple_str, isi_tuple_tup, runB_eq, frame0, ob_ok, ob_bad, ob_ite, fo_ok, fo_bad, fo_ite, fn_nx, fn_rt, fn_bk, fn_ct, fn_bad, fn_ite, op_some, op_none, op_ite, fz_dat, fz_own, so_dat, so_own, re_dat, re_own, endB_rt, endB_nx, endB_bad, endB_ite, dVar, dC, dBin, eD, dAnd, dOr, dTru, asB, dtAnd, dtOr, dChain, ib_bl, dCons, ho_dat, ho_own, ho_pk, sq_tup, sq_lst, sq_own, sq_pk, sk_tup, sk_lst, sk_own, sk_pk, ix_tup, ix_lst, ix_pk, sl_tup, sl_lst, sl_scr, tr_non, tr_bl, tr_int, tr_tup, tr_lst, tr_own, ln_tup, ln_lst, ln_own, ln_scr, ln_str, ln_pk, tp_tup, tp_lst, tp_own, tp_pk, ls_tup, ls_lst, ls_own, ad_int, ad_str, ad_tup, ad_lst, oi_int, ob_int, ob_str, lt_int, eq_int, it_tup, it_lst, it_scr, ie_int, ie_bl, io_int, vl_dat, at_0, at_1, at_2, is_non, cl_true, rg_1, rg_2, rg_3, dCall_eq, dCallK_eq, back_ok, dCall1, dCallN, min2D, max2D, negD, putS, dFor, line_le, line_lt, and_self, and_true, List.map_cons, List.map_nil, List.length_cons, List.length_nil, List.cons_append, List.nil_append, List.getElem?_cons_zero, List.getElem?_cons_succ, List.set_cons_zero, List.set_cons_succ, Bool.true_and, Bool.and_true, Bool.false_and, Bool.and_false, if_true, if_false, Bool.not_true, Bool.not_false, Bool.false_eq_true, reduceIte, Option.bind_some, Option.map_some, valI, Nat.reduceAdd, Nat.reduceLeDiff, Nat.reduceSub, Nat.reduceLT, Nat.zero_add, List.reduceReplicate, dn_eVar, dn_eInt, dn_eBl, dn_eNon, dn_eStr, dn_eGlob, dn_mkBin, dn_mkCmp, dn_mkIn, dn_mkChain, dn_eNot, dn_bOne, dn_bAnd, dn_bOr, dn_eBool, dn_tV, dn_tNt, dn_wOne, dn_wAnd, dn_wOr, dn_tBool, dn_eIf, dn_aNil, dn_aCons, dn_eTup, dn_eLst, dn_eIx, dn_oNone, dn_oSome, dn_eSl, dn_eCall, dn_eCall0, dn_bNil, dn_bCons, dn_sSet, dn_sRet, dn_sExpr, dn_sPass, dn_sBreak, dn_sCont, dn_sIf, dn_sAsg, dn_iSeq, dn_iRange, dn_iZip, dn_sFor, dn_sWhile, dn_qNil, dn_qOne, dn_kOne, dn_kTwo, dn_sSetC, dn_mkMeth, dn_mkMeth0, dn_eTIx, dn_tTok, dn_eTok, dn_sIxSet, dn_eNeg, dn_eIsi, dn_eRev, dn_rg1, dn_rg2, dn_eLstRg, dn_eTupRg, dn_sAug, dn_sPar2, dn_kwNil, dn_kwCons, dn_eCallK, dn_eCallK0, dn_kTok, dn_sForT, dn_eC, dn_tC', dn_eK, dn_eAdd, dn_eSub, dn_eMul, dn_eFdiv, dn_eMod, dn_ePow, dn_eShl, dn_eShr, dn_eAnd2, dn_eOr2, dn_cEq, dn_cNe, dn_cLt, dn_cLe, dn_cGt, dn_cGe, dn_cLeLe, dn_eLen, dn_eTupOf, dn_eLstOf, dn_eIntOf, dn_eAbs, dn_eStrOf, dn_eAny, dn_eAll, dn_eSum, dn_eMax1, dn_eMin1, dn_eSorted, dn_eMin2, dn_eMax2, dn_mAppendE, dn_mExtendE, dn_mPopE, dn_mPopAtE, dn_mReverseE, dn_mInsertE, dn_cIs, dn_cIsNot, dn_cIn, dn_cNotIn, dn_gN, dn_gT, dn_gsNil, dn_gsCons]
      | str i =>
        refine ⟨_, szL ys, .inl ?_, by simp only [szB]; omega, ys, some (.dat (.str i)), some (.dat (.str i)), hs.1, rfl, by omega, rfl⟩
        simp only [l__law_same_1, dMut, mv_pk, hp, isNon, ne_str, isi_bool_bl, isi_bool_int, isi_bool_str, isi_bool_tup, isi_int_bl, isi_int_int, isi_int_str, isi_int_tup, isi_str_bl, isi_str_int, isi_str_str, isi_str_tup, isi_tuple_bl, isi_tuple_int, isi_tuple_str, isi_tuple_tup, runB_eq, frame0, ob_ok, ob_bad, ob_ite, fo_ok, fo_bad, fo_ite, fn_nx, fn_rt, fn_bk, fn_ct, fn_bad, fn_ite, op_some, op_none, op_ite, fz_dat, fz_own, so_dat, so_own, re_dat, re_own, endB_rt, endB_nx, endB_bad, endB_ite, dVar, dC, dBin, eD, dAnd, dOr, dTru, asB, dtAnd, dtOr, dChain, ib_bl, dCons, ho_dat, ho_own, ho_pk, sq_tup, sq_lst, sq_own, sq_pk, sk_tup, sk_lst, sk_own, sk_pk, ix_tup, ix_lst, ix_pk, sl_tup, sl_lst, sl_scr, tr_non, tr_bl, tr_int, tr_tup, tr_lst, tr_own, ln_tup, ln_lst, ln_own, ln_scr, ln_str, ln_pk, tp_tup, tp_lst, tp_own, tp_pk, ls_tup, ls_lst, ls_own, ad_int, ad_str, ad_tup, ad_lst, oi_int, ob_int, ob_str, lt_int, eq_int, it_tup, it_lst, it_scr, ie_int, ie_bl, io_int, vl_dat, at_0, at_1, at_2, is_non, cl_true, rg_1, rg_2, rg_3, dCall_eq, dCallK_eq, back_ok, dCall1, dCallN, min2D, max2D, negD, putS, dFor, line_le, line_lt, and_self, and_true, List.map_cons, List.map_nil, List.length_cons, List.length_nil, List.cons_append, List.nil_append, List.getElem?_cons_zero, List.getElem?_cons_succ, List.set_cons_zero, List.set_cons_succ, Bool.true_and, Bool.and_true, Bool.false_and, Bool.and_false, if_true, if_false, Bool.not_true, Bool.not_false, Bool.false_eq_true, reduceIte, Option.bind_some, Option.map_some, valI, Nat.reduceAdd, Nat.reduceLeDiff, Nat.reduceSub, Nat.reduceLT, Nat.zero_add, List.reduceReplicate, dn_eVar, dn_eInt, dn_eBl, dn_eNon, dn_eStr, dn_eGlob, dn_mkBin, dn_mkCmp, dn_mkIn, dn_mkChain, dn_eNot, dn_bOne, dn_bAnd, dn_bOr, dn_eBool, dn_tV, dn_tNt, dn_wOne, dn_wAnd, dn_wOr, dn_tBool, dn_eIf, dn_aNil, dn_aCons, dn_eTup, dn_eLst, dn_eIx, dn_oNone, dn_oSome, dn_eSl, dn_eCall, dn_eCall0, dn_bNil, dn_bCons, dn_sSet, dn_sRet, dn_sExpr, dn_sPass, dn_sBreak, dn_sCont, dn_sIf, dn_sAsg, dn_iSeq, dn_iRange, dn_iZip, dn_sFor, dn_sWhile, dn_qNil, dn_qOne, dn_kOne, dn_kTwo, dn_sSetC, dn_mkMeth, dn_mkMeth0, dn_eTIx, dn_tTok, dn_eTok, dn_sIxSet, dn_eNeg, dn_eIsi, dn_eRev, dn_rg1, dn_rg2, dn_eLstRg, dn_eTupRg, dn_sAug, dn_sPar2, dn_kwNil, dn_kwCons, dn_eCallK, dn_eCallK0, dn_kTok, dn_sForT, dn_eC, dn_tC', dn_eK, dn_eAdd, dn_eSub, dn_eMul, dn_eFdiv, dn_eMod, dn_ePow, dn_eShl, dn_eShr, dn_eAnd2, dn_eOr2, dn_cEq, dn_cNe, dn_cLt, dn_cLe, dn_cGt, dn_cGe, dn_cLeLe, dn_eLen, dn_eTupOf, dn_eLstOf, dn_eIntOf, dn_eAbs, dn_eStrOf, dn_eAny, dn_eAll, dn_eSum, dn_eMax1, dn_eMin1, dn_eSorted, dn_eMin2, dn_eMax2, dn_mAppendE, dn_mExtendE, dn_mPopE, dn_mPopAtE, dn_mReverseE, dn_mInsertE, dn_cIs, dn_cIsNot, dn_cIn, dn_cNotIn, dn_gN, dn_gT, dn_gsNil, dn_gsCons]
      | tup zs =>
        simp only [szB] at hz ⊢
        have hzl := szL_len zs
        have ek := same_k A B (some (.own (ys.map prD))) g zs (by omega)
        have hlen : (ys.map prD).length + (zs.map prD).length ≤ 100000 := by rw [List.length_map, List.length_map]; omega
        refine ⟨⟨[A, B, some (.own ((ys ++ zs).map prD)), some (.dat (.tup zs)), some (.dat (.tup zs)), none], g⟩, szL (ys ++ zs), .inl ?_, by rw [szL_app]; omega, ys ++ zs, some (.dat (.tup zs)), some (.dat (.tup zs)), by rw [smps_app, hs.1]; exact hs.2, rfl, by rw [szL_app]; omega, rfl⟩
        simp only [l__law_same_1, dMut, mv_pk, hp, isNon, ne_int, isi_bool_bl, isi_bool_int, isi_bool_str, isi_bool_tup, isi_int_bl, isi_int_int, isi_int_str, isi_int_tup, isi_str_bl, isi_str_int, isi_str_str, isi_str_tup, isi_tuple_bl, isi_tuple_int, isi_tuple_str, isi_tuple_tup, ek, mExtend, hlen, runB_eq, frame0, ob_ok, ob_bad, ob_ite, fo_ok, fo_bad, fo_ite, fn_nx, fn_rt, fn_bk, fn_ct, fn_bad, fn_ite, op_some, op_none, op_ite, fz_dat, fz_own, so_dat, so_own, re_dat, re_own, endB_rt, endB_nx, endB_bad, endB_ite, dVar, dC, dBin, eD, dAnd, dOr, dTru, asB, dtAnd, dtOr, dChain, ib_bl, dCons, ho_dat, ho_own, ho_pk, sq_tup, sq_lst, sq_own, sq_pk, sk_tup, sk_lst, sk_own, sk_pk, ix_tup, ix_lst, ix_pk, sl_tup, sl_lst, sl_scr, tr_non, tr_bl, tr_int, tr_tup, tr_lst, tr_own, ln_tup, ln_lst, ln_own, ln_scr, ln_str, ln_pk, tp_tup, tp_lst, tp_own, tp_pk, ls_tup, ls_lst, ls_own, ad_int, ad_str, ad_tup, ad_lst, oi_int, ob_int, ob_str, lt_int, eq_int, it_tup, it_lst, it_scr, ie_int, ie_bl, io_int, vl_dat, at_0, at_1, at_2, is_non, cl_true, rg_1, rg_2, rg_3, dCall_eq, dCallK_eq, back_ok, dCall1, dCallN, min2D, max2D, negD, putS, dFor, line_le, line_lt, and_self, and_true, List.map_cons, List.map_nil, List.length_cons, List.length_nil, List.cons_append, List.nil_append, List.getElem?_cons_zero, List.getElem?_cons_succ, List.set_cons_zero, List.set_cons_succ, Bool.true_and, Bool.and_true, Bool.false_and, Bool.and_false, if_true, if_false, Bool.not_true, Bool.not_false, Bool.false_eq_true, reduceIte, Option.bind_some, Option.map_some, valI, Nat.reduceAdd, Nat.reduceLeDiff, Nat.reduceSub, Nat.reduceLT, Nat.zero_add, List.reduceReplicate, dn_eVar, dn_eInt, dn_eBl, dn_eNon, dn_eStr, dn_eGlob, dn_mkBin, dn_mkCmp, dn_mkIn, dn_mkChain, dn_eNot, dn_bOne, dn_bAnd, dn_bOr, dn_eBool, dn_tV, dn_tNt, dn_wOne, dn_wAnd, dn_wOr, dn_tBool, dn_eIf, dn_aNil, dn_aCons, dn_eTup, dn_eLst, dn_eIx, dn_oNone, dn_oSome, dn_eSl, dn_eCall, dn_eCall0, dn_bNil, dn_bCons, dn_sSet, dn_sRet, dn_sExpr, dn_sPass, dn_sBreak, dn_sCont, dn_sIf, dn_sAsg, dn_iSeq, dn_iRange, dn_iZip, dn_sFor, dn_sWhile, dn_qNil, dn_qOne, dn_kOne, dn_kTwo, dn_sSetC, dn_mkMeth, dn_mkMeth0, dn_eTIx, dn_tTok, dn_eTok, dn_sIxSet, dn_eNeg, dn_eIsi, dn_eRev, dn_rg1, dn_rg2, dn_eLstRg, dn_eTupRg, dn_sAug, dn_sPar2, dn_kwNil, dn_kwCons, dn_eCallK, dn_eCallK0, dn_kTok, dn_sForT, dn_eC, dn_tC', dn_eK, dn_eAdd, dn_eSub, dn_eMul, dn_eFdiv, dn_eMod, dn_ePow, dn_eShl, dn_eShr, dn_eAnd2, dn_eOr2, dn_cEq, dn_cNe, dn_cLt, dn_cLe, dn_cGt, dn_cGe, dn_cLeLe, dn_eLen, dn_eTupOf, dn_eLstOf, dn_eIntOf, dn_eAbs, dn_eStrOf, dn_eAny, dn_eAll, dn_eSum, dn_eMax1, dn_eMin1, dn_eSorted, dn_eMin2, dn_eMax2, dn_mAppendE, dn_mExtendE, dn_mPopE, dn_mPopAtE, dn_mReverseE, dn_mInsertE, dn_cIs, dn_cIsNot, dn_cIn, dn_cNotIn, dn_gN, dn_gT, dn_gsNil, dn_gsCons]
        rw [List.map_append]
      | _ => exact absurd hs.2 (by simp [smp])
theorem same_eq (d : D) (hs : smp d = true) (hz : szB d ≤ 90000) (g : TkG) : F__law_same [d, d] g = .ok (.dat (.bl true)) g := by
  simp only [F__law_same, b__law_same, runB_eq, frame0, ob_ok, ob_bad, ob_ite, fo_ok, fo_bad, fo_ite, fn_nx, fn_rt, fn_bk, fn_ct, fn_bad, fn_ite, op_some, op_none, op_ite, fz_dat, fz_own, so_dat, so_own, re_dat, re_own, endB_rt, endB_nx, endB_bad, endB_ite, dVar, dC, dBin, eD, dAnd, dOr, dTru, asB, dtAnd, dtOr, dChain, ib_bl, dCons, ho_dat, ho_own, ho_pk, sq_tup, sq_lst, sq_own, sq_pk, sk_tup, sk_lst, sk_own, sk_pk, ix_tup, ix_lst, ix_pk, sl_tup, sl_lst, sl_scr, tr_non, tr_bl, tr_int, tr_tup, tr_lst, tr_own, ln_tup, ln_lst, ln_own, ln_scr, ln_str, ln_pk, tp_tup, tp_lst, tp_own, tp_pk, ls_tup, ls_lst, ls_own, ad_int, ad_str, ad_tup, ad_lst, oi_int, ob_int, ob_str, lt_int, eq_int, it_tup, it_lst, it_scr, ie_int, ie_bl, io_int, vl_dat, at_0, at_1, at_2, is_non, cl_true, rg_1, rg_2, rg_3, dCall_eq, dCallK_eq, back_ok, dCall1, dCallN, min2D, max2D, negD, putS, dFor, line_le, line_lt, and_self, and_true, List.map_cons, List.map_nil, List.length_cons, List.length_nil, List.cons_append, List.nil_append, List.getElem?_cons_zero, List.getElem?_cons_succ, List.set_cons_zero, List.set_cons_succ, Bool.true_and, Bool.and_true, Bool.false_and, Bool.and_false, if_true, if_false, Bool.not_true, Bool.not_false, Bool.false_eq_true, reduceIte, Option.bind_some, Option.map_some, valI, Nat.reduceAdd, Nat.reduceLeDiff, Nat.reduceSub, Nat.reduceLT, Nat.zero_add, List.reduceReplicate, dn_eVar, dn_eInt, dn_eBl, dn_eNon, dn_eStr, dn_eGlob, dn_mkBin, dn_mkCmp, dn_mkIn, dn_mkChain, dn_eNot, dn_bOne, dn_bAnd, dn_bOr, dn_eBool, dn_tV, dn_tNt, dn_wOne, dn_wAnd, dn_wOr, dn_tBool, dn_eIf, dn_aNil, dn_aCons, dn_eTup, dn_eLst, dn_eIx, dn_oNone, dn_oSome, dn_eSl, dn_eCall, dn_eCall0, dn_bNil, dn_bCons, dn_sSet, dn_sRet, dn_sExpr, dn_sPass, dn_sBreak, dn_sCont, dn_sIf, dn_sAsg, dn_iSeq, dn_iRange, dn_iZip, dn_sFor, dn_sWhile, dn_qNil, dn_qOne, dn_kOne, dn_kTwo, dn_sSetC, dn_mkMeth, dn_mkMeth0, dn_eTIx, dn_tTok, dn_eTok, dn_sIxSet, dn_eNeg, dn_eIsi, dn_eRev, dn_rg1, dn_rg2, dn_eLstRg, dn_eTupRg, dn_sAug, dn_sPar2, dn_kwNil, dn_kwCons, dn_eCallK, dn_eCallK0, dn_kTok, dn_sForT, dn_eC, dn_tC', dn_eK, dn_eAdd, dn_eSub, dn_eMul, dn_eFdiv, dn_eMod, dn_ePow, dn_eShl, dn_eShr, dn_eAnd2, dn_eOr2, dn_cEq, dn_cNe, dn_cLt, dn_cLe, dn_cGt, dn_cGe, dn_cLeLe, dn_eLen, dn_eTupOf, dn_eLstOf, dn_eIntOf, dn_eAbs, dn_eStrOf, dn_eAny, dn_eAll, dn_eSum, dn_eMax1, dn_eMin1, dn_eSorted, dn_eMin2, dn_eMax2, dn_mAppendE, dn_mExtendE, dn_mPopE, dn_mPopAtE, dn_mReverseE, dn_mInsertE, dn_cIs, dn_cIsNot, dn_cIn, dn_cNotIn]
  obtain ⟨s', e, hg⟩ := same_loop (some (.dat d)) (some (.dat d)) g (szL [d]) ⟨[some (.dat d), some (.dat d), some (.own [.tup [d, d]]), none, none, none], g⟩ ⟨[d], none, none, by rw [smps, smps, hs]; rfl, rfl, by simp only [szL]; omega, rfl⟩
  rw [e]
  simp only [hg, runB_eq, frame0, ob_ok, ob_bad, ob_ite, fo_ok, fo_bad, fo_ite, fn_nx, fn_rt, fn_bk, fn_ct, fn_bad, fn_ite, op_some, op_none, op_ite, fz_dat, fz_own, so_dat, so_own, re_dat, re_own, endB_rt, endB_nx, endB_bad, endB_ite, dVar, dC, dBin, eD, dAnd, dOr, dTru, asB, dtAnd, dtOr, dChain, ib_bl, dCons, ho_dat, ho_own, ho_pk, sq_tup, sq_lst, sq_own, sq_pk, sk_tup, sk_lst, sk_own, sk_pk, ix_tup, ix_lst, ix_pk, sl_tup, sl_lst, sl_scr, tr_non, tr_bl, tr_int, tr_tup, tr_lst, tr_own, ln_tup, ln_lst, ln_own, ln_scr, ln_str, ln_pk, tp_tup, tp_lst, tp_own, tp_pk, ls_tup, ls_lst, ls_own, ad_int, ad_str, ad_tup, ad_lst, oi_int, ob_int, ob_str, lt_int, eq_int, it_tup, it_lst, it_scr, ie_int, ie_bl, io_int, vl_dat, at_0, at_1, at_2, is_non, cl_true, rg_1, rg_2, rg_3, dCall_eq, dCallK_eq, back_ok, dCall1, dCallN, min2D, max2D, negD, putS, dFor, line_le, line_lt, and_self, and_true, List.map_cons, List.map_nil, List.length_cons, List.length_nil, List.cons_append, List.nil_append, List.getElem?_cons_zero, List.getElem?_cons_succ, List.set_cons_zero, List.set_cons_succ, Bool.true_and, Bool.and_true, Bool.false_and, Bool.and_false, if_true, if_false, Bool.not_true, Bool.not_false, Bool.false_eq_true, reduceIte, Option.bind_some, Option.map_some, valI, Nat.reduceAdd, Nat.reduceLeDiff, Nat.reduceSub, Nat.reduceLT, Nat.zero_add, List.reduceReplicate, dn_eVar, dn_eInt, dn_eBl, dn_eNon, dn_eStr, dn_eGlob, dn_mkBin, dn_mkCmp, dn_mkIn, dn_mkChain, dn_eNot, dn_bOne, dn_bAnd, dn_bOr, dn_eBool, dn_tV, dn_tNt, dn_wOne, dn_wAnd, dn_wOr, dn_tBool, dn_eIf, dn_aNil, dn_aCons, dn_eTup, dn_eLst, dn_eIx, dn_oNone, dn_oSome, dn_eSl, dn_eCall, dn_eCall0, dn_bNil, dn_bCons, dn_sSet, dn_sRet, dn_sExpr, dn_sPass, dn_sBreak, dn_sCont, dn_sIf, dn_sAsg, dn_iSeq, dn_iRange, dn_iZip, dn_sFor, dn_sWhile, dn_qNil, dn_qOne, dn_kOne, dn_kTwo, dn_sSetC, dn_mkMeth, dn_mkMeth0, dn_eTIx, dn_tTok, dn_eTok, dn_sIxSet, dn_eNeg, dn_eIsi, dn_eRev, dn_rg1, dn_rg2, dn_eLstRg, dn_eTupRg, dn_sAug, dn_sPar2, dn_kwNil, dn_kwCons, dn_eCallK, dn_eCallK0, dn_kTok, dn_sForT, dn_eC, dn_tC', dn_eK, dn_eAdd, dn_eSub, dn_eMul, dn_eFdiv, dn_eMod, dn_ePow, dn_eShl, dn_eShr, dn_eAnd2, dn_eOr2, dn_cEq, dn_cNe, dn_cLt, dn_cLe, dn_cGt, dn_cGe, dn_cLeLe, dn_eLen, dn_eTupOf, dn_eLstOf, dn_eIntOf, dn_eAbs, dn_eStrOf, dn_eAny, dn_eAll, dn_eSum, dn_eMax1, dn_eMin1, dn_eSorted, dn_eMin2, dn_eMax2, dn_mAppendE, dn_mExtendE, dn_mPopE, dn_mPopAtE, dn_mReverseE, dn_mInsertE, dn_cIs, dn_cIsNot, dn_cIn, dn_cNotIn]
end K38

namespace K38
open PySem PySem.Spec RB
theorem LOK.mono {n m : Nat} {g : TkG} (h : LOK n g) (hm : n ≤ m) : LOK m g := by
  obtain ⟨ys, t, st, e, h1, h2, h3⟩ := h
  exact ⟨ys, t, st, e, by omega, h2, h3⟩
def bagS : List Str := ["a", "b", "c", "hour", "kind", "old", "x1", "zeta", "n", "m9", "on", "off", "bill", "note", "plan", "no", "yes", "k", "q2", "aaaaaaaa", "z", "w0", "far", "done7", "h", "t"]
theorem bag_eq (g : TkG) : F__law_bag [] g = .ok (.own (bagS.map .str)) g := by
  simp only [F__law_bag, b__law_bag, runB_eq, frame0, ob_ok, ob_bad, ob_ite, fo_ok, fo_bad, fo_ite, fn_nx, fn_rt, fn_bk, fn_ct, fn_bad, fn_ite, op_some, op_none, op_ite, fz_dat, fz_own, so_dat, so_own, re_dat, re_own, endB_rt, endB_nx, endB_bad, endB_ite, dVar, dC, dBin, eD, dAnd, dOr, dTru, asB, dtAnd, dtOr, dChain, ib_bl, dCons, ho_dat, ho_own, ho_pk, sq_tup, sq_lst, sq_own, sq_pk, sk_tup, sk_lst, sk_own, sk_pk, ix_tup, ix_lst, ix_pk, sl_tup, sl_lst, sl_scr, tr_non, tr_bl, tr_int, tr_tup, tr_lst, tr_own, ln_tup, ln_lst, ln_own, ln_scr, ln_str, ln_pk, tp_tup, tp_lst, tp_own, tp_pk, ls_tup, ls_lst, ls_own, ad_int, ad_str, ad_tup, ad_lst, oi_int, ob_int, ob_str, lt_int, eq_int, it_tup, it_lst, it_scr, ie_int, ie_bl, io_int, vl_dat, at_0, at_1, at_2, is_non, cl_true, rg_1, rg_2, rg_3, dCall_eq, dCallK_eq, back_ok, dCall1, dCallN, min2D, max2D, negD, putS, dFor, line_le, line_lt, and_self, and_true, List.map_cons, List.map_nil, List.length_cons, List.length_nil, List.cons_append, List.nil_append, List.getElem?_cons_zero, List.getElem?_cons_succ, List.set_cons_zero, List.set_cons_succ, Bool.true_and, Bool.and_true, Bool.false_and, Bool.and_false, if_true, if_false, Bool.not_true, Bool.not_false, Bool.false_eq_true, reduceIte, Option.bind_some, Option.map_some, valI, Nat.reduceAdd, Nat.reduceLeDiff, Nat.reduceSub, Nat.reduceLT, Nat.zero_add, List.reduceReplicate, dn_eVar, dn_eInt, dn_eBl, dn_eNon, dn_eStr, dn_eGlob, dn_mkBin, dn_mkCmp, dn_mkIn, dn_mkChain, dn_eNot, dn_bOne, dn_bAnd, dn_bOr, dn_eBool, dn_tV, dn_tNt, dn_wOne, dn_wAnd, dn_wOr, dn_tBool, dn_eIf, dn_aNil, dn_aCons, dn_eTup, dn_eLst, dn_eIx, dn_oNone, dn_oSome, dn_eSl, dn_eCall, dn_eCall0, dn_bNil, dn_bCons, dn_sSet, dn_sRet, dn_sExpr, dn_sPass, dn_sBreak, dn_sCont, dn_sIf, dn_sAsg, dn_iSeq, dn_iRange, dn_iZip, dn_sFor, dn_sWhile, dn_qNil, dn_qOne, dn_kOne, dn_kTwo, dn_sSetC, dn_mkMeth, dn_mkMeth0, dn_eTIx, dn_tTok, dn_eTok, dn_sIxSet, dn_eNeg, dn_eIsi, dn_eRev, dn_rg1, dn_rg2, dn_eLstRg, dn_eTupRg, dn_sAug, dn_sPar2, dn_kwNil, dn_kwCons, dn_eCallK, dn_eCallK0, dn_kTok, dn_sForT, dn_eC, dn_tC', dn_eK, dn_eAdd, dn_eSub, dn_eMul, dn_eFdiv, dn_eMod, dn_ePow, dn_eShl, dn_eShr, dn_eAnd2, dn_eOr2, dn_cEq, dn_cNe, dn_cLt, dn_cLe, dn_cGt, dn_cGe, dn_cLeLe, dn_eLen, dn_eTupOf, dn_eLstOf, dn_eIntOf, dn_eAbs, dn_eStrOf, dn_eAny, dn_eAll, dn_eSum, dn_eMax1, dn_eMin1, dn_eSorted, dn_eMin2, dn_eMax2, dn_mAppendE, dn_mExtendE, dn_mPopE, dn_mPopAtE, dn_mReverseE, dn_mInsertE, dn_cIs, dn_cIsNot, dn_cIn, dn_cNotIn]
  rfl
theorem erase_strs : ∀ (ws : List Str) (r : Nat), (ws.map D.str).eraseIdx r = (ws.eraseIdx r).map D.str
  | [], _ => rfl
  | _ :: _, 0 => rfl
  | w :: ws, r + 1 => by
    rw [List.map_cons, List.eraseIdx_cons_succ, List.eraseIdx_cons_succ, List.map_cons, erase_strs ws r]
theorem pop_at (ws : List Str) (r : Nat) (h : r < ws.length) (hl : ws.length ≤ 100000) : mPop [.int (r : Int)] (ws.map .str) = some ((ws.eraseIdx r).map .str, .str ws[r]) := by
  have e : mPop [.int (r : Int)] (ws.map D.str) = clI (In63 (r : Int)) ((seqIndex? (r : Int) (ws.map D.str).length).bind fun k => ((ws.map D.str)[k]?).map fun d => ((ws.map D.str).eraseIdx k, d)) none := rfl
  have hi : L2.ixN (ws.map D.str).length (r : Int) = some r := by unfold L2.ixN; rw [List.length_map, if_pos (by omega), if_pos (by omega), Int.toNat_natCast]
  rw [e, clI_pos (in63 (by omega) (by omega)), (L2.ixN_seq hi).1, Option.bind_some, List.getElem?_eq_getElem (by rw [List.length_map]; exact h), Option.map_some, List.getElem_map, erase_strs]
theorem all_strs : ∀ (l : List D), (∀ d ∈ l, ∃ w, d = .str w) → ∃ ws : List Str, l = ws.map .str
  | [], _ => ⟨[], rfl⟩
  | d :: l, h => by
    obtain ⟨w, rfl⟩ := h d List.mem_cons_self
    obtain ⟨ws, rfl⟩ := all_strs l fun x hx => h x (List.mem_cons_of_mem _ hx)
    exact ⟨w :: ws, rfl⟩
theorem srt_strs (ws : List Str) : ∃ ws' : List Str, srtD (ws.map .str) = ws'.map .str ∧ ws'.length = ws.length := by
  have p := srtD_perm (ws.map D.str)
  obtain ⟨ws', e⟩ := all_strs (srtD (ws.map D.str)) fun d hd => by
    obtain ⟨w, _, rfl⟩ := List.mem_map.mp (p.mem_iff.mp hd)
    exact ⟨w, rfl⟩
  refine ⟨ws', e, ?_⟩
  have := p.length_eq
  rw [e, List.length_map, List.length_map] at this
  exact this
theorem sortOk_strs (ws : List Str) : sortOk (ws.map .str) = true := by
  unfold sortOk kindOk
  rw [List.all_map, List.all_map, List.all_map, List.all_map]
  simp only [Bool.and_eq_true, Bool.or_eq_true]
  refine ⟨⟨⟨List.all_eq_true.mpr fun _ _ => by simp [ordD], List.all_eq_true.mpr fun x _ => List.all_eq_true.mpr fun y hy => ?_⟩, .inl (.inl (.inl (.inr ?_)))⟩, List.all_eq_true.mpr fun y hy => ?_⟩
  · obtain ⟨w, _, rfl⟩ := List.mem_map.mp hy
    simp [ltB]
  · exact List.all_eq_true.mpr fun _ _ => rfl
  · obtain ⟨w, _, rfl⟩ := List.mem_map.mp hy
    simp [depB]
theorem num_len : ∀ k : Fin 8, (Str.ofString (toString ((k.val : Nat) : Int))).length ≤ 10 := by decide +kernel
theorem num_log {k : Nat} (h : k < 8) : (k : Int).natAbs.log2 < 1920 := by
  rw [Int.natAbs_natCast]
  have := log2_lt (show k < 2 ^ 3 by omega)
  omega
theorem box_eq (n : Nat) (hn : n ≤ 8) (g : TkG) : F_box_form [.int n] g = .ok (.dat (.tup ((List.range n).map fun k : Nat => .tup [.str (("x" : Str) ++ toString (k : Int)), .tup [.int 0, .int 4]]))) g := by
  have ek : k_box_form_1.den ⟨[some (.dat (.int n)), none], g⟩ = .ok (.own ((List.range n).map fun k : Nat => .tup [.str (("x" : Str) ++ toString (k : Int)), .tup [.int 0, .int 4]])) ⟨[some (.dat (.int n)), none], g⟩ := by
    simp only [k_box_form_1, dn_kOne, List.map_cons, List.map_nil]
    refine (dComp_map (List.range n) (fun k : Nat => .int (0 + (k : Int))) (fun _ => true) (fun k : Nat => .tup [.str (("x" : Str) ++ toString (k : Int)), .tup [.int 0, .int 4]]) (s' := ⟨[some (.dat (.int n)), none], g⟩) ?_ (fun k hk => ?_) ?_).trans ?_
    · have h62 : In62 (n : Int) := in62 (by omega) (by omega)
      simp only [h62, runB_eq, frame0, ob_ok, ob_bad, ob_ite, fo_ok, fo_bad, fo_ite, fn_nx, fn_rt, fn_bk, fn_ct, fn_bad, fn_ite, op_some, op_none, op_ite, fz_dat, fz_own, so_dat, so_own, re_dat, re_own, endB_rt, endB_nx, endB_bad, endB_ite, dVar, dC, dBin, eD, dAnd, dOr, dTru, asB, dtAnd, dtOr, dChain, ib_bl, dCons, ho_dat, ho_own, ho_pk, sq_tup, sq_lst, sq_own, sq_pk, sk_tup, sk_lst, sk_own, sk_pk, ix_tup, ix_lst, ix_pk, sl_tup, sl_lst, sl_scr, tr_non, tr_bl, tr_int, tr_tup, tr_lst, tr_own, ln_tup, ln_lst, ln_own, ln_scr, ln_str, ln_pk, tp_tup, tp_lst, tp_own, tp_pk, ls_tup, ls_lst, ls_own, ad_int, ad_str, ad_tup, ad_lst, oi_int, ob_int, ob_str, lt_int, eq_int, it_tup, it_lst, it_scr, ie_int, ie_bl, io_int, vl_dat, at_0, at_1, at_2, is_non, cl_true, rg_1, rg_2, rg_3, dCall_eq, dCallK_eq, back_ok, dCall1, dCallN, min2D, max2D, negD, putS, dFor, line_le, line_lt, and_self, and_true, List.map_cons, List.map_nil, List.length_cons, List.length_nil, List.cons_append, List.nil_append, List.getElem?_cons_zero, List.getElem?_cons_succ, List.set_cons_zero, List.set_cons_succ, Bool.true_and, Bool.and_true, Bool.false_and, Bool.and_false, if_true, if_false, Bool.not_true, Bool.not_false, Bool.false_eq_true, reduceIte, Option.bind_some, Option.map_some, valI, Nat.reduceAdd, Nat.reduceLeDiff, Nat.reduceSub, Nat.reduceLT, Nat.zero_add, List.reduceReplicate, dn_eVar, dn_eInt, dn_eBl, dn_eNon, dn_eStr, dn_eGlob, dn_mkBin, dn_mkCmp, dn_mkIn, dn_mkChain, dn_eNot, dn_bOne, dn_bAnd, dn_bOr, dn_eBool, dn_tV, dn_tNt, dn_wOne, dn_wAnd, dn_wOr, dn_tBool, dn_eIf, dn_aNil, dn_aCons, dn_eTup, dn_eLst, dn_eIx, dn_oNone, dn_oSome, dn_eSl, dn_eCall, dn_eCall0, dn_bNil, dn_bCons, dn_sSet, dn_sRet, dn_sExpr, dn_sPass, dn_sBreak, dn_sCont, dn_sIf, dn_sAsg, dn_iSeq, dn_iRange, dn_iZip, dn_sFor, dn_sWhile, dn_qNil, dn_qOne, dn_kOne, dn_kTwo, dn_sSetC, dn_mkMeth, dn_mkMeth0, dn_eTIx, dn_tTok, dn_eTok, dn_sIxSet, dn_eNeg, dn_eIsi, dn_eRev, dn_rg1, dn_rg2, dn_eLstRg, dn_eTupRg, dn_sAug, dn_sPar2, dn_kwNil, dn_kwCons, dn_eCallK, dn_eCallK0, dn_kTok, dn_sForT, dn_eC, dn_tC', dn_eK, dn_eAdd, dn_eSub, dn_eMul, dn_eFdiv, dn_eMod, dn_ePow, dn_eShl, dn_eShr, dn_eAnd2, dn_eOr2, dn_cEq, dn_cNe, dn_cLt, dn_cLe, dn_cGt, dn_cGe, dn_cLeLe, dn_eLen, dn_eTupOf, dn_eLstOf, dn_eIntOf, dn_eAbs, dn_eStrOf, dn_eAny, dn_eAll, dn_eSum, dn_eMax1, dn_eMin1, dn_eSorted, dn_eMin2, dn_eMax2, dn_mAppendE, dn_mExtendE, dn_mPopE, dn_mPopAtE, dn_mReverseE, dn_mInsertE, dn_cIs, dn_cIsNot, dn_cIn, dn_cNotIn]
      rfl
    · have hk' : k < n := List.mem_range.mp hk
      refine ⟨⟨[some (.dat (.int n)), some (.dat (.int k))], g⟩, ?_, rfl, fun _ => ?_, rfl⟩
      · rw [Int.zero_add]; rfl
      · have hlg := num_log (show k < 8 by omega)
        have hq : (Str.ofString "x").length + (Str.ofString (toString (k : Int))).length ≤ 100000 := by
          have h1 := num_len ⟨k, by omega⟩
          have h2 : (Str.ofString "x").length ≤ 10 := by decide +kernel
          dsimp only at h1
          omega
        simp only [strD, hlg, hq, runB_eq, frame0, ob_ok, ob_bad, ob_ite, fo_ok, fo_bad, fo_ite, fn_nx, fn_rt, fn_bk, fn_ct, fn_bad, fn_ite, op_some, op_none, op_ite, fz_dat, fz_own, so_dat, so_own, re_dat, re_own, endB_rt, endB_nx, endB_bad, endB_ite, dVar, dC, dBin, eD, dAnd, dOr, dTru, asB, dtAnd, dtOr, dChain, ib_bl, dCons, ho_dat, ho_own, ho_pk, sq_tup, sq_lst, sq_own, sq_pk, sk_tup, sk_lst, sk_own, sk_pk, ix_tup, ix_lst, ix_pk, sl_tup, sl_lst, sl_scr, tr_non, tr_bl, tr_int, tr_tup, tr_lst, tr_own, ln_tup, ln_lst, ln_own, ln_scr, ln_str, ln_pk, tp_tup, tp_lst, tp_own, tp_pk, ls_tup, ls_lst, ls_own, ad_int, ad_str, ad_tup, ad_lst, oi_int, ob_int, ob_str, lt_int, eq_int, it_tup, it_lst, it_scr, ie_int, ie_bl, io_int, vl_dat, at_0, at_1, at_2, is_non, cl_true, rg_1, rg_2, rg_3, dCall_eq, dCallK_eq, back_ok, dCall1, dCallN, min2D, max2D, negD, putS, dFor, line_le, line_lt, and_self, and_true, List.map_cons, List.map_nil, List.length_cons, List.length_nil, List.cons_append, List.nil_append, List.getElem?_cons_zero, List.getElem?_cons_succ, List.set_cons_zero, List.set_cons_succ, Bool.true_and, Bool.and_true, Bool.false_and, Bool.and_false, if_true, if_false, Bool.not_true, Bool.not_false, Bool.false_eq_true, reduceIte, Option.bind_some, Option.map_some, valI, Nat.reduceAdd, Nat.reduceLeDiff, Nat.reduceSub, Nat.reduceLT, Nat.zero_add, List.reduceReplicate, dn_eVar, dn_eInt, dn_eBl, dn_eNon, dn_eStr, dn_eGlob, dn_mkBin, dn_mkCmp, dn_mkIn, dn_mkChain, dn_eNot, dn_bOne, dn_bAnd, dn_bOr, dn_eBool, dn_tV, dn_tNt, dn_wOne, dn_wAnd, dn_wOr, dn_tBool, dn_eIf, dn_aNil, dn_aCons, dn_eTup, dn_eLst, dn_eIx, dn_oNone, dn_oSome, dn_eSl, dn_eCall, dn_eCall0, dn_bNil, dn_bCons, dn_sSet, dn_sRet, dn_sExpr, dn_sPass, dn_sBreak, dn_sCont, dn_sIf, dn_sAsg, dn_iSeq, dn_iRange, dn_iZip, dn_sFor, dn_sWhile, dn_qNil, dn_qOne, dn_kOne, dn_kTwo, dn_sSetC, dn_mkMeth, dn_mkMeth0, dn_eTIx, dn_tTok, dn_eTok, dn_sIxSet, dn_eNeg, dn_eIsi, dn_eRev, dn_rg1, dn_rg2, dn_eLstRg, dn_eTupRg, dn_sAug, dn_sPar2, dn_kwNil, dn_kwCons, dn_eCallK, dn_eCallK0, dn_kTok, dn_sForT, dn_eC, dn_tC', dn_eK, dn_eAdd, dn_eSub, dn_eMul, dn_eFdiv, dn_eMod, dn_ePow, dn_eShl, dn_eShr, dn_eAnd2, dn_eOr2, dn_cEq, dn_cNe, dn_cLt, dn_cLe, dn_cGt, dn_cGe, dn_cLeLe, dn_eLen, dn_eTupOf, dn_eLstOf, dn_eIntOf, dn_eAbs, dn_eStrOf, dn_eAny, dn_eAll, dn_eSum, dn_eMax1, dn_eMin1, dn_eSorted, dn_eMin2, dn_eMax2, dn_mAppendE, dn_mExtendE, dn_mPopE, dn_mPopAtE, dn_mReverseE, dn_mInsertE, dn_cIs, dn_cIsNot, dn_cIn, dn_cNotIn]
    · rw [List.length_range]; omega
    · rw [List.filter_eq_self.mpr (fun _ _ => rfl)]
      rfl
  simp only [F_box_form, b_box_form, ek, runB_eq, frame0, ob_ok, ob_bad, ob_ite, fo_ok, fo_bad, fo_ite, fn_nx, fn_rt, fn_bk, fn_ct, fn_bad, fn_ite, op_some, op_none, op_ite, fz_dat, fz_own, so_dat, so_own, re_dat, re_own, endB_rt, endB_nx, endB_bad, endB_ite, dVar, dC, dBin, eD, dAnd, dOr, dTru, asB, dtAnd, dtOr, dChain, ib_bl, dCons, ho_dat, ho_own, ho_pk, sq_tup, sq_lst, sq_own, sq_pk, sk_tup, sk_lst, sk_own, sk_pk, ix_tup, ix_lst, ix_pk, sl_tup, sl_lst, sl_scr, tr_non, tr_bl, tr_int, tr_tup, tr_lst, tr_own, ln_tup, ln_lst, ln_own, ln_scr, ln_str, ln_pk, tp_tup, tp_lst, tp_own, tp_pk, ls_tup, ls_lst, ls_own, ad_int, ad_str, ad_tup, ad_lst, oi_int, ob_int, ob_str, lt_int, eq_int, it_tup, it_lst, it_scr, ie_int, ie_bl, io_int, vl_dat, at_0, at_1, at_2, is_non, cl_true, rg_1, rg_2, rg_3, dCall_eq, dCallK_eq, back_ok, dCall1, dCallN, min2D, max2D, negD, putS, dFor, line_le, line_lt, and_self, and_true, List.map_cons, List.map_nil, List.length_cons, List.length_nil, List.cons_append, List.nil_append, List.getElem?_cons_zero, List.getElem?_cons_succ, List.set_cons_zero, List.set_cons_succ, Bool.true_and, Bool.and_true, Bool.false_and, Bool.and_false, if_true, if_false, Bool.not_true, Bool.not_false, Bool.false_eq_true, reduceIte, Option.bind_some, Option.map_some, valI, Nat.reduceAdd, Nat.reduceLeDiff, Nat.reduceSub, Nat.reduceLT, Nat.zero_add, List.reduceReplicate, dn_eVar, dn_eInt, dn_eBl, dn_eNon, dn_eStr, dn_eGlob, dn_mkBin, dn_mkCmp, dn_mkIn, dn_mkChain, dn_eNot, dn_bOne, dn_bAnd, dn_bOr, dn_eBool, dn_tV, dn_tNt, dn_wOne, dn_wAnd, dn_wOr, dn_tBool, dn_eIf, dn_aNil, dn_aCons, dn_eTup, dn_eLst, dn_eIx, dn_oNone, dn_oSome, dn_eSl, dn_eCall, dn_eCall0, dn_bNil, dn_bCons, dn_sSet, dn_sRet, dn_sExpr, dn_sPass, dn_sBreak, dn_sCont, dn_sIf, dn_sAsg, dn_iSeq, dn_iRange, dn_iZip, dn_sFor, dn_sWhile, dn_qNil, dn_qOne, dn_kOne, dn_kTwo, dn_sSetC, dn_mkMeth, dn_mkMeth0, dn_eTIx, dn_tTok, dn_eTok, dn_sIxSet, dn_eNeg, dn_eIsi, dn_eRev, dn_rg1, dn_rg2, dn_eLstRg, dn_eTupRg, dn_sAug, dn_sPar2, dn_kwNil, dn_kwCons, dn_eCallK, dn_eCallK0, dn_kTok, dn_sForT, dn_eC, dn_tC', dn_eK, dn_eAdd, dn_eSub, dn_eMul, dn_eFdiv, dn_eMod, dn_ePow, dn_eShl, dn_eShr, dn_eAnd2, dn_eOr2, dn_cEq, dn_cNe, dn_cLt, dn_cLe, dn_cGt, dn_cGe, dn_cLeLe, dn_eLen, dn_eTupOf, dn_eLstOf, dn_eIntOf, dn_eAbs, dn_eStrOf, dn_eAny, dn_eAll, dn_eSum, dn_eMax1, dn_eMin1, dn_eSorted, dn_eMin2, dn_eMax2, dn_mAppendE, dn_mExtendE, dn_mPopE, dn_mPopAtE, dn_mReverseE, dn_mInsertE, dn_cIs, dn_cIsNot, dn_cIn, dn_cNotIn]
theorem switch_eq (n : Nat) (hn : n ≤ 8) (g : TkG) : F_switch_form [.int n] g = .ok (.dat (.tup ((List.range n).map fun k : Nat => .tup [.str (("s" : Str) ++ toString (k : Int)), .tup [.str "off", .str "on"]]))) g := by
  have ek : k_switch_form_1.den ⟨[some (.dat (.int n)), none], g⟩ = .ok (.own ((List.range n).map fun k : Nat => .tup [.str (("s" : Str) ++ toString (k : Int)), .tup [.str "off", .str "on"]])) ⟨[some (.dat (.int n)), none], g⟩ := by
    simp only [k_switch_form_1, dn_kOne, List.map_cons, List.map_nil]
    refine (dComp_map (List.range n) (fun k : Nat => .int (0 + (k : Int))) (fun _ => true) (fun k : Nat => .tup [.str (("s" : Str) ++ toString (k : Int)), .tup [.str "off", .str "on"]]) (s' := ⟨[some (.dat (.int n)), none], g⟩) ?_ (fun k hk => ?_) ?_).trans ?_
    · have h62 : In62 (n : Int) := in62 (by omega) (by omega)
      simp only [h62, runB_eq, frame0, ob_ok, ob_bad, ob_ite, fo_ok, fo_bad, fo_ite, fn_nx, fn_rt, fn_bk, fn_ct, fn_bad, fn_ite, op_some, op_none, op_ite, fz_dat, fz_own, so_dat, so_own, re_dat, re_own, endB_rt, endB_nx, endB_bad, endB_ite, dVar, dC, dBin, eD, dAnd, dOr, dTru, asB, dtAnd, dtOr, dChain, ib_bl, dCons, ho_dat, ho_own, ho_pk, sq_tup, sq_lst, sq_own, sq_pk, sk_tup, sk_lst, sk_own, sk_pk, ix_tup, ix_lst, ix_pk, sl_tup, sl_lst, sl_scr, tr_non, tr_bl, tr_int, tr_tup, tr_lst, tr_own, ln_tup, ln_lst, ln_own, ln_scr, ln_str, ln_pk, tp_tup, tp_lst, tp_own, tp_pk, ls_tup, ls_lst, ls_own, ad_int, ad_str, ad_tup, ad_lst, oi_int, ob_int, ob_str, lt_int, eq_int, it_tup, it_lst, it_scr, ie_int, ie_bl, io_int, vl_dat, at_0, at_1, at_2, is_non, cl_true, rg_1, rg_2, rg_3, dCall_eq, dCallK_eq, back_ok, dCall1, dCallN, min2D, max2D, negD, putS, dFor, line_le, line_lt, and_self, and_true, List.map_cons, List.map_nil, List.length_cons, List.length_nil, List.cons_append, List.nil_append, List.getElem?_cons_zero, List.getElem?_cons_succ, List.set_cons_zero, List.set_cons_succ, Bool.true_and, Bool.and_true, Bool.false_and, Bool.and_false, if_true, if_false, Bool.not_true, Bool.not_false, Bool.false_eq_true, reduceIte, Option.bind_some, Option.map_some, valI, Nat.reduceAdd, Nat.reduceLeDiff, Nat.reduceSub, Nat.reduceLT, Nat.zero_add, List.reduceReplicate, dn_eVar, dn_eInt, dn_eBl, dn_eNon, dn_eStr, dn_eGlob, dn_mkBin, dn_mkCmp, dn_mkIn, dn_mkChain, dn_eNot, dn_bOne, dn_bAnd, dn_bOr, dn_eBool, dn_tV, dn_tNt, dn_wOne, dn_wAnd, dn_wOr, dn_tBool, dn_eIf, dn_aNil, dn_aCons, dn_eTup, dn_eLst, dn_eIx, dn_oNone, dn_oSome, dn_eSl, dn_eCall, dn_eCall0, dn_bNil, dn_bCons, dn_sSet, dn_sRet, dn_sExpr, dn_sPass, dn_sBreak, dn_sCont, dn_sIf, dn_sAsg, dn_iSeq, dn_iRange, dn_iZip, dn_sFor, dn_sWhile, dn_qNil, dn_qOne, dn_kOne, dn_kTwo, dn_sSetC, dn_mkMeth, dn_mkMeth0, dn_eTIx, dn_tTok, dn_eTok, dn_sIxSet, dn_eNeg, dn_eIsi, dn_eRev, dn_rg1, dn_rg2, dn_eLstRg, dn_eTupRg, dn_sAug, dn_sPar2, dn_kwNil, dn_kwCons, dn_eCallK, dn_eCallK0, dn_kTok, dn_sForT, dn_eC, dn_tC', dn_eK, dn_eAdd, dn_eSub, dn_eMul, dn_eFdiv, dn_eMod, dn_ePow, dn_eShl, dn_eShr, dn_eAnd2, dn_eOr2, dn_cEq, dn_cNe, dn_cLt, dn_cLe, dn_cGt, dn_cGe, dn_cLeLe, dn_eLen, dn_eTupOf, dn_eLstOf, dn_eIntOf, dn_eAbs, dn_eStrOf, dn_eAny, dn_eAll, dn_eSum, dn_eMax1, dn_eMin1, dn_eSorted, dn_eMin2, dn_eMax2, dn_mAppendE, dn_mExtendE, dn_mPopE, dn_mPopAtE, dn_mReverseE, dn_mInsertE, dn_cIs, dn_cIsNot, dn_cIn, dn_cNotIn]
      rfl
    · have hk' : k < n := List.mem_range.mp hk
      refine ⟨⟨[some (.dat (.int n)), some (.dat (.int k))], g⟩, ?_, rfl, fun _ => ?_, rfl⟩
      · rw [Int.zero_add]; rfl
      · have hlg := num_log (show k < 8 by omega)
        have hq : (Str.ofString "s").length + (Str.ofString (toString (k : Int))).length ≤ 100000 := by
          have h1 := num_len ⟨k, by omega⟩
          have h2 : (Str.ofString "s").length ≤ 10 := by decide +kernel
          dsimp only at h1
          omega
        simp only [strD, hlg, hq, runB_eq, frame0, ob_ok, ob_bad, ob_ite, fo_ok, fo_bad, fo_ite, fn_nx, fn_rt, fn_bk, fn_ct, fn_bad, fn_ite, op_some, op_none, op_ite, fz_dat, fz_own, so_dat, so_own, re_dat, re_own, endB_rt, endB_nx, endB_bad, endB_ite, dVar, dC, dBin, eD, dAnd, dOr, dTru, asB, dtAnd, dtOr, dChain, ib_bl, dCons, ho_dat, ho_own, ho_pk, sq_tup, sq_lst, sq_own, sq_pk, sk_tup, sk_lst, sk_own, sk_pk, ix_tup, ix_lst, ix_pk, sl_tup, sl_lst, sl_scr, tr_non, tr_bl, tr_int, tr_tup, tr_lst, tr_own, ln_tup, ln_lst, ln_own, ln_scr, ln_str, ln_pk, tp_tup, tp_lst, tp_own, tp_pk, ls_tup, ls_lst, ls_own, ad_int, ad_str, ad_tup, ad_lst, oi_int, ob_int, ob_str, lt_int, eq_int, it_tup, it_lst, it_scr, ie_int, ie_bl, io_int, vl_dat, at_0, at_1, at_2, is_non, cl_true, rg_1, rg_2, rg_3, dCall_eq, dCallK_eq, back_ok, dCall1, dCallN, min2D, max2D, negD, putS, dFor, line_le, line_lt, and_self, and_true, List.map_cons, List.map_nil, List.length_cons, List.length_nil, List.cons_append, List.nil_append, List.getElem?_cons_zero, List.getElem?_cons_succ, List.set_cons_zero, List.set_cons_succ, Bool.true_and, Bool.and_true, Bool.false_and, Bool.and_false, if_true, if_false, Bool.not_true, Bool.not_false, Bool.false_eq_true, reduceIte, Option.bind_some, Option.map_some, valI, Nat.reduceAdd, Nat.reduceLeDiff, Nat.reduceSub, Nat.reduceLT, Nat.zero_add, List.reduceReplicate, dn_eVar, dn_eInt, dn_eBl, dn_eNon, dn_eStr, dn_eGlob, dn_mkBin, dn_mkCmp, dn_mkIn, dn_mkChain, dn_eNot, dn_bOne, dn_bAnd, dn_bOr, dn_eBool, dn_tV, dn_tNt, dn_wOne, dn_wAnd, dn_wOr, dn_tBool, dn_eIf, dn_aNil, dn_aCons, dn_eTup, dn_eLst, dn_eIx, dn_oNone, dn_oSome, dn_eSl, dn_eCall, dn_eCall0, dn_bNil, dn_bCons, dn_sSet, dn_sRet, dn_sExpr, dn_sPass, dn_sBreak, dn_sCont, dn_sIf, dn_sAsg, dn_iSeq, dn_iRange, dn_iZip, dn_sFor, dn_sWhile, dn_qNil, dn_qOne, dn_kOne, dn_kTwo, dn_sSetC, dn_mkMeth, dn_mkMeth0, dn_eTIx, dn_tTok, dn_eTok, dn_sIxSet, dn_eNeg, dn_eIsi, dn_eRev, dn_rg1, dn_rg2, dn_eLstRg, dn_eTupRg, dn_sAug, dn_sPar2, dn_kwNil, dn_kwCons, dn_eCallK, dn_eCallK0, dn_kTok, dn_sForT, dn_eC, dn_tC', dn_eK, dn_eAdd, dn_eSub, dn_eMul, dn_eFdiv, dn_eMod, dn_ePow, dn_eShl, dn_eShr, dn_eAnd2, dn_eOr2, dn_cEq, dn_cNe, dn_cLt, dn_cLe, dn_cGt, dn_cGe, dn_cLeLe, dn_eLen, dn_eTupOf, dn_eLstOf, dn_eIntOf, dn_eAbs, dn_eStrOf, dn_eAny, dn_eAll, dn_eSum, dn_eMax1, dn_eMin1, dn_eSorted, dn_eMin2, dn_eMax2, dn_mAppendE, dn_mExtendE, dn_mPopE, dn_mPopAtE, dn_mReverseE, dn_mInsertE, dn_cIs, dn_cIsNot, dn_cIn, dn_cNotIn]
    · rw [List.length_range]; omega
    · rw [List.filter_eq_self.mpr (fun _ _ => rfl)]
      rfl
  simp only [F_switch_form, b_switch_form, ek, runB_eq, frame0, ob_ok, ob_bad, ob_ite, fo_ok, fo_bad, fo_ite, fn_nx, fn_rt, fn_bk, fn_ct, fn_bad, fn_ite, op_some, op_none, op_ite, fz_dat, fz_own, so_dat, so_own, re_dat, re_own, endB_rt, endB_nx, endB_bad, endB_ite, dVar, dC, dBin, eD, dAnd, dOr, dTru, asB, dtAnd, dtOr, dChain, ib_bl, dCons, ho_dat, ho_own, ho_pk, sq_tup, sq_lst, sq_own, sq_pk, sk_tup, sk_lst, sk_own, sk_pk, ix_tup, ix_lst, ix_pk, sl_tup, sl_lst, sl_scr, tr_non, tr_bl, tr_int, tr_tup, tr_lst, tr_own, ln_tup, ln_lst, ln_own, ln_scr, ln_str, ln_pk, tp_tup, tp_lst, tp_own, tp_pk, ls_tup, ls_lst, ls_own, ad_int, ad_str, ad_tup, ad_lst, oi_int, ob_int, ob_str, lt_int, eq_int, it_tup, it_lst, it_scr, ie_int, ie_bl, io_int, vl_dat, at_0, at_1, at_2, is_non, cl_true, rg_1, rg_2, rg_3, dCall_eq, dCallK_eq, back_ok, dCall1, dCallN, min2D, max2D, negD, putS, dFor, line_le, line_lt, and_self, and_true, List.map_cons, List.map_nil, List.length_cons, List.length_nil, List.cons_append, List.nil_append, List.getElem?_cons_zero, List.getElem?_cons_succ, List.set_cons_zero, List.set_cons_succ, Bool.true_and, Bool.and_true, Bool.false_and, Bool.and_false, if_true, if_false, Bool.not_true, Bool.not_false, Bool.false_eq_true, reduceIte, Option.bind_some, Option.map_some, valI, Nat.reduceAdd, Nat.reduceLeDiff, Nat.reduceSub, Nat.reduceLT, Nat.zero_add, List.reduceReplicate, dn_eVar, dn_eInt, dn_eBl, dn_eNon, dn_eStr, dn_eGlob, dn_mkBin, dn_mkCmp, dn_mkIn, dn_mkChain, dn_eNot, dn_bOne, dn_bAnd, dn_bOr, dn_eBool, dn_tV, dn_tNt, dn_wOne, dn_wAnd, dn_wOr, dn_tBool, dn_eIf, dn_aNil, dn_aCons, dn_eTup, dn_eLst, dn_eIx, dn_oNone, dn_oSome, dn_eSl, dn_eCall, dn_eCall0, dn_bNil, dn_bCons, dn_sSet, dn_sRet, dn_sExpr, dn_sPass, dn_sBreak, dn_sCont, dn_sIf, dn_sAsg, dn_iSeq, dn_iRange, dn_iZip, dn_sFor, dn_sWhile, dn_qNil, dn_qOne, dn_kOne, dn_kTwo, dn_sSetC, dn_mkMeth, dn_mkMeth0, dn_eTIx, dn_tTok, dn_eTok, dn_sIxSet, dn_eNeg, dn_eIsi, dn_eRev, dn_rg1, dn_rg2, dn_eLstRg, dn_eTupRg, dn_sAug, dn_sPar2, dn_kwNil, dn_kwCons, dn_eCallK, dn_eCallK0, dn_kTok, dn_sForT, dn_eC, dn_tC', dn_eK, dn_eAdd, dn_eSub, dn_eMul, dn_eFdiv, dn_eMod, dn_ePow, dn_eShl, dn_eShr, dn_eAnd2, dn_eOr2, dn_cEq, dn_cNe, dn_cLt, dn_cLe, dn_cGt, dn_cGe, dn_cLeLe, dn_eLen, dn_eTupOf, dn_eLstOf, dn_eIntOf, dn_eAbs, dn_eStrOf, dn_eAny, dn_eAll, dn_eSum, dn_eMax1, dn_eMin1, dn_eSorted, dn_eMin2, dn_eMax2, dn_mAppendE, dn_mExtendE, dn_mPopE, dn_mPopAtE, dn_mReverseE, dn_mInsertE, dn_cIs, dn_cIsNot, dn_cIn, dn_cNotIn]
end K38

namespace K38
open PySem PySem.Spec RB
/-- words popped -/
theorem picked_eq (n : Nat) (g : TkG) (hg : LOK n g) (hn : n + 10 ≤ 1000000000) (m : Nat) (hm : m ≤ 4) (a1 a2 a3 a4 a5 a6 a8 a9 a10 a11 a13 : Option Sl) : ∃ (ps ws : List Str) (g' : TkG), ps.length = m ∧ ws.length = 26 - m ∧ LOK (n + m) g' ∧
    k__law_form_1.den ⟨[some (.dat (.tok 1)), a1, a2, a3, a4, a5, a6, some (.dat (.int m)), a8, a9, a10, a11, some (.own (bagS.map .str)), a13, none], g⟩ = .ok (.own (ps.map D.str)) ⟨[some (.dat (.tok 1)), a1, a2, a3, a4, a5, a6, some (.dat (.int m)), a8, a9, a10, a11, some (.own ((ws : List Str).map .str)), a13, none], g'⟩ := by
  have h62 : In62 (m : Int) := in62 (by omega) (by omega)
  obtain ⟨acc', s', e, ps, ws, g', rfl, h1, h2, h3, rfl⟩ := compD_inv (g := (gN 14 : GI TkG).den) (t := (qNil : QI TkG).den) (e := (mPopAtE (eVar 12) (eCall fr__law_weave (aCons (eVar 0) (aCons (eLen (eVar 12)) aNil)))).den) (vs := [14]) (rngL 0 (m : Int).toNat)
    (fun k acc s => ∃ (ps ws : List Str) (g' : TkG), acc = ps.map D.str ∧ ps.length = k ∧ ws.length = 26 - k ∧ LOK (n + k) g' ∧ s = (⟨[some (.dat (.tok 1)), a1, a2, a3, a4, a5, a6, some (.dat (.int m)), a8, a9, a10, a11, some (.own (ws.map .str)), a13, none], g'⟩ : Stt TkG))
    (fun k hk acc s ⟨ps, ws, g', h0, h1, h2, h3, hs⟩ => by
      subst hs h0
      have hk' : k < m := by simpa [rngL] using hk
      rw [rngL_get]
      obtain ⟨r, g2, hr, e2, l2⟩ := weave_eq ws.length (by omega) (by omega) (n + k) (by omega) g' h3
      have hp := pop_at ws r hr (by omega)
      refine ⟨_, true, _, rfl, rfl, fun _ => ⟨.str ws[r], ⟨[some (.dat (.tok 1)), a1, a2, a3, a4, a5, a6, some (.dat (.int m)), a8, a9, a10, a11, some (.own ((ws.eraseIdx r).map .str)), a13, some (.dat (.int (0 + k)))], g2⟩, ?_, ?_, ps ++ [ws[r]], ws.eraseIdx r, g2, ?_, ?_, ?_, l2, rfl⟩, fun h => nomatch h⟩
      · simp only [dMut, mv_pk, List.length_map, fr__law_weave, e2, hp, runB_eq, frame0, ob_ok, ob_bad, ob_ite, fo_ok, fo_bad, fo_ite, fn_nx, fn_rt, fn_bk, fn_ct, fn_bad, fn_ite, op_some, op_none, op_ite, fz_dat, fz_own, so_dat, so_own, re_dat, re_own, endB_rt, endB_nx, endB_bad, endB_ite, dVar, dC, dBin, eD, dAnd, dOr, dTru, asB, dtAnd, dtOr, dChain, ib_bl, dCons, ho_dat, ho_own, ho_pk, sq_tup, sq_lst, sq_own, sq_pk, sk_tup, sk_lst, sk_own, sk_pk, ix_tup, ix_lst, ix_pk, sl_tup, sl_lst, sl_scr, tr_non, tr_bl, tr_int, tr_tup, tr_lst, tr_own, ln_tup, ln_lst, ln_own, ln_scr, ln_str, ln_pk, tp_tup, tp_lst, tp_own, tp_pk, ls_tup, ls_lst, ls_own, ad_int, ad_str, ad_tup, ad_lst, oi_int, ob_int, ob_str, lt_int, eq_int, it_tup, it_lst, it_scr, ie_int, ie_bl, io_int, vl_dat, at_0, at_1, at_2, is_non, cl_true, rg_1, rg_2, rg_3, dCall_eq, dCallK_eq, back_ok, dCall1, dCallN, min2D, max2D, negD, putS, dFor, line_le, line_lt, and_self, and_true, List.map_cons, List.map_nil, List.length_cons, List.length_nil, List.cons_append, List.nil_append, List.getElem?_cons_zero, List.getElem?_cons_succ, List.set_cons_zero, List.set_cons_succ, Bool.true_and, Bool.and_true, Bool.false_and, Bool.and_false, if_true, if_false, Bool.not_true, Bool.not_false, Bool.false_eq_true, reduceIte, Option.bind_some, Option.map_some, valI, Nat.reduceAdd, Nat.reduceLeDiff, Nat.reduceSub, Nat.reduceLT, Nat.zero_add, List.reduceReplicate, dn_eVar, dn_eInt, dn_eBl, dn_eNon, dn_eStr, dn_eGlob, dn_mkBin, dn_mkCmp, dn_mkIn, dn_mkChain, dn_eNot, dn_bOne, dn_bAnd, dn_bOr, dn_eBool, dn_tV, dn_tNt, dn_wOne, dn_wAnd, dn_wOr, dn_tBool, dn_eIf, dn_aNil, dn_aCons, dn_eTup, dn_eLst, dn_eIx, dn_oNone, dn_oSome, dn_eSl, dn_eCall, dn_eCall0, dn_bNil, dn_bCons, dn_sSet, dn_sRet, dn_sExpr, dn_sPass, dn_sBreak, dn_sCont, dn_sIf, dn_sAsg, dn_iSeq, dn_iRange, dn_iZip, dn_sFor, dn_sWhile, dn_qNil, dn_qOne, dn_kOne, dn_kTwo, dn_sSetC, dn_mkMeth, dn_mkMeth0, dn_eTIx, dn_tTok, dn_eTok, dn_sIxSet, dn_eNeg, dn_eIsi, dn_eRev, dn_rg1, dn_rg2, dn_eLstRg, dn_eTupRg, dn_sAug, dn_sPar2, dn_kwNil, dn_kwCons, dn_eCallK, dn_eCallK0, dn_kTok, dn_sForT, dn_eC, dn_tC', dn_eK, dn_eAdd, dn_eSub, dn_eMul, dn_eFdiv, dn_eMod, dn_ePow, dn_eShl, dn_eShr, dn_eAnd2, dn_eOr2, dn_cEq, dn_cNe, dn_cLt, dn_cLe, dn_cGt, dn_cGe, dn_cLeLe, dn_eLen, dn_eTupOf, dn_eLstOf, dn_eIntOf, dn_eAbs, dn_eStrOf, dn_eAny, dn_eAll, dn_eSum, dn_eMax1, dn_eMin1, dn_eSorted, dn_eMin2, dn_eMax2, dn_mAppendE, dn_mExtendE, dn_mPopE, dn_mPopAtE, dn_mReverseE, dn_mInsertE, dn_cIs, dn_cIsNot, dn_cIn, dn_cNotIn, dn_gN, dn_gT, dn_gsNil, dn_gsCons]
      · rw [List.length_map, sizeLine_eq, h1]; omega
      · rw [List.map_append]; rfl
      · rw [List.length_append, h1]; rfl
      · rw [List.length_eraseIdx_of_lt hr]; omega)
    ⟨[some (.dat (.tok 1)), a1, a2, a3, a4, a5, a6, some (.dat (.int m)), a8, a9, a10, a11, some (.own (bagS.map .str)), a13, none], g⟩ [] ⟨[], bagS, g, rfl, rfl, rfl, hg, rfl⟩
  have el : (rngL 0 (m : Int).toNat).length = m := by rw [rngL_len, Int.toNat_natCast]
  rw [el] at h1 h2 h3
  refine ⟨ps, ws, g', h1, h2, h3, ?_⟩
  simp only [k__law_form_1, dn_kOne, List.map_cons, List.map_nil]
  refine (dComp_eq (s1 := ⟨[some (.dat (.tok 1)), a1, a2, a3, a4, a5, a6, some (.dat (.int m)), a8, a9, a10, a11, some (.own (bagS.map .str)), a13, none], g⟩) ?_ e).trans rfl
  simp only [h62, runB_eq, frame0, ob_ok, ob_bad, ob_ite, fo_ok, fo_bad, fo_ite, fn_nx, fn_rt, fn_bk, fn_ct, fn_bad, fn_ite, op_some, op_none, op_ite, fz_dat, fz_own, so_dat, so_own, re_dat, re_own, endB_rt, endB_nx, endB_bad, endB_ite, dVar, dC, dBin, eD, dAnd, dOr, dTru, asB, dtAnd, dtOr, dChain, ib_bl, dCons, ho_dat, ho_own, ho_pk, sq_tup, sq_lst, sq_own, sq_pk, sk_tup, sk_lst, sk_own, sk_pk, ix_tup, ix_lst, ix_pk, sl_tup, sl_lst, sl_scr, tr_non, tr_bl, tr_int, tr_tup, tr_lst, tr_own, ln_tup, ln_lst, ln_own, ln_scr, ln_str, ln_pk, tp_tup, tp_lst, tp_own, tp_pk, ls_tup, ls_lst, ls_own, ad_int, ad_str, ad_tup, ad_lst, oi_int, ob_int, ob_str, lt_int, eq_int, it_tup, it_lst, it_scr, ie_int, ie_bl, io_int, vl_dat, at_0, at_1, at_2, is_non, cl_true, rg_1, rg_2, rg_3, dCall_eq, dCallK_eq, back_ok, dCall1, dCallN, min2D, max2D, negD, putS, dFor, line_le, line_lt, and_self, and_true, List.map_cons, List.map_nil, List.length_cons, List.length_nil, List.cons_append, List.nil_append, List.getElem?_cons_zero, List.getElem?_cons_succ, List.set_cons_zero, List.set_cons_succ, Bool.true_and, Bool.and_true, Bool.false_and, Bool.and_false, if_true, if_false, Bool.not_true, Bool.not_false, Bool.false_eq_true, reduceIte, Option.bind_some, Option.map_some, valI, Nat.reduceAdd, Nat.reduceLeDiff, Nat.reduceSub, Nat.reduceLT, Nat.zero_add, List.reduceReplicate, dn_eVar, dn_eInt, dn_eBl, dn_eNon, dn_eStr, dn_eGlob, dn_mkBin, dn_mkCmp, dn_mkIn, dn_mkChain, dn_eNot, dn_bOne, dn_bAnd, dn_bOr, dn_eBool, dn_tV, dn_tNt, dn_wOne, dn_wAnd, dn_wOr, dn_tBool, dn_eIf, dn_aNil, dn_aCons, dn_eTup, dn_eLst, dn_eIx, dn_oNone, dn_oSome, dn_eSl, dn_eCall, dn_eCall0, dn_bNil, dn_bCons, dn_sSet, dn_sRet, dn_sExpr, dn_sPass, dn_sBreak, dn_sCont, dn_sIf, dn_sAsg, dn_iSeq, dn_iRange, dn_iZip, dn_sFor, dn_sWhile, dn_qNil, dn_qOne, dn_kOne, dn_kTwo, dn_sSetC, dn_mkMeth, dn_mkMeth0, dn_eTIx, dn_tTok, dn_eTok, dn_sIxSet, dn_eNeg, dn_eIsi, dn_eRev, dn_rg1, dn_rg2, dn_eLstRg, dn_eTupRg, dn_sAug, dn_sPar2, dn_kwNil, dn_kwCons, dn_eCallK, dn_eCallK0, dn_kTok, dn_sForT, dn_eC, dn_tC', dn_eK, dn_eAdd, dn_eSub, dn_eMul, dn_eFdiv, dn_eMod, dn_ePow, dn_eShl, dn_eShr, dn_eAnd2, dn_eOr2, dn_cEq, dn_cNe, dn_cLt, dn_cLe, dn_cGt, dn_cGe, dn_cLeLe, dn_eLen, dn_eTupOf, dn_eLstOf, dn_eIntOf, dn_eAbs, dn_eStrOf, dn_eAny, dn_eAll, dn_eSum, dn_eMax1, dn_eMin1, dn_eSorted, dn_eMin2, dn_eMax2, dn_mAppendE, dn_mExtendE, dn_mPopE, dn_mPopAtE, dn_mReverseE, dn_mInsertE, dn_cIs, dn_cIsNot, dn_cIn, dn_cNotIn]
abbrev formS (F M : Int) (heads : List Str) (told : List Fld) (rules : Int) (x6 x7 x8 x9 x10 x11 x12 x13 : Option Sl) (g : TkG) : Stt TkG := ⟨[some (.dat (.tok 1)), some (.dat (.int F)), some (.dat (.int M)), some (.own (heads.map .str)), some (.own (told.map Fld.d)), some (.dat (.int rules)), x6, x7, x8, x9, x10, x11, x12, x13, none], g⟩
theorem ng_int (i : Int) : negD (.dat (.int i)) = fun (_ : Stt TkG) => some (.dat (.int (-i))) := rfl
theorem sd_pk (i : Nat) (fr : Fr) (g : TkG) : sortedD (.pk i) ⟨fr, g⟩ = (match fr[i]? with
  | some (some (.own xs)) => some (true, xs)
  | _ => none : Option (Bool × List D)).bind fun p => if sortOk p.2 = true then some (.own (srtD p.2)) else none := rfl
theorem lap_eq (F M : Int) (hM : 0 ≤ M ∧ M ≤ 1000000000) (k n : Nat) (hk : k ≤ 20) (hn : n + 20 ≤ 1000000000) (g : TkG) (hg : LOK n g) (heads : List Str) (told : List Fld) (rules : Int) (hh : heads.length = 26 - k) (ht : told.length ≤ k) (hok : ∀ x ∈ told, x.ok) (hr : 0 ≤ rules ∧ rules ≤ 1000000000) (x6 x7 x8 x9 x10 x11 x12 x13 : Option Sl) :
    ∃ (heads' : List Str) (told' : List Fld) (rules' : Int) (y7 y8 y9 y10 y11 y12 y13 : Option Sl) (g' : TkG), heads'.length = 26 - (k + 1) ∧ told'.length ≤ k + 1 ∧ (∀ x ∈ told', x.ok) ∧ (0 ≤ rules' ∧ rules' ≤ 1000000000) ∧ LOK (n + 20) g' ∧
    l__law_form_1.den (formS F M heads told rules x6 x7 x8 x9 x10 x11 x12 x13 g) = .nx (formS F M heads' told' rules' x6 y7 y8 y9 y10 y11 y12 y13 g') := by
  obtain ⟨a, g1, ha, e1, h1⟩ := weave_eq 3 (by omega) (by omega) n (by omega) g hg
  obtain ⟨p, g2, hp, e2, h2⟩ := weave_eq heads.length (by omega) (by omega) _ (by omega) g1 h1
  obtain ⟨c, g3, hc, e3, h3⟩ := weave_eq 2 (by omega) (by omega) _ (by omega) g2 h2
  have hpop := pop_at heads p hp (by omega)
  have e1' : F__law_weave [.tok 1, .int 3] g = .ok (.dat (.int a)) g1 := e1
  have e3' : F__law_weave [.tok 1, .int 2] g2 = .ok (.dat (.int c)) g3 := e3
  have em : (2 : Int) + (a : Int) = ((2 + a : Nat) : Int) := rfl
  have hlen : told.length ≤ 100000 := by omega
  have hc' : c = 0 ∨ c = 1 := by omega
  rcases hc' with rfl | rfl
  · obtain ⟨q, g4, hq, e4, h4⟩ := weave_eq 6 (by omega) (by omega) _ (by omega) g3 h3
    have e4' : F__law_weave [.tok 1, .int 6] g3 = .ok (.dat (.int q)) g4 := e4
    have hz0 : (((0 : Nat) : Int) == 0) = true := rfl
    obtain ⟨z, hz, hz1, hz2⟩ : ∃ z : Int, L2.atI [D.int (-3), D.int (-1), D.int 0, D.int 1, D.int (-40), D.int (41 - ((2 + a : Nat) : Int))] (q : Int) = some (.int z) ∧ -40 ≤ z ∧ z ≤ 40 := by
      rcases (show q = 0 ∨ q = 1 ∨ q = 2 ∨ q = 3 ∨ q = 4 ∨ q = 5 by omega) with rfl | rfl | rfl | rfl | rfl | rfl
      · exact ⟨_, rfl, by omega, by omega⟩
      · exact ⟨_, rfl, by omega, by omega⟩
      · exact ⟨_, rfl, by omega, by omega⟩
      · exact ⟨_, rfl, by omega, by omega⟩
      · exact ⟨_, rfl, by omega, by omega⟩
      · exact ⟨_, rfl, by omega, by omega⟩
    have b1 : decide (((2 + a : Nat) : Int).natAbs.log2 + (((2 + a : Nat) : Int) + 1).natAbs.log2 < 1000000) = true := dok (mul_ok (nb (by omega) (by omega)) (nb (by omega) (by omega)))
    have b2 : (decide ((0 : Int) < 2) && decide ((Int.natAbs 2).log2 < 9000)) = true := by decide
    have b3 : decide (rules.natAbs.log2 + (((2 + a : Nat) : Int) * (((2 + a : Nat) : Int) + 1) / 2).natAbs.log2 < 1000000) = true := by
      refine dok (mul_ok (nb (by omega) (by omega)) ?_)
      rcases (show a = 0 ∨ a = 1 ∨ a = 2 by omega) with rfl | rfl | rfl <;> exact nb (by decide) (by decide)
    cases hd : decide (rules * (((2 + a : Nat) : Int) * (((2 + a : Nat) : Int) + 1) / 2) ≤ M) with
    | true =>
      have hd' := of_decide_eq_true hd
      refine ⟨heads.eraseIdx p, told ++ [.num heads[p] z (z + ((2 + a : Nat) : Int) - 1)], rules * (((2 + a : Nat) : Int) * (((2 + a : Nat) : Int) + 1) / 2), some (.dat (.int (2 + a : Nat))), some (.dat (.str heads[p])), some (.dat (.int z)), some (.dat (.int (((2 + a : Nat) : Int) * (((2 + a : Nat) : Int) + 1) / 2))), some (.dat (Fld.num heads[p] z (z + ((2 + a : Nat) : Int) - 1)).d), x12, x13, g4, by rw [List.length_eraseIdx_of_lt hp]; omega, by rw [List.length_append, List.length_singleton]; omega, ?_, ⟨?_, by omega⟩, h4.mono (by omega), ?_⟩
      · intro x hx
        rcases List.mem_append.mp hx with hx | hx
        · exact hok x hx
        · rw [List.mem_singleton.mp hx]
          exact ⟨by omega, by omega, by omega⟩
      · refine Int.mul_nonneg hr.1 ?_
        rcases (show a = 0 ∨ a = 1 ∨ a = 2 by omega) with rfl | rfl | rfl <;> decide
      · simp only [l__law_form_1, dMut, mv_pk, fr__law_weave, e1', e2, e3', e4', em, List.length_map, hpop, hz0, ng_int, hz, b1, b2, b3, hd, mAppend, hlen, runB_eq, frame0, ob_ok, ob_bad, ob_ite, fo_ok, fo_bad, fo_ite, fn_nx, fn_rt, fn_bk, fn_ct, fn_bad, fn_ite, op_some, op_none, op_ite, fz_dat, fz_own, so_dat, so_own, re_dat, re_own, endB_rt, endB_nx, endB_bad, endB_ite, dVar, dC, dBin, eD, dAnd, dOr, dTru, asB, dtAnd, dtOr, dChain, ib_bl, dCons, ho_dat, ho_own, ho_pk, sq_tup, sq_lst, sq_own, sq_pk, sk_tup, sk_lst, sk_own, sk_pk, ix_tup, ix_lst, ix_pk, sl_tup, sl_lst, sl_scr, tr_non, tr_bl, tr_int, tr_tup, tr_lst, tr_own, ln_tup, ln_lst, ln_own, ln_scr, ln_str, ln_pk, tp_tup, tp_lst, tp_own, tp_pk, ls_tup, ls_lst, ls_own, ad_int, ad_str, ad_tup, ad_lst, oi_int, ob_int, ob_str, lt_int, eq_int, it_tup, it_lst, it_scr, ie_int, ie_bl, io_int, vl_dat, at_0, at_1, at_2, is_non, cl_true, rg_1, rg_2, rg_3, dCall_eq, dCallK_eq, back_ok, dCall1, dCallN, min2D, max2D, negD, putS, dFor, line_le, line_lt, and_self, and_true, List.map_cons, List.map_nil, List.length_cons, List.length_nil, List.cons_append, List.nil_append, List.getElem?_cons_zero, List.getElem?_cons_succ, List.set_cons_zero, List.set_cons_succ, Bool.true_and, Bool.and_true, Bool.false_and, Bool.and_false, if_true, if_false, Bool.not_true, Bool.not_false, Bool.false_eq_true, reduceIte, Option.bind_some, Option.map_some, valI, Nat.reduceAdd, Nat.reduceLeDiff, Nat.reduceSub, Nat.reduceLT, Nat.zero_add, List.reduceReplicate, dn_eVar, dn_eInt, dn_eBl, dn_eNon, dn_eStr, dn_eGlob, dn_mkBin, dn_mkCmp, dn_mkIn, dn_mkChain, dn_eNot, dn_bOne, dn_bAnd, dn_bOr, dn_eBool, dn_tV, dn_tNt, dn_wOne, dn_wAnd, dn_wOr, dn_tBool, dn_eIf, dn_aNil, dn_aCons, dn_eTup, dn_eLst, dn_eIx, dn_oNone, dn_oSome, dn_eSl, dn_eCall, dn_eCall0, dn_bNil, dn_bCons, dn_sSet, dn_sRet, dn_sExpr, dn_sPass, dn_sBreak, dn_sCont, dn_sIf, dn_sAsg, dn_iSeq, dn_iRange, dn_iZip, dn_sFor, dn_sWhile, dn_qNil, dn_qOne, dn_kOne, dn_kTwo, dn_sSetC, dn_mkMeth, dn_mkMeth0, dn_eTIx, dn_tTok, dn_eTok, dn_sIxSet, dn_eNeg, dn_eIsi, dn_eRev, dn_rg1, dn_rg2, dn_eLstRg, dn_eTupRg, dn_sAug, dn_sPar2, dn_kwNil, dn_kwCons, dn_eCallK, dn_eCallK0, dn_kTok, dn_sForT, dn_eC, dn_tC', dn_eK, dn_eAdd, dn_eSub, dn_eMul, dn_eFdiv, dn_eMod, dn_ePow, dn_eShl, dn_eShr, dn_eAnd2, dn_eOr2, dn_cEq, dn_cNe, dn_cLt, dn_cLe, dn_cGt, dn_cGe, dn_cLeLe, dn_eLen, dn_eTupOf, dn_eLstOf, dn_eIntOf, dn_eAbs, dn_eStrOf, dn_eAny, dn_eAll, dn_eSum, dn_eMax1, dn_eMin1, dn_eSorted, dn_eMin2, dn_eMax2, dn_mAppendE, dn_mExtendE, dn_mPopE, dn_mPopAtE, dn_mReverseE, dn_mInsertE, dn_cIs, dn_cIsNot, dn_cIn, dn_cNotIn, dn_gN, dn_gT, dn_gsNil, dn_gsCons]
        unfold formS; rw [List.map_append]
        rfl
    | false =>
      refine ⟨heads.eraseIdx p, told, rules, some (.dat (.int (2 + a : Nat))), some (.dat (.str heads[p])), some (.dat (.int z)), some (.dat (.int (((2 + a : Nat) : Int) * (((2 + a : Nat) : Int) + 1) / 2))), some (.dat (Fld.num heads[p] z (z + ((2 + a : Nat) : Int) - 1)).d), x12, x13, g4, by rw [List.length_eraseIdx_of_lt hp]; omega, by omega, hok, hr, h4.mono (by omega), ?_⟩
      simp only [l__law_form_1, dMut, mv_pk, fr__law_weave, e1', e2, e3', e4', em, List.length_map, hpop, hz0, ng_int, hz, b1, b2, b3, hd, mAppend, hlen, runB_eq, frame0, ob_ok, ob_bad, ob_ite, fo_ok, fo_bad, fo_ite, fn_nx, fn_rt, fn_bk, fn_ct, fn_bad, fn_ite, op_some, op_none, op_ite, fz_dat, fz_own, so_dat, so_own, re_dat, re_own, endB_rt, endB_nx, endB_bad, endB_ite, dVar, dC, dBin, eD, dAnd, dOr, dTru, asB, dtAnd, dtOr, dChain, ib_bl, dCons, ho_dat, ho_own, ho_pk, sq_tup, sq_lst, sq_own, sq_pk, sk_tup, sk_lst, sk_own, sk_pk, ix_tup, ix_lst, ix_pk, sl_tup, sl_lst, sl_scr, tr_non, tr_bl, tr_int, tr_tup, tr_lst, tr_own, ln_tup, ln_lst, ln_own, ln_scr, ln_str, ln_pk, tp_tup, tp_lst, tp_own, tp_pk, ls_tup, ls_lst, ls_own, ad_int, ad_str, ad_tup, ad_lst, oi_int, ob_int, ob_str, lt_int, eq_int, it_tup, it_lst, it_scr, ie_int, ie_bl, io_int, vl_dat, at_0, at_1, at_2, is_non, cl_true, rg_1, rg_2, rg_3, dCall_eq, dCallK_eq, back_ok, dCall1, dCallN, min2D, max2D, negD, putS, dFor, line_le, line_lt, and_self, and_true, List.map_cons, List.map_nil, List.length_cons, List.length_nil, List.cons_append, List.nil_append, List.getElem?_cons_zero, List.getElem?_cons_succ, List.set_cons_zero, List.set_cons_succ, Bool.true_and, Bool.and_true, Bool.false_and, Bool.and_false, if_true, if_false, Bool.not_true, Bool.not_false, Bool.false_eq_true, reduceIte, Option.bind_some, Option.map_some, valI, Nat.reduceAdd, Nat.reduceLeDiff, Nat.reduceSub, Nat.reduceLT, Nat.zero_add, List.reduceReplicate, dn_eVar, dn_eInt, dn_eBl, dn_eNon, dn_eStr, dn_eGlob, dn_mkBin, dn_mkCmp, dn_mkIn, dn_mkChain, dn_eNot, dn_bOne, dn_bAnd, dn_bOr, dn_eBool, dn_tV, dn_tNt, dn_wOne, dn_wAnd, dn_wOr, dn_tBool, dn_eIf, dn_aNil, dn_aCons, dn_eTup, dn_eLst, dn_eIx, dn_oNone, dn_oSome, dn_eSl, dn_eCall, dn_eCall0, dn_bNil, dn_bCons, dn_sSet, dn_sRet, dn_sExpr, dn_sPass, dn_sBreak, dn_sCont, dn_sIf, dn_sAsg, dn_iSeq, dn_iRange, dn_iZip, dn_sFor, dn_sWhile, dn_qNil, dn_qOne, dn_kOne, dn_kTwo, dn_sSetC, dn_mkMeth, dn_mkMeth0, dn_eTIx, dn_tTok, dn_eTok, dn_sIxSet, dn_eNeg, dn_eIsi, dn_eRev, dn_rg1, dn_rg2, dn_eLstRg, dn_eTupRg, dn_sAug, dn_sPar2, dn_kwNil, dn_kwCons, dn_eCallK, dn_eCallK0, dn_kTok, dn_sForT, dn_eC, dn_tC', dn_eK, dn_eAdd, dn_eSub, dn_eMul, dn_eFdiv, dn_eMod, dn_ePow, dn_eShl, dn_eShr, dn_eAnd2, dn_eOr2, dn_cEq, dn_cNe, dn_cLt, dn_cLe, dn_cGt, dn_cGe, dn_cLeLe, dn_eLen, dn_eTupOf, dn_eLstOf, dn_eIntOf, dn_eAbs, dn_eStrOf, dn_eAny, dn_eAll, dn_eSum, dn_eMax1, dn_eMin1, dn_eSorted, dn_eMin2, dn_eMax2, dn_mAppendE, dn_mExtendE, dn_mPopE, dn_mPopAtE, dn_mReverseE, dn_mInsertE, dn_cIs, dn_cIsNot, dn_cIn, dn_cNotIn, dn_gN, dn_gT, dn_gsNil, dn_gsCons]
      rfl
  · have hz0 : (((1 : Nat) : Int) == 0) = false := rfl
    obtain ⟨ps, ws, g4, hps, _, h4, e4⟩ := picked_eq _ g3 h3 (by omega) (2 + a) (by omega) (some (.dat (.int F))) (some (.dat (.int M))) (some (.own ((heads.eraseIdx p).map .str))) (some (.own (told.map Fld.d))) (some (.dat (.int rules))) x6 (some (.dat (.str heads[p]))) x9 x10 x11 x13
    obtain ⟨ws', es, hws⟩ := srt_strs ps
    obtain ⟨z, hz, hz1, hz2⟩ : ∃ z : Int, L2.atI [D.int 0, D.int 1, D.int 3, D.int 7, D.int 15] ((2 + a : Nat) : Int) = some (.int z) ∧ 0 ≤ z ∧ z ≤ 15 := by
      rcases (show a = 0 ∨ a = 1 ∨ a = 2 by omega) with rfl | rfl | rfl
      · exact ⟨_, rfl, by omega, by omega⟩
      · exact ⟨_, rfl, by omega, by omega⟩
      · exact ⟨_, rfl, by omega, by omega⟩
    have b3 : decide (rules.natAbs.log2 + z.natAbs.log2 < 1000000) = true := dok (mul_ok (nb (by omega) (by omega)) (nb (by omega) (by omega)))
    cases hd : decide (rules * z ≤ M) with
    | true =>
      have hd' := of_decide_eq_true hd
      refine ⟨heads.eraseIdx p, told ++ [.wrd heads[p] ws'], rules * z, some (.dat (.int (2 + a : Nat))), some (.dat (.str heads[p])), x9, some (.dat (.int z)), some (.dat (Fld.wrd heads[p] ws').d), some (.own (ws.map .str)), some (.own (ps.map .str)), g4, by rw [List.length_eraseIdx_of_lt hp]; omega, by rw [List.length_append, List.length_singleton]; omega, ?_, ⟨Int.mul_nonneg hr.1 hz1, by omega⟩, h4.mono (by omega), ?_⟩
      · intro x hx
        rcases List.mem_append.mp hx with hx | hx
        · exact hok x hx
        · rw [List.mem_singleton.mp hx]
          exact ⟨by omega, by omega⟩
      · simp only [l__law_form_1, dMut, mv_pk, fr__law_weave, fr__law_bag, bag_eq, e1', e2, e3', e4, em, List.length_map, hpop, hz0, hz, b3, hd, mAppend, hlen, sd_pk, sortOk_strs, es, runB_eq, frame0, ob_ok, ob_bad, ob_ite, fo_ok, fo_bad, fo_ite, fn_nx, fn_rt, fn_bk, fn_ct, fn_bad, fn_ite, op_some, op_none, op_ite, fz_dat, fz_own, so_dat, so_own, re_dat, re_own, endB_rt, endB_nx, endB_bad, endB_ite, dVar, dC, dBin, eD, dAnd, dOr, dTru, asB, dtAnd, dtOr, dChain, ib_bl, dCons, ho_dat, ho_own, ho_pk, sq_tup, sq_lst, sq_own, sq_pk, sk_tup, sk_lst, sk_own, sk_pk, ix_tup, ix_lst, ix_pk, sl_tup, sl_lst, sl_scr, tr_non, tr_bl, tr_int, tr_tup, tr_lst, tr_own, ln_tup, ln_lst, ln_own, ln_scr, ln_str, ln_pk, tp_tup, tp_lst, tp_own, tp_pk, ls_tup, ls_lst, ls_own, ad_int, ad_str, ad_tup, ad_lst, oi_int, ob_int, ob_str, lt_int, eq_int, it_tup, it_lst, it_scr, ie_int, ie_bl, io_int, vl_dat, at_0, at_1, at_2, is_non, cl_true, rg_1, rg_2, rg_3, dCall_eq, dCallK_eq, back_ok, dCall1, dCallN, min2D, max2D, negD, putS, dFor, line_le, line_lt, and_self, and_true, List.map_cons, List.map_nil, List.length_cons, List.length_nil, List.cons_append, List.nil_append, List.getElem?_cons_zero, List.getElem?_cons_succ, List.set_cons_zero, List.set_cons_succ, Bool.true_and, Bool.and_true, Bool.false_and, Bool.and_false, if_true, if_false, Bool.not_true, Bool.not_false, Bool.false_eq_true, reduceIte, Option.bind_some, Option.map_some, valI, Nat.reduceAdd, Nat.reduceLeDiff, Nat.reduceSub, Nat.reduceLT, Nat.zero_add, List.reduceReplicate, dn_eVar, dn_eInt, dn_eBl, dn_eNon, dn_eStr, dn_eGlob, dn_mkBin, dn_mkCmp, dn_mkIn, dn_mkChain, dn_eNot, dn_bOne, dn_bAnd, dn_bOr, dn_eBool, dn_tV, dn_tNt, dn_wOne, dn_wAnd, dn_wOr, dn_tBool, dn_eIf, dn_aNil, dn_aCons, dn_eTup, dn_eLst, dn_eIx, dn_oNone, dn_oSome, dn_eSl, dn_eCall, dn_eCall0, dn_bNil, dn_bCons, dn_sSet, dn_sRet, dn_sExpr, dn_sPass, dn_sBreak, dn_sCont, dn_sIf, dn_sAsg, dn_iSeq, dn_iRange, dn_iZip, dn_sFor, dn_sWhile, dn_qNil, dn_qOne, dn_kOne, dn_kTwo, dn_sSetC, dn_mkMeth, dn_mkMeth0, dn_eTIx, dn_tTok, dn_eTok, dn_sIxSet, dn_eNeg, dn_eIsi, dn_eRev, dn_rg1, dn_rg2, dn_eLstRg, dn_eTupRg, dn_sAug, dn_sPar2, dn_kwNil, dn_kwCons, dn_eCallK, dn_eCallK0, dn_kTok, dn_sForT, dn_eC, dn_tC', dn_eK, dn_eAdd, dn_eSub, dn_eMul, dn_eFdiv, dn_eMod, dn_ePow, dn_eShl, dn_eShr, dn_eAnd2, dn_eOr2, dn_cEq, dn_cNe, dn_cLt, dn_cLe, dn_cGt, dn_cGe, dn_cLeLe, dn_eLen, dn_eTupOf, dn_eLstOf, dn_eIntOf, dn_eAbs, dn_eStrOf, dn_eAny, dn_eAll, dn_eSum, dn_eMax1, dn_eMin1, dn_eSorted, dn_eMin2, dn_eMax2, dn_mAppendE, dn_mExtendE, dn_mPopE, dn_mPopAtE, dn_mReverseE, dn_mInsertE, dn_cIs, dn_cIsNot, dn_cIn, dn_cNotIn, dn_gN, dn_gT, dn_gsNil, dn_gsCons]
        unfold formS; rw [List.map_append]
        rfl
    | false =>
      refine ⟨heads.eraseIdx p, told, rules, some (.dat (.int (2 + a : Nat))), some (.dat (.str heads[p])), x9, some (.dat (.int z)), some (.dat (Fld.wrd heads[p] ws').d), some (.own (ws.map .str)), some (.own (ps.map .str)), g4, by rw [List.length_eraseIdx_of_lt hp]; omega, by omega, hok, hr, h4.mono (by omega), ?_⟩
      simp only [l__law_form_1, dMut, mv_pk, fr__law_weave, fr__law_bag, bag_eq, e1', e2, e3', e4, em, List.length_map, hpop, hz0, hz, b3, hd, mAppend, hlen, sd_pk, sortOk_strs, es, runB_eq, frame0, ob_ok, ob_bad, ob_ite, fo_ok, fo_bad, fo_ite, fn_nx, fn_rt, fn_bk, fn_ct, fn_bad, fn_ite, op_some, op_none, op_ite, fz_dat, fz_own, so_dat, so_own, re_dat, re_own, endB_rt, endB_nx, endB_bad, endB_ite, dVar, dC, dBin, eD, dAnd, dOr, dTru, asB, dtAnd, dtOr, dChain, ib_bl, dCons, ho_dat, ho_own, ho_pk, sq_tup, sq_lst, sq_own, sq_pk, sk_tup, sk_lst, sk_own, sk_pk, ix_tup, ix_lst, ix_pk, sl_tup, sl_lst, sl_scr, tr_non, tr_bl, tr_int, tr_tup, tr_lst, tr_own, ln_tup, ln_lst, ln_own, ln_scr, ln_str, ln_pk, tp_tup, tp_lst, tp_own, tp_pk, ls_tup, ls_lst, ls_own, ad_int, ad_str, ad_tup, ad_lst, oi_int, ob_int, ob_str, lt_int, eq_int, it_tup, it_lst, it_scr, ie_int, ie_bl, io_int, vl_dat, at_0, at_1, at_2, is_non, cl_true, rg_1, rg_2, rg_3, dCall_eq, dCallK_eq, back_ok, dCall1, dCallN, min2D, max2D, negD, putS, dFor, line_le, line_lt, and_self, and_true, List.map_cons, List.map_nil, List.length_cons, List.length_nil, List.cons_append, List.nil_append, List.getElem?_cons_zero, List.getElem?_cons_succ, List.set_cons_zero, List.set_cons_succ, Bool.true_and, Bool.and_true, Bool.false_and, Bool.and_false, if_true, if_false, Bool.not_true, Bool.not_false, Bool.false_eq_true, reduceIte, Option.bind_some, Option.map_some, valI, Nat.reduceAdd, Nat.reduceLeDiff, Nat.reduceSub, Nat.reduceLT, Nat.zero_add, List.reduceReplicate, dn_eVar, dn_eInt, dn_eBl, dn_eNon, dn_eStr, dn_eGlob, dn_mkBin, dn_mkCmp, dn_mkIn, dn_mkChain, dn_eNot, dn_bOne, dn_bAnd, dn_bOr, dn_eBool, dn_tV, dn_tNt, dn_wOne, dn_wAnd, dn_wOr, dn_tBool, dn_eIf, dn_aNil, dn_aCons, dn_eTup, dn_eLst, dn_eIx, dn_oNone, dn_oSome, dn_eSl, dn_eCall, dn_eCall0, dn_bNil, dn_bCons, dn_sSet, dn_sRet, dn_sExpr, dn_sPass, dn_sBreak, dn_sCont, dn_sIf, dn_sAsg, dn_iSeq, dn_iRange, dn_iZip, dn_sFor, dn_sWhile, dn_qNil, dn_qOne, dn_kOne, dn_kTwo, dn_sSetC, dn_mkMeth, dn_mkMeth0, dn_eTIx, dn_tTok, dn_eTok, dn_sIxSet, dn_eNeg, dn_eIsi, dn_eRev, dn_rg1, dn_rg2, dn_eLstRg, dn_eTupRg, dn_sAug, dn_sPar2, dn_kwNil, dn_kwCons, dn_eCallK, dn_eCallK0, dn_kTok, dn_sForT, dn_eC, dn_tC', dn_eK, dn_eAdd, dn_eSub, dn_eMul, dn_eFdiv, dn_eMod, dn_ePow, dn_eShl, dn_eShr, dn_eAnd2, dn_eOr2, dn_cEq, dn_cNe, dn_cLt, dn_cLe, dn_cGt, dn_cGe, dn_cLeLe, dn_eLen, dn_eTupOf, dn_eLstOf, dn_eIntOf, dn_eAbs, dn_eStrOf, dn_eAny, dn_eAll, dn_eSum, dn_eMax1, dn_eMin1, dn_eSorted, dn_eMin2, dn_eMax2, dn_mAppendE, dn_mExtendE, dn_mPopE, dn_mPopAtE, dn_mReverseE, dn_mInsertE, dn_cIs, dn_cIsNot, dn_cIn, dn_cNotIn, dn_gN, dn_gT, dn_gsNil, dn_gsCons]
      rfl
theorem law_form_eq (F : Nat) (hF : 0 < F ∧ F ≤ 16) (M : Int) (hM : 0 ≤ M ∧ M ≤ 1000000000) (n : Nat) (hn : n + 1000 ≤ 1000000000) (g : TkG) (hg : LOK n g) : ∃ f g', f.length ≤ F ∧ (∀ x ∈ f, Fld.ok x) ∧ LOK (n + 1000) g' ∧ F__law_form [.tok 1, .int F, .int M] g = .ok (.dat (formD f)) g' := by
  obtain ⟨w, g1, hw, e1, h1⟩ := weave_eq F hF.1 (by omega) n (by omega) g hg
  have h62 : In62 (1 + (w : Int)) := in62 (by omega) (by omega)
  simp only [F__law_form, b__law_form, fr__law_weave, fr__law_bag, bag_eq, e1, h62, runB_eq, frame0, ob_ok, ob_bad, ob_ite, fo_ok, fo_bad, fo_ite, fn_nx, fn_rt, fn_bk, fn_ct, fn_bad, fn_ite, op_some, op_none, op_ite, fz_dat, fz_own, so_dat, so_own, re_dat, re_own, endB_rt, endB_nx, endB_bad, endB_ite, dVar, dC, dBin, eD, dAnd, dOr, dTru, asB, dtAnd, dtOr, dChain, ib_bl, dCons, ho_dat, ho_own, ho_pk, sq_tup, sq_lst, sq_own, sq_pk, sk_tup, sk_lst, sk_own, sk_pk, ix_tup, ix_lst, ix_pk, sl_tup, sl_lst, sl_scr, tr_non, tr_bl, tr_int, tr_tup, tr_lst, tr_own, ln_tup, ln_lst, ln_own, ln_scr, ln_str, ln_pk, tp_tup, tp_lst, tp_own, tp_pk, ls_tup, ls_lst, ls_own, ad_int, ad_str, ad_tup, ad_lst, oi_int, ob_int, ob_str, lt_int, eq_int, it_tup, it_lst, it_scr, ie_int, ie_bl, io_int, vl_dat, at_0, at_1, at_2, is_non, cl_true, rg_1, rg_2, rg_3, dCall_eq, dCallK_eq, back_ok, dCall1, dCallN, min2D, max2D, negD, putS, dFor, line_le, line_lt, and_self, and_true, List.map_cons, List.map_nil, List.length_cons, List.length_nil, List.cons_append, List.nil_append, List.getElem?_cons_zero, List.getElem?_cons_succ, List.set_cons_zero, List.set_cons_succ, Bool.true_and, Bool.and_true, Bool.false_and, Bool.and_false, if_true, if_false, Bool.not_true, Bool.not_false, Bool.false_eq_true, reduceIte, Option.bind_some, Option.map_some, valI, Nat.reduceAdd, Nat.reduceLeDiff, Nat.reduceSub, Nat.reduceLT, Nat.zero_add, List.reduceReplicate, dn_eVar, dn_eInt, dn_eBl, dn_eNon, dn_eStr, dn_eGlob, dn_mkBin, dn_mkCmp, dn_mkIn, dn_mkChain, dn_eNot, dn_bOne, dn_bAnd, dn_bOr, dn_eBool, dn_tV, dn_tNt, dn_wOne, dn_wAnd, dn_wOr, dn_tBool, dn_eIf, dn_aNil, dn_aCons, dn_eTup, dn_eLst, dn_eIx, dn_oNone, dn_oSome, dn_eSl, dn_eCall, dn_eCall0, dn_bNil, dn_bCons, dn_sSet, dn_sRet, dn_sExpr, dn_sPass, dn_sBreak, dn_sCont, dn_sIf, dn_sAsg, dn_iSeq, dn_iRange, dn_iZip, dn_sFor, dn_sWhile, dn_qNil, dn_qOne, dn_kOne, dn_kTwo, dn_sSetC, dn_mkMeth, dn_mkMeth0, dn_eTIx, dn_tTok, dn_eTok, dn_sIxSet, dn_eNeg, dn_eIsi, dn_eRev, dn_rg1, dn_rg2, dn_eLstRg, dn_eTupRg, dn_sAug, dn_sPar2, dn_kwNil, dn_kwCons, dn_eCallK, dn_eCallK0, dn_kTok, dn_sForT, dn_eC, dn_tC', dn_eK, dn_eAdd, dn_eSub, dn_eMul, dn_eFdiv, dn_eMod, dn_ePow, dn_eShl, dn_eShr, dn_eAnd2, dn_eOr2, dn_cEq, dn_cNe, dn_cLt, dn_cLe, dn_cGt, dn_cGe, dn_cLeLe, dn_eLen, dn_eTupOf, dn_eLstOf, dn_eIntOf, dn_eAbs, dn_eStrOf, dn_eAny, dn_eAll, dn_eSum, dn_eMax1, dn_eMin1, dn_eSorted, dn_eMin2, dn_eMax2, dn_mAppendE, dn_mExtendE, dn_mPopE, dn_mPopAtE, dn_mReverseE, dn_mInsertE, dn_cIs, dn_cIsNot, dn_cIn, dn_cNotIn]
  have er : (rngL 0 (1 + (w : Int)).toNat).length = w + 1 := by rw [rngL_len]; omega
  obtain ⟨s', el, heads, told, rules, x6, x7, x8, x9, x10, x11, x12, x13, g', p1, p2, p3, p4, p5, rfl⟩ := forD_inv (g := (gN 6 : GI TkG).den) (body := l__law_form_1.den) (rngL 0 (1 + (w : Int)).toNat)
    (fun k s => ∃ (heads : List Str) (told : List Fld) (rules : Int) (x6 x7 x8 x9 x10 x11 x12 x13 : Option Sl) (g' : TkG), heads.length = 26 - k ∧ told.length ≤ k ∧ (∀ x ∈ told, x.ok) ∧ (0 ≤ rules ∧ rules ≤ 1000000000) ∧ LOK (n + 1 + 20 * k) g' ∧ s = formS F M heads told rules x6 x7 x8 x9 x10 x11 x12 x13 g')
    (fun k hk s ⟨heads, told, rules, x6, x7, x8, x9, x10, x11, x12, x13, g', p1, p2, p3, p4, p5, hs⟩ => by
      subst hs
      rw [er] at hk
      rw [rngL_get]
      obtain ⟨heads', told', rules', y7, y8, y9, y10, y11, y12, y13, g2, q1, q2, q3, q4, q5, q6⟩ := lap_eq F M hM k _ (by omega) (by omega) g' p5 heads told rules p1 p2 p3 p4 (some (.dat (.int (0 + k)))) x7 x8 x9 x10 x11 x12 x13
      exact ⟨_, rfl, _, .inl q6, heads', told', rules', _, y7, y8, y9, y10, y11, y12, y13, g2, q1, q2, q3, q4, q5.mono (by omega), rfl⟩)
    (formS F M bagS [] 1 none none none none none none none none g1) ⟨bagS, [], 1, none, none, none, none, none, none, none, none, g1, rfl, Nat.le_refl _, fun x h => (nomatch h), ⟨by omega, by omega⟩, h1, rfl⟩
  have el' : forD (gN 6 : GI TkG).den l__law_form_1.den (rngL 0 (1 + (w : Int)).toNat) ⟨[some (.dat (.tok 1)), some (.dat (.int F)), some (.dat (.int M)), some (.own (bagS.map .str)), some (.own []), some (.dat (.int 1)), none, none, none, none, none, none, none, none, none], g1⟩ = _ := el
  rw [el']
  rw [er] at p1 p2 p5
  unfold formS
  cases told with
  | nil =>
    have ha : L2.atI (heads.map D.str) 0 = some (.str (heads[0]'(by omega))) := by
      have := at_nat (heads.map D.str) 0 (by rw [List.length_map]; omega)
      rw [List.getElem_map] at this
      exact this
    have h0 : (decide ((0 : Int) < ((0 : Nat) : Int))) = false := rfl
    refine ⟨[.num (heads[0]'(by omega)) 0 1], g', by rw [List.length_singleton]; omega, fun x hx => ?_, p5.mono (by omega), ?_⟩
    · rw [List.mem_singleton.mp hx]
      exact ⟨by omega, by omega, by omega⟩
    · simp only [h0, ha, runB_eq, frame0, ob_ok, ob_bad, ob_ite, fo_ok, fo_bad, fo_ite, fn_nx, fn_rt, fn_bk, fn_ct, fn_bad, fn_ite, op_some, op_none, op_ite, fz_dat, fz_own, so_dat, so_own, re_dat, re_own, endB_rt, endB_nx, endB_bad, endB_ite, dVar, dC, dBin, eD, dAnd, dOr, dTru, asB, dtAnd, dtOr, dChain, ib_bl, dCons, ho_dat, ho_own, ho_pk, sq_tup, sq_lst, sq_own, sq_pk, sk_tup, sk_lst, sk_own, sk_pk, ix_tup, ix_lst, ix_pk, sl_tup, sl_lst, sl_scr, tr_non, tr_bl, tr_int, tr_tup, tr_lst, tr_own, ln_tup, ln_lst, ln_own, ln_scr, ln_str, ln_pk, tp_tup, tp_lst, tp_own, tp_pk, ls_tup, ls_lst, ls_own, ad_int, ad_str, ad_tup, ad_lst, oi_int, ob_int, ob_str, lt_int, eq_int, it_tup, it_lst, it_scr, ie_int, ie_bl, io_int, vl_dat, at_0, at_1, at_2, is_non, cl_true, rg_1, rg_2, rg_3, dCall_eq, dCallK_eq, back_ok, dCall1, dCallN, min2D, max2D, negD, putS, dFor, line_le, line_lt, and_self, and_true, List.map_cons, List.map_nil, List.length_cons, List.length_nil, List.cons_append, List.nil_append, List.getElem?_cons_zero, List.getElem?_cons_succ, List.set_cons_zero, List.set_cons_succ, Bool.true_and, Bool.and_true, Bool.false_and, Bool.and_false, if_true, if_false, Bool.not_true, Bool.not_false, Bool.false_eq_true, reduceIte, Option.bind_some, Option.map_some, valI, Nat.reduceAdd, Nat.reduceLeDiff, Nat.reduceSub, Nat.reduceLT, Nat.zero_add, List.reduceReplicate, dn_eVar, dn_eInt, dn_eBl, dn_eNon, dn_eStr, dn_eGlob, dn_mkBin, dn_mkCmp, dn_mkIn, dn_mkChain, dn_eNot, dn_bOne, dn_bAnd, dn_bOr, dn_eBool, dn_tV, dn_tNt, dn_wOne, dn_wAnd, dn_wOr, dn_tBool, dn_eIf, dn_aNil, dn_aCons, dn_eTup, dn_eLst, dn_eIx, dn_oNone, dn_oSome, dn_eSl, dn_eCall, dn_eCall0, dn_bNil, dn_bCons, dn_sSet, dn_sRet, dn_sExpr, dn_sPass, dn_sBreak, dn_sCont, dn_sIf, dn_sAsg, dn_iSeq, dn_iRange, dn_iZip, dn_sFor, dn_sWhile, dn_qNil, dn_qOne, dn_kOne, dn_kTwo, dn_sSetC, dn_mkMeth, dn_mkMeth0, dn_eTIx, dn_tTok, dn_eTok, dn_sIxSet, dn_eNeg, dn_eIsi, dn_eRev, dn_rg1, dn_rg2, dn_eLstRg, dn_eTupRg, dn_sAug, dn_sPar2, dn_kwNil, dn_kwCons, dn_eCallK, dn_eCallK0, dn_kTok, dn_sForT, dn_eC, dn_tC', dn_eK, dn_eAdd, dn_eSub, dn_eMul, dn_eFdiv, dn_eMod, dn_ePow, dn_eShl, dn_eShr, dn_eAnd2, dn_eOr2, dn_cEq, dn_cNe, dn_cLt, dn_cLe, dn_cGt, dn_cGe, dn_cLeLe, dn_eLen, dn_eTupOf, dn_eLstOf, dn_eIntOf, dn_eAbs, dn_eStrOf, dn_eAny, dn_eAll, dn_eSum, dn_eMax1, dn_eMin1, dn_eSorted, dn_eMin2, dn_eMax2, dn_mAppendE, dn_mExtendE, dn_mPopE, dn_mPopAtE, dn_mReverseE, dn_mInsertE, dn_cIs, dn_cIsNot, dn_cIn, dn_cNotIn]
      rfl
  | cons x told =>
    have h0 : (decide ((0 : Int) < (((x :: told).map Fld.d).length : Nat))) = true := dok (by rw [List.length_map, List.length_cons]; omega)
    refine ⟨x :: told, g', by omega, p3, p5.mono (by omega), ?_⟩
    generalize (x :: told) = tt at *
    simp only [h0, runB_eq, frame0, ob_ok, ob_bad, ob_ite, fo_ok, fo_bad, fo_ite, fn_nx, fn_rt, fn_bk, fn_ct, fn_bad, fn_ite, op_some, op_none, op_ite, fz_dat, fz_own, so_dat, so_own, re_dat, re_own, endB_rt, endB_nx, endB_bad, endB_ite, dVar, dC, dBin, eD, dAnd, dOr, dTru, asB, dtAnd, dtOr, dChain, ib_bl, dCons, ho_dat, ho_own, ho_pk, sq_tup, sq_lst, sq_own, sq_pk, sk_tup, sk_lst, sk_own, sk_pk, ix_tup, ix_lst, ix_pk, sl_tup, sl_lst, sl_scr, tr_non, tr_bl, tr_int, tr_tup, tr_lst, tr_own, ln_tup, ln_lst, ln_own, ln_scr, ln_str, ln_pk, tp_tup, tp_lst, tp_own, tp_pk, ls_tup, ls_lst, ls_own, ad_int, ad_str, ad_tup, ad_lst, oi_int, ob_int, ob_str, lt_int, eq_int, it_tup, it_lst, it_scr, ie_int, ie_bl, io_int, vl_dat, at_0, at_1, at_2, is_non, cl_true, rg_1, rg_2, rg_3, dCall_eq, dCallK_eq, back_ok, dCall1, dCallN, min2D, max2D, negD, putS, dFor, line_le, line_lt, and_self, and_true, List.map_cons, List.map_nil, List.length_cons, List.length_nil, List.cons_append, List.nil_append, List.getElem?_cons_zero, List.getElem?_cons_succ, List.set_cons_zero, List.set_cons_succ, Bool.true_and, Bool.and_true, Bool.false_and, Bool.and_false, if_true, if_false, Bool.not_true, Bool.not_false, Bool.false_eq_true, reduceIte, Option.bind_some, Option.map_some, valI, Nat.reduceAdd, Nat.reduceLeDiff, Nat.reduceSub, Nat.reduceLT, Nat.zero_add, List.reduceReplicate, dn_eVar, dn_eInt, dn_eBl, dn_eNon, dn_eStr, dn_eGlob, dn_mkBin, dn_mkCmp, dn_mkIn, dn_mkChain, dn_eNot, dn_bOne, dn_bAnd, dn_bOr, dn_eBool, dn_tV, dn_tNt, dn_wOne, dn_wAnd, dn_wOr, dn_tBool, dn_eIf, dn_aNil, dn_aCons, dn_eTup, dn_eLst, dn_eIx, dn_oNone, dn_oSome, dn_eSl, dn_eCall, dn_eCall0, dn_bNil, dn_bCons, dn_sSet, dn_sRet, dn_sExpr, dn_sPass, dn_sBreak, dn_sCont, dn_sIf, dn_sAsg, dn_iSeq, dn_iRange, dn_iZip, dn_sFor, dn_sWhile, dn_qNil, dn_qOne, dn_kOne, dn_kTwo, dn_sSetC, dn_mkMeth, dn_mkMeth0, dn_eTIx, dn_tTok, dn_eTok, dn_sIxSet, dn_eNeg, dn_eIsi, dn_eRev, dn_rg1, dn_rg2, dn_eLstRg, dn_eTupRg, dn_sAug, dn_sPar2, dn_kwNil, dn_kwCons, dn_eCallK, dn_eCallK0, dn_kTok, dn_sForT, dn_eC, dn_tC', dn_eK, dn_eAdd, dn_eSub, dn_eMul, dn_eFdiv, dn_eMod, dn_ePow, dn_eShl, dn_eShr, dn_eAnd2, dn_eOr2, dn_cEq, dn_cNe, dn_cLt, dn_cLe, dn_cGt, dn_cGe, dn_cLeLe, dn_eLen, dn_eTupOf, dn_eLstOf, dn_eIntOf, dn_eAbs, dn_eStrOf, dn_eAny, dn_eAll, dn_eSum, dn_eMax1, dn_eMin1, dn_eSorted, dn_eMin2, dn_eMax2, dn_mAppendE, dn_mExtendE, dn_mPopE, dn_mPopAtE, dn_mReverseE, dn_mInsertE, dn_cIs, dn_cIsNot, dn_cIn, dn_cNotIn]
end K38

namespace K38
open PySem PySem.Spec RB
abbrev ruleS (f : List Fld) (told : List Cnd) (x3 x4 x5 x6 x7 : Option Sl) (g : TkG) : Stt TkG := ⟨[some (.dat (.tok 1)), some (.dat (formD f)), some (.own (told.map Cnd.d)), x3, x4, x5, x6, x7, none], g⟩
theorem fz_pk (i : Nat) (fr : Fr) (g : TkG) : frz (.pk i) ⟨fr, g⟩ = match fr[i]? with
  | some (some (.own xs)) => .ok (.lst xs) ⟨fr.set i (some (.dat (.lst xs))), g⟩
  | _ => .bad := rfl
theorem some_eq (n : Nat) (g : TkG) (hg : LOK n g) (hn : n + 3000 ≤ 1000000000) (vs : List Str) (hv : vs.length ≤ 2001) (a1 a2 a3 a5 a6 a7 : Option Sl) : ∃ (ps : List Str) (g' : TkG), ps.length ≤ vs.length ∧ LOK (n + vs.length) g' ∧
    k__law_rule_1.den ⟨[some (.dat (.tok 1)), a1, a2, a3, some (.own (vs.map .str)), a5, a6, a7, none], g⟩ = .ok (.own (ps.map D.str)) ⟨[some (.dat (.tok 1)), a1, a2, a3, some (.dat (.lst (vs.map .str))), a5, a6, a7, none], g'⟩ := by
  obtain ⟨acc', s', e, ps, g', rfl, h1, h3, rfl⟩ := compD_inv (g := (gN 8 : GI TkG).den) (t := (qOne (tC' (cEq (eCall fr__law_weave (aCons (eVar 0) (aCons (eInt 2) aNil))) (eInt 0)))).den) (e := (eVar 8 : EI TkG).den) (vs := [8]) (vs.map D.str)
    (fun k acc s => ∃ (ps : List Str) (g' : TkG), acc = ps.map D.str ∧ ps.length ≤ k ∧ LOK (n + k) g' ∧ s = (⟨[some (.dat (.tok 1)), a1, a2, a3, some (.dat (.lst (vs.map .str))), a5, a6, a7, none], g'⟩ : Stt TkG))
    (fun k hk acc s ⟨ps, g', h0, h1, h3, hs⟩ => by
      subst hs h0
      rw [List.length_map] at hk
      rw [List.getElem_map]
      obtain ⟨c, g2, hc, e2, l2⟩ := weave_eq 2 (by omega) (by omega) (n + k) (by omega) g' h3
      have e2' : F__law_weave [.tok 1, .int 2] g' = .ok (.dat (.int c)) g2 := e2
      refine ⟨_, (c : Int) == 0, ⟨[some (.dat (.tok 1)), a1, a2, a3, some (.dat (.lst (vs.map .str))), a5, a6, a7, some (.dat (.str vs[k]))], g2⟩, rfl, ?_, fun _ => ⟨.str vs[k], _, rfl, ?_, ps ++ [vs[k]], g2, ?_, ?_, l2, rfl⟩, fun _ => ⟨ps, g2, rfl, by omega, l2, rfl⟩⟩
      · simp only [fr__law_weave, e2', runB_eq, frame0, ob_ok, ob_bad, ob_ite, fo_ok, fo_bad, fo_ite, fn_nx, fn_rt, fn_bk, fn_ct, fn_bad, fn_ite, op_some, op_none, op_ite, fz_dat, fz_own, so_dat, so_own, re_dat, re_own, endB_rt, endB_nx, endB_bad, endB_ite, dVar, dC, dBin, eD, dAnd, dOr, dTru, asB, dtAnd, dtOr, dChain, ib_bl, dCons, ho_dat, ho_own, ho_pk, sq_tup, sq_lst, sq_own, sq_pk, sk_tup, sk_lst, sk_own, sk_pk, ix_tup, ix_lst, ix_pk, sl_tup, sl_lst, sl_scr, tr_non, tr_bl, tr_int, tr_tup, tr_lst, tr_own, ln_tup, ln_lst, ln_own, ln_scr, ln_str, ln_pk, tp_tup, tp_lst, tp_own, tp_pk, ls_tup, ls_lst, ls_own, ad_int, ad_str, ad_tup, ad_lst, oi_int, ob_int, ob_str, lt_int, eq_int, it_tup, it_lst, it_scr, ie_int, ie_bl, io_int, vl_dat, at_0, at_1, at_2, is_non, cl_true, rg_1, rg_2, rg_3, dCall_eq, dCallK_eq, back_ok, dCall1, dCallN, min2D, max2D, negD, putS, dFor, line_le, line_lt, and_self, and_true, List.map_cons, List.map_nil, List.length_cons, List.length_nil, List.cons_append, List.nil_append, List.getElem?_cons_zero, List.getElem?_cons_succ, List.set_cons_zero, List.set_cons_succ, Bool.true_and, Bool.and_true, Bool.false_and, Bool.and_false, if_true, if_false, Bool.not_true, Bool.not_false, Bool.false_eq_true, reduceIte, Option.bind_some, Option.map_some, valI, Nat.reduceAdd, Nat.reduceLeDiff, Nat.reduceSub, Nat.reduceLT, Nat.zero_add, List.reduceReplicate, dn_eVar, dn_eInt, dn_eBl, dn_eNon, dn_eStr, dn_eGlob, dn_mkBin, dn_mkCmp, dn_mkIn, dn_mkChain, dn_eNot, dn_bOne, dn_bAnd, dn_bOr, dn_eBool, dn_tV, dn_tNt, dn_wOne, dn_wAnd, dn_wOr, dn_tBool, dn_eIf, dn_aNil, dn_aCons, dn_eTup, dn_eLst, dn_eIx, dn_oNone, dn_oSome, dn_eSl, dn_eCall, dn_eCall0, dn_bNil, dn_bCons, dn_sSet, dn_sRet, dn_sExpr, dn_sPass, dn_sBreak, dn_sCont, dn_sIf, dn_sAsg, dn_iSeq, dn_iRange, dn_iZip, dn_sFor, dn_sWhile, dn_qNil, dn_qOne, dn_kOne, dn_kTwo, dn_sSetC, dn_mkMeth, dn_mkMeth0, dn_eTIx, dn_tTok, dn_eTok, dn_sIxSet, dn_eNeg, dn_eIsi, dn_eRev, dn_rg1, dn_rg2, dn_eLstRg, dn_eTupRg, dn_sAug, dn_sPar2, dn_kwNil, dn_kwCons, dn_eCallK, dn_eCallK0, dn_kTok, dn_sForT, dn_eC, dn_tC', dn_eK, dn_eAdd, dn_eSub, dn_eMul, dn_eFdiv, dn_eMod, dn_ePow, dn_eShl, dn_eShr, dn_eAnd2, dn_eOr2, dn_cEq, dn_cNe, dn_cLt, dn_cLe, dn_cGt, dn_cGe, dn_cLeLe, dn_eLen, dn_eTupOf, dn_eLstOf, dn_eIntOf, dn_eAbs, dn_eStrOf, dn_eAny, dn_eAll, dn_eSum, dn_eMax1, dn_eMin1, dn_eSorted, dn_eMin2, dn_eMax2, dn_mAppendE, dn_mExtendE, dn_mPopE, dn_mPopAtE, dn_mReverseE, dn_mInsertE, dn_cIs, dn_cIsNot, dn_cIn, dn_cNotIn, dn_gN, dn_gT, dn_gsNil, dn_gsCons]
      · rw [List.length_map, sizeLine_eq]; omega
      · rw [List.map_append]; rfl
      · rw [List.length_append, List.length_singleton]; omega)
    ⟨[some (.dat (.tok 1)), a1, a2, a3, some (.dat (.lst (vs.map .str))), a5, a6, a7, none], g⟩ [] ⟨[], g, rfl, Nat.le_refl _, hg, rfl⟩
  rw [List.length_map] at h1 h3
  refine ⟨ps, g', h1, h3, ?_⟩
  simp only [k__law_rule_1, dn_kOne, List.map_cons, List.map_nil]
  refine (dComp_eq (s1 := ⟨[some (.dat (.tok 1)), a1, a2, a3, some (.dat (.lst (vs.map .str))), a5, a6, a7, none], g⟩) ?_ e).trans rfl
  simp only [fz_pk, runB_eq, frame0, ob_ok, ob_bad, ob_ite, fo_ok, fo_bad, fo_ite, fn_nx, fn_rt, fn_bk, fn_ct, fn_bad, fn_ite, op_some, op_none, op_ite, fz_dat, fz_own, so_dat, so_own, re_dat, re_own, endB_rt, endB_nx, endB_bad, endB_ite, dVar, dC, dBin, eD, dAnd, dOr, dTru, asB, dtAnd, dtOr, dChain, ib_bl, dCons, ho_dat, ho_own, ho_pk, sq_tup, sq_lst, sq_own, sq_pk, sk_tup, sk_lst, sk_own, sk_pk, ix_tup, ix_lst, ix_pk, sl_tup, sl_lst, sl_scr, tr_non, tr_bl, tr_int, tr_tup, tr_lst, tr_own, ln_tup, ln_lst, ln_own, ln_scr, ln_str, ln_pk, tp_tup, tp_lst, tp_own, tp_pk, ls_tup, ls_lst, ls_own, ad_int, ad_str, ad_tup, ad_lst, oi_int, ob_int, ob_str, lt_int, eq_int, it_tup, it_lst, it_scr, ie_int, ie_bl, io_int, vl_dat, at_0, at_1, at_2, is_non, cl_true, rg_1, rg_2, rg_3, dCall_eq, dCallK_eq, back_ok, dCall1, dCallN, min2D, max2D, negD, putS, dFor, line_le, line_lt, and_self, and_true, List.map_cons, List.map_nil, List.length_cons, List.length_nil, List.cons_append, List.nil_append, List.getElem?_cons_zero, List.getElem?_cons_succ, List.set_cons_zero, List.set_cons_succ, Bool.true_and, Bool.and_true, Bool.false_and, Bool.and_false, if_true, if_false, Bool.not_true, Bool.not_false, Bool.false_eq_true, reduceIte, Option.bind_some, Option.map_some, valI, Nat.reduceAdd, Nat.reduceLeDiff, Nat.reduceSub, Nat.reduceLT, Nat.zero_add, List.reduceReplicate, dn_eVar, dn_eInt, dn_eBl, dn_eNon, dn_eStr, dn_eGlob, dn_mkBin, dn_mkCmp, dn_mkIn, dn_mkChain, dn_eNot, dn_bOne, dn_bAnd, dn_bOr, dn_eBool, dn_tV, dn_tNt, dn_wOne, dn_wAnd, dn_wOr, dn_tBool, dn_eIf, dn_aNil, dn_aCons, dn_eTup, dn_eLst, dn_eIx, dn_oNone, dn_oSome, dn_eSl, dn_eCall, dn_eCall0, dn_bNil, dn_bCons, dn_sSet, dn_sRet, dn_sExpr, dn_sPass, dn_sBreak, dn_sCont, dn_sIf, dn_sAsg, dn_iSeq, dn_iRange, dn_iZip, dn_sFor, dn_sWhile, dn_qNil, dn_qOne, dn_kOne, dn_kTwo, dn_sSetC, dn_mkMeth, dn_mkMeth0, dn_eTIx, dn_tTok, dn_eTok, dn_sIxSet, dn_eNeg, dn_eIsi, dn_eRev, dn_rg1, dn_rg2, dn_eLstRg, dn_eTupRg, dn_sAug, dn_sPar2, dn_kwNil, dn_kwCons, dn_eCallK, dn_eCallK0, dn_kTok, dn_sForT, dn_eC, dn_tC', dn_eK, dn_eAdd, dn_eSub, dn_eMul, dn_eFdiv, dn_eMod, dn_ePow, dn_eShl, dn_eShr, dn_eAnd2, dn_eOr2, dn_cEq, dn_cNe, dn_cLt, dn_cLe, dn_cGt, dn_cGe, dn_cLeLe, dn_eLen, dn_eTupOf, dn_eLstOf, dn_eIntOf, dn_eAbs, dn_eStrOf, dn_eAny, dn_eAll, dn_eSum, dn_eMax1, dn_eMin1, dn_eSorted, dn_eMin2, dn_eMax2, dn_mAppendE, dn_mExtendE, dn_mPopE, dn_mPopAtE, dn_mReverseE, dn_mInsertE, dn_cIs, dn_cIsNot, dn_cIn, dn_cNotIn]
theorem rule_lap (f : List Fld) (x : Fld) (ok : x.ok) (n : Nat) (hn : n + 3000 ≤ 1000000000) (g : TkG) (hg : LOK n g) (told : List Cnd) (hl : told.length ≤ 1000) (x4 x5 x6 x7 : Option Sl) :
    ∃ (c : Cnd) (y4 y5 y6 y7 : Option Sl) (g' : TkG), c.isN = x.isN ∧ c.ok ∧ LOK (n + 3000) g' ∧ l__law_rule_1.den (ruleS f told (some (.dat x.d)) x4 x5 x6 x7 g) = .nx (ruleS f (told ++ [c]) (some (.dat x.d)) y4 y5 y6 y7 g') := by
  have ev := law_values_eq x ok
  have en := law_numbers_eq x ok
  have hlen : told.length ≤ 100000 := by omega
  cases x with
  | num nm lo hi =>
    have hv := Fld.ok_vals ok
    obtain ⟨g1, k1, hk1, e1, h1⟩ := law_of_eq _ hv.1 (by omega) n (by omega) g hg
    obtain ⟨g2, k2, hk2, e2, h2⟩ := law_of_eq _ hv.1 (by omega) _ (by omega) g1 h1
    have i1 : (Fld.num nm lo hi).vals[k1] = .int (lo + k1) := by simp only [Fld.vals, rngL_get]
    have i2 : (Fld.num nm lo hi).vals[k2] = .int (lo + k2) := by simp only [Fld.vals, rngL_get]
    rw [i1] at e1
    rw [i2] at e2
    generalize lo + (k1 : Int) = i at e1 i1
    generalize lo + (k2 : Int) = j at e2 i2
    refine ⟨.num (if j < i then j else i) (if j > i then j else i), some (.dat (.lst (Fld.num nm lo hi).vals)), some (.dat (.int i)), some (.dat (.int j)), x7, g2, rfl, trivial, h2.mono (by omega), ?_⟩
    simp only [l__law_rule_1, dMut, fz_pk, fr__law_values, fr__law_numbers, fr__law_of, ev, en, e1, e2, Fld.isN, mv_pk, mAppend, List.length_map, hlen, runB_eq, frame0, ob_ok, ob_bad, ob_ite, fo_ok, fo_bad, fo_ite, fn_nx, fn_rt, fn_bk, fn_ct, fn_bad, fn_ite, op_some, op_none, op_ite, fz_dat, fz_own, so_dat, so_own, re_dat, re_own, endB_rt, endB_nx, endB_bad, endB_ite, dVar, dC, dBin, eD, dAnd, dOr, dTru, asB, dtAnd, dtOr, dChain, ib_bl, dCons, ho_dat, ho_own, ho_pk, sq_tup, sq_lst, sq_own, sq_pk, sk_tup, sk_lst, sk_own, sk_pk, ix_tup, ix_lst, ix_pk, sl_tup, sl_lst, sl_scr, tr_non, tr_bl, tr_int, tr_tup, tr_lst, tr_own, ln_tup, ln_lst, ln_own, ln_scr, ln_str, ln_pk, tp_tup, tp_lst, tp_own, tp_pk, ls_tup, ls_lst, ls_own, ad_int, ad_str, ad_tup, ad_lst, oi_int, ob_int, ob_str, lt_int, eq_int, it_tup, it_lst, it_scr, ie_int, ie_bl, io_int, vl_dat, at_0, at_1, at_2, is_non, cl_true, rg_1, rg_2, rg_3, dCall_eq, dCallK_eq, back_ok, dCall1, dCallN, min2D, max2D, negD, putS, dFor, line_le, line_lt, and_self, and_true, List.map_cons, List.map_nil, List.length_cons, List.length_nil, List.cons_append, List.nil_append, List.getElem?_cons_zero, List.getElem?_cons_succ, List.set_cons_zero, List.set_cons_succ, Bool.true_and, Bool.and_true, Bool.false_and, Bool.and_false, if_true, if_false, Bool.not_true, Bool.not_false, Bool.false_eq_true, reduceIte, Option.bind_some, Option.map_some, valI, Nat.reduceAdd, Nat.reduceLeDiff, Nat.reduceSub, Nat.reduceLT, Nat.zero_add, List.reduceReplicate, dn_eVar, dn_eInt, dn_eBl, dn_eNon, dn_eStr, dn_eGlob, dn_mkBin, dn_mkCmp, dn_mkIn, dn_mkChain, dn_eNot, dn_bOne, dn_bAnd, dn_bOr, dn_eBool, dn_tV, dn_tNt, dn_wOne, dn_wAnd, dn_wOr, dn_tBool, dn_eIf, dn_aNil, dn_aCons, dn_eTup, dn_eLst, dn_eIx, dn_oNone, dn_oSome, dn_eSl, dn_eCall, dn_eCall0, dn_bNil, dn_bCons, dn_sSet, dn_sRet, dn_sExpr, dn_sPass, dn_sBreak, dn_sCont, dn_sIf, dn_sAsg, dn_iSeq, dn_iRange, dn_iZip, dn_sFor, dn_sWhile, dn_qNil, dn_qOne, dn_kOne, dn_kTwo, dn_sSetC, dn_mkMeth, dn_mkMeth0, dn_eTIx, dn_tTok, dn_eTok, dn_sIxSet, dn_eNeg, dn_eIsi, dn_eRev, dn_rg1, dn_rg2, dn_eLstRg, dn_eTupRg, dn_sAug, dn_sPar2, dn_kwNil, dn_kwCons, dn_eCallK, dn_eCallK0, dn_kTok, dn_sForT, dn_eC, dn_tC', dn_eK, dn_eAdd, dn_eSub, dn_eMul, dn_eFdiv, dn_eMod, dn_ePow, dn_eShl, dn_eShr, dn_eAnd2, dn_eOr2, dn_cEq, dn_cNe, dn_cLt, dn_cLe, dn_cGt, dn_cGe, dn_cLeLe, dn_eLen, dn_eTupOf, dn_eLstOf, dn_eIntOf, dn_eAbs, dn_eStrOf, dn_eAny, dn_eAll, dn_eSum, dn_eMax1, dn_eMin1, dn_eSorted, dn_eMin2, dn_eMax2, dn_mAppendE, dn_mExtendE, dn_mPopE, dn_mPopAtE, dn_mReverseE, dn_mInsertE, dn_cIs, dn_cIsNot, dn_cIn, dn_cNotIn, dn_gN, dn_gT, dn_gsNil, dn_gsCons]
    unfold ruleS; rw [List.map_append]; rfl
  | wrd nm vs =>
    have hv := Fld.ok_vals ok
    have evs : (Fld.wrd nm vs).vals = vs.map D.str := rfl
    rw [evs] at hv ev
    rw [List.length_map] at hv
    obtain ⟨ps, g1, hps, h1, e1⟩ := some_eq n g hg (by omega) vs hv.2 (some (.dat (formD f))) (some (.own (told.map Cnd.d))) (some (.dat (Fld.wrd nm vs).d)) x5 x6 x7
    cases ps with
    | nil =>
      obtain ⟨g2, k2, hk2, e2, h2⟩ := law_of_eq (vs.map D.str) (by rw [List.length_map]; exact hv.1) (by rw [List.length_map]; omega) _ (by omega) g1 h1
      have h0 : (decide ((0 : Int) < ((0 : Nat) : Int))) = false := rfl
      rw [List.getElem_map] at e2
      refine ⟨.wrd [vs[k2]'(by rw [List.length_map] at hk2; exact hk2)], some (.dat (.lst (vs.map .str))), x5, x6, some (.own []), g2, rfl, ⟨by simp, by simp⟩, h2.mono (by omega), ?_⟩
      simp only [l__law_rule_1, dMut, fz_pk, fr__law_values, fr__law_numbers, fr__law_of, ev, en, e1, e2, h0, Fld.isN, mv_pk, mAppend, List.length_map, hlen, runB_eq, frame0, ob_ok, ob_bad, ob_ite, fo_ok, fo_bad, fo_ite, fn_nx, fn_rt, fn_bk, fn_ct, fn_bad, fn_ite, op_some, op_none, op_ite, fz_dat, fz_own, so_dat, so_own, re_dat, re_own, endB_rt, endB_nx, endB_bad, endB_ite, dVar, dC, dBin, eD, dAnd, dOr, dTru, asB, dtAnd, dtOr, dChain, ib_bl, dCons, ho_dat, ho_own, ho_pk, sq_tup, sq_lst, sq_own, sq_pk, sk_tup, sk_lst, sk_own, sk_pk, ix_tup, ix_lst, ix_pk, sl_tup, sl_lst, sl_scr, tr_non, tr_bl, tr_int, tr_tup, tr_lst, tr_own, ln_tup, ln_lst, ln_own, ln_scr, ln_str, ln_pk, tp_tup, tp_lst, tp_own, tp_pk, ls_tup, ls_lst, ls_own, ad_int, ad_str, ad_tup, ad_lst, oi_int, ob_int, ob_str, lt_int, eq_int, it_tup, it_lst, it_scr, ie_int, ie_bl, io_int, vl_dat, at_0, at_1, at_2, is_non, cl_true, rg_1, rg_2, rg_3, dCall_eq, dCallK_eq, back_ok, dCall1, dCallN, min2D, max2D, negD, putS, dFor, line_le, line_lt, and_self, and_true, List.map_cons, List.map_nil, List.length_cons, List.length_nil, List.cons_append, List.nil_append, List.getElem?_cons_zero, List.getElem?_cons_succ, List.set_cons_zero, List.set_cons_succ, Bool.true_and, Bool.and_true, Bool.false_and, Bool.and_false, if_true, if_false, Bool.not_true, Bool.not_false, Bool.false_eq_true, reduceIte, Option.bind_some, Option.map_some, valI, Nat.reduceAdd, Nat.reduceLeDiff, Nat.reduceSub, Nat.reduceLT, Nat.zero_add, List.reduceReplicate, dn_eVar, dn_eInt, dn_eBl, dn_eNon, dn_eStr, dn_eGlob, dn_mkBin, dn_mkCmp, dn_mkIn, dn_mkChain, dn_eNot, dn_bOne, dn_bAnd, dn_bOr, dn_eBool, dn_tV, dn_tNt, dn_wOne, dn_wAnd, dn_wOr, dn_tBool, dn_eIf, dn_aNil, dn_aCons, dn_eTup, dn_eLst, dn_eIx, dn_oNone, dn_oSome, dn_eSl, dn_eCall, dn_eCall0, dn_bNil, dn_bCons, dn_sSet, dn_sRet, dn_sExpr, dn_sPass, dn_sBreak, dn_sCont, dn_sIf, dn_sAsg, dn_iSeq, dn_iRange, dn_iZip, dn_sFor, dn_sWhile, dn_qNil, dn_qOne, dn_kOne, dn_kTwo, dn_sSetC, dn_mkMeth, dn_mkMeth0, dn_eTIx, dn_tTok, dn_eTok, dn_sIxSet, dn_eNeg, dn_eIsi, dn_eRev, dn_rg1, dn_rg2, dn_eLstRg, dn_eTupRg, dn_sAug, dn_sPar2, dn_kwNil, dn_kwCons, dn_eCallK, dn_eCallK0, dn_kTok, dn_sForT, dn_eC, dn_tC', dn_eK, dn_eAdd, dn_eSub, dn_eMul, dn_eFdiv, dn_eMod, dn_ePow, dn_eShl, dn_eShr, dn_eAnd2, dn_eOr2, dn_cEq, dn_cNe, dn_cLt, dn_cLe, dn_cGt, dn_cGe, dn_cLeLe, dn_eLen, dn_eTupOf, dn_eLstOf, dn_eIntOf, dn_eAbs, dn_eStrOf, dn_eAny, dn_eAll, dn_eSum, dn_eMax1, dn_eMin1, dn_eSorted, dn_eMin2, dn_eMax2, dn_mAppendE, dn_mExtendE, dn_mPopE, dn_mPopAtE, dn_mReverseE, dn_mInsertE, dn_cIs, dn_cIsNot, dn_cIn, dn_cNotIn, dn_gN, dn_gT, dn_gsNil, dn_gsCons]
      unfold ruleS; rw [List.map_append]; rfl
    | cons p ps =>
      have h0 : (decide ((0 : Int) < (((p :: ps) : List Str).length : Nat))) = true := dok (by rw [List.length_cons]; omega)
      refine ⟨.wrd (p :: ps), some (.dat (.lst (vs.map .str))), x5, x6, some (.own ((p :: ps).map .str)), g1, rfl, ⟨by simp, ?_⟩, h1.mono (by omega), ?_⟩
      · have := ok.2; omega
      · generalize p :: ps = qs at *
        simp only [l__law_rule_1, dMut, fz_pk, fr__law_values, fr__law_numbers, fr__law_of, ev, en, e1, h0, Fld.isN, mv_pk, mAppend, List.length_map, hlen, runB_eq, frame0, ob_ok, ob_bad, ob_ite, fo_ok, fo_bad, fo_ite, fn_nx, fn_rt, fn_bk, fn_ct, fn_bad, fn_ite, op_some, op_none, op_ite, fz_dat, fz_own, so_dat, so_own, re_dat, re_own, endB_rt, endB_nx, endB_bad, endB_ite, dVar, dC, dBin, eD, dAnd, dOr, dTru, asB, dtAnd, dtOr, dChain, ib_bl, dCons, ho_dat, ho_own, ho_pk, sq_tup, sq_lst, sq_own, sq_pk, sk_tup, sk_lst, sk_own, sk_pk, ix_tup, ix_lst, ix_pk, sl_tup, sl_lst, sl_scr, tr_non, tr_bl, tr_int, tr_tup, tr_lst, tr_own, ln_tup, ln_lst, ln_own, ln_scr, ln_str, ln_pk, tp_tup, tp_lst, tp_own, tp_pk, ls_tup, ls_lst, ls_own, ad_int, ad_str, ad_tup, ad_lst, oi_int, ob_int, ob_str, lt_int, eq_int, it_tup, it_lst, it_scr, ie_int, ie_bl, io_int, vl_dat, at_0, at_1, at_2, is_non, cl_true, rg_1, rg_2, rg_3, dCall_eq, dCallK_eq, back_ok, dCall1, dCallN, min2D, max2D, negD, putS, dFor, line_le, line_lt, and_self, and_true, List.map_cons, List.map_nil, List.length_cons, List.length_nil, List.cons_append, List.nil_append, List.getElem?_cons_zero, List.getElem?_cons_succ, List.set_cons_zero, List.set_cons_succ, Bool.true_and, Bool.and_true, Bool.false_and, Bool.and_false, if_true, if_false, Bool.not_true, Bool.not_false, Bool.false_eq_true, reduceIte, Option.bind_some, Option.map_some, valI, Nat.reduceAdd, Nat.reduceLeDiff, Nat.reduceSub, Nat.reduceLT, Nat.zero_add, List.reduceReplicate, dn_eVar, dn_eInt, dn_eBl, dn_eNon, dn_eStr, dn_eGlob, dn_mkBin, dn_mkCmp, dn_mkIn, dn_mkChain, dn_eNot, dn_bOne, dn_bAnd, dn_bOr, dn_eBool, dn_tV, dn_tNt, dn_wOne, dn_wAnd, dn_wOr, dn_tBool, dn_eIf, dn_aNil, dn_aCons, dn_eTup, dn_eLst, dn_eIx, dn_oNone, dn_oSome, dn_eSl, dn_eCall, dn_eCall0, dn_bNil, dn_bCons, dn_sSet, dn_sRet, dn_sExpr, dn_sPass, dn_sBreak, dn_sCont, dn_sIf, dn_sAsg, dn_iSeq, dn_iRange, dn_iZip, dn_sFor, dn_sWhile, dn_qNil, dn_qOne, dn_kOne, dn_kTwo, dn_sSetC, dn_mkMeth, dn_mkMeth0, dn_eTIx, dn_tTok, dn_eTok, dn_sIxSet, dn_eNeg, dn_eIsi, dn_eRev, dn_rg1, dn_rg2, dn_eLstRg, dn_eTupRg, dn_sAug, dn_sPar2, dn_kwNil, dn_kwCons, dn_eCallK, dn_eCallK0, dn_kTok, dn_sForT, dn_eC, dn_tC', dn_eK, dn_eAdd, dn_eSub, dn_eMul, dn_eFdiv, dn_eMod, dn_ePow, dn_eShl, dn_eShr, dn_eAnd2, dn_eOr2, dn_cEq, dn_cNe, dn_cLt, dn_cLe, dn_cGt, dn_cGe, dn_cLeLe, dn_eLen, dn_eTupOf, dn_eLstOf, dn_eIntOf, dn_eAbs, dn_eStrOf, dn_eAny, dn_eAll, dn_eSum, dn_eMax1, dn_eMin1, dn_eSorted, dn_eMin2, dn_eMax2, dn_mAppendE, dn_mExtendE, dn_mPopE, dn_mPopAtE, dn_mReverseE, dn_mInsertE, dn_cIs, dn_cIsNot, dn_cIn, dn_cNotIn, dn_gN, dn_gT, dn_gsNil, dn_gsCons]
        unfold ruleS; rw [List.map_append]; rfl
theorem law_rule_eq (f : List Fld) (ok : ∀ x ∈ f, x.ok) (hl : f.length ≤ 64) (n : Nat) (hn : n + 200000 ≤ 1000000000) (g : TkG) (hg : LOK n g) : ∃ (r : Option (List Cnd)) (g' : TkG), RF f r ∧ LOK (n + 200000) g' ∧ F__law_rule [.tok 1, formD f] g = .ok (.dat (ruleD r)) g' := by
  obtain ⟨c, g1, hc, e1, h1⟩ := weave_eq 7 (by omega) (by omega) n (by omega) g hg
  have e1' : F__law_weave [.tok 1, .int 7] g = .ok (.dat (.int c)) g1 := e1
  cases hz : ((c : Int) == 0) with
  | true =>
    refine ⟨none, g1, trivial, h1.mono (by omega), ?_⟩
    simp only [F__law_rule, b__law_rule, fr__law_weave, e1', hz, runB_eq, frame0, ob_ok, ob_bad, ob_ite, fo_ok, fo_bad, fo_ite, fn_nx, fn_rt, fn_bk, fn_ct, fn_bad, fn_ite, op_some, op_none, op_ite, fz_dat, fz_own, so_dat, so_own, re_dat, re_own, endB_rt, endB_nx, endB_bad, endB_ite, dVar, dC, dBin, eD, dAnd, dOr, dTru, asB, dtAnd, dtOr, dChain, ib_bl, dCons, ho_dat, ho_own, ho_pk, sq_tup, sq_lst, sq_own, sq_pk, sk_tup, sk_lst, sk_own, sk_pk, ix_tup, ix_lst, ix_pk, sl_tup, sl_lst, sl_scr, tr_non, tr_bl, tr_int, tr_tup, tr_lst, tr_own, ln_tup, ln_lst, ln_own, ln_scr, ln_str, ln_pk, tp_tup, tp_lst, tp_own, tp_pk, ls_tup, ls_lst, ls_own, ad_int, ad_str, ad_tup, ad_lst, oi_int, ob_int, ob_str, lt_int, eq_int, it_tup, it_lst, it_scr, ie_int, ie_bl, io_int, vl_dat, at_0, at_1, at_2, is_non, cl_true, rg_1, rg_2, rg_3, dCall_eq, dCallK_eq, back_ok, dCall1, dCallN, min2D, max2D, negD, putS, dFor, line_le, line_lt, and_self, and_true, List.map_cons, List.map_nil, List.length_cons, List.length_nil, List.cons_append, List.nil_append, List.getElem?_cons_zero, List.getElem?_cons_succ, List.set_cons_zero, List.set_cons_succ, Bool.true_and, Bool.and_true, Bool.false_and, Bool.and_false, if_true, if_false, Bool.not_true, Bool.not_false, Bool.false_eq_true, reduceIte, Option.bind_some, Option.map_some, valI, Nat.reduceAdd, Nat.reduceLeDiff, Nat.reduceSub, Nat.reduceLT, Nat.zero_add, List.reduceReplicate, dn_eVar, dn_eInt, dn_eBl, dn_eNon, dn_eStr, dn_eGlob, dn_mkBin, dn_mkCmp, dn_mkIn, dn_mkChain, dn_eNot, dn_bOne, dn_bAnd, dn_bOr, dn_eBool, dn_tV, dn_tNt, dn_wOne, dn_wAnd, dn_wOr, dn_tBool, dn_eIf, dn_aNil, dn_aCons, dn_eTup, dn_eLst, dn_eIx, dn_oNone, dn_oSome, dn_eSl, dn_eCall, dn_eCall0, dn_bNil, dn_bCons, dn_sSet, dn_sRet, dn_sExpr, dn_sPass, dn_sBreak, dn_sCont, dn_sIf, dn_sAsg, dn_iSeq, dn_iRange, dn_iZip, dn_sFor, dn_sWhile, dn_qNil, dn_qOne, dn_kOne, dn_kTwo, dn_sSetC, dn_mkMeth, dn_mkMeth0, dn_eTIx, dn_tTok, dn_eTok, dn_sIxSet, dn_eNeg, dn_eIsi, dn_eRev, dn_rg1, dn_rg2, dn_eLstRg, dn_eTupRg, dn_sAug, dn_sPar2, dn_kwNil, dn_kwCons, dn_eCallK, dn_eCallK0, dn_kTok, dn_sForT, dn_eC, dn_tC', dn_eK, dn_eAdd, dn_eSub, dn_eMul, dn_eFdiv, dn_eMod, dn_ePow, dn_eShl, dn_eShr, dn_eAnd2, dn_eOr2, dn_cEq, dn_cNe, dn_cLt, dn_cLe, dn_cGt, dn_cGe, dn_cLeLe, dn_eLen, dn_eTupOf, dn_eLstOf, dn_eIntOf, dn_eAbs, dn_eStrOf, dn_eAny, dn_eAll, dn_eSum, dn_eMax1, dn_eMin1, dn_eSorted, dn_eMin2, dn_eMax2, dn_mAppendE, dn_mExtendE, dn_mPopE, dn_mPopAtE, dn_mReverseE, dn_mInsertE, dn_cIs, dn_cIsNot, dn_cIn, dn_cNotIn]
    rfl
  | false =>
    simp only [F__law_rule, b__law_rule, fr__law_weave, e1', hz, runB_eq, frame0, ob_ok, ob_bad, ob_ite, fo_ok, fo_bad, fo_ite, fn_nx, fn_rt, fn_bk, fn_ct, fn_bad, fn_ite, op_some, op_none, op_ite, fz_dat, fz_own, so_dat, so_own, re_dat, re_own, endB_rt, endB_nx, endB_bad, endB_ite, dVar, dC, dBin, eD, dAnd, dOr, dTru, asB, dtAnd, dtOr, dChain, ib_bl, dCons, ho_dat, ho_own, ho_pk, sq_tup, sq_lst, sq_own, sq_pk, sk_tup, sk_lst, sk_own, sk_pk, ix_tup, ix_lst, ix_pk, sl_tup, sl_lst, sl_scr, tr_non, tr_bl, tr_int, tr_tup, tr_lst, tr_own, ln_tup, ln_lst, ln_own, ln_scr, ln_str, ln_pk, tp_tup, tp_lst, tp_own, tp_pk, ls_tup, ls_lst, ls_own, ad_int, ad_str, ad_tup, ad_lst, oi_int, ob_int, ob_str, lt_int, eq_int, it_tup, it_lst, it_scr, ie_int, ie_bl, io_int, vl_dat, at_0, at_1, at_2, is_non, cl_true, rg_1, rg_2, rg_3, dCall_eq, dCallK_eq, back_ok, dCall1, dCallN, min2D, max2D, negD, putS, dFor, line_le, line_lt, and_self, and_true, List.map_cons, List.map_nil, List.length_cons, List.length_nil, List.cons_append, List.nil_append, List.getElem?_cons_zero, List.getElem?_cons_succ, List.set_cons_zero, List.set_cons_succ, Bool.true_and, Bool.and_true, Bool.false_and, Bool.and_false, if_true, if_false, Bool.not_true, Bool.not_false, Bool.false_eq_true, reduceIte, Option.bind_some, Option.map_some, valI, Nat.reduceAdd, Nat.reduceLeDiff, Nat.reduceSub, Nat.reduceLT, Nat.zero_add, List.reduceReplicate, dn_eVar, dn_eInt, dn_eBl, dn_eNon, dn_eStr, dn_eGlob, dn_mkBin, dn_mkCmp, dn_mkIn, dn_mkChain, dn_eNot, dn_bOne, dn_bAnd, dn_bOr, dn_eBool, dn_tV, dn_tNt, dn_wOne, dn_wAnd, dn_wOr, dn_tBool, dn_eIf, dn_aNil, dn_aCons, dn_eTup, dn_eLst, dn_eIx, dn_oNone, dn_oSome, dn_eSl, dn_eCall, dn_eCall0, dn_bNil, dn_bCons, dn_sSet, dn_sRet, dn_sExpr, dn_sPass, dn_sBreak, dn_sCont, dn_sIf, dn_sAsg, dn_iSeq, dn_iRange, dn_iZip, dn_sFor, dn_sWhile, dn_qNil, dn_qOne, dn_kOne, dn_kTwo, dn_sSetC, dn_mkMeth, dn_mkMeth0, dn_eTIx, dn_tTok, dn_eTok, dn_sIxSet, dn_eNeg, dn_eIsi, dn_eRev, dn_rg1, dn_rg2, dn_eLstRg, dn_eTupRg, dn_sAug, dn_sPar2, dn_kwNil, dn_kwCons, dn_eCallK, dn_eCallK0, dn_kTok, dn_sForT, dn_eC, dn_tC', dn_eK, dn_eAdd, dn_eSub, dn_eMul, dn_eFdiv, dn_eMod, dn_ePow, dn_eShl, dn_eShr, dn_eAnd2, dn_eOr2, dn_cEq, dn_cNe, dn_cLt, dn_cLe, dn_cGt, dn_cGe, dn_cLeLe, dn_eLen, dn_eTupOf, dn_eLstOf, dn_eIntOf, dn_eAbs, dn_eStrOf, dn_eAny, dn_eAll, dn_eSum, dn_eMax1, dn_eMin1, dn_eSorted, dn_eMin2, dn_eMax2, dn_mAppendE, dn_mExtendE, dn_mPopE, dn_mPopAtE, dn_mReverseE, dn_mInsertE, dn_cIs, dn_cIsNot, dn_cIn, dn_cNotIn]
    obtain ⟨s', el, told, x3, x4, x5, x6, x7, g', p1, p2, p3, rfl⟩ := forD_inv (g := (gN 3 : GI TkG).den) (body := l__law_rule_1.den) (f.map Fld.d)
      (fun k s => ∃ (told : List Cnd) (x3 x4 x5 x6 x7 : Option Sl) (g' : TkG), told.map Cnd.isN = (f.take k).map Fld.isN ∧ (∀ c ∈ told, c.ok) ∧ LOK (n + 1 + 3000 * k) g' ∧ s = ruleS f told x3 x4 x5 x6 x7 g')
      (fun k hk s ⟨told, x3, x4, x5, x6, x7, g', p1, p2, p3, hs⟩ => by
        subst hs
        rw [List.length_map] at hk
        rw [List.getElem_map]
        have hlen := congrArg List.length p1
        rw [List.length_map, List.length_map, List.length_take] at hlen
        obtain ⟨c, y4, y5, y6, y7, g2, q1, q2, q3, q4⟩ := rule_lap f f[k] (ok _ (List.getElem_mem hk)) _ (by omega) g' p3 told (by omega) x4 x5 x6 x7
        refine ⟨_, rfl, _, .inl q4, told ++ [c], _, y4, y5, y6, y7, g2, ?_, fun d hd => ?_, q3.mono (by omega), rfl⟩
        · rw [List.take_succ_eq_append_getElem hk, List.map_append, List.map_append, p1, List.map_singleton, List.map_singleton, q1]
        · rcases List.mem_append.mp hd with hd | hd
          · exact p2 d hd
          · rw [List.mem_singleton.mp hd]; exact q2)
      (ruleS f [] none none none none none g1) ⟨[], none, none, none, none, none, g1, rfl, fun c h => (nomatch h), h1, rfl⟩
    have el' : forD (gN 3 : GI TkG).den l__law_rule_1.den (f.map Fld.d) ⟨[some (.dat (.tok 1)), some (.dat (formD f)), some (.own []), none, none, none, none, none, none], g1⟩ = _ := el
    rw [el']
    rw [List.length_map] at p1 p3
    rw [List.take_length] at p1
    refine ⟨some told, g', ⟨p1, p2⟩, p3.mono (by omega), ?_⟩
    unfold ruleS
    simp only [runB_eq, frame0, ob_ok, ob_bad, ob_ite, fo_ok, fo_bad, fo_ite, fn_nx, fn_rt, fn_bk, fn_ct, fn_bad, fn_ite, op_some, op_none, op_ite, fz_dat, fz_own, so_dat, so_own, re_dat, re_own, endB_rt, endB_nx, endB_bad, endB_ite, dVar, dC, dBin, eD, dAnd, dOr, dTru, asB, dtAnd, dtOr, dChain, ib_bl, dCons, ho_dat, ho_own, ho_pk, sq_tup, sq_lst, sq_own, sq_pk, sk_tup, sk_lst, sk_own, sk_pk, ix_tup, ix_lst, ix_pk, sl_tup, sl_lst, sl_scr, tr_non, tr_bl, tr_int, tr_tup, tr_lst, tr_own, ln_tup, ln_lst, ln_own, ln_scr, ln_str, ln_pk, tp_tup, tp_lst, tp_own, tp_pk, ls_tup, ls_lst, ls_own, ad_int, ad_str, ad_tup, ad_lst, oi_int, ob_int, ob_str, lt_int, eq_int, it_tup, it_lst, it_scr, ie_int, ie_bl, io_int, vl_dat, at_0, at_1, at_2, is_non, cl_true, rg_1, rg_2, rg_3, dCall_eq, dCallK_eq, back_ok, dCall1, dCallN, min2D, max2D, negD, putS, dFor, line_le, line_lt, and_self, and_true, List.map_cons, List.map_nil, List.length_cons, List.length_nil, List.cons_append, List.nil_append, List.getElem?_cons_zero, List.getElem?_cons_succ, List.set_cons_zero, List.set_cons_succ, Bool.true_and, Bool.and_true, Bool.false_and, Bool.and_false, if_true, if_false, Bool.not_true, Bool.not_false, Bool.false_eq_true, reduceIte, Option.bind_some, Option.map_some, valI, Nat.reduceAdd, Nat.reduceLeDiff, Nat.reduceSub, Nat.reduceLT, Nat.zero_add, List.reduceReplicate, dn_eVar, dn_eInt, dn_eBl, dn_eNon, dn_eStr, dn_eGlob, dn_mkBin, dn_mkCmp, dn_mkIn, dn_mkChain, dn_eNot, dn_bOne, dn_bAnd, dn_bOr, dn_eBool, dn_tV, dn_tNt, dn_wOne, dn_wAnd, dn_wOr, dn_tBool, dn_eIf, dn_aNil, dn_aCons, dn_eTup, dn_eLst, dn_eIx, dn_oNone, dn_oSome, dn_eSl, dn_eCall, dn_eCall0, dn_bNil, dn_bCons, dn_sSet, dn_sRet, dn_sExpr, dn_sPass, dn_sBreak, dn_sCont, dn_sIf, dn_sAsg, dn_iSeq, dn_iRange, dn_iZip, dn_sFor, dn_sWhile, dn_qNil, dn_qOne, dn_kOne, dn_kTwo, dn_sSetC, dn_mkMeth, dn_mkMeth0, dn_eTIx, dn_tTok, dn_eTok, dn_sIxSet, dn_eNeg, dn_eIsi, dn_eRev, dn_rg1, dn_rg2, dn_eLstRg, dn_eTupRg, dn_sAug, dn_sPar2, dn_kwNil, dn_kwCons, dn_eCallK, dn_eCallK0, dn_kTok, dn_sForT, dn_eC, dn_tC', dn_eK, dn_eAdd, dn_eSub, dn_eMul, dn_eFdiv, dn_eMod, dn_ePow, dn_eShl, dn_eShr, dn_eAnd2, dn_eOr2, dn_cEq, dn_cNe, dn_cLt, dn_cLe, dn_cGt, dn_cGe, dn_cLeLe, dn_eLen, dn_eTupOf, dn_eLstOf, dn_eIntOf, dn_eAbs, dn_eStrOf, dn_eAny, dn_eAll, dn_eSum, dn_eMax1, dn_eMin1, dn_eSorted, dn_eMin2, dn_eMax2, dn_mAppendE, dn_mExtendE, dn_mPopE, dn_mPopAtE, dn_mReverseE, dn_mInsertE, dn_cIs, dn_cIsNot, dn_cIn, dn_cNotIn]
    rfl
theorem numbers_eq (m : Nat) (hm : 0 < m) (hm2 : m < 2 ^ 60) (n : Nat) (hn : n + 1000 ≤ 1000000000) (g : TkG) (hg : LOK n g) : ∃ (ms : List Nat) (g' : TkG), ms.length ≤ 13 ∧ LOK (n + 1000) g' ∧ F__law_numbers_of [.tok 1, .int m] g = .ok (.dat (.tup (ms.map fun k : Nat => .int k))) g' := by
  obtain ⟨c, g1, hc, e1, h1⟩ := weave_eq 13 (by omega) (by omega) n (by omega) g hg
  have e1' : F__law_weave [.tok 1, .int 13] g = .ok (.dat (.int c)) g1 := e1
  have h62 : In62 (c : Int) := in62 (by omega) (by omega)
  simp only [F__law_numbers_of, b__law_numbers_of, fr__law_weave, e1', h62, runB_eq, frame0, ob_ok, ob_bad, ob_ite, fo_ok, fo_bad, fo_ite, fn_nx, fn_rt, fn_bk, fn_ct, fn_bad, fn_ite, op_some, op_none, op_ite, fz_dat, fz_own, so_dat, so_own, re_dat, re_own, endB_rt, endB_nx, endB_bad, endB_ite, dVar, dC, dBin, eD, dAnd, dOr, dTru, asB, dtAnd, dtOr, dChain, ib_bl, dCons, ho_dat, ho_own, ho_pk, sq_tup, sq_lst, sq_own, sq_pk, sk_tup, sk_lst, sk_own, sk_pk, ix_tup, ix_lst, ix_pk, sl_tup, sl_lst, sl_scr, tr_non, tr_bl, tr_int, tr_tup, tr_lst, tr_own, ln_tup, ln_lst, ln_own, ln_scr, ln_str, ln_pk, tp_tup, tp_lst, tp_own, tp_pk, ls_tup, ls_lst, ls_own, ad_int, ad_str, ad_tup, ad_lst, oi_int, ob_int, ob_str, lt_int, eq_int, it_tup, it_lst, it_scr, ie_int, ie_bl, io_int, vl_dat, at_0, at_1, at_2, is_non, cl_true, rg_1, rg_2, rg_3, dCall_eq, dCallK_eq, back_ok, dCall1, dCallN, min2D, max2D, negD, putS, dFor, line_le, line_lt, and_self, and_true, List.map_cons, List.map_nil, List.length_cons, List.length_nil, List.cons_append, List.nil_append, List.getElem?_cons_zero, List.getElem?_cons_succ, List.set_cons_zero, List.set_cons_succ, Bool.true_and, Bool.and_true, Bool.false_and, Bool.and_false, if_true, if_false, Bool.not_true, Bool.not_false, Bool.false_eq_true, reduceIte, Option.bind_some, Option.map_some, valI, Nat.reduceAdd, Nat.reduceLeDiff, Nat.reduceSub, Nat.reduceLT, Nat.zero_add, List.reduceReplicate, dn_eVar, dn_eInt, dn_eBl, dn_eNon, dn_eStr, dn_eGlob, dn_mkBin, dn_mkCmp, dn_mkIn, dn_mkChain, dn_eNot, dn_bOne, dn_bAnd, dn_bOr, dn_eBool, dn_tV, dn_tNt, dn_wOne, dn_wAnd, dn_wOr, dn_tBool, dn_eIf, dn_aNil, dn_aCons, dn_eTup, dn_eLst, dn_eIx, dn_oNone, dn_oSome, dn_eSl, dn_eCall, dn_eCall0, dn_bNil, dn_bCons, dn_sSet, dn_sRet, dn_sExpr, dn_sPass, dn_sBreak, dn_sCont, dn_sIf, dn_sAsg, dn_iSeq, dn_iRange, dn_iZip, dn_sFor, dn_sWhile, dn_qNil, dn_qOne, dn_kOne, dn_kTwo, dn_sSetC, dn_mkMeth, dn_mkMeth0, dn_eTIx, dn_tTok, dn_eTok, dn_sIxSet, dn_eNeg, dn_eIsi, dn_eRev, dn_rg1, dn_rg2, dn_eLstRg, dn_eTupRg, dn_sAug, dn_sPar2, dn_kwNil, dn_kwCons, dn_eCallK, dn_eCallK0, dn_kTok, dn_sForT, dn_eC, dn_tC', dn_eK, dn_eAdd, dn_eSub, dn_eMul, dn_eFdiv, dn_eMod, dn_ePow, dn_eShl, dn_eShr, dn_eAnd2, dn_eOr2, dn_cEq, dn_cNe, dn_cLt, dn_cLe, dn_cGt, dn_cGe, dn_cLeLe, dn_eLen, dn_eTupOf, dn_eLstOf, dn_eIntOf, dn_eAbs, dn_eStrOf, dn_eAny, dn_eAll, dn_eSum, dn_eMax1, dn_eMin1, dn_eSorted, dn_eMin2, dn_eMax2, dn_mAppendE, dn_mExtendE, dn_mPopE, dn_mPopAtE, dn_mReverseE, dn_mInsertE, dn_cIs, dn_cIsNot, dn_cIn, dn_cNotIn]
  have er : (rngL 0 (c : Int).toNat).length = c := by rw [rngL_len, Int.toNat_natCast]
  obtain ⟨s', el, ms, x3, x4, x5, g', p1, p2, rfl⟩ := forD_inv (g := (gN 3 : GI TkG).den) (body := l__law_numbers_of_1.den) (rngL 0 (c : Int).toNat)
    (fun k s => ∃ (ms : List Nat) (x3 x4 x5 : Option Sl) (g' : TkG), ms.length = k ∧ LOK (n + 1 + 3 * k) g' ∧ s = (⟨[some (.dat (.tok 1)), some (.dat (.int m)), some (.own (ms.map fun k : Nat => .int k)), x3, x4, x5], g'⟩ : Stt TkG))
    (fun k hk s ⟨ms, x3, x4, x5, g', p1, p2, hs⟩ => by
      subst hs
      rw [er] at hk
      rw [rngL_get]
      obtain ⟨a, g2, ha, e2, h2⟩ := weave_eq m hm hm2 _ (by omega) g' p2
      obtain ⟨b, g3, hb, e3, h3⟩ := weave_eq 9 (by omega) (by omega) _ (by omega) g2 h2
      obtain ⟨q, g4, hq, e4, h4⟩ := weave_eq 6 (by omega) (by omega) _ (by omega) g3 h3
      have e3' : F__law_weave [.tok 1, .int 9] g2 = .ok (.dat (.int b)) g3 := e3
      have e4' : F__law_weave [.tok 1, .int 6] g3 = .ok (.dat (.int q)) g4 := e4
      have hp : (decide ((0 : Int) ≤ 18) && decide ((18 : Int) ≤ 1000000) && decide (Int.natAbs 10 < 2 ^ 64)) = true := by decide
      have hb2 : decide (((10 : Int) ^ Int.toNat 18).natAbs.log2 + (1 + (b : Int)).natAbs.log2 < 1000000) = true := dok (mul_ok (nb (by decide) (by decide)) (nb (by omega) (by omega)))
      have e10 : (10 : Int) ^ Int.toNat 18 = 1000000000000000000 := by decide
      obtain ⟨z, hz⟩ : ∃ z : Nat, L2.atI [D.int a, D.int a, D.int ((m : Int) - 1), D.int m, D.int ((a : Int) + m), D.int ((a : Int) + (10 : Int) ^ Int.toNat 18 * (1 + b))] (q : Int) = some (.int z) := by
        rcases (show q = 0 ∨ q = 1 ∨ q = 2 ∨ q = 3 ∨ q = 4 ∨ q = 5 by omega) with rfl | rfl | rfl | rfl | rfl | rfl
        · exact ⟨a, rfl⟩
        · exact ⟨a, rfl⟩
        · exact ⟨m - 1, by rw [show ((m - 1 : Nat) : Int) = (m : Int) - 1 by omega]; rfl⟩
        · exact ⟨m, rfl⟩
        · exact ⟨a + m, rfl⟩
        · exact ⟨a + 1000000000000000000 * (1 + b), by rw [e10]; rfl⟩
      have hlen : ms.length ≤ 100000 := by omega
      refine ⟨_, rfl, ⟨[some (.dat (.tok 1)), some (.dat (.int m)), some (.own ((ms ++ [z]).map fun k : Nat => .int k)), some (.dat (.int (0 + k))), some (.dat (.int a)), some (.dat (.int ((a : Int) + (10 : Int) ^ Int.toNat 18 * (1 + b))))], g4⟩, .inl ?_, ms ++ [z], _, _, _, g4, by rw [List.length_append, p1]; rfl, h4.mono (by omega), rfl⟩
      simp only [l__law_numbers_of_1, dMut, fr__law_weave, e2, e3', e4', hp, hb2, hz, mv_pk, mAppend, List.length_map, hlen, runB_eq, frame0, ob_ok, ob_bad, ob_ite, fo_ok, fo_bad, fo_ite, fn_nx, fn_rt, fn_bk, fn_ct, fn_bad, fn_ite, op_some, op_none, op_ite, fz_dat, fz_own, so_dat, so_own, re_dat, re_own, endB_rt, endB_nx, endB_bad, endB_ite, dVar, dC, dBin, eD, dAnd, dOr, dTru, asB, dtAnd, dtOr, dChain, ib_bl, dCons, ho_dat, ho_own, ho_pk, sq_tup, sq_lst, sq_own, sq_pk, sk_tup, sk_lst, sk_own, sk_pk, ix_tup, ix_lst, ix_pk, sl_tup, sl_lst, sl_scr, tr_non, tr_bl, tr_int, tr_tup, tr_lst, tr_own, ln_tup, ln_lst, ln_own, ln_scr, ln_str, ln_pk, tp_tup, tp_lst, tp_own, tp_pk, ls_tup, ls_lst, ls_own, ad_int, ad_str, ad_tup, ad_lst, oi_int, ob_int, ob_str, lt_int, eq_int, it_tup, it_lst, it_scr, ie_int, ie_bl, io_int, vl_dat, at_0, at_1, at_2, is_non, cl_true, rg_1, rg_2, rg_3, dCall_eq, dCallK_eq, back_ok, dCall1, dCallN, min2D, max2D, negD, putS, dFor, line_le, line_lt, and_self, and_true, List.map_cons, List.map_nil, List.length_cons, List.length_nil, List.cons_append, List.nil_append, List.getElem?_cons_zero, List.getElem?_cons_succ, List.set_cons_zero, List.set_cons_succ, Bool.true_and, Bool.and_true, Bool.false_and, Bool.and_false, if_true, if_false, Bool.not_true, Bool.not_false, Bool.false_eq_true, reduceIte, Option.bind_some, Option.map_some, valI, Nat.reduceAdd, Nat.reduceLeDiff, Nat.reduceSub, Nat.reduceLT, Nat.zero_add, List.reduceReplicate, dn_eVar, dn_eInt, dn_eBl, dn_eNon, dn_eStr, dn_eGlob, dn_mkBin, dn_mkCmp, dn_mkIn, dn_mkChain, dn_eNot, dn_bOne, dn_bAnd, dn_bOr, dn_eBool, dn_tV, dn_tNt, dn_wOne, dn_wAnd, dn_wOr, dn_tBool, dn_eIf, dn_aNil, dn_aCons, dn_eTup, dn_eLst, dn_eIx, dn_oNone, dn_oSome, dn_eSl, dn_eCall, dn_eCall0, dn_bNil, dn_bCons, dn_sSet, dn_sRet, dn_sExpr, dn_sPass, dn_sBreak, dn_sCont, dn_sIf, dn_sAsg, dn_iSeq, dn_iRange, dn_iZip, dn_sFor, dn_sWhile, dn_qNil, dn_qOne, dn_kOne, dn_kTwo, dn_sSetC, dn_mkMeth, dn_mkMeth0, dn_eTIx, dn_tTok, dn_eTok, dn_sIxSet, dn_eNeg, dn_eIsi, dn_eRev, dn_rg1, dn_rg2, dn_eLstRg, dn_eTupRg, dn_sAug, dn_sPar2, dn_kwNil, dn_kwCons, dn_eCallK, dn_eCallK0, dn_kTok, dn_sForT, dn_eC, dn_tC', dn_eK, dn_eAdd, dn_eSub, dn_eMul, dn_eFdiv, dn_eMod, dn_ePow, dn_eShl, dn_eShr, dn_eAnd2, dn_eOr2, dn_cEq, dn_cNe, dn_cLt, dn_cLe, dn_cGt, dn_cGe, dn_cLeLe, dn_eLen, dn_eTupOf, dn_eLstOf, dn_eIntOf, dn_eAbs, dn_eStrOf, dn_eAny, dn_eAll, dn_eSum, dn_eMax1, dn_eMin1, dn_eSorted, dn_eMin2, dn_eMax2, dn_mAppendE, dn_mExtendE, dn_mPopE, dn_mPopAtE, dn_mReverseE, dn_mInsertE, dn_cIs, dn_cIsNot, dn_cIn, dn_cNotIn, dn_gN, dn_gT, dn_gsNil, dn_gsCons]
      rw [List.map_append]
      rfl)
    ⟨[some (.dat (.tok 1)), some (.dat (.int m)), some (.own []), none, none, none], g1⟩ ⟨[], none, none, none, g1, rfl, h1, rfl⟩
  rw [el]
  rw [er] at p1 p2
  refine ⟨ms, g', by omega, p2.mono (by omega), ?_⟩
  simp only [runB_eq, frame0, ob_ok, ob_bad, ob_ite, fo_ok, fo_bad, fo_ite, fn_nx, fn_rt, fn_bk, fn_ct, fn_bad, fn_ite, op_some, op_none, op_ite, fz_dat, fz_own, so_dat, so_own, re_dat, re_own, endB_rt, endB_nx, endB_bad, endB_ite, dVar, dC, dBin, eD, dAnd, dOr, dTru, asB, dtAnd, dtOr, dChain, ib_bl, dCons, ho_dat, ho_own, ho_pk, sq_tup, sq_lst, sq_own, sq_pk, sk_tup, sk_lst, sk_own, sk_pk, ix_tup, ix_lst, ix_pk, sl_tup, sl_lst, sl_scr, tr_non, tr_bl, tr_int, tr_tup, tr_lst, tr_own, ln_tup, ln_lst, ln_own, ln_scr, ln_str, ln_pk, tp_tup, tp_lst, tp_own, tp_pk, ls_tup, ls_lst, ls_own, ad_int, ad_str, ad_tup, ad_lst, oi_int, ob_int, ob_str, lt_int, eq_int, it_tup, it_lst, it_scr, ie_int, ie_bl, io_int, vl_dat, at_0, at_1, at_2, is_non, cl_true, rg_1, rg_2, rg_3, dCall_eq, dCallK_eq, back_ok, dCall1, dCallN, min2D, max2D, negD, putS, dFor, line_le, line_lt, and_self, and_true, List.map_cons, List.map_nil, List.length_cons, List.length_nil, List.cons_append, List.nil_append, List.getElem?_cons_zero, List.getElem?_cons_succ, List.set_cons_zero, List.set_cons_succ, Bool.true_and, Bool.and_true, Bool.false_and, Bool.and_false, if_true, if_false, Bool.not_true, Bool.not_false, Bool.false_eq_true, reduceIte, Option.bind_some, Option.map_some, valI, Nat.reduceAdd, Nat.reduceLeDiff, Nat.reduceSub, Nat.reduceLT, Nat.zero_add, List.reduceReplicate, dn_eVar, dn_eInt, dn_eBl, dn_eNon, dn_eStr, dn_eGlob, dn_mkBin, dn_mkCmp, dn_mkIn, dn_mkChain, dn_eNot, dn_bOne, dn_bAnd, dn_bOr, dn_eBool, dn_tV, dn_tNt, dn_wOne, dn_wAnd, dn_wOr, dn_tBool, dn_eIf, dn_aNil, dn_aCons, dn_eTup, dn_eLst, dn_eIx, dn_oNone, dn_oSome, dn_eSl, dn_eCall, dn_eCall0, dn_bNil, dn_bCons, dn_sSet, dn_sRet, dn_sExpr, dn_sPass, dn_sBreak, dn_sCont, dn_sIf, dn_sAsg, dn_iSeq, dn_iRange, dn_iZip, dn_sFor, dn_sWhile, dn_qNil, dn_qOne, dn_kOne, dn_kTwo, dn_sSetC, dn_mkMeth, dn_mkMeth0, dn_eTIx, dn_tTok, dn_eTok, dn_sIxSet, dn_eNeg, dn_eIsi, dn_eRev, dn_rg1, dn_rg2, dn_eLstRg, dn_eTupRg, dn_sAug, dn_sPar2, dn_kwNil, dn_kwCons, dn_eCallK, dn_eCallK0, dn_kTok, dn_sForT, dn_eC, dn_tC', dn_eK, dn_eAdd, dn_eSub, dn_eMul, dn_eFdiv, dn_eMod, dn_ePow, dn_eShl, dn_eShr, dn_eAnd2, dn_eOr2, dn_cEq, dn_cNe, dn_cLt, dn_cLe, dn_cGt, dn_cGe, dn_cLeLe, dn_eLen, dn_eTupOf, dn_eLstOf, dn_eIntOf, dn_eAbs, dn_eStrOf, dn_eAny, dn_eAll, dn_eSum, dn_eMax1, dn_eMin1, dn_eSorted, dn_eMin2, dn_eMax2, dn_mAppendE, dn_mExtendE, dn_mPopE, dn_mPopAtE, dn_mReverseE, dn_mInsertE, dn_cIs, dn_cIsNot, dn_cIn, dn_cNotIn]
end K38

namespace K38
open PySem PySem.Spec RB
theorem nthC_scal : ∀ (f : List Fld) (r : Nat), (∀ x ∈ f, x.ok) → ∀ d ∈ nthC f r, szB d = 1 ∧ smp d = true
  | [], r, _, d, h => nomatch (show d ∈ ([] : List D) from h)
  | x :: f, r, ok, d, h => by
    obtain ⟨j, ej⟩ := nthC_cons x f r
    rw [ej] at h
    rcases List.mem_cons.mp h with rfl | h
    · have hl := (Fld.ok_vals (ok x List.mem_cons_self)).1
      have hm : j % x.vals.length < x.vals.length := Nat.mod_lt _ hl
      rw [List.getD_eq_getElem?_getD, List.getElem?_eq_getElem hm]
      have hv := List.getElem_mem hm
      show szB (x.vals[j % x.vals.length]) = 1 ∧ smp (x.vals[j % x.vals.length]) = true
      generalize x.vals[j % x.vals.length] = v at hv
      cases x with
      | num n a b =>
        simp only [Fld.vals, rngL, List.mem_map] at hv
        obtain ⟨k, _, rfl⟩ := hv
        exact ⟨by simp only [szB], by simp only [smp]⟩
      | wrd n vs =>
        simp only [Fld.vals, List.mem_map] at hv
        obtain ⟨k, _, rfl⟩ := hv
        exact ⟨by simp only [szB], by simp only [smp]⟩
    · exact nthC_scal f r (fun y hy => ok y (List.mem_cons_of_mem _ hy)) d h
theorem scal_list : ∀ (l : List D), (∀ d ∈ l, szB d = 1 ∧ smp d = true) → szL l = l.length ∧ smps l = true
  | [], _ => ⟨by simp [szL], by simp [smps]⟩
  | d :: l, h => by
    obtain ⟨h1, h2⟩ := h d List.mem_cons_self
    obtain ⟨i1, i2⟩ := scal_list l fun x hx => h x (List.mem_cons_of_mem _ hx)
    rw [szL, smps, h1, i1, h2, i2, List.length_cons]
    exact ⟨by omega, rfl⟩
theorem row_size (f : List Fld) (ok : ∀ x ∈ f, x.ok) (w : Str) (r : Option (List Cnd)) (m : Nat) : szB (rowD (.str w) r (nthC f m)) = f.length + 4 ∧ smp (rowD (.str w) r (nthC f m)) = true := by
  obtain ⟨h1, h2⟩ := scal_list _ (nthC_scal f m ok)
  rw [nthC_len] at h1
  unfold rowD
  simp only [szB, szL, smp, smps, h1, h2]
  exact ⟨by omega, rfl⟩
theorem log_size (f : List Fld) (ok : ∀ x ∈ f, x.ok) (w : Str) (r : Option (List Cnd)) : ∀ ms : List Nat, szL (logD f (.str w) r ms) = ms.length * (f.length + 4) ∧ smps (logD f (.str w) r ms) = true
  | [] => ⟨by simp [logD, szL], by simp [logD, smps]⟩
  | m :: ms => by
    obtain ⟨h1, h2⟩ := log_size f ok w r ms
    obtain ⟨h3, h4⟩ := row_size f ok w r m
    unfold logD at h1 h2 ⊢
    rw [List.map_cons, szL, smps, h1, h2, h3, h4, List.length_cons, Nat.succ_mul]
    exact ⟨by omega, rfl⟩
theorem same_logs (f : List Fld) (ok : ∀ x ∈ f, x.ok) (hl : f.length ≤ 64) (w : Str) (r : Option (List Cnd)) (ms : List Nat) (hm : ms.length ≤ 100) (g : TkG) : F__law_same [.tup (logD f (.str w) r ms), .tup (logD f (.str w) r ms)] g = .ok (.dat (.bl true)) g := by
  obtain ⟨h1, h2⟩ := log_size f ok w r ms
  refine same_eq _ (by rw [smp, h2]) ?_ g
  rw [szB, h1]
  have : ms.length * (f.length + 4) ≤ 100 * 68 := Nat.mul_le_mul hm (by omega)
  omega
theorem same_two (f : List Fld) (ok : ∀ x ∈ f, x.ok) (hl : f.length ≤ 64) (w : Str) (r : Option (List Cnd)) (ms : List Nat) (hm : ms.length ≤ 100) (g : TkG) : F__law_same [.tup [.tup (logD f (.str w) r ms), .tup (logD f (.str w) r ms)], .tup [.tup (logD f (.str w) r ms), .tup (logD f (.str w) r ms)]] g = .ok (.dat (.bl true)) g := by
  obtain ⟨h1, h2⟩ := log_size f ok w r ms
  refine same_eq _ (by simp only [smp, smps, h2]; rfl) ?_ g
  have : ms.length * (f.length + 4) ≤ 100 * 68 := Nat.mul_le_mul hm (by omega)
  simp only [szB, szL, h1]
  omega
theorem rng_nat (n : Nat) : rngL 0 ((n : Int) - 0).toNat = (List.range n).map fun k : Nat => D.int k := by
  unfold rngL
  rw [show ((n : Int) - 0).toNat = n by omega]
  refine List.map_congr_left fun k _ => ?_
  rw [Int.zero_add]
theorem rgOk_nat {n : Nat} (h : n ≤ 1000) : rgOk 0 (n : Int) := ⟨in62 (by omega) (by omega), in62 (by omega) (by omega), by omega⟩
theorem number_log_eq (f : List Fld) (ok : ∀ x ∈ f, x.ok) (hl : f.length ≤ 64) (deed : D) (r : Option (List Cnd)) (hr : RF f r) (n : Nat) (hn : n ≤ 1000) (g : TkG) : F_number_log [formD f, deed, ruleD r, .int n] g = .ok (.dat (.tup (logD f deed r (List.range n)))) g := by
  have hd := drawn_log_eq f ok hl deed r hr (.lst ((List.range n).map fun k : Nat => D.int k)) (List.range n) rfl (by rw [List.length_range]; omega) g
  simp only [F_number_log, b_number_log, clI_pos (rgOk_nat hn), rng_nat, fr_drawn_log, hd, runB_eq, frame0, ob_ok, ob_bad, ob_ite, fo_ok, fo_bad, fo_ite, fn_nx, fn_rt, fn_bk, fn_ct, fn_bad, fn_ite, op_some, op_none, op_ite, fz_dat, fz_own, so_dat, so_own, re_dat, re_own, endB_rt, endB_nx, endB_bad, endB_ite, dVar, dC, dBin, eD, dAnd, dOr, dTru, asB, dtAnd, dtOr, dChain, ib_bl, dCons, ho_dat, ho_own, ho_pk, sq_tup, sq_lst, sq_own, sq_pk, sk_tup, sk_lst, sk_own, sk_pk, ix_tup, ix_lst, ix_pk, sl_tup, sl_lst, sl_scr, tr_non, tr_bl, tr_int, tr_tup, tr_lst, tr_own, ln_tup, ln_lst, ln_own, ln_scr, ln_str, ln_pk, tp_tup, tp_lst, tp_own, tp_pk, ls_tup, ls_lst, ls_own, ad_int, ad_str, ad_tup, ad_lst, oi_int, ob_int, ob_str, lt_int, eq_int, it_tup, it_lst, it_scr, ie_int, ie_bl, io_int, vl_dat, at_0, at_1, at_2, is_non, cl_true, rg_1, rg_2, rg_3, dCall_eq, dCallK_eq, back_ok, dCall1, dCallN, min2D, max2D, negD, putS, dFor, line_le, line_lt, and_self, and_true, List.map_cons, List.map_nil, List.length_cons, List.length_nil, List.cons_append, List.nil_append, List.getElem?_cons_zero, List.getElem?_cons_succ, List.set_cons_zero, List.set_cons_succ, Bool.true_and, Bool.and_true, Bool.false_and, Bool.and_false, if_true, if_false, Bool.not_true, Bool.not_false, Bool.false_eq_true, reduceIte, Option.bind_some, Option.map_some, valI, Nat.reduceAdd, Nat.reduceLeDiff, Nat.reduceSub, Nat.reduceLT, Nat.zero_add, List.reduceReplicate, dn_eVar, dn_eInt, dn_eBl, dn_eNon, dn_eStr, dn_eGlob, dn_mkBin, dn_mkCmp, dn_mkIn, dn_mkChain, dn_eNot, dn_bOne, dn_bAnd, dn_bOr, dn_eBool, dn_tV, dn_tNt, dn_wOne, dn_wAnd, dn_wOr, dn_tBool, dn_eIf, dn_aNil, dn_aCons, dn_eTup, dn_eLst, dn_eIx, dn_oNone, dn_oSome, dn_eSl, dn_eCall, dn_eCall0, dn_bNil, dn_bCons, dn_sSet, dn_sRet, dn_sExpr, dn_sPass, dn_sBreak, dn_sCont, dn_sIf, dn_sAsg, dn_iSeq, dn_iRange, dn_iZip, dn_sFor, dn_sWhile, dn_qNil, dn_qOne, dn_kOne, dn_kTwo, dn_sSetC, dn_mkMeth, dn_mkMeth0, dn_eTIx, dn_tTok, dn_eTok, dn_sIxSet, dn_eNeg, dn_eIsi, dn_eRev, dn_rg1, dn_rg2, dn_eLstRg, dn_eTupRg, dn_sAug, dn_sPar2, dn_kwNil, dn_kwCons, dn_eCallK, dn_eCallK0, dn_kTok, dn_sForT, dn_eC, dn_tC', dn_eK, dn_eAdd, dn_eSub, dn_eMul, dn_eFdiv, dn_eMod, dn_ePow, dn_eShl, dn_eShr, dn_eAnd2, dn_eOr2, dn_cEq, dn_cNe, dn_cLt, dn_cLe, dn_cGt, dn_cGe, dn_cLeLe, dn_eLen, dn_eTupOf, dn_eLstOf, dn_eIntOf, dn_eAbs, dn_eStrOf, dn_eAny, dn_eAll, dn_eSum, dn_eMax1, dn_eMin1, dn_eSorted, dn_eMin2, dn_eMax2, dn_mAppendE, dn_mExtendE, dn_mPopE, dn_mPopAtE, dn_mReverseE, dn_mInsertE, dn_cIs, dn_cIsNot, dn_cIn, dn_cNotIn]
theorem pm_4 (a b c d : D) : pmL [3, 2, 1, 0] [] [a, b, c, d] = [d, c, b, a] := rfl
theorem pm_1 (a : D) : pmL [0] [] [a] = [a] := rfl
theorem asked_eq (f : List Fld) (ok : ∀ x ∈ f, x.ok) (hl : f.length ≤ 5) (n : Nat) (hn : n + 300000 ≤ 1000000000) (g : TkG) (hg : LOK n g) : ∃ g', F__law_asked [.tok 1, formD f] g = .ok (.dat (.bl true)) g' ∧ LOK (n + 300000) g' := by
  have hpl := prodV_le f ok
  have hpl2 : prodV f < 2 ^ 60 := Nat.lt_of_le_of_lt (Nat.le_trans hpl (Nat.pow_le_pow_right (by decide) hl)) (by decide)
  have hp : 0 < prodV f := by
    unfold prodV
    have key : ∀ l : List Fld, (∀ x ∈ l, x.ok) → 0 < (l.map fun x => x.vals.length).foldl (· * ·) 1 := by
      intro l
      induction l with
      | nil => intro _; decide
      | cons x l ih =>
        intro h
        rw [List.map_cons, List.foldl_cons, foldl_mul, Nat.one_mul]
        exact Nat.mul_pos (Fld.ok_vals (h x List.mem_cons_self)).1 (ih fun y hy => h y (List.mem_cons_of_mem _ hy))
    exact key f ok
  obtain ⟨g1, k1, hk1, e1, h1⟩ := law_of_eq (bagS.map .str) (by decide) (by decide) n (by omega) g hg
  rw [List.getElem_map] at e1
  generalize bagS[k1]'(by rw [List.length_map] at hk1; exact hk1) = deed at e1
  obtain ⟨r, g2, hr, h2, e2⟩ := law_rule_eq f ok (by omega) _ (by omega) g1 h1
  obtain ⟨ms, g3, hms, h3, e3⟩ := numbers_eq (prodV f) hp hpl2 _ (by omega) g2 h2
  obtain ⟨w, g4, hw, e4, h4⟩ := weave_eq 31 (by omega) (by omega) _ (by omega) g3 h3
  have e4' : F__law_weave [.tok 1, .int 31] g3 = .ok (.dat (.int w)) g4 := e4
  obtain ⟨g5, k5, hk5, e5, h5⟩ := law_of_eq [.int 0, .int 1, .int 30, .int w] (by simp) (by simp) _ (by omega) g4 h4
  obtain ⟨z, hz, hz2⟩ : ∃ z : Nat, [D.int 0, .int 1, .int 30, .int w][k5] = .int z ∧ z ≤ 30 := by
    simp only [List.length_cons, List.length_nil] at hk5
    rcases (show k5 = 0 ∨ k5 = 1 ∨ k5 = 2 ∨ k5 = 3 by omega) with rfl | rfl | rfl | rfl
    · exact ⟨0, rfl, by omega⟩
    · exact ⟨1, rfl, by omega⟩
    · exact ⟨30, rfl, by omega⟩
    · exact ⟨w, rfl, by omega⟩
  rw [hz] at e5
  obtain ⟨v, hv, hv2⟩ : ∃ v : Nat, (if (z : Int) < (prodV f : Nat) then (z : Int) else (prodV f : Nat)) = v ∧ v ≤ 30 := by
    by_cases h : (z : Int) < (prodV f : Nat)
    · exact ⟨z, if_pos h, hz2⟩
    · exact ⟨prodV f, if_neg h, by omega⟩
  have d1 : ∀ g, F_drawn_log [formD f, .str deed, ruleD r, .tup (ms.map fun k : Nat => .int k)] g = _ := drawn_log_eq f ok (by omega) (.str deed) r hr (.tup (ms.map fun k : Nat => .int k)) ms rfl (by omega)
  have d2 : ∀ g, F__law_due [formD f, .str deed, ruleD r, .tup (ms.map fun k : Nat => .int k)] g = _ := law_due_eq f ok (by omega) (.str deed) r hr (.tup (ms.map fun k : Nat => .int k)) ms rfl (by omega)
  have d3 : ∀ g, F_drawn_log [formD f, .str deed, ruleD r, .tup ((List.range v).map fun k : Nat => .int k)] g = _ := drawn_log_eq f ok (by omega) (.str deed) r hr (.tup ((List.range v).map fun k : Nat => .int k)) (List.range v) rfl (by rw [List.length_range]; omega)
  have d4 : ∀ g, F__law_due [formD f, .str deed, ruleD r, .tup ((List.range v).map fun k : Nat => .int k)] g = _ := law_due_eq f ok (by omega) (.str deed) r hr (.tup ((List.range v).map fun k : Nat => .int k)) (List.range v) rfl (by rw [List.length_range]; omega)
  have d5 : ∀ g, F_number_log [formD f, .str deed, ruleD r, .int v] g = _ := number_log_eq f ok (by omega) (.str deed) r hr v (by omega)
  have s1 := same_logs f ok (by omega) deed r ms (by omega)
  have s2 := same_two f ok (by omega) deed r (List.range v) (by rw [List.length_range]; omega)
  obtain ⟨s', el, x, rfl⟩ := forD_inv (g := (gN 3 : GI TkG).den) (body := l__law_asked_1.den) (f.map Fld.d)
    (fun k s => ∃ (x : Option Sl), s = (⟨[some (.dat (.tok 1)), some (.dat (formD f)), some (.dat (.int (prodV (f.take k)))), x, none, none, none, none, none, none], g⟩ : Stt TkG))
    (fun k hk s ⟨x, hs⟩ => by
      subst hs
      rw [List.length_map] at hk
      rw [List.getElem_map]
      have ev := law_values_eq f[k] (ok _ (List.getElem_mem hk))
      have hb : (decide (((prodV (f.take k) : Nat) : Int).natAbs.log2 + ((f[k].vals.length : Nat) : Int).natAbs.log2 < 1000000)) = true := by
        refine dok (mul_ok ?_ ?_)
        · rw [Int.natAbs_natCast]
          refine Nat.lt_of_le_of_lt (prodV_le _ fun y hy => ok y (List.mem_of_mem_take hy)) ?_
          exact Nat.lt_of_le_of_lt (Nat.pow_le_pow_right (by decide) (show (f.take k).length ≤ 64 by rw [List.length_take]; omega)) (by decide +kernel : 2048 ^ 64 < 2 ^ 4000)
        · rw [Int.natAbs_natCast]
          exact Nat.lt_of_le_of_lt (Fld.ok_vals (ok _ (List.getElem_mem _))).2 (by decide +kernel : 2001 < 2 ^ 4000)
      refine ⟨_, rfl, _, .inl ?_, some (.dat f[k].d), rfl⟩
      simp only [l__law_asked_1, fr__law_values, ev, hb, runB_eq, frame0, ob_ok, ob_bad, ob_ite, fo_ok, fo_bad, fo_ite, fn_nx, fn_rt, fn_bk, fn_ct, fn_bad, fn_ite, op_some, op_none, op_ite, fz_dat, fz_own, so_dat, so_own, re_dat, re_own, endB_rt, endB_nx, endB_bad, endB_ite, dVar, dC, dBin, eD, dAnd, dOr, dTru, asB, dtAnd, dtOr, dChain, ib_bl, dCons, ho_dat, ho_own, ho_pk, sq_tup, sq_lst, sq_own, sq_pk, sk_tup, sk_lst, sk_own, sk_pk, ix_tup, ix_lst, ix_pk, sl_tup, sl_lst, sl_scr, tr_non, tr_bl, tr_int, tr_tup, tr_lst, tr_own, ln_tup, ln_lst, ln_own, ln_scr, ln_str, ln_pk, tp_tup, tp_lst, tp_own, tp_pk, ls_tup, ls_lst, ls_own, ad_int, ad_str, ad_tup, ad_lst, oi_int, ob_int, ob_str, lt_int, eq_int, it_tup, it_lst, it_scr, ie_int, ie_bl, io_int, vl_dat, at_0, at_1, at_2, is_non, cl_true, rg_1, rg_2, rg_3, dCall_eq, dCallK_eq, back_ok, dCall1, dCallN, min2D, max2D, negD, putS, dFor, line_le, line_lt, and_self, and_true, List.map_cons, List.map_nil, List.length_cons, List.length_nil, List.cons_append, List.nil_append, List.getElem?_cons_zero, List.getElem?_cons_succ, List.set_cons_zero, List.set_cons_succ, Bool.true_and, Bool.and_true, Bool.false_and, Bool.and_false, if_true, if_false, Bool.not_true, Bool.not_false, Bool.false_eq_true, reduceIte, Option.bind_some, Option.map_some, valI, Nat.reduceAdd, Nat.reduceLeDiff, Nat.reduceSub, Nat.reduceLT, Nat.zero_add, List.reduceReplicate, dn_eVar, dn_eInt, dn_eBl, dn_eNon, dn_eStr, dn_eGlob, dn_mkBin, dn_mkCmp, dn_mkIn, dn_mkChain, dn_eNot, dn_bOne, dn_bAnd, dn_bOr, dn_eBool, dn_tV, dn_tNt, dn_wOne, dn_wAnd, dn_wOr, dn_tBool, dn_eIf, dn_aNil, dn_aCons, dn_eTup, dn_eLst, dn_eIx, dn_oNone, dn_oSome, dn_eSl, dn_eCall, dn_eCall0, dn_bNil, dn_bCons, dn_sSet, dn_sRet, dn_sExpr, dn_sPass, dn_sBreak, dn_sCont, dn_sIf, dn_sAsg, dn_iSeq, dn_iRange, dn_iZip, dn_sFor, dn_sWhile, dn_qNil, dn_qOne, dn_kOne, dn_kTwo, dn_sSetC, dn_mkMeth, dn_mkMeth0, dn_eTIx, dn_tTok, dn_eTok, dn_sIxSet, dn_eNeg, dn_eIsi, dn_eRev, dn_rg1, dn_rg2, dn_eLstRg, dn_eTupRg, dn_sAug, dn_sPar2, dn_kwNil, dn_kwCons, dn_eCallK, dn_eCallK0, dn_kTok, dn_sForT, dn_eC, dn_tC', dn_eK, dn_eAdd, dn_eSub, dn_eMul, dn_eFdiv, dn_eMod, dn_ePow, dn_eShl, dn_eShr, dn_eAnd2, dn_eOr2, dn_cEq, dn_cNe, dn_cLt, dn_cLe, dn_cGt, dn_cGe, dn_cLeLe, dn_eLen, dn_eTupOf, dn_eLstOf, dn_eIntOf, dn_eAbs, dn_eStrOf, dn_eAny, dn_eAll, dn_eSum, dn_eMax1, dn_eMin1, dn_eSorted, dn_eMin2, dn_eMax2, dn_mAppendE, dn_mExtendE, dn_mPopE, dn_mPopAtE, dn_mReverseE, dn_mInsertE, dn_cIs, dn_cIsNot, dn_cIn, dn_cNotIn, dn_gN, dn_gT, dn_gsNil, dn_gsCons]
      rw [prodV_take f k hk, Int.natCast_mul])
    ⟨[some (.dat (.tok 1)), some (.dat (formD f)), some (.dat (.int 1)), none, none, none, none, none, none, none], g⟩ ⟨none, rfl⟩
  refine ⟨g5, ?_, h5.mono (by omega)⟩
  simp only [F__law_asked, b__law_asked, el, List.length_map, List.take_length, fr__law_of, fr__law_bag, bag_eq, e1, fr__law_rule, e2, fr__law_numbers_of, e3, fr__law_weave, e4', e5, fr_drawn_log, fr__law_due, fr__law_same, fr_number_log, pm_4, d1, d2, s1, hv, clI_pos (rgOk_nat (show v ≤ 1000 by omega)), rng_nat, d3, d4, d5, s2, runB_eq, frame0, ob_ok, ob_bad, ob_ite, fo_ok, fo_bad, fo_ite, fn_nx, fn_rt, fn_bk, fn_ct, fn_bad, fn_ite, op_some, op_none, op_ite, fz_dat, fz_own, so_dat, so_own, re_dat, re_own, endB_rt, endB_nx, endB_bad, endB_ite, dVar, dC, dBin, eD, dAnd, dOr, dTru, asB, dtAnd, dtOr, dChain, ib_bl, dCons, ho_dat, ho_own, ho_pk, sq_tup, sq_lst, sq_own, sq_pk, sk_tup, sk_lst, sk_own, sk_pk, ix_tup, ix_lst, ix_pk, sl_tup, sl_lst, sl_scr, tr_non, tr_bl, tr_int, tr_tup, tr_lst, tr_own, ln_tup, ln_lst, ln_own, ln_scr, ln_str, ln_pk, tp_tup, tp_lst, tp_own, tp_pk, ls_tup, ls_lst, ls_own, ad_int, ad_str, ad_tup, ad_lst, oi_int, ob_int, ob_str, lt_int, eq_int, it_tup, it_lst, it_scr, ie_int, ie_bl, io_int, vl_dat, at_0, at_1, at_2, is_non, cl_true, rg_1, rg_2, rg_3, dCall_eq, dCallK_eq, back_ok, dCall1, dCallN, min2D, max2D, negD, putS, dFor, line_le, line_lt, and_self, and_true, List.map_cons, List.map_nil, List.length_cons, List.length_nil, List.cons_append, List.nil_append, List.getElem?_cons_zero, List.getElem?_cons_succ, List.set_cons_zero, List.set_cons_succ, Bool.true_and, Bool.and_true, Bool.false_and, Bool.and_false, if_true, if_false, Bool.not_true, Bool.not_false, Bool.false_eq_true, reduceIte, Option.bind_some, Option.map_some, valI, Nat.reduceAdd, Nat.reduceLeDiff, Nat.reduceSub, Nat.reduceLT, Nat.zero_add, List.reduceReplicate, dn_eVar, dn_eInt, dn_eBl, dn_eNon, dn_eStr, dn_eGlob, dn_mkBin, dn_mkCmp, dn_mkIn, dn_mkChain, dn_eNot, dn_bOne, dn_bAnd, dn_bOr, dn_eBool, dn_tV, dn_tNt, dn_wOne, dn_wAnd, dn_wOr, dn_tBool, dn_eIf, dn_aNil, dn_aCons, dn_eTup, dn_eLst, dn_eIx, dn_oNone, dn_oSome, dn_eSl, dn_eCall, dn_eCall0, dn_bNil, dn_bCons, dn_sSet, dn_sRet, dn_sExpr, dn_sPass, dn_sBreak, dn_sCont, dn_sIf, dn_sAsg, dn_iSeq, dn_iRange, dn_iZip, dn_sFor, dn_sWhile, dn_qNil, dn_qOne, dn_kOne, dn_kTwo, dn_sSetC, dn_mkMeth, dn_mkMeth0, dn_eTIx, dn_tTok, dn_eTok, dn_sIxSet, dn_eNeg, dn_eIsi, dn_eRev, dn_rg1, dn_rg2, dn_eLstRg, dn_eTupRg, dn_sAug, dn_sPar2, dn_kwNil, dn_kwCons, dn_eCallK, dn_eCallK0, dn_kTok, dn_sForT, dn_eC, dn_tC', dn_eK, dn_eAdd, dn_eSub, dn_eMul, dn_eFdiv, dn_eMod, dn_ePow, dn_eShl, dn_eShr, dn_eAnd2, dn_eOr2, dn_cEq, dn_cNe, dn_cLt, dn_cLe, dn_cGt, dn_cGe, dn_cLeLe, dn_eLen, dn_eTupOf, dn_eLstOf, dn_eIntOf, dn_eAbs, dn_eStrOf, dn_eAny, dn_eAll, dn_eSum, dn_eMax1, dn_eMin1, dn_eSorted, dn_eMin2, dn_eMax2, dn_mAppendE, dn_mExtendE, dn_mPopE, dn_mPopAtE, dn_mReverseE, dn_mInsertE, dn_cIs, dn_cIsNot, dn_cIn, dn_cNotIn]
end K38

namespace K38
open PySem PySem.Spec RB
abbrev boxF (n : Nat) : List Fld := (List.range n).map fun k : Nat => .num (("x" : Str) ++ toString (k : Int)) 0 4
abbrev swiF (n : Nat) : List Fld := (List.range n).map fun k : Nat => .wrd (("s" : Str) ++ toString (k : Int)) ["off", "on"]
theorem box_d (n : Nat) : (boxF n).map Fld.d = (List.range n).map fun k : Nat => .tup [.str (("x" : Str) ++ toString (k : Int)), .tup [.int 0, .int 4]] := by
  rw [List.map_map]; rfl
theorem swi_d (n : Nat) : (swiF n).map Fld.d = (List.range n).map fun k : Nat => .tup [.str (("s" : Str) ++ toString (k : Int)), .tup [.str "off", .str "on"]] := by
  rw [List.map_map]; rfl
theorem box_ok (n : Nat) : ∀ x ∈ boxF n, x.ok := by
  intro x hx
  obtain ⟨k, _, rfl⟩ := List.mem_map.mp hx
  exact ⟨by omega, by omega, by omega⟩
theorem swi_ok (n : Nat) : ∀ x ∈ swiF n, x.ok := by
  intro x hx
  obtain ⟨k, _, rfl⟩ := List.mem_map.mp hx
  exact ⟨by decide, by decide⟩
theorem made2 (n : Nat) (hn : n ≤ 8) (a0 a1 a3 a4 a5 a6 a7 a8 : Option Sl) (g : TkG) : k__law_made_2.den ⟨[a0, a1, some (.dat (.int n)), a3, a4, a5, a6, a7, a8, none], g⟩ = .ok (.own ((boxF n).map Fld.d)) ⟨[a0, a1, some (.dat (.int n)), a3, a4, a5, a6, a7, a8, none], g⟩ := by
  simp only [k__law_made_2, dn_kOne, List.map_cons, List.map_nil]
  refine (dComp_map (List.range n) (fun k : Nat => .int (0 + (k : Int))) (fun _ => true) (fun k : Nat => .tup [.str (("x" : Str) ++ toString (k : Int)), .tup [.int 0, .int 4]]) (s' := ⟨[a0, a1, some (.dat (.int n)), a3, a4, a5, a6, a7, a8, none], g⟩) ?_ (fun k hk => ?_) ?_).trans ?_
  · have h62 : In62 (n : Int) := in62 (by omega) (by omega)
    simp only [h62, runB_eq, frame0, ob_ok, ob_bad, ob_ite, fo_ok, fo_bad, fo_ite, fn_nx, fn_rt, fn_bk, fn_ct, fn_bad, fn_ite, op_some, op_none, op_ite, fz_dat, fz_own, so_dat, so_own, re_dat, re_own, endB_rt, endB_nx, endB_bad, endB_ite, dVar, dC, dBin, eD, dAnd, dOr, dTru, asB, dtAnd, dtOr, dChain, ib_bl, dCons, ho_dat, ho_own, ho_pk, sq_tup, sq_lst, sq_own, sq_pk, sk_tup, sk_lst, sk_own, sk_pk, ix_tup, ix_lst, ix_pk, sl_tup, sl_lst, sl_scr, tr_non, tr_bl, tr_int, tr_tup, tr_lst, tr_own, ln_tup, ln_lst, ln_own, ln_scr, ln_str, ln_pk, tp_tup, tp_lst, tp_own, tp_pk, ls_tup, ls_lst, ls_own, ad_int, ad_str, ad_tup, ad_lst, oi_int, ob_int, ob_str, lt_int, eq_int, it_tup, it_lst, it_scr, ie_int, ie_bl, io_int, vl_dat, at_0, at_1, at_2, is_non, cl_true, rg_1, rg_2, rg_3, dCall_eq, dCallK_eq, back_ok, dCall1, dCallN, min2D, max2D, negD, putS, dFor, line_le, line_lt, and_self, and_true, List.map_cons, List.map_nil, List.length_cons, List.length_nil, List.cons_append, List.nil_append, List.getElem?_cons_zero, List.getElem?_cons_succ, List.set_cons_zero, List.set_cons_succ, Bool.true_and, Bool.and_true, Bool.false_and, Bool.and_false, if_true, if_false, Bool.not_true, Bool.not_false, Bool.false_eq_true, reduceIte, Option.bind_some, Option.map_some, valI, Nat.reduceAdd, Nat.reduceLeDiff, Nat.reduceSub, Nat.reduceLT, Nat.zero_add, List.reduceReplicate, dn_eVar, dn_eInt, dn_eBl, dn_eNon, dn_eStr, dn_eGlob, dn_mkBin, dn_mkCmp, dn_mkIn, dn_mkChain, dn_eNot, dn_bOne, dn_bAnd, dn_bOr, dn_eBool, dn_tV, dn_tNt, dn_wOne, dn_wAnd, dn_wOr, dn_tBool, dn_eIf, dn_aNil, dn_aCons, dn_eTup, dn_eLst, dn_eIx, dn_oNone, dn_oSome, dn_eSl, dn_eCall, dn_eCall0, dn_bNil, dn_bCons, dn_sSet, dn_sRet, dn_sExpr, dn_sPass, dn_sBreak, dn_sCont, dn_sIf, dn_sAsg, dn_iSeq, dn_iRange, dn_iZip, dn_sFor, dn_sWhile, dn_qNil, dn_qOne, dn_kOne, dn_kTwo, dn_sSetC, dn_mkMeth, dn_mkMeth0, dn_eTIx, dn_tTok, dn_eTok, dn_sIxSet, dn_eNeg, dn_eIsi, dn_eRev, dn_rg1, dn_rg2, dn_eLstRg, dn_eTupRg, dn_sAug, dn_sPar2, dn_kwNil, dn_kwCons, dn_eCallK, dn_eCallK0, dn_kTok, dn_sForT, dn_eC, dn_tC', dn_eK, dn_eAdd, dn_eSub, dn_eMul, dn_eFdiv, dn_eMod, dn_ePow, dn_eShl, dn_eShr, dn_eAnd2, dn_eOr2, dn_cEq, dn_cNe, dn_cLt, dn_cLe, dn_cGt, dn_cGe, dn_cLeLe, dn_eLen, dn_eTupOf, dn_eLstOf, dn_eIntOf, dn_eAbs, dn_eStrOf, dn_eAny, dn_eAll, dn_eSum, dn_eMax1, dn_eMin1, dn_eSorted, dn_eMin2, dn_eMax2, dn_mAppendE, dn_mExtendE, dn_mPopE, dn_mPopAtE, dn_mReverseE, dn_mInsertE, dn_cIs, dn_cIsNot, dn_cIn, dn_cNotIn]
    rfl
  · have hk' : k < n := List.mem_range.mp hk
    refine ⟨⟨[a0, a1, some (.dat (.int n)), a3, a4, a5, a6, a7, a8, some (.dat (.int k))], g⟩, ?_, rfl, fun _ => ?_, rfl⟩
    · rw [Int.zero_add]; rfl
    · have hlg := num_log (show k < 8 by omega)
      have hq : (Str.ofString "x").length + (Str.ofString (toString (k : Int))).length ≤ 100000 := by
        have h1 := num_len ⟨k, by omega⟩
        have h2 : (Str.ofString "x").length ≤ 10 := by decide +kernel
        dsimp only at h1
        omega
      simp only [strD, hlg, hq, runB_eq, frame0, ob_ok, ob_bad, ob_ite, fo_ok, fo_bad, fo_ite, fn_nx, fn_rt, fn_bk, fn_ct, fn_bad, fn_ite, op_some, op_none, op_ite, fz_dat, fz_own, so_dat, so_own, re_dat, re_own, endB_rt, endB_nx, endB_bad, endB_ite, dVar, dC, dBin, eD, dAnd, dOr, dTru, asB, dtAnd, dtOr, dChain, ib_bl, dCons, ho_dat, ho_own, ho_pk, sq_tup, sq_lst, sq_own, sq_pk, sk_tup, sk_lst, sk_own, sk_pk, ix_tup, ix_lst, ix_pk, sl_tup, sl_lst, sl_scr, tr_non, tr_bl, tr_int, tr_tup, tr_lst, tr_own, ln_tup, ln_lst, ln_own, ln_scr, ln_str, ln_pk, tp_tup, tp_lst, tp_own, tp_pk, ls_tup, ls_lst, ls_own, ad_int, ad_str, ad_tup, ad_lst, oi_int, ob_int, ob_str, lt_int, eq_int, it_tup, it_lst, it_scr, ie_int, ie_bl, io_int, vl_dat, at_0, at_1, at_2, is_non, cl_true, rg_1, rg_2, rg_3, dCall_eq, dCallK_eq, back_ok, dCall1, dCallN, min2D, max2D, negD, putS, dFor, line_le, line_lt, and_self, and_true, List.map_cons, List.map_nil, List.length_cons, List.length_nil, List.cons_append, List.nil_append, List.getElem?_cons_zero, List.getElem?_cons_succ, List.set_cons_zero, List.set_cons_succ, Bool.true_and, Bool.and_true, Bool.false_and, Bool.and_false, if_true, if_false, Bool.not_true, Bool.not_false, Bool.false_eq_true, reduceIte, Option.bind_some, Option.map_some, valI, Nat.reduceAdd, Nat.reduceLeDiff, Nat.reduceSub, Nat.reduceLT, Nat.zero_add, List.reduceReplicate, dn_eVar, dn_eInt, dn_eBl, dn_eNon, dn_eStr, dn_eGlob, dn_mkBin, dn_mkCmp, dn_mkIn, dn_mkChain, dn_eNot, dn_bOne, dn_bAnd, dn_bOr, dn_eBool, dn_tV, dn_tNt, dn_wOne, dn_wAnd, dn_wOr, dn_tBool, dn_eIf, dn_aNil, dn_aCons, dn_eTup, dn_eLst, dn_eIx, dn_oNone, dn_oSome, dn_eSl, dn_eCall, dn_eCall0, dn_bNil, dn_bCons, dn_sSet, dn_sRet, dn_sExpr, dn_sPass, dn_sBreak, dn_sCont, dn_sIf, dn_sAsg, dn_iSeq, dn_iRange, dn_iZip, dn_sFor, dn_sWhile, dn_qNil, dn_qOne, dn_kOne, dn_kTwo, dn_sSetC, dn_mkMeth, dn_mkMeth0, dn_eTIx, dn_tTok, dn_eTok, dn_sIxSet, dn_eNeg, dn_eIsi, dn_eRev, dn_rg1, dn_rg2, dn_eLstRg, dn_eTupRg, dn_sAug, dn_sPar2, dn_kwNil, dn_kwCons, dn_eCallK, dn_eCallK0, dn_kTok, dn_sForT, dn_eC, dn_tC', dn_eK, dn_eAdd, dn_eSub, dn_eMul, dn_eFdiv, dn_eMod, dn_ePow, dn_eShl, dn_eShr, dn_eAnd2, dn_eOr2, dn_cEq, dn_cNe, dn_cLt, dn_cLe, dn_cGt, dn_cGe, dn_cLeLe, dn_eLen, dn_eTupOf, dn_eLstOf, dn_eIntOf, dn_eAbs, dn_eStrOf, dn_eAny, dn_eAll, dn_eSum, dn_eMax1, dn_eMin1, dn_eSorted, dn_eMin2, dn_eMax2, dn_mAppendE, dn_mExtendE, dn_mPopE, dn_mPopAtE, dn_mReverseE, dn_mInsertE, dn_cIs, dn_cIsNot, dn_cIn, dn_cNotIn]
  · rw [List.length_range]; omega
  · rw [List.filter_eq_self.mpr (fun _ _ => rfl), box_d]
    rfl
theorem made1 (n : Nat) (hn : n ≤ 8) (a0 a1 a2 a4 a5 a6 a7 a8 : Option Sl) (g : TkG) : k__law_made_1.den ⟨[a0, a1, a2, some (.dat (.int n)), a4, a5, a6, a7, a8, none], g⟩ = .ok (.own ((swiF n).map Fld.d)) ⟨[a0, a1, a2, some (.dat (.int n)), a4, a5, a6, a7, a8, none], g⟩ := by
  simp only [k__law_made_1, dn_kOne, List.map_cons, List.map_nil]
  refine (dComp_map (List.range n) (fun k : Nat => .int (0 + (k : Int))) (fun _ => true) (fun k : Nat => .tup [.str (("s" : Str) ++ toString (k : Int)), .tup [.str "off", .str "on"]]) (s' := ⟨[a0, a1, a2, some (.dat (.int n)), a4, a5, a6, a7, a8, none], g⟩) ?_ (fun k hk => ?_) ?_).trans ?_
  · have h62 : In62 (n : Int) := in62 (by omega) (by omega)
    simp only [h62, runB_eq, frame0, ob_ok, ob_bad, ob_ite, fo_ok, fo_bad, fo_ite, fn_nx, fn_rt, fn_bk, fn_ct, fn_bad, fn_ite, op_some, op_none, op_ite, fz_dat, fz_own, so_dat, so_own, re_dat, re_own, endB_rt, endB_nx, endB_bad, endB_ite, dVar, dC, dBin, eD, dAnd, dOr, dTru, asB, dtAnd, dtOr, dChain, ib_bl, dCons, ho_dat, ho_own, ho_pk, sq_tup, sq_lst, sq_own, sq_pk, sk_tup, sk_lst, sk_own, sk_pk, ix_tup, ix_lst, ix_pk, sl_tup, sl_lst, sl_scr, tr_non, tr_bl, tr_int, tr_tup, tr_lst, tr_own, ln_tup, ln_lst, ln_own, ln_scr, ln_str, ln_pk, tp_tup, tp_lst, tp_own, tp_pk, ls_tup, ls_lst, ls_own, ad_int, ad_str, ad_tup, ad_lst, oi_int, ob_int, ob_str, lt_int, eq_int, it_tup, it_lst, it_scr, ie_int, ie_bl, io_int, vl_dat, at_0, at_1, at_2, is_non, cl_true, rg_1, rg_2, rg_3, dCall_eq, dCallK_eq, back_ok, dCall1, dCallN, min2D, max2D, negD, putS, dFor, line_le, line_lt, and_self, and_true, List.map_cons, List.map_nil, List.length_cons, List.length_nil, List.cons_append, List.nil_append, List.getElem?_cons_zero, List.getElem?_cons_succ, List.set_cons_zero, List.set_cons_succ, Bool.true_and, Bool.and_true, Bool.false_and, Bool.and_false, if_true, if_false, Bool.not_true, Bool.not_false, Bool.false_eq_true, reduceIte, Option.bind_some, Option.map_some, valI, Nat.reduceAdd, Nat.reduceLeDiff, Nat.reduceSub, Nat.reduceLT, Nat.zero_add, List.reduceReplicate, dn_eVar, dn_eInt, dn_eBl, dn_eNon, dn_eStr, dn_eGlob, dn_mkBin, dn_mkCmp, dn_mkIn, dn_mkChain, dn_eNot, dn_bOne, dn_bAnd, dn_bOr, dn_eBool, dn_tV, dn_tNt, dn_wOne, dn_wAnd, dn_wOr, dn_tBool, dn_eIf, dn_aNil, dn_aCons, dn_eTup, dn_eLst, dn_eIx, dn_oNone, dn_oSome, dn_eSl, dn_eCall, dn_eCall0, dn_bNil, dn_bCons, dn_sSet, dn_sRet, dn_sExpr, dn_sPass, dn_sBreak, dn_sCont, dn_sIf, dn_sAsg, dn_iSeq, dn_iRange, dn_iZip, dn_sFor, dn_sWhile, dn_qNil, dn_qOne, dn_kOne, dn_kTwo, dn_sSetC, dn_mkMeth, dn_mkMeth0, dn_eTIx, dn_tTok, dn_eTok, dn_sIxSet, dn_eNeg, dn_eIsi, dn_eRev, dn_rg1, dn_rg2, dn_eLstRg, dn_eTupRg, dn_sAug, dn_sPar2, dn_kwNil, dn_kwCons, dn_eCallK, dn_eCallK0, dn_kTok, dn_sForT, dn_eC, dn_tC', dn_eK, dn_eAdd, dn_eSub, dn_eMul, dn_eFdiv, dn_eMod, dn_ePow, dn_eShl, dn_eShr, dn_eAnd2, dn_eOr2, dn_cEq, dn_cNe, dn_cLt, dn_cLe, dn_cGt, dn_cGe, dn_cLeLe, dn_eLen, dn_eTupOf, dn_eLstOf, dn_eIntOf, dn_eAbs, dn_eStrOf, dn_eAny, dn_eAll, dn_eSum, dn_eMax1, dn_eMin1, dn_eSorted, dn_eMin2, dn_eMax2, dn_mAppendE, dn_mExtendE, dn_mPopE, dn_mPopAtE, dn_mReverseE, dn_mInsertE, dn_cIs, dn_cIsNot, dn_cIn, dn_cNotIn]
    rfl
  · have hk' : k < n := List.mem_range.mp hk
    refine ⟨⟨[a0, a1, a2, some (.dat (.int n)), a4, a5, a6, a7, a8, some (.dat (.int k))], g⟩, ?_, rfl, fun _ => ?_, rfl⟩
    · rw [Int.zero_add]; rfl
    · have hlg := num_log (show k < 8 by omega)
      have hq : (Str.ofString "s").length + (Str.ofString (toString (k : Int))).length ≤ 100000 := by
        have h1 := num_len ⟨k, by omega⟩
        have h2 : (Str.ofString "s").length ≤ 10 := by decide +kernel
        dsimp only at h1
        omega
      simp only [strD, hlg, hq, runB_eq, frame0, ob_ok, ob_bad, ob_ite, fo_ok, fo_bad, fo_ite, fn_nx, fn_rt, fn_bk, fn_ct, fn_bad, fn_ite, op_some, op_none, op_ite, fz_dat, fz_own, so_dat, so_own, re_dat, re_own, endB_rt, endB_nx, endB_bad, endB_ite, dVar, dC, dBin, eD, dAnd, dOr, dTru, asB, dtAnd, dtOr, dChain, ib_bl, dCons, ho_dat, ho_own, ho_pk, sq_tup, sq_lst, sq_own, sq_pk, sk_tup, sk_lst, sk_own, sk_pk, ix_tup, ix_lst, ix_pk, sl_tup, sl_lst, sl_scr, tr_non, tr_bl, tr_int, tr_tup, tr_lst, tr_own, ln_tup, ln_lst, ln_own, ln_scr, ln_str, ln_pk, tp_tup, tp_lst, tp_own, tp_pk, ls_tup, ls_lst, ls_own, ad_int, ad_str, ad_tup, ad_lst, oi_int, ob_int, ob_str, lt_int, eq_int, it_tup, it_lst, it_scr, ie_int, ie_bl, io_int, vl_dat, at_0, at_1, at_2, is_non, cl_true, rg_1, rg_2, rg_3, dCall_eq, dCallK_eq, back_ok, dCall1, dCallN, min2D, max2D, negD, putS, dFor, line_le, line_lt, and_self, and_true, List.map_cons, List.map_nil, List.length_cons, List.length_nil, List.cons_append, List.nil_append, List.getElem?_cons_zero, List.getElem?_cons_succ, List.set_cons_zero, List.set_cons_succ, Bool.true_and, Bool.and_true, Bool.false_and, Bool.and_false, if_true, if_false, Bool.not_true, Bool.not_false, Bool.false_eq_true, reduceIte, Option.bind_some, Option.map_some, valI, Nat.reduceAdd, Nat.reduceLeDiff, Nat.reduceSub, Nat.reduceLT, Nat.zero_add, List.reduceReplicate, dn_eVar, dn_eInt, dn_eBl, dn_eNon, dn_eStr, dn_eGlob, dn_mkBin, dn_mkCmp, dn_mkIn, dn_mkChain, dn_eNot, dn_bOne, dn_bAnd, dn_bOr, dn_eBool, dn_tV, dn_tNt, dn_wOne, dn_wAnd, dn_wOr, dn_tBool, dn_eIf, dn_aNil, dn_aCons, dn_eTup, dn_eLst, dn_eIx, dn_oNone, dn_oSome, dn_eSl, dn_eCall, dn_eCall0, dn_bNil, dn_bCons, dn_sSet, dn_sRet, dn_sExpr, dn_sPass, dn_sBreak, dn_sCont, dn_sIf, dn_sAsg, dn_iSeq, dn_iRange, dn_iZip, dn_sFor, dn_sWhile, dn_qNil, dn_qOne, dn_kOne, dn_kTwo, dn_sSetC, dn_mkMeth, dn_mkMeth0, dn_eTIx, dn_tTok, dn_eTok, dn_sIxSet, dn_eNeg, dn_eIsi, dn_eRev, dn_rg1, dn_rg2, dn_eLstRg, dn_eTupRg, dn_sAug, dn_sPar2, dn_kwNil, dn_kwCons, dn_eCallK, dn_eCallK0, dn_kTok, dn_sForT, dn_eC, dn_tC', dn_eK, dn_eAdd, dn_eSub, dn_eMul, dn_eFdiv, dn_eMod, dn_ePow, dn_eShl, dn_eShr, dn_eAnd2, dn_eOr2, dn_cEq, dn_cNe, dn_cLt, dn_cLe, dn_cGt, dn_cGe, dn_cLeLe, dn_eLen, dn_eTupOf, dn_eLstOf, dn_eIntOf, dn_eAbs, dn_eStrOf, dn_eAny, dn_eAll, dn_eSum, dn_eMax1, dn_eMin1, dn_eSorted, dn_eMin2, dn_eMax2, dn_mAppendE, dn_mExtendE, dn_mPopE, dn_mPopAtE, dn_mReverseE, dn_mInsertE, dn_cIs, dn_cIsNot, dn_cIn, dn_cNotIn]
  · rw [List.length_range]; omega
  · rw [List.filter_eq_self.mpr (fun _ _ => rfl), swi_d]
    rfl
theorem fld_size : ∀ f : List Fld, (∀ x ∈ f, szB x.d ≤ 50 ∧ smp x.d = true) → szL (f.map Fld.d) ≤ 50 * f.length ∧ smps (f.map Fld.d) = true
  | [], _ => ⟨by simp [szL], by simp [smps]⟩
  | x :: f, h => by
    obtain ⟨h1, h2⟩ := h x List.mem_cons_self
    obtain ⟨i1, i2⟩ := fld_size f fun y hy => h y (List.mem_cons_of_mem _ hy)
    rw [List.map_cons, szL, smps, h2, i2, List.length_cons]
    exact ⟨by omega, rfl⟩
theorem box_size (n : Nat) : szL ((boxF n).map Fld.d) ≤ 50 * n ∧ smps ((boxF n).map Fld.d) = true := by
  have := fld_size (boxF n) fun x hx => by
    obtain ⟨k, _, rfl⟩ := List.mem_map.mp hx
    simp only [Fld.d, szB, szL, smp, smps]
    exact ⟨by omega, rfl⟩
  rwa [List.length_map, List.length_range] at this
theorem swi_size (n : Nat) : szL ((swiF n).map Fld.d) ≤ 50 * n ∧ smps ((swiF n).map Fld.d) = true := by
  have := fld_size (swiF n) fun x hx => by
    obtain ⟨k, _, rfl⟩ := List.mem_map.mp hx
    simp only [Fld.d, szB, szL, smp, smps, List.map_cons, List.map_nil]
    exact ⟨by omega, rfl⟩
  rwa [List.length_map, List.length_range] at this
theorem same3 (m : Int) (b s : Nat) (hb : b ≤ 8) (hs : s ≤ 8) (g : TkG) : F__law_same [.tup [.tup [.tup [.str "n", .tup [.int 0, .int m]]], .tup ((boxF b).map Fld.d), .tup ((swiF s).map Fld.d)], .tup [.tup [.tup [.str "n", .tup [.int 0, .int m]]], .tup ((boxF b).map Fld.d), .tup ((swiF s).map Fld.d)]] g = .ok (.dat (.bl true)) g := by
  obtain ⟨h1, h2⟩ := box_size b
  obtain ⟨h3, h4⟩ := swi_size s
  refine same_eq _ (by simp only [smp, smps, h2, h4]; rfl) ?_ g
  simp only [szB, szL]
  omega
theorem box3 : (boxF 3).map Fld.d = [.tup [.str "x0", .tup [.int 0, .int 4]], .tup [.str "x1", .tup [.int 0, .int 4]], .tup [.str "x2", .tup [.int 0, .int 4]]] := by rfl
theorem swi2 : (swiF 2).map Fld.d = [.tup [.str "s0", .tup [.str "off", .str "on"]], .tup [.str "s1", .tup [.str "off", .str "on"]]] := by rfl
theorem made_eq (n : Nat) (hn : n + 400000 ≤ 1000000000) (g : TkG) (hg : LOK n g) : ∃ g', F__law_made [.tok 1] g = .ok (.dat (.bl true)) g' ∧ LOK (n + 400000) g' := by
  obtain ⟨a, g1, ha, e1, h1⟩ := weave_eq 40 (by omega) (by omega) n (by omega) g hg
  obtain ⟨b, g2, hb, e2, h2⟩ := weave_eq 3 (by omega) (by omega) _ (by omega) g1 h1
  obtain ⟨c, g3, hc, e3, h3⟩ := weave_eq 5 (by omega) (by omega) _ (by omega) g2 h2
  have e1' : F__law_weave [.tok 1, .int 40] g = .ok (.dat (.int a)) g1 := e1
  have e2' : F__law_weave [.tok 1, .int 3] g1 = .ok (.dat (.int b)) g2 := e2
  have e3' : F__law_weave [.tok 1, .int 5] g2 = .ok (.dat (.int c)) g3 := e3
  have m1 : (1 : Int) + (a : Int) = ((1 + a : Nat) : Int) := rfl
  have m2 : (1 : Int) + (b : Int) = ((1 + b : Nat) : Int) := rfl
  have m3 : (1 : Int) + (c : Int) = ((1 + c : Nat) : Int) := rfl
  have k2 := made2 (1 + b) (by omega)
  have k1 := made1 (1 + c) (by omega)
  have eb := box_eq (1 + b) (by omega)
  have es := switch_eq (1 + c) (by omega)
  rw [← box_d] at eb
  rw [← swi_d] at es
  have eb3 : ∀ g, F_box_form [.int 3] g = _ := box_eq 3 (by omega)
  have es2 : ∀ g, F_switch_form [.int 2] g = _ := switch_eq 2 (by omega)
  rw [← box_d] at eb3
  rw [← swi_d] at es2
  have s1 := same3 ((1 + a : Nat) : Int) (1 + b) (1 + c) (by omega) (by omega)
  have s2 := same3 1 3 2 (by omega) (by omega)
  rw [box3, swi2] at s2
  rw [box3] at eb3
  rw [swi2] at es2
  obtain ⟨g4, q, hq, e4, h4⟩ := law_of_eq [.tup [.tup [.str "n", .tup [.int 0, .int (1 + a : Nat)]]], .tup ((boxF (1 + b)).map Fld.d), .tup ((swiF (1 + c)).map Fld.d)] (by simp) (by simp) _ (by omega) g3 h3
  obtain ⟨f, hf, okf, lf⟩ : ∃ f : List Fld, [D.tup [.tup [.str "n", .tup [.int 0, .int (1 + a : Nat)]]], .tup ((boxF (1 + b)).map Fld.d), .tup ((swiF (1 + c)).map Fld.d)][q] = formD f ∧ (∀ x ∈ f, x.ok) ∧ f.length ≤ 5 := by
    simp only [List.length_cons, List.length_nil] at hq
    rcases (show q = 0 ∨ q = 1 ∨ q = 2 by omega) with rfl | rfl | rfl
    · refine ⟨[.num "n" 0 (1 + a : Nat)], rfl, fun x hx => ?_, by simp⟩
      rw [List.mem_singleton.mp hx]
      exact ⟨by omega, by omega, by omega⟩
    · exact ⟨boxF (1 + b), rfl, box_ok _, by rw [List.length_map, List.length_range]; omega⟩
    · exact ⟨swiF (1 + c), rfl, swi_ok _, by rw [List.length_map, List.length_range]; omega⟩
  rw [hf] at e4
  obtain ⟨g5, e5, h5⟩ := asked_eq f okf lf _ (by omega) g4 h4
  refine ⟨g5, ?_, h5.mono (by omega)⟩
  simp only [F__law_made, b__law_made, fr__law_weave, e1', e2', e3', m1, m2, m3, k2, k1, fr_chain_form, chain_form_eq, fr_box_form, eb, fr_switch_form, es, fr__law_same, s1, pm_1, eb3, es2, s2, fr__law_of, e4, fr__law_asked, e5, runB_eq, frame0, ob_ok, ob_bad, ob_ite, fo_ok, fo_bad, fo_ite, fn_nx, fn_rt, fn_bk, fn_ct, fn_bad, fn_ite, op_some, op_none, op_ite, fz_dat, fz_own, so_dat, so_own, re_dat, re_own, endB_rt, endB_nx, endB_bad, endB_ite, dVar, dC, dBin, eD, dAnd, dOr, dTru, asB, dtAnd, dtOr, dChain, ib_bl, dCons, ho_dat, ho_own, ho_pk, sq_tup, sq_lst, sq_own, sq_pk, sk_tup, sk_lst, sk_own, sk_pk, ix_tup, ix_lst, ix_pk, sl_tup, sl_lst, sl_scr, tr_non, tr_bl, tr_int, tr_tup, tr_lst, tr_own, ln_tup, ln_lst, ln_own, ln_scr, ln_str, ln_pk, tp_tup, tp_lst, tp_own, tp_pk, ls_tup, ls_lst, ls_own, ad_int, ad_str, ad_tup, ad_lst, oi_int, ob_int, ob_str, lt_int, eq_int, it_tup, it_lst, it_scr, ie_int, ie_bl, io_int, vl_dat, at_0, at_1, at_2, is_non, cl_true, rg_1, rg_2, rg_3, dCall_eq, dCallK_eq, back_ok, dCall1, dCallN, min2D, max2D, negD, putS, dFor, line_le, line_lt, and_self, and_true, List.map_cons, List.map_nil, List.length_cons, List.length_nil, List.cons_append, List.nil_append, List.getElem?_cons_zero, List.getElem?_cons_succ, List.set_cons_zero, List.set_cons_succ, Bool.true_and, Bool.and_true, Bool.false_and, Bool.and_false, if_true, if_false, Bool.not_true, Bool.not_false, Bool.false_eq_true, reduceIte, Option.bind_some, Option.map_some, valI, Nat.reduceAdd, Nat.reduceLeDiff, Nat.reduceSub, Nat.reduceLT, Nat.zero_add, List.reduceReplicate, dn_eVar, dn_eInt, dn_eBl, dn_eNon, dn_eStr, dn_eGlob, dn_mkBin, dn_mkCmp, dn_mkIn, dn_mkChain, dn_eNot, dn_bOne, dn_bAnd, dn_bOr, dn_eBool, dn_tV, dn_tNt, dn_wOne, dn_wAnd, dn_wOr, dn_tBool, dn_eIf, dn_aNil, dn_aCons, dn_eTup, dn_eLst, dn_eIx, dn_oNone, dn_oSome, dn_eSl, dn_eCall, dn_eCall0, dn_bNil, dn_bCons, dn_sSet, dn_sRet, dn_sExpr, dn_sPass, dn_sBreak, dn_sCont, dn_sIf, dn_sAsg, dn_iSeq, dn_iRange, dn_iZip, dn_sFor, dn_sWhile, dn_qNil, dn_qOne, dn_kOne, dn_kTwo, dn_sSetC, dn_mkMeth, dn_mkMeth0, dn_eTIx, dn_tTok, dn_eTok, dn_sIxSet, dn_eNeg, dn_eIsi, dn_eRev, dn_rg1, dn_rg2, dn_eLstRg, dn_eTupRg, dn_sAug, dn_sPar2, dn_kwNil, dn_kwCons, dn_eCallK, dn_eCallK0, dn_kTok, dn_sForT, dn_eC, dn_tC', dn_eK, dn_eAdd, dn_eSub, dn_eMul, dn_eFdiv, dn_eMod, dn_ePow, dn_eShl, dn_eShr, dn_eAnd2, dn_eOr2, dn_cEq, dn_cNe, dn_cLt, dn_cLe, dn_cGt, dn_cGe, dn_cLeLe, dn_eLen, dn_eTupOf, dn_eLstOf, dn_eIntOf, dn_eAbs, dn_eStrOf, dn_eAny, dn_eAll, dn_eSum, dn_eMax1, dn_eMin1, dn_eSorted, dn_eMin2, dn_eMax2, dn_mAppendE, dn_mExtendE, dn_mPopE, dn_mPopAtE, dn_mReverseE, dn_mInsertE, dn_cIs, dn_cIsNot, dn_cIn, dn_cNotIn]
end K38

namespace K38
open PySem PySem.Spec RB
def form0 : List Fld := [.num "hour" 0 5, .wrd "kind" ["bill", "note", "plan"], .wrd "old" ["no", "yes"]]
def rule0 : Option (List Cnd) := some [.num 1 3, .wrd ["bill", "note"], .wrd ["no"]]
theorem form0_ok : ∀ x ∈ form0, x.ok := by
  intro x hx
  unfold form0 at hx
  simp only [List.mem_cons, List.not_mem_nil, or_false] at hx
  rcases hx with rfl | rfl | rfl <;> exact ⟨by decide, by decide⟩
theorem rule0_fit : RF form0 rule0 := by
  refine ⟨rfl, fun c hc => ?_⟩
  simp only [List.mem_cons, List.not_mem_nil, or_false] at hc
  rcases hc with rfl | rfl | rfl
  · trivial
  · exact ⟨by decide, by decide⟩
  · exact ⟨by decide, by decide⟩
theorem form0_d : formD form0 = (.tup [.tup [.str "hour", .tup [.int 0, .int 5]], .tup [.str "kind", .tup [.str "bill", .str "note", .str "plan"]], .tup [.str "old", .tup [.str "no", .str "yes"]]] : D) := rfl
theorem rule0_d : ruleD rule0 = (.tup [.tup [.int 1, .int 3], .tup [.str "bill", .str "note"], .tup [.str "no"]] : D) := rfl
theorem due0 (w : Nat) : logD form0 (.str "d") rule0 [8 + 36 * w, 0, 35] = [.tup [.str "d", .tup [.int 1, .str "note", .str "no"], .str "let"], .tup [.str "d", .tup [.int 0, .str "bill", .str "no"], .str "refused"], .tup [.str "d", .tup [.int 5, .str "plan", .str "yes"], .str "refused"]] := by
  have hp : prodV form0 = 36 := rfl
  have e : nthC form0 (8 + 36 * w) = nthC form0 8 := by
    rw [← nth_mod, hp, show (8 + 36 * w) % 36 = 8 by omega]
  have e1 : nthC form0 8 = [.int 1, .str "note", .str "no"] := rfl
  have e2 : nthC form0 0 = [.int 0, .str "bill", .str "no"] := rfl
  have e3 : nthC form0 35 = [.int 5, .str "plan", .str "yes"] := rfl
  have s1 : saysM rule0 [.int 1, .str "note", .str "no"] = true := by simp [saysM, rule0, letsM, takesM, eqB]
  have s2 : saysM rule0 [.int 0, .str "bill", .str "no"] = false := by simp [saysM, rule0, letsM, takesM, eqB]
  have s3 : saysM rule0 [.int 5, .str "plan", .str "yes"] = false := by simp [saysM, rule0, letsM, takesM, eqB]
  unfold logD
  simp only [List.map_cons, List.map_nil, rowD, e, e1, e2, e3, s1, s2, s3, if_true, if_false, Bool.false_eq_true]
theorem due1 (r : Option (List Cnd)) (h : r = none ∨ r = rule0) : logD form0 (.str "d") r (List.range 2) = [.tup [.str "d", .tup [.int 0, .str "bill", .str "no"], .str "refused"], .tup [.str "d", .tup [.int 0, .str "bill", .str "yes"], .str "refused"]] := by
  have hr : List.range 2 = [0, 1] := rfl
  have e2 : nthC form0 0 = [.int 0, .str "bill", .str "no"] := rfl
  have e3 : nthC form0 1 = [.int 0, .str "bill", .str "yes"] := rfl
  rw [hr]
  unfold logD
  rcases h with rfl | rfl
  · simp only [List.map_cons, List.map_nil, rowD, e2, e3, saysM, if_false, Bool.false_eq_true]
  · have s2 : saysM rule0 [.int 0, .str "bill", .str "no"] = false := by simp [saysM, rule0, letsM, takesM, eqB]
    have s3 : saysM rule0 [.int 0, .str "bill", .str "yes"] = false := by simp [saysM, rule0, letsM, takesM, eqB]
    simp only [List.map_cons, List.map_nil, rowD, e2, e3, s2, s3, if_false, Bool.false_eq_true]
abbrev lawS (a0 a2 a3 a4 a5 a6 x7 : Option Sl) (g : TkG) : Stt TkG := ⟨[a0, some (.dat (.tok 1)), a2, a3, a4, a5, a6, x7, none, none], g⟩
theorem laps_eq (n : Nat) (hn : n + 10000000 ≤ 1000000000) (g : TkG) (hg : LOK n g) (a0 a2 a3 a4 a5 a6 : Option Sl) : ∃ x7 g', forD (gN 7 : GI TkG).den l_law_1.den (rngL 0 (3 : Int).toNat) (lawS a0 a2 a3 a4 a5 a6 none g) = .nx (lawS a0 a2 a3 a4 a5 a6 x7 g') ∧ LOK (n + 3000000) g' := by
  obtain ⟨s', e, x7, g', h, rfl⟩ := forD_inv (g := (gN 7 : GI TkG).den) (body := l_law_1.den) (rngL 0 (3 : Int).toNat)
    (fun k s => ∃ x7 g', LOK (n + 1000000 * k) g' ∧ s = lawS a0 a2 a3 a4 a5 a6 x7 g')
    (fun k hk s ⟨x7, g', h, hs⟩ => by
      subst hs
      rw [rngL_get]
      rw [rngL_len] at hk
      have hk' : k < 3 := hk
      obtain ⟨f, g1, hf, ok, h1, e1⟩ := law_form_eq 5 (by omega) 4000 (by omega) _ (by omega) g' h
      obtain ⟨g2, e2, h2⟩ := asked_eq f ok hf _ (by omega) g1 h1
      obtain ⟨g3, e3, h3⟩ := made_eq _ (by omega) g2 h2
      have e1' : F__law_form [.tok 1, .int 5, .int 4000] g' = .ok (.dat (formD f)) g1 := e1
      refine ⟨_, rfl, lawS a0 a2 a3 a4 a5 a6 (some (.dat (.int (0 + k)))) g3, .inl ?_, _, g3, h3.mono (by omega), rfl⟩
      simp only [l_law_1, fr__law_form, fr__law_asked, fr__law_made, e1', e2, e3, runB_eq, frame0, ob_ok, ob_bad, ob_ite, fo_ok, fo_bad, fo_ite, fn_nx, fn_rt, fn_bk, fn_ct, fn_bad, fn_ite, op_some, op_none, op_ite, fz_dat, fz_own, so_dat, so_own, re_dat, re_own, endB_rt, endB_nx, endB_bad, endB_ite, dVar, dC, dBin, eD, dAnd, dOr, dTru, asB, dtAnd, dtOr, dChain, ib_bl, dCons, ho_dat, ho_own, ho_pk, sq_tup, sq_lst, sq_own, sq_pk, sk_tup, sk_lst, sk_own, sk_pk, ix_tup, ix_lst, ix_pk, sl_tup, sl_lst, sl_scr, tr_non, tr_bl, tr_int, tr_tup, tr_lst, tr_own, ln_tup, ln_lst, ln_own, ln_scr, ln_str, ln_pk, tp_tup, tp_lst, tp_own, tp_pk, ls_tup, ls_lst, ls_own, ad_int, ad_str, ad_tup, ad_lst, oi_int, ob_int, ob_str, lt_int, eq_int, it_tup, it_lst, it_scr, ie_int, ie_bl, io_int, vl_dat, at_0, at_1, at_2, is_non, cl_true, rg_1, rg_2, rg_3, dCall_eq, dCallK_eq, back_ok, dCall1, dCallN, min2D, max2D, negD, putS, dFor, line_le, line_lt, and_self, and_true, List.map_cons, List.map_nil, List.length_cons, List.length_nil, List.cons_append, List.nil_append, List.getElem?_cons_zero, List.getElem?_cons_succ, List.set_cons_zero, List.set_cons_succ, Bool.true_and, Bool.and_true, Bool.false_and, Bool.and_false, if_true, if_false, Bool.not_true, Bool.not_false, Bool.false_eq_true, reduceIte, Option.bind_some, Option.map_some, valI, Nat.reduceAdd, Nat.reduceLeDiff, Nat.reduceSub, Nat.reduceLT, Nat.zero_add, List.reduceReplicate, dn_eVar, dn_eInt, dn_eBl, dn_eNon, dn_eStr, dn_eGlob, dn_mkBin, dn_mkCmp, dn_mkIn, dn_mkChain, dn_eNot, dn_bOne, dn_bAnd, dn_bOr, dn_eBool, dn_tV, dn_tNt, dn_wOne, dn_wAnd, dn_wOr, dn_tBool, dn_eIf, dn_aNil, dn_aCons, dn_eTup, dn_eLst, dn_eIx, dn_oNone, dn_oSome, dn_eSl, dn_eCall, dn_eCall0, dn_bNil, dn_bCons, dn_sSet, dn_sRet, dn_sExpr, dn_sPass, dn_sBreak, dn_sCont, dn_sIf, dn_sAsg, dn_iSeq, dn_iRange, dn_iZip, dn_sFor, dn_sWhile, dn_qNil, dn_qOne, dn_kOne, dn_kTwo, dn_sSetC, dn_mkMeth, dn_mkMeth0, dn_eTIx, dn_tTok, dn_eTok, dn_sIxSet, dn_eNeg, dn_eIsi, dn_eRev, dn_rg1, dn_rg2, dn_eLstRg, dn_eTupRg, dn_sAug, dn_sPar2, dn_kwNil, dn_kwCons, dn_eCallK, dn_eCallK0, dn_kTok, dn_sForT, dn_eC, dn_tC', dn_eK, dn_eAdd, dn_eSub, dn_eMul, dn_eFdiv, dn_eMod, dn_ePow, dn_eShl, dn_eShr, dn_eAnd2, dn_eOr2, dn_cEq, dn_cNe, dn_cLt, dn_cLe, dn_cGt, dn_cGe, dn_cLeLe, dn_eLen, dn_eTupOf, dn_eLstOf, dn_eIntOf, dn_eAbs, dn_eStrOf, dn_eAny, dn_eAll, dn_eSum, dn_eMax1, dn_eMin1, dn_eSorted, dn_eMin2, dn_eMax2, dn_mAppendE, dn_mExtendE, dn_mPopE, dn_mPopAtE, dn_mReverseE, dn_mInsertE, dn_cIs, dn_cIsNot, dn_cIn, dn_cNotIn, dn_gN, dn_gT, dn_gsNil, dn_gsCons])
    (lawS a0 a2 a3 a4 a5 a6 none g) ⟨none, g, hg, rfl⟩
  exact ⟨x7, g', e, h.mono (by rw [rngL_len]; have : (3 : Int).toNat = 3 := rfl; omega)⟩
theorem law_true : ∀ ns : List Int, ns.length ≤ 63 → (∀ z ∈ ns, Builtin.Int.intBits z ≤ 1048576) → ∃ g', F_law [.scr ns] [] = .ok (.dat (.bl true)) g' := by
  intro ns hns _
  obtain ⟨g1, e1, h1⟩ := loom_eq ns hns
  obtain ⟨w, g2, hw, e2, h2⟩ := weave_eq 1000 (by omega) (by omega) _ (by omega) g1 h1
  have e2' : F__law_weave [.tok 1, .int 1000] g1 = .ok (.dat (.int w)) g2 := e2
  have b1 : decide ((Int.natAbs 36).log2 + (w : Int).natAbs.log2 < 1000000) = true := dok (mul_ok (nb (by decide) (by decide)) (nb (by omega) (by omega)))
  have dw : (8 : Int) + 36 * (w : Int) = ((8 + 36 * w : Nat) : Int) := by omega
  have d1 : ∀ g, F_drawn_log [(.tup [.tup [.str "hour", .tup [.int 0, .int 5]], .tup [.str "kind", .tup [.str "bill", .str "note", .str "plan"]], .tup [.str "old", .tup [.str "no", .str "yes"]]] : D), .str "d", (.tup [.tup [.int 1, .int 3], .tup [.str "bill", .str "note"], .tup [.str "no"]] : D), .tup [.int (8 + 36 * w : Nat), .int 0, .int 35]] g = .ok (.dat (.tup [.tup [.str "d", .tup [.int 1, .str "note", .str "no"], .str "let"], .tup [.str "d", .tup [.int 0, .str "bill", .str "no"], .str "refused"], .tup [.str "d", .tup [.int 5, .str "plan", .str "yes"], .str "refused"]])) g := fun g => by
    have := drawn_log_eq form0 form0_ok (by decide) (.str "d") rule0 rule0_fit (.tup [.int (8 + 36 * w : Nat), .int 0, .int 35]) [8 + 36 * w, 0, 35] rfl (by simp) g
    rw [due0, form0_d, rule0_d] at this
    exact this
  have d2 : ∀ g, F_drawn_log [(.tup [.tup [.str "hour", .tup [.int 0, .int 5]], .tup [.str "kind", .tup [.str "bill", .str "note", .str "plan"]], .tup [.str "old", .tup [.str "no", .str "yes"]]] : D), .str "d", .non, .tup []] g = .ok (.dat (.tup [])) g := fun g => by
    have := drawn_log_eq form0 form0_ok (by decide) (.str "d") none trivial (.tup []) [] rfl (by simp) g
    rw [form0_d] at this
    exact this
  have d3 : ∀ g, F_number_log [(.tup [.tup [.str "hour", .tup [.int 0, .int 5]], .tup [.str "kind", .tup [.str "bill", .str "note", .str "plan"]], .tup [.str "old", .tup [.str "no", .str "yes"]]] : D), .str "d", (.tup [.tup [.int 1, .int 3], .tup [.str "bill", .str "note"], .tup [.str "no"]] : D), .int 0] g = .ok (.dat (.tup [])) g := fun g => by
    have := number_log_eq form0 form0_ok (by decide) (.str "d") rule0 rule0_fit 0 (by omega) g
    rw [form0_d, rule0_d] at this
    exact this
  have d4 : ∀ g, F_number_log [(.tup [.tup [.str "hour", .tup [.int 0, .int 5]], .tup [.str "kind", .tup [.str "bill", .str "note", .str "plan"]], .tup [.str "old", .tup [.str "no", .str "yes"]]] : D), .str "d", .non, .int 2] g = .ok (.dat (.tup [.tup [.str "d", .tup [.int 0, .str "bill", .str "no"], .str "refused"], .tup [.str "d", .tup [.int 0, .str "bill", .str "yes"], .str "refused"]])) g := fun g => by
    have := number_log_eq form0 form0_ok (by decide) (.str "d") none trivial 2 (by omega) g
    rw [due1 none (.inl rfl), form0_d] at this
    exact this
  have d5 : ∀ g, F_number_log [(.tup [.tup [.str "hour", .tup [.int 0, .int 5]], .tup [.str "kind", .tup [.str "bill", .str "note", .str "plan"]], .tup [.str "old", .tup [.str "no", .str "yes"]]] : D), .str "d", (.tup [.tup [.int 1, .int 3], .tup [.str "bill", .str "note"], .tup [.str "no"]] : D), .int 2] g = .ok (.dat (.tup [.tup [.str "d", .tup [.int 0, .str "bill", .str "no"], .str "refused"], .tup [.str "d", .tup [.int 0, .str "bill", .str "yes"], .str "refused"]])) g := fun g => by
    have := number_log_eq form0 form0_ok (by decide) (.str "d") rule0 rule0_fit 2 (by omega) g
    rw [due1 rule0 (.inr rfl), form0_d, rule0_d] at this
    exact this
  have s1 : ∀ g, F__law_same [.tup [.tup [.tup [.str "d", .tup [.int 1, .str "note", .str "no"], .str "let"], .tup [.str "d", .tup [.int 0, .str "bill", .str "no"], .str "refused"], .tup [.str "d", .tup [.int 5, .str "plan", .str "yes"], .str "refused"]], .tup [], .tup []], .tup [.tup [.tup [.str "d", .tup [.int 1, .str "note", .str "no"], .str "let"], .tup [.str "d", .tup [.int 0, .str "bill", .str "no"], .str "refused"], .tup [.str "d", .tup [.int 5, .str "plan", .str "yes"], .str "refused"]], .tup [], .tup []]] g = .ok (.dat (.bl true)) g := same_eq _ (by simp [smp, smps]) (by simp [szB, szL])
  have s2 : ∀ g, F__law_same [.tup [.tup [.tup [.str "d", .tup [.int 0, .str "bill", .str "no"], .str "refused"], .tup [.str "d", .tup [.int 0, .str "bill", .str "yes"], .str "refused"]], .tup [.tup [.str "d", .tup [.int 0, .str "bill", .str "no"], .str "refused"], .tup [.str "d", .tup [.int 0, .str "bill", .str "yes"], .str "refused"]]], .tup [.tup [.tup [.str "d", .tup [.int 0, .str "bill", .str "no"], .str "refused"], .tup [.str "d", .tup [.int 0, .str "bill", .str "yes"], .str "refused"]], .tup [.tup [.str "d", .tup [.int 0, .str "bill", .str "no"], .str "refused"], .tup [.str "d", .tup [.int 0, .str "bill", .str "yes"], .str "refused"]]]] g = .ok (.dat (.bl true)) g := same_eq _ (by simp [smp, smps]) (by simp [szB, szL])
  have h62 : In62 3 := in62 (by omega) (by omega)
  obtain ⟨x7, g3, el, h3⟩ := laps_eq _ (by omega) g2 h2 (some (.dat (.scr ns))) (some (.dat (.tup [.tup [.str "hour", .tup [.int 0, .int 5]], .tup [.str "kind", .tup [.str "bill", .str "note", .str "plan"]], .tup [.str "old", .tup [.str "no", .str "yes"]]] : D))) (some (.dat (.tup [.tup [.int 1, .int 3], .tup [.str "bill", .str "note"], .tup [.str "no"]] : D))) (some (.dat (.int (36 * (w : Int))))) (some (.dat (.tup [.tup [.str "d", .tup [.int 0, .str "bill", .str "no"], .str "refused"], .tup [.str "d", .tup [.int 0, .str "bill", .str "yes"], .str "refused"]]))) (some (.dat (.tup [.tup [.tup [.str "d", .tup [.int 1, .str "note", .str "no"], .str "let"], .tup [.str "d", .tup [.int 0, .str "bill", .str "no"], .str "refused"], .tup [.str "d", .tup [.int 5, .str "plan", .str "yes"], .str "refused"]], .tup []])))
  unfold lawS at el
  obtain ⟨c, g4, hc, e4, h4⟩ := weave_eq 7 (by omega) (by omega) _ (by omega) g3 h3
  have e4' : F__law_weave [.tok 1, .int 7] g3 = .ok (.dat (.int c)) g4 := e4
  cases hz : ((c : Int) == 3) with
  | false =>
    refine ⟨g4, ?_⟩
    simp only [F_law, b_law, fr__law_loom, e1, fr__law_weave, e2', b1, dw, fr_drawn_log, d1, d2, fr_number_log, d3, pm_4, d4, d5, fr__law_same, s1, s2, h62, el, e4', hz, runB_eq, frame0, ob_ok, ob_bad, ob_ite, fo_ok, fo_bad, fo_ite, fn_nx, fn_rt, fn_bk, fn_ct, fn_bad, fn_ite, op_some, op_none, op_ite, fz_dat, fz_own, so_dat, so_own, re_dat, re_own, endB_rt, endB_nx, endB_bad, endB_ite, dVar, dC, dBin, eD, dAnd, dOr, dTru, asB, dtAnd, dtOr, dChain, ib_bl, dCons, ho_dat, ho_own, ho_pk, sq_tup, sq_lst, sq_own, sq_pk, sk_tup, sk_lst, sk_own, sk_pk, ix_tup, ix_lst, ix_pk, sl_tup, sl_lst, sl_scr, tr_non, tr_bl, tr_int, tr_tup, tr_lst, tr_own, ln_tup, ln_lst, ln_own, ln_scr, ln_str, ln_pk, tp_tup, tp_lst, tp_own, tp_pk, ls_tup, ls_lst, ls_own, ad_int, ad_str, ad_tup, ad_lst, oi_int, ob_int, ob_str, lt_int, eq_int, it_tup, it_lst, it_scr, ie_int, ie_bl, io_int, vl_dat, at_0, at_1, at_2, is_non, cl_true, rg_1, rg_2, rg_3, dCall_eq, dCallK_eq, back_ok, dCall1, dCallN, min2D, max2D, negD, putS, dFor, line_le, line_lt, and_self, and_true, List.map_cons, List.map_nil, List.length_cons, List.length_nil, List.cons_append, List.nil_append, List.getElem?_cons_zero, List.getElem?_cons_succ, List.set_cons_zero, List.set_cons_succ, Bool.true_and, Bool.and_true, Bool.false_and, Bool.and_false, if_true, if_false, Bool.not_true, Bool.not_false, Bool.false_eq_true, reduceIte, Option.bind_some, Option.map_some, valI, Nat.reduceAdd, Nat.reduceLeDiff, Nat.reduceSub, Nat.reduceLT, Nat.zero_add, List.reduceReplicate, dn_eVar, dn_eInt, dn_eBl, dn_eNon, dn_eStr, dn_eGlob, dn_mkBin, dn_mkCmp, dn_mkIn, dn_mkChain, dn_eNot, dn_bOne, dn_bAnd, dn_bOr, dn_eBool, dn_tV, dn_tNt, dn_wOne, dn_wAnd, dn_wOr, dn_tBool, dn_eIf, dn_aNil, dn_aCons, dn_eTup, dn_eLst, dn_eIx, dn_oNone, dn_oSome, dn_eSl, dn_eCall, dn_eCall0, dn_bNil, dn_bCons, dn_sSet, dn_sRet, dn_sExpr, dn_sPass, dn_sBreak, dn_sCont, dn_sIf, dn_sAsg, dn_iSeq, dn_iRange, dn_iZip, dn_sFor, dn_sWhile, dn_qNil, dn_qOne, dn_kOne, dn_kTwo, dn_sSetC, dn_mkMeth, dn_mkMeth0, dn_eTIx, dn_tTok, dn_eTok, dn_sIxSet, dn_eNeg, dn_eIsi, dn_eRev, dn_rg1, dn_rg2, dn_eLstRg, dn_eTupRg, dn_sAug, dn_sPar2, dn_kwNil, dn_kwCons, dn_eCallK, dn_eCallK0, dn_kTok, dn_sForT, dn_eC, dn_tC', dn_eK, dn_eAdd, dn_eSub, dn_eMul, dn_eFdiv, dn_eMod, dn_ePow, dn_eShl, dn_eShr, dn_eAnd2, dn_eOr2, dn_cEq, dn_cNe, dn_cLt, dn_cLe, dn_cGt, dn_cGe, dn_cLeLe, dn_eLen, dn_eTupOf, dn_eLstOf, dn_eIntOf, dn_eAbs, dn_eStrOf, dn_eAny, dn_eAll, dn_eSum, dn_eMax1, dn_eMin1, dn_eSorted, dn_eMin2, dn_eMax2, dn_mAppendE, dn_mExtendE, dn_mPopE, dn_mPopAtE, dn_mReverseE, dn_mInsertE, dn_cIs, dn_cIsNot, dn_cIn, dn_cNotIn]
  | true =>
    obtain ⟨a, g5, ha, e5, h5⟩ := weave_eq 10 (by omega) (by omega) _ (by omega) g4 h4
    obtain ⟨b, g6, hb, e6, h6⟩ := weave_eq 2 (by omega) (by omega) _ (by omega) g5 h5
    have e5' : F__law_weave [.tok 1, .int 10] g4 = .ok (.dat (.int a)) g5 := e5
    have e6' : F__law_weave [.tok 1, .int 2] g5 = .ok (.dat (.int b)) g6 := e6
    obtain ⟨f, hf, okf, lf⟩ : ∃ f : List Fld, cutL [D.tup [.str "v", .tup [.str "a", .str "b", .str "c", .str "d", .str "e"]], .tup [.str "f", .tup [.int (-40), .int (39 - (a : Int))]], .tup [.str "w", .tup [.int (40 - 4), .int 40]]] (some (b : Int)) none = f.map Fld.d ∧ (∀ x ∈ f, x.ok) ∧ f.length ≤ 5 := by
      rcases (show b = 0 ∨ b = 1 by omega) with rfl | rfl
      · refine ⟨[.wrd "v" ["a", "b", "c", "d", "e"], .num "f" (-40) (39 - (a : Int)), .num "w" (40 - 4) 40], rfl, fun x hx => ?_, by simp⟩
        simp only [List.mem_cons, List.not_mem_nil, or_false] at hx
        rcases hx with rfl | rfl | rfl
        · exact ⟨by decide, by decide⟩
        · exact ⟨by omega, by omega, by omega⟩
        · exact ⟨by omega, by omega, by omega⟩
      · refine ⟨[.num "f" (-40) (39 - (a : Int)), .num "w" (40 - 4) 40], rfl, fun x hx => ?_, by simp⟩
        simp only [List.mem_cons, List.not_mem_nil, or_false] at hx
        rcases hx with rfl | rfl
        · exact ⟨by omega, by omega, by omega⟩
        · exact ⟨by omega, by omega, by omega⟩
    obtain ⟨g7, e7, h7⟩ := asked_eq f okf lf _ (by omega) g6 h6
    refine ⟨g7, ?_⟩
    simp only [F_law, b_law, fr__law_loom, e1, fr__law_weave, e2', b1, dw, fr_drawn_log, d1, d2, fr_number_log, d3, pm_4, d4, d5, fr__law_same, s1, s2, h62, el, e4', hz, e5', e6', ng_int, hf, fr__law_asked, e7, runB_eq, frame0, ob_ok, ob_bad, ob_ite, fo_ok, fo_bad, fo_ite, fn_nx, fn_rt, fn_bk, fn_ct, fn_bad, fn_ite, op_some, op_none, op_ite, fz_dat, fz_own, so_dat, so_own, re_dat, re_own, endB_rt, endB_nx, endB_bad, endB_ite, dVar, dC, dBin, eD, dAnd, dOr, dTru, asB, dtAnd, dtOr, dChain, ib_bl, dCons, ho_dat, ho_own, ho_pk, sq_tup, sq_lst, sq_own, sq_pk, sk_tup, sk_lst, sk_own, sk_pk, ix_tup, ix_lst, ix_pk, sl_tup, sl_lst, sl_scr, tr_non, tr_bl, tr_int, tr_tup, tr_lst, tr_own, ln_tup, ln_lst, ln_own, ln_scr, ln_str, ln_pk, tp_tup, tp_lst, tp_own, tp_pk, ls_tup, ls_lst, ls_own, ad_int, ad_str, ad_tup, ad_lst, oi_int, ob_int, ob_str, lt_int, eq_int, it_tup, it_lst, it_scr, ie_int, ie_bl, io_int, vl_dat, at_0, at_1, at_2, is_non, cl_true, rg_1, rg_2, rg_3, dCall_eq, dCallK_eq, back_ok, dCall1, dCallN, min2D, max2D, negD, putS, dFor, line_le, line_lt, and_self, and_true, List.map_cons, List.map_nil, List.length_cons, List.length_nil, List.cons_append, List.nil_append, List.getElem?_cons_zero, List.getElem?_cons_succ, List.set_cons_zero, List.set_cons_succ, Bool.true_and, Bool.and_true, Bool.false_and, Bool.and_false, if_true, if_false, Bool.not_true, Bool.not_false, Bool.false_eq_true, reduceIte, Option.bind_some, Option.map_some, valI, Nat.reduceAdd, Nat.reduceLeDiff, Nat.reduceSub, Nat.reduceLT, Nat.zero_add, List.reduceReplicate, dn_eVar, dn_eInt, dn_eBl, dn_eNon, dn_eStr, dn_eGlob, dn_mkBin, dn_mkCmp, dn_mkIn, dn_mkChain, dn_eNot, dn_bOne, dn_bAnd, dn_bOr, dn_eBool, dn_tV, dn_tNt, dn_wOne, dn_wAnd, dn_wOr, dn_tBool, dn_eIf, dn_aNil, dn_aCons, dn_eTup, dn_eLst, dn_eIx, dn_oNone, dn_oSome, dn_eSl, dn_eCall, dn_eCall0, dn_bNil, dn_bCons, dn_sSet, dn_sRet, dn_sExpr, dn_sPass, dn_sBreak, dn_sCont, dn_sIf, dn_sAsg, dn_iSeq, dn_iRange, dn_iZip, dn_sFor, dn_sWhile, dn_qNil, dn_qOne, dn_kOne, dn_kTwo, dn_sSetC, dn_mkMeth, dn_mkMeth0, dn_eTIx, dn_tTok, dn_eTok, dn_sIxSet, dn_eNeg, dn_eIsi, dn_eRev, dn_rg1, dn_rg2, dn_eLstRg, dn_eTupRg, dn_sAug, dn_sPar2, dn_kwNil, dn_kwCons, dn_eCallK, dn_eCallK0, dn_kTok, dn_sForT, dn_eC, dn_tC', dn_eK, dn_eAdd, dn_eSub, dn_eMul, dn_eFdiv, dn_eMod, dn_ePow, dn_eShl, dn_eShr, dn_eAnd2, dn_eOr2, dn_cEq, dn_cNe, dn_cLt, dn_cLe, dn_cGt, dn_cGe, dn_cLeLe, dn_eLen, dn_eTupOf, dn_eLstOf, dn_eIntOf, dn_eAbs, dn_eStrOf, dn_eAny, dn_eAll, dn_eSum, dn_eMax1, dn_eMin1, dn_eSorted, dn_eMin2, dn_eMax2, dn_mAppendE, dn_mExtendE, dn_mPopE, dn_mPopAtE, dn_mReverseE, dn_mInsertE, dn_cIs, dn_cIsNot, dn_cIn, dn_cNotIn]
end K38

namespace K38
open PySem PySem.Spec PyProof.Rows L2 RB
structure Hn (L : Law TkG) : Prop where
  tk : TkLaw L
  m_abs : L.mg ("abs" : Str) = none
  m_all : L.mg ("all" : Str) = none
  m_bool : L.mg ("bool" : Str) = none
  m_int : L.mg ("int" : Str) = none
  m_isinstance : L.mg ("isinstance" : Str) = none
  m_len : L.mg ("len" : Str) = none
  m_list : L.mg ("list" : Str) = none
  m_max : L.mg ("max" : Str) = none
  m_min : L.mg ("min" : Str) = none
  m_range : L.mg ("range" : Str) = none
  m_sorted : L.mg ("sorted" : Str) = none
  m_str : L.mg ("str" : Str) = none
  m_tuple : L.mg ("tuple" : Str) = none
  m_zip : L.mg ("zip" : Str) = none
  f_is_integer : DefAt L "is_integer" (topS 1) ["thing"]
  f_chain_form : DefAt L "chain_form" (topS 18) ["many"]
  f_box_form : DefAt L "box_form" (topS 19) ["many"]
  f_switch_form : DefAt L "switch_form" (topS 20) ["many"]
  f__law_loom : DefAt L "_law_loom" (topS 22) ["script"]
  f__law_weave : DefAt L "_law_weave" (topS 23) ["loom", "many"]
  f__law_same : DefAt L "_law_same" (topS 25) ["told", "due"]
  f__law_bag : DefAt L "_law_bag" (topS 26) []
  f__law_numbers : DefAt L "_law_numbers" (topS 28) ["field"]
  f_is_number_field : DefAt L "is_number_field" (topS 3) ["form", "place"]
  f_is_number_condition : DefAt L "is_number_condition" (topS 9) ["condition"]
  f__law_of : DefAt L "_law_of" (topS 24) ["loom", "row"]
  f__law_form : DefAt L "_law_form" (topS 27) ["loom", "fields", "most"]
  f__law_values : DefAt L "_law_values" (topS 29) ["field"]
  f__law_lets : DefAt L "_law_lets" (topS 30) ["form", "rule", "case"]
  f__law_numbers_of : DefAt L "_law_numbers_of" (topS 34) ["loom", "many"]
  f_values_of : DefAt L "values_of" (topS 4) ["form", "place"]
  f_takes : DefAt L "takes" (topS 10) ["condition", "value"]
  f__law_rule : DefAt L "_law_rule" (topS 31) ["loom", "form"]
  f__law_nth : DefAt L "_law_nth" (topS 32) ["form", "number"]
  f_value_count : DefAt L "value_count" (topS 5) ["form", "place"]
  f_lets : DefAt L "lets" (topS 11) ["rule", "case"]
  f__law_due : DefAt L "_law_due" (topS 33) ["form", "deed", "rule", "numbers"]
  f_case_count : DefAt L "case_count" (topS 6) ["form"]
  f_answered : DefAt L "answered" (topS 13) ["log", "deed", "rule", "case"]
  f_nth_case : DefAt L "nth_case" (topS 7) ["form", "number"]
  f_drawn_log : DefAt L "drawn_log" (topS 15) ["form", "deed", "rule", "numbers"]
  f_number_log : DefAt L "number_log" (topS 16) ["form", "deed", "rule", "many"]
  f__law_asked : DefAt L "_law_asked" (topS 35) ["loom", "form"]
  f__law_made : DefAt L "_law_made" (topS 36) ["loom"]
  f_law : DefAt L "law" (topS 37) ["script"]
  k_drawn_log_0 : DefAtK L "drawn_log" (topS 15) ["form", "deed", "rule", "numbers"] 0 ["numbers", "rule", "deed", "form"] [3, 2, 1, 0]
  k_switch_form_1 : DefAtK L "switch_form" (topS 20) ["many"] 0 ["many"] [0]
  k_box_form_2 : DefAtK L "box_form" (topS 19) ["many"] 0 ["many"] [0]
  k_chain_form_3 : DefAtK L "chain_form" (topS 18) ["many"] 0 ["many"] [0]
  k_number_log_4 : DefAtK L "number_log" (topS 16) ["form", "deed", "rule", "many"] 0 ["many", "rule", "deed", "form"] [3, 2, 1, 0]
theorem ok_is_integer (L : Law TkG) (h : Hn L) (k : Nat) (hk : 1 ≤ k) : FnAt L k fr_is_integer := by
  obtain ⟨f, fd, F, m, kp, bd⟩ := h.f_is_integer
  exact ⟨f, fd, _, fn_rb (k := 0) F sc_is_integer ck_is_integer (And.intro (And.intro (And.intro h.tk (And.intro h.m_isinstance (And.intro h.m_int trivial))) (And.intro h.tk (And.intro h.m_isinstance (And.intro h.m_bool trivial)))) trivial), m, kp, bd, hk⟩
theorem ok_chain_form (L : Law TkG) (h : Hn L) (k : Nat) (hk : 1 ≤ k) : FnAt L k fr_chain_form := by
  obtain ⟨f, fd, F, m, kp, bd⟩ := h.f_chain_form
  exact ⟨f, fd, _, fn_rb (k := 0) F sc_chain_form ck_chain_form (And.intro (And.intro (And.intro trivial (And.intro (And.intro trivial (And.intro trivial trivial)) trivial)) trivial) trivial), m, kp, bd, hk⟩
theorem okk_chain_form_3 (L : Law TkG) (h : Hn L) (k : Nat) (hk : 1 ≤ k) : FnAtK L k fr_chain_form 0 ["many"] [0] := by
  obtain ⟨f, fd, F, m, kp, bd⟩ := h.k_chain_form_3
  exact ⟨f, fd, _, fn_rb (k := 0) F sc_chain_form ck_chain_form (And.intro (And.intro (And.intro trivial (And.intro (And.intro trivial (And.intro trivial trivial)) trivial)) trivial) trivial), m, kp, bd, hk⟩
theorem ok_box_form (L : Law TkG) (h : Hn L) (k : Nat) (hk : 1 ≤ k) : FnAt L k fr_box_form := by
  obtain ⟨f, fd, F, m, kp, bd⟩ := h.f_box_form
  exact ⟨f, fd, _, fn_rb (k := 0) F sc_box_form ck_box_form (And.intro (And.intro h.tk (And.intro h.m_tuple (And.intro (And.intro h.m_range (And.intro trivial trivial)) (And.intro trivial (And.intro (And.intro trivial (And.intro h.tk (And.intro h.m_str trivial))) (And.intro (And.intro trivial (And.intro trivial trivial)) trivial)))))) trivial), m, kp, bd, hk⟩
theorem okk_box_form_2 (L : Law TkG) (h : Hn L) (k : Nat) (hk : 1 ≤ k) : FnAtK L k fr_box_form 0 ["many"] [0] := by
  obtain ⟨f, fd, F, m, kp, bd⟩ := h.k_box_form_2
  exact ⟨f, fd, _, fn_rb (k := 0) F sc_box_form ck_box_form (And.intro (And.intro h.tk (And.intro h.m_tuple (And.intro (And.intro h.m_range (And.intro trivial trivial)) (And.intro trivial (And.intro (And.intro trivial (And.intro h.tk (And.intro h.m_str trivial))) (And.intro (And.intro trivial (And.intro trivial trivial)) trivial)))))) trivial), m, kp, bd, hk⟩
theorem ok_switch_form (L : Law TkG) (h : Hn L) (k : Nat) (hk : 1 ≤ k) : FnAt L k fr_switch_form := by
  obtain ⟨f, fd, F, m, kp, bd⟩ := h.f_switch_form
  exact ⟨f, fd, _, fn_rb (k := 0) F sc_switch_form ck_switch_form (And.intro (And.intro h.tk (And.intro h.m_tuple (And.intro (And.intro h.m_range (And.intro trivial trivial)) (And.intro trivial (And.intro (And.intro trivial (And.intro h.tk (And.intro h.m_str trivial))) (And.intro (And.intro trivial (And.intro trivial trivial)) trivial)))))) trivial), m, kp, bd, hk⟩
theorem okk_switch_form_1 (L : Law TkG) (h : Hn L) (k : Nat) (hk : 1 ≤ k) : FnAtK L k fr_switch_form 0 ["many"] [0] := by
  obtain ⟨f, fd, F, m, kp, bd⟩ := h.k_switch_form_1
  exact ⟨f, fd, _, fn_rb (k := 0) F sc_switch_form ck_switch_form (And.intro (And.intro h.tk (And.intro h.m_tuple (And.intro (And.intro h.m_range (And.intro trivial trivial)) (And.intro trivial (And.intro (And.intro trivial (And.intro h.tk (And.intro h.m_str trivial))) (And.intro (And.intro trivial (And.intro trivial trivial)) trivial)))))) trivial), m, kp, bd, hk⟩
theorem ok__law_loom (L : Law TkG) (h : Hn L) (k : Nat) (hk : 1 ≤ k) : FnAt L k fr__law_loom := by
  obtain ⟨f, fd, F, m, kp, bd⟩ := h.f__law_loom
  exact ⟨f, fd, _, fn_rb (k := 0) F sc__law_loom ck__law_loom (And.intro (And.intro h.tk (And.intro (And.intro trivial (And.intro trivial trivial)) (And.intro trivial (And.intro h.tk (And.intro h.m_abs (And.intro h.tk (And.intro h.m_int trivial))))))) (And.intro trivial (And.intro (And.intro h.tk (And.intro trivial (And.intro (And.intro (And.intro h.tk (And.intro h.m_int (And.intro (And.intro trivial trivial) trivial))) trivial) trivial))) (And.intro (And.intro h.tk (And.intro trivial (And.intro trivial (And.intro trivial trivial)))) trivial)))), m, kp, bd, hk⟩
theorem ok__law_weave (L : Law TkG) (h : Hn L) (k : Nat) (hk : 1 ≤ k) : FnAt L k fr__law_weave := by
  obtain ⟨f, fd, F, m, kp, bd⟩ := h.f__law_weave
  exact ⟨f, fd, _, fn_rb (k := 0) F sc__law_weave ck__law_weave (And.intro (And.intro h.tk (And.intro trivial trivial)) (And.intro (And.intro h.tk (And.intro trivial (And.intro trivial (And.intro trivial trivial)))) (And.intro trivial (And.intro (And.intro (And.intro (And.intro h.tk (And.intro h.m_len (And.intro h.tk (And.intro trivial trivial)))) trivial) (And.intro (And.intro (And.intro (And.intro h.tk (And.intro h.m_int trivial)) (And.intro h.tk (And.intro h.m_len (And.intro h.tk (And.intro trivial trivial))))) (And.intro (And.intro h.tk (And.intro (And.intro h.tk (And.intro trivial trivial)) trivial)) (And.intro (And.intro (And.intro trivial (And.intro trivial trivial)) (And.intro (And.intro (And.intro h.tk (And.intro (And.intro h.tk (And.intro trivial trivial)) (And.intro trivial (And.intro trivial trivial)))) (And.intro (And.intro (And.intro h.tk (And.intro h.m_int trivial)) trivial) trivial)) trivial)) trivial))) trivial)) (And.intro (And.intro (And.intro h.tk (And.intro h.m_int (And.intro (And.intro (And.intro (And.intro (And.intro (And.intro h.tk (And.intro h.m_int trivial)) trivial) trivial) trivial) (And.intro trivial trivial)) (And.intro (And.intro h.tk (And.intro trivial trivial)) trivial)))) trivial) (And.intro (And.intro (And.intro h.tk (And.intro h.m_int (And.intro (And.intro (And.intro trivial trivial) (And.intro trivial trivial)) trivial))) trivial) (And.intro (And.intro (And.intro h.tk (And.intro h.m_int (And.intro trivial trivial))) trivial) trivial))))))), m, kp, bd, hk⟩
theorem ok__law_same (L : Law TkG) (h : Hn L) (k : Nat) (hk : 1 ≤ k) : FnAt L k fr__law_same := by
  obtain ⟨f, fd, F, m, kp, bd⟩ := h.f__law_same
  exact ⟨f, fd, _, fn_rb (k := 0) F sc__law_same ck__law_same (And.intro (And.intro (And.intro trivial (And.intro trivial trivial)) trivial) (And.intro (And.intro (And.intro (And.intro h.tk (And.intro h.m_len trivial)) trivial) (And.intro (And.intro h.tk trivial) (And.intro (And.intro (And.intro trivial trivial) (And.intro (And.intro (And.intro (And.intro trivial trivial) (And.intro (And.intro trivial trivial) trivial)) trivial) (And.intro (And.intro (And.intro h.tk (And.intro h.m_isinstance (And.intro h.m_bool trivial))) (And.intro (And.intro (And.intro (And.intro (And.intro h.tk (And.intro h.m_isinstance (And.intro h.m_bool trivial))) (And.intro trivial trivial)) (And.intro (And.intro trivial trivial) trivial)) trivial) (And.intro (And.intro (And.intro h.tk (And.intro h.m_isinstance (And.intro h.m_int trivial))) (And.intro (And.intro (And.intro (And.intro (And.intro h.tk (And.intro h.m_isinstance (And.intro h.m_int trivial))) (And.intro (And.intro h.tk (And.intro h.m_isinstance (And.intro h.m_bool trivial))) (And.intro trivial trivial))) (And.intro (And.intro trivial trivial) trivial)) trivial) (And.intro (And.intro (And.intro h.tk (And.intro h.m_isinstance (And.intro h.m_str trivial))) (And.intro (And.intro (And.intro (And.intro (And.intro h.tk (And.intro h.m_isinstance (And.intro h.m_str trivial))) (And.intro trivial trivial)) (And.intro (And.intro trivial trivial) trivial)) trivial) (And.intro (And.intro (And.intro (And.intro h.tk (And.intro h.m_isinstance (And.intro h.m_tuple trivial))) (And.intro (And.intro h.tk (And.intro h.m_len trivial)) (And.intro h.tk (And.intro h.m_len trivial)))) (And.intro (And.intro trivial trivial) (And.intro (And.intro h.tk (And.intro trivial (And.intro (And.intro (And.intro h.m_range (And.intro (And.intro h.tk (And.intro h.m_len trivial)) trivial)) (And.intro trivial (And.intro (And.intro trivial trivial) (And.intro (And.intro trivial trivial) trivial)))) trivial))) trivial))) trivial))) trivial))) trivial))) trivial))) trivial))) (And.intro trivial trivial))), m, kp, bd, hk⟩
theorem ok__law_bag (L : Law TkG) (h : Hn L) (k : Nat) (hk : 1 ≤ k) : FnAt L k fr__law_bag := by
  obtain ⟨f, fd, F, m, kp, bd⟩ := h.f__law_bag
  exact ⟨f, fd, _, fn_rb (k := 0) F sc__law_bag ck__law_bag (And.intro (And.intro trivial (And.intro trivial (And.intro trivial (And.intro trivial (And.intro trivial (And.intro trivial (And.intro trivial (And.intro trivial (And.intro trivial (And.intro trivial (And.intro trivial (And.intro trivial (And.intro trivial (And.intro trivial (And.intro trivial (And.intro trivial trivial)))))))))))))))) (And.intro (And.intro trivial (And.intro trivial (And.intro trivial (And.intro trivial (And.intro trivial (And.intro trivial (And.intro trivial (And.intro trivial (And.intro trivial (And.intro trivial (And.intro trivial trivial))))))))))) trivial)), m, kp, bd, hk⟩
theorem ok__law_numbers (L : Law TkG) (h : Hn L) (k : Nat) (hk : 1 ≤ k) : FnAt L k fr__law_numbers := by
  obtain ⟨f, fd, F, m, kp, bd⟩ := h.f__law_numbers
  exact ⟨f, fd, _, fn_rb (k := 0) F sc__law_numbers ck__law_numbers (And.intro (And.intro h.tk (And.intro h.m_isinstance (And.intro h.m_int (And.intro (And.intro trivial trivial) trivial)))) trivial), m, kp, bd, hk⟩
theorem ok_is_number_field (L : Law TkG) (h : Hn L) (k : Nat) (hk : 2 ≤ k) : FnAt L k fr_is_number_field := by
  obtain ⟨f, fd, F, m, kp, bd⟩ := h.f_is_number_field
  exact ⟨f, fd, _, fn_rb (k := 1) F sc_is_number_field ck_is_number_field (And.intro (And.intro (ok_is_integer L h _ (by decide)) (And.intro (And.intro (And.intro (And.intro trivial trivial) trivial) trivial) trivial)) trivial), m, kp, bd, hk⟩
theorem ok_is_number_condition (L : Law TkG) (h : Hn L) (k : Nat) (hk : 2 ≤ k) : FnAt L k fr_is_number_condition := by
  obtain ⟨f, fd, F, m, kp, bd⟩ := h.f_is_number_condition
  exact ⟨f, fd, _, fn_rb (k := 1) F sc_is_number_condition ck_is_number_condition (And.intro (And.intro (ok_is_integer L h _ (by decide)) (And.intro (And.intro trivial trivial) trivial)) trivial), m, kp, bd, hk⟩
theorem ok__law_of (L : Law TkG) (h : Hn L) (k : Nat) (hk : 2 ≤ k) : FnAt L k fr__law_of := by
  obtain ⟨f, fd, F, m, kp, bd⟩ := h.f__law_of
  exact ⟨f, fd, _, fn_rb (k := 1) F sc__law_of ck__law_of (And.intro (And.intro trivial (And.intro (ok__law_weave L h _ (by decide)) (And.intro trivial (And.intro (And.intro h.tk (And.intro h.m_len trivial)) trivial)))) trivial), m, kp, bd, hk⟩
theorem ok__law_form (L : Law TkG) (h : Hn L) (k : Nat) (hk : 2 ≤ k) : FnAt L k fr__law_form := by
  obtain ⟨f, fd, F, m, kp, bd⟩ := h.f__law_form
  exact ⟨f, fd, _, fn_rb (k := 1) F sc__law_form ck__law_form (And.intro (ok__law_bag L h _ (by decide)) (And.intro trivial (And.intro trivial (And.intro (And.intro (And.intro h.m_range (And.intro (And.intro trivial (And.intro (ok__law_weave L h _ (by decide)) (And.intro trivial (And.intro trivial trivial)))) trivial)) (And.intro (And.intro trivial (And.intro (ok__law_weave L h _ (by decide)) (And.intro trivial (And.intro trivial trivial)))) (And.intro (And.intro h.tk (And.intro trivial (And.intro (And.intro (ok__law_weave L h _ (by decide)) (And.intro trivial (And.intro (And.intro h.tk (And.intro h.m_len trivial)) trivial))) trivial))) (And.intro (And.intro (And.intro (And.intro (ok__law_weave L h _ (by decide)) (And.intro trivial (And.intro trivial trivial))) trivial) (And.intro (And.intro (And.intro (And.intro trivial (And.intro trivial (And.intro trivial (And.intro trivial (And.intro trivial (And.intro (And.intro trivial trivial) trivial)))))) (And.intro (ok__law_weave L h _ (by decide)) (And.intro trivial (And.intro trivial trivial)))) (And.intro (And.intro (And.intro trivial (And.intro trivial trivial)) trivial) (And.intro (And.intro trivial (And.intro (And.intro trivial (And.intro (And.intro (And.intro trivial trivial) trivial) trivial)) trivial)) trivial))) (And.intro (ok__law_bag L h _ (by decide)) (And.intro (And.intro (And.intro h.m_range (And.intro trivial trivial)) (And.intro trivial (And.intro h.tk (And.intro trivial (And.intro (And.intro (ok__law_weave L h _ (by decide)) (And.intro trivial (And.intro (And.intro h.tk (And.intro h.m_len trivial)) trivial))) trivial))))) (And.intro (And.intro (And.intro trivial (And.intro trivial (And.intro trivial (And.intro trivial (And.intro trivial trivial))))) trivial) (And.intro (And.intro trivial (And.intro (And.intro h.tk (And.intro h.m_tuple (And.intro h.tk (And.intro h.m_sorted trivial)))) trivial)) trivial)))))) (And.intro (And.intro (And.intro (And.intro trivial trivial) trivial) (And.intro (And.intro (And.intro h.tk (And.intro trivial (And.intro trivial trivial))) (And.intro (And.intro trivial trivial) trivial)) trivial)) trivial))))) (And.intro (And.intro (And.intro (And.intro h.tk (And.intro h.m_len trivial)) trivial) (And.intro (And.intro h.tk (And.intro h.m_tuple trivial)) (And.intro (And.intro (And.intro trivial trivial) (And.intro (And.intro trivial (And.intro trivial trivial)) trivial)) trivial))) trivial))))), m, kp, bd, hk⟩
theorem ok__law_values (L : Law TkG) (h : Hn L) (k : Nat) (hk : 2 ≤ k) : FnAt L k fr__law_values := by
  obtain ⟨f, fd, F, m, kp, bd⟩ := h.f__law_values
  exact ⟨f, fd, _, fn_rb (k := 1) F sc__law_values ck__law_values (And.intro (And.intro (And.intro (ok__law_numbers L h _ (by decide)) (And.intro trivial trivial)) (And.intro (And.intro h.m_list (And.intro h.m_range (And.intro (And.intro (And.intro trivial trivial) trivial) (And.intro (And.intro (And.intro trivial trivial) trivial) trivial)))) (And.intro h.tk (And.intro h.m_list (And.intro trivial trivial))))) trivial), m, kp, bd, hk⟩
theorem ok__law_lets (L : Law TkG) (h : Hn L) (k : Nat) (hk : 2 ≤ k) : FnAt L k fr__law_lets := by
  obtain ⟨f, fd, F, m, kp, bd⟩ := h.f__law_lets
  exact ⟨f, fd, _, fn_rb (k := 1) F sc__law_lets ck__law_lets (And.intro (And.intro (And.intro trivial trivial) (And.intro (And.intro trivial trivial) trivial)) (And.intro (And.intro (And.intro h.m_range (And.intro (And.intro h.tk (And.intro h.m_len trivial)) trivial)) (And.intro (And.intro (And.intro (ok__law_numbers L h _ (by decide)) (And.intro (And.intro trivial trivial) trivial)) (And.intro (And.intro (And.intro (And.intro (And.intro (And.intro trivial trivial) (And.intro (And.intro trivial trivial) trivial)) (And.intro (And.intro trivial trivial) (And.intro (And.intro trivial trivial) trivial))) (And.intro (And.intro trivial trivial) trivial)) trivial) (And.intro (And.intro (And.intro (And.intro trivial trivial) (And.intro trivial trivial)) (And.intro (And.intro trivial trivial) trivial)) trivial))) trivial)) (And.intro trivial trivial))), m, kp, bd, hk⟩
theorem ok__law_numbers_of (L : Law TkG) (h : Hn L) (k : Nat) (hk : 2 ≤ k) : FnAt L k fr__law_numbers_of := by
  obtain ⟨f, fd, F, m, kp, bd⟩ := h.f__law_numbers_of
  exact ⟨f, fd, _, fn_rb (k := 1) F sc__law_numbers_of ck__law_numbers_of (And.intro trivial (And.intro (And.intro (And.intro h.m_range (And.intro (And.intro (ok__law_weave L h _ (by decide)) (And.intro trivial (And.intro trivial trivial))) trivial)) (And.intro (And.intro (ok__law_weave L h _ (by decide)) (And.intro trivial (And.intro trivial trivial))) (And.intro (And.intro trivial (And.intro (And.intro trivial trivial) (And.intro trivial (And.intro (ok__law_weave L h _ (by decide)) (And.intro trivial (And.intro trivial trivial)))))) (And.intro (And.intro h.tk (And.intro trivial (And.intro (And.intro (And.intro trivial (And.intro trivial (And.intro (And.intro trivial trivial) (And.intro trivial (And.intro (And.intro trivial trivial) (And.intro trivial trivial)))))) (And.intro (ok__law_weave L h _ (by decide)) (And.intro trivial (And.intro trivial trivial)))) trivial))) trivial)))) (And.intro (And.intro h.tk (And.intro h.m_tuple trivial)) trivial))), m, kp, bd, hk⟩
theorem ok_values_of (L : Law TkG) (h : Hn L) (k : Nat) (hk : 3 ≤ k) : FnAt L k fr_values_of := by
  obtain ⟨f, fd, F, m, kp, bd⟩ := h.f_values_of
  exact ⟨f, fd, _, fn_rb (k := 2) F sc_values_of ck_values_of (And.intro (And.intro (And.intro trivial trivial) trivial) (And.intro (And.intro (And.intro (ok_is_number_field L h _ (by decide)) (And.intro trivial (And.intro trivial trivial))) (And.intro (And.intro h.m_tuple (And.intro h.m_range (And.intro (And.intro trivial trivial) (And.intro (And.intro trivial trivial) trivial)))) trivial)) trivial)), m, kp, bd, hk⟩
theorem ok_takes (L : Law TkG) (h : Hn L) (k : Nat) (hk : 3 ≤ k) : FnAt L k fr_takes := by
  obtain ⟨f, fd, F, m, kp, bd⟩ := h.f_takes
  exact ⟨f, fd, _, fn_rb (k := 2) F sc_takes ck_takes (And.intro (And.intro (And.intro (ok_is_number_condition L h _ (by decide)) (And.intro trivial trivial)) (And.intro (And.intro (And.intro (And.intro trivial trivial) (And.intro trivial (And.intro trivial trivial))) trivial) trivial)) (And.intro (And.intro trivial trivial) trivial)), m, kp, bd, hk⟩
theorem ok__law_rule (L : Law TkG) (h : Hn L) (k : Nat) (hk : 3 ≤ k) : FnAt L k fr__law_rule := by
  obtain ⟨f, fd, F, m, kp, bd⟩ := h.f__law_rule
  exact ⟨f, fd, _, fn_rb (k := 2) F sc__law_rule ck__law_rule (And.intro (And.intro (And.intro (And.intro (ok__law_weave L h _ (by decide)) (And.intro trivial (And.intro trivial trivial))) trivial) (And.intro (And.intro trivial trivial) trivial)) (And.intro trivial (And.intro (And.intro trivial (And.intro (And.intro (ok__law_values L h _ (by decide)) (And.intro trivial trivial)) (And.intro (And.intro (And.intro (ok__law_numbers L h _ (by decide)) (And.intro trivial trivial)) (And.intro (And.intro (And.intro (And.intro (ok__law_of L h _ (by decide)) (And.intro trivial (And.intro trivial trivial))) (And.intro (ok__law_of L h _ (by decide)) (And.intro trivial (And.intro trivial trivial)))) (And.intro (And.intro h.tk (And.intro trivial (And.intro (And.intro (And.intro h.m_min (And.intro trivial (And.intro trivial trivial))) (And.intro (And.intro h.m_max (And.intro trivial (And.intro trivial trivial))) trivial)) trivial))) trivial)) (And.intro (And.intro trivial (And.intro (And.intro (And.intro (ok__law_weave L h _ (by decide)) (And.intro trivial (And.intro trivial trivial))) trivial) trivial)) (And.intro (And.intro h.tk (And.intro trivial (And.intro (And.intro (And.intro (And.intro h.tk (And.intro h.m_len trivial)) trivial) (And.intro (And.intro h.tk (And.intro h.m_tuple trivial)) (And.intro (And.intro (ok__law_of L h _ (by decide)) (And.intro trivial (And.intro trivial trivial))) trivial))) trivial))) trivial)))) trivial))) (And.intro (And.intro h.tk (And.intro h.m_tuple trivial)) trivial)))), m, kp, bd, hk⟩
theorem ok__law_nth (L : Law TkG) (h : Hn L) (k : Nat) (hk : 3 ≤ k) : FnAt L k fr__law_nth := by
  obtain ⟨f, fd, F, m, kp, bd⟩ := h.f__law_nth
  exact ⟨f, fd, _, fn_rb (k := 2) F sc__law_nth ck__law_nth (And.intro trivial (And.intro trivial (And.intro (And.intro (And.intro h.tk trivial) (And.intro (And.intro (ok__law_values L h _ (by decide)) (And.intro trivial trivial)) (And.intro (And.intro (And.intro (And.intro trivial (And.intro (And.intro h.tk (And.intro h.m_int trivial)) (And.intro h.tk (And.intro h.m_len trivial)))) trivial) trivial) (And.intro (And.intro trivial (And.intro h.tk (And.intro h.m_len trivial))) trivial)))) (And.intro trivial trivial)))), m, kp, bd, hk⟩
theorem ok_value_count (L : Law TkG) (h : Hn L) (k : Nat) (hk : 4 ≤ k) : FnAt L k fr_value_count := by
  obtain ⟨f, fd, F, m, kp, bd⟩ := h.f_value_count
  exact ⟨f, fd, _, fn_rb (k := 3) F sc_value_count ck_value_count (And.intro (And.intro h.tk (And.intro h.m_len (And.intro (ok_values_of L h _ (by decide)) (And.intro trivial (And.intro trivial trivial))))) trivial), m, kp, bd, hk⟩
theorem ok_lets (L : Law TkG) (h : Hn L) (k : Nat) (hk : 4 ≤ k) : FnAt L k fr_lets := by
  obtain ⟨f, fd, F, m, kp, bd⟩ := h.f_lets
  exact ⟨f, fd, _, fn_rb (k := 3) F sc_lets ck_lets (And.intro (And.intro (And.intro trivial trivial) (And.intro (And.intro trivial trivial) trivial)) (And.intro (And.intro h.tk (And.intro h.m_all (And.intro (And.intro h.m_zip (And.intro trivial (And.intro trivial trivial))) (And.intro trivial (And.intro (ok_takes L h _ (by decide)) (And.intro trivial (And.intro trivial trivial))))))) trivial)), m, kp, bd, hk⟩
theorem ok__law_due (L : Law TkG) (h : Hn L) (k : Nat) (hk : 4 ≤ k) : FnAt L k fr__law_due := by
  obtain ⟨f, fd, F, m, kp, bd⟩ := h.f__law_due
  exact ⟨f, fd, _, fn_rb (k := 3) F sc__law_due ck__law_due (And.intro trivial (And.intro (And.intro trivial (And.intro (And.intro (ok__law_nth L h _ (by decide)) (And.intro trivial (And.intro trivial trivial))) (And.intro (And.intro h.tk (And.intro trivial (And.intro (And.intro trivial (And.intro trivial (And.intro (And.intro (And.intro (ok__law_lets L h _ (by decide)) (And.intro trivial (And.intro trivial (And.intro trivial trivial)))) (And.intro trivial trivial)) trivial))) trivial))) trivial))) (And.intro (And.intro h.tk (And.intro h.m_tuple trivial)) trivial))), m, kp, bd, hk⟩
theorem ok_case_count (L : Law TkG) (h : Hn L) (k : Nat) (hk : 5 ≤ k) : FnAt L k fr_case_count := by
  obtain ⟨f, fd, F, m, kp, bd⟩ := h.f_case_count
  exact ⟨f, fd, _, fn_rb (k := 4) F sc_case_count ck_case_count (And.intro trivial (And.intro (And.intro (And.intro h.m_range (And.intro (And.intro h.tk (And.intro h.m_len trivial)) trivial)) (And.intro (And.intro trivial (And.intro (ok_value_count L h _ (by decide)) (And.intro trivial (And.intro trivial trivial)))) trivial)) (And.intro trivial trivial))), m, kp, bd, hk⟩
theorem ok_answered (L : Law TkG) (h : Hn L) (k : Nat) (hk : 5 ≤ k) : FnAt L k fr_answered := by
  obtain ⟨f, fd, F, m, kp, bd⟩ := h.f_answered
  exact ⟨f, fd, _, fn_rb (k := 4) F sc_answered ck_answered (And.intro (And.intro trivial (And.intro (And.intro trivial (And.intro trivial (And.intro (And.intro (And.intro (ok_lets L h _ (by decide)) (And.intro trivial (And.intro trivial trivial))) (And.intro trivial trivial)) trivial))) trivial)) trivial), m, kp, bd, hk⟩
theorem ok_nth_case (L : Law TkG) (h : Hn L) (k : Nat) (hk : 6 ≤ k) : FnAt L k fr_nth_case := by
  obtain ⟨f, fd, F, m, kp, bd⟩ := h.f_nth_case
  exact ⟨f, fd, _, fn_rb (k := 5) F sc_nth_case ck_nth_case (And.intro (And.intro trivial (And.intro (ok_case_count L h _ (by decide)) (And.intro trivial trivial))) (And.intro trivial (And.intro (And.intro (And.intro h.m_range (And.intro (And.intro (And.intro h.tk (And.intro h.m_len trivial)) trivial) (And.intro trivial (And.intro trivial trivial)))) (And.intro (And.intro (ok_values_of L h _ (by decide)) (And.intro trivial (And.intro trivial trivial))) (And.intro (And.intro (And.intro (And.intro trivial (And.intro trivial (And.intro h.tk (And.intro h.m_len trivial)))) trivial) trivial) (And.intro (And.intro trivial (And.intro h.tk (And.intro h.m_len trivial))) trivial)))) (And.intro trivial trivial)))), m, kp, bd, hk⟩
theorem ok_drawn_log (L : Law TkG) (h : Hn L) (k : Nat) (hk : 7 ≤ k) : FnAt L k fr_drawn_log := by
  obtain ⟨f, fd, F, m, kp, bd⟩ := h.f_drawn_log
  exact ⟨f, fd, _, fn_rb (k := 6) F sc_drawn_log ck_drawn_log (And.intro trivial (And.intro (And.intro trivial (And.intro (And.intro (ok_answered L h _ (by decide)) (And.intro trivial (And.intro trivial (And.intro trivial (And.intro (And.intro (ok_nth_case L h _ (by decide)) (And.intro trivial (And.intro trivial trivial))) trivial))))) trivial)) (And.intro trivial trivial))), m, kp, bd, hk⟩
theorem okk_drawn_log_0 (L : Law TkG) (h : Hn L) (k : Nat) (hk : 7 ≤ k) : FnAtK L k fr_drawn_log 0 ["numbers", "rule", "deed", "form"] [3, 2, 1, 0] := by
  obtain ⟨f, fd, F, m, kp, bd⟩ := h.k_drawn_log_0
  exact ⟨f, fd, _, fn_rb (k := 6) F sc_drawn_log ck_drawn_log (And.intro trivial (And.intro (And.intro trivial (And.intro (And.intro (ok_answered L h _ (by decide)) (And.intro trivial (And.intro trivial (And.intro trivial (And.intro (And.intro (ok_nth_case L h _ (by decide)) (And.intro trivial (And.intro trivial trivial))) trivial))))) trivial)) (And.intro trivial trivial))), m, kp, bd, hk⟩
theorem ok_number_log (L : Law TkG) (h : Hn L) (k : Nat) (hk : 8 ≤ k) : FnAt L k fr_number_log := by
  obtain ⟨f, fd, F, m, kp, bd⟩ := h.f_number_log
  exact ⟨f, fd, _, fn_rb (k := 7) F sc_number_log ck_number_log (And.intro (And.intro (ok_drawn_log L h _ (by decide)) (And.intro trivial (And.intro trivial (And.intro trivial (And.intro (And.intro h.m_list (And.intro h.m_range trivial)) trivial))))) trivial), m, kp, bd, hk⟩
theorem okk_number_log_4 (L : Law TkG) (h : Hn L) (k : Nat) (hk : 8 ≤ k) : FnAtK L k fr_number_log 0 ["many", "rule", "deed", "form"] [3, 2, 1, 0] := by
  obtain ⟨f, fd, F, m, kp, bd⟩ := h.k_number_log_4
  exact ⟨f, fd, _, fn_rb (k := 7) F sc_number_log ck_number_log (And.intro (And.intro (ok_drawn_log L h _ (by decide)) (And.intro trivial (And.intro trivial (And.intro trivial (And.intro (And.intro h.m_list (And.intro h.m_range trivial)) trivial))))) trivial), m, kp, bd, hk⟩
theorem ok__law_asked (L : Law TkG) (h : Hn L) (k : Nat) (hk : 9 ≤ k) : FnAt L k fr__law_asked := by
  obtain ⟨f, fd, F, m, kp, bd⟩ := h.f__law_asked
  exact ⟨f, fd, _, fn_rb (k := 8) F sc__law_asked ck__law_asked (And.intro trivial (And.intro (And.intro trivial (And.intro (And.intro trivial (And.intro h.tk (And.intro h.m_len (And.intro (ok__law_values L h _ (by decide)) (And.intro trivial trivial))))) trivial)) (And.intro (And.intro (ok__law_of L h _ (by decide)) (And.intro trivial (And.intro (ok__law_bag L h _ (by decide)) trivial))) (And.intro (And.intro (ok__law_rule L h _ (by decide)) (And.intro trivial (And.intro trivial trivial))) (And.intro (And.intro (ok__law_numbers_of L h _ (by decide)) (And.intro trivial (And.intro trivial trivial))) (And.intro (And.intro (And.intro (ok__law_same L h _ (by decide)) (And.intro (And.intro (okk_drawn_log_0 L h _ (by decide)) (And.intro trivial (And.intro trivial (And.intro trivial (And.intro trivial trivial))))) (And.intro (And.intro (ok__law_due L h _ (by decide)) (And.intro trivial (And.intro trivial (And.intro trivial (And.intro trivial trivial))))) trivial))) (And.intro (And.intro trivial trivial) trivial)) (And.intro (And.intro h.m_min (And.intro trivial (And.intro (And.intro (ok__law_of L h _ (by decide)) (And.intro trivial (And.intro (And.intro trivial (And.intro trivial (And.intro trivial (And.intro (And.intro (ok__law_weave L h _ (by decide)) (And.intro trivial (And.intro trivial trivial))) trivial)))) trivial))) trivial))) (And.intro (And.intro (ok__law_due L h _ (by decide)) (And.intro trivial (And.intro trivial (And.intro trivial (And.intro (And.intro h.m_tuple (And.intro h.m_range trivial)) trivial))))) (And.intro (And.intro (And.intro (ok_number_log L h _ (by decide)) (And.intro trivial (And.intro trivial (And.intro trivial (And.intro trivial trivial))))) (And.intro (And.intro (ok_drawn_log L h _ (by decide)) (And.intro trivial (And.intro trivial (And.intro trivial (And.intro (And.intro h.m_tuple (And.intro h.m_range trivial)) trivial))))) trivial)) (And.intro (And.intro (ok__law_same L h _ (by decide)) (And.intro trivial (And.intro (And.intro trivial (And.intro trivial trivial)) trivial))) trivial)))))))))), m, kp, bd, hk⟩
theorem ok__law_made (L : Law TkG) (h : Hn L) (k : Nat) (hk : 10 ≤ k) : FnAt L k fr__law_made := by
  obtain ⟨f, fd, F, m, kp, bd⟩ := h.f__law_made
  exact ⟨f, fd, _, fn_rb (k := 9) F sc__law_made ck__law_made (And.intro (And.intro trivial (And.intro (ok__law_weave L h _ (by decide)) (And.intro trivial (And.intro trivial trivial)))) (And.intro (And.intro trivial (And.intro (ok__law_weave L h _ (by decide)) (And.intro trivial (And.intro trivial trivial)))) (And.intro (And.intro trivial (And.intro (ok__law_weave L h _ (by decide)) (And.intro trivial (And.intro trivial trivial)))) (And.intro (And.intro (And.intro trivial (And.intro (And.intro trivial (And.intro trivial trivial)) trivial)) trivial) (And.intro (And.intro h.tk (And.intro h.m_tuple (And.intro (And.intro h.m_range (And.intro trivial trivial)) (And.intro trivial (And.intro (And.intro trivial (And.intro h.tk (And.intro h.m_str trivial))) (And.intro (And.intro trivial (And.intro trivial trivial)) trivial)))))) (And.intro (And.intro h.tk (And.intro h.m_tuple (And.intro (And.intro h.m_range (And.intro trivial trivial)) (And.intro trivial (And.intro (And.intro trivial (And.intro h.tk (And.intro h.m_str trivial))) (And.intro (And.intro trivial (And.intro trivial trivial)) trivial)))))) (And.intro (And.intro (And.intro (ok__law_same L h _ (by decide)) (And.intro (And.intro (And.intro (ok_chain_form L h _ (by decide)) (And.intro trivial trivial)) (And.intro (And.intro (ok_box_form L h _ (by decide)) (And.intro trivial trivial)) (And.intro (And.intro (ok_switch_form L h _ (by decide)) (And.intro trivial trivial)) trivial))) (And.intro (And.intro trivial (And.intro trivial (And.intro trivial trivial))) trivial))) (And.intro (And.intro trivial trivial) trivial)) (And.intro (And.intro trivial (And.intro trivial trivial)) (And.intro (And.intro (And.intro (And.intro trivial (And.intro (And.intro trivial (And.intro trivial trivial)) trivial)) trivial) (And.intro (And.intro (And.intro trivial (And.intro (And.intro trivial (And.intro trivial trivial)) trivial)) (And.intro (And.intro trivial (And.intro (And.intro trivial (And.intro trivial trivial)) trivial)) (And.intro (And.intro trivial (And.intro (And.intro trivial (And.intro trivial trivial)) trivial)) trivial))) (And.intro (And.intro (And.intro trivial (And.intro trivial trivial)) (And.intro (And.intro trivial (And.intro trivial trivial)) trivial)) trivial))) (And.intro (And.intro (And.intro (ok__law_same L h _ (by decide)) (And.intro (And.intro (And.intro (okk_chain_form_3 L h _ (by decide)) (And.intro trivial trivial)) (And.intro (And.intro (okk_box_form_2 L h _ (by decide)) (And.intro trivial trivial)) (And.intro (And.intro (okk_switch_form_1 L h _ (by decide)) (And.intro trivial trivial)) trivial))) (And.intro trivial trivial))) (And.intro (And.intro trivial trivial) trivial)) (And.intro (And.intro (ok__law_asked L h _ (by decide)) (And.intro trivial (And.intro (And.intro (ok__law_of L h _ (by decide)) (And.intro trivial (And.intro (And.intro trivial (And.intro trivial (And.intro trivial trivial))) trivial))) trivial))) trivial))))))))))), m, kp, bd, hk⟩
theorem ok_law (L : Law TkG) (h : Hn L) (k : Nat) (hk : 11 ≤ k) : FnAt L k fr_law := by
  obtain ⟨f, fd, F, m, kp, bd⟩ := h.f_law
  exact ⟨f, fd, _, fn_rb (k := 10) F sc_law ck_law (And.intro (And.intro (ok__law_loom L h _ (by decide)) (And.intro trivial trivial)) (And.intro (And.intro (And.intro trivial (And.intro (And.intro trivial (And.intro trivial trivial)) trivial)) (And.intro (And.intro trivial (And.intro (And.intro trivial (And.intro trivial (And.intro trivial trivial))) trivial)) (And.intro (And.intro trivial (And.intro (And.intro trivial (And.intro trivial trivial)) trivial)) trivial))) (And.intro (And.intro (And.intro trivial (And.intro trivial trivial)) (And.intro (And.intro trivial (And.intro trivial trivial)) (And.intro (And.intro trivial trivial) trivial))) (And.intro (And.intro trivial (And.intro (ok__law_weave L h _ (by decide)) (And.intro trivial (And.intro trivial trivial)))) (And.intro (And.intro (And.intro trivial (And.intro (And.intro trivial (And.intro trivial (And.intro trivial trivial))) (And.intro trivial trivial))) (And.intro (And.intro trivial (And.intro (And.intro trivial (And.intro trivial (And.intro trivial trivial))) (And.intro trivial trivial))) (And.intro (And.intro trivial (And.intro (And.intro trivial (And.intro trivial (And.intro trivial trivial))) (And.intro trivial trivial))) trivial))) (And.intro (And.intro (And.intro (ok_drawn_log L h _ (by decide)) (And.intro trivial (And.intro trivial (And.intro trivial (And.intro (And.intro (And.intro trivial trivial) (And.intro trivial (And.intro trivial trivial))) trivial))))) (And.intro (And.intro (ok_drawn_log L h _ (by decide)) (And.intro trivial (And.intro trivial (And.intro trivial (And.intro trivial trivial))))) trivial)) (And.intro (And.intro (And.intro (ok__law_same L h _ (by decide)) (And.intro (And.intro trivial (And.intro (And.intro (ok_number_log L h _ (by decide)) (And.intro trivial (And.intro trivial (And.intro trivial (And.intro trivial trivial))))) trivial)) (And.intro (And.intro trivial (And.intro trivial (And.intro trivial trivial))) trivial))) (And.intro (And.intro trivial trivial) trivial)) (And.intro (And.intro (And.intro trivial (And.intro (And.intro trivial (And.intro trivial (And.intro trivial trivial))) (And.intro trivial trivial))) (And.intro (And.intro trivial (And.intro (And.intro trivial (And.intro trivial (And.intro trivial trivial))) (And.intro trivial trivial))) trivial)) (And.intro (And.intro (And.intro (ok__law_same L h _ (by decide)) (And.intro (And.intro (And.intro (okk_number_log_4 L h _ (by decide)) (And.intro trivial (And.intro trivial (And.intro trivial (And.intro trivial trivial))))) (And.intro (And.intro (ok_number_log L h _ (by decide)) (And.intro trivial (And.intro trivial (And.intro trivial (And.intro trivial trivial))))) trivial)) (And.intro (And.intro trivial (And.intro trivial trivial)) trivial))) (And.intro (And.intro trivial trivial) trivial)) (And.intro (And.intro (And.intro h.m_range (And.intro trivial trivial)) (And.intro (And.intro (And.intro (And.intro (ok__law_asked L h _ (by decide)) (And.intro trivial (And.intro (And.intro (ok__law_form L h _ (by decide)) (And.intro trivial (And.intro trivial (And.intro trivial trivial)))) trivial))) (And.intro (ok__law_made L h _ (by decide)) (And.intro trivial trivial))) (And.intro (And.intro trivial trivial) trivial)) trivial)) (And.intro (And.intro (And.intro (And.intro (ok__law_weave L h _ (by decide)) (And.intro trivial (And.intro trivial trivial))) trivial) (And.intro (And.intro (And.intro trivial (And.intro (And.intro trivial (And.intro (And.intro trivial (And.intro (ok__law_weave L h _ (by decide)) (And.intro trivial (And.intro trivial trivial)))) trivial)) trivial)) (And.intro (And.intro (And.intro trivial (And.intro (And.intro trivial (And.intro trivial (And.intro trivial (And.intro trivial (And.intro trivial trivial))))) trivial)) (And.intro trivial (And.intro (And.intro trivial (And.intro (And.intro (And.intro trivial trivial) (And.intro trivial trivial)) trivial)) trivial))) (And.intro (And.intro (ok__law_asked L h _ (by decide)) (And.intro trivial (And.intro (And.intro trivial (And.intro (And.intro (ok__law_weave L h _ (by decide)) (And.intro trivial (And.intro trivial trivial))) trivial)) trivial))) trivial))) trivial)) (And.intro trivial trivial)))))))))))), m, kp, bd, hk⟩
theorem need_law (L : Law TkG) (h : Hn L) : b_law.need L 10 := (And.intro (And.intro (ok__law_loom L h _ (by decide)) (And.intro trivial trivial)) (And.intro (And.intro (And.intro trivial (And.intro (And.intro trivial (And.intro trivial trivial)) trivial)) (And.intro (And.intro trivial (And.intro (And.intro trivial (And.intro trivial (And.intro trivial trivial))) trivial)) (And.intro (And.intro trivial (And.intro (And.intro trivial (And.intro trivial trivial)) trivial)) trivial))) (And.intro (And.intro (And.intro trivial (And.intro trivial trivial)) (And.intro (And.intro trivial (And.intro trivial trivial)) (And.intro (And.intro trivial trivial) trivial))) (And.intro (And.intro trivial (And.intro (ok__law_weave L h _ (by decide)) (And.intro trivial (And.intro trivial trivial)))) (And.intro (And.intro (And.intro trivial (And.intro (And.intro trivial (And.intro trivial (And.intro trivial trivial))) (And.intro trivial trivial))) (And.intro (And.intro trivial (And.intro (And.intro trivial (And.intro trivial (And.intro trivial trivial))) (And.intro trivial trivial))) (And.intro (And.intro trivial (And.intro (And.intro trivial (And.intro trivial (And.intro trivial trivial))) (And.intro trivial trivial))) trivial))) (And.intro (And.intro (And.intro (ok_drawn_log L h _ (by decide)) (And.intro trivial (And.intro trivial (And.intro trivial (And.intro (And.intro (And.intro trivial trivial) (And.intro trivial (And.intro trivial trivial))) trivial))))) (And.intro (And.intro (ok_drawn_log L h _ (by decide)) (And.intro trivial (And.intro trivial (And.intro trivial (And.intro trivial trivial))))) trivial)) (And.intro (And.intro (And.intro (ok__law_same L h _ (by decide)) (And.intro (And.intro trivial (And.intro (And.intro (ok_number_log L h _ (by decide)) (And.intro trivial (And.intro trivial (And.intro trivial (And.intro trivial trivial))))) trivial)) (And.intro (And.intro trivial (And.intro trivial (And.intro trivial trivial))) trivial))) (And.intro (And.intro trivial trivial) trivial)) (And.intro (And.intro (And.intro trivial (And.intro (And.intro trivial (And.intro trivial (And.intro trivial trivial))) (And.intro trivial trivial))) (And.intro (And.intro trivial (And.intro (And.intro trivial (And.intro trivial (And.intro trivial trivial))) (And.intro trivial trivial))) trivial)) (And.intro (And.intro (And.intro (ok__law_same L h _ (by decide)) (And.intro (And.intro (And.intro (okk_number_log_4 L h _ (by decide)) (And.intro trivial (And.intro trivial (And.intro trivial (And.intro trivial trivial))))) (And.intro (And.intro (ok_number_log L h _ (by decide)) (And.intro trivial (And.intro trivial (And.intro trivial (And.intro trivial trivial))))) trivial)) (And.intro (And.intro trivial (And.intro trivial trivial)) trivial))) (And.intro (And.intro trivial trivial) trivial)) (And.intro (And.intro (And.intro h.m_range (And.intro trivial trivial)) (And.intro (And.intro (And.intro (And.intro (ok__law_asked L h _ (by decide)) (And.intro trivial (And.intro (And.intro (ok__law_form L h _ (by decide)) (And.intro trivial (And.intro trivial (And.intro trivial trivial)))) trivial))) (And.intro (ok__law_made L h _ (by decide)) (And.intro trivial trivial))) (And.intro (And.intro trivial trivial) trivial)) trivial)) (And.intro (And.intro (And.intro (And.intro (ok__law_weave L h _ (by decide)) (And.intro trivial (And.intro trivial trivial))) trivial) (And.intro (And.intro (And.intro trivial (And.intro (And.intro trivial (And.intro (And.intro trivial (And.intro (ok__law_weave L h _ (by decide)) (And.intro trivial (And.intro trivial trivial)))) trivial)) trivial)) (And.intro (And.intro (And.intro trivial (And.intro (And.intro trivial (And.intro trivial (And.intro trivial (And.intro trivial (And.intro trivial trivial))))) trivial)) (And.intro trivial (And.intro (And.intro trivial (And.intro (And.intro (And.intro trivial trivial) (And.intro trivial trivial)) trivial)) trivial))) (And.intro (And.intro (ok__law_asked L h _ (by decide)) (And.intro trivial (And.intro (And.intro trivial (And.intro (And.intro (ok__law_weave L h _ (by decide)) (And.intro trivial (And.intro trivial trivial))) trivial)) trivial))) trivial))) trivial)) (And.intro trivial trivial))))))))))))
theorem law_sp {L : Law TkG} (hT : TkLaw L) {vs : List V} {H : Hp} {Q : VK} {E : XK} (h : spLaw L.K 63 vs H Q E) : spD L 1 F_law vs H Q E := sp_law hT law_true h
theorem all_mk {w : World} {K : PySem.W.Frag} {h : Heap} {mg : Str → Option Value} {fa : Addr} (X : K.In h) (G : h.Ns mainGlobals mg) (hfa : mg "law" = some (.ref fa))
    {f0 f1 f2 f3 f4 f5 f6 f7 f8 f9 f10 f11 f12 f13 f14 f15 f16 f17 f18 f19 f20 f21 f22 f23 f24 f25 f26 f27 f28 f29 f30 : Addr} {od0 an0 od1 an1 od2 an2 od3 an3 od4 an4 od5 an5 od6 an6 od7 an7 od8 an8 od9 an9 od10 an10 od11 an11 od12 an12 od13 an13 od14 an14 od15 an15 od16 an16 od17 an17 od18 an18 od19 an19 od20 an20 od21 an21 od22 an22 od23 an23 od24 an24 od25 an25 od26 an26 od27 an27 od28 an28 od29 an29 od30 an30 : Option Addr} {sl0 sl1 sl2 sl3 sl4 sl5 sl6 sl7 sl8 sl9 sl10 sl11 sl12 sl13 sl14 sl15 sl16 sl17 sl18 sl19 sl20 sl21 sl22 sl23 sl24 sl25 sl26 sl27 sl28 sl29 sl30 : Array (Option Value)} {oc0 kV0 dc0 pm0 cd0 ct0 oc1 kV1 dc1 pm1 cd1 ct1 oc2 kV2 dc2 pm2 cd2 ct2 oc3 kV3 dc3 pm3 cd3 ct3 oc4 kV4 dc4 pm4 cd4 ct4 oc5 kV5 dc5 pm5 cd5 ct5 oc6 kV6 dc6 pm6 cd6 ct6 oc7 kV7 dc7 pm7 cd7 ct7 oc8 kV8 dc8 pm8 cd8 ct8 oc9 kV9 dc9 pm9 cd9 ct9 oc10 kV10 dc10 pm10 cd10 ct10 oc11 kV11 dc11 pm11 cd11 ct11 oc12 kV12 dc12 pm12 cd12 ct12 oc13 kV13 dc13 pm13 cd13 ct13 oc14 kV14 dc14 pm14 cd14 ct14 oc15 kV15 dc15 pm15 cd15 ct15 oc16 kV16 dc16 pm16 cd16 ct16 oc17 kV17 dc17 pm17 cd17 ct17 oc18 kV18 dc18 pm18 cd18 ct18 oc19 kV19 dc19 pm19 cd19 ct19 oc20 kV20 dc20 pm20 cd20 ct20 oc21 kV21 dc21 pm21 cd21 ct21 oc22 kV22 dc22 pm22 cd22 ct22 oc23 kV23 dc23 pm23 cd23 ct23 oc24 kV24 dc24 pm24 cd24 ct24 oc25 kV25 dc25 pm25 cd25 ct25 oc26 kV26 dc26 pm26 cd26 ct26 oc27 kV27 dc27 pm27 cd27 ct27 oc28 kV28 dc28 pm28 cd28 ct28 oc29 kV29 dc29 pm29 cd29 ct29 oc30 kV30 dc30 pm30 cd30 ct30 : Value}
    (a0 : PySem.W.nsIn K mainGlobals "is_integer" = some (some (.ref f0))) (l0 : K.lookup f0 = some ⟨oc0, od0, .func (PySem.W.fnOf "is_integer" "is_integer" (defArgs (topS 1)) (defBody (topS 1)) (defScope (topS 1)) .none kV0 dc0 pm0 an0 cd0 ct0), sl0⟩) (c0 : PySem.W.codeIn K cd0 "is_integer" = true) (k0 : PySem.W.keepIn K (.ref f0) = true)
    (a1 : PySem.W.nsIn K mainGlobals "chain_form" = some (some (.ref f1))) (l1 : K.lookup f1 = some ⟨oc1, od1, .func (PySem.W.fnOf "chain_form" "chain_form" (defArgs (topS 18)) (defBody (topS 18)) (defScope (topS 18)) .none kV1 dc1 pm1 an1 cd1 ct1), sl1⟩) (c1 : PySem.W.codeIn K cd1 "chain_form" = true) (k1 : PySem.W.keepIn K (.ref f1) = true)
    (a2 : PySem.W.nsIn K mainGlobals "box_form" = some (some (.ref f2))) (l2 : K.lookup f2 = some ⟨oc2, od2, .func (PySem.W.fnOf "box_form" "box_form" (defArgs (topS 19)) (defBody (topS 19)) (defScope (topS 19)) .none kV2 dc2 pm2 an2 cd2 ct2), sl2⟩) (c2 : PySem.W.codeIn K cd2 "box_form" = true) (k2 : PySem.W.keepIn K (.ref f2) = true)
    (a3 : PySem.W.nsIn K mainGlobals "switch_form" = some (some (.ref f3))) (l3 : K.lookup f3 = some ⟨oc3, od3, .func (PySem.W.fnOf "switch_form" "switch_form" (defArgs (topS 20)) (defBody (topS 20)) (defScope (topS 20)) .none kV3 dc3 pm3 an3 cd3 ct3), sl3⟩) (c3 : PySem.W.codeIn K cd3 "switch_form" = true) (k3 : PySem.W.keepIn K (.ref f3) = true)
    (a4 : PySem.W.nsIn K mainGlobals "_law_loom" = some (some (.ref f4))) (l4 : K.lookup f4 = some ⟨oc4, od4, .func (PySem.W.fnOf "_law_loom" "_law_loom" (defArgs (topS 22)) (defBody (topS 22)) (defScope (topS 22)) .none kV4 dc4 pm4 an4 cd4 ct4), sl4⟩) (c4 : PySem.W.codeIn K cd4 "_law_loom" = true) (k4 : PySem.W.keepIn K (.ref f4) = true)
    (a5 : PySem.W.nsIn K mainGlobals "_law_weave" = some (some (.ref f5))) (l5 : K.lookup f5 = some ⟨oc5, od5, .func (PySem.W.fnOf "_law_weave" "_law_weave" (defArgs (topS 23)) (defBody (topS 23)) (defScope (topS 23)) .none kV5 dc5 pm5 an5 cd5 ct5), sl5⟩) (c5 : PySem.W.codeIn K cd5 "_law_weave" = true) (k5 : PySem.W.keepIn K (.ref f5) = true)
    (a6 : PySem.W.nsIn K mainGlobals "_law_same" = some (some (.ref f6))) (l6 : K.lookup f6 = some ⟨oc6, od6, .func (PySem.W.fnOf "_law_same" "_law_same" (defArgs (topS 25)) (defBody (topS 25)) (defScope (topS 25)) .none kV6 dc6 pm6 an6 cd6 ct6), sl6⟩) (c6 : PySem.W.codeIn K cd6 "_law_same" = true) (k6 : PySem.W.keepIn K (.ref f6) = true)
    (a7 : PySem.W.nsIn K mainGlobals "_law_bag" = some (some (.ref f7))) (l7 : K.lookup f7 = some ⟨oc7, od7, .func (PySem.W.fnOf "_law_bag" "_law_bag" (defArgs (topS 26)) (defBody (topS 26)) (defScope (topS 26)) .none kV7 dc7 pm7 an7 cd7 ct7), sl7⟩) (c7 : PySem.W.codeIn K cd7 "_law_bag" = true) (k7 : PySem.W.keepIn K (.ref f7) = true)
    (a8 : PySem.W.nsIn K mainGlobals "_law_numbers" = some (some (.ref f8))) (l8 : K.lookup f8 = some ⟨oc8, od8, .func (PySem.W.fnOf "_law_numbers" "_law_numbers" (defArgs (topS 28)) (defBody (topS 28)) (defScope (topS 28)) .none kV8 dc8 pm8 an8 cd8 ct8), sl8⟩) (c8 : PySem.W.codeIn K cd8 "_law_numbers" = true) (k8 : PySem.W.keepIn K (.ref f8) = true)
    (a9 : PySem.W.nsIn K mainGlobals "is_number_field" = some (some (.ref f9))) (l9 : K.lookup f9 = some ⟨oc9, od9, .func (PySem.W.fnOf "is_number_field" "is_number_field" (defArgs (topS 3)) (defBody (topS 3)) (defScope (topS 3)) .none kV9 dc9 pm9 an9 cd9 ct9), sl9⟩) (c9 : PySem.W.codeIn K cd9 "is_number_field" = true) (k9 : PySem.W.keepIn K (.ref f9) = true)
    (a10 : PySem.W.nsIn K mainGlobals "is_number_condition" = some (some (.ref f10))) (l10 : K.lookup f10 = some ⟨oc10, od10, .func (PySem.W.fnOf "is_number_condition" "is_number_condition" (defArgs (topS 9)) (defBody (topS 9)) (defScope (topS 9)) .none kV10 dc10 pm10 an10 cd10 ct10), sl10⟩) (c10 : PySem.W.codeIn K cd10 "is_number_condition" = true) (k10 : PySem.W.keepIn K (.ref f10) = true)
    (a11 : PySem.W.nsIn K mainGlobals "_law_of" = some (some (.ref f11))) (l11 : K.lookup f11 = some ⟨oc11, od11, .func (PySem.W.fnOf "_law_of" "_law_of" (defArgs (topS 24)) (defBody (topS 24)) (defScope (topS 24)) .none kV11 dc11 pm11 an11 cd11 ct11), sl11⟩) (c11 : PySem.W.codeIn K cd11 "_law_of" = true) (k11 : PySem.W.keepIn K (.ref f11) = true)
    (a12 : PySem.W.nsIn K mainGlobals "_law_form" = some (some (.ref f12))) (l12 : K.lookup f12 = some ⟨oc12, od12, .func (PySem.W.fnOf "_law_form" "_law_form" (defArgs (topS 27)) (defBody (topS 27)) (defScope (topS 27)) .none kV12 dc12 pm12 an12 cd12 ct12), sl12⟩) (c12 : PySem.W.codeIn K cd12 "_law_form" = true) (k12 : PySem.W.keepIn K (.ref f12) = true)
    (a13 : PySem.W.nsIn K mainGlobals "_law_values" = some (some (.ref f13))) (l13 : K.lookup f13 = some ⟨oc13, od13, .func (PySem.W.fnOf "_law_values" "_law_values" (defArgs (topS 29)) (defBody (topS 29)) (defScope (topS 29)) .none kV13 dc13 pm13 an13 cd13 ct13), sl13⟩) (c13 : PySem.W.codeIn K cd13 "_law_values" = true) (k13 : PySem.W.keepIn K (.ref f13) = true)
    (a14 : PySem.W.nsIn K mainGlobals "_law_lets" = some (some (.ref f14))) (l14 : K.lookup f14 = some ⟨oc14, od14, .func (PySem.W.fnOf "_law_lets" "_law_lets" (defArgs (topS 30)) (defBody (topS 30)) (defScope (topS 30)) .none kV14 dc14 pm14 an14 cd14 ct14), sl14⟩) (c14 : PySem.W.codeIn K cd14 "_law_lets" = true) (k14 : PySem.W.keepIn K (.ref f14) = true)
    (a15 : PySem.W.nsIn K mainGlobals "_law_numbers_of" = some (some (.ref f15))) (l15 : K.lookup f15 = some ⟨oc15, od15, .func (PySem.W.fnOf "_law_numbers_of" "_law_numbers_of" (defArgs (topS 34)) (defBody (topS 34)) (defScope (topS 34)) .none kV15 dc15 pm15 an15 cd15 ct15), sl15⟩) (c15 : PySem.W.codeIn K cd15 "_law_numbers_of" = true) (k15 : PySem.W.keepIn K (.ref f15) = true)
    (a16 : PySem.W.nsIn K mainGlobals "values_of" = some (some (.ref f16))) (l16 : K.lookup f16 = some ⟨oc16, od16, .func (PySem.W.fnOf "values_of" "values_of" (defArgs (topS 4)) (defBody (topS 4)) (defScope (topS 4)) .none kV16 dc16 pm16 an16 cd16 ct16), sl16⟩) (c16 : PySem.W.codeIn K cd16 "values_of" = true) (k16 : PySem.W.keepIn K (.ref f16) = true)
    (a17 : PySem.W.nsIn K mainGlobals "takes" = some (some (.ref f17))) (l17 : K.lookup f17 = some ⟨oc17, od17, .func (PySem.W.fnOf "takes" "takes" (defArgs (topS 10)) (defBody (topS 10)) (defScope (topS 10)) .none kV17 dc17 pm17 an17 cd17 ct17), sl17⟩) (c17 : PySem.W.codeIn K cd17 "takes" = true) (k17 : PySem.W.keepIn K (.ref f17) = true)
    (a18 : PySem.W.nsIn K mainGlobals "_law_rule" = some (some (.ref f18))) (l18 : K.lookup f18 = some ⟨oc18, od18, .func (PySem.W.fnOf "_law_rule" "_law_rule" (defArgs (topS 31)) (defBody (topS 31)) (defScope (topS 31)) .none kV18 dc18 pm18 an18 cd18 ct18), sl18⟩) (c18 : PySem.W.codeIn K cd18 "_law_rule" = true) (k18 : PySem.W.keepIn K (.ref f18) = true)
    (a19 : PySem.W.nsIn K mainGlobals "_law_nth" = some (some (.ref f19))) (l19 : K.lookup f19 = some ⟨oc19, od19, .func (PySem.W.fnOf "_law_nth" "_law_nth" (defArgs (topS 32)) (defBody (topS 32)) (defScope (topS 32)) .none kV19 dc19 pm19 an19 cd19 ct19), sl19⟩) (c19 : PySem.W.codeIn K cd19 "_law_nth" = true) (k19 : PySem.W.keepIn K (.ref f19) = true)
    (a20 : PySem.W.nsIn K mainGlobals "value_count" = some (some (.ref f20))) (l20 : K.lookup f20 = some ⟨oc20, od20, .func (PySem.W.fnOf "value_count" "value_count" (defArgs (topS 5)) (defBody (topS 5)) (defScope (topS 5)) .none kV20 dc20 pm20 an20 cd20 ct20), sl20⟩) (c20 : PySem.W.codeIn K cd20 "value_count" = true) (k20 : PySem.W.keepIn K (.ref f20) = true)
    (a21 : PySem.W.nsIn K mainGlobals "lets" = some (some (.ref f21))) (l21 : K.lookup f21 = some ⟨oc21, od21, .func (PySem.W.fnOf "lets" "lets" (defArgs (topS 11)) (defBody (topS 11)) (defScope (topS 11)) .none kV21 dc21 pm21 an21 cd21 ct21), sl21⟩) (c21 : PySem.W.codeIn K cd21 "lets" = true) (k21 : PySem.W.keepIn K (.ref f21) = true)
    (a22 : PySem.W.nsIn K mainGlobals "_law_due" = some (some (.ref f22))) (l22 : K.lookup f22 = some ⟨oc22, od22, .func (PySem.W.fnOf "_law_due" "_law_due" (defArgs (topS 33)) (defBody (topS 33)) (defScope (topS 33)) .none kV22 dc22 pm22 an22 cd22 ct22), sl22⟩) (c22 : PySem.W.codeIn K cd22 "_law_due" = true) (k22 : PySem.W.keepIn K (.ref f22) = true)
    (a23 : PySem.W.nsIn K mainGlobals "case_count" = some (some (.ref f23))) (l23 : K.lookup f23 = some ⟨oc23, od23, .func (PySem.W.fnOf "case_count" "case_count" (defArgs (topS 6)) (defBody (topS 6)) (defScope (topS 6)) .none kV23 dc23 pm23 an23 cd23 ct23), sl23⟩) (c23 : PySem.W.codeIn K cd23 "case_count" = true) (k23 : PySem.W.keepIn K (.ref f23) = true)
    (a24 : PySem.W.nsIn K mainGlobals "answered" = some (some (.ref f24))) (l24 : K.lookup f24 = some ⟨oc24, od24, .func (PySem.W.fnOf "answered" "answered" (defArgs (topS 13)) (defBody (topS 13)) (defScope (topS 13)) .none kV24 dc24 pm24 an24 cd24 ct24), sl24⟩) (c24 : PySem.W.codeIn K cd24 "answered" = true) (k24 : PySem.W.keepIn K (.ref f24) = true)
    (a25 : PySem.W.nsIn K mainGlobals "nth_case" = some (some (.ref f25))) (l25 : K.lookup f25 = some ⟨oc25, od25, .func (PySem.W.fnOf "nth_case" "nth_case" (defArgs (topS 7)) (defBody (topS 7)) (defScope (topS 7)) .none kV25 dc25 pm25 an25 cd25 ct25), sl25⟩) (c25 : PySem.W.codeIn K cd25 "nth_case" = true) (k25 : PySem.W.keepIn K (.ref f25) = true)
    (a26 : PySem.W.nsIn K mainGlobals "drawn_log" = some (some (.ref f26))) (l26 : K.lookup f26 = some ⟨oc26, od26, .func (PySem.W.fnOf "drawn_log" "drawn_log" (defArgs (topS 15)) (defBody (topS 15)) (defScope (topS 15)) .none kV26 dc26 pm26 an26 cd26 ct26), sl26⟩) (c26 : PySem.W.codeIn K cd26 "drawn_log" = true) (k26 : PySem.W.keepIn K (.ref f26) = true)
    (a27 : PySem.W.nsIn K mainGlobals "number_log" = some (some (.ref f27))) (l27 : K.lookup f27 = some ⟨oc27, od27, .func (PySem.W.fnOf "number_log" "number_log" (defArgs (topS 16)) (defBody (topS 16)) (defScope (topS 16)) .none kV27 dc27 pm27 an27 cd27 ct27), sl27⟩) (c27 : PySem.W.codeIn K cd27 "number_log" = true) (k27 : PySem.W.keepIn K (.ref f27) = true)
    (a28 : PySem.W.nsIn K mainGlobals "_law_asked" = some (some (.ref f28))) (l28 : K.lookup f28 = some ⟨oc28, od28, .func (PySem.W.fnOf "_law_asked" "_law_asked" (defArgs (topS 35)) (defBody (topS 35)) (defScope (topS 35)) .none kV28 dc28 pm28 an28 cd28 ct28), sl28⟩) (c28 : PySem.W.codeIn K cd28 "_law_asked" = true) (k28 : PySem.W.keepIn K (.ref f28) = true)
    (a29 : PySem.W.nsIn K mainGlobals "_law_made" = some (some (.ref f29))) (l29 : K.lookup f29 = some ⟨oc29, od29, .func (PySem.W.fnOf "_law_made" "_law_made" (defArgs (topS 36)) (defBody (topS 36)) (defScope (topS 36)) .none kV29 dc29 pm29 an29 cd29 ct29), sl29⟩) (c29 : PySem.W.codeIn K cd29 "_law_made" = true) (k29 : PySem.W.keepIn K (.ref f29) = true)
    (a30 : PySem.W.nsIn K mainGlobals "law" = some (some (.ref f30))) (l30 : K.lookup f30 = some ⟨oc30, od30, .func (PySem.W.fnOf "law" "law" (defArgs (topS 37)) (defBody (topS 37)) (defScope (topS 37)) .none kV30 dc30 pm30 an30 cd30 ct30), sl30⟩) (c30 : PySem.W.codeIn K cd30 "law" = true) (k30 : PySem.W.keepIn K (.ref f30) = true)
    (z0 : PySem.W.nsIn K mainGlobals "abs" = some none)
    (z1 : PySem.W.nsIn K mainGlobals "all" = some none)
    (z2 : PySem.W.nsIn K mainGlobals "bool" = some none)
    (z3 : PySem.W.nsIn K mainGlobals "int" = some none)
    (z4 : PySem.W.nsIn K mainGlobals "isinstance" = some none)
    (z5 : PySem.W.nsIn K mainGlobals "len" = some none)
    (z6 : PySem.W.nsIn K mainGlobals "list" = some none)
    (z7 : PySem.W.nsIn K mainGlobals "max" = some none)
    (z8 : PySem.W.nsIn K mainGlobals "min" = some none)
    (z9 : PySem.W.nsIn K mainGlobals "range" = some none)
    (z10 : PySem.W.nsIn K mainGlobals "sorted" = some none)
    (z11 : PySem.W.nsIn K mainGlobals "str" = some none)
    (z12 : PySem.W.nsIn K mainGlobals "tuple" = some none)
    (z13 : PySem.W.nsIn K mainGlobals "zip" = some none)
    : ∃ fd : FuncData, (∀ (s : Shared) (v : Value), BindsTo s fd ⟨[v], []⟩ [("script", v)]) ∧ ∀ base : Heap, K.In base → base.Ns mainGlobals mg → FnOk PySem.Challenge.rw_rulesbehind_k38_drawn_logs_made_forms.prog w K mg base CX0 11 fa fd ["script"] (spLaw K 63) := by
  have e := hfa.symm.trans (PySem.W.mg_of X G a30)
  cases e
  have F0 := fun_mk (st := topS 1) l0 c0 k0
  have F1 := fun_mk (st := topS 18) l1 c1 k1
  have F2 := fun_mk (st := topS 19) l2 c2 k2
  have F3 := fun_mk (st := topS 20) l3 c3 k3
  have F4 := fun_mk (st := topS 22) l4 c4 k4
  have F5 := fun_mk (st := topS 23) l5 c5 k5
  have F6 := fun_mk (st := topS 25) l6 c6 k6
  have F7 := fun_mk (st := topS 26) l7 c7 k7
  have F8 := fun_mk (st := topS 28) l8 c8 k8
  have F9 := fun_mk (st := topS 3) l9 c9 k9
  have F10 := fun_mk (st := topS 9) l10 c10 k10
  have F11 := fun_mk (st := topS 24) l11 c11 k11
  have F12 := fun_mk (st := topS 27) l12 c12 k12
  have F13 := fun_mk (st := topS 29) l13 c13 k13
  have F14 := fun_mk (st := topS 30) l14 c14 k14
  have F15 := fun_mk (st := topS 34) l15 c15 k15
  have F16 := fun_mk (st := topS 4) l16 c16 k16
  have F17 := fun_mk (st := topS 10) l17 c17 k17
  have F18 := fun_mk (st := topS 31) l18 c18 k18
  have F19 := fun_mk (st := topS 32) l19 c19 k19
  have F20 := fun_mk (st := topS 5) l20 c20 k20
  have F21 := fun_mk (st := topS 11) l21 c21 k21
  have F22 := fun_mk (st := topS 33) l22 c22 k22
  have F23 := fun_mk (st := topS 6) l23 c23 k23
  have F24 := fun_mk (st := topS 13) l24 c24 k24
  have F25 := fun_mk (st := topS 7) l25 c25 k25
  have F26 := fun_mk (st := topS 15) l26 c26 k26
  have F27 := fun_mk (st := topS 16) l27 c27 k27
  have F28 := fun_mk (st := topS 35) l28 c28 k28
  have F29 := fun_mk (st := topS 36) l29 c29 k29
  have F30 := fun_mk (st := topS 37) l30 c30 k30
  refine ⟨PySem.W.fnOf "law" "law" (defArgs (topS 37)) (defBody (topS 37)) (defScope (topS 37)) .none kV30 dc30 pm30 an30 cd30 ct30, fun s v => .of_eq rfl, fun base _ _ => ?_⟩
  have hn : Hn (mkLaw PySem.Challenge.rw_rulesbehind_k38_drawn_logs_made_forms.prog w K mg base) := {
    tk := rfl
    m_abs := PySem.W.mg_none_of X G z0
    m_all := PySem.W.mg_none_of X G z1
    m_bool := PySem.W.mg_none_of X G z2
    m_int := PySem.W.mg_none_of X G z3
    m_isinstance := PySem.W.mg_none_of X G z4
    m_len := PySem.W.mg_none_of X G z5
    m_list := PySem.W.mg_none_of X G z6
    m_max := PySem.W.mg_none_of X G z7
    m_min := PySem.W.mg_none_of X G z8
    m_range := PySem.W.mg_none_of X G z9
    m_sorted := PySem.W.mg_none_of X G z10
    m_str := PySem.W.mg_none_of X G z11
    m_tuple := PySem.W.mg_none_of X G z12
    m_zip := PySem.W.mg_none_of X G z13
    f_is_integer := ⟨_, _, F0, PySem.W.mg_of X G a0, k0, F0.binds (ps := ["thing"]) fun _ _ _ _ _ _ us hl => match us, hl with | [_], _ => rfl⟩
    f_chain_form := ⟨_, _, F1, PySem.W.mg_of X G a1, k1, F1.binds (ps := ["many"]) fun _ _ _ _ _ _ us hl => match us, hl with | [_], _ => rfl⟩
    f_box_form := ⟨_, _, F2, PySem.W.mg_of X G a2, k2, F2.binds (ps := ["many"]) fun _ _ _ _ _ _ us hl => match us, hl with | [_], _ => rfl⟩
    f_switch_form := ⟨_, _, F3, PySem.W.mg_of X G a3, k3, F3.binds (ps := ["many"]) fun _ _ _ _ _ _ us hl => match us, hl with | [_], _ => rfl⟩
    f__law_loom := ⟨_, _, F4, PySem.W.mg_of X G a4, k4, F4.binds (ps := ["script"]) fun _ _ _ _ _ _ us hl => match us, hl with | [_], _ => rfl⟩
    f__law_weave := ⟨_, _, F5, PySem.W.mg_of X G a5, k5, F5.binds (ps := ["loom", "many"]) fun _ _ _ _ _ _ us hl => match us, hl with | [_, _], _ => rfl⟩
    f__law_same := ⟨_, _, F6, PySem.W.mg_of X G a6, k6, F6.binds (ps := ["told", "due"]) fun _ _ _ _ _ _ us hl => match us, hl with | [_, _], _ => rfl⟩
    f__law_bag := ⟨_, _, F7, PySem.W.mg_of X G a7, k7, F7.binds (ps := []) fun _ _ _ _ _ _ us hl => match us, hl with | [], _ => rfl⟩
    f__law_numbers := ⟨_, _, F8, PySem.W.mg_of X G a8, k8, F8.binds (ps := ["field"]) fun _ _ _ _ _ _ us hl => match us, hl with | [_], _ => rfl⟩
    f_is_number_field := ⟨_, _, F9, PySem.W.mg_of X G a9, k9, F9.binds (ps := ["form", "place"]) fun _ _ _ _ _ _ us hl => match us, hl with | [_, _], _ => rfl⟩
    f_is_number_condition := ⟨_, _, F10, PySem.W.mg_of X G a10, k10, F10.binds (ps := ["condition"]) fun _ _ _ _ _ _ us hl => match us, hl with | [_], _ => rfl⟩
    f__law_of := ⟨_, _, F11, PySem.W.mg_of X G a11, k11, F11.binds (ps := ["loom", "row"]) fun _ _ _ _ _ _ us hl => match us, hl with | [_, _], _ => rfl⟩
    f__law_form := ⟨_, _, F12, PySem.W.mg_of X G a12, k12, F12.binds (ps := ["loom", "fields", "most"]) fun _ _ _ _ _ _ us hl => match us, hl with | [_, _, _], _ => rfl⟩
    f__law_values := ⟨_, _, F13, PySem.W.mg_of X G a13, k13, F13.binds (ps := ["field"]) fun _ _ _ _ _ _ us hl => match us, hl with | [_], _ => rfl⟩
    f__law_lets := ⟨_, _, F14, PySem.W.mg_of X G a14, k14, F14.binds (ps := ["form", "rule", "case"]) fun _ _ _ _ _ _ us hl => match us, hl with | [_, _, _], _ => rfl⟩
    f__law_numbers_of := ⟨_, _, F15, PySem.W.mg_of X G a15, k15, F15.binds (ps := ["loom", "many"]) fun _ _ _ _ _ _ us hl => match us, hl with | [_, _], _ => rfl⟩
    f_values_of := ⟨_, _, F16, PySem.W.mg_of X G a16, k16, F16.binds (ps := ["form", "place"]) fun _ _ _ _ _ _ us hl => match us, hl with | [_, _], _ => rfl⟩
    f_takes := ⟨_, _, F17, PySem.W.mg_of X G a17, k17, F17.binds (ps := ["condition", "value"]) fun _ _ _ _ _ _ us hl => match us, hl with | [_, _], _ => rfl⟩
    f__law_rule := ⟨_, _, F18, PySem.W.mg_of X G a18, k18, F18.binds (ps := ["loom", "form"]) fun _ _ _ _ _ _ us hl => match us, hl with | [_, _], _ => rfl⟩
    f__law_nth := ⟨_, _, F19, PySem.W.mg_of X G a19, k19, F19.binds (ps := ["form", "number"]) fun _ _ _ _ _ _ us hl => match us, hl with | [_, _], _ => rfl⟩
    f_value_count := ⟨_, _, F20, PySem.W.mg_of X G a20, k20, F20.binds (ps := ["form", "place"]) fun _ _ _ _ _ _ us hl => match us, hl with | [_, _], _ => rfl⟩
    f_lets := ⟨_, _, F21, PySem.W.mg_of X G a21, k21, F21.binds (ps := ["rule", "case"]) fun _ _ _ _ _ _ us hl => match us, hl with | [_, _], _ => rfl⟩
    f__law_due := ⟨_, _, F22, PySem.W.mg_of X G a22, k22, F22.binds (ps := ["form", "deed", "rule", "numbers"]) fun _ _ _ _ _ _ us hl => match us, hl with | [_, _, _, _], _ => rfl⟩
    f_case_count := ⟨_, _, F23, PySem.W.mg_of X G a23, k23, F23.binds (ps := ["form"]) fun _ _ _ _ _ _ us hl => match us, hl with | [_], _ => rfl⟩
    f_answered := ⟨_, _, F24, PySem.W.mg_of X G a24, k24, F24.binds (ps := ["log", "deed", "rule", "case"]) fun _ _ _ _ _ _ us hl => match us, hl with | [_, _, _, _], _ => rfl⟩
    f_nth_case := ⟨_, _, F25, PySem.W.mg_of X G a25, k25, F25.binds (ps := ["form", "number"]) fun _ _ _ _ _ _ us hl => match us, hl with | [_, _], _ => rfl⟩
    f_drawn_log := ⟨_, _, F26, PySem.W.mg_of X G a26, k26, F26.binds (ps := ["form", "deed", "rule", "numbers"]) fun _ _ _ _ _ _ us hl => match us, hl with | [_, _, _, _], _ => rfl⟩
    f_number_log := ⟨_, _, F27, PySem.W.mg_of X G a27, k27, F27.binds (ps := ["form", "deed", "rule", "many"]) fun _ _ _ _ _ _ us hl => match us, hl with | [_, _, _, _], _ => rfl⟩
    f__law_asked := ⟨_, _, F28, PySem.W.mg_of X G a28, k28, F28.binds (ps := ["loom", "form"]) fun _ _ _ _ _ _ us hl => match us, hl with | [_, _], _ => rfl⟩
    f__law_made := ⟨_, _, F29, PySem.W.mg_of X G a29, k29, F29.binds (ps := ["loom"]) fun _ _ _ _ _ _ us hl => match us, hl with | [_], _ => rfl⟩
    f_law := ⟨_, _, F30, PySem.W.mg_of X G a30, k30, F30.binds (ps := ["script"]) fun _ _ _ _ _ _ us hl => match us, hl with | [_], _ => rfl⟩
    k_drawn_log_0 := ⟨_, _, F26, PySem.W.mg_of X G a26, k26, fun_kb F26 fun _ _ _ _ _ _ us ws h1 h2 => match us, ws, h1, h2 with | [], [_, _, _, _], _, _ => rfl⟩
    k_switch_form_1 := ⟨_, _, F3, PySem.W.mg_of X G a3, k3, fun_kb F3 fun _ _ _ _ _ _ us ws h1 h2 => match us, ws, h1, h2 with | [], [_], _, _ => rfl⟩
    k_box_form_2 := ⟨_, _, F2, PySem.W.mg_of X G a2, k2, fun_kb F2 fun _ _ _ _ _ _ us ws h1 h2 => match us, ws, h1, h2 with | [], [_], _, _ => rfl⟩
    k_chain_form_3 := ⟨_, _, F1, PySem.W.mg_of X G a1, k1, fun_kb F1 fun _ _ _ _ _ _ us ws h1 h2 => match us, ws, h1, h2 with | [], [_], _, _ => rfl⟩
    k_number_log_4 := ⟨_, _, F27, PySem.W.mg_of X G a27, k27, fun_kb F27 fun _ _ _ _ _ _ us ws h1 h2 => match us, ws, h1, h2 with | [], [_, _, _, _], _, _ => rfl⟩
  }
  exact (fn_rb (L := mkLaw PySem.Challenge.rw_rulesbehind_k38_drawn_logs_made_forms.prog w K mg base) (k := 10) F30 sc_law ck_law (by have h := hn; have L := mkLaw PySem.Challenge.rw_rulesbehind_k38_drawn_logs_made_forms.prog w K mg base; exact need_law _ hn)).wk fun vs H Q E hs => law_sp (L := mkLaw PySem.Challenge.rw_rulesbehind_k38_drawn_logs_made_forms.prog w K mg base) rfl hs

end K38
open PySem PySem.W PyProof.Rows
set_option maxHeartbeats 0 in
theorem PySem.Challenge.cw_rulesbehind_k38_drawn_logs_made_forms_holds : PySem.Challenge.rw_rulesbehind_k38_drawn_logs_made_forms.Holds := by
  w_on; o_law; k_head; (case hw => w_witness2)
  k_fill
  refine L2.walk_ofB (l := PySem.Challenge.rw_rulesbehind_k38_drawn_logs_made_forms) (n := 63) (k := 11) (x := "script") (CX := fun _ => L2.CX0) (sp := fun w => RB.spLaw _ 63) rfl (by decide) rfl ⟨rfl, by decide, by decide⟩ (fun w h Y => PySem.W.kIn_of Y) ?F (fun _ _ a ns hl hb _ hS => ⟨a, ns, rfl, hS, hl, hb, fun _ => rfl⟩) (fun _ _ _ _ _ h => h)
  case F =>
    intro w mg fa h KX G hmg
    refine' K38.all_mk KX G hmg ?a0 ?l0 ?c0 ?k0 ?a1 ?l1 ?c1 ?k1 ?a2 ?l2 ?c2 ?k2 ?a3 ?l3 ?c3 ?k3 ?a4 ?l4 ?c4 ?k4 ?a5 ?l5 ?c5 ?k5 ?a6 ?l6 ?c6 ?k6 ?a7 ?l7 ?c7 ?k7 ?a8 ?l8 ?c8 ?k8 ?a9 ?l9 ?c9 ?k9 ?a10 ?l10 ?c10 ?k10 ?a11 ?l11 ?c11 ?k11 ?a12 ?l12 ?c12 ?k12 ?a13 ?l13 ?c13 ?k13 ?a14 ?l14 ?c14 ?k14 ?a15 ?l15 ?c15 ?k15 ?a16 ?l16 ?c16 ?k16 ?a17 ?l17 ?c17 ?k17 ?a18 ?l18 ?c18 ?k18 ?a19 ?l19 ?c19 ?k19 ?a20 ?l20 ?c20 ?k20 ?a21 ?l21 ?c21 ?k21 ?a22 ?l22 ?c22 ?k22 ?a23 ?l23 ?c23 ?k23 ?a24 ?l24 ?c24 ?k24 ?a25 ?l25 ?c25 ?k25 ?a26 ?l26 ?c26 ?k26 ?a27 ?l27 ?c27 ?k27 ?a28 ?l28 ?c28 ?k28 ?a29 ?l29 ?c29 ?k29 ?a30 ?l30 ?c30 ?k30 ?z0 ?z1 ?z2 ?z3 ?z4 ?z5 ?z6 ?z7 ?z8 ?z9 ?z10 ?z11 ?z12 ?z13
    (case a0 => k_is)
    (case l0 => k_is)
    (case c0 => k_is)
    (case k0 => k_is)
    (case a1 => k_is)
    (case l1 => k_is)
    (case c1 => k_is)
    (case k1 => k_is)
    (case a2 => k_is)
    (case l2 => k_is)
    (case c2 => k_is)
    (case k2 => k_is)
    (case a3 => k_is)
    (case l3 => k_is)
    (case c3 => k_is)
    (case k3 => k_is)
    (case a4 => k_is)
    (case l4 => k_is)
    (case c4 => k_is)
    (case k4 => k_is)
    (case a5 => k_is)
    (case l5 => k_is)
    (case c5 => k_is)
    (case k5 => k_is)
    (case a6 => k_is)
    (case l6 => k_is)
    (case c6 => k_is)
    (case k6 => k_is)
    (case a7 => k_is)
    (case l7 => k_is)
    (case c7 => k_is)
    (case k7 => k_is)
    (case a8 => k_is)
    (case l8 => k_is)
    (case c8 => k_is)
    (case k8 => k_is)
    (case a9 => k_is)
    (case l9 => k_is)
    (case c9 => k_is)
    (case k9 => k_is)
    (case a10 => k_is)
    (case l10 => k_is)
    (case c10 => k_is)
    (case k10 => k_is)
    (case a11 => k_is)
    (case l11 => k_is)
    (case c11 => k_is)
    (case k11 => k_is)
    (case a12 => k_is)
    (case l12 => k_is)
    (case c12 => k_is)
    (case k12 => k_is)
    (case a13 => k_is)
    (case l13 => k_is)
    (case c13 => k_is)
    (case k13 => k_is)
    (case a14 => k_is)
    (case l14 => k_is)
    (case c14 => k_is)
    (case k14 => k_is)
    (case a15 => k_is)
    (case l15 => k_is)
    (case c15 => k_is)
    (case k15 => k_is)
    (case a16 => k_is)
    (case l16 => k_is)
    (case c16 => k_is)
    (case k16 => k_is)
    (case a17 => k_is)
    (case l17 => k_is)
    (case c17 => k_is)
    (case k17 => k_is)
    (case a18 => k_is)
    (case l18 => k_is)
    (case c18 => k_is)
    (case k18 => k_is)
    (case a19 => k_is)
    (case l19 => k_is)
    (case c19 => k_is)
    (case k19 => k_is)
    (case a20 => k_is)
    (case l20 => k_is)
    (case c20 => k_is)
    (case k20 => k_is)
    (case a21 => k_is)
    (case l21 => k_is)
    (case c21 => k_is)
    (case k21 => k_is)
    (case a22 => k_is)
    (case l22 => k_is)
    (case c22 => k_is)
    (case k22 => k_is)
    (case a23 => k_is)
    (case l23 => k_is)
    (case c23 => k_is)
    (case k23 => k_is)
    (case a24 => k_is)
    (case l24 => k_is)
    (case c24 => k_is)
    (case k24 => k_is)
    (case a25 => k_is)
    (case l25 => k_is)
    (case c25 => k_is)
    (case k25 => k_is)
    (case a26 => k_is)
    (case l26 => k_is)
    (case c26 => k_is)
    (case k26 => k_is)
    (case a27 => k_is)
    (case l27 => k_is)
    (case c27 => k_is)
    (case k27 => k_is)
    (case a28 => k_is)
    (case l28 => k_is)
    (case c28 => k_is)
    (case k28 => k_is)
    (case a29 => k_is)
    (case l29 => k_is)
    (case c29 => k_is)
    (case k29 => k_is)
    (case a30 => k_is)
    (case l30 => k_is)
    (case c30 => k_is)
    (case k30 => k_is)
    (case z0 => k_is)
    (case z1 => k_is)
    (case z2 => k_is)
    (case z3 => k_is)
    (case z4 => k_is)
    (case z5 => k_is)
    (case z6 => k_is)
    (case z7 => k_is)
    (case z8 => k_is)
    (case z9 => k_is)
    (case z10 => k_is)
    (case z11 => k_is)
    (case z12 => k_is)
    (case z13 => k_is)

