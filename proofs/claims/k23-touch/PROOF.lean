import PyProof.Rows.All
import Wide.All
import OpenK.AllK
import Wide.FinOn
import HandS.ForMost
import HandS.ForExc
import KE.DataEq
import KE.DataCmp
import KE.DataFind
import KE.SortData
import HandS.IsInst
import HandS.WideBits
import HandS.TupAny
import HandS.Wide
import HandS.Text
import HandS.Codes
import HandS.Style
import HandS.TupLe
import HandS.Zip
import HandS.IterVal
import HandS.More
import HandS.EndBits
import PySem.Challenge.RW_struckdeeds_k23_deeds_that_touch
set_option Elab.async false
set_option linter.all false
set_option autoImplicit false
set_option maxRecDepth 100000
set_option maxHeartbeats 4000000
/-! SD, part A: data, what represents it on the abstract heap, environments of slots, steps of the heap. -/
namespace SD
open PySem PySem.Spec PyProof.Rows L2

abbrev St := L2.St
abbrev D := PyData
abbrev Fr0 := PySem.W.Frag
def kD : Key → D
  | .inl i => .int i
  | .inr x => .str x

mutual
/-- v is the data d, over the part F of the heap that never changes -/
def Rep (K : Fr0) (F : Hp) : D → V → Prop
  | .none, v => v = .non
  | .bool b, v => v = .bl b
  | .int i, v => v = .int i
  | .str x, v => v = .str x
  | .list ds, v => ∃ a vs, v = .ref a ∧ SqL K F a vs ∧ Reps K F ds vs
  | .tuple ds, v => ∃ a vs, v = .ref a ∧ SqT K F a vs ∧ Reps K F ds vs
  | .dict kvs, v => ∃ a es, v = .ref a ∧ Rd F a (.dK es) ∧ RepK K F kvs es
def Reps (K : Fr0) (F : Hp) : List D → List V → Prop
  | [], vs => vs = []
  | d :: ds, vs => ∃ v r, vs = v :: r ∧ Rep K F d v ∧ Reps K F ds r
def RepK (K : Fr0) (F : Hp) : List (D × D) → List (Key × V) → Prop
  | [], es => es = []
  | (k, d) :: r, es => ∃ q v t, es = (q, v) :: t ∧ k = kD q ∧ Rep K F d v ∧ RepK K F r t
end

theorem Rd.mono {F F' : Hp} (s : Same F F') {a : Addr} {u : HO} (h : Rd F a u) : Rd F' a u := by
  rcases h with h | ⟨o, h⟩
  · exact .inl (s _ _ h)
  · exact .inr ⟨o, s _ _ h⟩
theorem SqL.mono {K : Fr0} {F F' : Hp} (s : Same F F') {a : Addr} {xs : List V} (h : SqL K F a xs) : SqL K F' a xs := by
  rcases h with h | h
  · exact .inl (Rd.mono s h)
  · exact .inr h
theorem SqT.mono {K : Fr0} {F F' : Hp} (s : Same F F') {a : Addr} {xs : List V} (h : SqT K F a xs) : SqT K F' a xs := by
  rcases h with h | h
  · exact .inl (Rd.mono s h)
  · exact .inr h

mutual
theorem Rep.mono {K : Fr0} {F F' : Hp} (s : Same F F') : ∀ (d : D) (v : V), Rep K F d v → Rep K F' d v
  | .none, v, h => by rw [Rep] at h ⊢; exact h
  | .bool b, v, h => by rw [Rep] at h ⊢; exact h
  | .int i, v, h => by rw [Rep] at h ⊢; exact h
  | .str x, v, h => by rw [Rep] at h ⊢; exact h
  | .list ds, v, h => by
    rw [Rep] at h ⊢
    obtain ⟨a, vs, e, q, r⟩ := h
    exact ⟨a, vs, e, SqL.mono s q, Reps.mono s ds vs r⟩
  | .tuple ds, v, h => by
    rw [Rep] at h ⊢
    obtain ⟨a, vs, e, q, r⟩ := h
    exact ⟨a, vs, e, SqT.mono s q, Reps.mono s ds vs r⟩
  | .dict kvs, v, h => by
    rw [Rep] at h ⊢
    obtain ⟨a, es, e, q, r⟩ := h
    exact ⟨a, es, e, Rd.mono s q, RepK.mono s kvs es r⟩
theorem Reps.mono {K : Fr0} {F F' : Hp} (s : Same F F') : ∀ (ds : List D) (vs : List V), Reps K F ds vs → Reps K F' ds vs
  | [], vs, h => by rw [Reps] at h ⊢; exact h
  | d :: ds, vs, h => by
    rw [Reps] at h ⊢
    obtain ⟨v, r, e, q, t⟩ := h
    exact ⟨v, r, e, Rep.mono s d v q, Reps.mono s ds r t⟩
theorem RepK.mono {K : Fr0} {F F' : Hp} (s : Same F F') : ∀ (ds : List (D × D)) (es : List (Key × V)), RepK K F ds es → RepK K F' ds es
  | [], es, h => by rw [RepK] at h ⊢; exact h
  | (k, d) :: ds, es, h => by
    rw [RepK] at h ⊢
    obtain ⟨q, v, t, e, ek, h1, h2⟩ := h
    exact ⟨q, v, t, e, ek, Rep.mono s d v h1, RepK.mono s ds t h2⟩
end

theorem reps_nil {K : Fr0} {F : Hp} {vs : List V} : Reps K F [] vs ↔ vs = [] := by rw [Reps]
theorem reps_cons {K : Fr0} {F : Hp} {d : D} {ds : List D} {vs : List V} : Reps K F (d :: ds) vs ↔ ∃ v r, vs = v :: r ∧ Rep K F d v ∧ Reps K F ds r := by rw [Reps]
theorem repk_nil {K : Fr0} {F : Hp} {vs : List (Key × V)} : RepK K F [] vs ↔ vs = [] := by rw [RepK]
theorem repk_cons {K : Fr0} {F : Hp} {k d : D} {ds : List (D × D)} {vs : List (Key × V)} : RepK K F ((k, d) :: ds) vs ↔ ∃ q v t, vs = (q, v) :: t ∧ k = kD q ∧ Rep K F d v ∧ RepK K F ds t := by rw [RepK]
theorem rep_none {K : Fr0} {F : Hp} {v : V} : Rep K F .none v ↔ v = .non := by rw [Rep]
theorem rep_bool {K : Fr0} {F : Hp} {v : V} {b : Bool} : Rep K F (.bool b) v ↔ v = .bl b := by rw [Rep]
theorem rep_int {K : Fr0} {F : Hp} {v : V} {i : Int} : Rep K F (.int i) v ↔ v = .int i := by rw [Rep]
theorem rep_str {K : Fr0} {F : Hp} {v : V} {x : Str} : Rep K F (.str x) v ↔ v = .str x := by rw [Rep]
theorem rep_list {K : Fr0} {F : Hp} {v : V} {ds : List D} : Rep K F (.list ds) v ↔ ∃ a vs, v = .ref a ∧ SqL K F a vs ∧ Reps K F ds vs := by rw [Rep]
theorem rep_tuple {K : Fr0} {F : Hp} {v : V} {ds : List D} : Rep K F (.tuple ds) v ↔ ∃ a vs, v = .ref a ∧ SqT K F a vs ∧ Reps K F ds vs := by rw [Rep]
theorem rep_dict {K : Fr0} {F : Hp} {v : V} {ds : List (D × D)} : Rep K F (.dict ds) v ↔ ∃ a es, v = .ref a ∧ Rd F a (.dK es) ∧ RepK K F ds es := by rw [Rep]

theorem Reps.length {K : Fr0} {F : Hp} : ∀ {ds : List D} {vs : List V}, Reps K F ds vs → ds.length = vs.length
  | [], vs, h => by rw [reps_nil] at h; subst h; rfl
  | d :: ds, vs, h => by
    rw [reps_cons] at h
    obtain ⟨v, r, rfl, _, t⟩ := h
    simp [Reps.length t]
theorem Reps.get {K : Fr0} {F : Hp} : ∀ {ds : List D} {vs : List V} {i : Nat} {d : D}, Reps K F ds vs → ds[i]? = some d → ∃ v, vs[i]? = some v ∧ Rep K F d v
  | [], vs, i, d, h, e => by simp at e
  | d' :: ds, vs, 0, d, h, e => by
    rw [reps_cons] at h
    obtain ⟨v, r, rfl, q, t⟩ := h
    simp at e; subst e
    exact ⟨v, rfl, q⟩
  | d' :: ds, vs, i + 1, d, h, e => by
    rw [reps_cons] at h
    obtain ⟨v, r, rfl, q, t⟩ := h
    simp at e
    simpa using Reps.get (i := i) t e
theorem Reps.getV {K : Fr0} {F : Hp} : ∀ {ds : List D} {vs : List V} {i : Nat} {v : V}, Reps K F ds vs → vs[i]? = some v → ∃ d, ds[i]? = some d ∧ Rep K F d v := by
  intro ds vs i v h e
  have hl := h.length
  have hi : i < vs.length := (List.getElem?_eq_some_iff.mp e).1
  obtain ⟨v', e', r⟩ := h.get (i := i) (d := ds[i]'(by omega)) (by simp)
  rw [e] at e'; cases e'
  exact ⟨_, by simp, r⟩
theorem Reps.append {K : Fr0} {F : Hp} : ∀ {ds es : List D} {vs ws : List V}, Reps K F ds vs → Reps K F es ws → Reps K F (ds ++ es) (vs ++ ws)
  | [], es, vs, ws, h, q => by rw [reps_nil] at h; subst h; exact q
  | d :: ds, es, vs, ws, h, q => by
    rw [reps_cons] at h
    obtain ⟨v, r, rfl, h1, t⟩ := h
    rw [List.cons_append, List.cons_append, reps_cons]
    exact ⟨v, _, rfl, h1, Reps.append t q⟩
theorem Reps.one {K : Fr0} {F : Hp} {d : D} {v : V} (h : Rep K F d v) : Reps K F [d] [v] := by
  rw [reps_cons]; exact ⟨v, [], rfl, h, by rw [reps_nil]⟩
theorem Reps.take {K : Fr0} {F : Hp} : ∀ (n : Nat) {ds : List D} {vs : List V}, Reps K F ds vs → Reps K F (ds.take n) (vs.take n)
  | 0, _, _, _ => by simp [reps_nil]
  | n + 1, [], vs, h => by rw [reps_nil] at h; subst h; simp [reps_nil]
  | n + 1, d :: ds, vs, h => by
    rw [reps_cons] at h
    obtain ⟨v, r, rfl, h1, t⟩ := h
    rw [List.take_succ_cons, List.take_succ_cons, reps_cons]
    exact ⟨v, _, rfl, h1, Reps.take n t⟩
theorem Reps.drop {K : Fr0} {F : Hp} : ∀ (n : Nat) {ds : List D} {vs : List V}, Reps K F ds vs → Reps K F (ds.drop n) (vs.drop n)
  | 0, _, _, h => h
  | n + 1, [], vs, h => by rw [reps_nil] at h; subst h; simp [reps_nil]
  | n + 1, d :: ds, vs, h => by
    rw [reps_cons] at h
    obtain ⟨v, r, rfl, h1, t⟩ := h
    exact Reps.drop n t
theorem Reps.set {K : Fr0} {F : Hp} {d : D} {v : V} (q : Rep K F d v) : ∀ (i : Nat) {ds : List D} {vs : List V}, Reps K F ds vs → Reps K F (ds.set i d) (vs.set i v)
  | _, [], vs, h => by rw [reps_nil] at h; subst h; simp [reps_nil]
  | 0, _ :: ds, vs, h => by
    rw [reps_cons] at h
    obtain ⟨w, r, rfl, h1, t⟩ := h
    rw [List.set_cons_zero, List.set_cons_zero, reps_cons]
    exact ⟨v, _, rfl, q, t⟩
  | i + 1, _ :: ds, vs, h => by
    rw [reps_cons] at h
    obtain ⟨w, r, rfl, h1, t⟩ := h
    rw [List.set_cons_succ, List.set_cons_succ, reps_cons]
    exact ⟨w, _, rfl, h1, Reps.set q i t⟩
theorem Reps.reverse {K : Fr0} {F : Hp} : ∀ {ds : List D} {vs : List V}, Reps K F ds vs → Reps K F ds.reverse vs.reverse
  | [], vs, h => by rw [reps_nil] at h; subst h; simp [reps_nil]
  | d :: ds, vs, h => by
    rw [reps_cons] at h
    obtain ⟨w, r, rfl, h1, t⟩ := h
    rw [List.reverse_cons, List.reverse_cons]
    exact (Reps.reverse t).append (.one h1)

/-- a dict's pairs as data -/
def qD (kvs : List (Key × D)) : List (D × D) := kvs.map fun p => (kD p.1, p.2)
/-! ### slots -/
/-- what a slot of a frame holds: nothing that is told, data that never changes, or a list, a dict of one's own -/
inductive Slot where
  | emp
  | val (d : D)
  | lst (ds : List D)
  | dic (kvs : List (Key × D))

abbrev En := List Slot
def SlotOk (K : Fr0) (F H : Hp) : Slot → Option V → Prop
  | .emp, _ => True
  | .val d, v => ∃ x, v = some x ∧ Rep K F d x
  | .lst ds, v => ∃ p vs, v = some (.ref p) ∧ H p = some (.lst vs) ∧ F p = none ∧ Reps K F ds vs
  | .dic kvs, v => ∃ p es, v = some (.ref p) ∧ H p = some (.dK es) ∧ F p = none ∧ RepK K F (qD kvs) es
/-- the address that a slot owns -/
def Owns : Slot → Option V → Addr → Prop
  | .lst _, some (.ref p), q => q = p
  | .dic _, some (.ref p), q => q = p
  | _, _, _ => False
def OwnE (ρ : En) (σ : St) (q : Addr) : Prop := ∃ (i : Nat) (s : Slot) (v : Option V), ρ[i]? = some s ∧ σ[i]? = some v ∧ Owns s v q

structure Rp (K : Fr0) (F H : Hp) (ρ : En) (σ : St) : Prop where
  len : ρ.length = σ.length
  sub : Same F H
  ok : ∀ (i : Nat) (s : Slot) (v : Option V), ρ[i]? = some s → σ[i]? = some v → SlotOk K F H s v
  dj : ∀ (i j : Nat) (s t : Slot) (v u : Option V) (q : Addr), ρ[i]? = some s → σ[i]? = some v → ρ[j]? = some t → σ[j]? = some u → Owns s v q → Owns t u q → i = j

/-- a step: F the part that never changes, O what is owned -/
structure Ext (F H : Hp) (O : Addr → Prop) (F' H' : Hp) (O' : Addr → Prop) : Prop where
  sub : Same F F'
  newF : ∀ a, F a = none → F' a ≠ none → H a = none ∨ O a
  keep : ∀ a o, H a = some o → ¬ O a → H' a = some o
  newO : ∀ a, O' a → H a = none ∨ O a

theorem Ext.refl {F H : Hp} {O : Addr → Prop} : Ext F H O F H O :=
  ⟨Same.refl _, fun a h h' => absurd h h', fun _ _ h _ => h, fun _ h => .inr h⟩
theorem Ext.trans {F H F1 H1 F2 H2 : Hp} {O O1 O2 : Addr → Prop} (a : Ext F H O F1 H1 O1) (b : Ext F1 H1 O1 F2 H2 O2) : Ext F H O F2 H2 O2 := by
  have back : ∀ p, (H1 p = none ∨ O1 p) → H p = none ∨ O p := fun p h => by
    rcases h with h | h
    · cases e : H p with
      | none => exact .inl rfl
      | some o =>
        by_cases ho : O p
        · exact .inr ho
        · rw [a.keep p o e ho] at h; cases h
    · exact a.newO p h
  refine ⟨a.sub.trans b.sub, fun p h h' => ?_, fun p o h ho => ?_, fun p h => back p (b.newO p h)⟩
  · by_cases e : F1 p = none
    · exact back p (b.newF p e h')
    · exact a.newF p h e
  · refine b.keep p o (a.keep p o h ho) fun h1 => ?_
    rcases a.newO p h1 with e | e
    · rw [h] at e; cases e
    · exact ho e
theorem Ext.weak {F H F1 H1 : Hp} {O P O1 P1 : Addr → Prop} (a : Ext F H O F1 H1 O1) (h : ∀ p, O p → P p) (h1 : ∀ p, P1 p → O1 p ∨ P p) : Ext F H P F1 H1 P1 :=
  ⟨a.sub, fun p q r => (a.newF p q r).imp_right (h p), fun p o q r => a.keep p o q fun z => r (h p z), fun p q => (h1 p q).elim (fun z => (a.newO p z).imp_right (h p)) .inr⟩
theorem Ext.fresh {F H F' H' : Hp} {O O' : Addr → Prop} (a : Ext F H O F' H' O') {p : Addr} (h : H' p = none) (hO : ¬ O p) : H p = none := by
  cases e : H p with
  | none => rfl
  | some o => rw [a.keep p o e hO] at h; cases h

theorem Owns.ref {s : Slot} {v : Option V} {q : Addr} (h : Owns s v q) : v = some (.ref q) := by
  cases s with
  | emp => cases h
  | val d => cases h
  | lst ds =>
    cases v with
    | none => cases h
    | some v => cases v <;> first | (exact False.elim h) | (have h' : q = _ := h; rw [h'])
  | dic ds =>
    cases v with
    | none => cases h
    | some v => cases v <;> first | (exact False.elim h) | (have h' : q = _ := h; rw [h'])
theorem Owns.none {s : Slot} {q : Addr} : ¬ Owns s none q := fun h => by
  have := h.ref; cases this
theorem SlotOk.own {K : Fr0} {F H : Hp} {s : Slot} {v : Option V} {q : Addr} (h : SlotOk K F H s v) (o : Owns s v q) : F q = none ∧ ∃ u, H q = some u := by
  have e := o.ref
  subst e
  cases s with
  | emp => cases o
  | val d => cases o
  | lst ds => obtain ⟨p, vs, e, h1, h2, _⟩ := h; cases e; exact ⟨h2, _, h1⟩
  | dic ds => obtain ⟨p, vs, e, h1, h2, _⟩ := h; cases e; exact ⟨h2, _, h1⟩
/-- a slot apart from what changes stays -/
theorem SlotOk.ext {K : Fr0} {F H F' H' : Hp} {O O' : Addr → Prop} {s : Slot} {v : Option V} (h : SlotOk K F H s v) (x : Ext F H O F' H' O') (dj : ∀ q, Owns s v q → ¬ O q) : SlotOk K F' H' s v := by
  cases s with
  | emp => trivial
  | val d => obtain ⟨y, e, r⟩ := h; exact ⟨y, e, Rep.mono x.sub _ _ r⟩
  | lst ds =>
    obtain ⟨p, vs, rfl, h1, h2, r⟩ := h
    have no : ¬ O p := dj p rfl
    refine ⟨p, vs, rfl, x.keep p _ h1 no, ?_, Reps.mono x.sub _ _ r⟩
    cases e : F' p with
    | none => rfl
    | some o =>
      rcases x.newF p h2 (by rw [e]; simp) with z | z
      · rw [h1] at z; cases z
      · exact absurd z no
  | dic ds =>
    obtain ⟨p, vs, rfl, h1, h2, r⟩ := h
    have no : ¬ O p := dj p rfl
    refine ⟨p, vs, rfl, x.keep p _ h1 no, ?_, RepK.mono x.sub _ _ r⟩
    cases e : F' p with
    | none => rfl
    | some o =>
      rcases x.newF p h2 (by rw [e]; simp) with z | z
      · rw [h1] at z; cases z
      · exact absurd z no
/-- .. and owns nothing of what is owned then -/
theorem Ext.apart {K : Fr0} {F H F' H' : Hp} {O O' : Addr → Prop} {s : Slot} {v : Option V} (x : Ext F H O F' H' O') (h : SlotOk K F H s v) (dj : ∀ q, Owns s v q → ¬ O q) : ∀ q, Owns s v q → ¬ O' q := fun q o z => by
  rcases x.newO q z with e | e
  · obtain ⟨_, u, hu⟩ := h.own o
    rw [hu] at e; cases e
  · exact dj q o e

section
variable {K : Fr0} {F H F' H' : Hp} {ρ : En} {σ : St} {i : Nat} {s : Slot} {v : Option V}
theorem Rp.ownF (R : Rp K F H ρ σ) {q : Addr} (o : OwnE ρ σ q) : F q = none ∧ ∃ u, H q = some u := by
  obtain ⟨i, s, v, h1, h2, h3⟩ := o
  exact (R.ok i s v h1 h2).own h3
theorem Rp.get (R : Rp K F H ρ σ) (h : ρ[i]? = some s) : ∃ v, σ[i]? = some v ∧ SlotOk K F H s v := by
  have hi : i < ρ.length := (List.getElem?_eq_some_iff.mp h).1
  have hl := R.len
  refine ⟨σ[i]'(by omega), by simp, R.ok i s _ h (by simp)⟩
theorem ownE_set {q : Addr} (h : OwnE (ρ.set i s) (σ.set i v) q) : Owns s v q ∨ OwnE ρ σ q := by
  obtain ⟨j, t, u, h1, h2, h3⟩ := h
  by_cases e : i = j
  · subst e
    by_cases hl : i < ρ.length
    · rw [List.getElem?_set_self hl] at h1; cases h1
      by_cases hl' : i < σ.length
      · rw [List.getElem?_set_self hl'] at h2; cases h2
        exact .inl h3
      · rw [List.getElem?_eq_none (by simpa using hl')] at h2; cases h2
    · rw [List.getElem?_eq_none (by simpa using hl)] at h1; cases h1
  · rw [List.getElem?_set_ne e] at h1 h2
    exact .inr ⟨j, t, u, h1, h2, h3⟩
theorem ownE_set_ne {q : Addr} (h : OwnE (ρ.set i s) (σ.set i v) q) : (i < ρ.length ∧ i < σ.length ∧ Owns s v q) ∨ ∃ (j : Nat) (t : Slot) (u : Option V), j ≠ i ∧ ρ[j]? = some t ∧ σ[j]? = some u ∧ Owns t u q := by
  obtain ⟨j, t, u, h1, h2, h3⟩ := h
  by_cases e : i = j
  · subst e
    by_cases hl : i < ρ.length
    · rw [List.getElem?_set_self hl] at h1; cases h1
      by_cases hl' : i < σ.length
      · rw [List.getElem?_set_self hl'] at h2; cases h2
        exact .inl ⟨hl, hl', h3⟩
      · rw [List.getElem?_eq_none (by simpa using hl')] at h2; cases h2
    · rw [List.getElem?_eq_none (by simpa using hl)] at h1; cases h1
  · rw [List.getElem?_set_ne e] at h1 h2
    exact .inr ⟨j, t, u, fun z => e z.symm, h1, h2, h3⟩
/-- a slot is written; the rest is as it was in F, H, now in F', H' -/
theorem Rp.set (R : Rp K F H ρ σ) (sub : Same F' H') (hs : SlotOk K F' H' s v)
    (rest : ∀ (j : Nat) (t : Slot) (u : Option V), j ≠ i → ρ[j]? = some t → σ[j]? = some u → SlotOk K F' H' t u) (dj : ∀ (q : Addr) (j : Nat) (t : Slot) (u : Option V), Owns s v q → j ≠ i → ρ[j]? = some t → σ[j]? = some u → ¬ Owns t u q) : Rp K F' H' (ρ.set i s) (σ.set i v) := by
  have at_i : ∀ {t u}, (ρ.set i s)[i]? = some t → (σ.set i v)[i]? = some u → t = s ∧ u = v := fun {t u} h1 h2 => by
    have l1 : i < ρ.length := by have := (List.getElem?_eq_some_iff.mp h1).1; simpa using this
    have l2 : i < σ.length := by have := (List.getElem?_eq_some_iff.mp h2).1; simpa using this
    rw [List.getElem?_set_self l1] at h1
    rw [List.getElem?_set_self l2] at h2
    cases h1; cases h2; exact ⟨rfl, rfl⟩
  refine ⟨by simp [R.len], sub, fun j t u h1 h2 => ?_, fun j k t t' u u' q h1 h2 h3 h4 o1 o2 => ?_⟩
  · by_cases e : i = j
    · subst e
      obtain ⟨rfl, rfl⟩ := at_i h1 h2
      exact hs
    · rw [List.getElem?_set_ne e] at h1 h2
      exact rest j t u (fun z => e z.symm) h1 h2
  · by_cases e : i = j
    · subst e
      obtain ⟨rfl, rfl⟩ := at_i h1 h2
      by_cases e' : i = k
      · exact e'
      · rw [List.getElem?_set_ne e'] at h3 h4
        exact absurd o2 (dj q k t' u' o1 (fun z => e' z.symm) h3 h4)
    · rw [List.getElem?_set_ne e] at h1 h2
      by_cases e' : i = k
      · subst e'
        obtain ⟨rfl, rfl⟩ := at_i h3 h4
        exact absurd o1 (dj q j t u o2 (fun z => e z.symm) h1 h2)
      · rw [List.getElem?_set_ne e'] at h3 h4
        exact R.dj j k t t' u u' q h1 h2 h3 h4 o1 o2
/-- the whole environment apart from what changes stays -/
theorem Rp.ext {O O' : Addr → Prop} (R : Rp K F H ρ σ) (x : Ext F H O F' H' O') (sub : Same F' H') (dj : ∀ q, OwnE ρ σ q → ¬ O q) : Rp K F' H' ρ σ :=
  ⟨R.len, sub, fun i s v h1 h2 => (R.ok i s v h1 h2).ext x fun q o => dj q ⟨i, s, v, h1, h2, o⟩, R.dj⟩
end
end SD

set_option Elab.async false
set_option linter.all false
set_option autoImplicit false
set_option maxRecDepth 100000
set_option maxHeartbeats 4000000
/-! SD, part B: what code does, as functions on environments; the judgements that tie them to the text. -/
namespace SD
open PySem PySem.Spec PyProof.Rows L2

/-- an exception: its class by name, the field of its own (where it has one) -/
structure Exc where
  cls : String
  arg : Option D
inductive Out (α : Type) where
  | ok (a : α) (ρ : En)
  | exc (x : Exc) (ρ : En)
  | bad
abbrev M (α : Type) := En → Out α
def Out.bind {α β : Type} (o : Out α) (k : α → M β) : Out β := match o with
  | .ok a ρ => k a ρ
  | .exc x ρ => .exc x ρ
  | .bad => .bad
/-- how a statement ends -/
inductive Fl where
  | next | brk | cont | ret (s : Slot)
/-- an argument: a name's slot, or an expression -/
inductive AE where
  | nm (i : Nat)
  | ex (f : M Slot)
inductive Arg where
  | nm (i : Nat)
  | sl (s : Slot)

def Slot.isSome : Slot → Bool
  | .emp => false
  | _ => true
def Slot.isCell : Slot → Bool
  | .lst _ => true
  | .dic _ => true
  | _ => false
/-- a slot's content as data -/
def Slot.data : Slot → Option D
  | .emp => none
  | .val d => some d
  | .lst ds => some (.list ds)
  | .dic kvs => some (.dict (qD kvs))
def En.at (ρ : En) (i : Nat) : Slot := (ρ[i]?).getD .emp
def evA : AE → M Arg
  | .nm i => fun ρ => if (En.at ρ i).isSome then .ok (.nm i) ρ else .bad
  | .ex f => fun ρ => (f ρ).bind fun s ρ' => .ok (.sl s) ρ'
def evAs : List AE → M (List Arg)
  | [] => fun ρ => .ok [] ρ
  | a :: as => fun ρ => (evA a ρ).bind fun g ρ1 => (evAs as ρ1).bind fun gs ρ2 => .ok (g :: gs) ρ2
def Arg.slot (ρ : En) : Arg → Slot
  | .nm i => En.at ρ i
  | .sl s => s
/-- the arguments' content, as they stand when all are reckoned -/
def argDs (ρ : En) : List Arg → Option (List D)
  | [] => some []
  | g :: gs => (g.slot ρ).data.bind fun d => (argDs ρ gs).bind fun ds => some (d :: ds)
/-- an operation on data -/
def mPrim (p : List D → Option Slot) (as : List AE) : M Slot := fun ρ => (evAs as ρ).bind fun gs ρ' =>
  match (argDs ρ' gs).bind p with
  | some s => .ok s ρ'
  | none => .bad
/-- a name as a value that stays: what it owns it owns no more -/
def mVar (i : Nat) : M Slot := fun ρ => match (En.at ρ i).data with
  | some d => .ok (.val d) (ρ.set i (.val d))
  | none => .bad
def mC (d : D) : M Slot := fun ρ => .ok (.val d) ρ
/-- the values of a row of expressions, that stay -/
def mVals : List (M Slot) → M (List D)
  | [] => fun ρ => .ok [] ρ
  | f :: fs => fun ρ => (f ρ).bind fun s ρ1 => match s.data with
    | some d => (mVals fs ρ1).bind fun ds ρ2 => .ok (d :: ds) ρ2
    | none => .bad
def lineOk (n : Nat) : Bool := decide (n ≤ 16777216)
def mTup (fs : List (M Slot)) : M Slot := fun ρ => (mVals fs ρ).bind fun ds ρ' => if lineOk ds.length then .ok (.val (.tuple ds)) ρ' else .bad
def mLst (fs : List (M Slot)) : M Slot := fun ρ => (mVals fs ρ).bind fun ds ρ' => if lineOk ds.length then .ok (.lst ds) ρ' else .bad

/-! ### what lies at a value -/
/-- data at a value now: a list or dict at the top may be one that changes -/
def RepT (K : Fr0) (F H : Hp) : D → V → Prop
  | .list ds, v => ∃ a vs, v = .ref a ∧ SqL K H a vs ∧ Reps K F ds vs
  | .dict kvs, v => ∃ a es, v = .ref a ∧ Rd H a (.dK es) ∧ RepK K F kvs es
  | d, v => Rep K F d v
theorem Rep.top {K : Fr0} {F H : Hp} (s : Same F H) {d : D} {v : V} (h : Rep K F d v) : RepT K F H d v := by
  cases d with
  | list ds => rw [rep_list] at h; obtain ⟨a, vs, e, q, r⟩ := h; exact ⟨a, vs, e, SqL.mono s q, r⟩
  | dict ds => rw [rep_dict] at h; obtain ⟨a, vs, e, q, r⟩ := h; exact ⟨a, vs, e, Rd.mono s q, r⟩
  | _ => exact h
theorem RepT.deep {K : Fr0} {F H : Hp} (s : Same F H) {d : D} {v : V} (h : RepT K F H d v) : Rep K H d v := by
  cases d with
  | list ds => obtain ⟨a, vs, e, q, r⟩ := h; rw [rep_list]; exact ⟨a, vs, e, q, Reps.mono s _ _ r⟩
  | dict ds => obtain ⟨a, vs, e, q, r⟩ := h; rw [rep_dict]; exact ⟨a, vs, e, q, RepK.mono s _ _ r⟩
  | none => exact Rep.mono s _ _ h
  | bool b => exact Rep.mono s _ _ h
  | int b => exact Rep.mono s _ _ h
  | str b => exact Rep.mono s _ _ h
  | tuple b => exact Rep.mono s _ _ h
theorem SlotOk.top {K : Fr0} {F H : Hp} (sub : Same F H) {s : Slot} {v : V} {d : D} (h : SlotOk K F H s (some v)) (e : s.data = some d) : RepT K F H d v := by
  cases s with
  | emp => cases e
  | val d' => cases e; obtain ⟨x, ex, r⟩ := h; cases ex; exact r.top sub
  | lst ds => cases e; obtain ⟨p, vs, ep, h1, _, r⟩ := h; cases ep; exact ⟨p, vs, rfl, SqL.of h1, r⟩
  | dic ds => cases e; obtain ⟨p, vs, ep, h1, _, r⟩ := h; cases ep; exact ⟨p, vs, rfl, .inl h1, r⟩

/-- a new value, all else as it was -/
structure Res1 (K : Fr0) (F H F' H' : Hp) (s : Slot) (v : V) : Prop where
  sub' : Same F' H'
  ok : SlotOk K F' H' s (some v)
  same : Same H H'
  sub : Same F F'
  newF : ∀ a, F a = none → F' a ≠ none → H a = none
  own : ∀ q, Owns s (some v) q → H q = none
theorem Res1.val {K : Fr0} {F H : Hp} {d : D} {v : V} (s : Same F H) (h : Rep K F d v) : Res1 K F H F H (.val d) v :=
  ⟨s, ⟨v, rfl, h⟩, Same.refl _, Same.refl _, fun a e e' => absurd e e', fun _ o => o.elim⟩
theorem same_upd {H : Hp} {p : Addr} {o : HO} (h : H p = none) : Same H (upd H p o) := fun b u e => by
  rw [upd_ne (ne_of_none e h)]; exact e
theorem Res1.lst {K : Fr0} {F H : Hp} {ds : List D} {vs : List V} {p : Addr} (s : Same F H) (h : Reps K F ds vs) (n : H p = none) : Res1 K F H F (upd H p (.lst vs)) (.lst ds) (.ref p) :=
  ⟨s.trans (same_upd n), ⟨p, vs, rfl, upd_same, s.free n, h⟩, same_upd n, Same.refl _, fun a e e' => absurd e e', fun q o => by cases (show q = p from o); exact n⟩
theorem Res1.dic {K : Fr0} {F H : Hp} {ds : List (Key × D)} {vs : List (Key × V)} {p : Addr} (s : Same F H) (h : RepK K F (qD ds) vs) (n : H p = none) : Res1 K F H F (upd H p (.dK vs)) (.dic ds) (.ref p) :=
  ⟨s.trans (same_upd n), ⟨p, vs, rfl, upd_same, s.free n, h⟩, same_upd n, Same.refl _, fun a e e' => absurd e e', fun q o => by cases (show q = p from o); exact n⟩
theorem same_upd2 {F H : Hp} {p : Addr} {o : HO} (s : Same F H) (h : H p = none) : Same (upd F p o) (upd H p o) := fun b u e => by
  by_cases hb : b = p
  · subst hb; rw [upd_same] at e ⊢; exact e
  · rw [upd_ne hb] at e ⊢; exact s b u e
theorem Res1.tup {K : Fr0} {F H : Hp} {ds : List D} {vs : List V} {p : Addr} (s : Same F H) (h : Reps K F ds vs) (n : H p = none) : Res1 K F H (upd F p (.tup vs)) (upd H p (.tup vs)) (.val (.tuple ds)) (.ref p) := by
  have sF := same_upd (o := .tup vs) (s.free n)
  refine ⟨same_upd2 s n, ⟨.ref p, rfl, ?_⟩, same_upd n, sF, fun a e e' => ?_, fun _ o => o.elim⟩
  · rw [rep_tuple]; exact ⟨p, vs, rfl, SqT.of upd_same, Reps.mono sF _ _ h⟩
  · by_cases ha : a = p
    · subst ha; exact n
    · rw [upd_ne ha] at e'; exact absurd e e'

/-! ### behind an expression -/
def ArgOk (K : Fr0) (F H : Hp) (ρ : En) (σ : St) : Arg → V → Prop
  | .nm i, v => σ[i]? = some (some v)
  | .sl s, v => SlotOk K F H s (some v) ∧ ∀ q, Owns s (some v) q → ¬ OwnE ρ σ q
def OwnsG : Arg → V → Addr → Prop
  | .nm _, _, _ => False
  | .sl s, v, q => Owns s (some v) q
def OwnsL : List Arg → List V → Addr → Prop
  | g :: gs, v :: vs, q => OwnsG g v q ∨ OwnsL gs vs q
  | _, _, _ => False
structure Post (K : Fr0) (F H : Hp) (ρ : En) (σ : St) (F' H' : Hp) (ρ' : En) (g : Arg) (v : V) : Prop where
  rp : Rp K F' H' ρ' σ
  ok : ArgOk K F' H' ρ' σ g v
  ext : Ext F H (OwnE ρ σ) F' H' (fun q => OwnsG g v q ∨ OwnE ρ' σ q)
def ArgsOk (K : Fr0) (F H : Hp) (ρ : En) (σ : St) : List Arg → List V → Prop
  | [], [] => True
  | g :: gs, v :: vs => ArgOk K F H ρ σ g v ∧ (∀ q, OwnsG g v q → ¬ OwnsL gs vs q) ∧ ArgsOk K F H ρ σ gs vs
  | _, _ => False
structure PostL (K : Fr0) (F H : Hp) (ρ : En) (σ : St) (F' H' : Hp) (ρ' : En) (gs : List Arg) (vs : List V) : Prop where
  rp : Rp K F' H' ρ' σ
  ok : ArgsOk K F' H' ρ' σ gs vs
  ext : Ext F H (OwnE ρ σ) F' H' (fun q => OwnsL gs vs q ∨ OwnE ρ' σ q)

def Out.sat {α : Type} (o : Out α) (k : α → En → Prop) (x : Exc → En → Prop) : Prop := match o with
  | .ok a ρ => k a ρ
  | .exc e ρ => x e ρ
  | .bad => False
theorem Out.sat_bind {α β : Type} {o : Out α} {f : α → M β} {k : β → En → Prop} {x : Exc → En → Prop} : (o.bind f).sat k x ↔ o.sat (fun a ρ => (f a ρ).sat k x) x := by
  cases o <;> exact Iff.rfl
theorem Out.sat_mono {α : Type} {o : Out α} {k k' : α → En → Prop} {x x' : Exc → En → Prop} (h : o.sat k x) (hk : ∀ a ρ, o = .ok a ρ → k a ρ → k' a ρ) (hx : ∀ a ρ, x a ρ → x' a ρ) : o.sat k' x' := by
  cases o with
  | ok a ρ => exact hk _ _ rfl h
  | exc e ρ => exact hx _ _ h
  | bad => exact h

/-- the exception classes: name, the class, its field's name -/
abbrev ExI := String → Option (Value × Option Str)
def XR (I : ExI) (K : Fr0) (x : Exc) (cls : Value) (d : Option Addr) (F H : Hp) : Prop :=
  ∃ fld, I x.cls = some (cls, fld) ∧ match x.arg with
    | none => True
    | some a => ∃ dd nm v, fld = some nm ∧ d = some dd ∧ H dd = some (.xd [(nm, v)]) ∧ Rep K F a v
def XC (X : Cx) (W : WX) (I : ExI) (F H : Hp) (O : Addr → Prop) (σ : St) (x : Exc) (ρ' : En) : Prop :=
  ∀ F' H' cls d, XR I X.K x cls d F' H' → Rp X.K F' H' ρ' σ → Ext F H O F' H' (OwnE ρ' σ) → W cls d σ H'

section
variable {X : Cx} {W : WX} {I : ExI}
/-- an argument -/
structure CA (X : Cx) (W : WX) (I : ExI) (a : AE) (e : Expr) : Prop where
  run : ∃ t, PE X e t ∧ ∀ (F H : Hp) (ρ : En) (σ : St) (Q : VK), Rp X.K F H ρ σ →
    (evA a ρ).sat (fun g ρ' => ∀ F' H' v, Post X.K F H ρ σ F' H' ρ' g v → Q v H') (XC X W I F H (OwnE ρ σ) σ) → t σ H Q
/-- an expression -/
abbrev CE (X : Cx) (W : WX) (I : ExI) (f : M Slot) (e : Expr) : Prop := CA X W I (.ex f) e
theorem ce_mk {f : M Slot} {e : Expr} {t : TE} (h : PE X e t) (q : ∀ (F H : Hp) (ρ : En) (σ : St) (Q : VK), Rp X.K F H ρ σ →
    (f ρ).sat (fun s ρ' => ∀ F' H' v, Post X.K F H ρ σ F' H' ρ' (.sl s) v → Q v H') (XC X W I F H (OwnE ρ σ) σ) → t σ H Q) : CE X W I f e :=
  ⟨t, h, fun F H ρ σ Q R z => q F H ρ σ Q R (by
    have z' : ((f ρ).bind fun s ρ' => Out.ok (Arg.sl s) ρ').sat _ _ := z
    rw [Out.sat_bind] at z'
    exact z')⟩
theorem CA.of {f : M Slot} {e : Expr} (h : CE X W I f e) : ∃ t, PE X e t ∧ ∀ (F H : Hp) (ρ : En) (σ : St) (Q : VK), Rp X.K F H ρ σ →
    (f ρ).sat (fun s ρ' => ∀ F' H' v, Post X.K F H ρ σ F' H' ρ' (.sl s) v → Q v H') (XC X W I F H (OwnE ρ σ) σ) → t σ H Q := by
  obtain ⟨t, h1, h2⟩ := h.run
  refine ⟨t, h1, fun F H ρ σ Q R z => h2 F H ρ σ Q R ?_⟩
  show ((f ρ).bind fun s ρ' => Out.ok (Arg.sl s) ρ').sat _ _
  rw [Out.sat_bind]
  exact z
theorem En.at_some {ρ : En} {i : Nat} (h : (En.at ρ i).isSome = true) : ρ[i]? = some (En.at ρ i) := by
  unfold En.at at h ⊢
  cases e : ρ[i]? with
  | none => rw [e] at h; cases h
  | some s => rfl
theorem slot_some {K : Fr0} {F H : Hp} {s : Slot} {v : Option V} (h : SlotOk K F H s v) (e : s.isSome = true) : ∃ x, v = some x := by
  cases s with
  | emp => cases e
  | val d => obtain ⟨x, e, _⟩ := h; exact ⟨x, e⟩
  | lst d => obtain ⟨p, _, e, _⟩ := h; exact ⟨_, e⟩
  | dic d => obtain ⟨p, _, e, _⟩ := h; exact ⟨_, e⟩
/-- a name as an argument -/
theorem ca_nm {i : Nat} {e : Expr} (h : PE X e (tVar i)) : CA X W I (.nm i) e := by
  refine ⟨tVar i, h, fun F H ρ σ Q R z => ?_⟩
  have z' : (if (En.at ρ i).isSome = true then Out.ok (Arg.nm i) ρ else Out.bad).sat _ _ := z
  by_cases hs : (En.at ρ i).isSome = true
  · rw [if_pos hs] at z'
    obtain ⟨v, e1, ok⟩ := R.get (En.at_some hs)
    obtain ⟨x, rfl⟩ := slot_some ok hs
    exact ⟨x, e1, z' F H x ⟨R, e1, Ext.refl.weak (fun _ h => h) fun q h => .inr (h.elim (fun z => z.elim) id)⟩⟩
  · rw [if_neg hs] at z'
    exact z'.elim
theorem XC.step {F H F1 H1 : Hp} {O O1 P : Addr → Prop} {σ : St} {x : Exc} {ρ' : En} (z : XC X W I F H O σ x ρ') (e : Ext F H O F1 H1 P) (hP : ∀ q, O1 q → P q) : XC X W I F1 H1 O1 σ x ρ' :=
  fun F' H' cls d r R e' => z F' H' cls d r R (e.trans (e'.weak hP fun _ q => .inl q))

theorem ArgOk.ext {K : Fr0} {F H F' H' : Hp} {ρ ρ' : En} {σ : St} {g : Arg} {v : V} {O' : Addr → Prop} (h : ArgOk K F H ρ σ g v) (x : Ext F H (OwnE ρ σ) F' H' O') (hO : ∀ q, OwnE ρ' σ q → O' q) : ArgOk K F' H' ρ' σ g v := by
  cases g with
  | nm i => exact h
  | sl s =>
    obtain ⟨h1, h2⟩ := h
    exact ⟨h1.ext x h2, fun q o z => x.apart h1 h2 q o (hO q z)⟩
end
end SD

set_option Elab.async false
set_option linter.all false
set_option autoImplicit false
set_option maxRecDepth 100000
set_option maxHeartbeats 4000000
/-! SD, part C: how arguments and operations on data are put together. -/
namespace SD
open PySem PySem.Spec PyProof.Rows L2

section
variable {X : Cx} {W : WX} {I : ExI}
theorem Post.cons {K : Fr0} {F H F1 H1 F2 H2 : Hp} {ρ ρ1 ρ2 : En} {σ : St} {g : Arg} {v : V} {gs : List Arg} {vs : List V} (a : Post K F H ρ σ F1 H1 ρ1 g v) (b : PostL K F1 H1 ρ1 σ F2 H2 ρ2 gs vs) :
    PostL K F H ρ σ F2 H2 ρ2 (g :: gs) (v :: vs) := by
  have dj : ∀ q, OwnsG g v q → ¬ (OwnsL gs vs q ∨ OwnE ρ2 σ q) := by
    cases g with
    | nm i => exact fun q z => z.elim
    | sl s => exact fun q z => b.ext.apart a.ok.1 a.ok.2 q z
  refine ⟨b.rp, ⟨a.ok.ext b.ext fun q h => .inr h, fun q z z' => dj q z (.inl z'), b.ok⟩, a.ext.trans (b.ext.weak (fun q h => .inr h) fun q h => ?_)⟩
  rcases h with (h | h) | h
  · exact .inr (.inl h)
  · exact .inl (.inl h)
  · exact .inl (.inr h)
theorem PostL.nil {K : Fr0} {F H : Hp} {ρ : En} {σ : St} (R : Rp K F H ρ σ) : PostL K F H ρ σ F H ρ [] [] :=
  ⟨R, trivial, Ext.refl.weak (fun _ h => h) fun q h => h.elim (fun z => z.elim) .inr⟩
/-- arguments, from the left -/
structure CAs (X : Cx) (W : WX) (I : ExI) (as : List AE) (es : List Expr) : Prop where
  run : ∃ t, PA X es t ∧ ∀ (F H : Hp) (ρ : En) (σ : St) (Q : List V → Hp → Prop), Rp X.K F H ρ σ →
    (evAs as ρ).sat (fun gs ρ' => ∀ F' H' vs, PostL X.K F H ρ σ F' H' ρ' gs vs → Q vs H') (XC X W I F H (OwnE ρ σ) σ) → t σ H Q
theorem cas_nil : CAs X W I [] [] := ⟨tNil, pa_nil, fun F H ρ σ Q R z => z F H [] (PostL.nil R)⟩
theorem cas_cons {a : AE} {as : List AE} {e : Expr} {es : List Expr} (h : CA X W I a e) (hr : CAs X W I as es)
    (hs : starEach (e :: es) X.env = (false, eval e X.env) :: starEach es X.env := by rfl) : CAs X W I (a :: as) (e :: es) := by
  obtain ⟨ta, h1, q1⟩ := h.run
  obtain ⟨tr, h2, q2⟩ := hr.run
  refine ⟨tCons ta tr, pa_cons h1 h2 hs, fun F H ρ σ Q R z => ?_⟩
  have z' : ((evA a ρ).bind fun g ρ1 => (evAs as ρ1).bind fun gs ρ2 => Out.ok (g :: gs) ρ2).sat _ _ := z
  rw [Out.sat_bind] at z'
  refine q1 F H ρ σ _ R (Out.sat_mono z' (fun g ρ1 _ y F1 H1 v P => ?_) fun _ _ y => y)
  rw [Out.sat_bind] at y
  refine q2 F1 H1 ρ1 σ _ P.rp (Out.sat_mono y (fun gs ρ2 _ y2 F2 H2 vs P2 => y2 F2 H2 _ (P.cons P2)) fun x ρ' y2 => XC.step y2 P.ext fun q h => .inr h)
theorem two_args {a b : AE} {ea eb : Expr} (ha : CA X W I a ea) (hb : CA X W I b eb) : ∃ ta tb, PE X ea ta ∧ PE X eb tb ∧ ∀ (F H : Hp) (ρ : En) (σ : St) (R : V → V → Hp → Prop), Rp X.K F H ρ σ →
    (evAs [a, b] ρ).sat (fun gs ρ' => ∀ F' H' x y, PostL X.K F H ρ σ F' H' ρ' gs [x, y] → R x y H') (XC X W I F H (OwnE ρ σ) σ) → ta σ H fun x H1 => tb σ H1 fun y H2 => R x y H2 := by
  obtain ⟨ta, h1, q1⟩ := ha.run
  obtain ⟨tb, h2, q2⟩ := hb.run
  refine ⟨ta, tb, h1, h2, fun F H ρ σ Q R z => ?_⟩
  have z' : ((evA a ρ).bind fun g ρ1 => ((evA b ρ1).bind fun g2 ρ2 => Out.ok [g2] ρ2).bind fun gs ρ2 => Out.ok (g :: gs) ρ2).sat _ _ := z
  rw [Out.sat_bind] at z'
  refine q1 F H ρ σ _ R (Out.sat_mono z' (fun g ρ1 _ y F1 H1 v P => ?_) fun _ _ y => y)
  rw [Out.sat_bind, Out.sat_bind] at y
  exact q2 F1 H1 ρ1 σ _ P.rp (Out.sat_mono y (fun g2 ρ2 _ y2 F2 H2 v2 P2 => y2 F2 H2 _ _ (P.cons (P2.cons (PostL.nil P2.rp)))) fun x ρ' y2 => XC.step y2 P.ext fun q h => .inr h)
theorem three_args {a b c : AE} {ea eb ec : Expr} (ha : CA X W I a ea) (hb : CA X W I b eb) (hc : CA X W I c ec) : ∃ ta tb tc, PE X ea ta ∧ PE X eb tb ∧ PE X ec tc ∧ ∀ (F H : Hp) (ρ : En) (σ : St) (R : V → V → V → Hp → Prop), Rp X.K F H ρ σ →
    (evAs [a, b, c] ρ).sat (fun gs ρ' => ∀ F' H' x y z, PostL X.K F H ρ σ F' H' ρ' gs [x, y, z] → R x y z H') (XC X W I F H (OwnE ρ σ) σ) → ta σ H fun x H1 => tb σ H1 fun y H2 => tc σ H2 fun z H3 => R x y z H3 := by
  obtain ⟨ta, h1, q1⟩ := ha.run
  obtain ⟨tb, tc, h2, h3, q2⟩ := two_args hb hc
  refine ⟨ta, tb, tc, h1, h2, h3, fun F H ρ σ Q R z => ?_⟩
  have z' : ((evA a ρ).bind fun g ρ1 => (evAs [b, c] ρ1).bind fun gs ρ2 => Out.ok (g :: gs) ρ2).sat _ _ := z
  rw [Out.sat_bind] at z'
  refine q1 F H ρ σ _ R (Out.sat_mono z' (fun g ρ1 _ y F1 H1 v P => ?_) fun _ _ y => y)
  rw [Out.sat_bind] at y
  exact q2 F1 H1 ρ1 σ _ P.rp (Out.sat_mono y (fun gs ρ2 _ y2 F2 H2 v2 v3 P2 => y2 F2 H2 _ _ _ (P.cons P2)) fun x ρ' y2 => XC.step y2 P.ext fun q h => .inr h)

/-! ### operations on data -/
def RepTs (K : Fr0) (F H : Hp) : List D → List V → Prop
  | [], [] => True
  | d :: ds, v :: vs => RepT K F H d v ∧ RepTs K F H ds vs
  | _, _ => False
theorem arg_top {K : Fr0} {F H : Hp} {ρ : En} {σ : St} {g : Arg} {v : V} {d : D} (R : Rp K F H ρ σ) (h : ArgOk K F H ρ σ g v) (e : (g.slot ρ).data = some d) : RepT K F H d v := by
  cases g with
  | nm i =>
    have hs : (En.at ρ i).isSome = true := by
      have e' : (En.at ρ i).data = some d := e
      cases q : En.at ρ i with
      | emp => rw [q] at e'; cases e'
      | val _ => rfl
      | lst _ => rfl
      | dic _ => rfl
    exact (R.ok i _ _ (En.at_some hs) h).top R.sub e
  | sl s => exact h.1.top R.sub e
theorem args_top {K : Fr0} {F H : Hp} {ρ : En} {σ : St} (R : Rp K F H ρ σ) : ∀ {gs : List Arg} {vs : List V} {ds : List D}, ArgsOk K F H ρ σ gs vs → argDs ρ gs = some ds → RepTs K F H ds vs
  | [], [], ds, _, e => by cases e; trivial
  | [], _ :: _, _, h, _ => h.elim
  | _ :: _, [], _, h, _ => h.elim
  | g :: gs, v :: vs, ds, h, e => by
    have e' : ((g.slot ρ).data.bind fun d => (argDs ρ gs).bind fun ds => some (d :: ds)) = some ds := e
    cases q : (g.slot ρ).data with
    | none => rw [q] at e'; cases e'
    | some d =>
      cases q2 : argDs ρ gs with
      | none => rw [q, q2] at e'; cases e'
      | some ds' =>
        rw [q, q2] at e'
        cases e'
        exact ⟨arg_top R h.1 q, args_top R h.2.2 q2⟩
theorem prim_post {K : Fr0} {F H F1 H1 F2 H2 : Hp} {ρ ρ1 : En} {σ : St} {gs : List Arg} {vs : List V} {s : Slot} {v : V} (P : PostL K F H ρ σ F1 H1 ρ1 gs vs) (r : Res1 K F1 H1 F2 H2 s v) : Post K F H ρ σ F2 H2 ρ1 (.sl s) v := by
  have x : Ext F1 H1 (fun _ => False) F2 H2 (Owns s (some v)) := ⟨r.sub, fun a h h' => .inl (r.newF a h h'), fun a o h _ => r.same a o h, fun a h => .inl (r.own a h)⟩
  refine ⟨P.rp.ext x r.sub' fun _ _ z => z, ⟨r.ok, fun q o z => ?_⟩, P.ext.trans (x.weak (fun _ z => z.elim) fun q h => ?_)⟩
  · obtain ⟨_, u, e⟩ := P.rp.ownF z
    rw [r.own q o] at e; cases e
  · rcases h with h | h
    · exact .inl h
    · exact .inr (.inr h)
/-- the reading of an operation on data, by values -/
def rP (K : Fr0) (p : List D → Option Slot) : List V → Hp → VK → Prop := fun vs H Q => ∃ F ds s, Same F H ∧ RepTs K F H ds vs ∧ p ds = some s ∧ ∀ F' H' v, Res1 K F H F' H' s v → Q v H'
theorem prim_sat' {p : List D → Option Slot} {as : List AE} {ρ : En} {F H : Hp} {σ : St} {Q : VK} {N : Exc → En → Prop}
    (z : (mPrim p as ρ).sat (fun s ρ' => ∀ F' H' v, Post X.K F H ρ σ F' H' ρ' (.sl s) v → Q v H') N) :
    (evAs as ρ).sat (fun gs ρ' => ∀ F' H' vs, PostL X.K F H ρ σ F' H' ρ' gs vs → rP X.K p vs H' Q) N := by
  unfold mPrim at z
  rw [Out.sat_bind] at z
  refine Out.sat_mono z (fun gs ρ' _ y F' H' vs P => ?_) fun _ _ y => y
  cases e : argDs ρ' gs with
  | none => rw [e] at y; exact y.elim
  | some ds =>
    rw [e] at y
    cases e2 : p ds with
    | none => simp only [Option.bind, e2] at y; exact y.elim
    | some s =>
      simp only [Option.bind, e2] at y
      exact ⟨F', ds, s, P.rp.sub, args_top P.rp P.ok e, e2, fun F2 H2 v r => y F2 H2 v (prim_post P r)⟩

variable {a b c : AE} {as : List AE} {e ea eb ec : Expr} {es : List Expr} {p : List D → Option Slot} {pos : Pos}
theorem ce_bin {op : Operator} (ho : OpR X (binaryOp op) (fun x y => rP X.K p [x, y])) (ha : CA X W I a ea) (hb : CA X W I b eb) : CE X W I (mPrim p [a, b]) (.BinOp ea op eb pos) := by
  obtain ⟨ta, tb, h1, h2, q⟩ := two_args ha hb
  exact ce_mk (pe_op ho h1 h2) fun F H ρ σ Q R z => q F H ρ σ _ R (Out.sat_mono (prim_sat' z) (fun gs ρ' _ y F' H' x y' P => y F' H' _ P) fun _ _ y => y)
theorem ce_un {op : UnaryOp} (ho : UnR X (unaryOp op) (fun x => rP X.K p [x])) (ha : CA X W I a ea) : CE X W I (mPrim p [a]) (.UnaryOp op ea pos) := by
  obtain ⟨ta, h1, q1⟩ := ha.run
  refine ce_mk (pe_un ho h1) fun F H ρ σ Q R z => q1 F H ρ σ _ R ?_
  have z' := prim_sat' z
  have z2 : ((evA a ρ).bind fun g ρ1 => (Out.ok [] ρ1 : Out (List Arg)).bind fun gs ρ2 => Out.ok (g :: gs) ρ2).sat _ _ := z'
  rw [Out.sat_bind] at z2
  exact Out.sat_mono z2 (fun g ρ' _ y F' H' v P => y F' H' [v] (P.cons (PostL.nil P.rp))) fun _ _ y => y
theorem ce_cmp {op : CmpOp} (ho : OpR X (compareOp op) (fun x y => rP X.K p [x, y])) (ha : CA X W I a ea) (hb : CA X W I b eb) (hm : behindInMarks op eb = false) : CE X W I (mPrim p [a, b]) (.Compare ea [op] [eb] pos) := by
  obtain ⟨ta, tb, h1, h2, q⟩ := two_args ha hb
  exact ce_mk (pe_cmpR ho h1 h2 hm) fun F H ρ σ Q R z => q F H ρ σ _ R (Out.sat_mono (prim_sat' z) (fun gs ρ' _ y F' H' x y' P => y F' H' _ P) fun _ _ y => y)
theorem ce_ix (ho : IxR X (fun x y => rP X.K p [x, y])) (ha : CA X W I a ea) (hb : CA X W I b eb) (hs : PlainIx eb) : CE X W I (mPrim p [a, b]) (.Subscript ea eb pos) := by
  obtain ⟨ta, tb, h1, h2, q⟩ := two_args ha hb
  exact ce_mk (pe_ix ho h1 h2 hs) fun F H ρ σ Q R z => q F H ρ σ _ R (Out.sat_mono (prim_sat' z) (fun gs ρ' _ y F' H' x y' P => y F' H' _ P) fun _ _ y => y)
end
end SD

set_option Elab.async false
set_option linter.all false
set_option autoImplicit false
set_option maxRecDepth 100000
set_option maxHeartbeats 4000000
/-! SD, part D: values that stay, displays, calls of defs of the text. -/
namespace SD
open PySem PySem.Spec PyProof.Rows L2

/-! ### what is owned is let go: it never changes from here on -/
theorem freeze {K : Fr0} {F H F1 H1 : Hp} {ρ ρ1 : En} {σ : St} {s : Slot} {v : V} {d : D} (P : Post K F H ρ σ F1 H1 ρ1 (.sl s) v) (e : s.data = some d) :
    ∃ F2, Same F1 F2 ∧ Rep K F2 d v ∧ Rp K F2 H1 ρ1 σ ∧ Ext F H (OwnE ρ σ) F2 H1 (OwnE ρ1 σ) := by
  have go : ∀ (p : Addr) (o : HO), H1 p = some o → F1 p = none → (∀ q, q = p → ¬ OwnE ρ1 σ q) → Owns s (some v) p → (∀ F2, Same F1 F2 → F2 p = some o → Rep K F2 d v) →
      ∃ F2, Same F1 F2 ∧ Rep K F2 d v ∧ Rp K F2 H1 ρ1 σ ∧ Ext F H (OwnE ρ σ) F2 H1 (OwnE ρ1 σ) := fun p o h1 h2 h3 h4 h5 => by
    have sub := same_upd (H := F1) (p := p) (o := o) h2
    have sub' : Same (upd F1 p o) H1 := fun b u q => by
      by_cases hb : b = p
      · subst hb; rw [upd_same] at q; cases q; exact h1
      · rw [upd_ne hb] at q; exact P.rp.sub b u q
    have x : Ext F1 H1 (fun q => q = p) (upd F1 p o) H1 (fun _ => False) := ⟨sub, fun a e1 e2 => by
      by_cases ha : a = p
      · exact .inr ha
      · rw [upd_ne ha] at e2; exact absurd e1 e2, fun _ _ h _ => h, fun _ z => z.elim⟩
    refine ⟨upd F1 p o, sub, h5 _ sub upd_same, P.rp.ext x sub' fun q z z' => h3 q z' z, P.ext.trans (x.weak (fun q z => by subst z; exact .inl h4) fun q z => .inr (.inr z))⟩
  cases s with
  | emp => cases e
  | val d' =>
    cases e
    obtain ⟨⟨y, ey, r⟩, _⟩ := P.ok
    cases ey
    exact ⟨F1, Same.refl _, r, P.rp, P.ext.weak (fun _ h => h) fun q h => .inl (.inr h)⟩
  | lst ds =>
    cases e
    obtain ⟨⟨p, vs, ep, h1, h2, r⟩, h3⟩ := P.ok
    cases ep
    exact go p _ h1 h2 (fun q z => by subst z; exact h3 q rfl) rfl fun F2 s2 e2 => by rw [rep_list]; exact ⟨p, vs, rfl, SqL.of e2, Reps.mono s2 _ _ r⟩
  | dic ds =>
    cases e
    obtain ⟨⟨p, vs, ep, h1, h2, r⟩, h3⟩ := P.ok
    cases ep
    exact go p _ h1 h2 (fun q z => by subst z; exact h3 q rfl) rfl fun F2 s2 e2 => by rw [rep_dict]; exact ⟨p, vs, rfl, .inl e2, RepK.mono s2 _ _ r⟩

section
variable {X : Cx} {W : WX} {I : ExI}
/-- the slot of a name, let go -/
theorem var_freeze {K : Fr0} {F H : Hp} {ρ : En} {σ : St} {i : Nat} {d : D} (R : Rp K F H ρ σ) (e : (En.at ρ i).data = some d) :
    ∃ v F2, σ[i]? = some (some v) ∧ Post K F H ρ σ F2 H (ρ.set i (.val d)) (.sl (.val d)) v := by
  have hs : (En.at ρ i).isSome = true := by
    cases q : En.at ρ i with
    | emp => rw [q] at e; cases e
    | val _ => rfl
    | lst _ => rfl
    | dic _ => rfl
  have h0 := En.at_some hs
  obtain ⟨v, ev, ok⟩ := R.get h0
  obtain ⟨v, rfl⟩ := slot_some ok hs
  have eσ : σ.set i (some v) = σ := by
    refine List.ext_getElem? fun j => ?_
    by_cases hj : i = j
    · subst hj
      rw [List.getElem?_set_self (List.getElem?_eq_some_iff.mp ev).1, ev]
    · rw [List.getElem?_set_ne hj]
  have go : ∀ (p : Addr) (o : HO), H p = some o → F p = none → Owns (En.at ρ i) (some v) p → (∀ F2, Same F F2 → F2 p = some o → Rep K F2 d v) →
      ∃ v F2, σ[i]? = some (some v) ∧ Post K F H ρ σ F2 H (ρ.set i (.val d)) (.sl (.val d)) v := fun p o h1 h2 h4 h5 => by
    have sub := same_upd (H := F) (p := p) (o := o) h2
    have sub' : Same (upd F p o) H := fun b u q => by
      by_cases hb : b = p
      · subst hb; rw [upd_same] at q; cases q; exact h1
      · rw [upd_ne hb] at q; exact R.sub b u q
    have x : Ext F H (fun q => q = p) (upd F p o) H (fun _ => False) := ⟨sub, fun a e1 e2 => by
      by_cases ha : a = p
      · exact .inr ha
      · rw [upd_ne ha] at e2; exact absurd e1 e2, fun _ _ h _ => h, fun _ z => z.elim⟩
    have r := h5 _ sub upd_same
    have R2 : Rp K (upd F p o) H (ρ.set i (.val d)) (σ.set i (some v)) := R.set sub' ⟨v, rfl, r⟩ (fun j t u hj e1 e2 => (R.ok j t u e1 e2).ext x fun q oq z => by
      cases (show q = p from z)
      exact hj (R.dj j i t _ u _ p e1 e2 h0 ev oq h4)) fun q j t u z => z.elim
    rw [eσ] at R2
    refine ⟨v, upd F p o, ev, R2, ⟨⟨v, rfl, r⟩, fun _ z => z.elim⟩, x.weak (fun q z => by cases (show q = p from z); exact ⟨i, _, _, h0, ev, h4⟩) fun q z => ?_⟩
    rcases z with z | z
    · exact z.elim
    · rw [← eσ] at z
      rcases ownE_set z with y | y
      · exact y.elim
      · exact .inr y
  cases q : En.at ρ i with
  | emp => rw [q] at hs; cases hs
  | val d' =>
    rw [q] at e ok h0
    cases e
    obtain ⟨y, ey, r⟩ := ok
    cases ey
    have eρ : ρ.set i (.val d) = ρ := by
      refine List.ext_getElem? fun j => ?_
      by_cases hj : i = j
      · subst hj
        rw [List.getElem?_set_self (List.getElem?_eq_some_iff.mp h0).1, h0]
      · rw [List.getElem?_set_ne hj]
    rw [eρ]
    exact ⟨v, F, ev, R, ⟨⟨v, rfl, r⟩, fun _ z => z.elim⟩, Ext.refl.weak (fun _ h => h) fun q h => .inr (h.elim (fun z => z.elim) id)⟩
  | lst ds =>
    rw [q] at e ok
    cases e
    obtain ⟨p, vs, ep, h1, h2, r⟩ := ok
    cases ep
    exact go p _ h1 h2 (by rw [q]; exact rfl) fun F2 s2 e2 => by rw [rep_list]; exact ⟨p, vs, rfl, SqL.of e2, Reps.mono s2 _ _ r⟩
  | dic ds =>
    rw [q] at e ok
    cases e
    obtain ⟨p, vs, ep, h1, h2, r⟩ := ok
    cases ep
    exact go p _ h1 h2 (by rw [q]; exact rfl) fun F2 s2 e2 => by rw [rep_dict]; exact ⟨p, vs, rfl, .inl e2, RepK.mono s2 _ _ r⟩
theorem ce_var {i : Nat} {e : Expr} (h : PE X e (tVar i)) : CE X W I (mVar i) e := by
  refine ce_mk h fun F H ρ σ Q R z => ?_
  unfold mVar at z
  cases q : (En.at ρ i).data with
  | none => rw [q] at z; exact z.elim
  | some d =>
    rw [q] at z
    obtain ⟨v, F2, ev, P⟩ := var_freeze R q
    exact ⟨v, ev, z F2 H v P⟩
theorem post_val {K : Fr0} {F H : Hp} {ρ : En} {σ : St} {d : D} {v : V} (R : Rp K F H ρ σ) (r : Rep K F d v) : Post K F H ρ σ F H ρ (.sl (.val d)) v :=
  ⟨R, ⟨⟨v, rfl, r⟩, fun _ z => z.elim⟩, Ext.refl.weak (fun _ h => h) fun q h => .inr (h.elim (fun z => z.elim) id)⟩
/-- a value that hangs on nothing -/
theorem ce_const {d : D} {v : V} {e : Expr} (h : PE X e (tC v)) (r : ∀ F, Rep X.K F d v) : CE X W I (mC d) e :=
  ce_mk h fun F H ρ σ Q R z => z F H v (post_val R (r F))
theorem ce_int {i : Int} {j pos} : CE X W I (mC (.int i)) (.Constant (.int i) j pos) := ce_const pe_int fun F => by rw [rep_int]
theorem ce_bool {i : Bool} {j pos} : CE X W I (mC (.bool i)) (.Constant (.bool i) j pos) := ce_const pe_bl fun F => by rw [rep_bool]
theorem ce_none {j pos} : CE X W I (mC .none) (.Constant .none j pos) := ce_const pe_non fun F => by rw [rep_none]
theorem ce_str {x : Str} {j pos} : CE X W I (mC (.str x)) (.Constant (.str x) j pos) := ce_const pe_str fun F => by rw [rep_str]

/-- values that stay -/
structure CVs (X : Cx) (W : WX) (I : ExI) (fs : List (M Slot)) (es : List Expr) : Prop where
  run : ∃ t, PA X es t ∧ ∀ (F H : Hp) (ρ : En) (σ : St) (Q : List V → Hp → Prop), Rp X.K F H ρ σ →
    (mVals fs ρ).sat (fun ds ρ' => ∀ F' H' vs, Rp X.K F' H' ρ' σ → Reps X.K F' ds vs → Ext F H (OwnE ρ σ) F' H' (OwnE ρ' σ) → Q vs H') (XC X W I F H (OwnE ρ σ) σ) → t σ H Q
theorem cvs_nil : CVs X W I [] [] := ⟨tNil, pa_nil, fun F H ρ σ Q R z => z F H [] R (by rw [reps_nil]) Ext.refl⟩
theorem cvs_cons {f : M Slot} {fs : List (M Slot)} {e : Expr} {es : List Expr} (h : CE X W I f e) (hr : CVs X W I fs es)
    (hs : starEach (e :: es) X.env = (false, eval e X.env) :: starEach es X.env := by rfl) : CVs X W I (f :: fs) (e :: es) := by
  obtain ⟨ta, h1, q1⟩ := h.of
  obtain ⟨tr, h2, q2⟩ := hr.run
  refine ⟨tCons ta tr, pa_cons h1 h2 hs, fun F H ρ σ Q R z => ?_⟩
  have z' : ((f ρ).bind fun s ρ1 => (match s.data with
    | some d => (mVals fs ρ1).bind fun ds ρ2 => Out.ok (d :: ds) ρ2
    | none => .bad : Out (List D))).sat _ _ := z
  rw [Out.sat_bind] at z'
  refine q1 F H ρ σ _ R (Out.sat_mono z' (fun s ρ1 _ y F1 H1 v P => ?_) fun _ _ y => y)
  cases e : s.data with
  | none => rw [e] at y; exact y.elim
  | some d =>
    rw [e] at y
    have y' : ((mVals fs ρ1).bind fun ds ρ2 => Out.ok (d :: ds) ρ2).sat _ _ := y
    rw [Out.sat_bind] at y'
    obtain ⟨F2, s2, r, R2, x⟩ := freeze P e
    refine q2 F2 H1 ρ1 σ _ R2 (Out.sat_mono y' (fun ds ρ2 _ y2 F3 H3 vs R3 r3 x3 => ?_) fun _ _ y2 => XC.step y2 x fun q h => h)
    exact y2 F3 H3 (v :: vs) R3 (by rw [reps_cons]; exact ⟨v, vs, rfl, Rep.mono x3.sub _ _ r, r3⟩) (x.trans x3)
theorem lineOk_line {n : Nat} (h : lineOk n = true) : n ≤ sizeLine := by
  have h' := of_decide_eq_true h
  rw [sizeLine_eq]; exact h'
theorem post_new {K : Fr0} {F H F1 H1 F2 H2 : Hp} {ρ ρ1 : En} {σ : St} {s : Slot} {v : V} (R : Rp K F1 H1 ρ1 σ) (x : Ext F H (OwnE ρ σ) F1 H1 (OwnE ρ1 σ)) (r : Res1 K F1 H1 F2 H2 s v) : Post K F H ρ σ F2 H2 ρ1 (.sl s) v :=
  prim_post (gs := []) (vs := []) ⟨R, trivial, x.weak (fun _ h => h) fun q h => .inl (h.elim (fun z => z.elim) id)⟩ r
theorem ce_tup {fs : List (M Slot)} {es : List Expr} {k : Nat} {pos : Pos} (h : CVs X W I fs es) : CE X W I (mTup fs) (.Tuple es k pos) := by
  obtain ⟨t, h1, q⟩ := h.run
  refine ce_mk (pe_tup h1) fun F H ρ σ Q R z => ?_
  unfold mTup at z
  rw [Out.sat_bind] at z
  refine q F H ρ σ _ R (Out.sat_mono z (fun ds ρ' _ y F' H' vs R' r x => ?_) fun _ _ y => y)
  split at y
  · rename_i hl
    refine ⟨by rw [← r.length]; exact lineOk_line hl, fun p np => y _ _ _ (post_new R' x (.tup R'.sub r np))⟩
  · exact y.elim
theorem ce_lst {fs : List (M Slot)} {es : List Expr} {pos : Pos} (h : CVs X W I fs es) : CE X W I (mLst fs) (.List es pos) := by
  obtain ⟨t, h1, q⟩ := h.run
  refine ce_mk (pe_lst h1) fun F H ρ σ Q R z => ?_
  unfold mLst at z
  rw [Out.sat_bind] at z
  refine q F H ρ σ _ R (Out.sat_mono z (fun ds ρ' _ y F' H' vs R' r x => ?_) fun _ _ y => y)
  split at y
  · rename_i hl
    refine ⟨by rw [← r.length]; exact lineOk_line hl, fun p np => y _ _ _ (post_new R' x (.lst R'.sub r np))⟩
  · exact y.elim
end

/-! ### calls -/
def takeArgs : List Arg → En → Option (En × En)
  | [], ρ => some ([], ρ)
  | .sl s :: gs, ρ => (takeArgs gs ρ).map fun r => (s :: r.1, r.2)
  | .nm i :: gs, ρ => if (En.at ρ i).isSome then (if (En.at ρ i).isCell then (takeArgs gs (ρ.set i .emp)).map fun r => (En.at ρ i :: r.1, r.2) else (takeArgs gs ρ).map fun r => (En.at ρ i :: r.1, r.2)) else none
def giveBack : List Arg → En → En → En → En
  | .nm i :: gs, s :: as, o :: os, ρ => giveBack gs as os (if s.isCell then ρ.set i o else ρ)
  | .sl _ :: gs, _ :: as, _ :: os, ρ => giveBack gs as os ρ
  | _, _, _, ρ => ρ
/-- a def called: f on the arguments' slots, and what it leaves there -/
def mCall (f : M Slot) (as : List AE) : M Slot := fun ρ => (evAs as ρ).bind fun gs ρ1 => match takeArgs gs ρ1 with
  | none => .bad
  | some (sl, ρ2) => match f sl with
    | .ok s outs => .ok s (giveBack gs sl outs ρ2)
    | .exc x outs => .exc x (giveBack gs sl outs ρ2)
    | .bad => .bad

theorem notcell_owns {s : Slot} {v : Option V} {q : Addr} (h : s.isCell = false) : ¬ Owns s v q := fun o => by
  cases s with
  | emp => cases o
  | val d => cases o
  | lst d => cases h
  | dic d => cases h
theorem ownE_nil {σ : St} {q : Addr} : ¬ OwnE [] σ q := fun ⟨i, s, v, h, _⟩ => by simp at h
theorem ownE_cons {s : Slot} {ρ : En} {v : Option V} {σ : St} {q : Addr} : OwnE (s :: ρ) (v :: σ) q ↔ Owns s v q ∨ OwnE ρ σ q := by
  constructor
  · rintro ⟨i, t, u, h1, h2, h3⟩
    cases i with
    | zero => simp at h1 h2; subst h1 h2; exact .inl h3
    | succ i => simp at h1 h2; exact .inr ⟨i, t, u, h1, h2, h3⟩
  · rintro (h | ⟨i, t, u, h1, h2, h3⟩)
    · exact ⟨0, s, v, rfl, rfl, h⟩
    · exact ⟨i + 1, t, u, by simpa using h1, by simpa using h2, h3⟩
theorem Rp.nil {K : Fr0} {F H : Hp} (s : Same F H) : Rp K F H [] [] := ⟨rfl, s, fun i s v h => by simp at h, fun i j s t v u q h => by simp at h⟩
theorem Rp.cons {K : Fr0} {F H : Hp} {s : Slot} {ρ : En} {v : Option V} {σ : St} (R : Rp K F H ρ σ) (h : SlotOk K F H s v) (dj : ∀ q, Owns s v q → ¬ OwnE ρ σ q) : Rp K F H (s :: ρ) (v :: σ) := by
  refine ⟨by simp [R.len], R.sub, fun i t u h1 h2 => ?_, fun i j t t' u u' q h1 h2 h3 h4 o1 o2 => ?_⟩
  · cases i with
    | zero => simp at h1 h2; subst h1 h2; exact h
    | succ i => simp at h1 h2; exact R.ok i t u h1 h2
  · cases i with
    | zero =>
      simp at h1 h2; subst h1 h2
      cases j with
      | zero => rfl
      | succ j => simp at h3 h4; exact absurd ⟨j, _, _, h3, h4, o2⟩ (dj q o1)
    | succ i =>
      simp at h1 h2
      cases j with
      | zero => simp at h3 h4; subst h3 h4; exact absurd ⟨i, _, _, h1, h2, o1⟩ (dj q o2)
      | succ j => simp at h3 h4; rw [R.dj i j t t' u u' q h1 h2 h3 h4 o1 o2]
theorem Rp.tail {K : Fr0} {F H : Hp} {s : Slot} {ρ : En} {v : Option V} {σ : St} (R : Rp K F H (s :: ρ) (v :: σ)) : SlotOk K F H s v ∧ (∀ q, Owns s v q → ¬ OwnE ρ σ q) ∧ Rp K F H ρ σ := by
  refine ⟨R.ok 0 s v rfl rfl, fun q o ⟨j, t, u, h1, h2, h3⟩ => ?_, by have := R.len; simpa using this, R.sub, fun i t u h1 h2 => R.ok (i + 1) t u (by simpa using h1) (by simpa using h2), fun i j t t' u u' q h1 h2 h3 h4 o1 o2 => ?_⟩
  · have := R.dj 0 (j + 1) s t v u q rfl rfl (by simpa using h1) (by simpa using h2) o h3
    cases this
  · have := R.dj (i + 1) (j + 1) t t' u u' q (by simpa using h1) (by simpa using h2) (by simpa using h3) (by simpa using h4) o1 o2
    omega
theorem set_self {α : Type} {l : List α} {i : Nat} {x : α} (h : l[i]? = some x) : l.set i x = l := by
  refine List.ext_getElem? fun j => ?_
  by_cases hj : i = j
  · subst hj
    rw [List.getElem?_set_self (List.getElem?_eq_some_iff.mp h).1, h]
  · rw [List.getElem?_set_ne hj]

theorem take_ok {K : Fr0} {F H : Hp} {σ : St} : ∀ {gs : List Arg} {vs : List V} {ρ sl ρ2 : En}, Rp K F H ρ σ → ArgsOk K F H ρ σ gs vs → takeArgs gs ρ = some (sl, ρ2) →
    Rp K F H sl (vs.map some) ∧ Rp K F H ρ2 σ ∧ (∀ q, OwnE sl (vs.map some) q → ¬ OwnE ρ2 σ q) ∧ (∀ q, OwnE sl (vs.map some) q → OwnsL gs vs q ∨ OwnE ρ σ q) ∧ (∀ q, OwnE ρ2 σ q → OwnE ρ σ q)
  | [], [], ρ, sl, ρ2, R, _, e => by
    cases e
    exact ⟨Rp.nil R.sub, R, fun q z => absurd z ownE_nil, fun q z => absurd z ownE_nil, fun q z => z⟩
  | [], _ :: _, _, _, _, _, h, _ => h.elim
  | _ :: _, [], _, _, _, _, h, _ => h.elim
  | .sl s :: gs, v :: vs, ρ, sl, ρ2, R, h, e => by
    have e' : ((takeArgs gs ρ).map fun r => (s :: r.1, r.2)) = some (sl, ρ2) := e
    cases q : takeArgs gs ρ with
    | none => rw [q] at e'; cases e'
    | some r =>
      rw [q] at e'
      cases e'
      obtain ⟨R1, R2, d1, d2, d3⟩ := take_ok (sl := r.1) (ρ2 := r.2) R h.2.2 q
      have nsl : ∀ q, Owns s (some v) q → ¬ OwnE r.1 (vs.map some) q := fun q o z => by
        rcases d2 q z with y | y
        · exact h.2.1 q o y
        · exact h.1.2 q o y
      refine ⟨R1.cons h.1.1 nsl, R2, fun q z => ?_, fun q z => ?_, d3⟩
      · rcases ownE_cons.mp z with y | y
        · exact fun y' => h.1.2 q y (d3 q y')
        · exact d1 q y
      · rcases ownE_cons.mp z with y | y
        · exact .inl (.inl y)
        · exact (d2 q y).imp_left .inr
  | .nm i :: gs, v :: vs, ρ, sl, ρ2, R, h, e => by
    have e' : (if (En.at ρ i).isSome then (if (En.at ρ i).isCell then (takeArgs gs (ρ.set i .emp)).map fun r => (En.at ρ i :: r.1, r.2) else (takeArgs gs ρ).map fun r => (En.at ρ i :: r.1, r.2)) else none) = some (sl, ρ2) := e
    by_cases hs : (En.at ρ i).isSome = true
    · rw [if_pos hs] at e'
      have h0 := En.at_some hs
      have hv : σ[i]? = some (some v) := h.1
      have ok := R.ok i _ _ h0 hv
      by_cases hc : (En.at ρ i).isCell = true
      · rw [if_pos hc] at e'
        have hsub : ∀ q, OwnE (ρ.set i .emp) σ q → OwnE ρ σ q ∧ ¬ Owns (En.at ρ i) (some v) q := fun q z => by
          rw [← set_self hv] at z
          rcases ownE_set_ne z with ⟨_, _, y⟩ | ⟨j, t, u, hj, e1, e2, o⟩
          · exact y.elim
          · exact ⟨⟨j, t, u, e1, e2, o⟩, fun o' => hj (R.dj j i t _ u _ q e1 e2 h0 hv o o')⟩
        have R' : Rp K F H (ρ.set i .emp) σ := by
          have := R.set (i := i) (s := .emp) (v := some v) R.sub trivial (fun j t u _ e1 e2 => R.ok j t u e1 e2) fun q j t u z => z.elim
          rw [set_self hv] at this
          exact this
        have A' : ∀ {gs : List Arg} {vs : List V}, ArgsOk K F H ρ σ gs vs → ArgsOk K F H (ρ.set i .emp) σ gs vs := by
          intro gs
          induction gs with
          | nil => intro vs h; cases vs <;> first | trivial | exact h.elim
          | cons g gs ih =>
            intro vs h
            cases vs with
            | nil => exact h.elim
            | cons v vs =>
              refine ⟨?_, h.2.1, ih h.2.2⟩
              cases g with
              | nm j => exact h.1
              | sl s => exact ⟨h.1.1, fun q o z => h.1.2 q o (hsub q z).1⟩
        cases q : takeArgs gs (ρ.set i .emp) with
        | none => rw [q] at e'; cases e'
        | some r =>
          rw [q] at e'
          cases e'
          obtain ⟨R1, R2, d1, d2, d3⟩ := take_ok (sl := r.1) (ρ2 := r.2) R' (A' h.2.2) q
          have own0 : ∀ q, Owns (En.at ρ i) (some v) q → OwnE ρ σ q := fun q o => ⟨i, _, _, h0, hv, o⟩
          have notL : ∀ {gs : List Arg} {vs : List V} {q : Addr}, ArgsOk K F H ρ σ gs vs → OwnsL gs vs q → OwnE ρ σ q → False := by
            intro gs
            induction gs with
            | nil => intro vs q h z _; cases vs <;> exact z.elim
            | cons g gs ih =>
              intro vs q h z y
              cases vs with
              | nil => exact h.elim
              | cons v vs =>
                rcases z with z | z
                · cases g with
                  | nm j => exact z.elim
                  | sl s => exact h.1.2 q z y
                · exact ih h.2.2 z y
          refine ⟨R1.cons ok fun q o z => ?_, R2, fun q z => ?_, fun q z => ?_, fun q z => (hsub q (d3 q z)).1⟩
          · rcases d2 q z with y | y
            · exact notL h.2.2 y (own0 q o)
            · exact (hsub q y).2 o
          · rcases ownE_cons.mp z with y | y
            · exact fun y' => (hsub q (d3 q y')).2 y
            · exact d1 q y
          · rcases ownE_cons.mp z with y | y
            · exact .inr (own0 q y)
            · rcases d2 q y with y | y
              · exact .inl (.inr y)
              · exact .inr (hsub q y).1
      · have hc : (En.at ρ i).isCell = false := by simpa using hc
        rw [hc] at e'
        have e' : ((takeArgs gs ρ).map fun r => (En.at ρ i :: r.1, r.2)) = some (sl, ρ2) := by simpa using e'
        cases q : takeArgs gs ρ with
        | none => rw [q] at e'; cases e'
        | some r =>
          rw [q] at e'
          cases e'
          obtain ⟨R1, R2, d1, d2, d3⟩ := take_ok (sl := r.1) (ρ2 := r.2) R h.2.2 q
          refine ⟨R1.cons ok fun q o => absurd o (notcell_owns hc), R2, fun q z => ?_, fun q z => ?_, d3⟩
          · rcases ownE_cons.mp z with y | y
            · exact absurd y (notcell_owns hc)
            · exact d1 q y
          · rcases ownE_cons.mp z with y | y
            · exact absurd y (notcell_owns hc)
            · exact (d2 q y).imp_left .inr
    · rw [if_neg hs] at e'; cases e'
theorem give_ok {K : Fr0} {F' H' : Hp} {σ : St} : ∀ {gs : List Arg} {vs : List V} {sl outs ρ : En}, Rp K F' H' ρ σ → Rp K F' H' outs (vs.map some) → (∀ (i : Nat) (v : V) (j : Nat), gs[j]? = some (Arg.nm i) → vs[j]? = some v → σ[i]? = some (some v)) → (∀ q, OwnE outs (vs.map some) q → ¬ OwnE ρ σ q) →
    Rp K F' H' (giveBack gs sl outs ρ) σ ∧ ∀ q, OwnE (giveBack gs sl outs ρ) σ q → OwnE ρ σ q ∨ OwnE outs (vs.map some) q := by
  intro gs
  induction gs with
  | nil => intro vs sl outs ρ R Ro hn dj; exact ⟨by unfold giveBack; exact R, fun q z => .inl (by unfold giveBack at z; exact z)⟩
  | cons g gs ih =>
    intro vs sl outs ρ R Ro hn dj
    cases sl with
    | nil => cases g <;> exact ⟨by unfold giveBack; exact R, fun q z => .inl (by unfold giveBack at z; exact z)⟩
    | cons s sl =>
      cases outs with
      | nil => cases g <;> exact ⟨by unfold giveBack; exact R, fun q z => .inl (by unfold giveBack at z; exact z)⟩
      | cons o outs =>
        cases vs with
        | nil => have := Ro.len; simp at this
        | cons v vs =>
          obtain ⟨k1, k2, k3⟩ := Ro.tail
          have hn' : ∀ (i : Nat) (v : V) (j : Nat), gs[j]? = some (.nm i) → vs[j]? = some v → σ[i]? = some (some v) := fun i v j e1 e2 => hn i v (j + 1) (by simpa using e1) (by simpa using e2)
          cases g with
          | sl s' =>
            unfold giveBack
            obtain ⟨a, b⟩ := ih (sl := sl) R k3 hn' fun q z => dj q (ownE_cons.mpr (.inr z))
            exact ⟨a, fun q z => (b q z).imp_right fun y => ownE_cons.mpr (.inr y)⟩
          | nm i =>
            unfold giveBack
            by_cases hc : s.isCell = true
            · rw [if_pos hc]
              have hv : σ[i]? = some (some v) := hn i v 0 rfl rfl
              have R' : Rp K F' H' (ρ.set i o) σ := by
                have := R.set (i := i) (s := o) (v := some v) R.sub k1 (fun j t u _ e1 e2 => R.ok j t u e1 e2) fun q j t u z _ e1 e2 o2 => dj q (ownE_cons.mpr (.inl z)) ⟨j, t, u, e1, e2, o2⟩
                rw [set_self hv] at this
                exact this
              have sub : ∀ q, OwnE (ρ.set i o) σ q → Owns o (some v) q ∨ OwnE ρ σ q := fun q z => by
                rw [← set_self hv] at z
                exact ownE_set z
              obtain ⟨a, b⟩ := ih (sl := sl) R' k3 hn' fun q z z' => by
                rcases sub q z' with y | y
                · exact k2 q y z
                · exact dj q (ownE_cons.mpr (.inr z)) y
              refine ⟨a, fun q z => ?_⟩
              rcases b q z with y | y
              · rcases sub q y with y | y
                · exact .inr (ownE_cons.mpr (.inl y))
                · exact .inl y
              · exact .inr (ownE_cons.mpr (.inr y))
            · rw [if_neg hc]
              obtain ⟨a, b⟩ := ih (sl := sl) R k3 hn' fun q z => dj q (ownE_cons.mpr (.inr z))
              exact ⟨a, fun q z => (b q z).imp_right fun y => ownE_cons.mpr (.inr y)⟩
/-- the promise of a def: f on the arguments' slots -/
def spF (K : Fr0) (I : ExI) (n : Nat) (f : M Slot) : Sp := fun vs H Q E => vs.length = n ∧ ∃ F as, Rp K F H as (vs.map some) ∧
  (f as).sat (fun s outs => ∀ F' H' v, Post K F H as (vs.map some) F' H' outs (.sl s) v → Q v H')
    (fun x outs => ∀ F' H' cls d, XR I K x cls d F' H' → Rp K F' H' outs (vs.map some) → Ext F H (OwnE as (vs.map some)) F' H' (OwnE outs (vs.map some)) → E cls d H')
/-- a def of the text that is f -/
structure FnT (P : Program) (w : World) (K : Fr0) (mg : Str → Option Value) (base : Heap) (I : ExI) (name : Str) (n k : Nat) (f : M Slot) : Prop where
  ex : ∃ fa fd ps, FnOk P w K mg base (L2.CX P w) k fa fd ps (spF K I n f) ∧ mg name = some (.ref fa) ∧ PySem.W.keepIn K (.ref fa) = true ∧ Binds K fd ps []
section
variable {X : Cx} {W : WX} {I : ExI}
/-- behind the arguments a call of f, in terms of the promise -/
theorem call_sat {f : M Slot} {as : List AE} {ρ : En} {F H : Hp} {σ : St} {Q : VK} {n : Nat} (R : Rp X.K F H ρ σ)
    (z : (mCall f as ρ).sat (fun s ρ' => ∀ F' H' v, Post X.K F H ρ σ F' H' ρ' (.sl s) v → Q v H') (XC X W I F H (OwnE ρ σ) σ)) (hn : ∀ gs ρ', evAs as ρ = .ok gs ρ' → gs.length = n) :
    (evAs as ρ).sat (fun gs ρ' => ∀ F' H' vs, PostL X.K F H ρ σ F' H' ρ' gs vs → spF X.K I n f vs H' Q (fun cls d H' => W cls d σ H')) (XC X W I F H (OwnE ρ σ) σ) := by
  unfold mCall at z
  rw [Out.sat_bind] at z
  refine Out.sat_mono z (fun gs ρ1 eo y F1 H1 vs P => ?_) fun _ _ y => y
  have lenA : ∀ {gs : List Arg} {vs : List V}, ArgsOk X.K F1 H1 ρ1 σ gs vs → gs.length = vs.length := by
    intro gs
    induction gs with
    | nil => intro vs h; cases vs <;> first | rfl | exact h.elim
    | cons g gs ih =>
      intro vs h
      cases vs with
      | nil => exact h.elim
      | cons v vs => simp [ih h.2.2]
  have hl := lenA P.ok
  cases e : takeArgs gs ρ1 with
  | none => rw [e] at y; exact y.elim
  | some r =>
    obtain ⟨sl, ρ2⟩ := r
    rw [e] at y
    obtain ⟨R1, R2, d1, d2, d3⟩ := take_ok P.rp P.ok e
    refine ⟨by rw [← hl]; exact hn gs ρ1 eo, F1, sl, R1, ?_⟩
    have hnm : ∀ (i : Nat) (v : V) (j : Nat), gs[j]? = some (.nm i) → vs[j]? = some v → σ[i]? = some (some v) := by
      have : ∀ {gs : List Arg} {vs : List V}, ArgsOk X.K F1 H1 ρ1 σ gs vs → ∀ (i : Nat) (v : V) (j : Nat), gs[j]? = some (.nm i) → vs[j]? = some v → σ[i]? = some (some v) := by
        intro gs
        induction gs with
        | nil => intro vs h i v j e1; simp at e1
        | cons g gs ih =>
          intro vs h
          cases vs with
          | nil => exact h.elim
          | cons w vs =>
            intro i v j e1 e2
            cases j with
            | zero => simp at e1 e2; subst e1 e2; exact h.1
            | succ j => simp at e1 e2; exact ih h.2.2 i v j e1 e2
      exact this P.ok
    -- behind the callee
    have behind : ∀ {F' H' : Hp} {outs : En} {O' : Addr → Prop}, Rp X.K F' H' outs (vs.map some) → Ext F1 H1 (OwnE sl (vs.map some)) F' H' O' → (∀ q, OwnE outs (vs.map some) q → O' q) →
        Rp X.K F' H' (giveBack gs sl outs ρ2) σ ∧ (∀ q, OwnE (giveBack gs sl outs ρ2) σ q → OwnE ρ2 σ q ∨ OwnE outs (vs.map some) q) ∧ ∀ q, O' q → ¬ OwnE ρ2 σ q := fun {F' H' outs O'} Ro x hO => by
      have R2' := R2.ext x Ro.sub fun q z z' => d1 q z' z
      have dO : ∀ q, O' q → ¬ OwnE ρ2 σ q := fun q z z' => by
        rcases x.newO q z with y | y
        · obtain ⟨_, u, hu⟩ := R2.ownF z'
          rw [hu] at y; cases y
        · exact d1 q y z'
      obtain ⟨a, b⟩ := give_ok (sl := sl) (gs := gs) (vs := vs) R2' Ro hnm fun q z => dO q (hO q z)
      exact ⟨a, b, dO⟩
    have wk : ∀ q, OwnE sl (vs.map some) q → OwnsL gs vs q ∨ OwnE ρ1 σ q := d2
    cases ef : f sl with
    | bad => simp only [ef] at y; exact y.elim
    | ok s outs =>
      simp only [ef] at y
      intro F' H' v P'
      obtain ⟨Ra, Rb, dO⟩ := behind P'.rp P'.ext fun q z => .inr z
      refine y F' H' v ⟨Ra, ⟨P'.ok.1, fun q o z => ?_⟩, P.ext.trans (P'.ext.weak wk fun q z => ?_)⟩
      · rcases Rb q z with z | z
        · exact dO q (.inl o) z
        · exact P'.ok.2 q o z
      · rcases z with z | z
        · exact .inl (.inl z)
        · rcases Rb q z with z | z
          · exact .inr (.inr (d3 q z))
          · exact .inl (.inr z)
    | exc x outs =>
      simp only [ef] at y
      intro F' H' cls d xr Ro x'
      obtain ⟨Ra, Rb, dO⟩ := behind Ro x' fun q z => z
      refine y F' H' cls d xr Ra (P.ext.trans (x'.weak wk fun q z => ?_))
      rcases Rb q z with z | z
      · exact .inr (.inr (d3 q z))
      · exact .inl z
theorem evAs_length : ∀ {as : List AE} {ρ ρ' : En} {gs : List Arg}, evAs as ρ = .ok gs ρ' → gs.length = as.length
  | [], _, _, _, e => by cases e; rfl
  | a :: as, ρ, ρ', gs, e => by
    have e' : ((evA a ρ).bind fun g ρ1 => (evAs as ρ1).bind fun gs ρ2 => Out.ok (g :: gs) ρ2) = .ok gs ρ' := e
    cases q : evA a ρ with
    | bad => rw [q] at e'; cases e'
    | exc x r => rw [q] at e'; cases e'
    | ok g ρ1 =>
      rw [q] at e'
      have e2 : ((evAs as ρ1).bind fun gs ρ2 => Out.ok (g :: gs) ρ2) = .ok gs ρ' := e'
      cases q2 : evAs as ρ1 with
      | bad => rw [q2] at e2; cases e2
      | exc x r => rw [q2] at e2; cases e2
      | ok gs' ρ2 =>
        rw [q2] at e2
        cases e2
        simp [evAs_length q2]
theorem ce_call {f : M Slot} {as : List AE} {e : Expr} {es : List Expr} {x : Str} {n k : Nat} {p pos : Pos} (T : FnT X.prog X.w X.K X.mg X.base I x n k f) (hr : Room k X.A) (tk : Takes X W) (hg : Gl X x) (ha : CAs X W I as (e :: es)) (hn : as.length = n)
    (hdb : (x == ("__debug__" : Str)) = false := by decide) (he : starEach (e :: es) X.env = (false, eval e X.env) :: starEach es X.env := by rfl) (hpl : (backTo pos (starEach es X.env)).any (·.1) = false := by rfl) :
    CE X W I (mCall f as) (.Call (.Name x p) (e :: es) [] pos) := by
  obtain ⟨fa, fd, ps, G, gm, gk, gb⟩ := T.ex
  obtain ⟨t, h1, q⟩ := ha.run
  exact ce_mk (pe_callS G hr hg gm gk gb (fun σ => passAt tk σ) h1 hdb he hpl) fun F H ρ σ Q R z => q F H ρ σ _ R (call_sat R z fun gs ρ' eo => (evAs_length eo).trans hn)
end
end SD

set_option Elab.async false
set_option linter.all false
set_option autoImplicit false
set_option maxRecDepth 100000
set_option maxHeartbeats 4000000
/-! SD, part E: tests, statements, blocks, loops, the body of a def. -/
namespace SD
open PySem PySem.Spec PyProof.Rows L2

/-- where one stands: the names by slots, the scope that runs, what is wanted of exceptions, room for calls -/
structure Cn (X : Cx) (W : WX) (N : List Str) (sc : Scope) (cf : Str → Bool) (k : Nat) : Prop where
  hN : X.N = N
  hs : X.env.scope = sc
  nd : N.Nodup
  tk : Takes X W
  po : PassesOwn (model X.prog X.w) X.A X.env X.xe
  hr : Room k X.A
  calm : X.calm = true
  fn : ∀ x, cf x = true → X.fn x = true
/-- a name is to be seen -/
def visB (sc : Scope) (x : Str) : Bool := match sc.names.lookup x with
  | some .local => true
  | some .cell => true
  | some .free => true
  | _ => false
theorem vis_of {sc : Scope} {x : Str} (h : visB sc x = true) : Vis sc x := by
  unfold visB at h
  unfold Vis
  split at h <;> simp_all
def locB (sc : Scope) (x : Str) : Bool := match sc.names.lookup x with
  | some .local => true
  | _ => false
theorem loc_of {sc : Scope} {x : Str} (h : locB sc x = true) : sc.names.lookup x = some .local := by
  unfold locB at h
  split at h <;> simp_all
def glB (sc : Scope) (x : Str) : Bool := match sc.names.lookup x with
  | some .globalImplicit => true
  | _ => false
theorem gl_of {sc : Scope} {x : Str} (h : glB sc x = true) : sc.names.lookup x = some .globalImplicit := by
  unfold glB at h
  split at h <;> simp_all
section
variable {X : Cx} {W : WX} {N : List Str} {sc : Scope} {cf : Str → Bool} {k : Nat} {I : ExI}
theorem Cn.pv (c : Cn X W N sc cf k) (i : Nat) {x : Str} {pos : Pos} (h : N[i]? = some x) (hv : visB sc x = true) (hd : (x == ("__debug__" : Str)) = false := by decide) (hcd : (x == ("__classdict__" : Str)) = false := by decide) : PE X (.Name x pos) (tVar i) :=
  pe_var (by rw [c.hN]; exact h) (by rw [c.hs]; exact vis_of hv) hd hcd
theorem Cn.nm (c : Cn X W N sc cf k) (i : Nat) {x : Str} {pos : Pos} (h : N[i]? = some x) (hv : visB sc x = true) (hd : (x == ("__debug__" : Str)) = false := by decide) (hcd : (x == ("__classdict__" : Str)) = false := by decide) : CA X W I (.nm i) (.Name x pos) :=
  ca_nm (c.pv i h hv hd hcd)
theorem Cn.var (c : Cn X W N sc cf k) (i : Nat) {x : Str} {pos : Pos} (h : N[i]? = some x) (hv : visB sc x = true) (hd : (x == ("__debug__" : Str)) = false := by decide) (hcd : (x == ("__classdict__" : Str)) = false := by decide) : CE X W I (mVar i) (.Name x pos) :=
  ce_var (c.pv i h hv hd hcd)
theorem Cn.gl (c : Cn X W N sc cf k) {x : Str} (h : glB sc x = true) : Gl X x := by
  show X.env.scope.names.lookup x = some .globalImplicit
  rw [c.hs]; exact gl_of h
end

/-- a name that may be stored -/
def stB (sc : Scope) (cf : Str → Bool) (x : Str) : Bool := match sc.names.lookup x with
  | some .local => true
  | some .cell => cf x
  | _ => false
theorem st_of {sc : Scope} {cf : Str → Bool} {x : Str} (h : stB sc cf x = true) : sc.names.lookup x = some .local ∨ (sc.names.lookup x = some .cell ∧ cf x = true) := by
  unfold stB at h
  split at h <;> simp_all
section
variable {X : Cx} {W : WX} {N : List Str} {sc : Scope} {cf : Str → Bool} {k : Nat} {I : ExI}
theorem Cn.loc (c : Cn X W N sc cf k) {x : Str} (h : stB sc cf x = true) : Loc X.env.scope x ∧ (X.fn x = true ∨ X.env.scope.names.lookup x = some .local) := by
  rw [c.hs]
  rcases st_of h with e | ⟨e, e'⟩
  · exact ⟨.inl e, .inr e⟩
  · exact ⟨.inr e, .inl (c.fn x e')⟩
theorem Cn.tgt (c : Cn X W N sc cf k) (i : Nat) {x : Str} {pos : Pos} (h : N[i]? = some x) (hl : stB sc cf x = true) : PG X (.Name x pos) (gName i) :=
  pg_name (by rw [c.hN]; exact c.nd) (by rw [c.hN]; exact h) (c.loc hl).1 (c.loc hl).2
theorem Cn.set (c : Cn X W N sc cf k) (i : Nat) {x : Str} {pos pos' : Pos} {e : Expr} (h : N[i]? = some x) (hl : stB sc cf x = true) (hs : swapsWith e (some (.Name x pos')) pos.line X.env = pure false := by rfl) : ∀ te, PE X e te → PS X (.Assign [.Name x pos'] e pos) (tAsg te (gName i)) :=
  fun te he => ps_set (by rw [c.hN]; exact c.nd) (by rw [c.hN]; exact h) (c.loc hl).1 he hs (c.loc hl).2
end

/-! ### tests -/
structure PostB (K : Fr0) (F H : Hp) (ρ : En) (σ : St) (F' H' : Hp) (ρ' : En) : Prop where
  rp : Rp K F' H' ρ' σ
  ext : Ext F H (OwnE ρ σ) F' H' (OwnE ρ' σ)
structure CT (X : Cx) (W : WX) (I : ExI) (c : M Bool) (e : Expr) : Prop where
  run : ∃ t, PT X e t ∧ ∀ (F H : Hp) (ρ : En) (σ : St) (Q : Bool → Hp → Prop), Rp X.K F H ρ σ →
    (c ρ).sat (fun b ρ' => ∀ F' H', PostB X.K F H ρ σ F' H' ρ' → Q b H') (XC X W I F H (OwnE ρ σ) σ) → t σ H Q
def asBool : Slot → Option Bool
  | .val (.bool b) => some b
  | _ => none
def mTest (f : M Slot) : M Bool := fun ρ => (f ρ).bind fun s ρ' => match asBool s with
  | some b => .ok b ρ'
  | none => .bad
def mAnd (a b : M Bool) : M Bool := fun ρ => (a ρ).bind fun x ρ' => if x then b ρ' else .ok false ρ'
def mOr (a b : M Bool) : M Bool := fun ρ => (a ρ).bind fun x ρ' => if x then .ok true ρ' else b ρ'
def mNot (a : M Bool) : M Bool := fun ρ => (a ρ).bind fun x ρ' => .ok (!x) ρ'
def mBool (a : M Bool) : M Slot := fun ρ => (a ρ).bind fun x ρ' => .ok (.val (.bool x)) ρ'
def mIfE (c : M Bool) (a b : M Slot) : M Slot := fun ρ => (c ρ).bind fun x ρ' => if x then a ρ' else b ρ'
section
variable {X : Cx} {W : WX} {I : ExI} {e ea eb : Expr} {pos : Pos}
theorem XC.stepB {F H F1 H1 : Hp} {ρ ρ1 : En} {σ : St} {x : Exc} {ρ' : En} (z : XC X W I F H (OwnE ρ σ) σ x ρ') (P : PostB X.K F H ρ σ F1 H1 ρ1) : XC X W I F1 H1 (OwnE ρ1 σ) σ x ρ' := XC.step z P.ext fun _ h => h
theorem Post.after {F H F1 H1 F2 H2 : Hp} {K : Fr0} {ρ ρ1 ρ2 : En} {σ : St} {g : Arg} {v : V} (P : PostB K F H ρ σ F1 H1 ρ1) (P2 : Post K F1 H1 ρ1 σ F2 H2 ρ2 g v) : Post K F H ρ σ F2 H2 ρ2 g v :=
  ⟨P2.rp, P2.ok, P.ext.trans P2.ext⟩
theorem PostB.after {F H F1 H1 F2 H2 : Hp} {K : Fr0} {ρ ρ1 ρ2 : En} {σ : St} (P : PostB K F H ρ σ F1 H1 ρ1) (P2 : PostB K F1 H1 ρ1 σ F2 H2 ρ2) : PostB K F H ρ σ F2 H2 ρ2 :=
  ⟨P2.rp, P.ext.trans P2.ext⟩
theorem PostB.refl {F H : Hp} {K : Fr0} {ρ : En} {σ : St} (R : Rp K F H ρ σ) : PostB K F H ρ σ F H ρ := ⟨R, Ext.refl⟩
theorem bool_of {K : Fr0} {F H : Hp} {s : Slot} {v : V} {b : Bool} (h : SlotOk K F H s (some v)) (e : asBool s = some b) : v = .bl b ∧ ∀ q, ¬ Owns s (some v) q := by
  cases s with
  | val d =>
    cases d with
    | bool b' =>
      cases e
      obtain ⟨x, ex, r⟩ := h
      cases ex
      rw [rep_bool] at r
      exact ⟨r, fun q z => z⟩
    | _ => cases e
  | _ => cases e
theorem Post.toB {K : Fr0} {F H F' H' : Hp} {ρ ρ' : En} {σ : St} {s : Slot} {v : V} (P : Post K F H ρ σ F' H' ρ' (.sl s) v) : PostB K F H ρ σ F' H' ρ' := ⟨P.rp, P.ext.weak (fun _ h => h) fun q h => .inl (.inr h)⟩
/-- an expression whose value is a truth, as a test -/
theorem ct_val {f : M Slot} (h : CE X W I f e) (he : ∀ whole, isTrue e X.env whole = (do let v ← whole; standAt e.pos; holding [v] (truthy v)) := by intro _; rfl) : CT X W I (mTest f) e := by
  obtain ⟨t, h1, q⟩ := h.of
  refine ⟨_, pt_val h1 he, fun F H ρ σ Q R z => q F H ρ σ _ R ?_⟩
  unfold mTest at z
  rw [Out.sat_bind] at z
  refine Out.sat_mono z (fun s ρ' _ y F' H' v P => ?_) fun _ _ y => y
  cases eb : asBool s with
  | none => rw [eb] at y; exact y.elim
  | some b =>
    rw [eb] at y
    exact ⟨b, (bool_of P.ok.1 eb).1, y F' H' P.toB⟩
theorem ct_cmp {op : CmpOp} {p : List D → Option Slot} {a b : AE} (ho : OpR X (compareOp op) (fun x y => rP X.K p [x, y])) (ha : CA X W I a ea) (hb : CA X W I b eb) (hm : behindInMarks op eb = false) : CT X W I (mTest (mPrim p [a, b])) (.Compare ea [op] [eb] pos) := by
  obtain ⟨ta, tb, h1, h2, q⟩ := two_args ha hb
  refine ⟨_, pt_cmpR ho h1 h2 hm, fun F H ρ σ Q R z => ?_⟩
  unfold mTest at z
  rw [Out.sat_bind] at z
  have z' := Out.sat_mono z (k' := fun s ρ' => ∀ F' H' v, Post X.K F H ρ σ F' H' ρ' (.sl s) v → (fun x H' => ∃ k, x = V.bl k ∧ Q k H') v H') (fun s ρ' _ y F' H' v P => by
    cases eb : asBool s with
    | none => rw [eb] at y; exact y.elim
    | some b =>
      rw [eb] at y
      exact ⟨b, (bool_of P.ok.1 eb).1, y F' H' P.toB⟩) fun _ _ y => y
  exact q F H ρ σ _ R (Out.sat_mono (prim_sat' z') (fun gs ρ' _ y F' H' x y' P => y F' H' _ P) fun _ _ y => y)
/-- a row of and, or -/
structure CW (X : Cx) (W : WX) (I : ExI) (c : M Bool) (e : Expr) : Prop where
  run : ∃ t, PW X e t ∧ ∀ (F H : Hp) (ρ : En) (σ : St) (Q : Bool → Hp → Prop), Rp X.K F H ρ σ →
    (c ρ).sat (fun b ρ' => ∀ F' H', PostB X.K F H ρ σ F' H' ρ' → Q b H') (XC X W I F H (OwnE ρ σ) σ) → t σ H Q
theorem CW.ct {c : M Bool} (h : CW X W I c e) : CT X W I c e := let ⟨t, h1, q⟩ := h.run; ⟨t, h1.pt, q⟩
theorem cw_and1 {a : M Bool} (h : CT X W I a ea) : CW X W I a (.BoolOp .And [ea] pos) := let ⟨t, h1, q⟩ := h.run; ⟨t, pw_and1 h1, q⟩
theorem cw_or1 {a : M Bool} (h : CT X W I a ea) : CW X W I a (.BoolOp .Or [ea] pos) := let ⟨t, h1, q⟩ := h.run; ⟨t, pw_or1 h1, q⟩
theorem cw_and {a b : M Bool} {rest : List Expr} (ha : CT X W I a ea) (hb : CW X W I b (.BoolOp .And (eb :: rest) pos)) : CW X W I (mAnd a b) (.BoolOp .And (ea :: eb :: rest) pos) := by
  obtain ⟨t, h1, q⟩ := ha.run
  obtain ⟨u, h2, q2⟩ := hb.run
  refine ⟨_, pw_and h1 h2, fun F H ρ σ Q R z => ?_⟩
  unfold mAnd at z
  rw [Out.sat_bind] at z
  refine q F H ρ σ _ R (Out.sat_mono z (fun x ρ1 _ y F1 H1 P => ?_) fun _ _ y => y)
  cases x with
  | true =>
    rw [if_pos rfl] at y ⊢
    exact q2 F1 H1 ρ1 σ Q P.rp (Out.sat_mono y (fun b ρ2 _ y2 F2 H2 P2 => y2 F2 H2 (P.after P2)) fun _ _ y2 => y2.stepB P)
  | false => rw [if_neg Bool.false_ne_true] at y ⊢; exact y F1 H1 P
theorem cw_or {a b : M Bool} {rest : List Expr} (ha : CT X W I a ea) (hb : CW X W I b (.BoolOp .Or (eb :: rest) pos)) : CW X W I (mOr a b) (.BoolOp .Or (ea :: eb :: rest) pos) := by
  obtain ⟨t, h1, q⟩ := ha.run
  obtain ⟨u, h2, q2⟩ := hb.run
  refine ⟨_, pw_or h1 h2, fun F H ρ σ Q R z => ?_⟩
  unfold mOr at z
  rw [Out.sat_bind] at z
  refine q F H ρ σ _ R (Out.sat_mono z (fun x ρ1 _ y F1 H1 P => ?_) fun _ _ y => y)
  cases x with
  | true => rw [if_pos rfl] at y ⊢; exact y F1 H1 P
  | false =>
    rw [if_neg Bool.false_ne_true] at y ⊢
    exact q2 F1 H1 ρ1 σ Q P.rp (Out.sat_mono y (fun b ρ2 _ y2 F2 H2 P2 => y2 F2 H2 (P.after P2)) fun _ _ y2 => y2.stepB P)
theorem ct_not {a : M Bool} (ha : CT X W I a ea) : CT X W I (mNot a) (.UnaryOp .Not ea pos) := by
  obtain ⟨t, h1, q⟩ := ha.run
  refine ⟨_, pt_not h1, fun F H ρ σ Q R z => ?_⟩
  unfold mNot at z
  rw [Out.sat_bind] at z
  exact q F H ρ σ _ R z
/-- .. as values (of truths) -/
theorem ce_one {op : BoolOp} {f : M Slot} (h : CE X W I f ea) : CE X W I f (.BoolOp op [ea] pos) := let ⟨t, h1, q⟩ := h.run; ⟨t, pe_one h1, q⟩
def mAndV (a b : M Slot) : M Slot := fun ρ => (mTest a ρ).bind fun x ρ' => if x then b ρ' else .ok (.val (.bool false)) ρ'
def mOrV (a b : M Slot) : M Slot := fun ρ => (mTest a ρ).bind fun x ρ' => if x then .ok (.val (.bool true)) ρ' else b ρ'
def mNotV (a : M Slot) : M Slot := fun ρ => (mTest a ρ).bind fun x ρ' => .ok (.val (.bool (!x))) ρ'
theorem test_sat {f : M Slot} {ρ : En} {k : Bool → En → Prop} {N : Exc → En → Prop} (z : (mTest f ρ).sat k N) : (f ρ).sat (fun s ρ' => ∃ b, asBool s = some b ∧ k b ρ') N := by
  unfold mTest at z
  rw [Out.sat_bind] at z
  refine Out.sat_mono z (fun s ρ' _ y => ?_) fun _ _ y => y
  cases eb : asBool s with
  | none => rw [eb] at y; exact y.elim
  | some b => rw [eb] at y; exact ⟨b, rfl, y⟩
theorem post_bool {K : Fr0} {F H F' H' : Hp} {ρ ρ' : En} {σ : St} (P : PostB K F H ρ σ F' H' ρ') (b : Bool) : Post K F H ρ σ F' H' ρ' (.sl (.val (.bool b))) (.bl b) :=
  Post.after P (post_val P.rp (by rw [rep_bool]))
theorem ce_and {a b : M Slot} {rest : List Expr} (ha : CE X W I a ea) (hb : CE X W I b (.BoolOp .And (eb :: rest) pos)) : CE X W I (mAndV a b) (.BoolOp .And (ea :: eb :: rest) pos) := by
  obtain ⟨t, h1, q⟩ := ha.of
  obtain ⟨u, h2, q2⟩ := hb.of
  refine ce_mk (pe_and h1 h2) fun F H ρ σ Q R z => ?_
  unfold mAndV at z
  rw [Out.sat_bind] at z
  refine q F H ρ σ _ R (Out.sat_mono (test_sat z) (fun s ρ1 _ ⟨b', e, y⟩ F1 H1 v P => ?_) fun _ _ y => y)
  refine ⟨b', (bool_of P.ok.1 e).1, ?_⟩
  cases b' with
  | true =>
    rw [if_pos rfl] at y ⊢
    exact q2 F1 H1 ρ1 σ Q P.rp (Out.sat_mono y (fun b ρ2 _ y2 F2 H2 v2 P2 => y2 F2 H2 v2 (Post.after P.toB P2)) fun _ _ y2 => y2.stepB P.toB)
  | false => rw [if_neg Bool.false_ne_true] at y ⊢; exact y F1 H1 _ (post_bool P.toB false)
theorem ce_or {a b : M Slot} {rest : List Expr} (ha : CE X W I a ea) (hb : CE X W I b (.BoolOp .Or (eb :: rest) pos)) : CE X W I (mOrV a b) (.BoolOp .Or (ea :: eb :: rest) pos) := by
  obtain ⟨t, h1, q⟩ := ha.of
  obtain ⟨u, h2, q2⟩ := hb.of
  refine ce_mk (pe_or h1 h2) fun F H ρ σ Q R z => ?_
  unfold mOrV at z
  rw [Out.sat_bind] at z
  refine q F H ρ σ _ R (Out.sat_mono (test_sat z) (fun s ρ1 _ ⟨b', e, y⟩ F1 H1 v P => ?_) fun _ _ y => y)
  refine ⟨b', (bool_of P.ok.1 e).1, ?_⟩
  cases b' with
  | true => rw [if_pos rfl] at y ⊢; exact y F1 H1 _ (post_bool P.toB true)
  | false =>
    rw [if_neg Bool.false_ne_true] at y ⊢
    exact q2 F1 H1 ρ1 σ Q P.rp (Out.sat_mono y (fun b ρ2 _ y2 F2 H2 v2 P2 => y2 F2 H2 v2 (Post.after P.toB P2)) fun _ _ y2 => y2.stepB P.toB)
theorem ce_not {a : M Slot} (ha : CE X W I a ea) : CE X W I (mNotV a) (.UnaryOp .Not ea pos) := by
  obtain ⟨t, h1, q⟩ := ha.of
  refine ce_mk (pe_not h1) fun F H ρ σ Q R z => ?_
  unfold mNotV at z
  rw [Out.sat_bind] at z
  refine q F H ρ σ _ R (Out.sat_mono (test_sat z) (fun s ρ1 _ ⟨b', e, y⟩ F1 H1 v P => ?_) fun _ _ y => y)
  exact ⟨b', (bool_of P.ok.1 e).1, y F1 H1 _ (post_bool P.toB _)⟩
theorem ce_ifE {c : M Bool} {a b : M Slot} {ec : Expr} (hc : CT X W I c ec) (ha : CE X W I a ea) (hb : CE X W I b eb) : CE X W I (mIfE c a b) (.IfExp ec ea eb pos) := by
  obtain ⟨t0, h0, q0⟩ := hc.run
  obtain ⟨t, h1, q⟩ := ha.of
  obtain ⟨u, h2, q2⟩ := hb.of
  refine ce_mk (pe_ifExp h0 h1 h2) fun F H ρ σ Q R z => ?_
  unfold mIfE at z
  rw [Out.sat_bind] at z
  refine q0 F H ρ σ _ R (Out.sat_mono z (fun x ρ1 _ y F1 H1 P => ?_) fun _ _ y => y)
  cases x with
  | true =>
    rw [if_pos rfl] at y ⊢
    exact q F1 H1 ρ1 σ Q P.rp (Out.sat_mono y (fun b ρ2 _ y2 F2 H2 v2 P2 => y2 F2 H2 v2 (Post.after P P2)) fun _ _ y2 => y2.stepB P)
  | false =>
    rw [if_neg Bool.false_ne_true] at y ⊢
    exact q2 F1 H1 ρ1 σ Q P.rp (Out.sat_mono y (fun b ρ2 _ y2 F2 H2 v2 P2 => y2 F2 H2 v2 (Post.after P P2)) fun _ _ y2 => y2.stepB P)
end
end SD

set_option Elab.async false
set_option linter.all false
set_option autoImplicit false
set_option maxRecDepth 100000
set_option maxHeartbeats 4000000
/-! SD, part F: statements, blocks, loops, the body of a def. -/
namespace SD
open PySem PySem.Spec PyProof.Rows L2

/-- from the state (F, H, ρ, σ) to another one; the slots of pr hold what they held -/
structure PostS (K : Fr0) (pr : Nat → Prop) (F H : Hp) (ρ : En) (σ : St) (F' H' : Hp) (ρ' : En) (σ' : St) : Prop where
  rp : Rp K F' H' ρ' σ'
  ext : Ext F H (OwnE ρ σ) F' H' (OwnE ρ' σ')
  pr : ∀ i, pr i → σ'[i]? = σ[i]?
  len : σ'.length = σ.length
/-- .. with a value -/
structure PostV (K : Fr0) (pr : Nat → Prop) (F H : Hp) (ρ : En) (σ : St) (F' H' : Hp) (ρ' : En) (σ' : St) (s : Slot) (v : V) : Prop where
  rp : Rp K F' H' ρ' σ'
  ok : SlotOk K F' H' s (some v)
  dj : ∀ q, Owns s (some v) q → ¬ OwnE ρ' σ' q
  ext : Ext F H (OwnE ρ σ) F' H' (fun q => Owns s (some v) q ∨ OwnE ρ' σ' q)
  pr : ∀ i, pr i → σ'[i]? = σ[i]?
  len : σ'.length = σ.length
def SEnd (K : Fr0) (pr : Nat → Prop) (F H : Hp) (ρ : En) (σ : St) (E : Ends) : Fl → En → Prop
  | .next, ρ' => ∀ F' H' σ', PostS K pr F H ρ σ F' H' ρ' σ' → E.nx σ' H'
  | .brk, ρ' => ∀ F' H' σ', PostS K pr F H ρ σ F' H' ρ' σ' → E.bk σ' H'
  | .cont, ρ' => ∀ F' H' σ', PostS K pr F H ρ σ F' H' ρ' σ' → E.ct σ' H'
  | .ret s, ρ' => ∀ F' H' σ' v, PostV K pr F H ρ σ F' H' ρ' σ' s v → E.rt v H'
def XCS (W : WX) (I : ExI) (K : Fr0) (pr : Nat → Prop) (F H : Hp) (ρ : En) (σ : St) (x : Exc) (ρ' : En) : Prop :=
  ∀ F' H' σ' cls d, XR I K x cls d F' H' → PostS K pr F H ρ σ F' H' ρ' σ' → W cls d σ' H'
theorem PostS.refl {K : Fr0} {pr : Nat → Prop} {F H : Hp} {ρ : En} {σ : St} (R : Rp K F H ρ σ) : PostS K pr F H ρ σ F H ρ σ := ⟨R, Ext.refl, fun _ _ => rfl, rfl⟩
theorem PostS.trans {K : Fr0} {pr : Nat → Prop} {F H F1 H1 F2 H2 : Hp} {ρ ρ1 ρ2 : En} {σ σ1 σ2 : St} (a : PostS K pr F H ρ σ F1 H1 ρ1 σ1) (b : PostS K pr F1 H1 ρ1 σ1 F2 H2 ρ2 σ2) : PostS K pr F H ρ σ F2 H2 ρ2 σ2 :=
  ⟨b.rp, a.ext.trans b.ext, fun i hi => (b.pr i hi).trans (a.pr i hi), b.len.trans a.len⟩
theorem PostS.transV {K : Fr0} {pr : Nat → Prop} {F H F1 H1 F2 H2 : Hp} {ρ ρ1 ρ2 : En} {σ σ1 σ2 : St} {s : Slot} {v : V} (a : PostS K pr F H ρ σ F1 H1 ρ1 σ1) (b : PostV K pr F1 H1 ρ1 σ1 F2 H2 ρ2 σ2 s v) : PostV K pr F H ρ σ F2 H2 ρ2 σ2 s v :=
  ⟨b.rp, b.ok, b.dj, a.ext.trans b.ext, fun i hi => (b.pr i hi).trans (a.pr i hi), b.len.trans a.len⟩
theorem PostB.toS {K : Fr0} {pr : Nat → Prop} {F H F1 H1 : Hp} {ρ ρ1 : En} {σ : St} (P : PostB K F H ρ σ F1 H1 ρ1) : PostS K pr F H ρ σ F1 H1 ρ1 σ := ⟨P.rp, P.ext, fun _ _ => rfl, rfl⟩
theorem SEnd.step {K : Fr0} {pr : Nat → Prop} {F H F1 H1 : Hp} {ρ ρ1 : En} {σ σ1 : St} {E : Ends} {f : Fl} {ρ' : En} (P : PostS K pr F H ρ σ F1 H1 ρ1 σ1) (h : SEnd K pr F H ρ σ E f ρ') : SEnd K pr F1 H1 ρ1 σ1 E f ρ' := by
  cases f with
  | next => exact fun F' H' σ' P' => h F' H' σ' (P.trans P')
  | brk => exact fun F' H' σ' P' => h F' H' σ' (P.trans P')
  | cont => exact fun F' H' σ' P' => h F' H' σ' (P.trans P')
  | ret s => exact fun F' H' σ' v P' => h F' H' σ' v (P.transV P')
theorem XCS.step {W : WX} {I : ExI} {K : Fr0} {pr : Nat → Prop} {F H F1 H1 : Hp} {ρ ρ1 : En} {σ σ1 : St} {x : Exc} {ρ' : En} (P : PostS K pr F H ρ σ F1 H1 ρ1 σ1) (h : XCS W I K pr F H ρ σ x ρ') : XCS W I K pr F1 H1 ρ1 σ1 x ρ' :=
  fun F' H' σ' cls d r P' => h F' H' σ' cls d r (P.trans P')
theorem XCS.toC {X : Cx} {W : WX} {I : ExI} {pr : Nat → Prop} {F H : Hp} {ρ : En} {σ : St} {x : Exc} {ρ' : En} (h : XCS W I X.K pr F H ρ σ x ρ') : XC X W I F H (OwnE ρ σ) σ x ρ' :=
  fun F' H' cls d r R e => h F' H' σ cls d r ⟨R, e, fun _ _ => rfl, rfl⟩

structure CS (X : Cx) (W : WX) (I : ExI) (pr : Nat → Prop) (g : M Fl) (st : Stmt) : Prop where
  run : ∃ t, PS X st t ∧ ∀ (F H : Hp) (ρ : En) (σ : St) (E : Ends), Rp X.K F H ρ σ → (g ρ).sat (SEnd X.K pr F H ρ σ E) (XCS W I X.K pr F H ρ σ) → t E σ H
structure CB (X : Cx) (W : WX) (I : ExI) (pr : Nat → Prop) (g : M Fl) (sts : List Stmt) : Prop where
  run : ∃ t, PSs X sts t ∧ ∀ (F H : Hp) (ρ : En) (σ : St) (E : Ends), Rp X.K F H ρ σ → (g ρ).sat (SEnd X.K pr F H ρ σ E) (XCS W I X.K pr F H ρ σ) → t E σ H
def mNext : M Fl := fun ρ => .ok .next ρ
def mSeq (g h : M Fl) : M Fl := fun ρ => (g ρ).bind fun f ρ' => match f with
  | .next => h ρ'
  | f => .ok f ρ'
def mIf (c : M Bool) (g h : M Fl) : M Fl := fun ρ => (c ρ).bind fun b ρ' => if b then g ρ' else h ρ'
def mDrop (f : M Slot) : M Fl := fun ρ => (f ρ).bind fun _ ρ' => .ok .next ρ'
def mRet (f : M Slot) : M Fl := fun ρ => (f ρ).bind fun s ρ' => .ok (.ret s) ρ'
/-- return x: what the name owns goes along -/
def mRetV (i : Nat) : M Fl := fun ρ => if (En.at ρ i).isSome then (if (En.at ρ i).isCell then .ok (.ret (En.at ρ i)) (ρ.set i .emp) else .ok (.ret (En.at ρ i)) ρ) else .bad
def mSet (i : Nat) (f : M Slot) : M Fl := fun ρ => (f ρ).bind fun s ρ' => .ok .next (ρ'.set i s)
section
variable {X : Cx} {W : WX} {I : ExI} {pr : Nat → Prop} {st : Stmt} {sts : List Stmt} {g h : M Fl} {e : Expr} {f : M Slot} {pos : Pos}
theorem cb_nil : CB X W I pr mNext [] := ⟨tNext, pss_nil, fun F H ρ σ E R z => z F H σ (PostS.refl R)⟩
theorem cb_cons (hg : CS X W I pr g st) (hh : CB X W I pr h sts) : CB X W I pr (mSeq g h) (st :: sts) := by
  obtain ⟨t, h1, q1⟩ := hg.run
  obtain ⟨u, h2, q2⟩ := hh.run
  refine ⟨tSeq t u, pss_cons h1 h2, fun F H ρ σ E R z => q1 F H ρ σ _ R ?_⟩
  unfold mSeq at z
  rw [Out.sat_bind] at z
  refine Out.sat_mono z (fun fl ρ' _ y => ?_) fun _ _ y => y
  cases fl with
  | next =>
    intro F' H' σ' P
    exact q2 F' H' ρ' σ' E P.rp (Out.sat_mono y (fun fl' ρ2 _ y2 => y2.step P) fun _ _ y2 => y2.step P)
  | brk => exact y
  | cont => exact y
  | ret s => exact y
theorem cb_one (hg : CS X W I pr g st) : CB X W I pr g [st] := let ⟨t, h1, q1⟩ := hg.run; ⟨t, pss_one h1, q1⟩
theorem cs_pass : CS X W I pr mNext (.Pass pos) := ⟨tNext, ps_pass, fun F H ρ σ E R z => z F H σ (PostS.refl R)⟩
theorem cs_break : CS X W I pr (fun ρ => .ok .brk ρ) (.Break pos) := ⟨tBreak, ps_break, fun F H ρ σ E R z => z F H σ (PostS.refl R)⟩
theorem cs_continue : CS X W I pr (fun ρ => .ok .cont ρ) (.Continue pos) := ⟨tCont, ps_continue, fun F H ρ σ E R z => z F H σ (PostS.refl R)⟩
theorem cs_if {c : M Bool} {a b : List Stmt} (hc : CT X W I c e) (ha : CB X W I pr g a) (hb : CB X W I pr h b) : CS X W I pr (mIf c g h) (.If e a b pos) := by
  obtain ⟨t0, h0, q0⟩ := hc.run
  obtain ⟨t, h1, q1⟩ := ha.run
  obtain ⟨u, h2, q2⟩ := hb.run
  refine ⟨_, ps_if h0 h1 h2, fun F H ρ σ E R z => ?_⟩
  unfold mIf at z
  rw [Out.sat_bind] at z
  refine q0 F H ρ σ _ R (Out.sat_mono z (fun b ρ1 _ y F1 H1 P => ?_) fun _ _ y => y.toC)
  cases b with
  | true => rw [if_pos rfl] at y ⊢; exact q1 F1 H1 ρ1 σ E P.rp (Out.sat_mono y (fun _ _ _ y2 => y2.step P.toS) fun _ _ y2 => y2.step P.toS)
  | false => rw [if_neg Bool.false_ne_true] at y ⊢; exact q2 F1 H1 ρ1 σ E P.rp (Out.sat_mono y (fun _ _ _ y2 => y2.step P.toS) fun _ _ y2 => y2.step P.toS)
theorem cs_drop (hf : CE X W I f e) (hs : swapsWith e none pos.line X.env = pure false := by rfl) : CS X W I pr (mDrop f) (.Expr e pos) := by
  obtain ⟨t, h1, q⟩ := hf.of
  refine ⟨_, ps_expr h1 hs, fun F H ρ σ E R z => ?_⟩
  unfold mDrop at z
  rw [Out.sat_bind] at z
  exact q F H ρ σ _ R (Out.sat_mono z (fun s ρ1 _ y F1 H1 v P => y F1 H1 σ P.toB.toS) fun _ _ y => y.toC)
theorem cs_doc {x : Str} {j : Nat} {pos' : Pos} : CS X W I pr mNext (.Expr (.Constant (.str x) j pos) pos') := ⟨tNext, ps_doc, fun F H ρ σ E R z => z F H σ (PostS.refl R)⟩
theorem Post.toV {K : Fr0} {F H F' H' : Hp} {ρ ρ' : En} {σ : St} {s : Slot} {v : V} (P : Post K F H ρ σ F' H' ρ' (.sl s) v) : PostV K pr F H ρ σ F' H' ρ' σ s v :=
  ⟨P.rp, P.ok.1, P.ok.2, P.ext, fun _ _ => rfl, rfl⟩
theorem cs_ret (hf : CE X W I f e) : CS X W I pr (mRet f) (.Return (some e) pos) := by
  obtain ⟨t, h1, q⟩ := hf.of
  refine ⟨_, ps_ret h1, fun F H ρ σ E R z => ?_⟩
  unfold mRet at z
  rw [Out.sat_bind] at z
  exact q F H ρ σ _ R (Out.sat_mono z (fun s ρ1 _ y F1 H1 v P => y F1 H1 σ v P.toV) fun _ _ y => y.toC)
theorem cs_retN : CS X W I pr (mRet (mC .none)) (.Return none pos) := ⟨_, ps_retN, fun F H ρ σ E R z => z F H σ .non (Post.toV (post_val R (by rw [rep_none])))⟩
theorem cs_retV {i : Nat} (hv : PE X e (tVar i)) : CS X W I pr (mRetV i) (.Return (some e) pos) := by
  refine ⟨_, ps_ret hv, fun F H ρ σ E R z => ?_⟩
  unfold mRetV at z
  by_cases hs : (En.at ρ i).isSome = true
  · rw [if_pos hs] at z
    have h0 := En.at_some hs
    obtain ⟨v, ev, ok⟩ := R.get h0
    obtain ⟨v, rfl⟩ := slot_some ok hs
    refine ⟨v, ev, ?_⟩
    by_cases hc : (En.at ρ i).isCell = true
    · rw [if_pos hc] at z
      have R' : Rp X.K F H (ρ.set i .emp) σ := by
        have := R.set (i := i) (s := .emp) (v := some v) R.sub trivial (fun j t u _ e1 e2 => R.ok j t u e1 e2) fun q j t u z => z.elim
        rw [set_self ev] at this
        exact this
      have sub : ∀ q, OwnE (ρ.set i .emp) σ q → OwnE ρ σ q ∧ ¬ Owns (En.at ρ i) (some v) q := fun q z => by
        rw [← set_self ev] at z
        rcases ownE_set_ne z with ⟨_, _, y⟩ | ⟨j, t, u, hj, e1, e2, o⟩
        · exact y.elim
        · exact ⟨⟨j, t, u, e1, e2, o⟩, fun o' => hj (R.dj j i t _ u _ q e1 e2 h0 ev o o')⟩
      exact z F H σ v ⟨R', ok, fun q o z => (sub q z).2 o, Ext.refl.weak (fun _ h => h) fun q h => .inr (h.elim (fun o => ⟨i, _, _, h0, ev, o⟩) fun h => (sub q h).1), fun _ _ => rfl, rfl⟩
    · have hc' : (En.at ρ i).isCell = false := by simpa using hc
      rw [if_neg hc] at z
      exact z F H σ v ⟨R, ok, fun q o => absurd o (notcell_owns hc'), Ext.refl.weak (fun _ h => h) fun q h => .inr (h.elim (fun o => absurd o (notcell_owns hc')) id), fun _ _ => rfl, rfl⟩
  · rw [if_neg hs] at z; exact z.elim
/-- a slot written -/
theorem post_set {K : Fr0} {F H F1 H1 : Hp} {ρ ρ1 : En} {σ : St} {i : Nat} {s : Slot} {v : V} (P : Post K F H ρ σ F1 H1 ρ1 (.sl s) v) (hi : ¬ pr i) : PostS K pr F H ρ σ F1 H1 (ρ1.set i s) (σ.set i (some v)) := by
  refine ⟨P.rp.set P.rp.sub P.ok.1 (fun j t u _ e1 e2 => P.rp.ok j t u e1 e2) fun q j t u o _ e1 e2 o2 => P.ok.2 q o ⟨j, t, u, e1, e2, o2⟩, P.ext.weak (fun _ h => h) fun q h => .inl ?_, fun j hj => ?_, by simp⟩
  · exact (ownE_set h).imp id id
  · have : i ≠ j := fun z => hi (z ▸ hj)
    rw [List.getElem?_set_ne this]
theorem cs_set {tg : Expr} {i : Nat} (hf : CE X W I f e) (hi : ¬ pr i) (hst : ∀ te, PE X e te → PS X (.Assign [tg] e pos) (tAsg te (gName i))) : CS X W I pr (mSet i f) (.Assign [tg] e pos) := by
  obtain ⟨t, h1, q⟩ := hf.of
  refine ⟨_, hst t h1, fun F H ρ σ E R z => ?_⟩
  unfold mSet at z
  rw [Out.sat_bind] at z
  exact q F H ρ σ _ R (Out.sat_mono z (fun s ρ1 _ y F1 H1 v P => y F1 H1 _ (post_set P hi)) fun _ _ y => y.toC)
end

/-! ### targets -/
/-- a target: the environment behind, given the data that goes there (data that stay) -/
abbrev Tg := D → En → Option En
structure CG (X : Cx) (pr : Nat → Prop) (g : Tg) (tg : Expr) : Prop where
  run : ∃ t, PG X tg t ∧ ∀ (F H : Hp) (ρ : En) (σ : St) (d : D) (v : V) (Q : St → Hp → Prop) (ρ' : En), Rp X.K F H ρ σ → Rep X.K F d v → g d ρ = some ρ' →
    (∀ σ', PostS X.K pr F H ρ σ F H ρ' σ' → Q σ' H) → t v σ H Q
structure CGs (X : Cx) (pr : Nat → Prop) (g : List D → En → Option En) (tgs : List Expr) : Prop where
  run : ∃ t, PGs X tgs t ∧ ∀ (F H : Hp) (ρ : En) (σ : St) (ds : List D) (vs : List V) (Q : St → Hp → Prop) (ρ' : En), Rp X.K F H ρ σ → Reps X.K F ds vs → g ds ρ = some ρ' →
    (∀ σ', PostS X.K pr F H ρ σ F H ρ' σ' → Q σ' H) → t vs σ H Q
def gNm (i : Nat) : Tg := fun d ρ => some (ρ.set i (.val d))
def gsNil : List D → En → Option En := fun ds ρ => match ds with
  | [] => some ρ
  | _ => none
def gsCons (g : Tg) (gs : List D → En → Option En) : List D → En → Option En := fun ds ρ => match ds with
  | d :: r => (g d ρ).bind fun ρ' => gs r ρ'
  | [] => none
def gTp (n : Nat) (gs : List D → En → Option En) : Tg := fun d ρ => match d with
  | .tuple ds => if ds.length = n then gs ds ρ else none
  | _ => none
section
variable {X : Cx} {pr : Nat → Prop} {pos : Pos}
theorem cg_name {i : Nat} {tg : Expr} (h : PG X tg (gName i)) (hi : ¬ pr i) : CG X pr (gNm i) tg := by
  refine ⟨_, h, fun F H ρ σ d v Q ρ' R r e q => ?_⟩
  cases e
  exact q _ (post_set (post_val R r) hi)
theorem cgs_nil : CGs X pr gsNil [] := ⟨_, pgs_nil, fun F H ρ σ ds vs Q ρ' R r e q => by
  cases ds with
  | nil => cases e; rw [reps_nil] at r; exact ⟨r, q _ (PostS.refl R)⟩
  | cons d ds => cases e⟩
theorem cgs_cons {g : Tg} {gs : List D → En → Option En} {e : Expr} {es : List Expr} (h1 : CG X pr g e) (h2 : CGs X pr gs es)
    (hs : (assignEach (e :: es) X.env).map (·.2) = assign e X.env :: (assignEach es X.env).map (·.2) := by rfl) : CGs X pr (gsCons g gs) (e :: es) := by
  obtain ⟨t, k1, q1⟩ := h1.run
  obtain ⟨u, k2, q2⟩ := h2.run
  refine ⟨_, pgs_cons k1 k2 hs, fun F H ρ σ ds vs Q ρ' R r e q => ?_⟩
  cases ds with
  | nil => cases e
  | cons d ds =>
    rw [reps_cons] at r
    obtain ⟨v, vs', rfl, r1, r2⟩ := r
    have e' : ((g d ρ).bind fun ρ' => gs ds ρ') = some ρ' := e
    cases e1 : g d ρ with
    | none => rw [e1] at e'; cases e'
    | some ρ1 =>
      rw [e1] at e'
      refine ⟨v, vs', rfl, q1 F H ρ σ d v _ ρ1 R r1 e1 fun σ1 P1 => q2 F H ρ1 σ1 ds vs' Q ρ' P1.rp r2 e' fun σ2 P2 => q σ2 (P1.trans P2)⟩
theorem cg_tup {n : Nat} {gs : List D → En → Option En} {es : List Expr} {k : Nat} (hc : X.calm = true) (h : CGs X pr gs es)
    (hn : (assignEach es X.env).length = n := by rfl) (hst : (assignEach es X.env).findIdx? (·.1) = none := by rfl) : CG X pr (gTp n gs) (.Tuple es k pos) := by
  obtain ⟨t, k1, q1⟩ := h.run
  refine ⟨_, pg_tup (n := n) hc k1 hn hst, fun F H ρ σ d v Q ρ' R r e q => ?_⟩
  cases d with
  | tuple ds =>
    rw [rep_tuple] at r
    obtain ⟨a, vs, rfl, sq, r⟩ := r
    have e' : (if ds.length = n then gs ds ρ else none) = some ρ' := e
    split at e'
    · rename_i hl
      exact ⟨a, vs, rfl, SqT.mono R.sub sq, by rw [← r.length]; exact hl, q1 F H ρ σ ds vs Q ρ' R r e' q⟩
    · cases e'
  | _ => cases e
end
/-- a, b = e -/
def mAsg (g : Tg) (f : M Slot) : M Fl := fun ρ => (f ρ).bind fun s ρ' => match s.data with
  | some d => match g d ρ' with
    | some ρ2 => .ok .next ρ2
    | none => .bad
  | none => .bad
theorem cs_asg {X : Cx} {W : WX} {I : ExI} {pr : Nat → Prop} {pos : Pos} {g : Tg} {f : M Slot} {tg e : Expr} (hf : CE X W I f e) (hg : CG X pr g tg) (hs : swapsWithSole [tg] e pos.line X.env = pure false := by rfl) (hw : swappedStores [tg] e X.env = pure none := by rfl)
    (h1 : (assignEach [tg] X.env).map (·.2) = [assign tg X.env] := by rfl) : CS X W I pr (mAsg g f) (.Assign [tg] e pos) := by
  obtain ⟨t, k1, q1⟩ := hf.of
  obtain ⟨u, k2, q2⟩ := hg.run
  refine ⟨_, ps_asg k1 k2 hs hw h1, fun F H ρ σ E R z => ?_⟩
  unfold mAsg at z
  rw [Out.sat_bind] at z
  refine q1 F H ρ σ _ R (Out.sat_mono z (fun s ρ1 _ y F1 H1 v P => ?_) fun _ _ y => y.toC)
  cases e : s.data with
  | none => rw [e] at y; exact y.elim
  | some d =>
    simp only [e] at y
    cases e2 : g d ρ1 with
    | none => rw [e2] at y; exact y.elim
    | some ρ2 =>
      rw [e2] at y
      obtain ⟨F2, s2, r, R2, x⟩ := freeze P e
      exact q2 F2 H1 ρ1 σ d v _ ρ2 R2 r e2 fun σ' P' => y F2 H1 σ' (PostS.trans ⟨R2, x, fun _ _ => rfl, rfl⟩ P')
end SD

set_option Elab.async false
set_option linter.all false
set_option autoImplicit false
set_option maxRecDepth 100000
set_option maxHeartbeats 4000000
/-! SD, part G: what is walked, loops, the body of a def. -/
namespace SD
open PySem PySem.Spec PyProof.Rows L2

/-- J walks the data ds, whatever happens meanwhile to what changes -/
structure ItOk (K : Fr0) (F : Hp) (ds : List D) (J : It) : Prop where
  go : ∀ (i : Nat) (F1 H1 : Hp), Same F F1 → Same F1 H1 → i < ds.length → J.go i H1 ∧ ∀ x H2, J.yld i H1 x H2 →
    ∃ F2, Same F1 F2 ∧ Same F2 H2 ∧ Same H1 H2 ∧ (∀ a, F1 a = none → F2 a ≠ none → H1 a = none) ∧ ∃ d, ds[i]? = some d ∧ Rep K F2 d x
  stop : ∀ (i : Nat) (F1 H1 : Hp), Same F F1 → Same F1 H1 → ds.length ≤ i → J.stop i H1
structure CI (X : Cx) (W : WX) (I : ExI) (tg : Expr) (src : M (List D)) (e : Expr) : Prop where
  run : ∃ wi, PI X tg e wi ∧ ∀ (F H : Hp) (ρ : En) (σ : St) (R : It → Hp → Prop), Rp X.K F H ρ σ →
    (src ρ).sat (fun ds ρ' => ∀ F' H' J, PostB X.K F H ρ σ F' H' ρ' → ItOk X.K F' ds J → R J H') (XC X W I F H (OwnE ρ σ) σ) → wi σ H R
def seqItems : D → Option (List D)
  | .list ds => some ds
  | .tuple ds => some ds
  | _ => none
/-- the items of a list or tuple that an expression gives -/
def mItems (f : M Slot) : M (List D) := fun ρ => (f ρ).bind fun s ρ' => match s.data.bind seqItems with
  | some ds => .ok ds ρ'
  | none => .bad
def mItemsL (f : M Slot) : M (List D) := fun ρ => (f ρ).bind fun s ρ' => match s.data with
  | some (.list ds) => .ok ds ρ'
  | _ => .bad
def mItemsT (f : M Slot) : M (List D) := fun ρ => (f ρ).bind fun s ρ' => match s.data with
  | some (.tuple ds) => .ok ds ρ'
  | _ => .bad
theorem itOk_list {K : Fr0} {F : Hp} {a : Addr} {ds : List D} {vs : List V} (h : SqL K F a vs) (r : Reps K F ds vs) (inj : ∀ H ys, Same F H → SqL K H a ys → ys = vs) : ItOk K F ds (Itl K a) := by
  have hl := r.length
  refine ⟨fun i F1 H1 s1 s2 hi => ?_, fun i F1 H1 s1 s2 hi => ⟨vs, SqL.mono (s1.trans s2) h, by omega⟩⟩
  have q := SqL.mono (s1.trans s2) h
  refine ⟨⟨vs, vs[i]'(by omega), q, by simp⟩, fun x H2 y => ?_⟩
  obtain ⟨rfl, y⟩ := y
  have e := y vs q
  obtain ⟨d, e2, r2⟩ := r.getV e
  exact ⟨F1, Same.refl _, s2, Same.refl _, fun a e e' => absurd e e', d, e2, Rep.mono s1 _ _ r2⟩
theorem itOk_tup {K : Fr0} {F : Hp} {a : Addr} {ds : List D} {vs : List V} (h : SqT K F a vs) (r : Reps K F ds vs) : ItOk K F ds (Itt K a) := by
  have hl := r.length
  refine ⟨fun i F1 H1 s1 s2 hi => ?_, fun i F1 H1 s1 s2 hi => ⟨vs, SqT.mono (s1.trans s2) h, by omega⟩⟩
  have q := SqT.mono (s1.trans s2) h
  refine ⟨⟨vs, vs[i]'(by omega), q, by simp⟩, fun x H2 y => ?_⟩
  obtain ⟨rfl, y⟩ := y
  have e := y vs q
  obtain ⟨d, e2, r2⟩ := r.getV e
  exact ⟨F1, Same.refl _, s2, Same.refl _, fun a e e' => absurd e e', d, e2, Rep.mono s1 _ _ r2⟩
theorem itOk_range {K : Fr0} {F : Hp} {lo : Int} {n : Nat} : ItOk K F ((List.range n).map fun i => PyData.int (lo + (i : Nat))) (Itr lo n) := by
  refine ⟨fun i F1 H1 s1 s2 hi => ?_, fun i F1 H1 s1 s2 hi => show n ≤ i by simpa using hi⟩
  have hi' : i < n := by simpa using hi
  refine ⟨hi', fun x H2 y => ?_⟩
  obtain ⟨rfl, rfl⟩ := y
  refine ⟨F1, Same.refl _, s2, Same.refl _, fun a e e' => absurd e e', .int (lo + (i : Nat)), by simp [hi'], by rw [rep_int]⟩
section
variable {X : Cx} {W : WX} {I : ExI} {tg e : Expr} {f : M Slot} {pos : Pos}
theorem ci_list (h : CE X W I f e) : CI X W I tg (mItemsL f) e := by
  obtain ⟨t, h1, q⟩ := h.of
  refine ⟨_, pi_list h1, fun F H ρ σ R Rr z => ?_⟩
  unfold mItemsL at z
  rw [Out.sat_bind] at z
  refine q F H ρ σ _ Rr (Out.sat_mono z (fun s ρ1 _ y F1 H1 v P => ?_) fun _ _ y => y)
  split at y
  · rename_i ds ed
    obtain ⟨F2, s2, r, R2, x⟩ := freeze P ed
    rw [rep_list] at r
    obtain ⟨a, vs, rfl, sq, r⟩ := r
    exact ⟨a, rfl, ⟨vs, SqL.mono R2.sub sq⟩, y F2 H1 _ ⟨R2, x⟩ (by
      have hl := r.length
      refine ⟨fun i F1 H1 s1 s2 hi => ?_, fun i F1 H1 s1 s2 hi => ⟨vs, SqL.mono (s1.trans s2) sq, by omega⟩⟩
      have q := SqL.mono (s1.trans s2) sq
      refine ⟨⟨vs, vs[i]'(by omega), q, by simp⟩, fun x H2 y => ?_⟩
      obtain ⟨rfl, y⟩ := y
      have e := y vs q
      obtain ⟨d, e2, r2⟩ := r.getV e
      exact ⟨F1, Same.refl _, s2, Same.refl _, fun a e e' => absurd e e', d, e2, Rep.mono s1 _ _ r2⟩)⟩
  · exact y.elim
theorem ci_tup (h : CE X W I f e) : CI X W I tg (mItemsT f) e := by
  obtain ⟨t, h1, q⟩ := h.of
  refine ⟨_, pi_tup h1, fun F H ρ σ R Rr z => ?_⟩
  unfold mItemsT at z
  rw [Out.sat_bind] at z
  refine q F H ρ σ _ Rr (Out.sat_mono z (fun s ρ1 _ y F1 H1 v P => ?_) fun _ _ y => y)
  split at y
  · rename_i ds ed
    obtain ⟨F2, s2, r, R2, x⟩ := freeze P ed
    rw [rep_tuple] at r
    obtain ⟨a, vs, rfl, sq, r⟩ := r
    exact ⟨a, rfl, ⟨vs, SqT.mono R2.sub sq⟩, y F2 H1 _ ⟨R2, x⟩ (itOk_tup sq r)⟩
  · exact y.elim
/-- range(n), range(a, b) -/
def mRange1 (f : M Slot) : M (List D) := fun ρ => (f ρ).bind fun s ρ' => match s with
  | .val (.int j) => if -(2 ^ 62) ≤ j ∧ j < 2 ^ 62 then .ok ((List.range j.toNat).map fun i => PyData.int ((0 : Int) + (i : Nat))) ρ' else .bad
  | _ => .bad
theorem int_slot {K : Fr0} {F H : Hp} {v : V} {j : Int} (h : SlotOk K F H (.val (.int j)) (some v)) : v = .int j := by
  obtain ⟨x, e, r⟩ := h
  cases e
  rw [rep_int] at r
  exact r
theorem ci_range1 {p : Pos} (hg : Gl X "range") (hm : X.mg "range" = none) (h : CE X W I f e) (hs : starEach [e] X.env = [(false, eval e X.env)] := by rfl) : CI X W I tg (mRange1 f) (.Call (.Name "range" p) [e] [] pos) := by
  obtain ⟨t, h1, q⟩ := h.of
  refine ⟨_, pi_range1 hg hm (pa_cons h1 pa_nil (by rw [hs]; rfl)) hs, fun F H ρ σ R Rr z => ?_⟩
  unfold mRange1 at z
  rw [Out.sat_bind] at z
  refine q F H ρ σ _ Rr (Out.sat_mono z (fun s ρ1 _ y F1 H1 v P => ?_) fun _ _ y => y)
  split at y
  · split at y
    · rename_i j _ hj
      have ev := int_slot P.ok.1
      subst ev
      exact ⟨j, rfl, hj.1, hj.2, y F1 H1 _ P.toB itOk_range⟩
    · exact y.elim
  · exact y.elim
def mRange2 (as : List AE) : M (List D) := fun ρ => (evAs as ρ).bind fun gs ρ' => match argDs ρ' gs with
  | some [.int i, .int j] => if -(2 ^ 62) ≤ i ∧ i < 2 ^ 62 ∧ -(2 ^ 62) ≤ j ∧ j < 2 ^ 62 then .ok ((List.range (j - i).toNat).map fun k => PyData.int (i + (k : Nat))) ρ' else .bad
  | _ => .bad
theorem ci_range2 {p : Pos} {a b : AE} {ea eb : Expr} (hg : Gl X "range") (hm : X.mg "range" = none) (ha : CAs X W I [a, b] [ea, eb]) (hs : starEach [ea, eb] X.env = [(false, eval ea X.env), (false, eval eb X.env)] := by rfl) (hs2 : starEach [eb] X.env = [(false, eval eb X.env)] := by rfl) :
    CI X W I tg (mRange2 [a, b]) (.Call (.Name "range" p) [ea, eb] [] pos) := by
  obtain ⟨t, h1, q⟩ := ha.run
  refine ⟨_, pi_range2 hg hm h1 hs hs2, fun F H ρ σ R Rr z => ?_⟩
  unfold mRange2 at z
  rw [Out.sat_bind] at z
  refine q F H ρ σ _ Rr (Out.sat_mono z (fun gs ρ1 _ y F1 H1 vs P => ?_) fun _ _ y => y)
  split at y
  · rename_i i j eds
    split at y
    · rename_i hj
      have r := args_top P.rp P.ok eds
      match vs, r with
      | [v1, v2], ⟨r1, r2, _⟩ =>
        have r1 : Rep X.K F1 (.int i) v1 := r1
        have r2 : Rep X.K F1 (.int j) v2 := r2
        rw [rep_int] at r1 r2
        subst r1 r2
        exact ⟨i, j, rfl, hj, y F1 H1 _ ⟨P.rp, P.ext.weak (fun _ h => h) fun q h => .inl (.inr h)⟩ itOk_range⟩
      | [_], ⟨_, r⟩ => exact r.elim
      | [], r => exact r.elim
      | _ :: _ :: _ :: _, ⟨_, _, r⟩ => exact r.elim
    · exact y.elim
  · exact y.elim
end

/-! ### for -/
def forL (g : Tg) (body : M Fl) : List D → M Fl
  | [] => fun ρ => .ok .next ρ
  | d :: ds => fun ρ => match g d ρ with
    | none => .bad
    | some ρ1 => (body ρ1).bind fun f ρ2 => match f with
      | .next => forL g body ds ρ2
      | .cont => forL g body ds ρ2
      | .brk => .ok .next ρ2
      | .ret s => .ok (.ret s) ρ2
def mFor (src : M (List D)) (g : Tg) (body : M Fl) : M Fl := fun ρ => (src ρ).bind fun ds ρ1 => forL g body ds ρ1
theorem forL_drop {g : Tg} {body : M Fl} {ds : List D} {i : Nat} {d : D} (h : ds[i]? = some d) (ρ : En) : forL g body (ds.drop i) ρ = (match g d ρ with
    | none => .bad
    | some ρ1 => (body ρ1).bind fun f ρ2 => match f with
      | .next => forL g body (ds.drop (i + 1)) ρ2
      | .cont => forL g body (ds.drop (i + 1)) ρ2
      | .brk => .ok .next ρ2
      | .ret s => .ok (.ret s) ρ2) := by
  have hi : i < ds.length := (List.getElem?_eq_some_iff.mp h).1
  have e : ds.drop i = d :: ds.drop (i + 1) := by
    rw [List.drop_eq_getElem_cons hi]
    congr 1
    exact (List.getElem?_eq_some_iff.mp h).2
  rw [e]
  rfl
section
variable {X : Cx} {W : WX} {I : ExI} {pr : Nat → Prop} {tg e : Expr} {pos : Pos}
theorem yield_post {K : Fr0} {F1 H1 F2 H2 : Hp} {ρ : En} {σ : St} (R : Rp K F1 H1 ρ σ) (s1 : Same F1 F2) (s2 : Same F2 H2) (s3 : Same H1 H2) (n : ∀ a, F1 a = none → F2 a ≠ none → H1 a = none) : PostS K pr F1 H1 ρ σ F2 H2 ρ σ := by
  have x : Ext F1 H1 (fun _ => False) F2 H2 (fun _ => False) := ⟨s1, fun a h h' => .inl (n a h h'), fun a o h _ => s3 a o h, fun a h => h.elim⟩
  exact ⟨R.ext x s2 fun _ _ z => z, x.weak (fun _ z => z.elim) fun q h => .inr h, fun _ _ => rfl, rfl⟩
theorem cs_for {src : M (List D)} {g : Tg} {b : M Fl} {body : List Stmt} (hp : PassesOwn (model X.prog X.w) X.A X.env X.xe) (hc : X.calm = true) (hi : CI X W I tg src e) (hg : CG X pr g tg) (hb : CB X W I pr b body)
    (hs : ∀ x, foldedSetIterable e X.env x = pure x := by intro _; rfl) : CS X W I pr (mFor src g b) (.For tg e body [] pos) := by
  obtain ⟨wi, h1, q1⟩ := hi.run
  obtain ⟨tG, h2, q2⟩ := hg.run
  obtain ⟨tb, h3, q3⟩ := hb.run
  refine ⟨_, ps_for hp hc h1 h2 h3 hs, fun F H ρ σ E R z => ?_⟩
  unfold mFor at z
  rw [Out.sat_bind] at z
  refine q1 F H ρ σ _ R (Out.sat_mono z (fun ds ρ1 _ y F1 H1 J P it => ?_) fun _ _ y => y.toC)
  refine ⟨fun i m σ' H' => m = ds.length - i ∧ i ≤ ds.length ∧ ∃ F' ρ', PostS X.K pr F H ρ σ F' H' ρ' σ' ∧ Same F1 F' ∧ (forL g b (ds.drop i) ρ').sat (SEnd X.K pr F H ρ σ E) (XCS W I X.K pr F H ρ σ),
    ⟨ds.length, by simp, Nat.zero_le _, F1, ρ1, P.toS, Same.refl _, by simpa using y⟩, ?_⟩
  rintro i m σ' H' ⟨rfl, hle, F', ρ', P', sF, z'⟩
  by_cases hlt : i < ds.length
  · obtain ⟨go, yld⟩ := it.go i F' H' sF P'.rp.sub hlt
    refine .inr ⟨go, fun σ2 H2 => i + 1 ≤ ds.length ∧ ∃ F2 ρ2, PostS X.K pr F H ρ σ F2 H2 ρ2 σ2 ∧ Same F1 F2 ∧ (forL g b (ds.drop (i + 1)) ρ2).sat (SEnd X.K pr F H ρ σ E) (XCS W I X.K pr F H ρ σ), fun σ2 H2 ⟨hle2, h⟩ => ⟨ds.length - (i + 1), by omega, rfl, hle2, h⟩, fun x H2 hy => ?_⟩
    obtain ⟨F2, s1, s2, s3, nF, d, ed, r⟩ := yld x H2 hy
    have P2 := P'.trans (yield_post P'.rp s1 s2 s3 nF)
    rw [forL_drop ed] at z'
    cases eg : g d ρ' with
    | none => rw [eg] at z'; exact z'.elim
    | some ρ3 =>
      rw [eg] at z'
      have z3 : ((b ρ3).bind fun f ρ2 => (match f with
        | .next => forL g b (ds.drop (i + 1)) ρ2
        | .cont => forL g b (ds.drop (i + 1)) ρ2
        | .brk => .ok .next ρ2
        | .ret s => .ok (.ret s) ρ2 : Out Fl)).sat _ _ := z'
      rw [Out.sat_bind] at z3
      refine q2 F2 H2 ρ' σ' d x _ ρ3 P2.rp r eg fun σ3 P3 => ?_
      have P4 := P2.trans P3
      refine q3 F2 H2 ρ3 σ3 _ P3.rp (Out.sat_mono z3 (fun fl ρ4 _ y4 => ?_) fun _ _ y4 => y4.step P4)
      cases fl with
      | next => exact fun F5 H5 σ5 P5 => ⟨hlt, F5, ρ4, P4.trans P5, (sF.trans s1).trans P5.ext.sub, y4⟩
      | cont => exact fun F5 H5 σ5 P5 => ⟨hlt, F5, ρ4, P4.trans P5, (sF.trans s1).trans P5.ext.sub, y4⟩
      | brk => exact fun F5 H5 σ5 P5 => y4 F5 H5 σ5 (P4.trans P5)
      | ret s => exact fun F5 H5 σ5 v P5 => y4 F5 H5 σ5 v (P4.transV P5)
  · have e : i = ds.length := by omega
    subst e
    rw [List.drop_length] at z'
    exact .inl ⟨it.stop _ F' H' sF P'.rp.sub (Nat.le_refl _), z' F' H' σ' P'⟩
/-- while, at most n turns -/
def whileN (c : M Bool) (b : M Fl) : Nat → M Fl
  | 0 => fun _ => .bad
  | n + 1 => fun ρ => (c ρ).bind fun x ρ1 => if x then (b ρ1).bind fun f ρ2 => match f with
      | .next => whileN c b n ρ2
      | .cont => whileN c b n ρ2
      | .brk => .ok .next ρ2
      | .ret s => .ok (.ret s) ρ2
    else .ok .next ρ1
theorem cs_while {c : M Bool} {b : M Fl} {body : List Stmt} (n : Nat) (hp : PassesOwn (model X.prog X.w) X.A X.env X.xe) (hc : CT X W I c e) (hb : CB X W I pr b body) : CS X W I pr (whileN c b n) (.While e body [] pos) := by
  obtain ⟨tc, h1, q1⟩ := hc.run
  obtain ⟨tb, h2, q2⟩ := hb.run
  refine ⟨_, ps_while hp h1 h2, fun F H ρ σ E R z => ?_⟩
  refine ⟨fun m σ' H' => ∃ F' ρ', PostS X.K pr F H ρ σ F' H' ρ' σ' ∧ (whileN c b m ρ').sat (SEnd X.K pr F H ρ σ E) (XCS W I X.K pr F H ρ σ), ⟨n, F, ρ, PostS.refl R, z⟩, ?_⟩
  rintro m σ' H' ⟨F', ρ', P, z'⟩
  cases m with
  | zero => exact z'.elim
  | succ m =>
    unfold whileN at z'
    rw [Out.sat_bind] at z'
    refine q1 F' H' ρ' σ' _ P.rp (Out.sat_mono z' (fun x ρ1 _ y F1 H1 P1 => ?_) fun _ _ y => (y.step P).toC)
    have P2 := P.trans P1.toS
    cases x with
    | true =>
      rw [if_pos rfl] at y ⊢
      rw [Out.sat_bind] at y
      refine ⟨fun σ2 H2 => ∃ F2 ρ2, PostS X.K pr F H ρ σ F2 H2 ρ2 σ2 ∧ (whileN c b m ρ2).sat (SEnd X.K pr F H ρ σ E) (XCS W I X.K pr F H ρ σ), fun σ2 H2 h => ⟨m, Nat.lt_succ_self _, h⟩, ?_⟩
      refine q2 F1 H1 ρ1 σ' _ P1.rp (Out.sat_mono y (fun fl ρ4 _ y4 => ?_) fun _ _ y4 => y4.step P2)
      cases fl with
      | next => exact fun F5 H5 σ5 P5 => ⟨F5, ρ4, P2.trans P5, y4⟩
      | cont => exact fun F5 H5 σ5 P5 => ⟨F5, ρ4, P2.trans P5, y4⟩
      | brk => exact fun F5 H5 σ5 P5 => y4 F5 H5 σ5 (P2.trans P5)
      | ret s => exact fun F5 H5 σ5 v P5 => y4 F5 H5 σ5 v (P2.transV P5)
    | false =>
      rw [if_neg Bool.false_ne_true] at y ⊢
      exact y F1 H1 σ' P2
end

/-! ### the body of a def -/
def outsOf (pr : List Nat) (n : Nat) (ρ : En) : En := (List.range n).map fun i => if i ∈ pr then En.at ρ i else .emp
/-- n parameters, m names more; the slots of pr are never stored -/
def mDef (n m : Nat) (pr : List Nat) (g : M Fl) : M Slot := fun as => if as.length = n then (match g (as ++ List.replicate m .emp) with
  | .ok .next ρ => .ok (.val .none) (outsOf pr n ρ)
  | .ok (.ret s) ρ => .ok s (outsOf pr n ρ)
  | .ok _ _ => .bad
  | .exc x ρ => .exc x (outsOf pr n ρ)
  | .bad => .bad) else .bad
theorem Rp.outs {K : Fr0} {F H : Hp} {ρ : En} {σ : St} {pr : List Nat} {n : Nat} {vs : List V} (R : Rp K F H ρ σ) (hn : vs.length = n) (h : ∀ i ∈ pr, i < n → σ[i]? = (vs.map some)[i]?) :
    Rp K F H (outsOf pr n ρ) (vs.map some) ∧ ∀ q, OwnE (outsOf pr n ρ) (vs.map some) q → OwnE ρ σ q := by
  have at_ : ∀ {i : Nat} {s : Slot} {v : Option V}, (outsOf pr n ρ)[i]? = some s → (vs.map some)[i]? = some v → s = .emp ∨ (ρ[i]? = some s ∧ σ[i]? = some v) := fun {i s v} e1 e2 => by
    unfold outsOf at e1
    rw [List.getElem?_map] at e1
    have hi : i < n := by
      cases q : (List.range n)[i]? with
      | none => rw [q] at e1; cases e1
      | some j => have := (List.getElem?_eq_some_iff.mp q).1; simpa using this
    rw [List.getElem?_range hi] at e1
    simp only [Option.map_some, Option.some.injEq] at e1
    split at e1
    · rename_i hm
      cases hs : (En.at ρ i).isSome with
      | false =>
        left
        cases q : En.at ρ i with
        | emp => rw [q] at e1; exact e1.symm
        | _ => rw [q] at hs; cases hs
      | true =>
        right
        rw [← e1]
        exact ⟨En.at_some hs, (h i hm hi).trans e2⟩
    · exact .inl e1.symm
  refine ⟨⟨by simp [outsOf, hn], R.sub, fun i s v e1 e2 => ?_, fun i j s t v u q e1 e2 e3 e4 o1 o2 => ?_⟩, fun q ⟨i, s, v, e1, e2, o⟩ => ?_⟩
  · rcases at_ e1 e2 with rfl | ⟨k1, k2⟩
    · trivial
    · exact R.ok i s v k1 k2
  · rcases at_ e1 e2 with rfl | ⟨k1, k2⟩
    · exact o1.elim
    · rcases at_ e3 e4 with rfl | ⟨k3, k4⟩
      · exact o2.elim
      · exact R.dj i j s t v u q k1 k2 k3 k4 o1 o2
  · rcases at_ e1 e2 with rfl | ⟨k1, k2⟩
    · exact o.elim
    · exact ⟨i, s, v, k1, k2, o⟩
theorem Rp.pad {K : Fr0} {F H : Hp} {ρ : En} {σ : St} (R : Rp K F H ρ σ) (m : Nat) : Rp K F H (ρ ++ List.replicate m .emp) (σ ++ List.replicate m none) ∧ ∀ q, OwnE (ρ ++ List.replicate m .emp) (σ ++ List.replicate m none) q ↔ OwnE ρ σ q := by
  have hl := R.len
  have at_ : ∀ {i : Nat} {s : Slot} {v : Option V}, (ρ ++ List.replicate m Slot.emp)[i]? = some s → (σ ++ List.replicate m none)[i]? = some v → (s = .emp) ∨ (ρ[i]? = some s ∧ σ[i]? = some v) := fun {i s v} e1 e2 => by
    by_cases hi : i < ρ.length
    · rw [List.getElem?_append_left hi] at e1
      rw [List.getElem?_append_left (by omega)] at e2
      exact .inr ⟨e1, e2⟩
    · rw [List.getElem?_append_right (by omega)] at e1
      left
      rw [List.getElem?_replicate] at e1
      split at e1
      · exact (Option.some.inj e1).symm
      · cases e1
  refine ⟨⟨by simp [hl], R.sub, fun i s v e1 e2 => ?_, fun i j s t v u q e1 e2 e3 e4 o1 o2 => ?_⟩, fun q => ⟨fun ⟨i, s, v, e1, e2, o⟩ => ?_, fun ⟨i, s, v, e1, e2, o⟩ => ⟨i, s, v, ?_, ?_, o⟩⟩⟩
  · rcases at_ e1 e2 with rfl | ⟨k1, k2⟩
    · trivial
    · exact R.ok i s v k1 k2
  · rcases at_ e1 e2 with rfl | ⟨k1, k2⟩
    · exact o1.elim
    · rcases at_ e3 e4 with rfl | ⟨k3, k4⟩
      · exact o2.elim
      · exact R.dj i j s t v u q k1 k2 k3 k4 o1 o2
  · rcases at_ e1 e2 with rfl | ⟨k1, k2⟩
    · exact o.elim
    · exact ⟨i, s, v, k1, k2, o⟩
  · rw [List.getElem?_append_left (List.getElem?_eq_some_iff.mp e1).1]; exact e1
  · rw [List.getElem?_append_left (List.getElem?_eq_some_iff.mp e2).1]; exact e2
/-- a def of the text does what its body does -/
theorem def_ok {P : Program} {w : World} {K : Fr0} {mg : Str → Option Value} {base : Heap} {I : ExI} {x qual : Str} {st : Stmt} {f : Addr} {fd : FuncData} {N ps : List Str} {k n m : Nat} {pr : List Nat} {g : M Fl}
    (Fn : Fun K x qual st f fd) (S : FnScope N ps (defScope st)) (hps : ps.length = n) (hN : N.length = n + m)
    (hb : ∀ (X : Cx) (W : WX), X.prog = P → X.w = w → X.K = K → X.mg = mg → X.base = base → Cn X W N (defScope st) (fun _ => true) k → CB X W I (fun i => i ∈ pr) g (defBody st)) :
    FnOk P w K mg base (L2.CX P w) (k + 1) f fd ps (spF K I n (mDef n m pr g)) := by
  refine Fn.okX S (fun vs H Q E h => by rw [hps]; exact h.1) fun cdv A outer s H vs Q E hr h => ?_
  obtain ⟨hl, F, as, R, z⟩ := h
  obtain ⟨t, h1, q⟩ := (hb (cxOf (L2.CX P w) P w K mg base N qual (defScope st) f cdv A outer s H E) (fun cls d _ H => E cls d H) rfl rfl rfl rfl rfl
    ⟨rfl, rfl, S.nd, takes_of rfl rfl rfl rfl, passes_of rfl, hr, rfl, fun _ _ => rfl⟩).run
  refine ⟨t, h1, ?_⟩
  have hla : as.length = n := by have := R.len; simp at this; omega
  obtain ⟨R1, o1⟩ := R.pad m
  have hst : L2.start N vs = vs.map some ++ List.replicate m none := by
    unfold L2.start
    rw [hN, hl, Nat.add_sub_cancel_left]
  rw [hst]
  unfold mDef at z
  rw [if_pos hla] at z
  have par : ∀ {σ' : St}, (∀ i, i ∈ pr → σ'[i]? = (vs.map some ++ List.replicate m none)[i]?) → ∀ i ∈ pr, i < n → σ'[i]? = (vs.map some)[i]? := fun {σ'} h i hi hlt => by
    rw [h i hi, List.getElem?_append_left (by simp; omega)]
  refine q F H _ _ _ R1 ?_
  cases e : g (as ++ List.replicate m .emp) with
  | bad => rw [e] at z; exact z.elim
  | exc x ρ =>
    rw [e] at z
    intro F' H' σ' cls d xr P'
    obtain ⟨Ro, oo⟩ := P'.rp.outs hl (par P'.pr)
    exact z F' H' cls d xr Ro (P'.ext.weak (fun q h => (o1 q).mp h) fun q h => .inl (oo q h))
  | ok fl ρ =>
    rw [e] at z
    cases fl with
    | next =>
      intro F' H' σ' P'
      obtain ⟨Ro, oo⟩ := P'.rp.outs hl (par P'.pr)
      exact z F' H' .non ⟨Ro, ⟨⟨.non, rfl, by rw [rep_none]⟩, fun _ z => z.elim⟩, P'.ext.weak (fun q h => (o1 q).mp h) fun q h => .inl (h.elim (fun z => z.elim) (oo q))⟩
    | ret s =>
      intro F' H' σ' v P'
      obtain ⟨Ro, oo⟩ := P'.rp.outs hl (par P'.pr)
      exact z F' H' v ⟨Ro, ⟨P'.ok, fun q o z => P'.dj q o (oo q z)⟩, P'.ext.weak (fun q h => (o1 q).mp h) fun q h => .inl (h.imp id (oo q))⟩
    | brk => exact z.elim
    | cont => exact z.elim
end SD

set_option Elab.async false
set_option linter.all false
set_option autoImplicit false
set_option maxRecDepth 100000
set_option maxHeartbeats 4000000
/-! SD, part H: list comprehensions. -/
namespace SD
open PySem PySem.Spec PyProof.Rows L2

/-! ### readings that hang on the written part alone -/
def tcE (X : Cx) (W : WX) (I : ExI) (f : M Slot) : TE := fun σ H Q => ∃ F ρ, Rp X.K F H ρ σ ∧ (f ρ).sat (fun s ρ' => ∀ F' H' v, Post X.K F H ρ σ F' H' ρ' (.sl s) v → Q v H') (XC X W I F H (OwnE ρ σ) σ)
def tcT (X : Cx) (W : WX) (I : ExI) (c : M Bool) : TT := fun σ H Q => ∃ F ρ, Rp X.K F H ρ σ ∧ (c ρ).sat (fun b ρ' => ∀ F' H', PostB X.K F H ρ σ F' H' ρ' → Q b H') (XC X W I F H (OwnE ρ σ) σ)
def tcG (X : Cx) (pr : Nat → Prop) (g : Tg) : TG := fun v σ H Q => ∃ F ρ d ρ', Rp X.K F H ρ σ ∧ Rep X.K F d v ∧ g d ρ = some ρ' ∧ ∀ σ', PostS X.K pr F H ρ σ F H ρ' σ' → Q σ' H
section
variable {X : Cx} {W : WX} {I : ExI} {pr : Nat → Prop} {e : Expr}
theorem CA.can {f : M Slot} (h : CE X W I f e) : PE X e (tcE X W I f) := by
  obtain ⟨t, h1, q⟩ := h.of
  exact ⟨fun pins s σ H Q J ⟨F, ρ, R, z⟩ => h1.run pins s σ H Q J (q F H ρ σ Q R z)⟩
theorem CT.can {f : M Bool} (h : CT X W I f e) : PT X e (tcT X W I f) := by
  obtain ⟨t, h1, q⟩ := h.run
  exact ⟨fun pins s σ H Q J ⟨F, ρ, R, z⟩ => h1.run pins s σ H Q J (q F H ρ σ Q R z)⟩
theorem CG.can {g : Tg} (h : CG X pr g e) : PG X e (tcG X pr g) := by
  obtain ⟨t, h1, q⟩ := h.run
  exact ⟨fun pins s σ H v u Q J r ⟨F, ρ, d, ρ', R, rp, eg, z⟩ => h1.run pins s σ H v u Q J r (q F H ρ σ d v Q ρ' R rp eg z)⟩
end
abbrev W0 : WX := fun _ _ _ _ => False
def Out.noexc {α : Type} : Out α → Out α
  | .ok a ρ => .ok a ρ
  | _ => .bad
theorem Out.sat_noexc {α : Type} {o : Out α} {k : α → En → Prop} {x : Exc → En → Prop} (h : o.noexc.sat k x) : o.sat k (fun _ _ => False) := by
  cases o <;> exact h
def wipeE (ρ : En) : List Nat → En
  | [] => ρ
  | v :: vs => (wipeE ρ vs).set v .emp
/-- the comprehension's own names put back to what they were outside -/
def restE (ρ ρ' : En) : List Nat → En
  | [] => ρ'
  | v :: vs => (restE ρ ρ' vs).set v (En.at ρ v)
def compL (vs : List Nat) (g : Tg) (c : M Bool) (f : M Slot) : List D → List D → M (List D)
  | [], acc => fun ρ => .ok acc ρ
  | d :: ds, acc => fun ρ => match g d (wipeE ρ vs) with
    | none => .bad
    | some ρ1 => (c ρ1).bind fun b ρ2 => if b then (f ρ2).bind fun s ρ3 => match s.data with
        | some x => if acc.length < 16777216 then compL vs g c f ds (acc ++ [x]) ρ3 else .bad
        | none => .bad
      else compL vs g c f ds acc ρ2
def mYes : M Bool := fun ρ => .ok true ρ
def mComp (src : M (List D)) (vs : List Nat) (g : Tg) (c : M Bool) (f : M Slot) : M Slot := fun ρ => (src ρ).bind fun ds ρ1 => ((compL vs g c f ds [] (wipeE ρ1 vs)).noexc).bind fun acc ρ2 => .ok (.lst acc) (restE ρ1 ρ2 vs)

theorem wipeE_length (ρ : En) : ∀ vs : List Nat, (wipeE ρ vs).length = ρ.length
  | [] => rfl
  | v :: vs => by unfold wipeE; rw [List.length_set, wipeE_length ρ vs]
theorem restE_length (ρ ρ' : En) : ∀ vs : List Nat, (restE ρ ρ' vs).length = ρ'.length
  | [] => rfl
  | v :: vs => by unfold restE; rw [List.length_set, restE_length ρ ρ' vs]
theorem wipeE_in {ρ : En} {i : Nat} {s : Slot} : ∀ {vs : List Nat}, i ∈ vs → (wipeE ρ vs)[i]? = some s → s = .emp
  | v :: vs, h, e => by
    unfold wipeE at e
    by_cases hv : v = i
    · subst hv
      by_cases hl : v < (wipeE ρ vs).length
      · rw [List.getElem?_set_self hl] at e; exact (Option.some.inj e).symm
      · rw [List.getElem?_eq_none (by simpa using hl)] at e; cases e
    · rw [List.getElem?_set_ne hv] at e
      rcases List.mem_cons.mp h with z | z
      · exact absurd z.symm hv
      · exact wipeE_in z e
theorem wipeE_out {ρ : En} {i : Nat} : ∀ {vs : List Nat}, i ∉ vs → (wipeE ρ vs)[i]? = ρ[i]?
  | [], _ => rfl
  | v :: vs, h => by
    unfold wipeE
    rw [List.getElem?_set_ne (fun e => h (by rw [e]; exact List.mem_cons_self)), wipeE_out fun z => h (List.mem_cons_of_mem _ z)]
theorem restE_in {ρ ρ' : En} {i : Nat} {s : Slot} : ∀ {vs : List Nat}, i ∈ vs → (restE ρ ρ' vs)[i]? = some s → s = En.at ρ i
  | v :: vs, h, e => by
    unfold restE at e
    by_cases hv : v = i
    · subst hv
      by_cases hl : v < (restE ρ ρ' vs).length
      · rw [List.getElem?_set_self hl] at e; exact (Option.some.inj e).symm
      · rw [List.getElem?_eq_none (by simpa using hl)] at e; cases e
    · rw [List.getElem?_set_ne hv] at e
      rcases List.mem_cons.mp h with z | z
      · exact absurd z.symm hv
      · exact restE_in z e
theorem restE_out {ρ ρ' : En} {i : Nat} : ∀ {vs : List Nat}, i ∉ vs → (restE ρ ρ' vs)[i]? = ρ'[i]?
  | [], _ => rfl
  | v :: vs, h => by
    unfold restE
    rw [List.getElem?_set_ne (fun e => h (by rw [e]; exact List.mem_cons_self)), restE_out fun z => h (List.mem_cons_of_mem _ z)]
theorem wipe_in {σ : St} {i : Nat} {v : Option V} : ∀ {vs : List Nat}, i ∈ vs → (wipe σ vs)[i]? = some v → v = none
  | w :: vs, h, e => by
    unfold wipe at e
    by_cases hv : w = i
    · subst hv
      by_cases hl : w < (wipe σ vs).length
      · rw [List.getElem?_set_self hl] at e; exact (Option.some.inj e).symm
      · rw [List.getElem?_eq_none (by simpa using hl)] at e; cases e
    · rw [List.getElem?_set_ne hv] at e
      rcases List.mem_cons.mp h with z | z
      · exact absurd z.symm hv
      · exact wipe_in z e
theorem Rp.wipe {K : Fr0} {F H : Hp} {ρ : En} {σ : St} (R : Rp K F H ρ σ) (vs : List Nat) : Rp K F H (wipeE ρ vs) (L2.wipe σ vs) ∧ ∀ q, OwnE (wipeE ρ vs) (L2.wipe σ vs) q → ∃ (i : Nat) (s : Slot) (v : Option V), i ∉ vs ∧ ρ[i]? = some s ∧ σ[i]? = some v ∧ Owns s v q := by
  have at_ : ∀ {i : Nat} {s : Slot} {v : Option V}, (wipeE ρ vs)[i]? = some s → (L2.wipe σ vs)[i]? = some v → s = .emp ∨ (i ∉ vs ∧ ρ[i]? = some s ∧ σ[i]? = some v) := fun {i s v} e1 e2 => by
    by_cases hi : i ∈ vs
    · exact .inl (wipeE_in hi e1)
    · exact .inr ⟨hi, by rw [← wipeE_out hi]; exact e1, by rw [← wipe_out hi]; exact e2⟩
  refine ⟨⟨by rw [wipeE_length, wipe_length]; exact R.len, R.sub, fun i s v e1 e2 => ?_, fun i j s t v u q e1 e2 e3 e4 o1 o2 => ?_⟩, fun q ⟨i, s, v, e1, e2, o⟩ => ?_⟩
  · rcases at_ e1 e2 with rfl | ⟨_, k1, k2⟩
    · trivial
    · exact R.ok i s v k1 k2
  · rcases at_ e1 e2 with rfl | ⟨_, k1, k2⟩
    · exact o1.elim
    · rcases at_ e3 e4 with rfl | ⟨_, k3, k4⟩
      · exact o2.elim
      · exact R.dj i j s t v u q k1 k2 k3 k4 o1 o2
  · rcases at_ e1 e2 with rfl | ⟨hi, k1, k2⟩
    · exact o.elim
    · exact ⟨i, s, v, hi, k1, k2, o⟩
/-- a block's state, seen from outside -/
theorem Rp.rest {K : Fr0} {F H F' H' : Hp} {ρ ρ' : En} {σ : St} {vs : List Nat} {O' : Addr → Prop} (R : Rp K F H ρ σ) (R' : Rp K F' H' ρ' (L2.wipe σ vs)) (x : Ext F H (OwnE (wipeE ρ vs) (L2.wipe σ vs)) F' H' O') (hO : ∀ q, OwnE ρ' (L2.wipe σ vs) q → O' q) :
    Rp K F' H' (restE ρ ρ' vs) σ ∧ ∀ q, OwnE (restE ρ ρ' vs) σ q → OwnE ρ' (L2.wipe σ vs) q ∨ (OwnE ρ σ q ∧ ¬ O' q) := by
  obtain ⟨_, ow⟩ := R.wipe vs
  have at_ : ∀ {i : Nat} {s : Slot} {v : Option V}, (restE ρ ρ' vs)[i]? = some s → σ[i]? = some v → (i ∈ vs ∧ ρ[i]? = some s) ∨ (i ∉ vs ∧ ρ'[i]? = some s ∧ (L2.wipe σ vs)[i]? = some v) := fun {i s v} e1 e2 => by
    by_cases hi : i ∈ vs
    · left
      have es := restE_in hi e1
      have hl : i < ρ.length := by rw [R.len]; exact (List.getElem?_eq_some_iff.mp e2).1
      refine ⟨hi, ?_⟩
      rw [es]
      unfold En.at
      rw [List.getElem?_eq_getElem hl]
      rfl
    · right
      exact ⟨hi, by rw [← restE_out hi]; exact e1, by rw [wipe_out hi]; exact e2⟩
  have apart : ∀ {i : Nat} {s : Slot} {v : Option V}, i ∈ vs → ρ[i]? = some s → σ[i]? = some v → ∀ q, Owns s v q → ¬ OwnE (wipeE ρ vs) (L2.wipe σ vs) q := fun {i s v} hi e1 e2 q o z => by
    obtain ⟨j, t, u, hj, k1, k2, o2⟩ := ow q z
    exact hj (R.dj i j s t v u q e1 e2 k1 k2 o o2 ▸ hi)
  have apart' : ∀ {i : Nat} {s : Slot} {v : Option V}, i ∈ vs → ρ[i]? = some s → σ[i]? = some v → ∀ q, Owns s v q → ¬ O' q := fun {i s v} hi e1 e2 q o => x.apart (R.ok i s v e1 e2) (apart hi e1 e2) q o
  refine ⟨⟨by rw [restE_length, R'.len, wipe_length], R'.sub, fun i s v e1 e2 => ?_, fun i j s t v u q e1 e2 e3 e4 o1 o2 => ?_⟩, fun q ⟨i, s, v, e1, e2, o⟩ => ?_⟩
  · rcases at_ e1 e2 with ⟨hi, k⟩ | ⟨_, k1, k2⟩
    · exact (R.ok i s v k e2).ext x (apart hi k e2)
    · exact R'.ok i s v k1 k2
  · rcases at_ e1 e2 with ⟨hi, k⟩ | ⟨_, k1, k2⟩
    · rcases at_ e3 e4 with ⟨hj, k'⟩ | ⟨_, k3, k4⟩
      · exact R.dj i j s t v u q k e2 k' e4 o1 o2
      · exact absurd (hO q ⟨j, t, u, k3, k4, o2⟩) (apart' hi k e2 q o1)
    · rcases at_ e3 e4 with ⟨hj, k'⟩ | ⟨_, k3, k4⟩
      · exact absurd (hO q ⟨i, s, v, k1, k2, o1⟩) (apart' hj k' e4 q o2)
      · exact R'.dj i j s t v u q k1 k2 k3 k4 o1 o2
  · rcases at_ e1 e2 with ⟨hi, k⟩ | ⟨_, k1, k2⟩
    · exact .inr ⟨⟨i, s, v, k, e2, o⟩, apart' hi k e2 q o⟩
    · exact .inl ⟨i, s, v, k1, k2, o⟩
theorem hv {vs : List Nat} (σ σ' : St) (hl : σ'.length = σ.length) (h : ∀ i, i ∉ vs → σ'[i]? = σ[i]?) : L2.wipe σ' vs = L2.wipe σ vs := by
  refine List.ext_getElem? fun j => ?_
  by_cases hj : j ∈ vs
  · cases e1 : (L2.wipe σ vs)[j]? with
    | none =>
      have := List.getElem?_eq_none_iff.mp e1
      rw [wipe_length] at this
      exact List.getElem?_eq_none_iff.mpr (by rw [wipe_length, hl]; exact this)
    | some s1 =>
      have hlt : j < (L2.wipe σ' vs).length := by
        have := (List.getElem?_eq_some_iff.mp e1).1
        rw [wipe_length] at this ⊢
        rw [hl]; exact this
      rw [wipe_in hj e1, List.getElem?_eq_getElem hlt]
      exact congrArg some (wipe_in hj (List.getElem?_eq_getElem hlt))
  · rw [wipe_out hj, wipe_out hj, h j hj]
section
variable {X : Cx} {W : WX} {I : ExI} {N : List Str} {sc : Scope} {cf : Str → Bool} {k : Nat}
/-- within a comprehension's block -/
theorem Cn.blk (c : Cn X W N sc cf k) {scope : Scope} {own : List (Str × Nat)} (s : Shared) (H : Hp) (C : Addr) (cl : List (Str × Addr)) (fp : List Addr) :
    Cn (X.blk s H scope (compEnvC scope cl C X.env) fp) W0 N (relS scope sc) (fun x => scope.names.lookup x == some .cell) k :=
  ⟨c.hN, by rw [← c.hs]; rfl, c.nd, takes0, PassesOwn.never, c.hr, c.calm, fun _ h => h⟩
theorem tLc_ok {tg iter : Expr} {src : M (List D)} {g : Tg} {cnd : M Bool} {f : M Slot} {vs : List Nat} {wi : TI} {F H : Hp} {ρ : En} {σ : St} {Q : VK} (R : Rp X.K F H ρ σ)
    (q1 : ∀ (F H : Hp) (ρ : En) (σ : St) (Rr : It → Hp → Prop), Rp X.K F H ρ σ → (src ρ).sat (fun ds ρ' => ∀ F' H' J, PostB X.K F H ρ σ F' H' ρ' → ItOk X.K F' ds J → Rr J H') (XC X W I F H (OwnE ρ σ) σ) → wi σ H Rr)
    (z : (mComp src vs g cnd f ρ).sat (fun s ρ' => ∀ F' H' v, Post X.K F H ρ σ F' H' ρ' (.sl s) v → Q v H') (XC X W I F H (OwnE ρ σ) σ)) :
    tLc wi (tcG X (fun i => i ∉ vs) g) (tcT X W0 I cnd) (tcE X W0 I f) vs σ H Q := by
  unfold mComp at z
  rw [Out.sat_bind] at z
  refine q1 F H ρ σ _ R (Out.sat_mono z (fun ds ρ1 _ y F1 H1 J P it => ?_) fun _ _ y => y)
  rw [Out.sat_bind] at y
  have y : (compL vs g cnd f ds [] (wipeE ρ1 vs)).sat (fun acc ρ2 => ∀ F' H' v, Post X.K F H ρ σ F' H' (restE ρ1 ρ2 vs) (.sl (.lst acc)) v → Q v H') (fun _ _ => False) := Out.sat_noexc y
  intro A nA
  obtain ⟨Rw, ow⟩ := P.rp.wipe vs
  have nO : ∀ q, OwnE (wipeE ρ1 vs) (L2.wipe σ vs) q → OwnE ρ1 σ q := fun q h => let ⟨i, s, v, _, e1, e2, o⟩ := ow q h; ⟨i, s, v, e1, e2, o⟩
  -- the state at the turn i
  let Inv (i : Nat) (H' : Hp) : Prop := ∃ F' ρ' acc vacc, Rp X.K F' H' ρ' (L2.wipe σ vs) ∧ Ext F1 H1 (OwnE (wipeE ρ1 vs) (L2.wipe σ vs)) F' H' (fun q => q = A ∨ OwnE ρ' (L2.wipe σ vs) q) ∧ H' A = some (.lst vacc) ∧ F' A = none ∧ Reps X.K F' acc vacc ∧
    ¬ OwnE ρ' (L2.wipe σ vs) A ∧ (compL vs g cnd f (ds.drop i) acc ρ').sat (fun acc ρ2 => ∀ F' H' v, Post X.K F H ρ σ F' H' (restE ρ1 ρ2 vs) (.sl (.lst acc)) v → Q v H') (fun _ _ => False)
  refine ⟨fun i m H' => m = ds.length - i ∧ i ≤ ds.length ∧ Inv i H', ⟨ds.length, by simp, Nat.zero_le _, F1, wipeE ρ1 vs, [], [], ?_, ?_, upd_same, P.rp.sub.free nA, by rw [reps_nil], ?_, ?_⟩, ?_⟩
  · exact ⟨Rw.len, Rw.sub.trans (same_upd nA), fun i s v e1 e2 => (Rw.ok i s v e1 e2).ext (O := fun _ => False) (O' := fun q => q = A) ⟨Same.refl _, fun a h h' => absurd h h', fun a o h _ => same_upd nA a o h, fun a h => .inl (by cases (show a = A from h); exact nA)⟩ fun _ _ z => z, Rw.dj⟩
  · exact ⟨Same.refl _, fun a h h' => absurd h h', fun a o h _ => same_upd nA a o h, fun a h => h.elim (fun h => .inl (by cases h; exact nA)) .inr⟩
  · intro z
    obtain ⟨_, u, hu⟩ := Rw.ownF z
    rw [nA] at hu; cases hu
  · simpa using y
  rintro i m H' ⟨rfl, hle, F', ρ', acc, vacc, R', x', hA, fA, ra, nOA, z'⟩
  by_cases hlt : i < ds.length
  · have sF := x'.sub
    obtain ⟨go, yld⟩ := it.go i F' H' sF R'.sub hlt
    refine .inr ⟨go, fun H2 => i + 1 ≤ ds.length ∧ Inv (i + 1) H2, fun H2 ⟨hle2, h⟩ => ⟨ds.length - (i + 1), by omega, rfl, hle2, h⟩, fun xv H2 hy => ?_⟩
    obtain ⟨F2, s1, s2, s3, nF, d, ed, r⟩ := yld xv H2 hy
    have xy : Ext F' H' (fun _ => False) F2 H2 (fun _ => False) := ⟨s1, fun a h h' => .inl (nF a h h'), fun a o h _ => s3 a o h, fun a h => h.elim⟩
    have R2 := R'.ext xy s2 fun _ _ z => z
    have hA2 : H2 A = some (.lst vacc) := s3 A _ hA
    have fA2 : F2 A = none := by
      cases e : F2 A with
      | none => rfl
      | some o => have := nF A fA (by rw [e]; simp); rw [hA] at this; cases this
    have x2 : Ext F1 H1 (OwnE (wipeE ρ1 vs) (L2.wipe σ vs)) F2 H2 (fun q => q = A ∨ OwnE ρ' (L2.wipe σ vs) q) := x'.trans (xy.weak (fun _ z => z.elim) fun q h => .inr h)
    obtain ⟨R3, ow3⟩ := R2.wipe vs
    have hww : L2.wipe (L2.wipe σ vs) vs = L2.wipe σ vs := hv σ _ (by rw [wipe_length]) fun i hi => wipe_out hi
    rw [hww] at R3 ow3
    have sub3 : ∀ q, OwnE (wipeE ρ' vs) (L2.wipe σ vs) q → OwnE ρ' (L2.wipe σ vs) q := fun q h => let ⟨i, s, v, _, e1, e2, o⟩ := ow3 q h; ⟨i, s, v, e1, e2, o⟩
    have ed' : ds.drop i = d :: ds.drop (i + 1) := by
      rw [List.drop_eq_getElem_cons hlt]
      congr 1
      exact (List.getElem?_eq_some_iff.mp ed).2
    rw [ed'] at z'
    have z3 : (match g d (wipeE ρ' vs) with
      | none => Out.bad
      | some ρ1 => (cnd ρ1).bind fun b ρ2 => if b then (f ρ2).bind fun s ρ3 => (match s.data with
          | some x => if acc.length < 16777216 then compL vs g cnd f (ds.drop (i + 1)) (acc ++ [x]) ρ3 else .bad
          | none => .bad)
        else compL vs g cnd f (ds.drop (i + 1)) acc ρ2 : Out (List D)).sat _ _ := z'
    cases eg : g d (wipeE ρ' vs) with
    | none => rw [eg] at z3; exact z3.elim
    | some ρ3 =>
      rw [eg] at z3
      have z4 : ((cnd ρ3).bind fun b ρ2 => if b then (f ρ2).bind fun s ρ3 => (match s.data with
          | some x => if acc.length < 16777216 then compL vs g cnd f (ds.drop (i + 1)) (acc ++ [x]) ρ3 else .bad
          | none => .bad)
        else compL vs g cnd f (ds.drop (i + 1)) acc ρ2 : Out (List D)).sat _ _ := z3
      rw [Out.sat_bind] at z4
      refine ⟨F2, wipeE ρ' vs, d, ρ3, R3, r, eg, fun σ3 P3 => ?_⟩
      have hw3 : L2.wipe σ3 vs = L2.wipe (L2.wipe σ vs) vs := hv _ _ P3.len fun i hi => P3.pr i hi
      refine ⟨hw3.trans hww, F2, ρ3, P3.rp, Out.sat_mono z4 (fun b ρ4 _ y4 F4 H4 P4 => ?_) fun _ _ y => y.elim⟩
      -- what the block's names own is forgotten behind the turn
      have back : ∀ {F5 H5 : Hp} {ρ5 : En}, Rp X.K F5 H5 ρ5 σ3 → Ext F2 H2 (OwnE (wipeE ρ' vs) (L2.wipe σ vs)) F5 H5 (OwnE ρ5 σ3) → ∃ ρ6, ρ6 = wipeE ρ5 vs ∧ Rp X.K F5 H5 ρ6 (L2.wipe σ vs) ∧ (∀ q, OwnE ρ6 (L2.wipe σ vs) q → OwnE ρ5 σ3 q) := fun {F5 H5 ρ5} R5 x5 => by
        obtain ⟨a, b⟩ := R5.wipe vs
        rw [hw3, hww] at a b
        exact ⟨_, rfl, a, fun q h => let ⟨i, s, v, _, e1, e2, o⟩ := b q h; ⟨i, s, v, e1, e2, o⟩⟩
      have wipe2 : ∀ ρ5 : En, wipeE (wipeE ρ5 vs) vs = wipeE ρ5 vs := fun ρ5 => by
        refine List.ext_getElem? fun j => ?_
        by_cases hj : j ∈ vs
        · cases e1 : (wipeE (wipeE ρ5 vs) vs)[j]? with
          | none =>
            have := List.getElem?_eq_none_iff.mp e1
            rw [wipeE_length] at this
            exact (List.getElem?_eq_none_iff.mpr this).symm
          | some s1 =>
            have hl : j < (wipeE ρ5 vs).length := by
              have := (List.getElem?_eq_some_iff.mp e1).1
              rw [wipeE_length] at this; exact this
            rw [wipeE_in hj e1, List.getElem?_eq_getElem hl]
            exact congrArg some (wipeE_in hj (List.getElem?_eq_getElem hl)).symm
        · rw [wipeE_out hj]
      have compW : ∀ (es : List D) (acc : List D) (ρ5 : En) (K1 : List D → En → Prop) , (∀ a r r', restE ρ1 r vs = restE ρ1 r' vs → K1 a r → K1 a r') → (compL vs g cnd f es acc ρ5).sat K1 (fun _ _ => False) → (compL vs g cnd f es acc (wipeE ρ5 vs)).sat K1 (fun _ _ => False) := fun es acc ρ5 K1 hK h => by
        cases es with
        | nil =>
          refine hK acc ρ5 (wipeE ρ5 vs) ?_ h
          refine List.ext_getElem? fun j => ?_
          by_cases hj : j ∈ vs
          · cases e1 : (restE ρ1 ρ5 vs)[j]? with
            | none =>
              have := List.getElem?_eq_none_iff.mp e1
              rw [restE_length] at this
              exact (List.getElem?_eq_none_iff.mpr (by rw [restE_length, wipeE_length]; exact this)).symm
            | some s1 =>
              have hl : j < (restE ρ1 (wipeE ρ5 vs) vs).length := by
                have := (List.getElem?_eq_some_iff.mp e1).1
                rw [restE_length] at this
                rw [restE_length, wipeE_length]; exact this
              rw [restE_in hj e1, List.getElem?_eq_getElem hl]
              exact congrArg some (restE_in hj (List.getElem?_eq_getElem hl)).symm
          · rw [restE_out hj, restE_out hj, wipeE_out hj]
        | cons d es =>
          unfold compL at h ⊢
          rw [wipe2]
          exact h
      have K1ok : ∀ (a : List D) (r r' : En), restE ρ1 r vs = restE ρ1 r' vs → (∀ F' H' v, Post X.K F H ρ σ F' H' (restE ρ1 r vs) (.sl (.lst a)) v → Q v H') → (∀ F' H' v, Post X.K F H ρ σ F' H' (restE ρ1 r' vs) (.sl (.lst a)) v → Q v H') := fun a r r' e h => by rw [← e]; exact h
      have P3x : Ext F2 H2 (OwnE (wipeE ρ' vs) (L2.wipe σ vs)) F2 H2 (OwnE ρ3 σ3) := P3.ext
      have nA3 : ¬ OwnE (wipeE ρ' vs) (L2.wipe σ vs) A := fun z => nOA (sub3 A z)
      have keepA : ∀ {F5 H5 : Hp} {O5 : Addr → Prop}, Ext F2 H2 (OwnE (wipeE ρ' vs) (L2.wipe σ vs)) F5 H5 O5 → H5 A = some (.lst vacc) ∧ F5 A = none ∧ ¬ O5 A := fun {F5 H5 O5} x5 => by
        refine ⟨x5.keep A _ hA2 nA3, ?_, fun z => ?_⟩
        · cases e : F5 A with
          | none => rfl
          | some o =>
            rcases x5.newF A fA2 (by rw [e]; simp) with y | y
            · rw [hA2] at y; cases y
            · exact absurd y nA3
        · rcases x5.newO A z with y | y
          · rw [hA2] at y; cases y
          · exact nA3 y
      cases b with
      | false =>
        rw [if_neg Bool.false_ne_true] at y4
        dsimp only
        rw [if_neg Bool.false_ne_true]
        have x4 := P3x.trans P4.ext
        obtain ⟨ρ6, e6, R6, o6⟩ := back P4.rp x4
        obtain ⟨k1, k2, k3⟩ := keepA x4
        refine ⟨hlt, F4, ρ6, acc, vacc, R6, x2.trans (x4.weak (fun q h => .inr (sub3 q h)) fun q h => ?_), k1, k2, Reps.mono (s1.trans x4.sub) _ _ ra, fun z => k3 (o6 A z), ?_⟩
        · rcases h with h | h
          · exact .inr (.inl h)
          · exact .inl (o6 q h)
        · rw [e6]; exact compW _ _ _ _ K1ok y4
      | true =>
        rw [if_pos rfl] at y4
        dsimp only
        rw [if_pos rfl]
        rw [Out.sat_bind] at y4
        refine ⟨F4, ρ4, P4.rp, Out.sat_mono y4 (fun s ρ5 _ y5 F5 H5 v P5 => ?_) fun _ _ y => y.elim⟩
        cases es : s.data with
        | none => rw [es] at y5; exact y5.elim
        | some dv =>
          rw [es] at y5
          have y6 : (if acc.length < 16777216 then compL vs g cnd f (ds.drop (i + 1)) (acc ++ [dv]) ρ5 else .bad).sat _ _ := y5
          by_cases hlen : acc.length < 16777216
          · rw [if_pos hlen] at y6
            obtain ⟨F6, s6, r6, R6, x6⟩ := freeze P5 es
            have x7 := (P3x.trans P4.ext).trans x6
            obtain ⟨ρ7, e7, R7, o7⟩ := back R6 x7
            obtain ⟨k1, k2, k3⟩ := keepA x7
            have hal : acc.length = vacc.length := ra.length
            refine ⟨vacc, k1, by rw [sizeLine_eq]; omega, hlt, F6, ρ7, acc ++ [dv], vacc ++ [v], ?_, ?_, upd_same, k2, Reps.append (Reps.mono (s1.trans x7.sub) _ _ ra) (.one r6), fun z => k3 (o7 A z), ?_⟩
            · have xu : Ext F6 H5 (fun q => q = A) F6 (upd H5 A (.lst (vacc ++ [v]))) (fun q => q = A) := ⟨Same.refl _, fun a h h' => absurd h h', fun a o h n => by rw [upd_ne n]; exact h, fun a h => .inr h⟩
              refine R7.ext xu (fun b u e => ?_) fun q z z' => by cases (show q = A from z'); exact k3 (o7 _ z)
              by_cases hb : b = A
              · subst hb; rw [k2] at e; cases e
              · rw [upd_ne hb]; exact R7.sub b u e
            · have xu : Ext F6 H5 (fun q => q = A ∨ OwnE ρ7 (L2.wipe σ vs) q) F6 (upd H5 A (.lst (vacc ++ [v]))) (fun q => q = A ∨ OwnE ρ7 (L2.wipe σ vs) q) := ⟨Same.refl _, fun a h h' => absurd h h', fun a o h n => by rw [upd_ne fun z => n (.inl z)]; exact h, fun a h => .inr h⟩
              refine (x2.trans (x7.weak (fun q h => .inr (sub3 q h)) fun q h => ?_)).trans xu
              rcases h with h | h
              · exact .inr (.inl h)
              · exact .inl (o7 q h)
            · rw [e7]; exact compW _ _ _ _ K1ok y6
          · rw [if_neg hlen] at y6; exact y6.elim
  · have e : i = ds.length := by omega
    subst e
    rw [List.drop_length] at z'
    obtain ⟨Rf, of⟩ := P.rp.rest R' x' fun q h => .inr h
    refine .inl ⟨it.stop _ F' H' x'.sub R'.sub (Nat.le_refl _), z' F' H' (.ref A) ⟨Rf, ⟨⟨A, vacc, rfl, hA, fA, ra⟩, fun q o z => ?_⟩, P.ext.trans (x'.weak nO fun q h => ?_)⟩⟩
    · cases (show q = A from o)
      rcases of A z with y | ⟨_, y⟩
      · exact nOA y
      · exact y (.inl rfl)
    · rcases h with h | h
      · exact .inl (.inl h)
      · rcases of q h with y | ⟨y, _⟩
        · exact .inl (.inr y)
        · exact .inr y
end
end SD
namespace SD
open PySem PySem.Spec PyProof.Rows L2
section
variable {X : Cx} {W : WX} {I : ExI} {N : List Str} {sc : Scope} {cf : Str → Bool} {k : Nat}
structure CTs (X : Cx) (W : WX) (I : ExI) (c : M Bool) (ifs : List Expr) : Prop where
  can : PTs X ifs (tcT X W I c)
theorem cts_nil : CTs X W I mYes [] := ⟨⟨fun pins s σ H Q J ⟨F, ρ, R, z⟩ => pts_nil.run pins s σ H Q J (z F H (PostB.refl R))⟩⟩
theorem cts_one {c : M Bool} {e : Expr} (h : CT X W I c e) : CTs X W I c [e] := ⟨pts_one h.can⟩
variable {tg iter elt : Expr} {ifs : List Expr} {src : M (List D)} {g : Tg} {cnd : M Bool} {f : M Slot} {scope : Scope} {own : List (Str × Nat)} {pos : Pos}
theorem ce_lc (c : Cn X W N sc cf k) (hi : CI X W I tg src iter) (ok : blkC N sc scope own = true)
    (hg : ∀ (s : Shared) (H : Hp) (C : Addr) (cl : List (Str × Addr)) (fp : List Addr), Cn (X.blk s H scope (compEnvC scope cl C X.env) fp) W0 N (relS scope sc) (fun x => scope.names.lookup x == some .cell) k → CG (X.blk s H scope (compEnvC scope cl C X.env) fp) (fun i => i ∉ own.map (·.2)) g tg)
    (ht : ∀ (s : Shared) (H : Hp) (C : Addr) (cl : List (Str × Addr)) (fp : List Addr), Cn (X.blk s H scope (compEnvC scope cl C X.env) fp) W0 N (relS scope sc) (fun x => scope.names.lookup x == some .cell) k → CTs (X.blk s H scope (compEnvC scope cl C X.env) fp) W0 I cnd ifs)
    (he : ∀ (s : Shared) (H : Hp) (C : Addr) (cl : List (Str × Addr)) (fp : List Addr), Cn (X.blk s H scope (compEnvC scope cl C X.env) fp) W0 N (relS scope sc) (fun x => scope.names.lookup x == some .cell) k → CE (X.blk s H scope (compEnvC scope cl C X.env) fp) W0 I f elt)
    (hs : ∀ x, foldedSetIterable iter X.env x = pure x := by intro _; rfl) : CE X W I (mComp src (own.map (·.2)) g cnd f) (.ListComp elt [⟨tg, iter, ifs, 0⟩] scope pos) := by
  obtain ⟨wi, h1, q1⟩ := hi.run
  refine ce_mk (pe_lc (g := tcG X (fun i => i ∉ own.map (fun x : Str × Nat => x.2)) g) (tt := tcT X W0 I cnd) (te := tcE X W0 I f) c.calm (by rw [c.hN]; exact c.nd) h1 (by rw [c.hN, c.hs]; exact blkOk_by ok) (fun s H C cl fp => (hg s H C cl fp (c.blk (own := own) s H C cl fp)).can) (fun s H C cl fp => (ht s H C cl fp (c.blk (own := own) s H C cl fp)).can) (fun s H C cl fp => (he s H C cl fp (c.blk (own := own) s H C cl fp)).can) hs) fun F H ρ σ Q R z => ?_
  exact tLc_ok (tg := tg) (iter := iter) R q1 z
/-- name = [..] -/
theorem cs_setLc {i : Nat} {y : Str} {py spos : Pos} {pr : Nat → Prop} (c : Cn X W N sc cf k) (hy : N[i]? = some y) (hyl : locB sc y = true) (hpr : ¬ pr i)
    (hsw : swapsWith (.ListComp elt [⟨tg, iter, ifs, 0⟩] scope pos) (some (.Name y py)) spos.line X.env = pure true) (hi : CI X W I tg src iter) (ok : blkC N sc scope own = true)
    (hg : ∀ (s : Shared) (H : Hp) (C : Addr) (cl : List (Str × Addr)) (fp : List Addr), Cn (X.blk s H scope (compEnvC scope cl C X.env) fp) W0 N (relS scope sc) (fun x => scope.names.lookup x == some .cell) k → CG (X.blk s H scope (compEnvC scope cl C X.env) fp) (fun i => i ∉ own.map (·.2)) g tg)
    (ht : ∀ (s : Shared) (H : Hp) (C : Addr) (cl : List (Str × Addr)) (fp : List Addr), Cn (X.blk s H scope (compEnvC scope cl C X.env) fp) W0 N (relS scope sc) (fun x => scope.names.lookup x == some .cell) k → CTs (X.blk s H scope (compEnvC scope cl C X.env) fp) W0 I cnd ifs)
    (he : ∀ (s : Shared) (H : Hp) (C : Addr) (cl : List (Str × Addr)) (fp : List Addr), Cn (X.blk s H scope (compEnvC scope cl C X.env) fp) W0 N (relS scope sc) (fun x => scope.names.lookup x == some .cell) k → CE (X.blk s H scope (compEnvC scope cl C X.env) fp) W0 I f elt)
    (hs : ∀ x, foldedSetIterable iter X.env x = pure x := by intro _; rfl) : CS X W I pr (mSet i (mComp src (own.map (·.2)) g cnd f)) (.Assign [.Name y py] (.ListComp elt [⟨tg, iter, ifs, 0⟩] scope pos) spos) := by
  obtain ⟨wi, h1, q1⟩ := hi.run
  refine ⟨_, ps_setLc (i := i) (g := tcG X (fun i => i ∉ own.map (fun x : Str × Nat => x.2)) g) (tt := tcT X W0 I cnd) (te := tcE X W0 I f) c.calm (by rw [c.hN]; exact c.nd) (by rw [c.hN]; exact hy) (by rw [c.hs]; exact loc_of hyl) hsw h1 (by rw [c.hN, c.hs]; exact blkOk_by ok) (fun s H C cl fp => (hg s H C cl fp (c.blk (own := own) s H C cl fp)).can) (fun s H C cl fp => (ht s H C cl fp (c.blk (own := own) s H C cl fp)).can) (fun s H C cl fp => (he s H C cl fp (c.blk (own := own) s H C cl fp)).can) hs, fun F H ρ σ E R z => ?_⟩
  unfold mSet at z
  rw [Out.sat_bind] at z
  refine tLc_ok (tg := tg) (iter := iter) (Q := fun x H1 => gName i x σ H1 E.nx) R q1 (Out.sat_mono z (fun s ρ1 _ y F1 H1 v P => ?_) fun _ _ y => y.toC)
  exact y F1 H1 _ (post_set P hpr)
theorem sw_of {y : Str} {py spos : Pos} (c : Cn X W N sc cf k) (hk : sc.kind = .function) (hyl : locB sc y = true) (hl : (py.line == pos.line) = true)
    (ha : (scope.names.any fun (n, k) => n == y && (k == .local || k == .cell)) = false) : swapsWith (.ListComp elt [⟨tg, iter, ifs, 0⟩] scope pos) (some (.Name y py)) spos.line X.env = pure true :=
  sw_true (by rw [c.hs]; exact hk) (by rw [c.hs]; exact loc_of hyl) hl ha
end
end SD

set_option Elab.async false
set_option linter.all false
set_option autoImplicit false
set_option maxRecDepth 100000
set_option maxHeartbeats 4000000
/-! SD, part I: operations on data, one by one. -/
namespace SD
open PySem PySem.Spec PyProof.Rows L2

/-! ### data without dicts, read off the heap -/
mutual
theorem Rep.dp {K : Fr0} {H : Hp} : ∀ (d : D) (v : V), d.plain = true → Rep K H d v → Dp K H v d
  | .none, v, _, h => by rw [rep_none] at h; subst h; exact .non
  | .bool b, v, _, h => by rw [rep_bool] at h; subst h; exact .bl b
  | .int b, v, _, h => by rw [rep_int] at h; subst h; exact .int b
  | .str b, v, _, h => by rw [rep_str] at h; subst h; exact .str b
  | .list ds, v, p, h => by
    rw [rep_list] at h
    obtain ⟨a, vs, rfl, q, r⟩ := h
    exact .lst q (Reps.dp ds vs (by simpa [PyData.plain] using p) r)
  | .tuple ds, v, p, h => by
    rw [rep_tuple] at h
    obtain ⟨a, vs, rfl, q, r⟩ := h
    exact .tup q (Reps.dp ds vs (by simpa [PyData.plain] using p) r)
  | .dict _, v, p, _ => by simp [PyData.plain] at p
theorem Reps.dp {K : Fr0} {H : Hp} : ∀ (ds : List D) (vs : List V), PyData.plainAll ds = true → Reps K H ds vs → DpAll K H vs ds
  | [], vs, _, h => by rw [reps_nil] at h; subst h; exact .nil
  | d :: ds, vs, p, h => by
    rw [reps_cons] at h
    obtain ⟨v, r, rfl, h1, h2⟩ := h
    simp only [PyData.plainAll, Bool.and_eq_true] at p
    exact .cons (Rep.dp d v p.1 h1) (Reps.dp ds r p.2 h2)
end
section
variable {X : Cx} {pins : List (Addr × Obj)} {σ : St} {F H : Hp} {s : Shared}
theorem reads_of (J : Inv X pins σ H s) {d : D} {v : V} {u : Value} (sub : Same F H) (h : RepT X.K F H d v) (p : d.plain = true) (r : RelV v u) : ∃ as, Reads s.heap u d as :=
  Dp.reads J d v u (Rep.dp d v p (h.deep sub)) r
theorem readsAll_of (J : Inv X pins σ H s) {ds : List D} {vs : List V} {us : List Value} (sub : Same F H) (h : Reps X.K F ds vs) (p : PyData.plainAll ds = true) (r : Vals vs us) : ∃ as, ReadsAll s.heap us ds as :=
  Dp.readsAll J ds vs us (Reps.dp ds vs p (Reps.mono sub ds vs h)) r
theorem res_pure {x : D} {v : V} (sub : Same F H) (h : ∀ F, Rep X.K F x v) {Q : VK} (q : ∀ F' H' v, Res1 X.K F H F' H' (.val x) v → Q v H') : Q v H := q F H v (.val sub (h F))
theorem res_bool {b : Bool} (sub : Same F H) {Q : VK} (q : ∀ F' H' v, Res1 X.K F H F' H' (.val (.bool b)) v → Q v H') : Q (.bl b) H := q F H _ (.val sub (by rw [rep_bool]))
theorem res_int {b : Int} (sub : Same F H) {Q : VK} (q : ∀ F' H' v, Res1 X.K F H F' H' (.val (.int b)) v → Q v H') : Q (.int b) H := q F H _ (.val sub (by rw [rep_int]))
theorem res_str {b : Str} (sub : Same F H) {Q : VK} (q : ∀ F' H' v, Res1 X.K F H F' H' (.val (.str b)) v → Q v H') : Q (.str b) H := q F H _ (.val sub (by rw [rep_str]))
end
theorem top_int {K : Fr0} {F H : Hp} {i : Int} {v : V} (h : RepT K F H (.int i) v) : v = .int i := by have h' : Rep K F (.int i) v := h; rw [rep_int] at h'; exact h'
theorem top_bool {K : Fr0} {F H : Hp} {i : Bool} {v : V} (h : RepT K F H (.bool i) v) : v = .bl i := by have h' : Rep K F (.bool i) v := h; rw [rep_bool] at h'; exact h'
theorem top_str {K : Fr0} {F H : Hp} {i : Str} {v : V} (h : RepT K F H (.str i) v) : v = .str i := by have h' : Rep K F (.str i) v := h; rw [rep_str] at h'; exact h'
theorem top_none {K : Fr0} {F H : Hp} {v : V} (h : RepT K F H .none v) : v = .non := by have h' : Rep K F .none v := h; rw [rep_none] at h'; exact h'
theorem top_list {K : Fr0} {F H : Hp} {ds : List D} {v : V} (h : RepT K F H (.list ds) v) : ∃ a vs, v = .ref a ∧ SqL K H a vs ∧ Reps K F ds vs := h
theorem top_tuple {K : Fr0} {F H : Hp} (s : Same F H) {ds : List D} {v : V} (h : RepT K F H (.tuple ds) v) : ∃ a vs, v = .ref a ∧ SqT K H a vs ∧ Reps K F ds vs := by
  have h' : Rep K F (.tuple ds) v := h
  rw [rep_tuple] at h'
  obtain ⟨a, vs, e, q, r⟩ := h'
  exact ⟨a, vs, e, SqT.mono s q, r⟩
theorem rp1 {K : Fr0} {F H : Hp} {d : D} {vs : List V} {x : V} (h : RepTs K F H [d] [x]) : RepT K F H d x := h.1

/-! ### == and != -/
def eqOk (a b : D) : Bool := a.plain && b.plain && decide (min a.depth b.depth ≤ 60)
def pEq : List D → Option Slot
  | [a, b] => if eqOk a b then some (.val (.bool (PyData.eqv a b))) else none
  | _ => none
def pNe : List D → Option Slot
  | [a, b] => if eqOk a b then some (.val (.bool (!PyData.eqv a b))) else none
  | _ => none
theorem two_of {K : Fr0} {F H : Hp} {ds : List D} {x y : V} (h : RepTs K F H ds [x, y]) : ∃ a b, ds = [a, b] ∧ RepT K F H a x ∧ RepT K F H b y := by
  match ds, h with
  | [a, b], ⟨h1, h2, _⟩ => exact ⟨a, b, rfl, h1, h2⟩
  | [_], ⟨_, h⟩ => exact h.elim
  | [], h => exact h.elim
  | _ :: _ :: _ :: _, ⟨_, _, h⟩ => exact h.elim
theorem one_of {K : Fr0} {F H : Hp} {ds : List D} {x : V} (h : RepTs K F H ds [x]) : ∃ a, ds = [a] ∧ RepT K F H a x := by
  match ds, h with
  | [a], ⟨h1, _⟩ => exact ⟨a, rfl, h1⟩
  | [], h => exact h.elim
  | _ :: _ :: _, ⟨_, h⟩ => exact h.elim
theorem three_of {K : Fr0} {F H : Hp} {ds : List D} {x y z : V} (h : RepTs K F H ds [x, y, z]) : ∃ a b c, ds = [a, b, c] ∧ RepT K F H a x ∧ RepT K F H b y ∧ RepT K F H c z := by
  match ds, h with
  | [a, b, c], ⟨h1, h2, h3, _⟩ => exact ⟨a, b, c, rfl, h1, h2, h3⟩
  | [_, _], ⟨_, _, h⟩ => exact h.elim
  | [_], ⟨_, h⟩ => exact h.elim
  | [], h => exact h.elim
  | _ :: _ :: _ :: _ :: _, ⟨_, _, _, h⟩ => exact h.elim
section
variable {X : Cx} {k : Nat}
theorem op_eqP (hr : Room k X.A) : OpR X (compareOp .Eq) (fun x y => rP X.K pEq [x, y]) := by
  intro pins s σ H x y v u Q J rx ry ⟨F, ds, sl, sub, r, e, q⟩
  obtain ⟨a, b, rfl, h1, h2⟩ := two_of r
  have e : (if eqOk a b then some (Slot.val (.bool (PyData.eqv a b))) else none) = some sl := e
  split at e
  · rename_i ok
    cases e
    simp only [eqOk, Bool.and_eq_true, decide_eq_true_eq] at ok
    obtain ⟨as, k1⟩ := reads_of J sub h1 ok.1.1 rx
    obtain ⟨bs, k2⟩ := reads_of J sub h2 ok.1.2 ry
    have hu := hr.un
    exact SeqAt.eq_plain k1 k2 ok.1.1 ok.1.2 (by omega) ⟨.bl _, H, J, rfl, res_bool sub q⟩
  · cases e
theorem op_neP (hr : Room k X.A) : OpR X (compareOp .NotEq) (fun x y => rP X.K pNe [x, y]) := by
  intro pins s σ H x y v u Q J rx ry ⟨F, ds, sl, sub, r, e, q⟩
  obtain ⟨a, b, rfl, h1, h2⟩ := two_of r
  have e : (if eqOk a b then some (Slot.val (.bool (!PyData.eqv a b))) else none) = some sl := e
  split at e
  · rename_i ok
    cases e
    simp only [eqOk, Bool.and_eq_true, decide_eq_true_eq] at ok
    obtain ⟨as, k1⟩ := reads_of J sub h1 ok.1.1 rx
    obtain ⟨bs, k2⟩ := reads_of J sub h2 ok.1.2 ry
    have hu := hr.un
    exact SeqAt.ne_plain k1 k2 ok.1.1 ok.1.2 (by omega) ⟨.bl _, H, J, rfl, res_bool sub q⟩
  · cases e
end

/-! ### <, <=, >, >= -/
def ltOk (a b : D) : Bool := W.alike a b && (match a with | .none => false | _ => true) && decide (min a.depth b.depth ≤ 60)
def cmpP (fi : Int → Int → Bool) (fd : D → D → Bool) : List D → Option Slot
  | [.int i, .int j] => some (.val (.bool (fi i j)))
  | [a, b] => if ltOk a b && a.plain && b.plain then some (.val (.bool (fd a b))) else none
  | _ => none
def pLt := cmpP (fun i j => decide (i < j)) (fun a b => W.dataLt a b)
def pLe := cmpP (fun i j => decide (i ≤ j)) (fun a b => !W.dataLt b a)
def pGt := cmpP (fun i j => decide (j < i)) (fun a b => W.dataLt b a)
def pGe := cmpP (fun i j => decide (j ≤ i)) (fun a b => !W.dataLt a b)
section
variable {X : Cx} {k : Nat}
theorem op_cmpP {op : CmpOp} {fi : Int → Int → Bool} {fd : D → D → Bool} (hr : Room k X.A) (hi : OpR X (compareOp op) (rI0 fun i j => .bl (fi i j)))
    (hd : ∀ (s : Shared) (a b : Value) (da db : D) (as bs : List Addr) (Q : Value → Shared → Prop), Reads s.heap a da as → Reads s.heap b db bs → W.alike da db = true → da ≠ .none → X.A.units + min da.depth db.depth < cLine → Q (.bool (fd da db)) s → wpAny (model X.prog X.w) X.A (compareOp op a b) Q X.xe s) :
    OpR X (compareOp op) (fun x y => rP X.K (cmpP fi fd) [x, y]) := by
  intro pins s σ H x y v u Q J rx ry ⟨F, ds, sl, sub, r, e, q⟩
  obtain ⟨a, b, rfl, h1, h2⟩ := two_of r
  unfold cmpP at e
  split at e
  · rename_i heq
    cases heq
    cases e
    have e1 := top_int h1
    have e2 := top_int h2
    exact hi pins s σ H x y v u Q J rx ry ⟨_, _, e1, e2, res_bool sub q⟩
  · rename_i heq
    cases heq
    split at e
    · rename_i ok
      cases e
      simp only [ltOk, Bool.and_eq_true, decide_eq_true_eq] at ok
      obtain ⟨as, k1⟩ := reads_of J sub h1 ok.1.2 rx
      obtain ⟨bs, k2⟩ := reads_of J sub h2 ok.2 ry
      have hu := hr.un
      refine hd s v u _ _ as bs _ k1 k2 ok.1.1.1.1 (fun z => ?_) (by omega) ⟨.bl _, H, J, rfl, res_bool sub q⟩
      rw [z] at ok
      exact absurd ok.1.1.1.2 (by simp)
    · cases e
  · cases e
theorem op_ltP (hr : Room k X.A) : OpR X (compareOp .Lt) (fun x y => rP X.K pLt [x, y]) := op_cmpP hr op_lt fun _ _ _ _ _ _ _ _ h1 h2 h3 h4 h5 h6 => W.lt_data h1 h2 h3 h4 h5 h6
theorem op_leP (hr : Room k X.A) : OpR X (compareOp .LtE) (fun x y => rP X.K pLe [x, y]) := op_cmpP hr op_le fun _ _ _ _ _ _ _ _ h1 h2 h3 h4 h5 h6 => W.le_data h1 h2 h3 h4 h5 h6
theorem op_gtP (hr : Room k X.A) : OpR X (compareOp .Gt) (fun x y => rP X.K pGt [x, y]) := op_cmpP hr op_gt fun _ _ _ _ _ _ _ _ h1 h2 h3 h4 h5 h6 => W.gt_data h1 h2 h3 h4 h5 h6
theorem op_geP (hr : Room k X.A) : OpR X (compareOp .GtE) (fun x y => rP X.K pGe [x, y]) := op_cmpP hr op_ge fun _ _ _ _ _ _ _ _ h1 h2 h3 h4 h5 h6 => W.ge_data h1 h2 h3 h4 h5 h6
end

/-! ### in, not in -/
def inOk (d : D) (ds : List D) : Bool := d.plain && PyData.plainAll ds && decide (min (PyData.depthAll ds) d.depth ≤ 60)
def hasD (d : D) (ds : List D) : Bool := ds.any fun y => PyData.eqv y d
def subStr (i j : Str) : Bool := !(Builtin.Str.occurrences j i 0 j.length 1).isEmpty
def inP (neg : Bool) : List D → Option Slot
  | [.str i, .str j] => some (.val (.bool (if neg then !subStr i j else subStr i j)))
  | [d, .list ds] => if inOk d ds then some (.val (.bool (if neg then !hasD d ds else hasD d ds))) else none
  | [d, .tuple ds] => if inOk d ds then some (.val (.bool (if neg then !hasD d ds else hasD d ds))) else none
  | _ => none
def pIn := inP false
def pNotIn := inP true
section
variable {X : Cx} {k : Nat}
theorem op_inP (hr : Room k X.A) : OpR X (compareOp .In) (fun x y => rP X.K pIn [x, y]) := by
  intro pins s σ H x y v u Q J rx ry ⟨F, ds, sl, sub, r, e, q⟩
  obtain ⟨a, b, rfl, h1, h2⟩ := two_of r
  unfold pIn inP at e
  have hu := hr.un
  split at e
  · rename_i heq
    cases heq
    cases e
    exact op_in_str pins s σ H x y v u Q J rx ry ⟨_, _, top_str h1, top_str h2, res_bool sub q⟩
  · rename_i heq
    cases heq
    split at e
    · rename_i ok
      cases e
      simp only [inOk, Bool.and_eq_true, decide_eq_true_eq] at ok
      obtain ⟨as, k1⟩ := reads_of J sub h1 ok.1.1 rx
      obtain ⟨bs, k2⟩ := reads_of J sub h2 (by simpa [PyData.plain] using ok.1.2) ry
      exact SeqAt.in_list_data k2 k1 ok.1.2 ok.1.1 (by omega) ⟨.bl _, H, J, rfl, res_bool sub q⟩
    · cases e
  · rename_i heq
    cases heq
    split at e
    · rename_i ok
      cases e
      simp only [inOk, Bool.and_eq_true, decide_eq_true_eq] at ok
      obtain ⟨as, k1⟩ := reads_of J sub h1 ok.1.1 rx
      obtain ⟨bs, k2⟩ := reads_of J sub h2 (by simpa [PyData.plain] using ok.1.2) ry
      exact SeqAt.in_tuple_data k2 k1 ok.1.2 ok.1.1 (by omega) ⟨.bl _, H, J, rfl, res_bool sub q⟩
    · cases e
  · cases e
theorem op_notInP (hr : Room k X.A) : OpR X (compareOp .NotIn) (fun x y => rP X.K pNotIn [x, y]) := by
  intro pins s σ H x y v u Q J rx ry ⟨F, ds, sl, sub, r, e, q⟩
  obtain ⟨a, b, rfl, h1, h2⟩ := two_of r
  unfold pNotIn inP at e
  have hu := hr.un
  split at e
  · rename_i heq
    cases heq
    cases e
    exact op_notIn_str pins s σ H x y v u Q J rx ry ⟨_, _, top_str h1, top_str h2, res_bool sub q⟩
  · rename_i heq
    cases heq
    split at e
    · rename_i ok
      cases e
      simp only [inOk, Bool.and_eq_true, decide_eq_true_eq] at ok
      obtain ⟨as, k1⟩ := reads_of J sub h1 ok.1.1 rx
      obtain ⟨bs, k2⟩ := reads_of J sub h2 (by simpa [PyData.plain] using ok.1.2) ry
      exact SeqAt.notIn_list_data k2 k1 ok.1.2 ok.1.1 (by omega) ⟨.bl _, H, J, rfl, res_bool sub q⟩
    · cases e
  · rename_i heq
    cases heq
    split at e
    · rename_i ok
      cases e
      simp only [inOk, Bool.and_eq_true, decide_eq_true_eq] at ok
      obtain ⟨as, k1⟩ := reads_of J sub h1 ok.1.1 rx
      obtain ⟨bs, k2⟩ := reads_of J sub h2 (by simpa [PyData.plain] using ok.1.2) ry
      exact SeqAt.notIn_tuple_data k2 k1 ok.1.2 ok.1.1 (by omega) ⟨.bl _, H, J, rfl, res_bool sub q⟩
    · cases e
  · cases e
end

/-! ### is None -/
def isNone : D → Bool
  | .none => true
  | _ => false
def pIsN : List D → Option Slot
  | [a, .none] => some (.val (.bool (isNone a)))
  | _ => none
def pNotN : List D → Option Slot
  | [a, .none] => some (.val (.bool (!isNone a)))
  | _ => none
theorem isNone_iff {K : Fr0} {F H : Hp} {d : D} {v : V} (h : RepT K F H d v) : decide (v = .non) = isNone d := by
  cases d with
  | none => rw [top_none h]; rfl
  | bool b => rw [top_bool h]; rfl
  | int b => rw [top_int h]; rfl
  | str b => rw [top_str h]; rfl
  | list ds => obtain ⟨a, vs, rfl, _⟩ := top_list h; rfl
  | tuple ds => have h' : Rep K F (.tuple ds) v := h; rw [rep_tuple] at h'; obtain ⟨a, vs, rfl, _⟩ := h'; rfl
  | dict ds => obtain ⟨a, vs, rfl, _⟩ := h; rfl
section
variable {X : Cx}
theorem op_isNP : OpR X (compareOp .Is) (fun x y => rP X.K pIsN [x, y]) := by
  intro pins s σ H x y v u Q J rx ry ⟨F, ds, sl, sub, r, e, q⟩
  obtain ⟨a, b, rfl, h1, h2⟩ := two_of r
  unfold pIsN at e
  split at e
  · rename_i heq
    cases heq
    cases e
    exact op_isN pins s σ H x y v u Q J rx ry ⟨top_none h2, by rw [isNone_iff h1]; exact res_bool sub q⟩
  · cases e
theorem op_notNP : OpR X (compareOp .IsNot) (fun x y => rP X.K pNotN [x, y]) := by
  intro pins s σ H x y v u Q J rx ry ⟨F, ds, sl, sub, r, e, q⟩
  obtain ⟨a, b, rfl, h1, h2⟩ := two_of r
  unfold pNotN at e
  split at e
  · rename_i heq
    cases heq
    cases e
    exact op_notN pins s σ H x y v u Q J rx ry ⟨top_none h2, by rw [isNone_iff h1]; exact res_bool sub q⟩
  · cases e
end
end SD

set_option Elab.async false
set_option linter.all false
set_option autoImplicit false
set_option maxRecDepth 100000
set_option maxHeartbeats 4000000
/-! SD, part J: arithmetic, places, slices, built-in functions, methods of texts. -/
namespace SD
open PySem PySem.Spec PyProof.Rows L2

/-! ### + - * // % ** -/
def pAdd : List D → Option Slot
  | [.int i, .int j] => some (.val (.int (i + j)))
  | [.str a, .str b] => if lineOk (a.length + b.length) then some (.val (.str (a ++ b))) else none
  | [.list a, .list b] => if lineOk (a.length + b.length) then some (.lst (a ++ b)) else none
  | [.tuple a, .tuple b] => if lineOk (a.length + b.length) then some (.val (.tuple (a ++ b))) else none
  | _ => none
def pSub : List D → Option Slot
  | [.int i, .int j] => some (.val (.int (i - j)))
  | _ => none
instance (i j : Int) : Decidable (CMul i j) := by unfold CMul; infer_instance
instance (i j : Int) : Decidable (CDivW i j) := by unfold CDivW; infer_instance
instance (i j : Int) : Decidable (CMulW i j) := by unfold CMulW; infer_instance
instance (i j : Int) : Decidable (CPow i j) := by unfold CPow; infer_instance
def CMulA (i j : Int) : Prop := (Builtin.Int.intBits i : Int) + (Builtin.Int.intBits j : Int) ≤ 134217728
instance {i j : Int} : Decidable (CMulA i j) := inferInstanceAs (Decidable (_ ≤ _))
def pMul : List D → Option Slot
  | [.int i, .int j] => if CMul i j ∨ CMulA i j then some (.val (.int (i * j))) else none
  | [.str a, .int n] => if a.length ≤ 4096 ∧ -4096 ≤ n ∧ n ≤ 4096 then some (.val (.str (Txt.mul a n))) else none
  | _ => none
def pDiv : List D → Option Slot
  | [.int i, .int j] => if CDivW i j then some (.val (.int (i / j))) else none
  | _ => none
def pMod : List D → Option Slot
  | [.int i, .int j] => if 0 < j then some (.val (.int (i % j))) else none
  | _ => none
def pPow : List D → Option Slot
  | [.int i, .int j] => if CPow i j then some (.val (.int (i ^ j.toNat))) else none
  | _ => none
def pNeg : List D → Option Slot
  | [.int i] => some (.val (.int (-i)))
  | _ => none
section
variable {X : Cx} {k : Nat}
/-- two lists, as they are to be read -/
theorem op_catL : OpR X (binaryOp .Add) (fun x y H Q => ∃ l b xs zs, x = .ref l ∧ y = .ref b ∧ SqL X.K H l xs ∧ SqL X.K H b zs ∧ xs.length + zs.length ≤ sizeLine ∧ ∀ p, H p = none → Q (.ref p) (upd H p (.lst (xs ++ zs)))) := by
  intro pins s σ H x y v u Q J rx ry h
  obtain ⟨l, b, xs, zs, rfl, rfl, hH, hB, hz, q⟩ := h
  cases rx
  cases ry
  obtain ⟨its, r, p1, _⟩ := J.list hH
  obtain ⟨its2, r2, p2, _⟩ := J.list hB
  obtain ⟨⟨cls, dd, data, sl⟩, ho, hc, n, hd⟩ := p1.isList
  obtain ⟨⟨cls2, dd2, data2, sl2⟩, ho2, hc2, n2, hd2⟩ := p2.isList
  simp only at hc hd hc2 hd2
  subst hc hd hc2 hd2
  have e : its.toArray ++ its2.toArray = (its ++ its2).toArray := by simp
  refine concat_meets ⟨_, ho, rfl⟩ ⟨_, ho2, rfl⟩ noFill_list_add seq_list_add PySem.F.slot_list_add PySem.F.entry_list_add (PySem.F.args_list_add_2 _ _) (list_addW l b its.toArray its2.toArray n n2 dd dd2 sl sl2 (by simp only [List.size_toArray]; rw [← r.length, ← r2.length]; exact hz)) ⟨ho, ho2, ?_⟩
  rw [e]
  exact ⟨.ref _, _, J.lnew (t' := s.toks) (r.append r2) (by rw [List.length_append]; exact hz), rfl, q _ J.fresh⟩
theorem op_addP : OpR X (binaryOp .Add) (fun x y => rP X.K pAdd [x, y]) := by
  intro pins s σ H x y v u Q J rx ry ⟨F, ds, sl, sub, r, e, q⟩
  obtain ⟨a, b, rfl, h1, h2⟩ := two_of r
  unfold pAdd at e
  split at e
  · rename_i heq; cases heq; cases e
    exact op_add pins s σ H x y v u Q J rx ry ⟨_, _, top_int h1, top_int h2, res_int sub q⟩
  · rename_i heq; cases heq
    split at e
    · rename_i hl; cases e
      exact op_add_str pins s σ H x y v u Q J rx ry ⟨_, _, top_str h1, top_str h2, lineOk_line hl, res_str sub q⟩
    · cases e
  · rename_i heq; cases heq
    split at e
    · rename_i hl; cases e
      obtain ⟨a, vs, rfl, s1, r1⟩ := top_list h1
      obtain ⟨b, ws, rfl, s2, r2⟩ := top_list h2
      exact op_catL pins s σ H _ _ v u Q J rx ry ⟨a, b, vs, ws, rfl, rfl, s1, s2, by rw [← r1.length, ← r2.length]; exact lineOk_line hl, fun p np => q _ _ _ (.lst sub (r1.append r2) np)⟩
    · cases e
  · rename_i da db heq; cases heq
    split at e
    · rename_i hl; cases e
      have h1' : Rep X.K F (.tuple da) x := h1
      have h2' : Rep X.K F (.tuple db) y := h2
      obtain ⟨a, vs, rfl, s1, r1⟩ := top_tuple sub h1
      obtain ⟨b, ws, rfl, s2, r2⟩ := top_tuple sub h2
      have l1 := r1.length
      have l2 := r2.length
      refine op_catA pins s σ H _ _ v u Q J rx ry ⟨a, b, vs, ws, rfl, rfl, s1, s2, by rw [← l1, ← l2]; exact lineOk_line hl, fun e => ?_, fun e1 e2 => ?_, fun e1 e2 p np => q _ _ _ (.tup sub (r1.append r2) np)⟩
      · have e0 : da = [] := List.length_eq_zero_iff.mp (by rw [l1, e]; rfl)
        subst e0
        exact q F H _ (.val sub h2')
      · have e0 : db = [] := List.length_eq_zero_iff.mp (by rw [l2, e2]; rfl)
        subst e0
        exact q F H _ (.val sub (by rw [List.append_nil]; exact h1'))
    · cases e
  · cases e
theorem op_subP : OpR X (binaryOp .Sub) (fun x y => rP X.K pSub [x, y]) := by
  intro pins s σ H x y v u Q J rx ry ⟨F, ds, sl, sub, r, e, q⟩
  obtain ⟨a, b, rfl, h1, h2⟩ := two_of r
  unfold pSub at e
  split at e
  · rename_i heq; cases heq; cases e
    exact op_sub pins s σ H x y v u Q J rx ry ⟨_, _, top_int h1, top_int h2, res_int sub q⟩
  · cases e
theorem op_mulP : OpR X (binaryOp .Mult) (fun x y => rP X.K pMul [x, y]) := by
  intro pins s σ H x y v u Q J rx ry ⟨F, ds, sl, sub, r, e, q⟩
  obtain ⟨a, b, rfl, h1, h2⟩ := two_of r
  unfold pMul at e
  split at e
  · rename_i heq; cases heq
    split at e
    · rename_i hl; cases e
      rcases hl with hl | hl
      · exact op_mul pins s σ H x y v u Q J rx ry ⟨_, _, top_int h1, top_int h2, hl, res_int sub q⟩
      · exact op_mulX pins s σ H x y v u Q J rx ry ⟨_, _, top_int h1, top_int h2, hl, res_int sub q⟩
    · cases e
  · rename_i heq; cases heq
    split at e
    · rename_i hl; cases e
      obtain rfl := top_str h1
      obtain rfl := top_int h2
      obtain ⟨t, rfl⟩ := rx
      obtain ⟨t', rfl⟩ := ry
      exact SB.mul (mulOk_of 4096 4096 hl.1 hl.2.2 (by omega) (by decide) (by decide)) fun t' k => ⟨.str _, H, J.tok _, ⟨_, rfl⟩, res_str sub q⟩
    · cases e
  · cases e
theorem op_divP : OpR X (binaryOp .FloorDiv) (fun x y => rP X.K pDiv [x, y]) := by
  intro pins s σ H x y v u Q J rx ry ⟨F, ds, sl, sub, r, e, q⟩
  obtain ⟨a, b, rfl, h1, h2⟩ := two_of r
  unfold pDiv at e
  split at e
  · rename_i heq; cases heq
    split at e
    · rename_i hl; cases e
      exact op_fdivW pins s σ H x y v u Q J rx ry ⟨_, _, top_int h1, top_int h2, hl, res_int sub q⟩
    · cases e
  · cases e
theorem op_modP : OpR X (binaryOp .Mod) (fun x y => rP X.K pMod [x, y]) := by
  intro pins s σ H x y v u Q J rx ry ⟨F, ds, sl, sub, r, e, q⟩
  obtain ⟨a, b, rfl, h1, h2⟩ := two_of r
  unfold pMod at e
  split at e
  · rename_i heq; cases heq
    split at e
    · rename_i hl; cases e
      exact op_mod pins s σ H x y v u Q J rx ry ⟨_, _, top_int h1, top_int h2, hl, res_int sub q⟩
    · cases e
  · cases e
theorem op_powP : OpR X (binaryOp .Pow) (fun x y => rP X.K pPow [x, y]) := by
  intro pins s σ H x y v u Q J rx ry ⟨F, ds, sl, sub, r, e, q⟩
  obtain ⟨a, b, rfl, h1, h2⟩ := two_of r
  unfold pPow at e
  split at e
  · rename_i heq; cases heq
    split at e
    · rename_i hl; cases e
      exact op_pow pins s σ H x y v u Q J rx ry ⟨_, _, top_int h1, top_int h2, hl, res_int sub q⟩
    · cases e
  · cases e
theorem un_negP : UnR X (unaryOp .USub) (fun x => rP X.K pNeg [x]) := by
  intro pins s σ H x v Q J rx ⟨F, ds, sl, sub, r, e, q⟩
  obtain ⟨a, rfl, h1⟩ := one_of r
  unfold pNeg at e
  split at e
  · rename_i heq; cases heq; cases e
    exact un_neg pins s σ H x v Q J rx ⟨_, top_int h1, res_int sub q⟩
  · cases e
end

/-! ### places -/
def pIx : List D → Option Slot
  | [.list ds, .int i] => (atI ds i).map .val
  | [.tuple ds, .int i] => (atI ds i).map .val
  | [.str z, .int i] => if lineOk z.length then (atI z.cps.toList i).map fun c => .val (.str ⟨#[c]⟩) else none
  | _ => none
theorem reps_atI {K : Fr0} {F : Hp} {ds : List D} {vs : List V} {i : Int} {d : D} (r : Reps K F ds vs) (e : atI ds i = some d) : ∃ v, atI vs i = some v ∧ Rep K F d v := by
  unfold atI at e ⊢
  rw [← r.length]
  cases q : ixN ds.length i with
  | none => rw [q] at e; cases e
  | some j =>
    rw [q] at e
    exact r.get e
section
variable {X : Cx} {k : Nat}
theorem ix_P : IxR X (fun x y => rP X.K pIx [x, y]) := by
  intro va sx pins s σ H x y v u Q J rx ry ⟨F, ds, sl, sub, r, e, q⟩ hs
  obtain ⟨a, b, rfl, h1, h2⟩ := two_of r
  unfold pIx at e
  split at e
  · rename_i ds i heq; cases heq
    cases e2 : atI ds i with
    | none => rw [e2] at e; cases e
    | some d =>
      rw [e2] at e; cases e
      obtain ⟨a, vs, rfl, s1, r1⟩ := top_list h1
      obtain ⟨w, ew, rw'⟩ := reps_atI r1 e2
      exact ix_list va sx pins s σ H _ y v u Q J rx ry ⟨a, vs, i, w, rfl, top_int h2, s1, ew, q F H w (.val sub rw')⟩ hs
  · rename_i ds i heq; cases heq
    cases e2 : atI ds i with
    | none => rw [e2] at e; cases e
    | some d =>
      rw [e2] at e; cases e
      obtain ⟨a, vs, rfl, s1, r1⟩ := top_tuple sub h1
      obtain ⟨w, ew, rw'⟩ := reps_atI r1 e2
      exact ix_tup va sx pins s σ H _ y v u Q J rx ry ⟨a, vs, i, w, rfl, top_int h2, s1, ew, q F H w (.val sub rw')⟩ hs
  · rename_i z i heq; cases heq
    split at e
    · rename_i hl
      cases e2 : atI z.cps.toList i with
      | none => rw [e2] at e; cases e
      | some c =>
        rw [e2] at e; cases e
        exact ix_str va sx pins s σ H x y v u Q J rx ry ⟨z, i, c, top_str h1, top_int h2, lineOk_line hl, e2, res_str sub q⟩ hs
    · cases e
  · cases e
end

/-! ### slices -/
/-- a slice's part: left out, or an argument -/
inductive PE' where
  | no
  | a (x : AE)
def sIx := HT.sIx
def cutD (ds : List D) (lo hi : Option Int) : List D := (ds.drop (HT.sIx ds.length 0 lo)).take (HT.sIx ds.length ds.length hi - HT.sIx ds.length 0 lo)
def pSl (lo hi : Option Int) : D → Option Slot
  | .list ds => some (.lst (cutD ds lo hi))
  | .tuple ds => some (.val (.tuple (cutD ds lo hi)))
  | .str z => if lineOk z.length then some (.val (.str (cutS z lo hi))) else none
  | _ => none
theorem reps_cut {K : Fr0} {F : Hp} {ds : List D} {vs : List V} (r : Reps K F ds vs) (lo hi : Option Int) : Reps K F (cutD ds lo hi) (cutV vs lo hi) := by
  unfold cutD cutV
  rw [← r.length]
  exact (r.drop _).take _
section
variable {X : Cx}
def rSlP (K : Fr0) : V → Option Int → Option Int → Hp → VK → Prop := fun x lo hi H Q => ∃ F d s, Same F H ∧ RepT K F H d x ∧ pSl lo hi d = some s ∧ ∀ F' H' v, Res1 K F H F' H' s v → Q v H'
theorem sl_P : SlR X (rSlP X.K) := by
  intro pins s σ H x v vl vu lo hi slc Q J rx hs pl pu ⟨F, d, sl, sub, r, e, q⟩
  unfold pSl at e
  split at e
  · cases e
    obtain ⟨a, vs, rfl, s1, r1⟩ := top_list r
    exact sl_list pins s σ H _ v vl vu lo hi slc Q J rx hs pl pu ⟨a, vs, rfl, s1, fun p np => q _ _ _ (.lst sub (reps_cut r1 lo hi) np)⟩
  · rename_i ds
    cases e
    have r' : Rep X.K F (.tuple ds) x := r
    obtain ⟨a, vs, rfl, s1, r1⟩ := top_tuple sub r
    refine sl_tupA pins s σ H _ v vl vu lo hi slc Q J rx hs pl pu ⟨a, vs, rfl, s1, fun h => ?_, fun _ p np => q _ _ _ (.tup sub (reps_cut r1 lo hi) np)⟩
    refine q F H _ (.val sub ?_)
    have : cutD ds lo hi = ds := by
      unfold cutD
      rw [← r1.length] at h
      rw [h.1, h.2, List.drop_zero, Nat.sub_zero, List.take_length]
    rw [this]
    exact r'
  · split at e
    · rename_i hl; cases e
      exact sl_str pins s σ H x v vl vu lo hi slc Q J rx hs pl pu ⟨_, top_str r, lineOk_line hl, res_str sub q⟩
    · cases e
  · cases e
end
/-- a[lo:hi] -/
def partI : Option AE → M (Option Int)
  | none => fun ρ => .ok none ρ
  | some a => fun ρ => (evA a ρ).bind fun g ρ' => match (g.slot ρ').data with
    | some (.int i) => .ok (some i) ρ'
    | _ => .bad
def mSlice (a : AE) (lo hi : Option AE) : M Slot := fun ρ => (evA a ρ).bind fun g ρ1 => (partI lo ρ1).bind fun l ρ2 => (partI hi ρ2).bind fun h ρ3 => match (g.slot ρ3).data.bind (pSl l h) with
  | some s => .ok s ρ3
  | none => .bad
section
variable {X : Cx} {W : WX} {I : ExI}
structure CP (X : Cx) (W : WX) (I : ExI) (a : Option AE) (e : Option Expr) : Prop where
  run : ∃ t, PO X e t ∧ ∀ (F H : Hp) (ρ : En) (σ : St) (Q : Option Int → Hp → Prop), Rp X.K F H ρ σ →
    (partI a ρ).sat (fun o ρ' => ∀ F' H', PostB X.K F H ρ σ F' H' ρ' → Q o H') (XC X W I F H (OwnE ρ σ) σ) → t σ H Q
theorem cp_none : CP X W I none none := ⟨_, po_none, fun F H ρ σ Q R z => z F H (PostB.refl R)⟩
theorem post_argB {K : Fr0} {F H F' H' : Hp} {ρ ρ' : En} {σ : St} {g : Arg} {v : V} (P : Post K F H ρ σ F' H' ρ' g v) : PostB K F H ρ σ F' H' ρ' := ⟨P.rp, P.ext.weak (fun _ h => h) fun q h => .inl (.inr h)⟩
theorem cp_some {a : AE} {e : Expr} (h : CA X W I a e) : CP X W I (some a) (some e) := by
  obtain ⟨t, h1, q⟩ := h.run
  refine ⟨_, po_some h1, fun F H ρ σ Q R z => q F H ρ σ _ R ?_⟩
  unfold partI at z
  rw [Out.sat_bind] at z
  refine Out.sat_mono z (fun g ρ' _ y F' H' v P => ?_) fun _ _ y => y
  split at y
  · rename_i i ei
    exact ⟨i, top_int (arg_top P.rp P.ok ei), y F' H' (post_argB P)⟩
  · exact y.elim
theorem ce_slice {a : AE} {lo hi : Option AE} {ea : Expr} {elo ehi : Option Expr} {p2 pos : Pos} (ha : CA X W I a ea) (hl : CP X W I lo elo) (hh : CP X W I hi ehi) : CE X W I (mSlice a lo hi) (.Subscript ea (.Slice elo ehi none p2) pos) := by
  obtain ⟨t, h1, q1⟩ := ha.run
  obtain ⟨tl, h2, q2⟩ := hl.run
  obtain ⟨th, h3, q3⟩ := hh.run
  refine ce_mk (pe_slice sl_P h1 h2 h3) fun F H ρ σ Q R z => ?_
  unfold mSlice at z
  rw [Out.sat_bind] at z
  refine q1 F H ρ σ _ R (Out.sat_mono z (fun g ρ1 _ y F1 H1 v P => ?_) fun _ _ y => y)
  rw [Out.sat_bind] at y
  have PB := post_argB P
  refine q2 F1 H1 ρ1 σ _ P.rp (Out.sat_mono y (fun l ρ2 _ y2 F2 H2 P2 => ?_) fun _ _ y2 => XC.step y2 P.ext fun q h => .inr h)
  rw [Out.sat_bind] at y2
  refine q3 F2 H2 ρ2 σ _ P2.rp (Out.sat_mono y2 (fun h ρ3 _ y3 F3 H3 P3 => ?_) fun _ _ y3 => XC.step (XC.step y3 P.ext fun q h => .inr h) P2.ext fun q h => h)
  have P4 := P2.after P3
  -- the value stands as it stood
  have ok3 : ArgOk X.K F3 H3 ρ3 σ g v := P.ok.ext P4.ext fun _ h => h
  have PL : PostL X.K F H ρ σ F3 H3 ρ3 [g] [v] := by
    refine ⟨P4.rp, ⟨ok3, fun q _ z => z, trivial⟩, P.ext.trans (P4.ext.weak (fun q h => .inr h) fun q h => ?_)⟩
    rcases h with h | h
    · exact .inr (h.elim .inl fun z => z.elim)
    · exact .inl h
  cases ed : (g.slot ρ3).data with
  | none => rw [ed] at y3; exact y3.elim
  | some d =>
    cases es : pSl l h d with
    | none => simp only [ed, Option.bind, es] at y3; exact y3.elim
    | some s =>
      simp only [ed, Option.bind, es] at y3
      exact ⟨F3, d, s, P4.rp.sub, arg_top P4.rp ok3 ed, es, fun F' H' v' r => y3 F' H' v' (prim_post PL r)⟩
end
end SD

set_option Elab.async false
set_option linter.all false
set_option autoImplicit false
set_option maxRecDepth 100000
set_option maxHeartbeats 4000000
/-! SD, part K: built-in functions, methods of texts, chains of comparisons, dicts written, lists changed. -/
namespace SD
open PySem PySem.Spec PyProof.Rows L2
section
variable {X : Cx} {W : WX} {I : ExI} {as : List AE} {a b c : AE} {e ea eb ec : Expr} {es : List Expr} {p : List D → Option Slot} {bid T : String} {x : Str} {pp pos apos : Pos}
theorem ce_callB (hc : CallR X (.builtin bid) (rP X.K p)) (hg : Gl X x) (hm : X.mg x = none) (hv : bootBuiltins x = some (.builtin bid)) (ha : CAs X W I as (e :: es)) (hn : x ≠ "__name__" := by decide) (hdb : (x == ("__debug__" : Str)) = false := by decide)
    (he : starEach (e :: es) X.env = (false, eval e X.env) :: starEach es X.env := by rfl) (hpl : (backTo pos (starEach es X.env)).any (·.1) = false := by rfl) : CE X W I (mPrim p as) (.Call (.Name x pp) (e :: es) [] pos) := by
  obtain ⟨t, h1, q⟩ := ha.run
  exact ce_mk (pe_callB hc hg hm hv h1 hn hdb he hpl) fun F H ρ σ Q R z => q F H ρ σ _ R (prim_sat' z)
theorem ce_callTy (hc : CallR X (.type T) (rP X.K p)) (hg : Gl X x) (hm : X.mg x = none) (hv : bootBuiltins x = some (.type T)) (ha : CAs X W I as (e :: es)) (hn : x ≠ "__name__" := by decide) (hdb : (x == ("__debug__" : Str)) = false := by decide)
    (he : starEach (e :: es) X.env = (false, eval e X.env) :: starEach es X.env := by rfl) (hpl : (backTo pos (starEach es X.env)).any (·.1) = false := by rfl) : CE X W I (mPrim p as) (.Call (.Name x pp) (e :: es) [] pos) := by
  obtain ⟨t, h1, q⟩ := ha.run
  exact ce_mk (pe_callTy hc hg hm hv h1 hn hdb he hpl) fun F H ρ σ Q R z => q F H ρ σ _ R (prim_sat' z)

/-! ### len, abs, min, max, str, tuple, list, all, any, sum -/
def pLen : List D → Option Slot
  | [.list ds] => some (.val (.int ds.length))
  | [.tuple ds] => some (.val (.int ds.length))
  | [.str z] => if lineOk z.length then some (.val (.int z.length)) else none
  | _ => none
theorem call_lenP : CallR X (.builtin "len") (rP X.K pLen) := by
  intro pins s σ H xs us Q J r ⟨F, ds, sl, sub, rr, e, q⟩
  unfold pLen at e
  split at e
  · cases e
    match xs, rr with
    | [v], ⟨h, _⟩ =>
      obtain ⟨a, vs, rfl, s1, r1⟩ := top_list h
      exact call_len pins s σ H _ us Q J r ⟨.ref a, vs.length, rfl, .inl ⟨vs, s1, rfl⟩, by rw [← r1.length]; exact res_int sub q⟩
    | [], h => exact h.elim
    | _ :: _ :: _, ⟨_, h⟩ => exact h.elim
  · cases e
    match xs, rr with
    | [v], ⟨h, _⟩ =>
      obtain ⟨a, vs, rfl, s1, r1⟩ := top_tuple sub h
      exact call_len pins s σ H _ us Q J r ⟨.ref a, vs.length, rfl, .inr ⟨vs, s1, rfl⟩, by rw [← r1.length]; exact res_int sub q⟩
    | [], h => exact h.elim
    | _ :: _ :: _, ⟨_, h⟩ => exact h.elim
  · split at e
    · rename_i z hl
      cases e
      match xs, rr with
      | [v], ⟨h, _⟩ =>
        have hv := top_str h
        subst hv
        exact call_len pins s σ H _ us Q J r ⟨.str z, z.length, rfl, ⟨lineOk_line hl, rfl⟩, res_int sub q⟩
      | [], h => exact h.elim
      | _ :: _ :: _, ⟨_, h⟩ => exact h.elim
    · cases e
  · cases e
theorem vals_one {K : Fr0} {F H : Hp} {d : D} {xs : List V} (h : RepTs K F H [d] xs) : ∃ v, xs = [v] ∧ RepT K F H d v := by
  match xs, h with
  | [v], ⟨h, _⟩ => exact ⟨v, rfl, h⟩
  | [], h => exact h.elim
  | _ :: _ :: _, ⟨_, h⟩ => exact h.elim
theorem vals_two {K : Fr0} {F H : Hp} {d d' : D} {xs : List V} (h : RepTs K F H [d, d'] xs) : ∃ v w, xs = [v, w] ∧ RepT K F H d v ∧ RepT K F H d' w := by
  match xs, h with
  | [v, w], ⟨h, h', _⟩ => exact ⟨v, w, rfl, h, h'⟩
  | [_], ⟨_, h⟩ => exact h.elim
  | [], h => exact h.elim
  | _ :: _ :: _ :: _, ⟨_, _, h⟩ => exact h.elim
def pAbs : List D → Option Slot
  | [.int i] => some (.val (.int (if i < 0 then -i else i)))
  | _ => none
theorem call_absP : CallR X (.builtin "abs") (rP X.K pAbs) := by
  intro pins s σ H xs us Q J r ⟨F, ds, sl, sub, rr, e, q⟩
  unfold pAbs at e
  split at e
  · cases e
    obtain ⟨v, rfl, h⟩ := vals_one rr
    exact call_abs pins s σ H _ us Q J r ⟨_, by rw [top_int h], res_int sub q⟩
  · cases e
def pMax2 : List D → Option Slot
  | [.int i, .int j] => some (.val (.int (if j > i then j else i)))
  | _ => none
def pMin2 : List D → Option Slot
  | [.int i, .int j] => some (.val (.int (if j < i then j else i)))
  | _ => none
theorem call_max2P (hc : X.calm = true) : CallR X (.builtin "max") (rP X.K pMax2) := by
  intro pins s σ H xs us Q J r ⟨F, ds, sl, sub, rr, e, q⟩
  unfold pMax2 at e
  split at e
  · cases e
    obtain ⟨v, w, rfl, h, h'⟩ := vals_two rr
    exact call_max2 hc pins s σ H _ us Q J r ⟨_, _, by rw [top_int h, top_int h'], res_int sub q⟩
  · cases e
theorem call_min2P (hc : X.calm = true) : CallR X (.builtin "min") (rP X.K pMin2) := by
  intro pins s σ H xs us Q J r ⟨F, ds, sl, sub, rr, e, q⟩
  unfold pMin2 at e
  split at e
  · cases e
    obtain ⟨v, w, rfl, h, h'⟩ := vals_two rr
    exact call_min2 hc pins s σ H _ us Q J r ⟨_, _, by rw [top_int h, top_int h'], res_int sub q⟩
  · cases e
/-- str(n) -/
def pStr : List D → Option Slot
  | [.int i] => if i.natAbs.log2 < 1920 then some (.val (.str (toString i))) else none
  | _ => none
theorem call_strP : CallR X (.type "str") (rP X.K pStr) := by
  intro pins s σ H xs us Q J r ⟨F, ds, sl, sub, rr, e, q⟩
  unfold pStr at e
  split at e
  · split at e
    · rename_i hl
      cases e
      obtain ⟨v, rfl, h⟩ := vals_one rr
      exact call_str_int pins s σ H _ us Q J r ⟨_, by rw [top_int h], hl, res_str sub q⟩
    · cases e
  · cases e
/-- int(flag), int(n) -/
def pInt : List D → Option Slot
  | [.int i] => some (.val (.int i))
  | [.bool b] => some (.val (.int (if b then 1 else 0)))
  | _ => none
def pTuple : List D → Option Slot
  | [.list ds] => some (.val (.tuple ds))
  | [.tuple ds] => some (.val (.tuple ds))
  | _ => none
theorem call_tupleP : CallR X (.type "tuple") (rP X.K pTuple) := by
  intro pins s σ H xs us Q J r ⟨F, ds, sl, sub, rr, e, q⟩
  unfold pTuple at e
  split at e
  · cases e
    obtain ⟨v, rfl, h⟩ := vals_one rr
    obtain ⟨a, vs, rfl, s1, r1⟩ := top_list h
    exact call_tuple_of pins s σ H _ us Q J r ⟨a, vs, rfl, .inl ⟨s1, fun l nl => q _ _ _ (.tup sub r1 nl)⟩⟩
  · rename_i es
    cases e
    obtain ⟨v, rfl, h⟩ := vals_one rr
    have h' : Rep X.K F (.tuple es) v := h
    obtain ⟨a, vs, rfl, s1, r1⟩ := top_tuple sub h
    exact call_tuple_of pins s σ H _ us Q J r ⟨a, vs, rfl, .inr ⟨s1, q F H _ (.val sub h')⟩⟩
  · cases e
def pList : List D → Option Slot
  | [.list ds] => some (.lst ds)
  | [.tuple ds] => some (.lst ds)
  | _ => none
theorem call_listP : CallR X (.type "list") (rP X.K pList) := by
  intro pins s σ H xs us Q J r ⟨F, ds, sl, sub, rr, e, q⟩
  unfold pList at e
  split at e
  · cases e
    obtain ⟨v, rfl, h⟩ := vals_one rr
    obtain ⟨a, vs, rfl, s1, r1⟩ := top_list h
    exact call_list_of pins s σ H _ us Q J r ⟨a, vs, rfl, .inl s1, fun l nl => q _ _ _ (.lst sub r1 nl)⟩
  · cases e
    obtain ⟨v, rfl, h⟩ := vals_one rr
    obtain ⟨a, vs, rfl, s1, r1⟩ := top_tuple sub h
    exact call_list_of pins s σ H _ us Q J r ⟨a, vs, rfl, .inr s1, fun l nl => q _ _ _ (.lst sub r1 nl)⟩
  · cases e
def boolsOf : List D → Option (List Bool)
  | [] => some []
  | .bool b :: ds => (boolsOf ds).map (b :: ·)
  | _ => none
theorem reps_bools {K : Fr0} {F : Hp} : ∀ {ds : List D} {vs : List V} {bs : List Bool}, Reps K F ds vs → boolsOf ds = some bs → vs = bs.map V.bl
  | [], vs, bs, r, e => by cases e; rw [reps_nil] at r; exact r
  | d :: ds, vs, bs, r, e => by
    rw [reps_cons] at r
    obtain ⟨v, w, rfl, r1, r2⟩ := r
    cases d with
    | bool b =>
      have e' : (boolsOf ds).map (b :: ·) = some bs := e
      cases q : boolsOf ds with
      | none => rw [q] at e'; cases e'
      | some cs =>
        rw [q] at e'
        cases e'
        rw [rep_bool] at r1
        rw [r1, reps_bools r2 q]
        rfl
    | _ => cases e
def pAll : List D → Option Slot
  | [.list ds] => (boolsOf ds).map fun bs => .val (.bool (bs.all id))
  | _ => none
def pAny : List D → Option Slot
  | [.list ds] => (boolsOf ds).map fun bs => .val (.bool (bs.any id))
  | _ => none
theorem call_allP (hc : X.calm = true) : CallR X (.builtin "all") (rP X.K pAll) := by
  intro pins s σ H xs us Q J r ⟨F, ds, sl, sub, rr, e, q⟩
  unfold pAll at e
  split at e
  · rename_i es
    cases e2 : boolsOf es with
    | none => rw [e2] at e; cases e
    | some bs =>
      rw [e2] at e
      cases e
      obtain ⟨v, rfl, h⟩ := vals_one rr
      obtain ⟨a, vs, rfl, s1, r1⟩ := top_list h
      rw [reps_bools r1 e2] at s1
      exact cr_all hc pins s σ H _ us Q J r ⟨a, bs, rfl, s1, res_bool sub q⟩
  · cases e
theorem call_anyP (hc : X.calm = true) : CallR X (.builtin "any") (rP X.K pAny) := by
  intro pins s σ H xs us Q J r ⟨F, ds, sl, sub, rr, e, q⟩
  unfold pAny at e
  split at e
  · rename_i es
    cases e2 : boolsOf es with
    | none => rw [e2] at e; cases e
    | some bs =>
      rw [e2] at e
      cases e
      obtain ⟨v, rfl, h⟩ := vals_one rr
      obtain ⟨a, vs, rfl, s1, r1⟩ := top_list h
      rw [reps_bools r1 e2] at s1
      exact cr_any hc pins s σ H _ us Q J r ⟨a, bs, rfl, s1, res_bool sub q⟩
  · cases e

/-! ### isinstance -/
inductive Ty where
  | int | bool | str | tuple | list | dict
def Ty.name : Ty → String
  | .int => "int" | .bool => "bool" | .str => "str" | .tuple => "tuple" | .list => "list" | .dict => "dict"
inductive Kd where
  | none | bool | int | str | list | tuple | dict
def kd : D → Kd
  | .none => .none | .bool _ => .bool | .int _ => .int | .str _ => .str | .list _ => .list | .tuple _ => .tuple | .dict _ => .dict
def Kd.name : Kd → String
  | .none => "NoneType" | .bool => "bool" | .int => "int" | .str => "str" | .list => "list" | .tuple => "tuple" | .dict => "dict"
def tyTab : Ty → Kd → Bool
  | .int, .int => true
  | .int, .bool => true
  | .bool, .bool => true
  | .str, .str => true
  | .tuple, .tuple => true
  | .list, .list => true
  | .dict, .dict => true
  | _, _ => false
def isTy (t : Ty) (d : D) : Bool := tyTab t (kd d)
def tyName (d : D) : String := (kd d).name
theorem kit_tab (t : Ty) (k : Kd) : kitB k.name t.name = some (tyTab t k) := by
  cases t <;> cases k <;> decide +kernel
theorem kit_isTy (t : Ty) (d : D) : kitB (tyName d) t.name = some (isTy t d) := kit_tab t (kd d)
theorem tyX_of {K : Fr0} {F H : Hp} (sub : Same F H) {d : D} {v : V} (h : RepT K F H d v) : TyX K H v (.type (tyName d)) := by
  cases d with
  | none => rw [top_none h]; exact .base .non
  | bool b => rw [top_bool h]; exact .base (.bl b)
  | int i => rw [top_int h]; exact .base (.int i)
  | str z => rw [top_str h]; exact .base (.str z)
  | list ds =>
    obtain ⟨a, vs, rfl, s1, _⟩ := top_list h
    rcases s1 with (s1 | ⟨o, s1⟩) | ⟨o, its, n, k1, k2, _⟩
    · exact .base (.lst s1)
    · exact .base (.frz s1)
    · exact .kList k1 k2
  | tuple ds =>
    obtain ⟨a, vs, rfl, s1, _⟩ := top_tuple sub h
    rcases s1 with (s1 | ⟨o, s1⟩) | ⟨o, its, n, k1, k2, _⟩
    · exact .base (.tup s1)
    · exact .fTuple s1
    · exact .kTuple k1 k2
  | dict ds =>
    obtain ⟨a, es, rfl, s1, _⟩ := h
    rcases s1 with s1 | ⟨o, s1⟩
    · exact .base (.dK s1)
    · exact .fDict s1
def pIsi (t : Ty) : List D → Option Slot
  | [d] => some (.val (.bool (isTy t d)))
  | _ => none
theorem ce_isi {t : Ty} {tn : Str} {tpos : Pos} (hg : Gl X "isinstance") (hm : X.mg "isinstance" = none) (hgt : Gl X tn) (hmt : X.mg tn = none) (ht : bootBuiltins tn = some (.type t.name)) (ha : CA X W I a ea)
    (hn : tn ≠ "__name__" := by decide) (hd : (tn == ("__debug__" : Str)) = false := by decide) (he : starEach [ea, .Name tn tpos] X.env = (false, eval ea X.env) :: starEach [.Name tn tpos] X.env := by rfl) :
    CE X W I (mPrim (pIsi t) [a]) (.Call (.Name "isinstance" pp) [ea, .Name tn tpos] [] pos) := by
  obtain ⟨ta, h1, q1⟩ := ha.run
  have hT : PE X (.Name tn tpos) (tC (.ty t.name)) := pe_bltn hgt hmt ht rfl hn hd
  refine ce_mk (pe_callB call_isi hg hm (by decide +kernel) (pa_cons h1 (pa_cons hT pa_nil rfl) he) (by decide) (by decide) he rfl) fun F H ρ σ Q R z => q1 F H ρ σ _ R ?_
  have z' := prim_sat' z
  have z2 : ((evA a ρ).bind fun g ρ1 => (Out.ok [] ρ1 : Out (List Arg)).bind fun gs ρ2 => Out.ok (g :: gs) ρ2).sat _ _ := z'
  rw [Out.sat_bind] at z2
  refine Out.sat_mono z2 (fun g ρ' _ y F' H' v P => ?_) fun _ _ y => y
  obtain ⟨F2, ds, s, sub, rr, e, q⟩ := y F' H' [v] (P.cons (PostL.nil P.rp))
  obtain ⟨d, rfl, h⟩ := one_of rr
  cases e
  exact ⟨v, .ty t.name, _, _, _, rfl, .ty _, tyX_of sub h, kit_ty (kit_isTy t d), res_bool sub q⟩

/-! ### methods of texts -/
def isStrD : D → Bool
  | .str _ => true
  | _ => false
/-- a text's method: the text is looked at ahead of the arguments -/
def mMeth (p : List D → Option Slot) (a : AE) (as : List AE) : M Slot := fun ρ => (evA a ρ).bind fun g ρ1 => match (g.slot ρ1).data with
  | some (.str z) => (evAs as ρ1).bind fun gs ρ2 => match (argDs ρ2 gs).bind fun ds => p (.str z :: ds) with
    | some s => .ok s ρ2
    | none => .bad
  | _ => .bad
theorem ce_m0 {name : Str} (slot : PySem.Slot "str" name bid) (ty : typeOf (.builtin bid) = pure (.type "method_descriptor")) (rule : MtR X bid (fun x xs => rP X.K p (x :: xs))) (ho : CA X W I a ea)
    (hbase : attributeBase ea name X.env (eval ea X.env) = eval ea X.env := by rfl) (hline : (apos.endLine == pos.line) = true := by rfl) : CE X W I (mMeth p a []) (.Call (.Attribute ea name apos) [] [] pos) := by
  obtain ⟨t, h1, q⟩ := ho.run
  refine ce_mk (pe_m0 slot ty rule h1 hbase hline) fun F H ρ σ Q R z => ?_
  unfold mMeth at z
  rw [Out.sat_bind] at z
  refine q F H ρ σ _ R (Out.sat_mono z (fun g ρ1 _ y F1 H1 v P => ?_) fun _ _ y => y)
  split at y
  · rename_i zz ez
    have hv := top_str (arg_top P.rp P.ok ez)
    refine ⟨⟨zz, hv⟩, ?_⟩
    have y' : (match p [.str zz] with | some s => Out.ok s ρ1 | none => .bad : Out Slot).sat _ _ := y
    cases es : p [.str zz] with
    | none => rw [es] at y'; exact y'.elim
    | some s =>
      rw [es] at y'
      refine ⟨F1, [.str zz], s, P.rp.sub, ⟨arg_top P.rp P.ok ez, trivial⟩, es, fun F' H' v' r => y' F' H' v' (prim_post (P.cons (PostL.nil P.rp)) r)⟩
  · exact y.elim
theorem ce_m1 {name : Str} (slot : PySem.Slot "str" name bid) (ty : typeOf (.builtin bid) = pure (.type "method_descriptor")) (rule : MtR X bid (fun x xs => rP X.K p (x :: xs))) (ho : CA X W I a ea) (hb : CA X W I b eb)
    (hs : starEach [eb] X.env = [(false, eval eb X.env)] := by rfl) (hbase : attributeBase ea name X.env (eval ea X.env) = eval ea X.env := by rfl) (hline : (apos.endLine == pos.line) = true := by rfl) : CE X W I (mMeth p a [b]) (.Call (.Attribute ea name apos) [eb] [] pos) := by
  obtain ⟨t, h1, q⟩ := ho.run
  obtain ⟨u, h2, q2⟩ := hb.run
  refine ce_mk (pe_m1 slot ty rule h1 h2 hs hbase hline) fun F H ρ σ Q R z => ?_
  unfold mMeth at z
  rw [Out.sat_bind] at z
  refine q F H ρ σ _ R (Out.sat_mono z (fun g ρ1 _ y F1 H1 v P => ?_) fun _ _ y => y)
  split at y
  · rename_i zz ez
    have hv := top_str (arg_top P.rp P.ok ez)
    refine ⟨⟨zz, hv⟩, ?_⟩
    rw [Out.sat_bind] at y
    have y1 : ((evA b ρ1).bind fun g ρ1 => (Out.ok [] ρ1 : Out (List Arg)).bind fun gs ρ2 => Out.ok (g :: gs) ρ2).sat _ _ := y
    rw [Out.sat_bind] at y1
    refine q2 F1 H1 ρ1 σ _ P.rp (Out.sat_mono y1 (fun g2 ρ2 _ y2 F2 H2 v2 P2 => ?_) fun _ _ y2 => XC.step y2 P.ext fun q h => .inr h)
    have y3 : (match (argDs ρ2 [g2]).bind fun ds => p (.str zz :: ds) with | some s => Out.ok s ρ2 | none => .bad : Out Slot).sat _ _ := y2
    cases ed : argDs ρ2 [g2] with
    | none => rw [ed] at y3; exact y3.elim
    | some ds =>
      cases es : p (.str zz :: ds) with
      | none => simp only [ed, Option.bind, es] at y3; exact y3.elim
      | some s =>
        simp only [ed, Option.bind, es] at y3
        have PL := P2.cons (PostL.nil P2.rp)
        refine ⟨F2, .str zz :: ds, s, P2.rp.sub, ⟨?_, args_top P2.rp PL.ok ed⟩, es, fun F' H' v' r => y3 F' H' v' (prim_post (P.cons PL) r)⟩
        rw [hv]
        show Rep X.K F2 (.str zz) (.str zz)
        rw [rep_str]
  · exact y.elim
def strsOf : List D → Option (List Str)
  | [] => some []
  | .str b :: ds => (strsOf ds).map (b :: ·)
  | _ => none
theorem reps_strs {K : Fr0} {F : Hp} : ∀ {ds : List D} {vs : List V} {bs : List Str}, Reps K F ds vs → strsOf ds = some bs → vs = bs.map V.str
  | [], vs, bs, r, e => by cases e; rw [reps_nil] at r; exact r
  | d :: ds, vs, bs, r, e => by
    rw [reps_cons] at r
    obtain ⟨v, w, rfl, r1, r2⟩ := r
    cases d with
    | str b =>
      have e' : (strsOf ds).map (b :: ·) = some bs := e
      cases q : strsOf ds with
      | none => rw [q] at e'; cases e'
      | some cs =>
        rw [q] at e'
        cases e'
        rw [rep_str] at r1
        rw [r1, reps_strs r2 q]
        rfl
    | _ => cases e
def pJoin : List D → Option Slot
  | [.str a, .list ds] => (strsOf ds).bind fun ys => if (ys.map (·.length)).sum + ys.length * a.length ≤ 16777216 then some (.val (.str (Txt.join a ys))) else none
  | _ => none
theorem mt_joinP : MtR X "str.join" (fun x xs => rP X.K pJoin (x :: xs)) := by
  intro pins s σ H x xs v us Q J rx rs ⟨F, ds, sl, sub, rr, e, q⟩
  unfold pJoin at e
  split at e
  · rename_i a es
    cases e2 : strsOf es with
    | none => rw [e2] at e; cases e
    | some ys =>
      rw [e2] at e
      simp only [Option.bind] at e
      split at e
      · rename_i hz
        cases e
        obtain ⟨h, rr⟩ := rr
        obtain ⟨w, rfl, h'⟩ := vals_one rr
        obtain ⟨p, vs, rfl, s1, r1⟩ := top_list h'
        rw [reps_strs r1 e2] at s1
        exact mt_join pins s σ H x _ v us Q J rx rs ⟨a, p, ys, top_str h, rfl, .inl s1, hz, res_str sub q⟩
      · cases e
  · cases e
def pUpper : List D → Option Slot
  | [.str a] => if a.length ≤ 5592405 then some (.val (.str (Txt.upper a))) else none
  | _ => none
theorem mt_upperP : MtR X "str.upper" (fun x xs => rP X.K pUpper (x :: xs)) := by
  intro pins s σ H x xs v us Q J rx rs ⟨F, ds, sl, sub, rr, e, q⟩
  unfold pUpper at e
  split at e
  · rename_i a
    split at e
    · rename_i hz
      cases e
      obtain ⟨h, rr⟩ := rr
      cases xs with
      | nil => exact mt_upper pins s σ H x [] v us Q J rx rs ⟨a, top_str h, rfl, hz, res_str sub q⟩
      | cons _ _ => exact rr.elim
    · cases e
  · cases e
end
end SD

set_option Elab.async false
set_option linter.all false
set_option autoImplicit false
set_option maxRecDepth 100000
set_option maxHeartbeats 4000000
/-! SD, part L: names of the module, chains of comparisons, dicts written, lists changed in place. -/
namespace SD
open PySem PySem.Spec PyProof.Rows L2
section
variable {X : Cx} {W : WX} {I : ExI} {N : List Str} {sc : Scope} {cf : Str → Bool} {k : Nat} {a b c : AE} {e ea eb ec : Expr} {es : List Expr} {f : M Slot} {pos apos pp : Pos} {x : Str}
/-- a constant of the module -/
theorem ce_glob {d : D} {v : V} {u : Value} (hg : Gl X x) (hm : X.mg x = some u) (r : RelV v u) (rd : ∀ F, Rep X.K F d v) (hd : (x == ("__debug__" : Str)) = false := by decide) : CE X W I (mC d) (.Name x pos) := ce_const (pe_glob hg hm r hd) rd

/-- a op b op' c -/
def mChain (p p' : List D → Option Slot) (a b c : AE) : M Slot := fun ρ => (evAs [a, b] ρ).bind fun gs ρ1 => match gs with
  | [g1, g2] => (match ((argDs ρ1 [g1, g2]).bind p).bind asBool with
    | some true => (evA c ρ1).bind fun g3 ρ2 => (match (argDs ρ2 [g2, g3]).bind p' with
      | some s => .ok s ρ2
      | none => .bad)
    | some false => .ok (.val (.bool false)) ρ1
    | none => .bad)
  | _ => .bad
theorem chain_q {p p' : List D → Option Slot} (ha : CA X W I a ea) (hb : CA X W I b eb) (hc : CA X W I c ec) : ∃ ta tb tc, PE X ea ta ∧ PE X eb tb ∧ PE X ec tc ∧ ∀ (F H : Hp) (ρ : En) (σ : St) (Q : VK), Rp X.K F H ρ σ →
    (mChain p p' a b c ρ).sat (fun s ρ' => ∀ F' H' v, Post X.K F H ρ σ F' H' ρ' (.sl s) v → Q v H') (XC X W I F H (OwnE ρ σ) σ) → tChain (fun x y => rP X.K p [x, y]) (fun x y => rP X.K p' [x, y]) ta tb tc σ H Q := by
  obtain ⟨ta, tb, h1, h2, q⟩ := two_args ha hb
  obtain ⟨tc, h3, q3⟩ := hc.run
  refine ⟨ta, tb, tc, h1, h2, h3, fun F H ρ σ Q R z => q F H ρ σ _ R ?_⟩
  unfold mChain at z
  rw [Out.sat_bind] at z
  refine Out.sat_mono z (fun gs ρ1 eo y F1 H1 x y' P => ?_) fun _ _ y => y
  match gs, P, y with
  | [], P, y => exact P.ok.elim
  | [_], P, y => exact P.ok.2.2.elim
  | _ :: _ :: _ :: _, P, y => exact P.ok.2.2.2.2.elim
  | [g1, g2], P, y =>
    dsimp only at y
    cases ed : argDs ρ1 [g1, g2] with
    | none => rw [ed] at y; exact y.elim
    | some ds =>
      cases es : p ds with
      | none => simp only [ed, Option.bind, es] at y; exact y.elim
      | some s =>
        cases eb' : asBool s with
        | none => simp only [ed, Option.bind, es, eb'] at y; exact y.elim
        | some kb =>
          refine ⟨F1, ds, s, P.rp.sub, args_top P.rp P.ok ed, es, fun F2 H2 v r => ⟨kb, (bool_of r.ok eb').1, ?_⟩⟩
          have P2 := prim_post P r
          cases kb with
          | false =>
            rw [if_neg Bool.false_ne_true]
            simp only [ed, Option.bind, es, eb'] at y
            have hv := (bool_of r.ok eb').1
            exact y F2 H2 _ (post_bool P2.toB false)
          | true =>
            rw [if_pos rfl]
            simp only [ed, Option.bind, es, eb'] at y
            rw [Out.sat_bind] at y
            -- the middle value as it stands
            have mid : PostL X.K F H ρ σ F2 H2 ρ1 [g2] [y'] := by
              have x2 : Ext F1 H1 (fun _ => False) F2 H2 (Owns s (some v)) := ⟨r.sub, fun a h h' => .inl (r.newF a h h'), fun a o h _ => r.same a o h, fun a h => .inl (r.own a h)⟩
              have no : ∀ q, ¬ Owns s (some v) q := (bool_of r.ok eb').2
              have R2 := P.rp.ext x2 r.sub' fun _ _ z => z
              have ok2 : ArgOk X.K F1 H1 ρ1 σ g2 y' := P.ok.2.2.1
              have ok2' : ArgOk X.K F2 H2 ρ1 σ g2 y' := by
                cases g2 with
                | nm i => exact ok2
                | sl s2 => exact ⟨ok2.1.ext x2 fun _ _ z => z, fun q o z => ok2.2 q o z⟩
              refine ⟨R2, ⟨ok2', fun q _ z => z, trivial⟩, P.ext.trans (x2.weak (fun _ z => z.elim) fun q h => ?_)⟩
              rcases h with h | h
              · exact .inr (.inl (.inr h))
              · exact .inr (.inr h)
            refine q3 F2 H2 ρ1 σ _ mid.rp (Out.sat_mono y (fun g3 ρ2 _ y3 F3 H3 w P3 => ?_) fun _ _ y3 => XC.step y3 mid.ext fun q h => .inr h)
            cases ed2 : argDs ρ2 [g2, g3] with
            | none => rw [ed2] at y3; exact y3.elim
            | some ds2 =>
              cases es2 : p' ds2 with
              | none => simp only [ed2, Option.bind, es2] at y3; exact y3.elim
              | some s2 =>
                simp only [ed2, Option.bind, es2] at y3
                have m2 : Post X.K F H ρ σ F2 H2 ρ1 g2 y' := ⟨mid.rp, mid.ok.1, mid.ext.weak (fun _ h => h) fun q h => .inl (h.imp (fun z => .inl z) id)⟩
                have PL := m2.cons (P3.cons (PostL.nil P3.rp))
                exact ⟨F3, ds2, s2, P3.rp.sub, args_top P3.rp PL.ok ed2, es2, fun F4 H4 v4 r4 => y3 F4 H4 v4 (prim_post PL r4)⟩
theorem ce_chain {op op' : CmpOp} {p p' : List D → Option Slot} (ho : OpR X (compareOp op) (fun x y => rP X.K p [x, y])) (ho' : OpR X (compareOp op') (fun x y => rP X.K p' [x, y])) (ha : CA X W I a ea) (hb : CA X W I b eb) (hc : CA X W I c ec)
    (hm : lastMarks [op, op'] [eb, ec] = false := by with_unfolding_all rfl) : CE X W I (mChain p p' a b c) (.Compare ea [op, op'] [eb, ec] pos) := by
  obtain ⟨ta, tb, tc, h1, h2, h3, q⟩ := chain_q (p := p) (p' := p') ha hb hc
  exact ce_mk (pe_chain ho ho' h1 h2 h3 hm) q
theorem ct_chain {op op' : CmpOp} {p p' : List D → Option Slot} (ho : OpR X (compareOp op) (fun x y => rP X.K p [x, y])) (ho' : OpR X (compareOp op') (fun x y => rP X.K p' [x, y])) (ha : CA X W I a ea) (hb : CA X W I b eb) (hc : CA X W I c ec)
    (hm : lastMarks [op, op'] [eb, ec] = false := by with_unfolding_all rfl) : CT X W I (mTest (mChain p p' a b c)) (.Compare ea [op, op'] [eb, ec] pos) := by
  obtain ⟨ta, tb, tc, h1, h2, h3, q⟩ := chain_q (p := p) (p' := p') ha hb hc
  refine ⟨_, pt_chain ho ho' h1 h2 h3 hm, fun F H ρ σ Q R z => ?_⟩
  refine q F H ρ σ (fun x H' => ∃ k, x = V.bl k ∧ Q k H') R (Out.sat_mono (test_sat z) (fun s ρ' _ y F' H' v P => ?_) fun _ _ y => y)
  obtain ⟨kb, e, y⟩ := y
  exact ⟨kb, (bool_of P.ok.1 e).1, y F' H' P.toB⟩
end

/-! ### dicts as they are written -/
section
variable {κ α : Type} [DecidableEq κ]
def valQ (kvs : List (κ × α)) (k : κ) : Option α := (kvs.find? fun kv => decide (kv.1 = k)).map (·.2)
def putQ (kvs : List (κ × α)) (k : κ) (v : α) : List (κ × α) :=
  if (kvs.any fun kv => decide (kv.1 = k)) = true then kvs.map (fun kv => if kv.1 = k then (kv.1, v) else kv) else kvs ++ [(k, v)]
def dropQ (kvs : List (κ × α)) (k : κ) : List (κ × α) := kvs.filter fun kv => decide (kv.1 ≠ k)
def mergeQ (kvs more : List (κ × α)) : List (κ × α) := more.foldl (fun acc kv => putQ acc kv.1 kv.2) kvs
end
theorem kD_inj {p q : Key} (h : kD p = kD q) : p = q := by
  cases p <;> cases q <;> simp [kD] at h <;> rw [h]
def RepQ (K : Fr0) (F : Hp) (kvs : List (Key × D)) (es : List (Key × V)) : Prop := RepK K F (qD kvs) es
theorem repQ_nil {K : Fr0} {F : Hp} {es : List (Key × V)} : RepQ K F [] es ↔ es = [] := by
  show RepK K F [] es ↔ _
  rw [repk_nil]
theorem repQ_cons {K : Fr0} {F : Hp} {q : Key} {d : D} {kvs : List (Key × D)} {es : List (Key × V)} : RepQ K F ((q, d) :: kvs) es ↔ ∃ v t, es = (q, v) :: t ∧ Rep K F d v ∧ RepQ K F kvs t := by
  show RepK K F ((kD q, d) :: qD kvs) es ↔ _
  rw [repk_cons]
  constructor
  · rintro ⟨q', v, t, e, ek, h1, h2⟩
    rw [← kD_inj ek] at e
    exact ⟨v, t, e, h1, h2⟩
  · rintro ⟨v, t, e, h1, h2⟩
    exact ⟨q, v, t, e, rfl, h1, h2⟩
section
variable {K : Fr0} {F : Hp}
theorem RepQ.mono {F' : Hp} (s : Same F F') {kvs : List (Key × D)} {es : List (Key × V)} (h : RepQ K F kvs es) : RepQ K F' kvs es := RepK.mono s _ _ h
theorem RepQ.keys : ∀ {kvs : List (Key × D)} {es : List (Key × V)}, RepQ K F kvs es → es.map (·.1) = kvs.map (·.1)
  | [], es, h => by rw [repQ_nil] at h; subst h; rfl
  | (q, d) :: kvs, es, h => by
    rw [repQ_cons] at h
    obtain ⟨v, t, rfl, h1, h2⟩ := h
    simp [RepQ.keys h2]
theorem RepQ.length {kvs : List (Key × D)} {es : List (Key × V)} (h : RepQ K F kvs es) : kvs.length = es.length := by
  have := congrArg List.length h.keys
  simpa using this.symm
theorem RepQ.any : ∀ {kvs : List (Key × D)} {es : List (Key × V)} (k : Key), RepQ K F kvs es → (es.any fun kv => decide (kv.1 = k)) = (kvs.any fun kv => decide (kv.1 = k))
  | [], es, k, h => by rw [repQ_nil] at h; subst h; rfl
  | (q, d) :: kvs, es, k, h => by
    rw [repQ_cons] at h
    obtain ⟨v, t, rfl, h1, h2⟩ := h
    simp [RepQ.any k h2]
theorem RepQ.append : ∀ {kvs more : List (Key × D)} {es fs : List (Key × V)}, RepQ K F kvs es → RepQ K F more fs → RepQ K F (kvs ++ more) (es ++ fs)
  | [], more, es, fs, h, q => by rw [repQ_nil] at h; subst h; exact q
  | (k, d) :: kvs, more, es, fs, h, q => by
    rw [repQ_cons] at h
    obtain ⟨v, t, rfl, h1, h2⟩ := h
    rw [List.cons_append, List.cons_append, repQ_cons]
    exact ⟨v, _, rfl, h1, RepQ.append h2 q⟩
theorem RepQ.put {kvs : List (Key × D)} {es : List (Key × V)} {k : Key} {d : D} {v : V} (h : RepQ K F kvs es) (r : Rep K F d v) : RepQ K F (putQ kvs k d) (putK es k v) := by
  have go : ∀ {kvs : List (Key × D)} {es : List (Key × V)}, RepQ K F kvs es → RepQ K F (kvs.map fun kv => if kv.1 = k then (kv.1, d) else kv) (es.map fun kv => if kv.1 = k then (kv.1, v) else kv) := by
    intro kvs
    induction kvs with
    | nil => intro es h; rw [repQ_nil] at h; subst h; rw [List.map_nil, List.map_nil, repQ_nil]
    | cons p kvs ih =>
      intro es h
      obtain ⟨q, d'⟩ := p
      rw [repQ_cons] at h
      obtain ⟨w, t, rfl, h1, h2⟩ := h
      rw [List.map_cons, List.map_cons]
      by_cases e : q = k
      · simp only [e, if_true]
        rw [repQ_cons]
        exact ⟨v, _, rfl, r, ih h2⟩
      · simp only [e, if_false]
        rw [repQ_cons]
        exact ⟨w, _, rfl, h1, ih h2⟩
  unfold putQ putK
  rw [h.any k]
  split
  · exact go h
  · refine h.append ?_
    rw [repQ_cons]
    exact ⟨v, [], rfl, r, by rw [repQ_nil]⟩
theorem RepQ.val : ∀ {kvs : List (Key × D)} {es : List (Key × V)} (k : Key), RepQ K F kvs es → (∃ d v, valQ kvs k = some d ∧ valV es k = some v ∧ Rep K F d v) ∨ (valQ kvs k = none ∧ valV es k = none)
  | [], es, k, h => by rw [repQ_nil] at h; subst h; exact .inr ⟨rfl, rfl⟩
  | (q, d) :: kvs, es, k, h => by
    rw [repQ_cons] at h
    obtain ⟨v, t, rfl, h1, h2⟩ := h
    by_cases e : q = k
    · exact .inl ⟨d, v, by simp [valQ, e], by simp [valV, e], h1⟩
    · have e1 : valQ ((q, d) :: kvs) k = valQ kvs k := by simp [valQ, List.find?_cons, e]
      have e2 : valV ((q, v) :: t) k = valV t k := by simp [valV, List.find?_cons, e]
      rw [e1, e2]
      exact RepQ.val k h2
theorem RepQ.drop : ∀ {kvs : List (Key × D)} {es : List (Key × V)} (k : Key), RepQ K F kvs es → RepQ K F (dropQ kvs k) (dropK es k)
  | [], es, k, h => by rw [repQ_nil] at h; subst h; exact repQ_nil.mpr rfl
  | (q, d) :: kvs, es, k, h => by
    rw [repQ_cons] at h
    obtain ⟨v, t, rfl, h1, h2⟩ := h
    have ih := RepQ.drop k h2
    unfold dropQ dropK at ih ⊢
    by_cases e : q = k
    · simp only [List.filter_cons, e, ne_eq, not_true_eq_false, decide_false, Bool.false_eq_true, if_false]
      exact ih
    · simp only [List.filter_cons, e, ne_eq, not_false_eq_true, decide_true, if_true]
      rw [repQ_cons]
      exact ⟨v, _, rfl, h1, ih⟩
theorem RepQ.merge : ∀ {more : List (Key × D)} {fs : List (Key × V)} {kvs : List (Key × D)} {es : List (Key × V)}, RepQ K F more fs → RepQ K F kvs es → RepQ K F (mergeQ kvs more) (mergeK es fs)
  | [], fs, kvs, es, h, q => by rw [repQ_nil] at h; subst h; exact q
  | (k, d) :: more, fs, kvs, es, h, q => by
    rw [repQ_cons] at h
    obtain ⟨v, t, rfl, h1, h2⟩ := h
    show RepQ K F (mergeQ (putQ kvs k d) more) (mergeK (putK es k v) t)
    exact RepQ.merge h2 (q.put h1)
end
def keyOf : D → Option Key
  | .int i => some (.inl i)
  | .str x => some (.inr x)
  | _ => none
theorem keyOf_v {K : Fr0} {F : Hp} {d : D} {q : Key} {v : V} (h : Rep K F d v) (e : keyOf d = some q) : v = kV q := by
  cases d with
  | int i => cases e; rw [rep_int] at h; exact h
  | str x => cases e; rw [rep_str] at h; exact h
  | _ => cases e
/-- the pairs of a written dict -/
def mPairs : List (M Slot × M Slot) → M (List (Key × D))
  | [] => fun ρ => .ok [] ρ
  | (fk, fv) :: r => fun ρ => (fk ρ).bind fun s ρ1 => match s.data.bind keyOf with
    | some q => (fv ρ1).bind fun s2 ρ2 => (match s2.data with
      | some d => (mPairs r ρ2).bind fun ps ρ3 => .ok ((q, d) :: ps) ρ3
      | none => .bad)
    | none => .bad
def mDict (ps : List (M Slot × M Slot)) : M Slot := fun ρ => (mPairs ps ρ).bind fun kvs ρ' => if kvs.length ≤ 15 then .ok (.dic (mergeQ [] kvs)) ρ' else .bad
section
variable {X : Cx} {W : WX} {I : ExI} {pos : Pos}
theorem ce_dnew : CE X W I (fun ρ => .ok (.dic []) ρ) (.Dict [] [] pos) := ce_mk pe_dnewK fun F H ρ σ Q R z p np => z F _ _ (post_new R Ext.refl (.dic R.sub (repk_nil.mpr rfl) np))
structure CD (X : Cx) (W : WX) (I : ExI) (pos : Pos) (ps : List (M Slot × M Slot)) (keys : List (Option Expr)) (values : List Expr) : Prop where
  run : ∃ trs, PPs X pos keys values trs ∧ ∀ (F H : Hp) (ρ : En) (σ : St) (Q : List (V × V) → Hp → Prop), Rp X.K F H ρ σ →
    (mPairs ps ρ).sat (fun kvs ρ' => ∀ F' H' es, Rp X.K F' H' ρ' σ → RepQ X.K F' kvs es → Ext F H (OwnE ρ σ) F' H' (OwnE ρ' σ) → Q (es.map fun kv => (kV kv.1, kv.2)) H') (XC X W I F H (OwnE ρ σ) σ) → tPairs trs σ H Q
theorem cd_nil : CD X W I pos [] [] [] := ⟨[], pps_nil, fun F H ρ σ Q R z => z F H [] R (repQ_nil.mpr rfl) Ext.refl⟩
theorem cd_cons {fk fv : M Slot} {ps : List (M Slot × M Slot)} {ek ev : Expr} {keys : List (Option Expr)} {values : List Expr} (hk : CE X W I fk ek) (hv : CE X W I fv ev) (hr : CD X W I pos ps keys values) : CD X W I pos ((fk, fv) :: ps) (some ek :: keys) (ev :: values) := by
  obtain ⟨tk, h1, q1⟩ := hk.of
  obtain ⟨tv, h2, q2⟩ := hv.of
  obtain ⟨trs, h3, q3⟩ := hr.run
  refine ⟨(tk, tv) :: trs, pps_cons h1 h2 h3, fun F H ρ σ Q R z => ?_⟩
  unfold mPairs at z
  rw [Out.sat_bind] at z
  refine q1 F H ρ σ _ R (Out.sat_mono z (fun s ρ1 _ y F1 H1 v P => ?_) fun _ _ y => y)
  cases ed : s.data with
  | none => rw [ed] at y; exact y.elim
  | some dk =>
    cases ek : keyOf dk with
    | none => simp only [ed, Option.bind, ek] at y; exact y.elim
    | some q =>
      simp only [ed, Option.bind, ek] at y
      rw [Out.sat_bind] at y
      obtain ⟨F2, s2, r, R2, x2⟩ := freeze P ed
      refine q2 F2 H1 ρ1 σ _ R2 (Out.sat_mono y (fun s2 ρ2 _ y2 F3 H3 v2 P2 => ?_) fun _ _ y2 => XC.step y2 x2 fun q h => h)
      cases ed2 : s2.data with
      | none => rw [ed2] at y2; exact y2.elim
      | some dv =>
        simp only [ed2] at y2
        rw [Out.sat_bind] at y2
        obtain ⟨F4, s4, r4, R4, x4⟩ := freeze P2 ed2
        have x5 := x2.trans x4
        refine q3 F4 H3 ρ2 σ _ R4 (Out.sat_mono y2 (fun kvs ρ3 _ y3 F5 H5 es R5 r5 x6 => ?_) fun _ _ y3 => XC.step y3 x5 fun q h => h)
        have hkv := keyOf_v r ek
        have := y3 F5 H5 ((q, v2) :: es) R5 (repQ_cons.mpr ⟨v2, es, rfl, Rep.mono x6.sub _ _ r4, r5⟩) (x5.trans x6)
        rw [hkv]
        exact this
theorem ce_dict {ps : List (M Slot × M Slot)} {keys : List (Option Expr)} {values : List Expr} (h : CD X W I pos ps keys values) (hall : keys.all (·.isSome) = true) (hl : keys.length = values.length) (h0 : keys ≠ []) (h15 : keys.length ≤ 15) :
    CE X W I (mDict ps) (.Dict keys values pos) := by
  obtain ⟨trs, h1, q⟩ := h.run
  refine ce_mk (pe_disp h1 hall hl h0 h15) fun F H ρ σ Q R z p np => ?_
  unfold mDict at z
  rw [Out.sat_bind] at z
  have x0 : Ext F H (OwnE ρ σ) F (upd H p (.dK [])) (OwnE ρ σ) := ⟨Same.refl _, fun a h h' => absurd h h', fun a o h _ => same_upd np a o h, fun a h => .inr h⟩
  have R0 : Rp X.K F (upd H p (.dK [])) ρ σ := R.ext (O := fun _ => False) (O' := fun _ => False) ⟨Same.refl _, fun a h h' => absurd h h', fun a o h _ => same_upd np a o h, fun a h => h.elim⟩ (R.sub.trans (same_upd np)) fun _ _ z => z
  have np0 : ¬ OwnE ρ σ p := fun z => by obtain ⟨_, u, hu⟩ := R.ownF z; rw [np] at hu; cases hu
  refine q F _ ρ σ _ R0 (Out.sat_mono z (fun kvs ρ' _ y F' H' es R' r x => ?_) fun _ _ y => XC.step y x0 fun q h => h)
  have hp : H' p = some (.dK []) := x.keep p _ upd_same np0
  refine ⟨hp, es, rfl, ?_, ?_⟩
  · split at y
    · rename_i hl; rw [← r.length]; exact hl
    · exact y.elim
  · split at y
    · have fp : F' p = none := by
        cases e : F' p with
        | none => rfl
        | some o =>
          have fp0 : F p = none := R.sub.free np
          rcases x.newF p fp0 (by rw [e]; simp) with z | z
          · rw [upd_same] at z; cases z
          · exact absurd z np0
      have npO : ¬ OwnE ρ' σ p := fun z => by
        rcases x.newO p z with z | z
        · rw [upd_same] at z; cases z
        · exact np0 z
      have xu : Ext F' H' (fun q => q = p) F' (upd H' p (.dK (mergeK [] es))) (fun q => q = p) := ⟨Same.refl _, fun a h h' => absurd h h', fun a o h n => by rw [upd_ne n]; exact h, fun a h => .inr h⟩
      have sub' : Same F' (upd H' p (.dK (mergeK [] es))) := fun b u e => by
        by_cases hb : b = p
        · subst hb; rw [fp] at e; cases e
        · rw [upd_ne hb]; exact R'.sub b u e
      refine y F' _ (.ref p) ⟨R'.ext xu sub' fun q z z' => by cases (show q = p from z'); exact npO z, ⟨⟨p, _, rfl, upd_same, fp, RepQ.merge r (repQ_nil.mpr rfl)⟩, fun q o z => by cases (show q = p from o); exact npO z⟩, ?_⟩
      refine ⟨x.sub, fun a h h' => (x.newF a h h').imp_left fun z => ?_, fun a o h n => ?_, fun a h => ?_⟩
      · cases e : H a with
        | none => rfl
        | some o => rw [same_upd np a o e] at z; cases z
      · have ha : a ≠ p := ne_of_none h np
        rw [upd_ne ha]
        exact x.keep a o (same_upd np a o h) n
      · rcases h with h | h
        · cases (show a = p from h); exact .inl np
        · rcases x.newO a h with z | z
          · cases e : H a with
            | none => exact .inl rfl
            | some o => rw [same_upd np a o e] at z; cases z
          · exact .inr z
    · exact y.elim
end
end SD

set_option Elab.async false
set_option linter.all false
set_option autoImplicit false
set_option maxRecDepth 100000
set_option maxHeartbeats 4000000
/-! SD, part M: lists changed in place. -/
namespace SD
open PySem PySem.Spec PyProof.Rows L2
/-- a slot's own object is written: σ stays -/
theorem slot_write {K : Fr0} {F H : Hp} {ρ : En} {σ : St} {i : Nat} {s0 s : Slot} {p : Addr} {o : HO} (R : Rp K F H ρ σ) (h0 : ρ[i]? = some s0) (hv : σ[i]? = some (some (.ref p))) (o0 : Owns s0 (some (.ref p)) p) (oo : ∀ q, Owns s (some (.ref p)) q → q = p)
    (ok : SlotOk K F (upd H p o) s (some (.ref p))) : Rp K F (upd H p o) (ρ.set i s) σ ∧ Ext F H (OwnE ρ σ) F (upd H p o) (OwnE (ρ.set i s) σ) := by
  have own : OwnE ρ σ p := ⟨i, s0, _, h0, hv, o0⟩
  have fp := (R.ownF own).1
  have x : Ext F H (fun q => q = p) F (upd H p o) (fun q => q = p) := ⟨Same.refl _, fun a h h' => absurd h h', fun a o h n => by rw [upd_ne n]; exact h, fun a h => .inr h⟩
  have sub' : Same F (upd H p o) := fun b u e => by
    by_cases hb : b = p
    · subst hb; rw [fp] at e; cases e
    · rw [upd_ne hb]; exact R.sub b u e
  have R' : Rp K F (upd H p o) (ρ.set i s) (σ.set i (some (.ref p))) := R.set sub' ok (fun j t u hj e1 e2 => (R.ok j t u e1 e2).ext x fun q oq z => by
    cases (show q = p from z)
    exact hj (R.dj j i t s0 u _ p e1 e2 h0 hv oq o0)) fun q j t u oq hj e1 e2 o2 => by
      rw [oo q oq] at o2
      exact hj (R.dj j i t s0 u _ p e1 e2 h0 hv o2 o0)
  rw [set_self hv] at R'
  refine ⟨R', x.weak (fun q z => by cases (show q = p from z); exact own) fun q z => .inr ?_⟩
  rw [← set_self hv] at z
  rcases ownE_set z with y | y
  · rw [oo q y]; exact own
  · exact y
theorem lst_at {K : Fr0} {F H : Hp} {ρ : En} {σ : St} {i : Nat} {ds : List D} (R : Rp K F H ρ σ) (e : En.at ρ i = .lst ds) : ∃ p vs, ρ[i]? = some (.lst ds) ∧ σ[i]? = some (some (.ref p)) ∧ H p = some (.lst vs) ∧ F p = none ∧ Reps K F ds vs := by
  have h0 : ρ[i]? = some (.lst ds) := by
    have := En.at_some (ρ := ρ) (i := i) (by rw [e]; rfl)
    rw [e] at this; exact this
  obtain ⟨v, ev, ok⟩ := R.get h0
  obtain ⟨p, vs, rfl, h1, h2, r⟩ := ok
  exact ⟨p, vs, h0, ev, h1, h2, r⟩
/-- x.append(e) -/
def mAppend (i : Nat) (f : M Slot) : M Slot := fun ρ => match En.at ρ i with
  | .lst _ => (f ρ).bind fun s ρ1 => (match s.data with
    | some d => (match En.at ρ1 i with
      | .lst ds => if ds.length < 16777216 then .ok (.val .none) (ρ1.set i (.lst (ds ++ [d]))) else .bad
      | _ => .bad)
    | none => .bad)
  | _ => .bad
section
variable {X : Cx} {W : WX} {I : ExI} {pr : Nat → Prop} {i : Nat} {e ex ei : Expr} {f : M Slot} {a : AE} {pos apos pos' : Pos}
theorem ce_append (hx : PE X ex (tVar i)) (hf : CE X W I f e) (hbase : attributeBase ex "append" X.env (eval ex X.env) = eval ex X.env := by rfl)
    (hfew : ((backTo pos (starEach (e :: []) X.env)).all (fun x => !x.1) && (backToKw pos (keywordEach [] X.env)).all (fun x => x.1.isSome)
      && decide ((e :: []).length + ([] : List Keyword).length + (if ([] : List Keyword).isEmpty then 0 else 1) < 30)) = true := by rfl)
    (hline : (apos.endLine == pos.line) = true := by rfl) (hs : starEach [e] X.env = (false, eval e X.env) :: starEach [] X.env := by rfl) (hplain : (backTo pos (starEach [] X.env)).any (·.1) = false := by rfl) :
    CE X W I (mAppend i f) (.Call (.Attribute ex "append" apos) [e] [] pos) := by
  obtain ⟨t, h1, q⟩ := hf.of
  refine ce_mk (pe_bm PySem.F.plainAttrs_list PySem.F.slot_list_append PySem.F.type_list_append mt_append hx (pa_cons h1 pa_nil hs) hbase hfew hline hs hplain) fun F H ρ σ Q R z => ?_
  unfold mAppend at z
  split at z
  · rename_i ds0 e0
    obtain ⟨p, vs, h0, hv, hp, fp, r0⟩ := lst_at R e0
    refine ⟨.ref p, hv, .inl ⟨rfl, vs, SqL.of hp⟩, ?_⟩
    rw [Out.sat_bind] at z
    refine q F H ρ σ _ R (Out.sat_mono z (fun s ρ1 _ y F1 H1 v P => ?_) fun _ _ y => y)
    cases ed : s.data with
    | none => rw [ed] at y; exact y.elim
    | some d =>
      simp only [ed] at y
      split at y
      · rename_i ds e1
        split at y
        · rename_i hl
          obtain ⟨F2, s2, r, R2, x2⟩ := freeze P ed
          obtain ⟨p', vs', h0', hv', hp', fp', r0'⟩ := lst_at R2 e1
          rw [hv] at hv'; cases hv'
          obtain ⟨R3, x3⟩ := slot_write (s := .lst (ds ++ [d])) (o := .lst (vs' ++ [v])) R2 h0' hv rfl (fun q z => z) ⟨p, _, rfl, upd_same, fp', r0'.append (.one r)⟩
          refine ⟨p, vs', v, rfl, rfl, hp', by rw [← r0'.length, sizeLine_eq]; exact hl, y F2 _ .non ⟨R3, ⟨⟨.non, rfl, by rw [rep_none]⟩, fun _ z => z.elim⟩, (x2.trans x3).weak (fun _ h => h) fun q h => .inl (h.elim (fun z => z.elim) id)⟩⟩
        · exact y.elim
      · exact y.elim
  · exact z.elim
/-- x[i] = e, x a name -/
def mSetIx (i : Nat) (a : AE) (f : M Slot) : M Fl := fun ρ => (f ρ).bind fun s ρ1 => match s.data with
  | some d => (if (En.at ρ1 i).isSome then (evA a ρ1).bind fun g ρ2 => (match (g.slot ρ2).data, En.at ρ2 i with
    | some (.int j), .lst ds => (match ixN ds.length j with
      | some n => .ok .next (ρ2.set i (.lst (ds.set n d)))
      | none => .bad)
    | _, _ => .bad) else .bad)
  | none => .bad
theorem cs_setIx (hx : PE X ex (tVar i)) (hi : CA X W I a ei) (hf : CE X W I f e)
    (ha : ∀ v, assign (.Subscript ex ei pos') X.env v = (do
      let ov ← holding [v] (eval ex X.env)
      let iv ← holding [v, ov] (eval ei X.env)
      standAt pos'
      holding [v, ov, iv] (setItem ov iv v)
      release [v, ov, iv] []) := by intro _; rfl)
    (hs : swapsWithSole [.Subscript ex ei pos'] e pos.line X.env = pure false := by rfl) (hw : swappedStores [.Subscript ex ei pos'] e X.env = pure none := by rfl)
    (h1 : (assignEach [.Subscript ex ei pos'] X.env).map (·.2) = [assign (.Subscript ex ei pos') X.env] := by rfl) : CS X W I pr (mSetIx i a f) (.Assign [.Subscript ex ei pos'] e pos) := by
  obtain ⟨t, k1, q1⟩ := hf.of
  obtain ⟨u, k2, q2⟩ := hi.run
  refine ⟨_, ps_asg k1 (pg_sub hx k2 set_list ha) hs hw h1, fun F H ρ σ E R z => ?_⟩
  unfold mSetIx at z
  rw [Out.sat_bind] at z
  refine q1 F H ρ σ _ R (Out.sat_mono z (fun s ρ1 _ y F1 H1 v P => ?_) fun _ _ y => y.toC)
  cases ed : s.data with
  | none => rw [ed] at y; exact y.elim
  | some d =>
    simp only [ed] at y
    split at y
    · rename_i his
      obtain ⟨F2, s2, r, R2, x2⟩ := freeze P ed
      obtain ⟨w, hv, ok⟩ := R2.get (En.at_some his)
      obtain ⟨w, rfl⟩ := slot_some ok his
      refine ⟨w, hv, ?_⟩
      rw [Out.sat_bind] at y
      have PS1 : PostS X.K pr F H ρ σ F2 H1 ρ1 σ := ⟨R2, x2, fun _ _ => rfl, rfl⟩
      refine q2 F2 H1 ρ1 σ _ R2 (Out.sat_mono y (fun g ρ2 _ y2 F3 H3 iv P2 => ?_) fun _ _ y2 => (y2.step PS1).toC)
      split at y2
      · rename_i j ds ej e1
        split at y2
        · rename_i n en
          have hj := top_int (arg_top P2.rp P2.ok ej)
          subst hj
          obtain ⟨p', vs', h0', hv', hp', fp', r0'⟩ := lst_at P2.rp e1
          rw [hv] at hv'; cases hv'
          obtain ⟨R3, x3⟩ := slot_write (s := .lst (ds.set n d)) (o := .lst (vs'.set n v)) P2.rp h0' hv rfl (fun q z => z) ⟨p', _, rfl, upd_same, fp', Reps.set (Rep.mono P2.ext.sub _ _ r) n r0'⟩
          refine ⟨p', vs', j, n, rfl, rfl, hp', by rw [← r0'.length]; exact en, y2 F3 _ σ (PS1.trans ⟨R3, ((post_argB P2).ext).trans x3, fun _ _ => rfl, rfl⟩)⟩
        · exact y2.elim
      · exact y2.elim
    · exact y.elim
end
end SD

set_option Elab.async false
set_option linter.all false
set_option autoImplicit false
set_option maxRecDepth 100000
set_option maxHeartbeats 4000000
/-! SD, part N: what is walked, of any kind; the end of a proof. -/
namespace SD
open PySem PySem.Spec PyProof.Rows L2
/-- a list, a tuple, a text -/
def iAny (K : Fr0) (te : TE) : TI := fun σ H R => te σ H fun x H1 => (∃ a, x = .ref a ∧ (∃ xs, SqL K H1 a xs) ∧ R (Itl K a) H1) ∨ (∃ a, x = .ref a ∧ (∃ xs, SqT K H1 a xs) ∧ R (Itt K a) H1) ∨ ∃ z, x = .str z ∧ R (Its z) H1
theorem pi_any {X : Cx} {tg l : Expr} {tl : TE} (hl : PE X l tl) : PI X tg l (iAny X.K tl) := by
  refine ⟨fun pins s σ H R J h => ?_⟩
  refine thn (hl.run pins s σ H _ J h) fun v s1 ⟨x, H1, J1, r1, q1⟩ => ?_
  rcases q1 with ⟨a, e, ⟨xs, hq⟩, q⟩ | ⟨a, e, ⟨xs, hq⟩, q⟩ | ⟨z, e, q⟩
  · subst e
    cases r1
    obtain ⟨its, rv, p, hz⟩ := J1.list hq
    refine wpAny_pyIter_list p.isList ?_
    refine ⟨s1.heap.objs.size, [s1.heap.objs.size], _, _, H1, rfl, J1.kept (t' := s1.toks) fun b o e => Heap.get?_push_of_some _ e, turn_list a _, ⟨_, Heap.get?_push_size _ rfl, rfl, rfl⟩, fun b hb => ?_, q⟩
    have e : b = s1.heap.objs.size := by simpa using hb
    subst e
    exact J1.fpOk (Nat.le_refl _) (J1.hok.fresh (Nat.le_refl _))
  · subst e
    cases r1
    obtain ⟨its, rv, p, hz⟩ := J1.tuple hq
    refine wpAny_pyIter_tuple (show s1.heap.IsTuple a its.toArray from p) ?_
    refine ⟨s1.heap.objs.size, [s1.heap.objs.size], _, _, H1, rfl, J1.kept (t' := s1.toks) fun b o e => Heap.get?_push_of_some _ e, turn_tuple a _, ⟨_, Heap.get?_push_size _ rfl, rfl, rfl⟩, fun b hb => ?_, q⟩
    have e : b = s1.heap.objs.size := by simpa using hb
    subst e
    exact J1.fpOk (Nat.le_refl _) (J1.hok.fresh (Nat.le_refl _))
  · subst e
    obtain ⟨t, rfl⟩ := r1
    cases ha : z.cps.all (· < 128)
    · exact wpAny_pyIter_wide ha (pi_one (tk := s1.toks) J1 _ (turn_str _ z t "str_iterator" (.inr rfl)) ⟨_, Heap.get?_push_size _ rfl, rfl, rfl⟩ q)
    · exact wpAny_pyIter_ascii ha (pi_one (tk := s1.toks) J1 _ (turn_str _ z t "str_ascii_iterator" (.inl rfl)) ⟨_, Heap.get?_push_size _ rfl, rfl, rfl⟩ q)
def signs (z : Str) : List D := z.cps.toList.map fun c => .str ⟨#[c]⟩
def anyItems : D → Option (List D)
  | .list ds => some ds
  | .tuple ds => some ds
  | .str z => some (signs z)
  | _ => none
/-- the items of what an expression gives -/
def mIter (f : M Slot) : M (List D) := fun ρ => (f ρ).bind fun s ρ' => match s.data.bind anyItems with
  | some ds => .ok ds ρ'
  | none => .bad
theorem itOk_lst {K : Fr0} {F : Hp} {a : Addr} {ds : List D} {vs : List V} (h : SqL K F a vs) (r : Reps K F ds vs) : ItOk K F ds (Itl K a) := by
  have hl := r.length
  refine ⟨fun i F1 H1 s1 s2 hi => ?_, fun i F1 H1 s1 s2 hi => ⟨vs, SqL.mono (s1.trans s2) h, by omega⟩⟩
  have q := SqL.mono (s1.trans s2) h
  refine ⟨⟨vs, vs[i]'(by omega), q, by simp⟩, fun x H2 y => ?_⟩
  obtain ⟨rfl, y⟩ := y
  have e := y vs q
  obtain ⟨d, e2, r2⟩ := r.getV e
  exact ⟨F1, Same.refl _, s2, Same.refl _, fun a e e' => absurd e e', d, e2, Rep.mono s1 _ _ r2⟩
theorem itOk_str {K : Fr0} {F : Hp} {z : Str} : ItOk K F (signs z) (Its z) := by
  refine ⟨fun i F1 H1 s1 s2 hi => ?_, fun i F1 H1 s1 s2 hi => show z.cps.size ≤ i by simpa [signs] using hi⟩
  have hi' : i < z.cps.size := by simpa [signs] using hi
  refine ⟨show i < z.cps.size from hi', fun x H2 y => ?_⟩
  obtain ⟨rfl, c, e, rfl⟩ := y
  refine ⟨F1, Same.refl _, s2, Same.refl _, fun a e e' => absurd e e', .str ⟨#[c]⟩, ?_, by rw [rep_str]⟩
  unfold signs
  rw [List.getElem?_map, Array.getElem?_toList, e]
  rfl
section
variable {X : Cx} {W : WX} {I : ExI} {tg e : Expr} {f : M Slot} {pos : Pos}
theorem ci_any (h : CE X W I f e) : CI X W I tg (mIter f) e := by
  obtain ⟨t, h1, q⟩ := h.of
  refine ⟨_, pi_any h1, fun F H ρ σ R Rr z => ?_⟩
  unfold mIter at z
  rw [Out.sat_bind] at z
  refine q F H ρ σ _ Rr (Out.sat_mono z (fun s ρ1 _ y F1 H1 v P => ?_) fun _ _ y => y)
  cases ed : s.data with
  | none => rw [ed] at y; exact y.elim
  | some d =>
    cases ei : anyItems d with
    | none => simp only [ed, Option.bind, ei] at y; exact y.elim
    | some ds =>
      simp only [ed, Option.bind, ei] at y
      obtain ⟨F2, s2, r, R2, x⟩ := freeze P ed
      cases d with
      | list es =>
        cases ei
        rw [rep_list] at r
        obtain ⟨a, vs, rfl, sq, r⟩ := r
        exact .inl ⟨a, rfl, ⟨vs, SqL.mono R2.sub sq⟩, y F2 H1 _ ⟨R2, x⟩ (itOk_lst sq r)⟩
      | tuple es =>
        cases ei
        rw [rep_tuple] at r
        obtain ⟨a, vs, rfl, sq, r⟩ := r
        exact .inr (.inl ⟨a, rfl, ⟨vs, SqT.mono R2.sub sq⟩, y F2 H1 _ ⟨R2, x⟩ (itOk_tup sq r)⟩)
      | str zz =>
        cases ei
        rw [rep_str] at r
        exact .inr (.inr ⟨zz, r, y F2 H1 _ ⟨R2, x⟩ itOk_str⟩)
      | _ => cases ei
end
theorem bt_len : bootBuiltins "len" = some (.builtin "len") := by decide +kernel
theorem bt_abs : bootBuiltins "abs" = some (.builtin "abs") := by decide +kernel
theorem bt_max : bootBuiltins "max" = some (.builtin "max") := by decide +kernel
theorem bt_min : bootBuiltins "min" = some (.builtin "min") := by decide +kernel
theorem bt_all : bootBuiltins "all" = some (.builtin "all") := by decide +kernel
theorem bt_any : bootBuiltins "any" = some (.builtin "any") := by decide +kernel
theorem bt_sum : bootBuiltins "sum" = some (.builtin "sum") := by decide +kernel
theorem bt_sorted : bootBuiltins "sorted" = some (.builtin "sorted") := by decide +kernel
theorem bt_divmod : bootBuiltins "divmod" = some (.builtin "divmod") := by decide +kernel
theorem bt_int : bootBuiltins "int" = some (.type "int") := by decide +kernel
theorem bt_bool : bootBuiltins "bool" = some (.type "bool") := by decide +kernel
theorem bt_str : bootBuiltins "str" = some (.type "str") := by decide +kernel
theorem bt_tuple : bootBuiltins "tuple" = some (.type "tuple") := by decide +kernel
theorem bt_list : bootBuiltins "list" = some (.type "list") := by decide +kernel
theorem bt_dict : bootBuiltins "dict" = some (.type "dict") := by decide +kernel
theorem bt_set : bootBuiltins "set" = some (.type "set") := by decide +kernel
/-- the law is told: True comes out -/
def spLaw (K : Fr0) : Sp := fun vs H Q _ => ∃ (a : Addr) (ns : List Int), vs = [.ref a] ∧ SqL K H a (ns.map V.int) ∧ ns.length ≤ 63 ∧ Only H ∧ ∀ H', Q (.bl true) H'
theorem reps_ints {K : Fr0} {F : Hp} : ∀ ns : List Int, Reps K F (ns.map PyData.int) (ns.map V.int)
  | [] => by rw [List.map_nil, List.map_nil, reps_nil]
  | n :: ns => by rw [List.map_cons, List.map_cons, reps_cons]; exact ⟨_, _, rfl, by rw [rep_int], reps_ints ns⟩
/-- from the law's def and what it computes to the promise -/
theorem law_ok {P : Program} {w : World} {K : Fr0} {mg : Str → Option Value} {base : Heap} {I : ExI} {k : Nat} {f : Addr} {fd : FuncData} {g : M Slot} (F : FnOk P w K mg base (L2.CX P w) k f fd ["_law_script"] (spF K I 1 g))
    (h : ∀ ns : List Int, ns.length ≤ 63 → ∃ ρ, g [.val (.list (ns.map PyData.int))] = .ok (.val (.bool true)) ρ) : FnOk P w K mg base (L2.CX P w) k f fd ["_law_script"] (spLaw K) :=
  F.imp fun vs H Q E ⟨a, ns, e, hS, hl, ho, q⟩ => by
    subst e
    refine ⟨rfl, H, [.val (.list (ns.map PyData.int))], ?_, ?_⟩
    · exact ⟨rfl, Same.refl _, fun i s v e1 e2 => by
        cases i with
        | zero =>
          simp at e1 e2
          subst e1 e2
          refine ⟨_, rfl, ?_⟩
          rw [rep_list]
          exact ⟨a, _, rfl, hS, reps_ints ns⟩
        | succ i => simp at e1, fun i j s t v u q e1 e2 e3 e4 o1 o2 => by
        cases i with
        | zero => simp at e1; subst e1; exact o1.elim
        | succ i => simp at e1⟩
    · obtain ⟨ρ, e⟩ := h ns hl
      rw [e]
      intro F' H' v P'
      have := (bool_of P'.ok.1 (b := true) rfl).1
      subst this
      exact q H'
theorem walk {l : PySem.W.OpenLaw} {q : Program} {loose : List Str} {XP : (Str → Option Value) → Heap → Prop} {YP : World → Heap → Prop} {d : DefRec} {K : Params → PySem.W.Frag} (k : Nat) (hn : l.most = some 63) (hdf : d.params.defaults = []) (hr : Room k callerA)
    (hY : ∀ (w : World) (h : Heap), YP w h → (K w.params).In h)
    (F : ∀ (w : World) (mg : Str → Option Value) (fa : Addr) (h : Heap), (K w.params).In h → h.Ns mainGlobals mg → mg d.name = some (.ref fa) →
      ∃ fd : FuncData, (∀ (s : Shared) (u : Value), BindsTo s fd ⟨[u], []⟩ [("_law_script", u)]) ∧ ∀ base : Heap, (K w.params).In base → base.Ns mainGlobals mg → FnOk l.prog w (K w.params) mg base (L2.CX l.prog w) k fa fd ["_law_script"] (spLaw (K w.params))) :
    PySem.W.WalkO q loose XP YP l.row.toRowW d [] (fun f vs => PySem.call f vs) :=
  L2.walk_of (n := 63) (k := k) (x := "_law_script") (CX := fun w => L2.CX l.prog w) (sp := fun w => spLaw (K w.params)) hn (by decide) hdf hr hY F
    (fun _ _ a ns hl ho hS => ⟨a, ns, rfl, hS, hl, ho, fun _ => rfl⟩) fun _ _ _ _ _ z => by
      obtain ⟨_, _, _, _, _, _, _, _, _, _, _, _, z⟩ := z
      exact z
end SD

set_option Elab.async false
set_option linter.all false
set_option autoImplicit false
set_option maxRecDepth 100000
set_option maxHeartbeats 4000000
/-! SD, part S: code run step by step, by rewriting. -/
namespace SD
open PySem PySem.Spec PyProof.Rows L2

/-! ### what waits for a result -/
def seqK (h : M Fl) (o : Out Fl) : Out Fl := o.bind fun f ρ' => match f with
  | .next => h ρ'
  | f => .ok f ρ'
def ifK (g h : M Fl) (o : Out Bool) : Out Fl := o.bind fun b ρ' => if b then g ρ' else h ρ'
def dropK (o : Out Slot) : Out Fl := o.bind fun _ ρ' => .ok .next ρ'
def retK (o : Out Slot) : Out Fl := o.bind fun s ρ' => .ok (.ret s) ρ'
def setK (i : Nat) (o : Out Slot) : Out Fl := o.bind fun s ρ' => .ok .next (ρ'.set i s)
def primO (ρ : En) (o : Option Slot) : Out Slot := match o with
  | some s => .ok s ρ
  | none => .bad
def primK (p : List D → Option Slot) (o : Out (List Arg)) : Out Slot := o.bind fun gs ρ' => primO ρ' ((argDs ρ' gs).bind p)
def slK (o : Out Slot) : Out Arg := o.bind fun s ρ' => .ok (.sl s) ρ'
def argsK2 (g : Arg) (o : Out (List Arg)) : Out (List Arg) := o.bind fun gs ρ2 => .ok (g :: gs) ρ2
def argsK (as : List AE) (o : Out Arg) : Out (List Arg) := o.bind fun g ρ1 => argsK2 g (evAs as ρ1)
def testO (ρ : En) (o : Option Bool) : Out Bool := match o with
  | some b => .ok b ρ
  | none => .bad
def testK (o : Out Slot) : Out Bool := o.bind fun s ρ' => testO ρ' (asBool s)
def andK (b : M Bool) (o : Out Bool) : Out Bool := o.bind fun x ρ' => if x then b ρ' else .ok false ρ'
def orK (b : M Bool) (o : Out Bool) : Out Bool := o.bind fun x ρ' => if x then .ok true ρ' else b ρ'
def notK (o : Out Bool) : Out Bool := o.bind fun x ρ' => .ok (!x) ρ'
def andVK (b : M Slot) (o : Out Bool) : Out Slot := o.bind fun x ρ' => if x then b ρ' else .ok (.val (.bool false)) ρ'
def orVK (b : M Slot) (o : Out Bool) : Out Slot := o.bind fun x ρ' => if x then .ok (.val (.bool true)) ρ' else b ρ'
def notVK (o : Out Bool) : Out Slot := o.bind fun x ρ' => .ok (.val (.bool (!x))) ρ'
def ifEK (a b : M Slot) (o : Out Bool) : Out Slot := o.bind fun x ρ' => if x then a ρ' else b ρ'
def valsK2 (d : D) (o : Out (List D)) : Out (List D) := o.bind fun ds ρ2 => .ok (d :: ds) ρ2
def valsO (fs : List (M Slot)) (ρ : En) (o : Option D) : Out (List D) := match o with
  | some d => valsK2 d (mVals fs ρ)
  | none => .bad
def valsK (fs : List (M Slot)) (o : Out Slot) : Out (List D) := o.bind fun s ρ1 => valsO fs ρ1 s.data
def tupK (o : Out (List D)) : Out Slot := o.bind fun ds ρ' => if lineOk ds.length then .ok (.val (.tuple ds)) ρ' else .bad
def lstK (o : Out (List D)) : Out Slot := o.bind fun ds ρ' => if lineOk ds.length then .ok (.lst ds) ρ' else .bad
def callR (gs : List Arg) (sl ρ : En) (o : Out Slot) : Out Slot := match o with
  | .ok s outs => .ok s (giveBack gs sl outs ρ)
  | .exc x outs => .exc x (giveBack gs sl outs ρ)
  | .bad => .bad
def callO (f : M Slot) (gs : List Arg) (o : Option (En × En)) : Out Slot := match o with
  | some r => callR gs r.1 r.2 (f r.1)
  | none => .bad
def callK (f : M Slot) (o : Out (List Arg)) : Out Slot := o.bind fun gs ρ1 => callO f gs (takeArgs gs ρ1)
section
variable {g h : M Fl} {c a b : M Bool} {f : M Slot} {fs : List (M Slot)} {i : Nat} {p : List D → Option Slot} {as : List AE} {ρ : En} {s : Slot} {x : Exc} {d : D} {ds : List D}
@[simp] theorem ev_seq : mSeq g h ρ = seqK h (g ρ) := rfl
@[simp] theorem ev_seqN : seqK h (.ok .next ρ) = h ρ := rfl
@[simp] theorem ev_seqR : seqK h (.ok (.ret s) ρ) = .ok (.ret s) ρ := rfl
@[simp] theorem ev_seqB : seqK h (.ok .brk ρ) = .ok .brk ρ := rfl
@[simp] theorem ev_seqC : seqK h (.ok .cont ρ) = .ok .cont ρ := rfl
@[simp] theorem ev_seqX : seqK h (.exc x ρ) = .exc x ρ := rfl
@[simp] theorem ev_next : mNext ρ = .ok .next ρ := rfl
@[simp] theorem ev_if : mIf c g h ρ = ifK g h (c ρ) := rfl
@[simp] theorem ev_ifT : ifK g h (.ok true ρ) = g ρ := rfl
@[simp] theorem ev_ifF : ifK g h (.ok false ρ) = h ρ := rfl
@[simp] theorem ev_ifX : ifK g h (.exc x ρ) = .exc x ρ := rfl
@[simp] theorem ev_drop : mDrop f ρ = dropK (f ρ) := rfl
@[simp] theorem ev_dropO : dropK (.ok s ρ) = .ok .next ρ := rfl
@[simp] theorem ev_dropX : dropK (.exc x ρ) = .exc x ρ := rfl
@[simp] theorem ev_ret : mRet f ρ = retK (f ρ) := rfl
@[simp] theorem ev_retO : retK (.ok s ρ) = .ok (.ret s) ρ := rfl
@[simp] theorem ev_retX : retK (.exc x ρ) = .exc x ρ := rfl
@[simp] theorem ev_set : mSet i f ρ = setK i (f ρ) := rfl
@[simp] theorem ev_setO : setK i (.ok s ρ) = .ok .next (ρ.set i s) := rfl
@[simp] theorem ev_setX : setK i (.exc x ρ) = .exc x ρ := rfl
@[simp] theorem ev_C : mC d ρ = .ok (.val d) ρ := rfl
@[simp] theorem ev_prim : mPrim p as ρ = primK p (evAs as ρ) := by
  unfold mPrim primK
  congr 1
@[simp] theorem ev_primO {gs : List Arg} : primK p (.ok gs ρ) = primO ρ ((argDs ρ gs).bind p) := rfl
@[simp] theorem ev_primX : primK p (.exc x ρ) = .exc x ρ := rfl
@[simp] theorem ev_primS : primO ρ (some s) = .ok s ρ := rfl
@[simp] theorem ev_primN : primO ρ none = .bad := rfl
@[simp] theorem ev_as0 : evAs [] ρ = .ok [] ρ := rfl
@[simp] theorem ev_as1 {a : AE} : evAs (a :: as) ρ = argsK as (evA a ρ) := rfl
@[simp] theorem ev_asK {g : Arg} : argsK as (.ok g ρ) = argsK2 g (evAs as ρ) := rfl
@[simp] theorem ev_asKX : argsK as (.exc x ρ) = .exc x ρ := rfl
@[simp] theorem ev_asK2 {g : Arg} {gs : List Arg} : argsK2 g (.ok gs ρ) = .ok (g :: gs) ρ := rfl
@[simp] theorem ev_asK2X {g : Arg} : argsK2 g (.exc x ρ) = .exc x ρ := rfl
@[simp] theorem ev_ex : evA (.ex f) ρ = slK (f ρ) := rfl
@[simp] theorem ev_nm : evA (.nm i) ρ = if (En.at ρ i).isSome = true then .ok (.nm i) ρ else .bad := rfl
@[simp] theorem ev_slO : slK (.ok s ρ) = .ok (.sl s) ρ := rfl
@[simp] theorem ev_slX : slK (.exc x ρ) = .exc x ρ := rfl
@[simp] theorem ev_argD0 : argDs ρ [] = some [] := rfl
@[simp] theorem ev_argD1 {gs : List Arg} : argDs ρ (.nm i :: gs) = (En.at ρ i).data.bind fun d => (argDs ρ gs).bind fun ds => some (d :: ds) := rfl
@[simp] theorem ev_argD2 {gs : List Arg} : argDs ρ (.sl s :: gs) = s.data.bind fun d => (argDs ρ gs).bind fun ds => some (d :: ds) := rfl
@[simp] theorem ev_at0 {ρ : List Slot} : En.at (s :: ρ) 0 = s := rfl
@[simp] theorem ev_at1 {ρ : List Slot} : En.at (s :: ρ) (i + 1) = En.at ρ i := rfl
@[simp] theorem ev_at1' {s0 s1 : Slot} {ρ : List Slot} : En.at (s0 :: s1 :: ρ) 1 = s1 := rfl
@[simp] theorem ev_at2' {s0 s1 s2 : Slot} {ρ : List Slot} : En.at (s0 :: s1 :: s2 :: ρ) 2 = s2 := rfl
@[simp] theorem ev_at3' {s0 s1 s2 s3 : Slot} {ρ : List Slot} : En.at (s0 :: s1 :: s2 :: s3 :: ρ) 3 = s3 := rfl
@[simp] theorem ev_at4' {s0 s1 s2 s3 s4 : Slot} {ρ : List Slot} : En.at (s0 :: s1 :: s2 :: s3 :: s4 :: ρ) 4 = s4 := rfl
@[simp] theorem ev_at5' {s0 s1 s2 s3 s4 s5 : Slot} {ρ : List Slot} : En.at (s0 :: s1 :: s2 :: s3 :: s4 :: s5 :: ρ) 5 = s5 := rfl
@[simp] theorem ev_at6' {s0 s1 s2 s3 s4 s5 s6 : Slot} {ρ : List Slot} : En.at (s0 :: s1 :: s2 :: s3 :: s4 :: s5 :: s6 :: ρ) 6 = s6 := rfl
@[simp] theorem ev_at7' {s0 s1 s2 s3 s4 s5 s6 s7 : Slot} {ρ : List Slot} : En.at (s0 :: s1 :: s2 :: s3 :: s4 :: s5 :: s6 :: s7 :: ρ) 7 = s7 := rfl
@[simp] theorem ev_at8' {s0 s1 s2 s3 s4 s5 s6 s7 s8 : Slot} {ρ : List Slot} : En.at (s0 :: s1 :: s2 :: s3 :: s4 :: s5 :: s6 :: s7 :: s8 :: ρ) 8 = s8 := rfl
@[simp] theorem ev_at9' {s0 s1 s2 s3 s4 s5 s6 s7 s8 s9 : Slot} {ρ : List Slot} : En.at (s0 :: s1 :: s2 :: s3 :: s4 :: s5 :: s6 :: s7 :: s8 :: s9 :: ρ) 9 = s9 := rfl
@[simp] theorem ev_isV : (Slot.val d).isSome = true := rfl
@[simp] theorem ev_isL : (Slot.lst ds).isSome = true := rfl
@[simp] theorem ev_isD {kvs : List (Key × D)} : (Slot.dic kvs).isSome = true := rfl
@[simp] theorem ev_dV : (Slot.val d).data = some d := rfl
@[simp] theorem ev_dL : (Slot.lst ds).data = some (.list ds) := rfl
@[simp] theorem ev_dD {kvs : List (Key × D)} : (Slot.dic kvs).data = some (.dict (qD kvs)) := rfl
@[simp] theorem ev_cV : (Slot.val d).isCell = false := rfl
@[simp] theorem ev_cL : (Slot.lst ds).isCell = true := rfl
@[simp] theorem ev_cD {kvs : List (Key × D)} : (Slot.dic kvs).isCell = true := rfl
@[simp] theorem ev_test : mTest f ρ = testK (f ρ) := by
  unfold mTest testK
  congr 1
@[simp] theorem ev_testB {b : Bool} : testK (.ok (.val (.bool b)) ρ) = .ok b ρ := rfl
@[simp] theorem ev_testX : testK (.exc x ρ) = .exc x ρ := rfl
@[simp] theorem ev_and : mAnd a b ρ = andK b (a ρ) := rfl
@[simp] theorem ev_andT : andK b (.ok true ρ) = b ρ := rfl
@[simp] theorem ev_andF : andK b (.ok false ρ) = .ok false ρ := rfl
@[simp] theorem ev_andX : andK b (.exc x ρ) = .exc x ρ := rfl
@[simp] theorem ev_or : mOr a b ρ = orK b (a ρ) := rfl
@[simp] theorem ev_orT : orK b (.ok true ρ) = .ok true ρ := rfl
@[simp] theorem ev_orF : orK b (.ok false ρ) = b ρ := rfl
@[simp] theorem ev_orX : orK b (.exc x ρ) = .exc x ρ := rfl
@[simp] theorem ev_not : mNot a ρ = notK (a ρ) := rfl
@[simp] theorem ev_notO {y : Bool} : notK (.ok y ρ) = .ok (!y) ρ := rfl
@[simp] theorem ev_notX : notK (.exc x ρ) = .exc x ρ := rfl
@[simp] theorem ev_andV {u v : M Slot} : mAndV u v ρ = andVK v (mTest u ρ) := rfl
@[simp] theorem ev_andVT {v : M Slot} : andVK v (.ok true ρ) = v ρ := rfl
@[simp] theorem ev_andVF {v : M Slot} : andVK v (.ok false ρ) = .ok (.val (.bool false)) ρ := rfl
@[simp] theorem ev_andVX {v : M Slot} : andVK v (.exc x ρ) = .exc x ρ := rfl
@[simp] theorem ev_orV {u v : M Slot} : mOrV u v ρ = orVK v (mTest u ρ) := rfl
@[simp] theorem ev_orVT {v : M Slot} : orVK v (.ok true ρ) = .ok (.val (.bool true)) ρ := rfl
@[simp] theorem ev_orVF {v : M Slot} : orVK v (.ok false ρ) = v ρ := rfl
@[simp] theorem ev_orVX {v : M Slot} : orVK v (.exc x ρ) = .exc x ρ := rfl
@[simp] theorem ev_notV {u : M Slot} : mNotV u ρ = notVK (mTest u ρ) := rfl
@[simp] theorem ev_notVO {y : Bool} : notVK (.ok y ρ) = .ok (.val (.bool (!y))) ρ := rfl
@[simp] theorem ev_notVX : notVK (.exc x ρ) = .exc x ρ := rfl
@[simp] theorem ev_ifE {u v : M Slot} : mIfE c u v ρ = ifEK u v (c ρ) := rfl
@[simp] theorem ev_ifET {u v : M Slot} : ifEK u v (.ok true ρ) = u ρ := rfl
@[simp] theorem ev_ifEF {u v : M Slot} : ifEK u v (.ok false ρ) = v ρ := rfl
@[simp] theorem ev_vals0 : mVals [] ρ = .ok [] ρ := rfl
@[simp] theorem ev_vals1 : mVals (f :: fs) ρ = valsK fs (f ρ) := by
  show (f ρ).bind _ = _
  unfold valsK
  congr 1
@[simp] theorem ev_valsK : valsK fs (.ok s ρ) = valsO fs ρ s.data := rfl
@[simp] theorem ev_valsX : valsK fs (.exc x ρ) = .exc x ρ := rfl
@[simp] theorem ev_valsO : valsO fs ρ (some d) = valsK2 d (mVals fs ρ) := rfl
@[simp] theorem ev_valsK2 : valsK2 d (.ok ds ρ) = .ok (d :: ds) ρ := rfl
@[simp] theorem ev_valsK2X : valsK2 d (.exc x ρ) = .exc x ρ := rfl
@[simp] theorem ev_tup : mTup fs ρ = tupK (mVals fs ρ) := rfl
@[simp] theorem ev_tupK : tupK (.ok ds ρ) = if lineOk ds.length then .ok (.val (.tuple ds)) ρ else .bad := rfl
@[simp] theorem ev_tupX : tupK (.exc x ρ) = .exc x ρ := rfl
@[simp] theorem ev_lst : mLst fs ρ = lstK (mVals fs ρ) := rfl
@[simp] theorem ev_lstK : lstK (.ok ds ρ) = if lineOk ds.length then .ok (.lst ds) ρ else .bad := rfl
@[simp] theorem ev_lstX : lstK (.exc x ρ) = .exc x ρ := rfl
@[simp] theorem ev_line {n : Nat} : lineOk n = decide (n ≤ 16777216) := rfl
@[simp] theorem ev_varV {ρ : En} : mVar i ρ = match (En.at ρ i).data with
  | some d => .ok (.val d) (ρ.set i (.val d))
  | none => .bad := rfl
@[simp] theorem ev_retV : mRetV i ρ = if (En.at ρ i).isSome then (if (En.at ρ i).isCell then .ok (.ret (En.at ρ i)) (ρ.set i .emp) else .ok (.ret (En.at ρ i)) ρ) else .bad := rfl
@[simp] theorem ev_call : mCall f as ρ = callK f (evAs as ρ) := by
  unfold mCall callK
  congr 1
  funext gs ρ1
  cases takeArgs gs ρ1 with
  | none => rfl
  | some r =>
    obtain ⟨sl, ρ2⟩ := r
    show (match f sl with | .ok s outs => _ | .exc x outs => _ | .bad => _) = callR gs sl ρ2 (f sl)
    cases f sl <;> rfl
@[simp] theorem ev_callK {gs : List Arg} : callK f (.ok gs ρ) = callO f gs (takeArgs gs ρ) := rfl
@[simp] theorem ev_callX : callK f (.exc x ρ) = .exc x ρ := rfl
@[simp] theorem ev_callO {gs : List Arg} {r : En × En} : callO f gs (some r) = callR gs r.1 r.2 (f r.1) := rfl
@[simp] theorem ev_callR {gs : List Arg} {sl outs : En} : callR gs sl ρ (.ok s outs) = .ok s (giveBack gs sl outs ρ) := rfl
@[simp] theorem ev_callRX {gs : List Arg} {sl outs : En} : callR gs sl ρ (.exc x outs) = .exc x (giveBack gs sl outs ρ) := rfl
@[simp] theorem ev_take0 : takeArgs [] ρ = some ([], ρ) := rfl
@[simp] theorem ev_take1 {gs : List Arg} : takeArgs (.sl s :: gs) ρ = (takeArgs gs ρ).map fun r => (s :: r.1, r.2) := rfl
@[simp] theorem ev_take2 {gs : List Arg} : takeArgs (.nm i :: gs) ρ = if (En.at ρ i).isSome then (if (En.at ρ i).isCell then (takeArgs gs (ρ.set i .emp)).map fun r => (En.at ρ i :: r.1, r.2) else (takeArgs gs ρ).map fun r => (En.at ρ i :: r.1, r.2)) else none := rfl
@[simp] theorem ev_give1 {gs : List Arg} {t o : Slot} {as os : List Slot} : giveBack (.nm i :: gs) (t :: as) (o :: os) ρ = giveBack gs as os (if t.isCell then ρ.set i o else ρ) := rfl
@[simp] theorem ev_give2 {gs : List Arg} {t o : Slot} {as os : List Slot} : giveBack (.sl s :: gs) (t :: as) (o :: os) ρ = giveBack gs as os ρ := rfl
@[simp] theorem ev_give0 {as os : En} : giveBack [] as os ρ = ρ := by cases as <;> cases os <;> rfl
end

/-! ### operations -/
section
variable {i j : Int} {a b : Str} {ds es : List D} {d : D}
@[simp] theorem p_addI : pAdd [.int i, .int j] = some (.val (.int (i + j))) := rfl
@[simp] theorem p_addS : pAdd [.str a, .str b] = if a.length + b.length ≤ 16777216 then some (.val (.str (a ++ b))) else none := by simp [pAdd]
@[simp] theorem p_addL : pAdd [.list ds, .list es] = if ds.length + es.length ≤ 16777216 then some (.lst (ds ++ es)) else none := by simp [pAdd]
@[simp] theorem p_addT : pAdd [.tuple ds, .tuple es] = if ds.length + es.length ≤ 16777216 then some (.val (.tuple (ds ++ es))) else none := by simp [pAdd]
@[simp] theorem p_sub : pSub [.int i, .int j] = some (.val (.int (i - j))) := rfl
@[simp] theorem p_mul : pMul [.int i, .int j] = if CMul i j ∨ CMulA i j then some (.val (.int (i * j))) else none := rfl
@[simp] theorem p_div : pDiv [.int i, .int j] = if CDivW i j then some (.val (.int (i / j))) else none := rfl
@[simp] theorem p_mod : pMod [.int i, .int j] = if 0 < j then some (.val (.int (i % j))) else none := rfl
@[simp] theorem p_pow : pPow [.int i, .int j] = if CPow i j then some (.val (.int (i ^ j.toNat))) else none := rfl
@[simp] theorem p_neg : pNeg [.int i] = some (.val (.int (-i))) := rfl
@[simp] theorem p_gt : pGt [.int i, .int j] = some (.val (.bool (decide (j < i)))) := rfl
@[simp] theorem p_lt : pLt [.int i, .int j] = some (.val (.bool (decide (i < j)))) := rfl
@[simp] theorem p_ge : pGe [.int i, .int j] = some (.val (.bool (decide (j ≤ i)))) := rfl
@[simp] theorem p_le : pLe [.int i, .int j] = some (.val (.bool (decide (i ≤ j)))) := rfl
@[simp] theorem p_ixL : pIx [.list ds, .int i] = (atI ds i).map .val := rfl
@[simp] theorem p_ixT : pIx [.tuple ds, .int i] = (atI ds i).map .val := rfl
@[simp] theorem p_ixS : pIx [.str a, .int i] = if a.length ≤ 16777216 then (atI a.cps.toList i).map fun c => .val (.str ⟨#[c]⟩) else none := by simp [pIx]
@[simp] theorem p_lenL : pLen [.list ds] = some (.val (.int ds.length)) := rfl
@[simp] theorem p_lenT : pLen [.tuple ds] = some (.val (.int ds.length)) := rfl
@[simp] theorem p_lenS : pLen [.str a] = if a.length ≤ 16777216 then some (.val (.int a.length)) else none := by simp [pLen]
@[simp] theorem p_isi {t : Ty} : pIsi t [d] = some (.val (.bool (isTy t d))) := rfl
@[simp] theorem p_isN : pIsN [d, .none] = some (.val (.bool (isNone d))) := rfl
@[simp] theorem p_notN : pNotN [d, .none] = some (.val (.bool (!isNone d))) := rfl
@[simp] theorem p_abs : pAbs [.int i] = some (.val (.int (if i < 0 then -i else i))) := rfl
@[simp] theorem p_all : pAll [.list ds] = (boolsOf ds).map fun bs => .val (.bool (bs.all id)) := rfl
@[simp] theorem p_any : pAny [.list ds] = (boolsOf ds).map fun bs => .val (.bool (bs.any id)) := rfl
@[simp] theorem p_tupleL : pTuple [.list ds] = some (.val (.tuple ds)) := rfl
@[simp] theorem p_tupleT : pTuple [.tuple ds] = some (.val (.tuple ds)) := rfl
@[simp] theorem p_listL : pList [.list ds] = some (.lst ds) := rfl
@[simp] theorem p_listT : pList [.tuple ds] = some (.lst ds) := rfl
theorem p_eq {x y : D} : pEq [x, y] = if eqOk x y then some (.val (.bool (PyData.eqv x y))) else none := rfl
theorem p_ne {x y : D} : pNe [x, y] = if eqOk x y then some (.val (.bool (!PyData.eqv x y))) else none := rfl
@[simp] theorem at_0 {α : Type} {x : α} {l : List α} : atI (x :: l) 0 = some x := by simp [atI, ixN, show (0 : Int) < (l.length : Int) + 1 by omega]
@[simp] theorem at_1 {α : Type} {x y : α} {l : List α} : atI (x :: y :: l) 1 = some y := by simp [atI, ixN, show (1 : Int) < (l.length : Int) + 1 + 1 by omega]
@[simp] theorem at_2 {α : Type} {x y z : α} {l : List α} : atI (x :: y :: z :: l) 2 = some z := by simp [atI, ixN, show (2 : Int) < (l.length : Int) + 1 + 1 + 1 by omega]
@[simp] theorem at_3 {α : Type} {x y z w : α} {l : List α} : atI (x :: y :: z :: w :: l) 3 = some w := by simp [atI, ixN, show (3 : Int) < (l.length : Int) + 1 + 1 + 1 + 1 by omega]
end
end SD

set_option Elab.async false
set_option linter.all false
set_option autoImplicit false
set_option maxRecDepth 100000
set_option maxHeartbeats 4000000
/-! SD, part T: runs of defs, loops, comprehensions, stores. -/
namespace SD
open PySem PySem.Spec PyProof.Rows L2
def defK (pr : List Nat) (n : Nat) (o : Out Fl) : Out Slot := match o with
  | .ok .next ρ => .ok (.val .none) (outsOf pr n ρ)
  | .ok (.ret s) ρ => .ok s (outsOf pr n ρ)
  | .ok _ _ => .bad
  | .exc x ρ => .exc x (outsOf pr n ρ)
  | .bad => .bad
def setIxO (i : Nat) (ρ : En) (d : D) (j : Option D) (s : Slot) : Out Fl := match j, s with
  | some (.int j), .lst ds => (match ixN ds.length j with
    | some n => .ok .next (ρ.set i (.lst (ds.set n d)))
    | none => .bad)
  | _, _ => .bad
def setIxK2 (i : Nat) (d : D) (o : Out Arg) : Out Fl := o.bind fun g ρ2 => setIxO i ρ2 d (g.slot ρ2).data (En.at ρ2 i)
def setIxO1 (i : Nat) (a : AE) (ρ : En) (o : Option D) : Out Fl := match o with
  | some d => if (En.at ρ i).isSome then setIxK2 i d (evA a ρ) else .bad
  | none => .bad
def setIxK (i : Nat) (a : AE) (o : Out Slot) : Out Fl := o.bind fun s ρ1 => setIxO1 i a ρ1 s.data
def appO (i : Nat) (ρ : En) (o : Option D) (s : Slot) : Out Slot := match o, s with
  | some d, .lst ds => if ds.length < 16777216 then .ok (.val .none) (ρ.set i (.lst (ds ++ [d]))) else .bad
  | _, _ => .bad
def appK (i : Nat) (o : Out Slot) : Out Slot := o.bind fun s ρ1 => appO i ρ1 s.data (En.at ρ1 i)
def partK (o : Out Arg) : Out (Option Int) := o.bind fun g ρ' => match (g.slot ρ').data with
  | some (.int i) => .ok (some i) ρ'
  | _ => .bad
def slK3 (g : Arg) (l : Option Int) (o : Out (Option Int)) : Out Slot := o.bind fun h ρ3 => primO ρ3 ((g.slot ρ3).data.bind (pSl l h))
def slK2 (g : Arg) (hi : Option AE) (o : Out (Option Int)) : Out Slot := o.bind fun l ρ2 => slK3 g l (partI hi ρ2)
def slK1 (lo hi : Option AE) (o : Out Arg) : Out Slot := o.bind fun g ρ1 => slK2 g hi (partI lo ρ1)
def chO2 (p' : List D → Option Slot) (g2 : Arg) (o : Out Arg) : Out Slot := o.bind fun g3 ρ2 => primO ρ2 ((argDs ρ2 [g2, g3]).bind p')
def chO (p' : List D → Option Slot) (c : AE) (g2 : Arg) (ρ : En) (o : Option Bool) : Out Slot := match o with
  | some true => chO2 p' g2 (evA c ρ)
  | some false => .ok (.val (.bool false)) ρ
  | none => .bad
def chK (p p' : List D → Option Slot) (c : AE) (o : Out (List Arg)) : Out Slot := o.bind fun gs ρ1 => match gs with
  | [g1, g2] => chO p' c g2 ρ1 (((argDs ρ1 [g1, g2]).bind p).bind asBool)
  | _ => .bad
def methK2 (p : List D → Option Slot) (z : Str) (o : Out (List Arg)) : Out Slot := o.bind fun gs ρ2 => primO ρ2 ((argDs ρ2 gs).bind fun ds => p (.str z :: ds))
def methO (p : List D → Option Slot) (as : List AE) (ρ : En) (o : Option D) : Out Slot := match o with
  | some (.str z) => methK2 p z (evAs as ρ)
  | _ => .bad
def methK (p : List D → Option Slot) (as : List AE) (o : Out Arg) : Out Slot := o.bind fun g ρ1 => methO p as ρ1 (g.slot ρ1).data
def iterO (ρ : En) (o : Option (List D)) : Out (List D) := match o with
  | some ds => .ok ds ρ
  | none => .bad
def iterK (o : Out Slot) : Out (List D) := o.bind fun s ρ' => iterO ρ' (s.data.bind anyItems)
def forK (g : Tg) (b : M Fl) (o : Out (List D)) : Out Fl := o.bind fun ds ρ1 => forL g b ds ρ1
def forT (g : Tg) (b : M Fl) (ds : List D) (o : Out Fl) : Out Fl := o.bind fun f ρ2 => match f with
  | .next => forL g b ds ρ2
  | .cont => forL g b ds ρ2
  | .brk => .ok .next ρ2
  | .ret s => .ok (.ret s) ρ2
def rngK (o : Out Slot) : Out (List D) := o.bind fun s ρ' => match s with
  | .val (.int j) => if -(2 ^ 62) ≤ j ∧ j < 2 ^ 62 then .ok ((List.range j.toNat).map fun i => PyData.int ((0 : Int) + (i : Nat))) ρ' else .bad
  | _ => .bad
def compO (ρ : En) (vs : List Nat) (o : Out (List D)) : Out Slot := match o with
  | .ok acc ρ2 => .ok (.lst acc) (restE ρ ρ2 vs)
  | _ => .bad
def compK (vs : List Nat) (g : Tg) (c : M Bool) (f : M Slot) (o : Out (List D)) : Out Slot := o.bind fun ds ρ1 => compO ρ1 vs (compL vs g c f ds [] (wipeE ρ1 vs))
def compR (vs : List Nat) (g : Tg) (c : M Bool) (f : M Slot) (ds : List D) (ρ : En) : Out Slot := compO ρ vs (compL vs g c f ds [] (wipeE ρ vs))
def asgO (g : Tg) (ρ : En) (o : Option D) : Out Fl := match o with
  | some d => (match g d ρ with
    | some ρ2 => .ok .next ρ2
    | none => .bad)
  | none => .bad
def asgK (g : Tg) (o : Out Slot) : Out Fl := o.bind fun s ρ' => asgO g ρ' s.data
section
variable {g h : M Fl} {tg : Tg} {c : M Bool} {f : M Slot} {i n m : Nat} {p p' : List D → Option Slot} {a b e : AE} {as : List AE} {ρ : En} {s : Slot} {x : Exc} {d : D} {ds : List D} {pr vs : List Nat} {lo hi : Option AE}
@[simp] theorem ev_def {as : En} : mDef n m pr g as = if as.length = n then defK pr n (g (as ++ List.replicate m .emp)) else .bad := by
  unfold mDef defK
  split
  · cases e : g (as ++ List.replicate m .emp) with
    | ok fl ρ => cases fl <;> rfl
    | exc x ρ => rfl
    | bad => rfl
  · rfl
@[simp] theorem ev_defN : defK pr n (.ok .next ρ) = .ok (.val .none) (outsOf pr n ρ) := rfl
@[simp] theorem ev_defR : defK pr n (.ok (.ret s) ρ) = .ok s (outsOf pr n ρ) := rfl
@[simp] theorem ev_defX : defK pr n (.exc x ρ) = .exc x (outsOf pr n ρ) := rfl
@[simp] theorem ev_outs0 : outsOf pr 0 ρ = [] := rfl
@[simp] theorem ev_outs1 : outsOf pr 1 ρ = [if 0 ∈ pr then En.at ρ 0 else .emp] := rfl
@[simp] theorem ev_outs2 : outsOf pr 2 ρ = [if 0 ∈ pr then En.at ρ 0 else .emp, if 1 ∈ pr then En.at ρ 1 else .emp] := rfl
@[simp] theorem ev_outs3 : outsOf pr 3 ρ = [if 0 ∈ pr then En.at ρ 0 else .emp, if 1 ∈ pr then En.at ρ 1 else .emp, if 2 ∈ pr then En.at ρ 2 else .emp] := rfl
@[simp] theorem ev_outs4 : outsOf pr 4 ρ = [if 0 ∈ pr then En.at ρ 0 else .emp, if 1 ∈ pr then En.at ρ 1 else .emp, if 2 ∈ pr then En.at ρ 2 else .emp, if 3 ∈ pr then En.at ρ 3 else .emp] := rfl
@[simp] theorem ev_outs5 : outsOf pr 5 ρ = [if 0 ∈ pr then En.at ρ 0 else .emp, if 1 ∈ pr then En.at ρ 1 else .emp, if 2 ∈ pr then En.at ρ 2 else .emp, if 3 ∈ pr then En.at ρ 3 else .emp, if 4 ∈ pr then En.at ρ 4 else .emp] := rfl
@[simp] theorem ev_setIx : mSetIx i a f ρ = setIxK i a (f ρ) := by
  unfold mSetIx setIxK
  congr 1
@[simp] theorem ev_setIxK : setIxK i a (.ok s ρ) = setIxO1 i a ρ s.data := rfl
@[simp] theorem ev_setIxX : setIxK i a (.exc x ρ) = .exc x ρ := rfl
@[simp] theorem ev_setIxO1 : setIxO1 i a ρ (some d) = if (En.at ρ i).isSome then setIxK2 i d (evA a ρ) else .bad := rfl
@[simp] theorem ev_setIxK2n {j : Nat} : setIxK2 i d (.ok (.nm j) ρ) = setIxO i ρ d (En.at ρ j).data (En.at ρ i) := rfl
@[simp] theorem ev_setIxK2s : setIxK2 i d (.ok (.sl s) ρ) = setIxO i ρ d s.data (En.at ρ i) := rfl
@[simp] theorem ev_setIxO {j : Int} {es : List D} : setIxO i ρ d (some (.int j)) (.lst es) = match ixN es.length j with
    | some n => .ok .next (ρ.set i (.lst (es.set n d)))
    | none => .bad := rfl
@[simp] theorem ev_append : mAppend i f ρ = match En.at ρ i with
  | .lst _ => appK i (f ρ)
  | _ => .bad := by
  unfold mAppend
  cases e : En.at ρ i with
  | lst ds0 =>
    show (f ρ).bind _ = (f ρ).bind _
    congr 1
    funext s ρ1
    unfold appO
    cases s.data with
    | none => rfl
    | some d => cases En.at ρ1 i <;> rfl
  | _ => rfl
@[simp] theorem ev_appK : appK i (.ok s ρ) = appO i ρ s.data (En.at ρ i) := rfl
@[simp] theorem ev_appO {es : List D} : appO i ρ (some d) (.lst es) = if es.length < 16777216 then .ok (.val .none) (ρ.set i (.lst (es ++ [d]))) else .bad := rfl
@[simp] theorem ev_part0 : partI none ρ = .ok none ρ := rfl
@[simp] theorem ev_part1 : partI (some a) ρ = partK (evA a ρ) := rfl
@[simp] theorem ev_partKs {j : Int} : partK (.ok (.sl (.val (.int j))) ρ) = .ok (some j) ρ := rfl
@[simp] theorem ev_partKn {j : Nat} : partK (.ok (.nm j) ρ) = match (En.at ρ j).data with
  | some (.int i) => .ok (some i) ρ
  | _ => .bad := rfl
@[simp] theorem ev_slice : mSlice a lo hi ρ = slK1 lo hi (evA a ρ) := by
  unfold mSlice slK1
  congr 1
@[simp] theorem ev_sl1 {gg : Arg} : slK1 lo hi (.ok gg ρ) = slK2 gg hi (partI lo ρ) := rfl
@[simp] theorem ev_sl1X : slK1 lo hi (.exc x ρ) = .exc x ρ := rfl
@[simp] theorem ev_sl2 {gg : Arg} {l : Option Int} : slK2 gg hi (.ok l ρ) = slK3 gg l (partI hi ρ) := rfl
@[simp] theorem ev_sl3n {j : Nat} {l h : Option Int} : slK3 (.nm j) l (.ok h ρ) = primO ρ ((En.at ρ j).data.bind (pSl l h)) := rfl
@[simp] theorem ev_sl3s {l h : Option Int} : slK3 (.sl s) l (.ok h ρ) = primO ρ (s.data.bind (pSl l h)) := rfl
@[simp] theorem ev_chain : mChain p p' a b e ρ = chK p p' e (evAs [a, b] ρ) := by
  unfold mChain chK
  congr 1
@[simp] theorem ev_chK {g1 g2 : Arg} : chK p p' e (.ok [g1, g2] ρ) = chO p' e g2 ρ (((argDs ρ [g1, g2]).bind p).bind asBool) := rfl
@[simp] theorem ev_chX : chK p p' e (.exc x ρ) = .exc x ρ := rfl
@[simp] theorem ev_chT {g2 : Arg} : chO p' e g2 ρ (some true) = chO2 p' g2 (evA e ρ) := rfl
@[simp] theorem ev_chF {g2 : Arg} : chO p' e g2 ρ (some false) = .ok (.val (.bool false)) ρ := rfl
@[simp] theorem ev_ch2 {g2 g3 : Arg} : chO2 p' g2 (.ok g3 ρ) = primO ρ ((argDs ρ [g2, g3]).bind p') := rfl
@[simp] theorem ev_asBool {b : Bool} : asBool (.val (.bool b)) = some b := rfl
@[simp] theorem ev_meth : mMeth p a as ρ = methK p as (evA a ρ) := by
  unfold mMeth methK
  congr 1
@[simp] theorem ev_methKn {j : Nat} : methK p as (.ok (.nm j) ρ) = methO p as ρ (En.at ρ j).data := rfl
@[simp] theorem ev_methKs : methK p as (.ok (.sl s) ρ) = methO p as ρ s.data := rfl
@[simp] theorem ev_methX : methK p as (.exc x ρ) = .exc x ρ := rfl
@[simp] theorem ev_methO {z : Str} : methO p as ρ (some (.str z)) = methK2 p z (evAs as ρ) := rfl
@[simp] theorem ev_methK2 {z : Str} {gs : List Arg} : methK2 p z (.ok gs ρ) = primO ρ ((argDs ρ gs).bind fun ds => p (.str z :: ds)) := rfl
@[simp] theorem ev_methK2X {z : Str} : methK2 p z (.exc x ρ) = .exc x ρ := rfl
@[simp] theorem ev_iter : mIter f ρ = iterK (f ρ) := by
  unfold mIter iterK
  congr 1
@[simp] theorem ev_iterK : iterK (.ok s ρ) = iterO ρ (s.data.bind anyItems) := rfl
@[simp] theorem ev_iterX : iterK (.exc x ρ) = .exc x ρ := rfl
@[simp] theorem ev_iterO : iterO ρ (some ds) = .ok ds ρ := rfl
@[simp] theorem ev_itL : anyItems (.list ds) = some ds := rfl
@[simp] theorem ev_itT : anyItems (.tuple ds) = some ds := rfl
@[simp] theorem ev_itS {z : Str} : anyItems (.str z) = some (signs z) := rfl
@[simp] theorem ev_rng : mRange1 f ρ = rngK (f ρ) := rfl
@[simp] theorem ev_rngK {j : Int} : rngK (.ok (.val (.int j)) ρ) = if -(2 ^ 62) ≤ j ∧ j < 2 ^ 62 then .ok ((List.range j.toNat).map fun i => PyData.int ((0 : Int) + (i : Nat))) ρ else .bad := rfl
@[simp] theorem ev_for {src : M (List D)} : mFor src tg g ρ = forK tg g (src ρ) := rfl
@[simp] theorem ev_forK : forK tg g (.ok ds ρ) = forL tg g ds ρ := rfl
@[simp] theorem ev_forX : forK tg g (.exc x ρ) = .exc x ρ := rfl
@[simp] theorem ev_forL0 : forL tg g [] ρ = .ok .next ρ := rfl
theorem ev_forL1 : forL tg g (d :: ds) ρ = match tg d ρ with
  | none => .bad
  | some ρ1 => forT tg g ds (g ρ1) := rfl
@[simp] theorem ev_forT0 : forT tg g ds (.ok .next ρ) = forL tg g ds ρ := rfl
@[simp] theorem ev_forT1 : forT tg g ds (.ok .cont ρ) = forL tg g ds ρ := rfl
@[simp] theorem ev_forT2 : forT tg g ds (.ok .brk ρ) = .ok .next ρ := rfl
@[simp] theorem ev_forT3 : forT tg g ds (.ok (.ret s) ρ) = .ok (.ret s) ρ := rfl
@[simp] theorem ev_forT4 : forT tg g ds (.exc x ρ) = .exc x ρ := rfl
@[simp] theorem ev_comp {src : M (List D)} : mComp src vs tg c f ρ = compK vs tg c f (src ρ) := by
  unfold mComp compK
  congr 1
  funext ds ρ1
  cases compL vs tg c f ds [] (wipeE ρ1 vs) <;> rfl
@[simp] theorem ev_compK : compK vs tg c f (.ok ds ρ) = compR vs tg c f ds ρ := rfl
@[simp] theorem ev_compX : compK vs tg c f (.exc x ρ) = .exc x ρ := rfl
@[simp] theorem ev_asg : mAsg tg f ρ = asgK tg (f ρ) := by
  unfold mAsg asgK
  congr 1
@[simp] theorem ev_asgK : asgK tg (.ok s ρ) = asgO tg ρ s.data := rfl
@[simp] theorem ev_asgX : asgK tg (.exc x ρ) = .exc x ρ := rfl
@[simp] theorem ev_gNm : gNm i d ρ = some (ρ.set i (.val d)) := rfl
@[simp] theorem ev_gsNil : gsNil [] ρ = some ρ := rfl
@[simp] theorem ev_gsCons {t : Tg} {ts : List D → En → Option En} : gsCons t ts (d :: ds) ρ = (t d ρ).bind fun ρ' => ts ds ρ' := rfl
@[simp] theorem ev_gTp {ts : List D → En → Option En} : gTp n ts (.tuple ds) ρ = if ds.length = n then ts ds ρ else none := rfl
@[simp] theorem ev_wipe0 : wipeE ρ [] = ρ := rfl
@[simp] theorem ev_wipe1 {v : Nat} : wipeE ρ (v :: vs) = (wipeE ρ vs).set v .emp := rfl
@[simp] theorem ev_rest0 {ρ ρ' : En} : restE ρ ρ' [] = ρ' := rfl
@[simp] theorem ev_rest1 {v : Nat} {ρ ρ' : En} : restE ρ ρ' (v :: vs) = (restE ρ ρ' vs).set v (En.at ρ v) := rfl
end
/-- a comprehension that changes nothing: what it filters and makes -/
theorem comp_pure {vs : List Nat} {g : Tg} {c : M Bool} {f : M Slot} {ρ : En} {b : D → Bool} {F : D → D} : ∀ (ds : List D), (∀ d ∈ ds, ∃ ρ1, g d (wipeE ρ vs) = some ρ1 ∧ wipeE ρ1 vs = wipeE ρ vs ∧ restE ρ ρ1 vs = ρ ∧ c ρ1 = .ok (b d) ρ1 ∧ (b d = true → ∃ s, f ρ1 = .ok s ρ1 ∧ s.data = some (F d))) →
    ds.length ≤ 16777216 → restE ρ (wipeE ρ vs) vs = ρ → compR vs g c f ds ρ = .ok (.lst ((ds.filter b).map F)) ρ := by
  have key : ∀ (ds acc : List D) (ρ2 : En), wipeE ρ2 vs = wipeE ρ vs → restE ρ ρ2 vs = ρ → (∀ d ∈ ds, ∃ ρ1, g d (wipeE ρ vs) = some ρ1 ∧ wipeE ρ1 vs = wipeE ρ vs ∧ restE ρ ρ1 vs = ρ ∧ c ρ1 = .ok (b d) ρ1 ∧ (b d = true → ∃ s, f ρ1 = .ok s ρ1 ∧ s.data = some (F d))) →
      acc.length + ds.length ≤ 16777216 → ∃ ρ3, compL vs g c f ds acc ρ2 = .ok (acc ++ (ds.filter b).map F) ρ3 ∧ restE ρ ρ3 vs = ρ := by
    intro ds
    induction ds with
    | nil => intro acc ρ2 e1 e2 _ _; exact ⟨ρ2, by simp [compL], e2⟩
    | cons d ds ih =>
      intro acc ρ2 e1 e2 h hl
      obtain ⟨ρ1, h1, h2, h3, h4, h5⟩ := h d List.mem_cons_self
      have hl' : acc.length + (ds.length + 1) ≤ 16777216 := hl
      cases hb : b d with
      | false =>
        obtain ⟨ρ3, k1, k2⟩ := ih acc ρ1 h2 h3 (fun d' hd => h d' (List.mem_cons_of_mem _ hd)) (by omega)
        refine ⟨ρ3, ?_, k2⟩
        unfold compL
        rw [e1, h1]
        simp only [h4, hb, Out.bind, Bool.false_eq_true, if_false]
        rw [k1, List.filter_cons_of_neg (by simp [hb])]
      | true =>
        obtain ⟨s, q1, q2⟩ := h5 hb
        obtain ⟨ρ3, k1, k2⟩ := ih (acc ++ [F d]) ρ1 h2 h3 (fun d' hd => h d' (List.mem_cons_of_mem _ hd)) (by simp; omega)
        refine ⟨ρ3, ?_, k2⟩
        unfold compL
        rw [e1, h1]
        simp only [h4, hb, Out.bind, if_true, q1, q2]
        rw [if_pos (by omega), k1, List.filter_cons_of_pos (by simp [hb])]
        simp
  intro ds h hl hr
  obtain ⟨ρ3, k1, k2⟩ := key ds [] (wipeE ρ vs) (by
    refine List.ext_getElem? fun j => ?_
    by_cases hj : j ∈ vs
    · cases e1 : (wipeE (wipeE ρ vs) vs)[j]? with
      | none =>
        have := List.getElem?_eq_none_iff.mp e1
        rw [wipeE_length] at this
        exact (List.getElem?_eq_none_iff.mpr this).symm
      | some s1 =>
        have hl : j < (wipeE ρ vs).length := by
          have := (List.getElem?_eq_some_iff.mp e1).1
          rw [wipeE_length] at this; exact this
        rw [wipeE_in hj e1, List.getElem?_eq_getElem hl]
        exact congrArg some (wipeE_in hj (List.getElem?_eq_getElem hl)).symm
    · rw [wipeE_out hj]) hr h (by simpa using hl)
  unfold compR
  rw [k1]
  simp [compO, k2]
theorem set_at {ρ : En} {v : Nat} : ρ.set v (En.at ρ v) = ρ := by
  refine List.ext_getElem? fun j => ?_
  rw [List.getElem?_set]
  split
  · rename_i h
    subst h
    split
    · rename_i hl
      unfold En.at
      rw [List.getElem?_eq_getElem hl]
      simp [hl]
    · rename_i hl
      rw [List.getElem?_eq_none_iff.mpr (by omega)]
  · rfl
/-- .. over one name -/
theorem comp1 {α : Type} {v : Nat} {c : M Bool} {f : M Slot} {ρ : En} {L : List α} (T : α → D) (b : α → Bool) (F : α → D)
    (h : ∀ a ∈ L, c (ρ.set v (.val (T a))) = .ok (b a) (ρ.set v (.val (T a))) ∧ (b a = true → ∃ s, f (ρ.set v (.val (T a))) = .ok s (ρ.set v (.val (T a))) ∧ s.data = some (F a)))
    (hl : L.length ≤ 16777216) : compR [v] (gNm v) c f (L.map T) ρ = .ok (.lst ((L.filter b).map F)) ρ := by
  have key : ∀ (L : List α) (acc : List D) (ρ0 : En), ρ0.set v .emp = ρ.set v .emp → (∀ a ∈ L, c (ρ.set v (.val (T a))) = .ok (b a) (ρ.set v (.val (T a))) ∧ (b a = true → ∃ s, f (ρ.set v (.val (T a))) = .ok s (ρ.set v (.val (T a))) ∧ s.data = some (F a))) → acc.length + L.length ≤ 16777216 →
      ∃ ρ3, compL [v] (gNm v) c f (L.map T) acc ρ0 = .ok (acc ++ (L.filter b).map F) ρ3 ∧ ρ3.set v .emp = ρ.set v .emp := by
    intro L
    induction L with
    | nil => intro acc ρ0 e _ _; exact ⟨ρ0, by simp [compL], e⟩
    | cons a L ih =>
      intro acc ρ0 e h hl
      obtain ⟨h1, h2⟩ := h a List.mem_cons_self
      have hl' : acc.length + (L.length + 1) ≤ 16777216 := hl
      have e2 : (ρ.set v (.val (T a))).set v .emp = ρ.set v .emp := List.set_set ..
      have e3 : (ρ0.set v .emp).set v (.val (T a)) = ρ.set v (.val (T a)) := by rw [e, List.set_set]
      rw [List.map_cons]
      unfold compL
      rw [show gNm v (T a) (wipeE ρ0 [v]) = some (ρ.set v (.val (T a))) from congrArg some e3]
      cases hb : b a with
      | false =>
        obtain ⟨ρ3, k1, k2⟩ := ih acc _ e2 (fun d' hd => h d' (List.mem_cons_of_mem _ hd)) (by omega)
        refine ⟨ρ3, ?_, k2⟩
        simp only [h1, hb, Out.bind, Bool.false_eq_true, if_false]
        rw [k1, List.filter_cons_of_neg (by simp [hb])]
      | true =>
        obtain ⟨s, q1, q2⟩ := h2 hb
        obtain ⟨ρ3, k1, k2⟩ := ih (acc ++ [F a]) _ e2 (fun d' hd => h d' (List.mem_cons_of_mem _ hd)) (by simp; omega)
        refine ⟨ρ3, ?_, k2⟩
        simp only [h1, hb, Out.bind, if_true, q1, q2]
        rw [if_pos (by omega), k1, List.filter_cons_of_pos (by simp [hb])]
        simp
  obtain ⟨ρ3, k1, k2⟩ := key L [] (wipeE ρ [v]) (List.set_set ..) h (by simpa using hl)
  unfold compR
  rw [k1]
  show Out.ok _ (ρ3.set v (En.at ρ v)) = _
  rw [show ρ3.set v (En.at ρ v) = (ρ3.set v .emp).set v (En.at ρ v) by rw [List.set_set], k2, List.set_set, set_at]
  rfl
/-- a loop none of whose turns leaves it -/
theorem for_all {g : Tg} {body : M Fl} (P : En → Prop) : ∀ (ds : List D) (ρ : En), P ρ → (∀ d ∈ ds, ∀ ρ, P ρ → ∃ ρ1 ρ2, g d ρ = some ρ1 ∧ body ρ1 = .ok .next ρ2 ∧ P ρ2) → ∃ ρ', forL g body ds ρ = .ok .next ρ' ∧ P ρ'
  | [], ρ, p, _ => ⟨ρ, rfl, p⟩
  | d :: ds, ρ, p, h => by
    obtain ⟨ρ1, ρ2, e1, e2, p2⟩ := h d List.mem_cons_self ρ p
    obtain ⟨ρ', e, p'⟩ := for_all P ds ρ2 p2 fun d' hd => h d' (List.mem_cons_of_mem _ hd)
    exact ⟨ρ', by rw [ev_forL1, e1]; simp only [e2]; exact e, p'⟩
end SD

set_option Elab.async false
set_option linter.all false
set_option autoImplicit false
set_option maxRecDepth 100000
set_option maxHeartbeats 4000000
/-! SD, part U: texts as lists of code points; numbers' bounds; lists of texts. -/
namespace SD
open PySem PySem.Spec PyProof.Rows L2
def cs (l : List Nat) : Str := ⟨l.toArray⟩
@[simp] theorem cs_list (l : List Nat) : (cs l).cps.toList = l := by simp [cs]
@[simp] theorem cs_len (l : List Nat) : (cs l).length = l.length := by simp [cs, Str.length]
@[simp] theorem cs_app (l m : List Nat) : cs l ++ cs m = cs (l ++ m) := by
  show Str.append _ _ = _
  simp [cs, Str.append]
theorem cs_eta (z : Str) : z = cs z.cps.toList := by cases z; simp [cs]
theorem cs_inj {l m : List Nat} (h : cs l = cs m) : l = m := by
  have := congrArg (fun z : Str => z.cps.toList) h
  simpa using this
@[simp] theorem cs_eq {l m : List Nat} : (cs l = cs m) = (l = m) := propext ⟨cs_inj, fun h => by rw [h]⟩
@[simp] theorem cs_beq {l m : List Nat} : (cs l == cs m) = decide (l = m) := by
  by_cases h : l = m
  · subst h; simp
  · rw [decide_eq_false h]
    exact beq_false_of_ne fun e => h (cs_inj e)
@[simp] theorem cs_one (c : Nat) : (⟨#[c]⟩ : Str) = cs [c] := rfl
theorem lit (s : String) : Str.ofString s = cs (s.toList.map Char.toNat) := Str.ofString_eq_toList s
@[simp] theorem lit_nil : Str.ofString "" = cs [] := by decide +kernel
def az : List Nat := (List.range 26).map (97 + ·)
@[simp] theorem lit_az : Str.ofString "abcdefghijklmnopqrstuvwxyz" = cs az := by decide +kernel
@[simp] theorem az_len : az.length = 26 := rfl
theorem signs_cs (l : List Nat) : signs (cs l) = l.map fun c => .str (cs [c]) := by simp [signs]
@[simp] theorem p_in1 {c : Nat} {z : Str} : pIn [.str (cs [c]), .str z] = some (.val (.bool (decide (c ∈ z.cps.toList)))) := by
  show some (Slot.val (.bool (if false = true then !subStr (cs [c]) z else subStr (cs [c]) z))) = _
  rw [if_neg (by decide)]
  exact congrArg (fun b => some (Slot.val (.bool b))) (PySem.StrLaws.found_one z c)
theorem mem_az {c : Nat} : c ∈ az ↔ 97 ≤ c ∧ c ≤ 122 := by
  simp only [az, List.mem_map, List.mem_range]
  constructor
  · rintro ⟨i, h, rfl⟩; omega
  · rintro ⟨h1, h2⟩; exact ⟨c - 97, by omega, by omega⟩
/-- a slice's end that is written -/
theorem sIx_some (n d k : Nat) : HT.sIx n d (some ((k : Nat) : Int)) = min k n := HT.sIx_nat n d k
theorem cutS_to (l : List Nat) (k : Nat) : cutS (cs l) none (some (k : Int)) = cs (l.take k) := by
  unfold cutS
  rw [cs_list, cs_len, sIx_some, HT.sIx_none]
  show cs _ = _
  rw [List.drop_zero, Nat.sub_zero, cs_eq, List.take_eq_take_iff]
  omega
theorem cutD_to (l : List D) (k : Nat) : cutD l none (some (k : Int)) = l.take k := by
  unfold cutD
  rw [sIx_some, HT.sIx_none, List.drop_zero, Nat.sub_zero, List.take_eq_take_iff]
  omega
theorem p_slS {l : List Nat} (k : Nat) (h : l.length ≤ 16777216) : pSl none (some (k : Int)) (.str (cs l)) = some (.val (.str (cs (l.take k)))) := by
  show (if lineOk (cs l).length then some (Slot.val (.str (cutS (cs l) none (some (k : Int))))) else none) = _
  rw [cutS_to, if_pos (by simpa [lineOk] using h)]
@[simp] theorem p_slL {l : List D} (k : Nat) : pSl none (some (k : Int)) (.list l) = some (.lst (l.take k)) := by
  show some (Slot.lst (cutD l none (some (k : Int)))) = _
  rw [cutD_to]
@[simp] theorem p_slLn {l : List D} {k : Nat} : pSl none (some (no_index (@OfNat.ofNat Int k _))) (.list l) = some (.lst (l.take k)) := p_slL k
theorem p_slSn {l : List Nat} {k : Nat} (h : l.length ≤ 16777216) : pSl none (some (no_index (@OfNat.ofNat Int k _))) (.str (cs l)) = some (.val (.str (cs (l.take k)))) := p_slS k h
/-! ### join -/
theorem join_nil (ys : List (List Nat)) : Txt.join (cs []) (ys.map cs) = cs ys.flatten := by
  rw [TL.join_eq]
  induction ys with
  | nil => rfl
  | cons y ys ih =>
    cases ys with
    | nil => simp [Str.join]
    | cons z zs =>
      rw [List.map_cons, List.map_cons]
      show cs y ++ cs [] ++ Str.join (cs []) (cs z :: List.map cs zs) = _
      rw [← List.map_cons, ih]
      simp
/-! ### numbers -/
theorem cmul_r {i j : Int} (h : -(18446744073709551616 : Int) < j ∧ j < 18446744073709551616) : CMul i j := .inr ⟨by omega, by omega⟩
theorem cmul_l {i j : Int} (h : -(18446744073709551616 : Int) < i ∧ i < 18446744073709551616) : CMul i j := .inl ⟨by omega, by omega⟩
theorem cdivW {i j : Int} (h : 0 < j) (h2 : j < 18446744073709551616) : CDivW i j := by
  refine ⟨h, ?_⟩
  have : j.natAbs.log2 < 64 := by
    rw [Nat.log2_lt (by omega)]
    omega
  omega
theorem cpow10 {n : Nat} (h : n ≤ 1000) : CPow 10 (n : Int) := ⟨by omega, by omega, by decide⟩
@[simp] theorem cpow12 : CPow 10 12 := cpow10 (n := 12) (by decide)
@[simp] theorem cpow18 : CPow 10 18 := cpow10 (n := 18) (by decide)
@[simp] theorem cpow6 : CPow 10 6 := cpow10 (n := 6) (by decide)
/-! ### data that are plain -/
@[simp] theorem plain_none : PyData.plain .none = true := rfl
@[simp] theorem plain_bool {b : Bool} : PyData.plain (.bool b) = true := rfl
@[simp] theorem plain_int {b : Int} : PyData.plain (.int b) = true := rfl
@[simp] theorem plain_str {b : Str} : PyData.plain (.str b) = true := rfl
@[simp] theorem plain_list {b : List D} : PyData.plain (.list b) = PyData.plainAll b := rfl
@[simp] theorem plain_tuple {b : List D} : PyData.plain (.tuple b) = PyData.plainAll b := rfl
@[simp] theorem plain_nil : PyData.plainAll [] = true := rfl
@[simp] theorem plain_cons {d : D} {b : List D} : PyData.plainAll (d :: b) = (PyData.plain d && PyData.plainAll b) := rfl
theorem plainAll_iff {ds : List D} : PyData.plainAll ds = true ↔ ∀ d ∈ ds, PyData.plain d = true := by
  induction ds with
  | nil => simp
  | cons d ds ih => simp [ih]
@[simp] theorem depth_none : PyData.depth .none = 0 := rfl
@[simp] theorem depth_bool {b : Bool} : PyData.depth (.bool b) = 0 := rfl
@[simp] theorem depth_int {b : Int} : PyData.depth (.int b) = 0 := rfl
@[simp] theorem depth_str {b : Str} : PyData.depth (.str b) = 0 := rfl
@[simp] theorem depth_list {b : List D} : PyData.depth (.list b) = PyData.depthAll b + 1 := rfl
@[simp] theorem depth_tuple {b : List D} : PyData.depth (.tuple b) = PyData.depthAll b + 1 := rfl
@[simp] theorem depth_nil : PyData.depthAll [] = 0 := rfl
@[simp] theorem depth_cons {d : D} {b : List D} : PyData.depthAll (d :: b) = max (PyData.depth d) (PyData.depthAll b) := rfl
theorem depthAll_le {ds : List D} {n : Nat} (h : ∀ d ∈ ds, PyData.depth d ≤ n) : PyData.depthAll ds ≤ n := by
  induction ds with
  | nil => exact Nat.zero_le _
  | cons d ds ih =>
    rw [depth_cons]
    exact Nat.max_le.mpr ⟨h d List.mem_cons_self, ih fun d hd => h d (List.mem_cons_of_mem _ hd)⟩
@[simp] theorem eqv_none : PyData.eqv .none .none = true := rfl
@[simp] theorem eqv_bool {a b : Bool} : PyData.eqv (.bool a) (.bool b) = (a == b) := rfl
@[simp] theorem eqv_int {a b : Int} : PyData.eqv (.int a) (.int b) = decide (a = b) := by
  show (a == b) = _
  by_cases h : a = b
  · subst h; simp
  · rw [decide_eq_false h]; exact beq_false_of_ne h
@[simp] theorem eqv_str {a b : Str} : PyData.eqv (.str a) (.str b) = (a == b) := rfl
@[simp] theorem eqv_list {a b : List D} : PyData.eqv (.list a) (.list b) = PyData.eqvAll a b := rfl
@[simp] theorem eqv_tuple {a b : List D} : PyData.eqv (.tuple a) (.tuple b) = PyData.eqvAll a b := rfl
@[simp] theorem eqv_nil : PyData.eqvAll [] [] = true := rfl
@[simp] theorem eqv_nc {d : D} {b : List D} : PyData.eqvAll [] (d :: b) = false := rfl
@[simp] theorem eqv_cn {d : D} {b : List D} : PyData.eqvAll (d :: b) [] = false := rfl
@[simp] theorem eqv_cons {d e : D} {a b : List D} : PyData.eqvAll (d :: a) (e :: b) = (PyData.eqv d e && PyData.eqvAll a b) := rfl
@[simp] theorem eqOk_iff {x y : D} : eqOk x y = (PyData.plain x && PyData.plain y && decide (min (PyData.depth x) (PyData.depth y) ≤ 60)) := rfl
@[simp] theorem ty_int {t : Ty} {i : Int} : isTy t (.int i) = tyTab t .int := rfl
@[simp] theorem ty_bool {t : Ty} {i : Bool} : isTy t (.bool i) = tyTab t .bool := rfl
@[simp] theorem ty_str {t : Ty} {i : Str} : isTy t (.str i) = tyTab t .str := rfl
@[simp] theorem ty_none {t : Ty} : isTy t .none = tyTab t .none := rfl
@[simp] theorem ty_list {t : Ty} {i : List D} : isTy t (.list i) = tyTab t .list := rfl
@[simp] theorem ty_tuple {t : Ty} {i : List D} : isTy t (.tuple i) = tyTab t .tuple := rfl
@[simp] theorem ty_dict {t : Ty} {i : List (D × D)} : isTy t (.dict i) = tyTab t .dict := rfl
@[simp] theorem tab_int {k : Kd} : tyTab .int k = match k with | .int => true | .bool => true | _ => false := by cases k <;> rfl
@[simp] theorem tab_bool {k : Kd} : tyTab .bool k = match k with | .bool => true | _ => false := by cases k <;> rfl
@[simp] theorem tab_str {k : Kd} : tyTab .str k = match k with | .str => true | _ => false := by cases k <;> rfl
@[simp] theorem tab_tuple {k : Kd} : tyTab .tuple k = match k with | .tuple => true | _ => false := by cases k <;> rfl
@[simp] theorem tab_list {k : Kd} : tyTab .list k = match k with | .list => true | _ => false := by cases k <;> rfl
@[simp] theorem tab_dict {k : Kd} : tyTab .dict k = match k with | .dict => true | _ => false := by cases k <;> rfl
@[simp] theorem bools0 : boolsOf [] = some [] := rfl
@[simp] theorem bools1 {b : Bool} {ds : List D} : boolsOf (.bool b :: ds) = (boolsOf ds).map (b :: ·) := rfl
/-! ### a dict that is written -/
def pairK3 (q : Key) (d : D) (o : Out (List (Key × D))) : Out (List (Key × D)) := o.bind fun ps ρ3 => .ok ((q, d) :: ps) ρ3
def pairO2 (r : List (M Slot × M Slot)) (q : Key) (ρ : En) (o : Option D) : Out (List (Key × D)) := match o with
  | some d => pairK3 q d (mPairs r ρ)
  | none => .bad
def pairK2 (r : List (M Slot × M Slot)) (q : Key) (o : Out Slot) : Out (List (Key × D)) := o.bind fun s2 ρ2 => pairO2 r q ρ2 s2.data
def pairO1 (fv : M Slot) (r : List (M Slot × M Slot)) (ρ : En) (o : Option Key) : Out (List (Key × D)) := match o with
  | some q => pairK2 r q (fv ρ)
  | none => .bad
def pairK1 (fv : M Slot) (r : List (M Slot × M Slot)) (o : Out Slot) : Out (List (Key × D)) := o.bind fun s ρ1 => pairO1 fv r ρ1 (s.data.bind keyOf)
def dictK (o : Out (List (Key × D))) : Out Slot := o.bind fun kvs ρ' => if kvs.length ≤ 15 then .ok (.dic (mergeQ [] kvs)) ρ' else .bad
section
variable {fk fv : M Slot} {r ps : List (M Slot × M Slot)} {q : Key} {d : D} {kvs : List (Key × D)} {ρ : En} {s : Slot} {x : Exc}
@[simp] theorem ev_pairs0 : mPairs [] ρ = .ok [] ρ := rfl
@[simp] theorem ev_pairs1 : mPairs ((fk, fv) :: r) ρ = pairK1 fv r (fk ρ) := by
  show (fk ρ).bind _ = (fk ρ).bind _
  congr 1
@[simp] theorem ev_pairK1 : pairK1 fv r (.ok s ρ) = pairO1 fv r ρ (s.data.bind keyOf) := rfl
@[simp] theorem ev_pairK1X : pairK1 fv r (.exc x ρ) = .exc x ρ := rfl
@[simp] theorem ev_pairO1 : pairO1 fv r ρ (some q) = pairK2 r q (fv ρ) := rfl
@[simp] theorem ev_pairK2 : pairK2 r q (.ok s ρ) = pairO2 r q ρ s.data := rfl
@[simp] theorem ev_pairK2X : pairK2 r q (.exc x ρ) = .exc x ρ := rfl
@[simp] theorem ev_pairO2 : pairO2 r q ρ (some d) = pairK3 q d (mPairs r ρ) := rfl
@[simp] theorem ev_pairK3 : pairK3 q d (.ok kvs ρ) = .ok ((q, d) :: kvs) ρ := rfl
@[simp] theorem ev_pairK3X : pairK3 q d (.exc x ρ) = .exc x ρ := rfl
@[simp] theorem ev_dict : mDict ps ρ = dictK (mPairs ps ρ) := rfl
@[simp] theorem ev_dictK : dictK (.ok kvs ρ) = if kvs.length ≤ 15 then .ok (.dic (mergeQ [] kvs)) ρ else .bad := rfl
@[simp] theorem ev_dictKX : dictK (.exc x ρ) = .exc x ρ := rfl
@[simp] theorem keyOf_str {z : Str} : keyOf (.str z) = some (.inr z) := rfl
@[simp] theorem keyOf_int {i : Int} : keyOf (.int i) = some (.inl i) := rfl
@[simp] theorem mergeQ0 {a : List (Key × D)} : mergeQ a [] = a := rfl
@[simp] theorem mergeQ1 {a b : List (Key × D)} {k : Key} {d : D} : mergeQ a ((k, d) :: b) = mergeQ (putQ a k d) b := rfl
@[simp] theorem putQ0 {k : Key} {d : D} : putQ [] k d = [(k, d)] := rfl
end
/-! ### lists of texts -/
def txs (ks : List (List Nat)) : List D := ks.map fun k => .str (cs k)
@[simp] theorem txs_nil : txs [] = [] := rfl
@[simp] theorem txs_cons {k : List Nat} {ks : List (List Nat)} : txs (k :: ks) = .str (cs k) :: txs ks := rfl
@[simp] theorem txs_len (ks : List (List Nat)) : (txs ks).length = ks.length := by simp [txs]
@[simp] theorem txs_plain (ks : List (List Nat)) : PyData.plainAll (txs ks) = true := by
  induction ks with
  | nil => rfl
  | cons k ks ih => simp [ih]
@[simp] theorem txs_depth (ks : List (List Nat)) : PyData.depthAll (txs ks) = 0 := by
  induction ks with
  | nil => rfl
  | cons k ks ih => simp [ih]
@[simp] theorem txs_has (l : List Nat) (ks : List (List Nat)) : hasD (.str (cs l)) (txs ks) = decide (l ∈ ks) := by
  unfold hasD
  induction ks with
  | nil => simp
  | cons k ks ih =>
    rw [txs_cons, List.any_cons, ih]
    by_cases e : k = l
    · subst e; simp
    · simp [e, Ne.symm e]
@[simp] theorem txs_strsOf (ks : List (List Nat)) : strsOf (txs ks) = some (ks.map cs) := by
  induction ks with
  | nil => rfl
  | cons k ks ih => simp [strsOf, ih]
@[simp] theorem p_notInS {l : List Nat} {ks : List (List Nat)} : pNotIn [.str (cs l), .list (txs ks)] = some (.val (.bool (!decide (l ∈ ks)))) := by
  show (if inOk _ _ then some (Slot.val (.bool (if true = true then _ else _))) else none) = _
  simp [inOk]
@[simp] theorem p_inS {l : List Nat} {ks : List (List Nat)} : pIn [.str (cs l), .list (txs ks)] = some (.val (.bool (decide (l ∈ ks)))) := by
  show (if inOk _ _ then some (Slot.val (.bool (if false = true then _ else _))) else none) = _
  simp [inOk]
theorem signs_txs (l : List Nat) : signs (cs l) = txs (l.map fun c => [c]) := by
  rw [signs_cs, txs, List.map_map]
  rfl
theorem txs_app (a b : List (List Nat)) : txs a ++ txs b = txs (a ++ b) := by simp [txs]
/-- a comprehension over texts that makes texts -/
theorem comp_txs {v : Nat} {c : M Bool} {f : M Slot} {ρ : En} {L : List (List Nat)} (b : List Nat → Bool) (F : List Nat → List Nat)
    (h : ∀ k ∈ L, c (ρ.set v (.val (.str (cs k)))) = .ok (b k) (ρ.set v (.val (.str (cs k)))) ∧ (b k = true → ∃ s, f (ρ.set v (.val (.str (cs k)))) = .ok s (ρ.set v (.val (.str (cs k)))) ∧ s.data = some (.str (cs (F k)))))
    (hl : L.length ≤ 16777216) : compR [v] (gNm v) c f (txs L) ρ = .ok (.lst (txs ((L.filter b).map F))) ρ := by
  have := comp1 (fun k => PyData.str (cs k)) b (fun k => .str (cs (F k))) h hl
  unfold txs
  rw [List.map_map]
  exact this
/-- .. over the signs of a text -/
theorem comp_signs {v : Nat} {c : M Bool} {f : M Slot} {ρ : En} {l : List Nat} (b : Nat → Bool) (F : Nat → List Nat)
    (h : ∀ k ∈ l, c (ρ.set v (.val (.str (cs [k])))) = .ok (b k) (ρ.set v (.val (.str (cs [k])))) ∧ (b k = true → ∃ s, f (ρ.set v (.val (.str (cs [k])))) = .ok s (ρ.set v (.val (.str (cs [k])))) ∧ s.data = some (.str (cs (F k)))))
    (hl : l.length ≤ 16777216) : compR [v] (gNm v) c f (signs (cs l)) ρ = .ok (.lst (txs ((l.filter b).map F))) ρ := by
  have := comp1 (fun k => PyData.str (cs [k])) b (fun k => .str (cs (F k))) h hl
  rw [signs_cs]
  unfold txs
  rw [List.map_map]
  exact this
theorem comp1Y {α : Type} {v : Nat} {f : M Slot} {ρ : En} {L : List α} (T : α → D) (F : α → D)
    (h : ∀ a ∈ L, ∃ s, f (ρ.set v (.val (T a))) = .ok s (ρ.set v (.val (T a))) ∧ s.data = some (F a))
    (hl : L.length ≤ 16777216) : compR [v] (gNm v) mYes f (L.map T) ρ = .ok (.lst (L.map F)) ρ := by
  have := comp1 (c := mYes) T (fun _ => true) F (fun a ha => ⟨rfl, fun _ => h a ha⟩) hl
  rw [List.filter_eq_self.mpr fun _ _ => rfl] at this
  exact this
theorem comp_txsY {v : Nat} {f : M Slot} {ρ : En} {L : List (List Nat)} (F : List Nat → List Nat)
    (h : ∀ k ∈ L, ∃ s, f (ρ.set v (.val (.str (cs k)))) = .ok s (ρ.set v (.val (.str (cs k)))) ∧ s.data = some (.str (cs (F k))))
    (hl : L.length ≤ 16777216) : compR [v] (gNm v) mYes f (txs L) ρ = .ok (.lst (txs (L.map F))) ρ := by
  have := comp_txs (c := mYes) (fun _ => true) F (fun a ha => ⟨rfl, fun _ => h a ha⟩) hl
  rw [List.filter_eq_self.mpr fun _ _ => rfl] at this
  exact this
theorem comp_signsY {v : Nat} {f : M Slot} {ρ : En} {l : List Nat} (F : Nat → List Nat)
    (h : ∀ k ∈ l, ∃ s, f (ρ.set v (.val (.str (cs [k])))) = .ok s (ρ.set v (.val (.str (cs [k])))) ∧ s.data = some (.str (cs (F k))))
    (hl : l.length ≤ 16777216) : compR [v] (gNm v) mYes f (signs (cs l)) ρ = .ok (.lst (txs (l.map F))) ρ := by
  have := comp_signs (c := mYes) (fun _ => true) F (fun a ha => ⟨rfl, fun _ => h a ha⟩) hl
  rw [List.filter_eq_self.mpr fun _ _ => rfl] at this
  exact this
@[simp] theorem ev_yes {ρ : En} : mYes ρ = .ok true ρ := rfl
/-- .. over data -/
theorem compDY {v : Nat} {f : M Slot} {ρ : En} {ds : List D} (F : D → D)
    (h : ∀ d ∈ ds, ∃ s, f (ρ.set v (.val d)) = .ok s (ρ.set v (.val d)) ∧ s.data = some (F d))
    (hl : ds.length ≤ 16777216) : compR [v] (gNm v) mYes f ds ρ = .ok (.lst (ds.map F)) ρ := by
  have := comp1Y (L := ds) id F h hl
  rw [List.map_id] at this
  exact this
/-- a comprehension each part of which changes a state -/
theorem comp_st {σ α β : Type} {v : Nat} {f : M Slot} {L : List α} (E : σ → En) (T : α → D) (R : β → D) (Q : β → Prop) (hv : ∀ p p', (E p').set v (En.at (E p) v) = E p')
    (h : ∀ a ∈ L, ∀ p, ∃ y s p', f ((E p).set v (.val (T a))) = .ok s ((E p').set v (.val (T a))) ∧ s.data = some (R y) ∧ Q y) (hl : L.length ≤ 16777216) (p : σ) :
    ∃ (ys : List β) (p' : σ), compR [v] (gNm v) mYes f (L.map T) (E p) = .ok (.lst (ys.map R)) (E p') ∧ ys.length = L.length ∧ ∀ y ∈ ys, Q y := by
  have key : ∀ (L : List α) (acc : List D) (p : σ) (ρ0 : En), ρ0.set v .emp = (E p).set v .emp → (∀ a ∈ L, ∀ p, ∃ y s p', f ((E p).set v (.val (T a))) = .ok s ((E p').set v (.val (T a))) ∧ s.data = some (R y) ∧ Q y) → acc.length + L.length ≤ 16777216 →
      ∃ (ys : List β) (p' : σ) (ρ3 : En), compL [v] (gNm v) mYes f (L.map T) acc ρ0 = .ok (acc ++ ys.map R) ρ3 ∧ ρ3.set v .emp = (E p').set v .emp ∧ ys.length = L.length ∧ ∀ y ∈ ys, Q y := by
    intro L
    induction L with
    | nil => intro acc p ρ0 e _ _; exact ⟨[], p, ρ0, by simp [compL], e, rfl, fun y hy => by cases hy⟩
    | cons a L ih =>
      intro acc p ρ0 e h hl
      obtain ⟨y, s, p', q1, q2, q3⟩ := h a List.mem_cons_self p
      have hl' : acc.length + (L.length + 1) ≤ 16777216 := hl
      have e3 : (ρ0.set v .emp).set v (.val (T a)) = (E p).set v (.val (T a)) := by rw [e, List.set_set]
      obtain ⟨ys, p2, ρ3, k1, k2, k3, k4⟩ := ih (acc ++ [R y]) p' ((E p').set v (.val (T a))) (List.set_set ..) (fun d' hd => h d' (List.mem_cons_of_mem _ hd)) (by simp; omega)
      refine ⟨y :: ys, p2, ρ3, ?_, k2, congrArg (· + 1) k3, fun z hz => ?_⟩
      · rw [List.map_cons]
        unfold compL
        rw [show gNm v (T a) (wipeE ρ0 [v]) = some ((E p).set v (.val (T a))) from congrArg some e3]
        simp only [ev_yes, Out.bind, if_true, q1, q2]
        rw [if_pos (by omega), k1]
        simp
      · rcases List.mem_cons.mp hz with rfl | hz
        · exact q3
        · exact k4 z hz
  obtain ⟨ys, p', ρ3, k1, k2, k3, k4⟩ := key L [] p (wipeE (E p) [v]) (List.set_set ..) h (by simpa using hl)
  refine ⟨ys, p', ?_, k3, k4⟩
  unfold compR
  rw [k1]
  show Out.ok _ (ρ3.set v (En.at (E p) v)) = _
  rw [show ρ3.set v (En.at (E p) v) = (ρ3.set v .emp).set v (En.at (E p) v) by rw [List.set_set], k2, List.set_set, hv]
  rfl
theorem p_joinNil {ys : List (List Nat)} (h : ys.flatten.length ≤ 16777216) : pJoin [.str (cs []), .list (txs ys)] = some (.val (.str (cs ys.flatten))) := by
  show (strsOf (txs ys)).bind _ = _
  rw [txs_strsOf]
  show (if _ then _ else _) = _
  rw [List.length_flatten] at h
  rw [if_pos, join_nil]
  simp only [List.map_map, cs_len, List.length_nil, Nat.mul_zero, Nat.add_zero]
  have : ((fun x => x.length) ∘ cs) = (fun l : List Nat => l.length) := funext fun l => cs_len l
  rw [this]
  exact h
theorem at_map {α : Type} {L : List α} {T : α → D} {j : Nat} (h : j < L.length) : atI (L.map T) (j : Int) = some (T L[j]) := by
  unfold atI ixN
  rw [if_pos (by omega), if_pos (by simp; omega)]
  simp [h]
theorem at_txs {ks : List (List Nat)} {j : Nat} (h : j < ks.length) : atI (txs ks) (j : Int) = some (.str (cs ks[j])) := at_map h
@[simp] theorem bools_map {α : Type} {L : List α} {b : α → Bool} : boolsOf (L.map fun a => PyData.bool (b a)) = some (L.map b) := by
  induction L with
  | nil => rfl
  | cons a L ih => simp [boolsOf, ih]
@[simp] theorem all_tt {α : Type} {L : List α} : (L.all fun _ => true) = true := by
  rw [List.all_eq_true]
  exact fun _ _ => rfl
/-- all([.. for ..]), any([.. for ..]) -/
theorem p_allM {α : Type} {L : List α} {b : α → Bool} : pAll [.list (L.map fun a => .bool (b a))] = some (.val (.bool (L.all b))) := by
  rw [p_all, bools_map]
  simp [List.all_map]
theorem p_anyM {α : Type} {L : List α} {b : α → Bool} : pAny [.list (L.map fun a => .bool (b a))] = some (.val (.bool (L.any b))) := by
  rw [p_any, bools_map]
  simp [List.any_map]
/-- a comprehension that changes what it draws on: I by the part taken, what is made, the environment -/
theorem comp_inv {vs : List Nat} {g : Tg} {c : M Bool} {f : M Slot} (I : List D → List D → En → Prop) : ∀ (ds pre acc : List D) (ρ0 : En), I pre acc ρ0 →
    (∀ d ∈ ds, ∀ pre acc ρ, I pre acc ρ → ∃ ρ1, g d (wipeE ρ vs) = some ρ1 ∧ ∃ b ρ2, c ρ1 = .ok b ρ2 ∧ (b = false → I (pre ++ [d]) acc ρ2) ∧ (b = true → ∃ s ρ3 x, f ρ2 = .ok s ρ3 ∧ s.data = some x ∧ acc.length < 16777216 ∧ I (pre ++ [d]) (acc ++ [x]) ρ3)) →
    ∃ acc' ρ', compL vs g c f ds acc ρ0 = .ok acc' ρ' ∧ I (pre ++ ds) acc' ρ'
  | [], pre, acc, ρ0, h, _ => ⟨acc, ρ0, rfl, by simpa using h⟩
  | d :: ds, pre, acc, ρ0, h, st => by
    obtain ⟨ρ1, e1, b, ρ2, e2, hf, ht⟩ := st d List.mem_cons_self pre acc ρ0 h
    have st' := fun d' hd => st d' (List.mem_cons_of_mem d hd)
    cases b with
    | false =>
      obtain ⟨acc', ρ', k1, k2⟩ := comp_inv I ds (pre ++ [d]) acc ρ2 (hf rfl) st'
      refine ⟨acc', ρ', ?_, by simpa using k2⟩
      unfold compL
      rw [e1]
      simp only [e2, Out.bind, Bool.false_eq_true, if_false]
      exact k1
    | true =>
      obtain ⟨s, ρ3, x, q1, q2, q3, q4⟩ := ht rfl
      obtain ⟨acc', ρ', k1, k2⟩ := comp_inv I ds (pre ++ [d]) (acc ++ [x]) ρ3 q4 st'
      refine ⟨acc', ρ', ?_, by simpa using k2⟩
      unfold compL
      rw [e1]
      simp only [e2, Out.bind, if_true, q1, q2, q3]
      exact k1
end SD

set_option Elab.async false
set_option linter.all false
set_option autoImplicit false
set_option maxRecDepth 100000
set_option maxHeartbeats 4000000
/-! SD, part V: what is never reached; sorted. -/
namespace SD
open PySem PySem.Spec PyProof.Rows L2
/-- a statement that no run reaches -/
theorem cs_dead {X : Cx} {W : WX} {I : ExI} {pr : Nat → Prop} {st : Stmt} : CS X W I pr (fun _ => .bad) st :=
  ⟨fun _ _ _ => False, ⟨fun _ _ _ _ _ _ z => z.elim⟩, fun _ _ _ _ _ _ z => z⟩
theorem ce_dead {X : Cx} {W : WX} {I : ExI} {e : Expr} : CE X W I (fun _ => .bad) e :=
  ce_mk (t := fun _ _ _ => False) ⟨fun _ _ _ _ _ _ z => z.elim⟩ fun _ _ _ _ _ _ z => z
/-! ### sorted -/
def rowOk : D → Bool
  | .tuple (_ :: _) => true
  | _ => false
def oneOk : D → Bool
  | .none => false
  | .tuple _ => false
  | _ => true
def sortOk (ds : List D) : Bool := ds.all (fun d => ds.all fun e => W.alike d e) && (ds.all rowOk || ds.all oneOk) && (PyData.plainAll ds && (lineOk ds.length && decide (PyData.depthAll ds ≤ 60)))
def sortD (ds : List D) : List D := ds.mergeSort (W.dataLe false id)
def pSorted : List D → Option Slot
  | [.list ds] => if sortOk ds then some (.lst (sortD ds)) else none
  | [.tuple ds] => if sortOk ds then some (.lst (sortD ds)) else none
  | _ => none
theorem sortOk_s {ds : List D} (h : sortOk ds = true) : W.AllAlike ds ∧ W.Sortable ds ∧ PyData.plainAll ds = true ∧ ds.length ≤ sizeLine ∧ PyData.depthAll ds ≤ 60 := by
  unfold sortOk at h
  simp only [Bool.and_eq_true, Bool.or_eq_true, List.all_eq_true, decide_eq_true_eq] at h
  obtain ⟨⟨h1, h2⟩, h3, h4, h5⟩ := h
  refine ⟨fun d hd e he => h1 d hd e he, ?_, h3, lineOk_line h4, h5⟩
  rcases h2 with h2 | h2
  · refine .inl fun d hd => ?_
    have := h2 d hd
    match d, this with
    | .tuple (x :: r), _ => exact ⟨x, r, rfl⟩
  · refine .inr fun d hd => ?_
    have := h2 d hd
    match d, this with
    | .bool _, _ => exact ⟨by simp, by simp⟩
    | .int _, _ => exact ⟨by simp, by simp⟩
    | .str _, _ => exact ⟨by simp, by simp⟩
    | .list _, _ => exact ⟨by simp, by simp⟩
    | .dict _, _ => exact ⟨by simp, by simp⟩
theorem reps_zip {K : Fr0} {F : Hp} : ∀ {ds : List D} {vs : List V}, Reps K F ds vs → (ds.zip vs).map (·.1) = ds ∧ (ds.zip vs).map (·.2) = vs ∧ ∀ p ∈ ds.zip vs, Rep K F p.1 p.2
  | [], vs, r => by rw [reps_nil] at r; subst r; exact ⟨rfl, rfl, fun p hp => by cases hp⟩
  | d :: ds, vs, r => by
    rw [reps_cons] at r
    obtain ⟨v, w, rfl, r1, r2⟩ := r
    obtain ⟨a, b, c⟩ := reps_zip r2
    refine ⟨by simp [a], by simp [b], fun p hp => ?_⟩
    rcases List.mem_cons.mp hp with rfl | hp
    · exact r1
    · exact c p hp
theorem reps_of_zip {K : Fr0} {F : Hp} : ∀ {ps : List (D × V)}, (∀ p ∈ ps, Rep K F p.1 p.2) → Reps K F (ps.map (·.1)) (ps.map (·.2))
  | [], _ => by rw [List.map_nil, List.map_nil, reps_nil]
  | p :: ps, h => by
    rw [List.map_cons, List.map_cons, reps_cons]
    exact ⟨_, _, rfl, h p List.mem_cons_self, reps_of_zip fun q hq => h q (List.mem_cons_of_mem _ hq)⟩
theorem each_zip {h : Heap} {K : Fr0} {F : Hp} : ∀ {ds : List D} {vs : List V} {us : List Value}, Vals vs us → ds.length = vs.length → W.EachIs (fun (u : Value) (p : D × V) => RelV p.2 u) us (ds.zip vs)
  | [], [], _, r, _ => by cases r; exact .nil
  | d :: ds, v :: vs, _, r, hl => by
    cases r with
    | cons r1 r2 => exact .cons r1 (each_zip (h := h) (K := K) (F := F) r2 (by simpa using hl))
theorem vals_each : ∀ {us : List Value} {ps : List (D × V)}, W.EachIs (fun (u : Value) (p : D × V) => RelV p.2 u) us ps → Vals (ps.map (·.2)) us
  | _, _, .nil => .nil
  | _, _, .cons a b => .cons a (vals_each b)
theorem sort_zip {ds : List D} {vs : List V} (hz : (ds.zip vs).map (·.1) = ds) : (((ds.zip vs).mergeSort (W.dataLe false Prod.fst)).map (·.1)) = sortD ds := by
  unfold sortD
  rw [List.map_mergeSort (r := W.dataLe false Prod.fst) (s := W.dataLe false id) (f := fun x : D × V => x.1) (fun a _ b _ => rfl), hz]
theorem depth_mem {d : D} : ∀ {ds : List D}, d ∈ ds → PyData.depth d ≤ PyData.depthAll ds
  | e :: ds, h => by
    rw [depth_cons]
    rcases List.mem_cons.mp h with rfl | h
    · exact Nat.le_max_left _ _
    · exact Nat.le_trans (depth_mem h) (Nat.le_max_right _ _)

/-! sorted of a tuple -/
section
variable {prog : Program} {w : World} {A : Around} {E : Value → Shared → Prop} {s : Shared}
theorem tup_collect {t : Addr} {zs : List Value} {R : List Value → Shared → Prop} (ht : s.heap.IsTuple t zs.toArray) (hn : zs.length ≤ sizeLine)
    (k : R zs { s with heap := (s.heap.push (seqObj "list" #[] 0)).update s.heap.objs.size (Obj.mapSeq fun y => y ++ zs.toArray) }) : wpAny (model prog w) A (collect (.ref t)) R E s := by
  obtain ⟨ob, h1, h2, n, h3⟩ := ht
  unfold collect
  refine wpAny_bind (wpAny_runValue
    (codeAny_builtin entry_proto_collect' ?_))
  show wpAny _ _ (do
    again (.builtin "list.__iadd__" ⟨[← newList [], .ref t], []⟩)) _ _ s
  refine wpAny_bind (wpAny_newList
    (wpAny_pure ⟨Code.quiet_builtin _ (by decide +kernel),
      codeAny_builtin entry_list_iadd' ?_⟩))
  show wpAny _ _ (Builtin.List.listExtendWith (.ref s.heap.objs.size)
    (.ref t) (.ref s.heap.objs.size)) _ _ { s with heap := s.heap.push (seqObj "list" #[] 0) }
  unfold Builtin.List.listExtendWith
  have g : (s.heap.push (seqObj "list" #[] 0)).get? t = some ob := Heap.get?_push_of_some _ h1
  refine wpAny_bind (wpAny_typeOf (T := "tuple") ⟨ob, g, h2⟩ ?_)
  have et : (Value.type "tuple" == Value.type "tuple") = true := by rfl
  rw [if_pos (by rw [et]; simp)]
  refine wpAny_bind (listItems_at g h3 (wpAny_bind
    (listItems_at (xs := #[]) (n := 0) (Heap.get?_push_size _ rfl) rfl ?_)))
  rw [if_neg (by simp)]
  refine wpAny_bind (listUpdate_at (xs := #[]) (n := 0) (Heap.get?_push_size _ rfl) rfl ?_
    (Nat.zero_le _) (by show (#[] ++ zs.toArray).size ≤ _; simp only [Array.size_append, List.size_toArray, List.length_nil]; omega))
  refine wpAny_pure ?_
  show wpAny (model prog w) A (do
      let o ← load s.heap.objs.size
      match o.data with
      | .seq xs _ => pure xs.toList
      | _ => unsupported "internal:collect") R E
    { s with heap := (s.heap.push (seqObj "list" #[] 0)).update s.heap.objs.size (Obj.mapSeq fun y => y ++ zs.toArray) }
  refine wpAny_bind (wpAny_load (get?_update_seq (Heap.get?_push_size _ rfl) _) ?_)
  show wpAny _ _ (pure ((#[] : Array Value) ++ zs.toArray).toList) R E _
  have e0 : ((#[] : Array Value) ++ zs.toArray).toList = zs := by simp
  rw [e0]
  exact wpAny_pure k
theorem tup_sorted {β : Type} {t : Addr} {zs : List Value} {bs : List β} {enc : β → D} {R : Value → β → Prop} {Q : Value → Shared → Prop} (ht : s.heap.IsTuple t zs.toArray) (e : W.EachIs R zs bs)
    (er : W.EachIs (fun v b => ∃ as, Reads s.heap v (enc b) as) zs bs) (hal : W.AllAlike (bs.map enc)) (hk : W.Sortable (bs.map enc)) (hL : bs.length ≤ sizeLine) (hu : ∀ b, b ∈ bs → A.units + 2 + (enc b).depth < cLine)
    (h : ∀ out, out.length = bs.length → W.EachIs R out (bs.mergeSort (W.dataLe false enc)) → Q (.ref (s.heap.objs.size + 1)) { s with heap := sortedAll s.heap zs (List.toArray out) }) :
    wpAny (model prog w) A (call (.builtin "sorted") [.ref t]) Q E s := by
  have hz : zs.length ≤ sizeLine := by rw [e.length]; exact hL
  have er' : W.EachIs (fun v b => ∃ as, Reads (W.sortingHeap (W.copyHeap s.heap zs) (s.heap.objs.size + 1) zs) v (enc b) as) zs bs :=
    er.mono fun _ _ ⟨as, r⟩ => ⟨as, Reads.keeps (fun _ _ => W.sorting_copy_old) r⟩
  refine call_function_entry_kw kind_sorted plain_sorted entry_sorted (args_sorted1 _) ?_
  unfold Builtin.«sorted»
  refine wpAny_bind (m := checkCount "sorted" 1 1 _) (wpAny_pure
    (wpAny_bind (tup_collect ht hz (wpAny_bind (wpAny_newList ?_ hz)))))
  have sz : ((s.heap.push (seqObj "list" #[] 0)).update s.heap.objs.size
    (Obj.mapSeq fun y => y ++ zs.toArray)).objs.size = s.heap.objs.size + 1 := by rw [Heap.size_update, size_push']
  show wpAny _ _ _ _ _ { s with heap := W.copyHeap s.heap zs }
  rw [sz]
  refine wpAny_bind (wpAny_holding (wpAny_call_entry_kw slot_list_sort
    ⟨_, W.copyHeap_at s.heap zs, rfl⟩ entry_list_sort ?b (args_list_sort _)))
  show wpAny (model prog w) A.in1.in1 (Builtin.«list.sort» ⟨[.ref (s.heap.objs.size + 1)], []⟩) _ _ _
  refine W.list_sort_vals (s := { s with heap := W.copyHeap s.heap zs }) (W.copyHeap_at s.heap zs)
    (W.SortsAt.data (s := { s with heap := W.sortingHeap (W.copyHeap s.heap zs) (s.heap.objs.size + 1) zs })
      (W.each_map (R := fun v d => ∃ as, Reads (W.sortingHeap (W.copyHeap s.heap zs) (s.heap.objs.size + 1) zs) v d as) enc er') hal hk (W.bound_map hu)) hz ?_
  exact ⟨_, rfl, wpAny_pure ⟨_, rfl, h _ (by rw [W.sortVals_length false rfl]; exact e.length) (W.sortVals_data false e er' hal)⟩⟩
end
section
variable {X : Cx}
theorem sorted_end {pins : List (Addr × Obj)} {s : Shared} {σ : St} {F H : Hp} {ds : List D} {vs : List V} {us : List Value} {Q : VK} (J : Inv X pins σ H s) (sub : Same F H) (r : Reps X.K F ds vs) (rv : Vals vs us) (ok : sortOk ds = true)
    (q : ∀ F' H' v, Res1 X.K F H F' H' (.lst (sortD ds)) v → Q v H') : ∀ out, out.length = (ds.zip vs).length → W.EachIs (fun (u : Value) (p : D × V) => RelV p.2 u) out ((ds.zip vs).mergeSort (W.dataLe false Prod.fst)) → EP X pins σ Q (.ref (s.heap.objs.size + 1)) { s with heap := sortedAll s.heap us (List.toArray out) } := by
  intro out hl he
  obtain ⟨a1, a2, a3, a4, a5⟩ := sortOk_s ok
  obtain ⟨z1, z2, z3⟩ := reps_zip r
  obtain ⟨ep, he'⟩ := sortedAll_at s.heap us out.toArray
  have ve := vals_each he
  have hlen : (((ds.zip vs).mergeSort (W.dataLe false Prod.fst)).map (·.2)).length ≤ sizeLine := by
    rw [List.length_map, List.length_mergeSort]
    have : (ds.zip vs).length = ds.length := by rw [← z1, List.length_map, z1]
    omega
  have rs : Reps X.K F (sortD ds) (((ds.zip vs).mergeSort (W.dataLe false Prod.fst)).map (·.2)) := by
    rw [← sort_zip z1]
    exact reps_of_zip fun p hp => z3 p ((List.mergeSort_perm _ _).mem_iff.mp hp)
  exact ⟨.ref _, upd H (s.heap.objs.size + 1) (.lst (((ds.zip vs).mergeSort (W.dataLe false Prod.fst)).map (·.2))), J.laid (t' := s.toks) (fun _ _ => sortedAll_old) (Nat.le_succ _) ⟨hlen, out, ep, ve, he'⟩, rfl, q _ _ _ (.lst sub rs (J.hok.fresh (Nat.le_succ _)))⟩
theorem call_sortedP (hr : Room 0 X.A) : CallR X (.builtin "sorted") (rP X.K pSorted) := by
  intro pins s σ H xs us Q J r ⟨F, ds, sl, sub, rr, e, q⟩
  unfold pSorted at e
  split at e
  · rename_i es
    split at e
    · rename_i ok
      cases e
      obtain ⟨v, rfl, h⟩ := vals_one rr
      obtain ⟨a, vs, rfl, s1, r1⟩ := top_list h
      obtain ⟨its, rv, hl, _⟩ := J.list s1
      obtain ⟨a1, a2, a3, a4, a5⟩ := sortOk_s ok
      obtain ⟨z1, z2, z3⟩ := reps_zip r1
      rw [Vals.ref1 r]
      obtain ⟨as, ra⟩ := readsAll_of J sub r1 a3 rv
      refine W.sorted_data (enc := Prod.fst) hl.isList (each_zip (h := s.heap) (K := X.K) (F := F) rv r1.length) ?_ (by rw [z1]; exact a1) (by rw [z1]; exact a2) ?_ ?_ (sorted_end J sub r1 rv ok q)
      · have := W.readsAll_each (β := D × V) Prod.fst (bs := es.zip vs) (by rw [z1]; exact ra)
        exact this
      · have : (es.zip vs).length = es.length := by rw [← z1, List.length_map, z1]
        omega
      · intro b hb
        have h1 : b.1 ∈ es := by rw [← z1]; exact List.mem_map_of_mem hb
        have h2 := depth_mem h1
        have := hr.units
        omega
    · cases e
  · rename_i es
    split at e
    · rename_i ok
      cases e
      obtain ⟨v, rfl, h⟩ := vals_one rr
      obtain ⟨a, vs, rfl, s1, r1⟩ := top_tuple sub h
      obtain ⟨its, rv, hl, _⟩ := J.tuple s1
      obtain ⟨a1, a2, a3, a4, a5⟩ := sortOk_s ok
      obtain ⟨z1, z2, z3⟩ := reps_zip r1
      rw [Vals.ref1 r]
      obtain ⟨as, ra⟩ := readsAll_of J sub r1 a3 rv
      refine tup_sorted (enc := Prod.fst) hl (each_zip (h := s.heap) (K := X.K) (F := F) rv r1.length) ?_ (by rw [z1]; exact a1) (by rw [z1]; exact a2) ?_ ?_ (sorted_end J sub r1 rv ok q)
      · have := W.readsAll_each (β := D × V) Prod.fst (bs := es.zip vs) (by rw [z1]; exact ra)
        exact this
      · have : (es.zip vs).length = es.length := by rw [← z1, List.length_map, z1]
        omega
      · intro b hb
        have h1 : b.1 ∈ es := by rw [← z1]; exact List.mem_map_of_mem hb
        have h2 := depth_mem h1
        have := hr.units
        omega
    · cases e
  · cases e
end
end SD

set_option Elab.async false
set_option linter.all false
set_option autoImplicit false
set_option maxRecDepth 100000
set_option maxHeartbeats 4000000
/-! SD, part W: further operations on numbers and texts. -/
namespace SD
open PySem PySem.Spec PyProof.Rows L2
section
variable {X : Cx}
/-! ### is, is not of truths -/
def pIsB : List D → Option Slot
  | [.bool a, .bool b] => some (.val (.bool (decide (a = b))))
  | _ => none
def pNotB : List D → Option Slot
  | [.bool a, .bool b] => some (.val (.bool (!decide (a = b))))
  | _ => none
theorem op_isBP : OpR X (compareOp .Is) (fun x y => rP X.K pIsB [x, y]) := by
  intro pins s σ H x y v u Q J rx ry ⟨F, ds, sl, sub, r, e, q⟩
  obtain ⟨a, b, rfl, h1, h2⟩ := two_of r
  unfold pIsB at e
  split at e
  · rename_i heq; cases heq; cases e
    exact op_isBl pins s σ H x y v u Q J rx ry ⟨_, _, top_bool h1, top_bool h2, res_bool sub q⟩
  · cases e
theorem op_notBP : OpR X (compareOp .IsNot) (fun x y => rP X.K pNotB [x, y]) := by
  intro pins s σ H x y v u Q J rx ry ⟨F, ds, sl, sub, r, e, q⟩
  obtain ⟨a, b, rfl, h1, h2⟩ := two_of r
  unfold pNotB at e
  split at e
  · rename_i heq; cases heq; cases e
    exact op_isnot_bl pins s σ H x y v u Q J rx ry ⟨_, _, top_bool h1, top_bool h2, res_bool sub q⟩
  · cases e
/-! ### divmod, int -/
def pDivmod : List D → Option Slot
  | [.int i, .int j] => if 0 < j ∧ Builtin.divisionGoesByPylong i j = false then some (.val (.tuple [.int (i / j), .int (i % j)])) else none
  | _ => none
theorem call_divmodP : CallR X (.builtin "divmod") (rP X.K pDivmod) := by
  intro pins s σ H xs us Q J r ⟨F, ds, sl, sub, rr, e, q⟩
  unfold pDivmod at e
  split at e
  · split at e
    · rename_i i j hl
      cases e
      obtain ⟨v, w, rfl, h, h'⟩ := vals_two rr
      obtain rfl := top_int h
      obtain rfl := top_int h'
      exact call_divmodW pins s σ H _ us Q J r ⟨_, _, rfl, hl, fun p np => q _ _ _ (.tup sub (by rw [reps_cons]; exact ⟨_, _, rfl, by rw [rep_int], by rw [reps_cons]; exact ⟨_, _, rfl, by rw [rep_int], by rw [reps_nil]⟩⟩) np)⟩
    · cases e
  · cases e
def pIntA : List D → Option Slot
  | [.int i] => some (.val (.int i))
  | [.bool b] => some (.val (.int (if b then 1 else 0)))
  | [.str z] => if z.length ≤ 640 then (PySem.intText? z).map fun n => .val (.int n) else none
  | _ => none
theorem call_intP : CallR X (.type "int") (rP X.K pIntA) := by
  intro pins s σ H xs us Q J r ⟨F, ds, sl, sub, rr, e, q⟩
  unfold pIntA at e
  split at e
  · cases e
    obtain ⟨v, rfl, h⟩ := vals_one rr
    obtain rfl := top_int h
    exact call_int1 pins s σ H _ us Q J r (.inl ⟨_, rfl, res_int sub q⟩)
  · cases e
    obtain ⟨v, rfl, h⟩ := vals_one rr
    obtain rfl := top_bool h
    exact call_int1 pins s σ H _ us Q J r (.inr ⟨_, rfl, res_int sub q⟩)
  · rename_i z
    split at e
    · rename_i hl
      cases en : PySem.intText? z with
      | none => rw [en] at e; cases e
      | some n =>
        rw [en] at e
        cases e
        obtain ⟨v, rfl, h⟩ := vals_one rr
        obtain rfl := top_str h
        exact call_int_str pins s σ H _ us Q J r ⟨_, _, rfl, en, hl, res_int sub q⟩
    · cases e
  · cases e
/-! ### methods of texts -/
def pCount : List D → Option Slot
  | [.str a, .str b] => some (.val (.int (Txt.count a b)))
  | _ => none
theorem mt_countP : MtR X "str.count" (fun x xs => rP X.K pCount (x :: xs)) := by
  intro pins s σ H x xs v us Q J rx rs ⟨F, ds, sl, sub, rr, e, q⟩
  unfold pCount at e
  split at e
  · cases e
    obtain ⟨y, w, e2, h, h'⟩ := vals_two rr
    cases e2
    obtain rfl := top_str h
    obtain rfl := top_str h'
    exact mt_count pins s σ H _ _ v us Q J rx rs ⟨_, _, rfl, rfl, res_int sub q⟩
  · cases e
theorem reps_txs {K : Fr0} {F : Hp} : ∀ (ys : List Str), Reps K F (ys.map PyData.str) (ys.map V.str)
  | [] => by rw [List.map_nil, List.map_nil, reps_nil]
  | y :: ys => by rw [List.map_cons, List.map_cons, reps_cons]; exact ⟨_, _, rfl, by rw [rep_str], reps_txs ys⟩
def pPartition : List D → Option Slot
  | [.str a, .str b] => if (b.length == 0) = false ∧ a.length ≤ 16777216 then some (.val (.tuple ([(Txt.partition a b).1, (Txt.partition a b).2.1, (Txt.partition a b).2.2].map PyData.str))) else none
  | _ => none
theorem mt_partitionP : MtR X "str.partition" (fun x xs => rP X.K pPartition (x :: xs)) := by
  intro pins s σ H x xs v us Q J rx rs ⟨F, ds, sl, sub, rr, e, q⟩
  unfold pPartition at e
  split at e
  · split at e
    · rename_i hl
      cases e
      obtain ⟨y, w, e2, h, h'⟩ := vals_two rr
      cases e2
      obtain rfl := top_str h
      obtain rfl := top_str h'
      exact mt_partition pins s σ H _ _ v us Q J rx rs ⟨_, _, rfl, rfl, hl.1, by rw [sizeLine_eq]; exact hl.2, fun p np => q _ _ _ (.tup sub (reps_txs [_, _, _]) np)⟩
    · cases e
  · cases e
def pSplit : List D → Option Slot
  | [.str a, .str b] => if (b.length == 0) = false ∧ a.length + 2 ≤ 16777216 then some (.lst ((Txt.split a b).map PyData.str)) else none
  | _ => none
theorem mt_splitP : MtR X "str.split" (fun x xs => rP X.K pSplit (x :: xs)) := by
  intro pins s σ H x xs v us Q J rx rs ⟨F, ds, sl, sub, rr, e, q⟩
  unfold pSplit at e
  split at e
  · split at e
    · rename_i hl
      cases e
      obtain ⟨y, w, e2, h, h'⟩ := vals_two rr
      cases e2
      obtain rfl := top_str h
      obtain rfl := top_str h'
      exact mt_split pins s σ H _ _ v us Q J rx rs ⟨_, _, rfl, rfl, hl.1, by rw [sizeLine_eq]; exact hl.2, fun p np => q _ _ _ (.lst sub (reps_txs _) np)⟩
    · cases e
  · cases e
end
end SD

set_option Elab.async false
set_option linter.all false
set_option autoImplicit false
set_option maxRecDepth 100000
set_option maxHeartbeats 4000000
/-! SD, part X: targets that write into a list; enumerate, zip; what is read backwards; tables of the module. -/
namespace SD
open PySem PySem.Spec PyProof.Rows L2
/-! ### targets that may change what is owned -/
structure CH (X : Cx) (pr : Nat → Prop) (g : Tg) (tg : Expr) : Prop where
  run : ∃ t, PG X tg t ∧ ∀ (F H : Hp) (ρ : En) (σ : St) (d : D) (v : V) (Q : St → Hp → Prop) (ρ' : En), Rp X.K F H ρ σ → Rep X.K F d v → g d ρ = some ρ' →
    (∀ F' H' σ', PostS X.K pr F H ρ σ F' H' ρ' σ' → Q σ' H') → t v σ H Q
structure CHs (X : Cx) (pr : Nat → Prop) (g : List D → En → Option En) (tgs : List Expr) : Prop where
  run : ∃ t, PGs X tgs t ∧ ∀ (F H : Hp) (ρ : En) (σ : St) (ds : List D) (vs : List V) (Q : St → Hp → Prop) (ρ' : En), Rp X.K F H ρ σ → Reps X.K F ds vs → g ds ρ = some ρ' →
    (∀ F' H' σ', PostS X.K pr F H ρ σ F' H' ρ' σ' → Q σ' H') → t vs σ H Q
def gIx (i : Nat) (c : Int) : Tg := fun d ρ => match En.at ρ i with
  | .lst ds => (ixN ds.length c).map fun n => ρ.set i (.lst (ds.set n d))
  | _ => none
section
variable {X : Cx} {W : WX} {I : ExI} {pr : Nat → Prop} {pos pos' : Pos} {g : Tg} {gs : List D → En → Option En} {e tg : Expr} {es : List Expr} {f : M Slot}
theorem ch_of (h : CG X pr g e) : CH X pr g e := by
  obtain ⟨t, k, q⟩ := h.run
  exact ⟨t, k, fun F H ρ σ d v Q ρ' R r e z => q F H ρ σ d v Q ρ' R r e fun σ' P => z F H σ' P⟩
theorem chs_nil : CHs X pr gsNil [] := ⟨_, pgs_nil, fun F H ρ σ ds vs Q ρ' R r e q => by
  cases ds with
  | nil => cases e; rw [reps_nil] at r; exact ⟨r, q _ _ _ (PostS.refl R)⟩
  | cons d ds => cases e⟩
theorem chs_cons (h1 : CH X pr g e) (h2 : CHs X pr gs es)
    (hs : (assignEach (e :: es) X.env).map (·.2) = assign e X.env :: (assignEach es X.env).map (·.2) := by rfl) : CHs X pr (gsCons g gs) (e :: es) := by
  obtain ⟨t, k1, q1⟩ := h1.run
  obtain ⟨u, k2, q2⟩ := h2.run
  refine ⟨_, pgs_cons k1 k2 hs, fun F H ρ σ ds vs Q ρ' R r e q => ?_⟩
  cases ds with
  | nil => cases e
  | cons d ds =>
    rw [reps_cons] at r
    obtain ⟨v, vs', rfl, r1, r2⟩ := r
    have e' : ((g d ρ).bind fun ρ' => gs ds ρ') = some ρ' := e
    cases e1 : g d ρ with
    | none => rw [e1] at e'; cases e'
    | some ρ1 =>
      rw [e1] at e'
      exact ⟨v, vs', rfl, q1 F H ρ σ d v _ ρ1 R r1 e1 fun F1 H1 σ1 P1 => q2 F1 H1 ρ1 σ1 ds vs' Q ρ' P1.rp (Reps.mono P1.ext.sub _ _ r2) e' fun F2 H2 σ2 P2 => q F2 H2 σ2 (P1.trans P2)⟩
theorem ch_tup {n k : Nat} (hc : X.calm = true) (h : CHs X pr gs es) (hn : (assignEach es X.env).length = n := by rfl) (hst : (assignEach es X.env).findIdx? (·.1) = none := by rfl) : CH X pr (gTp n gs) (.Tuple es k pos) := by
  obtain ⟨t, k1, q1⟩ := h.run
  refine ⟨_, pg_tup (n := n) hc k1 hn hst, fun F H ρ σ d v Q ρ' R r e q => ?_⟩
  cases d with
  | tuple ds =>
    rw [rep_tuple] at r
    obtain ⟨a, vs, rfl, sq, r⟩ := r
    have e' : (if ds.length = n then gs ds ρ else none) = some ρ' := e
    split at e'
    · rename_i hl
      exact ⟨a, vs, rfl, SqT.mono R.sub sq, by rw [← r.length]; exact hl, q1 F H ρ σ ds vs Q ρ' R r e' q⟩
    · cases e'
  | _ => cases e
theorem ch_ix {ex ei : Expr} {i : Nat} {c : Int} (hx : PE X ex (tVar i)) (hi : PE X ei (tC (.int c)))
    (ha : ∀ v, assign (.Subscript ex ei pos') X.env v = (do
      let ov ← holding [v] (eval ex X.env)
      let iv ← holding [v, ov] (eval ei X.env)
      standAt pos'
      holding [v, ov, iv] (setItem ov iv v)
      release [v, ov, iv] []) := by intro _; rfl) : CH X pr (gIx i c) (.Subscript ex ei pos') := by
  refine ⟨_, pg_sub hx hi set_list ha, fun F H ρ σ d v Q ρ' R r e q => ?_⟩
  unfold gIx at e
  split at e
  · rename_i ds e1
    cases en : ixN ds.length c with
    | none => rw [en] at e; cases e
    | some n =>
      rw [en] at e
      cases e
      obtain ⟨p', vs', h0', hv', hp', fp', r0'⟩ := lst_at R e1
      obtain ⟨R3, x3⟩ := slot_write (s := .lst (ds.set n d)) (o := .lst (vs'.set n v)) R h0' hv' rfl (fun q z => z) ⟨p', _, rfl, upd_same, fp', Reps.set r n r0'⟩
      exact ⟨.ref p', hv', p', vs', c, n, rfl, rfl, hp', by rw [← r0'.length]; exact en, q _ _ σ ⟨R3, x3, fun _ _ => rfl, rfl⟩⟩
  · cases e
theorem cs_asgH (hf : CE X W I f e) (hg : CH X pr g tg) (hs : swapsWithSole [tg] e pos.line X.env = pure false := by rfl) (hw : swappedStores [tg] e X.env = pure none := by rfl)
    (h1 : (assignEach [tg] X.env).map (·.2) = [assign tg X.env] := by rfl) : CS X W I pr (mAsg g f) (.Assign [tg] e pos) := by
  obtain ⟨t, k1, q1⟩ := hf.of
  obtain ⟨u, k2, q2⟩ := hg.run
  refine ⟨_, ps_asg k1 k2 hs hw h1, fun F H ρ σ E R z => ?_⟩
  unfold mAsg at z
  rw [Out.sat_bind] at z
  refine q1 F H ρ σ _ R (Out.sat_mono z (fun s ρ1 _ y F1 H1 v P => ?_) fun _ _ y => y.toC)
  cases e : s.data with
  | none => rw [e] at y; exact y.elim
  | some d =>
    simp only [e] at y
    cases e2 : g d ρ1 with
    | none => rw [e2] at y; exact y.elim
    | some ρ2 =>
      rw [e2] at y
      obtain ⟨F2, s2, r, R2, x⟩ := freeze P e
      exact q2 F2 H1 ρ1 σ d v _ ρ2 R2 r e2 fun F3 H3 σ' P' => y F3 H3 σ' (PostS.trans ⟨R2, x, fun _ _ => rfl, rfl⟩ P')
@[simp] theorem ev_gIx {i : Nat} {c : Int} {d : D} {ρ : En} : gIx i c d ρ = match En.at ρ i with
  | .lst ds => (ixN ds.length c).map fun n => ρ.set i (.lst (ds.set n d))
  | _ => none := rfl
end

/-! ### enumerate, zip -/
def numbered (ds : List D) : List D := (List.range ds.length).map fun i => .tuple [.int (i : Nat), ds.getD i .none]
theorem itOk_enum {K : Fr0} {F : Hp} {a : Addr} {ds : List D} {vs : List V} (h : SqL K F a vs) (r : Reps K F ds vs) : ItOk K F (numbered ds) (Ite K a) := by
  have hl := r.length
  refine ⟨fun i F1 H1 s1 s2 hi => ?_, fun i F1 H1 s1 s2 hi => ⟨vs, SqL.mono (s1.trans s2) h, by simp [numbered] at hi; omega⟩⟩
  have hi' : i < ds.length := by simpa [numbered] using hi
  have q := SqL.mono (s1.trans s2) h
  refine ⟨⟨vs, vs[i]'(by omega), q, by simp⟩, fun x H2 y => ?_⟩
  obtain ⟨T, z, rfl, nT, rfl, y⟩ := y
  have e := y vs q
  obtain ⟨d, e2, r2⟩ := r.getV e
  have nF : F1 T = none := s2.free nT
  refine ⟨upd F1 T (.tup [.int (i : Nat), z]), same_upd nF, same_upd2 s2 nT, same_upd nT, fun b h1 h2 => ?_, .tuple [.int (i : Nat), ds.getD i .none], by simp [numbered, hi'], ?_⟩
  · by_cases hb : b = T
    · rw [hb]; exact nT
    · rw [upd_ne hb] at h2; exact absurd h1 h2
  · rw [rep_tuple]
    have ed : ds.getD i .none = d := by rw [List.getD_eq_getElem?_getD, e2]; rfl
    refine ⟨T, _, rfl, SqT.of upd_same, ?_⟩
    rw [reps_cons]
    refine ⟨_, _, rfl, by rw [rep_int], ?_⟩
    rw [reps_cons]
    exact ⟨_, _, rfl, by rw [ed]; exact Rep.mono (s1.trans (same_upd nF)) _ _ r2, by rw [reps_nil]⟩
def zipped (ds es : List D) : List D := (ds.zip es).map fun p => .tuple [p.1, p.2]
theorem zip_yield {K : Fr0} {F F1 H1 : Hp} {ds es : List D} {x y : V} {i : Nat} {T : Addr} (s1 : Same F F1) (s2 : Same F1 H1) (nT : H1 T = none) (hi : i < (zipped ds es).length) {d e : D} (e1 : ds[i]? = some d) (e2 : es[i]? = some e) (r1 : Rep K F d x) (r2 : Rep K F e y) :
    ∃ F2, Same F1 F2 ∧ Same F2 (upd H1 T (.tup [x, y])) ∧ Same H1 (upd H1 T (.tup [x, y])) ∧ (∀ a, F1 a = none → F2 a ≠ none → H1 a = none) ∧ ∃ d, (zipped ds es)[i]? = some d ∧ Rep K F2 d (.ref T) := by
  have nF : F1 T = none := s2.free nT
  refine ⟨upd F1 T (.tup [x, y]), same_upd nF, same_upd2 s2 nT, same_upd nT, fun b h1 h2 => ?_, .tuple [d, e], ?_, ?_⟩
  · by_cases hb : b = T
    · rw [hb]; exact nT
    · rw [upd_ne hb] at h2; exact absurd h1 h2
  · unfold zipped
    rw [List.getElem?_map, (List.getElem?_zip_eq_some (z := (d, e))).mpr ⟨e1, e2⟩]
    rfl
  · rw [rep_tuple]
    refine ⟨T, _, rfl, SqT.of upd_same, ?_⟩
    rw [reps_cons]
    refine ⟨_, _, rfl, Rep.mono (s1.trans (same_upd nF)) _ _ r1, ?_⟩
    rw [reps_cons]
    exact ⟨_, _, rfl, Rep.mono (s1.trans (same_upd nF)) _ _ r2, by rw [reps_nil]⟩
theorem itOk_zip {K : Fr0} {F : Hp} {a b : Addr} {ds es : List D} {vs ws : List V} (h : SqL K F a vs) (h' : SqL K F b ws) (r : Reps K F ds vs) (r' : Reps K F es ws) : ItOk K F (zipped ds es) (Itz K a b) := by
  have hl := r.length
  have hl' := r'.length
  have hz : (zipped ds es).length = min ds.length es.length := by simp [zipped]
  refine ⟨fun i F1 H1 s1 s2 hi => ?_, fun i F1 H1 s1 s2 hi => ⟨vs, ws, SqL.mono (s1.trans s2) h, SqL.mono (s1.trans s2) h', by omega⟩⟩
  have q := SqL.mono (s1.trans s2) h
  have q' := SqL.mono (s1.trans s2) h'
  refine ⟨⟨vs, ws, vs[i]'(by omega), ws[i]'(by omega), q, q', by simp, by simp⟩, fun x H2 y => ?_⟩
  obtain ⟨T, u, w, rfl, nT, rfl, y1, y2⟩ := y
  obtain ⟨d, e1, r1⟩ := r.getV (y1 vs q)
  obtain ⟨e, e2, r2⟩ := r'.getV (y2 ws q')
  exact zip_yield s1 s2 nT hi e1 e2 r1 r2
theorem itOk_zipT {K : Fr0} {F : Hp} {a b : Addr} {ds es : List D} {vs ws : List V} (h : SqT K F a vs) (h' : SqT K F b ws) (r : Reps K F ds vs) (r' : Reps K F es ws) : ItOk K F (zipped ds es) (RZ.ItzT K a b) := by
  have hl := r.length
  have hl' := r'.length
  have hz : (zipped ds es).length = min ds.length es.length := by simp [zipped]
  refine ⟨fun i F1 H1 s1 s2 hi => ?_, fun i F1 H1 s1 s2 hi => ⟨vs, ws, SqT.mono (s1.trans s2) h, SqT.mono (s1.trans s2) h', by omega⟩⟩
  have q := SqT.mono (s1.trans s2) h
  have q' := SqT.mono (s1.trans s2) h'
  refine ⟨⟨vs, ws, vs[i]'(by omega), ws[i]'(by omega), q, q', by simp, by simp⟩, fun x H2 y => ?_⟩
  obtain ⟨T, u, w, rfl, nT, rfl, y1, y2⟩ := y
  obtain ⟨d, e1, r1⟩ := r.getV (y1 vs q)
  obtain ⟨e, e2, r2⟩ := r'.getV (y2 ws q')
  exact zip_yield s1 s2 nT hi e1 e2 r1 r2
/-- what is numbered: a list of one's own or one that stays -/
def mEnum (f : M Slot) : M (List D) := fun ρ => (mVals [f] ρ).bind fun ds ρ' => match ds with
  | [.list es] => .ok (numbered es) ρ'
  | _ => .bad
def mZip (f h : M Slot) : M (List D) := fun ρ => (mVals [f, h] ρ).bind fun ds ρ' => match ds with
  | [.list es, .list gs] => .ok (zipped es gs) ρ'
  | [.tuple es, .tuple gs] => .ok (zipped es gs) ρ'
  | _ => .bad
section
variable {X : Cx} {W : WX} {I : ExI} {f h : M Slot} {e e2 : Expr} {elts : List Expr} {kk : Nat} {p pos tpos : Pos}
theorem ci_enum (hg : Gl X "enumerate") (hm : X.mg "enumerate" = none) (hf : CVs X W I [f] [e]) (hs : starEach [e] X.env = [(false, eval e X.env)] := by rfl) :
    CI X W I (.Tuple elts kk tpos) (mEnum f) (.Call (.Name "enumerate" p) [e] [] pos) := by
  obtain ⟨t, h1, q⟩ := hf.run
  refine ⟨_, pi_enum hg hm h1 hs, fun F H ρ σ R Rr z => ?_⟩
  unfold mEnum at z
  rw [Out.sat_bind] at z
  refine q F H ρ σ _ Rr (Out.sat_mono z (fun ds ρ1 _ y F1 H1 vs R1 r x => ?_) fun _ _ y => y)
  split at y
  · rename_i es
    rw [reps_cons] at r
    obtain ⟨v, w, rfl, r, rn⟩ := r
    rw [reps_nil] at rn
    subst rn
    rw [rep_list] at r
    obtain ⟨a, xs, rfl, sq, r⟩ := r
    exact ⟨a, xs, rfl, SqL.mono R1.sub sq, y F1 H1 _ ⟨R1, x⟩ (itOk_enum sq r)⟩
  · exact y.elim
theorem ci_zip (hg : Gl X "zip") (hm : X.mg "zip" = none) (hf : CVs X W I [f, h] [e, e2])
    (hs : starEach [e, e2] X.env = (false, eval e X.env) :: starEach [e2] X.env := by rfl) (hpl : (backTo pos (starEach [e2] X.env)).any (·.1) = false := by rfl) :
    CI X W I (.Tuple elts kk tpos) (mZip f h) (.Call (.Name "zip" p) [e, e2] [] pos) := by
  obtain ⟨t, h1, q⟩ := hf.run
  refine ⟨_, RZ.pi_zipA hg hm h1 hs hpl, fun F H ρ σ R Rr z => ?_⟩
  unfold mZip at z
  rw [Out.sat_bind] at z
  refine q F H ρ σ _ Rr (Out.sat_mono z (fun ds ρ1 _ y F1 H1 vs R1 r x => ?_) fun _ _ y => y)
  split at y
  · rename_i es gs
    rw [reps_cons] at r
    obtain ⟨v, w, rfl, r, rn⟩ := r
    rw [reps_cons] at rn
    obtain ⟨v2, w2, rfl, r2, rn⟩ := rn
    rw [reps_nil] at rn
    subst rn
    rw [rep_list] at r r2
    obtain ⟨a, xs, rfl, sq, r⟩ := r
    obtain ⟨b, ys, rfl, sq2, r2⟩ := r2
    exact ⟨a, b, xs, ys, rfl, .inl ⟨SqL.mono R1.sub sq, SqL.mono R1.sub sq2, y F1 H1 _ ⟨R1, x⟩ (itOk_zip sq sq2 r r2)⟩⟩
  · rename_i es gs
    rw [reps_cons] at r
    obtain ⟨v, w, rfl, r, rn⟩ := r
    rw [reps_cons] at rn
    obtain ⟨v2, w2, rfl, r2, rn⟩ := rn
    rw [reps_nil] at rn
    subst rn
    rw [rep_tuple] at r r2
    obtain ⟨a, xs, rfl, sq, r⟩ := r
    obtain ⟨b, ys, rfl, sq2, r2⟩ := r2
    exact ⟨a, b, xs, ys, rfl, .inr ⟨SqT.mono R1.sub sq, SqT.mono R1.sub sq2, y F1 H1 _ ⟨R1, x⟩ (itOk_zipT sq sq2 r r2)⟩⟩
  · exact y.elim
end
end SD

set_option Elab.async false
set_option linter.all false
set_option autoImplicit false
set_option maxRecDepth 100000
set_option maxHeartbeats 4000000
/-! SD, part Y: what is read backwards; tables of the module. -/
namespace HT
open PySem PySem.Spec PyProof.Rows L2
section
variable {prog : Program} {w : World} {A : Around} {E : Value → Shared → Prop} {s : Shared}
theorem applied_back {sl : Addr} {va vb vc : Value} {n : Nat} {Q : Int × Int × Nat → Shared → Prop} (hs : s.heap.IsSliceOf sl va vb vc) (pa : IsPart va none) (pb : IsPart vb none) (pc : IsPart vc (some (-1)))
    (k : Q ((n : Int) - 1, -1, n) s) : wpAny (model prog w) A (Builtin.Slice.sliceApplied (.ref sl) (pure (n : Int))) Q E s := by
  obtain ⟨os, ho, hc, hd⟩ := id hs
  unfold Builtin.Slice.sliceApplied Builtin.Slice.sliceFields
  refine wpAny_bind (wpAny_bind (wpAny_field ho hd (x := va) rfl
    (wpAny_bind (wpAny_field ho hd (x := vb) rfl (wpAny_bind (wpAny_field ho hd (x := vc) rfl (wpAny_pure ?_)))))))
  refine wpAny_bind (slicePart_ pc ?_)
  show wpAny _ _ (if ((-1 : Int) == 0) = true then _ else _) _ _ s
  rw [if_neg (by decide)]
  refine wpAny_bind (slicePart_ pa
    (wpAny_bind (slicePart_ pb (wpAny_bind (wpAny_pure ?_)))))
  have e1 : Builtin.Slice.sliceAdjust none none (-1) (n : Int) = ((n : Int) - 1, -1) := rfl
  have e2 : Builtin.Slice.slicePlaces ((n : Int) - 1) (-1) (-1) = n := by
    unfold Builtin.Slice.slicePlaces
    rw [if_neg (by decide)]
    by_cases h : n = 0
    · subst h; rfl
    · rw [if_pos (by omega)]
      have : ((n : Int) - 1 - -1 - 1) / - -1 = (n : Int) - 1 := by
        rw [show ((n : Int) - 1 - -1 - 1) = (n : Int) - 1 by omega, show (- -1 : Int) = 1 by omega, Int.ediv_one]
      rw [this]
      omega
  show wpAny _ _ (match Builtin.Slice.sliceAdjust none none (-1) (n : Int) with | (lo, hi) => pure (lo, (-1 : Int), Builtin.Slice.slicePlaces lo hi (-1))) _ _ s
  rw [e1]
  show wpAny _ _ (pure ((n : Int) - 1, (-1 : Int), Builtin.Slice.slicePlaces ((n : Int) - 1) (-1) (-1))) _ _ s
  rw [e2]
  exact wpAny_pure k
theorem fm_some {α β : Type} {f : α → Option β} {g : α → β} : ∀ {l : List α}, (∀ a ∈ l, f a = some (g a)) → l.filterMap f = l.map g
  | [], _ => rfl
  | a :: l, h => by
    rw [List.filterMap_cons, h a List.mem_cons_self, List.map_cons, fm_some fun b hb => h b (List.mem_cons_of_mem _ hb)]
theorem pick_back (xs : Array Value) : ((List.range xs.size).filterMap fun (m : Nat) => xs[((xs.size : Int) - 1 + (m : Int) * -1).toNat]?).toArray = xs.toList.reverse.toArray := by
  congr 1
  have e : ∀ m ∈ List.range xs.size, xs[((xs.size : Int) - 1 + (m : Int) * -1).toNat]? = some (xs.toList.reverse.getD m .none) := fun m hm => by
    have hm' : m < xs.size := List.mem_range.mp hm
    have : ((xs.size : Int) - 1 + (m : Int) * -1).toNat = xs.size - 1 - m := by omega
    rw [this, List.getD_eq_getElem?_getD, List.getElem?_reverse (by simpa using hm')]
    simp [Array.getElem?_eq_getElem (show xs.size - 1 - m < xs.size by omega)]
  rw [fm_some e]
  refine List.ext_getElem? fun j => ?_
  rw [List.getElem?_map]
  by_cases hj : j < xs.size
  · rw [List.getElem?_range hj]
    have : j < xs.toList.reverse.length := by simpa using hj
    simp [List.getD_eq_getElem?_getD, List.getElem?_eq_getElem this]
  · rw [List.getElem?_eq_none (by simpa using hj), List.getElem?_eq_none (by simpa using hj)]
    rfl
theorem item_back {t sl : Addr} {items : Array Value} {va vb vc : Value} {Q : Value → Shared → Prop} (ht : IsTup s.heap t items) (hs : s.heap.IsSliceOf sl va vb vc) (pa : IsPart va none) (pb : IsPart vb none) (pc : IsPart vc (some (-1)))
    (k : Q (.ref s.heap.objs.size) { s with heap := s.heap.push { cls := .type "tuple", data := .seq items.toList.reverse.toArray } }) (hz : items.size ≤ sizeLine) : wpAny (model prog w) A (getItem (.ref t) (.ref sl)) Q E s := by
  obtain ⟨os, ho, hc, hd⟩ := id hs
  have hT : s.TypeIs (.ref sl) "slice" := ⟨os, ho, hc⟩
  have hok : sizeOk (.seq items.toList.reverse.toArray) := by
    show items.toList.reverse.toArray.size ≤ sizeLine
    simpa using hz
  unfold getItem
  try with_reducible refine wpAny_holding ?_
  first
    | refine wpAny_bind (wpAny_pure ?_)
    | skip
  refine wpAny_bind (wpAny_sequenceKey ht.typeIs (by decide)
    (wpAny_bind (wpAny_callSpecial?_slot (name := Str.ofString "__getitem__") ht.typeIs slot_tuple_getitem
      (wpAny_call_entry slot_tuple_getitem ht.typeIs entry_tuple_getitem ?_ (args_tuple_getitem _ _)))))
  show wpAny _ _ (Builtin.Tuple.tupleItemsOf (.ref t) >>= _) _ _ s
  refine wpAny_bind (tupleItemsOf_ ht
    (wpAny_bind (wpAny_typeOf hT ?_)))
  rw [if_pos (by decide)]
  refine wpAny_bind (applied_back (n := items.size) hs pa pb pc ?_)
  have no : ¬ (((items.size : Int) - 1 == 0 && (-1 : Int) == 1 && items.size == items.size) = true) := by
    intro z
    simp at z
  show wpAny _ _ (if ((items.size : Int) - 1 == 0 && (-1 : Int) == 1 && items.size == items.size) = true then _ else _) _ _ s
  rw [if_neg no, pick_back]
  first
    | exact wpAny_bind (m := Builtin.Tuple.tupleExact _)
        (wpAny_newObj_type (wpAny_pure ⟨_, rfl, wpAny_pure k⟩) hok)
    | exact wpAny_bind (m := Builtin.Tuple.tupleExact _)
        (wpAny_newObj_type (wpAny_bind (wpAny_pure (wpAny_pure ⟨_, rfl, wpAny_pure k⟩))) hok)
    | exact wpAny_bind (wpAny_bind (m := Builtin.Tuple.tupleExact _)
        (wpAny_newObj_type (wpAny_pure (wpAny_pure ⟨_, rfl, wpAny_pure k⟩)) hok))
    | exact wpAny_bind (wpAny_bind (m := Builtin.Tuple.tupleExact _)
        (wpAny_newObj_type (wpAny_pure ⟨_, rfl, wpAny_pure k⟩) hok))
end
end HT
namespace SD
open PySem PySem.Spec PyProof.Rows L2
/-- xs[::-1], a list or a tuple -/
def tBack (K : Fr0) (te : TE) : TE := fun σ H Q => te σ H fun x H1 => ∃ a xs, x = .ref a ∧ ((SqL K H1 a xs ∧ ∀ p, H1 p = none → Q (.ref p) (upd H1 p (.lst xs.reverse))) ∨ (SqT K H1 a xs ∧ ∀ p, H1 p = none → Q (.ref p) (upd H1 p (.tup xs.reverse))))
theorem pe_back {X : Cx} {e : Expr} {te : TE} {k : Nat} {p1 p2 p3 pos : Pos} (he : PE X e te) : PE X (.Subscript e (.Slice none none (some (.UnaryOp .USub (.Constant (.int 1) k p1) p2)) p3) pos) (tBack X.K te) := by
  refine ⟨fun pins s σ H Q I h => ?_⟩
  refine Subscript_ (thn (he.run pins s σ H _ I h) fun v s1 ⟨x, H1, I1, r1, a, xs, ex, q⟩ => ?_)
  subst ex
  cases r1
  have pst : PO X (some (.UnaryOp .USub (.Constant (.int 1) k p1) p2)) (tPart (tUn (rU fun i => .int (-i)) (tC (.int 1)))) := po_some (pe_un un_neg pe_int)
  refine wpAny_Slice (thn (po_none.run pins s1 σ H1 (fun o H2 => o = none ∧ H2 = H1) I1 ⟨rfl, rfl⟩) fun va s2 ⟨l, H2, I2, pa, el, e2⟩ => ?_)
  subst el e2
  refine thn (po_none.run pins s2 σ H2 (fun o H3 => o = none ∧ H3 = H2) I2 ⟨rfl, rfl⟩) fun vb s3 ⟨u, H3, I3, pb, eu, e3⟩ => ?_
  subst eu e3
  refine thn (pst.run pins s3 σ H3 (fun o H4 => o = some (-1) ∧ H4 = H3) I3 ⟨1, rfl, -1, rfl, rfl, rfl⟩) fun vc s4 ⟨o, H4, I4, pc, eo, e4⟩ => ?_
  subst eo e4
  have J : Inv X pins σ H4 { s4 with heap := s4.heap.push { cls := .type "slice", data := .fields #[va, vb, vc] } } :=
    I4.kept (t' := s4.toks) fun b ob q => Heap.get?_push_of_some _ q
  show wpAny (model X.prog X.w) X.A (subscriptTail e (.Slice none none (some (.UnaryOp .USub (.Constant (.int 1) k p1) p2)) p3) (.ref a) (.ref s4.heap.objs.size)) (EP X pins σ Q) X.xe
    { s4 with heap := s4.heap.push { cls := .type "slice", data := .fields #[va, vb, vc] } }
  rcases q with ⟨hx, q⟩ | ⟨hx, q⟩
  · obtain ⟨its, r, ht, hz⟩ := J.list hx
    have hlen := r.length
    refine tail_any (ops := [.ref a, .ref s4.heap.objs.size]) ht.isList.typeIs (PySem.slot_list_getitem.lookup) ?_ (by with_unfolding_all rfl)
    refine wpAny_getItem_list_slice ht.isList (Heap.IsSliceOf.new _ va vb vc) pa pb pc (by decide) ?_ (by rw [List.size_toArray]; omega)
    rw [PySem.W.krv_pick]
    exact ⟨.ref _, _, J.laid (t' := s4.toks) (o := .lst xs.reverse) (fun b ob q => Heap.get?_push_of_some _ q) (Nat.le_refl _)
      ⟨by rw [List.length_reverse]; exact hz, _, 0, r.reverse, Heap.get?_push_size _ rfl⟩, rfl, q _ (J.hok.fresh (Nat.le_refl _))⟩
  · obtain ⟨its, r, ht, hz⟩ := J.tuple hx
    have hlen := r.length
    refine tail_any (ops := [.ref a, .ref s4.heap.objs.size]) ht.typeIs (slot_tuple_getitem.lookup) ?_ (by with_unfolding_all rfl)
    refine HT.item_back ht (Heap.IsSliceOf.new _ va vb vc) pa pb pc ?_ (by rw [List.size_toArray]; omega)
    exact ⟨.ref _, _, J.laid (t' := s4.toks) (o := .tup xs.reverse) (fun b ob q => Heap.get?_push_of_some _ q) (Nat.le_refl _)
      ⟨by rw [List.length_reverse]; exact hz, _, r.reverse, IsTup.new _ _⟩, rfl, q _ (J.hok.fresh (Nat.le_refl _))⟩
theorem reps_rev {K : Fr0} {F : Hp} : ∀ {ds : List D} {vs : List V}, Reps K F ds vs → Reps K F ds.reverse vs.reverse := fun {ds vs} r => by
  obtain ⟨a, b, c⟩ := reps_zip r
  have := reps_of_zip (K := K) (F := F) (ps := (ds.zip vs).reverse) fun p hp => c p (List.mem_reverse.mp hp)
  rw [List.map_reverse, List.map_reverse, a, b] at this
  exact this
def backO (ρ : En) (o : Option D) : Out Slot := match o with
  | some (.list ds) => .ok (.lst ds.reverse) ρ
  | some (.tuple ds) => .ok (.val (.tuple ds.reverse)) ρ
  | _ => .bad
def mBack (a : AE) : M Slot := fun ρ => (evA a ρ).bind fun g ρ1 => backO ρ1 (g.slot ρ1).data
section
variable {X : Cx} {W : WX} {I : ExI} {a : AE} {e : Expr}
theorem ce_back {k : Nat} {p1 p2 p3 pos : Pos} (ha : CA X W I a e) : CE X W I (mBack a) (.Subscript e (.Slice none none (some (.UnaryOp .USub (.Constant (.int 1) k p1) p2)) p3) pos) := by
  obtain ⟨t, h1, q⟩ := ha.run
  refine ce_mk (pe_back h1) fun F H ρ σ Q R z => ?_
  unfold mBack at z
  rw [Out.sat_bind] at z
  refine q F H ρ σ _ R (Out.sat_mono z (fun g ρ1 _ y F1 H1 v P => ?_) fun _ _ y => y)
  unfold backO at y
  split at y
  · rename_i ds ed
    obtain ⟨p, vs, rfl, sq, r⟩ := top_list (arg_top P.rp P.ok ed)
    refine ⟨p, vs, rfl, .inl ⟨sq, fun b nb => y _ _ _ (prim_post (P.cons (PostL.nil P.rp)) (.lst P.rp.sub (reps_rev r) nb))⟩⟩
  · rename_i ds ed
    obtain ⟨p, vs, rfl, sq, r⟩ := top_tuple P.rp.sub (arg_top P.rp P.ok ed)
    refine ⟨p, vs, rfl, .inr ⟨sq, fun b nb => y _ _ _ (prim_post (P.cons (PostL.nil P.rp)) (.tup P.rp.sub (reps_rev r) nb))⟩⟩
  · exact y.elim
end
end SD

set_option Elab.async false
set_option linter.all false
set_option autoImplicit false
set_option maxRecDepth 100000
set_option maxHeartbeats 4000000
/-! SD, part Z: a table of the module: texts by texts; the end of a proof with the script's bits. -/
namespace SD
open PySem PySem.Spec PyProof.Rows L2
def Entries (P : Params) : List DictEntry → List (Str × Str) → Prop
  | [], [] => True
  | e :: r, (k, v) :: t => (∃ tk, e.key = .str k tk) ∧ e.hash = PyData.keyHash P k ∧ (∃ tv, e.val = .str v tv) ∧ Entries P r t
  | _, _ => False
structure TabOk (K : Fr0) (w : World) (d : Addr) (tab : List (Str × Str)) : Prop where
  at_ : ∃ es n, K.lookup d = some ⟨.type "dict", none, .dict es n, #[]⟩ ∧ Entries w.params es.toList tab
  low : (d == sysModules) = false
theorem ent_lit {P : Params} : ∀ {es : List DictEntry} {t : List (Str × Str)}, Entries P es t → PySem.W.KeysLit P es
  | [], _, _ => trivial
  | e :: r, [], h => h.elim
  | e :: r, (k, v) :: t, ⟨⟨tk, h1⟩, h2, _, h4⟩ => ⟨⟨k, tk, h1, h2⟩, ent_lit h4⟩
theorem ent_find {P : Params} {z : Str} : ∀ {es : List DictEntry} {t : List (Str × Str)}, Entries P es t → (∀ v, t.lookup z = some v → ∃ e tv, es.find? (·.key.isStr z) = some e ∧ e.val = .str v tv) ∧ (t.lookup z = none → es.find? (·.key.isStr z) = none ∧ es.any (·.refKey) = false)
  | [], [], _ => ⟨fun v e => (by cases e), fun _ => ⟨rfl, rfl⟩⟩
  | [], (_ :: _), h => h.elim
  | e :: r, [], h => h.elim
  | e :: r, (k, v) :: t, ⟨⟨tk, h1⟩, h2, ⟨tv, h3⟩, h4⟩ => by
    obtain ⟨i1, i2⟩ := ent_find (z := z) h4
    have hk : e.key.isStr z = (k == z) := by rw [h1]; rfl
    have hr : e.refKey = false := by
      unfold DictEntry.refKey
      rw [h1]
    by_cases hz : z = k
    · subst hz
      have : (z == z) = true := by simp
      refine ⟨fun v' e' => ⟨e, tv, by rw [List.find?_cons_of_pos (by rw [hk]; simp)], ?_⟩, fun e' => ?_⟩
      · rw [List.lookup_cons_self] at e'
        cases e'
        exact h3
      · rw [List.lookup_cons_self] at e'
        cases e'
    · have hne : (z == k) = false := by simpa using hz
      have hne' : ¬ (e.key.isStr z = true) := by rw [hk]; simp [Ne.symm hz]
      rw [List.lookup_cons, hne]
      refine ⟨fun v' e' => ?_, fun e' => ?_⟩
      · obtain ⟨e0, tv0, a, b⟩ := i1 v' e'
        exact ⟨e0, tv0, by rw [List.find?_cons_of_neg (p := fun x : DictEntry => x.key.isStr z) hne']; exact a, b⟩
      · obtain ⟨a, b⟩ := i2 e'
        exact ⟨by rw [List.find?_cons_of_neg (p := fun x : DictEntry => x.key.isStr z) hne']; exact a, by rw [List.any_cons, hr, b]; rfl⟩
theorem TabOk.yes {K : Fr0} {w : World} {d : Addr} {tab : List (Str × Str)} (T : TabOk K w d tab) {z v : Str} (h : tab.lookup z = some v) : ∃ tv, PySem.W.nsIn K d z = some (some (.str v tv)) := by
  obtain ⟨es, n, l, e⟩ := T.at_
  obtain ⟨e0, tv, a, b⟩ := (ent_find (z := z) e).1 v h
  refine ⟨tv, ?_⟩
  unfold PySem.W.nsIn
  rw [l]
  simp only [a, b]
theorem TabOk.no {K : Fr0} {w : World} {d : Addr} {tab : List (Str × Str)} (T : TabOk K w d tab) {z : Str} (h : tab.lookup z = none) : PySem.W.nsIn K d z = some none := by
  obtain ⟨es, n, l, e⟩ := T.at_
  obtain ⟨a, b⟩ := (ent_find (z := z) e).2 h
  unfold PySem.W.nsIn
  rw [l]
  simp only [a, b]
  rfl
theorem TabOk.kd {K : Fr0} {w : World} {d : Addr} {tab : List (Str × Str)} (T : TabOk K w d tab) : ∃ es n, KDict K w d es n := by
  obtain ⟨es, n, l, e⟩ := T.at_
  exact ⟨es, n, l, ent_lit e, T.low⟩
/-- what is known of a table, by its name -/
def Tab (X : Cx) (x : Str) (tab : List (Str × Str)) : Prop := ∃ d, X.mg x = some (.ref d) ∧ TabOk X.K X.w d tab
def pTabIn (tab : List (Str × Str)) : List D → Option Slot
  | [.str z] => some (.val (.bool (tab.lookup z).isSome))
  | _ => none
def pTabNot (tab : List (Str × Str)) : List D → Option Slot
  | [.str z] => some (.val (.bool (!(tab.lookup z).isSome)))
  | _ => none
def pTabIx (tab : List (Str × Str)) : List D → Option Slot
  | [.str z] => (tab.lookup z).map fun v => .val (.str v)
  | _ => none
section
variable {X : Cx} {W : WX} {I : ExI} {a : AE} {e : Expr} {x : Str} {tab : List (Str × Str)} {p pos : Pos}
theorem sat1 {q : List D → Option Slot} {ρ : En} {F H : Hp} {σ : St} {Q Q2 : VK} {t : TE} (q1 : ∀ (F H : Hp) (ρ : En) (σ : St) (Q : VK), Rp X.K F H ρ σ →
    (evA a ρ).sat (fun g ρ' => ∀ F' H' v, Post X.K F H ρ σ F' H' ρ' g v → Q v H') (XC X W I F H (OwnE ρ σ) σ) → t σ H Q) (R : Rp X.K F H ρ σ)
    (z : (mPrim q [a] ρ).sat (fun s ρ' => ∀ F' H' v, Post X.K F H ρ σ F' H' ρ' (.sl s) v → Q v H') (XC X W I F H (OwnE ρ σ) σ)) (c : ∀ v H', rP X.K q [v] H' Q → Q2 v H') : t σ H Q2 := by
  have z2 : ((evA a ρ).bind fun g ρ1 => (Out.ok [] ρ1 : Out (List Arg)).bind fun gs ρ2 => Out.ok (g :: gs) ρ2).sat _ _ := prim_sat' z
  rw [Out.sat_bind] at z2
  exact q1 F H ρ σ _ R (Out.sat_mono z2 (fun g ρ' _ y F' H' v P => c v H' (y F' H' [v] (P.cons (PostL.nil P.rp)))) fun _ _ y => y)
theorem ce_tabIn (T : Tab X x tab) (hg : Gl X x) (ha : CA X W I a e) (hm : behindInMarks .In (.Name x p) = false := by rfl) (hd : (x == ("__debug__" : Str)) = false := by decide) : CE X W I (mPrim (pTabIn tab) [a]) (.Compare e [.In] [.Name x p] pos) := by
  obtain ⟨t, h1, q1⟩ := ha.run
  obtain ⟨d, m, ok⟩ := T
  obtain ⟨es, n, KD⟩ := ok.kd
  refine ce_mk (pe_cmpR (op_in_kd KD) h1 (pe_glob (v := .ref d) hg m rfl hd) hm) fun F H ρ σ Q R z => ?_
  unfold tOp
  refine sat1 q1 R z fun v H' ⟨F1, ds, sl, sub, r, eq, q⟩ => ?_
  unfold pTabIn at eq
  split at eq
  · rename_i zz
    cases eq
    obtain ⟨v', hv, h⟩ := vals_one r
    cases hv
    obtain rfl := top_str h
    cases el : tab.lookup zz with
    | none => exact ⟨zz, none, rfl, rfl, ok.no el, by rw [el] at q; exact res_bool sub q⟩
    | some u => obtain ⟨tv, ez⟩ := ok.yes el; exact ⟨zz, some (.str u tv), rfl, rfl, ez, by rw [el] at q; exact res_bool sub q⟩
  · cases eq
theorem tab_not (T : Tab X x tab) : ∃ d r, X.mg x = some (.ref d) ∧ OpR X (compareOp .NotIn) r ∧ ∀ v H' Q, rP X.K (pTabNot tab) [v] H' Q → r v (.ref d) H' Q := by
  obtain ⟨d, m, ok⟩ := T
  obtain ⟨es, n, KD⟩ := ok.kd
  refine ⟨d, _, m, op_notIn_kd KD, fun v H' Q ⟨F1, ds, sl, sub, r, eq, q⟩ => ?_⟩
  unfold pTabNot at eq
  split at eq
  · rename_i zz
    cases eq
    obtain ⟨v', hv, h⟩ := vals_one r
    cases hv
    obtain rfl := top_str h
    cases el : tab.lookup zz with
    | none => exact ⟨zz, none, rfl, rfl, ok.no el, by rw [el] at q; exact res_bool sub q⟩
    | some u => obtain ⟨tv, ez⟩ := ok.yes el; exact ⟨zz, some (.str u tv), rfl, rfl, ez, by rw [el] at q; exact res_bool sub q⟩
  · cases eq
theorem ce_tabNot (T : Tab X x tab) (hg : Gl X x) (ha : CA X W I a e) (hm : behindInMarks .NotIn (.Name x p) = false := by rfl) (hd : (x == ("__debug__" : Str)) = false := by decide) : CE X W I (mPrim (pTabNot tab) [a]) (.Compare e [.NotIn] [.Name x p] pos) := by
  obtain ⟨t, h1, q1⟩ := ha.run
  obtain ⟨d, r, m, op, c⟩ := tab_not T
  refine ce_mk (pe_cmpR op h1 (pe_glob (v := .ref d) hg m rfl hd) hm) fun F H ρ σ Q R z => ?_
  unfold tOp
  exact sat1 q1 R z fun v H' z => c v H' Q z
theorem ct_tabNot (T : Tab X x tab) (hg : Gl X x) (ha : CA X W I a e) (hm : behindInMarks .NotIn (.Name x p) = false := by rfl) (hd : (x == ("__debug__" : Str)) = false := by decide) : CT X W I (mTest (mPrim (pTabNot tab) [a])) (.Compare e [.NotIn] [.Name x p] pos) := by
  obtain ⟨t, h1, q1⟩ := ha.run
  obtain ⟨d, r, m, op, c⟩ := tab_not T
  refine ⟨_, pt_cmpR op h1 (pe_glob (v := .ref d) hg m rfl hd) hm, fun F H ρ σ Q R z => ?_⟩
  unfold mTest at z
  rw [Out.sat_bind] at z
  have z' := Out.sat_mono z (k' := fun s ρ' => ∀ F' H' v, Post X.K F H ρ σ F' H' ρ' (.sl s) v → (fun x H' => ∃ k, x = V.bl k ∧ Q k H') v H') (fun s ρ' _ y F' H' v P => by
    cases eb : asBool s with
    | none => rw [eb] at y; exact y.elim
    | some b =>
      rw [eb] at y
      exact ⟨b, (bool_of P.ok.1 eb).1, y F' H' P.toB⟩) fun _ _ y => y
  exact sat1 q1 R z' fun v H' z => c v H' _ z
/-- FORMS[word] -/
theorem ce_tabIx (T : Tab X x tab) (hg : Gl X x) (ha : CA X W I a e) (hs : PlainIx e) (hd : (x == ("__debug__" : Str)) = false := by decide) : CE X W I (mPrim (pTabIx tab) [a]) (.Subscript (.Name x p) e pos) := by
  obtain ⟨t, h1, q1⟩ := ha.run
  obtain ⟨d, m, ok⟩ := T
  obtain ⟨es, n, KD⟩ := ok.kd
  refine ce_mk (pe_ix ix_kdict (pe_glob (v := .ref d) hg m rfl hd) h1 hs) fun F H ρ σ Q R z => ?_
  show t σ H fun y H1 => _
  refine sat1 q1 R z fun v H' ⟨F1, ds, sl, sub, r, eq, q⟩ => ?_
  unfold pTabIx at eq
  split at eq
  · rename_i zz
    cases el : tab.lookup zz with
    | none => rw [el] at eq; cases eq
    | some u =>
      rw [el] at eq
      cases eq
      obtain ⟨v', hv, h⟩ := vals_one r
      cases hv
      obtain rfl := top_str h
      obtain ⟨tv, ez⟩ := ok.yes el
      exact ⟨d, zz, .str u, rfl, rfl, ⟨es, n, .str u tv, KD.at_, KD.lit, ez, ⟨tv, rfl⟩⟩, res_str sub q⟩
  · cases eq
end
@[simp] theorem p_tabIn {tab : List (Str × Str)} {z : Str} : pTabIn tab [.str z] = some (.val (.bool (tab.lookup z).isSome)) := rfl
@[simp] theorem p_tabNot {tab : List (Str × Str)} {z : Str} : pTabNot tab [.str z] = some (.val (.bool (!(tab.lookup z).isSome))) := rfl
@[simp] theorem p_tabIx {tab : List (Str × Str)} {z : Str} : pTabIx tab [.str z] = (tab.lookup z).map fun v => .val (.str v) := rfl

/-! ### the end of a proof: the script's bits are told -/
def spLawB (K : Fr0) : Sp := fun vs H Q _ => ∃ (a : Addr) (ns : List Int), vs = [.ref a] ∧ SqL K H a (ns.map V.int) ∧ ns.length ≤ 63 ∧ (∀ z ∈ ns, Builtin.Int.intBits z ≤ 1048576) ∧ Only H ∧ ∀ H', Q (.bl true) H'
theorem law_okB {P : Program} {w : World} {K : Fr0} {mg : Str → Option Value} {base : Heap} {I : ExI} {k : Nat} {f : Addr} {fd : FuncData} {g : M Slot} (F : FnOk P w K mg base (L2.CX P w) k f fd ["_law_script"] (spF K I 1 g))
    (h : ∀ ns : List Int, ns.length ≤ 63 → (∀ z ∈ ns, Builtin.Int.intBits z ≤ 1048576) → ∃ ρ, g [.val (.list (ns.map PyData.int))] = .ok (.val (.bool true)) ρ) : FnOk P w K mg base (L2.CX P w) k f fd ["_law_script"] (spLawB K) :=
  F.imp fun vs H Q E ⟨a, ns, e, hS, hl, hb, ho, q⟩ => by
    subst e
    refine ⟨rfl, H, [.val (.list (ns.map PyData.int))], ?_, ?_⟩
    · exact ⟨rfl, Same.refl _, fun i s v e1 e2 => by
        cases i with
        | zero =>
          simp at e1 e2
          subst e1 e2
          refine ⟨_, rfl, ?_⟩
          rw [rep_list]
          exact ⟨a, _, rfl, hS, reps_ints ns⟩
        | succ i => simp at e1, fun i j s t v u q e1 e2 e3 e4 o1 o2 => by
        cases i with
        | zero => simp at e1; subst e1; exact o1.elim
        | succ i => simp at e1⟩
    · obtain ⟨ρ, e⟩ := h ns hl hb
      rw [e]
      intro F' H' v P'
      have := (bool_of P'.ok.1 (b := true) rfl).1
      subst this
      exact q H'
theorem walkB {l : PySem.W.OpenLaw} {q : Program} {loose : List Str} {XP : (Str → Option Value) → Heap → Prop} {YP : World → Heap → Prop} {d : DefRec} {K : Params → PySem.W.Frag} (k : Nat) (hn : l.most = some 63) (hdf : d.params.defaults = []) (hr : Room k callerA)
    (hY : ∀ (w : World) (h : Heap), YP w h → (K w.params).In h)
    (F : ∀ (w : World) (mg : Str → Option Value) (fa : Addr) (h : Heap), (K w.params).In h → h.Ns mainGlobals mg → mg d.name = some (.ref fa) →
      ∃ fd : FuncData, (∀ (s : Shared) (u : Value), BindsTo s fd ⟨[u], []⟩ [("_law_script", u)]) ∧ ∀ base : Heap, (K w.params).In base → base.Ns mainGlobals mg → FnOk l.prog w (K w.params) mg base (L2.CX l.prog w) k fa fd ["_law_script"] (spLawB (K w.params))) :
    PySem.W.WalkO q loose XP YP l.row.toRowW d [] (fun f vs => PySem.call f vs) :=
  L2.walk_ofB (n := 63) (k := k) (x := "_law_script") (CX := fun w => L2.CX l.prog w) (sp := fun w => spLawB (K w.params)) hn (by decide) hdf hr hY F
    (fun _ _ a ns hl hb ho hS => ⟨a, ns, rfl, hS, hl, hb, ho, fun _ => rfl⟩) fun _ _ _ _ _ z => by
      obtain ⟨_, _, _, _, _, _, _, _, _, _, _, _, z⟩ := z
      exact z
end SD

set_option Elab.async false
set_option linter.all false
set_option autoImplicit false
set_option maxRecDepth 100000
set_option maxHeartbeats 4000000
/-! SD, part Q: further equations for runs. -/
namespace SD
open PySem PySem.Spec PyProof.Rows L2
/-! ### in, not in -/
section
variable {d x : D} {ds : List D}
@[simp] theorem hasD0 : hasD d [] = false := rfl
@[simp] theorem hasD1 : hasD d (x :: ds) = (PyData.eqv x d || hasD d ds) := rfl
@[simp] theorem inOk_iff : inOk d ds = (PyData.plain d && PyData.plainAll ds && decide (min (PyData.depthAll ds) (PyData.depth d) ≤ 60)) := rfl
@[simp] theorem p_inL : pIn [d, .list ds] = if inOk d ds then some (.val (.bool (hasD d ds))) else none := by
  cases d <;> rfl
@[simp] theorem p_inT : pIn [d, .tuple ds] = if inOk d ds then some (.val (.bool (hasD d ds))) else none := by
  cases d <;> rfl
@[simp] theorem p_notInL : pNotIn [d, .list ds] = if inOk d ds then some (.val (.bool (!hasD d ds))) else none := by
  cases d <;> rfl
@[simp] theorem p_notInT : pNotIn [d, .tuple ds] = if inOk d ds then some (.val (.bool (!hasD d ds))) else none := by
  cases d <;> rfl
end
/-! ### numbers -/
theorem goes_no {i j : Int} (h : 0 < j) (h2 : j < 18446744073709551616) : Builtin.divisionGoesByPylong i j = false := by
  have hl : j.natAbs.log2 < 64 := (Nat.log2_lt (by omega)).mpr (by omega)
  unfold Builtin.divisionGoesByPylong
  simp only [Bool.and_eq_false_imp, decide_eq_true_eq]
  intro h3
  exfalso
  have : (j == 0) = false := by simpa using (show j ≠ 0 by omega)
  rw [this] at h3
  simp at h3
  omega
@[simp] theorem p_divmod {i j : Int} : pDivmod [.int i, .int j] = if 0 < j ∧ Builtin.divisionGoesByPylong i j = false then some (.val (.tuple [.int (i / j), .int (i % j)])) else none := rfl
@[simp] theorem p_intI {i : Int} : pIntA [.int i] = some (.val (.int i)) := rfl
@[simp] theorem p_intB {b : Bool} : pIntA [.bool b] = some (.val (.int (if b then 1 else 0))) := rfl
@[simp] theorem p_max2 {i j : Int} : pMax2 [.int i, .int j] = some (.val (.int (if j > i then j else i))) := rfl
@[simp] theorem p_min2 {i j : Int} : pMin2 [.int i, .int j] = some (.val (.int (if j < i then j else i))) := rfl
@[simp] theorem p_isB {a b : Bool} : pIsB [.bool a, .bool b] = some (.val (.bool (decide (a = b)))) := rfl
@[simp] theorem p_notB {a b : Bool} : pNotB [.bool a, .bool b] = some (.val (.bool (!decide (a = b)))) := rfl
@[simp] theorem cpow60 : CPow 10 60 := cpow10 (n := 60) (by decide)
theorem lt_bits {i : Int} {n : Nat} (h : Builtin.Int.intBits i ≤ n) : i.natAbs < 2 ^ n := by
  unfold Builtin.Int.intBits at h
  split at h
  · rename_i e
    have : i = 0 := by simpa using e
    subst this
    exact Nat.two_pow_pos n
  · rename_i e
    have h0 : i.natAbs ≠ 0 := by
      intro z
      have : i = 0 := by omega
      exact e (by simp [this])
    exact Nat.lt_of_lt_of_le (Nat.lt_log2_self) (Nat.pow_le_pow_right (by decide) h)
theorem bits_lt {i : Int} {n : Nat} (h : i.natAbs < 2 ^ n) : Builtin.Int.intBits i ≤ n := intBits_le h
theorem bits_add {i j : Int} {n : Nat} (h : Builtin.Int.intBits i ≤ n) (h2 : Builtin.Int.intBits j ≤ n) : Builtin.Int.intBits (i + j) ≤ n + 1 := by
  have a := lt_bits h
  have b := lt_bits h2
  refine bits_lt ?_
  rw [Nat.pow_succ]
  omega
theorem bits_small {i : Int} (h : -(18446744073709551616 : Int) < i ∧ i < 18446744073709551616) : Builtin.Int.intBits i ≤ 64 := bits_lt (by omega)
/-! ### data -/
@[simp] theorem ev_slot {s : Slot} {ρ : En} : Arg.slot ρ (.sl s) = s := rfl
@[simp] theorem ev_slotN {i : Nat} {ρ : En} : Arg.slot ρ (.nm i) = En.at ρ i := rfl
theorem cut_nat {α : Type} (l : List α) (i j : Nat) : (l.drop (min i l.length)).take (min j l.length - min i l.length) = (l.drop i).take (j - i) := by
  by_cases h : i ≤ l.length
  · rw [show min i l.length = i by omega, List.take_eq_take_iff]
    simp
    omega
  · rw [show min i l.length = l.length by omega, List.drop_length, List.drop_eq_nil_of_le (by omega)]
    simp
/-- a slice with both ends written, of a tuple -/
theorem cutD_both (l : List D) (i j : Nat) : cutD l (some (i : Int)) (some (j : Int)) = (l.drop (min i l.length)).take (min j l.length - min i l.length) := by
  unfold cutD
  rw [sIx_some, sIx_some]
@[simp] theorem cutD_lit (l : List D) (i j : Nat) : cutD l (some (no_index (@OfNat.ofNat Int i _))) (some (no_index (@OfNat.ofNat Int j _))) = (l.drop i).take (j - i) := (cutD_both l i j).trans (cut_nat l i j)
@[simp] theorem cutD_lo (l : List D) (i : Nat) : cutD l (some (no_index (@OfNat.ofNat Int i _))) none = l.drop i := by
  show cutD l (some (i : Int)) none = l.drop i
  unfold cutD
  rw [sIx_some, HT.sIx_none]
  by_cases h : i ≤ l.length
  · rw [show min i l.length = i by omega, List.take_of_length_le (by simp)]
  · rw [show min i l.length = l.length by omega, List.drop_length, List.drop_eq_nil_of_le (by omega)]
    simp
@[simp] theorem cutD_hi (l : List D) (i : Nat) : cutD l none (some (no_index (@OfNat.ofNat Int i _))) = l.take i := cutD_to l i
@[simp] theorem p_slT {l h : Option Int} {ds : List D} : pSl l h (.tuple ds) = some (.val (.tuple (cutD ds l h))) := rfl
theorem p_slL' {l h : Option Int} {ds : List D} : pSl l h (.list ds) = some (.lst (cutD ds l h)) := rfl
/-! ### slices of texts -/
theorem cutS_lo (l : List Nat) (k : Nat) : cutS (cs l) (some (k : Int)) none = cs (l.drop k) := by
  unfold cutS
  rw [cs_list, cs_len, sIx_some, HT.sIx_none]
  show cs _ = _
  rw [cs_eq]
  by_cases h : k ≤ l.length
  · rw [show min k l.length = k by omega, List.take_of_length_le (by simp)]
  · rw [show min k l.length = l.length by omega, List.drop_length, List.drop_eq_nil_of_le (by omega)]
    simp
theorem cutS_both (l : List Nat) (i j : Nat) : cutS (cs l) (some (i : Int)) (some (j : Int)) = cs ((l.drop i).take (j - i)) := by
  unfold cutS
  rw [cs_list, cs_len, sIx_some, sIx_some]
  show cs _ = _
  rw [cs_eq]
  exact cut_nat l i j
theorem p_slSlo {l : List Nat} (k : Nat) (h : l.length ≤ 16777216) : pSl (some (k : Int)) none (.str (cs l)) = some (.val (.str (cs (l.drop k)))) := by
  show (if lineOk (cs l).length then some (Slot.val (.str (cutS (cs l) (some (k : Int)) none))) else none) = _
  rw [cutS_lo, if_pos (by simpa [lineOk] using h)]
theorem p_slSb {l : List Nat} (i j : Nat) (h : l.length ≤ 16777216) : pSl (some (i : Int)) (some (j : Int)) (.str (cs l)) = some (.val (.str (cs ((l.drop i).take (j - i))))) := by
  show (if lineOk (cs l).length then some (Slot.val (.str (cutS (cs l) (some (i : Int)) (some (j : Int))))) else none) = _
  rw [cutS_both, if_pos (by simpa [lineOk] using h)]
/-- a text's sign at a place that is there -/
theorem p_ixN {l : List Nat} {i : Int} (h0 : 0 ≤ i) (h1 : i < l.length) (h : l.length ≤ 16777216) : ∃ c ∈ l, pIx [.str (cs l), .int i] = some (.val (.str (cs [c]))) := by
  obtain ⟨n, rfl⟩ := Int.eq_ofNat_of_zero_le h0
  have hn : n < l.length := by omega
  exact ⟨l[n], List.getElem_mem hn, by simp [atI, ixN, h1, hn, h]⟩
@[simp] theorem p_mulS {a : Str} {n : Int} : pMul [.str a, .int n] = if a.length ≤ 4096 ∧ -4096 ≤ n ∧ n ≤ 4096 then some (.val (.str (Txt.mul a n))) else none := rfl
theorem mul_one' (c : Nat) : ∀ n : Nat, Txt.mul (cs [c]) (n : Int) = cs (List.replicate n c) := fun n => by
  unfold Txt.mul
  by_cases h : n = 0
  · subst h
    rw [if_pos (by decide)]
    rfl
  · rw [if_neg (by omega)]
    by_cases h1 : n = 1
    · subst h1
      rw [if_pos (by rfl)]
      rfl
    · rw [if_neg (by simp [cs_len]; omega), Int.toNat_natCast]
      have key : ∀ (m : Nat) (acc : Array Nat), (List.replicate m #[c]).foldl (· ++ ·) acc = acc ++ (List.replicate m c).toArray := by
        intro m
        induction m with
        | zero => intro acc; simp
        | succ m ih =>
          intro acc
          rw [List.replicate_succ, List.foldl_cons, ih, List.replicate_succ]
          apply Array.toList_inj.mp
          simp
      show (⟨(List.replicate n (cs [c]).cps).foldl (· ++ ·) #[]⟩ : Str) = _
      have : (cs [c]).cps = #[c] := rfl
      rw [this, key]
      simp [cs]
theorem p_ixG {l : List Nat} {n : Nat} (hn : n < l.length) (h : l.length ≤ 16777216) : pIx [.str (cs l), .int (n : Int)] = some (.val (.str (cs [l.getD n 0]))) := by
  have h1 : (n : Int) < l.length := by omega
  simp [atI, ixN, h1, hn, h]
def asgR (o : Option En) : Out Fl := match o with
  | some ρ => .ok .next ρ
  | none => .bad
@[simp] theorem ev_asgO {g : Tg} {d : D} {ρ : En} : asgO g ρ (some d) = asgR (g d ρ) := rfl
@[simp] theorem ev_asgR {ρ : En} : asgR (some ρ) = .ok .next ρ := rfl
/-! ### two sorted -/
theorem sort2 {a b : D} : sortD [a, b] = if W.dataLt b a then [b, a] else [a, b] := by
  have h : List.mergeSort [a, b] (W.dataLe false id) = if W.dataLe false id a b then [a, b] else [b, a] := by
    simp [List.mergeSort, List.MergeSort.Internal.splitInTwo, List.merge]
  unfold sortD
  rw [h]
  show (if (!W.dataLt b a) = true then _ else _) = _
  cases W.dataLt b a <;> rfl
/-- over texts, making anything -/
theorem comp_txsD {v : Nat} {f : M Slot} {ρ : En} {L : List (List Nat)} (F : List Nat → D)
    (h : ∀ k ∈ L, ∃ s, f (ρ.set v (.val (.str (cs k)))) = .ok s (ρ.set v (.val (.str (cs k)))) ∧ s.data = some (F k))
    (hl : L.length ≤ 16777216) : compR [v] (gNm v) mYes f (txs L) ρ = .ok (.lst (L.map F)) ρ := comp1Y (fun k => PyData.str (cs k)) F h hl
theorem txs_eq {a b : List (List Nat)} : (txs a = txs b) = (a = b) := propext ⟨fun h => by
  have : (txs a).map (fun d => match d with | .str z => z.cps.toList | _ => []) = (txs b).map (fun d => match d with | .str z => z.cps.toList | _ => []) := by rw [h]
  simpa [txs, List.map_map, Function.comp_def] using this, fun h => by rw [h]⟩
@[simp] theorem txs_eqv {a b : List (List Nat)} : PyData.eqvAll (txs a) (txs b) = decide (a = b) := by
  induction a generalizing b with
  | nil => cases b <;> simp
  | cons k a ih => cases b with
    | nil => simp
    | cons l b => simp [ih]
end SD

set_option Elab.async false
set_option linter.all false
set_option autoImplicit false
set_option maxRecDepth 100000
set_option maxHeartbeats 4000000
namespace K
open PySem PySem.Spec PyProof.Rows L2 SD
abbrev M := SD.M
abbrev Slot := SD.Slot
def t_FORMS : List (Str × Str) := [("put", "npk"), ("take", "n"), ("move", "np"), ("count", "nk"), ("name", "nn"), ("split", "nnpk"), ("join", "nn")]
@[simp] theorem lit_1 : Str.ofString "adds" = cs [97, 100, 100, 115] := by decide +kernel
@[simp] theorem lit_2 : Str.ofString "count" = cs [99, 111, 117, 110, 116] := by decide +kernel
@[simp] theorem lit_3 : Str.ofString "join" = cs [106, 111, 105, 110] := by decide +kernel
@[simp] theorem lit_4 : Str.ofString "more" = cs [109, 111, 114, 101] := by decide +kernel
@[simp] theorem lit_5 : Str.ofString "move" = cs [109, 111, 118, 101] := by decide +kernel
@[simp] theorem lit_6 : Str.ofString "moves" = cs [109, 111, 118, 101, 115] := by decide +kernel
@[simp] theorem lit_7 : Str.ofString "n" = cs [110] := by decide +kernel
@[simp] theorem lit_8 : Str.ofString "name" = cs [110, 97, 109, 101] := by decide +kernel
@[simp] theorem lit_9 : Str.ofString "nk" = cs [110, 107] := by decide +kernel
@[simp] theorem lit_10 : Str.ofString "nn" = cs [110, 110] := by decide +kernel
@[simp] theorem lit_11 : Str.ofString "nnpk" = cs [110, 110, 112, 107] := by decide +kernel
@[simp] theorem lit_12 : Str.ofString "np" = cs [110, 112] := by decide +kernel
@[simp] theorem lit_13 : Str.ofString "npk" = cs [110, 112, 107] := by decide +kernel
@[simp] theorem lit_14 : Str.ofString "put" = cs [112, 117, 116] := by decide +kernel
@[simp] theorem lit_15 : Str.ofString "split" = cs [115, 112, 108, 105, 116] := by decide +kernel
@[simp] theorem lit_16 : Str.ofString "take" = cs [116, 97, 107, 101] := by decide +kernel
/-! names_in -/
def b_names_in : M Fl := mRet (mSlice (.nm 0) (some (.ex (mC (.int 1)))) (some (.ex (mPrim pAdd [.ex (mC (.int 1)), .ex (mMeth pCount (.ex (mPrim (pTabIx t_FORMS) [.ex (mPrim pIx [.nm 0, .ex (mC (.int 0))])])) [.ex (mC (.str "n"))])]))))
def m_names_in : M Slot := mDef 1 0 [0] b_names_in
/-! only_adds -/
def b_only_adds : M Fl := mRet (mAndV (mPrim pIn [.ex (mPrim pIx [.nm 0, .ex (mC (.int 0))]), .ex (mTup [mC (.str "count"), mC (.str "split"), mC (.str "join")])]) (mPrim pEq [.ex (mPrim pIx [.nm 0, .ex (mC (.int 1))]), .nm 1]))
def m_only_adds : M Slot := mDef 2 0 [0, 1] b_only_adds
/-! only_moves -/
def b_only_moves : M Fl := mRet (mPrim pEq [.ex (mPrim pIx [.nm 0, .ex (mC (.int 0))]), .ex (mC (.str "move"))])
def m_only_moves : M Slot := mDef 1 0 [0] b_only_moves
/-! pass_by -/
@[simp] def b_pass_by_t1 : M Fl := mRet (mAndV (mCall m_only_adds [.nm 1, .nm 2]) (mCall m_only_moves [.nm 0]))
def b_pass_by : M Fl := mSeq (mIf (mTest (mCall m_only_adds [.nm 0, .nm 2])) (mRet (mOrV (mCall m_only_adds [.nm 1, .nm 2]) (mCall m_only_moves [.nm 1]))) (mNext)) (b_pass_by_t1)
def m_pass_by : M Slot := mDef 3 0 [0, 1, 2] b_pass_by
/-! touch -/
def b_touch_c1 : M Bool := mTest (mPrim pIn [.nm 3, .ex (mCall m_names_in [.nm 1])])
def b_touch_e1 : M Slot := mCall m_pass_by [.nm 0, .nm 1, .nm 3]
@[simp] def b_touch_t1 : M Fl := mRet (mNotV (mPrim pAll [.ex (mComp (mIter (mVar 2)) [3] (gNm 3) (mYes) (b_touch_e1))]))
def b_touch : M Fl := mSeq (mSet 2 (mComp (mIter (mCall m_names_in [.nm 0])) [3] (gNm 3) (b_touch_c1) (mVar 3))) (b_touch_t1)
def m_touch : M Slot := mDef 2 2 [0, 1] b_touch
/-! _law_mixed -/
def b_l_mixed : M Fl := mRet (mPrim pMod [.ex (mPrim pMul [.nm 0, .ex (mC (.int 718281828459045235360287471352662497757247093699959574966967))]), .ex (mPrim pPow [.ex (mC (.int 10)), .ex (mC (.int 60))])])
def m_l_mixed : M Slot := mDef 1 0 [0] b_l_mixed
/-! _law_pack -/
@[simp] def b_l_pack_t1 : M Fl := mRet (mLst [mCall m_l_mixed [.ex (mPrim pAdd [.ex (mPrim pMul [.ex (mC (.int 7919)), .nm 1]), .ex (mC (.int 11))])]])
def b_l_pack : M Fl := mSeq (mIf (mTest (mPrim pLt [.nm 1, .ex (mPrim pLen [.nm 0])])) (mRet (mLst [mCall m_l_mixed [.ex (mPrim pAdd [.ex (mPrim pIx [.nm 0, .nm 1]), .ex (mPrim pMul [.ex (mC (.int 31)), .nm 1])])]])) (mNext)) (b_l_pack_t1)
def m_l_pack : M Slot := mDef 2 0 [0, 1] b_l_pack
/-! _law_take -/
@[simp] def b_l_take_t1 : M Fl := mRetV 2
def b_l_take : M Fl := mSeq (mAsg (gTp 2 (gsCons (gIx 0 0) (gsCons (gNm 2) (gsNil)))) (mPrim pDivmod [.ex (mPrim pIx [.nm 0, .ex (mC (.int 0))]), .nm 1])) (b_l_take_t1)
def m_l_take : M Slot := mDef 2 1 [0, 1] b_l_take
/-! _law_names -/
@[simp] def b_l_names_t7 : M Fl := mRet (mComp (mRange1 (mVar 1)) [6] (gNm 6) (mYes) (mPrim pAdd [.ex (mSlice (.nm 2) (some (.ex (mC (.int 3)))) (some (.ex (mPrim pAdd [.ex (mC (.int 3)), .nm 5])))), .ex (mPrim pIx [.nm 2, .nm 6])]))
@[simp] def b_l_names_t6 : M Fl := mSeq (mIf (mTest (mPrim pEq [.nm 4, .ex (mC (.int 1))])) (mRet (mComp (mRange1 (mVar 1)) [6] (gNm 6) (mYes) (mPrim pAdd [.ex (mPrim pIx [.nm 2, .nm 6]), .ex (mSlice (.nm 2) (some (.ex (mC (.int 3)))) (some (.ex (mPrim pAdd [.ex (mC (.int 3)), .nm 5]))))]))) (mNext)) (b_l_names_t7)
@[simp] def b_l_names_t5 : M Fl := mSeq (mIf (mTest (mPrim pEq [.nm 4, .ex (mC (.int 0))])) (mRet (mComp (mRange1 (mVar 1)) [6] (gNm 6) (mYes) (mPrim pMul [.ex (mPrim pIx [.nm 2, .ex (mPrim pDiv [.nm 6, .ex (mC (.int 8))])]), .ex (mPrim pAdd [.ex (mC (.int 1)), .ex (mPrim pMod [.nm 6, .ex (mC (.int 8))])])]))) (mNext)) (b_l_names_t6)
@[simp] def b_l_names_t4 : M Fl := mSeq (mSet 5 (mCall m_l_take [.nm 0, .ex (mC (.int 8))])) (b_l_names_t5)
@[simp] def b_l_names_t3 : M Fl := mSeq (mSet 4 (mCall m_l_take [.nm 0, .ex (mC (.int 3))])) (b_l_names_t4)
@[simp] def b_l_names_t2 : M Fl := mSeq (mSet 2 (mPrim pAdd [.ex (mSlice (.nm 2) (some (.nm 3)) (none)), .ex (mSlice (.nm 2) (none) (some (.nm 3)))])) (b_l_names_t3)
@[simp] def b_l_names_t1 : M Fl := mSeq (mSet 3 (mCall m_l_take [.nm 0, .ex (mC (.int 26))])) (b_l_names_t2)
def b_l_names : M Fl := mSeq (mSet 2 (mC (.str "abcdefghijklmnopqrstuvwxyz"))) (b_l_names_t1)
def m_l_names : M Slot := mDef 2 5 [0, 1] b_l_names
/-! _law_any_deed -/
@[simp] def b_l_any_deed_t11 : M Fl := mRet (mTup [mVar 2, mVar 4, mVar 5])
@[simp] def b_l_any_deed_t10 : M Fl := mSeq (mIf (mTest (mPrim pEq [.nm 2, .ex (mC (.str "split"))])) (mRet (mTup [mC (.str "split"), mVar 4, mVar 5, mVar 6, mVar 7])) (mNext)) (b_l_any_deed_t11)
@[simp] def b_l_any_deed_t9 : M Fl := mSeq (mIf (mTest (mPrim pEq [.nm 2, .ex (mC (.str "count"))])) (mRet (mTup [mC (.str "count"), mVar 4, mVar 7])) (mNext)) (b_l_any_deed_t10)
@[simp] def b_l_any_deed_t8 : M Fl := mSeq (mIf (mTest (mPrim pEq [.nm 2, .ex (mC (.str "move"))])) (mRet (mTup [mC (.str "move"), mVar 4, mVar 6])) (mNext)) (b_l_any_deed_t9)
@[simp] def b_l_any_deed_t7 : M Fl := mSeq (mIf (mTest (mPrim pEq [.nm 2, .ex (mC (.str "take"))])) (mRet (mTup [mC (.str "take"), mVar 4])) (mNext)) (b_l_any_deed_t8)
@[simp] def b_l_any_deed_t6 : M Fl := mSeq (mIf (mTest (mPrim pEq [.nm 2, .ex (mC (.str "put"))])) (mRet (mTup [mC (.str "put"), mVar 4, mVar 6, mVar 7])) (mNext)) (b_l_any_deed_t7)
@[simp] def b_l_any_deed_t5 : M Fl := mSeq (mSet 7 (mPrim pIx [.ex (mLst [mC (.int 0), mC (.int 1), mPrim pNeg [.ex (mC (.int 1))], mPrim pPow [.ex (mC (.int 10)), .ex (mC (.int 12))], mPrim pSub [.ex (mCall m_l_take [.nm 0, .ex (mC (.int 41))]), .ex (mC (.int 20))]]), .ex (mCall m_l_take [.nm 0, .ex (mC (.int 5))])])) (b_l_any_deed_t6)
@[simp] def b_l_any_deed_t4 : M Fl := mSeq (mSet 6 (mPrim pIx [.ex (mLst [mC (.int 0), mC (.int 1), mC (.int 2), mC (.int 999), mC (.int 7)]), .ex (mCall m_l_take [.nm 0, .ex (mC (.int 5))])])) (b_l_any_deed_t5)
@[simp] def b_l_any_deed_t3 : M Fl := mSeq (mSet 5 (mPrim pIx [.nm 1, .ex (mPrim pMod [.ex (mPrim pAdd [.ex (mPrim pAdd [.nm 3, .ex (mC (.int 1))]), .ex (mCall m_l_take [.nm 0, .ex (mPrim pSub [.ex (mPrim pLen [.nm 1]), .ex (mC (.int 1))])])]), .ex (mPrim pLen [.nm 1])])])) (b_l_any_deed_t4)
@[simp] def b_l_any_deed_t2 : M Fl := mSeq (mSet 4 (mPrim pIx [.nm 1, .nm 3])) (b_l_any_deed_t3)
@[simp] def b_l_any_deed_t1 : M Fl := mSeq (mSet 3 (mCall m_l_take [.nm 0, .ex (mPrim pLen [.nm 1])])) (b_l_any_deed_t2)
def b_l_any_deed : M Fl := mSeq (mSet 2 (mPrim pIx [.ex (mLst [mC (.str "put"), mC (.str "take"), mC (.str "move"), mC (.str "count"), mC (.str "name"), mC (.str "split"), mC (.str "join"), mC (.str "count"), mC (.str "move")]), .ex (mCall m_l_take [.nm 0, .ex (mC (.int 9))])])) (b_l_any_deed_t1)
def m_l_any_deed : M Slot := mDef 2 6 [0, 1] b_l_any_deed
/-! _law_named -/
def b_l_named : M Fl := mRet (mPrim pList [.ex (mSlice (.nm 0) (some (.ex (mC (.int 1)))) (some (.ex (mPrim pAdd [.ex (mC (.int 2)), .ex (mPrim pIntA [.ex (mPrim pIn [.ex (mPrim pIx [.nm 0, .ex (mC (.int 0))]), .ex (mLst [mC (.str "name"), mC (.str "split"), mC (.str "join")])])])]))))])
def m_l_named : M Slot := mDef 1 0 [0] b_l_named
/-! _law_role -/
@[simp] def b_l_role_t1 : M Fl := mRet (mPrim pIx [.ex (mLst [mC (.str "more"), mC (.str "adds")]), .ex (mPrim pIntA [.ex (mAndV (mPrim pIn [.ex (mPrim pIx [.nm 0, .ex (mC (.int 0))]), .ex (mLst [mC (.str "count"), mC (.str "split"), mC (.str "join")])]) (mPrim pEq [.ex (mPrim pIx [.nm 0, .ex (mC (.int 1))]), .nm 1]))])])
def b_l_role : M Fl := mSeq (mIf (mTest (mPrim pEq [.ex (mPrim pIx [.nm 0, .ex (mC (.int 0))]), .ex (mC (.str "move"))])) (mRet (mC (.str "moves"))) (mNext)) (b_l_role_t1)
def m_l_role : M Slot := mDef 2 0 [0, 1] b_l_role
/-! _law_touch -/
def b_l_touch_f1 : M Fl := mIf (mTest (mPrim pIn [.nm 2, .ex (mCall m_l_named [.nm 1])])) (mSeq (mSet 3 (mPrim pSorted [.ex (mLst [mCall m_l_role [.nm 0, .nm 2], mCall m_l_role [.nm 1, .nm 2]])])) (mIf (mAnd (mTest (mPrim pNe [.nm 3, .ex (mLst [mC (.str "adds"), mC (.str "adds")])])) (mTest (mPrim pNe [.nm 3, .ex (mLst [mC (.str "adds"), mC (.str "moves")])]))) (mRet (mC (.bool true))) (mNext))) (mNext)
@[simp] def b_l_touch_t1 : M Fl := mRet (mC (.bool false))
def b_l_touch : M Fl := mSeq (mFor (mIter (mCall m_l_named [.nm 0])) (gNm 2) (b_l_touch_f1)) (b_l_touch_t1)
def m_l_touch : M Slot := mDef 2 2 [0, 1] b_l_touch
/-! law -/
def b_law_f1 : M Fl := mIf (mOr (mNot (mTest (mPrim (pIsi .bool) [.nm 8]))) (mTest (mPrim pNe [.nm 8, .nm 7]))) (mRet (mC (.bool false))) (mNext)
@[simp] def b_law_u1_4 : M Fl := mFor (mIter (mLst [mCall m_touch [.nm 5, .nm 6], mCall m_touch [.nm 6, .nm 5]])) (gNm 8) (b_law_f1)
@[simp] def b_law_u1_3 : M Fl := mSeq (mSet 7 (mCall m_l_touch [.nm 5, .nm 6])) (b_law_u1_4)
@[simp] def b_law_u1_2 : M Fl := mSeq (mIf (mTest (mPrim pEq [.ex (mCall m_l_take [.nm 2, .ex (mC (.int 8))]), .ex (mC (.int 0))])) (mSet 6 (mVar 5)) (mNext)) (b_law_u1_3)
@[simp] def b_law_u1_1 : M Fl := mSeq (mSet 6 (mCall m_l_any_deed [.nm 2, .nm 3])) (b_law_u1_2)
def b_law_f2 : M Fl := mSeq (mSet 5 (mCall m_l_any_deed [.nm 2, .nm 3])) (b_law_u1_1)
def b_law_f3 : M Fl := mSeq (mSet 2 (mCall m_l_pack [.nm 0, .nm 1])) (mSeq (mSet 3 (mCall m_l_names [.nm 2, .ex (mPrim pAdd [.ex (mC (.int 2)), .ex (mCall m_l_take [.nm 2, .ex (mC (.int 3))])])])) (mFor (mRange1 (mC (.int 3))) (gNm 4) (b_law_f2)))
@[simp] def b_law_t1 : M Fl := mRet (mC (.bool true))
def b_law : M Fl := mSeq (mFor (mRange1 (mPrim pMax2 [.ex (mC (.int 1)), .ex (mPrim pMin2 [.ex (mPrim pLen [.nm 0]), .ex (mC (.int 24))])])) (gNm 1) (b_law_f3)) (b_law_t1)
def m_law : M Slot := mDef 1 8 [0] b_law
end K

set_option Elab.async false
set_option linter.all false
set_option autoImplicit false
set_option maxRecDepth 100000
set_option maxHeartbeats 4000000
namespace K
open PySem PySem.Spec PyProof.Rows L2 SD
def top (i : Nat) : Stmt := PySem.Challenge.pw_struckdeeds_k23_deeds_that_touch.main.body.getD i (.Pass ⟨0, 0, 0, 0⟩)
structure Gm (K : Fr0) (w : World) (mg : Str → Option Value) : Prop where
  all : mg "all" = none
  bool : mg "bool" = none
  divmod : mg "divmod" = none
  int : mg "int" = none
  isinstance : mg "isinstance" = none
  len : mg "len" = none
  list : mg "list" = none
  max : mg "max" = none
  min : mg "min" = none
  range : mg "range" = none
  sorted : mg "sorted" = none
  t_FORMS : ∃ d, mg "FORMS" = some (.ref d) ∧ TabOk K w d t_FORMS
theorem T_FORMS {X : Cx} (G : Gm X.K X.w X.mg) : Tab X "FORMS" t_FORMS := G.t_FORMS
/-! names_in -/
abbrev s_names_in : Stmt := top 2
theorem sc_names_in : FnScope ["deed"] ["deed"] (defScope s_names_in) := ⟨rfl, rfl, rfl, by decide +kernel, rfl, by decide +kernel, by decide +kernel⟩
theorem w_names_in {X : Cx} {W : WX} {I : ExI} (G : Gm X.K X.w X.mg) (c : Cn X W ["deed"] (defScope s_names_in) (fun _ => true) 0) : CB X W I (fun i => i ∈ ([0] : List Nat)) b_names_in (defBody s_names_in) :=
  (cb_one (cs_ret (ce_slice (c.nm 0 rfl rfl) (cp_some ce_int) (cp_some (ce_bin op_addP ce_int (ce_m1 PySem.F.slot_str_count PySem.F.type_str_count mt_countP (ce_tabIx (T_FORMS G) (c.gl rfl) (ce_ix ix_P (c.nm 0 rfl rfl) ce_int (fun _ _ => rfl)) (fun _ _ => rfl)) ce_str))))))
theorem ok_names_in {P : Program} {w : World} {K : Fr0} {mg : Str → Option Value} {base : Heap} {I : ExI} {f : Addr} {fd : FuncData} (G : Gm K w mg) (F : Fun K "names_in" "names_in" s_names_in f fd) : FnOk P w K mg base (L2.CX P w) 1 f fd ["deed"] (spF K I 1 m_names_in) :=
  def_ok F sc_names_in rfl rfl fun X W e1 e2 e3 e4 e5 c => by subst e1 e2 e3 e4 e5; exact w_names_in G  c
/-! only_adds -/
abbrev s_only_adds : Stmt := top 4
theorem sc_only_adds : FnScope ["deed", "name"] ["deed", "name"] (defScope s_only_adds) := ⟨rfl, rfl, rfl, by decide +kernel, rfl, by decide +kernel, by decide +kernel⟩
theorem w_only_adds {X : Cx} {W : WX} {I : ExI} (G : Gm X.K X.w X.mg) (c : Cn X W ["deed", "name"] (defScope s_only_adds) (fun _ => true) 0) : CB X W I (fun i => i ∈ ([0, 1] : List Nat)) b_only_adds (defBody s_only_adds) :=
  (cb_one (cs_ret (ce_and (ce_cmp (op_inP c.hr) (ce_ix ix_P (c.nm 0 rfl rfl) ce_int (fun _ _ => rfl)) (ce_tup (cvs_cons ce_str (cvs_cons ce_str (cvs_cons ce_str cvs_nil)))) rfl) (ce_one (ce_cmp (op_eqP c.hr) (ce_ix ix_P (c.nm 0 rfl rfl) ce_int (fun _ _ => rfl)) (c.nm 1 rfl rfl) (nomark _))))))
theorem ok_only_adds {P : Program} {w : World} {K : Fr0} {mg : Str → Option Value} {base : Heap} {I : ExI} {f : Addr} {fd : FuncData} (G : Gm K w mg) (F : Fun K "only_adds" "only_adds" s_only_adds f fd) : FnOk P w K mg base (L2.CX P w) 1 f fd ["deed", "name"] (spF K I 2 m_only_adds) :=
  def_ok F sc_only_adds rfl rfl fun X W e1 e2 e3 e4 e5 c => by subst e1 e2 e3 e4 e5; exact w_only_adds G  c
/-! only_moves -/
abbrev s_only_moves : Stmt := top 5
theorem sc_only_moves : FnScope ["deed"] ["deed"] (defScope s_only_moves) := ⟨rfl, rfl, rfl, by decide +kernel, rfl, by decide +kernel, by decide +kernel⟩
theorem w_only_moves {X : Cx} {W : WX} {I : ExI} (G : Gm X.K X.w X.mg) (c : Cn X W ["deed"] (defScope s_only_moves) (fun _ => true) 0) : CB X W I (fun i => i ∈ ([0] : List Nat)) b_only_moves (defBody s_only_moves) :=
  (cb_one (cs_ret (ce_cmp (op_eqP c.hr) (ce_ix ix_P (c.nm 0 rfl rfl) ce_int (fun _ _ => rfl)) ce_str (nomark _))))
theorem ok_only_moves {P : Program} {w : World} {K : Fr0} {mg : Str → Option Value} {base : Heap} {I : ExI} {f : Addr} {fd : FuncData} (G : Gm K w mg) (F : Fun K "only_moves" "only_moves" s_only_moves f fd) : FnOk P w K mg base (L2.CX P w) 1 f fd ["deed"] (spF K I 1 m_only_moves) :=
  def_ok F sc_only_moves rfl rfl fun X W e1 e2 e3 e4 e5 c => by subst e1 e2 e3 e4 e5; exact w_only_moves G  c
/-! pass_by -/
abbrev s_pass_by : Stmt := top 6
theorem sc_pass_by : FnScope ["one", "other", "name"] ["one", "other", "name"] (defScope s_pass_by) := ⟨rfl, rfl, rfl, by decide +kernel, rfl, by decide +kernel, by decide +kernel⟩
theorem w_pass_by {X : Cx} {W : WX} {I : ExI} (G : Gm X.K X.w X.mg) (T_only_adds : FnT X.prog X.w X.K X.mg X.base I "only_adds" 2 1 m_only_adds) (T_only_moves : FnT X.prog X.w X.K X.mg X.base I "only_moves" 1 1 m_only_moves) (c : Cn X W ["one", "other", "name"] (defScope s_pass_by) (fun _ => true) 1) : CB X W I (fun i => i ∈ ([0, 1, 2] : List Nat)) b_pass_by (defBody s_pass_by) :=
  (cb_cons (cs_if (ct_val (ce_call T_only_adds (c.hr.mono (by decide)) c.tk (c.gl rfl) (cas_cons (c.nm 0 rfl rfl) (cas_cons (c.nm 2 rfl rfl) cas_nil)) rfl)) (cb_one (cs_ret (ce_or (ce_call T_only_adds (c.hr.mono (by decide)) c.tk (c.gl rfl) (cas_cons (c.nm 1 rfl rfl) (cas_cons (c.nm 2 rfl rfl) cas_nil)) rfl) (ce_one (ce_call T_only_moves (c.hr.mono (by decide)) c.tk (c.gl rfl) (cas_cons (c.nm 1 rfl rfl) cas_nil) rfl))))) cb_nil)
    (cb_one (cs_ret (ce_and (ce_call T_only_adds (c.hr.mono (by decide)) c.tk (c.gl rfl) (cas_cons (c.nm 1 rfl rfl) (cas_cons (c.nm 2 rfl rfl) cas_nil)) rfl) (ce_one (ce_call T_only_moves (c.hr.mono (by decide)) c.tk (c.gl rfl) (cas_cons (c.nm 0 rfl rfl) cas_nil) rfl))))))
theorem ok_pass_by {P : Program} {w : World} {K : Fr0} {mg : Str → Option Value} {base : Heap} {I : ExI} {f : Addr} {fd : FuncData} (G : Gm K w mg) (T_only_adds : FnT P w K mg base I "only_adds" 2 1 m_only_adds) (T_only_moves : FnT P w K mg base I "only_moves" 1 1 m_only_moves) (F : Fun K "pass_by" "pass_by" s_pass_by f fd) : FnOk P w K mg base (L2.CX P w) 2 f fd ["one", "other", "name"] (spF K I 3 m_pass_by) :=
  def_ok F sc_pass_by rfl rfl fun X W e1 e2 e3 e4 e5 c => by subst e1 e2 e3 e4 e5; exact w_pass_by G T_only_adds T_only_moves c
/-! touch -/
abbrev s_touch : Stmt := top 7
theorem sc_touch : FnScope ["one", "other", "common", "name"] ["one", "other"] (defScope s_touch) := ⟨rfl, rfl, rfl, by decide +kernel, rfl, by decide +kernel, by decide +kernel⟩
theorem w_touch {X : Cx} {W : WX} {I : ExI} (G : Gm X.K X.w X.mg) (T_names_in : FnT X.prog X.w X.K X.mg X.base I "names_in" 1 1 m_names_in) (T_pass_by : FnT X.prog X.w X.K X.mg X.base I "pass_by" 3 2 m_pass_by) (c : Cn X W ["one", "other", "common", "name"] (defScope s_touch) (fun _ => true) 2) : CB X W I (fun i => i ∈ ([0, 1] : List Nat)) b_touch (defBody s_touch) :=
  (cb_cons (cs_setLc (own := [("name", 3)]) c rfl rfl (by simp) (sw_of c rfl rfl rfl rfl) (ci_any (ce_call T_names_in (c.hr.mono (by decide)) c.tk (c.gl rfl) (cas_cons (c.nm 0 rfl rfl) cas_nil) rfl)) (by decide +kernel) (fun _ _ _ _ _ c1 => (cg_name (c1.tgt 3 rfl rfl) (by simp))) (fun _ _ _ _ _ c1 => (cts_one (ct_cmp (op_inP c1.hr) (c1.nm 3 rfl rfl) (ce_call T_names_in (c1.hr.mono (by decide)) c1.tk (c1.gl rfl) (cas_cons (c1.nm 1 rfl rfl) cas_nil) rfl) rfl))) (fun _ _ _ _ _ c1 => (c1.var 3 rfl rfl)))
    (cb_one (cs_ret (ce_not (ce_callB (call_allP c.calm) (c.gl rfl) G.all bt_all (cas_cons (ce_lc (own := [("name", 3)]) c (ci_any (c.var 2 rfl rfl)) (by decide +kernel) (fun _ _ _ _ _ c1 => (cg_name (c1.tgt 3 rfl rfl) (by simp))) (fun _ _ _ _ _ c1 => cts_nil) (fun _ _ _ _ _ c1 => (ce_call T_pass_by (c1.hr.mono (by decide)) c1.tk (c1.gl rfl) (cas_cons (c1.nm 0 rfl rfl) (cas_cons (c1.nm 1 rfl rfl) (cas_cons (c1.nm 3 rfl rfl) cas_nil))) rfl))) cas_nil))))))
theorem ok_touch {P : Program} {w : World} {K : Fr0} {mg : Str → Option Value} {base : Heap} {I : ExI} {f : Addr} {fd : FuncData} (G : Gm K w mg) (T_names_in : FnT P w K mg base I "names_in" 1 1 m_names_in) (T_pass_by : FnT P w K mg base I "pass_by" 3 2 m_pass_by) (F : Fun K "touch" "touch" s_touch f fd) : FnOk P w K mg base (L2.CX P w) 3 f fd ["one", "other"] (spF K I 2 m_touch) :=
  def_ok F sc_touch rfl rfl fun X W e1 e2 e3 e4 e5 c => by subst e1 e2 e3 e4 e5; exact w_touch G T_names_in T_pass_by c
/-! _law_mixed -/
abbrev s_l_mixed : Stmt := top 9
theorem sc_l_mixed : FnScope ["_law_cell"] ["_law_cell"] (defScope s_l_mixed) := ⟨rfl, rfl, rfl, by decide +kernel, rfl, by decide +kernel, by decide +kernel⟩
theorem w_l_mixed {X : Cx} {W : WX} {I : ExI} (G : Gm X.K X.w X.mg) (c : Cn X W ["_law_cell"] (defScope s_l_mixed) (fun _ => true) 0) : CB X W I (fun i => i ∈ ([0] : List Nat)) b_l_mixed (defBody s_l_mixed) :=
  (cb_one (cs_ret (ce_bin op_modP (ce_bin op_mulP (c.nm 0 rfl rfl) ce_int) (ce_bin op_powP ce_int ce_int))))
theorem ok_l_mixed {P : Program} {w : World} {K : Fr0} {mg : Str → Option Value} {base : Heap} {I : ExI} {f : Addr} {fd : FuncData} (G : Gm K w mg) (F : Fun K "_law_mixed" "_law_mixed" s_l_mixed f fd) : FnOk P w K mg base (L2.CX P w) 1 f fd ["_law_cell"] (spF K I 1 m_l_mixed) :=
  def_ok F sc_l_mixed rfl rfl fun X W e1 e2 e3 e4 e5 c => by subst e1 e2 e3 e4 e5; exact w_l_mixed G  c
/-! _law_pack -/
abbrev s_l_pack : Stmt := top 10
theorem sc_l_pack : FnScope ["_law_script", "_law_k"] ["_law_script", "_law_k"] (defScope s_l_pack) := ⟨rfl, rfl, rfl, by decide +kernel, rfl, by decide +kernel, by decide +kernel⟩
theorem w_l_pack {X : Cx} {W : WX} {I : ExI} (G : Gm X.K X.w X.mg) (T_l_mixed : FnT X.prog X.w X.K X.mg X.base I "_law_mixed" 1 1 m_l_mixed) (c : Cn X W ["_law_script", "_law_k"] (defScope s_l_pack) (fun _ => true) 1) : CB X W I (fun i => i ∈ ([0, 1] : List Nat)) b_l_pack (defBody s_l_pack) :=
  (cb_cons (cs_if (ct_cmp (op_ltP c.hr) (c.nm 1 rfl rfl) (ce_callB call_lenP (c.gl rfl) G.len bt_len (cas_cons (c.nm 0 rfl rfl) cas_nil)) (nomark _)) (cb_one (cs_ret (ce_lst (cvs_cons (ce_call T_l_mixed (c.hr.mono (by decide)) c.tk (c.gl rfl) (cas_cons (ce_bin op_addP (ce_ix ix_P (c.nm 0 rfl rfl) (c.nm 1 rfl rfl) (fun _ _ => rfl)) (ce_bin op_mulP ce_int (c.nm 1 rfl rfl))) cas_nil) rfl) cvs_nil)))) cb_nil)
    (cb_one (cs_ret (ce_lst (cvs_cons (ce_call T_l_mixed (c.hr.mono (by decide)) c.tk (c.gl rfl) (cas_cons (ce_bin op_addP (ce_bin op_mulP ce_int (c.nm 1 rfl rfl)) ce_int) cas_nil) rfl) cvs_nil)))))
theorem ok_l_pack {P : Program} {w : World} {K : Fr0} {mg : Str → Option Value} {base : Heap} {I : ExI} {f : Addr} {fd : FuncData} (G : Gm K w mg) (T_l_mixed : FnT P w K mg base I "_law_mixed" 1 1 m_l_mixed) (F : Fun K "_law_pack" "_law_pack" s_l_pack f fd) : FnOk P w K mg base (L2.CX P w) 2 f fd ["_law_script", "_law_k"] (spF K I 2 m_l_pack) :=
  def_ok F sc_l_pack rfl rfl fun X W e1 e2 e3 e4 e5 c => by subst e1 e2 e3 e4 e5; exact w_l_pack G T_l_mixed c
/-! _law_take -/
abbrev s_l_take : Stmt := top 11
theorem sc_l_take : FnScope ["_law_pack_here", "_law_size", "_law_digit"] ["_law_pack_here", "_law_size"] (defScope s_l_take) := ⟨rfl, rfl, rfl, by decide +kernel, rfl, by decide +kernel, by decide +kernel⟩
theorem w_l_take {X : Cx} {W : WX} {I : ExI} (G : Gm X.K X.w X.mg) (c : Cn X W ["_law_pack_here", "_law_size", "_law_digit"] (defScope s_l_take) (fun _ => true) 0) : CB X W I (fun i => i ∈ ([0, 1] : List Nat)) b_l_take (defBody s_l_take) :=
  (cb_cons (cs_asgH (ce_callB call_divmodP (c.gl rfl) G.divmod bt_divmod (cas_cons (ce_ix ix_P (c.nm 0 rfl rfl) ce_int (fun _ _ => rfl)) (cas_cons (c.nm 1 rfl rfl) cas_nil))) (ch_tup c.calm (chs_cons (ch_ix (c.pv 0 rfl rfl) pe_int) (chs_cons (ch_of (cg_name (c.tgt 2 rfl rfl) (by simp))) chs_nil))))
    (cb_one (cs_retV (c.pv 2 rfl rfl))))
theorem ok_l_take {P : Program} {w : World} {K : Fr0} {mg : Str → Option Value} {base : Heap} {I : ExI} {f : Addr} {fd : FuncData} (G : Gm K w mg) (F : Fun K "_law_take" "_law_take" s_l_take f fd) : FnOk P w K mg base (L2.CX P w) 1 f fd ["_law_pack_here", "_law_size"] (spF K I 2 m_l_take) :=
  def_ok F sc_l_take rfl rfl fun X W e1 e2 e3 e4 e5 c => by subst e1 e2 e3 e4 e5; exact w_l_take G  c
/-! _law_names -/
abbrev s_l_names : Stmt := top 12
theorem sc_l_names : FnScope ["_law_pack_here", "_law_amount", "_law_letters", "_law_turn", "_law_pick", "_law_size", "_law_k"] ["_law_pack_here", "_law_amount"] (defScope s_l_names) := ⟨rfl, rfl, rfl, by decide +kernel, rfl, by decide +kernel, by decide +kernel⟩
theorem w_l_names {X : Cx} {W : WX} {I : ExI} (G : Gm X.K X.w X.mg) (T_l_take : FnT X.prog X.w X.K X.mg X.base I "_law_take" 2 1 m_l_take) (c : Cn X W ["_law_pack_here", "_law_amount", "_law_letters", "_law_turn", "_law_pick", "_law_size", "_law_k"] (defScope s_l_names) (fun _ => true) 1) : CB X W I (fun i => i ∈ ([0, 1] : List Nat)) b_l_names (defBody s_l_names) :=
  (cb_cons (cs_set ce_str (by simp) (c.set 2 rfl rfl))
    (cb_cons (cs_set (ce_call T_l_take (c.hr.mono (by decide)) c.tk (c.gl rfl) (cas_cons (c.nm 0 rfl rfl) (cas_cons ce_int cas_nil)) rfl) (by simp) (c.set 3 rfl rfl))
    (cb_cons (cs_set (ce_bin op_addP (ce_slice (c.nm 2 rfl rfl) (cp_some (c.nm 3 rfl rfl)) cp_none) (ce_slice (c.nm 2 rfl rfl) cp_none (cp_some (c.nm 3 rfl rfl)))) (by simp) (c.set 2 rfl rfl))
    (cb_cons (cs_set (ce_call T_l_take (c.hr.mono (by decide)) c.tk (c.gl rfl) (cas_cons (c.nm 0 rfl rfl) (cas_cons ce_int cas_nil)) rfl) (by simp) (c.set 4 rfl rfl))
    (cb_cons (cs_set (ce_call T_l_take (c.hr.mono (by decide)) c.tk (c.gl rfl) (cas_cons (c.nm 0 rfl rfl) (cas_cons ce_int cas_nil)) rfl) (by simp) (c.set 5 rfl rfl))
    (cb_cons (cs_if (ct_cmp (op_eqP c.hr) (c.nm 4 rfl rfl) ce_int (nomark _)) (cb_one (cs_ret (ce_lc (own := [("_law_k", 6)]) c (ci_range1 (c.gl rfl) G.range (c.var 1 rfl rfl)) (by decide +kernel) (fun _ _ _ _ _ c1 => (cg_name (c1.tgt 6 rfl rfl) (by simp))) (fun _ _ _ _ _ c1 => cts_nil) (fun _ _ _ _ _ c1 => (ce_bin op_mulP (ce_ix ix_P (c1.nm 2 rfl rfl) (ce_bin op_divP (c1.nm 6 rfl rfl) ce_int) (fun _ _ => rfl)) (ce_bin op_addP ce_int (ce_bin op_modP (c1.nm 6 rfl rfl) ce_int))))))) cb_nil)
    (cb_cons (cs_if (ct_cmp (op_eqP c.hr) (c.nm 4 rfl rfl) ce_int (nomark _)) (cb_one (cs_ret (ce_lc (own := [("_law_k", 6)]) c (ci_range1 (c.gl rfl) G.range (c.var 1 rfl rfl)) (by decide +kernel) (fun _ _ _ _ _ c1 => (cg_name (c1.tgt 6 rfl rfl) (by simp))) (fun _ _ _ _ _ c1 => cts_nil) (fun _ _ _ _ _ c1 => (ce_bin op_addP (ce_ix ix_P (c1.nm 2 rfl rfl) (c1.nm 6 rfl rfl) (fun _ _ => rfl)) (ce_slice (c1.nm 2 rfl rfl) (cp_some ce_int) (cp_some (ce_bin op_addP ce_int (c1.nm 5 rfl rfl))))))))) cb_nil)
    (cb_one (cs_ret (ce_lc (own := [("_law_k", 6)]) c (ci_range1 (c.gl rfl) G.range (c.var 1 rfl rfl)) (by decide +kernel) (fun _ _ _ _ _ c1 => (cg_name (c1.tgt 6 rfl rfl) (by simp))) (fun _ _ _ _ _ c1 => cts_nil) (fun _ _ _ _ _ c1 => (ce_bin op_addP (ce_slice (c1.nm 2 rfl rfl) (cp_some ce_int) (cp_some (ce_bin op_addP ce_int (c1.nm 5 rfl rfl)))) (ce_ix ix_P (c1.nm 2 rfl rfl) (c1.nm 6 rfl rfl) (fun _ _ => rfl))))))))))))))
theorem ok_l_names {P : Program} {w : World} {K : Fr0} {mg : Str → Option Value} {base : Heap} {I : ExI} {f : Addr} {fd : FuncData} (G : Gm K w mg) (T_l_take : FnT P w K mg base I "_law_take" 2 1 m_l_take) (F : Fun K "_law_names" "_law_names" s_l_names f fd) : FnOk P w K mg base (L2.CX P w) 2 f fd ["_law_pack_here", "_law_amount"] (spF K I 2 m_l_names) :=
  def_ok F sc_l_names rfl rfl fun X W e1 e2 e3 e4 e5 c => by subst e1 e2 e3 e4 e5; exact w_l_names G T_l_take c
/-! _law_any_deed -/
abbrev s_l_any_deed : Stmt := top 13
theorem sc_l_any_deed : FnScope ["_law_pack_here", "_law_names_here", "_law_kind", "_law_at", "_law_one", "_law_other", "_law_place", "_law_number"] ["_law_pack_here", "_law_names_here"] (defScope s_l_any_deed) := ⟨rfl, rfl, rfl, by decide +kernel, rfl, by decide +kernel, by decide +kernel⟩
theorem w_l_any_deed {X : Cx} {W : WX} {I : ExI} (G : Gm X.K X.w X.mg) (T_l_take : FnT X.prog X.w X.K X.mg X.base I "_law_take" 2 1 m_l_take) (c : Cn X W ["_law_pack_here", "_law_names_here", "_law_kind", "_law_at", "_law_one", "_law_other", "_law_place", "_law_number"] (defScope s_l_any_deed) (fun _ => true) 1) : CB X W I (fun i => i ∈ ([0, 1] : List Nat)) b_l_any_deed (defBody s_l_any_deed) :=
  (cb_cons (cs_set (ce_ix ix_P (ce_lst (cvs_cons ce_str (cvs_cons ce_str (cvs_cons ce_str (cvs_cons ce_str (cvs_cons ce_str (cvs_cons ce_str (cvs_cons ce_str (cvs_cons ce_str (cvs_cons ce_str cvs_nil)))))))))) (ce_call T_l_take (c.hr.mono (by decide)) c.tk (c.gl rfl) (cas_cons (c.nm 0 rfl rfl) (cas_cons ce_int cas_nil)) rfl) (fun _ _ => rfl)) (by simp) (c.set 2 rfl rfl))
    (cb_cons (cs_set (ce_call T_l_take (c.hr.mono (by decide)) c.tk (c.gl rfl) (cas_cons (c.nm 0 rfl rfl) (cas_cons (ce_callB call_lenP (c.gl rfl) G.len bt_len (cas_cons (c.nm 1 rfl rfl) cas_nil)) cas_nil)) rfl) (by simp) (c.set 3 rfl rfl))
    (cb_cons (cs_set (ce_ix ix_P (c.nm 1 rfl rfl) (c.nm 3 rfl rfl) (fun _ _ => rfl)) (by simp) (c.set 4 rfl rfl))
    (cb_cons (cs_set (ce_ix ix_P (c.nm 1 rfl rfl) (ce_bin op_modP (ce_bin op_addP (ce_bin op_addP (c.nm 3 rfl rfl) ce_int) (ce_call T_l_take (c.hr.mono (by decide)) c.tk (c.gl rfl) (cas_cons (c.nm 0 rfl rfl) (cas_cons (ce_bin op_subP (ce_callB call_lenP (c.gl rfl) G.len bt_len (cas_cons (c.nm 1 rfl rfl) cas_nil)) ce_int) cas_nil)) rfl)) (ce_callB call_lenP (c.gl rfl) G.len bt_len (cas_cons (c.nm 1 rfl rfl) cas_nil))) (fun _ _ => rfl)) (by simp) (c.set 5 rfl rfl))
    (cb_cons (cs_set (ce_ix ix_P (ce_lst (cvs_cons ce_int (cvs_cons ce_int (cvs_cons ce_int (cvs_cons ce_int (cvs_cons ce_int cvs_nil)))))) (ce_call T_l_take (c.hr.mono (by decide)) c.tk (c.gl rfl) (cas_cons (c.nm 0 rfl rfl) (cas_cons ce_int cas_nil)) rfl) (fun _ _ => rfl)) (by simp) (c.set 6 rfl rfl))
    (cb_cons (cs_set (ce_ix ix_P (ce_lst (cvs_cons ce_int (cvs_cons ce_int (cvs_cons (ce_un un_negP ce_int) (cvs_cons (ce_bin op_powP ce_int ce_int) (cvs_cons (ce_bin op_subP (ce_call T_l_take (c.hr.mono (by decide)) c.tk (c.gl rfl) (cas_cons (c.nm 0 rfl rfl) (cas_cons ce_int cas_nil)) rfl) ce_int) cvs_nil)))))) (ce_call T_l_take (c.hr.mono (by decide)) c.tk (c.gl rfl) (cas_cons (c.nm 0 rfl rfl) (cas_cons ce_int cas_nil)) rfl) (fun _ _ => rfl)) (by simp) (c.set 7 rfl rfl))
    (cb_cons (cs_if (ct_cmp (op_eqP c.hr) (c.nm 2 rfl rfl) ce_str (nomark _)) (cb_one (cs_ret (ce_tup (cvs_cons ce_str (cvs_cons (c.var 4 rfl rfl) (cvs_cons (c.var 6 rfl rfl) (cvs_cons (c.var 7 rfl rfl) cvs_nil))))))) cb_nil)
    (cb_cons (cs_if (ct_cmp (op_eqP c.hr) (c.nm 2 rfl rfl) ce_str (nomark _)) (cb_one (cs_ret (ce_tup (cvs_cons ce_str (cvs_cons (c.var 4 rfl rfl) cvs_nil))))) cb_nil)
    (cb_cons (cs_if (ct_cmp (op_eqP c.hr) (c.nm 2 rfl rfl) ce_str (nomark _)) (cb_one (cs_ret (ce_tup (cvs_cons ce_str (cvs_cons (c.var 4 rfl rfl) (cvs_cons (c.var 6 rfl rfl) cvs_nil)))))) cb_nil)
    (cb_cons (cs_if (ct_cmp (op_eqP c.hr) (c.nm 2 rfl rfl) ce_str (nomark _)) (cb_one (cs_ret (ce_tup (cvs_cons ce_str (cvs_cons (c.var 4 rfl rfl) (cvs_cons (c.var 7 rfl rfl) cvs_nil)))))) cb_nil)
    (cb_cons (cs_if (ct_cmp (op_eqP c.hr) (c.nm 2 rfl rfl) ce_str (nomark _)) (cb_one (cs_ret (ce_tup (cvs_cons ce_str (cvs_cons (c.var 4 rfl rfl) (cvs_cons (c.var 5 rfl rfl) (cvs_cons (c.var 6 rfl rfl) (cvs_cons (c.var 7 rfl rfl) cvs_nil)))))))) cb_nil)
    (cb_one (cs_ret (ce_tup (cvs_cons (c.var 2 rfl rfl) (cvs_cons (c.var 4 rfl rfl) (cvs_cons (c.var 5 rfl rfl) cvs_nil)))))))))))))))))
theorem ok_l_any_deed {P : Program} {w : World} {K : Fr0} {mg : Str → Option Value} {base : Heap} {I : ExI} {f : Addr} {fd : FuncData} (G : Gm K w mg) (T_l_take : FnT P w K mg base I "_law_take" 2 1 m_l_take) (F : Fun K "_law_any_deed" "_law_any_deed" s_l_any_deed f fd) : FnOk P w K mg base (L2.CX P w) 2 f fd ["_law_pack_here", "_law_names_here"] (spF K I 2 m_l_any_deed) :=
  def_ok F sc_l_any_deed rfl rfl fun X W e1 e2 e3 e4 e5 c => by subst e1 e2 e3 e4 e5; exact w_l_any_deed G T_l_take c
/-! _law_named -/
abbrev s_l_named : Stmt := top 14
theorem sc_l_named : FnScope ["_law_deed"] ["_law_deed"] (defScope s_l_named) := ⟨rfl, rfl, rfl, by decide +kernel, rfl, by decide +kernel, by decide +kernel⟩
theorem w_l_named {X : Cx} {W : WX} {I : ExI} (G : Gm X.K X.w X.mg) (c : Cn X W ["_law_deed"] (defScope s_l_named) (fun _ => true) 0) : CB X W I (fun i => i ∈ ([0] : List Nat)) b_l_named (defBody s_l_named) :=
  (cb_one (cs_ret (ce_callTy call_listP (c.gl rfl) G.list bt_list (cas_cons (ce_slice (c.nm 0 rfl rfl) (cp_some ce_int) (cp_some (ce_bin op_addP ce_int (ce_callTy call_intP (c.gl rfl) G.int bt_int (cas_cons (ce_cmp (op_inP c.hr) (ce_ix ix_P (c.nm 0 rfl rfl) ce_int (fun _ _ => rfl)) (ce_lst (cvs_cons ce_str (cvs_cons ce_str (cvs_cons ce_str cvs_nil)))) rfl) cas_nil))))) cas_nil))))
theorem ok_l_named {P : Program} {w : World} {K : Fr0} {mg : Str → Option Value} {base : Heap} {I : ExI} {f : Addr} {fd : FuncData} (G : Gm K w mg) (F : Fun K "_law_named" "_law_named" s_l_named f fd) : FnOk P w K mg base (L2.CX P w) 1 f fd ["_law_deed"] (spF K I 1 m_l_named) :=
  def_ok F sc_l_named rfl rfl fun X W e1 e2 e3 e4 e5 c => by subst e1 e2 e3 e4 e5; exact w_l_named G  c
/-! _law_role -/
abbrev s_l_role : Stmt := top 15
theorem sc_l_role : FnScope ["_law_deed", "_law_name"] ["_law_deed", "_law_name"] (defScope s_l_role) := ⟨rfl, rfl, rfl, by decide +kernel, rfl, by decide +kernel, by decide +kernel⟩
theorem w_l_role {X : Cx} {W : WX} {I : ExI} (G : Gm X.K X.w X.mg) (c : Cn X W ["_law_deed", "_law_name"] (defScope s_l_role) (fun _ => true) 0) : CB X W I (fun i => i ∈ ([0, 1] : List Nat)) b_l_role (defBody s_l_role) :=
  (cb_cons (cs_if (ct_cmp (op_eqP c.hr) (ce_ix ix_P (c.nm 0 rfl rfl) ce_int (fun _ _ => rfl)) ce_str (nomark _)) (cb_one (cs_ret ce_str)) cb_nil)
    (cb_one (cs_ret (ce_ix ix_P (ce_lst (cvs_cons ce_str (cvs_cons ce_str cvs_nil))) (ce_callTy call_intP (c.gl rfl) G.int bt_int (cas_cons (ce_and (ce_cmp (op_inP c.hr) (ce_ix ix_P (c.nm 0 rfl rfl) ce_int (fun _ _ => rfl)) (ce_lst (cvs_cons ce_str (cvs_cons ce_str (cvs_cons ce_str cvs_nil)))) rfl) (ce_one (ce_cmp (op_eqP c.hr) (ce_ix ix_P (c.nm 0 rfl rfl) ce_int (fun _ _ => rfl)) (c.nm 1 rfl rfl) (nomark _)))) cas_nil)) (fun _ _ => rfl)))))
theorem ok_l_role {P : Program} {w : World} {K : Fr0} {mg : Str → Option Value} {base : Heap} {I : ExI} {f : Addr} {fd : FuncData} (G : Gm K w mg) (F : Fun K "_law_role" "_law_role" s_l_role f fd) : FnOk P w K mg base (L2.CX P w) 1 f fd ["_law_deed", "_law_name"] (spF K I 2 m_l_role) :=
  def_ok F sc_l_role rfl rfl fun X W e1 e2 e3 e4 e5 c => by subst e1 e2 e3 e4 e5; exact w_l_role G  c
/-! _law_touch -/
abbrev s_l_touch : Stmt := top 16
theorem sc_l_touch : FnScope ["_law_one", "_law_other", "_law_name", "_law_roles"] ["_law_one", "_law_other"] (defScope s_l_touch) := ⟨rfl, rfl, rfl, by decide +kernel, rfl, by decide +kernel, by decide +kernel⟩
theorem w_l_touch {X : Cx} {W : WX} {I : ExI} (G : Gm X.K X.w X.mg) (T_l_named : FnT X.prog X.w X.K X.mg X.base I "_law_named" 1 1 m_l_named) (T_l_role : FnT X.prog X.w X.K X.mg X.base I "_law_role" 2 1 m_l_role) (c : Cn X W ["_law_one", "_law_other", "_law_name", "_law_roles"] (defScope s_l_touch) (fun _ => true) 1) : CB X W I (fun i => i ∈ ([0, 1] : List Nat)) b_l_touch (defBody s_l_touch) :=
  (cb_cons (cs_for c.po c.calm (ci_any (ce_call T_l_named (c.hr.mono (by decide)) c.tk (c.gl rfl) (cas_cons (c.nm 0 rfl rfl) cas_nil) rfl)) (cg_name (c.tgt 2 rfl rfl) (by simp)) (cb_one (cs_if (ct_cmp (op_inP c.hr) (c.nm 2 rfl rfl) (ce_call T_l_named (c.hr.mono (by decide)) c.tk (c.gl rfl) (cas_cons (c.nm 1 rfl rfl) cas_nil) rfl) rfl) (cb_cons (cs_set (ce_callB (call_sortedP (c.hr.mono (Nat.zero_le _))) (c.gl rfl) G.sorted bt_sorted (cas_cons (ce_lst (cvs_cons (ce_call T_l_role (c.hr.mono (by decide)) c.tk (c.gl rfl) (cas_cons (c.nm 0 rfl rfl) (cas_cons (c.nm 2 rfl rfl) cas_nil)) rfl) (cvs_cons (ce_call T_l_role (c.hr.mono (by decide)) c.tk (c.gl rfl) (cas_cons (c.nm 1 rfl rfl) (cas_cons (c.nm 2 rfl rfl) cas_nil)) rfl) cvs_nil))) cas_nil)) (by simp) (c.set 3 rfl rfl))
    (cb_one (cs_if (CW.ct (cw_and (ct_cmp (op_neP c.hr) (c.nm 3 rfl rfl) (ce_lst (cvs_cons ce_str (cvs_cons ce_str cvs_nil))) (nomark _)) (cw_and1 (ct_cmp (op_neP c.hr) (c.nm 3 rfl rfl) (ce_lst (cvs_cons ce_str (cvs_cons ce_str cvs_nil))) (nomark _))))) (cb_one (cs_ret ce_bool)) cb_nil))) cb_nil)))
    (cb_one (cs_ret ce_bool)))
theorem ok_l_touch {P : Program} {w : World} {K : Fr0} {mg : Str → Option Value} {base : Heap} {I : ExI} {f : Addr} {fd : FuncData} (G : Gm K w mg) (T_l_named : FnT P w K mg base I "_law_named" 1 1 m_l_named) (T_l_role : FnT P w K mg base I "_law_role" 2 1 m_l_role) (F : Fun K "_law_touch" "_law_touch" s_l_touch f fd) : FnOk P w K mg base (L2.CX P w) 2 f fd ["_law_one", "_law_other"] (spF K I 2 m_l_touch) :=
  def_ok F sc_l_touch rfl rfl fun X W e1 e2 e3 e4 e5 c => by subst e1 e2 e3 e4 e5; exact w_l_touch G T_l_named T_l_role c
/-! law -/
abbrev s_law : Stmt := top 17
theorem sc_law : FnScope ["_law_script", "_law_k", "_law_pack_here", "_law_names_here", "_law_turn", "_law_one", "_law_other", "_law_due", "_law_found"] ["_law_script"] (defScope s_law) := ⟨rfl, rfl, rfl, by decide +kernel, rfl, by decide +kernel, by decide +kernel⟩
theorem w_law {X : Cx} {W : WX} {I : ExI} (G : Gm X.K X.w X.mg) (T_l_pack : FnT X.prog X.w X.K X.mg X.base I "_law_pack" 2 2 m_l_pack) (T_l_names : FnT X.prog X.w X.K X.mg X.base I "_law_names" 2 2 m_l_names) (T_l_any_deed : FnT X.prog X.w X.K X.mg X.base I "_law_any_deed" 2 2 m_l_any_deed) (T_l_touch : FnT X.prog X.w X.K X.mg X.base I "_law_touch" 2 2 m_l_touch) (T_l_take : FnT X.prog X.w X.K X.mg X.base I "_law_take" 2 1 m_l_take) (T_touch : FnT X.prog X.w X.K X.mg X.base I "touch" 2 3 m_touch) (c : Cn X W ["_law_script", "_law_k", "_law_pack_here", "_law_names_here", "_law_turn", "_law_one", "_law_other", "_law_due", "_law_found"] (defScope s_law) (fun _ => true) 3) : CB X W I (fun i => i ∈ ([0] : List Nat)) b_law (defBody s_law) :=
  (cb_cons (cs_for c.po c.calm (ci_range1 (c.gl rfl) G.range (ce_callB (call_max2P c.calm) (c.gl rfl) G.max bt_max (cas_cons ce_int (cas_cons (ce_callB (call_min2P c.calm) (c.gl rfl) G.min bt_min (cas_cons (ce_callB call_lenP (c.gl rfl) G.len bt_len (cas_cons (c.nm 0 rfl rfl) cas_nil)) (cas_cons ce_int cas_nil))) cas_nil)))) (cg_name (c.tgt 1 rfl rfl) (by simp)) (cb_cons (cs_set (ce_call T_l_pack (c.hr.mono (by decide)) c.tk (c.gl rfl) (cas_cons (c.nm 0 rfl rfl) (cas_cons (c.nm 1 rfl rfl) cas_nil)) rfl) (by simp) (c.set 2 rfl rfl))
    (cb_cons (cs_set (ce_call T_l_names (c.hr.mono (by decide)) c.tk (c.gl rfl) (cas_cons (c.nm 2 rfl rfl) (cas_cons (ce_bin op_addP ce_int (ce_call T_l_take (c.hr.mono (by decide)) c.tk (c.gl rfl) (cas_cons (c.nm 2 rfl rfl) (cas_cons ce_int cas_nil)) rfl)) cas_nil)) rfl) (by simp) (c.set 3 rfl rfl))
    (cb_one (cs_for c.po c.calm (ci_range1 (c.gl rfl) G.range ce_int) (cg_name (c.tgt 4 rfl rfl) (by simp)) (cb_cons (cs_set (ce_call T_l_any_deed (c.hr.mono (by decide)) c.tk (c.gl rfl) (cas_cons (c.nm 2 rfl rfl) (cas_cons (c.nm 3 rfl rfl) cas_nil)) rfl) (by simp) (c.set 5 rfl rfl))
    (cb_cons (cs_set (ce_call T_l_any_deed (c.hr.mono (by decide)) c.tk (c.gl rfl) (cas_cons (c.nm 2 rfl rfl) (cas_cons (c.nm 3 rfl rfl) cas_nil)) rfl) (by simp) (c.set 6 rfl rfl))
    (cb_cons (cs_if (ct_cmp (op_eqP c.hr) (ce_call T_l_take (c.hr.mono (by decide)) c.tk (c.gl rfl) (cas_cons (c.nm 2 rfl rfl) (cas_cons ce_int cas_nil)) rfl) ce_int (nomark _)) (cb_one (cs_set (c.var 5 rfl rfl) (by simp) (c.set 6 rfl rfl))) cb_nil)
    (cb_cons (cs_set (ce_call T_l_touch (c.hr.mono (by decide)) c.tk (c.gl rfl) (cas_cons (c.nm 5 rfl rfl) (cas_cons (c.nm 6 rfl rfl) cas_nil)) rfl) (by simp) (c.set 7 rfl rfl))
    (cb_one (cs_for c.po c.calm (ci_any (ce_lst (cvs_cons (ce_call T_touch (c.hr.mono (by decide)) c.tk (c.gl rfl) (cas_cons (c.nm 5 rfl rfl) (cas_cons (c.nm 6 rfl rfl) cas_nil)) rfl) (cvs_cons (ce_call T_touch (c.hr.mono (by decide)) c.tk (c.gl rfl) (cas_cons (c.nm 6 rfl rfl) (cas_cons (c.nm 5 rfl rfl) cas_nil)) rfl) cvs_nil)))) (cg_name (c.tgt 8 rfl rfl) (by simp)) (cb_one (cs_if (CW.ct (cw_or (ct_not (ct_val (ce_isi (t := .bool) (c.gl rfl) G.isinstance (c.gl rfl) G.bool bt_bool (c.nm 8 rfl rfl)))) (cw_or1 (ct_cmp (op_neP c.hr) (c.nm 8 rfl rfl) (c.nm 7 rfl rfl) (nomark _))))) (cb_one (cs_ret ce_bool)) cb_nil)))))))))))))
    (cb_one (cs_ret ce_bool)))
theorem ok_law {P : Program} {w : World} {K : Fr0} {mg : Str → Option Value} {base : Heap} {I : ExI} {f : Addr} {fd : FuncData} (G : Gm K w mg) (T_l_pack : FnT P w K mg base I "_law_pack" 2 2 m_l_pack) (T_l_names : FnT P w K mg base I "_law_names" 2 2 m_l_names) (T_l_any_deed : FnT P w K mg base I "_law_any_deed" 2 2 m_l_any_deed) (T_l_touch : FnT P w K mg base I "_law_touch" 2 2 m_l_touch) (T_l_take : FnT P w K mg base I "_law_take" 2 1 m_l_take) (T_touch : FnT P w K mg base I "touch" 2 3 m_touch) (F : Fun K "law" "law" s_law f fd) : FnOk P w K mg base (L2.CX P w) 4 f fd ["_law_script"] (spF K I 1 m_law) :=
  def_ok F sc_law rfl rfl fun X W e1 e2 e3 e4 e5 c => by subst e1 e2 e3 e4 e5; exact w_law G T_l_pack T_l_names T_l_any_deed T_l_touch T_l_take T_touch c
end K

set_option Elab.async false
set_option linter.all false
set_option autoImplicit false
set_option maxRecDepth 100000
set_option maxHeartbeats 1000000
namespace K
open PySem PySem.Spec PyProof.Rows L2 SD
/-! ### deeds -/
abbrev Nm := List Nat
/-- a deed that is well made -/
inductive Dd where
  | put (n : Nm) (p k : Int)
  | take (n : Nm)
  | move (n : Nm) (p : Int)
  | count (n : Nm) (k : Int)
  | name (n m : Nm)
  | split (n m : Nm) (p k : Int)
  | join (n m : Nm)
def tx (n : Nm) : D := .str (cs n)
def kput : Nm := [112, 117, 116]
def ktake : Nm := [116, 97, 107, 101]
def kmove : Nm := [109, 111, 118, 101]
def kcount : Nm := [99, 111, 117, 110, 116]
def kname : Nm := [110, 97, 109, 101]
def ksplit : Nm := [115, 112, 108, 105, 116]
def kjoin : Nm := [106, 111, 105, 110]
def Dd.ds : Dd → List D
  | .put n p k => [tx kput, tx n, .int p, .int k]
  | .take n => [tx ktake, tx n]
  | .move n p => [tx kmove, tx n, .int p]
  | .count n k => [tx kcount, tx n, .int k]
  | .name n m => [tx kname, tx n, tx m]
  | .split n m p k => [tx ksplit, tx n, tx m, .int p, .int k]
  | .join n m => [tx kjoin, tx n, tx m]
def Dd.d (d : Dd) : D := .tuple d.ds
/-- the names a deed speaks of -/
def Dd.nms : Dd → List Nm
  | .put n _ _ => [n]
  | .take n => [n]
  | .move n _ => [n]
  | .count n _ => [n]
  | .name n m => [n, m]
  | .split n m _ _ => [n, m]
  | .join n m => [n, m]
theorem names_in_eq (d : Dd) : m_names_in [.val d.d] = .ok (.val (.tuple (txs d.nms))) [.val d.d] := by
  have c1 : Txt.count (cs [110, 112, 107]) (cs [110]) = 1 := by decide +kernel
  have c2 : Txt.count (cs [110]) (cs [110]) = 1 := by decide +kernel
  have c3 : Txt.count (cs [110, 112]) (cs [110]) = 1 := by decide +kernel
  have c4 : Txt.count (cs [110, 107]) (cs [110]) = 1 := by decide +kernel
  have c5 : Txt.count (cs [110, 110]) (cs [110]) = 2 := by decide +kernel
  have c6 : Txt.count (cs [110, 110, 112, 107]) (cs [110]) = 2 := by decide +kernel
  cases d <;> simp [Dd.d, Dd.ds, Dd.nms, m_names_in, b_names_in, tx, t_FORMS, List.lookup, pCount, kput, ktake, kmove, kcount, kname, ksplit, kjoin, c1, c2, c3, c4, c5, c6]
theorem nms_len (d : Dd) : d.nms.length ≤ 2 := by cases d <;> simp [Dd.nms]
/-- the deed adds to the count of n -/
def Dd.adds (d : Dd) (n : Nm) : Bool := match d with
  | .count m _ => decide (m = n)
  | .split m _ _ _ => decide (m = n)
  | .join m _ => decide (m = n)
  | _ => false
def Dd.moves : Dd → Bool
  | .move _ _ => true
  | _ => false
theorem only_adds_eq (d : Dd) (n : Nm) : m_only_adds [.val d.d, .val (.str (cs n))] = .ok (.val (.bool (d.adds n))) [.val d.d, .val (.str (cs n))] := by
  cases d <;> simp [Dd.d, Dd.ds, Dd.adds, m_only_adds, b_only_adds, tx, kput, ktake, kmove, kcount, kname, ksplit, kjoin, p_eq]
theorem only_moves_eq (d : Dd) : m_only_moves [.val d.d] = .ok (.val (.bool d.moves)) [.val d.d] := by
  cases d <;> simp [Dd.d, Dd.ds, Dd.moves, m_only_moves, b_only_moves, tx, kput, ktake, kmove, kcount, kname, ksplit, kjoin, p_eq]
def passB (a b : Dd) (n : Nm) : Bool := if a.adds n then (b.adds n || b.moves) else (b.adds n && a.moves)
theorem pass_by_eq (a b : Dd) (n : Nm) : m_pass_by [.val a.d, .val b.d, .val (.str (cs n))] = .ok (.val (.bool (passB a b n))) [.val a.d, .val b.d, .val (.str (cs n))] := by
  unfold passB
  cases h1 : a.adds n <;> cases h2 : b.adds n <;> simp [m_pass_by, b_pass_by, only_adds_eq, only_moves_eq, h1, h2]
def touchB (a b : Dd) : Bool := !((a.nms.filter fun n => decide (n ∈ b.nms)).all (passB a b))
theorem d_plain (d : Dd) : PyData.plain d.d = true := by cases d <;> simp [Dd.d, Dd.ds, tx]
theorem touch_eq (a b : Dd) : m_touch [.val a.d, .val b.d] = .ok (.val (.bool (touchB a b))) [.val a.d, .val b.d] := by
  have hl := nms_len a
  simp [m_touch, b_touch, names_in_eq]
  rw [comp_txs (fun k => decide (k ∈ b.nms)) id (fun k hk => ⟨by simp [b_touch_c1, names_in_eq], fun _ => ⟨.val (.str (cs k)), by simp, rfl⟩⟩) (by omega)]
  simp
  rw [comp_txsD (fun k => .bool (passB a b k)) (fun k hk => ⟨.val (.bool (passB a b k)), by simp [b_touch_e1, pass_by_eq], rfl⟩) (Nat.le_trans (List.length_filter_le _ _) (by omega))]
  simp [touchB]
end K

set_option Elab.async false
set_option linter.all false
set_option autoImplicit false
set_option maxRecDepth 100000
set_option maxHeartbeats 1000000
namespace K
open PySem PySem.Spec PyProof.Rows L2 SD
/-! ### the pack that draws -/
theorem take_ex (x n : Int) (hn : 0 < n) (hw : n < 18446744073709551616) : m_l_take [.lst [.int x], .val (.int n)] = .ok (.val (.int (x % n))) [.lst [.int (x / n)], .val (.int n)] ∧ 0 ≤ x % n ∧ x % n < n := by
  refine ⟨?_, Int.emod_nonneg _ (by omega), Int.emod_lt_of_pos _ hn⟩
  simp [m_l_take, b_l_take, hn, goes_no hn hw, ixN]
theorem mixed_eq (x : Int) {B : Nat} (hB : B ≤ 100000000) (h : Builtin.Int.intBits x ≤ B) : ∃ y, m_l_mixed [.val (.int x)] = .ok (.val (.int y)) [.val (.int x)] := by
  have c : CMulA x 718281828459045235360287471352662497757247093699959574966967 := by
    unfold CMulA
    have : Builtin.Int.intBits 718281828459045235360287471352662497757247093699959574966967 ≤ 200 := bits_lt (by decide)
    omega
  refine ⟨x * 718281828459045235360287471352662497757247093699959574966967 % 10 ^ 60, ?_⟩
  simp [m_l_mixed, b_l_mixed, c]
theorem pack_hi (d : List D) (κ y : Int) (h : ¬ κ < d.length) (e2 : m_l_mixed [.val (.int (7919 * κ + 11))] = .ok (.val (.int y)) [.val (.int (7919 * κ + 11))]) : m_l_pack [.val (.list d), .val (.int κ)] = .ok (.lst [.int y]) [.val (.list d), .val (.int κ)] := by
  simp [m_l_pack, b_l_pack, h, e2, cmul_l]
theorem pack_lo (d : List D) (κ y z : Int) (h : κ < d.length) (e : atI d κ = some (.int z)) (e2 : m_l_mixed [.val (.int (z + 31 * κ))] = .ok (.val (.int y)) [.val (.int (z + 31 * κ))]) : m_l_pack [.val (.list d), .val (.int κ)] = .ok (.lst [.int y]) [.val (.list d), .val (.int κ)] := by
  simp [m_l_pack, b_l_pack, h, e, e2, cmul_l]
theorem pack_ex (ns : List Int) {B : Nat} (h64 : 64 ≤ B) (hB : B + 1 ≤ 100000000) (hb : ∀ z ∈ ns, Builtin.Int.intBits z ≤ B) (k : Nat) (hk : k < 1000) : ∃ x, m_l_pack [.val (.list (ns.map PyData.int)), .val (.int k)] = .ok (.lst [.int x]) [.val (.list (ns.map PyData.int)), .val (.int k)] := by
  by_cases h : k < ns.length
  · have e : atI (ns.map PyData.int) (k : Int) = some (.int ns[k]) := at_map h
    obtain ⟨y, e2⟩ := mixed_eq (ns[k] + 31 * k) hB (SD.bits_add (hb _ (List.getElem_mem h)) (Nat.le_trans (bits_small (i := 31 * (k : Int)) (by omega)) h64))
    exact ⟨y, pack_lo _ _ _ _ (by simpa using h) e e2⟩
  · obtain ⟨y, e2⟩ := mixed_eq (7919 * k + 11) (B := 64) (by omega) (bits_small (by omega))
    exact ⟨y, pack_hi _ _ _ (by simpa using h) e2⟩
theorem names_ex (x : Int) (μ : Int) (hm : 0 ≤ μ ∧ μ ≤ 8) : ∃ ks x', m_l_names [.lst [.int x], .val (.int μ)] = .ok (.lst (txs ks)) [.lst [.int x'], .val (.int μ)] ∧ ks.length = μ.toNat := by
  obtain ⟨e1, a1, a2⟩ := take_ex x 26 (by decide) (by decide)
  obtain ⟨e2, b1, b2⟩ := take_ex (x / 26) 3 (by decide) (by decide)
  obtain ⟨e3, c1, c2⟩ := take_ex (x / 26 / 3) 8 (by decide) (by decide)
  generalize x % 26 = t at e1 a1 a2
  generalize x / 26 % 3 = p at e2 b1 b2
  generalize x / 26 / 3 % 8 = z at e3 c1 c2
  generalize x / 26 = x1 at e1 e2 e3
  generalize x1 / 3 = x2 at e2 e3
  generalize x2 / 8 = x3 at e3
  have sl : ∃ L1 L2 : List Nat, pSl (some t) none (.str (cs az)) = some (.val (.str (cs L1))) ∧ pSl none (some t) (.str (cs az)) = some (.val (.str (cs L2))) ∧ (L1 ++ L2).length = 26 ∧ L1.length + L2.length ≤ 16777216 := by
    obtain ⟨n, rfl⟩ := Int.eq_ofNat_of_zero_le a1
    exact ⟨_, _, p_slSlo n (by simp), p_slS n (by simp), by simp; omega, by simp; omega⟩
  obtain ⟨L1, L2, s1, s2, hl, hw⟩ := sl
  generalize hal : L1 ++ L2 = al at hl
  have al26 : al.length ≤ 16777216 := by omega
  have sz : ∃ L3 : List Nat, pSl (some 3) (some (3 + z)) (.str (cs al)) = some (.val (.str (cs L3))) ∧ L3.length + 1 ≤ 16777216 ∧ 1 + L3.length ≤ 16777216 := by
    obtain ⟨n, rfl⟩ := Int.eq_ofNat_of_zero_le c1
    exact ⟨_, p_slSb (l := al) 3 (3 + n) al26, by simp; omega, by simp; omega⟩
  obtain ⟨L3, s3, w3, w4⟩ := sz
  have rm : -4611686018427387904 ≤ μ ∧ μ < 4611686018427387904 := by omega
  have lr : (List.range μ.toNat).length ≤ 16777216 := by simp; omega
  have el : ∀ i : Nat, i < 26 → ∃ c, pIx [.str (cs al), .int (i : Int)] = some (.val (.str (cs [c]))) := fun i hi => ⟨_, p_ixG (by omega) al26⟩
  have pick : ∀ (F : Nat → Nm), ((List.range μ.toNat).map F).length = μ.toNat := fun F => by simp
  obtain rfl | rfl | rfl : p = 0 ∨ p = 1 ∨ p = 2 := by omega
  · have e : ∀ i : Nat, ∃ l : Nm, i < μ.toNat → (mPrim pMul [.ex (mPrim pIx [.nm 2, .ex (mPrim pDiv [.nm 6, .ex (mC (.int 8))])]), .ex (mPrim pAdd [.ex (mC (.int 1)), .ex (mPrim pMod [.nm 6, .ex (mC (.int 8))])])])
        [.lst [.int x3], .val (.int μ), .val (.str (cs al)), .val (.int t), .val (.int 0), .val (.int z), .val (.int (i : Nat))] = .ok (.val (.str (cs l))) [.lst [.int x3], .val (.int μ), .val (.str (cs al)), .val (.int t), .val (.int 0), .val (.int z), .val (.int (i : Nat))] := fun i => by
      by_cases hi : i < μ.toNat
      · obtain ⟨c, h1⟩ := el (i / 8) (by omega)
        have h2 := mul_one' c (1 + i % 8)
        have e8 : ((i / 8 : Nat) : Int) = (i : Int) / 8 := by omega
        have e9 : ((1 + i % 8 : Nat) : Int) = 1 + (i : Int) % 8 := by omega
        have h3 : -4096 ≤ 1 + (i : Int) % 8 ∧ 1 + (i : Int) % 8 ≤ 4096 := by omega
        rw [e8] at h1
        rw [e9] at h2
        generalize List.replicate (1 + i % 8) c = L at h2
        refine ⟨L, fun _ => ?_⟩
        generalize (i : Int) = ι at h1 h2 h3
        have h4 : CDivW ι 8 := cdivW (by decide) (by decide)
        simp [al26] at h1
        simp [al26, h1, h2, h3, h4]
      · exact ⟨[], fun h => absurd h hi⟩
    refine ⟨(List.range μ.toNat).map fun i => (e i).choose, x3, ?_, by simp⟩
    simp [m_l_names, b_l_names, e1, e2, e3, s1, s2, hw, hal, p_eq, rm]
    rw [comp1Y _ (fun i => .str (cs (e i).choose)) (fun i hi => ⟨.val (.str (cs (e i).choose)), (e i).choose_spec (List.mem_range.mp hi), rfl⟩) lr]
    simp [txs]
  · have e : ∀ i : Nat, ∃ l : Nm, i < μ.toNat → (mPrim pAdd [.ex (mPrim pIx [.nm 2, .nm 6]), .ex (mSlice (.nm 2) (some (.ex (mC (.int 3)))) (some (.ex (mPrim pAdd [.ex (mC (.int 3)), .nm 5]))))])
        [.lst [.int x3], .val (.int μ), .val (.str (cs al)), .val (.int t), .val (.int 1), .val (.int z), .val (.int (i : Nat))] = .ok (.val (.str (cs l))) [.lst [.int x3], .val (.int μ), .val (.str (cs al)), .val (.int t), .val (.int 1), .val (.int z), .val (.int (i : Nat))] := fun i => by
      by_cases hi : i < μ.toNat
      · obtain ⟨c, h1⟩ := el i (by omega)
        refine ⟨c :: L3, fun _ => ?_⟩
        generalize (i : Int) = ι at h1
        simp [al26] at h1
        simp [al26, h1, s3, w4]
      · exact ⟨[], fun h => absurd h hi⟩
    refine ⟨(List.range μ.toNat).map fun i => (e i).choose, x3, ?_, by simp⟩
    simp [m_l_names, b_l_names, e1, e2, e3, s1, s2, hw, hal, p_eq, rm]
    rw [comp1Y _ (fun i => .str (cs (e i).choose)) (fun i hi => ⟨.val (.str (cs (e i).choose)), (e i).choose_spec (List.mem_range.mp hi), rfl⟩) lr]
    simp [txs]
  · have e : ∀ i : Nat, ∃ l : Nm, i < μ.toNat → (mPrim pAdd [.ex (mSlice (.nm 2) (some (.ex (mC (.int 3)))) (some (.ex (mPrim pAdd [.ex (mC (.int 3)), .nm 5])))), .ex (mPrim pIx [.nm 2, .nm 6])])
        [.lst [.int x3], .val (.int μ), .val (.str (cs al)), .val (.int t), .val (.int 2), .val (.int z), .val (.int (i : Nat))] = .ok (.val (.str (cs l))) [.lst [.int x3], .val (.int μ), .val (.str (cs al)), .val (.int t), .val (.int 2), .val (.int z), .val (.int (i : Nat))] := fun i => by
      by_cases hi : i < μ.toNat
      · obtain ⟨c, h1⟩ := el i (by omega)
        refine ⟨L3 ++ [c], fun _ => ?_⟩
        generalize (i : Int) = ι at h1
        simp [al26] at h1
        simp [al26, h1, s3, w3]
      · exact ⟨[], fun h => absurd h hi⟩
    refine ⟨(List.range μ.toNat).map fun i => (e i).choose, x3, ?_, by simp⟩
    simp [m_l_names, b_l_names, e1, e2, e3, s1, s2, hw, hal, p_eq, rm]
    rw [comp1Y _ (fun i => .str (cs (e i).choose)) (fun i hi => ⟨.val (.str (cs (e i).choose)), (e i).choose_spec (List.mem_range.mp hi), rfl⟩) lr]
    simp [txs]
end K

set_option Elab.async false
set_option linter.all false
set_option autoImplicit false
set_option maxRecDepth 100000
set_option maxHeartbeats 1000000
namespace K
open PySem PySem.Spec PyProof.Rows L2 SD
theorem ix_txs {ks : List Nm} {i : Int} (h0 : 0 ≤ i) (h1 : i < ks.length) : ∃ k, atI (txs ks) i = some (.str (cs k)) := by
  obtain ⟨n, rfl⟩ := Int.eq_ofNat_of_zero_le h0
  exact ⟨_, at_txs (by omega)⟩
theorem ix_ints {L : List Int} {i : Int} (h0 : 0 ≤ i) (h1 : i < L.length) : ∃ k, atI (L.map PyData.int) i = some (.int k) := by
  obtain ⟨n, rfl⟩ := Int.eq_ofNat_of_zero_le h0
  exact ⟨_, at_map (by omega)⟩
theorem any_deed_ex (x : Int) (ks : List Nm) (h2 : 2 ≤ ks.length) (h8 : ks.length ≤ 8) : ∃ (d : Dd) (x' : Int), m_l_any_deed [.lst [.int x], .lst (txs ks)] = .ok (.val d.d) [.lst [.int x'], .lst (txs ks)] := by
  have eL : pLen [.list (txs ks)] = some (.val (.int (ks.length : Int))) := by simp
  have ix : ∀ i : Int, 0 ≤ i → i < ks.length → ∃ k, atI (txs ks) i = some (.str (cs k)) := fun i a b => ix_txs a b
  have n2 : (2 : Int) ≤ ks.length := by omega
  have n8 : (ks.length : Int) ≤ 8 := by omega
  generalize (ks.length : Int) = ν at eL ix n2 n8
  obtain ⟨e1, a1, a2⟩ := take_ex x 9 (by decide) (by decide)
  obtain ⟨e2, b1, b2⟩ := take_ex (x / 9) ν (by omega) (by omega)
  obtain ⟨e3, c1, c2⟩ := take_ex (x / 9 / ν) (ν - 1) (by omega) (by omega)
  obtain ⟨e4, d1, d2⟩ := take_ex (x / 9 / ν / (ν - 1)) 5 (by decide) (by decide)
  obtain ⟨e5, f1, f2⟩ := take_ex (x / 9 / ν / (ν - 1) / 5) 41 (by decide) (by decide)
  obtain ⟨e6, g1, g2⟩ := take_ex (x / 9 / ν / (ν - 1) / 5 / 41) 5 (by decide) (by decide)
  generalize x % 9 = i1 at e1 a1 a2
  generalize x / 9 % ν = i2 at e2 b1 b2
  generalize x / 9 / ν % (ν - 1) = i3 at e3 c1 c2
  generalize x / 9 / ν / (ν - 1) % 5 = i4 at e4 d1 d2
  generalize x / 9 / ν / (ν - 1) / 5 % 41 = i5 at e5 f1 f2
  generalize x / 9 / ν / (ν - 1) / 5 / 41 % 5 = i6 at e6 g1 g2
  generalize x / 9 / ν / (ν - 1) / 5 / 41 / 5 = x6 at e6
  generalize x / 9 / ν / (ν - 1) / 5 / 41 = x5 at e5 e6
  generalize x / 9 / ν / (ν - 1) / 5 = x4 at e4 e5
  generalize x / 9 / ν / (ν - 1) = x3 at e3 e4
  generalize x / 9 / ν = x2 at e2 e3
  generalize x / 9 = x1 at e1 e2
  obtain ⟨k1, q1⟩ := ix i2 b1 b2
  have hν : 0 < ν := by omega
  obtain ⟨k2, q2⟩ := ix ((i2 + 1 + i3) % ν) (Int.emod_nonneg _ (by omega)) (Int.emod_lt_of_pos _ hν)
  obtain ⟨pl, q3⟩ := ix_ints (L := [0, 1, 2, 999, 7]) (i := i4) d1 d2
  obtain ⟨nu, q4⟩ := ix_ints (L := [0, 1, -1, 1000000000000, i5 - 20]) (i := i6) g1 g2
  simp only [List.map_cons, List.map_nil] at q3 q4
  have run : ∀ kw : Nm, atI [PyData.str (cs kput), .str (cs ktake), .str (cs kmove), .str (cs kcount), .str (cs kname), .str (cs ksplit), .str (cs kjoin), .str (cs kcount), .str (cs kmove)] i1 = some (.str (cs kw)) →
      m_l_any_deed [.lst [.int x], .lst (txs ks)] = defK [0, 1] 2 (b_l_any_deed_t6 [.lst [.int x6], .lst (txs ks), .val (.str (cs kw)), .val (.int i2), .val (.str (cs k1)), .val (.str (cs k2)), .val (.int pl), .val (.int nu)]) := fun kw hk => by
    simp only [kput, ktake, kmove, kcount, kname, ksplit, kjoin] at hk
    simp [-b_l_any_deed_t6, -p_lenL, m_l_any_deed, b_l_any_deed, e1, e2, e3, e4, e5, e6, eL, q1, q2, q3, q4, hk, hν]
  obtain rfl | rfl | rfl | rfl | rfl | rfl | rfl | rfl | rfl : i1 = 0 ∨ i1 = 1 ∨ i1 = 2 ∨ i1 = 3 ∨ i1 = 4 ∨ i1 = 5 ∨ i1 = 6 ∨ i1 = 7 ∨ i1 = 8 := by omega
  · exact ⟨.put k1 pl nu, x6, by rw [run kput rfl]; simp [kput, p_eq, Dd.d, Dd.ds, tx]⟩
  · exact ⟨.take k1, x6, by rw [run ktake rfl]; simp [ktake, p_eq, Dd.d, Dd.ds, tx]⟩
  · exact ⟨.move k1 pl, x6, by rw [run kmove rfl]; simp [kmove, p_eq, Dd.d, Dd.ds, tx]⟩
  · exact ⟨.count k1 nu, x6, by rw [run kcount rfl]; simp [kcount, p_eq, Dd.d, Dd.ds, tx]⟩
  · exact ⟨.name k1 k2, x6, by rw [run kname rfl]; simp [kname, p_eq, Dd.d, Dd.ds, tx]⟩
  · exact ⟨.split k1 k2 pl nu, x6, by rw [run ksplit rfl]; simp [ksplit, p_eq, Dd.d, Dd.ds, tx]⟩
  · exact ⟨.join k1 k2, x6, by rw [run kjoin rfl]; simp [kjoin, p_eq, Dd.d, Dd.ds, tx]⟩
  · exact ⟨.count k1 nu, x6, by rw [run kcount rfl]; simp [kcount, p_eq, Dd.d, Dd.ds, tx]⟩
  · exact ⟨.move k1 pl, x6, by rw [run kmove rfl]; simp [kmove, p_eq, Dd.d, Dd.ds, tx]⟩
end K

set_option Elab.async false
set_option linter.all false
set_option autoImplicit false
set_option maxRecDepth 100000
set_option maxHeartbeats 1000000
namespace K
open PySem PySem.Spec PyProof.Rows L2 SD
/-- a loop that may end by a return -/
theorem for_any {α : Type} {g : Tg} {body : M Fl} {s : Slot} (P : En → Prop) (T : α → D) (bad : α → Bool) : ∀ (L : List α) (ρ : En), P ρ → (∀ a ∈ L, ∀ ρ, P ρ → ∃ ρ1 ρ2, g (T a) ρ = some ρ1 ∧ P ρ2 ∧ body ρ1 = (if bad a then .ok (.ret s) ρ2 else .ok .next ρ2)) →
    ∃ ρ', P ρ' ∧ forL g body (L.map T) ρ = (if L.any bad then .ok (.ret s) ρ' else .ok .next ρ')
  | [], ρ, p, _ => ⟨ρ, p, rfl⟩
  | a :: L, ρ, p, h => by
    obtain ⟨ρ1, ρ2, e1, p2, e2⟩ := h a List.mem_cons_self ρ p
    rw [List.map_cons, ev_forL1, e1]
    cases hb : bad a with
    | true => exact ⟨ρ2, p2, by simp [e2, hb]⟩
    | false =>
      obtain ⟨ρ', p', e⟩ := for_any P T bad L ρ2 p2 fun a' ha => h a' (List.mem_cons_of_mem _ ha)
      exact ⟨ρ', p', by simp [e2, hb, e]⟩
theorem named_eq (d : Dd) : m_l_named [.val d.d] = .ok (.lst (txs d.nms)) [.val d.d] := by
  cases d <;> simp [Dd.d, Dd.ds, Dd.nms, m_l_named, b_l_named, tx, kput, ktake, kmove, kcount, kname, ksplit, kjoin]
def radds : Nm := [97, 100, 100, 115]
def rmoves : Nm := [109, 111, 118, 101, 115]
def rmore : Nm := [109, 111, 114, 101]
def roleT (d : Dd) (n : Nm) : Nm := if d.moves then rmoves else if d.adds n then radds else rmore
theorem role_eq (d : Dd) (n : Nm) : m_l_role [.val d.d, .val (.str (cs n))] = .ok (.val (.str (cs (roleT d n)))) [.val d.d, .val (.str (cs n))] := by
  cases d with
  | put a b c => simp [Dd.d, Dd.ds, roleT, Dd.moves, Dd.adds, m_l_role, b_l_role, tx, p_eq, kput, rmore]
  | take a => simp [Dd.d, Dd.ds, roleT, Dd.moves, Dd.adds, m_l_role, b_l_role, tx, p_eq, ktake, rmore]
  | move a b => simp [Dd.d, Dd.ds, roleT, Dd.moves, Dd.adds, m_l_role, b_l_role, tx, p_eq, kmove, rmoves]
  | count a b => by_cases h : a = n <;> simp [Dd.d, Dd.ds, roleT, Dd.moves, Dd.adds, m_l_role, b_l_role, tx, p_eq, kcount, rmore, radds, h]
  | name a b => simp [Dd.d, Dd.ds, roleT, Dd.moves, Dd.adds, m_l_role, b_l_role, tx, p_eq, kname, rmore]
  | split a b c e => by_cases h : a = n <;> simp [Dd.d, Dd.ds, roleT, Dd.moves, Dd.adds, m_l_role, b_l_role, tx, p_eq, ksplit, rmore, radds, h]
  | join a b => by_cases h : a = n <;> simp [Dd.d, Dd.ds, roleT, Dd.moves, Dd.adds, m_l_role, b_l_role, tx, p_eq, kjoin, rmore, radds, h]
def badN (a b : Dd) (n : Nm) : Bool := decide (n ∈ b.nms) && !passB a b n
theorem moves_adds {d : Dd} (h : d.moves = true) (n : Nm) : d.adds n = false := by cases d <;> simp_all [Dd.moves, Dd.adds]
theorem srt (a b : Nm) : sortD [.str (cs a), .str (cs b)] = if b < a then [.str (cs b), .str (cs a)] else [.str (cs a), .str (cs b)] := by
  rw [sort2, W.dataLt_str, cs_list, cs_list]
  simp
theorem sok (a b : Nm) : sortOk [.str (cs a), .str (cs b)] = true := by
  simp [sortOk, W.alike, oneOk]
theorem f1_eq (a b : Dd) (n : Nm) (s : Slot) : ∃ s', b_l_touch_f1 [.val a.d, .val b.d, .val (.str (cs n)), s] = (if badN a b n then .ok (.ret (.val (.bool true))) [.val a.d, .val b.d, .val (.str (cs n)), s'] else .ok .next [.val a.d, .val b.d, .val (.str (cs n)), s']) := by
  by_cases hn : n ∈ b.nms
  · refine ⟨.lst (sortD [.str (cs (roleT a n)), .str (cs (roleT b n))]), ?_⟩
    have key : ∀ r q : Nm, roleT a n = r → roleT b n = q → pSorted [.list [.str (cs r), .str (cs q)]] = some (.lst (if q < r then [.str (cs q), .str (cs r)] else [.str (cs r), .str (cs q)])) := fun r q _ _ => by
      have e : pSorted [.list [.str (cs r), .str (cs q)]] = if sortOk [.str (cs r), .str (cs q)] = true then some (Slot.lst (sortD [.str (cs r), .str (cs q)])) else none := rfl
      rw [e, if_pos (sok r q), srt]
    rw [srt]
    unfold badN passB
    cases ma : a.moves <;> cases aa : a.adds n <;> cases mb : b.moves <;> cases ab : b.adds n <;>
      first
        | (exfalso; have := moves_adds ma n; rw [aa] at this; cases this; done)
        | (exfalso; have := moves_adds mb n; rw [ab] at this; cases this; done)
        | (have k := key _ _ rfl rfl
           simp [b_l_touch_f1, named_eq, role_eq, hn, p_ne, ma, aa, mb, ab, roleT, radds, rmoves, rmore, List.cons_lt_cons_iff] at k ⊢
           simp [k, p_ne])
  · exact ⟨s, by simp [b_l_touch_f1, named_eq, hn, badN]⟩
end K

set_option Elab.async false
set_option linter.all false
set_option autoImplicit false
set_option maxRecDepth 100000
set_option maxHeartbeats 1000000
namespace K
open PySem PySem.Spec PyProof.Rows L2 SD
theorem passB_comm (a b : Dd) (n : Nm) : passB a b n = passB b a n := by
  unfold passB
  cases ma : a.moves <;> cases aa : a.adds n <;> cases mb : b.moves <;> cases ab : b.adds n <;> first
    | rfl
    | (exfalso; have := moves_adds ma n; rw [aa] at this; cases this; done)
    | (exfalso; have := moves_adds mb n; rw [ab] at this; cases this; done)
theorem touchB_any (a b : Dd) : touchB a b = a.nms.any (badN a b) := by
  unfold touchB badN
  rw [List.all_filter]
  induction a.nms with
  | nil => rfl
  | cons n l ih =>
    simp only [List.all_cons, List.any_cons] at ih ⊢
    rw [← ih]
    cases decide (n ∈ b.nms) <;> cases passB a b n <;> simp
theorem any_swap (a b : Dd) (h : a.nms.any (badN a b) = true) : b.nms.any (badN b a) = true := by
  obtain ⟨n, hn, hb⟩ := List.any_eq_true.mp h
  unfold badN at hb
  simp only [Bool.and_eq_true, decide_eq_true_eq, Bool.not_eq_true'] at hb
  refine List.any_eq_true.mpr ⟨n, hb.1, ?_⟩
  unfold badN
  rw [← passB_comm a b n, hb.2]
  simp [hn]
theorem touchB_comm (a b : Dd) : touchB a b = touchB b a := by
  rw [touchB_any, touchB_any]
  cases h : a.nms.any (badN a b) with
  | true => exact (any_swap a b h).symm
  | false =>
    cases h2 : b.nms.any (badN b a) with
    | false => rfl
    | true => exact absurd (any_swap b a h2) (by rw [h]; simp)
theorem law_touch_eq (a b : Dd) : m_l_touch [.val a.d, .val b.d] = .ok (.val (.bool (touchB a b))) [.val a.d, .val b.d] := by
  obtain ⟨ρ', ⟨n, s, e⟩, q⟩ := for_any (g := gNm 2) (body := b_l_touch_f1) (s := .val (.bool true)) (fun ρ => ∃ s2 s3, ρ = [.val a.d, .val b.d, s2, s3]) (fun n : Nm => PyData.str (cs n)) (badN a b) a.nms [.val a.d, .val b.d, .emp, .emp] ⟨_, _, rfl⟩ (by
    intro n hn ρ ⟨s2, s3, e⟩
    subst e
    obtain ⟨s', e⟩ := f1_eq a b n s3
    refine ⟨[.val a.d, .val b.d, .val (.str (cs n)), s3], [.val a.d, .val b.d, .val (.str (cs n)), s'], rfl, ⟨_, _, rfl⟩, e⟩)
  subst e
  have q' : forL (gNm 2) b_l_touch_f1 (txs a.nms) [.val a.d, .val b.d, .emp, .emp] = _ := q
  rw [touchB_any]
  cases h : a.nms.any (badN a b) <;> rw [h] at q' <;> simp at q' <;> simp [m_l_touch, b_l_touch, named_eq, q']
/-- a turn of the law's inner loop -/
theorem turn_in {ks : List Nm} (h2 : 2 ≤ ks.length) (h8 : ks.length ≤ 8) (sc c t s5 s6 s7 s8 : Slot) (x : Int) : ∃ x' s5' s6' s7' s8', b_law_f2 [sc, c, .lst [.int x], .lst (txs ks), t, s5, s6, s7, s8] = .ok .next [sc, c, .lst [.int x'], .lst (txs ks), t, s5', s6', s7', s8'] := by
  obtain ⟨a, x1, e1⟩ := any_deed_ex x ks h2 h8
  obtain ⟨b, x2, e2⟩ := any_deed_ex x1 ks h2 h8
  obtain ⟨e3, -, -⟩ := take_ex x2 8 (by decide) (by decide)
  have hf : ∀ (b : Dd) (x : Int), b_law_f1 [sc, c, .lst [.int x], .lst (txs ks), t, .val a.d, .val b.d, .val (.bool (touchB a b)), .val (.bool (touchB a b))] = .ok .next [sc, c, .lst [.int x], .lst (txs ks), t, .val a.d, .val b.d, .val (.bool (touchB a b)), .val (.bool (touchB a b))] := fun b x => by
    simp [b_law_f1, p_ne]
  have tc : ∀ b : Dd, touchB b a = touchB a b := fun b => touchB_comm b a
  by_cases h : x2 % 8 = 0
  · simp [b_law_f2, e1, e2, e3, h, p_eq, law_touch_eq, touch_eq, ev_forL1, hf, tc]
  · simp [b_law_f2, e1, e2, e3, h, p_eq, law_touch_eq, touch_eq, ev_forL1, hf, tc]
theorem turn_out (ns : List Int) {B : Nat} (h64 : 64 ≤ B) (hB : B + 1 ≤ 100000000) (hb : ∀ z ∈ ns, Builtin.Int.intBits z ≤ B) (k : Nat) (hk : k < 1000) (s2 s3 s4 s5 s6 s7 s8 : Slot) :
    ∃ s2' s3' s4' s5' s6' s7' s8', b_law_f3 [.val (.list (ns.map PyData.int)), .val (.int k), s2, s3, s4, s5, s6, s7, s8] = .ok .next [.val (.list (ns.map PyData.int)), .val (.int k), s2', s3', s4', s5', s6', s7', s8'] := by
  obtain ⟨x, e1⟩ := pack_ex ns h64 hB hb k hk
  generalize (k : Int) = κ at e1 ⊢
  obtain ⟨e2, a1, a2⟩ := take_ex x 3 (by decide) (by decide)
  generalize x % 3 = r at e2 a1 a2
  generalize x / 3 = x1 at e2
  obtain ⟨ks, x2, e3, hl⟩ := names_ex x1 (2 + r) (by omega)
  obtain ⟨ρ', e4, ⟨c1, c2, c3, c4, c5, c6, e5⟩⟩ := for_all (g := gNm 4) (body := b_law_f2) (fun ρ => ∃ (x : Int) (t s5 s6 s7 s8 : Slot), ρ = [.val (.list (ns.map PyData.int)), .val (.int κ), .lst [.int x], .lst (txs ks), t, s5, s6, s7, s8]) [.int 0, .int 1, .int 2]
    [.val (.list (ns.map PyData.int)), .val (.int κ), .lst [.int x2], .lst (txs ks), s4, s5, s6, s7, s8] ⟨_, _, _, _, _, _, rfl⟩ (by
      intro d hd ρ ⟨x, t, s5, s6, s7, s8, e⟩
      subst e
      obtain ⟨x', a5, a6, a7, a8, q⟩ := turn_in (ks := ks) (by omega) (by omega) (.val (.list (ns.map PyData.int))) (.val (.int κ)) (.val d) s5 s6 s7 s8 x
      exact ⟨_, _, rfl, q, _, _, _, _, _, _, rfl⟩)
  subst e5
  have er : List.map (fun i : Nat => PyData.int (i : Int)) (List.range 3) = [.int 0, .int 1, .int 2] := rfl
  simp [b_law_f3, e1, e2, e3, e4, er]
theorem law_true (ns : List Int) (hl : ns.length ≤ 63) (hb : ∀ z ∈ ns, Builtin.Int.intBits z ≤ 1048576) : ∃ ρ, m_law [.val (.list (ns.map PyData.int))] = .ok (.val (.bool true)) ρ := by
  have h64 : 64 ≤ 1048576 := by decide
  have hB : 1048576 + 1 ≤ 100000000 := by decide
  generalize 1048576 = B at hb h64 hB
  have lp : ∀ N : Nat, N ≤ 24 → ∃ ρ', forL (gNm 1) b_law_f3 ((List.range N).map fun i : Nat => PyData.int (i : Int)) [.val (.list (ns.map PyData.int)), .emp, .emp, .emp, .emp, .emp, .emp, .emp, .emp] = .ok .next ρ' := fun N hN => by
    obtain ⟨ρ', e, -⟩ := for_all (g := gNm 1) (body := b_law_f3) (fun ρ => ∃ s1 s2 s3 s4 s5 s6 s7 s8, ρ = [.val (.list (ns.map PyData.int)), s1, s2, s3, s4, s5, s6, s7, s8]) ((List.range N).map fun i : Nat => PyData.int (i : Int))
      [.val (.list (ns.map PyData.int)), .emp, .emp, .emp, .emp, .emp, .emp, .emp, .emp] ⟨_, _, _, _, _, _, _, _, rfl⟩ (by
        intro d hd ρ ⟨s1, s2, s3, s4, s5, s6, s7, s8, e⟩
        subst e
        obtain ⟨k, hk, rfl⟩ := List.mem_map.mp hd
        have hk' := List.mem_range.mp hk
        obtain ⟨a2, a3, a4, a5, a6, a7, a8, q⟩ := turn_out ns h64 hB hb k (by omega) s2 s3 s4 s5 s6 s7 s8
        exact ⟨_, _, rfl, q, _, _, _, _, _, _, _, _, rfl⟩)
    exact ⟨ρ', e⟩
  have eL : pLen [.list (ns.map PyData.int)] = some (.val (.int (ns.length : Int))) := by simp
  have hν : 0 ≤ (ns.length : Int) := by omega
  generalize (ns.length : Int) = ν at eL hν
  have e2 : pMin2 [.int ν, .int 24] = some (.val (.int (if 24 < ν then 24 else ν))) := rfl
  obtain ⟨m, hm⟩ : ∃ m, m = (if 24 < ν then (24 : Int) else ν) := ⟨_, rfl⟩
  rw [← hm] at e2
  have e3 : pMax2 [.int 1, .int m] = some (.val (.int (if m > 1 then m else 1))) := rfl
  obtain ⟨n, hn⟩ : ∃ n, n = (if m > 1 then m else (1 : Int)) := ⟨_, rfl⟩
  rw [← hn] at e3
  have h24 : m ≤ 24 := by rw [hm]; split <;> omega
  have n24 : 1 ≤ n ∧ n ≤ 24 := by rw [hn]; split <;> omega
  have rn : -4611686018427387904 ≤ n ∧ n < 4611686018427387904 := by omega
  obtain ⟨ρ', e⟩ := lp n.toNat (by omega)
  simp [-p_lenL, -p_min2, -p_max2, m_law, b_law, eL, e2, e3, rn, e]
end K

namespace K
open PySem PySem.Spec PyProof.Rows L2 SD
theorem all_mk {l : PySem.W.OpenLaw} {w : World} {K : PySem.W.Frag} {h : Heap} {mg : Str → Option Value} {fa : Addr} (X : K.In h) (G : h.Ns mainGlobals mg) (hfa : mg "law" = some (.ref fa))
    {f_names_in : Addr} {oc_names_in kV_names_in dc_names_in pm_names_in cd_names_in ct_names_in : Value} {od_names_in an_names_in : Option Addr} {sl_names_in : Array (Option Value)}
    (a_names_in : PySem.W.nsIn K mainGlobals "names_in" = some (some (.ref f_names_in))) (l_names_in : K.lookup f_names_in = some ⟨oc_names_in, od_names_in, .func (PySem.W.fnOf "names_in" "names_in" (defArgs s_names_in) (defBody s_names_in) (defScope s_names_in) .none kV_names_in dc_names_in pm_names_in an_names_in cd_names_in ct_names_in), sl_names_in⟩) (c_names_in : PySem.W.codeIn K cd_names_in "names_in" = true) (k_names_in : PySem.W.keepIn K (.ref f_names_in) = true)
    {f_only_adds : Addr} {oc_only_adds kV_only_adds dc_only_adds pm_only_adds cd_only_adds ct_only_adds : Value} {od_only_adds an_only_adds : Option Addr} {sl_only_adds : Array (Option Value)}
    (a_only_adds : PySem.W.nsIn K mainGlobals "only_adds" = some (some (.ref f_only_adds))) (l_only_adds : K.lookup f_only_adds = some ⟨oc_only_adds, od_only_adds, .func (PySem.W.fnOf "only_adds" "only_adds" (defArgs s_only_adds) (defBody s_only_adds) (defScope s_only_adds) .none kV_only_adds dc_only_adds pm_only_adds an_only_adds cd_only_adds ct_only_adds), sl_only_adds⟩) (c_only_adds : PySem.W.codeIn K cd_only_adds "only_adds" = true) (k_only_adds : PySem.W.keepIn K (.ref f_only_adds) = true)
    {f_only_moves : Addr} {oc_only_moves kV_only_moves dc_only_moves pm_only_moves cd_only_moves ct_only_moves : Value} {od_only_moves an_only_moves : Option Addr} {sl_only_moves : Array (Option Value)}
    (a_only_moves : PySem.W.nsIn K mainGlobals "only_moves" = some (some (.ref f_only_moves))) (l_only_moves : K.lookup f_only_moves = some ⟨oc_only_moves, od_only_moves, .func (PySem.W.fnOf "only_moves" "only_moves" (defArgs s_only_moves) (defBody s_only_moves) (defScope s_only_moves) .none kV_only_moves dc_only_moves pm_only_moves an_only_moves cd_only_moves ct_only_moves), sl_only_moves⟩) (c_only_moves : PySem.W.codeIn K cd_only_moves "only_moves" = true) (k_only_moves : PySem.W.keepIn K (.ref f_only_moves) = true)
    {f_pass_by : Addr} {oc_pass_by kV_pass_by dc_pass_by pm_pass_by cd_pass_by ct_pass_by : Value} {od_pass_by an_pass_by : Option Addr} {sl_pass_by : Array (Option Value)}
    (a_pass_by : PySem.W.nsIn K mainGlobals "pass_by" = some (some (.ref f_pass_by))) (l_pass_by : K.lookup f_pass_by = some ⟨oc_pass_by, od_pass_by, .func (PySem.W.fnOf "pass_by" "pass_by" (defArgs s_pass_by) (defBody s_pass_by) (defScope s_pass_by) .none kV_pass_by dc_pass_by pm_pass_by an_pass_by cd_pass_by ct_pass_by), sl_pass_by⟩) (c_pass_by : PySem.W.codeIn K cd_pass_by "pass_by" = true) (k_pass_by : PySem.W.keepIn K (.ref f_pass_by) = true)
    {f_touch : Addr} {oc_touch kV_touch dc_touch pm_touch cd_touch ct_touch : Value} {od_touch an_touch : Option Addr} {sl_touch : Array (Option Value)}
    (a_touch : PySem.W.nsIn K mainGlobals "touch" = some (some (.ref f_touch))) (l_touch : K.lookup f_touch = some ⟨oc_touch, od_touch, .func (PySem.W.fnOf "touch" "touch" (defArgs s_touch) (defBody s_touch) (defScope s_touch) .none kV_touch dc_touch pm_touch an_touch cd_touch ct_touch), sl_touch⟩) (c_touch : PySem.W.codeIn K cd_touch "touch" = true) (k_touch : PySem.W.keepIn K (.ref f_touch) = true)
    {f_l_mixed : Addr} {oc_l_mixed kV_l_mixed dc_l_mixed pm_l_mixed cd_l_mixed ct_l_mixed : Value} {od_l_mixed an_l_mixed : Option Addr} {sl_l_mixed : Array (Option Value)}
    (a_l_mixed : PySem.W.nsIn K mainGlobals "_law_mixed" = some (some (.ref f_l_mixed))) (l_l_mixed : K.lookup f_l_mixed = some ⟨oc_l_mixed, od_l_mixed, .func (PySem.W.fnOf "_law_mixed" "_law_mixed" (defArgs s_l_mixed) (defBody s_l_mixed) (defScope s_l_mixed) .none kV_l_mixed dc_l_mixed pm_l_mixed an_l_mixed cd_l_mixed ct_l_mixed), sl_l_mixed⟩) (c_l_mixed : PySem.W.codeIn K cd_l_mixed "_law_mixed" = true) (k_l_mixed : PySem.W.keepIn K (.ref f_l_mixed) = true)
    {f_l_pack : Addr} {oc_l_pack kV_l_pack dc_l_pack pm_l_pack cd_l_pack ct_l_pack : Value} {od_l_pack an_l_pack : Option Addr} {sl_l_pack : Array (Option Value)}
    (a_l_pack : PySem.W.nsIn K mainGlobals "_law_pack" = some (some (.ref f_l_pack))) (l_l_pack : K.lookup f_l_pack = some ⟨oc_l_pack, od_l_pack, .func (PySem.W.fnOf "_law_pack" "_law_pack" (defArgs s_l_pack) (defBody s_l_pack) (defScope s_l_pack) .none kV_l_pack dc_l_pack pm_l_pack an_l_pack cd_l_pack ct_l_pack), sl_l_pack⟩) (c_l_pack : PySem.W.codeIn K cd_l_pack "_law_pack" = true) (k_l_pack : PySem.W.keepIn K (.ref f_l_pack) = true)
    {f_l_take : Addr} {oc_l_take kV_l_take dc_l_take pm_l_take cd_l_take ct_l_take : Value} {od_l_take an_l_take : Option Addr} {sl_l_take : Array (Option Value)}
    (a_l_take : PySem.W.nsIn K mainGlobals "_law_take" = some (some (.ref f_l_take))) (l_l_take : K.lookup f_l_take = some ⟨oc_l_take, od_l_take, .func (PySem.W.fnOf "_law_take" "_law_take" (defArgs s_l_take) (defBody s_l_take) (defScope s_l_take) .none kV_l_take dc_l_take pm_l_take an_l_take cd_l_take ct_l_take), sl_l_take⟩) (c_l_take : PySem.W.codeIn K cd_l_take "_law_take" = true) (k_l_take : PySem.W.keepIn K (.ref f_l_take) = true)
    {f_l_names : Addr} {oc_l_names kV_l_names dc_l_names pm_l_names cd_l_names ct_l_names : Value} {od_l_names an_l_names : Option Addr} {sl_l_names : Array (Option Value)}
    (a_l_names : PySem.W.nsIn K mainGlobals "_law_names" = some (some (.ref f_l_names))) (l_l_names : K.lookup f_l_names = some ⟨oc_l_names, od_l_names, .func (PySem.W.fnOf "_law_names" "_law_names" (defArgs s_l_names) (defBody s_l_names) (defScope s_l_names) .none kV_l_names dc_l_names pm_l_names an_l_names cd_l_names ct_l_names), sl_l_names⟩) (c_l_names : PySem.W.codeIn K cd_l_names "_law_names" = true) (k_l_names : PySem.W.keepIn K (.ref f_l_names) = true)
    {f_l_any_deed : Addr} {oc_l_any_deed kV_l_any_deed dc_l_any_deed pm_l_any_deed cd_l_any_deed ct_l_any_deed : Value} {od_l_any_deed an_l_any_deed : Option Addr} {sl_l_any_deed : Array (Option Value)}
    (a_l_any_deed : PySem.W.nsIn K mainGlobals "_law_any_deed" = some (some (.ref f_l_any_deed))) (l_l_any_deed : K.lookup f_l_any_deed = some ⟨oc_l_any_deed, od_l_any_deed, .func (PySem.W.fnOf "_law_any_deed" "_law_any_deed" (defArgs s_l_any_deed) (defBody s_l_any_deed) (defScope s_l_any_deed) .none kV_l_any_deed dc_l_any_deed pm_l_any_deed an_l_any_deed cd_l_any_deed ct_l_any_deed), sl_l_any_deed⟩) (c_l_any_deed : PySem.W.codeIn K cd_l_any_deed "_law_any_deed" = true) (k_l_any_deed : PySem.W.keepIn K (.ref f_l_any_deed) = true)
    {f_l_named : Addr} {oc_l_named kV_l_named dc_l_named pm_l_named cd_l_named ct_l_named : Value} {od_l_named an_l_named : Option Addr} {sl_l_named : Array (Option Value)}
    (a_l_named : PySem.W.nsIn K mainGlobals "_law_named" = some (some (.ref f_l_named))) (l_l_named : K.lookup f_l_named = some ⟨oc_l_named, od_l_named, .func (PySem.W.fnOf "_law_named" "_law_named" (defArgs s_l_named) (defBody s_l_named) (defScope s_l_named) .none kV_l_named dc_l_named pm_l_named an_l_named cd_l_named ct_l_named), sl_l_named⟩) (c_l_named : PySem.W.codeIn K cd_l_named "_law_named" = true) (k_l_named : PySem.W.keepIn K (.ref f_l_named) = true)
    {f_l_role : Addr} {oc_l_role kV_l_role dc_l_role pm_l_role cd_l_role ct_l_role : Value} {od_l_role an_l_role : Option Addr} {sl_l_role : Array (Option Value)}
    (a_l_role : PySem.W.nsIn K mainGlobals "_law_role" = some (some (.ref f_l_role))) (l_l_role : K.lookup f_l_role = some ⟨oc_l_role, od_l_role, .func (PySem.W.fnOf "_law_role" "_law_role" (defArgs s_l_role) (defBody s_l_role) (defScope s_l_role) .none kV_l_role dc_l_role pm_l_role an_l_role cd_l_role ct_l_role), sl_l_role⟩) (c_l_role : PySem.W.codeIn K cd_l_role "_law_role" = true) (k_l_role : PySem.W.keepIn K (.ref f_l_role) = true)
    {f_l_touch : Addr} {oc_l_touch kV_l_touch dc_l_touch pm_l_touch cd_l_touch ct_l_touch : Value} {od_l_touch an_l_touch : Option Addr} {sl_l_touch : Array (Option Value)}
    (a_l_touch : PySem.W.nsIn K mainGlobals "_law_touch" = some (some (.ref f_l_touch))) (l_l_touch : K.lookup f_l_touch = some ⟨oc_l_touch, od_l_touch, .func (PySem.W.fnOf "_law_touch" "_law_touch" (defArgs s_l_touch) (defBody s_l_touch) (defScope s_l_touch) .none kV_l_touch dc_l_touch pm_l_touch an_l_touch cd_l_touch ct_l_touch), sl_l_touch⟩) (c_l_touch : PySem.W.codeIn K cd_l_touch "_law_touch" = true) (k_l_touch : PySem.W.keepIn K (.ref f_l_touch) = true)
    {f_law : Addr} {oc_law kV_law dc_law pm_law cd_law ct_law : Value} {od_law an_law : Option Addr} {sl_law : Array (Option Value)}
    (a_law : PySem.W.nsIn K mainGlobals "law" = some (some (.ref f_law))) (l_law : K.lookup f_law = some ⟨oc_law, od_law, .func (PySem.W.fnOf "law" "law" (defArgs s_law) (defBody s_law) (defScope s_law) .none kV_law dc_law pm_law an_law cd_law ct_law), sl_law⟩) (c_law : PySem.W.codeIn K cd_law "law" = true) (k_law : PySem.W.keepIn K (.ref f_law) = true)
    (z_all : PySem.W.nsIn K mainGlobals "all" = some none)
    (z_bool : PySem.W.nsIn K mainGlobals "bool" = some none)
    (z_divmod : PySem.W.nsIn K mainGlobals "divmod" = some none)
    (z_int : PySem.W.nsIn K mainGlobals "int" = some none)
    (z_isinstance : PySem.W.nsIn K mainGlobals "isinstance" = some none)
    (z_len : PySem.W.nsIn K mainGlobals "len" = some none)
    (z_list : PySem.W.nsIn K mainGlobals "list" = some none)
    (z_max : PySem.W.nsIn K mainGlobals "max" = some none)
    (z_min : PySem.W.nsIn K mainGlobals "min" = some none)
    (z_range : PySem.W.nsIn K mainGlobals "range" = some none)
    (z_sorted : PySem.W.nsIn K mainGlobals "sorted" = some none)
    {d_FORMS : Addr} {es_FORMS : Array DictEntry} {n_FORMS : Nat} (x_FORMS : PySem.W.nsIn K mainGlobals "FORMS" = some (some (.ref d_FORMS))) (e_FORMS : K.lookup d_FORMS = some ⟨.type "dict", none, .dict es_FORMS n_FORMS, #[]⟩) (t_FORMS : SD.Entries w.params es_FORMS.toList t_FORMS) (b_FORMS : (d_FORMS == sysModules) = false)
    : ∃ fd : FuncData, (∀ (s : Shared) (v : Value), BindsTo s fd ⟨[v], []⟩ [("_law_script", v)]) ∧ ∀ base : Heap, K.In base → base.Ns mainGlobals mg → FnOk l.prog w K mg base (L2.CX l.prog w) 4 fa fd ["_law_script"] (SD.spLawB K) := by
  have e := hfa.symm.trans (PySem.W.mg_of X G a_law)
  cases e
  have GM : Gm K w mg := ⟨PySem.W.mg_none_of X G z_all, PySem.W.mg_none_of X G z_bool, PySem.W.mg_none_of X G z_divmod, PySem.W.mg_none_of X G z_int, PySem.W.mg_none_of X G z_isinstance, PySem.W.mg_none_of X G z_len, PySem.W.mg_none_of X G z_list, PySem.W.mg_none_of X G z_max, PySem.W.mg_none_of X G z_min, PySem.W.mg_none_of X G z_range, PySem.W.mg_none_of X G z_sorted, ⟨_, PySem.W.mg_of X G x_FORMS, ⟨_, _, e_FORMS, t_FORMS⟩, b_FORMS⟩⟩
  have F_names_in := fun_mk (st := s_names_in) l_names_in c_names_in k_names_in
  have F_only_adds := fun_mk (st := s_only_adds) l_only_adds c_only_adds k_only_adds
  have F_only_moves := fun_mk (st := s_only_moves) l_only_moves c_only_moves k_only_moves
  have F_pass_by := fun_mk (st := s_pass_by) l_pass_by c_pass_by k_pass_by
  have F_touch := fun_mk (st := s_touch) l_touch c_touch k_touch
  have F_l_mixed := fun_mk (st := s_l_mixed) l_l_mixed c_l_mixed k_l_mixed
  have F_l_pack := fun_mk (st := s_l_pack) l_l_pack c_l_pack k_l_pack
  have F_l_take := fun_mk (st := s_l_take) l_l_take c_l_take k_l_take
  have F_l_names := fun_mk (st := s_l_names) l_l_names c_l_names k_l_names
  have F_l_any_deed := fun_mk (st := s_l_any_deed) l_l_any_deed c_l_any_deed k_l_any_deed
  have F_l_named := fun_mk (st := s_l_named) l_l_named c_l_named k_l_named
  have F_l_role := fun_mk (st := s_l_role) l_l_role c_l_role k_l_role
  have F_l_touch := fun_mk (st := s_l_touch) l_l_touch c_l_touch k_l_touch
  have F_law := fun_mk (st := s_law) l_law c_law k_law
  refine ⟨PySem.W.fnOf "law" "law" (defArgs s_law) (defBody s_law) (defScope s_law) .none kV_law dc_law pm_law an_law cd_law ct_law, fun s v => .of_eq rfl, fun base _ _ => ?_⟩
  have T_names_in : FnT l.prog w K mg base (fun _ => none) "names_in" 1 1 m_names_in := ⟨⟨_, _, _, ok_names_in GM  F_names_in, PySem.W.mg_of X G a_names_in, k_names_in, F_names_in.binds (ps := ["deed"]) fun _ _ _ _ _ _ us hl => match us, hl with | [_], _ => rfl⟩⟩
  have T_only_adds : FnT l.prog w K mg base (fun _ => none) "only_adds" 2 1 m_only_adds := ⟨⟨_, _, _, ok_only_adds GM  F_only_adds, PySem.W.mg_of X G a_only_adds, k_only_adds, F_only_adds.binds (ps := ["deed", "name"]) fun _ _ _ _ _ _ us hl => match us, hl with | [_, _], _ => rfl⟩⟩
  have T_only_moves : FnT l.prog w K mg base (fun _ => none) "only_moves" 1 1 m_only_moves := ⟨⟨_, _, _, ok_only_moves GM  F_only_moves, PySem.W.mg_of X G a_only_moves, k_only_moves, F_only_moves.binds (ps := ["deed"]) fun _ _ _ _ _ _ us hl => match us, hl with | [_], _ => rfl⟩⟩
  have T_pass_by : FnT l.prog w K mg base (fun _ => none) "pass_by" 3 2 m_pass_by := ⟨⟨_, _, _, ok_pass_by GM T_only_adds T_only_moves F_pass_by, PySem.W.mg_of X G a_pass_by, k_pass_by, F_pass_by.binds (ps := ["one", "other", "name"]) fun _ _ _ _ _ _ us hl => match us, hl with | [_, _, _], _ => rfl⟩⟩
  have T_touch : FnT l.prog w K mg base (fun _ => none) "touch" 2 3 m_touch := ⟨⟨_, _, _, ok_touch GM T_names_in T_pass_by F_touch, PySem.W.mg_of X G a_touch, k_touch, F_touch.binds (ps := ["one", "other"]) fun _ _ _ _ _ _ us hl => match us, hl with | [_, _], _ => rfl⟩⟩
  have T_l_mixed : FnT l.prog w K mg base (fun _ => none) "_law_mixed" 1 1 m_l_mixed := ⟨⟨_, _, _, ok_l_mixed GM  F_l_mixed, PySem.W.mg_of X G a_l_mixed, k_l_mixed, F_l_mixed.binds (ps := ["_law_cell"]) fun _ _ _ _ _ _ us hl => match us, hl with | [_], _ => rfl⟩⟩
  have T_l_pack : FnT l.prog w K mg base (fun _ => none) "_law_pack" 2 2 m_l_pack := ⟨⟨_, _, _, ok_l_pack GM T_l_mixed F_l_pack, PySem.W.mg_of X G a_l_pack, k_l_pack, F_l_pack.binds (ps := ["_law_script", "_law_k"]) fun _ _ _ _ _ _ us hl => match us, hl with | [_, _], _ => rfl⟩⟩
  have T_l_take : FnT l.prog w K mg base (fun _ => none) "_law_take" 2 1 m_l_take := ⟨⟨_, _, _, ok_l_take GM  F_l_take, PySem.W.mg_of X G a_l_take, k_l_take, F_l_take.binds (ps := ["_law_pack_here", "_law_size"]) fun _ _ _ _ _ _ us hl => match us, hl with | [_, _], _ => rfl⟩⟩
  have T_l_names : FnT l.prog w K mg base (fun _ => none) "_law_names" 2 2 m_l_names := ⟨⟨_, _, _, ok_l_names GM T_l_take F_l_names, PySem.W.mg_of X G a_l_names, k_l_names, F_l_names.binds (ps := ["_law_pack_here", "_law_amount"]) fun _ _ _ _ _ _ us hl => match us, hl with | [_, _], _ => rfl⟩⟩
  have T_l_any_deed : FnT l.prog w K mg base (fun _ => none) "_law_any_deed" 2 2 m_l_any_deed := ⟨⟨_, _, _, ok_l_any_deed GM T_l_take F_l_any_deed, PySem.W.mg_of X G a_l_any_deed, k_l_any_deed, F_l_any_deed.binds (ps := ["_law_pack_here", "_law_names_here"]) fun _ _ _ _ _ _ us hl => match us, hl with | [_, _], _ => rfl⟩⟩
  have T_l_named : FnT l.prog w K mg base (fun _ => none) "_law_named" 1 1 m_l_named := ⟨⟨_, _, _, ok_l_named GM  F_l_named, PySem.W.mg_of X G a_l_named, k_l_named, F_l_named.binds (ps := ["_law_deed"]) fun _ _ _ _ _ _ us hl => match us, hl with | [_], _ => rfl⟩⟩
  have T_l_role : FnT l.prog w K mg base (fun _ => none) "_law_role" 2 1 m_l_role := ⟨⟨_, _, _, ok_l_role GM  F_l_role, PySem.W.mg_of X G a_l_role, k_l_role, F_l_role.binds (ps := ["_law_deed", "_law_name"]) fun _ _ _ _ _ _ us hl => match us, hl with | [_, _], _ => rfl⟩⟩
  have T_l_touch : FnT l.prog w K mg base (fun _ => none) "_law_touch" 2 2 m_l_touch := ⟨⟨_, _, _, ok_l_touch GM T_l_named T_l_role F_l_touch, PySem.W.mg_of X G a_l_touch, k_l_touch, F_l_touch.binds (ps := ["_law_one", "_law_other"]) fun _ _ _ _ _ _ us hl => match us, hl with | [_, _], _ => rfl⟩⟩
  exact law_okB (ok_law GM T_l_pack T_l_names T_l_any_deed T_l_touch T_l_take T_touch F_law) law_true
end K
open PySem PySem.W PyProof.Rows
set_option maxRecDepth 100000 in
set_option maxHeartbeats 0 in
theorem PySem.Challenge.cw_struckdeeds_k23_deeds_that_touch_holds : PySem.Challenge.rw_struckdeeds_k23_deeds_that_touch.Holds := by
  w_on; o_law; k_head; (case hw => w_witness2)
  k_fill
  refine SD.walkB (l := PySem.Challenge.rw_struckdeeds_k23_deeds_that_touch) 4 rfl rfl ⟨rfl, by decide, by decide⟩ (fun w h Y => PySem.W.kIn_of Y) ?F
  case F =>
    intro w mg fa h KX G hmg
    refine' K.all_mk KX G hmg ?a_names_in ?l_names_in ?c_names_in ?k_names_in ?a_only_adds ?l_only_adds ?c_only_adds ?k_only_adds ?a_only_moves ?l_only_moves ?c_only_moves ?k_only_moves ?a_pass_by ?l_pass_by ?c_pass_by ?k_pass_by ?a_touch ?l_touch ?c_touch ?k_touch ?a_l_mixed ?l_l_mixed ?c_l_mixed ?k_l_mixed ?a_l_pack ?l_l_pack ?c_l_pack ?k_l_pack ?a_l_take ?l_l_take ?c_l_take ?k_l_take ?a_l_names ?l_l_names ?c_l_names ?k_l_names ?a_l_any_deed ?l_l_any_deed ?c_l_any_deed ?k_l_any_deed ?a_l_named ?l_l_named ?c_l_named ?k_l_named ?a_l_role ?l_l_role ?c_l_role ?k_l_role ?a_l_touch ?l_l_touch ?c_l_touch ?k_l_touch ?a_law ?l_law ?c_law ?k_law ?z_all ?z_bool ?z_divmod ?z_int ?z_isinstance ?z_len ?z_list ?z_max ?z_min ?z_range ?z_sorted ?x_FORMS ?e_FORMS ?t_FORMS ?b_FORMS
    (case a_names_in => k_is)
    (case l_names_in => k_is)
    (case c_names_in => k_is)
    (case k_names_in => k_is)
    (case a_only_adds => k_is)
    (case l_only_adds => k_is)
    (case c_only_adds => k_is)
    (case k_only_adds => k_is)
    (case a_only_moves => k_is)
    (case l_only_moves => k_is)
    (case c_only_moves => k_is)
    (case k_only_moves => k_is)
    (case a_pass_by => k_is)
    (case l_pass_by => k_is)
    (case c_pass_by => k_is)
    (case k_pass_by => k_is)
    (case a_touch => k_is)
    (case l_touch => k_is)
    (case c_touch => k_is)
    (case k_touch => k_is)
    (case a_l_mixed => k_is)
    (case l_l_mixed => k_is)
    (case c_l_mixed => k_is)
    (case k_l_mixed => k_is)
    (case a_l_pack => k_is)
    (case l_l_pack => k_is)
    (case c_l_pack => k_is)
    (case k_l_pack => k_is)
    (case a_l_take => k_is)
    (case l_l_take => k_is)
    (case c_l_take => k_is)
    (case k_l_take => k_is)
    (case a_l_names => k_is)
    (case l_l_names => k_is)
    (case c_l_names => k_is)
    (case k_l_names => k_is)
    (case a_l_any_deed => k_is)
    (case l_l_any_deed => k_is)
    (case c_l_any_deed => k_is)
    (case k_l_any_deed => k_is)
    (case a_l_named => k_is)
    (case l_l_named => k_is)
    (case c_l_named => k_is)
    (case k_l_named => k_is)
    (case a_l_role => k_is)
    (case l_l_role => k_is)
    (case c_l_role => k_is)
    (case k_l_role => k_is)
    (case a_l_touch => k_is)
    (case l_l_touch => k_is)
    (case c_l_touch => k_is)
    (case k_l_touch => k_is)
    (case a_law => k_is)
    (case l_law => k_is)
    (case c_law => k_is)
    (case k_law => k_is)
    (case z_all => k_is)
    (case z_bool => k_is)
    (case z_divmod => k_is)
    (case z_int => k_is)
    (case z_isinstance => k_is)
    (case z_len => k_is)
    (case z_list => k_is)
    (case z_max => k_is)
    (case z_min => k_is)
    (case z_range => k_is)
    (case z_sorted => k_is)
    (case x_FORMS => k_is)
    (case e_FORMS => k_is)
    (case t_FORMS => exact ⟨⟨_, rfl⟩, rfl, ⟨_, rfl⟩, ⟨⟨_, rfl⟩, rfl, ⟨_, rfl⟩, ⟨⟨_, rfl⟩, rfl, ⟨_, rfl⟩, ⟨⟨_, rfl⟩, rfl, ⟨_, rfl⟩, ⟨⟨_, rfl⟩, rfl, ⟨_, rfl⟩, ⟨⟨_, rfl⟩, rfl, ⟨_, rfl⟩, ⟨⟨_, rfl⟩, rfl, ⟨_, rfl⟩, trivial⟩⟩⟩⟩⟩⟩⟩)
    (case b_FORMS => rfl)
