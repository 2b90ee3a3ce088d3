import PyProof.Rows.All
import Wide.All
import OpenK.AllK
import Wide.FinOn
import HandS.ForMost
import HandS.ForExc
import KE.DataEq
import KE.KEqNest
import KE.DataCmp
import KE.DataFind
import KE.SortData
import HandS.IsInst
import HandS.NoneIn
import HandS.Sort
import HandS.WideBits
import HandS.TupAny
import HandS.Wide
import HandS.Conv
import HandS.More
import PyProof.Rows.SortStr
import PyProof.Rows.StrMeet
import HandS.Text
import HandS.Codes
import HandS.Style
import HandS.TupLe
import HandS.Zip
import HandS.IterVal
import HandS.EndBits
import HandS.Strs
import HandS.SetFor
import HandS.Iter
import HandS.Deep
import HandS.ExcValue
import HandS.ExcInit
import HandS.Small
import HandS.ExcField
import HandS.ExcIs
import KE.KExcIs
import HandS.ExcCtx
import HandS.ExcInitHot
import HandS.SuiteRaise
import KE.KTryMore
import KE.GoesZip
import HandS.RaiseMore
import HandS.Remove
import PyProof.SumAnyB
import HandS.Flow
import KE.KEqDict
import KE.GoesMore
import PyProof.EnumMake
import KE.DataMinMax
import HandS.Words
import PySem.Challenge.RW_struckdeeds_k24_whole_touching_by_worlds
set_option Elab.async false
set_option linter.all false
set_option autoImplicit false
set_option maxRecDepth 100000
set_option maxHeartbeats 4000000
/-! SD, part A: data, what represents it on the abstract heap, environments of slots, steps of the heap. -/
namespace SD
open PySem PySem.Spec PyProof.Rows L2

abbrev St := L2.St
abbrev D := PyData
abbrev Fr0 := PySem.W.Frag
def kD : Key → D
  | .inl i => .int i
  | .inr x => .str x

mutual
/-- v is the data d, over the part F of the heap that never changes -/
def Rep (K : Fr0) (F : Hp) : D → V → Prop
  | .none, v => v = .non
  | .bool b, v => v = .bl b
  | .int i, v => v = .int i
  | .str x, v => v = .str x
  | .list ds, v => ∃ a vs, v = .ref a ∧ SqL K F a vs ∧ Reps K F ds vs
  | .tuple ds, v => ∃ a vs, v = .ref a ∧ SqT K F a vs ∧ Reps K F ds vs
  | .dict kvs, v => ∃ a es, v = .ref a ∧ Rd F a (.dK es) ∧ RepK K F kvs es
def Reps (K : Fr0) (F : Hp) : List D → List V → Prop
  | [], vs => vs = []
  | d :: ds, vs => ∃ v r, vs = v :: r ∧ Rep K F d v ∧ Reps K F ds r
def RepK (K : Fr0) (F : Hp) : List (D × D) → List (Key × V) → Prop
  | [], es => es = []
  | (k, d) :: r, es => ∃ q v t, es = (q, v) :: t ∧ k = kD q ∧ Rep K F d v ∧ RepK K F r t
end

theorem Rd.mono {F F' : Hp} (s : Same F F') {a : Addr} {u : HO} (h : Rd F a u) : Rd F' a u := by
  rcases h with h | ⟨o, h⟩
  · exact .inl (s _ _ h)
  · exact .inr ⟨o, s _ _ h⟩
theorem SqL.mono {K : Fr0} {F F' : Hp} (s : Same F F') {a : Addr} {xs : List V} (h : SqL K F a xs) : SqL K F' a xs := by
  rcases h with h | h
  · exact .inl (Rd.mono s h)
  · exact .inr h
theorem SqT.mono {K : Fr0} {F F' : Hp} (s : Same F F') {a : Addr} {xs : List V} (h : SqT K F a xs) : SqT K F' a xs := by
  rcases h with h | h
  · exact .inl (Rd.mono s h)
  · exact .inr h

mutual
theorem Rep.mono {K : Fr0} {F F' : Hp} (s : Same F F') : ∀ (d : D) (v : V), Rep K F d v → Rep K F' d v
  | .none, v, h => by rw [Rep] at h ⊢; exact h
  | .bool b, v, h => by rw [Rep] at h ⊢; exact h
  | .int i, v, h => by rw [Rep] at h ⊢; exact h
  | .str x, v, h => by rw [Rep] at h ⊢; exact h
  | .list ds, v, h => by
    rw [Rep] at h ⊢
    obtain ⟨a, vs, e, q, r⟩ := h
    exact ⟨a, vs, e, SqL.mono s q, Reps.mono s ds vs r⟩
  | .tuple ds, v, h => by
    rw [Rep] at h ⊢
    obtain ⟨a, vs, e, q, r⟩ := h
    exact ⟨a, vs, e, SqT.mono s q, Reps.mono s ds vs r⟩
  | .dict kvs, v, h => by
    rw [Rep] at h ⊢
    obtain ⟨a, es, e, q, r⟩ := h
    exact ⟨a, es, e, Rd.mono s q, RepK.mono s kvs es r⟩
theorem Reps.mono {K : Fr0} {F F' : Hp} (s : Same F F') : ∀ (ds : List D) (vs : List V), Reps K F ds vs → Reps K F' ds vs
  | [], vs, h => by rw [Reps] at h ⊢; exact h
  | d :: ds, vs, h => by
    rw [Reps] at h ⊢
    obtain ⟨v, r, e, q, t⟩ := h
    exact ⟨v, r, e, Rep.mono s d v q, Reps.mono s ds r t⟩
theorem RepK.mono {K : Fr0} {F F' : Hp} (s : Same F F') : ∀ (ds : List (D × D)) (es : List (Key × V)), RepK K F ds es → RepK K F' ds es
  | [], es, h => by rw [RepK] at h ⊢; exact h
  | (k, d) :: ds, es, h => by
    rw [RepK] at h ⊢
    obtain ⟨q, v, t, e, ek, h1, h2⟩ := h
    exact ⟨q, v, t, e, ek, Rep.mono s d v h1, RepK.mono s ds t h2⟩
end

theorem reps_nil {K : Fr0} {F : Hp} {vs : List V} : Reps K F [] vs ↔ vs = [] := by rw [Reps]
theorem reps_cons {K : Fr0} {F : Hp} {d : D} {ds : List D} {vs : List V} : Reps K F (d :: ds) vs ↔ ∃ v r, vs = v :: r ∧ Rep K F d v ∧ Reps K F ds r := by rw [Reps]
theorem repk_nil {K : Fr0} {F : Hp} {vs : List (Key × V)} : RepK K F [] vs ↔ vs = [] := by rw [RepK]
theorem repk_cons {K : Fr0} {F : Hp} {k d : D} {ds : List (D × D)} {vs : List (Key × V)} : RepK K F ((k, d) :: ds) vs ↔ ∃ q v t, vs = (q, v) :: t ∧ k = kD q ∧ Rep K F d v ∧ RepK K F ds t := by rw [RepK]
theorem rep_none {K : Fr0} {F : Hp} {v : V} : Rep K F .none v ↔ v = .non := by rw [Rep]
theorem rep_bool {K : Fr0} {F : Hp} {v : V} {b : Bool} : Rep K F (.bool b) v ↔ v = .bl b := by rw [Rep]
theorem rep_int {K : Fr0} {F : Hp} {v : V} {i : Int} : Rep K F (.int i) v ↔ v = .int i := by rw [Rep]
theorem rep_str {K : Fr0} {F : Hp} {v : V} {x : Str} : Rep K F (.str x) v ↔ v = .str x := by rw [Rep]
theorem rep_list {K : Fr0} {F : Hp} {v : V} {ds : List D} : Rep K F (.list ds) v ↔ ∃ a vs, v = .ref a ∧ SqL K F a vs ∧ Reps K F ds vs := by rw [Rep]
theorem rep_tuple {K : Fr0} {F : Hp} {v : V} {ds : List D} : Rep K F (.tuple ds) v ↔ ∃ a vs, v = .ref a ∧ SqT K F a vs ∧ Reps K F ds vs := by rw [Rep]
theorem rep_dict {K : Fr0} {F : Hp} {v : V} {ds : List (D × D)} : Rep K F (.dict ds) v ↔ ∃ a es, v = .ref a ∧ Rd F a (.dK es) ∧ RepK K F ds es := by rw [Rep]

theorem Reps.length {K : Fr0} {F : Hp} : ∀ {ds : List D} {vs : List V}, Reps K F ds vs → ds.length = vs.length
  | [], vs, h => by rw [reps_nil] at h; subst h; rfl
  | d :: ds, vs, h => by
    rw [reps_cons] at h
    obtain ⟨v, r, rfl, _, t⟩ := h
    simp [Reps.length t]
theorem Reps.get {K : Fr0} {F : Hp} : ∀ {ds : List D} {vs : List V} {i : Nat} {d : D}, Reps K F ds vs → ds[i]? = some d → ∃ v, vs[i]? = some v ∧ Rep K F d v
  | [], vs, i, d, h, e => by simp at e
  | d' :: ds, vs, 0, d, h, e => by
    rw [reps_cons] at h
    obtain ⟨v, r, rfl, q, t⟩ := h
    simp at e; subst e
    exact ⟨v, rfl, q⟩
  | d' :: ds, vs, i + 1, d, h, e => by
    rw [reps_cons] at h
    obtain ⟨v, r, rfl, q, t⟩ := h
    simp at e
    simpa using Reps.get (i := i) t e
theorem Reps.getV {K : Fr0} {F : Hp} : ∀ {ds : List D} {vs : List V} {i : Nat} {v : V}, Reps K F ds vs → vs[i]? = some v → ∃ d, ds[i]? = some d ∧ Rep K F d v := by
  intro ds vs i v h e
  have hl := h.length
  have hi : i < vs.length := (List.getElem?_eq_some_iff.mp e).1
  obtain ⟨v', e', r⟩ := h.get (i := i) (d := ds[i]'(by omega)) (by simp)
  rw [e] at e'; cases e'
  exact ⟨_, by simp, r⟩
theorem Reps.append {K : Fr0} {F : Hp} : ∀ {ds es : List D} {vs ws : List V}, Reps K F ds vs → Reps K F es ws → Reps K F (ds ++ es) (vs ++ ws)
  | [], es, vs, ws, h, q => by rw [reps_nil] at h; subst h; exact q
  | d :: ds, es, vs, ws, h, q => by
    rw [reps_cons] at h
    obtain ⟨v, r, rfl, h1, t⟩ := h
    rw [List.cons_append, List.cons_append, reps_cons]
    exact ⟨v, _, rfl, h1, Reps.append t q⟩
theorem Reps.one {K : Fr0} {F : Hp} {d : D} {v : V} (h : Rep K F d v) : Reps K F [d] [v] := by
  rw [reps_cons]; exact ⟨v, [], rfl, h, by rw [reps_nil]⟩
theorem Reps.take {K : Fr0} {F : Hp} : ∀ (n : Nat) {ds : List D} {vs : List V}, Reps K F ds vs → Reps K F (ds.take n) (vs.take n)
  | 0, _, _, _ => by simp [reps_nil]
  | n + 1, [], vs, h => by rw [reps_nil] at h; subst h; simp [reps_nil]
  | n + 1, d :: ds, vs, h => by
    rw [reps_cons] at h
    obtain ⟨v, r, rfl, h1, t⟩ := h
    rw [List.take_succ_cons, List.take_succ_cons, reps_cons]
    exact ⟨v, _, rfl, h1, Reps.take n t⟩
theorem Reps.drop {K : Fr0} {F : Hp} : ∀ (n : Nat) {ds : List D} {vs : List V}, Reps K F ds vs → Reps K F (ds.drop n) (vs.drop n)
  | 0, _, _, h => h
  | n + 1, [], vs, h => by rw [reps_nil] at h; subst h; simp [reps_nil]
  | n + 1, d :: ds, vs, h => by
    rw [reps_cons] at h
    obtain ⟨v, r, rfl, h1, t⟩ := h
    exact Reps.drop n t
theorem Reps.set {K : Fr0} {F : Hp} {d : D} {v : V} (q : Rep K F d v) : ∀ (i : Nat) {ds : List D} {vs : List V}, Reps K F ds vs → Reps K F (ds.set i d) (vs.set i v)
  | _, [], vs, h => by rw [reps_nil] at h; subst h; simp [reps_nil]
  | 0, _ :: ds, vs, h => by
    rw [reps_cons] at h
    obtain ⟨w, r, rfl, h1, t⟩ := h
    rw [List.set_cons_zero, List.set_cons_zero, reps_cons]
    exact ⟨v, _, rfl, q, t⟩
  | i + 1, _ :: ds, vs, h => by
    rw [reps_cons] at h
    obtain ⟨w, r, rfl, h1, t⟩ := h
    rw [List.set_cons_succ, List.set_cons_succ, reps_cons]
    exact ⟨w, _, rfl, h1, Reps.set q i t⟩
theorem Reps.reverse {K : Fr0} {F : Hp} : ∀ {ds : List D} {vs : List V}, Reps K F ds vs → Reps K F ds.reverse vs.reverse
  | [], vs, h => by rw [reps_nil] at h; subst h; simp [reps_nil]
  | d :: ds, vs, h => by
    rw [reps_cons] at h
    obtain ⟨w, r, rfl, h1, t⟩ := h
    rw [List.reverse_cons, List.reverse_cons]
    exact (Reps.reverse t).append (.one h1)

/-- a dict's pairs as data -/
def qD (kvs : List (Key × D)) : List (D × D) := kvs.map fun p => (kD p.1, p.2)
/-! ### exceptions -/
/-- an exception: its class by name, the field of its own (where it has one) -/
structure Exc where
  cls : String
  arg : Option D
/-- an exception that rests, at a -/
def exH (cls : Value) (d : Option Addr) (a : Addr) : HO := .ext fun h => ∃ (oe : Obj) (vs : Array Value), h.get? a = some oe ∧ oe.cls = cls ∧ oe.dict = d ∧ oe.data = .fields vs
/-- the fields' names of the text's classes -/
def exFields : List (String × String) := [("NoText", "part"), ("NotNow", "name"), ("NoRow", "number"), ("NoBook", "number"), ("NoLine", "line"), ("NoName", "name"), ("NoNeed", "line"), ("NoMark", "name"), ("NoCall", "row"), ("NoLog", "name")]
def exFld (n : String) : Option Str := (exFields.lookup n).map Str.ofString
/-- the names of the text's classes -/
def exAll : List String := ["NoText", "NoDeed", "NotNow", "NoRow", "NoBook", "NoLine", "NoStand", "NoName", "NoNeed", "NoMark", "NoJoin", "NoCall", "NoLog"]
/-- x is an exception of the class cls, its dict at d -/
def exOk (K : Fr0) (F : Hp) (x : Exc) (cls : Value) (d : Option Addr) : Prop :=
  x.cls ∈ exAll ∧ PySem.W.nsIn K mainGlobals (Str.ofString x.cls) = some (some cls) ∧ match x.arg with
    | none => exFld x.cls = none ∧ d = none
    | some a => ∃ dd nm v, exFld x.cls = some nm ∧ d = some dd ∧ F dd = some (.xd [(nm, v)]) ∧ Rep K F a v
theorem exOk.mono {K : Fr0} {F F' : Hp} (s : Same F F') {x : Exc} {cls : Value} {d : Option Addr} (h : exOk K F x cls d) : exOk K F' x cls d := by
  obtain ⟨c, a⟩ := x
  cases a with
  | none => exact h
  | some a =>
    obtain ⟨h0, h1, dd, nm, v, h2, h3, h4, h5⟩ := h
    exact ⟨h0, h1, dd, nm, v, h2, h3, s _ _ h4, Rep.mono s _ _ h5⟩
/-! ### slots -/
/-- a field of an object of one's own -/
inductive FV where
  | val (d : D)
  | lst (ds : List D)
  | dic (kvs : List (Key × D))
/-- what a slot of a frame holds: nothing that is told, data that never changes, or a list, a dict of one's own -/
inductive BT where
  | tup
  | lst
  | ins (cn : String) (fl : List Str)
inductive Slot where
  | emp
  | val (d : D)
  | lst (ds : List D)
  | dic (kvs : List (Key × D))
  | exn (x : Exc)
  | pr (d : D) (x : Option Exc)
  | obj (cn : String) (fs : List (Str × FV)) (dx : Addr) (ad : List Addr)
  | fro (cn : String) (fl : List Str) (ds : List D)
  | box (t : BT) (ss : List Slot)

abbrev En := List Slot
/-- None, or an exception object -/
def PrOk (K : Fr0) (F : Hp) : Option Exc → V → Prop
  | none, v => v = .non
  | some x, v => ∃ a cls d, v = .ref a ∧ F a = some (exH cls d a) ∧ exOk K F x cls d
/-- a class of the text, and that it bars none of the fields -/
structure Kls (K : Fr0) (cn : String) (C : Addr) (fl : List Str) : Prop where
  at_ : PySem.W.nsIn K mainGlobals (Str.ofString cn) = some (some (.ref C))
  cls : Cls K C
  na : ∀ f ∈ fl, NoAttr K C f
def FvOk (K : Fr0) (F H : Hp) : FV → V → Addr → Prop
  | .val d, v, _ => Rep K F d v
  | .lst ds, v, a => ∃ us, v = .ref a ∧ H a = some (.lst us) ∧ F a = none ∧ Reps K F ds us
  | .dic kvs, v, a => ∃ es, v = .ref a ∧ H a = some (.dK es) ∧ F a = none ∧ RepK K F (qD kvs) es
def FsOk (K : Fr0) (F H : Hp) : List (Str × FV) → List Addr → List (Str × V) → Prop
  | [], [], [] => True
  | f :: fs, a :: ad, w :: vs => w.1 = f.1 ∧ FvOk K F H f.2 w.2 a ∧ FsOk K F H fs ad vs
  | _, _, _ => False
/-- the addresses that the fields own -/
def ownA : List (Str × FV) → List Addr → List Addr
  | (_, .val _) :: fs, _ :: ad => ownA fs ad
  | _ :: fs, a :: ad => a :: ownA fs ad
  | _, _ => []
/-- the values in what lies at p -/
def boxVs (H : Hp) : BT → Addr → Option (List V)
  | .tup, p => match H p with
    | some (.tup vs) => some vs
    | _ => none
  | .lst, p => match H p with
    | some (.lst vs) => some vs
    | _ => none
  | .ins _ _, p => match H p with
    | some (.ins _ _ w) => some (w.map (·.2))
    | _ => none
/-- the addresses that it takes itself -/
def boxOwn (H : Hp) : BT → Addr → Addr → Prop
  | .tup, p, q => q = p
  | .lst, p, q => q = p
  | .ins _ _, p, q => q = p ∨ ∃ C w, H p = some (.ins C q w)
def BoxOk (K : Fr0) (F H : Hp) : BT → Addr → List V → Prop
  | .tup, p, vs => H p = some (.tup vs) ∧ F p = none
  | .lst, p, vs => H p = some (.lst vs) ∧ F p = none
  | .ins cn fl, p, vs => ∃ C dx w, H p = some (.ins C dx w) ∧ F p = none ∧ H dx = some (.own p) ∧ F dx = none ∧ dx ≠ p ∧ Kls K cn C fl ∧ w.map (·.1) = fl ∧ w.map (·.2) = vs
mutual
/-- the addresses that a slot owns -/
def Owns (H : Hp) : Slot → Option V → Addr → Prop
  | .lst _, some (.ref p), q => q = p
  | .dic _, some (.ref p), q => q = p
  | .obj _ fs dx ad, some (.ref o), q => q ∈ o :: dx :: ownA fs ad
  | .box t ss, some (.ref p), q => boxOwn H t p q ∨ ∃ vs, boxVs H t p = some vs ∧ OwnsS H ss vs q
  | _, _, _ => False
def OwnsS (H : Hp) : List Slot → List V → Addr → Prop
  | s :: ss, v :: vs, q => Owns H s (some v) q ∨ OwnsS H ss vs q
  | _, _, _ => False
end
mutual
def SlotOk (K : Fr0) (F H : Hp) : Slot → Option V → Prop
  | .emp, _ => True
  | .val d, v => ∃ x, v = some x ∧ Rep K F d x
  | .lst ds, v => ∃ p vs, v = some (.ref p) ∧ H p = some (.lst vs) ∧ F p = none ∧ Reps K F ds vs
  | .dic kvs, v => ∃ p es, v = some (.ref p) ∧ H p = some (.dK es) ∧ F p = none ∧ RepK K F (qD kvs) es
  | .exn x, v => ∃ a cls d, v = some (.ref a) ∧ F a = some (exH cls d a) ∧ exOk K F x cls d
  | .pr d x, v => ∃ p v1 v2, v = some (.ref p) ∧ SqT K F p [v1, v2] ∧ Rep K F d v1 ∧ PrOk K F x v2
  | .obj cn fs dx ad, v => ∃ o C vs, v = some (.ref o) ∧ Kls K cn C (fs.map (·.1)) ∧ H o = some (.ins C dx vs) ∧ F o = none ∧ H dx = some (.own o) ∧ F dx = none ∧ FsOk K F H fs ad vs ∧ (o :: dx :: ownA fs ad).Nodup
  | .fro cn fl ds, v => ∃ o C dx w, v = some (.ref o) ∧ Kls K cn C fl ∧ F o = some (.ins C dx w) ∧ F dx = some (.own o) ∧ w.map (·.1) = fl ∧ Reps K F ds (w.map (·.2))
  | .box t ss, v => ∃ p vs, v = some (.ref p) ∧ BoxOk K F H t p vs ∧ SlotsOk K F H ss vs ∧ ∀ q, boxOwn H t p q → ¬ OwnsS H ss vs q
def SlotsOk (K : Fr0) (F H : Hp) : List Slot → List V → Prop
  | [], [] => True
  | s :: ss, v :: vs => SlotOk K F H s (some v) ∧ (∀ q, Owns H s (some v) q → ¬ OwnsS H ss vs q) ∧ SlotsOk K F H ss vs
  | _, _ => False
end
theorem BoxOk.vs {K : Fr0} {F H : Hp} {t : BT} {p : Addr} {vs : List V} (h : BoxOk K F H t p vs) : boxVs H t p = some vs := by
  cases t with
  | tup => obtain ⟨h, _⟩ := h; simp [boxVs, h]
  | lst => obtain ⟨h, _⟩ := h; simp [boxVs, h]
  | ins cn fl => obtain ⟨C, dx, w, h, _, _, _, _, _, _, e⟩ := h; simp [boxVs, h, e]
def OwnE (H : Hp) (ρ : En) (σ : St) (q : Addr) : Prop := ∃ (i : Nat) (s : Slot) (v : Option V), ρ[i]? = some s ∧ σ[i]? = some v ∧ Owns H s v q

structure Rp (K : Fr0) (F H : Hp) (ρ : En) (σ : St) : Prop where
  len : ρ.length = σ.length
  sub : Same F H
  ok : ∀ (i : Nat) (s : Slot) (v : Option V), ρ[i]? = some s → σ[i]? = some v → SlotOk K F H s v
  dj : ∀ (i j : Nat) (s t : Slot) (v u : Option V) (q : Addr), ρ[i]? = some s → σ[i]? = some v → ρ[j]? = some t → σ[j]? = some u → Owns H s v q → Owns H t u q → i = j

theorem PrOk.mono {K : Fr0} {F F' : Hp} {x : Option Exc} {v : V} (h : PrOk K F x v) (s : Same F F') : PrOk K F' x v := by
  cases x with
  | none => exact h
  | some x => obtain ⟨a, cls, d, e, q, r⟩ := h; exact ⟨a, cls, d, e, s _ _ q, r.mono s⟩
/-- a step: F the part that never changes, O what is owned -/
structure Ext (F H : Hp) (O : Addr → Prop) (F' H' : Hp) (O' : Addr → Prop) : Prop where
  sub : Same F F'
  newF : ∀ a, F a = none → F' a ≠ none → H a = none ∨ O a
  keep : ∀ a o, H a = some o → ¬ O a → H' a = some o
  newO : ∀ a, O' a → H a = none ∨ O a

theorem Ext.refl {F H : Hp} {O : Addr → Prop} : Ext F H O F H O :=
  ⟨Same.refl _, fun a h h' => absurd h h', fun _ _ h _ => h, fun _ h => .inr h⟩
theorem Ext.trans {F H F1 H1 F2 H2 : Hp} {O O1 O2 : Addr → Prop} (a : Ext F H O F1 H1 O1) (b : Ext F1 H1 O1 F2 H2 O2) : Ext F H O F2 H2 O2 := by
  have back : ∀ p, (H1 p = none ∨ O1 p) → H p = none ∨ O p := fun p h => by
    rcases h with h | h
    · cases e : H p with
      | none => exact .inl rfl
      | some o =>
        by_cases ho : O p
        · exact .inr ho
        · rw [a.keep p o e ho] at h; cases h
    · exact a.newO p h
  refine ⟨a.sub.trans b.sub, fun p h h' => ?_, fun p o h ho => ?_, fun p h => back p (b.newO p h)⟩
  · by_cases e : F1 p = none
    · exact back p (b.newF p e h')
    · exact a.newF p h e
  · refine b.keep p o (a.keep p o h ho) fun h1 => ?_
    rcases a.newO p h1 with e | e
    · rw [h] at e; cases e
    · exact ho e
theorem Ext.weak {F H F1 H1 : Hp} {O P O1 P1 : Addr → Prop} (a : Ext F H O F1 H1 O1) (h : ∀ p, O p → P p) (h1 : ∀ p, P1 p → O1 p ∨ P p) : Ext F H P F1 H1 P1 :=
  ⟨a.sub, fun p q r => (a.newF p q r).imp_right (h p), fun p o q r => a.keep p o q fun z => r (h p z), fun p q => (h1 p q).elim (fun z => (a.newO p z).imp_right (h p)) .inr⟩
theorem Ext.fresh {F H F' H' : Hp} {O O' : Addr → Prop} (a : Ext F H O F' H' O') {p : Addr} (h : H' p = none) (hO : ¬ O p) : H p = none := by
  cases e : H p with
  | none => rfl
  | some o => rw [a.keep p o e hO] at h; cases h

theorem Owns.ref {H : Hp} {s : Slot} {v : Option V} {q : Addr} (h : Owns H s v q) : ∃ p, v = some (.ref p) := by
  cases s with
  | emp => cases h
  | val d => cases h
  | exn x => cases h
  | pr d x => cases h
  | fro _ _ _ => cases h
  | lst ds =>
    cases v with
    | none => cases h
    | some v => cases v <;> first | (exact False.elim h) | (exact ⟨_, rfl⟩)
  | dic ds =>
    cases v with
    | none => cases h
    | some v => cases v <;> first | (exact False.elim h) | (exact ⟨_, rfl⟩)
  | obj cn fs dx ad =>
    cases v with
    | none => cases h
    | some v => cases v <;> first | (exact False.elim h) | (exact ⟨_, rfl⟩)
  | box t ss =>
    cases v with
    | none => cases h
    | some v => cases v <;> first | (exact False.elim h) | (exact ⟨_, rfl⟩)
theorem Owns.none {H : Hp} {s : Slot} {q : Addr} : ¬ Owns H s none q := fun h => by
  obtain ⟨p, e⟩ := h.ref; cases e
theorem FsOk.own {K : Fr0} {F H : Hp} : ∀ {fs : List (Str × FV)} {ad : List Addr} {vs : List (Str × V)} {q : Addr}, FsOk K F H fs ad vs → q ∈ ownA fs ad → F q = none ∧ ∃ u, H q = some u
  | [], [], [], q, _, h => by cases h
  | [], [], _ :: _, q, h, _ => h.elim
  | [], _ :: _, _, q, h, _ => h.elim
  | _ :: _, [], _, q, h, _ => h.elim
  | _ :: _, _ :: _, [], q, h, _ => h.elim
  | (n, fv) :: fs, a :: ad, w :: vs, q, h, hq => by
    obtain ⟨-, h1, h2⟩ := h
    cases fv with
    | val d => exact FsOk.own h2 hq
    | lst ds =>
      obtain ⟨us, _, e1, e2, _⟩ := h1
      rcases List.mem_cons.mp hq with rfl | hq
      · exact ⟨e2, _, e1⟩
      · exact FsOk.own h2 hq
    | dic ds =>
      obtain ⟨us, _, e1, e2, _⟩ := h1
      rcases List.mem_cons.mp hq with rfl | hq
      · exact ⟨e2, _, e1⟩
      · exact FsOk.own h2 hq
theorem BoxOk.own {K : Fr0} {F H : Hp} {t : BT} {p q : Addr} {vs : List V} (h : BoxOk K F H t p vs) (o : boxOwn H t p q) : F q = none ∧ ∃ u, H q = some u := by
  cases t with
  | tup => obtain ⟨h1, h2⟩ := h; cases (show q = p from o); exact ⟨h2, _, h1⟩
  | lst => obtain ⟨h1, h2⟩ := h; cases (show q = p from o); exact ⟨h2, _, h1⟩
  | ins cn fl =>
    obtain ⟨C, dx, w, h1, h2, h3, h4, _⟩ := h
    rcases o with rfl | ⟨C', w', o⟩
    · exact ⟨h2, _, h1⟩
    · rw [h1] at o; cases o; exact ⟨h4, _, h3⟩
mutual
theorem SlotOk.own {K : Fr0} {F H : Hp} : ∀ {s : Slot} {v : Option V} {q : Addr}, SlotOk K F H s v → Owns H s v q → F q = none ∧ ∃ u, H q = some u
  | .emp, _, _, _, o => by cases o
  | .val d, _, _, _, o => by cases o
  | .exn x, _, _, _, o => by cases o
  | .pr d x, _, _, _, o => by cases o
  | .fro _ _ _, _, _, _, o => by cases o
  | .lst ds, _, q, h, o => by obtain ⟨p, vs, e, h1, h2, _⟩ := h; subst e; cases (show q = p from o); exact ⟨h2, _, h1⟩
  | .dic ds, _, q, h, o => by obtain ⟨p, vs, e, h1, h2, _⟩ := h; subst e; cases (show q = p from o); exact ⟨h2, _, h1⟩
  | .obj cn fs dx ad, _, q, h, o => by
    obtain ⟨p, C, vs, e, _, h1, h2, h3, h4, h5, _⟩ := h
    subst e
    rcases List.mem_cons.mp (show q ∈ p :: dx :: ownA fs ad from o) with rfl | hq
    · exact ⟨h2, _, h1⟩
    · rcases List.mem_cons.mp hq with rfl | hq
      · exact ⟨h4, _, h3⟩
      · exact h5.own hq
  | .box t ss, _, q, h, o => by
    obtain ⟨p, vs, e, hb, hs, _⟩ := h
    subst e
    rcases (show boxOwn H t p q ∨ ∃ vs, boxVs H t p = some vs ∧ OwnsS H ss vs q from o) with o | ⟨vs', e, o⟩
    · exact hb.own o
    · rw [hb.vs] at e; cases e
      exact SlotsOk.own hs o
theorem SlotsOk.own {K : Fr0} {F H : Hp} : ∀ {ss : List Slot} {vs : List V} {q : Addr}, SlotsOk K F H ss vs → OwnsS H ss vs q → F q = none ∧ ∃ u, H q = some u
  | [], _, _, _, o => by cases o
  | _ :: _, [], _, h, _ => h.elim
  | s :: ss, v :: vs, q, h, o => by
    rcases (show Owns H s (some v) q ∨ OwnsS H ss vs q from o) with o | o
    · exact SlotOk.own h.1 o
    · exact SlotsOk.own h.2.2 o
end
theorem Ext.stay {F H F' H' : Hp} {O O' : Addr → Prop} (x : Ext F H O F' H' O') {p : Addr} {o : HO} (h1 : H p = some o) (h2 : F p = none) (no : ¬ O p) : H' p = some o ∧ F' p = none := by
  refine ⟨x.keep p _ h1 no, ?_⟩
  cases e : F' p with
  | none => rfl
  | some o =>
    rcases x.newF p h2 (by rw [e]; simp) with z | z
    · rw [h1] at z; cases z
    · exact absurd z no
theorem FsOk.ext {K : Fr0} {F H F' H' : Hp} {O O' : Addr → Prop} (x : Ext F H O F' H' O') : ∀ {fs : List (Str × FV)} {ad : List Addr} {vs : List (Str × V)}, FsOk K F H fs ad vs → (∀ q ∈ ownA fs ad, ¬ O q) → FsOk K F' H' fs ad vs
  | [], [], [], _, _ => trivial
  | [], [], _ :: _, h, _ => h.elim
  | [], _ :: _, _, h, _ => h.elim
  | _ :: _, [], _, h, _ => h.elim
  | _ :: _, _ :: _, [], h, _ => h.elim
  | (n, fv) :: fs, a :: ad, w :: vs, h, dj => by
    obtain ⟨h0, h1, h2⟩ := h
    cases fv with
    | val d => exact ⟨h0, Rep.mono x.sub _ _ h1, FsOk.ext x h2 dj⟩
    | lst ds =>
      obtain ⟨us, e0, e1, e2, r⟩ := h1
      obtain ⟨k1, k2⟩ := x.stay e1 e2 (dj a List.mem_cons_self)
      exact ⟨h0, ⟨us, e0, k1, k2, Reps.mono x.sub _ _ r⟩, FsOk.ext x h2 fun q hq => dj q (List.mem_cons_of_mem _ hq)⟩
    | dic ds =>
      obtain ⟨us, e0, e1, e2, r⟩ := h1
      obtain ⟨k1, k2⟩ := x.stay e1 e2 (dj a List.mem_cons_self)
      exact ⟨h0, ⟨us, e0, k1, k2, RepK.mono x.sub _ _ r⟩, FsOk.ext x h2 fun q hq => dj q (List.mem_cons_of_mem _ hq)⟩
theorem BoxOk.ext {K : Fr0} {F H F' H' : Hp} {O O' : Addr → Prop} {t : BT} {p : Addr} {vs : List V} (h : BoxOk K F H t p vs) (x : Ext F H O F' H' O') (dj : ∀ q, boxOwn H t p q → ¬ O q) : BoxOk K F' H' t p vs ∧ ∀ q, boxOwn H' t p q ↔ boxOwn H t p q := by
  cases t with
  | tup =>
    obtain ⟨h1, h2⟩ := h
    obtain ⟨a, b⟩ := x.stay h1 h2 (dj p rfl)
    exact ⟨⟨a, b⟩, fun q => Iff.rfl⟩
  | lst =>
    obtain ⟨h1, h2⟩ := h
    obtain ⟨a, b⟩ := x.stay h1 h2 (dj p rfl)
    exact ⟨⟨a, b⟩, fun q => Iff.rfl⟩
  | ins cn fl =>
    obtain ⟨C, dx, w, h1, h2, h3, h4, r⟩ := h
    obtain ⟨a1, a2⟩ := x.stay h1 h2 (dj p (.inl rfl))
    obtain ⟨b1, b2⟩ := x.stay h3 h4 (dj dx (.inr ⟨C, w, h1⟩))
    refine ⟨⟨C, dx, w, a1, a2, b1, b2, r⟩, fun q => ?_⟩
    constructor
    · rintro (rfl | ⟨C', w', e⟩)
      · exact .inl rfl
      · rw [a1] at e; cases e; exact .inr ⟨C, w, h1⟩
    · rintro (rfl | ⟨C', w', e⟩)
      · exact .inl rfl
      · rw [h1] at e; cases e; exact .inr ⟨C, w, a1⟩
mutual
/-- a slot apart from what changes stays, and owns what it owned -/
theorem SlotOk.ext2 {K : Fr0} {F H F' H' : Hp} {O O' : Addr → Prop} (x : Ext F H O F' H' O') : ∀ {s : Slot} {v : Option V}, SlotOk K F H s v → (∀ q, Owns H s v q → ¬ O q) → SlotOk K F' H' s v ∧ ∀ q, Owns H' s v q ↔ Owns H s v q
  | .emp, _, _, _ => ⟨trivial, fun q => Iff.rfl⟩
  | .val d, _, h, _ => by obtain ⟨y, e, r⟩ := h; exact ⟨⟨y, e, Rep.mono x.sub _ _ r⟩, fun q => Iff.rfl⟩
  | .exn z, _, h, _ => by obtain ⟨a, cls, d, e, q, r⟩ := h; exact ⟨⟨a, cls, d, e, x.sub _ _ q, r.mono x.sub⟩, fun q => Iff.rfl⟩
  | .pr d z, _, h, _ => by obtain ⟨p, v1, v2, e, q, r, k⟩ := h; exact ⟨⟨p, v1, v2, e, SqT.mono x.sub q, Rep.mono x.sub _ _ r, k.mono x.sub⟩, fun q => Iff.rfl⟩
  | .fro cn fl ds, _, h, _ => by obtain ⟨o, C, dx, w, e, kl, h1, h2, h3, r⟩ := h; exact ⟨⟨o, C, dx, w, e, kl, x.sub _ _ h1, x.sub _ _ h2, h3, Reps.mono x.sub _ _ r⟩, fun q => Iff.rfl⟩
  | .obj cn fs dx ad, _, h, dj => by
    obtain ⟨o, C, vs, rfl, kl, h1, h2, h3, h4, h5, nd⟩ := h
    obtain ⟨a1, a2⟩ := x.stay h1 h2 (dj o (by show o ∈ o :: dx :: ownA fs ad; simp))
    obtain ⟨b1, b2⟩ := x.stay h3 h4 (dj dx (by show dx ∈ o :: dx :: ownA fs ad; simp))
    exact ⟨⟨o, C, vs, rfl, kl, a1, a2, b1, b2, h5.ext x fun q hq => dj q (by show q ∈ o :: dx :: ownA fs ad; simp [hq]), nd⟩, fun q => Iff.rfl⟩
  | .lst ds, _, h, dj => by
    obtain ⟨p, vs, rfl, h1, h2, r⟩ := h
    obtain ⟨a, b⟩ := x.stay h1 h2 (dj p rfl)
    exact ⟨⟨p, vs, rfl, a, b, Reps.mono x.sub _ _ r⟩, fun q => Iff.rfl⟩
  | .dic ds, _, h, dj => by
    obtain ⟨p, vs, rfl, h1, h2, r⟩ := h
    obtain ⟨a, b⟩ := x.stay h1 h2 (dj p rfl)
    exact ⟨⟨p, vs, rfl, a, b, RepK.mono x.sub _ _ r⟩, fun q => Iff.rfl⟩
  | .box t ss, _, h, dj => by
    obtain ⟨p, vs, rfl, hb, hs, nd⟩ := h
    obtain ⟨hb', ob⟩ := hb.ext x fun q o => dj q (.inl o)
    obtain ⟨hs', os⟩ := SlotsOk.ext2 x hs fun q o => dj q (.inr ⟨vs, hb.vs, o⟩)
    refine ⟨⟨p, vs, rfl, hb', hs', fun q o z => nd q ((ob q).mp o) ((os q).mp z)⟩, fun q => ?_⟩
    show (boxOwn H' t p q ∨ ∃ vs, boxVs H' t p = some vs ∧ OwnsS H' ss vs q) ↔ (boxOwn H t p q ∨ ∃ vs, boxVs H t p = some vs ∧ OwnsS H ss vs q)
    rw [hb.vs, hb'.vs]
    constructor
    · rintro (o | ⟨vs', e, o⟩)
      · exact .inl ((ob q).mp o)
      · cases e; exact .inr ⟨_, rfl, (os q).mp o⟩
    · rintro (o | ⟨vs', e, o⟩)
      · exact .inl ((ob q).mpr o)
      · cases e; exact .inr ⟨_, rfl, (os q).mpr o⟩
theorem SlotsOk.ext2 {K : Fr0} {F H F' H' : Hp} {O O' : Addr → Prop} (x : Ext F H O F' H' O') : ∀ {ss : List Slot} {vs : List V}, SlotsOk K F H ss vs → (∀ q, OwnsS H ss vs q → ¬ O q) → SlotsOk K F' H' ss vs ∧ ∀ q, OwnsS H' ss vs q ↔ OwnsS H ss vs q
  | [], [], _, _ => ⟨trivial, fun q => Iff.rfl⟩
  | [], _ :: _, h, _ => h.elim
  | _ :: _, [], h, _ => h.elim
  | s :: ss, v :: vs, h, dj => by
    obtain ⟨h1, nd, h2⟩ := h
    obtain ⟨a1, o1⟩ := SlotOk.ext2 x h1 fun q o => dj q (.inl o)
    obtain ⟨a2, o2⟩ := SlotsOk.ext2 x h2 fun q o => dj q (.inr o)
    exact ⟨⟨a1, fun q o z => nd q ((o1 q).mp o) ((o2 q).mp z), a2⟩, fun q => or_congr (o1 q) (o2 q)⟩
end
theorem SlotOk.ext {K : Fr0} {F H F' H' : Hp} {O O' : Addr → Prop} {s : Slot} {v : Option V} (h : SlotOk K F H s v) (x : Ext F H O F' H' O') (dj : ∀ q, Owns H s v q → ¬ O q) : SlotOk K F' H' s v := (SlotOk.ext2 x h dj).1
theorem SlotOk.extO {K : Fr0} {F H F' H' : Hp} {O O' : Addr → Prop} {s : Slot} {v : Option V} {q : Addr} (h : SlotOk K F H s v) (x : Ext F H O F' H' O') (dj : ∀ q, Owns H s v q → ¬ O q) : Owns H' s v q ↔ Owns H s v q := (SlotOk.ext2 x h dj).2 q
/-- .. and owns nothing of what is owned then -/
theorem Ext.apart {K : Fr0} {F H F' H' : Hp} {O O' : Addr → Prop} {s : Slot} {v : Option V} (x : Ext F H O F' H' O') (h : SlotOk K F H s v) (dj : ∀ q, Owns H s v q → ¬ O q) : ∀ q, Owns H' s v q → ¬ O' q := fun q o z => by
  have o := (h.extO x dj).mp o
  rcases x.newO q z with e | e
  · obtain ⟨_, u, hu⟩ := h.own o
    rw [hu] at e; cases e
  · exact dj q o e

section
variable {K : Fr0} {F H F' H' : Hp} {ρ : En} {σ : St} {i : Nat} {s : Slot} {v : Option V}
theorem Rp.ownF (R : Rp K F H ρ σ) {q : Addr} (o : OwnE H ρ σ q) : F q = none ∧ ∃ u, H q = some u := by
  obtain ⟨i, s, v, h1, h2, h3⟩ := o
  exact (R.ok i s v h1 h2).own h3
theorem Rp.get (R : Rp K F H ρ σ) (h : ρ[i]? = some s) : ∃ v, σ[i]? = some v ∧ SlotOk K F H s v := by
  have hi : i < ρ.length := (List.getElem?_eq_some_iff.mp h).1
  have hl := R.len
  refine ⟨σ[i]'(by omega), by simp, R.ok i s _ h (by simp)⟩
theorem ownE_set {q : Addr} (h : OwnE H (ρ.set i s) (σ.set i v) q) : Owns H s v q ∨ OwnE H ρ σ q := by
  obtain ⟨j, t, u, h1, h2, h3⟩ := h
  by_cases e : i = j
  · subst e
    by_cases hl : i < ρ.length
    · rw [List.getElem?_set_self hl] at h1; cases h1
      by_cases hl' : i < σ.length
      · rw [List.getElem?_set_self hl'] at h2; cases h2
        exact .inl h3
      · rw [List.getElem?_eq_none (by simpa using hl')] at h2; cases h2
    · rw [List.getElem?_eq_none (by simpa using hl)] at h1; cases h1
  · rw [List.getElem?_set_ne e] at h1 h2
    exact .inr ⟨j, t, u, h1, h2, h3⟩
theorem ownE_set_ne {q : Addr} (h : OwnE H (ρ.set i s) (σ.set i v) q) : (i < ρ.length ∧ i < σ.length ∧ Owns H s v q) ∨ ∃ (j : Nat) (t : Slot) (u : Option V), j ≠ i ∧ ρ[j]? = some t ∧ σ[j]? = some u ∧ Owns H t u q := by
  obtain ⟨j, t, u, h1, h2, h3⟩ := h
  by_cases e : i = j
  · subst e
    by_cases hl : i < ρ.length
    · rw [List.getElem?_set_self hl] at h1; cases h1
      by_cases hl' : i < σ.length
      · rw [List.getElem?_set_self hl'] at h2; cases h2
        exact .inl ⟨hl, hl', h3⟩
      · rw [List.getElem?_eq_none (by simpa using hl')] at h2; cases h2
    · rw [List.getElem?_eq_none (by simpa using hl)] at h1; cases h1
  · rw [List.getElem?_set_ne e] at h1 h2
    exact .inr ⟨j, t, u, fun z => e z.symm, h1, h2, h3⟩
/-- a slot is written; the rest is as it was in F, H, now in F', H' -/
theorem Rp.set (R : Rp K F H ρ σ) (sub : Same F' H') (hs : SlotOk K F' H' s v)
    (rest : ∀ (j : Nat) (t : Slot) (u : Option V), j ≠ i → ρ[j]? = some t → σ[j]? = some u → SlotOk K F' H' t u) (dj : ∀ (q : Addr) (j : Nat) (t : Slot) (u : Option V), Owns H' s v q → j ≠ i → ρ[j]? = some t → σ[j]? = some u → ¬ Owns H' t u q)
    (ow : ∀ (q : Addr) (j : Nat) (t : Slot) (u : Option V), j ≠ i → ρ[j]? = some t → σ[j]? = some u → Owns H' t u q → Owns H t u q := by intros; assumption) : Rp K F' H' (ρ.set i s) (σ.set i v) := by
  have at_i : ∀ {t u}, (ρ.set i s)[i]? = some t → (σ.set i v)[i]? = some u → t = s ∧ u = v := fun {t u} h1 h2 => by
    have l1 : i < ρ.length := by have := (List.getElem?_eq_some_iff.mp h1).1; simpa using this
    have l2 : i < σ.length := by have := (List.getElem?_eq_some_iff.mp h2).1; simpa using this
    rw [List.getElem?_set_self l1] at h1
    rw [List.getElem?_set_self l2] at h2
    cases h1; cases h2; exact ⟨rfl, rfl⟩
  refine ⟨by simp [R.len], sub, fun j t u h1 h2 => ?_, fun j k t t' u u' q h1 h2 h3 h4 o1 o2 => ?_⟩
  · by_cases e : i = j
    · subst e
      obtain ⟨rfl, rfl⟩ := at_i h1 h2
      exact hs
    · rw [List.getElem?_set_ne e] at h1 h2
      exact rest j t u (fun z => e z.symm) h1 h2
  · by_cases e : i = j
    · subst e
      obtain ⟨rfl, rfl⟩ := at_i h1 h2
      by_cases e' : i = k
      · exact e'
      · rw [List.getElem?_set_ne e'] at h3 h4
        exact absurd o2 (dj q k t' u' o1 (fun z => e' z.symm) h3 h4)
    · rw [List.getElem?_set_ne e] at h1 h2
      by_cases e' : i = k
      · subst e'
        obtain ⟨rfl, rfl⟩ := at_i h3 h4
        exact absurd o1 (dj q j t u o2 (fun z => e z.symm) h1 h2)
      · rw [List.getElem?_set_ne e'] at h3 h4
        exact R.dj j k t t' u u' q h1 h2 h3 h4 (ow q j t u (fun z => e z.symm) h1 h2 o1) (ow q k t' u' (fun z => e' z.symm) h3 h4 o2)
/-- the whole environment apart from what changes stays -/
theorem Rp.ext {O O' : Addr → Prop} (R : Rp K F H ρ σ) (x : Ext F H O F' H' O') (sub : Same F' H') (dj : ∀ q, OwnE H ρ σ q → ¬ O q) : Rp K F' H' ρ σ :=
  ⟨R.len, sub, fun i s v h1 h2 => (R.ok i s v h1 h2).ext x fun q o => dj q ⟨i, s, v, h1, h2, o⟩, fun i j s t v u q h1 h2 h3 h4 o1 o2 =>
    R.dj i j s t v u q h1 h2 h3 h4 (((R.ok i s v h1 h2).extO x fun q o => dj q ⟨i, s, v, h1, h2, o⟩).mp o1) (((R.ok j t u h3 h4).extO x fun q o => dj q ⟨j, t, u, h3, h4, o⟩).mp o2)⟩
/-- .. and owns what it owned -/
theorem Rp.extO {O O' : Addr → Prop} (R : Rp K F H ρ σ) (x : Ext F H O F' H' O') (dj : ∀ q, OwnE H ρ σ q → ¬ O q) {q : Addr} : OwnE H' ρ σ q ↔ OwnE H ρ σ q := by
  constructor
  · rintro ⟨i, s, v, h1, h2, o⟩
    exact ⟨i, s, v, h1, h2, ((R.ok i s v h1 h2).extO x fun q o => dj q ⟨i, s, v, h1, h2, o⟩).mp o⟩
  · rintro ⟨i, s, v, h1, h2, o⟩
    exact ⟨i, s, v, h1, h2, ((R.ok i s v h1 h2).extO x fun q o => dj q ⟨i, s, v, h1, h2, o⟩).mpr o⟩
end
end SD

set_option Elab.async false
set_option linter.all false
set_option autoImplicit false
set_option maxRecDepth 100000
set_option maxHeartbeats 4000000
/-! SD, part B: what code does, as functions on environments; the judgements that tie them to the text. -/
namespace SD
open PySem PySem.Spec PyProof.Rows L2

inductive Out (α : Type) where
  | ok (a : α) (ρ : En)
  | exc (x : Exc) (ρ : En)
  | bad
abbrev M (α : Type) := En → Out α
def Out.bind {α β : Type} (o : Out α) (k : α → M β) : Out β := match o with
  | .ok a ρ => k a ρ
  | .exc x ρ => .exc x ρ
  | .bad => .bad
/-- how a statement ends -/
inductive Fl where
  | next | brk | cont | ret (s : Slot)
/-- an argument: a name's slot, or an expression -/
inductive AE where
  | nm (i : Nat)
  | ex (f : M Slot)
  | fld (i : Nat) (f : Str)
inductive Arg where
  | nm (i : Nat)
  | sl (s : Slot)
  | fl (i : Nat) (f : Str) (a : Addr)

def Slot.isSome : Slot → Bool
  | .emp => false
  | _ => true
def Slot.isCell : Slot → Bool
  | .lst _ => true
  | .dic _ => true
  | .obj _ _ _ _ => true
  | .box _ _ => true
  | _ => false
/-- a slot's content as data -/
def Slot.data : Slot → Option D
  | .emp => none
  | .val d => some d
  | .lst ds => some (.list ds)
  | .dic kvs => some (.dict (qD kvs))
  | .exn _ => none
  | .pr _ _ => none
  | .obj _ _ _ _ => none
  | .fro _ _ _ => none
  | .box _ _ => none
/-- where a field lies -/
def fldAt : List (Str × FV) → List Addr → Str → Option (FV × Addr)
  | (n, fv) :: fs, a :: ad, f => if n = f then some (fv, a) else fldAt fs ad f
  | _, _, _ => none
def FV.cell : FV → Slot
  | .val _ => .emp
  | .lst ds => .lst ds
  | .dic kvs => .dic kvs
/-- the address of a field that is a list or a dict -/
def Slot.fadr (f : Str) : Slot → Option Addr
  | .obj _ fs _ ad => (fldAt fs ad f).bind fun p => if p.1.cell.isSome then some p.2 else none
  | _ => none
/-- a field's content, at its address -/
def Slot.fcell (f : Str) (a : Addr) : Slot → Slot
  | .obj _ fs _ ad => match fldAt fs ad f with
    | some p => if p.2 = a then p.1.cell else .emp
    | none => .emp
  | _ => .emp
def En.at (ρ : En) (i : Nat) : Slot := (ρ[i]?).getD .emp
def evA : AE → M Arg
  | .nm i => fun ρ => if (En.at ρ i).isSome then .ok (.nm i) ρ else .bad
  | .ex f => fun ρ => (f ρ).bind fun s ρ' => .ok (.sl s) ρ'
  | .fld i f => fun ρ => match (En.at ρ i).fadr f with
    | some a => .ok (.fl i f a) ρ
    | none => .bad
def evAs : List AE → M (List Arg)
  | [] => fun ρ => .ok [] ρ
  | a :: as => fun ρ => (evA a ρ).bind fun g ρ1 => (evAs as ρ1).bind fun gs ρ2 => .ok (g :: gs) ρ2
def Arg.slot (ρ : En) : Arg → Slot
  | .nm i => En.at ρ i
  | .sl s => s
  | .fl i f a => (En.at ρ i).fcell f a
/-- the arguments' content, as they stand when all are reckoned -/
def argDs (ρ : En) : List Arg → Option (List D)
  | [] => some []
  | g :: gs => (g.slot ρ).data.bind fun d => (argDs ρ gs).bind fun ds => some (d :: ds)
/-- an operation on data -/
def mPrim (p : List D → Option Slot) (as : List AE) : M Slot := fun ρ => (evAs as ρ).bind fun gs ρ' =>
  match (argDs ρ' gs).bind p with
  | some s => .ok s ρ'
  | none => .bad
/-- a name as a value that stays: what it owns it owns no more -/
def mVar (i : Nat) : M Slot := fun ρ => match (En.at ρ i).data with
  | some d => .ok (.val d) (ρ.set i (.val d))
  | none => .bad
def mC (d : D) : M Slot := fun ρ => .ok (.val d) ρ
/-- the values of a row of expressions, that stay -/
def mVals : List (M Slot) → M (List D)
  | [] => fun ρ => .ok [] ρ
  | f :: fs => fun ρ => (f ρ).bind fun s ρ1 => match s.data with
    | some d => (mVals fs ρ1).bind fun ds ρ2 => .ok (d :: ds) ρ2
    | none => .bad
def lineOk (n : Nat) : Bool := decide (n ≤ 16777216)
def mTup (fs : List (M Slot)) : M Slot := fun ρ => (mVals fs ρ).bind fun ds ρ' => if lineOk ds.length then .ok (.val (.tuple ds)) ρ' else .bad
def mLst (fs : List (M Slot)) : M Slot := fun ρ => (mVals fs ρ).bind fun ds ρ' => if lineOk ds.length then .ok (.lst ds) ρ' else .bad

/-! ### what lies at a value -/
/-- data at a value now: a list or dict at the top may be one that changes -/
def RepT (K : Fr0) (F H : Hp) : D → V → Prop
  | .list ds, v => ∃ a vs, v = .ref a ∧ SqL K H a vs ∧ Reps K F ds vs
  | .dict kvs, v => ∃ a es, v = .ref a ∧ Rd H a (.dK es) ∧ RepK K F kvs es
  | d, v => Rep K F d v
theorem Rep.top {K : Fr0} {F H : Hp} (s : Same F H) {d : D} {v : V} (h : Rep K F d v) : RepT K F H d v := by
  cases d with
  | list ds => rw [rep_list] at h; obtain ⟨a, vs, e, q, r⟩ := h; exact ⟨a, vs, e, SqL.mono s q, r⟩
  | dict ds => rw [rep_dict] at h; obtain ⟨a, vs, e, q, r⟩ := h; exact ⟨a, vs, e, Rd.mono s q, r⟩
  | _ => exact h
theorem RepT.deep {K : Fr0} {F H : Hp} (s : Same F H) {d : D} {v : V} (h : RepT K F H d v) : Rep K H d v := by
  cases d with
  | list ds => obtain ⟨a, vs, e, q, r⟩ := h; rw [rep_list]; exact ⟨a, vs, e, q, Reps.mono s _ _ r⟩
  | dict ds => obtain ⟨a, vs, e, q, r⟩ := h; rw [rep_dict]; exact ⟨a, vs, e, q, RepK.mono s _ _ r⟩
  | none => exact Rep.mono s _ _ h
  | bool b => exact Rep.mono s _ _ h
  | int b => exact Rep.mono s _ _ h
  | str b => exact Rep.mono s _ _ h
  | tuple b => exact Rep.mono s _ _ h
theorem SlotOk.top {K : Fr0} {F H : Hp} (sub : Same F H) {s : Slot} {v : V} {d : D} (h : SlotOk K F H s (some v)) (e : s.data = some d) : RepT K F H d v := by
  cases s with
  | emp => cases e
  | exn x => cases e
  | pr d x => cases e
  | obj _ _ _ _ => cases e
  | fro _ _ _ => cases e
  | box _ _ => cases e
  | val d' => cases e; obtain ⟨x, ex, r⟩ := h; cases ex; exact r.top sub
  | lst ds => cases e; obtain ⟨p, vs, ep, h1, _, r⟩ := h; cases ep; exact ⟨p, vs, rfl, SqL.of h1, r⟩
  | dic ds => cases e; obtain ⟨p, vs, ep, h1, _, r⟩ := h; cases ep; exact ⟨p, vs, rfl, .inl h1, r⟩

/-- a new value, all else as it was -/
structure Res1 (K : Fr0) (F H F' H' : Hp) (s : Slot) (v : V) : Prop where
  sub' : Same F' H'
  ok : SlotOk K F' H' s (some v)
  same : Same H H'
  sub : Same F F'
  newF : ∀ a, F a = none → F' a ≠ none → H a = none
  own : ∀ q, Owns H' s (some v) q → H q = none
theorem Res1.val {K : Fr0} {F H : Hp} {d : D} {v : V} (s : Same F H) (h : Rep K F d v) : Res1 K F H F H (.val d) v :=
  ⟨s, ⟨v, rfl, h⟩, Same.refl _, Same.refl _, fun a e e' => absurd e e', fun _ o => o.elim⟩
theorem same_upd {H : Hp} {p : Addr} {o : HO} (h : H p = none) : Same H (upd H p o) := fun b u e => by
  rw [upd_ne (ne_of_none e h)]; exact e
theorem Res1.lst {K : Fr0} {F H : Hp} {ds : List D} {vs : List V} {p : Addr} (s : Same F H) (h : Reps K F ds vs) (n : H p = none) : Res1 K F H F (upd H p (.lst vs)) (.lst ds) (.ref p) :=
  ⟨s.trans (same_upd n), ⟨p, vs, rfl, upd_same, s.free n, h⟩, same_upd n, Same.refl _, fun a e e' => absurd e e', fun q o => by cases (show q = p from o); exact n⟩
theorem Res1.dic {K : Fr0} {F H : Hp} {ds : List (Key × D)} {vs : List (Key × V)} {p : Addr} (s : Same F H) (h : RepK K F (qD ds) vs) (n : H p = none) : Res1 K F H F (upd H p (.dK vs)) (.dic ds) (.ref p) :=
  ⟨s.trans (same_upd n), ⟨p, vs, rfl, upd_same, s.free n, h⟩, same_upd n, Same.refl _, fun a e e' => absurd e e', fun q o => by cases (show q = p from o); exact n⟩
theorem same_upd2 {F H : Hp} {p : Addr} {o : HO} (s : Same F H) (h : H p = none) : Same (upd F p o) (upd H p o) := fun b u e => by
  by_cases hb : b = p
  · subst hb; rw [upd_same] at e ⊢; exact e
  · rw [upd_ne hb] at e ⊢; exact s b u e
theorem Res1.tup {K : Fr0} {F H : Hp} {ds : List D} {vs : List V} {p : Addr} (s : Same F H) (h : Reps K F ds vs) (n : H p = none) : Res1 K F H (upd F p (.tup vs)) (upd H p (.tup vs)) (.val (.tuple ds)) (.ref p) := by
  have sF := same_upd (o := .tup vs) (s.free n)
  refine ⟨same_upd2 s n, ⟨.ref p, rfl, ?_⟩, same_upd n, sF, fun a e e' => ?_, fun _ o => o.elim⟩
  · rw [rep_tuple]; exact ⟨p, vs, rfl, SqT.of upd_same, Reps.mono sF _ _ h⟩
  · by_cases ha : a = p
    · subst ha; exact n
    · rw [upd_ne ha] at e'; exact absurd e e'

/-! ### behind an expression -/
def ArgOk (K : Fr0) (F H : Hp) (ρ : En) (σ : St) : Arg → V → Prop
  | .nm i, v => σ[i]? = some (some v)
  | .fl _ _ a, v => v = .ref a
  | .sl s, v => SlotOk K F H s (some v) ∧ ∀ q, Owns H s (some v) q → ¬ OwnE H ρ σ q
def OwnsG (H : Hp) : Arg → V → Addr → Prop
  | .nm _, _, _ => False
  | .fl _ _ _, _, _ => False
  | .sl s, v, q => Owns H s (some v) q
def OwnsL (H : Hp) : List Arg → List V → Addr → Prop
  | g :: gs, v :: vs, q => OwnsG H g v q ∨ OwnsL H gs vs q
  | _, _, _ => False
structure Post (K : Fr0) (F H : Hp) (ρ : En) (σ : St) (F' H' : Hp) (ρ' : En) (g : Arg) (v : V) : Prop where
  rp : Rp K F' H' ρ' σ
  ok : ArgOk K F' H' ρ' σ g v
  ext : Ext F H (OwnE H ρ σ) F' H' (fun q => OwnsG H' g v q ∨ OwnE H' ρ' σ q)
def ArgsOk (K : Fr0) (F H : Hp) (ρ : En) (σ : St) : List Arg → List V → Prop
  | [], [] => True
  | g :: gs, v :: vs => ArgOk K F H ρ σ g v ∧ (∀ q, OwnsG H g v q → ¬ OwnsL H gs vs q) ∧ ArgsOk K F H ρ σ gs vs
  | _, _ => False
structure PostL (K : Fr0) (F H : Hp) (ρ : En) (σ : St) (F' H' : Hp) (ρ' : En) (gs : List Arg) (vs : List V) : Prop where
  rp : Rp K F' H' ρ' σ
  ok : ArgsOk K F' H' ρ' σ gs vs
  ext : Ext F H (OwnE H ρ σ) F' H' (fun q => OwnsL H' gs vs q ∨ OwnE H' ρ' σ q)

def Out.sat {α : Type} (o : Out α) (k : α → En → Prop) (x : Exc → En → Prop) : Prop := match o with
  | .ok a ρ => k a ρ
  | .exc e ρ => x e ρ
  | .bad => False
theorem Out.sat_bind {α β : Type} {o : Out α} {f : α → M β} {k : β → En → Prop} {x : Exc → En → Prop} : (o.bind f).sat k x ↔ o.sat (fun a ρ => (f a ρ).sat k x) x := by
  cases o <;> exact Iff.rfl
theorem Out.sat_mono {α : Type} {o : Out α} {k k' : α → En → Prop} {x x' : Exc → En → Prop} (h : o.sat k x) (hk : ∀ a ρ, o = .ok a ρ → k a ρ → k' a ρ) (hx : ∀ a ρ, x a ρ → x' a ρ) : o.sat k' x' := by
  cases o with
  | ok a ρ => exact hk _ _ rfl h
  | exc e ρ => exact hx _ _ h
  | bad => exact h

/-- the exception classes: name, the class, its field's name -/
abbrev ExI := String → Option (Value × Option Str)
def XR (_ : ExI) (K : Fr0) (x : Exc) (cls : Value) (d : Option Addr) (F _ : Hp) : Prop := exOk K F x cls d
def XC (X : Cx) (W : WX) (I : ExI) (F H : Hp) (O : Addr → Prop) (σ : St) (x : Exc) (ρ' : En) : Prop :=
  ∀ F' H' cls d, XR I X.K x cls d F' H' → Rp X.K F' H' ρ' σ → Ext F H O F' H' (OwnE H' ρ' σ) → W cls d σ H'

section
variable {X : Cx} {W : WX} {I : ExI}
/-- an argument -/
structure CA (X : Cx) (W : WX) (I : ExI) (a : AE) (e : Expr) : Prop where
  run : ∃ t, PE X e t ∧ ∀ (F H : Hp) (ρ : En) (σ : St) (Q : VK), Rp X.K F H ρ σ →
    (evA a ρ).sat (fun g ρ' => ∀ F' H' v, Post X.K F H ρ σ F' H' ρ' g v → Q v H') (XC X W I F H (OwnE H ρ σ) σ) → t σ H Q
/-- an expression -/
abbrev CE (X : Cx) (W : WX) (I : ExI) (f : M Slot) (e : Expr) : Prop := CA X W I (.ex f) e
theorem ce_mk {f : M Slot} {e : Expr} {t : TE} (h : PE X e t) (q : ∀ (F H : Hp) (ρ : En) (σ : St) (Q : VK), Rp X.K F H ρ σ →
    (f ρ).sat (fun s ρ' => ∀ F' H' v, Post X.K F H ρ σ F' H' ρ' (.sl s) v → Q v H') (XC X W I F H (OwnE H ρ σ) σ) → t σ H Q) : CE X W I f e :=
  ⟨t, h, fun F H ρ σ Q R z => q F H ρ σ Q R (by
    have z' : ((f ρ).bind fun s ρ' => Out.ok (Arg.sl s) ρ').sat _ _ := z
    rw [Out.sat_bind] at z'
    exact z')⟩
theorem CA.of {f : M Slot} {e : Expr} (h : CE X W I f e) : ∃ t, PE X e t ∧ ∀ (F H : Hp) (ρ : En) (σ : St) (Q : VK), Rp X.K F H ρ σ →
    (f ρ).sat (fun s ρ' => ∀ F' H' v, Post X.K F H ρ σ F' H' ρ' (.sl s) v → Q v H') (XC X W I F H (OwnE H ρ σ) σ) → t σ H Q := by
  obtain ⟨t, h1, h2⟩ := h.run
  refine ⟨t, h1, fun F H ρ σ Q R z => h2 F H ρ σ Q R ?_⟩
  show ((f ρ).bind fun s ρ' => Out.ok (Arg.sl s) ρ').sat _ _
  rw [Out.sat_bind]
  exact z
theorem En.at_some {ρ : En} {i : Nat} (h : (En.at ρ i).isSome = true) : ρ[i]? = some (En.at ρ i) := by
  unfold En.at at h ⊢
  cases e : ρ[i]? with
  | none => rw [e] at h; cases h
  | some s => rfl
theorem slot_some {K : Fr0} {F H : Hp} {s : Slot} {v : Option V} (h : SlotOk K F H s v) (e : s.isSome = true) : ∃ x, v = some x := by
  cases s with
  | emp => cases e
  | val d => obtain ⟨x, e, _⟩ := h; exact ⟨x, e⟩
  | lst d => obtain ⟨p, _, e, _⟩ := h; exact ⟨_, e⟩
  | dic d => obtain ⟨p, _, e, _⟩ := h; exact ⟨_, e⟩
  | exn x => obtain ⟨p, _, _, e, _⟩ := h; exact ⟨_, e⟩
  | pr d x => obtain ⟨p, _, _, e, _⟩ := h; exact ⟨_, e⟩
  | obj _ _ _ _ => obtain ⟨p, _, _, e, _⟩ := h; exact ⟨_, e⟩
  | fro _ _ _ => obtain ⟨p, _, _, _, e, _⟩ := h; exact ⟨_, e⟩
  | box _ _ => obtain ⟨p, _, e, _⟩ := h; exact ⟨_, e⟩
/-- a name as an argument -/
theorem ca_nm {i : Nat} {e : Expr} (h : PE X e (tVar i)) : CA X W I (.nm i) e := by
  refine ⟨tVar i, h, fun F H ρ σ Q R z => ?_⟩
  have z' : (if (En.at ρ i).isSome = true then Out.ok (Arg.nm i) ρ else Out.bad).sat _ _ := z
  by_cases hs : (En.at ρ i).isSome = true
  · rw [if_pos hs] at z'
    obtain ⟨v, e1, ok⟩ := R.get (En.at_some hs)
    obtain ⟨x, rfl⟩ := slot_some ok hs
    exact ⟨x, e1, z' F H x ⟨R, e1, Ext.refl.weak (fun _ h => h) fun q h => .inr (h.elim (fun z => z.elim) id)⟩⟩
  · rw [if_neg hs] at z'
    exact z'.elim
theorem XC.step {F H F1 H1 : Hp} {O O1 P : Addr → Prop} {σ : St} {x : Exc} {ρ' : En} (z : XC X W I F H O σ x ρ') (e : Ext F H O F1 H1 P) (hP : ∀ q, O1 q → P q) : XC X W I F1 H1 O1 σ x ρ' :=
  fun F' H' cls d r R e' => z F' H' cls d r R (e.trans (e'.weak hP fun _ q => .inl q))

theorem ArgOk.ext {K : Fr0} {F H F' H' : Hp} {ρ ρ' : En} {σ : St} {g : Arg} {v : V} {O' : Addr → Prop} (h : ArgOk K F H ρ σ g v) (x : Ext F H (OwnE H ρ σ) F' H' O') (hO : ∀ q, OwnE H' ρ' σ q → O' q) : ArgOk K F' H' ρ' σ g v := by
  cases g with
  | nm i => exact h
  | fl i f a => exact h
  | sl s =>
    obtain ⟨h1, h2⟩ := h
    exact ⟨h1.ext x h2, fun q o z => x.apart h1 h2 q o (hO q z)⟩
theorem ArgOk.extG {K : Fr0} {F H F' H' : Hp} {ρ : En} {σ : St} {g : Arg} {v : V} {O' : Addr → Prop} {q : Addr} (h : ArgOk K F H ρ σ g v) (x : Ext F H (OwnE H ρ σ) F' H' O') : OwnsG H' g v q ↔ OwnsG H g v q := by
  cases g with
  | nm i => exact Iff.rfl
  | fl i f a => exact Iff.rfl
  | sl s => exact h.1.extO x h.2
end
end SD

set_option Elab.async false
set_option linter.all false
set_option autoImplicit false
set_option maxRecDepth 100000
set_option maxHeartbeats 4000000
/-! SD, part C: how arguments and operations on data are put together. -/
namespace SD
open PySem PySem.Spec PyProof.Rows L2

section
variable {X : Cx} {W : WX} {I : ExI}
theorem Post.cons {K : Fr0} {F H F1 H1 F2 H2 : Hp} {ρ ρ1 ρ2 : En} {σ : St} {g : Arg} {v : V} {gs : List Arg} {vs : List V} (a : Post K F H ρ σ F1 H1 ρ1 g v) (b : PostL K F1 H1 ρ1 σ F2 H2 ρ2 gs vs) :
    PostL K F H ρ σ F2 H2 ρ2 (g :: gs) (v :: vs) := by
  have dj : ∀ q, OwnsG H2 g v q → ¬ (OwnsL H2 gs vs q ∨ OwnE H2 ρ2 σ q) := by
    cases g with
    | nm i => exact fun q z => z.elim
    | fl i f a => exact fun q z => z.elim
    | sl s => exact fun q z => b.ext.apart a.ok.1 a.ok.2 q z
  have back : ∀ q, OwnsG H2 g v q → OwnsG H1 g v q := by
    cases g with
    | nm i => exact fun q z => z
    | fl i f a => exact fun q z => z
    | sl s => exact fun q z => (a.ok.1.extO b.ext a.ok.2).mp z
  refine ⟨b.rp, ⟨a.ok.ext b.ext fun q h => .inr h, fun q z z' => dj q z (.inl z'), b.ok⟩, a.ext.trans (b.ext.weak (fun q h => .inr h) fun q h => ?_)⟩
  rcases h with (h | h) | h
  · exact .inr (.inl (back q h))
  · exact .inl (.inl h)
  · exact .inl (.inr h)
theorem PostL.nil {K : Fr0} {F H : Hp} {ρ : En} {σ : St} (R : Rp K F H ρ σ) : PostL K F H ρ σ F H ρ [] [] :=
  ⟨R, trivial, Ext.refl.weak (fun _ h => h) fun q h => h.elim (fun z => z.elim) .inr⟩
/-- arguments, from the left -/
structure CAs (X : Cx) (W : WX) (I : ExI) (as : List AE) (es : List Expr) : Prop where
  run : ∃ t, PA X es t ∧ ∀ (F H : Hp) (ρ : En) (σ : St) (Q : List V → Hp → Prop), Rp X.K F H ρ σ →
    (evAs as ρ).sat (fun gs ρ' => ∀ F' H' vs, PostL X.K F H ρ σ F' H' ρ' gs vs → Q vs H') (XC X W I F H (OwnE H ρ σ) σ) → t σ H Q
theorem cas_nil : CAs X W I [] [] := ⟨tNil, pa_nil, fun F H ρ σ Q R z => z F H [] (PostL.nil R)⟩
theorem cas_cons {a : AE} {as : List AE} {e : Expr} {es : List Expr} (h : CA X W I a e) (hr : CAs X W I as es)
    (hs : starEach (e :: es) X.env = (false, eval e X.env) :: starEach es X.env := by rfl) : CAs X W I (a :: as) (e :: es) := by
  obtain ⟨ta, h1, q1⟩ := h.run
  obtain ⟨tr, h2, q2⟩ := hr.run
  refine ⟨tCons ta tr, pa_cons h1 h2 hs, fun F H ρ σ Q R z => ?_⟩
  have z' : ((evA a ρ).bind fun g ρ1 => (evAs as ρ1).bind fun gs ρ2 => Out.ok (g :: gs) ρ2).sat _ _ := z
  rw [Out.sat_bind] at z'
  refine q1 F H ρ σ _ R (Out.sat_mono z' (fun g ρ1 _ y F1 H1 v P => ?_) fun _ _ y => y)
  rw [Out.sat_bind] at y
  refine q2 F1 H1 ρ1 σ _ P.rp (Out.sat_mono y (fun gs ρ2 _ y2 F2 H2 vs P2 => y2 F2 H2 _ (P.cons P2)) fun x ρ' y2 => XC.step y2 P.ext fun q h => .inr h)
theorem two_args {a b : AE} {ea eb : Expr} (ha : CA X W I a ea) (hb : CA X W I b eb) : ∃ ta tb, PE X ea ta ∧ PE X eb tb ∧ ∀ (F H : Hp) (ρ : En) (σ : St) (R : V → V → Hp → Prop), Rp X.K F H ρ σ →
    (evAs [a, b] ρ).sat (fun gs ρ' => ∀ F' H' x y, PostL X.K F H ρ σ F' H' ρ' gs [x, y] → R x y H') (XC X W I F H (OwnE H ρ σ) σ) → ta σ H fun x H1 => tb σ H1 fun y H2 => R x y H2 := by
  obtain ⟨ta, h1, q1⟩ := ha.run
  obtain ⟨tb, h2, q2⟩ := hb.run
  refine ⟨ta, tb, h1, h2, fun F H ρ σ Q R z => ?_⟩
  have z' : ((evA a ρ).bind fun g ρ1 => ((evA b ρ1).bind fun g2 ρ2 => Out.ok [g2] ρ2).bind fun gs ρ2 => Out.ok (g :: gs) ρ2).sat _ _ := z
  rw [Out.sat_bind] at z'
  refine q1 F H ρ σ _ R (Out.sat_mono z' (fun g ρ1 _ y F1 H1 v P => ?_) fun _ _ y => y)
  rw [Out.sat_bind, Out.sat_bind] at y
  exact q2 F1 H1 ρ1 σ _ P.rp (Out.sat_mono y (fun g2 ρ2 _ y2 F2 H2 v2 P2 => y2 F2 H2 _ _ (P.cons (P2.cons (PostL.nil P2.rp)))) fun x ρ' y2 => XC.step y2 P.ext fun q h => .inr h)
theorem FsOk.look {K : Fr0} {F H : Hp} {f : Str} {fv : FV} {a : Addr} : ∀ {fs : List (Str × FV)} {ad : List Addr} {vs : List (Str × V)}, FsOk K F H fs ad vs → fldAt fs ad f = some (fv, a) → ∃ v, vs.lookup f = some v ∧ FvOk K F H fv v a ∧ f ∈ fs.map (·.1)
  | [], [], [], _, e => by cases e
  | [], [], _ :: _, h, _ => h.elim
  | [], _ :: _, _, h, _ => h.elim
  | _ :: _, [], _, h, _ => h.elim
  | _ :: _, _ :: _, [], h, _ => h.elim
  | (n, fv0) :: fs, a0 :: ad, (m, w) :: vs, h, e => by
    obtain ⟨h0, h1, h2⟩ := h
    have h0 : m = n := h0
    subst h0
    have e' : (if m = f then some (fv0, a0) else fldAt fs ad f) = some (fv, a) := e
    by_cases hn : m = f
    · rw [if_pos hn] at e'
      cases e'
      subst hn
      exact ⟨w, by simp [List.lookup], h1, by simp⟩
    · rw [if_neg hn] at e'
      obtain ⟨v, l, ok, me⟩ := FsOk.look h2 e'
      have hb : (f == m) = false := beq_eq_false_iff_ne.mpr fun z => hn z.symm
      exact ⟨v, by rw [List.lookup, hb]; exact l, ok, List.mem_cons_of_mem _ me⟩
/-! ### operations on data -/
def RepTs (K : Fr0) (F H : Hp) : List D → List V → Prop
  | [], [] => True
  | d :: ds, v :: vs => RepT K F H d v ∧ RepTs K F H ds vs
  | _, _ => False
theorem arg_top {K : Fr0} {F H : Hp} {ρ : En} {σ : St} {g : Arg} {v : V} {d : D} (R : Rp K F H ρ σ) (h : ArgOk K F H ρ σ g v) (e : (g.slot ρ).data = some d) : RepT K F H d v := by
  cases g with
  | nm i =>
    have hs : (En.at ρ i).isSome = true := by
      have e' : (En.at ρ i).data = some d := e
      cases q : En.at ρ i with
      | emp => rw [q] at e'; cases e'
      | exn _ => rw [q] at e'; cases e'
      | pr _ _ => rw [q] at e'; cases e'
      | obj _ _ _ _ => rw [q] at e'; cases e'
      | fro _ _ _ => rw [q] at e'; cases e'
      | box _ _ => rw [q] at e'; cases e'
      | val _ => rfl
      | lst _ => rfl
      | dic _ => rfl
    exact (R.ok i _ _ (En.at_some hs) h).top R.sub e
  | sl s => exact h.1.top R.sub e
  | fl i f a =>
    have h' : v = .ref a := h
    subst h'
    have e' : ((En.at ρ i).fcell f a).data = some d := e
    cases q : En.at ρ i with
    | obj cn fs dx ad =>
      rw [q] at e'
      have e2 : (match fldAt fs ad f with | some p => if p.2 = a then p.1.cell else .emp | none => .emp : Slot).data = some d := e'
      cases q2 : fldAt fs ad f with
      | none => rw [q2] at e2; cases e2
      | some p =>
        rw [q2] at e2
        obtain ⟨fv, a'⟩ := p
        by_cases ha : a' = a
        · subst ha
          simp only [if_true] at e2
          obtain ⟨v0, ev, ok⟩ := R.get (En.at_some (ρ := ρ) (i := i) (by rw [q]; rfl))
          rw [q] at ok
          obtain ⟨o, C, vs, rfl, _, _, _, _, _, fo, _⟩ := ok
          obtain ⟨w, _, hv, _⟩ := fo.look q2
          cases fv with
          | val d => cases e2
          | lst ds =>
            cases e2
            obtain ⟨us, _, h1, _, r⟩ := hv
            exact ⟨a', us, rfl, SqL.of h1, r⟩
          | dic kvs =>
            cases e2
            obtain ⟨es, _, h1, _, r⟩ := hv
            exact ⟨a', es, rfl, .inl h1, r⟩
        · simp only [if_neg ha] at e2
          cases e2
    | _ => rw [q] at e'; cases e'
theorem args_top {K : Fr0} {F H : Hp} {ρ : En} {σ : St} (R : Rp K F H ρ σ) : ∀ {gs : List Arg} {vs : List V} {ds : List D}, ArgsOk K F H ρ σ gs vs → argDs ρ gs = some ds → RepTs K F H ds vs
  | [], [], ds, _, e => by cases e; trivial
  | [], _ :: _, _, h, _ => h.elim
  | _ :: _, [], _, h, _ => h.elim
  | g :: gs, v :: vs, ds, h, e => by
    have e' : ((g.slot ρ).data.bind fun d => (argDs ρ gs).bind fun ds => some (d :: ds)) = some ds := e
    cases q : (g.slot ρ).data with
    | none => rw [q] at e'; cases e'
    | some d =>
      cases q2 : argDs ρ gs with
      | none => rw [q, q2] at e'; cases e'
      | some ds' =>
        rw [q, q2] at e'
        cases e'
        exact ⟨arg_top R h.1 q, args_top R h.2.2 q2⟩
theorem prim_post {K : Fr0} {F H F1 H1 F2 H2 : Hp} {ρ ρ1 : En} {σ : St} {gs : List Arg} {vs : List V} {s : Slot} {v : V} (P : PostL K F H ρ σ F1 H1 ρ1 gs vs) (r : Res1 K F1 H1 F2 H2 s v) : Post K F H ρ σ F2 H2 ρ1 (.sl s) v := by
  have x : Ext F1 H1 (fun _ => False) F2 H2 (Owns H2 s (some v)) := ⟨r.sub, fun a h h' => .inl (r.newF a h h'), fun a o h _ => r.same a o h, fun a h => .inl (r.own a h)⟩
  have back : ∀ q, OwnE H2 ρ1 σ q → OwnE H1 ρ1 σ q := fun q z => (P.rp.extO x fun _ _ z => z).mp z
  refine ⟨P.rp.ext x r.sub' fun _ _ z => z, ⟨r.ok, fun q o z => ?_⟩, P.ext.trans (x.weak (fun _ z => z.elim) fun q h => ?_)⟩
  · obtain ⟨_, u, e⟩ := P.rp.ownF (back q z)
    rw [r.own q o] at e; cases e
  · rcases h with h | h
    · exact .inl h
    · exact .inr (.inr (back q h))
/-- the reading of an operation on data, by values -/
def rP (K : Fr0) (p : List D → Option Slot) : List V → Hp → VK → Prop := fun vs H Q => ∃ F ds s, Same F H ∧ RepTs K F H ds vs ∧ p ds = some s ∧ ∀ F' H' v, Res1 K F H F' H' s v → Q v H'
theorem prim_sat' {p : List D → Option Slot} {as : List AE} {ρ : En} {F H : Hp} {σ : St} {Q : VK} {N : Exc → En → Prop}
    (z : (mPrim p as ρ).sat (fun s ρ' => ∀ F' H' v, Post X.K F H ρ σ F' H' ρ' (.sl s) v → Q v H') N) :
    (evAs as ρ).sat (fun gs ρ' => ∀ F' H' vs, PostL X.K F H ρ σ F' H' ρ' gs vs → rP X.K p vs H' Q) N := by
  unfold mPrim at z
  rw [Out.sat_bind] at z
  refine Out.sat_mono z (fun gs ρ' _ y F' H' vs P => ?_) fun _ _ y => y
  cases e : argDs ρ' gs with
  | none => rw [e] at y; exact y.elim
  | some ds =>
    rw [e] at y
    cases e2 : p ds with
    | none => simp only [Option.bind, e2] at y; exact y.elim
    | some s =>
      simp only [Option.bind, e2] at y
      exact ⟨F', ds, s, P.rp.sub, args_top P.rp P.ok e, e2, fun F2 H2 v r => y F2 H2 v (prim_post P r)⟩

variable {a b c : AE} {as : List AE} {e ea eb ec : Expr} {es : List Expr} {p : List D → Option Slot} {pos : Pos}
theorem ce_bin {op : Operator} (ho : OpR X (binaryOp op) (fun x y => rP X.K p [x, y])) (ha : CA X W I a ea) (hb : CA X W I b eb) : CE X W I (mPrim p [a, b]) (.BinOp ea op eb pos) := by
  obtain ⟨ta, tb, h1, h2, q⟩ := two_args ha hb
  exact ce_mk (pe_op ho h1 h2) fun F H ρ σ Q R z => q F H ρ σ _ R (Out.sat_mono (prim_sat' z) (fun gs ρ' _ y F' H' x y' P => y F' H' _ P) fun _ _ y => y)
theorem ce_un {op : UnaryOp} (ho : UnR X (unaryOp op) (fun x => rP X.K p [x])) (ha : CA X W I a ea) : CE X W I (mPrim p [a]) (.UnaryOp op ea pos) := by
  obtain ⟨ta, h1, q1⟩ := ha.run
  refine ce_mk (pe_un ho h1) fun F H ρ σ Q R z => q1 F H ρ σ _ R ?_
  have z' := prim_sat' z
  have z2 : ((evA a ρ).bind fun g ρ1 => (Out.ok [] ρ1 : Out (List Arg)).bind fun gs ρ2 => Out.ok (g :: gs) ρ2).sat _ _ := z'
  rw [Out.sat_bind] at z2
  exact Out.sat_mono z2 (fun g ρ' _ y F' H' v P => y F' H' [v] (P.cons (PostL.nil P.rp))) fun _ _ y => y
theorem ce_cmp {op : CmpOp} (ho : OpR X (compareOp op) (fun x y => rP X.K p [x, y])) (ha : CA X W I a ea) (hb : CA X W I b eb) (hm : behindInMarks op eb = false) : CE X W I (mPrim p [a, b]) (.Compare ea [op] [eb] pos) := by
  obtain ⟨ta, tb, h1, h2, q⟩ := two_args ha hb
  exact ce_mk (pe_cmpR ho h1 h2 hm) fun F H ρ σ Q R z => q F H ρ σ _ R (Out.sat_mono (prim_sat' z) (fun gs ρ' _ y F' H' x y' P => y F' H' _ P) fun _ _ y => y)
theorem ce_ix (ho : IxR X (fun x y => rP X.K p [x, y])) (ha : CA X W I a ea) (hb : CA X W I b eb) (hs : PlainIx eb) : CE X W I (mPrim p [a, b]) (.Subscript ea eb pos) := by
  obtain ⟨ta, tb, h1, h2, q⟩ := two_args ha hb
  exact ce_mk (pe_ix ho h1 h2 hs) fun F H ρ σ Q R z => q F H ρ σ _ R (Out.sat_mono (prim_sat' z) (fun gs ρ' _ y F' H' x y' P => y F' H' _ P) fun _ _ y => y)
end
end SD

set_option Elab.async false
set_option linter.all false
set_option autoImplicit false
set_option maxRecDepth 100000
set_option maxHeartbeats 4000000
/-! SD, part D: values that stay, displays, calls of defs of the text. -/
namespace SD
open PySem PySem.Spec PyProof.Rows L2

/-! ### what is owned is let go: it never changes from here on -/
theorem freeze {K : Fr0} {F H F1 H1 : Hp} {ρ ρ1 : En} {σ : St} {s : Slot} {v : V} {d : D} (P : Post K F H ρ σ F1 H1 ρ1 (.sl s) v) (e : s.data = some d) :
    ∃ F2, Same F1 F2 ∧ Rep K F2 d v ∧ Rp K F2 H1 ρ1 σ ∧ Ext F H (OwnE H ρ σ) F2 H1 (OwnE H1 ρ1 σ) := by
  have go : ∀ (p : Addr) (o : HO), H1 p = some o → F1 p = none → (∀ q, q = p → ¬ OwnE H1 ρ1 σ q) → Owns H1 s (some v) p → (∀ F2, Same F1 F2 → F2 p = some o → Rep K F2 d v) →
      ∃ F2, Same F1 F2 ∧ Rep K F2 d v ∧ Rp K F2 H1 ρ1 σ ∧ Ext F H (OwnE H ρ σ) F2 H1 (OwnE H1 ρ1 σ) := fun p o h1 h2 h3 h4 h5 => by
    have sub := same_upd (H := F1) (p := p) (o := o) h2
    have sub' : Same (upd F1 p o) H1 := fun b u q => by
      by_cases hb : b = p
      · subst hb; rw [upd_same] at q; cases q; exact h1
      · rw [upd_ne hb] at q; exact P.rp.sub b u q
    have x : Ext F1 H1 (fun q => q = p) (upd F1 p o) H1 (fun _ => False) := ⟨sub, fun a e1 e2 => by
      by_cases ha : a = p
      · exact .inr ha
      · rw [upd_ne ha] at e2; exact absurd e1 e2, fun _ _ h _ => h, fun _ z => z.elim⟩
    refine ⟨upd F1 p o, sub, h5 _ sub upd_same, P.rp.ext x sub' fun q z z' => h3 q z' z, P.ext.trans (x.weak (fun q z => by subst z; exact .inl h4) fun q z => .inr (.inr z))⟩
  cases s with
  | emp => cases e
  | exn x => cases e
  | pr d x => cases e
  | obj _ _ _ _ => cases e
  | fro _ _ _ => cases e
  | box _ _ => cases e
  | val d' =>
    cases e
    obtain ⟨⟨y, ey, r⟩, _⟩ := P.ok
    cases ey
    exact ⟨F1, Same.refl _, r, P.rp, P.ext.weak (fun _ h => h) fun q h => .inl (.inr h)⟩
  | lst ds =>
    cases e
    obtain ⟨⟨p, vs, ep, h1, h2, r⟩, h3⟩ := P.ok
    cases ep
    exact go p _ h1 h2 (fun q z => by subst z; exact h3 q rfl) rfl fun F2 s2 e2 => by rw [rep_list]; exact ⟨p, vs, rfl, SqL.of e2, Reps.mono s2 _ _ r⟩
  | dic ds =>
    cases e
    obtain ⟨⟨p, vs, ep, h1, h2, r⟩, h3⟩ := P.ok
    cases ep
    exact go p _ h1 h2 (fun q z => by subst z; exact h3 q rfl) rfl fun F2 s2 e2 => by rw [rep_dict]; exact ⟨p, vs, rfl, .inl e2, RepK.mono s2 _ _ r⟩

section
variable {X : Cx} {W : WX} {I : ExI}
/-- the slot of a name, let go -/
theorem var_freeze {K : Fr0} {F H : Hp} {ρ : En} {σ : St} {i : Nat} {d : D} (R : Rp K F H ρ σ) (e : (En.at ρ i).data = some d) :
    ∃ v F2, σ[i]? = some (some v) ∧ Post K F H ρ σ F2 H (ρ.set i (.val d)) (.sl (.val d)) v := by
  have hs : (En.at ρ i).isSome = true := by
    cases q : En.at ρ i with
    | emp => rw [q] at e; cases e
    | exn x => rw [q] at e; cases e
    | pr _ _ => rw [q] at e; cases e
    | obj _ _ _ _ => rw [q] at e; cases e
    | fro _ _ _ => rw [q] at e; cases e
    | box _ _ => rw [q] at e; cases e
    | val _ => rfl
    | lst _ => rfl
    | dic _ => rfl
  have h0 := En.at_some hs
  obtain ⟨v, ev, ok⟩ := R.get h0
  obtain ⟨v, rfl⟩ := slot_some ok hs
  have eσ : σ.set i (some v) = σ := by
    refine List.ext_getElem? fun j => ?_
    by_cases hj : i = j
    · subst hj
      rw [List.getElem?_set_self (List.getElem?_eq_some_iff.mp ev).1, ev]
    · rw [List.getElem?_set_ne hj]
  have go : ∀ (p : Addr) (o : HO), H p = some o → F p = none → Owns H (En.at ρ i) (some v) p → (∀ F2, Same F F2 → F2 p = some o → Rep K F2 d v) →
      ∃ v F2, σ[i]? = some (some v) ∧ Post K F H ρ σ F2 H (ρ.set i (.val d)) (.sl (.val d)) v := fun p o h1 h2 h4 h5 => by
    have sub := same_upd (H := F) (p := p) (o := o) h2
    have sub' : Same (upd F p o) H := fun b u q => by
      by_cases hb : b = p
      · subst hb; rw [upd_same] at q; cases q; exact h1
      · rw [upd_ne hb] at q; exact R.sub b u q
    have x : Ext F H (fun q => q = p) (upd F p o) H (fun _ => False) := ⟨sub, fun a e1 e2 => by
      by_cases ha : a = p
      · exact .inr ha
      · rw [upd_ne ha] at e2; exact absurd e1 e2, fun _ _ h _ => h, fun _ z => z.elim⟩
    have r := h5 _ sub upd_same
    have R2 : Rp K (upd F p o) H (ρ.set i (.val d)) (σ.set i (some v)) := R.set sub' ⟨v, rfl, r⟩ (fun j t u hj e1 e2 => (R.ok j t u e1 e2).ext x fun q oq z => by
      cases (show q = p from z)
      exact hj (R.dj j i t _ u _ p e1 e2 h0 ev oq h4)) fun q j t u z => z.elim
    rw [eσ] at R2
    refine ⟨v, upd F p o, ev, R2, ⟨⟨v, rfl, r⟩, fun _ z => z.elim⟩, x.weak (fun q z => by cases (show q = p from z); exact ⟨i, _, _, h0, ev, h4⟩) fun q z => ?_⟩
    rcases z with z | z
    · exact z.elim
    · rw [← eσ] at z
      rcases ownE_set z with y | y
      · exact y.elim
      · exact .inr y
  cases q : En.at ρ i with
  | emp => rw [q] at hs; cases hs
  | exn x => rw [q] at e; cases e
  | pr _ _ => rw [q] at e; cases e
  | obj _ _ _ _ => rw [q] at e; cases e
  | fro _ _ _ => rw [q] at e; cases e
  | box _ _ => rw [q] at e; cases e
  | val d' =>
    rw [q] at e ok h0
    cases e
    obtain ⟨y, ey, r⟩ := ok
    cases ey
    have eρ : ρ.set i (.val d) = ρ := by
      refine List.ext_getElem? fun j => ?_
      by_cases hj : i = j
      · subst hj
        rw [List.getElem?_set_self (List.getElem?_eq_some_iff.mp h0).1, h0]
      · rw [List.getElem?_set_ne hj]
    rw [eρ]
    exact ⟨v, F, ev, R, ⟨⟨v, rfl, r⟩, fun _ z => z.elim⟩, Ext.refl.weak (fun _ h => h) fun q h => .inr (h.elim (fun z => z.elim) id)⟩
  | lst ds =>
    rw [q] at e ok
    cases e
    obtain ⟨p, vs, ep, h1, h2, r⟩ := ok
    cases ep
    exact go p _ h1 h2 (by rw [q]; exact rfl) fun F2 s2 e2 => by rw [rep_list]; exact ⟨p, vs, rfl, SqL.of e2, Reps.mono s2 _ _ r⟩
  | dic ds =>
    rw [q] at e ok
    cases e
    obtain ⟨p, vs, ep, h1, h2, r⟩ := ok
    cases ep
    exact go p _ h1 h2 (by rw [q]; exact rfl) fun F2 s2 e2 => by rw [rep_dict]; exact ⟨p, vs, rfl, .inl e2, RepK.mono s2 _ _ r⟩
theorem ce_var {i : Nat} {e : Expr} (h : PE X e (tVar i)) : CE X W I (mVar i) e := by
  refine ce_mk h fun F H ρ σ Q R z => ?_
  unfold mVar at z
  cases q : (En.at ρ i).data with
  | none => rw [q] at z; exact z.elim
  | some d =>
    rw [q] at z
    obtain ⟨v, F2, ev, P⟩ := var_freeze R q
    exact ⟨v, ev, z F2 H v P⟩
theorem post_val {K : Fr0} {F H : Hp} {ρ : En} {σ : St} {d : D} {v : V} (R : Rp K F H ρ σ) (r : Rep K F d v) : Post K F H ρ σ F H ρ (.sl (.val d)) v :=
  ⟨R, ⟨⟨v, rfl, r⟩, fun _ z => z.elim⟩, Ext.refl.weak (fun _ h => h) fun q h => .inr (h.elim (fun z => z.elim) id)⟩
/-- a value that hangs on nothing -/
theorem ce_const {d : D} {v : V} {e : Expr} (h : PE X e (tC v)) (r : ∀ F, Rep X.K F d v) : CE X W I (mC d) e :=
  ce_mk h fun F H ρ σ Q R z => z F H v (post_val R (r F))
theorem ce_int {i : Int} {j pos} : CE X W I (mC (.int i)) (.Constant (.int i) j pos) := ce_const pe_int fun F => by rw [rep_int]
theorem ce_bool {i : Bool} {j pos} : CE X W I (mC (.bool i)) (.Constant (.bool i) j pos) := ce_const pe_bl fun F => by rw [rep_bool]
theorem ce_none {j pos} : CE X W I (mC .none) (.Constant .none j pos) := ce_const pe_non fun F => by rw [rep_none]
theorem ce_str {x : Str} {j pos} : CE X W I (mC (.str x)) (.Constant (.str x) j pos) := ce_const pe_str fun F => by rw [rep_str]

/-- values that stay -/
structure CVs (X : Cx) (W : WX) (I : ExI) (fs : List (M Slot)) (es : List Expr) : Prop where
  run : ∃ t, PA X es t ∧ ∀ (F H : Hp) (ρ : En) (σ : St) (Q : List V → Hp → Prop), Rp X.K F H ρ σ →
    (mVals fs ρ).sat (fun ds ρ' => ∀ F' H' vs, Rp X.K F' H' ρ' σ → Reps X.K F' ds vs → Ext F H (OwnE H ρ σ) F' H' (OwnE H' ρ' σ) → Q vs H') (XC X W I F H (OwnE H ρ σ) σ) → t σ H Q
theorem cvs_nil : CVs X W I [] [] := ⟨tNil, pa_nil, fun F H ρ σ Q R z => z F H [] R (by rw [reps_nil]) Ext.refl⟩
theorem cvs_cons {f : M Slot} {fs : List (M Slot)} {e : Expr} {es : List Expr} (h : CE X W I f e) (hr : CVs X W I fs es)
    (hs : starEach (e :: es) X.env = (false, eval e X.env) :: starEach es X.env := by rfl) : CVs X W I (f :: fs) (e :: es) := by
  obtain ⟨ta, h1, q1⟩ := h.of
  obtain ⟨tr, h2, q2⟩ := hr.run
  refine ⟨tCons ta tr, pa_cons h1 h2 hs, fun F H ρ σ Q R z => ?_⟩
  have z' : ((f ρ).bind fun s ρ1 => (match s.data with
    | some d => (mVals fs ρ1).bind fun ds ρ2 => Out.ok (d :: ds) ρ2
    | none => .bad : Out (List D))).sat _ _ := z
  rw [Out.sat_bind] at z'
  refine q1 F H ρ σ _ R (Out.sat_mono z' (fun s ρ1 _ y F1 H1 v P => ?_) fun _ _ y => y)
  cases e : s.data with
  | none => rw [e] at y; exact y.elim
  | some d =>
    rw [e] at y
    have y' : ((mVals fs ρ1).bind fun ds ρ2 => Out.ok (d :: ds) ρ2).sat _ _ := y
    rw [Out.sat_bind] at y'
    obtain ⟨F2, s2, r, R2, x⟩ := freeze P e
    refine q2 F2 H1 ρ1 σ _ R2 (Out.sat_mono y' (fun ds ρ2 _ y2 F3 H3 vs R3 r3 x3 => ?_) fun _ _ y2 => XC.step y2 x fun q h => h)
    exact y2 F3 H3 (v :: vs) R3 (by rw [reps_cons]; exact ⟨v, vs, rfl, Rep.mono x3.sub _ _ r, r3⟩) (x.trans x3)
theorem lineOk_line {n : Nat} (h : lineOk n = true) : n ≤ sizeLine := by
  have h' := of_decide_eq_true h
  rw [sizeLine_eq]; exact h'
theorem post_new {K : Fr0} {F H F1 H1 F2 H2 : Hp} {ρ ρ1 : En} {σ : St} {s : Slot} {v : V} (R : Rp K F1 H1 ρ1 σ) (x : Ext F H (OwnE H ρ σ) F1 H1 (OwnE H1 ρ1 σ)) (r : Res1 K F1 H1 F2 H2 s v) : Post K F H ρ σ F2 H2 ρ1 (.sl s) v :=
  prim_post (gs := []) (vs := []) ⟨R, trivial, x.weak (fun _ h => h) fun q h => .inl (h.elim (fun z => z.elim) id)⟩ r
theorem ce_tup {fs : List (M Slot)} {es : List Expr} {k : Nat} {pos : Pos} (h : CVs X W I fs es) : CE X W I (mTup fs) (.Tuple es k pos) := by
  obtain ⟨t, h1, q⟩ := h.run
  refine ce_mk (pe_tup h1) fun F H ρ σ Q R z => ?_
  unfold mTup at z
  rw [Out.sat_bind] at z
  refine q F H ρ σ _ R (Out.sat_mono z (fun ds ρ' _ y F' H' vs R' r x => ?_) fun _ _ y => y)
  split at y
  · rename_i hl
    refine ⟨by rw [← r.length]; exact lineOk_line hl, fun p np => y _ _ _ (post_new R' x (.tup R'.sub r np))⟩
  · exact y.elim
theorem ce_lst {fs : List (M Slot)} {es : List Expr} {pos : Pos} (h : CVs X W I fs es) : CE X W I (mLst fs) (.List es pos) := by
  obtain ⟨t, h1, q⟩ := h.run
  refine ce_mk (pe_lst h1) fun F H ρ σ Q R z => ?_
  unfold mLst at z
  rw [Out.sat_bind] at z
  refine q F H ρ σ _ R (Out.sat_mono z (fun ds ρ' _ y F' H' vs R' r x => ?_) fun _ _ y => y)
  split at y
  · rename_i hl
    refine ⟨by rw [← r.length]; exact lineOk_line hl, fun p np => y _ _ _ (post_new R' x (.lst R'.sub r np))⟩
  · exact y.elim
end

/-! ### calls -/
def takeArgs : List Arg → En → Option (En × En)
  | [], ρ => some ([], ρ)
  | .sl s :: gs, ρ => (takeArgs gs ρ).map fun r => (s :: r.1, r.2)
  | .fl _ _ _ :: _, _ => none
  | .nm i :: gs, ρ => if (En.at ρ i).isSome then (if (En.at ρ i).isCell then (takeArgs gs (ρ.set i .emp)).map fun r => (En.at ρ i :: r.1, r.2) else (takeArgs gs ρ).map fun r => (En.at ρ i :: r.1, r.2)) else none
def giveBack : List Arg → En → En → En → En
  | .nm i :: gs, s :: as, o :: os, ρ => giveBack gs as os (if s.isCell then ρ.set i o else ρ)
  | .sl _ :: gs, _ :: as, _ :: os, ρ => giveBack gs as os ρ
  | .fl _ _ _ :: gs, _ :: as, _ :: os, ρ => giveBack gs as os ρ
  | _, _, _, ρ => ρ
/-- a def called: f on the arguments' slots, and what it leaves there -/
def mCall (f : M Slot) (as : List AE) : M Slot := fun ρ => (evAs as ρ).bind fun gs ρ1 => match takeArgs gs ρ1 with
  | none => .bad
  | some (sl, ρ2) => match f sl with
    | .ok s outs => .ok s (giveBack gs sl outs ρ2)
    | .exc x outs => .exc x (giveBack gs sl outs ρ2)
    | .bad => .bad

theorem notcell_owns {H : Hp} {s : Slot} {v : Option V} {q : Addr} (h : s.isCell = false) : ¬ Owns H s v q := fun o => by
  cases s with
  | emp => cases o
  | val d => cases o
  | exn x => cases o
  | pr d x => cases o
  | obj _ _ _ _ => cases h
  | fro _ _ _ => cases o
  | box _ _ => cases h
  | lst d => cases h
  | dic d => cases h
theorem ownE_nil {H : Hp} {σ : St} {q : Addr} : ¬ OwnE H [] σ q := fun ⟨i, s, v, h, _⟩ => by simp at h
theorem ownE_cons {H : Hp} {s : Slot} {ρ : En} {v : Option V} {σ : St} {q : Addr} : OwnE H (s :: ρ) (v :: σ) q ↔ Owns H s v q ∨ OwnE H ρ σ q := by
  constructor
  · rintro ⟨i, t, u, h1, h2, h3⟩
    cases i with
    | zero => simp at h1 h2; subst h1 h2; exact .inl h3
    | succ i => simp at h1 h2; exact .inr ⟨i, t, u, h1, h2, h3⟩
  · rintro (h | ⟨i, t, u, h1, h2, h3⟩)
    · exact ⟨0, s, v, rfl, rfl, h⟩
    · exact ⟨i + 1, t, u, by simpa using h1, by simpa using h2, h3⟩
theorem Rp.nil {K : Fr0} {F H : Hp} (s : Same F H) : Rp K F H [] [] := ⟨rfl, s, fun i s v h => by simp at h, fun i j s t v u q h => by simp at h⟩
theorem Rp.cons {K : Fr0} {F H : Hp} {s : Slot} {ρ : En} {v : Option V} {σ : St} (R : Rp K F H ρ σ) (h : SlotOk K F H s v) (dj : ∀ q, Owns H s v q → ¬ OwnE H ρ σ q) : Rp K F H (s :: ρ) (v :: σ) := by
  refine ⟨by simp [R.len], R.sub, fun i t u h1 h2 => ?_, fun i j t t' u u' q h1 h2 h3 h4 o1 o2 => ?_⟩
  · cases i with
    | zero => simp at h1 h2; subst h1 h2; exact h
    | succ i => simp at h1 h2; exact R.ok i t u h1 h2
  · cases i with
    | zero =>
      simp at h1 h2; subst h1 h2
      cases j with
      | zero => rfl
      | succ j => simp at h3 h4; exact absurd ⟨j, _, _, h3, h4, o2⟩ (dj q o1)
    | succ i =>
      simp at h1 h2
      cases j with
      | zero => simp at h3 h4; subst h3 h4; exact absurd ⟨i, _, _, h1, h2, o1⟩ (dj q o2)
      | succ j => simp at h3 h4; rw [R.dj i j t t' u u' q h1 h2 h3 h4 o1 o2]
theorem Rp.tail {K : Fr0} {F H : Hp} {s : Slot} {ρ : En} {v : Option V} {σ : St} (R : Rp K F H (s :: ρ) (v :: σ)) : SlotOk K F H s v ∧ (∀ q, Owns H s v q → ¬ OwnE H ρ σ q) ∧ Rp K F H ρ σ := by
  refine ⟨R.ok 0 s v rfl rfl, fun q o ⟨j, t, u, h1, h2, h3⟩ => ?_, by have := R.len; simpa using this, R.sub, fun i t u h1 h2 => R.ok (i + 1) t u (by simpa using h1) (by simpa using h2), fun i j t t' u u' q h1 h2 h3 h4 o1 o2 => ?_⟩
  · have := R.dj 0 (j + 1) s t v u q rfl rfl (by simpa using h1) (by simpa using h2) o h3
    cases this
  · have := R.dj (i + 1) (j + 1) t t' u u' q (by simpa using h1) (by simpa using h2) (by simpa using h3) (by simpa using h4) o1 o2
    omega
theorem set_self {α : Type} {l : List α} {i : Nat} {x : α} (h : l[i]? = some x) : l.set i x = l := by
  refine List.ext_getElem? fun j => ?_
  by_cases hj : i = j
  · subst hj
    rw [List.getElem?_set_self (List.getElem?_eq_some_iff.mp h).1, h]
  · rw [List.getElem?_set_ne hj]

theorem take_ok {K : Fr0} {F H : Hp} {σ : St} : ∀ {gs : List Arg} {vs : List V} {ρ sl ρ2 : En}, Rp K F H ρ σ → ArgsOk K F H ρ σ gs vs → takeArgs gs ρ = some (sl, ρ2) →
    Rp K F H sl (vs.map some) ∧ Rp K F H ρ2 σ ∧ (∀ q, OwnE H sl (vs.map some) q → ¬ OwnE H ρ2 σ q) ∧ (∀ q, OwnE H sl (vs.map some) q → OwnsL H gs vs q ∨ OwnE H ρ σ q) ∧ (∀ q, OwnE H ρ2 σ q → OwnE H ρ σ q)
  | [], [], ρ, sl, ρ2, R, _, e => by
    cases e
    exact ⟨Rp.nil R.sub, R, fun q z => absurd z ownE_nil, fun q z => absurd z ownE_nil, fun q z => z⟩
  | [], _ :: _, _, _, _, _, h, _ => h.elim
  | _ :: _, [], _, _, _, _, h, _ => h.elim
  | .sl s :: gs, v :: vs, ρ, sl, ρ2, R, h, e => by
    have e' : ((takeArgs gs ρ).map fun r => (s :: r.1, r.2)) = some (sl, ρ2) := e
    cases q : takeArgs gs ρ with
    | none => rw [q] at e'; cases e'
    | some r =>
      rw [q] at e'
      cases e'
      obtain ⟨R1, R2, d1, d2, d3⟩ := take_ok (sl := r.1) (ρ2 := r.2) R h.2.2 q
      have nsl : ∀ q, Owns H s (some v) q → ¬ OwnE H r.1 (vs.map some) q := fun q o z => by
        rcases d2 q z with y | y
        · exact h.2.1 q o y
        · exact h.1.2 q o y
      refine ⟨R1.cons h.1.1 nsl, R2, fun q z => ?_, fun q z => ?_, d3⟩
      · rcases ownE_cons.mp z with y | y
        · exact fun y' => h.1.2 q y (d3 q y')
        · exact d1 q y
      · rcases ownE_cons.mp z with y | y
        · exact .inl (.inl y)
        · exact (d2 q y).imp_left .inr
  | .fl _ _ _ :: gs, v :: vs, ρ, sl, ρ2, R, h, e => by cases e
  | .nm i :: gs, v :: vs, ρ, sl, ρ2, R, h, e => by
    have e' : (if (En.at ρ i).isSome then (if (En.at ρ i).isCell then (takeArgs gs (ρ.set i .emp)).map fun r => (En.at ρ i :: r.1, r.2) else (takeArgs gs ρ).map fun r => (En.at ρ i :: r.1, r.2)) else none) = some (sl, ρ2) := e
    by_cases hs : (En.at ρ i).isSome = true
    · rw [if_pos hs] at e'
      have h0 := En.at_some hs
      have hv : σ[i]? = some (some v) := h.1
      have ok := R.ok i _ _ h0 hv
      by_cases hc : (En.at ρ i).isCell = true
      · rw [if_pos hc] at e'
        have hsub : ∀ q, OwnE H (ρ.set i .emp) σ q → OwnE H ρ σ q ∧ ¬ Owns H (En.at ρ i) (some v) q := fun q z => by
          rw [← set_self hv] at z
          rcases ownE_set_ne z with ⟨_, _, y⟩ | ⟨j, t, u, hj, e1, e2, o⟩
          · exact y.elim
          · exact ⟨⟨j, t, u, e1, e2, o⟩, fun o' => hj (R.dj j i t _ u _ q e1 e2 h0 hv o o')⟩
        have R' : Rp K F H (ρ.set i .emp) σ := by
          have := R.set (i := i) (s := .emp) (v := some v) R.sub trivial (fun j t u _ e1 e2 => R.ok j t u e1 e2) fun q j t u z => z.elim
          rw [set_self hv] at this
          exact this
        have A' : ∀ {gs : List Arg} {vs : List V}, ArgsOk K F H ρ σ gs vs → ArgsOk K F H (ρ.set i .emp) σ gs vs := by
          intro gs
          induction gs with
          | nil => intro vs h; cases vs <;> first | trivial | exact h.elim
          | cons g gs ih =>
            intro vs h
            cases vs with
            | nil => exact h.elim
            | cons v vs =>
              refine ⟨?_, h.2.1, ih h.2.2⟩
              cases g with
              | nm j => exact h.1
              | fl _ _ _ => exact h.1
              | sl s => exact ⟨h.1.1, fun q o z => h.1.2 q o (hsub q z).1⟩
        cases q : takeArgs gs (ρ.set i .emp) with
        | none => rw [q] at e'; cases e'
        | some r =>
          rw [q] at e'
          cases e'
          obtain ⟨R1, R2, d1, d2, d3⟩ := take_ok (sl := r.1) (ρ2 := r.2) R' (A' h.2.2) q
          have own0 : ∀ q, Owns H (En.at ρ i) (some v) q → OwnE H ρ σ q := fun q o => ⟨i, _, _, h0, hv, o⟩
          have notL : ∀ {gs : List Arg} {vs : List V} {q : Addr}, ArgsOk K F H ρ σ gs vs → OwnsL H gs vs q → OwnE H ρ σ q → False := by
            intro gs
            induction gs with
            | nil => intro vs q h z _; cases vs <;> exact z.elim
            | cons g gs ih =>
              intro vs q h z y
              cases vs with
              | nil => exact h.elim
              | cons v vs =>
                rcases z with z | z
                · cases g with
                  | nm j => exact z.elim
                  | fl _ _ _ => exact z.elim
                  | sl s => exact h.1.2 q z y
                · exact ih h.2.2 z y
          refine ⟨R1.cons ok fun q o z => ?_, R2, fun q z => ?_, fun q z => ?_, fun q z => (hsub q (d3 q z)).1⟩
          · rcases d2 q z with y | y
            · exact notL h.2.2 y (own0 q o)
            · exact (hsub q y).2 o
          · rcases ownE_cons.mp z with y | y
            · exact fun y' => (hsub q (d3 q y')).2 y
            · exact d1 q y
          · rcases ownE_cons.mp z with y | y
            · exact .inr (own0 q y)
            · rcases d2 q y with y | y
              · exact .inl (.inr y)
              · exact .inr (hsub q y).1
      · have hc : (En.at ρ i).isCell = false := by simpa using hc
        rw [hc] at e'
        have e' : ((takeArgs gs ρ).map fun r => (En.at ρ i :: r.1, r.2)) = some (sl, ρ2) := by simpa using e'
        cases q : takeArgs gs ρ with
        | none => rw [q] at e'; cases e'
        | some r =>
          rw [q] at e'
          cases e'
          obtain ⟨R1, R2, d1, d2, d3⟩ := take_ok (sl := r.1) (ρ2 := r.2) R h.2.2 q
          refine ⟨R1.cons ok fun q o => absurd o (notcell_owns hc), R2, fun q z => ?_, fun q z => ?_, d3⟩
          · rcases ownE_cons.mp z with y | y
            · exact absurd y (notcell_owns hc)
            · exact d1 q y
          · rcases ownE_cons.mp z with y | y
            · exact absurd y (notcell_owns hc)
            · exact (d2 q y).imp_left .inr
    · rw [if_neg hs] at e'; cases e'
theorem give_ok {K : Fr0} {F' H' : Hp} {σ : St} : ∀ {gs : List Arg} {vs : List V} {sl outs ρ : En}, Rp K F' H' ρ σ → Rp K F' H' outs (vs.map some) → (∀ (i : Nat) (v : V) (j : Nat), gs[j]? = some (Arg.nm i) → vs[j]? = some v → σ[i]? = some (some v)) → (∀ q, OwnE H' outs (vs.map some) q → ¬ OwnE H' ρ σ q) →
    Rp K F' H' (giveBack gs sl outs ρ) σ ∧ ∀ q, OwnE H' (giveBack gs sl outs ρ) σ q → OwnE H' ρ σ q ∨ OwnE H' outs (vs.map some) q := by
  intro gs
  induction gs with
  | nil => intro vs sl outs ρ R Ro hn dj; exact ⟨by unfold giveBack; exact R, fun q z => .inl (by unfold giveBack at z; exact z)⟩
  | cons g gs ih =>
    intro vs sl outs ρ R Ro hn dj
    cases sl with
    | nil => cases g <;> exact ⟨by unfold giveBack; exact R, fun q z => .inl (by unfold giveBack at z; exact z)⟩
    | cons s sl =>
      cases outs with
      | nil => cases g <;> exact ⟨by unfold giveBack; exact R, fun q z => .inl (by unfold giveBack at z; exact z)⟩
      | cons o outs =>
        cases vs with
        | nil => have := Ro.len; simp at this
        | cons v vs =>
          obtain ⟨k1, k2, k3⟩ := Ro.tail
          have hn' : ∀ (i : Nat) (v : V) (j : Nat), gs[j]? = some (.nm i) → vs[j]? = some v → σ[i]? = some (some v) := fun i v j e1 e2 => hn i v (j + 1) (by simpa using e1) (by simpa using e2)
          cases g with
          | fl _ _ _ =>
            unfold giveBack
            obtain ⟨a, b⟩ := ih (sl := sl) R k3 hn' fun q z => dj q (ownE_cons.mpr (.inr z))
            exact ⟨a, fun q z => (b q z).imp_right fun y => ownE_cons.mpr (.inr y)⟩
          | sl s' =>
            unfold giveBack
            obtain ⟨a, b⟩ := ih (sl := sl) R k3 hn' fun q z => dj q (ownE_cons.mpr (.inr z))
            exact ⟨a, fun q z => (b q z).imp_right fun y => ownE_cons.mpr (.inr y)⟩
          | nm i =>
            unfold giveBack
            by_cases hc : s.isCell = true
            · rw [if_pos hc]
              have hv : σ[i]? = some (some v) := hn i v 0 rfl rfl
              have R' : Rp K F' H' (ρ.set i o) σ := by
                have := R.set (i := i) (s := o) (v := some v) R.sub k1 (fun j t u _ e1 e2 => R.ok j t u e1 e2) fun q j t u z _ e1 e2 o2 => dj q (ownE_cons.mpr (.inl z)) ⟨j, t, u, e1, e2, o2⟩
                rw [set_self hv] at this
                exact this
              have sub : ∀ q, OwnE H' (ρ.set i o) σ q → Owns H' o (some v) q ∨ OwnE H' ρ σ q := fun q z => by
                rw [← set_self hv] at z
                exact ownE_set z
              obtain ⟨a, b⟩ := ih (sl := sl) R' k3 hn' fun q z z' => by
                rcases sub q z' with y | y
                · exact k2 q y z
                · exact dj q (ownE_cons.mpr (.inr z)) y
              refine ⟨a, fun q z => ?_⟩
              rcases b q z with y | y
              · rcases sub q y with y | y
                · exact .inr (ownE_cons.mpr (.inl y))
                · exact .inl y
              · exact .inr (ownE_cons.mpr (.inr y))
            · rw [if_neg hc]
              obtain ⟨a, b⟩ := ih (sl := sl) R k3 hn' fun q z => dj q (ownE_cons.mpr (.inr z))
              exact ⟨a, fun q z => (b q z).imp_right fun y => ownE_cons.mpr (.inr y)⟩
/-- the promise of a def: f on the arguments' slots -/
def spF (K : Fr0) (I : ExI) (n : Nat) (f : M Slot) : Sp := fun vs H Q E => vs.length = n ∧ ∃ F as, Rp K F H as (vs.map some) ∧
  (f as).sat (fun s outs => ∀ F' H' v, Post K F H as (vs.map some) F' H' outs (.sl s) v → Q v H')
    (fun x outs => ∀ F' H' cls d, XR I K x cls d F' H' → Rp K F' H' outs (vs.map some) → Ext F H (OwnE H as (vs.map some)) F' H' (OwnE H' outs (vs.map some)) → E cls d H')
/-- a def of the text that is f -/
structure FnT (P : Program) (w : World) (K : Fr0) (mg : Str → Option Value) (base : Heap) (I : ExI) (name : Str) (n k : Nat) (f : M Slot) : Prop where
  ex : ∃ fa fd ps, FnOk P w K mg base (L2.CX P w) k fa fd ps (spF K I n f) ∧ mg name = some (.ref fa) ∧ PySem.W.keepIn K (.ref fa) = true ∧ Binds K fd ps []
section
variable {X : Cx} {W : WX} {I : ExI}
/-- behind the arguments a call of f, in terms of the promise -/
theorem call_sat {f : M Slot} {as : List AE} {ρ : En} {F H : Hp} {σ : St} {Q : VK} {n : Nat} (R : Rp X.K F H ρ σ)
    (z : (mCall f as ρ).sat (fun s ρ' => ∀ F' H' v, Post X.K F H ρ σ F' H' ρ' (.sl s) v → Q v H') (XC X W I F H (OwnE H ρ σ) σ)) (hn : ∀ gs ρ', evAs as ρ = .ok gs ρ' → gs.length = n) :
    (evAs as ρ).sat (fun gs ρ' => ∀ F' H' vs, PostL X.K F H ρ σ F' H' ρ' gs vs → spF X.K I n f vs H' Q (fun cls d H' => W cls d σ H')) (XC X W I F H (OwnE H ρ σ) σ) := by
  unfold mCall at z
  rw [Out.sat_bind] at z
  refine Out.sat_mono z (fun gs ρ1 eo y F1 H1 vs P => ?_) fun _ _ y => y
  have lenA : ∀ {gs : List Arg} {vs : List V}, ArgsOk X.K F1 H1 ρ1 σ gs vs → gs.length = vs.length := by
    intro gs
    induction gs with
    | nil => intro vs h; cases vs <;> first | rfl | exact h.elim
    | cons g gs ih =>
      intro vs h
      cases vs with
      | nil => exact h.elim
      | cons v vs => simp [ih h.2.2]
  have hl := lenA P.ok
  cases e : takeArgs gs ρ1 with
  | none => rw [e] at y; exact y.elim
  | some r =>
    obtain ⟨sl, ρ2⟩ := r
    rw [e] at y
    obtain ⟨R1, R2, d1, d2, d3⟩ := take_ok P.rp P.ok e
    refine ⟨by rw [← hl]; exact hn gs ρ1 eo, F1, sl, R1, ?_⟩
    have hnm : ∀ (i : Nat) (v : V) (j : Nat), gs[j]? = some (.nm i) → vs[j]? = some v → σ[i]? = some (some v) := by
      have : ∀ {gs : List Arg} {vs : List V}, ArgsOk X.K F1 H1 ρ1 σ gs vs → ∀ (i : Nat) (v : V) (j : Nat), gs[j]? = some (.nm i) → vs[j]? = some v → σ[i]? = some (some v) := by
        intro gs
        induction gs with
        | nil => intro vs h i v j e1; simp at e1
        | cons g gs ih =>
          intro vs h
          cases vs with
          | nil => exact h.elim
          | cons w vs =>
            intro i v j e1 e2
            cases j with
            | zero => simp at e1 e2; subst e1 e2; exact h.1
            | succ j => simp at e1 e2; exact ih h.2.2 i v j e1 e2
      exact this P.ok
    -- behind the callee
    have behind : ∀ {F' H' : Hp} {outs : En} {O' : Addr → Prop}, Rp X.K F' H' outs (vs.map some) → Ext F1 H1 (OwnE H1 sl (vs.map some)) F' H' O' → (∀ q, OwnE H' outs (vs.map some) q → O' q) →
        Rp X.K F' H' (giveBack gs sl outs ρ2) σ ∧ (∀ q, OwnE H' (giveBack gs sl outs ρ2) σ q → OwnE H' ρ2 σ q ∨ OwnE H' outs (vs.map some) q) ∧ (∀ q, O' q → ¬ OwnE H' ρ2 σ q) ∧ ∀ q, OwnE H' ρ2 σ q → OwnE H1 ρ2 σ q := fun {F' H' outs O'} Ro x hO => by
      have R2' := R2.ext x Ro.sub fun q z z' => d1 q z' z
      have bk2 : ∀ q, OwnE H' ρ2 σ q → OwnE H1 ρ2 σ q := fun q z => (R2.extO x fun q z z' => d1 q z' z).mp z
      have dO : ∀ q, O' q → ¬ OwnE H' ρ2 σ q := fun q z z' => by
        have z' := bk2 q z'
        rcases x.newO q z with y | y
        · obtain ⟨_, u, hu⟩ := R2.ownF z'
          rw [hu] at y; cases y
        · exact d1 q y z'
      obtain ⟨a, b⟩ := give_ok (sl := sl) (gs := gs) (vs := vs) R2' Ro hnm fun q z => dO q (hO q z)
      exact ⟨a, b, dO, bk2⟩
    have wk : ∀ q, OwnE H1 sl (vs.map some) q → OwnsL H1 gs vs q ∨ OwnE H1 ρ1 σ q := d2
    cases ef : f sl with
    | bad => simp only [ef] at y; exact y.elim
    | ok s outs =>
      simp only [ef] at y
      intro F' H' v P'
      obtain ⟨Ra, Rb, dO, bk⟩ := behind P'.rp P'.ext fun q z => .inr z
      refine y F' H' v ⟨Ra, ⟨P'.ok.1, fun q o z => ?_⟩, P.ext.trans (P'.ext.weak wk fun q z => ?_)⟩
      · rcases Rb q z with z | z
        · exact dO q (.inl o) z
        · exact P'.ok.2 q o z
      · rcases z with z | z
        · exact .inl (.inl z)
        · rcases Rb q z with z | z
          · exact .inr (.inr (d3 q (bk q z)))
          · exact .inl (.inr z)
    | exc x outs =>
      simp only [ef] at y
      intro F' H' cls d xr Ro x'
      obtain ⟨Ra, Rb, dO, bk⟩ := behind Ro x' fun q z => z
      refine y F' H' cls d xr Ra (P.ext.trans (x'.weak wk fun q z => ?_))
      rcases Rb q z with z | z
      · exact .inr (.inr (d3 q (bk q z)))
      · exact .inl z
theorem evAs_length : ∀ {as : List AE} {ρ ρ' : En} {gs : List Arg}, evAs as ρ = .ok gs ρ' → gs.length = as.length
  | [], _, _, _, e => by cases e; rfl
  | a :: as, ρ, ρ', gs, e => by
    have e' : ((evA a ρ).bind fun g ρ1 => (evAs as ρ1).bind fun gs ρ2 => Out.ok (g :: gs) ρ2) = .ok gs ρ' := e
    cases q : evA a ρ with
    | bad => rw [q] at e'; cases e'
    | exc x r => rw [q] at e'; cases e'
    | ok g ρ1 =>
      rw [q] at e'
      have e2 : ((evAs as ρ1).bind fun gs ρ2 => Out.ok (g :: gs) ρ2) = .ok gs ρ' := e'
      cases q2 : evAs as ρ1 with
      | bad => rw [q2] at e2; cases e2
      | exc x r => rw [q2] at e2; cases e2
      | ok gs' ρ2 =>
        rw [q2] at e2
        cases e2
        simp [evAs_length q2]
theorem ce_call {f : M Slot} {as : List AE} {e : Expr} {es : List Expr} {x : Str} {n k : Nat} {p pos : Pos} (T : FnT X.prog X.w X.K X.mg X.base I x n k f) (hr : Room k X.A) (tk : Takes X W) (hg : Gl X x) (ha : CAs X W I as (e :: es)) (hn : as.length = n)
    (hdb : (x == ("__debug__" : Str)) = false := by decide) (he : starEach (e :: es) X.env = (false, eval e X.env) :: starEach es X.env := by rfl) (hpl : (backTo pos (starEach es X.env)).any (·.1) = false := by rfl) :
    CE X W I (mCall f as) (.Call (.Name x p) (e :: es) [] pos) := by
  obtain ⟨fa, fd, ps, G, gm, gk, gb⟩ := T.ex
  obtain ⟨t, h1, q⟩ := ha.run
  exact ce_mk (pe_callS G hr hg gm gk gb (fun σ => passAt tk σ) h1 hdb he hpl) fun F H ρ σ Q R z => q F H ρ σ _ R (call_sat R z fun gs ρ' eo => (evAs_length eo).trans hn)
end
end SD

set_option Elab.async false
set_option linter.all false
set_option autoImplicit false
set_option maxRecDepth 100000
set_option maxHeartbeats 4000000
/-! SD, part E: tests, statements, blocks, loops, the body of a def. -/
namespace SD
open PySem PySem.Spec PyProof.Rows L2

/-- where one stands: the names by slots, the scope that runs, what is wanted of exceptions, room for calls -/
structure Cn0 (X : Cx) (N : List Str) (sc : Scope) (cf : Str → Bool) : Prop where
  hN : X.N = N
  hs : X.env.scope = sc
  nd : N.Nodup
  fn : ∀ x, cf x = true → X.fn x = true
structure Cn (X : Cx) (W : WX) (N : List Str) (sc : Scope) (cf : Str → Bool) (k : Nat) : Prop extends Cn0 X N sc cf where
  tk : Takes X W
  po : PassesOwn (model X.prog X.w) X.A X.env X.xe
  hr : Room k X.A
  calm : X.calm = true
/-- a name is to be seen -/
def visB (sc : Scope) (x : Str) : Bool := match sc.names.lookup x with
  | some .local => true
  | some .cell => true
  | some .free => true
  | _ => false
theorem vis_of {sc : Scope} {x : Str} (h : visB sc x = true) : Vis sc x := by
  unfold visB at h
  unfold Vis
  split at h <;> simp_all
def locB (sc : Scope) (x : Str) : Bool := match sc.names.lookup x with
  | some .local => true
  | _ => false
theorem loc_of {sc : Scope} {x : Str} (h : locB sc x = true) : sc.names.lookup x = some .local := by
  unfold locB at h
  split at h <;> simp_all
def glB (sc : Scope) (x : Str) : Bool := match sc.names.lookup x with
  | some .globalImplicit => true
  | _ => false
theorem gl_of {sc : Scope} {x : Str} (h : glB sc x = true) : sc.names.lookup x = some .globalImplicit := by
  unfold glB at h
  split at h <;> simp_all
section
variable {X : Cx} {W : WX} {N : List Str} {sc : Scope} {cf : Str → Bool} {k : Nat} {I : ExI}
theorem Cn0.pv (c : Cn0 X N sc cf) (i : Nat) {x : Str} {pos : Pos} (h : N[i]? = some x) (hv : visB sc x = true) (hd : (x == ("__debug__" : Str)) = false := by decide) (hcd : (x == ("__classdict__" : Str)) = false := by decide) : PE X (.Name x pos) (tVar i) :=
  pe_var (by rw [c.hN]; exact h) (by rw [c.hs]; exact vis_of hv) hd hcd
theorem Cn0.nm (c : Cn0 X N sc cf) (i : Nat) {x : Str} {pos : Pos} (h : N[i]? = some x) (hv : visB sc x = true) (hd : (x == ("__debug__" : Str)) = false := by decide) (hcd : (x == ("__classdict__" : Str)) = false := by decide) : CA X W I (.nm i) (.Name x pos) :=
  ca_nm (c.pv i h hv hd hcd)
theorem Cn0.var (c : Cn0 X N sc cf) (i : Nat) {x : Str} {pos : Pos} (h : N[i]? = some x) (hv : visB sc x = true) (hd : (x == ("__debug__" : Str)) = false := by decide) (hcd : (x == ("__classdict__" : Str)) = false := by decide) : CE X W I (mVar i) (.Name x pos) :=
  ce_var (c.pv i h hv hd hcd)
theorem Cn0.gl (c : Cn0 X N sc cf) {x : Str} (h : glB sc x = true) : Gl X x := by
  show X.env.scope.names.lookup x = some .globalImplicit
  rw [c.hs]; exact gl_of h
end

/-- a name that may be stored -/
def stB (sc : Scope) (cf : Str → Bool) (x : Str) : Bool := match sc.names.lookup x with
  | some .local => true
  | some .cell => cf x
  | _ => false
theorem st_of {sc : Scope} {cf : Str → Bool} {x : Str} (h : stB sc cf x = true) : sc.names.lookup x = some .local ∨ (sc.names.lookup x = some .cell ∧ cf x = true) := by
  unfold stB at h
  split at h <;> simp_all
section
variable {X : Cx} {W : WX} {N : List Str} {sc : Scope} {cf : Str → Bool} {k : Nat} {I : ExI}
theorem Cn0.loc (c : Cn0 X N sc cf) {x : Str} (h : stB sc cf x = true) : Loc X.env.scope x ∧ (X.fn x = true ∨ X.env.scope.names.lookup x = some .local) := by
  rw [c.hs]
  rcases st_of h with e | ⟨e, e'⟩
  · exact ⟨.inl e, .inr e⟩
  · exact ⟨.inr e, .inl (c.fn x e')⟩
theorem Cn0.tgt (c : Cn0 X N sc cf) (i : Nat) {x : Str} {pos : Pos} (h : N[i]? = some x) (hl : stB sc cf x = true) : PG X (.Name x pos) (gName i) :=
  pg_name (by rw [c.hN]; exact c.nd) (by rw [c.hN]; exact h) (c.loc hl).1 (c.loc hl).2
theorem Cn0.set (c : Cn0 X N sc cf) (i : Nat) {x : Str} {pos pos' : Pos} {e : Expr} (h : N[i]? = some x) (hl : stB sc cf x = true) (hs : swapsWith e (some (.Name x pos')) pos.line X.env = pure false := by rfl) : ∀ te, PE X e te → PS X (.Assign [.Name x pos'] e pos) (tAsg te (gName i)) :=
  fun te he => ps_set (by rw [c.hN]; exact c.nd) (by rw [c.hN]; exact h) (c.loc hl).1 he hs (c.loc hl).2
end

/-! ### tests -/
structure PostB (K : Fr0) (F H : Hp) (ρ : En) (σ : St) (F' H' : Hp) (ρ' : En) : Prop where
  rp : Rp K F' H' ρ' σ
  ext : Ext F H (OwnE H ρ σ) F' H' (OwnE H' ρ' σ)
structure CT (X : Cx) (W : WX) (I : ExI) (c : M Bool) (e : Expr) : Prop where
  run : ∃ t, PT X e t ∧ ∀ (F H : Hp) (ρ : En) (σ : St) (Q : Bool → Hp → Prop), Rp X.K F H ρ σ →
    (c ρ).sat (fun b ρ' => ∀ F' H', PostB X.K F H ρ σ F' H' ρ' → Q b H') (XC X W I F H (OwnE H ρ σ) σ) → t σ H Q
def asBool : Slot → Option Bool
  | .val (.bool b) => some b
  | _ => none
def mTest (f : M Slot) : M Bool := fun ρ => (f ρ).bind fun s ρ' => match asBool s with
  | some b => .ok b ρ'
  | none => .bad
def mAnd (a b : M Bool) : M Bool := fun ρ => (a ρ).bind fun x ρ' => if x then b ρ' else .ok false ρ'
def mOr (a b : M Bool) : M Bool := fun ρ => (a ρ).bind fun x ρ' => if x then .ok true ρ' else b ρ'
def mNot (a : M Bool) : M Bool := fun ρ => (a ρ).bind fun x ρ' => .ok (!x) ρ'
def mBool (a : M Bool) : M Slot := fun ρ => (a ρ).bind fun x ρ' => .ok (.val (.bool x)) ρ'
def mIfE (c : M Bool) (a b : M Slot) : M Slot := fun ρ => (c ρ).bind fun x ρ' => if x then a ρ' else b ρ'
section
variable {X : Cx} {W : WX} {I : ExI} {e ea eb : Expr} {pos : Pos}
theorem XC.stepB {F H F1 H1 : Hp} {ρ ρ1 : En} {σ : St} {x : Exc} {ρ' : En} (z : XC X W I F H (OwnE H ρ σ) σ x ρ') (P : PostB X.K F H ρ σ F1 H1 ρ1) : XC X W I F1 H1 (OwnE H1 ρ1 σ) σ x ρ' := XC.step z P.ext fun _ h => h
theorem Post.after {F H F1 H1 F2 H2 : Hp} {K : Fr0} {ρ ρ1 ρ2 : En} {σ : St} {g : Arg} {v : V} (P : PostB K F H ρ σ F1 H1 ρ1) (P2 : Post K F1 H1 ρ1 σ F2 H2 ρ2 g v) : Post K F H ρ σ F2 H2 ρ2 g v :=
  ⟨P2.rp, P2.ok, P.ext.trans P2.ext⟩
theorem PostB.after {F H F1 H1 F2 H2 : Hp} {K : Fr0} {ρ ρ1 ρ2 : En} {σ : St} (P : PostB K F H ρ σ F1 H1 ρ1) (P2 : PostB K F1 H1 ρ1 σ F2 H2 ρ2) : PostB K F H ρ σ F2 H2 ρ2 :=
  ⟨P2.rp, P.ext.trans P2.ext⟩
theorem PostB.refl {F H : Hp} {K : Fr0} {ρ : En} {σ : St} (R : Rp K F H ρ σ) : PostB K F H ρ σ F H ρ := ⟨R, Ext.refl⟩
theorem bool_of {K : Fr0} {F H : Hp} {s : Slot} {v : V} {b : Bool} (h : SlotOk K F H s (some v)) (e : asBool s = some b) : v = .bl b ∧ ∀ q, ¬ Owns H s (some v) q := by
  cases s with
  | val d =>
    cases d with
    | bool b' =>
      cases e
      obtain ⟨x, ex, r⟩ := h
      cases ex
      rw [rep_bool] at r
      exact ⟨r, fun q z => z⟩
    | _ => cases e
  | _ => cases e
theorem Post.toB {K : Fr0} {F H F' H' : Hp} {ρ ρ' : En} {σ : St} {s : Slot} {v : V} (P : Post K F H ρ σ F' H' ρ' (.sl s) v) : PostB K F H ρ σ F' H' ρ' := ⟨P.rp, P.ext.weak (fun _ h => h) fun q h => .inl (.inr h)⟩
/-- an expression whose value is a truth, as a test -/
theorem ct_val {f : M Slot} (h : CE X W I f e) (he : ∀ whole, isTrue e X.env whole = (do let v ← whole; standAt e.pos; holding [v] (truthy v)) := by intro _; rfl) : CT X W I (mTest f) e := by
  obtain ⟨t, h1, q⟩ := h.of
  refine ⟨_, pt_val h1 he, fun F H ρ σ Q R z => q F H ρ σ _ R ?_⟩
  unfold mTest at z
  rw [Out.sat_bind] at z
  refine Out.sat_mono z (fun s ρ' _ y F' H' v P => ?_) fun _ _ y => y
  cases eb : asBool s with
  | none => rw [eb] at y; exact y.elim
  | some b =>
    rw [eb] at y
    exact ⟨b, (bool_of P.ok.1 eb).1, y F' H' P.toB⟩
theorem ct_cmp {op : CmpOp} {p : List D → Option Slot} {a b : AE} (ho : OpR X (compareOp op) (fun x y => rP X.K p [x, y])) (ha : CA X W I a ea) (hb : CA X W I b eb) (hm : behindInMarks op eb = false) : CT X W I (mTest (mPrim p [a, b])) (.Compare ea [op] [eb] pos) := by
  obtain ⟨ta, tb, h1, h2, q⟩ := two_args ha hb
  refine ⟨_, pt_cmpR ho h1 h2 hm, fun F H ρ σ Q R z => ?_⟩
  unfold mTest at z
  rw [Out.sat_bind] at z
  have z' := Out.sat_mono z (k' := fun s ρ' => ∀ F' H' v, Post X.K F H ρ σ F' H' ρ' (.sl s) v → (fun x H' => ∃ k, x = V.bl k ∧ Q k H') v H') (fun s ρ' _ y F' H' v P => by
    cases eb : asBool s with
    | none => rw [eb] at y; exact y.elim
    | some b =>
      rw [eb] at y
      exact ⟨b, (bool_of P.ok.1 eb).1, y F' H' P.toB⟩) fun _ _ y => y
  exact q F H ρ σ _ R (Out.sat_mono (prim_sat' z') (fun gs ρ' _ y F' H' x y' P => y F' H' _ P) fun _ _ y => y)
/-- a row of and, or -/
structure CW (X : Cx) (W : WX) (I : ExI) (c : M Bool) (e : Expr) : Prop where
  run : ∃ t, PW X e t ∧ ∀ (F H : Hp) (ρ : En) (σ : St) (Q : Bool → Hp → Prop), Rp X.K F H ρ σ →
    (c ρ).sat (fun b ρ' => ∀ F' H', PostB X.K F H ρ σ F' H' ρ' → Q b H') (XC X W I F H (OwnE H ρ σ) σ) → t σ H Q
theorem CW.ct {c : M Bool} (h : CW X W I c e) : CT X W I c e := let ⟨t, h1, q⟩ := h.run; ⟨t, h1.pt, q⟩
theorem cw_or1 {a : M Bool} (h : CT X W I a ea) : CW X W I a (.BoolOp .Or [ea] pos) := let ⟨t, h1, q⟩ := h.run; ⟨t, pw_or1 h1, q⟩
theorem cw_or {a b : M Bool} {rest : List Expr} (ha : CT X W I a ea) (hb : CW X W I b (.BoolOp .Or (eb :: rest) pos)) : CW X W I (mOr a b) (.BoolOp .Or (ea :: eb :: rest) pos) := by
  obtain ⟨t, h1, q⟩ := ha.run
  obtain ⟨u, h2, q2⟩ := hb.run
  refine ⟨_, pw_or h1 h2, fun F H ρ σ Q R z => ?_⟩
  unfold mOr at z
  rw [Out.sat_bind] at z
  refine q F H ρ σ _ R (Out.sat_mono z (fun x ρ1 _ y F1 H1 P => ?_) fun _ _ y => y)
  cases x with
  | true => rw [if_pos rfl] at y ⊢; exact y F1 H1 P
  | false =>
    rw [if_neg Bool.false_ne_true] at y ⊢
    exact q2 F1 H1 ρ1 σ Q P.rp (Out.sat_mono y (fun b ρ2 _ y2 F2 H2 P2 => y2 F2 H2 (P.after P2)) fun _ _ y2 => y2.stepB P)
theorem ct_not {a : M Bool} (ha : CT X W I a ea) : CT X W I (mNot a) (.UnaryOp .Not ea pos) := by
  obtain ⟨t, h1, q⟩ := ha.run
  refine ⟨_, pt_not h1, fun F H ρ σ Q R z => ?_⟩
  unfold mNot at z
  rw [Out.sat_bind] at z
  exact q F H ρ σ _ R z
/-- .. as values (of truths) -/
theorem ce_one {op : BoolOp} {f : M Slot} (h : CE X W I f ea) : CE X W I f (.BoolOp op [ea] pos) := let ⟨t, h1, q⟩ := h.run; ⟨t, pe_one h1, q⟩
def mAndV (a b : M Slot) : M Slot := fun ρ => (mTest a ρ).bind fun x ρ' => if x then b ρ' else .ok (.val (.bool false)) ρ'
def mOrV (a b : M Slot) : M Slot := fun ρ => (mTest a ρ).bind fun x ρ' => if x then .ok (.val (.bool true)) ρ' else b ρ'
def mNotV (a : M Slot) : M Slot := fun ρ => (mTest a ρ).bind fun x ρ' => .ok (.val (.bool (!x))) ρ'
theorem test_sat {f : M Slot} {ρ : En} {k : Bool → En → Prop} {N : Exc → En → Prop} (z : (mTest f ρ).sat k N) : (f ρ).sat (fun s ρ' => ∃ b, asBool s = some b ∧ k b ρ') N := by
  unfold mTest at z
  rw [Out.sat_bind] at z
  refine Out.sat_mono z (fun s ρ' _ y => ?_) fun _ _ y => y
  cases eb : asBool s with
  | none => rw [eb] at y; exact y.elim
  | some b => rw [eb] at y; exact ⟨b, rfl, y⟩
theorem post_bool {K : Fr0} {F H F' H' : Hp} {ρ ρ' : En} {σ : St} (P : PostB K F H ρ σ F' H' ρ') (b : Bool) : Post K F H ρ σ F' H' ρ' (.sl (.val (.bool b))) (.bl b) :=
  Post.after P (post_val P.rp (by rw [rep_bool]))
theorem ce_and {a b : M Slot} {rest : List Expr} (ha : CE X W I a ea) (hb : CE X W I b (.BoolOp .And (eb :: rest) pos)) : CE X W I (mAndV a b) (.BoolOp .And (ea :: eb :: rest) pos) := by
  obtain ⟨t, h1, q⟩ := ha.of
  obtain ⟨u, h2, q2⟩ := hb.of
  refine ce_mk (pe_and h1 h2) fun F H ρ σ Q R z => ?_
  unfold mAndV at z
  rw [Out.sat_bind] at z
  refine q F H ρ σ _ R (Out.sat_mono (test_sat z) (fun s ρ1 _ ⟨b', e, y⟩ F1 H1 v P => ?_) fun _ _ y => y)
  refine ⟨b', (bool_of P.ok.1 e).1, ?_⟩
  cases b' with
  | true =>
    rw [if_pos rfl] at y ⊢
    exact q2 F1 H1 ρ1 σ Q P.rp (Out.sat_mono y (fun b ρ2 _ y2 F2 H2 v2 P2 => y2 F2 H2 v2 (Post.after P.toB P2)) fun _ _ y2 => y2.stepB P.toB)
  | false => rw [if_neg Bool.false_ne_true] at y ⊢; exact y F1 H1 _ (post_bool P.toB false)
theorem ce_or {a b : M Slot} {rest : List Expr} (ha : CE X W I a ea) (hb : CE X W I b (.BoolOp .Or (eb :: rest) pos)) : CE X W I (mOrV a b) (.BoolOp .Or (ea :: eb :: rest) pos) := by
  obtain ⟨t, h1, q⟩ := ha.of
  obtain ⟨u, h2, q2⟩ := hb.of
  refine ce_mk (pe_or h1 h2) fun F H ρ σ Q R z => ?_
  unfold mOrV at z
  rw [Out.sat_bind] at z
  refine q F H ρ σ _ R (Out.sat_mono (test_sat z) (fun s ρ1 _ ⟨b', e, y⟩ F1 H1 v P => ?_) fun _ _ y => y)
  refine ⟨b', (bool_of P.ok.1 e).1, ?_⟩
  cases b' with
  | true => rw [if_pos rfl] at y ⊢; exact y F1 H1 _ (post_bool P.toB true)
  | false =>
    rw [if_neg Bool.false_ne_true] at y ⊢
    exact q2 F1 H1 ρ1 σ Q P.rp (Out.sat_mono y (fun b ρ2 _ y2 F2 H2 v2 P2 => y2 F2 H2 v2 (Post.after P.toB P2)) fun _ _ y2 => y2.stepB P.toB)
theorem ce_not {a : M Slot} (ha : CE X W I a ea) : CE X W I (mNotV a) (.UnaryOp .Not ea pos) := by
  obtain ⟨t, h1, q⟩ := ha.of
  refine ce_mk (pe_not h1) fun F H ρ σ Q R z => ?_
  unfold mNotV at z
  rw [Out.sat_bind] at z
  refine q F H ρ σ _ R (Out.sat_mono (test_sat z) (fun s ρ1 _ ⟨b', e, y⟩ F1 H1 v P => ?_) fun _ _ y => y)
  exact ⟨b', (bool_of P.ok.1 e).1, y F1 H1 _ (post_bool P.toB _)⟩
end
end SD

set_option Elab.async false
set_option linter.all false
set_option autoImplicit false
set_option maxRecDepth 100000
set_option maxHeartbeats 4000000
/-! SD: a, b = a list of that length. -/
namespace SD
open PySem PySem.Spec PyProof PyProof.Rows L2
section
variable {prog : Program} {w : World} {A : Around} {E : Value → Shared → Prop}
theorem draw_list {it t : Addr} {items : Array Value} (hne : t ≠ it) : ∀ (n i : Nat) (s : Shared) (Q : List Value → Shared → Prop), s.heap.IsListIter it t i → s.heap.IsList t items → i + n ≤ items.size →
    (∀ h' : Heap, h'.IsListIter it t (i + n) → Heap.SameBut it s.heap h' → Q ((items.toList.drop i).take n) { s with heap := h' }) → wpAny (model prog w) A (draw (.ref it) n) Q E s
  | 0, i, s, Q, hit, _, _, hQ => by
    show wpAny _ _ (pure []) Q E s
    exact wpAny_pure (by simpa using hQ s.heap hit (Heap.SameBut.refl ..))
  | n + 1, i, s, Q, hit, ht, hle, hQ => by
    have hlt : i < items.size := by omega
    show wpAny _ _ (pyNext (.ref it) >>= _) Q E s
    refine wpAny_bind (wpAny_pyNext_list_item hit ht (x := items[i]) (by simp [hlt]) fun h₁ hit₁ hs₁ => ?_)
    refine wpAny_bind (wpAny_holding (draw_list hne n (i + 1) _ _ hit₁ (ht.extBut hs₁.extBut hne) (by omega) fun h₂ hit₂ hs₂ => wpAny_pure ?_))
    have hd : items.toList.drop i = items[i] :: items.toList.drop (i + 1) := by simp [List.drop_eq_getElem_cons, hlt]
    have := hQ h₂ (by rw [show i + (n + 1) = i + 1 + n by omega]; exact hit₂) (hs₁.trans hs₂)
    rw [hd, List.take_succ_cons] at this
    exact this
theorem unpackItems_list {t : Addr} {items : Array Value} {s : Shared} {Q : List Value → Shared → Prop} (hh : A.handled = none) (ht : s.heap.IsList t items)
    (hQ : ∀ h', Heap.ExtBut s.heap.objs.size s.heap h' → Q items.toList { s with heap := h' }) : wpAny (model prog w) A (unpackItems (.ref t) items.size none) Q E s := by
  have hlt : t ≠ s.heap.objs.size := by obtain ⟨o, ho, _⟩ := ht; exact Nat.ne_of_lt (Heap.lt_size ho)
  unfold unpackItems
  refine wpAny_bind ?_
  · unfold notIterableAtAll
    refine wpAny_bind (wpAny_specialOf ht.typeIs slot_list_iter.lookup ?_)
    refine wpAny_pure ?_
    simp only [Bool.false_eq_true, if_false]
    refine wpAny_bind (wpAny_holding (wpAny_pyIter_list ht ?_))
    refine wpAny_bind (wpAny_holding (draw_list hlt items.size 0 _ _ ⟨_, Heap.get?_push_size _ rfl, rfl, rfl⟩ (ht.push _) (by omega) fun h₁ hit₁ hs₁ => ?_))
    have hall : List.take items.size (List.drop 0 items.toList) = items.toList := by
      rw [List.drop_zero]; exact List.take_of_length_le (by simp)
    rw [hall]
    rw [if_neg (by simp)]
    have ht₁ : h₁.IsList t items := (ht.push _).extBut hs₁.extBut hlt
    refine wpAny_bind (wpAny_holding (wpAny_pyNext_list_end hh hit₁ ht₁ (by simp) fun h₂ he₂ => ?_))
    simp only [Option.isSome_none, Bool.false_eq_true, if_false]
    refine wpAny_pure (hQ h₂ fun b o hb e => he₂ b o hb (hs₁.extBut b o hb (Heap.get?_push_of_some _ e)))
theorem unpack_list {t : Addr} {items : Array Value} {s : Shared} {targets : List (Bool × (Value → Sem Unit))} {Q : Unit → Shared → Prop} (hh : A.handled = none) (ht : s.heap.IsList t items)
    (hn : targets.length = items.size) (hstar : targets.findIdx? (·.1) = none)
    (h : ∀ h', Heap.ExtBut s.heap.objs.size s.heap h' → wpAny (model prog w) A (assignInOrder (targets.map (·.2)) items.toList) Q E { s with heap := h' }) :
    wpAny (model prog w) A (unpack (.ref t) targets) Q E s := by
  unfold unpack
  rw [hn, hstar]
  exact wpAny_bind (wpAny_holding (unpackItems_list hh ht h))
theorem assign_Tuple_list {env : Env} {elts : List Expr} {x1} {pos : Pos} {t : Addr} {items : Array Value} {s : Shared} {Q : Unit → Shared → Prop} (hh : A.handled = none) (ht : s.heap.IsList t items)
    (hn : (assignEach elts env).length = items.size) (hstar : (assignEach elts env).findIdx? (·.1) = none)
    (h : ∀ h', Heap.ExtBut s.heap.objs.size s.heap h' → wpAny (model prog w) A (assignInOrder ((assignEach elts env).map (·.2)) items.toList) Q E { s with heap := h' }) :
    wpAny (model prog w) A (assign (.Tuple elts x1 pos) env (.ref t)) Q E s := by
  rw [assign_Tuple]
  exact wpAny_bind (wpAny_standAt (unpack_list hh ht hn hstar h))
end
section
variable {X : Cx} {pos : Pos}
/-- (a, b, ..) = a tuple or a list of that length -/
def gTupE (K : PySem.W.Frag) (n : Nat) (t : TGs) : TG := fun v σ H Q => ∃ a xs, v = .ref a ∧ (SqT K H a xs ∨ SqL K H a xs) ∧ xs.length = n ∧ t xs σ H Q
theorem pg_tupE {es : List Expr} {k : Nat} {t : TGs} {n : Nat} (hc : X.calm = true) (h : PGs X es t)
    (hn : (assignEach es X.env).length = n := by rfl) (hst : (assignEach es X.env).findIdx? (·.1) = none := by rfl) : PG X (.Tuple es k pos) (gTupE X.K n t) := by
  refine ⟨fun pins s σ H v u Q I r hw => ?_⟩
  obtain ⟨a, xs, e1, hq, hl, hw⟩ := hw
  subst e1
  cases r
  rcases hq with hq | hq
  · obtain ⟨its, rv, ht, hz⟩ := I.tuple hq
    refine assign_Tuple_tuple (I.ok.hd hc) ht (by simp [hn, ← hl, rv.length]) hst fun h' hx => ?_
    have I1 : Inv X pins σ H { s with heap := h' } := I.kept (t' := s.toks) fun b o e => hx b o (Nat.ne_of_lt (Heap.lt_size e)) e
    exact h.run pins _ σ H xs _ Q I1 (by simpa using rv) hw
  · obtain ⟨its, rv, ht, hz⟩ := I.list hq
    refine assign_Tuple_list (I.ok.hd hc) ht.isList (by simp [hn, ← hl, rv.length]) hst fun h' hx => ?_
    have I1 : Inv X pins σ H { s with heap := h' } := I.kept (t' := s.toks) fun b o e => hx b o (Nat.ne_of_lt (Heap.lt_size e)) e
    exact h.run pins _ σ H xs _ Q I1 (by simpa using rv) hw
end
end SD

set_option Elab.async false
set_option linter.all false
set_option autoImplicit false
set_option maxRecDepth 100000
set_option maxHeartbeats 4000000
/-! SD, part F: statements, blocks, loops, the body of a def. -/
namespace SD
open PySem PySem.Spec PyProof.Rows L2

/-- from the state (F, H, ρ, σ) to another one; the slots of pr hold what they held -/
structure PostS (K : Fr0) (pr : Nat → Prop) (F H : Hp) (ρ : En) (σ : St) (F' H' : Hp) (ρ' : En) (σ' : St) : Prop where
  rp : Rp K F' H' ρ' σ'
  ext : Ext F H (OwnE H ρ σ) F' H' (OwnE H' ρ' σ')
  pr : ∀ i, pr i → σ'[i]? = σ[i]?
  len : σ'.length = σ.length
/-- .. with a value -/
structure PostV (K : Fr0) (pr : Nat → Prop) (F H : Hp) (ρ : En) (σ : St) (F' H' : Hp) (ρ' : En) (σ' : St) (s : Slot) (v : V) : Prop where
  rp : Rp K F' H' ρ' σ'
  ok : SlotOk K F' H' s (some v)
  dj : ∀ q, Owns H' s (some v) q → ¬ OwnE H' ρ' σ' q
  ext : Ext F H (OwnE H ρ σ) F' H' (fun q => Owns H' s (some v) q ∨ OwnE H' ρ' σ' q)
  pr : ∀ i, pr i → σ'[i]? = σ[i]?
  len : σ'.length = σ.length
def SEnd (K : Fr0) (pr : Nat → Prop) (F H : Hp) (ρ : En) (σ : St) (E : Ends) : Fl → En → Prop
  | .next, ρ' => ∀ F' H' σ', PostS K pr F H ρ σ F' H' ρ' σ' → E.nx σ' H'
  | .brk, ρ' => ∀ F' H' σ', PostS K pr F H ρ σ F' H' ρ' σ' → E.bk σ' H'
  | .cont, ρ' => ∀ F' H' σ', PostS K pr F H ρ σ F' H' ρ' σ' → E.ct σ' H'
  | .ret s, ρ' => ∀ F' H' σ' v, PostV K pr F H ρ σ F' H' ρ' σ' s v → E.rt v H'
def XCS (W : WX) (I : ExI) (K : Fr0) (pr : Nat → Prop) (F H : Hp) (ρ : En) (σ : St) (x : Exc) (ρ' : En) : Prop :=
  ∀ F' H' σ' cls d, XR I K x cls d F' H' → PostS K pr F H ρ σ F' H' ρ' σ' → W cls d σ' H'
theorem PostS.refl {K : Fr0} {pr : Nat → Prop} {F H : Hp} {ρ : En} {σ : St} (R : Rp K F H ρ σ) : PostS K pr F H ρ σ F H ρ σ := ⟨R, Ext.refl, fun _ _ => rfl, rfl⟩
theorem PostS.trans {K : Fr0} {pr : Nat → Prop} {F H F1 H1 F2 H2 : Hp} {ρ ρ1 ρ2 : En} {σ σ1 σ2 : St} (a : PostS K pr F H ρ σ F1 H1 ρ1 σ1) (b : PostS K pr F1 H1 ρ1 σ1 F2 H2 ρ2 σ2) : PostS K pr F H ρ σ F2 H2 ρ2 σ2 :=
  ⟨b.rp, a.ext.trans b.ext, fun i hi => (b.pr i hi).trans (a.pr i hi), b.len.trans a.len⟩
theorem PostS.transV {K : Fr0} {pr : Nat → Prop} {F H F1 H1 F2 H2 : Hp} {ρ ρ1 ρ2 : En} {σ σ1 σ2 : St} {s : Slot} {v : V} (a : PostS K pr F H ρ σ F1 H1 ρ1 σ1) (b : PostV K pr F1 H1 ρ1 σ1 F2 H2 ρ2 σ2 s v) : PostV K pr F H ρ σ F2 H2 ρ2 σ2 s v :=
  ⟨b.rp, b.ok, b.dj, a.ext.trans b.ext, fun i hi => (b.pr i hi).trans (a.pr i hi), b.len.trans a.len⟩
theorem PostB.toS {K : Fr0} {pr : Nat → Prop} {F H F1 H1 : Hp} {ρ ρ1 : En} {σ : St} (P : PostB K F H ρ σ F1 H1 ρ1) : PostS K pr F H ρ σ F1 H1 ρ1 σ := ⟨P.rp, P.ext, fun _ _ => rfl, rfl⟩
theorem SEnd.step {K : Fr0} {pr : Nat → Prop} {F H F1 H1 : Hp} {ρ ρ1 : En} {σ σ1 : St} {E : Ends} {f : Fl} {ρ' : En} (P : PostS K pr F H ρ σ F1 H1 ρ1 σ1) (h : SEnd K pr F H ρ σ E f ρ') : SEnd K pr F1 H1 ρ1 σ1 E f ρ' := by
  cases f with
  | next => exact fun F' H' σ' P' => h F' H' σ' (P.trans P')
  | brk => exact fun F' H' σ' P' => h F' H' σ' (P.trans P')
  | cont => exact fun F' H' σ' P' => h F' H' σ' (P.trans P')
  | ret s => exact fun F' H' σ' v P' => h F' H' σ' v (P.transV P')
theorem XCS.step {W : WX} {I : ExI} {K : Fr0} {pr : Nat → Prop} {F H F1 H1 : Hp} {ρ ρ1 : En} {σ σ1 : St} {x : Exc} {ρ' : En} (P : PostS K pr F H ρ σ F1 H1 ρ1 σ1) (h : XCS W I K pr F H ρ σ x ρ') : XCS W I K pr F1 H1 ρ1 σ1 x ρ' :=
  fun F' H' σ' cls d r P' => h F' H' σ' cls d r (P.trans P')
theorem XCS.toC {X : Cx} {W : WX} {I : ExI} {pr : Nat → Prop} {F H : Hp} {ρ : En} {σ : St} {x : Exc} {ρ' : En} (h : XCS W I X.K pr F H ρ σ x ρ') : XC X W I F H (OwnE H ρ σ) σ x ρ' :=
  fun F' H' cls d r R e => h F' H' σ cls d r ⟨R, e, fun _ _ => rfl, rfl⟩

structure CS (X : Cx) (W : WX) (I : ExI) (pr : Nat → Prop) (g : M Fl) (st : Stmt) : Prop where
  run : ∃ t, PS X st t ∧ ∀ (F H : Hp) (ρ : En) (σ : St) (E : Ends), Rp X.K F H ρ σ → (g ρ).sat (SEnd X.K pr F H ρ σ E) (XCS W I X.K pr F H ρ σ) → t E σ H
structure CB (X : Cx) (W : WX) (I : ExI) (pr : Nat → Prop) (g : M Fl) (sts : List Stmt) : Prop where
  run : ∃ t, PSs X sts t ∧ ∀ (F H : Hp) (ρ : En) (σ : St) (E : Ends), Rp X.K F H ρ σ → (g ρ).sat (SEnd X.K pr F H ρ σ E) (XCS W I X.K pr F H ρ σ) → t E σ H
def mNext : M Fl := fun ρ => .ok .next ρ
def mSeq (g h : M Fl) : M Fl := fun ρ => (g ρ).bind fun f ρ' => match f with
  | .next => h ρ'
  | f => .ok f ρ'
def mIf (c : M Bool) (g h : M Fl) : M Fl := fun ρ => (c ρ).bind fun b ρ' => if b then g ρ' else h ρ'
def mDrop (f : M Slot) : M Fl := fun ρ => (f ρ).bind fun _ ρ' => .ok .next ρ'
def mRet (f : M Slot) : M Fl := fun ρ => (f ρ).bind fun s ρ' => .ok (.ret s) ρ'
/-- return x: what the name owns goes along -/
def mRetV (i : Nat) : M Fl := fun ρ => if (En.at ρ i).isSome then (if (En.at ρ i).isCell then .ok (.ret (En.at ρ i)) (ρ.set i .emp) else .ok (.ret (En.at ρ i)) ρ) else .bad
def mSet (i : Nat) (f : M Slot) : M Fl := fun ρ => (f ρ).bind fun s ρ' => .ok .next (ρ'.set i s)
section
variable {X : Cx} {W : WX} {I : ExI} {pr : Nat → Prop} {st : Stmt} {sts : List Stmt} {g h : M Fl} {e : Expr} {f : M Slot} {pos : Pos}
theorem cb_nil : CB X W I pr mNext [] := ⟨tNext, pss_nil, fun F H ρ σ E R z => z F H σ (PostS.refl R)⟩
theorem cb_cons (hg : CS X W I pr g st) (hh : CB X W I pr h sts) : CB X W I pr (mSeq g h) (st :: sts) := by
  obtain ⟨t, h1, q1⟩ := hg.run
  obtain ⟨u, h2, q2⟩ := hh.run
  refine ⟨tSeq t u, pss_cons h1 h2, fun F H ρ σ E R z => q1 F H ρ σ _ R ?_⟩
  unfold mSeq at z
  rw [Out.sat_bind] at z
  refine Out.sat_mono z (fun fl ρ' _ y => ?_) fun _ _ y => y
  cases fl with
  | next =>
    intro F' H' σ' P
    exact q2 F' H' ρ' σ' E P.rp (Out.sat_mono y (fun fl' ρ2 _ y2 => y2.step P) fun _ _ y2 => y2.step P)
  | brk => exact y
  | cont => exact y
  | ret s => exact y
theorem cb_one (hg : CS X W I pr g st) : CB X W I pr g [st] := let ⟨t, h1, q1⟩ := hg.run; ⟨t, pss_one h1, q1⟩
theorem cs_if {c : M Bool} {a b : List Stmt} (hc : CT X W I c e) (ha : CB X W I pr g a) (hb : CB X W I pr h b) : CS X W I pr (mIf c g h) (.If e a b pos) := by
  obtain ⟨t0, h0, q0⟩ := hc.run
  obtain ⟨t, h1, q1⟩ := ha.run
  obtain ⟨u, h2, q2⟩ := hb.run
  refine ⟨_, ps_if h0 h1 h2, fun F H ρ σ E R z => ?_⟩
  unfold mIf at z
  rw [Out.sat_bind] at z
  refine q0 F H ρ σ _ R (Out.sat_mono z (fun b ρ1 _ y F1 H1 P => ?_) fun _ _ y => y.toC)
  cases b with
  | true => rw [if_pos rfl] at y ⊢; exact q1 F1 H1 ρ1 σ E P.rp (Out.sat_mono y (fun _ _ _ y2 => y2.step P.toS) fun _ _ y2 => y2.step P.toS)
  | false => rw [if_neg Bool.false_ne_true] at y ⊢; exact q2 F1 H1 ρ1 σ E P.rp (Out.sat_mono y (fun _ _ _ y2 => y2.step P.toS) fun _ _ y2 => y2.step P.toS)
theorem cs_drop (hf : CE X W I f e) (hs : swapsWith e none pos.line X.env = pure false := by rfl) : CS X W I pr (mDrop f) (.Expr e pos) := by
  obtain ⟨t, h1, q⟩ := hf.of
  refine ⟨_, ps_expr h1 hs, fun F H ρ σ E R z => ?_⟩
  unfold mDrop at z
  rw [Out.sat_bind] at z
  exact q F H ρ σ _ R (Out.sat_mono z (fun s ρ1 _ y F1 H1 v P => y F1 H1 σ P.toB.toS) fun _ _ y => y.toC)
theorem Post.toV {K : Fr0} {F H F' H' : Hp} {ρ ρ' : En} {σ : St} {s : Slot} {v : V} (P : Post K F H ρ σ F' H' ρ' (.sl s) v) : PostV K pr F H ρ σ F' H' ρ' σ s v :=
  ⟨P.rp, P.ok.1, P.ok.2, P.ext, fun _ _ => rfl, rfl⟩
theorem cs_ret (hf : CE X W I f e) : CS X W I pr (mRet f) (.Return (some e) pos) := by
  obtain ⟨t, h1, q⟩ := hf.of
  refine ⟨_, ps_ret h1, fun F H ρ σ E R z => ?_⟩
  unfold mRet at z
  rw [Out.sat_bind] at z
  exact q F H ρ σ _ R (Out.sat_mono z (fun s ρ1 _ y F1 H1 v P => y F1 H1 σ v P.toV) fun _ _ y => y.toC)
theorem cs_retV {i : Nat} (hv : PE X e (tVar i)) : CS X W I pr (mRetV i) (.Return (some e) pos) := by
  refine ⟨_, ps_ret hv, fun F H ρ σ E R z => ?_⟩
  unfold mRetV at z
  by_cases hs : (En.at ρ i).isSome = true
  · rw [if_pos hs] at z
    have h0 := En.at_some hs
    obtain ⟨v, ev, ok⟩ := R.get h0
    obtain ⟨v, rfl⟩ := slot_some ok hs
    refine ⟨v, ev, ?_⟩
    by_cases hc : (En.at ρ i).isCell = true
    · rw [if_pos hc] at z
      have R' : Rp X.K F H (ρ.set i .emp) σ := by
        have := R.set (i := i) (s := .emp) (v := some v) R.sub trivial (fun j t u _ e1 e2 => R.ok j t u e1 e2) fun q j t u z => z.elim
        rw [set_self ev] at this
        exact this
      have sub : ∀ q, OwnE H (ρ.set i .emp) σ q → OwnE H ρ σ q ∧ ¬ Owns H (En.at ρ i) (some v) q := fun q z => by
        rw [← set_self ev] at z
        rcases ownE_set_ne z with ⟨_, _, y⟩ | ⟨j, t, u, hj, e1, e2, o⟩
        · exact y.elim
        · exact ⟨⟨j, t, u, e1, e2, o⟩, fun o' => hj (R.dj j i t _ u _ q e1 e2 h0 ev o o')⟩
      exact z F H σ v ⟨R', ok, fun q o z => (sub q z).2 o, Ext.refl.weak (fun _ h => h) fun q h => .inr (h.elim (fun o => ⟨i, _, _, h0, ev, o⟩) fun h => (sub q h).1), fun _ _ => rfl, rfl⟩
    · have hc' : (En.at ρ i).isCell = false := by simpa using hc
      rw [if_neg hc] at z
      exact z F H σ v ⟨R, ok, fun q o => absurd o (notcell_owns hc'), Ext.refl.weak (fun _ h => h) fun q h => .inr (h.elim (fun o => absurd o (notcell_owns hc')) id), fun _ _ => rfl, rfl⟩
  · rw [if_neg hs] at z; exact z.elim
/-- a slot written -/
theorem post_set {K : Fr0} {F H F1 H1 : Hp} {ρ ρ1 : En} {σ : St} {i : Nat} {s : Slot} {v : V} (P : Post K F H ρ σ F1 H1 ρ1 (.sl s) v) (hi : ¬ pr i) : PostS K pr F H ρ σ F1 H1 (ρ1.set i s) (σ.set i (some v)) := by
  refine ⟨P.rp.set P.rp.sub P.ok.1 (fun j t u _ e1 e2 => P.rp.ok j t u e1 e2) fun q j t u o _ e1 e2 o2 => P.ok.2 q o ⟨j, t, u, e1, e2, o2⟩, P.ext.weak (fun _ h => h) fun q h => .inl ?_, fun j hj => ?_, by simp⟩
  · exact (ownE_set h).imp id id
  · have : i ≠ j := fun z => hi (z ▸ hj)
    rw [List.getElem?_set_ne this]
theorem cs_set {tg : Expr} {i : Nat} (hf : CE X W I f e) (hi : ¬ pr i) (hst : ∀ te, PE X e te → PS X (.Assign [tg] e pos) (tAsg te (gName i))) : CS X W I pr (mSet i f) (.Assign [tg] e pos) := by
  obtain ⟨t, h1, q⟩ := hf.of
  refine ⟨_, hst t h1, fun F H ρ σ E R z => ?_⟩
  unfold mSet at z
  rw [Out.sat_bind] at z
  exact q F H ρ σ _ R (Out.sat_mono z (fun s ρ1 _ y F1 H1 v P => y F1 H1 _ (post_set P hi)) fun _ _ y => y.toC)
end

/-! ### targets -/
/-- a target: the environment behind, given the data that goes there (data that stay) -/
abbrev Tg := D → En → Option En
structure CG (X : Cx) (pr : Nat → Prop) (g : Tg) (tg : Expr) : Prop where
  run : ∃ t, PG X tg t ∧ ∀ (F H : Hp) (ρ : En) (σ : St) (d : D) (v : V) (Q : St → Hp → Prop) (ρ' : En), Rp X.K F H ρ σ → Rep X.K F d v → g d ρ = some ρ' →
    (∀ σ', PostS X.K pr F H ρ σ F H ρ' σ' → Q σ' H) → t v σ H Q
structure CGs (X : Cx) (pr : Nat → Prop) (g : List D → En → Option En) (tgs : List Expr) : Prop where
  run : ∃ t, PGs X tgs t ∧ ∀ (F H : Hp) (ρ : En) (σ : St) (ds : List D) (vs : List V) (Q : St → Hp → Prop) (ρ' : En), Rp X.K F H ρ σ → Reps X.K F ds vs → g ds ρ = some ρ' →
    (∀ σ', PostS X.K pr F H ρ σ F H ρ' σ' → Q σ' H) → t vs σ H Q
def gNm (i : Nat) : Tg := fun d ρ => some (ρ.set i (.val d))
def gsNil : List D → En → Option En := fun ds ρ => match ds with
  | [] => some ρ
  | _ => none
def gsCons (g : Tg) (gs : List D → En → Option En) : List D → En → Option En := fun ds ρ => match ds with
  | d :: r => (g d ρ).bind fun ρ' => gs r ρ'
  | [] => none
def gTp (n : Nat) (gs : List D → En → Option En) : Tg := fun d ρ => match d with
  | .tuple ds => if ds.length = n then gs ds ρ else none
  | .list ds => if ds.length = n then gs ds ρ else none
  | _ => none
section
variable {X : Cx} {pr : Nat → Prop} {pos : Pos}
theorem cg_name {i : Nat} {tg : Expr} (h : PG X tg (gName i)) (hi : ¬ pr i) : CG X pr (gNm i) tg := by
  refine ⟨_, h, fun F H ρ σ d v Q ρ' R r e q => ?_⟩
  cases e
  exact q _ (post_set (post_val R r) hi)
theorem cgs_nil : CGs X pr gsNil [] := ⟨_, pgs_nil, fun F H ρ σ ds vs Q ρ' R r e q => by
  cases ds with
  | nil => cases e; rw [reps_nil] at r; exact ⟨r, q _ (PostS.refl R)⟩
  | cons d ds => cases e⟩
theorem cgs_cons {g : Tg} {gs : List D → En → Option En} {e : Expr} {es : List Expr} (h1 : CG X pr g e) (h2 : CGs X pr gs es)
    (hs : (assignEach (e :: es) X.env).map (·.2) = assign e X.env :: (assignEach es X.env).map (·.2) := by rfl) : CGs X pr (gsCons g gs) (e :: es) := by
  obtain ⟨t, k1, q1⟩ := h1.run
  obtain ⟨u, k2, q2⟩ := h2.run
  refine ⟨_, pgs_cons k1 k2 hs, fun F H ρ σ ds vs Q ρ' R r e q => ?_⟩
  cases ds with
  | nil => cases e
  | cons d ds =>
    rw [reps_cons] at r
    obtain ⟨v, vs', rfl, r1, r2⟩ := r
    have e' : ((g d ρ).bind fun ρ' => gs ds ρ') = some ρ' := e
    cases e1 : g d ρ with
    | none => rw [e1] at e'; cases e'
    | some ρ1 =>
      rw [e1] at e'
      refine ⟨v, vs', rfl, q1 F H ρ σ d v _ ρ1 R r1 e1 fun σ1 P1 => q2 F H ρ1 σ1 ds vs' Q ρ' P1.rp r2 e' fun σ2 P2 => q σ2 (P1.trans P2)⟩
theorem cg_tup {n : Nat} {gs : List D → En → Option En} {es : List Expr} {k : Nat} (hc : X.calm = true) (h : CGs X pr gs es)
    (hn : (assignEach es X.env).length = n := by rfl) (hst : (assignEach es X.env).findIdx? (·.1) = none := by rfl) : CG X pr (gTp n gs) (.Tuple es k pos) := by
  obtain ⟨t, k1, q1⟩ := h.run
  refine ⟨_, pg_tupE (n := n) hc k1 hn hst, fun F H ρ σ d v Q ρ' R r e q => ?_⟩
  cases d with
  | tuple ds =>
    rw [rep_tuple] at r
    obtain ⟨a, vs, rfl, sq, r⟩ := r
    have e' : (if ds.length = n then gs ds ρ else none) = some ρ' := e
    split at e'
    · rename_i hl
      exact ⟨a, vs, rfl, .inl (SqT.mono R.sub sq), by rw [← r.length]; exact hl, q1 F H ρ σ ds vs Q ρ' R r e' q⟩
    · cases e'
  | list ds =>
    rw [rep_list] at r
    obtain ⟨a, vs, rfl, sq, r⟩ := r
    have e' : (if ds.length = n then gs ds ρ else none) = some ρ' := e
    split at e'
    · rename_i hl
      exact ⟨a, vs, rfl, .inr (SqL.mono R.sub sq), by rw [← r.length]; exact hl, q1 F H ρ σ ds vs Q ρ' R r e' q⟩
    · cases e'
  | _ => cases e
end
/-- a, b = e -/
def mAsg (g : Tg) (f : M Slot) : M Fl := fun ρ => (f ρ).bind fun s ρ' => match s.data with
  | some d => match g d ρ' with
    | some ρ2 => .ok .next ρ2
    | none => .bad
  | none => .bad
theorem cs_asg {X : Cx} {W : WX} {I : ExI} {pr : Nat → Prop} {pos : Pos} {g : Tg} {f : M Slot} {tg e : Expr} (hf : CE X W I f e) (hg : CG X pr g tg) (hs : swapsWithSole [tg] e pos.line X.env = pure false := by rfl) (hw : swappedStores [tg] e X.env = pure none := by rfl)
    (h1 : (assignEach [tg] X.env).map (·.2) = [assign tg X.env] := by rfl) : CS X W I pr (mAsg g f) (.Assign [tg] e pos) := by
  obtain ⟨t, k1, q1⟩ := hf.of
  obtain ⟨u, k2, q2⟩ := hg.run
  refine ⟨_, ps_asg k1 k2 hs hw h1, fun F H ρ σ E R z => ?_⟩
  unfold mAsg at z
  rw [Out.sat_bind] at z
  refine q1 F H ρ σ _ R (Out.sat_mono z (fun s ρ1 _ y F1 H1 v P => ?_) fun _ _ y => y.toC)
  cases e : s.data with
  | none => rw [e] at y; exact y.elim
  | some d =>
    simp only [e] at y
    cases e2 : g d ρ1 with
    | none => rw [e2] at y; exact y.elim
    | some ρ2 =>
      rw [e2] at y
      obtain ⟨F2, s2, r, R2, x⟩ := freeze P e
      exact q2 F2 H1 ρ1 σ d v _ ρ2 R2 r e2 fun σ' P' => y F2 H1 σ' (PostS.trans ⟨R2, x, fun _ _ => rfl, rfl⟩ P')
end SD

set_option Elab.async false
set_option linter.all false
set_option autoImplicit false
set_option maxRecDepth 100000
set_option maxHeartbeats 4000000
/-! SD, part G: what is walked, loops, the body of a def. -/
namespace SD
open PySem PySem.Spec PyProof.Rows L2

/-- J walks the data ds, whatever happens meanwhile to what changes -/
structure ItOk (K : Fr0) (F : Hp) (ds : List D) (J : It) : Prop where
  go : ∀ (i : Nat) (F1 H1 : Hp), Same F F1 → Same F1 H1 → i < ds.length → J.go i H1 ∧ ∀ x H2, J.yld i H1 x H2 →
    ∃ F2, Same F1 F2 ∧ Same F2 H2 ∧ Same H1 H2 ∧ (∀ a, F1 a = none → F2 a ≠ none → H1 a = none) ∧ ∃ d, ds[i]? = some d ∧ Rep K F2 d x
  stop : ∀ (i : Nat) (F1 H1 : Hp), Same F F1 → Same F1 H1 → ds.length ≤ i → J.stop i H1
structure CI (X : Cx) (W : WX) (I : ExI) (tg : Expr) (src : M (List D)) (e : Expr) : Prop where
  run : ∃ wi, PI X tg e wi ∧ ∀ (F H : Hp) (ρ : En) (σ : St) (R : It → Hp → Prop), Rp X.K F H ρ σ →
    (src ρ).sat (fun ds ρ' => ∀ F' H' J, PostB X.K F H ρ σ F' H' ρ' → ItOk X.K F' ds J → R J H') (XC X W I F H (OwnE H ρ σ) σ) → wi σ H R
def seqItems : D → Option (List D)
  | .list ds => some ds
  | .tuple ds => some ds
  | _ => none
/-- the items of a list or tuple that an expression gives -/
def mItems (f : M Slot) : M (List D) := fun ρ => (f ρ).bind fun s ρ' => match s.data.bind seqItems with
  | some ds => .ok ds ρ'
  | none => .bad
def mItemsL (f : M Slot) : M (List D) := fun ρ => (f ρ).bind fun s ρ' => match s.data with
  | some (.list ds) => .ok ds ρ'
  | _ => .bad
def mItemsT (f : M Slot) : M (List D) := fun ρ => (f ρ).bind fun s ρ' => match s.data with
  | some (.tuple ds) => .ok ds ρ'
  | _ => .bad
theorem itOk_tup {K : Fr0} {F : Hp} {a : Addr} {ds : List D} {vs : List V} (h : SqT K F a vs) (r : Reps K F ds vs) : ItOk K F ds (Itt K a) := by
  have hl := r.length
  refine ⟨fun i F1 H1 s1 s2 hi => ?_, fun i F1 H1 s1 s2 hi => ⟨vs, SqT.mono (s1.trans s2) h, by omega⟩⟩
  have q := SqT.mono (s1.trans s2) h
  refine ⟨⟨vs, vs[i]'(by omega), q, by simp⟩, fun x H2 y => ?_⟩
  obtain ⟨rfl, y⟩ := y
  have e := y vs q
  obtain ⟨d, e2, r2⟩ := r.getV e
  exact ⟨F1, Same.refl _, s2, Same.refl _, fun a e e' => absurd e e', d, e2, Rep.mono s1 _ _ r2⟩
theorem itOk_range {K : Fr0} {F : Hp} {lo : Int} {n : Nat} : ItOk K F ((List.range n).map fun i => PyData.int (lo + (i : Nat))) (Itr lo n) := by
  refine ⟨fun i F1 H1 s1 s2 hi => ?_, fun i F1 H1 s1 s2 hi => show n ≤ i by simpa using hi⟩
  have hi' : i < n := by simpa using hi
  refine ⟨hi', fun x H2 y => ?_⟩
  obtain ⟨rfl, rfl⟩ := y
  refine ⟨F1, Same.refl _, s2, Same.refl _, fun a e e' => absurd e e', .int (lo + (i : Nat)), by simp [hi'], by rw [rep_int]⟩
section
variable {X : Cx} {W : WX} {I : ExI} {tg e : Expr} {f : M Slot} {pos : Pos}
/-- range(n), range(a, b) -/
def mRange1 (f : M Slot) : M (List D) := fun ρ => (f ρ).bind fun s ρ' => match s with
  | .val (.int j) => if -(2 ^ 62) ≤ j ∧ j < 2 ^ 62 then .ok ((List.range j.toNat).map fun i => PyData.int ((0 : Int) + (i : Nat))) ρ' else .bad
  | _ => .bad
theorem int_slot {K : Fr0} {F H : Hp} {v : V} {j : Int} (h : SlotOk K F H (.val (.int j)) (some v)) : v = .int j := by
  obtain ⟨x, e, r⟩ := h
  cases e
  rw [rep_int] at r
  exact r
theorem ci_range1 {p : Pos} (hg : Gl X "range") (hm : X.mg "range" = none) (h : CE X W I f e) (hs : starEach [e] X.env = [(false, eval e X.env)] := by rfl) : CI X W I tg (mRange1 f) (.Call (.Name "range" p) [e] [] pos) := by
  obtain ⟨t, h1, q⟩ := h.of
  refine ⟨_, pi_range1 hg hm (pa_cons h1 pa_nil (by rw [hs]; rfl)) hs, fun F H ρ σ R Rr z => ?_⟩
  unfold mRange1 at z
  rw [Out.sat_bind] at z
  refine q F H ρ σ _ Rr (Out.sat_mono z (fun s ρ1 _ y F1 H1 v P => ?_) fun _ _ y => y)
  split at y
  · split at y
    · rename_i j _ hj
      have ev := int_slot P.ok.1
      subst ev
      exact ⟨j, rfl, hj.1, hj.2, y F1 H1 _ P.toB itOk_range⟩
    · exact y.elim
  · exact y.elim
def mRange2 (as : List AE) : M (List D) := fun ρ => (evAs as ρ).bind fun gs ρ' => match argDs ρ' gs with
  | some [.int i, .int j] => if -(2 ^ 62) ≤ i ∧ i < 2 ^ 62 ∧ -(2 ^ 62) ≤ j ∧ j < 2 ^ 62 then .ok ((List.range (j - i).toNat).map fun k => PyData.int (i + (k : Nat))) ρ' else .bad
  | _ => .bad
end

/-! ### for -/
def forL (g : Tg) (body : M Fl) : List D → M Fl
  | [] => fun ρ => .ok .next ρ
  | d :: ds => fun ρ => match g d ρ with
    | none => .bad
    | some ρ1 => (body ρ1).bind fun f ρ2 => match f with
      | .next => forL g body ds ρ2
      | .cont => forL g body ds ρ2
      | .brk => .ok .next ρ2
      | .ret s => .ok (.ret s) ρ2
def mFor (src : M (List D)) (g : Tg) (body : M Fl) : M Fl := fun ρ => (src ρ).bind fun ds ρ1 => forL g body ds ρ1
theorem forL_drop {g : Tg} {body : M Fl} {ds : List D} {i : Nat} {d : D} (h : ds[i]? = some d) (ρ : En) : forL g body (ds.drop i) ρ = (match g d ρ with
    | none => .bad
    | some ρ1 => (body ρ1).bind fun f ρ2 => match f with
      | .next => forL g body (ds.drop (i + 1)) ρ2
      | .cont => forL g body (ds.drop (i + 1)) ρ2
      | .brk => .ok .next ρ2
      | .ret s => .ok (.ret s) ρ2) := by
  have hi : i < ds.length := (List.getElem?_eq_some_iff.mp h).1
  have e : ds.drop i = d :: ds.drop (i + 1) := by
    rw [List.drop_eq_getElem_cons hi]
    congr 1
    exact (List.getElem?_eq_some_iff.mp h).2
  rw [e]
  rfl
section
variable {X : Cx} {W : WX} {I : ExI} {pr : Nat → Prop} {tg e : Expr} {pos : Pos}
theorem yield_post {K : Fr0} {F1 H1 F2 H2 : Hp} {ρ : En} {σ : St} (R : Rp K F1 H1 ρ σ) (s1 : Same F1 F2) (s2 : Same F2 H2) (s3 : Same H1 H2) (n : ∀ a, F1 a = none → F2 a ≠ none → H1 a = none) : PostS K pr F1 H1 ρ σ F2 H2 ρ σ := by
  have x : Ext F1 H1 (fun _ => False) F2 H2 (fun _ => False) := ⟨s1, fun a h h' => .inl (n a h h'), fun a o h _ => s3 a o h, fun a h => h.elim⟩
  exact ⟨R.ext x s2 fun _ _ z => z, x.weak (fun _ z => z.elim) fun q h => .inr ((R.extO x fun _ _ z => z).mp h), fun _ _ => rfl, rfl⟩
theorem cs_for {src : M (List D)} {g : Tg} {b : M Fl} {body : List Stmt} (hp : PassesOwn (model X.prog X.w) X.A X.env X.xe) (hc : X.calm = true) (hi : CI X W I tg src e) (hg : CG X pr g tg) (hb : CB X W I pr b body)
    (hs : ∀ x, foldedSetIterable e X.env x = pure x := by intro _; rfl) : CS X W I pr (mFor src g b) (.For tg e body [] pos) := by
  obtain ⟨wi, h1, q1⟩ := hi.run
  obtain ⟨tG, h2, q2⟩ := hg.run
  obtain ⟨tb, h3, q3⟩ := hb.run
  refine ⟨_, ps_for hp hc h1 h2 h3 hs, fun F H ρ σ E R z => ?_⟩
  unfold mFor at z
  rw [Out.sat_bind] at z
  refine q1 F H ρ σ _ R (Out.sat_mono z (fun ds ρ1 _ y F1 H1 J P it => ?_) fun _ _ y => y.toC)
  refine ⟨fun i m σ' H' => m = ds.length - i ∧ i ≤ ds.length ∧ ∃ F' ρ', PostS X.K pr F H ρ σ F' H' ρ' σ' ∧ Same F1 F' ∧ (forL g b (ds.drop i) ρ').sat (SEnd X.K pr F H ρ σ E) (XCS W I X.K pr F H ρ σ),
    ⟨ds.length, by simp, Nat.zero_le _, F1, ρ1, P.toS, Same.refl _, by simpa using y⟩, ?_⟩
  rintro i m σ' H' ⟨rfl, hle, F', ρ', P', sF, z'⟩
  by_cases hlt : i < ds.length
  · obtain ⟨go, yld⟩ := it.go i F' H' sF P'.rp.sub hlt
    refine .inr ⟨go, fun σ2 H2 => i + 1 ≤ ds.length ∧ ∃ F2 ρ2, PostS X.K pr F H ρ σ F2 H2 ρ2 σ2 ∧ Same F1 F2 ∧ (forL g b (ds.drop (i + 1)) ρ2).sat (SEnd X.K pr F H ρ σ E) (XCS W I X.K pr F H ρ σ), fun σ2 H2 ⟨hle2, h⟩ => ⟨ds.length - (i + 1), by omega, rfl, hle2, h⟩, fun x H2 hy => ?_⟩
    obtain ⟨F2, s1, s2, s3, nF, d, ed, r⟩ := yld x H2 hy
    have P2 := P'.trans (yield_post P'.rp s1 s2 s3 nF)
    rw [forL_drop ed] at z'
    cases eg : g d ρ' with
    | none => rw [eg] at z'; exact z'.elim
    | some ρ3 =>
      rw [eg] at z'
      have z3 : ((b ρ3).bind fun f ρ2 => (match f with
        | .next => forL g b (ds.drop (i + 1)) ρ2
        | .cont => forL g b (ds.drop (i + 1)) ρ2
        | .brk => .ok .next ρ2
        | .ret s => .ok (.ret s) ρ2 : Out Fl)).sat _ _ := z'
      rw [Out.sat_bind] at z3
      refine q2 F2 H2 ρ' σ' d x _ ρ3 P2.rp r eg fun σ3 P3 => ?_
      have P4 := P2.trans P3
      refine q3 F2 H2 ρ3 σ3 _ P3.rp (Out.sat_mono z3 (fun fl ρ4 _ y4 => ?_) fun _ _ y4 => y4.step P4)
      cases fl with
      | next => exact fun F5 H5 σ5 P5 => ⟨hlt, F5, ρ4, P4.trans P5, (sF.trans s1).trans P5.ext.sub, y4⟩
      | cont => exact fun F5 H5 σ5 P5 => ⟨hlt, F5, ρ4, P4.trans P5, (sF.trans s1).trans P5.ext.sub, y4⟩
      | brk => exact fun F5 H5 σ5 P5 => y4 F5 H5 σ5 (P4.trans P5)
      | ret s => exact fun F5 H5 σ5 v P5 => y4 F5 H5 σ5 v (P4.transV P5)
  · have e : i = ds.length := by omega
    subst e
    rw [List.drop_length] at z'
    exact .inl ⟨it.stop _ F' H' sF P'.rp.sub (Nat.le_refl _), z' F' H' σ' P'⟩
/-- while, at most n turns -/
def whileN (c : M Bool) (b : M Fl) : Nat → M Fl
  | 0 => fun _ => .bad
  | n + 1 => fun ρ => (c ρ).bind fun x ρ1 => if x then (b ρ1).bind fun f ρ2 => match f with
      | .next => whileN c b n ρ2
      | .cont => whileN c b n ρ2
      | .brk => .ok .next ρ2
      | .ret s => .ok (.ret s) ρ2
    else .ok .next ρ1
end

/-! ### the body of a def -/
def outsOf (pr : List Nat) (n : Nat) (ρ : En) : En := (List.range n).map fun i => if i ∈ pr then En.at ρ i else .emp
/-- n parameters, m names more; the slots of pr are never stored -/
def mDef (n m : Nat) (pr : List Nat) (g : M Fl) : M Slot := fun as => if as.length = n then (match g (as ++ List.replicate m .emp) with
  | .ok .next ρ => .ok (.val .none) (outsOf pr n ρ)
  | .ok (.ret s) ρ => .ok s (outsOf pr n ρ)
  | .ok _ _ => .bad
  | .exc x ρ => .exc x (outsOf pr n ρ)
  | .bad => .bad) else .bad
theorem Rp.outs {K : Fr0} {F H : Hp} {ρ : En} {σ : St} {pr : List Nat} {n : Nat} {vs : List V} (R : Rp K F H ρ σ) (hn : vs.length = n) (h : ∀ i ∈ pr, i < n → σ[i]? = (vs.map some)[i]?) :
    Rp K F H (outsOf pr n ρ) (vs.map some) ∧ ∀ q, OwnE H (outsOf pr n ρ) (vs.map some) q → OwnE H ρ σ q := by
  have at_ : ∀ {i : Nat} {s : Slot} {v : Option V}, (outsOf pr n ρ)[i]? = some s → (vs.map some)[i]? = some v → s = .emp ∨ (ρ[i]? = some s ∧ σ[i]? = some v) := fun {i s v} e1 e2 => by
    unfold outsOf at e1
    rw [List.getElem?_map] at e1
    have hi : i < n := by
      cases q : (List.range n)[i]? with
      | none => rw [q] at e1; cases e1
      | some j => have := (List.getElem?_eq_some_iff.mp q).1; simpa using this
    rw [List.getElem?_range hi] at e1
    simp only [Option.map_some, Option.some.injEq] at e1
    split at e1
    · rename_i hm
      cases hs : (En.at ρ i).isSome with
      | false =>
        left
        cases q : En.at ρ i with
        | emp => rw [q] at e1; exact e1.symm
        | _ => rw [q] at hs; cases hs
      | true =>
        right
        rw [← e1]
        exact ⟨En.at_some hs, (h i hm hi).trans e2⟩
    · exact .inl e1.symm
  refine ⟨⟨by simp [outsOf, hn], R.sub, fun i s v e1 e2 => ?_, fun i j s t v u q e1 e2 e3 e4 o1 o2 => ?_⟩, fun q ⟨i, s, v, e1, e2, o⟩ => ?_⟩
  · rcases at_ e1 e2 with rfl | ⟨k1, k2⟩
    · trivial
    · exact R.ok i s v k1 k2
  · rcases at_ e1 e2 with rfl | ⟨k1, k2⟩
    · exact o1.elim
    · rcases at_ e3 e4 with rfl | ⟨k3, k4⟩
      · exact o2.elim
      · exact R.dj i j s t v u q k1 k2 k3 k4 o1 o2
  · rcases at_ e1 e2 with rfl | ⟨k1, k2⟩
    · exact o.elim
    · exact ⟨i, s, v, k1, k2, o⟩
theorem Rp.pad {K : Fr0} {F H : Hp} {ρ : En} {σ : St} (R : Rp K F H ρ σ) (m : Nat) : Rp K F H (ρ ++ List.replicate m .emp) (σ ++ List.replicate m none) ∧ ∀ q, OwnE H (ρ ++ List.replicate m .emp) (σ ++ List.replicate m none) q ↔ OwnE H ρ σ q := by
  have hl := R.len
  have at_ : ∀ {i : Nat} {s : Slot} {v : Option V}, (ρ ++ List.replicate m Slot.emp)[i]? = some s → (σ ++ List.replicate m none)[i]? = some v → (s = .emp) ∨ (ρ[i]? = some s ∧ σ[i]? = some v) := fun {i s v} e1 e2 => by
    by_cases hi : i < ρ.length
    · rw [List.getElem?_append_left hi] at e1
      rw [List.getElem?_append_left (by omega)] at e2
      exact .inr ⟨e1, e2⟩
    · rw [List.getElem?_append_right (by omega)] at e1
      left
      rw [List.getElem?_replicate] at e1
      split at e1
      · exact (Option.some.inj e1).symm
      · cases e1
  refine ⟨⟨by simp [hl], R.sub, fun i s v e1 e2 => ?_, fun i j s t v u q e1 e2 e3 e4 o1 o2 => ?_⟩, fun q => ⟨fun ⟨i, s, v, e1, e2, o⟩ => ?_, fun ⟨i, s, v, e1, e2, o⟩ => ⟨i, s, v, ?_, ?_, o⟩⟩⟩
  · rcases at_ e1 e2 with rfl | ⟨k1, k2⟩
    · trivial
    · exact R.ok i s v k1 k2
  · rcases at_ e1 e2 with rfl | ⟨k1, k2⟩
    · exact o1.elim
    · rcases at_ e3 e4 with rfl | ⟨k3, k4⟩
      · exact o2.elim
      · exact R.dj i j s t v u q k1 k2 k3 k4 o1 o2
  · rcases at_ e1 e2 with rfl | ⟨k1, k2⟩
    · exact o.elim
    · exact ⟨i, s, v, k1, k2, o⟩
  · rw [List.getElem?_append_left (List.getElem?_eq_some_iff.mp e1).1]; exact e1
  · rw [List.getElem?_append_left (List.getElem?_eq_some_iff.mp e2).1]; exact e2
/-- a def of the text does what its body does -/
theorem def_okT {P : Program} {w : World} {K : Fr0} {mg : Str → Option Value} {base : Heap} {I : ExI} {x qual : Str} {st : Stmt} {f : Addr} {fd : FuncData} {N ps : List Str} {k n m : Nat} {pr : List Nat} {g : M Fl}
    (Fn : Fun K x qual st f fd) (S : FnScope N ps (defScope st)) (hps : ps.length = n) (hN : N.length = n + m)
    (hb : ∀ (X : Cx) (W : WX), X.prog = P → X.w = w → X.K = K → X.mg = mg → X.base = base → X.stack = X.env :: X.outer → X.env.frame = some X.env.locals → Cn X W N (defScope st) (fun _ => true) k → CB X W I (fun i => i ∈ pr) g (defBody st)) :
    FnOk P w K mg base (L2.CX P w) (k + 1) f fd ps (spF K I n (mDef n m pr g)) := by
  refine Fn.okX S (fun vs H Q E h => by rw [hps]; exact h.1) fun cdv A outer s H vs Q E hr h => ?_
  obtain ⟨hl, F, as, R, z⟩ := h
  obtain ⟨t, h1, q⟩ := (hb (cxOf (L2.CX P w) P w K mg base N qual (defScope st) f cdv A outer s H E) (fun cls d _ H => E cls d H) rfl rfl rfl rfl rfl rfl rfl
    ⟨⟨rfl, rfl, S.nd, fun _ _ => rfl⟩, takes_of rfl rfl rfl rfl, passes_of rfl, hr, rfl⟩).run
  refine ⟨t, h1, ?_⟩
  have hla : as.length = n := by have := R.len; simp at this; omega
  obtain ⟨R1, o1⟩ := R.pad m
  have hst : L2.start N vs = vs.map some ++ List.replicate m none := by
    unfold L2.start
    rw [hN, hl, Nat.add_sub_cancel_left]
  rw [hst]
  unfold mDef at z
  rw [if_pos hla] at z
  have par : ∀ {σ' : St}, (∀ i, i ∈ pr → σ'[i]? = (vs.map some ++ List.replicate m none)[i]?) → ∀ i ∈ pr, i < n → σ'[i]? = (vs.map some)[i]? := fun {σ'} h i hi hlt => by
    rw [h i hi, List.getElem?_append_left (by simp; omega)]
  refine q F H _ _ _ R1 ?_
  cases e : g (as ++ List.replicate m .emp) with
  | bad => rw [e] at z; exact z.elim
  | exc x ρ =>
    rw [e] at z
    intro F' H' σ' cls d xr P'
    obtain ⟨Ro, oo⟩ := P'.rp.outs hl (par P'.pr)
    exact z F' H' cls d xr Ro (P'.ext.weak (fun q h => (o1 q).mp h) fun q h => .inl (oo q h))
  | ok fl ρ =>
    rw [e] at z
    cases fl with
    | next =>
      intro F' H' σ' P'
      obtain ⟨Ro, oo⟩ := P'.rp.outs hl (par P'.pr)
      exact z F' H' .non ⟨Ro, ⟨⟨.non, rfl, by rw [rep_none]⟩, fun _ z => z.elim⟩, P'.ext.weak (fun q h => (o1 q).mp h) fun q h => .inl (h.elim (fun z => z.elim) (oo q))⟩
    | ret s =>
      intro F' H' σ' v P'
      obtain ⟨Ro, oo⟩ := P'.rp.outs hl (par P'.pr)
      exact z F' H' v ⟨Ro, ⟨P'.ok, fun q o z => P'.dj q o (oo q z)⟩, P'.ext.weak (fun q h => (o1 q).mp h) fun q h => .inl (h.imp id (oo q))⟩
    | brk => exact z.elim
    | cont => exact z.elim
theorem def_ok {P : Program} {w : World} {K : Fr0} {mg : Str → Option Value} {base : Heap} {I : ExI} {x qual : Str} {st : Stmt} {f : Addr} {fd : FuncData} {N ps : List Str} {k n m : Nat} {pr : List Nat} {g : M Fl}
    (Fn : Fun K x qual st f fd) (S : FnScope N ps (defScope st)) (hps : ps.length = n) (hN : N.length = n + m)
    (hb : ∀ (X : Cx) (W : WX), X.prog = P → X.w = w → X.K = K → X.mg = mg → X.base = base → Cn X W N (defScope st) (fun _ => true) k → CB X W I (fun i => i ∈ pr) g (defBody st)) :
    FnOk P w K mg base (L2.CX P w) (k + 1) f fd ps (spF K I n (mDef n m pr g)) :=
  def_okT Fn S hps hN fun X W e1 e2 e3 e4 e5 _ _ c => hb X W e1 e2 e3 e4 e5 c
end SD

set_option Elab.async false
set_option linter.all false
set_option autoImplicit false
set_option maxRecDepth 100000
set_option maxHeartbeats 4000000
/-! SD, part H: list comprehensions. -/
namespace SD
open PySem PySem.Spec PyProof.Rows L2

/-! ### readings that hang on the written part alone -/
def tcE (X : Cx) (W : WX) (I : ExI) (f : M Slot) : TE := fun σ H Q => ∃ F ρ, Rp X.K F H ρ σ ∧ (f ρ).sat (fun s ρ' => ∀ F' H' v, Post X.K F H ρ σ F' H' ρ' (.sl s) v → Q v H') (XC X W I F H (OwnE H ρ σ) σ)
def tcT (X : Cx) (W : WX) (I : ExI) (c : M Bool) : TT := fun σ H Q => ∃ F ρ, Rp X.K F H ρ σ ∧ (c ρ).sat (fun b ρ' => ∀ F' H', PostB X.K F H ρ σ F' H' ρ' → Q b H') (XC X W I F H (OwnE H ρ σ) σ)
def tcG (X : Cx) (pr : Nat → Prop) (g : Tg) : TG := fun v σ H Q => ∃ F ρ d ρ', Rp X.K F H ρ σ ∧ Rep X.K F d v ∧ g d ρ = some ρ' ∧ ∀ σ', PostS X.K pr F H ρ σ F H ρ' σ' → Q σ' H
section
variable {X : Cx} {W : WX} {I : ExI} {pr : Nat → Prop} {e : Expr}
theorem CA.can {f : M Slot} (h : CE X W I f e) : PE X e (tcE X W I f) := by
  obtain ⟨t, h1, q⟩ := h.of
  exact ⟨fun pins s σ H Q J ⟨F, ρ, R, z⟩ => h1.run pins s σ H Q J (q F H ρ σ Q R z)⟩
theorem CT.can {f : M Bool} (h : CT X W I f e) : PT X e (tcT X W I f) := by
  obtain ⟨t, h1, q⟩ := h.run
  exact ⟨fun pins s σ H Q J ⟨F, ρ, R, z⟩ => h1.run pins s σ H Q J (q F H ρ σ Q R z)⟩
theorem CG.can {g : Tg} (h : CG X pr g e) : PG X e (tcG X pr g) := by
  obtain ⟨t, h1, q⟩ := h.run
  exact ⟨fun pins s σ H v u Q J r ⟨F, ρ, d, ρ', R, rp, eg, z⟩ => h1.run pins s σ H v u Q J r (q F H ρ σ d v Q ρ' R rp eg z)⟩
end
abbrev W0 : WX := fun _ _ _ _ => False
def Out.noexc {α : Type} : Out α → Out α
  | .ok a ρ => .ok a ρ
  | _ => .bad
theorem Out.sat_noexc {α : Type} {o : Out α} {k : α → En → Prop} {x : Exc → En → Prop} (h : o.noexc.sat k x) : o.sat k (fun _ _ => False) := by
  cases o <;> exact h
def wipeE (ρ : En) : List Nat → En
  | [] => ρ
  | v :: vs => (wipeE ρ vs).set v .emp
/-- the comprehension's own names put back to what they were outside -/
def restE (ρ ρ' : En) : List Nat → En
  | [] => ρ'
  | v :: vs => (restE ρ ρ' vs).set v (En.at ρ v)
def compL (vs : List Nat) (g : Tg) (c : M Bool) (f : M Slot) : List D → List D → M (List D)
  | [], acc => fun ρ => .ok acc ρ
  | d :: ds, acc => fun ρ => match g d (wipeE ρ vs) with
    | none => .bad
    | some ρ1 => (c ρ1).bind fun b ρ2 => if b then (f ρ2).bind fun s ρ3 => match s.data with
        | some x => if acc.length < 16777216 then compL vs g c f ds (acc ++ [x]) ρ3 else .bad
        | none => .bad
      else compL vs g c f ds acc ρ2
def mYes : M Bool := fun ρ => .ok true ρ
def mComp (src : M (List D)) (vs : List Nat) (g : Tg) (c : M Bool) (f : M Slot) : M Slot := fun ρ => (src ρ).bind fun ds ρ1 => ((compL vs g c f ds [] (wipeE ρ1 vs)).noexc).bind fun acc ρ2 => .ok (.lst acc) (restE ρ1 ρ2 vs)

theorem wipeE_length (ρ : En) : ∀ vs : List Nat, (wipeE ρ vs).length = ρ.length
  | [] => rfl
  | v :: vs => by unfold wipeE; rw [List.length_set, wipeE_length ρ vs]
theorem restE_length (ρ ρ' : En) : ∀ vs : List Nat, (restE ρ ρ' vs).length = ρ'.length
  | [] => rfl
  | v :: vs => by unfold restE; rw [List.length_set, restE_length ρ ρ' vs]
theorem wipeE_in {ρ : En} {i : Nat} {s : Slot} : ∀ {vs : List Nat}, i ∈ vs → (wipeE ρ vs)[i]? = some s → s = .emp
  | v :: vs, h, e => by
    unfold wipeE at e
    by_cases hv : v = i
    · subst hv
      by_cases hl : v < (wipeE ρ vs).length
      · rw [List.getElem?_set_self hl] at e; exact (Option.some.inj e).symm
      · rw [List.getElem?_eq_none (by simpa using hl)] at e; cases e
    · rw [List.getElem?_set_ne hv] at e
      rcases List.mem_cons.mp h with z | z
      · exact absurd z.symm hv
      · exact wipeE_in z e
theorem wipeE_out {ρ : En} {i : Nat} : ∀ {vs : List Nat}, i ∉ vs → (wipeE ρ vs)[i]? = ρ[i]?
  | [], _ => rfl
  | v :: vs, h => by
    unfold wipeE
    rw [List.getElem?_set_ne (fun e => h (by rw [e]; exact List.mem_cons_self)), wipeE_out fun z => h (List.mem_cons_of_mem _ z)]
theorem restE_in {ρ ρ' : En} {i : Nat} {s : Slot} : ∀ {vs : List Nat}, i ∈ vs → (restE ρ ρ' vs)[i]? = some s → s = En.at ρ i
  | v :: vs, h, e => by
    unfold restE at e
    by_cases hv : v = i
    · subst hv
      by_cases hl : v < (restE ρ ρ' vs).length
      · rw [List.getElem?_set_self hl] at e; exact (Option.some.inj e).symm
      · rw [List.getElem?_eq_none (by simpa using hl)] at e; cases e
    · rw [List.getElem?_set_ne hv] at e
      rcases List.mem_cons.mp h with z | z
      · exact absurd z.symm hv
      · exact restE_in z e
theorem restE_out {ρ ρ' : En} {i : Nat} : ∀ {vs : List Nat}, i ∉ vs → (restE ρ ρ' vs)[i]? = ρ'[i]?
  | [], _ => rfl
  | v :: vs, h => by
    unfold restE
    rw [List.getElem?_set_ne (fun e => h (by rw [e]; exact List.mem_cons_self)), restE_out fun z => h (List.mem_cons_of_mem _ z)]
theorem wipe_in {σ : St} {i : Nat} {v : Option V} : ∀ {vs : List Nat}, i ∈ vs → (wipe σ vs)[i]? = some v → v = none
  | w :: vs, h, e => by
    unfold wipe at e
    by_cases hv : w = i
    · subst hv
      by_cases hl : w < (wipe σ vs).length
      · rw [List.getElem?_set_self hl] at e; exact (Option.some.inj e).symm
      · rw [List.getElem?_eq_none (by simpa using hl)] at e; cases e
    · rw [List.getElem?_set_ne hv] at e
      rcases List.mem_cons.mp h with z | z
      · exact absurd z.symm hv
      · exact wipe_in z e
theorem Rp.wipe {K : Fr0} {F H : Hp} {ρ : En} {σ : St} (R : Rp K F H ρ σ) (vs : List Nat) : Rp K F H (wipeE ρ vs) (L2.wipe σ vs) ∧ ∀ q, OwnE H (wipeE ρ vs) (L2.wipe σ vs) q → ∃ (i : Nat) (s : Slot) (v : Option V), i ∉ vs ∧ ρ[i]? = some s ∧ σ[i]? = some v ∧ Owns H s v q := by
  have at_ : ∀ {i : Nat} {s : Slot} {v : Option V}, (wipeE ρ vs)[i]? = some s → (L2.wipe σ vs)[i]? = some v → s = .emp ∨ (i ∉ vs ∧ ρ[i]? = some s ∧ σ[i]? = some v) := fun {i s v} e1 e2 => by
    by_cases hi : i ∈ vs
    · exact .inl (wipeE_in hi e1)
    · exact .inr ⟨hi, by rw [← wipeE_out hi]; exact e1, by rw [← wipe_out hi]; exact e2⟩
  refine ⟨⟨by rw [wipeE_length, wipe_length]; exact R.len, R.sub, fun i s v e1 e2 => ?_, fun i j s t v u q e1 e2 e3 e4 o1 o2 => ?_⟩, fun q ⟨i, s, v, e1, e2, o⟩ => ?_⟩
  · rcases at_ e1 e2 with rfl | ⟨_, k1, k2⟩
    · trivial
    · exact R.ok i s v k1 k2
  · rcases at_ e1 e2 with rfl | ⟨_, k1, k2⟩
    · exact o1.elim
    · rcases at_ e3 e4 with rfl | ⟨_, k3, k4⟩
      · exact o2.elim
      · exact R.dj i j s t v u q k1 k2 k3 k4 o1 o2
  · rcases at_ e1 e2 with rfl | ⟨hi, k1, k2⟩
    · exact o.elim
    · exact ⟨i, s, v, hi, k1, k2, o⟩
/-- a block's state, seen from outside -/
theorem Rp.rest {K : Fr0} {F H F' H' : Hp} {ρ ρ' : En} {σ : St} {vs : List Nat} {O' : Addr → Prop} (R : Rp K F H ρ σ) (R' : Rp K F' H' ρ' (L2.wipe σ vs)) (x : Ext F H (OwnE H (wipeE ρ vs) (L2.wipe σ vs)) F' H' O') (hO : ∀ q, OwnE H' ρ' (L2.wipe σ vs) q → O' q) :
    Rp K F' H' (restE ρ ρ' vs) σ ∧ ∀ q, OwnE H' (restE ρ ρ' vs) σ q → OwnE H' ρ' (L2.wipe σ vs) q ∨ (OwnE H ρ σ q ∧ ¬ O' q) := by
  obtain ⟨_, ow⟩ := R.wipe vs
  have at_ : ∀ {i : Nat} {s : Slot} {v : Option V}, (restE ρ ρ' vs)[i]? = some s → σ[i]? = some v → (i ∈ vs ∧ ρ[i]? = some s) ∨ (i ∉ vs ∧ ρ'[i]? = some s ∧ (L2.wipe σ vs)[i]? = some v) := fun {i s v} e1 e2 => by
    by_cases hi : i ∈ vs
    · left
      have es := restE_in hi e1
      have hl : i < ρ.length := by rw [R.len]; exact (List.getElem?_eq_some_iff.mp e2).1
      refine ⟨hi, ?_⟩
      rw [es]
      unfold En.at
      rw [List.getElem?_eq_getElem hl]
      rfl
    · right
      exact ⟨hi, by rw [← restE_out hi]; exact e1, by rw [wipe_out hi]; exact e2⟩
  have apart : ∀ {i : Nat} {s : Slot} {v : Option V}, i ∈ vs → ρ[i]? = some s → σ[i]? = some v → ∀ q, Owns H s v q → ¬ OwnE H (wipeE ρ vs) (L2.wipe σ vs) q := fun {i s v} hi e1 e2 q o z => by
    obtain ⟨j, t, u, hj, k1, k2, o2⟩ := ow q z
    exact hj (R.dj i j s t v u q e1 e2 k1 k2 o o2 ▸ hi)
  have apart' : ∀ {i : Nat} {s : Slot} {v : Option V}, i ∈ vs → ρ[i]? = some s → σ[i]? = some v → ∀ q, Owns H' s v q → ¬ O' q := fun {i s v} hi e1 e2 q o => x.apart (R.ok i s v e1 e2) (apart hi e1 e2) q o
  refine ⟨⟨by rw [restE_length, R'.len, wipe_length], R'.sub, fun i s v e1 e2 => ?_, fun i j s t v u q e1 e2 e3 e4 o1 o2 => ?_⟩, fun q ⟨i, s, v, e1, e2, o⟩ => ?_⟩
  · rcases at_ e1 e2 with ⟨hi, k⟩ | ⟨_, k1, k2⟩
    · exact (R.ok i s v k e2).ext x (apart hi k e2)
    · exact R'.ok i s v k1 k2
  · rcases at_ e1 e2 with ⟨hi, k⟩ | ⟨_, k1, k2⟩
    · rcases at_ e3 e4 with ⟨hj, k'⟩ | ⟨_, k3, k4⟩
      · exact R.dj i j s t v u q k e2 k' e4 (((R.ok i s v k e2).extO x (apart hi k e2)).mp o1) (((R.ok j t u k' e4).extO x (apart hj k' e4)).mp o2)
      · exact absurd (hO q ⟨j, t, u, k3, k4, o2⟩) (apart' hi k e2 q o1)
    · rcases at_ e3 e4 with ⟨hj, k'⟩ | ⟨_, k3, k4⟩
      · exact absurd (hO q ⟨i, s, v, k1, k2, o1⟩) (apart' hj k' e4 q o2)
      · exact R'.dj i j s t v u q k1 k2 k3 k4 o1 o2
  · rcases at_ e1 e2 with ⟨hi, k⟩ | ⟨_, k1, k2⟩
    · exact .inr ⟨⟨i, s, v, k, e2, ((R.ok i s v k e2).extO x (apart hi k e2)).mp o⟩, apart' hi k e2 q o⟩
    · exact .inl ⟨i, s, v, k1, k2, o⟩
theorem hv {vs : List Nat} (σ σ' : St) (hl : σ'.length = σ.length) (h : ∀ i, i ∉ vs → σ'[i]? = σ[i]?) : L2.wipe σ' vs = L2.wipe σ vs := by
  refine List.ext_getElem? fun j => ?_
  by_cases hj : j ∈ vs
  · cases e1 : (L2.wipe σ vs)[j]? with
    | none =>
      have := List.getElem?_eq_none_iff.mp e1
      rw [wipe_length] at this
      exact List.getElem?_eq_none_iff.mpr (by rw [wipe_length, hl]; exact this)
    | some s1 =>
      have hlt : j < (L2.wipe σ' vs).length := by
        have := (List.getElem?_eq_some_iff.mp e1).1
        rw [wipe_length] at this ⊢
        rw [hl]; exact this
      rw [wipe_in hj e1, List.getElem?_eq_getElem hlt]
      exact congrArg some (wipe_in hj (List.getElem?_eq_getElem hlt))
  · rw [wipe_out hj, wipe_out hj, h j hj]
section
variable {X : Cx} {W : WX} {I : ExI} {N : List Str} {sc : Scope} {cf : Str → Bool} {k : Nat}
/-- within a comprehension's block -/
theorem Cn.blk (c : Cn X W N sc cf k) {scope : Scope} {own : List (Str × Nat)} (s : Shared) (H : Hp) (C : Addr) (cl : List (Str × Addr)) (fp : List Addr) :
    Cn (X.blk s H scope (compEnvC scope cl C X.env) fp) W0 N (relS scope sc) (fun x => scope.names.lookup x == some .cell) k :=
  ⟨⟨c.hN, by rw [← c.hs]; rfl, c.nd, fun _ h => h⟩, takes0, PassesOwn.never, c.hr, c.calm⟩
theorem tLc_ok {tg iter : Expr} {src : M (List D)} {g : Tg} {cnd : M Bool} {f : M Slot} {vs : List Nat} {wi : TI} {F H : Hp} {ρ : En} {σ : St} {Q : VK} (R : Rp X.K F H ρ σ)
    (q1 : ∀ (F H : Hp) (ρ : En) (σ : St) (Rr : It → Hp → Prop), Rp X.K F H ρ σ → (src ρ).sat (fun ds ρ' => ∀ F' H' J, PostB X.K F H ρ σ F' H' ρ' → ItOk X.K F' ds J → Rr J H') (XC X W I F H (OwnE H ρ σ) σ) → wi σ H Rr)
    (z : (mComp src vs g cnd f ρ).sat (fun s ρ' => ∀ F' H' v, Post X.K F H ρ σ F' H' ρ' (.sl s) v → Q v H') (XC X W I F H (OwnE H ρ σ) σ)) :
    tLc wi (tcG X (fun i => i ∉ vs) g) (tcT X W0 I cnd) (tcE X W0 I f) vs σ H Q := by
  unfold mComp at z
  rw [Out.sat_bind] at z
  refine q1 F H ρ σ _ R (Out.sat_mono z (fun ds ρ1 _ y F1 H1 J P it => ?_) fun _ _ y => y)
  rw [Out.sat_bind] at y
  have y : (compL vs g cnd f ds [] (wipeE ρ1 vs)).sat (fun acc ρ2 => ∀ F' H' v, Post X.K F H ρ σ F' H' (restE ρ1 ρ2 vs) (.sl (.lst acc)) v → Q v H') (fun _ _ => False) := Out.sat_noexc y
  intro A nA
  obtain ⟨Rw, ow⟩ := P.rp.wipe vs
  have nO : ∀ q, OwnE H1 (wipeE ρ1 vs) (L2.wipe σ vs) q → OwnE H1 ρ1 σ q := fun q h => let ⟨i, s, v, _, e1, e2, o⟩ := ow q h; ⟨i, s, v, e1, e2, o⟩
  have xA : Ext F1 H1 (fun _ => False) F1 (upd H1 A (.lst [])) (fun q => q = A) := ⟨Same.refl _, fun a h h' => absurd h h', fun a o h _ => same_upd nA a o h, fun a h => .inl (by cases (show a = A from h); exact nA)⟩
  have bA : ∀ q, OwnE (upd H1 A (.lst [])) (wipeE ρ1 vs) (L2.wipe σ vs) q → OwnE H1 (wipeE ρ1 vs) (L2.wipe σ vs) q := fun q z => (Rw.extO xA fun _ _ z => z).mp z
  -- the state at the turn i
  let Inv (i : Nat) (H' : Hp) : Prop := ∃ F' ρ' acc vacc, Rp X.K F' H' ρ' (L2.wipe σ vs) ∧ Ext F1 H1 (OwnE H1 (wipeE ρ1 vs) (L2.wipe σ vs)) F' H' (fun q => q = A ∨ OwnE H' ρ' (L2.wipe σ vs) q) ∧ H' A = some (.lst vacc) ∧ F' A = none ∧ Reps X.K F' acc vacc ∧
    ¬ OwnE H' ρ' (L2.wipe σ vs) A ∧ (compL vs g cnd f (ds.drop i) acc ρ').sat (fun acc ρ2 => ∀ F' H' v, Post X.K F H ρ σ F' H' (restE ρ1 ρ2 vs) (.sl (.lst acc)) v → Q v H') (fun _ _ => False)
  refine ⟨fun i m H' => m = ds.length - i ∧ i ≤ ds.length ∧ Inv i H', ⟨ds.length, by simp, Nat.zero_le _, F1, wipeE ρ1 vs, [], [], ?_, ?_, upd_same, P.rp.sub.free nA, by rw [reps_nil], ?_, ?_⟩, ?_⟩
  · exact Rw.ext xA (Rw.sub.trans (same_upd nA)) fun _ _ z => z
  · exact ⟨Same.refl _, fun a h h' => absurd h h', fun a o h _ => same_upd nA a o h, fun a h => h.elim (fun h => .inl (by cases h; exact nA)) fun h => .inr (bA a h)⟩
  · intro z
    obtain ⟨_, u, hu⟩ := Rw.ownF (bA _ z)
    rw [nA] at hu; cases hu
  · simpa using y
  rintro i m H' ⟨rfl, hle, F', ρ', acc, vacc, R', x', hA, fA, ra, nOA, z'⟩
  by_cases hlt : i < ds.length
  · have sF := x'.sub
    obtain ⟨go, yld⟩ := it.go i F' H' sF R'.sub hlt
    refine .inr ⟨go, fun H2 => i + 1 ≤ ds.length ∧ Inv (i + 1) H2, fun H2 ⟨hle2, h⟩ => ⟨ds.length - (i + 1), by omega, rfl, hle2, h⟩, fun xv H2 hy => ?_⟩
    obtain ⟨F2, s1, s2, s3, nF, d, ed, r⟩ := yld xv H2 hy
    have xy : Ext F' H' (fun _ => False) F2 H2 (fun _ => False) := ⟨s1, fun a h h' => .inl (nF a h h'), fun a o h _ => s3 a o h, fun a h => h.elim⟩
    have R2 := R'.ext xy s2 fun _ _ z => z
    have hA2 : H2 A = some (.lst vacc) := s3 A _ hA
    have fA2 : F2 A = none := by
      cases e : F2 A with
      | none => rfl
      | some o => have := nF A fA (by rw [e]; simp); rw [hA] at this; cases this
    have x2 : Ext F1 H1 (OwnE H1 (wipeE ρ1 vs) (L2.wipe σ vs)) F2 H2 (fun q => q = A ∨ OwnE H2 ρ' (L2.wipe σ vs) q) := x'.trans (xy.weak (fun _ z => z.elim) fun q h => .inr (h.imp_right (R'.extO xy fun _ _ z => z).mp))
    obtain ⟨R3, ow3⟩ := R2.wipe vs
    have hww : L2.wipe (L2.wipe σ vs) vs = L2.wipe σ vs := hv σ _ (by rw [wipe_length]) fun i hi => wipe_out hi
    rw [hww] at R3 ow3
    have sub3 : ∀ q, OwnE H2 (wipeE ρ' vs) (L2.wipe σ vs) q → OwnE H2 ρ' (L2.wipe σ vs) q := fun q h => let ⟨i, s, v, _, e1, e2, o⟩ := ow3 q h; ⟨i, s, v, e1, e2, o⟩
    have ed' : ds.drop i = d :: ds.drop (i + 1) := by
      rw [List.drop_eq_getElem_cons hlt]
      congr 1
      exact (List.getElem?_eq_some_iff.mp ed).2
    rw [ed'] at z'
    have z3 : (match g d (wipeE ρ' vs) with
      | none => Out.bad
      | some ρ1 => (cnd ρ1).bind fun b ρ2 => if b then (f ρ2).bind fun s ρ3 => (match s.data with
          | some x => if acc.length < 16777216 then compL vs g cnd f (ds.drop (i + 1)) (acc ++ [x]) ρ3 else .bad
          | none => .bad)
        else compL vs g cnd f (ds.drop (i + 1)) acc ρ2 : Out (List D)).sat _ _ := z'
    cases eg : g d (wipeE ρ' vs) with
    | none => rw [eg] at z3; exact z3.elim
    | some ρ3 =>
      rw [eg] at z3
      have z4 : ((cnd ρ3).bind fun b ρ2 => if b then (f ρ2).bind fun s ρ3 => (match s.data with
          | some x => if acc.length < 16777216 then compL vs g cnd f (ds.drop (i + 1)) (acc ++ [x]) ρ3 else .bad
          | none => .bad)
        else compL vs g cnd f (ds.drop (i + 1)) acc ρ2 : Out (List D)).sat _ _ := z3
      rw [Out.sat_bind] at z4
      refine ⟨F2, wipeE ρ' vs, d, ρ3, R3, r, eg, fun σ3 P3 => ?_⟩
      have hw3 : L2.wipe σ3 vs = L2.wipe (L2.wipe σ vs) vs := hv _ _ P3.len fun i hi => P3.pr i hi
      refine ⟨hw3.trans hww, F2, ρ3, P3.rp, Out.sat_mono z4 (fun b ρ4 _ y4 F4 H4 P4 => ?_) fun _ _ y => y.elim⟩
      -- what the block's names own is forgotten behind the turn
      have back : ∀ {F5 H5 : Hp} {ρ5 : En}, Rp X.K F5 H5 ρ5 σ3 → Ext F2 H2 (OwnE H2 (wipeE ρ' vs) (L2.wipe σ vs)) F5 H5 (OwnE H5 ρ5 σ3) → ∃ ρ6, ρ6 = wipeE ρ5 vs ∧ Rp X.K F5 H5 ρ6 (L2.wipe σ vs) ∧ (∀ q, OwnE H5 ρ6 (L2.wipe σ vs) q → OwnE H5 ρ5 σ3 q) := fun {F5 H5 ρ5} R5 x5 => by
        obtain ⟨a, b⟩ := R5.wipe vs
        rw [hw3, hww] at a b
        exact ⟨_, rfl, a, fun q h => let ⟨i, s, v, _, e1, e2, o⟩ := b q h; ⟨i, s, v, e1, e2, o⟩⟩
      have wipe2 : ∀ ρ5 : En, wipeE (wipeE ρ5 vs) vs = wipeE ρ5 vs := fun ρ5 => by
        refine List.ext_getElem? fun j => ?_
        by_cases hj : j ∈ vs
        · cases e1 : (wipeE (wipeE ρ5 vs) vs)[j]? with
          | none =>
            have := List.getElem?_eq_none_iff.mp e1
            rw [wipeE_length] at this
            exact (List.getElem?_eq_none_iff.mpr this).symm
          | some s1 =>
            have hl : j < (wipeE ρ5 vs).length := by
              have := (List.getElem?_eq_some_iff.mp e1).1
              rw [wipeE_length] at this; exact this
            rw [wipeE_in hj e1, List.getElem?_eq_getElem hl]
            exact congrArg some (wipeE_in hj (List.getElem?_eq_getElem hl)).symm
        · rw [wipeE_out hj]
      have compW : ∀ (es : List D) (acc : List D) (ρ5 : En) (K1 : List D → En → Prop) , (∀ a r r', restE ρ1 r vs = restE ρ1 r' vs → K1 a r → K1 a r') → (compL vs g cnd f es acc ρ5).sat K1 (fun _ _ => False) → (compL vs g cnd f es acc (wipeE ρ5 vs)).sat K1 (fun _ _ => False) := fun es acc ρ5 K1 hK h => by
        cases es with
        | nil =>
          refine hK acc ρ5 (wipeE ρ5 vs) ?_ h
          refine List.ext_getElem? fun j => ?_
          by_cases hj : j ∈ vs
          · cases e1 : (restE ρ1 ρ5 vs)[j]? with
            | none =>
              have := List.getElem?_eq_none_iff.mp e1
              rw [restE_length] at this
              exact (List.getElem?_eq_none_iff.mpr (by rw [restE_length, wipeE_length]; exact this)).symm
            | some s1 =>
              have hl : j < (restE ρ1 (wipeE ρ5 vs) vs).length := by
                have := (List.getElem?_eq_some_iff.mp e1).1
                rw [restE_length] at this
                rw [restE_length, wipeE_length]; exact this
              rw [restE_in hj e1, List.getElem?_eq_getElem hl]
              exact congrArg some (restE_in hj (List.getElem?_eq_getElem hl)).symm
          · rw [restE_out hj, restE_out hj, wipeE_out hj]
        | cons d es =>
          unfold compL at h ⊢
          rw [wipe2]
          exact h
      have K1ok : ∀ (a : List D) (r r' : En), restE ρ1 r vs = restE ρ1 r' vs → (∀ F' H' v, Post X.K F H ρ σ F' H' (restE ρ1 r vs) (.sl (.lst a)) v → Q v H') → (∀ F' H' v, Post X.K F H ρ σ F' H' (restE ρ1 r' vs) (.sl (.lst a)) v → Q v H') := fun a r r' e h => by rw [← e]; exact h
      have P3x : Ext F2 H2 (OwnE H2 (wipeE ρ' vs) (L2.wipe σ vs)) F2 H2 (OwnE H2 ρ3 σ3) := P3.ext
      have nA3 : ¬ OwnE H2 (wipeE ρ' vs) (L2.wipe σ vs) A := fun z => nOA ((R'.extO xy fun _ _ z => z).mp (sub3 A z))
      have keepA : ∀ {F5 H5 : Hp} {O5 : Addr → Prop}, Ext F2 H2 (OwnE H2 (wipeE ρ' vs) (L2.wipe σ vs)) F5 H5 O5 → H5 A = some (.lst vacc) ∧ F5 A = none ∧ ¬ O5 A := fun {F5 H5 O5} x5 => by
        refine ⟨x5.keep A _ hA2 nA3, ?_, fun z => ?_⟩
        · cases e : F5 A with
          | none => rfl
          | some o =>
            rcases x5.newF A fA2 (by rw [e]; simp) with y | y
            · rw [hA2] at y; cases y
            · exact absurd y nA3
        · rcases x5.newO A z with y | y
          · rw [hA2] at y; cases y
          · exact nA3 y
      cases b with
      | false =>
        rw [if_neg Bool.false_ne_true] at y4
        dsimp only
        rw [if_neg Bool.false_ne_true]
        have x4 := P3x.trans P4.ext
        obtain ⟨ρ6, e6, R6, o6⟩ := back P4.rp x4
        obtain ⟨k1, k2, k3⟩ := keepA x4
        refine ⟨hlt, F4, ρ6, acc, vacc, R6, x2.trans (x4.weak (fun q h => .inr (sub3 q h)) fun q h => ?_), k1, k2, Reps.mono (s1.trans x4.sub) _ _ ra, fun z => k3 (o6 A z), ?_⟩
        · rcases h with h | h
          · exact .inr (.inl h)
          · exact .inl (o6 q h)
        · rw [e6]; exact compW _ _ _ _ K1ok y4
      | true =>
        rw [if_pos rfl] at y4
        dsimp only
        rw [if_pos rfl]
        rw [Out.sat_bind] at y4
        refine ⟨F4, ρ4, P4.rp, Out.sat_mono y4 (fun s ρ5 _ y5 F5 H5 v P5 => ?_) fun _ _ y => y.elim⟩
        cases es : s.data with
        | none => rw [es] at y5; exact y5.elim
        | some dv =>
          rw [es] at y5
          have y6 : (if acc.length < 16777216 then compL vs g cnd f (ds.drop (i + 1)) (acc ++ [dv]) ρ5 else .bad).sat _ _ := y5
          by_cases hlen : acc.length < 16777216
          · rw [if_pos hlen] at y6
            obtain ⟨F6, s6, r6, R6, x6⟩ := freeze P5 es
            have x7 := (P3x.trans P4.ext).trans x6
            obtain ⟨ρ7, e7, R7, o7⟩ := back R6 x7
            obtain ⟨k1, k2, k3⟩ := keepA x7
            have hal : acc.length = vacc.length := ra.length
            have xu1 : Ext F6 H5 (fun q => q = A) F6 (upd H5 A (.lst (vacc ++ [v]))) (fun q => q = A) := ⟨Same.refl _, fun a h h' => absurd h h', fun a o h n => by rw [upd_ne n]; exact h, fun a h => .inr h⟩
            have b7 : ∀ q, OwnE (upd H5 A (.lst (vacc ++ [v]))) ρ7 (L2.wipe σ vs) q → OwnE H5 ρ7 (L2.wipe σ vs) q := fun q z => (R7.extO xu1 fun q z z' => by cases (show q = A from z'); exact k3 (o7 _ z)).mp z
            refine ⟨vacc, k1, by rw [sizeLine_eq]; omega, hlt, F6, ρ7, acc ++ [dv], vacc ++ [v], ?_, ?_, upd_same, k2, Reps.append (Reps.mono (s1.trans x7.sub) _ _ ra) (.one r6), fun z => k3 (o7 A (b7 A z)), ?_⟩
            · have xu : Ext F6 H5 (fun q => q = A) F6 (upd H5 A (.lst (vacc ++ [v]))) (fun q => q = A) := ⟨Same.refl _, fun a h h' => absurd h h', fun a o h n => by rw [upd_ne n]; exact h, fun a h => .inr h⟩
              refine R7.ext xu (fun b u e => ?_) fun q z z' => by cases (show q = A from z'); exact k3 (o7 _ z)
              by_cases hb : b = A
              · subst hb; rw [k2] at e; cases e
              · rw [upd_ne hb]; exact R7.sub b u e
            · have xu : Ext F6 H5 (fun q => q = A ∨ OwnE H5 ρ7 (L2.wipe σ vs) q) F6 (upd H5 A (.lst (vacc ++ [v]))) (fun q => q = A ∨ OwnE (upd H5 A (.lst (vacc ++ [v]))) ρ7 (L2.wipe σ vs) q) := ⟨Same.refl _, fun a h h' => absurd h h', fun a o h n => by rw [upd_ne fun z => n (.inl z)]; exact h, fun a h => .inr (h.imp_right (b7 a))⟩
              refine (x2.trans (x7.weak (fun q h => .inr (sub3 q h)) fun q h => ?_)).trans xu
              rcases h with h | h
              · exact .inr (.inl h)
              · exact .inl (o7 q h)
            · rw [e7]; exact compW _ _ _ _ K1ok y6
          · rw [if_neg hlen] at y6; exact y6.elim
  · have e : i = ds.length := by omega
    subst e
    rw [List.drop_length] at z'
    obtain ⟨Rf, of⟩ := P.rp.rest R' x' fun q h => .inr h
    refine .inl ⟨it.stop _ F' H' x'.sub R'.sub (Nat.le_refl _), z' F' H' (.ref A) ⟨Rf, ⟨⟨A, vacc, rfl, hA, fA, ra⟩, fun q o z => ?_⟩, P.ext.trans (x'.weak nO fun q h => ?_)⟩⟩
    · cases (show q = A from o)
      rcases of A z with y | ⟨_, y⟩
      · exact nOA y
      · exact y (.inl rfl)
    · rcases h with h | h
      · exact .inl (.inl h)
      · rcases of q h with y | ⟨y, _⟩
        · exact .inl (.inr y)
        · exact .inr y
end
end SD
namespace SD
open PySem PySem.Spec PyProof.Rows L2
section
variable {X : Cx} {W : WX} {I : ExI} {N : List Str} {sc : Scope} {cf : Str → Bool} {k : Nat}
structure CTs (X : Cx) (W : WX) (I : ExI) (c : M Bool) (ifs : List Expr) : Prop where
  can : PTs X ifs (tcT X W I c)
theorem cts_nil : CTs X W I mYes [] := ⟨⟨fun pins s σ H Q J ⟨F, ρ, R, z⟩ => pts_nil.run pins s σ H Q J (z F H (PostB.refl R))⟩⟩
theorem cts_one {c : M Bool} {e : Expr} (h : CT X W I c e) : CTs X W I c [e] := ⟨pts_one h.can⟩
variable {tg iter elt : Expr} {ifs : List Expr} {src : M (List D)} {g : Tg} {cnd : M Bool} {f : M Slot} {scope : Scope} {own : List (Str × Nat)} {pos : Pos}
theorem ce_lc (c : Cn X W N sc cf k) (hi : CI X W I tg src iter) (ok : blkC N sc scope own = true)
    (hg : ∀ (s : Shared) (H : Hp) (C : Addr) (cl : List (Str × Addr)) (fp : List Addr), Cn (X.blk s H scope (compEnvC scope cl C X.env) fp) W0 N (relS scope sc) (fun x => scope.names.lookup x == some .cell) k → CG (X.blk s H scope (compEnvC scope cl C X.env) fp) (fun i => i ∉ own.map (·.2)) g tg)
    (ht : ∀ (s : Shared) (H : Hp) (C : Addr) (cl : List (Str × Addr)) (fp : List Addr), Cn (X.blk s H scope (compEnvC scope cl C X.env) fp) W0 N (relS scope sc) (fun x => scope.names.lookup x == some .cell) k → CTs (X.blk s H scope (compEnvC scope cl C X.env) fp) W0 I cnd ifs)
    (he : ∀ (s : Shared) (H : Hp) (C : Addr) (cl : List (Str × Addr)) (fp : List Addr), Cn (X.blk s H scope (compEnvC scope cl C X.env) fp) W0 N (relS scope sc) (fun x => scope.names.lookup x == some .cell) k → CE (X.blk s H scope (compEnvC scope cl C X.env) fp) W0 I f elt)
    (hs : ∀ x, foldedSetIterable iter X.env x = pure x := by intro _; rfl) : CE X W I (mComp src (own.map (·.2)) g cnd f) (.ListComp elt [⟨tg, iter, ifs, 0⟩] scope pos) := by
  obtain ⟨wi, h1, q1⟩ := hi.run
  refine ce_mk (pe_lc (g := tcG X (fun i => i ∉ own.map (fun x : Str × Nat => x.2)) g) (tt := tcT X W0 I cnd) (te := tcE X W0 I f) c.calm (by rw [c.hN]; exact c.nd) h1 (by rw [c.hN, c.hs]; exact blkOk_by ok) (fun s H C cl fp => (hg s H C cl fp (c.blk (own := own) s H C cl fp)).can) (fun s H C cl fp => (ht s H C cl fp (c.blk (own := own) s H C cl fp)).can) (fun s H C cl fp => (he s H C cl fp (c.blk (own := own) s H C cl fp)).can) hs) fun F H ρ σ Q R z => ?_
  exact tLc_ok (tg := tg) (iter := iter) R q1 z
/-- name = [..] -/
theorem cs_setLc {i : Nat} {y : Str} {py spos : Pos} {pr : Nat → Prop} (c : Cn X W N sc cf k) (hy : N[i]? = some y) (hyl : locB sc y = true) (hpr : ¬ pr i)
    (hsw : swapsWith (.ListComp elt [⟨tg, iter, ifs, 0⟩] scope pos) (some (.Name y py)) spos.line X.env = pure true) (hi : CI X W I tg src iter) (ok : blkC N sc scope own = true)
    (hg : ∀ (s : Shared) (H : Hp) (C : Addr) (cl : List (Str × Addr)) (fp : List Addr), Cn (X.blk s H scope (compEnvC scope cl C X.env) fp) W0 N (relS scope sc) (fun x => scope.names.lookup x == some .cell) k → CG (X.blk s H scope (compEnvC scope cl C X.env) fp) (fun i => i ∉ own.map (·.2)) g tg)
    (ht : ∀ (s : Shared) (H : Hp) (C : Addr) (cl : List (Str × Addr)) (fp : List Addr), Cn (X.blk s H scope (compEnvC scope cl C X.env) fp) W0 N (relS scope sc) (fun x => scope.names.lookup x == some .cell) k → CTs (X.blk s H scope (compEnvC scope cl C X.env) fp) W0 I cnd ifs)
    (he : ∀ (s : Shared) (H : Hp) (C : Addr) (cl : List (Str × Addr)) (fp : List Addr), Cn (X.blk s H scope (compEnvC scope cl C X.env) fp) W0 N (relS scope sc) (fun x => scope.names.lookup x == some .cell) k → CE (X.blk s H scope (compEnvC scope cl C X.env) fp) W0 I f elt)
    (hs : ∀ x, foldedSetIterable iter X.env x = pure x := by intro _; rfl) : CS X W I pr (mSet i (mComp src (own.map (·.2)) g cnd f)) (.Assign [.Name y py] (.ListComp elt [⟨tg, iter, ifs, 0⟩] scope pos) spos) := by
  obtain ⟨wi, h1, q1⟩ := hi.run
  refine ⟨_, ps_setLc (i := i) (g := tcG X (fun i => i ∉ own.map (fun x : Str × Nat => x.2)) g) (tt := tcT X W0 I cnd) (te := tcE X W0 I f) c.calm (by rw [c.hN]; exact c.nd) (by rw [c.hN]; exact hy) (by rw [c.hs]; exact loc_of hyl) hsw h1 (by rw [c.hN, c.hs]; exact blkOk_by ok) (fun s H C cl fp => (hg s H C cl fp (c.blk (own := own) s H C cl fp)).can) (fun s H C cl fp => (ht s H C cl fp (c.blk (own := own) s H C cl fp)).can) (fun s H C cl fp => (he s H C cl fp (c.blk (own := own) s H C cl fp)).can) hs, fun F H ρ σ E R z => ?_⟩
  unfold mSet at z
  rw [Out.sat_bind] at z
  refine tLc_ok (tg := tg) (iter := iter) (Q := fun x H1 => gName i x σ H1 E.nx) R q1 (Out.sat_mono z (fun s ρ1 _ y F1 H1 v P => ?_) fun _ _ y => y.toC)
  exact y F1 H1 _ (post_set P hpr)
theorem sw_of {y : Str} {py spos : Pos} (c : Cn X W N sc cf k) (hk : sc.kind = .function) (hyl : locB sc y = true) (hl : (py.line == pos.line) = true)
    (ha : (scope.names.any fun (n, k) => n == y && (k == .local || k == .cell)) = false) : swapsWith (.ListComp elt [⟨tg, iter, ifs, 0⟩] scope pos) (some (.Name y py)) spos.line X.env = pure true :=
  sw_true (by rw [c.hs]; exact hk) (by rw [c.hs]; exact loc_of hyl) hl ha
/-- a name that the comprehension reads itself: nothing is swapped -/
def noLocB (sc : Scope) (y : Str) : Bool := match sc.names.lookup y with
  | some .local => false
  | _ => true
end
end SD

set_option Elab.async false
set_option linter.all false
set_option autoImplicit false
set_option maxRecDepth 100000
set_option maxHeartbeats 4000000
/-! SD: == and != of a dict and a number, of two empty dicts. -/
namespace SD
open PySem PySem.Spec PyProof.Rows L2 PySem.SeqAt
open AutoSeq1 (wpAny_loadPart')
open MeetsSeq
theorem dict_eq_dec (l : Addr) (es : Array DictEntry) (ep : Nat) (dd : Option Addr) (sl : Array (Option Value)) (b : Int) (u : Tok) :
    Meets (Builtin.«dict.__eq__» ⟨[.ref l, .int b u], []⟩) (fun _ R s => s.heap.get? l = some { cls := .type "dict", dict := dd, data := .dict es ep, slots := sl } ∧ R (.ok (.ret .notImplemented)) s) :=
  .of_wp fun prog w A R s h => by obtain ⟨hp, g, d, tk, os⟩ := s; obtain ⟨hl, h⟩ := h; have f1 := F.sub_int_dict; wp_walk using wpAny_loadPart' hl, wpAny_load hl; exact ⟨_, rfl, h⟩
theorem dict_ne_dec (l : Addr) (es : Array DictEntry) (ep : Nat) (dd : Option Addr) (sl : Array (Option Value)) (b : Int) (u : Tok) :
    Meets (Builtin.«dict.__ne__» ⟨[.ref l, .int b u], []⟩) (fun _ R s => s.heap.get? l = some { cls := .type "dict", dict := dd, data := .dict es ep, slots := sl } ∧ R (.ok (.ret .notImplemented)) s) :=
  .of_wp fun prog w A R s h => by obtain ⟨hp, g, d, tk, os⟩ := s; obtain ⟨hl, h⟩ := h; have f1 := F.sub_int_dict; wp_walk using wpAny_loadPart' hl, wpAny_load hl; exact ⟨_, rfl, h⟩
theorem int_eq_dec (b : Int) (u : Tok) (l : Addr) (c : Value) (es : Array DictEntry) (ep : Nat) (dd : Option Addr) (sl : Array (Option Value)) :
    Meets (Builtin.«int.__eq__» ⟨[.int b u, .ref l], []⟩) (fun _ R s => s.heap.get? l = some { cls := c, dict := dd, data := .dict es ep, slots := sl } ∧ R (.ok (.ret .notImplemented)) s) :=
  .of_wp fun prog w A R s h => by obtain ⟨hp, g, d, tk, os⟩ := s; obtain ⟨hl, h⟩ := h; wp_walk using wpAny_loadPart' hl, wpAny_load hl; exact ⟨_, rfl, h⟩
theorem int_ne_dec (b : Int) (u : Tok) (l : Addr) (c : Value) (es : Array DictEntry) (ep : Nat) (dd : Option Addr) (sl : Array (Option Value)) :
    Meets (Builtin.«int.__ne__» ⟨[.int b u, .ref l], []⟩) (fun _ R s => s.heap.get? l = some { cls := c, dict := dd, data := .dict es ep, slots := sl } ∧ R (.ok (.ret .notImplemented)) s) :=
  .of_wp fun prog w A R s h => by obtain ⟨hp, g, d, tk, os⟩ := s; obtain ⟨hl, h⟩ := h; wp_walk using wpAny_loadPart' hl, wpAny_load hl; exact ⟨_, rfl, h⟩
section
variable {A : Around} {s : Shared}
theorem rc_dict_int {l : Addr} {o : Obj} {es : Array DictEntry} {ep : Nat} (b : Int) (u : Tok) (ho : s.heap.get? l = some o) (hc : o.ExactDict) (hd : o.data = .dict es ep) (hu : A.units < cLine) : RcAt A s (.ref l) (.int b u) false := fun prog w E Q h => by
  obtain ⟨cls, dd, data, sl⟩ := o
  have hc : cls = .type "dict" := hc.1
  simp only at hd
  subst hc hd
  exact rc_eq_decline_or (k := false) ⟨_, ho, rfl⟩ (typeIs_int s b u) (by decide) F.sub_int_dict F.slot_dict_eq F.slot_int_eq_refl
    (fun _ hq => call_meets F.slot_dict_eq ⟨_, ho, rfl⟩ F.entry_dict_eq (F.args_dict_eq_2 _ _) (dict_eq_dec l es ep dd sl b u) ⟨ho, hq⟩)
    (fun _ hq => call_meets F.slot_int_eq_refl (typeIs_int s b u) F.entry_int_eq (F.args_int_eq_2 _ _) (int_eq_dec b u l (.type "dict") es ep dd sl) ⟨ho, hq⟩)
    (fun _ hq => wpAny_of_eq (rfl : isSame (.ref l) (.int b u) = pure false) hq) (.inr hu) h
theorem rcne_dict_int {l : Addr} {o : Obj} {es : Array DictEntry} {ep : Nat} (b : Int) (u : Tok) (ho : s.heap.get? l = some o) (hc : o.ExactDict) (hd : o.data = .dict es ep) (hu : A.units < cLine) : RcNeAt A s (.ref l) (.int b u) true := fun prog w E Q h => by
  obtain ⟨cls, dd, data, sl⟩ := o
  have hc : cls = .type "dict" := hc.1
  simp only at hd
  subst hc hd
  exact rc_ne_decline_or (k := false) ⟨_, ho, rfl⟩ (typeIs_int s b u) (by decide) F.sub_int_dict F.slot_dict_ne F.slot_int_ne_refl
    (fun _ hq => call_meets F.slot_dict_ne ⟨_, ho, rfl⟩ F.entry_dict_ne (F.args_dict_ne_2 _ _) (dict_ne_dec l es ep dd sl b u) ⟨ho, hq⟩)
    (fun _ hq => call_meets F.slot_int_ne_refl (typeIs_int s b u) F.entry_int_ne (F.args_int_ne_2 _ _) (int_ne_dec b u l (.type "dict") es ep dd sl) ⟨ho, hq⟩)
    (fun _ hq => wpAny_of_eq (rfl : isSame (.ref l) (.int b u) = pure false) hq) (.inr hu) h
/-- two empty dicts -/
theorem eqAt_dict0 {P : Program} {v : World} {a b : Addr} (za : (a == sysModules) = false) (zb : (b == sysModules) = false) (da : s.heap.DictOf (mixKind P v) a []) (db : s.heap.DictOf (mixKind P v) b []) (hu : A.units + 1 < cLine) : EqAt A s (.ref a) (.ref b) true := by
  by_cases e : a = b
  · subst e
    exact EqAt.same _
  · refine EqAt.of_refs e fun prog w E Q h => ?_
    have cv : ∀ c, s.heap.DictOf (mixKind P v) c [] → s.heap.DictOf (mixKind prog w) c [] := fun c d => by
      obtain ⟨o, es, ep, h1, h2, h3, h4, h5, h6⟩ := d
      have e0 : es.toList = [] := by cases hq : es.toList with
        | nil => rfl
        | cons x r => rw [hq] at h5; cases h5
      have e1 : es = #[] := by rw [← Array.toList_inj, e0]
      subst e1
      exact ⟨o, #[], ep, h1, h2, h3, fun _ he => absurd he (Array.not_mem_empty _), .nil, List.nodup_nil⟩
    exact PySem.W.eq_dictsT (n := 0) (e := fun _ => true) za zb (cv _ da) (cv _ db) (fun k v y hm => absurd hm List.not_mem_nil) hu h
end
end SD

set_option Elab.async false
set_option linter.all false
set_option autoImplicit false
set_option maxRecDepth 100000
set_option maxHeartbeats 4000000
/-! SD, part I: operations on data, one by one. -/
namespace SD
open PySem PySem.Spec PyProof.Rows L2

/-! ### data without dicts, read off the heap -/
mutual
theorem Rep.dp {K : Fr0} {H : Hp} : ∀ (d : D) (v : V), d.plain = true → Rep K H d v → Dp K H v d
  | .none, v, _, h => by rw [rep_none] at h; subst h; exact .non
  | .bool b, v, _, h => by rw [rep_bool] at h; subst h; exact .bl b
  | .int b, v, _, h => by rw [rep_int] at h; subst h; exact .int b
  | .str b, v, _, h => by rw [rep_str] at h; subst h; exact .str b
  | .list ds, v, p, h => by
    rw [rep_list] at h
    obtain ⟨a, vs, rfl, q, r⟩ := h
    exact .lst q (Reps.dp ds vs (by simpa [PyData.plain] using p) r)
  | .tuple ds, v, p, h => by
    rw [rep_tuple] at h
    obtain ⟨a, vs, rfl, q, r⟩ := h
    exact .tup q (Reps.dp ds vs (by simpa [PyData.plain] using p) r)
  | .dict _, v, p, _ => by simp [PyData.plain] at p
theorem Reps.dp {K : Fr0} {H : Hp} : ∀ (ds : List D) (vs : List V), PyData.plainAll ds = true → Reps K H ds vs → DpAll K H vs ds
  | [], vs, _, h => by rw [reps_nil] at h; subst h; exact .nil
  | d :: ds, vs, p, h => by
    rw [reps_cons] at h
    obtain ⟨v, r, rfl, h1, h2⟩ := h
    simp only [PyData.plainAll, Bool.and_eq_true] at p
    exact .cons (Rep.dp d v p.1 h1) (Reps.dp ds r p.2 h2)
end
section
variable {X : Cx} {pins : List (Addr × Obj)} {σ : St} {F H : Hp} {s : Shared}
theorem reads_of (J : Inv X pins σ H s) {d : D} {v : V} {u : Value} (sub : Same F H) (h : RepT X.K F H d v) (p : d.plain = true) (r : RelV v u) : ∃ as, Reads s.heap u d as :=
  Dp.reads J d v u (Rep.dp d v p (h.deep sub)) r
theorem readsAll_of (J : Inv X pins σ H s) {ds : List D} {vs : List V} {us : List Value} (sub : Same F H) (h : Reps X.K F ds vs) (p : PyData.plainAll ds = true) (r : Vals vs us) : ∃ as, ReadsAll s.heap us ds as :=
  Dp.readsAll J ds vs us (Reps.dp ds vs p (Reps.mono sub ds vs h)) r
theorem res_bool {b : Bool} (sub : Same F H) {Q : VK} (q : ∀ F' H' v, Res1 X.K F H F' H' (.val (.bool b)) v → Q v H') : Q (.bl b) H := q F H _ (.val sub (by rw [rep_bool]))
theorem res_int {b : Int} (sub : Same F H) {Q : VK} (q : ∀ F' H' v, Res1 X.K F H F' H' (.val (.int b)) v → Q v H') : Q (.int b) H := q F H _ (.val sub (by rw [rep_int]))
theorem res_str {b : Str} (sub : Same F H) {Q : VK} (q : ∀ F' H' v, Res1 X.K F H F' H' (.val (.str b)) v → Q v H') : Q (.str b) H := q F H _ (.val sub (by rw [rep_str]))
end
theorem top_int {K : Fr0} {F H : Hp} {i : Int} {v : V} (h : RepT K F H (.int i) v) : v = .int i := by have h' : Rep K F (.int i) v := h; rw [rep_int] at h'; exact h'
theorem top_bool {K : Fr0} {F H : Hp} {i : Bool} {v : V} (h : RepT K F H (.bool i) v) : v = .bl i := by have h' : Rep K F (.bool i) v := h; rw [rep_bool] at h'; exact h'
theorem top_str {K : Fr0} {F H : Hp} {i : Str} {v : V} (h : RepT K F H (.str i) v) : v = .str i := by have h' : Rep K F (.str i) v := h; rw [rep_str] at h'; exact h'
theorem top_none {K : Fr0} {F H : Hp} {v : V} (h : RepT K F H .none v) : v = .non := by have h' : Rep K F .none v := h; rw [rep_none] at h'; exact h'
theorem top_list {K : Fr0} {F H : Hp} {ds : List D} {v : V} (h : RepT K F H (.list ds) v) : ∃ a vs, v = .ref a ∧ SqL K H a vs ∧ Reps K F ds vs := h
theorem top_tuple {K : Fr0} {F H : Hp} (s : Same F H) {ds : List D} {v : V} (h : RepT K F H (.tuple ds) v) : ∃ a vs, v = .ref a ∧ SqT K H a vs ∧ Reps K F ds vs := by
  have h' : Rep K F (.tuple ds) v := h
  rw [rep_tuple] at h'
  obtain ⟨a, vs, e, q, r⟩ := h'
  exact ⟨a, vs, e, SqT.mono s q, r⟩
/-! ### == and != -/
def eqOk (a b : D) : Bool := a.plain && b.plain && decide (min a.depth b.depth ≤ 60)
/-- a dict and a number; two empty dicts -/
def dEq : D → D → Option Slot
  | .dict _, .int _ => some (.val (.bool false))
  | .dict [], .dict [] => some (.val (.bool true))
  | _, _ => none
def dNe : D → D → Option Slot
  | .dict _, .int _ => some (.val (.bool true))
  | .list [a, .dict []], .list [b, .dict []] => if a.plain && b.plain && decide (min a.depth b.depth ≤ 58) then some (.val (.bool (!PyData.eqv a b))) else none
  | _, _ => none
def pEq : List D → Option Slot
  | [a, b] => if eqOk a b then some (.val (.bool (PyData.eqv a b))) else dEq a b
  | _ => none
def pNe : List D → Option Slot
  | [a, b] => if eqOk a b then some (.val (.bool (!PyData.eqv a b))) else dNe a b
  | _ => none
theorem top_dict {K : Fr0} {F H : Hp} {kvs : List (D × D)} {v : V} (h : RepT K F H (.dict kvs) v) : ∃ a es, v = .ref a ∧ Rd H a (.dK es) ∧ RepK K F kvs es := h
theorem dEq_some {a b : D} {sl : Slot} (e : dEq a b = some sl) : (∃ kvs i, a = .dict kvs ∧ b = .int i ∧ sl = .val (.bool false)) ∨ (a = .dict [] ∧ b = .dict [] ∧ sl = .val (.bool true)) := by
  unfold dEq at e
  split at e
  · cases e; exact .inl ⟨_, _, rfl, rfl, rfl⟩
  · cases e; exact .inr ⟨rfl, rfl, rfl⟩
  · cases e
theorem dNe_some {a b : D} {sl : Slot} (e : dNe a b = some sl) : (∃ kvs i, a = .dict kvs ∧ b = .int i ∧ sl = .val (.bool true)) ∨
    ∃ x y, a = .list [x, .dict []] ∧ b = .list [y, .dict []] ∧ x.plain = true ∧ y.plain = true ∧ min x.depth y.depth ≤ 58 ∧ sl = .val (.bool (!PyData.eqv x y)) := by
  unfold dNe at e
  split at e
  · cases e; exact .inl ⟨_, _, rfl, rfl, rfl⟩
  · split at e
    · rename_i h
      simp only [Bool.and_eq_true, decide_eq_true_eq] at h
      cases e
      exact .inr ⟨_, _, rfl, rfl, h.1.1, h.1.2, h.2, rfl⟩
    · cases e
  · cases e
theorem two_of {K : Fr0} {F H : Hp} {ds : List D} {x y : V} (h : RepTs K F H ds [x, y]) : ∃ a b, ds = [a, b] ∧ RepT K F H a x ∧ RepT K F H b y := by
  match ds, h with
  | [a, b], ⟨h1, h2, _⟩ => exact ⟨a, b, rfl, h1, h2⟩
  | [_], ⟨_, h⟩ => exact h.elim
  | [], h => exact h.elim
  | _ :: _ :: _ :: _, ⟨_, _, h⟩ => exact h.elim
theorem one_of {K : Fr0} {F H : Hp} {ds : List D} {x : V} (h : RepTs K F H ds [x]) : ∃ a, ds = [a] ∧ RepT K F H a x := by
  match ds, h with
  | [a], ⟨h1, _⟩ => exact ⟨a, rfl, h1⟩
  | [], h => exact h.elim
  | _ :: _ :: _, ⟨_, h⟩ => exact h.elim
section
variable {X : Cx} {k : Nat}
theorem op_eqP (hr : Room k X.A) : OpR X (compareOp .Eq) (fun x y => rP X.K pEq [x, y]) := by
  intro pins s σ H x y v u Q J rx ry ⟨F, ds, sl, sub, r, e, q⟩
  obtain ⟨a, b, rfl, h1, h2⟩ := two_of r
  have e : (if eqOk a b then some (Slot.val (.bool (PyData.eqv a b))) else dEq a b) = some sl := e
  split at e
  · rename_i ok
    cases e
    simp only [eqOk, Bool.and_eq_true, decide_eq_true_eq] at ok
    obtain ⟨as, k1⟩ := reads_of J sub h1 ok.1.1 rx
    obtain ⟨bs, k2⟩ := reads_of J sub h2 ok.1.2 ry
    have hu := hr.un
    exact SeqAt.eq_plain k1 k2 ok.1.1 ok.1.2 (by omega) ⟨.bl _, H, J, rfl, res_bool sub q⟩
  · have hu := hr.un
    rcases dEq_some e with ⟨kvs, i, rfl, rfl, rfl⟩ | ⟨rfl, rfl, rfl⟩
    · obtain ⟨p, es, rfl, g, -⟩ := top_dict h1
      cases top_int h2
      obtain ⟨-, -, vs, -, o, ents, ep, g1, g2, g3, -⟩ := dk_rd J.hok g
      cases (show v = Value.ref p from rx)
      obtain ⟨t, rfl⟩ : ∃ t, u = .int i t := ry
      exact rc_dict_int i t g1 g2 g3 (by omega) _ _ _ _ ⟨.bl _, H, J, rfl, res_bool sub q⟩
    · obtain ⟨p, es, rfl, g, w1⟩ := top_dict h1
      obtain ⟨p2, es2, rfl, g2, w2⟩ := top_dict h2
      cases repk_nil.mp w1
      cases repk_nil.mp w2
      obtain ⟨-, z1, vs, r1, d1⟩ := dk_rd J.hok g
      obtain ⟨-, z2, vs2, r2, d2⟩ := dk_rd J.hok g2
      cases r1
      cases r2
      cases (show v = Value.ref p from rx)
      cases (show u = Value.ref p2 from ry)
      exact PySem.W.eq_dictsT (n := 0) (e := fun _ => true) z1 z2 d1 d2 (fun k v y hm => absurd hm List.not_mem_nil) (by omega) ⟨.bl _, H, J, rfl, res_bool sub q⟩
theorem op_neP (hr : Room k X.A) : OpR X (compareOp .NotEq) (fun x y => rP X.K pNe [x, y]) := by
  intro pins s σ H x y v u Q J rx ry ⟨F, ds, sl, sub, r, e, q⟩
  obtain ⟨a, b, rfl, h1, h2⟩ := two_of r
  have e : (if eqOk a b then some (Slot.val (.bool (!PyData.eqv a b))) else dNe a b) = some sl := e
  split at e
  · rename_i ok
    cases e
    simp only [eqOk, Bool.and_eq_true, decide_eq_true_eq] at ok
    obtain ⟨as, k1⟩ := reads_of J sub h1 ok.1.1 rx
    obtain ⟨bs, k2⟩ := reads_of J sub h2 ok.1.2 ry
    have hu := hr.un
    exact SeqAt.ne_plain k1 k2 ok.1.1 ok.1.2 (by omega) ⟨.bl _, H, J, rfl, res_bool sub q⟩
  · have hu := hr.un
    rcases dNe_some e with ⟨kvs, i, rfl, rfl, rfl⟩ | ⟨c, d, rfl, rfl, pc, pd, dp, rfl⟩
    · obtain ⟨p, es, rfl, g, -⟩ := top_dict h1
      cases top_int h2
      obtain ⟨-, -, vs, -, o, ents, ep, g1, g2, g3, -⟩ := dk_rd J.hok g
      cases (show v = Value.ref p from rx)
      obtain ⟨t, rfl⟩ : ∃ t, u = .int i t := ry
      exact rcne_dict_int i t g1 g2 g3 (by omega) _ _ _ _ ⟨.bl _, H, J, rfl, res_bool sub q⟩
    · have two : ∀ {e : D} {x : V} {v : Value}, e.plain = true → RepT X.K F H (.list [e, .dict []]) x → RelV x v → ∃ l u as z, v = .ref l ∧ s.heap.IsList l #[u, .ref z] ∧ Reads s.heap u e as ∧ (z == sysModules) = false ∧ s.heap.DictOf (mixKind X.prog X.w) z [] := by
        intro e x v pe hx rv
        obtain ⟨l, vs, rfl, sq, rs⟩ := top_list hx
        rw [reps_cons] at rs
        obtain ⟨v1, r1, rfl, a1, rs⟩ := rs
        rw [reps_cons] at rs
        obtain ⟨v2, r2, rfl, a2, rs⟩ := rs
        rw [reps_nil] at rs
        subst rs
        cases (show v = Value.ref l from rv)
        obtain ⟨us, ru, p1, -⟩ := J.list sq
        cases ru with
        | cons q1 ru =>
          cases ru with
          | cons q2 ru =>
            cases ru
            rw [rep_dict] at a2
            obtain ⟨z, es, rfl, g, w⟩ := a2
            cases repk_nil.mp w
            obtain ⟨-, z1, ws, k1, d1⟩ := dk_rd J.hok (Rd.mono sub g)
            cases k1
            obtain ⟨as, k2⟩ := Dp.reads J e v1 _ (Rep.dp e v1 pe (Rep.mono sub e v1 a1)) q1
            cases (show _ = Value.ref z from q2)
            exact ⟨l, _, as, z, rfl, p1.isList, k2, z1, d1⟩
      obtain ⟨l1, u1, as1, z1, rfl, i1, k1, y1, d1⟩ := two pc h1 rx
      obtain ⟨l2, u2, as2, z2, rfl, i2, k2, y2, d2⟩ := two pd h2 ry
      refine (SeqAt.RcNeAt.lists (e := fun j => if j = 0 then PyData.eqv c d else true) i1 i2 rfl (by omega) fun j j1 j2 => ?_) X.prog X.w _ _ ?_
      · match j, j1 with
        | 0, _ => exact SeqAt.eqAt_plain c d _ _ _ _ _ _ k1 k2 pc pd (by show X.A.units + 1 + _ < _; omega)
        | 1, _ => exact eqAt_dict0 y1 y2 d1 d2 (by show X.A.units + 1 + 1 < _; omega)
      · have ev : (!(List.range (#[u1, Value.ref z1] : Array Value).size).all fun j => if j = 0 then PyData.eqv c d else true) = !PyData.eqv c d := by
          show (!(List.range 2).all _) = _
          simp [List.range_succ]
        rw [ev]
        exact ⟨.bl _, H, J, rfl, res_bool sub q⟩
end

/-! ### <, <=, >, >= -/
def ltOk (a b : D) : Bool := W.alike a b && (match a with | .none => false | _ => true) && decide (min a.depth b.depth ≤ 60)
def cmpP (fi : Int → Int → Bool) (fd : D → D → Bool) : List D → Option Slot
  | [.int i, .int j] => some (.val (.bool (fi i j)))
  | [a, b] => if ltOk a b && a.plain && b.plain then some (.val (.bool (fd a b))) else none
  | _ => none
def pLt := cmpP (fun i j => decide (i < j)) (fun a b => W.dataLt a b)
def pLe := cmpP (fun i j => decide (i ≤ j)) (fun a b => !W.dataLt b a)
def pGt := cmpP (fun i j => decide (j < i)) (fun a b => W.dataLt b a)
def pGe := cmpP (fun i j => decide (j ≤ i)) (fun a b => !W.dataLt a b)
section
variable {X : Cx} {k : Nat}
theorem op_cmpP {op : CmpOp} {fi : Int → Int → Bool} {fd : D → D → Bool} (hr : Room k X.A) (hi : OpR X (compareOp op) (rI0 fun i j => .bl (fi i j)))
    (hd : ∀ (s : Shared) (a b : Value) (da db : D) (as bs : List Addr) (Q : Value → Shared → Prop), Reads s.heap a da as → Reads s.heap b db bs → W.alike da db = true → da ≠ .none → X.A.units + min da.depth db.depth < cLine → Q (.bool (fd da db)) s → wpAny (model X.prog X.w) X.A (compareOp op a b) Q X.xe s) :
    OpR X (compareOp op) (fun x y => rP X.K (cmpP fi fd) [x, y]) := by
  intro pins s σ H x y v u Q J rx ry ⟨F, ds, sl, sub, r, e, q⟩
  obtain ⟨a, b, rfl, h1, h2⟩ := two_of r
  unfold cmpP at e
  split at e
  · rename_i heq
    cases heq
    cases e
    have e1 := top_int h1
    have e2 := top_int h2
    exact hi pins s σ H x y v u Q J rx ry ⟨_, _, e1, e2, res_bool sub q⟩
  · rename_i heq
    cases heq
    split at e
    · rename_i ok
      cases e
      simp only [ltOk, Bool.and_eq_true, decide_eq_true_eq] at ok
      obtain ⟨as, k1⟩ := reads_of J sub h1 ok.1.2 rx
      obtain ⟨bs, k2⟩ := reads_of J sub h2 ok.2 ry
      have hu := hr.un
      refine hd s v u _ _ as bs _ k1 k2 ok.1.1.1.1 (fun z => ?_) (by omega) ⟨.bl _, H, J, rfl, res_bool sub q⟩
      rw [z] at ok
      exact absurd ok.1.1.1.2 (by simp)
    · cases e
  · cases e
theorem op_ltP (hr : Room k X.A) : OpR X (compareOp .Lt) (fun x y => rP X.K pLt [x, y]) := op_cmpP hr op_lt fun _ _ _ _ _ _ _ _ h1 h2 h3 h4 h5 h6 => W.lt_data h1 h2 h3 h4 h5 h6
end

/-! ### in, not in -/
def keyOf : D → Option Key
  | .int i => some (.inl i)
  | .str x => some (.inr x)
  | _ => none
theorem keyOf_v {K : Fr0} {F : Hp} {d : D} {q : Key} {v : V} (h : Rep K F d v) (e : keyOf d = some q) : v = kV q := by
  cases d with
  | int i => cases e; rw [rep_int] at h; exact h
  | str x => cases e; rw [rep_str] at h; exact h
  | _ => cases e
def keyIs (d : D) (q : Key) : Bool := match d, q with
  | .int i, .inl j => decide (i = j)
  | .str x, .inr y => decide (x = y)
  | _, _ => false
theorem keyIs_kD {p q : Key} : keyIs (kD p) q = decide (p = q) := by cases p <;> cases q <;> simp [keyIs, kD]
/-- what a dict's data hold at a key -/
def dGet (kvs : List (D × D)) (q : Key) : Option D := (kvs.find? fun kv => keyIs kv.1 q).map (·.2)
theorem repk_get {K : Fr0} {F : Hp} : ∀ {kvs : List (D × D)} {es : List (Key × V)} (q : Key), RepK K F kvs es → (∃ d v, dGet kvs q = some d ∧ valV es q = some v ∧ Rep K F d v) ∨ (dGet kvs q = none ∧ valV es q = none)
  | [], es, q, h => by rw [repk_nil] at h; subst h; exact .inr ⟨rfl, rfl⟩
  | (k, d) :: kvs, es, q, h => by
    rw [repk_cons] at h
    obtain ⟨p, v, t, rfl, rfl, h1, h2⟩ := h
    by_cases e : p = q
    · exact .inl ⟨d, v, by simp [dGet, List.find?_cons, keyIs_kD, e], by rw [valV_pos (by exact e)], h1⟩
    · have e1 : dGet ((kD p, d) :: kvs) q = dGet kvs q := by simp [dGet, List.find?_cons, keyIs_kD, e]
      rw [e1, valV_neg (by exact e)]
      exact repk_get q h2
theorem keyOf_top {K : Fr0} {F H : Hp} {d : D} {q : Key} {v : V} (h : RepT K F H d v) (e : keyOf d = some q) : v = kV q := by
  cases d with
  | int i => cases e; rw [top_int h]; rfl
  | str i => cases e; rw [top_str h]; rfl
  | _ => cases e
/-- a look-up by values, from the data -/
theorem dget_of {K : Fr0} {F H : Hp} {kvs : List (D × D)} {d : D} {q : Key} {x y : V} (hd : RepT K F H (.dict kvs) x) (hk : RepT K F H d y) (e : keyOf d = some q) :
    ∃ a o, x = .ref a ∧ DGet H a y o ∧ ((∃ w v, dGet kvs q = some w ∧ o = some v ∧ Rep K F w v) ∨ (dGet kvs q = none ∧ o = none)) := by
  obtain ⟨a, es, rfl, h1, h2⟩ := top_dict hd
  refine ⟨a, valV es q, rfl, .inl ⟨es, q, h1, keyOf_top hk e, rfl⟩, ?_⟩
  exact repk_get q h2
def inOk (d : D) (ds : List D) : Bool := d.plain && PyData.plainAll ds && decide (min (PyData.depthAll ds) d.depth ≤ 60)
def hasD (d : D) (ds : List D) : Bool := ds.any fun y => PyData.eqv y d
def subStr (i j : Str) : Bool := !(Builtin.Str.occurrences j i 0 j.length 1).isEmpty
def inP (neg : Bool) : List D → Option Slot
  | [.str i, .str j] => some (.val (.bool (if neg then !subStr i j else subStr i j)))
  | [d, .list ds] => if inOk d ds then some (.val (.bool (if neg then !hasD d ds else hasD d ds))) else none
  | [d, .tuple ds] => if inOk d ds then some (.val (.bool (if neg then !hasD d ds else hasD d ds))) else none
  | [.none, .dict kvs] => some (.val (.bool neg))
  | [d, .dict kvs] => (keyOf d).map fun q => .val (.bool (if neg then !(dGet kvs q).isSome else (dGet kvs q).isSome))
  | _ => none
def pIn := inP false
def pNotIn := inP true
section
variable {X : Cx} {k : Nat}
theorem op_inP (hr : Room k X.A) : OpR X (compareOp .In) (fun x y => rP X.K pIn [x, y]) := by
  intro pins s σ H x y v u Q J rx ry ⟨F, ds, sl, sub, r, e, q⟩
  obtain ⟨a, b, rfl, h1, h2⟩ := two_of r
  unfold pIn inP at e
  have hu := hr.un
  split at e
  · rename_i heq
    cases heq
    cases e
    exact op_in_str pins s σ H x y v u Q J rx ry ⟨_, _, top_str h1, top_str h2, res_bool sub q⟩
  · rename_i heq
    cases heq
    split at e
    · rename_i ok
      cases e
      simp only [inOk, Bool.and_eq_true, decide_eq_true_eq] at ok
      obtain ⟨as, k1⟩ := reads_of J sub h1 ok.1.1 rx
      obtain ⟨bs, k2⟩ := reads_of J sub h2 (by simpa [PyData.plain] using ok.1.2) ry
      exact SeqAt.in_list_data k2 k1 ok.1.2 ok.1.1 (by omega) ⟨.bl _, H, J, rfl, res_bool sub q⟩
    · cases e
  · rename_i heq
    cases heq
    split at e
    · rename_i ok
      cases e
      simp only [inOk, Bool.and_eq_true, decide_eq_true_eq] at ok
      obtain ⟨as, k1⟩ := reads_of J sub h1 ok.1.1 rx
      obtain ⟨bs, k2⟩ := reads_of J sub h2 (by simpa [PyData.plain] using ok.1.2) ry
      exact SeqAt.in_tuple_data k2 k1 ok.1.2 ok.1.1 (by omega) ⟨.bl _, H, J, rfl, res_bool sub q⟩
    · cases e
  · rename_i kvs heq
    cases heq
    cases e
    obtain ⟨ad, es, rfl, g, w⟩ := top_dict h2
    cases ry
    have e0 := top_none h1
    subst e0
    cases rx
    exact d_inNone J g fun s' J' => ⟨.bl false, H, J', rfl, res_bool sub q⟩
  · rename_i dd kvs hne heq
    cases heq
    cases ek : keyOf a with
    | none => rw [ek] at e; cases e
    | some kq =>
      rw [ek] at e
      cases e
      obtain ⟨a, o, rfl, g, w⟩ := dget_of h2 h1 ek
      cases ry
      refine d_in (hu_of hr) J g rx fun s' J' => ⟨.bl (o.isSome), H, J', rfl, ?_⟩
      rcases w with ⟨w, v, e1, e2, _⟩ | ⟨e1, e2⟩ <;> rw [e2] <;> simp only [e1] at q <;> exact res_bool sub q
  · cases e
end

/-! ### is None -/
def isNone : D → Bool
  | .none => true
  | _ => false
def pIsN : List D → Option Slot
  | [a, .none] => some (.val (.bool (isNone a)))
  | _ => none
def pNotN : List D → Option Slot
  | [a, .none] => some (.val (.bool (!isNone a)))
  | _ => none
theorem isNone_iff {K : Fr0} {F H : Hp} {d : D} {v : V} (h : RepT K F H d v) : decide (v = .non) = isNone d := by
  cases d with
  | none => rw [top_none h]; rfl
  | bool b => rw [top_bool h]; rfl
  | int b => rw [top_int h]; rfl
  | str b => rw [top_str h]; rfl
  | list ds => obtain ⟨a, vs, rfl, _⟩ := top_list h; rfl
  | tuple ds => have h' : Rep K F (.tuple ds) v := h; rw [rep_tuple] at h'; obtain ⟨a, vs, rfl, _⟩ := h'; rfl
  | dict ds => obtain ⟨a, vs, rfl, _⟩ := h; rfl
section
variable {X : Cx}
theorem op_isNP : OpR X (compareOp .Is) (fun x y => rP X.K pIsN [x, y]) := by
  intro pins s σ H x y v u Q J rx ry ⟨F, ds, sl, sub, r, e, q⟩
  obtain ⟨a, b, rfl, h1, h2⟩ := two_of r
  unfold pIsN at e
  split at e
  · rename_i heq
    cases heq
    cases e
    exact op_isN pins s σ H x y v u Q J rx ry ⟨top_none h2, by rw [isNone_iff h1]; exact res_bool sub q⟩
  · cases e
end
end SD

set_option Elab.async false
set_option linter.all false
set_option autoImplicit false
set_option maxRecDepth 100000
set_option maxHeartbeats 4000000
/-! SD: a list told some times over. -/
namespace SD
open PySem PySem.Spec PyProof PyProof.Rows L2
theorem q_mulI (l : Addr) (items : Array Value) (n : Nat) (d : Option Addr) (sl : Array (Option Value)) (x : Int) (t : Tok) (hc0 : ¬(!Builtin.List.listFitsIndex x) = true)
    (hc1 : ¬items.size * x.toNat > (2 ^ 63 - 1) / 8) (hc2 : ¬Builtin.List.listTooLong (items.size * x.toNat) = true) :
    Meets (Builtin.«list.__mul__» ⟨[.ref l, .int x t], []⟩) (fun _ R s => s.heap.get? l = some { cls := .type "list", dict := d, data := .seq items n, slots := sl } ∧ R (.ok (.ret (Value.ref s.heap.objs.size))) { s with heap := s.heap.push { cls := Value.type "list", data := Data.seq (List.foldl (fun x1 x2 => x1 ++ x2) #[] (List.replicate (if items.isEmpty = true then 0 else x.toNat) items)) }, toks := s.toks }) :=
  .of_wp fun prog w A R s h => by
    obtain ⟨hp, g, dd, tk, os⟩ := s; obtain ⟨hl, h⟩ := h
    have hsz := AutoListH.joined_fits hc2
    wp_walk; refine wpAny_ite_false (decide_eq_false (Nat.not_lt.mpr hsz)) ?_; wp_walk; exact ⟨_, rfl, h⟩
theorem q_rmulI (a : Int) (t : Tok) (l : Addr) (items : Array Value) (n : Nat) (d : Option Addr) (sl : Array (Option Value)) :
    Meets (Builtin.«int.__rmul__» ⟨[.int a t, .ref l], []⟩) (fun _ R s => s.heap.get? l = some { cls := .type "list", dict := d, data := .seq items n, slots := sl } ∧ R (.ok (.ret Value.notImplemented)) s) :=
  .of_wp fun prog w A R s h => by obtain ⟨hp, g, dd, tk, os⟩ := s; obtain ⟨hl, h⟩ := h; wp_walk; exact ⟨_, rfl, h⟩
section
variable {X : Cx}
theorem vals_times {xs : List V} {its : List Value} (r : Vals xs its) : ∀ k : Nat, Vals (List.replicate k xs).flatten (List.replicate k its).flatten
  | 0 => .nil
  | k + 1 => by
    rw [List.replicate_succ, List.flatten_cons, List.replicate_succ, List.flatten_cons]
    exact r.append (vals_times r k)
theorem op_repL : OpR X (binaryOp .Mult) (fun x y H Q => ∃ a xs k, x = V.ref a ∧ y = V.int k ∧ SqL X.K H a xs ∧ 0 ≤ k ∧ k ≤ 4096 ∧ xs.length * k.toNat ≤ sizeLine ∧ ∀ p, H p = none → Q (.ref p) (upd H p (.lst (List.replicate k.toNat xs).flatten))) := by
  intro pins s σ H x y v u Q I rx ry h
  obtain ⟨a, xs, k, rfl, rfl, hs, h1, h2, hz, q⟩ := h
  obtain rfl : v = Value.ref a := rx
  obtain ⟨t, rfl⟩ := ry
  obtain ⟨its, rv, ⟨⟨cls, dd, data, sl⟩, n, ho, hc, hdn, hd⟩, hlen⟩ := I.list hs
  have hc1 : cls = Value.type "list" := hc
  have hd1 : data = Data.seq its.toArray n := hd
  subst hc1 hd1
  have hsl := sizeLine_eq
  have hle : its.length = xs.length := rv.length.symm
  have hm : its.toArray.size * k.toNat ≤ sizeLine := by rw [List.size_toArray, hle]; exact hz
  have hcap : ¬ its.toArray.size * k.toNat > (2 ^ 63 - 1) / 8 := by omega
  have hfit : ¬ (!Builtin.List.listFitsIndex k) = true := by
    rw [fitsIndex_both (by omega) (by omega)]
    exact Bool.false_ne_true
  have hlong : ¬ Builtin.List.listTooLong (its.toArray.size * k.toNat) = true := by
    rw [notLongL hm]
    exact Bool.false_ne_true
  refine wpAny_binaryOp_repeat_ref (T := "list") (U := "int") (by decide) ⟨_, ho, rfl⟩ (fun s' => typeIs_int s' k t) noFill_list_mul F.fills_int_mul F.slot_int_rmul repeat_list F.slot_int_index.lookup
    (call_meets F.slot_int_rmul (typeIs_int s k t) F.entry_int_rmul (F.args_int_rmul_2 _ _) (q_rmulI k t a its.toArray n dd sl)
      ⟨ho, rfl, ⟨_, ho, rfl⟩, call_meets F.slot_list_mul ⟨_, ho, rfl⟩ F.entry_list_mul (F.args_list_mul_2 _ _)
        (q_mulI a its.toArray n dd sl k t hfit hcap hlong)
        ⟨ho, ?_⟩⟩)
  have hnew : List.foldl (fun x1 x2 => x1 ++ x2) #[] (List.replicate (if its.toArray.isEmpty = true then 0 else k.toNat) its.toArray) = (List.replicate k.toNat its).flatten.toArray := by
    have f0 : ∀ m : Nat, List.foldl (fun x1 x2 => x1 ++ x2) #[] (List.replicate m its.toArray) = (List.replicate m its).flatten.toArray := fun m => by
      have := foldl_rep its m []
      rw [List.nil_append] at this
      exact this
    rw [f0]
    cases its with
    | nil => simp
    | cons a r' => rw [if_neg (by simp)]
  rw [hnew]
  exact ⟨.ref _, _, I.lnew (t' := s.toks) (vals_times rv k.toNat) (by rw [PyProof.Rows.lm_len_rep_flat]; rw [Nat.mul_comm]; exact hz), rfl, q _ I.fresh⟩
theorem reps_times {K : PySem.W.Frag} {F : Hp} {ds : List D} {vs : List V} (r : Reps K F ds vs) : ∀ k : Nat, Reps K F (List.replicate k ds).flatten (List.replicate k vs).flatten
  | 0 => by simp [reps_nil]
  | k + 1 => by
    rw [List.replicate_succ, List.flatten_cons, List.replicate_succ, List.flatten_cons]
    exact r.append (reps_times r k)
end
end SD

set_option Elab.async false
set_option linter.all false
set_option autoImplicit false
set_option maxRecDepth 100000
set_option maxHeartbeats 4000000
/-! SD, part J: arithmetic, places, slices, built-in functions, methods of texts. -/
namespace SD
open PySem PySem.Spec PyProof.Rows L2

/-! ### + - * // % ** -/
def pAdd : List D → Option Slot
  | [.int i, .int j] => some (.val (.int (i + j)))
  | [.str a, .str b] => if lineOk (a.length + b.length) then some (.val (.str (a ++ b))) else none
  | [.list a, .list b] => if lineOk (a.length + b.length) then some (.lst (a ++ b)) else none
  | [.tuple a, .tuple b] => if lineOk (a.length + b.length) then some (.val (.tuple (a ++ b))) else none
  | _ => none
def pSub : List D → Option Slot
  | [.int i, .int j] => some (.val (.int (i - j)))
  | _ => none
instance (i j : Int) : Decidable (CMul i j) := by unfold CMul; infer_instance
instance (i j : Int) : Decidable (CDivW i j) := by unfold CDivW; infer_instance
instance (i j : Int) : Decidable (CMulW i j) := by unfold CMulW; infer_instance
instance (i j : Int) : Decidable (CPow i j) := by unfold CPow; infer_instance
def CMulA (i j : Int) : Prop := (Builtin.Int.intBits i : Int) + (Builtin.Int.intBits j : Int) ≤ 134217728
instance {i j : Int} : Decidable (CMulA i j) := inferInstanceAs (Decidable (_ ≤ _))
def pMul : List D → Option Slot
  | [.int i, .int j] => if CMul i j ∨ CMulA i j then some (.val (.int (i * j))) else none
  | [.str a, .int n] => if a.length ≤ 4096 ∧ -4096 ≤ n ∧ n ≤ 4096 then some (.val (.str (Txt.mul a n))) else none
  | [.list a, .int n] => if 0 ≤ n ∧ n ≤ 4096 ∧ lineOk (a.length * n.toNat) then some (.lst (List.replicate n.toNat a).flatten) else none
  | _ => none
def pDiv : List D → Option Slot
  | [.int i, .int j] => if CDivW i j then some (.val (.int (i / j))) else none
  | _ => none
def pMod : List D → Option Slot
  | [.int i, .int j] => if 0 < j then some (.val (.int (i % j))) else none
  | _ => none
def pPow : List D → Option Slot
  | [.int i, .int j] => if CPow i j then some (.val (.int (i ^ j.toNat))) else none
  | _ => none
def pNeg : List D → Option Slot
  | [.int i] => some (.val (.int (-i)))
  | _ => none
section
variable {X : Cx} {k : Nat}
/-- two lists, as they are to be read -/
theorem op_catL : OpR X (binaryOp .Add) (fun x y H Q => ∃ l b xs zs, x = .ref l ∧ y = .ref b ∧ SqL X.K H l xs ∧ SqL X.K H b zs ∧ xs.length + zs.length ≤ sizeLine ∧ ∀ p, H p = none → Q (.ref p) (upd H p (.lst (xs ++ zs)))) := by
  intro pins s σ H x y v u Q J rx ry h
  obtain ⟨l, b, xs, zs, rfl, rfl, hH, hB, hz, q⟩ := h
  cases rx
  cases ry
  obtain ⟨its, r, p1, _⟩ := J.list hH
  obtain ⟨its2, r2, p2, _⟩ := J.list hB
  obtain ⟨⟨cls, dd, data, sl⟩, ho, hc, n, hd⟩ := p1.isList
  obtain ⟨⟨cls2, dd2, data2, sl2⟩, ho2, hc2, n2, hd2⟩ := p2.isList
  simp only at hc hd hc2 hd2
  subst hc hd hc2 hd2
  have e : its.toArray ++ its2.toArray = (its ++ its2).toArray := by simp
  refine concat_meets ⟨_, ho, rfl⟩ ⟨_, ho2, rfl⟩ noFill_list_add seq_list_add PySem.F.slot_list_add PySem.F.entry_list_add (PySem.F.args_list_add_2 _ _) (list_addW l b its.toArray its2.toArray n n2 dd dd2 sl sl2 (by simp only [List.size_toArray]; rw [← r.length, ← r2.length]; exact hz)) ⟨ho, ho2, ?_⟩
  rw [e]
  exact ⟨.ref _, _, J.lnew (t' := s.toks) (r.append r2) (by rw [List.length_append]; exact hz), rfl, q _ J.fresh⟩
theorem op_addP : OpR X (binaryOp .Add) (fun x y => rP X.K pAdd [x, y]) := by
  intro pins s σ H x y v u Q J rx ry ⟨F, ds, sl, sub, r, e, q⟩
  obtain ⟨a, b, rfl, h1, h2⟩ := two_of r
  unfold pAdd at e
  split at e
  · rename_i heq; cases heq; cases e
    exact op_add pins s σ H x y v u Q J rx ry ⟨_, _, top_int h1, top_int h2, res_int sub q⟩
  · rename_i heq; cases heq
    split at e
    · rename_i hl; cases e
      exact op_add_str pins s σ H x y v u Q J rx ry ⟨_, _, top_str h1, top_str h2, lineOk_line hl, res_str sub q⟩
    · cases e
  · rename_i heq; cases heq
    split at e
    · rename_i hl; cases e
      obtain ⟨a, vs, rfl, s1, r1⟩ := top_list h1
      obtain ⟨b, ws, rfl, s2, r2⟩ := top_list h2
      exact op_catL pins s σ H _ _ v u Q J rx ry ⟨a, b, vs, ws, rfl, rfl, s1, s2, by rw [← r1.length, ← r2.length]; exact lineOk_line hl, fun p np => q _ _ _ (.lst sub (r1.append r2) np)⟩
    · cases e
  · rename_i da db heq; cases heq
    split at e
    · rename_i hl; cases e
      have h1' : Rep X.K F (.tuple da) x := h1
      have h2' : Rep X.K F (.tuple db) y := h2
      obtain ⟨a, vs, rfl, s1, r1⟩ := top_tuple sub h1
      obtain ⟨b, ws, rfl, s2, r2⟩ := top_tuple sub h2
      have l1 := r1.length
      have l2 := r2.length
      refine op_catA pins s σ H _ _ v u Q J rx ry ⟨a, b, vs, ws, rfl, rfl, s1, s2, by rw [← l1, ← l2]; exact lineOk_line hl, fun e => ?_, fun e1 e2 => ?_, fun e1 e2 p np => q _ _ _ (.tup sub (r1.append r2) np)⟩
      · have e0 : da = [] := List.length_eq_zero_iff.mp (by rw [l1, e]; rfl)
        subst e0
        exact q F H _ (.val sub h2')
      · have e0 : db = [] := List.length_eq_zero_iff.mp (by rw [l2, e2]; rfl)
        subst e0
        exact q F H _ (.val sub (by rw [List.append_nil]; exact h1'))
    · cases e
  · cases e
theorem op_subP : OpR X (binaryOp .Sub) (fun x y => rP X.K pSub [x, y]) := by
  intro pins s σ H x y v u Q J rx ry ⟨F, ds, sl, sub, r, e, q⟩
  obtain ⟨a, b, rfl, h1, h2⟩ := two_of r
  unfold pSub at e
  split at e
  · rename_i heq; cases heq; cases e
    exact op_sub pins s σ H x y v u Q J rx ry ⟨_, _, top_int h1, top_int h2, res_int sub q⟩
  · cases e
theorem op_mulP : OpR X (binaryOp .Mult) (fun x y => rP X.K pMul [x, y]) := by
  intro pins s σ H x y v u Q J rx ry ⟨F, ds, sl, sub, r, e, q⟩
  obtain ⟨a, b, rfl, h1, h2⟩ := two_of r
  unfold pMul at e
  split at e
  · rename_i heq; cases heq
    split at e
    · rename_i hl; cases e
      rcases hl with hl | hl
      · exact op_mul pins s σ H x y v u Q J rx ry ⟨_, _, top_int h1, top_int h2, hl, res_int sub q⟩
      · exact op_mulX pins s σ H x y v u Q J rx ry ⟨_, _, top_int h1, top_int h2, hl, res_int sub q⟩
    · cases e
  · rename_i heq; cases heq
    split at e
    · rename_i hl; cases e
      obtain rfl := top_str h1
      obtain rfl := top_int h2
      obtain ⟨t, rfl⟩ := rx
      obtain ⟨t', rfl⟩ := ry
      exact SB.mul (mulOk_of 4096 4096 hl.1 hl.2.2 (by omega) (by decide) (by decide)) fun t' k => ⟨.str _, H, J.tok _, ⟨_, rfl⟩, res_str sub q⟩
    · cases e
  · rename_i heq; cases heq
    split at e
    · rename_i hl; cases e
      obtain ⟨a, vs, rfl, s1, r1⟩ := top_list h1
      obtain rfl := top_int h2
      exact op_repL pins s σ H _ _ v u Q J rx ry ⟨a, vs, _, rfl, rfl, s1, hl.1, hl.2.1, by rw [← r1.length]; exact lineOk_line hl.2.2, fun p np => q _ _ _ (.lst sub (reps_times r1 _) np)⟩
    · cases e
  · cases e
theorem op_divP : OpR X (binaryOp .FloorDiv) (fun x y => rP X.K pDiv [x, y]) := by
  intro pins s σ H x y v u Q J rx ry ⟨F, ds, sl, sub, r, e, q⟩
  obtain ⟨a, b, rfl, h1, h2⟩ := two_of r
  unfold pDiv at e
  split at e
  · rename_i heq; cases heq
    split at e
    · rename_i hl; cases e
      exact op_fdivW pins s σ H x y v u Q J rx ry ⟨_, _, top_int h1, top_int h2, hl, res_int sub q⟩
    · cases e
  · cases e
theorem op_modP : OpR X (binaryOp .Mod) (fun x y => rP X.K pMod [x, y]) := by
  intro pins s σ H x y v u Q J rx ry ⟨F, ds, sl, sub, r, e, q⟩
  obtain ⟨a, b, rfl, h1, h2⟩ := two_of r
  unfold pMod at e
  split at e
  · rename_i heq; cases heq
    split at e
    · rename_i hl; cases e
      exact op_mod pins s σ H x y v u Q J rx ry ⟨_, _, top_int h1, top_int h2, hl, res_int sub q⟩
    · cases e
  · cases e
theorem op_powP : OpR X (binaryOp .Pow) (fun x y => rP X.K pPow [x, y]) := by
  intro pins s σ H x y v u Q J rx ry ⟨F, ds, sl, sub, r, e, q⟩
  obtain ⟨a, b, rfl, h1, h2⟩ := two_of r
  unfold pPow at e
  split at e
  · rename_i heq; cases heq
    split at e
    · rename_i hl; cases e
      exact op_pow pins s σ H x y v u Q J rx ry ⟨_, _, top_int h1, top_int h2, hl, res_int sub q⟩
    · cases e
  · cases e
theorem un_negP : UnR X (unaryOp .USub) (fun x => rP X.K pNeg [x]) := by
  intro pins s σ H x v Q J rx ⟨F, ds, sl, sub, r, e, q⟩
  obtain ⟨a, rfl, h1⟩ := one_of r
  unfold pNeg at e
  split at e
  · rename_i heq; cases heq; cases e
    exact un_neg pins s σ H x v Q J rx ⟨_, top_int h1, res_int sub q⟩
  · cases e
end

/-! ### places -/
def pIx : List D → Option Slot
  | [.list ds, .int i] => (atI ds i).map .val
  | [.tuple ds, .int i] => (atI ds i).map .val
  | [.str z, .int i] => if lineOk z.length then (atI z.cps.toList i).map fun c => .val (.str ⟨#[c]⟩) else none
  | [.dict kvs, k] => (keyOf k).bind fun q => (dGet kvs q).map .val
  | _ => none
theorem reps_atI {K : Fr0} {F : Hp} {ds : List D} {vs : List V} {i : Int} {d : D} (r : Reps K F ds vs) (e : atI ds i = some d) : ∃ v, atI vs i = some v ∧ Rep K F d v := by
  unfold atI at e ⊢
  rw [← r.length]
  cases q : ixN ds.length i with
  | none => rw [q] at e; cases e
  | some j =>
    rw [q] at e
    exact r.get e
/-- d[k] by values -/
theorem ix_dict {X : Cx} (hu : X.A.units + 1 < cLine) : IxR X (fun x y H Q => ∃ a v, x = .ref a ∧ DGet H a y (some v) ∧ Q v H) := by
  intro value slice pins s σ H x y v u Q J rx ry ⟨a, w, ex, g, q⟩ hs
  subst ex
  cases rx
  have hT := dict_typeIs J g
  unfold subscriptTail
  refine wpAny_bind ?_
  have nm := hT.not_modules
  rw [getitemInPython_of_ne nm]
  refine wpAny_bind (wpAny_specialOf hT PySem.F.slot_dict_getitem.lookup ?_)
  have fin : wpAny (model X.prog X.w) X.A (subscripted slice false (.ref a) u) (fun r s₃ => wpAny (model X.prog X.w) X.A (letTemporaryGo value (.ref a) r >>= fun _ => pure r) (EP X pins σ Q) X.xe s₃) X.xe s := by
    rw [hs]
    exact wpAny_operating (wpAny_mono (d_getItem hu J g ry fun w' s3 I3 rw' => ⟨w, H, I3, rw', q⟩) (fun r s₃ h₃ => wpAny_bind (wpAny_letTemporaryGo (wpAny_pure h₃))) fun _ _ x => x)
  first | exact wpAny_pure (wpAny_bind fin) | exact wpAny_bind (wpAny_pure (wpAny_bind fin)) | exact wpAny_bind fin
section
variable {X : Cx} {k : Nat}
theorem ix_P (hr : Room k X.A) : IxR X (fun x y => rP X.K pIx [x, y]) := by
  intro va sx pins s σ H x y v u Q J rx ry ⟨F, ds, sl, sub, r, e, q⟩ hs
  obtain ⟨a, b, rfl, h1, h2⟩ := two_of r
  unfold pIx at e
  split at e
  · rename_i ds i heq; cases heq
    cases e2 : atI ds i with
    | none => rw [e2] at e; cases e
    | some d =>
      rw [e2] at e; cases e
      obtain ⟨a, vs, rfl, s1, r1⟩ := top_list h1
      obtain ⟨w, ew, rw'⟩ := reps_atI r1 e2
      exact ix_list va sx pins s σ H _ y v u Q J rx ry ⟨a, vs, i, w, rfl, top_int h2, s1, ew, q F H w (.val sub rw')⟩ hs
  · rename_i ds i heq; cases heq
    cases e2 : atI ds i with
    | none => rw [e2] at e; cases e
    | some d =>
      rw [e2] at e; cases e
      obtain ⟨a, vs, rfl, s1, r1⟩ := top_tuple sub h1
      obtain ⟨w, ew, rw'⟩ := reps_atI r1 e2
      exact ix_tup va sx pins s σ H _ y v u Q J rx ry ⟨a, vs, i, w, rfl, top_int h2, s1, ew, q F H w (.val sub rw')⟩ hs
  · rename_i z i heq; cases heq
    split at e
    · rename_i hl
      cases e2 : atI z.cps.toList i with
      | none => rw [e2] at e; cases e
      | some c =>
        rw [e2] at e; cases e
        exact ix_str va sx pins s σ H x y v u Q J rx ry ⟨z, i, c, top_str h1, top_int h2, lineOk_line hl, e2, res_str sub q⟩ hs
    · cases e
  · rename_i kvs kd heq; cases heq
    cases ek : keyOf b with
    | none => rw [ek] at e; cases e
    | some kq =>
      obtain ⟨a, o, rfl, g, w⟩ := dget_of h1 h2 ek
      rcases w with ⟨w, z, e1, e2, rw'⟩ | ⟨e1, e2⟩
      · rw [ek] at e
        simp only [Option.bind, e1, Option.map] at e
        cases e
        subst e2
        exact ix_dict (hu_of hr) va sx pins s σ H _ y v u Q J rx ry ⟨a, z, rfl, g, q F H z (.val sub rw')⟩ hs
      · rw [ek] at e
        simp only [Option.bind, e1, Option.map] at e
        cases e
  · cases e
end

/-! ### slices -/
/-- a slice's part: left out, or an argument -/
inductive PE' where
  | no
  | a (x : AE)
def sIx := HT.sIx
def cutD (ds : List D) (lo hi : Option Int) : List D := (ds.drop (HT.sIx ds.length 0 lo)).take (HT.sIx ds.length ds.length hi - HT.sIx ds.length 0 lo)
def pSl (lo hi : Option Int) : D → Option Slot
  | .list ds => some (.lst (cutD ds lo hi))
  | .tuple ds => some (.val (.tuple (cutD ds lo hi)))
  | .str z => if lineOk z.length then some (.val (.str (cutS z lo hi))) else none
  | _ => none
theorem reps_cut {K : Fr0} {F : Hp} {ds : List D} {vs : List V} (r : Reps K F ds vs) (lo hi : Option Int) : Reps K F (cutD ds lo hi) (cutV vs lo hi) := by
  unfold cutD cutV
  rw [← r.length]
  exact (r.drop _).take _
section
variable {X : Cx}
def rSlP (K : Fr0) : V → Option Int → Option Int → Hp → VK → Prop := fun x lo hi H Q => ∃ F d s, Same F H ∧ RepT K F H d x ∧ pSl lo hi d = some s ∧ ∀ F' H' v, Res1 K F H F' H' s v → Q v H'
theorem sl_P : SlR X (rSlP X.K) := by
  intro pins s σ H x v vl vu lo hi slc Q J rx hs pl pu ⟨F, d, sl, sub, r, e, q⟩
  unfold pSl at e
  split at e
  · cases e
    obtain ⟨a, vs, rfl, s1, r1⟩ := top_list r
    exact sl_list pins s σ H _ v vl vu lo hi slc Q J rx hs pl pu ⟨a, vs, rfl, s1, fun p np => q _ _ _ (.lst sub (reps_cut r1 lo hi) np)⟩
  · rename_i ds
    cases e
    have r' : Rep X.K F (.tuple ds) x := r
    obtain ⟨a, vs, rfl, s1, r1⟩ := top_tuple sub r
    refine sl_tupA pins s σ H _ v vl vu lo hi slc Q J rx hs pl pu ⟨a, vs, rfl, s1, fun h => ?_, fun _ p np => q _ _ _ (.tup sub (reps_cut r1 lo hi) np)⟩
    refine q F H _ (.val sub ?_)
    have : cutD ds lo hi = ds := by
      unfold cutD
      rw [← r1.length] at h
      rw [h.1, h.2, List.drop_zero, Nat.sub_zero, List.take_length]
    rw [this]
    exact r'
  · split at e
    · rename_i hl; cases e
      exact sl_str pins s σ H x v vl vu lo hi slc Q J rx hs pl pu ⟨_, top_str r, lineOk_line hl, res_str sub q⟩
    · cases e
  · cases e
end
/-- a[lo:hi] -/
def partI : Option AE → M (Option Int)
  | none => fun ρ => .ok none ρ
  | some a => fun ρ => (evA a ρ).bind fun g ρ' => match (g.slot ρ').data with
    | some (.int i) => .ok (some i) ρ'
    | _ => .bad
def mSlice (a : AE) (lo hi : Option AE) : M Slot := fun ρ => (evA a ρ).bind fun g ρ1 => (partI lo ρ1).bind fun l ρ2 => (partI hi ρ2).bind fun h ρ3 => match (g.slot ρ3).data.bind (pSl l h) with
  | some s => .ok s ρ3
  | none => .bad
section
variable {X : Cx} {W : WX} {I : ExI}
structure CP (X : Cx) (W : WX) (I : ExI) (a : Option AE) (e : Option Expr) : Prop where
  run : ∃ t, PO X e t ∧ ∀ (F H : Hp) (ρ : En) (σ : St) (Q : Option Int → Hp → Prop), Rp X.K F H ρ σ →
    (partI a ρ).sat (fun o ρ' => ∀ F' H', PostB X.K F H ρ σ F' H' ρ' → Q o H') (XC X W I F H (OwnE H ρ σ) σ) → t σ H Q
theorem cp_none : CP X W I none none := ⟨_, po_none, fun F H ρ σ Q R z => z F H (PostB.refl R)⟩
theorem post_argB {K : Fr0} {F H F' H' : Hp} {ρ ρ' : En} {σ : St} {g : Arg} {v : V} (P : Post K F H ρ σ F' H' ρ' g v) : PostB K F H ρ σ F' H' ρ' := ⟨P.rp, P.ext.weak (fun _ h => h) fun q h => .inl (.inr h)⟩
theorem cp_some {a : AE} {e : Expr} (h : CA X W I a e) : CP X W I (some a) (some e) := by
  obtain ⟨t, h1, q⟩ := h.run
  refine ⟨_, po_some h1, fun F H ρ σ Q R z => q F H ρ σ _ R ?_⟩
  unfold partI at z
  rw [Out.sat_bind] at z
  refine Out.sat_mono z (fun g ρ' _ y F' H' v P => ?_) fun _ _ y => y
  split at y
  · rename_i i ei
    exact ⟨i, top_int (arg_top P.rp P.ok ei), y F' H' (post_argB P)⟩
  · exact y.elim
theorem ce_slice {a : AE} {lo hi : Option AE} {ea : Expr} {elo ehi : Option Expr} {p2 pos : Pos} (ha : CA X W I a ea) (hl : CP X W I lo elo) (hh : CP X W I hi ehi) : CE X W I (mSlice a lo hi) (.Subscript ea (.Slice elo ehi none p2) pos) := by
  obtain ⟨t, h1, q1⟩ := ha.run
  obtain ⟨tl, h2, q2⟩ := hl.run
  obtain ⟨th, h3, q3⟩ := hh.run
  refine ce_mk (pe_slice sl_P h1 h2 h3) fun F H ρ σ Q R z => ?_
  unfold mSlice at z
  rw [Out.sat_bind] at z
  refine q1 F H ρ σ _ R (Out.sat_mono z (fun g ρ1 _ y F1 H1 v P => ?_) fun _ _ y => y)
  rw [Out.sat_bind] at y
  have PB := post_argB P
  refine q2 F1 H1 ρ1 σ _ P.rp (Out.sat_mono y (fun l ρ2 _ y2 F2 H2 P2 => ?_) fun _ _ y2 => XC.step y2 P.ext fun q h => .inr h)
  rw [Out.sat_bind] at y2
  refine q3 F2 H2 ρ2 σ _ P2.rp (Out.sat_mono y2 (fun h ρ3 _ y3 F3 H3 P3 => ?_) fun _ _ y3 => XC.step (XC.step y3 P.ext fun q h => .inr h) P2.ext fun q h => h)
  have P4 := P2.after P3
  -- the value stands as it stood
  have ok3 : ArgOk X.K F3 H3 ρ3 σ g v := P.ok.ext P4.ext fun _ h => h
  have PL : PostL X.K F H ρ σ F3 H3 ρ3 [g] [v] := by
    refine ⟨P4.rp, ⟨ok3, fun q _ z => z, trivial⟩, P.ext.trans (P4.ext.weak (fun q h => .inr h) fun q h => ?_)⟩
    rcases h with h | h
    · exact .inr (h.elim (fun h => .inl ((P.ok.extG P4.ext).mp h)) fun z => z.elim)
    · exact .inl h
  cases ed : (g.slot ρ3).data with
  | none => rw [ed] at y3; exact y3.elim
  | some d =>
    cases es : pSl l h d with
    | none => simp only [ed, Option.bind, es] at y3; exact y3.elim
    | some s =>
      simp only [ed, Option.bind, es] at y3
      exact ⟨F3, d, s, P4.rp.sub, arg_top P4.rp ok3 ed, es, fun F' H' v' r => y3 F' H' v' (prim_post PL r)⟩
end
end SD

set_option Elab.async false
set_option linter.all false
set_option autoImplicit false
set_option maxRecDepth 100000
set_option maxHeartbeats 4000000
/-! SD, part eK: tuple(d), list(d), by values. -/
namespace SD
open PySem PySem.Spec PyProof.Rows L2
section
variable {prog : Program} {w : World} {A : Around} {E : Value → Shared → Prop} {s : Shared} {r d : Addr} {n : Nat} {P : Nat → Value → Prop} {OK : Heap → Prop} {T : String}
end
/-- a dict's keys as data -/
theorem repk_keys {K : Fr0} {F : Hp} : ∀ {kvs : List (D × D)} {es : List (Key × V)}, RepK K F kvs es → kvs.map (·.1) = es.map (fun kv => kD kv.1) ∧ Reps K F (kvs.map (·.1)) (es.map fun kv => kV kv.1)
  | [], es, h => by rw [repk_nil] at h; subst h; exact ⟨rfl, by rw [List.map_nil, List.map_nil, reps_nil]⟩
  | (k, d) :: kvs, es, h => by
    rw [repk_cons] at h
    obtain ⟨p, v, t, rfl, rfl, h1, h2⟩ := h
    obtain ⟨a, b⟩ := repk_keys h2
    refine ⟨by simp [a], ?_⟩
    rw [List.map_cons, List.map_cons, reps_cons]
    refine ⟨_, _, rfl, ?_, b⟩
    cases p with
    | inl i => rw [show kD (.inl i) = PyData.int i from rfl, rep_int]; rfl
    | inr x => rw [show kD (.inr x) = PyData.str x from rfl, rep_str]; rfl
/-! ### the sorted list is the only one -/
theorem sortU {α : Type} (T : α → D) {ys ks : List α} (hp : ys.Perm ks) (hs : ys.Pairwise fun a b => W.dataLt (T b) (T a) = false) (anti : ∀ a b, W.dataLt (T b) (T a) = false → W.dataLt (T a) (T b) = false → a = b) :
    ys.map T = (ks.map T).mergeSort (W.dataLe false id) := by
  have e1 : (ks.map T).mergeSort (W.dataLe false id) = (ks.mergeSort fun a b => W.dataLe false id (T a) (T b)).map T :=
    (List.map_mergeSort (r := fun a b => W.dataLe false id (T a) (T b)) (s := W.dataLe false id) (f := T) (fun _ _ _ _ => rfl)).symm
  rw [e1]
  have tot := W.sortLe_total (listOrd itemOrd) false (fun d : D => W.keyToks d)
  have dl : ∀ a b : α, W.dataLe false id (T a) (T b) = !W.dataLt (T b) (T a) := fun a b => rfl
  have sp : (ks.mergeSort fun a b => W.dataLe false id (T a) (T b)).Pairwise fun a b => W.dataLe false id (T a) (T b) = true :=
    List.pairwise_mergeSort (le := fun a b => W.dataLe false id (T a) (T b)) (fun a b c h1 h2 => tot.trans _ _ _ h1 h2) (fun a b => by
      rcases tot.total (T a) (T b) with h | h
      · simp only [show W.dataLe false id (T a) (T b) = true from h, Bool.true_or]
      · simp only [show W.dataLe false id (T b) (T a) = true from h, Bool.or_true]) ks
  congr 1
  refine List.Perm.eq_of_pairwise (le := fun a b => W.dataLt (T b) (T a) = false) (fun a b _ _ h1 h2 => anti a b h1 h2) hs (sp.imp fun {a b} h => ?_) (hp.trans (List.mergeSort_perm _ _).symm)
  rw [dl, Bool.not_eq_true'] at h
  exact h
theorem rising_pair : ∀ (p : Str) (l : List Str), risingS p l = true → (∀ y ∈ l, ltCps y.cps.toList p.cps.toList = false) ∧ l.Pairwise fun a b => ltCps b.cps.toList a.cps.toList = false
  | p, [], _ => ⟨(fun _ h => nomatch h), List.Pairwise.nil⟩
  | p, x :: l, h => by
    simp only [risingS, Bool.and_eq_true, Bool.not_eq_true'] at h
    obtain ⟨a, b⟩ := rising_pair x l h.2
    refine ⟨fun y hy => ?_, List.Pairwise.cons a b⟩
    rcases List.mem_cons.mp hy with rfl | hy
    · exact h.1
    · have h1 := a y hy
      have h2 := h.1
      rw [ltCps_eq] at h1 h2 ⊢
      simp only [decide_eq_false_iff_not, List.not_lt] at h1 h2 ⊢
      exact List.le_trans h2 h1
theorem sortS_pair {l : List Str} (h : sortedS l = true) : l.Pairwise fun a b => ltCps b.cps.toList a.cps.toList = false := by
  cases l with
  | nil => exact .nil
  | cons x l => obtain ⟨a, b⟩ := rising_pair x l h; exact .cons a b
theorem sortU_str {ys ks : List Str} (hp : ys.Perm ks) (h : sortedS ys = true) : ys.map PyData.str = (ks.map PyData.str).mergeSort (W.dataLe false id) := by
  refine sortU PyData.str hp ((sortS_pair h).imp fun {a b} e => ?_) fun a b h1 h2 => ?_
  · rw [ltCps_eq] at e
    rw [W.dataLt_str, e]
  · rw [W.dataLt_str] at h1 h2
    simp only [decide_eq_false_iff_not, List.not_lt] at h1 h2
    exact W.str_of_cps (List.le_antisymm h1 h2)
theorem sortU_int {ys ks : List Int} (hp : ys.Perm ks) (h : ys.Pairwise (· ≤ ·)) : ys.map PyData.int = (ks.map PyData.int).mergeSort (W.dataLe false id) := by
  refine sortU PyData.int hp (h.imp fun {a b} e => ?_) fun a b h1 h2 => ?_
  · rw [W.dataLt_int]; simp; exact e
  · rw [W.dataLt_int] at h1 h2
    simp at h1 h2
    omega
end SD

set_option Elab.async false
set_option linter.all false
set_option autoImplicit false
set_option maxRecDepth 100000
set_option maxHeartbeats 4000000
/-! SD, part K: built-in functions, methods of texts, chains of comparisons, dicts written, lists changed. -/
namespace SD
open PySem PySem.Spec PyProof.Rows L2
section
variable {X : Cx} {W : WX} {I : ExI} {as : List AE} {a b c : AE} {e ea eb ec : Expr} {es : List Expr} {p : List D → Option Slot} {bid T : String} {x : Str} {pp pos apos : Pos}
theorem ce_callB (hc : CallR X (.builtin bid) (rP X.K p)) (hg : Gl X x) (hm : X.mg x = none) (hv : bootBuiltins x = some (.builtin bid)) (ha : CAs X W I as (e :: es)) (hn : x ≠ "__name__" := by decide) (hdb : (x == ("__debug__" : Str)) = false := by decide)
    (he : starEach (e :: es) X.env = (false, eval e X.env) :: starEach es X.env := by rfl) (hpl : (backTo pos (starEach es X.env)).any (·.1) = false := by rfl) : CE X W I (mPrim p as) (.Call (.Name x pp) (e :: es) [] pos) := by
  obtain ⟨t, h1, q⟩ := ha.run
  exact ce_mk (pe_callB hc hg hm hv h1 hn hdb he hpl) fun F H ρ σ Q R z => q F H ρ σ _ R (prim_sat' z)
theorem ce_callTy (hc : CallR X (.type T) (rP X.K p)) (hg : Gl X x) (hm : X.mg x = none) (hv : bootBuiltins x = some (.type T)) (ha : CAs X W I as (e :: es)) (hn : x ≠ "__name__" := by decide) (hdb : (x == ("__debug__" : Str)) = false := by decide)
    (he : starEach (e :: es) X.env = (false, eval e X.env) :: starEach es X.env := by rfl) (hpl : (backTo pos (starEach es X.env)).any (·.1) = false := by rfl) : CE X W I (mPrim p as) (.Call (.Name x pp) (e :: es) [] pos) := by
  obtain ⟨t, h1, q⟩ := ha.run
  exact ce_mk (pe_callTy hc hg hm hv h1 hn hdb he hpl) fun F H ρ σ Q R z => q F H ρ σ _ R (prim_sat' z)

/-! ### len, abs, min, max, str, tuple, list, all, any, sum -/
def pLen : List D → Option Slot
  | [.list ds] => some (.val (.int ds.length))
  | [.tuple ds] => some (.val (.int ds.length))
  | [.str z] => if lineOk z.length then some (.val (.int z.length)) else none
  | _ => none
theorem call_lenP : CallR X (.builtin "len") (rP X.K pLen) := by
  intro pins s σ H xs us Q J r ⟨F, ds, sl, sub, rr, e, q⟩
  unfold pLen at e
  split at e
  · cases e
    match xs, rr with
    | [v], ⟨h, _⟩ =>
      obtain ⟨a, vs, rfl, s1, r1⟩ := top_list h
      exact call_len pins s σ H _ us Q J r ⟨.ref a, vs.length, rfl, .inl ⟨vs, s1, rfl⟩, by rw [← r1.length]; exact res_int sub q⟩
    | [], h => exact h.elim
    | _ :: _ :: _, ⟨_, h⟩ => exact h.elim
  · cases e
    match xs, rr with
    | [v], ⟨h, _⟩ =>
      obtain ⟨a, vs, rfl, s1, r1⟩ := top_tuple sub h
      exact call_len pins s σ H _ us Q J r ⟨.ref a, vs.length, rfl, .inr ⟨vs, s1, rfl⟩, by rw [← r1.length]; exact res_int sub q⟩
    | [], h => exact h.elim
    | _ :: _ :: _, ⟨_, h⟩ => exact h.elim
  · split at e
    · rename_i z hl
      cases e
      match xs, rr with
      | [v], ⟨h, _⟩ =>
        have hv := top_str h
        subst hv
        exact call_len pins s σ H _ us Q J r ⟨.str z, z.length, rfl, ⟨lineOk_line hl, rfl⟩, res_int sub q⟩
      | [], h => exact h.elim
      | _ :: _ :: _, ⟨_, h⟩ => exact h.elim
    · cases e
  · cases e
theorem vals_one {K : Fr0} {F H : Hp} {d : D} {xs : List V} (h : RepTs K F H [d] xs) : ∃ v, xs = [v] ∧ RepT K F H d v := by
  match xs, h with
  | [v], ⟨h, _⟩ => exact ⟨v, rfl, h⟩
  | [], h => exact h.elim
  | _ :: _ :: _, ⟨_, h⟩ => exact h.elim
theorem vals_two {K : Fr0} {F H : Hp} {d d' : D} {xs : List V} (h : RepTs K F H [d, d'] xs) : ∃ v w, xs = [v, w] ∧ RepT K F H d v ∧ RepT K F H d' w := by
  match xs, h with
  | [v, w], ⟨h, h', _⟩ => exact ⟨v, w, rfl, h, h'⟩
  | [_], ⟨_, h⟩ => exact h.elim
  | [], h => exact h.elim
  | _ :: _ :: _ :: _, ⟨_, _, h⟩ => exact h.elim
def pAbs : List D → Option Slot
  | [.int i] => some (.val (.int (if i < 0 then -i else i)))
  | _ => none
def pMax2 : List D → Option Slot
  | [.int i, .int j] => some (.val (.int (if j > i then j else i)))
  | _ => none
def pMin2 : List D → Option Slot
  | [.int i, .int j] => some (.val (.int (if j < i then j else i)))
  | _ => none
theorem call_max2P (hc : X.calm = true) : CallR X (.builtin "max") (rP X.K pMax2) := by
  intro pins s σ H xs us Q J r ⟨F, ds, sl, sub, rr, e, q⟩
  unfold pMax2 at e
  split at e
  · cases e
    obtain ⟨v, w, rfl, h, h'⟩ := vals_two rr
    exact call_max2 hc pins s σ H _ us Q J r ⟨_, _, by rw [top_int h, top_int h'], res_int sub q⟩
  · cases e
theorem call_min2P (hc : X.calm = true) : CallR X (.builtin "min") (rP X.K pMin2) := by
  intro pins s σ H xs us Q J r ⟨F, ds, sl, sub, rr, e, q⟩
  unfold pMin2 at e
  split at e
  · cases e
    obtain ⟨v, w, rfl, h, h'⟩ := vals_two rr
    exact call_min2 hc pins s σ H _ us Q J r ⟨_, _, by rw [top_int h, top_int h'], res_int sub q⟩
  · cases e
/-- str(n) -/
def pStr : List D → Option Slot
  | [.int i] => if i.natAbs.log2 < 1920 then some (.val (.str (toString i))) else none
  | _ => none
/-- int(flag), int(n) -/
def pInt : List D → Option Slot
  | [.int i] => some (.val (.int i))
  | [.bool b] => some (.val (.int (if b then 1 else 0)))
  | _ => none
def pTuple : List D → Option Slot
  | [.list ds] => some (.val (.tuple ds))
  | [.tuple ds] => some (.val (.tuple ds))
  | [.dict kvs] => some (.val (.tuple (kvs.map (·.1))))
  | _ => none
def pList : List D → Option Slot
  | [.list ds] => some (.lst ds)
  | [.tuple ds] => some (.lst ds)
  | [.dict kvs] => some (.lst (kvs.map (·.1)))
  | _ => none
theorem call_listP (hc : X.calm = true) : CallR X (.type "list") (rP X.K pList) := by
  intro pins s σ H xs us Q J r ⟨F, ds, sl, sub, rr, e, q⟩
  unfold pList at e
  split at e
  · cases e
    obtain ⟨v, rfl, h⟩ := vals_one rr
    obtain ⟨a, vs, rfl, s1, r1⟩ := top_list h
    exact call_list_of pins s σ H _ us Q J r ⟨a, vs, rfl, .inl s1, fun l nl => q _ _ _ (.lst sub r1 nl)⟩
  · cases e
    obtain ⟨v, rfl, h⟩ := vals_one rr
    obtain ⟨a, vs, rfl, s1, r1⟩ := top_tuple sub h
    exact call_list_of pins s σ H _ us Q J r ⟨a, vs, rfl, .inr s1, fun l nl => q _ _ _ (.lst sub r1 nl)⟩
  · cases e
    obtain ⟨v, rfl, h⟩ := vals_one rr
    obtain ⟨a, es, rfl, s1, r1⟩ := top_dict h
    exact call_listD hc pins s σ H _ us Q J r ⟨a, es, rfl, s1, fun p np => q _ _ _ (.lst sub (repk_keys r1).2 np)⟩
  · cases e
def boolsOf : List D → Option (List Bool)
  | [] => some []
  | .bool b :: ds => (boolsOf ds).map (b :: ·)
  | _ => none
theorem reps_bools {K : Fr0} {F : Hp} : ∀ {ds : List D} {vs : List V} {bs : List Bool}, Reps K F ds vs → boolsOf ds = some bs → vs = bs.map V.bl
  | [], vs, bs, r, e => by cases e; rw [reps_nil] at r; exact r
  | d :: ds, vs, bs, r, e => by
    rw [reps_cons] at r
    obtain ⟨v, w, rfl, r1, r2⟩ := r
    cases d with
    | bool b =>
      have e' : (boolsOf ds).map (b :: ·) = some bs := e
      cases q : boolsOf ds with
      | none => rw [q] at e'; cases e'
      | some cs =>
        rw [q] at e'
        cases e'
        rw [rep_bool] at r1
        rw [r1, reps_bools r2 q]
        rfl
    | _ => cases e
def pAll : List D → Option Slot
  | [.list ds] => (boolsOf ds).map fun bs => .val (.bool (bs.all id))
  | _ => none
def pAny : List D → Option Slot
  | [.list ds] => (boolsOf ds).map fun bs => .val (.bool (bs.any id))
  | _ => none
theorem call_allP (hc : X.calm = true) : CallR X (.builtin "all") (rP X.K pAll) := by
  intro pins s σ H xs us Q J r ⟨F, ds, sl, sub, rr, e, q⟩
  unfold pAll at e
  split at e
  · rename_i es
    cases e2 : boolsOf es with
    | none => rw [e2] at e; cases e
    | some bs =>
      rw [e2] at e
      cases e
      obtain ⟨v, rfl, h⟩ := vals_one rr
      obtain ⟨a, vs, rfl, s1, r1⟩ := top_list h
      rw [reps_bools r1 e2] at s1
      exact cr_all hc pins s σ H _ us Q J r ⟨a, bs, rfl, s1, res_bool sub q⟩
  · cases e
theorem call_anyP (hc : X.calm = true) : CallR X (.builtin "any") (rP X.K pAny) := by
  intro pins s σ H xs us Q J r ⟨F, ds, sl, sub, rr, e, q⟩
  unfold pAny at e
  split at e
  · rename_i es
    cases e2 : boolsOf es with
    | none => rw [e2] at e; cases e
    | some bs =>
      rw [e2] at e
      cases e
      obtain ⟨v, rfl, h⟩ := vals_one rr
      obtain ⟨a, vs, rfl, s1, r1⟩ := top_list h
      rw [reps_bools r1 e2] at s1
      exact cr_any hc pins s σ H _ us Q J r ⟨a, bs, rfl, s1, res_bool sub q⟩
  · cases e

/-! ### isinstance -/
inductive Ty where
  | int | bool | str | tuple | list | dict
def Ty.name : Ty → String
  | .int => "int" | .bool => "bool" | .str => "str" | .tuple => "tuple" | .list => "list" | .dict => "dict"
inductive Kd where
  | none | bool | int | str | list | tuple | dict
def kd : D → Kd
  | .none => .none | .bool _ => .bool | .int _ => .int | .str _ => .str | .list _ => .list | .tuple _ => .tuple | .dict _ => .dict
def Kd.name : Kd → String
  | .none => "NoneType" | .bool => "bool" | .int => "int" | .str => "str" | .list => "list" | .tuple => "tuple" | .dict => "dict"
def tyTab : Ty → Kd → Bool
  | .int, .int => true
  | .int, .bool => true
  | .bool, .bool => true
  | .str, .str => true
  | .tuple, .tuple => true
  | .list, .list => true
  | .dict, .dict => true
  | _, _ => false
def isTy (t : Ty) (d : D) : Bool := tyTab t (kd d)
def tyName (d : D) : String := (kd d).name
def pIsi (t : Ty) : List D → Option Slot
  | [d] => some (.val (.bool (isTy t d)))
  | _ => none
/-! ### methods of texts -/
def isStrD : D → Bool
  | .str _ => true
  | _ => false
/-- a text's method: the text is looked at ahead of the arguments -/
def mMeth (p : List D → Option Slot) (a : AE) (as : List AE) : M Slot := fun ρ => (evA a ρ).bind fun g ρ1 => match (g.slot ρ1).data with
  | some (.str z) => (evAs as ρ1).bind fun gs ρ2 => match (argDs ρ2 gs).bind fun ds => p (.str z :: ds) with
    | some s => .ok s ρ2
    | none => .bad
  | _ => .bad
theorem ce_m1 {name : Str} (slot : PySem.Slot "str" name bid) (ty : typeOf (.builtin bid) = pure (.type "method_descriptor")) (rule : MtR X bid (fun x xs => rP X.K p (x :: xs))) (ho : CA X W I a ea) (hb : CA X W I b eb)
    (hs : starEach [eb] X.env = [(false, eval eb X.env)] := by rfl) (hbase : attributeBase ea name X.env (eval ea X.env) = eval ea X.env := by rfl) (hline : (apos.endLine == pos.line) = true := by rfl) : CE X W I (mMeth p a [b]) (.Call (.Attribute ea name apos) [eb] [] pos) := by
  obtain ⟨t, h1, q⟩ := ho.run
  obtain ⟨u, h2, q2⟩ := hb.run
  refine ce_mk (pe_m1 slot ty rule h1 h2 hs hbase hline) fun F H ρ σ Q R z => ?_
  unfold mMeth at z
  rw [Out.sat_bind] at z
  refine q F H ρ σ _ R (Out.sat_mono z (fun g ρ1 _ y F1 H1 v P => ?_) fun _ _ y => y)
  split at y
  · rename_i zz ez
    have hv := top_str (arg_top P.rp P.ok ez)
    refine ⟨⟨zz, hv⟩, ?_⟩
    rw [Out.sat_bind] at y
    have y1 : ((evA b ρ1).bind fun g ρ1 => (Out.ok [] ρ1 : Out (List Arg)).bind fun gs ρ2 => Out.ok (g :: gs) ρ2).sat _ _ := y
    rw [Out.sat_bind] at y1
    refine q2 F1 H1 ρ1 σ _ P.rp (Out.sat_mono y1 (fun g2 ρ2 _ y2 F2 H2 v2 P2 => ?_) fun _ _ y2 => XC.step y2 P.ext fun q h => .inr h)
    have y3 : (match (argDs ρ2 [g2]).bind fun ds => p (.str zz :: ds) with | some s => Out.ok s ρ2 | none => .bad : Out Slot).sat _ _ := y2
    cases ed : argDs ρ2 [g2] with
    | none => rw [ed] at y3; exact y3.elim
    | some ds =>
      cases es : p (.str zz :: ds) with
      | none => simp only [ed, Option.bind, es] at y3; exact y3.elim
      | some s =>
        simp only [ed, Option.bind, es] at y3
        have PL := P2.cons (PostL.nil P2.rp)
        refine ⟨F2, .str zz :: ds, s, P2.rp.sub, ⟨?_, args_top P2.rp PL.ok ed⟩, es, fun F' H' v' r => y3 F' H' v' (prim_post (P.cons PL) r)⟩
        rw [hv]
        show Rep X.K F2 (.str zz) (.str zz)
        rw [rep_str]
  · exact y.elim
def strsOf : List D → Option (List Str)
  | [] => some []
  | .str b :: ds => (strsOf ds).map (b :: ·)
  | _ => none
def pJoin : List D → Option Slot
  | [.str a, .list ds] => (strsOf ds).bind fun ys => if (ys.map (·.length)).sum + ys.length * a.length ≤ 16777216 then some (.val (.str (Txt.join a ys))) else none
  | _ => none
def pUpper : List D → Option Slot
  | [.str a] => if a.length ≤ 5592405 then some (.val (.str (Txt.upper a))) else none
  | _ => none
end
end SD

set_option Elab.async false
set_option linter.all false
set_option autoImplicit false
set_option maxRecDepth 100000
set_option maxHeartbeats 4000000
/-! SD, part L: names of the module, chains of comparisons, dicts written, lists changed in place. -/
namespace SD
open PySem PySem.Spec PyProof.Rows L2
section
variable {X : Cx} {W : WX} {I : ExI} {N : List Str} {sc : Scope} {cf : Str → Bool} {k : Nat} {a b c : AE} {e ea eb ec : Expr} {es : List Expr} {f : M Slot} {pos apos pp : Pos} {x : Str}
/-- a op b op' c -/
def mChain (p p' : List D → Option Slot) (a b c : AE) : M Slot := fun ρ => (evAs [a, b] ρ).bind fun gs ρ1 => match gs with
  | [g1, g2] => (match ((argDs ρ1 [g1, g2]).bind p).bind asBool with
    | some true => (evA c ρ1).bind fun g3 ρ2 => (match (argDs ρ2 [g2, g3]).bind p' with
      | some s => .ok s ρ2
      | none => .bad)
    | some false => .ok (.val (.bool false)) ρ1
    | none => .bad)
  | _ => .bad
end

/-! ### dicts as they are written -/
section
variable {κ α : Type} [DecidableEq κ]
def valQ (kvs : List (κ × α)) (k : κ) : Option α := (kvs.find? fun kv => decide (kv.1 = k)).map (·.2)
def putQ (kvs : List (κ × α)) (k : κ) (v : α) : List (κ × α) :=
  if (kvs.any fun kv => decide (kv.1 = k)) = true then kvs.map (fun kv => if kv.1 = k then (kv.1, v) else kv) else kvs ++ [(k, v)]
def dropQ (kvs : List (κ × α)) (k : κ) : List (κ × α) := kvs.filter fun kv => decide (kv.1 ≠ k)
def mergeQ (kvs more : List (κ × α)) : List (κ × α) := more.foldl (fun acc kv => putQ acc kv.1 kv.2) kvs
end
theorem kD_inj {p q : Key} (h : kD p = kD q) : p = q := by
  cases p <;> cases q <;> simp [kD] at h <;> rw [h]
def RepQ (K : Fr0) (F : Hp) (kvs : List (Key × D)) (es : List (Key × V)) : Prop := RepK K F (qD kvs) es
theorem repQ_nil {K : Fr0} {F : Hp} {es : List (Key × V)} : RepQ K F [] es ↔ es = [] := by
  show RepK K F [] es ↔ _
  rw [repk_nil]
theorem repQ_cons {K : Fr0} {F : Hp} {q : Key} {d : D} {kvs : List (Key × D)} {es : List (Key × V)} : RepQ K F ((q, d) :: kvs) es ↔ ∃ v t, es = (q, v) :: t ∧ Rep K F d v ∧ RepQ K F kvs t := by
  show RepK K F ((kD q, d) :: qD kvs) es ↔ _
  rw [repk_cons]
  constructor
  · rintro ⟨q', v, t, e, ek, h1, h2⟩
    rw [← kD_inj ek] at e
    exact ⟨v, t, e, h1, h2⟩
  · rintro ⟨v, t, e, h1, h2⟩
    exact ⟨q, v, t, e, rfl, h1, h2⟩
section
variable {K : Fr0} {F : Hp}
theorem RepQ.mono {F' : Hp} (s : Same F F') {kvs : List (Key × D)} {es : List (Key × V)} (h : RepQ K F kvs es) : RepQ K F' kvs es := RepK.mono s _ _ h
theorem RepQ.keys : ∀ {kvs : List (Key × D)} {es : List (Key × V)}, RepQ K F kvs es → es.map (·.1) = kvs.map (·.1)
  | [], es, h => by rw [repQ_nil] at h; subst h; rfl
  | (q, d) :: kvs, es, h => by
    rw [repQ_cons] at h
    obtain ⟨v, t, rfl, h1, h2⟩ := h
    simp [RepQ.keys h2]
theorem RepQ.length {kvs : List (Key × D)} {es : List (Key × V)} (h : RepQ K F kvs es) : kvs.length = es.length := by
  have := congrArg List.length h.keys
  simpa using this.symm
theorem RepQ.any : ∀ {kvs : List (Key × D)} {es : List (Key × V)} (k : Key), RepQ K F kvs es → (es.any fun kv => decide (kv.1 = k)) = (kvs.any fun kv => decide (kv.1 = k))
  | [], es, k, h => by rw [repQ_nil] at h; subst h; rfl
  | (q, d) :: kvs, es, k, h => by
    rw [repQ_cons] at h
    obtain ⟨v, t, rfl, h1, h2⟩ := h
    simp [RepQ.any k h2]
theorem RepQ.append : ∀ {kvs more : List (Key × D)} {es fs : List (Key × V)}, RepQ K F kvs es → RepQ K F more fs → RepQ K F (kvs ++ more) (es ++ fs)
  | [], more, es, fs, h, q => by rw [repQ_nil] at h; subst h; exact q
  | (k, d) :: kvs, more, es, fs, h, q => by
    rw [repQ_cons] at h
    obtain ⟨v, t, rfl, h1, h2⟩ := h
    rw [List.cons_append, List.cons_append, repQ_cons]
    exact ⟨v, _, rfl, h1, RepQ.append h2 q⟩
theorem RepQ.put {kvs : List (Key × D)} {es : List (Key × V)} {k : Key} {d : D} {v : V} (h : RepQ K F kvs es) (r : Rep K F d v) : RepQ K F (putQ kvs k d) (putK es k v) := by
  have go : ∀ {kvs : List (Key × D)} {es : List (Key × V)}, RepQ K F kvs es → RepQ K F (kvs.map fun kv => if kv.1 = k then (kv.1, d) else kv) (es.map fun kv => if kv.1 = k then (kv.1, v) else kv) := by
    intro kvs
    induction kvs with
    | nil => intro es h; rw [repQ_nil] at h; subst h; rw [List.map_nil, List.map_nil, repQ_nil]
    | cons p kvs ih =>
      intro es h
      obtain ⟨q, d'⟩ := p
      rw [repQ_cons] at h
      obtain ⟨w, t, rfl, h1, h2⟩ := h
      rw [List.map_cons, List.map_cons]
      by_cases e : q = k
      · simp only [e, if_true]
        rw [repQ_cons]
        exact ⟨v, _, rfl, r, ih h2⟩
      · simp only [e, if_false]
        rw [repQ_cons]
        exact ⟨w, _, rfl, h1, ih h2⟩
  unfold putQ putK
  rw [h.any k]
  split
  · exact go h
  · refine h.append ?_
    rw [repQ_cons]
    exact ⟨v, [], rfl, r, by rw [repQ_nil]⟩
theorem RepQ.val : ∀ {kvs : List (Key × D)} {es : List (Key × V)} (k : Key), RepQ K F kvs es → (∃ d v, valQ kvs k = some d ∧ valV es k = some v ∧ Rep K F d v) ∨ (valQ kvs k = none ∧ valV es k = none)
  | [], es, k, h => by rw [repQ_nil] at h; subst h; exact .inr ⟨rfl, rfl⟩
  | (q, d) :: kvs, es, k, h => by
    rw [repQ_cons] at h
    obtain ⟨v, t, rfl, h1, h2⟩ := h
    by_cases e : q = k
    · exact .inl ⟨d, v, by simp [valQ, e], by simp [valV, e], h1⟩
    · have e1 : valQ ((q, d) :: kvs) k = valQ kvs k := by simp [valQ, List.find?_cons, e]
      have e2 : valV ((q, v) :: t) k = valV t k := by simp [valV, List.find?_cons, e]
      rw [e1, e2]
      exact RepQ.val k h2
theorem RepQ.drop : ∀ {kvs : List (Key × D)} {es : List (Key × V)} (k : Key), RepQ K F kvs es → RepQ K F (dropQ kvs k) (dropK es k)
  | [], es, k, h => by rw [repQ_nil] at h; subst h; exact repQ_nil.mpr rfl
  | (q, d) :: kvs, es, k, h => by
    rw [repQ_cons] at h
    obtain ⟨v, t, rfl, h1, h2⟩ := h
    have ih := RepQ.drop k h2
    unfold dropQ dropK at ih ⊢
    by_cases e : q = k
    · simp only [List.filter_cons, e, ne_eq, not_true_eq_false, decide_false, Bool.false_eq_true, if_false]
      exact ih
    · simp only [List.filter_cons, e, ne_eq, not_false_eq_true, decide_true, if_true]
      rw [repQ_cons]
      exact ⟨v, _, rfl, h1, ih⟩
theorem RepQ.merge : ∀ {more : List (Key × D)} {fs : List (Key × V)} {kvs : List (Key × D)} {es : List (Key × V)}, RepQ K F more fs → RepQ K F kvs es → RepQ K F (mergeQ kvs more) (mergeK es fs)
  | [], fs, kvs, es, h, q => by rw [repQ_nil] at h; subst h; exact q
  | (k, d) :: more, fs, kvs, es, h, q => by
    rw [repQ_cons] at h
    obtain ⟨v, t, rfl, h1, h2⟩ := h
    show RepQ K F (mergeQ (putQ kvs k d) more) (mergeK (putK es k v) t)
    exact RepQ.merge h2 (q.put h1)
end
/-- the pairs of a written dict -/
def mPairs : List (M Slot × M Slot) → M (List (Key × D))
  | [] => fun ρ => .ok [] ρ
  | (fk, fv) :: r => fun ρ => (fk ρ).bind fun s ρ1 => match s.data.bind keyOf with
    | some q => (fv ρ1).bind fun s2 ρ2 => (match s2.data with
      | some d => (mPairs r ρ2).bind fun ps ρ3 => .ok ((q, d) :: ps) ρ3
      | none => .bad)
    | none => .bad
def mDict (ps : List (M Slot × M Slot)) : M Slot := fun ρ => (mPairs ps ρ).bind fun kvs ρ' => if kvs.length ≤ 15 then .ok (.dic (mergeQ [] kvs)) ρ' else .bad
section
variable {X : Cx} {W : WX} {I : ExI} {pos : Pos}
theorem ce_dnew : CE X W I (fun ρ => .ok (.dic []) ρ) (.Dict [] [] pos) := ce_mk pe_dnewK fun F H ρ σ Q R z p np => z F _ _ (post_new R Ext.refl (.dic R.sub (repk_nil.mpr rfl) np))
structure CD (X : Cx) (W : WX) (I : ExI) (pos : Pos) (ps : List (M Slot × M Slot)) (keys : List (Option Expr)) (values : List Expr) : Prop where
  run : ∃ trs, PPs X pos keys values trs ∧ ∀ (F H : Hp) (ρ : En) (σ : St) (Q : List (V × V) → Hp → Prop), Rp X.K F H ρ σ →
    (mPairs ps ρ).sat (fun kvs ρ' => ∀ F' H' es, Rp X.K F' H' ρ' σ → RepQ X.K F' kvs es → Ext F H (OwnE H ρ σ) F' H' (OwnE H' ρ' σ) → Q (es.map fun kv => (kV kv.1, kv.2)) H') (XC X W I F H (OwnE H ρ σ) σ) → tPairs trs σ H Q
end
end SD

set_option Elab.async false
set_option linter.all false
set_option autoImplicit false
set_option maxRecDepth 100000
set_option maxHeartbeats 4000000
/-! SD, part M: lists changed in place. -/
namespace SD
open PySem PySem.Spec PyProof.Rows L2
/-- a slot's own object is written: σ stays -/
theorem slot_write {K : Fr0} {F H : Hp} {ρ : En} {σ : St} {i : Nat} {s0 s : Slot} {p : Addr} {o : HO} (R : Rp K F H ρ σ) (h0 : ρ[i]? = some s0) (hv : σ[i]? = some (some (.ref p))) (o0 : Owns H s0 (some (.ref p)) p) (oo : ∀ q, Owns (upd H p o) s (some (.ref p)) q → q = p)
    (ok : SlotOk K F (upd H p o) s (some (.ref p))) : Rp K F (upd H p o) (ρ.set i s) σ ∧ Ext F H (OwnE H ρ σ) F (upd H p o) (OwnE (upd H p o) (ρ.set i s) σ) := by
  have own : OwnE H ρ σ p := ⟨i, s0, _, h0, hv, o0⟩
  have fp := (R.ownF own).1
  have x : Ext F H (fun q => q = p) F (upd H p o) (fun q => q = p) := ⟨Same.refl _, fun a h h' => absurd h h', fun a o h n => by rw [upd_ne n]; exact h, fun a h => .inr h⟩
  have sub' : Same F (upd H p o) := fun b u e => by
    by_cases hb : b = p
    · subst hb; rw [fp] at e; cases e
    · rw [upd_ne hb]; exact R.sub b u e
  have bk : ∀ (j : Nat) (t : Slot) (u : Option V), j ≠ i → ρ[j]? = some t → σ[j]? = some u → ∀ q, Owns (upd H p o) t u q → Owns H t u q := fun j t u hj e1 e2 q oq => ((R.ok j t u e1 e2).extO x fun q oq z => by
    cases (show q = p from z)
    exact hj (R.dj j i t s0 u _ p e1 e2 h0 hv oq o0)).mp oq
  have R' : Rp K F (upd H p o) (ρ.set i s) (σ.set i (some (.ref p))) := R.set sub' ok (fun j t u hj e1 e2 => (R.ok j t u e1 e2).ext x fun q oq z => by
    cases (show q = p from z)
    exact hj (R.dj j i t s0 u _ p e1 e2 h0 hv oq o0)) (fun q j t u oq hj e1 e2 o2 => by
      have o2 := bk j t u hj e1 e2 q o2
      rw [oo q oq] at o2
      exact hj (R.dj j i t s0 u _ p e1 e2 h0 hv o2 o0)) fun q j t u hj e1 e2 => bk j t u hj e1 e2 q
  rw [set_self hv] at R'
  refine ⟨R', x.weak (fun q z => by cases (show q = p from z); exact own) fun q z => .inr ?_⟩
  rw [← set_self hv] at z
  rcases ownE_set_ne z with ⟨_, _, y⟩ | ⟨j, t, u, hj, e1, e2, y⟩
  · rw [oo q y]; exact own
  · exact ⟨j, t, u, e1, e2, bk j t u hj e1 e2 q y⟩
theorem lst_at {K : Fr0} {F H : Hp} {ρ : En} {σ : St} {i : Nat} {ds : List D} (R : Rp K F H ρ σ) (e : En.at ρ i = .lst ds) : ∃ p vs, ρ[i]? = some (.lst ds) ∧ σ[i]? = some (some (.ref p)) ∧ H p = some (.lst vs) ∧ F p = none ∧ Reps K F ds vs := by
  have h0 : ρ[i]? = some (.lst ds) := by
    have := En.at_some (ρ := ρ) (i := i) (by rw [e]; rfl)
    rw [e] at this; exact this
  obtain ⟨v, ev, ok⟩ := R.get h0
  obtain ⟨p, vs, rfl, h1, h2, r⟩ := ok
  exact ⟨p, vs, h0, ev, h1, h2, r⟩
/-- x.append(e) -/
def mAppend (i : Nat) (f : M Slot) : M Slot := fun ρ => match En.at ρ i with
  | .lst _ => (f ρ).bind fun s ρ1 => (match s.data with
    | some d => (match En.at ρ1 i with
      | .lst ds => if ds.length < 16777216 then .ok (.val .none) (ρ1.set i (.lst (ds ++ [d]))) else .bad
      | _ => .bad)
    | none => .bad)
  | _ => .bad
section
variable {X : Cx} {W : WX} {I : ExI} {pr : Nat → Prop} {i : Nat} {e ex ei : Expr} {f : M Slot} {a : AE} {pos apos pos' : Pos}
theorem ce_append (hx : PE X ex (tVar i)) (hf : CE X W I f e) (hbase : attributeBase ex "append" X.env (eval ex X.env) = eval ex X.env := by rfl)
    (hfew : ((backTo pos (starEach (e :: []) X.env)).all (fun x => !x.1) && (backToKw pos (keywordEach [] X.env)).all (fun x => x.1.isSome)
      && decide ((e :: []).length + ([] : List Keyword).length + (if ([] : List Keyword).isEmpty then 0 else 1) < 30)) = true := by rfl)
    (hline : (apos.endLine == pos.line) = true := by rfl) (hs : starEach [e] X.env = (false, eval e X.env) :: starEach [] X.env := by rfl) (hplain : (backTo pos (starEach [] X.env)).any (·.1) = false := by rfl) :
    CE X W I (mAppend i f) (.Call (.Attribute ex "append" apos) [e] [] pos) := by
  obtain ⟨t, h1, q⟩ := hf.of
  refine ce_mk (pe_bm PySem.F.plainAttrs_list PySem.F.slot_list_append PySem.F.type_list_append mt_append hx (pa_cons h1 pa_nil hs) hbase hfew hline hs hplain) fun F H ρ σ Q R z => ?_
  unfold mAppend at z
  split at z
  · rename_i ds0 e0
    obtain ⟨p, vs, h0, hv, hp, fp, r0⟩ := lst_at R e0
    refine ⟨.ref p, hv, .inl ⟨rfl, vs, SqL.of hp⟩, ?_⟩
    rw [Out.sat_bind] at z
    refine q F H ρ σ _ R (Out.sat_mono z (fun s ρ1 _ y F1 H1 v P => ?_) fun _ _ y => y)
    cases ed : s.data with
    | none => rw [ed] at y; exact y.elim
    | some d =>
      simp only [ed] at y
      split at y
      · rename_i ds e1
        split at y
        · rename_i hl
          obtain ⟨F2, s2, r, R2, x2⟩ := freeze P ed
          obtain ⟨p', vs', h0', hv', hp', fp', r0'⟩ := lst_at R2 e1
          rw [hv] at hv'; cases hv'
          obtain ⟨R3, x3⟩ := slot_write (s := .lst (ds ++ [d])) (o := .lst (vs' ++ [v])) R2 h0' hv rfl (fun q z => z) ⟨p, _, rfl, upd_same, fp', r0'.append (.one r)⟩
          refine ⟨p, vs', v, rfl, rfl, hp', by rw [← r0'.length, sizeLine_eq]; exact hl, y F2 _ .non ⟨R3, ⟨⟨.non, rfl, by rw [rep_none]⟩, fun _ z => z.elim⟩, (x2.trans x3).weak (fun _ h => h) fun q h => .inl (h.elim (fun z => z.elim) id)⟩⟩
        · exact y.elim
      · exact y.elim
  · exact z.elim
end
theorem dic_at {K : Fr0} {F H : Hp} {ρ : En} {σ : St} {i : Nat} {kvs : List (Key × D)} (R : Rp K F H ρ σ) (e : En.at ρ i = .dic kvs) : ∃ p es, ρ[i]? = some (.dic kvs) ∧ σ[i]? = some (some (.ref p)) ∧ H p = some (.dK es) ∧ F p = none ∧ RepQ K F kvs es := by
  have h0 : ρ[i]? = some (.dic kvs) := by
    have := En.at_some (ρ := ρ) (i := i) (by rw [e]; rfl)
    rw [e] at this; exact this
  obtain ⟨v, ev, ok⟩ := R.get h0
  obtain ⟨p, es, rfl, h1, h2, r⟩ := ok
  exact ⟨p, es, h0, ev, h1, h2, r⟩
/-- x[i] = e, x a name: what is written -/
def setIxO (i : Nat) (ρ : En) (d : D) (j : Option D) (s : Slot) : Out Fl := match j with
  | none => .bad
  | some k => (match s with
    | .lst ds => (match k with
      | .int j => (match ixN ds.length j with
        | some n => .ok .next (ρ.set i (.lst (ds.set n d)))
        | none => .bad)
      | _ => .bad)
    | .dic kvs => (match keyOf k with
      | some q => if kvs.length < 16777216 then .ok .next (ρ.set i (.dic (putQ kvs q d))) else .bad
      | none => .bad)
    | _ => .bad)
def mSetIx (i : Nat) (a : AE) (f : M Slot) : M Fl := fun ρ => (f ρ).bind fun s ρ1 => match s.data with
  | some d => (if (En.at ρ1 i).isSome then (evA a ρ1).bind fun g ρ2 => setIxO i ρ2 d (g.slot ρ2).data (En.at ρ2 i) else .bad)
  | none => .bad
/-- a list's or a dict's item written, by values -/
def rSetA : V → V → V → Hp → (Hp → Prop) → Prop := fun o i v H Q => rSetL o i v H Q ∨ ∃ a H', o = .ref a ∧ DPut H a i v H' ∧ Q H'
theorem set_anyP {X : Cx} (hu : X.A.units + 1 < cLine) : PSet X rSetA := by
  intro pins s σ H o i v ov iv u Q J ro ri rv h
  rcases h with h | ⟨a, H', ex, g, q⟩
  · exact set_list pins s σ H o i v ov iv u Q J ro ri rv h
  · subst ex
    cases ro
    exact d_setItem hu J g ri rv fun s4 I4 => ⟨H', I4, q⟩
section
variable {X : Cx} {W : WX} {I : ExI} {pr : Nat → Prop} {i k : Nat} {e ex ei : Expr} {f : M Slot} {a : AE} {pos apos pos' : Pos}
theorem cs_setIx (hr : Room k X.A) (hx : PE X ex (tVar i)) (hi : CA X W I a ei) (hf : CE X W I f e)
    (ha : ∀ v, assign (.Subscript ex ei pos') X.env v = (do
      let ov ← holding [v] (eval ex X.env)
      let iv ← holding [v, ov] (eval ei X.env)
      standAt pos'
      holding [v, ov, iv] (setItem ov iv v)
      release [v, ov, iv] []) := by intro _; rfl)
    (hs : swapsWithSole [.Subscript ex ei pos'] e pos.line X.env = pure false := by rfl) (hw : swappedStores [.Subscript ex ei pos'] e X.env = pure none := by rfl)
    (h1 : (assignEach [.Subscript ex ei pos'] X.env).map (·.2) = [assign (.Subscript ex ei pos') X.env] := by rfl) : CS X W I pr (mSetIx i a f) (.Assign [.Subscript ex ei pos'] e pos) := by
  obtain ⟨t, k1, q1⟩ := hf.of
  obtain ⟨u, k2, q2⟩ := hi.run
  refine ⟨_, ps_asg k1 (pg_sub hx k2 (set_anyP (hu_of hr)) ha) hs hw h1, fun F H ρ σ E R z => ?_⟩
  unfold mSetIx at z
  rw [Out.sat_bind] at z
  refine q1 F H ρ σ _ R (Out.sat_mono z (fun s ρ1 _ y F1 H1 v P => ?_) fun _ _ y => y.toC)
  cases ed : s.data with
  | none => rw [ed] at y; exact y.elim
  | some d =>
    simp only [ed] at y
    split at y
    · rename_i his
      obtain ⟨F2, s2, r, R2, x2⟩ := freeze P ed
      obtain ⟨w, hv, ok⟩ := R2.get (En.at_some his)
      obtain ⟨w, rfl⟩ := slot_some ok his
      refine ⟨w, hv, ?_⟩
      rw [Out.sat_bind] at y
      have PS1 : PostS X.K pr F H ρ σ F2 H1 ρ1 σ := ⟨R2, x2, fun _ _ => rfl, rfl⟩
      refine q2 F2 H1 ρ1 σ _ R2 (Out.sat_mono y (fun g ρ2 _ y2 F3 H3 iv P2 => ?_) fun _ _ y2 => (y2.step PS1).toC)
      cases ej : (g.slot ρ2).data with
      | none => rw [ej] at y2; exact y2.elim
      | some kd =>
        rw [ej] at y2
        have hk := arg_top P2.rp P2.ok ej
        unfold setIxO at y2
        simp only at y2
        split at y2
        · rename_i ds e1
          split at y2
          · rename_i j
            split at y2
            · rename_i n en
              have hj := top_int hk
              subst hj
              obtain ⟨p', vs', h0', hv', hp', fp', r0'⟩ := lst_at P2.rp e1
              rw [hv] at hv'; cases hv'
              obtain ⟨R3, x3⟩ := slot_write (s := .lst (ds.set n d)) (o := .lst (vs'.set n v)) P2.rp h0' hv rfl (fun q z => z) ⟨p', _, rfl, upd_same, fp', Reps.set (Rep.mono P2.ext.sub _ _ r) n r0'⟩
              exact .inl ⟨p', vs', j, n, rfl, rfl, hp', by rw [← r0'.length]; exact en, y2 F3 _ σ (PS1.trans ⟨R3, ((post_argB P2).ext).trans x3, fun _ _ => rfl, rfl⟩)⟩
            · exact y2.elim
          · exact y2.elim
        · rename_i kvs e1
          split at y2
          · rename_i kq ek
            split at y2
            · rename_i hl
              obtain ⟨p', es', h0', hv', hp', fp', r0'⟩ := dic_at P2.rp e1
              rw [hv] at hv'; cases hv'
              obtain ⟨R3, x3⟩ := slot_write (s := .dic (putQ kvs kq d)) (o := .dK (putK es' kq v)) P2.rp h0' hv rfl (fun q z => z) ⟨p', _, rfl, upd_same, fp', RepQ.put r0' (Rep.mono P2.ext.sub _ _ r)⟩
              rw [keyOf_top hk ek]
              exact .inr ⟨p', _, rfl, DPut.k hp' (by rw [← r0'.length, sizeLine_eq]; exact hl), y2 F3 _ σ (PS1.trans ⟨R3, ((post_argB P2).ext).trans x3, fun _ _ => rfl, rfl⟩)⟩
            · exact y2.elim
          · exact y2.elim
        · exact y2.elim
    · exact y.elim
end
end SD

set_option Elab.async false
set_option linter.all false
set_option autoImplicit false
set_option maxRecDepth 100000
set_option maxHeartbeats 4000000
/-! SD, part N: what is walked, of any kind; the end of a proof. -/
namespace SD
open PySem PySem.Spec PyProof.Rows L2
/-- a list, a tuple, a text -/
def iAny (K : Fr0) (te : TE) : TI := fun σ H R => te σ H fun x H1 => (∃ a, x = .ref a ∧ (∃ xs, SqL K H1 a xs) ∧ R (Itl K a) H1) ∨ (∃ a, x = .ref a ∧ (∃ xs, SqT K H1 a xs) ∧ R (Itt K a) H1) ∨ ∃ z, x = .str z ∧ R (Its z) H1
theorem pi_any {X : Cx} {tg l : Expr} {tl : TE} (hl : PE X l tl) : PI X tg l (iAny X.K tl) := by
  refine ⟨fun pins s σ H R J h => ?_⟩
  refine thn (hl.run pins s σ H _ J h) fun v s1 ⟨x, H1, J1, r1, q1⟩ => ?_
  rcases q1 with ⟨a, e, ⟨xs, hq⟩, q⟩ | ⟨a, e, ⟨xs, hq⟩, q⟩ | ⟨z, e, q⟩
  · subst e
    cases r1
    obtain ⟨its, rv, p, hz⟩ := J1.list hq
    refine wpAny_pyIter_list p.isList ?_
    refine ⟨s1.heap.objs.size, [s1.heap.objs.size], _, _, H1, rfl, J1.kept (t' := s1.toks) fun b o e => Heap.get?_push_of_some _ e, turn_list a _, ⟨_, Heap.get?_push_size _ rfl, rfl, rfl⟩, fun b hb => ?_, q⟩
    have e : b = s1.heap.objs.size := by simpa using hb
    subst e
    exact J1.fpOk (Nat.le_refl _) (J1.hok.fresh (Nat.le_refl _))
  · subst e
    cases r1
    obtain ⟨its, rv, p, hz⟩ := J1.tuple hq
    refine wpAny_pyIter_tuple (show s1.heap.IsTuple a its.toArray from p) ?_
    refine ⟨s1.heap.objs.size, [s1.heap.objs.size], _, _, H1, rfl, J1.kept (t' := s1.toks) fun b o e => Heap.get?_push_of_some _ e, turn_tuple a _, ⟨_, Heap.get?_push_size _ rfl, rfl, rfl⟩, fun b hb => ?_, q⟩
    have e : b = s1.heap.objs.size := by simpa using hb
    subst e
    exact J1.fpOk (Nat.le_refl _) (J1.hok.fresh (Nat.le_refl _))
  · subst e
    obtain ⟨t, rfl⟩ := r1
    cases ha : z.cps.all (· < 128)
    · exact wpAny_pyIter_wide ha (pi_one (tk := s1.toks) J1 _ (turn_str _ z t "str_iterator" (.inr rfl)) ⟨_, Heap.get?_push_size _ rfl, rfl, rfl⟩ q)
    · exact wpAny_pyIter_ascii ha (pi_one (tk := s1.toks) J1 _ (turn_str _ z t "str_ascii_iterator" (.inl rfl)) ⟨_, Heap.get?_push_size _ rfl, rfl, rfl⟩ q)
def signs (z : Str) : List D := z.cps.toList.map fun c => .str ⟨#[c]⟩
def anyItems : D → Option (List D)
  | .list ds => some ds
  | .tuple ds => some ds
  | .str z => some (signs z)
  | _ => none
/-- the items of what an expression gives -/
def mIter (f : M Slot) : M (List D) := fun ρ => (f ρ).bind fun s ρ' => match s.data.bind anyItems with
  | some ds => .ok ds ρ'
  | none => .bad
theorem itOk_lst {K : Fr0} {F : Hp} {a : Addr} {ds : List D} {vs : List V} (h : SqL K F a vs) (r : Reps K F ds vs) : ItOk K F ds (Itl K a) := by
  have hl := r.length
  refine ⟨fun i F1 H1 s1 s2 hi => ?_, fun i F1 H1 s1 s2 hi => ⟨vs, SqL.mono (s1.trans s2) h, by omega⟩⟩
  have q := SqL.mono (s1.trans s2) h
  refine ⟨⟨vs, vs[i]'(by omega), q, by simp⟩, fun x H2 y => ?_⟩
  obtain ⟨rfl, y⟩ := y
  have e := y vs q
  obtain ⟨d, e2, r2⟩ := r.getV e
  exact ⟨F1, Same.refl _, s2, Same.refl _, fun a e e' => absurd e e', d, e2, Rep.mono s1 _ _ r2⟩
theorem itOk_str {K : Fr0} {F : Hp} {z : Str} : ItOk K F (signs z) (Its z) := by
  refine ⟨fun i F1 H1 s1 s2 hi => ?_, fun i F1 H1 s1 s2 hi => show z.cps.size ≤ i by simpa [signs] using hi⟩
  have hi' : i < z.cps.size := by simpa [signs] using hi
  refine ⟨show i < z.cps.size from hi', fun x H2 y => ?_⟩
  obtain ⟨rfl, c, e, rfl⟩ := y
  refine ⟨F1, Same.refl _, s2, Same.refl _, fun a e e' => absurd e e', .str ⟨#[c]⟩, ?_, by rw [rep_str]⟩
  unfold signs
  rw [List.getElem?_map, Array.getElem?_toList, e]
  rfl
section
variable {X : Cx} {W : WX} {I : ExI} {tg e : Expr} {f : M Slot} {pos : Pos}
theorem ci_any (h : CE X W I f e) : CI X W I tg (mIter f) e := by
  obtain ⟨t, h1, q⟩ := h.of
  refine ⟨_, pi_any h1, fun F H ρ σ R Rr z => ?_⟩
  unfold mIter at z
  rw [Out.sat_bind] at z
  refine q F H ρ σ _ Rr (Out.sat_mono z (fun s ρ1 _ y F1 H1 v P => ?_) fun _ _ y => y)
  cases ed : s.data with
  | none => rw [ed] at y; exact y.elim
  | some d =>
    cases ei : anyItems d with
    | none => simp only [ed, Option.bind, ei] at y; exact y.elim
    | some ds =>
      simp only [ed, Option.bind, ei] at y
      obtain ⟨F2, s2, r, R2, x⟩ := freeze P ed
      cases d with
      | list es =>
        cases ei
        rw [rep_list] at r
        obtain ⟨a, vs, rfl, sq, r⟩ := r
        exact .inl ⟨a, rfl, ⟨vs, SqL.mono R2.sub sq⟩, y F2 H1 _ ⟨R2, x⟩ (itOk_lst sq r)⟩
      | tuple es =>
        cases ei
        rw [rep_tuple] at r
        obtain ⟨a, vs, rfl, sq, r⟩ := r
        exact .inr (.inl ⟨a, rfl, ⟨vs, SqT.mono R2.sub sq⟩, y F2 H1 _ ⟨R2, x⟩ (itOk_tup sq r)⟩)
      | str zz =>
        cases ei
        rw [rep_str] at r
        exact .inr (.inr ⟨zz, r, y F2 H1 _ ⟨R2, x⟩ itOk_str⟩)
      | _ => cases ei
end
theorem bt_len : bootBuiltins "len" = some (.builtin "len") := by decide +kernel
theorem bt_max : bootBuiltins "max" = some (.builtin "max") := by decide +kernel
theorem bt_min : bootBuiltins "min" = some (.builtin "min") := by decide +kernel
theorem bt_all : bootBuiltins "all" = some (.builtin "all") := by decide +kernel
theorem bt_any : bootBuiltins "any" = some (.builtin "any") := by decide +kernel
theorem bt_sorted : bootBuiltins "sorted" = some (.builtin "sorted") := by decide +kernel
theorem bt_divmod : bootBuiltins "divmod" = some (.builtin "divmod") := by decide +kernel
theorem bt_int : bootBuiltins "int" = some (.type "int") := by decide +kernel
theorem bt_list : bootBuiltins "list" = some (.type "list") := by decide +kernel
theorem bt_dict : bootBuiltins "dict" = some (.type "dict") := by decide +kernel
/-- the law is told: True comes out -/
def spLaw (K : Fr0) : Sp := fun vs H Q _ => ∃ (a : Addr) (ns : List Int), vs = [.ref a] ∧ SqL K H a (ns.map V.int) ∧ ns.length ≤ 63 ∧ Only H ∧ ∀ H', Q (.bl true) H'
theorem reps_ints {K : Fr0} {F : Hp} : ∀ ns : List Int, Reps K F (ns.map PyData.int) (ns.map V.int)
  | [] => by rw [List.map_nil, List.map_nil, reps_nil]
  | n :: ns => by rw [List.map_cons, List.map_cons, reps_cons]; exact ⟨_, _, rfl, by rw [rep_int], reps_ints ns⟩
theorem walk {l : PySem.W.OpenLaw} {q : Program} {loose : List Str} {XP : (Str → Option Value) → Heap → Prop} {YP : World → Heap → Prop} {d : DefRec} {K : Params → PySem.W.Frag} (k : Nat) (hn : l.most = some 63) (hdf : d.params.defaults = []) (hr : Room k callerA)
    (hY : ∀ (w : World) (h : Heap), YP w h → (K w.params).In h)
    (F : ∀ (w : World) (mg : Str → Option Value) (fa : Addr) (h : Heap), (K w.params).In h → h.Ns mainGlobals mg → mg d.name = some (.ref fa) →
      ∃ fd : FuncData, (∀ (s : Shared) (u : Value), BindsTo s fd ⟨[u], []⟩ [("_law_script", u)]) ∧ ∀ base : Heap, (K w.params).In base → base.Ns mainGlobals mg → FnOk l.prog w (K w.params) mg base (L2.CX l.prog w) k fa fd ["_law_script"] (spLaw (K w.params))) :
    PySem.W.WalkO q loose XP YP l.row.toRowW d [] (fun f vs => PySem.call f vs) :=
  L2.walk_of (n := 63) (k := k) (x := "_law_script") (CX := fun w => L2.CX l.prog w) (sp := fun w => spLaw (K w.params)) hn (by decide) hdf hr hY F
    (fun _ _ a ns hl ho hS => ⟨a, ns, rfl, hS, hl, ho, fun _ => rfl⟩) fun _ _ _ _ _ z => by
      obtain ⟨_, _, _, _, _, _, _, _, _, _, _, _, z⟩ := z
      exact z
end SD

set_option Elab.async false
set_option linter.all false
set_option autoImplicit false
set_option maxRecDepth 100000
set_option maxHeartbeats 4000000
/-! SD, part S: code run step by step, by rewriting. -/
namespace SD
open PySem PySem.Spec PyProof.Rows L2

/-! ### what waits for a result -/
def seqK (h : M Fl) (o : Out Fl) : Out Fl := o.bind fun f ρ' => match f with
  | .next => h ρ'
  | f => .ok f ρ'
def ifK (g h : M Fl) (o : Out Bool) : Out Fl := o.bind fun b ρ' => if b then g ρ' else h ρ'
def dropK (o : Out Slot) : Out Fl := o.bind fun _ ρ' => .ok .next ρ'
def retK (o : Out Slot) : Out Fl := o.bind fun s ρ' => .ok (.ret s) ρ'
def setK (i : Nat) (o : Out Slot) : Out Fl := o.bind fun s ρ' => .ok .next (ρ'.set i s)
def primO (ρ : En) (o : Option Slot) : Out Slot := match o with
  | some s => .ok s ρ
  | none => .bad
def primK (p : List D → Option Slot) (o : Out (List Arg)) : Out Slot := o.bind fun gs ρ' => primO ρ' ((argDs ρ' gs).bind p)
def slK (o : Out Slot) : Out Arg := o.bind fun s ρ' => .ok (.sl s) ρ'
def argsK2 (g : Arg) (o : Out (List Arg)) : Out (List Arg) := o.bind fun gs ρ2 => .ok (g :: gs) ρ2
def argsK (as : List AE) (o : Out Arg) : Out (List Arg) := o.bind fun g ρ1 => argsK2 g (evAs as ρ1)
def testO (ρ : En) (o : Option Bool) : Out Bool := match o with
  | some b => .ok b ρ
  | none => .bad
def testK (o : Out Slot) : Out Bool := o.bind fun s ρ' => testO ρ' (asBool s)
def andK (b : M Bool) (o : Out Bool) : Out Bool := o.bind fun x ρ' => if x then b ρ' else .ok false ρ'
def orK (b : M Bool) (o : Out Bool) : Out Bool := o.bind fun x ρ' => if x then .ok true ρ' else b ρ'
def notK (o : Out Bool) : Out Bool := o.bind fun x ρ' => .ok (!x) ρ'
def andVK (b : M Slot) (o : Out Bool) : Out Slot := o.bind fun x ρ' => if x then b ρ' else .ok (.val (.bool false)) ρ'
def orVK (b : M Slot) (o : Out Bool) : Out Slot := o.bind fun x ρ' => if x then .ok (.val (.bool true)) ρ' else b ρ'
def notVK (o : Out Bool) : Out Slot := o.bind fun x ρ' => .ok (.val (.bool (!x))) ρ'
def ifEK (a b : M Slot) (o : Out Bool) : Out Slot := o.bind fun x ρ' => if x then a ρ' else b ρ'
def valsK2 (d : D) (o : Out (List D)) : Out (List D) := o.bind fun ds ρ2 => .ok (d :: ds) ρ2
def valsO (fs : List (M Slot)) (ρ : En) (o : Option D) : Out (List D) := match o with
  | some d => valsK2 d (mVals fs ρ)
  | none => .bad
def valsK (fs : List (M Slot)) (o : Out Slot) : Out (List D) := o.bind fun s ρ1 => valsO fs ρ1 s.data
def tupK (o : Out (List D)) : Out Slot := o.bind fun ds ρ' => if lineOk ds.length then .ok (.val (.tuple ds)) ρ' else .bad
def lstK (o : Out (List D)) : Out Slot := o.bind fun ds ρ' => if lineOk ds.length then .ok (.lst ds) ρ' else .bad
def callR (gs : List Arg) (sl ρ : En) (o : Out Slot) : Out Slot := match o with
  | .ok s outs => .ok s (giveBack gs sl outs ρ)
  | .exc x outs => .exc x (giveBack gs sl outs ρ)
  | .bad => .bad
def callO (f : M Slot) (gs : List Arg) (o : Option (En × En)) : Out Slot := match o with
  | some r => callR gs r.1 r.2 (f r.1)
  | none => .bad
def callK (f : M Slot) (o : Out (List Arg)) : Out Slot := o.bind fun gs ρ1 => callO f gs (takeArgs gs ρ1)
section
variable {g h : M Fl} {c a b : M Bool} {f : M Slot} {fs : List (M Slot)} {i : Nat} {p : List D → Option Slot} {as : List AE} {ρ : En} {s : Slot} {x : Exc} {d : D} {ds : List D}
@[simp] theorem ev_seq : mSeq g h ρ = seqK h (g ρ) := rfl
@[simp] theorem ev_seqN : seqK h (.ok .next ρ) = h ρ := rfl
@[simp] theorem ev_seqR : seqK h (.ok (.ret s) ρ) = .ok (.ret s) ρ := rfl
@[simp] theorem ev_seqB : seqK h (.ok .brk ρ) = .ok .brk ρ := rfl
@[simp] theorem ev_seqC : seqK h (.ok .cont ρ) = .ok .cont ρ := rfl
@[simp] theorem ev_seqX : seqK h (.exc x ρ) = .exc x ρ := rfl
@[simp] theorem ev_next : mNext ρ = .ok .next ρ := rfl
@[simp] theorem ev_if : mIf c g h ρ = ifK g h (c ρ) := rfl
@[simp] theorem ev_ifT : ifK g h (.ok true ρ) = g ρ := rfl
@[simp] theorem ev_ifF : ifK g h (.ok false ρ) = h ρ := rfl
@[simp] theorem ev_ifX : ifK g h (.exc x ρ) = .exc x ρ := rfl
@[simp] theorem ev_drop : mDrop f ρ = dropK (f ρ) := rfl
@[simp] theorem ev_dropO : dropK (.ok s ρ) = .ok .next ρ := rfl
@[simp] theorem ev_dropX : dropK (.exc x ρ) = .exc x ρ := rfl
@[simp] theorem ev_ret : mRet f ρ = retK (f ρ) := rfl
@[simp] theorem ev_retO : retK (.ok s ρ) = .ok (.ret s) ρ := rfl
@[simp] theorem ev_retX : retK (.exc x ρ) = .exc x ρ := rfl
@[simp] theorem ev_set : mSet i f ρ = setK i (f ρ) := rfl
@[simp] theorem ev_setO : setK i (.ok s ρ) = .ok .next (ρ.set i s) := rfl
@[simp] theorem ev_setX : setK i (.exc x ρ) = .exc x ρ := rfl
@[simp] theorem ev_C : mC d ρ = .ok (.val d) ρ := rfl
@[simp] theorem ev_prim : mPrim p as ρ = primK p (evAs as ρ) := by
  unfold mPrim primK
  congr 1
@[simp] theorem ev_primO {gs : List Arg} : primK p (.ok gs ρ) = primO ρ ((argDs ρ gs).bind p) := rfl
@[simp] theorem ev_primX : primK p (.exc x ρ) = .exc x ρ := rfl
@[simp] theorem ev_primS : primO ρ (some s) = .ok s ρ := rfl
@[simp] theorem ev_primN : primO ρ none = .bad := rfl
@[simp] theorem ev_as0 : evAs [] ρ = .ok [] ρ := rfl
@[simp] theorem ev_as1 {a : AE} : evAs (a :: as) ρ = argsK as (evA a ρ) := rfl
@[simp] theorem ev_asK {g : Arg} : argsK as (.ok g ρ) = argsK2 g (evAs as ρ) := rfl
@[simp] theorem ev_asKX : argsK as (.exc x ρ) = .exc x ρ := rfl
@[simp] theorem ev_asK2 {g : Arg} {gs : List Arg} : argsK2 g (.ok gs ρ) = .ok (g :: gs) ρ := rfl
@[simp] theorem ev_asK2X {g : Arg} : argsK2 g (.exc x ρ) = .exc x ρ := rfl
@[simp] theorem ev_ex : evA (.ex f) ρ = slK (f ρ) := rfl
@[simp] theorem ev_nm : evA (.nm i) ρ = if (En.at ρ i).isSome = true then .ok (.nm i) ρ else .bad := rfl
@[simp] theorem ev_slO : slK (.ok s ρ) = .ok (.sl s) ρ := rfl
@[simp] theorem ev_slX : slK (.exc x ρ) = .exc x ρ := rfl
@[simp] theorem ev_argD0 : argDs ρ [] = some [] := rfl
@[simp] theorem ev_argD1 {gs : List Arg} : argDs ρ (.nm i :: gs) = (En.at ρ i).data.bind fun d => (argDs ρ gs).bind fun ds => some (d :: ds) := rfl
@[simp] theorem ev_argD2 {gs : List Arg} : argDs ρ (.sl s :: gs) = s.data.bind fun d => (argDs ρ gs).bind fun ds => some (d :: ds) := rfl
@[simp] theorem ev_at0 {ρ : List Slot} : En.at (s :: ρ) 0 = s := rfl
@[simp] theorem ev_at1 {ρ : List Slot} : En.at (s :: ρ) (i + 1) = En.at ρ i := rfl
@[simp] theorem ev_at1' {s0 s1 : Slot} {ρ : List Slot} : En.at (s0 :: s1 :: ρ) 1 = s1 := rfl
@[simp] theorem ev_at2' {s0 s1 s2 : Slot} {ρ : List Slot} : En.at (s0 :: s1 :: s2 :: ρ) 2 = s2 := rfl
@[simp] theorem ev_at3' {s0 s1 s2 s3 : Slot} {ρ : List Slot} : En.at (s0 :: s1 :: s2 :: s3 :: ρ) 3 = s3 := rfl
@[simp] theorem ev_at4' {s0 s1 s2 s3 s4 : Slot} {ρ : List Slot} : En.at (s0 :: s1 :: s2 :: s3 :: s4 :: ρ) 4 = s4 := rfl
@[simp] theorem ev_at5' {s0 s1 s2 s3 s4 s5 : Slot} {ρ : List Slot} : En.at (s0 :: s1 :: s2 :: s3 :: s4 :: s5 :: ρ) 5 = s5 := rfl
@[simp] theorem ev_at6' {s0 s1 s2 s3 s4 s5 s6 : Slot} {ρ : List Slot} : En.at (s0 :: s1 :: s2 :: s3 :: s4 :: s5 :: s6 :: ρ) 6 = s6 := rfl
@[simp] theorem ev_at7' {s0 s1 s2 s3 s4 s5 s6 s7 : Slot} {ρ : List Slot} : En.at (s0 :: s1 :: s2 :: s3 :: s4 :: s5 :: s6 :: s7 :: ρ) 7 = s7 := rfl
@[simp] theorem ev_at8' {s0 s1 s2 s3 s4 s5 s6 s7 s8 : Slot} {ρ : List Slot} : En.at (s0 :: s1 :: s2 :: s3 :: s4 :: s5 :: s6 :: s7 :: s8 :: ρ) 8 = s8 := rfl
@[simp] theorem ev_at9' {s0 s1 s2 s3 s4 s5 s6 s7 s8 s9 : Slot} {ρ : List Slot} : En.at (s0 :: s1 :: s2 :: s3 :: s4 :: s5 :: s6 :: s7 :: s8 :: s9 :: ρ) 9 = s9 := rfl
@[simp] theorem ev_isV : (Slot.val d).isSome = true := rfl
@[simp] theorem ev_isL : (Slot.lst ds).isSome = true := rfl
@[simp] theorem ev_isD {kvs : List (Key × D)} : (Slot.dic kvs).isSome = true := rfl
@[simp] theorem ev_dV : (Slot.val d).data = some d := rfl
@[simp] theorem ev_dL : (Slot.lst ds).data = some (.list ds) := rfl
@[simp] theorem ev_dD {kvs : List (Key × D)} : (Slot.dic kvs).data = some (.dict (qD kvs)) := rfl
@[simp] theorem ev_cV : (Slot.val d).isCell = false := rfl
@[simp] theorem ev_cL : (Slot.lst ds).isCell = true := rfl
@[simp] theorem ev_cD {kvs : List (Key × D)} : (Slot.dic kvs).isCell = true := rfl
@[simp] theorem ev_test : mTest f ρ = testK (f ρ) := by
  unfold mTest testK
  congr 1
@[simp] theorem ev_testB {b : Bool} : testK (.ok (.val (.bool b)) ρ) = .ok b ρ := rfl
@[simp] theorem ev_testX : testK (.exc x ρ) = .exc x ρ := rfl
@[simp] theorem ev_and : mAnd a b ρ = andK b (a ρ) := rfl
@[simp] theorem ev_andT : andK b (.ok true ρ) = b ρ := rfl
@[simp] theorem ev_andF : andK b (.ok false ρ) = .ok false ρ := rfl
@[simp] theorem ev_andX : andK b (.exc x ρ) = .exc x ρ := rfl
@[simp] theorem ev_or : mOr a b ρ = orK b (a ρ) := rfl
@[simp] theorem ev_orT : orK b (.ok true ρ) = .ok true ρ := rfl
@[simp] theorem ev_orF : orK b (.ok false ρ) = b ρ := rfl
@[simp] theorem ev_orX : orK b (.exc x ρ) = .exc x ρ := rfl
@[simp] theorem ev_not : mNot a ρ = notK (a ρ) := rfl
@[simp] theorem ev_notO {y : Bool} : notK (.ok y ρ) = .ok (!y) ρ := rfl
@[simp] theorem ev_notX : notK (.exc x ρ) = .exc x ρ := rfl
@[simp] theorem ev_andV {u v : M Slot} : mAndV u v ρ = andVK v (mTest u ρ) := rfl
@[simp] theorem ev_andVT {v : M Slot} : andVK v (.ok true ρ) = v ρ := rfl
@[simp] theorem ev_andVF {v : M Slot} : andVK v (.ok false ρ) = .ok (.val (.bool false)) ρ := rfl
@[simp] theorem ev_andVX {v : M Slot} : andVK v (.exc x ρ) = .exc x ρ := rfl
@[simp] theorem ev_orV {u v : M Slot} : mOrV u v ρ = orVK v (mTest u ρ) := rfl
@[simp] theorem ev_orVT {v : M Slot} : orVK v (.ok true ρ) = .ok (.val (.bool true)) ρ := rfl
@[simp] theorem ev_orVF {v : M Slot} : orVK v (.ok false ρ) = v ρ := rfl
@[simp] theorem ev_orVX {v : M Slot} : orVK v (.exc x ρ) = .exc x ρ := rfl
@[simp] theorem ev_notV {u : M Slot} : mNotV u ρ = notVK (mTest u ρ) := rfl
@[simp] theorem ev_notVO {y : Bool} : notVK (.ok y ρ) = .ok (.val (.bool (!y))) ρ := rfl
@[simp] theorem ev_notVX : notVK (.exc x ρ) = .exc x ρ := rfl
@[simp] theorem ev_ifE {u v : M Slot} : mIfE c u v ρ = ifEK u v (c ρ) := rfl
@[simp] theorem ev_ifET {u v : M Slot} : ifEK u v (.ok true ρ) = u ρ := rfl
@[simp] theorem ev_ifEF {u v : M Slot} : ifEK u v (.ok false ρ) = v ρ := rfl
@[simp] theorem ev_vals0 : mVals [] ρ = .ok [] ρ := rfl
@[simp] theorem ev_vals1 : mVals (f :: fs) ρ = valsK fs (f ρ) := by
  show (f ρ).bind _ = _
  unfold valsK
  congr 1
@[simp] theorem ev_valsK : valsK fs (.ok s ρ) = valsO fs ρ s.data := rfl
@[simp] theorem ev_valsX : valsK fs (.exc x ρ) = .exc x ρ := rfl
@[simp] theorem ev_valsO : valsO fs ρ (some d) = valsK2 d (mVals fs ρ) := rfl
@[simp] theorem ev_valsK2 : valsK2 d (.ok ds ρ) = .ok (d :: ds) ρ := rfl
@[simp] theorem ev_valsK2X : valsK2 d (.exc x ρ) = .exc x ρ := rfl
@[simp] theorem ev_tup : mTup fs ρ = tupK (mVals fs ρ) := rfl
@[simp] theorem ev_tupK : tupK (.ok ds ρ) = if lineOk ds.length then .ok (.val (.tuple ds)) ρ else .bad := rfl
@[simp] theorem ev_tupX : tupK (.exc x ρ) = .exc x ρ := rfl
@[simp] theorem ev_lst : mLst fs ρ = lstK (mVals fs ρ) := rfl
@[simp] theorem ev_lstK : lstK (.ok ds ρ) = if lineOk ds.length then .ok (.lst ds) ρ else .bad := rfl
@[simp] theorem ev_lstX : lstK (.exc x ρ) = .exc x ρ := rfl
@[simp] theorem ev_line {n : Nat} : lineOk n = decide (n ≤ 16777216) := rfl
@[simp] theorem ev_varV {ρ : En} : mVar i ρ = match (En.at ρ i).data with
  | some d => .ok (.val d) (ρ.set i (.val d))
  | none => .bad := rfl
@[simp] theorem ev_retV : mRetV i ρ = if (En.at ρ i).isSome then (if (En.at ρ i).isCell then .ok (.ret (En.at ρ i)) (ρ.set i .emp) else .ok (.ret (En.at ρ i)) ρ) else .bad := rfl
@[simp] theorem ev_call : mCall f as ρ = callK f (evAs as ρ) := by
  unfold mCall callK
  congr 1
  funext gs ρ1
  cases takeArgs gs ρ1 with
  | none => rfl
  | some r =>
    obtain ⟨sl, ρ2⟩ := r
    show (match f sl with | .ok s outs => _ | .exc x outs => _ | .bad => _) = callR gs sl ρ2 (f sl)
    cases f sl <;> rfl
@[simp] theorem ev_callK {gs : List Arg} : callK f (.ok gs ρ) = callO f gs (takeArgs gs ρ) := rfl
@[simp] theorem ev_callX : callK f (.exc x ρ) = .exc x ρ := rfl
@[simp] theorem ev_callO {gs : List Arg} {r : En × En} : callO f gs (some r) = callR gs r.1 r.2 (f r.1) := rfl
@[simp] theorem ev_callR {gs : List Arg} {sl outs : En} : callR gs sl ρ (.ok s outs) = .ok s (giveBack gs sl outs ρ) := rfl
@[simp] theorem ev_callRX {gs : List Arg} {sl outs : En} : callR gs sl ρ (.exc x outs) = .exc x (giveBack gs sl outs ρ) := rfl
@[simp] theorem ev_take0 : takeArgs [] ρ = some ([], ρ) := rfl
@[simp] theorem ev_take1 {gs : List Arg} : takeArgs (.sl s :: gs) ρ = (takeArgs gs ρ).map fun r => (s :: r.1, r.2) := rfl
@[simp] theorem ev_take2 {gs : List Arg} : takeArgs (.nm i :: gs) ρ = if (En.at ρ i).isSome then (if (En.at ρ i).isCell then (takeArgs gs (ρ.set i .emp)).map fun r => (En.at ρ i :: r.1, r.2) else (takeArgs gs ρ).map fun r => (En.at ρ i :: r.1, r.2)) else none := rfl
@[simp] theorem ev_give1 {gs : List Arg} {t o : Slot} {as os : List Slot} : giveBack (.nm i :: gs) (t :: as) (o :: os) ρ = giveBack gs as os (if t.isCell then ρ.set i o else ρ) := rfl
@[simp] theorem ev_give2 {gs : List Arg} {t o : Slot} {as os : List Slot} : giveBack (.sl s :: gs) (t :: as) (o :: os) ρ = giveBack gs as os ρ := rfl
@[simp] theorem ev_give0 {as os : En} : giveBack [] as os ρ = ρ := by cases as <;> cases os <;> rfl
end

/-! ### operations -/
section
variable {i j : Int} {a b : Str} {ds es : List D} {d : D}
@[simp] theorem p_addI : pAdd [.int i, .int j] = some (.val (.int (i + j))) := rfl
@[simp] theorem p_addS : pAdd [.str a, .str b] = if a.length + b.length ≤ 16777216 then some (.val (.str (a ++ b))) else none := by simp [pAdd]
@[simp] theorem p_addL : pAdd [.list ds, .list es] = if ds.length + es.length ≤ 16777216 then some (.lst (ds ++ es)) else none := by simp [pAdd]
@[simp] theorem p_addT : pAdd [.tuple ds, .tuple es] = if ds.length + es.length ≤ 16777216 then some (.val (.tuple (ds ++ es))) else none := by simp [pAdd]
@[simp] theorem p_sub : pSub [.int i, .int j] = some (.val (.int (i - j))) := rfl
@[simp] theorem p_mul : pMul [.int i, .int j] = if CMul i j ∨ CMulA i j then some (.val (.int (i * j))) else none := rfl
@[simp] theorem p_div : pDiv [.int i, .int j] = if CDivW i j then some (.val (.int (i / j))) else none := rfl
@[simp] theorem p_mod : pMod [.int i, .int j] = if 0 < j then some (.val (.int (i % j))) else none := rfl
@[simp] theorem p_pow : pPow [.int i, .int j] = if CPow i j then some (.val (.int (i ^ j.toNat))) else none := rfl
@[simp] theorem p_neg : pNeg [.int i] = some (.val (.int (-i))) := rfl
@[simp] theorem p_gt : pGt [.int i, .int j] = some (.val (.bool (decide (j < i)))) := rfl
@[simp] theorem p_lt : pLt [.int i, .int j] = some (.val (.bool (decide (i < j)))) := rfl
@[simp] theorem p_ge : pGe [.int i, .int j] = some (.val (.bool (decide (j ≤ i)))) := rfl
@[simp] theorem p_le : pLe [.int i, .int j] = some (.val (.bool (decide (i ≤ j)))) := rfl
@[simp] theorem p_ixL : pIx [.list ds, .int i] = (atI ds i).map .val := rfl
@[simp] theorem p_ixT : pIx [.tuple ds, .int i] = (atI ds i).map .val := rfl
@[simp] theorem p_ixS : pIx [.str a, .int i] = if a.length ≤ 16777216 then (atI a.cps.toList i).map fun c => .val (.str ⟨#[c]⟩) else none := by simp [pIx]
@[simp] theorem p_lenL : pLen [.list ds] = some (.val (.int ds.length)) := rfl
@[simp] theorem p_lenT : pLen [.tuple ds] = some (.val (.int ds.length)) := rfl
@[simp] theorem p_lenS : pLen [.str a] = if a.length ≤ 16777216 then some (.val (.int a.length)) else none := by simp [pLen]
@[simp] theorem p_isi {t : Ty} : pIsi t [d] = some (.val (.bool (isTy t d))) := rfl
@[simp] theorem p_isN : pIsN [d, .none] = some (.val (.bool (isNone d))) := rfl
@[simp] theorem p_notN : pNotN [d, .none] = some (.val (.bool (!isNone d))) := rfl
@[simp] theorem p_abs : pAbs [.int i] = some (.val (.int (if i < 0 then -i else i))) := rfl
@[simp] theorem p_all : pAll [.list ds] = (boolsOf ds).map fun bs => .val (.bool (bs.all id)) := rfl
@[simp] theorem p_any : pAny [.list ds] = (boolsOf ds).map fun bs => .val (.bool (bs.any id)) := rfl
@[simp] theorem p_tupleL : pTuple [.list ds] = some (.val (.tuple ds)) := rfl
@[simp] theorem p_tupleT : pTuple [.tuple ds] = some (.val (.tuple ds)) := rfl
@[simp] theorem p_listL : pList [.list ds] = some (.lst ds) := rfl
@[simp] theorem p_listT : pList [.tuple ds] = some (.lst ds) := rfl
theorem p_eq {x y : D} : pEq [x, y] = if eqOk x y then some (.val (.bool (PyData.eqv x y))) else dEq x y := rfl
@[simp] theorem dEq_di {k : List (D × D)} {i : Int} : dEq (.dict k) (.int i) = some (.val (.bool false)) := rfl
@[simp] theorem dEq_dd : dEq (.dict []) (.dict []) = some (.val (.bool true)) := rfl
@[simp] theorem dNe_ll {a b : D} : dNe (.list [a, .dict []]) (.list [b, .dict []]) = if a.plain && b.plain && decide (min a.depth b.depth ≤ 58) then some (.val (.bool (!PyData.eqv a b))) else none := rfl
@[simp] theorem dNe_di {k : List (D × D)} {i : Int} : dNe (.dict k) (.int i) = some (.val (.bool true)) := rfl
@[simp] theorem at_0 {α : Type} {x : α} {l : List α} : atI (x :: l) 0 = some x := by simp [atI, ixN, show (0 : Int) < (l.length : Int) + 1 by omega]
@[simp] theorem at_1 {α : Type} {x y : α} {l : List α} : atI (x :: y :: l) 1 = some y := by simp [atI, ixN, show (1 : Int) < (l.length : Int) + 1 + 1 by omega]
@[simp] theorem at_2 {α : Type} {x y z : α} {l : List α} : atI (x :: y :: z :: l) 2 = some z := by simp [atI, ixN, show (2 : Int) < (l.length : Int) + 1 + 1 + 1 by omega]
@[simp] theorem at_3 {α : Type} {x y z w : α} {l : List α} : atI (x :: y :: z :: w :: l) 3 = some w := by simp [atI, ixN, show (3 : Int) < (l.length : Int) + 1 + 1 + 1 + 1 by omega]
end
end SD

set_option Elab.async false
set_option linter.all false
set_option autoImplicit false
set_option maxRecDepth 100000
set_option maxHeartbeats 4000000
/-! SD, part T: runs of defs, loops, comprehensions, stores. -/
namespace SD
open PySem PySem.Spec PyProof.Rows L2
def defK (pr : List Nat) (n : Nat) (o : Out Fl) : Out Slot := match o with
  | .ok .next ρ => .ok (.val .none) (outsOf pr n ρ)
  | .ok (.ret s) ρ => .ok s (outsOf pr n ρ)
  | .ok _ _ => .bad
  | .exc x ρ => .exc x (outsOf pr n ρ)
  | .bad => .bad
def setIxK2 (i : Nat) (d : D) (o : Out Arg) : Out Fl := o.bind fun g ρ2 => setIxO i ρ2 d (g.slot ρ2).data (En.at ρ2 i)
def setIxO1 (i : Nat) (a : AE) (ρ : En) (o : Option D) : Out Fl := match o with
  | some d => if (En.at ρ i).isSome then setIxK2 i d (evA a ρ) else .bad
  | none => .bad
def setIxK (i : Nat) (a : AE) (o : Out Slot) : Out Fl := o.bind fun s ρ1 => setIxO1 i a ρ1 s.data
def appO (i : Nat) (ρ : En) (o : Option D) (s : Slot) : Out Slot := match o, s with
  | some d, .lst ds => if ds.length < 16777216 then .ok (.val .none) (ρ.set i (.lst (ds ++ [d]))) else .bad
  | _, _ => .bad
def appK (i : Nat) (o : Out Slot) : Out Slot := o.bind fun s ρ1 => appO i ρ1 s.data (En.at ρ1 i)
def partK (o : Out Arg) : Out (Option Int) := o.bind fun g ρ' => match (g.slot ρ').data with
  | some (.int i) => .ok (some i) ρ'
  | _ => .bad
def slK3 (g : Arg) (l : Option Int) (o : Out (Option Int)) : Out Slot := o.bind fun h ρ3 => primO ρ3 ((g.slot ρ3).data.bind (pSl l h))
def slK2 (g : Arg) (hi : Option AE) (o : Out (Option Int)) : Out Slot := o.bind fun l ρ2 => slK3 g l (partI hi ρ2)
def slK1 (lo hi : Option AE) (o : Out Arg) : Out Slot := o.bind fun g ρ1 => slK2 g hi (partI lo ρ1)
def chO2 (p' : List D → Option Slot) (g2 : Arg) (o : Out Arg) : Out Slot := o.bind fun g3 ρ2 => primO ρ2 ((argDs ρ2 [g2, g3]).bind p')
def chO (p' : List D → Option Slot) (c : AE) (g2 : Arg) (ρ : En) (o : Option Bool) : Out Slot := match o with
  | some true => chO2 p' g2 (evA c ρ)
  | some false => .ok (.val (.bool false)) ρ
  | none => .bad
def chK (p p' : List D → Option Slot) (c : AE) (o : Out (List Arg)) : Out Slot := o.bind fun gs ρ1 => match gs with
  | [g1, g2] => chO p' c g2 ρ1 (((argDs ρ1 [g1, g2]).bind p).bind asBool)
  | _ => .bad
def methK2 (p : List D → Option Slot) (z : Str) (o : Out (List Arg)) : Out Slot := o.bind fun gs ρ2 => primO ρ2 ((argDs ρ2 gs).bind fun ds => p (.str z :: ds))
def methO (p : List D → Option Slot) (as : List AE) (ρ : En) (o : Option D) : Out Slot := match o with
  | some (.str z) => methK2 p z (evAs as ρ)
  | _ => .bad
def methK (p : List D → Option Slot) (as : List AE) (o : Out Arg) : Out Slot := o.bind fun g ρ1 => methO p as ρ1 (g.slot ρ1).data
def iterO (ρ : En) (o : Option (List D)) : Out (List D) := match o with
  | some ds => .ok ds ρ
  | none => .bad
def iterK (o : Out Slot) : Out (List D) := o.bind fun s ρ' => iterO ρ' (s.data.bind anyItems)
def forK (g : Tg) (b : M Fl) (o : Out (List D)) : Out Fl := o.bind fun ds ρ1 => forL g b ds ρ1
def forT (g : Tg) (b : M Fl) (ds : List D) (o : Out Fl) : Out Fl := o.bind fun f ρ2 => match f with
  | .next => forL g b ds ρ2
  | .cont => forL g b ds ρ2
  | .brk => .ok .next ρ2
  | .ret s => .ok (.ret s) ρ2
def rngK (o : Out Slot) : Out (List D) := o.bind fun s ρ' => match s with
  | .val (.int j) => if -(2 ^ 62) ≤ j ∧ j < 2 ^ 62 then .ok ((List.range j.toNat).map fun i => PyData.int ((0 : Int) + (i : Nat))) ρ' else .bad
  | _ => .bad
def compO (ρ : En) (vs : List Nat) (o : Out (List D)) : Out Slot := match o with
  | .ok acc ρ2 => .ok (.lst acc) (restE ρ ρ2 vs)
  | _ => .bad
def compK (vs : List Nat) (g : Tg) (c : M Bool) (f : M Slot) (o : Out (List D)) : Out Slot := o.bind fun ds ρ1 => compO ρ1 vs (compL vs g c f ds [] (wipeE ρ1 vs))
def compR (vs : List Nat) (g : Tg) (c : M Bool) (f : M Slot) (ds : List D) (ρ : En) : Out Slot := compO ρ vs (compL vs g c f ds [] (wipeE ρ vs))
def asgO (g : Tg) (ρ : En) (o : Option D) : Out Fl := match o with
  | some d => (match g d ρ with
    | some ρ2 => .ok .next ρ2
    | none => .bad)
  | none => .bad
def asgK (g : Tg) (o : Out Slot) : Out Fl := o.bind fun s ρ' => asgO g ρ' s.data
section
variable {g h : M Fl} {tg : Tg} {c : M Bool} {f : M Slot} {i n m : Nat} {p p' : List D → Option Slot} {a b e : AE} {as : List AE} {ρ : En} {s : Slot} {x : Exc} {d : D} {ds : List D} {pr vs : List Nat} {lo hi : Option AE}
@[simp] theorem ev_def {as : En} : mDef n m pr g as = if as.length = n then defK pr n (g (as ++ List.replicate m .emp)) else .bad := by
  unfold mDef defK
  split
  · cases e : g (as ++ List.replicate m .emp) with
    | ok fl ρ => cases fl <;> rfl
    | exc x ρ => rfl
    | bad => rfl
  · rfl
@[simp] theorem ev_defN : defK pr n (.ok .next ρ) = .ok (.val .none) (outsOf pr n ρ) := rfl
@[simp] theorem ev_defR : defK pr n (.ok (.ret s) ρ) = .ok s (outsOf pr n ρ) := rfl
@[simp] theorem ev_defX : defK pr n (.exc x ρ) = .exc x (outsOf pr n ρ) := rfl
@[simp] theorem ev_outs0 : outsOf pr 0 ρ = [] := rfl
@[simp] theorem ev_outs1 : outsOf pr 1 ρ = [if 0 ∈ pr then En.at ρ 0 else .emp] := rfl
@[simp] theorem ev_outs2 : outsOf pr 2 ρ = [if 0 ∈ pr then En.at ρ 0 else .emp, if 1 ∈ pr then En.at ρ 1 else .emp] := rfl
@[simp] theorem ev_outs3 : outsOf pr 3 ρ = [if 0 ∈ pr then En.at ρ 0 else .emp, if 1 ∈ pr then En.at ρ 1 else .emp, if 2 ∈ pr then En.at ρ 2 else .emp] := rfl
@[simp] theorem ev_outs4 : outsOf pr 4 ρ = [if 0 ∈ pr then En.at ρ 0 else .emp, if 1 ∈ pr then En.at ρ 1 else .emp, if 2 ∈ pr then En.at ρ 2 else .emp, if 3 ∈ pr then En.at ρ 3 else .emp] := rfl
@[simp] theorem ev_outs5 : outsOf pr 5 ρ = [if 0 ∈ pr then En.at ρ 0 else .emp, if 1 ∈ pr then En.at ρ 1 else .emp, if 2 ∈ pr then En.at ρ 2 else .emp, if 3 ∈ pr then En.at ρ 3 else .emp, if 4 ∈ pr then En.at ρ 4 else .emp] := rfl
@[simp] theorem ev_setIx : mSetIx i a f ρ = setIxK i a (f ρ) := by
  unfold mSetIx setIxK
  congr 1
@[simp] theorem ev_setIxK : setIxK i a (.ok s ρ) = setIxO1 i a ρ s.data := rfl
@[simp] theorem ev_setIxX : setIxK i a (.exc x ρ) = .exc x ρ := rfl
@[simp] theorem ev_setIxO1 : setIxO1 i a ρ (some d) = if (En.at ρ i).isSome then setIxK2 i d (evA a ρ) else .bad := rfl
@[simp] theorem ev_setIxK2n {j : Nat} : setIxK2 i d (.ok (.nm j) ρ) = setIxO i ρ d (En.at ρ j).data (En.at ρ i) := rfl
@[simp] theorem ev_setIxK2s : setIxK2 i d (.ok (.sl s) ρ) = setIxO i ρ d s.data (En.at ρ i) := rfl
@[simp] theorem ev_setIxO {j : Int} {es : List D} : setIxO i ρ d (some (.int j)) (.lst es) = match ixN es.length j with
    | some n => .ok .next (ρ.set i (.lst (es.set n d)))
    | none => .bad := rfl
def setQO (i : Nat) (ρ : En) (d : D) (kvs : List (Key × D)) (o : Option Key) : Out Fl := match o with
  | some q => if kvs.length < 16777216 then .ok .next (ρ.set i (.dic (putQ kvs q d))) else .bad
  | none => .bad
@[simp] theorem ev_setIxQ {kvs : List (Key × D)} {k : D} : setIxO i ρ d (some k) (.dic kvs) = setQO i ρ d kvs (keyOf k) := rfl
@[simp] theorem ev_setQO {kvs : List (Key × D)} {q : Key} : setQO i ρ d kvs (some q) = if kvs.length < 16777216 then .ok .next (ρ.set i (.dic (putQ kvs q d))) else .bad := rfl
@[simp] theorem keyOf_int {j : Int} : keyOf (.int j) = some (.inl j) := rfl
@[simp] theorem keyOf_str {j : Str} : keyOf (.str j) = some (.inr j) := rfl
@[simp] theorem ev_append : mAppend i f ρ = match En.at ρ i with
  | .lst _ => appK i (f ρ)
  | _ => .bad := by
  unfold mAppend
  cases e : En.at ρ i with
  | lst ds0 =>
    show (f ρ).bind _ = (f ρ).bind _
    congr 1
    funext s ρ1
    unfold appO
    cases s.data with
    | none => rfl
    | some d => cases En.at ρ1 i <;> rfl
  | _ => rfl
@[simp] theorem ev_appK : appK i (.ok s ρ) = appO i ρ s.data (En.at ρ i) := rfl
@[simp] theorem ev_appO {es : List D} : appO i ρ (some d) (.lst es) = if es.length < 16777216 then .ok (.val .none) (ρ.set i (.lst (es ++ [d]))) else .bad := rfl
@[simp] theorem ev_part0 : partI none ρ = .ok none ρ := rfl
@[simp] theorem ev_part1 : partI (some a) ρ = partK (evA a ρ) := rfl
@[simp] theorem ev_partKs {j : Int} : partK (.ok (.sl (.val (.int j))) ρ) = .ok (some j) ρ := rfl
@[simp] theorem ev_partKn {j : Nat} : partK (.ok (.nm j) ρ) = match (En.at ρ j).data with
  | some (.int i) => .ok (some i) ρ
  | _ => .bad := rfl
@[simp] theorem ev_slice : mSlice a lo hi ρ = slK1 lo hi (evA a ρ) := by
  unfold mSlice slK1
  congr 1
@[simp] theorem ev_sl1 {gg : Arg} : slK1 lo hi (.ok gg ρ) = slK2 gg hi (partI lo ρ) := rfl
@[simp] theorem ev_sl1X : slK1 lo hi (.exc x ρ) = .exc x ρ := rfl
@[simp] theorem ev_sl2 {gg : Arg} {l : Option Int} : slK2 gg hi (.ok l ρ) = slK3 gg l (partI hi ρ) := rfl
@[simp] theorem ev_sl3n {j : Nat} {l h : Option Int} : slK3 (.nm j) l (.ok h ρ) = primO ρ ((En.at ρ j).data.bind (pSl l h)) := rfl
@[simp] theorem ev_sl3s {l h : Option Int} : slK3 (.sl s) l (.ok h ρ) = primO ρ (s.data.bind (pSl l h)) := rfl
@[simp] theorem ev_chain : mChain p p' a b e ρ = chK p p' e (evAs [a, b] ρ) := by
  unfold mChain chK
  congr 1
@[simp] theorem ev_chK {g1 g2 : Arg} : chK p p' e (.ok [g1, g2] ρ) = chO p' e g2 ρ (((argDs ρ [g1, g2]).bind p).bind asBool) := rfl
@[simp] theorem ev_chX : chK p p' e (.exc x ρ) = .exc x ρ := rfl
@[simp] theorem ev_chT {g2 : Arg} : chO p' e g2 ρ (some true) = chO2 p' g2 (evA e ρ) := rfl
@[simp] theorem ev_chF {g2 : Arg} : chO p' e g2 ρ (some false) = .ok (.val (.bool false)) ρ := rfl
@[simp] theorem ev_ch2 {g2 g3 : Arg} : chO2 p' g2 (.ok g3 ρ) = primO ρ ((argDs ρ [g2, g3]).bind p') := rfl
@[simp] theorem ev_asBool {b : Bool} : asBool (.val (.bool b)) = some b := rfl
@[simp] theorem ev_meth : mMeth p a as ρ = methK p as (evA a ρ) := by
  unfold mMeth methK
  congr 1
@[simp] theorem ev_methKn {j : Nat} : methK p as (.ok (.nm j) ρ) = methO p as ρ (En.at ρ j).data := rfl
@[simp] theorem ev_methKs : methK p as (.ok (.sl s) ρ) = methO p as ρ s.data := rfl
@[simp] theorem ev_methX : methK p as (.exc x ρ) = .exc x ρ := rfl
@[simp] theorem ev_methO {z : Str} : methO p as ρ (some (.str z)) = methK2 p z (evAs as ρ) := rfl
@[simp] theorem ev_methK2 {z : Str} {gs : List Arg} : methK2 p z (.ok gs ρ) = primO ρ ((argDs ρ gs).bind fun ds => p (.str z :: ds)) := rfl
@[simp] theorem ev_methK2X {z : Str} : methK2 p z (.exc x ρ) = .exc x ρ := rfl
@[simp] theorem ev_iter : mIter f ρ = iterK (f ρ) := by
  unfold mIter iterK
  congr 1
@[simp] theorem ev_iterK : iterK (.ok s ρ) = iterO ρ (s.data.bind anyItems) := rfl
@[simp] theorem ev_iterX : iterK (.exc x ρ) = .exc x ρ := rfl
@[simp] theorem ev_iterO : iterO ρ (some ds) = .ok ds ρ := rfl
@[simp] theorem ev_itL : anyItems (.list ds) = some ds := rfl
@[simp] theorem ev_itT : anyItems (.tuple ds) = some ds := rfl
@[simp] theorem ev_itS {z : Str} : anyItems (.str z) = some (signs z) := rfl
@[simp] theorem ev_rng : mRange1 f ρ = rngK (f ρ) := rfl
@[simp] theorem ev_rngK {j : Int} : rngK (.ok (.val (.int j)) ρ) = if -(2 ^ 62) ≤ j ∧ j < 2 ^ 62 then .ok ((List.range j.toNat).map fun i => PyData.int ((0 : Int) + (i : Nat))) ρ else .bad := rfl
@[simp] theorem ev_for {src : M (List D)} : mFor src tg g ρ = forK tg g (src ρ) := rfl
@[simp] theorem ev_forK : forK tg g (.ok ds ρ) = forL tg g ds ρ := rfl
@[simp] theorem ev_forX : forK tg g (.exc x ρ) = .exc x ρ := rfl
@[simp] theorem ev_forL0 : forL tg g [] ρ = .ok .next ρ := rfl
theorem ev_forL1 : forL tg g (d :: ds) ρ = match tg d ρ with
  | none => .bad
  | some ρ1 => forT tg g ds (g ρ1) := rfl
@[simp] theorem ev_forT0 : forT tg g ds (.ok .next ρ) = forL tg g ds ρ := rfl
@[simp] theorem ev_forT1 : forT tg g ds (.ok .cont ρ) = forL tg g ds ρ := rfl
@[simp] theorem ev_forT2 : forT tg g ds (.ok .brk ρ) = .ok .next ρ := rfl
@[simp] theorem ev_forT3 : forT tg g ds (.ok (.ret s) ρ) = .ok (.ret s) ρ := rfl
@[simp] theorem ev_forT4 : forT tg g ds (.exc x ρ) = .exc x ρ := rfl
@[simp] theorem ev_comp {src : M (List D)} : mComp src vs tg c f ρ = compK vs tg c f (src ρ) := by
  unfold mComp compK
  congr 1
  funext ds ρ1
  cases compL vs tg c f ds [] (wipeE ρ1 vs) <;> rfl
@[simp] theorem ev_compK : compK vs tg c f (.ok ds ρ) = compR vs tg c f ds ρ := rfl
@[simp] theorem ev_compX : compK vs tg c f (.exc x ρ) = .exc x ρ := rfl
@[simp] theorem ev_asg : mAsg tg f ρ = asgK tg (f ρ) := by
  unfold mAsg asgK
  congr 1
@[simp] theorem ev_asgK : asgK tg (.ok s ρ) = asgO tg ρ s.data := rfl
@[simp] theorem ev_asgX : asgK tg (.exc x ρ) = .exc x ρ := rfl
@[simp] theorem ev_gNm : gNm i d ρ = some (ρ.set i (.val d)) := rfl
@[simp] theorem ev_gsNil : gsNil [] ρ = some ρ := rfl
@[simp] theorem ev_gsCons {t : Tg} {ts : List D → En → Option En} : gsCons t ts (d :: ds) ρ = (t d ρ).bind fun ρ' => ts ds ρ' := rfl
@[simp] theorem ev_gTpL {ts : List D → En → Option En} : gTp n ts (.list ds) ρ = if ds.length = n then ts ds ρ else none := rfl
@[simp] theorem ev_gTp {ts : List D → En → Option En} : gTp n ts (.tuple ds) ρ = if ds.length = n then ts ds ρ else none := rfl
@[simp] theorem ev_wipe0 : wipeE ρ [] = ρ := rfl
@[simp] theorem ev_wipe1 {v : Nat} : wipeE ρ (v :: vs) = (wipeE ρ vs).set v .emp := rfl
@[simp] theorem ev_rest0 {ρ ρ' : En} : restE ρ ρ' [] = ρ' := rfl
@[simp] theorem ev_rest1 {v : Nat} {ρ ρ' : En} : restE ρ ρ' (v :: vs) = (restE ρ ρ' vs).set v (En.at ρ v) := rfl
end
theorem set_at {ρ : En} {v : Nat} : ρ.set v (En.at ρ v) = ρ := by
  refine List.ext_getElem? fun j => ?_
  rw [List.getElem?_set]
  split
  · rename_i h
    subst h
    split
    · rename_i hl
      unfold En.at
      rw [List.getElem?_eq_getElem hl]
      simp [hl]
    · rename_i hl
      rw [List.getElem?_eq_none_iff.mpr (by omega)]
  · rfl
/-- .. over one name -/
theorem comp1 {α : Type} {v : Nat} {c : M Bool} {f : M Slot} {ρ : En} {L : List α} (T : α → D) (b : α → Bool) (F : α → D)
    (h : ∀ a ∈ L, c (ρ.set v (.val (T a))) = .ok (b a) (ρ.set v (.val (T a))) ∧ (b a = true → ∃ s, f (ρ.set v (.val (T a))) = .ok s (ρ.set v (.val (T a))) ∧ s.data = some (F a)))
    (hl : L.length ≤ 16777216) : compR [v] (gNm v) c f (L.map T) ρ = .ok (.lst ((L.filter b).map F)) ρ := by
  have key : ∀ (L : List α) (acc : List D) (ρ0 : En), ρ0.set v .emp = ρ.set v .emp → (∀ a ∈ L, c (ρ.set v (.val (T a))) = .ok (b a) (ρ.set v (.val (T a))) ∧ (b a = true → ∃ s, f (ρ.set v (.val (T a))) = .ok s (ρ.set v (.val (T a))) ∧ s.data = some (F a))) → acc.length + L.length ≤ 16777216 →
      ∃ ρ3, compL [v] (gNm v) c f (L.map T) acc ρ0 = .ok (acc ++ (L.filter b).map F) ρ3 ∧ ρ3.set v .emp = ρ.set v .emp := by
    intro L
    induction L with
    | nil => intro acc ρ0 e _ _; exact ⟨ρ0, by simp [compL], e⟩
    | cons a L ih =>
      intro acc ρ0 e h hl
      obtain ⟨h1, h2⟩ := h a List.mem_cons_self
      have hl' : acc.length + (L.length + 1) ≤ 16777216 := hl
      have e2 : (ρ.set v (.val (T a))).set v .emp = ρ.set v .emp := List.set_set ..
      have e3 : (ρ0.set v .emp).set v (.val (T a)) = ρ.set v (.val (T a)) := by rw [e, List.set_set]
      rw [List.map_cons]
      unfold compL
      rw [show gNm v (T a) (wipeE ρ0 [v]) = some (ρ.set v (.val (T a))) from congrArg some e3]
      cases hb : b a with
      | false =>
        obtain ⟨ρ3, k1, k2⟩ := ih acc _ e2 (fun d' hd => h d' (List.mem_cons_of_mem _ hd)) (by omega)
        refine ⟨ρ3, ?_, k2⟩
        simp only [h1, hb, Out.bind, Bool.false_eq_true, if_false]
        rw [k1, List.filter_cons_of_neg (by simp [hb])]
      | true =>
        obtain ⟨s, q1, q2⟩ := h2 hb
        obtain ⟨ρ3, k1, k2⟩ := ih (acc ++ [F a]) _ e2 (fun d' hd => h d' (List.mem_cons_of_mem _ hd)) (by simp; omega)
        refine ⟨ρ3, ?_, k2⟩
        simp only [h1, hb, Out.bind, if_true, q1, q2]
        rw [if_pos (by omega), k1, List.filter_cons_of_pos (by simp [hb])]
        simp
  obtain ⟨ρ3, k1, k2⟩ := key L [] (wipeE ρ [v]) (List.set_set ..) h (by simpa using hl)
  unfold compR
  rw [k1]
  show Out.ok _ (ρ3.set v (En.at ρ v)) = _
  rw [show ρ3.set v (En.at ρ v) = (ρ3.set v .emp).set v (En.at ρ v) by rw [List.set_set], k2, List.set_set, set_at]
  rfl
/-- a loop none of whose turns leaves it -/
theorem for_all {g : Tg} {body : M Fl} (P : En → Prop) : ∀ (ds : List D) (ρ : En), P ρ → (∀ d ∈ ds, ∀ ρ, P ρ → ∃ ρ1 ρ2, g d ρ = some ρ1 ∧ body ρ1 = .ok .next ρ2 ∧ P ρ2) → ∃ ρ', forL g body ds ρ = .ok .next ρ' ∧ P ρ'
  | [], ρ, p, _ => ⟨ρ, rfl, p⟩
  | d :: ds, ρ, p, h => by
    obtain ⟨ρ1, ρ2, e1, e2, p2⟩ := h d List.mem_cons_self ρ p
    obtain ⟨ρ', e, p'⟩ := for_all P ds ρ2 p2 fun d' hd => h d' (List.mem_cons_of_mem _ hd)
    exact ⟨ρ', by rw [ev_forL1, e1]; simp only [e2]; exact e, p'⟩
end SD

set_option Elab.async false
set_option linter.all false
set_option autoImplicit false
set_option maxRecDepth 100000
set_option maxHeartbeats 4000000
/-! SD, part U: texts as lists of code points; numbers' bounds; lists of texts. -/
namespace SD
open PySem PySem.Spec PyProof.Rows L2
def cs (l : List Nat) : Str := ⟨l.toArray⟩
@[simp] theorem cs_list (l : List Nat) : (cs l).cps.toList = l := by simp [cs]
@[simp] theorem cs_len (l : List Nat) : (cs l).length = l.length := by simp [cs, Str.length]
@[simp] theorem cs_app (l m : List Nat) : cs l ++ cs m = cs (l ++ m) := by
  show Str.append _ _ = _
  simp [cs, Str.append]
theorem cs_inj {l m : List Nat} (h : cs l = cs m) : l = m := by
  have := congrArg (fun z : Str => z.cps.toList) h
  simpa using this
@[simp] theorem cs_eq {l m : List Nat} : (cs l = cs m) = (l = m) := propext ⟨cs_inj, fun h => by rw [h]⟩
@[simp] theorem cs_beq {l m : List Nat} : (cs l == cs m) = decide (l = m) := by
  by_cases h : l = m
  · subst h; simp
  · rw [decide_eq_false h]
    exact beq_false_of_ne fun e => h (cs_inj e)
@[simp] theorem cs_one (c : Nat) : (⟨#[c]⟩ : Str) = cs [c] := rfl
theorem lit (s : String) : Str.ofString s = cs (s.toList.map Char.toNat) := Str.ofString_eq_toList s
@[simp] theorem lit_nil : Str.ofString "" = cs [] := by decide +kernel
def az : List Nat := (List.range 26).map (97 + ·)
@[simp] theorem lit_az : Str.ofString "abcdefghijklmnopqrstuvwxyz" = cs az := by decide +kernel
@[simp] theorem az_len : az.length = 26 := rfl
@[simp] theorem p_in1 {c : Nat} {z : Str} : pIn [.str (cs [c]), .str z] = some (.val (.bool (decide (c ∈ z.cps.toList)))) := by
  show some (Slot.val (.bool (if false = true then !subStr (cs [c]) z else subStr (cs [c]) z))) = _
  rw [if_neg (by decide)]
  exact congrArg (fun b => some (Slot.val (.bool b))) (PySem.StrLaws.found_one z c)
theorem mem_az {c : Nat} : c ∈ az ↔ 97 ≤ c ∧ c ≤ 122 := by
  simp only [az, List.mem_map, List.mem_range]
  constructor
  · rintro ⟨i, h, rfl⟩; omega
  · rintro ⟨h1, h2⟩; exact ⟨c - 97, by omega, by omega⟩
/-- a slice's end that is written -/
theorem sIx_some (n d k : Nat) : HT.sIx n d (some ((k : Nat) : Int)) = min k n := HT.sIx_nat n d k
theorem cutS_to (l : List Nat) (k : Nat) : cutS (cs l) none (some (k : Int)) = cs (l.take k) := by
  unfold cutS
  rw [cs_list, cs_len, sIx_some, HT.sIx_none]
  show cs _ = _
  rw [List.drop_zero, Nat.sub_zero, cs_eq, List.take_eq_take_iff]
  omega
theorem cutD_to (l : List D) (k : Nat) : cutD l none (some (k : Int)) = l.take k := by
  unfold cutD
  rw [sIx_some, HT.sIx_none, List.drop_zero, Nat.sub_zero, List.take_eq_take_iff]
  omega
theorem p_slS {l : List Nat} (k : Nat) (h : l.length ≤ 16777216) : pSl none (some (k : Int)) (.str (cs l)) = some (.val (.str (cs (l.take k)))) := by
  show (if lineOk (cs l).length then some (Slot.val (.str (cutS (cs l) none (some (k : Int))))) else none) = _
  rw [cutS_to, if_pos (by simpa [lineOk] using h)]
@[simp] theorem p_slL {l : List D} (k : Nat) : pSl none (some (k : Int)) (.list l) = some (.lst (l.take k)) := by
  show some (Slot.lst (cutD l none (some (k : Int)))) = _
  rw [cutD_to]
@[simp] theorem p_slLn {l : List D} {k : Nat} : pSl none (some (no_index (@OfNat.ofNat Int k _))) (.list l) = some (.lst (l.take k)) := p_slL k
/-! ### join -/
/-! ### numbers -/
theorem cmul_l {i j : Int} (h : -(18446744073709551616 : Int) < i ∧ i < 18446744073709551616) : CMul i j := .inl ⟨by omega, by omega⟩
theorem cdivW {i j : Int} (h : 0 < j) (h2 : j < 18446744073709551616) : CDivW i j := by
  refine ⟨h, ?_⟩
  have : j.natAbs.log2 < 64 := by
    rw [Nat.log2_lt (by omega)]
    omega
  omega
theorem cpow10 {n : Nat} (h : n ≤ 1000) : CPow 10 (n : Int) := ⟨by omega, by omega, by decide⟩
@[simp] theorem cpow12 : CPow 10 12 := cpow10 (n := 12) (by decide)
@[simp] theorem cpow18 : CPow 10 18 := cpow10 (n := 18) (by decide)
@[simp] theorem cpow6 : CPow 10 6 := cpow10 (n := 6) (by decide)
/-! ### data that are plain -/
@[simp] theorem plain_none : PyData.plain .none = true := rfl
@[simp] theorem plain_bool {b : Bool} : PyData.plain (.bool b) = true := rfl
@[simp] theorem plain_int {b : Int} : PyData.plain (.int b) = true := rfl
@[simp] theorem plain_str {b : Str} : PyData.plain (.str b) = true := rfl
@[simp] theorem plain_list {b : List D} : PyData.plain (.list b) = PyData.plainAll b := rfl
@[simp] theorem plain_tuple {b : List D} : PyData.plain (.tuple b) = PyData.plainAll b := rfl
@[simp] theorem plain_nil : PyData.plainAll [] = true := rfl
@[simp] theorem plain_cons {d : D} {b : List D} : PyData.plainAll (d :: b) = (PyData.plain d && PyData.plainAll b) := rfl
@[simp] theorem depth_none : PyData.depth .none = 0 := rfl
@[simp] theorem depth_bool {b : Bool} : PyData.depth (.bool b) = 0 := rfl
@[simp] theorem depth_int {b : Int} : PyData.depth (.int b) = 0 := rfl
@[simp] theorem depth_str {b : Str} : PyData.depth (.str b) = 0 := rfl
@[simp] theorem depth_list {b : List D} : PyData.depth (.list b) = PyData.depthAll b + 1 := rfl
@[simp] theorem depth_tuple {b : List D} : PyData.depth (.tuple b) = PyData.depthAll b + 1 := rfl
@[simp] theorem depth_nil : PyData.depthAll [] = 0 := rfl
@[simp] theorem depth_cons {d : D} {b : List D} : PyData.depthAll (d :: b) = max (PyData.depth d) (PyData.depthAll b) := rfl
@[simp] theorem eqv_none : PyData.eqv .none .none = true := rfl
@[simp] theorem eqv_bool {a b : Bool} : PyData.eqv (.bool a) (.bool b) = (a == b) := rfl
@[simp] theorem eqv_int {a b : Int} : PyData.eqv (.int a) (.int b) = decide (a = b) := by
  show (a == b) = _
  by_cases h : a = b
  · subst h; simp
  · rw [decide_eq_false h]; exact beq_false_of_ne h
@[simp] theorem eqv_str {a b : Str} : PyData.eqv (.str a) (.str b) = (a == b) := rfl
@[simp] theorem eqv_list {a b : List D} : PyData.eqv (.list a) (.list b) = PyData.eqvAll a b := rfl
@[simp] theorem eqv_tuple {a b : List D} : PyData.eqv (.tuple a) (.tuple b) = PyData.eqvAll a b := rfl
@[simp] theorem eqv_nil : PyData.eqvAll [] [] = true := rfl
@[simp] theorem eqv_nc {d : D} {b : List D} : PyData.eqvAll [] (d :: b) = false := rfl
@[simp] theorem eqv_cn {d : D} {b : List D} : PyData.eqvAll (d :: b) [] = false := rfl
@[simp] theorem eqv_cons {d e : D} {a b : List D} : PyData.eqvAll (d :: a) (e :: b) = (PyData.eqv d e && PyData.eqvAll a b) := rfl
@[simp] theorem eqOk_iff {x y : D} : eqOk x y = (PyData.plain x && PyData.plain y && decide (min (PyData.depth x) (PyData.depth y) ≤ 60)) := rfl
@[simp] theorem ty_int {t : Ty} {i : Int} : isTy t (.int i) = tyTab t .int := rfl
@[simp] theorem ty_bool {t : Ty} {i : Bool} : isTy t (.bool i) = tyTab t .bool := rfl
@[simp] theorem ty_str {t : Ty} {i : Str} : isTy t (.str i) = tyTab t .str := rfl
@[simp] theorem ty_none {t : Ty} : isTy t .none = tyTab t .none := rfl
@[simp] theorem ty_list {t : Ty} {i : List D} : isTy t (.list i) = tyTab t .list := rfl
@[simp] theorem ty_tuple {t : Ty} {i : List D} : isTy t (.tuple i) = tyTab t .tuple := rfl
@[simp] theorem ty_dict {t : Ty} {i : List (D × D)} : isTy t (.dict i) = tyTab t .dict := rfl
@[simp] theorem tab_int {k : Kd} : tyTab .int k = match k with | .int => true | .bool => true | _ => false := by cases k <;> rfl
@[simp] theorem tab_bool {k : Kd} : tyTab .bool k = match k with | .bool => true | _ => false := by cases k <;> rfl
@[simp] theorem tab_str {k : Kd} : tyTab .str k = match k with | .str => true | _ => false := by cases k <;> rfl
@[simp] theorem tab_tuple {k : Kd} : tyTab .tuple k = match k with | .tuple => true | _ => false := by cases k <;> rfl
@[simp] theorem tab_list {k : Kd} : tyTab .list k = match k with | .list => true | _ => false := by cases k <;> rfl
@[simp] theorem tab_dict {k : Kd} : tyTab .dict k = match k with | .dict => true | _ => false := by cases k <;> rfl
@[simp] theorem bools0 : boolsOf [] = some [] := rfl
@[simp] theorem bools1 {b : Bool} {ds : List D} : boolsOf (.bool b :: ds) = (boolsOf ds).map (b :: ·) := rfl
/-! ### a dict that is written -/
def pairK3 (q : Key) (d : D) (o : Out (List (Key × D))) : Out (List (Key × D)) := o.bind fun ps ρ3 => .ok ((q, d) :: ps) ρ3
def pairO2 (r : List (M Slot × M Slot)) (q : Key) (ρ : En) (o : Option D) : Out (List (Key × D)) := match o with
  | some d => pairK3 q d (mPairs r ρ)
  | none => .bad
def pairK2 (r : List (M Slot × M Slot)) (q : Key) (o : Out Slot) : Out (List (Key × D)) := o.bind fun s2 ρ2 => pairO2 r q ρ2 s2.data
def pairO1 (fv : M Slot) (r : List (M Slot × M Slot)) (ρ : En) (o : Option Key) : Out (List (Key × D)) := match o with
  | some q => pairK2 r q (fv ρ)
  | none => .bad
def pairK1 (fv : M Slot) (r : List (M Slot × M Slot)) (o : Out Slot) : Out (List (Key × D)) := o.bind fun s ρ1 => pairO1 fv r ρ1 (s.data.bind keyOf)
def dictK (o : Out (List (Key × D))) : Out Slot := o.bind fun kvs ρ' => if kvs.length ≤ 15 then .ok (.dic (mergeQ [] kvs)) ρ' else .bad
section
variable {fk fv : M Slot} {r ps : List (M Slot × M Slot)} {q : Key} {d : D} {kvs : List (Key × D)} {ρ : En} {s : Slot} {x : Exc}
@[simp] theorem ev_pairs0 : mPairs [] ρ = .ok [] ρ := rfl
@[simp] theorem ev_pairs1 : mPairs ((fk, fv) :: r) ρ = pairK1 fv r (fk ρ) := by
  show (fk ρ).bind _ = (fk ρ).bind _
  congr 1
@[simp] theorem ev_pairK1 : pairK1 fv r (.ok s ρ) = pairO1 fv r ρ (s.data.bind keyOf) := rfl
@[simp] theorem ev_pairK1X : pairK1 fv r (.exc x ρ) = .exc x ρ := rfl
@[simp] theorem ev_pairO1 : pairO1 fv r ρ (some q) = pairK2 r q (fv ρ) := rfl
@[simp] theorem ev_pairK2 : pairK2 r q (.ok s ρ) = pairO2 r q ρ s.data := rfl
@[simp] theorem ev_pairK2X : pairK2 r q (.exc x ρ) = .exc x ρ := rfl
@[simp] theorem ev_pairO2 : pairO2 r q ρ (some d) = pairK3 q d (mPairs r ρ) := rfl
@[simp] theorem ev_pairK3 : pairK3 q d (.ok kvs ρ) = .ok ((q, d) :: kvs) ρ := rfl
@[simp] theorem ev_pairK3X : pairK3 q d (.exc x ρ) = .exc x ρ := rfl
@[simp] theorem ev_dict : mDict ps ρ = dictK (mPairs ps ρ) := rfl
@[simp] theorem ev_dictK : dictK (.ok kvs ρ) = if kvs.length ≤ 15 then .ok (.dic (mergeQ [] kvs)) ρ else .bad := rfl
@[simp] theorem ev_dictKX : dictK (.exc x ρ) = .exc x ρ := rfl
@[simp] theorem mergeQ0 {a : List (Key × D)} : mergeQ a [] = a := rfl
@[simp] theorem mergeQ1 {a b : List (Key × D)} {k : Key} {d : D} : mergeQ a ((k, d) :: b) = mergeQ (putQ a k d) b := rfl
@[simp] theorem putQ0 {k : Key} {d : D} : putQ [] k d = [(k, d)] := rfl
end
/-! ### lists of texts -/
def txs (ks : List (List Nat)) : List D := ks.map fun k => .str (cs k)
@[simp] theorem txs_nil : txs [] = [] := rfl
@[simp] theorem txs_cons {k : List Nat} {ks : List (List Nat)} : txs (k :: ks) = .str (cs k) :: txs ks := rfl
@[simp] theorem txs_len (ks : List (List Nat)) : (txs ks).length = ks.length := by simp [txs]
@[simp] theorem txs_plain (ks : List (List Nat)) : PyData.plainAll (txs ks) = true := by
  induction ks with
  | nil => rfl
  | cons k ks ih => simp [ih]
@[simp] theorem txs_depth (ks : List (List Nat)) : PyData.depthAll (txs ks) = 0 := by
  induction ks with
  | nil => rfl
  | cons k ks ih => simp [ih]
@[simp] theorem txs_has (l : List Nat) (ks : List (List Nat)) : hasD (.str (cs l)) (txs ks) = decide (l ∈ ks) := by
  unfold hasD
  induction ks with
  | nil => simp
  | cons k ks ih =>
    rw [txs_cons, List.any_cons, ih]
    by_cases e : k = l
    · subst e; simp
    · simp [e, Ne.symm e]
@[simp] theorem txs_strsOf (ks : List (List Nat)) : strsOf (txs ks) = some (ks.map cs) := by
  induction ks with
  | nil => rfl
  | cons k ks ih => simp [strsOf, ih]
@[simp] theorem p_notInS {l : List Nat} {ks : List (List Nat)} : pNotIn [.str (cs l), .list (txs ks)] = some (.val (.bool (!decide (l ∈ ks)))) := by
  show (if inOk _ _ then some (Slot.val (.bool (if true = true then _ else _))) else none) = _
  simp [inOk]
@[simp] theorem p_inS {l : List Nat} {ks : List (List Nat)} : pIn [.str (cs l), .list (txs ks)] = some (.val (.bool (decide (l ∈ ks)))) := by
  show (if inOk _ _ then some (Slot.val (.bool (if false = true then _ else _))) else none) = _
  simp [inOk]
theorem comp1Y {α : Type} {v : Nat} {f : M Slot} {ρ : En} {L : List α} (T : α → D) (F : α → D)
    (h : ∀ a ∈ L, ∃ s, f (ρ.set v (.val (T a))) = .ok s (ρ.set v (.val (T a))) ∧ s.data = some (F a))
    (hl : L.length ≤ 16777216) : compR [v] (gNm v) mYes f (L.map T) ρ = .ok (.lst (L.map F)) ρ := by
  have := comp1 (c := mYes) T (fun _ => true) F (fun a ha => ⟨rfl, fun _ => h a ha⟩) hl
  rw [List.filter_eq_self.mpr fun _ _ => rfl] at this
  exact this
@[simp] theorem ev_yes {ρ : En} : mYes ρ = .ok true ρ := rfl
theorem at_map {α : Type} {L : List α} {T : α → D} {j : Nat} (h : j < L.length) : atI (L.map T) (j : Int) = some (T L[j]) := by
  unfold atI ixN
  rw [if_pos (by omega), if_pos (by simp; omega)]
  simp [h]
theorem at_txs {ks : List (List Nat)} {j : Nat} (h : j < ks.length) : atI (txs ks) (j : Int) = some (.str (cs ks[j])) := at_map h
@[simp] theorem bools_map {α : Type} {L : List α} {b : α → Bool} : boolsOf (L.map fun a => PyData.bool (b a)) = some (L.map b) := by
  induction L with
  | nil => rfl
  | cons a L ih => simp [boolsOf, ih]
@[simp] theorem all_tt {α : Type} {L : List α} : (L.all fun _ => true) = true := by
  rw [List.all_eq_true]
  exact fun _ _ => rfl
/-- all([.. for ..]), any([.. for ..]) -/
theorem p_allM {α : Type} {L : List α} {b : α → Bool} : pAll [.list (L.map fun a => .bool (b a))] = some (.val (.bool (L.all b))) := by
  rw [p_all, bools_map]
  simp [List.all_map]
theorem p_anyM {α : Type} {L : List α} {b : α → Bool} : pAny [.list (L.map fun a => .bool (b a))] = some (.val (.bool (L.any b))) := by
  rw [p_any, bools_map]
  simp [List.any_map]
end SD

set_option Elab.async false
set_option linter.all false
set_option autoImplicit false
set_option maxRecDepth 100000
set_option maxHeartbeats 4000000
/-! SD, part V: what is never reached; sorted. -/
namespace SD
open PySem PySem.Spec PyProof.Rows L2
/-! ### sorted -/
def rowOk : D → Bool
  | .tuple (_ :: _) => true
  | _ => false
def oneOk : D → Bool
  | .none => false
  | .tuple _ => false
  | _ => true
def sortOk (ds : List D) : Bool := ds.all (fun d => ds.all fun e => W.alike d e) && (ds.all rowOk || ds.all oneOk) && (PyData.plainAll ds && (lineOk ds.length && decide (PyData.depthAll ds ≤ 60)))
def isIntD : D → Bool
  | .int _ => true
  | _ => false
theorem keys_str {K : Fr0} {F : Hp} : ∀ {kvs : List (D × D)} {es : List (Key × V)}, RepK K F kvs es → (kvs.all fun kv => isStrD kv.1) = true → ∃ ks : List Str, es.map (·.1) = ks.map Sum.inr ∧ kvs.map (·.1) = ks.map PyData.str ∧ ks.length = kvs.length
  | [], es, h, _ => by rw [repk_nil] at h; subst h; exact ⟨[], rfl, rfl, rfl⟩
  | (k, d) :: kvs, es, h, a => by
    rw [repk_cons] at h
    obtain ⟨p, v, t, rfl, rfl, h1, h2⟩ := h
    simp only [List.all_cons, Bool.and_eq_true] at a
    obtain ⟨ks, e1, e2, e3⟩ := keys_str h2 a.2
    cases p with
    | inl i => cases a.1
    | inr x => exact ⟨x :: ks, by simp [e1], by simp [e2, kD], by simp [e3]⟩
theorem keys_int {K : Fr0} {F : Hp} : ∀ {kvs : List (D × D)} {es : List (Key × V)}, RepK K F kvs es → (kvs.all fun kv => isIntD kv.1) = true → ∃ ks : List Int, es.map (·.1) = ks.map Sum.inl ∧ kvs.map (·.1) = ks.map PyData.int ∧ ks.length = kvs.length
  | [], es, h, _ => by rw [repk_nil] at h; subst h; exact ⟨[], rfl, rfl, rfl⟩
  | (k, d) :: kvs, es, h, a => by
    rw [repk_cons] at h
    obtain ⟨p, v, t, rfl, rfl, h1, h2⟩ := h
    simp only [List.all_cons, Bool.and_eq_true] at a
    obtain ⟨ks, e1, e2, e3⟩ := keys_int h2 a.2
    cases p with
    | inl x => exact ⟨x :: ks, by simp [e1], by simp [e2, kD], by simp [e3]⟩
    | inr i => cases a.1
theorem reps_ints' {K : Fr0} {F : Hp} : ∀ ns : List Int, Reps K F (ns.map PyData.int) (ns.map V.int)
  | [] => by rw [List.map_nil, List.map_nil, reps_nil]
  | n :: ns => by rw [List.map_cons, List.map_cons, reps_cons]; exact ⟨_, _, rfl, by rw [rep_int], reps_ints' ns⟩
theorem reps_txs' {K : Fr0} {F : Hp} : ∀ ys : List Str, Reps K F (ys.map PyData.str) (ys.map V.str)
  | [] => by rw [List.map_nil, List.map_nil, reps_nil]
  | y :: ys => by rw [List.map_cons, List.map_cons, reps_cons]; exact ⟨_, _, rfl, by rw [rep_str], reps_txs' ys⟩
def sortD (ds : List D) : List D := ds.mergeSort (W.dataLe false id)
def pSorted : List D → Option Slot
  | [.list ds] => if sortOk ds then some (.lst (sortD ds)) else none
  | [.tuple ds] => if sortOk ds then some (.lst (sortD ds)) else none
  | [.dict kvs] => if kvs.length < 64 ∧ ((kvs.all fun kv => isStrD kv.1) = true ∨ (kvs.all fun kv => isIntD kv.1) = true) then some (.lst (sortD (kvs.map (·.1)))) else none
  | _ => none
theorem sortOk_s {ds : List D} (h : sortOk ds = true) : W.AllAlike ds ∧ W.Sortable ds ∧ PyData.plainAll ds = true ∧ ds.length ≤ sizeLine ∧ PyData.depthAll ds ≤ 60 := by
  unfold sortOk at h
  simp only [Bool.and_eq_true, Bool.or_eq_true, List.all_eq_true, decide_eq_true_eq] at h
  obtain ⟨⟨h1, h2⟩, h3, h4, h5⟩ := h
  refine ⟨fun d hd e he => h1 d hd e he, ?_, h3, lineOk_line h4, h5⟩
  rcases h2 with h2 | h2
  · refine .inl fun d hd => ?_
    have := h2 d hd
    match d, this with
    | .tuple (x :: r), _ => exact ⟨x, r, rfl⟩
  · refine .inr fun d hd => ?_
    have := h2 d hd
    match d, this with
    | .bool _, _ => exact ⟨by simp, by simp⟩
    | .int _, _ => exact ⟨by simp, by simp⟩
    | .str _, _ => exact ⟨by simp, by simp⟩
    | .list _, _ => exact ⟨by simp, by simp⟩
    | .dict _, _ => exact ⟨by simp, by simp⟩
theorem reps_zip {K : Fr0} {F : Hp} : ∀ {ds : List D} {vs : List V}, Reps K F ds vs → (ds.zip vs).map (·.1) = ds ∧ (ds.zip vs).map (·.2) = vs ∧ ∀ p ∈ ds.zip vs, Rep K F p.1 p.2
  | [], vs, r => by rw [reps_nil] at r; subst r; exact ⟨rfl, rfl, fun p hp => by cases hp⟩
  | d :: ds, vs, r => by
    rw [reps_cons] at r
    obtain ⟨v, w, rfl, r1, r2⟩ := r
    obtain ⟨a, b, c⟩ := reps_zip r2
    refine ⟨by simp [a], by simp [b], fun p hp => ?_⟩
    rcases List.mem_cons.mp hp with rfl | hp
    · exact r1
    · exact c p hp
theorem reps_of_zip {K : Fr0} {F : Hp} : ∀ {ps : List (D × V)}, (∀ p ∈ ps, Rep K F p.1 p.2) → Reps K F (ps.map (·.1)) (ps.map (·.2))
  | [], _ => by rw [List.map_nil, List.map_nil, reps_nil]
  | p :: ps, h => by
    rw [List.map_cons, List.map_cons, reps_cons]
    exact ⟨_, _, rfl, h p List.mem_cons_self, reps_of_zip fun q hq => h q (List.mem_cons_of_mem _ hq)⟩
theorem each_zip {h : Heap} {K : Fr0} {F : Hp} : ∀ {ds : List D} {vs : List V} {us : List Value}, Vals vs us → ds.length = vs.length → W.EachIs (fun (u : Value) (p : D × V) => RelV p.2 u) us (ds.zip vs)
  | [], [], _, r, _ => by cases r; exact .nil
  | d :: ds, v :: vs, _, r, hl => by
    cases r with
    | cons r1 r2 => exact .cons r1 (each_zip (h := h) (K := K) (F := F) r2 (by simpa using hl))
theorem vals_each : ∀ {us : List Value} {ps : List (D × V)}, W.EachIs (fun (u : Value) (p : D × V) => RelV p.2 u) us ps → Vals (ps.map (·.2)) us
  | _, _, .nil => .nil
  | _, _, .cons a b => .cons a (vals_each b)
theorem sort_zip {ds : List D} {vs : List V} (hz : (ds.zip vs).map (·.1) = ds) : (((ds.zip vs).mergeSort (W.dataLe false Prod.fst)).map (·.1)) = sortD ds := by
  unfold sortD
  rw [List.map_mergeSort (r := W.dataLe false Prod.fst) (s := W.dataLe false id) (f := fun x : D × V => x.1) (fun a _ b _ => rfl), hz]
theorem depth_mem {d : D} : ∀ {ds : List D}, d ∈ ds → PyData.depth d ≤ PyData.depthAll ds
  | e :: ds, h => by
    rw [depth_cons]
    rcases List.mem_cons.mp h with rfl | h
    · exact Nat.le_max_left _ _
    · exact Nat.le_trans (depth_mem h) (Nat.le_max_right _ _)

/-! sorted of a tuple -/
section
variable {prog : Program} {w : World} {A : Around} {E : Value → Shared → Prop} {s : Shared}
theorem tup_collect {t : Addr} {zs : List Value} {R : List Value → Shared → Prop} (ht : s.heap.IsTuple t zs.toArray) (hn : zs.length ≤ sizeLine)
    (k : R zs { s with heap := (s.heap.push (seqObj "list" #[] 0)).update s.heap.objs.size (Obj.mapSeq fun y => y ++ zs.toArray) }) : wpAny (model prog w) A (collect (.ref t)) R E s := by
  obtain ⟨ob, h1, h2, n, h3⟩ := ht
  unfold collect
  refine wpAny_bind (wpAny_runValue
    (codeAny_builtin entry_proto_collect' ?_))
  show wpAny _ _ (do
    again (.builtin "list.__iadd__" ⟨[← newList [], .ref t], []⟩)) _ _ s
  refine wpAny_bind (wpAny_newList
    (wpAny_pure ⟨Code.quiet_builtin _ (by decide +kernel),
      codeAny_builtin entry_list_iadd' ?_⟩))
  show wpAny _ _ (Builtin.List.listExtendWith (.ref s.heap.objs.size)
    (.ref t) (.ref s.heap.objs.size)) _ _ { s with heap := s.heap.push (seqObj "list" #[] 0) }
  unfold Builtin.List.listExtendWith
  have g : (s.heap.push (seqObj "list" #[] 0)).get? t = some ob := Heap.get?_push_of_some _ h1
  refine wpAny_bind (wpAny_typeOf (T := "tuple") ⟨ob, g, h2⟩ ?_)
  have et : (Value.type "tuple" == Value.type "tuple") = true := by rfl
  rw [if_pos (by rw [et]; simp)]
  refine wpAny_bind (listItems_at g h3 (wpAny_bind
    (listItems_at (xs := #[]) (n := 0) (Heap.get?_push_size _ rfl) rfl ?_)))
  rw [if_neg (by simp)]
  refine wpAny_bind (listUpdate_at (xs := #[]) (n := 0) (Heap.get?_push_size _ rfl) rfl ?_
    (Nat.zero_le _) (by show (#[] ++ zs.toArray).size ≤ _; simp only [Array.size_append, List.size_toArray, List.length_nil]; omega))
  refine wpAny_pure ?_
  show wpAny (model prog w) A (do
      let o ← load s.heap.objs.size
      match o.data with
      | .seq xs _ => pure xs.toList
      | _ => unsupported "internal:collect") R E
    { s with heap := (s.heap.push (seqObj "list" #[] 0)).update s.heap.objs.size (Obj.mapSeq fun y => y ++ zs.toArray) }
  refine wpAny_bind (wpAny_load (get?_update_seq (Heap.get?_push_size _ rfl) _) ?_)
  show wpAny _ _ (pure ((#[] : Array Value) ++ zs.toArray).toList) R E _
  have e0 : ((#[] : Array Value) ++ zs.toArray).toList = zs := by simp
  rw [e0]
  exact wpAny_pure k
theorem tup_sorted {β : Type} {t : Addr} {zs : List Value} {bs : List β} {enc : β → D} {R : Value → β → Prop} {Q : Value → Shared → Prop} (ht : s.heap.IsTuple t zs.toArray) (e : W.EachIs R zs bs)
    (er : W.EachIs (fun v b => ∃ as, Reads s.heap v (enc b) as) zs bs) (hal : W.AllAlike (bs.map enc)) (hk : W.Sortable (bs.map enc)) (hL : bs.length ≤ sizeLine) (hu : ∀ b, b ∈ bs → A.units + 2 + (enc b).depth < cLine)
    (h : ∀ out, out.length = bs.length → W.EachIs R out (bs.mergeSort (W.dataLe false enc)) → Q (.ref (s.heap.objs.size + 1)) { s with heap := sortedAll s.heap zs (List.toArray out) }) :
    wpAny (model prog w) A (call (.builtin "sorted") [.ref t]) Q E s := by
  have hz : zs.length ≤ sizeLine := by rw [e.length]; exact hL
  have er' : W.EachIs (fun v b => ∃ as, Reads (W.sortingHeap (W.copyHeap s.heap zs) (s.heap.objs.size + 1) zs) v (enc b) as) zs bs :=
    er.mono fun _ _ ⟨as, r⟩ => ⟨as, Reads.keeps (fun _ _ => W.sorting_copy_old) r⟩
  refine call_function_entry_kw kind_sorted plain_sorted entry_sorted (args_sorted1 _) ?_
  unfold Builtin.«sorted»
  refine wpAny_bind (m := checkCount "sorted" 1 1 _) (wpAny_pure
    (wpAny_bind (tup_collect ht hz (wpAny_bind (wpAny_newList ?_ hz)))))
  have sz : ((s.heap.push (seqObj "list" #[] 0)).update s.heap.objs.size
    (Obj.mapSeq fun y => y ++ zs.toArray)).objs.size = s.heap.objs.size + 1 := by rw [Heap.size_update, size_push']
  show wpAny _ _ _ _ _ { s with heap := W.copyHeap s.heap zs }
  rw [sz]
  refine wpAny_bind (wpAny_holding (wpAny_call_entry_kw slot_list_sort
    ⟨_, W.copyHeap_at s.heap zs, rfl⟩ entry_list_sort ?b (args_list_sort _)))
  show wpAny (model prog w) A.in1.in1 (Builtin.«list.sort» ⟨[.ref (s.heap.objs.size + 1)], []⟩) _ _ _
  refine W.list_sort_vals (s := { s with heap := W.copyHeap s.heap zs }) (W.copyHeap_at s.heap zs)
    (W.SortsAt.data (s := { s with heap := W.sortingHeap (W.copyHeap s.heap zs) (s.heap.objs.size + 1) zs })
      (W.each_map (R := fun v d => ∃ as, Reads (W.sortingHeap (W.copyHeap s.heap zs) (s.heap.objs.size + 1) zs) v d as) enc er') hal hk (W.bound_map hu)) hz ?_
  exact ⟨_, rfl, wpAny_pure ⟨_, rfl, h _ (by rw [W.sortVals_length false rfl]; exact e.length) (W.sortVals_data false e er' hal)⟩⟩
end
section
variable {X : Cx}
theorem sorted_end {pins : List (Addr × Obj)} {s : Shared} {σ : St} {F H : Hp} {ds : List D} {vs : List V} {us : List Value} {Q : VK} (J : Inv X pins σ H s) (sub : Same F H) (r : Reps X.K F ds vs) (rv : Vals vs us) (ok : sortOk ds = true)
    (q : ∀ F' H' v, Res1 X.K F H F' H' (.lst (sortD ds)) v → Q v H') : ∀ out, out.length = (ds.zip vs).length → W.EachIs (fun (u : Value) (p : D × V) => RelV p.2 u) out ((ds.zip vs).mergeSort (W.dataLe false Prod.fst)) → EP X pins σ Q (.ref (s.heap.objs.size + 1)) { s with heap := sortedAll s.heap us (List.toArray out) } := by
  intro out hl he
  obtain ⟨a1, a2, a3, a4, a5⟩ := sortOk_s ok
  obtain ⟨z1, z2, z3⟩ := reps_zip r
  obtain ⟨ep, he'⟩ := sortedAll_at s.heap us out.toArray
  have ve := vals_each he
  have hlen : (((ds.zip vs).mergeSort (W.dataLe false Prod.fst)).map (·.2)).length ≤ sizeLine := by
    rw [List.length_map, List.length_mergeSort]
    have : (ds.zip vs).length = ds.length := by rw [← z1, List.length_map, z1]
    omega
  have rs : Reps X.K F (sortD ds) (((ds.zip vs).mergeSort (W.dataLe false Prod.fst)).map (·.2)) := by
    rw [← sort_zip z1]
    exact reps_of_zip fun p hp => z3 p ((List.mergeSort_perm _ _).mem_iff.mp hp)
  exact ⟨.ref _, upd H (s.heap.objs.size + 1) (.lst (((ds.zip vs).mergeSort (W.dataLe false Prod.fst)).map (·.2))), J.laid (t' := s.toks) (fun _ _ => sortedAll_old) (Nat.le_succ _) ⟨hlen, out, ep, ve, he'⟩, rfl, q _ _ _ (.lst sub rs (J.hok.fresh (Nat.le_succ _)))⟩
theorem call_sortedP (hc : X.calm = true) (hr : Room 0 X.A) : CallR X (.builtin "sorted") (rP X.K pSorted) := by
  intro pins s σ H xs us Q J r ⟨F, ds, sl, sub, rr, e, q⟩
  unfold pSorted at e
  split at e
  · rename_i es
    split at e
    · rename_i ok
      cases e
      obtain ⟨v, rfl, h⟩ := vals_one rr
      obtain ⟨a, vs, rfl, s1, r1⟩ := top_list h
      obtain ⟨its, rv, hl, _⟩ := J.list s1
      obtain ⟨a1, a2, a3, a4, a5⟩ := sortOk_s ok
      obtain ⟨z1, z2, z3⟩ := reps_zip r1
      rw [Vals.ref1 r]
      obtain ⟨as, ra⟩ := readsAll_of J sub r1 a3 rv
      refine W.sorted_data (enc := Prod.fst) hl.isList (each_zip (h := s.heap) (K := X.K) (F := F) rv r1.length) ?_ (by rw [z1]; exact a1) (by rw [z1]; exact a2) ?_ ?_ (sorted_end J sub r1 rv ok q)
      · have := W.readsAll_each (β := D × V) Prod.fst (bs := es.zip vs) (by rw [z1]; exact ra)
        exact this
      · have : (es.zip vs).length = es.length := by rw [← z1, List.length_map, z1]
        omega
      · intro b hb
        have h1 : b.1 ∈ es := by rw [← z1]; exact List.mem_map_of_mem hb
        have h2 := depth_mem h1
        have := hr.units
        omega
    · cases e
  · rename_i es
    split at e
    · rename_i ok
      cases e
      obtain ⟨v, rfl, h⟩ := vals_one rr
      obtain ⟨a, vs, rfl, s1, r1⟩ := top_tuple sub h
      obtain ⟨its, rv, hl, _⟩ := J.tuple s1
      obtain ⟨a1, a2, a3, a4, a5⟩ := sortOk_s ok
      obtain ⟨z1, z2, z3⟩ := reps_zip r1
      rw [Vals.ref1 r]
      obtain ⟨as, ra⟩ := readsAll_of J sub r1 a3 rv
      refine tup_sorted (enc := Prod.fst) hl (each_zip (h := s.heap) (K := X.K) (F := F) rv r1.length) ?_ (by rw [z1]; exact a1) (by rw [z1]; exact a2) ?_ ?_ (sorted_end J sub r1 rv ok q)
      · have := W.readsAll_each (β := D × V) Prod.fst (bs := es.zip vs) (by rw [z1]; exact ra)
        exact this
      · have : (es.zip vs).length = es.length := by rw [← z1, List.length_map, z1]
        omega
      · intro b hb
        have h1 : b.1 ∈ es := by rw [← z1]; exact List.mem_map_of_mem hb
        have h2 := depth_mem h1
        have := hr.units
        omega
    · cases e
  · split at e
    · rename_i kvs ok
      cases e
      obtain ⟨v, rfl, h⟩ := vals_one rr
      obtain ⟨a, es, rfl, s1, r1⟩ := top_dict h
      rcases ok.2 with ok2 | ok2
      · obtain ⟨ks, e1, e2, e3⟩ := keys_str r1 ok2
        refine call_sortedD hc pins s σ H _ us Q J r ⟨a, es, ks, rfl, s1, e1, by rw [e3]; exact ok.1, fun ys p hp hs np => q _ _ _ (.lst sub ?_ np)⟩
        rw [e2]
        unfold sortD
        rw [← sortU_str hp hs]
        exact reps_txs' ys
      · obtain ⟨ks, e1, e2, e3⟩ := keys_int r1 ok2
        refine call_sortedDI hc pins s σ H _ us Q J r ⟨a, es, ks, rfl, s1, e1, by rw [e3]; exact ok.1, fun ys p hp hs np => q _ _ _ (.lst sub ?_ np)⟩
        rw [e2]
        unfold sortD
        rw [← sortU_int hp hs]
        exact reps_ints' ys
    · cases e
  · cases e
end
end SD

set_option Elab.async false
set_option linter.all false
set_option autoImplicit false
set_option maxRecDepth 100000
set_option maxHeartbeats 4000000
/-! SD, part W: further operations on numbers and texts. -/
namespace SD
open PySem PySem.Spec PyProof.Rows L2
section
variable {X : Cx}
/-! ### is, is not of truths -/
def pIsB : List D → Option Slot
  | [.bool a, .bool b] => some (.val (.bool (decide (a = b))))
  | _ => none
def pNotB : List D → Option Slot
  | [.bool a, .bool b] => some (.val (.bool (!decide (a = b))))
  | _ => none
/-! ### divmod, int -/
def pDivmod : List D → Option Slot
  | [.int i, .int j] => if 0 < j ∧ Builtin.divisionGoesByPylong i j = false then some (.val (.tuple [.int (i / j), .int (i % j)])) else none
  | _ => none
theorem call_divmodP : CallR X (.builtin "divmod") (rP X.K pDivmod) := by
  intro pins s σ H xs us Q J r ⟨F, ds, sl, sub, rr, e, q⟩
  unfold pDivmod at e
  split at e
  · split at e
    · rename_i i j hl
      cases e
      obtain ⟨v, w, rfl, h, h'⟩ := vals_two rr
      obtain rfl := top_int h
      obtain rfl := top_int h'
      exact call_divmodW pins s σ H _ us Q J r ⟨_, _, rfl, hl, fun p np => q _ _ _ (.tup sub (by rw [reps_cons]; exact ⟨_, _, rfl, by rw [rep_int], by rw [reps_cons]; exact ⟨_, _, rfl, by rw [rep_int], by rw [reps_nil]⟩⟩) np)⟩
    · cases e
  · cases e
def pIntA : List D → Option Slot
  | [.int i] => some (.val (.int i))
  | [.bool b] => some (.val (.int (if b then 1 else 0)))
  | [.str z] => if z.length ≤ 640 then (PySem.intText? z).map fun n => .val (.int n) else none
  | _ => none
theorem call_intP : CallR X (.type "int") (rP X.K pIntA) := by
  intro pins s σ H xs us Q J r ⟨F, ds, sl, sub, rr, e, q⟩
  unfold pIntA at e
  split at e
  · cases e
    obtain ⟨v, rfl, h⟩ := vals_one rr
    obtain rfl := top_int h
    exact call_int1 pins s σ H _ us Q J r (.inl ⟨_, rfl, res_int sub q⟩)
  · cases e
    obtain ⟨v, rfl, h⟩ := vals_one rr
    obtain rfl := top_bool h
    exact call_int1 pins s σ H _ us Q J r (.inr ⟨_, rfl, res_int sub q⟩)
  · rename_i z
    split at e
    · rename_i hl
      cases en : PySem.intText? z with
      | none => rw [en] at e; cases e
      | some n =>
        rw [en] at e
        cases e
        obtain ⟨v, rfl, h⟩ := vals_one rr
        obtain rfl := top_str h
        exact call_int_str pins s σ H _ us Q J r ⟨_, _, rfl, en, hl, res_int sub q⟩
    · cases e
  · cases e
/-! ### methods of texts -/
def pCount : List D → Option Slot
  | [.str a, .str b] => some (.val (.int (Txt.count a b)))
  | _ => none
theorem mt_countP : MtR X "str.count" (fun x xs => rP X.K pCount (x :: xs)) := by
  intro pins s σ H x xs v us Q J rx rs ⟨F, ds, sl, sub, rr, e, q⟩
  unfold pCount at e
  split at e
  · cases e
    obtain ⟨y, w, e2, h, h'⟩ := vals_two rr
    cases e2
    obtain rfl := top_str h
    obtain rfl := top_str h'
    exact mt_count pins s σ H _ _ v us Q J rx rs ⟨_, _, rfl, rfl, res_int sub q⟩
  · cases e
def pPartition : List D → Option Slot
  | [.str a, .str b] => if (b.length == 0) = false ∧ a.length ≤ 16777216 then some (.val (.tuple ([(Txt.partition a b).1, (Txt.partition a b).2.1, (Txt.partition a b).2.2].map PyData.str))) else none
  | _ => none
def pSplit : List D → Option Slot
  | [.str a, .str b] => if (b.length == 0) = false ∧ a.length + 2 ≤ 16777216 then some (.lst ((Txt.split a b).map PyData.str)) else none
  | _ => none
end
end SD

set_option Elab.async false
set_option linter.all false
set_option autoImplicit false
set_option maxRecDepth 100000
set_option maxHeartbeats 4000000
/-! SD, part X: targets that write into a list; enumerate, zip; what is read backwards; tables of the module. -/
namespace SD
open PySem PySem.Spec PyProof.Rows L2
/-! ### targets that may change what is owned -/
structure CH (X : Cx) (pr : Nat → Prop) (g : Tg) (tg : Expr) : Prop where
  run : ∃ t, PG X tg t ∧ ∀ (F H : Hp) (ρ : En) (σ : St) (d : D) (v : V) (Q : St → Hp → Prop) (ρ' : En), Rp X.K F H ρ σ → Rep X.K F d v → g d ρ = some ρ' →
    (∀ F' H' σ', PostS X.K pr F H ρ σ F' H' ρ' σ' → Q σ' H') → t v σ H Q
structure CHs (X : Cx) (pr : Nat → Prop) (g : List D → En → Option En) (tgs : List Expr) : Prop where
  run : ∃ t, PGs X tgs t ∧ ∀ (F H : Hp) (ρ : En) (σ : St) (ds : List D) (vs : List V) (Q : St → Hp → Prop) (ρ' : En), Rp X.K F H ρ σ → Reps X.K F ds vs → g ds ρ = some ρ' →
    (∀ F' H' σ', PostS X.K pr F H ρ σ F' H' ρ' σ' → Q σ' H') → t vs σ H Q
def gIx (i : Nat) (c : Int) : Tg := fun d ρ => match En.at ρ i with
  | .lst ds => (ixN ds.length c).map fun n => ρ.set i (.lst (ds.set n d))
  | _ => none
section
variable {X : Cx} {W : WX} {I : ExI} {pr : Nat → Prop} {pos pos' : Pos} {g : Tg} {gs : List D → En → Option En} {e tg : Expr} {es : List Expr} {f : M Slot}
theorem ch_of (h : CG X pr g e) : CH X pr g e := by
  obtain ⟨t, k, q⟩ := h.run
  exact ⟨t, k, fun F H ρ σ d v Q ρ' R r e z => q F H ρ σ d v Q ρ' R r e fun σ' P => z F H σ' P⟩
theorem chs_nil : CHs X pr gsNil [] := ⟨_, pgs_nil, fun F H ρ σ ds vs Q ρ' R r e q => by
  cases ds with
  | nil => cases e; rw [reps_nil] at r; exact ⟨r, q _ _ _ (PostS.refl R)⟩
  | cons d ds => cases e⟩
theorem chs_cons (h1 : CH X pr g e) (h2 : CHs X pr gs es)
    (hs : (assignEach (e :: es) X.env).map (·.2) = assign e X.env :: (assignEach es X.env).map (·.2) := by rfl) : CHs X pr (gsCons g gs) (e :: es) := by
  obtain ⟨t, k1, q1⟩ := h1.run
  obtain ⟨u, k2, q2⟩ := h2.run
  refine ⟨_, pgs_cons k1 k2 hs, fun F H ρ σ ds vs Q ρ' R r e q => ?_⟩
  cases ds with
  | nil => cases e
  | cons d ds =>
    rw [reps_cons] at r
    obtain ⟨v, vs', rfl, r1, r2⟩ := r
    have e' : ((g d ρ).bind fun ρ' => gs ds ρ') = some ρ' := e
    cases e1 : g d ρ with
    | none => rw [e1] at e'; cases e'
    | some ρ1 =>
      rw [e1] at e'
      exact ⟨v, vs', rfl, q1 F H ρ σ d v _ ρ1 R r1 e1 fun F1 H1 σ1 P1 => q2 F1 H1 ρ1 σ1 ds vs' Q ρ' P1.rp (Reps.mono P1.ext.sub _ _ r2) e' fun F2 H2 σ2 P2 => q F2 H2 σ2 (P1.trans P2)⟩
theorem ch_tup {n k : Nat} (hc : X.calm = true) (h : CHs X pr gs es) (hn : (assignEach es X.env).length = n := by rfl) (hst : (assignEach es X.env).findIdx? (·.1) = none := by rfl) : CH X pr (gTp n gs) (.Tuple es k pos) := by
  obtain ⟨t, k1, q1⟩ := h.run
  refine ⟨_, pg_tupE (n := n) hc k1 hn hst, fun F H ρ σ d v Q ρ' R r e q => ?_⟩
  cases d with
  | tuple ds =>
    rw [rep_tuple] at r
    obtain ⟨a, vs, rfl, sq, r⟩ := r
    have e' : (if ds.length = n then gs ds ρ else none) = some ρ' := e
    split at e'
    · rename_i hl
      exact ⟨a, vs, rfl, .inl (SqT.mono R.sub sq), by rw [← r.length]; exact hl, q1 F H ρ σ ds vs Q ρ' R r e' q⟩
    · cases e'
  | list ds =>
    rw [rep_list] at r
    obtain ⟨a, vs, rfl, sq, r⟩ := r
    have e' : (if ds.length = n then gs ds ρ else none) = some ρ' := e
    split at e'
    · rename_i hl
      exact ⟨a, vs, rfl, .inr (SqL.mono R.sub sq), by rw [← r.length]; exact hl, q1 F H ρ σ ds vs Q ρ' R r e' q⟩
    · cases e'
  | _ => cases e
theorem ch_ix {ex ei : Expr} {i : Nat} {c : Int} (hx : PE X ex (tVar i)) (hi : PE X ei (tC (.int c)))
    (ha : ∀ v, assign (.Subscript ex ei pos') X.env v = (do
      let ov ← holding [v] (eval ex X.env)
      let iv ← holding [v, ov] (eval ei X.env)
      standAt pos'
      holding [v, ov, iv] (setItem ov iv v)
      release [v, ov, iv] []) := by intro _; rfl) : CH X pr (gIx i c) (.Subscript ex ei pos') := by
  refine ⟨_, pg_sub hx hi set_list ha, fun F H ρ σ d v Q ρ' R r e q => ?_⟩
  unfold gIx at e
  split at e
  · rename_i ds e1
    cases en : ixN ds.length c with
    | none => rw [en] at e; cases e
    | some n =>
      rw [en] at e
      cases e
      obtain ⟨p', vs', h0', hv', hp', fp', r0'⟩ := lst_at R e1
      obtain ⟨R3, x3⟩ := slot_write (s := .lst (ds.set n d)) (o := .lst (vs'.set n v)) R h0' hv' rfl (fun q z => z) ⟨p', _, rfl, upd_same, fp', Reps.set r n r0'⟩
      exact ⟨.ref p', hv', p', vs', c, n, rfl, rfl, hp', by rw [← r0'.length]; exact en, q _ _ σ ⟨R3, x3, fun _ _ => rfl, rfl⟩⟩
  · cases e
theorem cs_asgH (hf : CE X W I f e) (hg : CH X pr g tg) (hs : swapsWithSole [tg] e pos.line X.env = pure false := by rfl) (hw : swappedStores [tg] e X.env = pure none := by rfl)
    (h1 : (assignEach [tg] X.env).map (·.2) = [assign tg X.env] := by rfl) : CS X W I pr (mAsg g f) (.Assign [tg] e pos) := by
  obtain ⟨t, k1, q1⟩ := hf.of
  obtain ⟨u, k2, q2⟩ := hg.run
  refine ⟨_, ps_asg k1 k2 hs hw h1, fun F H ρ σ E R z => ?_⟩
  unfold mAsg at z
  rw [Out.sat_bind] at z
  refine q1 F H ρ σ _ R (Out.sat_mono z (fun s ρ1 _ y F1 H1 v P => ?_) fun _ _ y => y.toC)
  cases e : s.data with
  | none => rw [e] at y; exact y.elim
  | some d =>
    simp only [e] at y
    cases e2 : g d ρ1 with
    | none => rw [e2] at y; exact y.elim
    | some ρ2 =>
      rw [e2] at y
      obtain ⟨F2, s2, r, R2, x⟩ := freeze P e
      exact q2 F2 H1 ρ1 σ d v _ ρ2 R2 r e2 fun F3 H3 σ' P' => y F3 H3 σ' (PostS.trans ⟨R2, x, fun _ _ => rfl, rfl⟩ P')
@[simp] theorem ev_gIx {i : Nat} {c : Int} {d : D} {ρ : En} : gIx i c d ρ = match En.at ρ i with
  | .lst ds => (ixN ds.length c).map fun n => ρ.set i (.lst (ds.set n d))
  | _ => none := rfl
end

/-! ### enumerate, zip -/
def numbered (ds : List D) : List D := (List.range ds.length).map fun i => .tuple [.int (i : Nat), ds.getD i .none]
def zipped (ds es : List D) : List D := (ds.zip es).map fun p => .tuple [p.1, p.2]
/-- what is numbered: a list of one's own or one that stays -/
def mEnum (f : M Slot) : M (List D) := fun ρ => (mVals [f] ρ).bind fun ds ρ' => match ds with
  | [.list es] => .ok (numbered es) ρ'
  | _ => .bad
def mZip (f h : M Slot) : M (List D) := fun ρ => (mVals [f, h] ρ).bind fun ds ρ' => match ds with
  | [.list es, .list gs] => .ok (zipped es gs) ρ'
  | [.tuple es, .tuple gs] => .ok (zipped es gs) ρ'
  | _ => .bad
section
variable {X : Cx} {W : WX} {I : ExI} {f h : M Slot} {e e2 : Expr} {elts : List Expr} {kk : Nat} {p pos tpos : Pos}
end
end SD

set_option Elab.async false
set_option linter.all false
set_option autoImplicit false
set_option maxRecDepth 100000
set_option maxHeartbeats 4000000
/-! SD, part Y: what is read backwards; tables of the module. -/
namespace HT
open PySem PySem.Spec PyProof.Rows L2
section
variable {prog : Program} {w : World} {A : Around} {E : Value → Shared → Prop} {s : Shared}
end
end HT
namespace SD
open PySem PySem.Spec PyProof.Rows L2
/-- xs[::-1], a list or a tuple -/
def tBack (K : Fr0) (te : TE) : TE := fun σ H Q => te σ H fun x H1 => ∃ a xs, x = .ref a ∧ ((SqL K H1 a xs ∧ ∀ p, H1 p = none → Q (.ref p) (upd H1 p (.lst xs.reverse))) ∨ (SqT K H1 a xs ∧ ∀ p, H1 p = none → Q (.ref p) (upd H1 p (.tup xs.reverse))))
def backO (ρ : En) (o : Option D) : Out Slot := match o with
  | some (.list ds) => .ok (.lst ds.reverse) ρ
  | some (.tuple ds) => .ok (.val (.tuple ds.reverse)) ρ
  | _ => .bad
def mBack (a : AE) : M Slot := fun ρ => (evA a ρ).bind fun g ρ1 => backO ρ1 (g.slot ρ1).data
section
variable {X : Cx} {W : WX} {I : ExI} {a : AE} {e : Expr}
end
end SD

set_option Elab.async false
set_option linter.all false
set_option autoImplicit false
set_option maxRecDepth 100000
set_option maxHeartbeats 4000000
/-! SD, part Z: a table of the module: texts by texts; the end of a proof with the script's bits. -/
namespace SD
open PySem PySem.Spec PyProof.Rows L2
def Entries (P : Params) : List DictEntry → List (Str × Str) → Prop
  | [], [] => True
  | e :: r, (k, v) :: t => (∃ tk, e.key = .str k tk) ∧ e.hash = PyData.keyHash P k ∧ (∃ tv, e.val = .str v tv) ∧ Entries P r t
  | _, _ => False
structure TabOk (K : Fr0) (w : World) (d : Addr) (tab : List (Str × Str)) : Prop where
  at_ : ∃ es n, K.lookup d = some ⟨.type "dict", none, .dict es n, #[]⟩ ∧ Entries w.params es.toList tab
  low : (d == sysModules) = false
theorem ent_lit {P : Params} : ∀ {es : List DictEntry} {t : List (Str × Str)}, Entries P es t → PySem.W.KeysLit P es
  | [], _, _ => trivial
  | e :: r, [], h => h.elim
  | e :: r, (k, v) :: t, ⟨⟨tk, h1⟩, h2, _, h4⟩ => ⟨⟨k, tk, h1, h2⟩, ent_lit h4⟩
theorem ent_find {P : Params} {z : Str} : ∀ {es : List DictEntry} {t : List (Str × Str)}, Entries P es t → (∀ v, t.lookup z = some v → ∃ e tv, es.find? (·.key.isStr z) = some e ∧ e.val = .str v tv) ∧ (t.lookup z = none → es.find? (·.key.isStr z) = none ∧ es.any (·.refKey) = false)
  | [], [], _ => ⟨fun v e => (by cases e), fun _ => ⟨rfl, rfl⟩⟩
  | [], (_ :: _), h => h.elim
  | e :: r, [], h => h.elim
  | e :: r, (k, v) :: t, ⟨⟨tk, h1⟩, h2, ⟨tv, h3⟩, h4⟩ => by
    obtain ⟨i1, i2⟩ := ent_find (z := z) h4
    have hk : e.key.isStr z = (k == z) := by rw [h1]; rfl
    have hr : e.refKey = false := by
      unfold DictEntry.refKey
      rw [h1]
    by_cases hz : z = k
    · subst hz
      have : (z == z) = true := by simp
      refine ⟨fun v' e' => ⟨e, tv, by rw [List.find?_cons_of_pos (by rw [hk]; simp)], ?_⟩, fun e' => ?_⟩
      · rw [List.lookup_cons_self] at e'
        cases e'
        exact h3
      · rw [List.lookup_cons_self] at e'
        cases e'
    · have hne : (z == k) = false := by simpa using hz
      have hne' : ¬ (e.key.isStr z = true) := by rw [hk]; simp [Ne.symm hz]
      rw [List.lookup_cons, hne]
      refine ⟨fun v' e' => ?_, fun e' => ?_⟩
      · obtain ⟨e0, tv0, a, b⟩ := i1 v' e'
        exact ⟨e0, tv0, by rw [List.find?_cons_of_neg (p := fun x : DictEntry => x.key.isStr z) hne']; exact a, b⟩
      · obtain ⟨a, b⟩ := i2 e'
        exact ⟨by rw [List.find?_cons_of_neg (p := fun x : DictEntry => x.key.isStr z) hne']; exact a, by rw [List.any_cons, hr, b]; rfl⟩
theorem TabOk.yes {K : Fr0} {w : World} {d : Addr} {tab : List (Str × Str)} (T : TabOk K w d tab) {z v : Str} (h : tab.lookup z = some v) : ∃ tv, PySem.W.nsIn K d z = some (some (.str v tv)) := by
  obtain ⟨es, n, l, e⟩ := T.at_
  obtain ⟨e0, tv, a, b⟩ := (ent_find (z := z) e).1 v h
  refine ⟨tv, ?_⟩
  unfold PySem.W.nsIn
  rw [l]
  simp only [a, b]
theorem TabOk.no {K : Fr0} {w : World} {d : Addr} {tab : List (Str × Str)} (T : TabOk K w d tab) {z : Str} (h : tab.lookup z = none) : PySem.W.nsIn K d z = some none := by
  obtain ⟨es, n, l, e⟩ := T.at_
  obtain ⟨a, b⟩ := (ent_find (z := z) e).2 h
  unfold PySem.W.nsIn
  rw [l]
  simp only [a, b]
  rfl
theorem TabOk.kd {K : Fr0} {w : World} {d : Addr} {tab : List (Str × Str)} (T : TabOk K w d tab) : ∃ es n, KDict K w d es n := by
  obtain ⟨es, n, l, e⟩ := T.at_
  exact ⟨es, n, l, ent_lit e, T.low⟩
/-- what is known of a table, by its name -/
def Tab (X : Cx) (x : Str) (tab : List (Str × Str)) : Prop := ∃ d, X.mg x = some (.ref d) ∧ TabOk X.K X.w d tab
def pTabIn (tab : List (Str × Str)) : List D → Option Slot
  | [.str z] => some (.val (.bool (tab.lookup z).isSome))
  | _ => none
def pTabNot (tab : List (Str × Str)) : List D → Option Slot
  | [.str z] => some (.val (.bool (!(tab.lookup z).isSome)))
  | _ => none
def pTabIx (tab : List (Str × Str)) : List D → Option Slot
  | [.str z] => (tab.lookup z).map fun v => .val (.str v)
  | _ => none
section
variable {X : Cx} {W : WX} {I : ExI} {a : AE} {e : Expr} {x : Str} {tab : List (Str × Str)} {p pos : Pos}
theorem sat1 {q : List D → Option Slot} {ρ : En} {F H : Hp} {σ : St} {Q Q2 : VK} {t : TE} (q1 : ∀ (F H : Hp) (ρ : En) (σ : St) (Q : VK), Rp X.K F H ρ σ →
    (evA a ρ).sat (fun g ρ' => ∀ F' H' v, Post X.K F H ρ σ F' H' ρ' g v → Q v H') (XC X W I F H (OwnE H ρ σ) σ) → t σ H Q) (R : Rp X.K F H ρ σ)
    (z : (mPrim q [a] ρ).sat (fun s ρ' => ∀ F' H' v, Post X.K F H ρ σ F' H' ρ' (.sl s) v → Q v H') (XC X W I F H (OwnE H ρ σ) σ)) (c : ∀ v H', rP X.K q [v] H' Q → Q2 v H') : t σ H Q2 := by
  have z2 : ((evA a ρ).bind fun g ρ1 => (Out.ok [] ρ1 : Out (List Arg)).bind fun gs ρ2 => Out.ok (g :: gs) ρ2).sat _ _ := prim_sat' z
  rw [Out.sat_bind] at z2
  exact q1 F H ρ σ _ R (Out.sat_mono z2 (fun g ρ' _ y F' H' v P => c v H' (y F' H' [v] (P.cons (PostL.nil P.rp)))) fun _ _ y => y)
/-- FORMS[word] -/
theorem ce_tabIx (T : Tab X x tab) (hg : Gl X x) (ha : CA X W I a e) (hs : PlainIx e) (hd : (x == ("__debug__" : Str)) = false := by decide) : CE X W I (mPrim (pTabIx tab) [a]) (.Subscript (.Name x p) e pos) := by
  obtain ⟨t, h1, q1⟩ := ha.run
  obtain ⟨d, m, ok⟩ := T
  obtain ⟨es, n, KD⟩ := ok.kd
  refine ce_mk (pe_ix ix_kdict (pe_glob (v := .ref d) hg m rfl hd) h1 hs) fun F H ρ σ Q R z => ?_
  show t σ H fun y H1 => _
  refine sat1 q1 R z fun v H' ⟨F1, ds, sl, sub, r, eq, q⟩ => ?_
  unfold pTabIx at eq
  split at eq
  · rename_i zz
    cases el : tab.lookup zz with
    | none => rw [el] at eq; cases eq
    | some u =>
      rw [el] at eq
      cases eq
      obtain ⟨v', hv, h⟩ := vals_one r
      cases hv
      obtain rfl := top_str h
      obtain ⟨tv, ez⟩ := ok.yes el
      exact ⟨d, zz, .str u, rfl, rfl, ⟨es, n, .str u tv, KD.at_, KD.lit, ez, ⟨tv, rfl⟩⟩, res_str sub q⟩
  · cases eq
end
@[simp] theorem p_tabIn {tab : List (Str × Str)} {z : Str} : pTabIn tab [.str z] = some (.val (.bool (tab.lookup z).isSome)) := rfl
@[simp] theorem p_tabNot {tab : List (Str × Str)} {z : Str} : pTabNot tab [.str z] = some (.val (.bool (!(tab.lookup z).isSome))) := rfl
@[simp] theorem p_tabIx {tab : List (Str × Str)} {z : Str} : pTabIx tab [.str z] = (tab.lookup z).map fun v => .val (.str v) := rfl

/-! ### the end of a proof: the script's bits are told -/
def spLawB (K : Fr0) : Sp := fun vs H Q _ => ∃ (a : Addr) (ns : List Int), vs = [.ref a] ∧ SqL K H a (ns.map V.int) ∧ ns.length ≤ 63 ∧ (∀ z ∈ ns, Builtin.Int.intBits z ≤ 1048576) ∧ Only H ∧ ∀ H', Q (.bl true) H'
theorem law_okB {P : Program} {w : World} {K : Fr0} {mg : Str → Option Value} {base : Heap} {I : ExI} {k : Nat} {f : Addr} {fd : FuncData} {g : M Slot} (F : FnOk P w K mg base (L2.CX P w) k f fd ["_law_script"] (spF K I 1 g))
    (h : ∀ ns : List Int, ns.length ≤ 63 → (∀ z ∈ ns, Builtin.Int.intBits z ≤ 1048576) → ∃ ρ, g [.val (.list (ns.map PyData.int))] = .ok (.val (.bool true)) ρ) : FnOk P w K mg base (L2.CX P w) k f fd ["_law_script"] (spLawB K) :=
  F.imp fun vs H Q E ⟨a, ns, e, hS, hl, hb, ho, q⟩ => by
    subst e
    refine ⟨rfl, H, [.val (.list (ns.map PyData.int))], ?_, ?_⟩
    · exact ⟨rfl, Same.refl _, fun i s v e1 e2 => by
        cases i with
        | zero =>
          simp at e1 e2
          subst e1 e2
          refine ⟨_, rfl, ?_⟩
          rw [rep_list]
          exact ⟨a, _, rfl, hS, reps_ints ns⟩
        | succ i => simp at e1, fun i j s t v u q e1 e2 e3 e4 o1 o2 => by
        cases i with
        | zero => simp at e1; subst e1; exact o1.elim
        | succ i => simp at e1⟩
    · obtain ⟨ρ, e⟩ := h ns hl hb
      rw [e]
      intro F' H' v P'
      have := (bool_of P'.ok.1 (b := true) rfl).1
      subst this
      exact q H'
theorem walkB {l : PySem.W.OpenLaw} {q : Program} {loose : List Str} {XP : (Str → Option Value) → Heap → Prop} {YP : World → Heap → Prop} {d : DefRec} {K : Params → PySem.W.Frag} (k : Nat) (hn : l.most = some 63) (hdf : d.params.defaults = []) (hr : Room k callerA)
    (hY : ∀ (w : World) (h : Heap), YP w h → (K w.params).In h)
    (F : ∀ (w : World) (mg : Str → Option Value) (fa : Addr) (h : Heap), (K w.params).In h → h.Ns mainGlobals mg → mg d.name = some (.ref fa) →
      ∃ fd : FuncData, (∀ (s : Shared) (u : Value), BindsTo s fd ⟨[u], []⟩ [("_law_script", u)]) ∧ ∀ base : Heap, (K w.params).In base → base.Ns mainGlobals mg → FnOk l.prog w (K w.params) mg base (L2.CX l.prog w) k fa fd ["_law_script"] (spLawB (K w.params))) :
    PySem.W.WalkO q loose XP YP l.row.toRowW d [] (fun f vs => PySem.call f vs) :=
  L2.walk_ofB (n := 63) (k := k) (x := "_law_script") (CX := fun w => L2.CX l.prog w) (sp := fun w => spLawB (K w.params)) hn (by decide) hdf hr hY F
    (fun _ _ a ns hl hb ho hS => ⟨a, ns, rfl, hS, hl, hb, ho, fun _ => rfl⟩) fun _ _ _ _ _ z => by
      obtain ⟨_, _, _, _, _, _, _, _, _, _, _, _, z⟩ := z
      exact z
end SD

set_option Elab.async false
set_option linter.all false
set_option autoImplicit false
set_option maxRecDepth 100000
set_option maxHeartbeats 4000000
/-! SD, part Q: further equations for runs. -/
namespace SD
open PySem PySem.Spec PyProof.Rows L2
/-! ### in, not in -/
section
variable {d x : D} {ds : List D}
@[simp] theorem hasD0 : hasD d [] = false := rfl
@[simp] theorem hasD1 : hasD d (x :: ds) = (PyData.eqv x d || hasD d ds) := rfl
@[simp] theorem inOk_iff : inOk d ds = (PyData.plain d && PyData.plainAll ds && decide (min (PyData.depthAll ds) (PyData.depth d) ≤ 60)) := rfl
@[simp] theorem p_inL : pIn [d, .list ds] = if inOk d ds then some (.val (.bool (hasD d ds))) else none := by
  cases d <;> rfl
@[simp] theorem p_inT : pIn [d, .tuple ds] = if inOk d ds then some (.val (.bool (hasD d ds))) else none := by
  cases d <;> rfl
@[simp] theorem p_notInL : pNotIn [d, .list ds] = if inOk d ds then some (.val (.bool (!hasD d ds))) else none := by
  cases d <;> rfl
@[simp] theorem p_notInT : pNotIn [d, .tuple ds] = if inOk d ds then some (.val (.bool (!hasD d ds))) else none := by
  cases d <;> rfl
end
/-! ### numbers -/
theorem goes_no {i j : Int} (h : 0 < j) (h2 : j < 18446744073709551616) : Builtin.divisionGoesByPylong i j = false := by
  have hl : j.natAbs.log2 < 64 := (Nat.log2_lt (by omega)).mpr (by omega)
  unfold Builtin.divisionGoesByPylong
  simp only [Bool.and_eq_false_imp, decide_eq_true_eq]
  intro h3
  exfalso
  have : (j == 0) = false := by simpa using (show j ≠ 0 by omega)
  rw [this] at h3
  simp at h3
  omega
@[simp] theorem p_divmod {i j : Int} : pDivmod [.int i, .int j] = if 0 < j ∧ Builtin.divisionGoesByPylong i j = false then some (.val (.tuple [.int (i / j), .int (i % j)])) else none := rfl
@[simp] theorem p_intI {i : Int} : pIntA [.int i] = some (.val (.int i)) := rfl
@[simp] theorem p_intB {b : Bool} : pIntA [.bool b] = some (.val (.int (if b then 1 else 0))) := rfl
@[simp] theorem p_max2 {i j : Int} : pMax2 [.int i, .int j] = some (.val (.int (if j > i then j else i))) := rfl
@[simp] theorem p_min2 {i j : Int} : pMin2 [.int i, .int j] = some (.val (.int (if j < i then j else i))) := rfl
@[simp] theorem p_isB {a b : Bool} : pIsB [.bool a, .bool b] = some (.val (.bool (decide (a = b)))) := rfl
@[simp] theorem p_notB {a b : Bool} : pNotB [.bool a, .bool b] = some (.val (.bool (!decide (a = b)))) := rfl
@[simp] theorem cpow60 : CPow 10 60 := cpow10 (n := 60) (by decide)
theorem lt_bits {i : Int} {n : Nat} (h : Builtin.Int.intBits i ≤ n) : i.natAbs < 2 ^ n := by
  unfold Builtin.Int.intBits at h
  split at h
  · rename_i e
    have : i = 0 := by simpa using e
    subst this
    exact Nat.two_pow_pos n
  · rename_i e
    have h0 : i.natAbs ≠ 0 := by
      intro z
      have : i = 0 := by omega
      exact e (by simp [this])
    exact Nat.lt_of_lt_of_le (Nat.lt_log2_self) (Nat.pow_le_pow_right (by decide) h)
theorem bits_lt {i : Int} {n : Nat} (h : i.natAbs < 2 ^ n) : Builtin.Int.intBits i ≤ n := intBits_le h
theorem bits_add {i j : Int} {n : Nat} (h : Builtin.Int.intBits i ≤ n) (h2 : Builtin.Int.intBits j ≤ n) : Builtin.Int.intBits (i + j) ≤ n + 1 := by
  have a := lt_bits h
  have b := lt_bits h2
  refine bits_lt ?_
  rw [Nat.pow_succ]
  omega
theorem bits_small {i : Int} (h : -(18446744073709551616 : Int) < i ∧ i < 18446744073709551616) : Builtin.Int.intBits i ≤ 64 := bits_lt (by omega)
/-! ### data -/
@[simp] theorem ev_slot {s : Slot} {ρ : En} : Arg.slot ρ (.sl s) = s := rfl
@[simp] theorem ev_slotN {i : Nat} {ρ : En} : Arg.slot ρ (.nm i) = En.at ρ i := rfl
theorem cut_nat {α : Type} (l : List α) (i j : Nat) : (l.drop (min i l.length)).take (min j l.length - min i l.length) = (l.drop i).take (j - i) := by
  by_cases h : i ≤ l.length
  · rw [show min i l.length = i by omega, List.take_eq_take_iff]
    simp
    omega
  · rw [show min i l.length = l.length by omega, List.drop_length, List.drop_eq_nil_of_le (by omega)]
    simp
/-- a slice with both ends written, of a tuple -/
theorem cutD_both (l : List D) (i j : Nat) : cutD l (some (i : Int)) (some (j : Int)) = (l.drop (min i l.length)).take (min j l.length - min i l.length) := by
  unfold cutD
  rw [sIx_some, sIx_some]
@[simp] theorem cutD_lit (l : List D) (i j : Nat) : cutD l (some (no_index (@OfNat.ofNat Int i _))) (some (no_index (@OfNat.ofNat Int j _))) = (l.drop i).take (j - i) := (cutD_both l i j).trans (cut_nat l i j)
@[simp] theorem cutD_lo (l : List D) (i : Nat) : cutD l (some (no_index (@OfNat.ofNat Int i _))) none = l.drop i := by
  show cutD l (some (i : Int)) none = l.drop i
  unfold cutD
  rw [sIx_some, HT.sIx_none]
  by_cases h : i ≤ l.length
  · rw [show min i l.length = i by omega, List.take_of_length_le (by simp)]
  · rw [show min i l.length = l.length by omega, List.drop_length, List.drop_eq_nil_of_le (by omega)]
    simp
@[simp] theorem cutD_hi (l : List D) (i : Nat) : cutD l none (some (no_index (@OfNat.ofNat Int i _))) = l.take i := cutD_to l i
@[simp] theorem p_slT {l h : Option Int} {ds : List D} : pSl l h (.tuple ds) = some (.val (.tuple (cutD ds l h))) := rfl
/-! ### slices of texts -/
theorem cutS_lo (l : List Nat) (k : Nat) : cutS (cs l) (some (k : Int)) none = cs (l.drop k) := by
  unfold cutS
  rw [cs_list, cs_len, sIx_some, HT.sIx_none]
  show cs _ = _
  rw [cs_eq]
  by_cases h : k ≤ l.length
  · rw [show min k l.length = k by omega, List.take_of_length_le (by simp)]
  · rw [show min k l.length = l.length by omega, List.drop_length, List.drop_eq_nil_of_le (by omega)]
    simp
theorem cutS_both (l : List Nat) (i j : Nat) : cutS (cs l) (some (i : Int)) (some (j : Int)) = cs ((l.drop i).take (j - i)) := by
  unfold cutS
  rw [cs_list, cs_len, sIx_some, sIx_some]
  show cs _ = _
  rw [cs_eq]
  exact cut_nat l i j
theorem p_slSlo {l : List Nat} (k : Nat) (h : l.length ≤ 16777216) : pSl (some (k : Int)) none (.str (cs l)) = some (.val (.str (cs (l.drop k)))) := by
  show (if lineOk (cs l).length then some (Slot.val (.str (cutS (cs l) (some (k : Int)) none))) else none) = _
  rw [cutS_lo, if_pos (by simpa [lineOk] using h)]
theorem p_slSb {l : List Nat} (i j : Nat) (h : l.length ≤ 16777216) : pSl (some (i : Int)) (some (j : Int)) (.str (cs l)) = some (.val (.str (cs ((l.drop i).take (j - i))))) := by
  show (if lineOk (cs l).length then some (Slot.val (.str (cutS (cs l) (some (i : Int)) (some (j : Int))))) else none) = _
  rw [cutS_both, if_pos (by simpa [lineOk] using h)]
@[simp] theorem p_mulS {a : Str} {n : Int} : pMul [.str a, .int n] = if a.length ≤ 4096 ∧ -4096 ≤ n ∧ n ≤ 4096 then some (.val (.str (Txt.mul a n))) else none := rfl
@[simp] theorem p_mulL {a : List D} {n : Int} : pMul [.list a, .int n] = if 0 ≤ n ∧ n ≤ 4096 ∧ lineOk (a.length * n.toNat) then some (.lst (List.replicate n.toNat a).flatten) else none := rfl
theorem mul_one' (c : Nat) : ∀ n : Nat, Txt.mul (cs [c]) (n : Int) = cs (List.replicate n c) := fun n => by
  unfold Txt.mul
  by_cases h : n = 0
  · subst h
    rw [if_pos (by decide)]
    rfl
  · rw [if_neg (by omega)]
    by_cases h1 : n = 1
    · subst h1
      rw [if_pos (by rfl)]
      rfl
    · rw [if_neg (by simp [cs_len]; omega), Int.toNat_natCast]
      have key : ∀ (m : Nat) (acc : Array Nat), (List.replicate m #[c]).foldl (· ++ ·) acc = acc ++ (List.replicate m c).toArray := by
        intro m
        induction m with
        | zero => intro acc; simp
        | succ m ih =>
          intro acc
          rw [List.replicate_succ, List.foldl_cons, ih, List.replicate_succ]
          apply Array.toList_inj.mp
          simp
      show (⟨(List.replicate n (cs [c]).cps).foldl (· ++ ·) #[]⟩ : Str) = _
      have : (cs [c]).cps = #[c] := rfl
      rw [this, key]
      simp [cs]
theorem p_ixG {l : List Nat} {n : Nat} (hn : n < l.length) (h : l.length ≤ 16777216) : pIx [.str (cs l), .int (n : Int)] = some (.val (.str (cs [l.getD n 0]))) := by
  have h1 : (n : Int) < l.length := by omega
  simp [atI, ixN, h1, hn, h]
def asgR (o : Option En) : Out Fl := match o with
  | some ρ => .ok .next ρ
  | none => .bad
@[simp] theorem ev_asgO {g : Tg} {d : D} {ρ : En} : asgO g ρ (some d) = asgR (g d ρ) := rfl
@[simp] theorem ev_asgR {ρ : En} : asgR (some ρ) = .ok .next ρ := rfl
/-! ### two sorted -/
theorem sort2 {a b : D} : sortD [a, b] = if W.dataLt b a then [b, a] else [a, b] := by
  have h : List.mergeSort [a, b] (W.dataLe false id) = if W.dataLe false id a b then [a, b] else [b, a] := by
    simp [List.mergeSort, List.MergeSort.Internal.splitInTwo, List.merge]
  unfold sortD
  rw [h]
  show (if (!W.dataLt b a) = true then _ else _) = _
  cases W.dataLt b a <;> rfl
@[simp] theorem txs_eqv {a b : List (List Nat)} : PyData.eqvAll (txs a) (txs b) = decide (a = b) := by
  induction a generalizing b with
  | nil => cases b <;> simp
  | cons k a ih => cases b with
    | nil => simp
    | cons l b => simp [ih]
end SD

set_option Elab.async false
set_option linter.all false
set_option autoImplicit false
set_option maxRecDepth 100000
set_option maxHeartbeats 4000000
/-! SD, part eB: sorted(set(xs)), xs a list of whole numbers. -/
namespace SD
open PySem PySem.Spec PyProof.Rows L2
/-- a new set, nothing in it -/
abbrev setNew (w : World) : Obj := { cls := .type "set", dict := none, data := .set #[] 0 (.fresh 0 0 (!w.params.followText "set-order")) }
section
variable {P : Program} {w : World} {A : Around} {E : Value → Shared → Prop} {s : Shared}
end
/-- the numbers of a list, rising, each once -/
def insI (n : Int) : List Int → List Int
  | [] => [n]
  | m :: l => if n < m then n :: m :: l else if n = m then m :: l else m :: insI n l
def setI (ns : List Int) : List Int := ns.foldr insI []
def intsOf : List D → Option (List Int)
  | [] => some []
  | .int i :: ds => (intsOf ds).map (i :: ·)
  | _ => none
@[simp] theorem intsOf_map (ns : List Int) : intsOf (ns.map PyData.int) = some ns := by
  induction ns with
  | nil => rfl
  | cons n ns ih => simp [intsOf, ih]
section
variable {X : Cx}
/-- sorted(set(e)) -/
def ssO (ρ : En) (o : Option D) : Out Slot := match o with
  | some (.list ds) => (match intsOf ds with
    | some ns => if ns.length < 60 then .ok (.lst ((setI ns).map PyData.int)) ρ else .bad
    | none => .bad)
  | some (.tuple ds) => (match intsOf ds with
    | some ns => if ns.length < 60 then .ok (.lst ((setI ns).map PyData.int)) ρ else .bad
    | none => .bad)
  | _ => .bad
def mSortedSet (f : M Slot) : M Slot := fun ρ => (f ρ).bind fun s ρ1 => ssO ρ1 s.data
variable {W : WX} {I : ExI} {f : M Slot} {e : Expr} {p1 p2 p3 p4 : Pos}
end
end SD

set_option Elab.async false
set_option linter.all false
set_option autoImplicit false
set_option maxRecDepth 100000
set_option maxHeartbeats 4000000
/-! SD, part eA: sum, dict(pairs), d.get, d.pop, xs.insert, xs.extend, xs.index, range with a step. -/
namespace SD
open PySem PySem.Spec PyProof.Rows L2
section
variable {X : Cx}
def pSum : List D → Option Slot
  | [.list ds] => (intsOf ds).map fun ns => .val (.int ns.sum)
  | _ => none
/-! ### dict of a list of pairs -/
def pairsOf : List D → Option (List (Key × D))
  | [] => some []
  | .tuple [k, d] :: ds => (keyOf k).bind fun q => (pairsOf ds).map ((q, d) :: ·)
  | _ => none
theorem reps_pairs {K : Fr0} {F : Hp} : ∀ {ds : List D} {vs : List V} {kvs : List (Key × D)}, Reps K F ds vs → pairsOf ds = some kvs →
    ∃ (ps : List Addr) (es : List (Key × V)), vs = ps.map V.ref ∧ Paired (fun p kv => SqT K F p [kV kv.1, kv.2]) ps es ∧ RepQ K F kvs es
  | [], vs, kvs, r, e => by cases e; rw [reps_nil] at r; subst r; exact ⟨[], [], rfl, .nil, repQ_nil.mpr rfl⟩
  | d :: ds, vs, kvs, r, e => by
    rw [reps_cons] at r
    obtain ⟨v, w, rfl, r1, r2⟩ := r
    match d, e with
    | .tuple [k, x], e =>
      have e' : ((keyOf k).bind fun q => (pairsOf ds).map ((q, x) :: ·)) = some kvs := e
      cases ek : keyOf k with
      | none => rw [ek] at e'; cases e'
      | some q =>
        cases ep : pairsOf ds with
        | none => rw [ek, ep] at e'; cases e'
        | some kvs' =>
          rw [ek, ep] at e'
          cases e'
          obtain ⟨ps, es, rfl, h1, h2⟩ := reps_pairs r2 ep
          rw [rep_tuple] at r1
          obtain ⟨a, us, rfl, t1, t2⟩ := r1
          rw [reps_cons] at t2
          obtain ⟨y, t, rfl, t2, t3⟩ := t2
          rw [reps_cons] at t3
          obtain ⟨z, t', rfl, t3, t4⟩ := t3
          rw [reps_nil] at t4
          subst t4
          rw [keyOf_v t2 ek] at t1
          exact ⟨a :: ps, (q, z) :: es, rfl, .cons t1 h1, repQ_cons.mpr ⟨z, es, rfl, t3, h2⟩⟩
def pDictOf : List D → Option Slot
  | [.list ds] => (pairsOf ds).map fun kvs => .dic (mergeQ [] kvs)
  | _ => none
theorem paired_mono {K : Fr0} {F F' : Hp} (s : Same F F') : ∀ {ps : List Addr} {es : List (Key × V)}, Paired (fun p kv => SqT K F p [kV kv.1, kv.2]) ps es → Paired (fun p kv => SqT K F' p [kV kv.1, kv.2]) ps es
  | _, _, .nil => .nil
  | _, _, .cons a b => .cons (SqT.mono s a) (paired_mono s b)
theorem call_dictOfP (hc : X.calm = true) : CallR X (.type "dict") (rP X.K pDictOf) := by
  intro pins s σ H xs us Q J r ⟨F, ds, sl, sub, rr, e, q⟩
  unfold pDictOf at e
  split at e
  · rename_i es
    cases en : pairsOf es with
    | none => rw [en] at e; cases e
    | some kvs =>
      rw [en] at e
      cases e
      obtain ⟨v, rfl, h⟩ := vals_one rr
      obtain ⟨a, vs, rfl, s1, r1⟩ := top_list h
      obtain ⟨ps, es', rfl, h1, h2⟩ := reps_pairs r1 en
      exact call_dictP hc pins s σ H _ us Q J r ⟨a, ps, es', rfl, s1, paired_mono sub h1, fun p np => q _ _ _ (.dic sub (RepQ.merge h2 (repQ_nil.mpr rfl)) np)⟩
  · cases e
end
/-! ### d.get(k, x) -/
def get1O (ρ : En) (o : Option D) (k : Option Key) : Out Slot := match o with
  | some (.dict kvs) => (match k with
    | some q => .ok (.val ((dGet kvs q).getD .none)) ρ
    | none => .bad)
  | _ => .bad
def mGet1 (a : AE) (fk : M Slot) : M Slot := fun ρ => (evA a ρ).bind fun g ρ1 => match (g.slot ρ1).data with
  | some (.dict _) => (fk ρ1).bind fun s ρ2 => get1O ρ2 (g.slot ρ2).data (s.data.bind keyOf)
  | _ => .bad
def get2O (ρ : En) (o : Option D) (k : Option Key) (x : Option D) : Out Slot := match o with
  | some (.dict kvs) => (match k with
    | some q => (match x with
      | some d => .ok (.val ((dGet kvs q).getD d)) ρ
      | none => .bad)
    | none => .bad)
  | _ => .bad
def mGet2 (a : AE) (fk fx : M Slot) : M Slot := fun ρ => (evA a ρ).bind fun g ρ1 => match (g.slot ρ1).data with
  | some (.dict _) => (fk ρ1).bind fun s ρ2 => match s.data.bind keyOf with
    | some q => (fx ρ2).bind fun t ρ3 => get2O ρ3 (g.slot ρ3).data (some q) t.data
    | none => .bad
  | _ => .bad
/-- what goes to a list or dict by a method, x a name -/
def popO (i : Nat) (ρ : En) (k : Option Key) (s : Slot) : Out Slot := match k with
  | some q => (match s with
    | .dic kvs => (match valQ kvs q with
      | some d => .ok (.val d) (ρ.set i (.dic (dropQ kvs q)))
      | none => .bad)
    | _ => .bad)
  | none => .bad
def mDPop (i : Nat) (fk : M Slot) : M Slot := fun ρ => match En.at ρ i with
  | .dic _ => (fk ρ).bind fun s ρ1 => popO i ρ1 (s.data.bind keyOf) (En.at ρ1 i)
  | _ => .bad
section
variable {X : Cx} {W : WX} {I : ExI} {pr : Nat → Prop} {i k : Nat} {e ea eb ec ex : Expr} {f h : M Slot} {a : AE} {pos apos pos' : Pos}
theorem ce_dpop (hx : PE X ex (tVar i)) (hk : CE X W I f eb) (m : M1 X ex "pop" apos eb pos) : CE X W I (mDPop i f) (.Call (.Attribute ex "pop" apos) [eb] [] pos) := by
  obtain ⟨u, h2, q2⟩ := hk.of
  refine ce_mk (pe_dpop1 hx h2 m) fun F H ρ σ Q R z => ?_
  unfold mDPop at z
  split at z
  · rename_i kvs0 e0
    obtain ⟨p, es0, h0, hv, hp, fp, r0⟩ := dic_at R e0
    refine ⟨.ref p, hv, p, rfl, .inl ⟨es0, .inl hp⟩, ?_⟩
    rw [Out.sat_bind] at z
    refine q2 F H ρ σ _ R (Out.sat_mono z (fun s ρ1 _ y F1 H1 v P => ?_) fun _ _ y => y)
    unfold popO at y
    split at y
    · rename_i kq ek
      cases es : s.data with
      | none => rw [es] at ek; cases ek
      | some kd =>
        rw [es] at ek
        split at y
        · rename_i kvs e1
          split at y
          · rename_i d eq
            obtain ⟨p', es', h0', hv', hp', fp', r0'⟩ := dic_at P.rp e1
            rw [hv] at hv'; cases hv'
            rcases RepQ.val kq r0' with ⟨d', v', e3, e4, r⟩ | ⟨e3, _⟩
            · rw [eq] at e3
              cases e3
              obtain ⟨R3, x3⟩ := slot_write (s := .dic (dropQ kvs kq)) (o := .dK (L2.dropK es' kq)) P.rp h0' hv rfl (fun q z => z) ⟨p, _, rfl, upd_same, fp', RepQ.drop kq r0'⟩
              have ext2 : Ext F H (OwnE H ρ σ) F1 (upd H1 p (.dK (L2.dropK es' kq))) (OwnE (upd H1 p (.dK (L2.dropK es' kq))) (ρ1.set i (.dic (dropQ kvs kq))) σ) := (post_argB P).ext.trans x3
              have PP : Post X.K F H ρ σ F1 (upd H1 p (.dK (L2.dropK es' kq))) (ρ1.set i (.dic (dropQ kvs kq))) (.sl (.val d)) v' := by
                refine ⟨R3, ⟨⟨v', rfl, r⟩, fun _ z => False.elim z⟩, ext2.weak (fun _ h => h) fun q h => ?_⟩
                rcases h with h | h
                · exact False.elim h
                · exact .inl h
              exact ⟨es', kq, v', hp', keyOf_top (arg_top P.rp P.ok es) ek, e4, y F1 _ v' PP⟩
            · rw [eq] at e3; cases e3
          · exact False.elim y
        · exact False.elim y
    · exact False.elim y
  · exact False.elim z
end
end SD

set_option Elab.async false
set_option linter.all false
set_option autoImplicit false
set_option maxRecDepth 100000
set_option maxHeartbeats 4000000
/-! SD, part eC: xs.insert(0, e), xs.extend(e), xs.index(y), range(a, b, -1), tuple(range(..)). -/
namespace SD
open PySem PySem.Spec PyProof.Rows L2
def insO (i : Nat) (ρ : En) (o : Option D) (s : Slot) : Out Slot := match o with
  | some d => (match s with
    | .lst ds => if ds.length < 16777216 then .ok (.val .none) (ρ.set i (.lst (d :: ds))) else .bad
    | _ => .bad)
  | none => .bad
/-- x.insert(0, e) -/
def mInsert0 (i : Nat) (f : M Slot) : M Slot := fun ρ => match En.at ρ i with
  | .lst _ => (f ρ).bind fun s ρ1 => insO i ρ1 s.data (En.at ρ1 i)
  | _ => .bad
def extO (i : Nat) (ρ : En) (t : Slot) (s : Slot) : Out Slot := match t with
  | .lst es => (match s with
    | .lst ds => if ds.length + es.length ≤ 16777216 then .ok (.val .none) (ρ.set i (.lst (ds ++ es))) else .bad
    | _ => .bad)
  | _ => .bad
/-- x.extend(e), e a new list -/
def mExtend (i : Nat) (f : M Slot) : M Slot := fun ρ => match En.at ρ i with
  | .lst _ => (f ρ).bind fun s ρ1 => extO i ρ1 s (En.at ρ1 i)
  | _ => .bad
section
variable {X : Cx} {W : WX} {I : ExI} {pr : Nat → Prop} {i k : Nat} {e ea eb ex e0 : Expr} {f : M Slot} {a b : AE} {pos apos pos' : Pos}
/-! ### xs.index(y) of flat data -/
def flatD : D → Bool
  | .none => true
  | .bool _ => true
  | .int _ => true
  | .str _ => true
  | _ => false
def firstAt (d : D) : List D → Option Nat
  | [] => none
  | e :: ds => if PyData.eqv e d then some 0 else (firstAt d ds).map (· + 1)
def pIndex : List D → Option Slot
  | [.list ds, d] => if flatD d = true ∧ ds.all flatD = true then (firstAt d ds).map fun j => .val (.int (j : Nat)) else none
  | _ => none
/-- a list's method that changes nothing -/
def mMethL (p : List D → Option Slot) (a : AE) (as : List AE) : M Slot := fun ρ => (evA a ρ).bind fun g ρ1 => match (g.slot ρ1).data with
  | some (.list _) => (evAs as ρ1).bind fun gs ρ2 => match (argDs ρ2 (g :: gs)).bind p with
    | some s => .ok s ρ2
    | none => .bad
  | _ => .bad
/-! ### range(a, b, -1), tuple(range(..)), list(range(..)) -/
def rangeBO (ρ : En) (o : Option (List D)) : Out (List D) := match o with
  | some [.int i, .int j, .int k] => if k = -1 ∧ -(2 ^ 62) ≤ i ∧ i < 2 ^ 62 ∧ -(2 ^ 62) ≤ j ∧ j < 2 ^ 62 then .ok ((List.range (i - j).toNat).map fun n => PyData.int (i + (n : Nat) * (-1))) ρ else .bad
  | _ => .bad
def mRange3 (as : List AE) : M (List D) := fun ρ => (evAs as ρ).bind fun gs ρ' => rangeBO ρ' (argDs ρ' gs)
def tupRO (ρ : En) (o : Option D) : Out Slot := match o with
  | some (.int j) => if j ≤ 16777216 ∧ -(2 ^ 62) ≤ j then .ok (.val (.tuple ((List.range (j - 0).toNat).map fun i => PyData.int (0 + (i : Nat))))) ρ else .bad
  | _ => .bad
/-- tuple(range(n)) -/
def mTupRange (f : M Slot) : M Slot := fun ρ => (f ρ).bind fun s ρ1 => tupRO ρ1 s.data
end
end SD

set_option Elab.async false
set_option linter.all false
set_option autoImplicit false
set_option maxRecDepth 100000
set_option maxHeartbeats 4000000
/-! SD: try whose body raises nothing; shifts. -/
namespace SD
open PySem PySem.Spec PyProof.Rows L2
def mTry (g : M Fl) : M Fl := fun ρ => (g ρ).noexc
section
variable {X : Cx} {W : WX} {I : ExI} {pr : Nat → Prop} {N : List Str} {sc : Scope} {cf : Str → Bool} {k : Nat} {g : M Fl} {body : List Stmt} {h₀ : ExceptHandler} {hs : List ExceptHandler} {pos : Pos}
end
/-! ### shifts -/
def pShl : List D → Option Slot
  | [.int i, .int j] => if i.natAbs < 2 ^ 64 ∧ 0 ≤ j ∧ j ≤ 100000 then some (.val (.int (i * 2 ^ j.toNat))) else none
  | _ => none
def pShr : List D → Option Slot
  | [.int i, .int j] => if 0 ≤ j then some (.val (.int (i / 2 ^ j.toNat))) else none
  | _ => none
section
variable {X : Cx} {k : Nat}
end
end SD

set_option Elab.async false
set_option linter.all false
set_option autoImplicit false
set_option maxRecDepth 100000
set_option maxHeartbeats 4000000
/-! SD: a comprehension over a list that this frame owns, that stays its own. -/
namespace SD
open PySem PySem.Spec PyProof.Rows L2
/-- J walks the data ds, as long as what others own stays -/
structure ItOkP (K : Fr0) (F H : Hp) (O : Addr → Prop) (ds : List D) (J : It) : Prop where
  go : ∀ (i : Nat) (F1 H1 : Hp), Same F F1 → Same F1 H1 → (∀ a o, H a = some o → ¬ O a → H1 a = some o) → i < ds.length → J.go i H1 ∧ ∀ x H2, J.yld i H1 x H2 →
    ∃ F2, Same F1 F2 ∧ Same F2 H2 ∧ Same H1 H2 ∧ (∀ a, F1 a = none → F2 a ≠ none → H1 a = none) ∧ ∃ d, ds[i]? = some d ∧ Rep K F2 d x
  stop : ∀ (i : Nat) (F1 H1 : Hp), Same F F1 → Same F1 H1 → (∀ a o, H a = some o → ¬ O a → H1 a = some o) → ds.length ≤ i → J.stop i H1
section
variable {X : Cx} {W : WX} {I : ExI} {N : List Str} {sc : Scope} {cf : Str → Bool} {k : Nat}
/-- [.. for .. in name]: the name's list stays its own -/
def mCompN (i : Nat) (vs : List Nat) (g : Tg) (c : M Bool) (f : M Slot) : M Slot := fun ρ => match En.at ρ i with
  | .lst ds => (mComp (fun ρ => .ok ds ρ) vs g c f (ρ.set i .emp)).bind fun s ρ2 => .ok s (ρ2.set i (.lst ds))
  | _ => mComp (mIter (mVar i)) vs g c f ρ
variable {tg iter elt : Expr} {ifs : List Expr} {g : Tg} {cnd : M Bool} {f : M Slot} {scope : Scope} {own : List (Str × Nat)} {pos : Pos} {i : Nat}
end
end SD

set_option Elab.async false
set_option linter.all false
set_option autoImplicit false
set_option maxRecDepth 100000
set_option maxHeartbeats 4000000
/-! SD: a, b = e1, e2 with plain local names: the model stores such rows by a swap, without the tuple. -/
namespace SD
open PySem PySem.Spec PyProof.Rows L2
section
variable {X : Cx} {W : WX} {I : ExI} {N : List Str} {sc : Scope} {cf : Str → Bool} {k : Nat} {pr : Nat → Prop}
def starB : Expr → Bool
  | .Starred .. => true
  | _ => false
theorem sw2_of {env : Env} {x y : Str} {a b : Expr} {px py pt pt2 : Pos} {kt k2 : Nat} (hk : env.scope.kind = .function) (hx : env.scope.names.lookup x = some .local) (hy : env.scope.names.lookup y = some .local)
    (hxy : (x == y) = false) (hl : (py.line == px.line) = true) (hsa : starB a = false) (hsb : starB b = false) (hf : [a, b].all (foldedForSure 8) = false) (hc : [a, b].all (constantsAlone 8) = false) :
    swappedStores [.Tuple [.Name x px, .Name y py] kt pt] (.Tuple [a, b] k2 pt2) env = pure (some [x, y]) := by
  have hb : env.blockKind = .function := by unfold Env.blockKind; rw [hk]; rfl
  have ex : env.kindOf x = some .local := hx
  have ey : env.kindOf y = some .local := hy
  have l0 : (px.line == px.line) = true := by simp
  unfold swappedStores
  simp only [List.length_cons, List.length_nil, hb, hf, hc, List.head?_cons, Option.map_some, Option.getD_some, Expr.pos, ex, ey, hl, l0, List.filterMap_cons, List.filterMap_nil]
  have hyx : ¬ x = y := by simpa using hxy
  have hyx' : ¬ y = x := fun h => hyx h.symm
  have ed : ([x, y] : List Str).eraseDups = [x, y] := by simp [List.eraseDups_cons, hyx, hyx']
  simp [ed]
  intro h
  exfalso
  rcases h with h | h
  · clear hf hc; cases a <;> first | (exact Bool.noConfusion h) | (exact Bool.noConfusion hsa)
  · clear hf hc; cases b <;> first | (exact Bool.noConfusion h) | (exact Bool.noConfusion hsb)
end
end SD

set_option Elab.async false
set_option linter.all false
set_option autoImplicit false
set_option maxRecDepth 100000
set_option maxHeartbeats 4000000
/-! SD, part eQ: equations for the operations of SeA, SeB, SeC. -/
namespace SD
open PySem PySem.Spec PyProof.Rows L2
def get1K2 (g : Arg) (o : Out Slot) : Out Slot := o.bind fun s ρ2 => get1O ρ2 (g.slot ρ2).data (s.data.bind keyOf)
def get1D (g : Arg) (fk : M Slot) (ρ : En) (o : Option D) : Out Slot := match o with
  | some (.dict _) => get1K2 g (fk ρ)
  | _ => .bad
def get1K (fk : M Slot) (o : Out Arg) : Out Slot := o.bind fun g ρ1 => get1D g fk ρ1 (g.slot ρ1).data
def get2K3 (g : Arg) (q : Key) (o : Out Slot) : Out Slot := o.bind fun t ρ3 => get2O ρ3 (g.slot ρ3).data (some q) t.data
def get2Q (g : Arg) (fx : M Slot) (ρ : En) (o : Option Key) : Out Slot := match o with
  | some q => get2K3 g q (fx ρ)
  | none => .bad
def get2K2 (g : Arg) (fx : M Slot) (o : Out Slot) : Out Slot := o.bind fun s ρ2 => get2Q g fx ρ2 (s.data.bind keyOf)
def get2D (g : Arg) (fk fx : M Slot) (ρ : En) (o : Option D) : Out Slot := match o with
  | some (.dict _) => get2K2 g fx (fk ρ)
  | _ => .bad
def get2K (fk fx : M Slot) (o : Out Arg) : Out Slot := o.bind fun g ρ1 => get2D g fk fx ρ1 (g.slot ρ1).data
def popK (i : Nat) (o : Out Slot) : Out Slot := o.bind fun s ρ1 => popO i ρ1 (s.data.bind keyOf) (En.at ρ1 i)
def ssK (o : Out Slot) : Out Slot := o.bind fun s ρ1 => ssO ρ1 s.data
def insK (i : Nat) (o : Out Slot) : Out Slot := o.bind fun s ρ1 => insO i ρ1 s.data (En.at ρ1 i)
def extK (i : Nat) (o : Out Slot) : Out Slot := o.bind fun s ρ1 => extO i ρ1 s (En.at ρ1 i)
def trK (o : Out Slot) : Out Slot := o.bind fun s ρ1 => tupRO ρ1 s.data
def r3K (o : Out (List Arg)) : Out (List D) := o.bind fun gs ρ' => rangeBO ρ' (argDs ρ' gs)
def mlK2 (p : List D → Option Slot) (g : Arg) (o : Out (List Arg)) : Out Slot := o.bind fun gs ρ2 => primO ρ2 ((argDs ρ2 (g :: gs)).bind p)
def mlD (p : List D → Option Slot) (g : Arg) (as : List AE) (ρ : En) (o : Option D) : Out Slot := match o with
  | some (.list _) => mlK2 p g (evAs as ρ)
  | _ => .bad
def mlK (p : List D → Option Slot) (as : List AE) (o : Out Arg) : Out Slot := o.bind fun g ρ1 => mlD p g as ρ1 (g.slot ρ1).data
section
variable {a : AE} {as : List AE} {fk fx f : M Slot} {ρ : En} {s t : Slot} {g : Arg} {gs : List Arg} {kv : List (D × D)} {q : Key} {d : D} {i : Nat} {kvs : List (Key × D)} {ds es : List D} {ns : List Int} {p : List D → Option Slot}
@[simp] theorem ev_get1 : mGet1 a fk ρ = get1K fk (evA a ρ) := by
  unfold mGet1 get1K
  congr 1
@[simp] theorem ev_get1K : get1K fk (.ok g ρ) = get1D g fk ρ (g.slot ρ).data := rfl
@[simp] theorem ev_get1D : get1D g fk ρ (some (.dict kv)) = get1K2 g (fk ρ) := rfl
@[simp] theorem ev_get1K2 : get1K2 g (.ok s ρ) = get1O ρ (g.slot ρ).data (s.data.bind keyOf) := rfl
@[simp] theorem ev_get1O : get1O ρ (some (.dict kv)) (some q) = .ok (.val ((dGet kv q).getD .none)) ρ := rfl
@[simp] theorem ev_get2 : mGet2 a fk fx ρ = get2K fk fx (evA a ρ) := by
  unfold mGet2 get2K
  congr 1
@[simp] theorem ev_get2K : get2K fk fx (.ok g ρ) = get2D g fk fx ρ (g.slot ρ).data := rfl
@[simp] theorem ev_get2D : get2D g fk fx ρ (some (.dict kv)) = get2K2 g fx (fk ρ) := rfl
@[simp] theorem ev_get2K2 : get2K2 g fx (.ok s ρ) = get2Q g fx ρ (s.data.bind keyOf) := rfl
@[simp] theorem ev_get2Q : get2Q g fx ρ (some q) = get2K3 g q (fx ρ) := rfl
@[simp] theorem ev_get2K3 : get2K3 g q (.ok s ρ) = get2O ρ (g.slot ρ).data (some q) s.data := rfl
@[simp] theorem ev_get2O : get2O ρ (some (.dict kv)) (some q) (some d) = .ok (.val ((dGet kv q).getD d)) ρ := rfl
@[simp] theorem ev_pop : mDPop i fk ρ = match En.at ρ i with | .dic _ => popK i (fk ρ) | _ => .bad := by
  unfold mDPop popK
  cases En.at ρ i <;> rfl
@[simp] theorem ev_popK : popK i (.ok s ρ) = popO i ρ (s.data.bind keyOf) (En.at ρ i) := rfl
@[simp] theorem ev_popO : popO i ρ (some q) (.dic kvs) = match valQ kvs q with | some d => .ok (.val d) (ρ.set i (.dic (dropQ kvs q))) | none => .bad := rfl
@[simp] theorem ev_ss : mSortedSet f ρ = ssK (f ρ) := rfl
@[simp] theorem ev_ssK : ssK (.ok s ρ) = ssO ρ s.data := rfl
@[simp] theorem ev_ssO : ssO ρ (some (.list (ns.map PyData.int))) = if ns.length < 60 then .ok (.lst ((setI ns).map PyData.int)) ρ else .bad := by
  unfold ssO
  simp
@[simp] theorem ev_ssOT : ssO ρ (some (.tuple (ns.map PyData.int))) = if ns.length < 60 then .ok (.lst ((setI ns).map PyData.int)) ρ else .bad := by
  unfold ssO
  simp
@[simp] theorem ev_ssO0 : ssO ρ (some (.list [])) = .ok (.lst []) ρ := rfl
@[simp] theorem ev_ins : mInsert0 i f ρ = match En.at ρ i with | .lst _ => insK i (f ρ) | _ => .bad := by
  unfold mInsert0 insK
  cases En.at ρ i <;> rfl
@[simp] theorem ev_insK : insK i (.ok s ρ) = insO i ρ s.data (En.at ρ i) := rfl
@[simp] theorem ev_insO : insO i ρ (some d) (.lst ds) = if ds.length < 16777216 then .ok (.val .none) (ρ.set i (.lst (d :: ds))) else .bad := rfl
@[simp] theorem ev_ext : mExtend i f ρ = match En.at ρ i with | .lst _ => extK i (f ρ) | _ => .bad := by
  unfold mExtend extK
  cases En.at ρ i <;> rfl
@[simp] theorem ev_extK : extK i (.ok s ρ) = extO i ρ s (En.at ρ i) := rfl
@[simp] theorem ev_extO : extO i ρ (.lst es) (.lst ds) = if ds.length + es.length ≤ 16777216 then .ok (.val .none) (ρ.set i (.lst (ds ++ es))) else .bad := rfl
@[simp] theorem ev_tr : mTupRange f ρ = trK (f ρ) := rfl
@[simp] theorem ev_trK : trK (.ok s ρ) = tupRO ρ s.data := rfl
@[simp] theorem ev_trO {j : Int} : tupRO ρ (some (.int j)) = if j ≤ 16777216 ∧ -4611686018427387904 ≤ j then .ok (.val (.tuple ((List.range j.toNat).map fun i : Nat => PyData.int (i : Int)))) ρ else .bad := by
  unfold tupRO
  simp
@[simp] theorem ev_r3 : mRange3 as ρ = r3K (evAs as ρ) := rfl
@[simp] theorem ev_r3K : r3K (.ok gs ρ) = rangeBO ρ (argDs ρ gs) := rfl
@[simp] theorem ev_r3O {i j k : Int} : rangeBO ρ (some [.int i, .int j, .int k]) = if k = -1 ∧ -4611686018427387904 ≤ i ∧ i < 4611686018427387904 ∧ -4611686018427387904 ≤ j ∧ j < 4611686018427387904 then .ok ((List.range (i - j).toNat).map fun n : Nat => PyData.int (i + (n : Nat) * (-1))) ρ else .bad := rfl
@[simp] theorem ev_ml : mMethL p a as ρ = mlK p as (evA a ρ) := by
  unfold mMethL mlK
  congr 1
@[simp] theorem ev_mlK : mlK p as (.ok g ρ) = mlD p g as ρ (g.slot ρ).data := rfl
@[simp] theorem ev_mlD : mlD p g as ρ (some (.list ds)) = mlK2 p g (evAs as ρ) := rfl
@[simp] theorem ev_mlK2 : mlK2 p g (.ok gs ρ) = primO ρ ((argDs ρ (g :: gs)).bind p) := rfl
@[simp] theorem p_sum : pSum [.list ds] = (intsOf ds).map fun ns => .val (.int ns.sum) := rfl
@[simp] theorem ints0 : intsOf [] = some [] := rfl
@[simp] theorem ints1 {n : Int} : intsOf (.int n :: ds) = (intsOf ds).map (n :: ·) := rfl
@[simp] theorem p_dictOf : pDictOf [.list ds] = (pairsOf ds).map fun kvs => .dic (mergeQ [] kvs) := rfl
@[simp] theorem pairs0 : pairsOf [] = some [] := rfl
@[simp] theorem pairs1 {k : D} : pairsOf (.tuple [k, d] :: ds) = (keyOf k).bind fun q => (pairsOf ds).map ((q, d) :: ·) := rfl
@[simp] theorem p_tupleD : pTuple [.dict kv] = some (.val (.tuple (kv.map (·.1)))) := rfl
@[simp] theorem p_listD : pList [.dict kv] = some (.lst (kv.map (·.1))) := rfl
@[simp] theorem p_ixD {k : D} : pIx [.dict kv, k] = (keyOf k).bind fun q => (dGet kv q).map .val := by
  cases k <;> rfl
@[simp] theorem p_inDN : pIn [.none, .dict kv] = some (.val (.bool false)) := rfl
@[simp] theorem p_notInDN : pNotIn [.none, .dict kv] = some (.val (.bool true)) := rfl
@[simp] theorem p_inDS {x : Str} : pIn [.str x, .dict kv] = some (.val (.bool (dGet kv (.inr x)).isSome)) := rfl
@[simp] theorem p_inDI {x : Int} : pIn [.int x, .dict kv] = some (.val (.bool (dGet kv (.inl x)).isSome)) := rfl
@[simp] theorem p_notInDS {x : Str} : pNotIn [.str x, .dict kv] = some (.val (.bool (!(dGet kv (.inr x)).isSome))) := rfl
@[simp] theorem p_notInDI {x : Int} : pNotIn [.int x, .dict kv] = some (.val (.bool (!(dGet kv (.inl x)).isSome))) := rfl
@[simp] theorem dGet_q : dGet (qD kvs) q = valQ kvs q := by
  unfold dGet valQ qD
  rw [List.find?_map, Option.map_map]
  have : ((fun kv : D × D => keyIs kv.1 q) ∘ fun p : Key × D => (kD p.1, p.2)) = fun kv => decide (kv.1 = q) := funext fun kv => keyIs_kD
  rw [this]
  rfl
@[simp] theorem qD_keys : (qD kvs).map (·.1) = kvs.map fun kv => kD kv.1 := by simp [qD]
@[simp] theorem kD_int {n : Int} : kD (.inl n) = .int n := rfl
@[simp] theorem kD_str {n : Str} : kD (.inr n) = .str n := rfl
@[simp] theorem valQ0 : valQ ([] : List (Key × D)) q = none := rfl
@[simp] theorem valQ1 {k : Key} : valQ ((k, d) :: kvs) q = if k = q then some d else valQ kvs q := by
  unfold valQ
  rw [List.find?_cons]
  by_cases h : k = q <;> simp [h]
end
/-! ### dicts -/
section
variable {kvs : List (Key × D)} {q k : Key} {d : D}
theorem valQ_put : valQ (putQ kvs k d) q = if q = k then some d else valQ kvs q := by
  unfold putQ
  split
  · rename_i h
    induction kvs with
    | nil => cases h
    | cons p r ih =>
      obtain ⟨a, x⟩ := p
      rw [List.any_cons] at h
      rw [List.map_cons]
      by_cases e : a = k
      · subst e
        simp only [if_true, valQ1]
        by_cases e2 : a = q
        · simp [e2]
        · simp only [if_neg e2, if_neg (Ne.symm e2)]
          clear ih h
          induction r with
          | nil => rfl
          | cons p r ih =>
            obtain ⟨b, y⟩ := p
            rw [List.map_cons]
            by_cases e3 : b = a
            · subst e3; simp only [if_true, valQ1, if_neg e2]; exact ih
            · simp only [if_neg e3, valQ1]; rw [ih]
      · simp only [if_neg e, valQ1]
        have h' : (r.any fun kv => decide (kv.1 = k)) = true := by simpa [e] using h
        rw [ih h']
        by_cases e2 : a = q
        · subst e2; simp [e]
        · simp [e2]
  · rename_i h
    have h0 : ∀ x : D, (k, x) ∉ kvs := by simpa using h
    have h' : ∀ p ∈ kvs, p.1 ≠ k := fun p hp e => h0 p.2 (by rw [← e]; exact hp)
    clear h0
    clear h
    induction kvs with
    | nil => simp [eq_comm]
    | cons p r ih =>
      obtain ⟨a, x⟩ := p
      rw [List.cons_append, valQ1, valQ1, ih fun p hp => h' p (List.mem_cons_of_mem _ hp)]
      have := h' _ List.mem_cons_self
      by_cases e2 : a = q
      · subst e2; simp [this]
      · simp [e2]
theorem valQ_drop : valQ (dropQ kvs k) q = if q = k then none else valQ kvs q := by
  unfold dropQ
  induction kvs with
  | nil => simp
  | cons p r ih =>
    obtain ⟨a, x⟩ := p
    rw [List.filter_cons]
    by_cases e : a = k
    · subst e
      simp only [ne_eq, not_true_eq_false, decide_false, Bool.false_eq_true, if_false, ih, valQ1]
      by_cases e2 : q = a
      · simp [e2]
      · simp [e2, Ne.symm e2]
    · simp only [ne_eq, e, not_false_eq_true, decide_true, if_true, valQ1, ih]
      by_cases e2 : a = q
      · subst e2; simp [e]
      · simp [e2]
end
/-! ### try, shifts -/
section
variable {g : M Fl} {ρ : En} {f : Fl} {i j : Int}
def tryK (o : Out Fl) : Out Fl := o.noexc
@[simp] theorem ev_try : mTry g ρ = tryK (g ρ) := rfl
@[simp] theorem ev_tryK : tryK (.ok f ρ) = .ok f ρ := rfl
@[simp] theorem p_shl : pShl [.int i, .int j] = if i.natAbs < 2 ^ 64 ∧ 0 ≤ j ∧ j ≤ 100000 then some (.val (.int (i * 2 ^ j.toNat))) else none := rfl
@[simp] theorem p_shr : pShr [.int i, .int j] = if 0 ≤ j then some (.val (.int (i / 2 ^ j.toNat))) else none := rfl
end
/-! ### a list that is walked and stays -/
section
variable {i : Nat} {vs : List Nat} {g : Tg} {c : M Bool} {f : M Slot} {ρ : En} {ds : List D} {s : Slot}
def backL (i : Nat) (ds : List D) (o : Out Slot) : Out Slot := o.bind fun s ρ2 => .ok s (ρ2.set i (.lst ds))
@[simp] theorem ev_backL : backL i ds (.ok s ρ) = .ok s (ρ.set i (.lst ds)) := rfl
@[simp] theorem ev_compN : mCompN i vs g c f ρ = match En.at ρ i with
    | .lst ds => backL i ds (compR vs g c f ds (ρ.set i .emp))
    | _ => mComp (mIter (mVar i)) vs g c f ρ := by
  unfold mCompN backL
  cases En.at ρ i with
  | lst ds =>
    have e : mComp (fun ρ => .ok ds ρ) vs g c f (ρ.set i .emp) = compR vs g c f ds (ρ.set i .emp) := by
      unfold mComp compR compO
      show ((compL vs g c f ds [] (wipeE (ρ.set i .emp) vs)).noexc).bind _ = _
      cases compL vs g c f ds [] (wipeE (ρ.set i .emp) vs) <;> rfl
    show (mComp (fun ρ => .ok ds ρ) vs g c f (ρ.set i .emp)).bind _ = (compR vs g c f ds (ρ.set i .emp)).bind _
    rw [e]
  | emp => rfl
  | val d => rfl
  | dic kv => rfl
  | exn x => rfl
  | pr _ _ => rfl
  | obj _ _ _ _ => rfl
  | fro _ _ _ => rfl
  | box _ _ => rfl
end
/-- what lies anew is owned by none -/
theorem Rp.fresh {K : Fr0} {F H : Hp} {ρ : En} {σ : St} {p q : Addr} {o : HO} (R : Rp K F H ρ σ) (n : H p = none) : OwnE (upd H p o) ρ σ q ↔ OwnE H ρ σ q :=
  R.extO (F' := F) (O := fun _ => False) (O' := fun _ => False) ⟨Same.refl _, fun a h h' => absurd h h', fun a o h _ => same_upd n a o h, fun a h => h.elim⟩ fun _ _ z => z
end SD

set_option Elab.async false
set_option linter.all false
set_option autoImplicit false
set_option maxRecDepth 100000
set_option maxHeartbeats 4000000
namespace K
open PySem PySem.Spec PyProof.Rows L2 SD
abbrev M := SD.M
abbrev Slot := SD.Slot
def t_FORMS : List (Str × Str) := [("put", "npk"), ("take", "n"), ("move", "np"), ("count", "nk"), ("name", "nn"), ("split", "nnpk"), ("join", "nn")]
@[simp] theorem lit_61_62_63_64_65_66_67_68 : Str.ofString "abcdefgh" = cs [97, 98, 99, 100, 101, 102, 103, 104] := by decide +kernel
@[simp] theorem lit_63_6f_75_6e_74 : Str.ofString "count" = cs [99, 111, 117, 110, 116] := by decide +kernel
@[simp] theorem lit_6a_6f_69_6e : Str.ofString "join" = cs [106, 111, 105, 110] := by decide +kernel
@[simp] theorem lit_6d_65 : Str.ofString "me" = cs [109, 101] := by decide +kernel
@[simp] theorem lit_6d_6f_76_65 : Str.ofString "move" = cs [109, 111, 118, 101] := by decide +kernel
@[simp] theorem lit_6e : Str.ofString "n" = cs [110] := by decide +kernel
@[simp] theorem lit_6e_61_6d_65 : Str.ofString "name" = cs [110, 97, 109, 101] := by decide +kernel
@[simp] theorem lit_6e_6b : Str.ofString "nk" = cs [110, 107] := by decide +kernel
@[simp] theorem lit_6e_6e : Str.ofString "nn" = cs [110, 110] := by decide +kernel
@[simp] theorem lit_6e_6e_70_6b : Str.ofString "nnpk" = cs [110, 110, 112, 107] := by decide +kernel
@[simp] theorem lit_6e_70 : Str.ofString "np" = cs [110, 112] := by decide +kernel
@[simp] theorem lit_6e_70_6b : Str.ofString "npk" = cs [110, 112, 107] := by decide +kernel
@[simp] theorem lit_70 : Str.ofString "p" = cs [112] := by decide +kernel
@[simp] theorem lit_70_75_74 : Str.ofString "put" = cs [112, 117, 116] := by decide +kernel
@[simp] theorem lit_73_70_6c_69_74 : Str.ofString "split" = cs [115, 112, 108, 105, 116] := by decide +kernel
@[simp] theorem lit_74_61_6b_65 : Str.ofString "take" = cs [116, 97, 107, 101] := by decide +kernel
@[simp] theorem lit_79_6f_75 : Str.ofString "you" = cs [121, 111, 117] := by decide +kernel
/-! is_whole -/
def b_is_whole : M Fl := mRet (mAndV (mPrim (pIsi .int) [.nm 0]) (mNotV (mPrim (pIsi .bool) [.nm 0])))
def m_is_whole : M Slot := mDef 1 0 [0] b_is_whole
/-! is_name -/
@[simp] def b_is_name_t1 : M Fl := mRet (mPrim pAll [.ex (mComp (mIter (mVar 0)) [1] (gNm 1) (mYes) (mPrim pIn [.nm 1, .ex (mC (.str "abcdefghijklmnopqrstuvwxyz"))]))])
def b_is_name : M Fl := mSeq (mIf (mOr (mNot (mTest (mPrim (pIsi .str) [.nm 0]))) (mNot (mTest (mChain pLe pLe (.ex (mC (.int 1))) (.ex (mPrim pLen [.nm 0])) (.ex (mC (.int 8))))))) (mRet (mC (.bool false))) (mNext)) (b_is_name_t1)
def m_is_name : M Slot := mDef 1 1 [0] b_is_name
/-! is_place -/
def b_is_place : M Fl := mRet (mAndV (mCall m_is_whole [.nm 0]) (mChain pLe pLe (.ex (mC (.int 0))) (.nm 0) (.ex (mC (.int 999)))))
def m_is_place : M Slot := mDef 1 0 [0] b_is_place
/-! is_part -/
@[simp] def b_is_part_t2 : M Fl := mRet (mCall m_is_whole [.nm 0])
@[simp] def b_is_part_t1 : M Fl := mSeq (mIf (mTest (mPrim pEq [.nm 1, .ex (mC (.str "p"))])) (mRet (mCall m_is_place [.nm 0])) (mNext)) (b_is_part_t2)
def b_is_part : M Fl := mSeq (mIf (mTest (mPrim pEq [.nm 1, .ex (mC (.str "n"))])) (mRet (mCall m_is_name [.nm 0])) (mNext)) (b_is_part_t1)
def m_is_part : M Slot := mDef 2 0 [0, 1] b_is_part
/-! is_deed -/
def b_is_deed_e1 : M Slot := mCall m_is_part [.ex (mPrim pIx [.nm 0, .ex (mPrim pAdd [.nm 2, .ex (mC (.int 1))])]), .ex (mPrim pIx [.nm 1, .nm 2])]
@[simp] def b_is_deed_t3 : M Fl := mRet (mOrV (mPrim pNe [.ex (mSlice (.nm 1) (none) (some (.ex (mC (.int 2))))), .ex (mC (.str "nn"))]) (mPrim pNe [.ex (mPrim pIx [.nm 0, .ex (mC (.int 1))]), .ex (mPrim pIx [.nm 0, .ex (mC (.int 2))])]))
@[simp] def b_is_deed_t2 : M Fl := mSeq (mIf (mOr (mTest (mPrim pNe [.ex (mPrim pLen [.nm 1]), .ex (mPrim pSub [.ex (mPrim pLen [.nm 0]), .ex (mC (.int 1))])])) (mNot (mTest (mPrim pAll [.ex (mComp (mRange1 (mPrim pLen [.nm 1])) [2] (gNm 2) (mYes) (b_is_deed_e1))])))) (mRet (mC (.bool false))) (mNext)) (b_is_deed_t3)
@[simp] def b_is_deed_t1 : M Fl := mSeq (mSet 1 (mPrim (pTabIx t_FORMS) [.ex (mPrim pIx [.nm 0, .ex (mC (.int 0))])])) (b_is_deed_t2)
def b_is_deed : M Fl := mSeq (mIf (mOr (mNot (mTest (mPrim (pIsi .tuple) [.nm 0]))) (mOr (mTest (mPrim pLt [.ex (mPrim pLen [.nm 0]), .ex (mC (.int 2))])) (mOr (mNot (mTest (mPrim (pIsi .str) [.ex (mPrim pIx [.nm 0, .ex (mC (.int 0))])]))) (mTest (mPrim (pTabNot t_FORMS) [.ex (mPrim pIx [.nm 0, .ex (mC (.int 0))])]))))) (mRet (mC (.bool false))) (mNext)) (b_is_deed_t1)
def m_is_deed : M Slot := mDef 1 2 [0] b_is_deed
/-! names_in -/
def b_names_in : M Fl := mRet (mSlice (.nm 0) (some (.ex (mC (.int 1)))) (some (.ex (mPrim pAdd [.ex (mC (.int 1)), .ex (mMeth pCount (.ex (mPrim (pTabIx t_FORMS) [.ex (mPrim pIx [.nm 0, .ex (mC (.int 0))])])) [.ex (mC (.str "n"))])]))))
def m_names_in : M Slot := mDef 1 0 [0] b_names_in
/-! made_by -/
@[simp] def b_made_by_t2 : M Fl := mRet (mC .none)
@[simp] def b_made_by_t1 : M Fl := mSeq (mIf (mTest (mPrim pIn [.ex (mPrim pIx [.nm 0, .ex (mC (.int 0))]), .ex (mTup [mC (.str "name"), mC (.str "split")])])) (mRet (mPrim pIx [.nm 0, .ex (mC (.int 2))])) (mNext)) (b_made_by_t2)
def b_made_by : M Fl := mSeq (mIf (mTest (mPrim pEq [.ex (mPrim pIx [.nm 0, .ex (mC (.int 0))]), .ex (mC (.str "put"))])) (mRet (mPrim pIx [.nm 0, .ex (mC (.int 1))])) (mNext)) (b_made_by_t1)
def m_made_by : M Slot := mDef 1 0 [0] b_made_by
/-! thing_of -/
def b_thing_of_f1 : M Fl := mIf (mTest (mPrim pEq [.ex (mPrim pIx [.nm 2, .ex (mC (.int 0))]), .nm 1])) (mRetV 2) (mNext)
@[simp] def b_thing_of_t1 : M Fl := mRet (mC .none)
def b_thing_of : M Fl := mSeq (mFor (mIter (mVar 0)) (gNm 2) (b_thing_of_f1)) (b_thing_of_t1)
def m_thing_of : M Slot := mDef 2 1 [0, 1] b_thing_of
/-! without_name -/
def b_without_name : M Fl := mRet (mPrim pTuple [.ex (mComp (mIter (mVar 0)) [2] (gNm 2) (mTest (mPrim pNe [.ex (mPrim pIx [.nm 2, .ex (mC (.int 0))]), .nm 1])) (mVar 2))])
def m_without_name : M Slot := mDef 2 1 [0, 1] b_without_name
/-! with_thing -/
def b_with_thing : M Fl := mRet (mPrim pTuple [.ex (mPrim pSorted [.ex (mPrim pAdd [.ex (mCall m_without_name [.nm 0, .ex (mPrim pIx [.nm 1, .ex (mC (.int 0))])]), .ex (mTup [mVar 1])])])])
def m_with_thing : M Slot := mDef 2 0 [0, 1] b_with_thing
/-! first_amiss -/
def b_first_amiss_f1 : M Fl := mIf (mTest (mPrim pNe [.ex (mPrim pIsN [.ex (mCall m_thing_of [.nm 0, .nm 2]), .ex (mC .none)]), .ex (mPrim pEq [.nm 2, .ex (mCall m_made_by [.nm 1])])])) (mRetV 2) (mNext)
@[simp] def b_first_amiss_t1 : M Fl := mRet (mC .none)
def b_first_amiss : M Fl := mSeq (mFor (mIter (mCall m_names_in [.nm 1])) (gNm 2) (b_first_amiss_f1)) (b_first_amiss_t1)
def m_first_amiss : M Slot := mDef 2 1 [0, 1] b_first_amiss
/-! apply_deed -/
@[simp] def b_apply_deed_t9 : M Fl := mRet (mCall m_with_thing [.ex (mCall m_without_name [.nm 0, .ex (mPrim pIx [.nm 1, .ex (mC (.int 2))])]), .ex (mTup [mVar 3, mVar 4, mPrim pAdd [.nm 5, .nm 6]])])
@[simp] def b_apply_deed_t8 : M Fl := mSeq (mSet 6 (mPrim pIx [.ex (mCall m_thing_of [.nm 0, .ex (mPrim pIx [.nm 1, .ex (mC (.int 2))])]), .ex (mC (.int 2))])) (b_apply_deed_t9)
@[simp] def b_apply_deed_t7 : M Fl := mSeq (mIf (mTest (mPrim pEq [.nm 2, .ex (mC (.str "split"))])) (mRet (mCall m_with_thing [.ex (mCall m_with_thing [.nm 0, .ex (mTup [mVar 3, mVar 4, mPrim pSub [.nm 5, .ex (mPrim pIx [.nm 1, .ex (mC (.int 4))])]])]), .ex (mSlice (.nm 1) (some (.ex (mC (.int 2)))) (none))])) (mNext)) (b_apply_deed_t8)
@[simp] def b_apply_deed_t6 : M Fl := mSeq (mIf (mTest (mPrim pEq [.nm 2, .ex (mC (.str "name"))])) (mRet (mCall m_with_thing [.ex (mCall m_without_name [.nm 0, .nm 3]), .ex (mTup [mPrim pIx [.nm 1, .ex (mC (.int 2))], mVar 4, mVar 5])])) (mNext)) (b_apply_deed_t7)
@[simp] def b_apply_deed_t5 : M Fl := mSeq (mIf (mTest (mPrim pEq [.nm 2, .ex (mC (.str "count"))])) (mRet (mCall m_with_thing [.nm 0, .ex (mTup [mVar 3, mVar 4, mPrim pAdd [.nm 5, .ex (mPrim pIx [.nm 1, .ex (mC (.int 2))])]])])) (mNext)) (b_apply_deed_t6)
@[simp] def b_apply_deed_t4 : M Fl := mSeq (mIf (mTest (mPrim pEq [.nm 2, .ex (mC (.str "move"))])) (mRet (mCall m_with_thing [.nm 0, .ex (mTup [mVar 3, mPrim pIx [.nm 1, .ex (mC (.int 2))], mVar 5])])) (mNext)) (b_apply_deed_t5)
@[simp] def b_apply_deed_t3 : M Fl := mSeq (mAsg (gTp 3 (gsCons (gNm 3) (gsCons (gNm 4) (gsCons (gNm 5) (gsNil))))) (mCall m_thing_of [.nm 0, .ex (mPrim pIx [.nm 1, .ex (mC (.int 1))])])) (b_apply_deed_t4)
@[simp] def b_apply_deed_t2 : M Fl := mSeq (mIf (mTest (mPrim pEq [.nm 2, .ex (mC (.str "take"))])) (mRet (mCall m_without_name [.nm 0, .ex (mPrim pIx [.nm 1, .ex (mC (.int 1))])])) (mNext)) (b_apply_deed_t3)
@[simp] def b_apply_deed_t1 : M Fl := mSeq (mIf (mTest (mPrim pEq [.nm 2, .ex (mC (.str "put"))])) (mRet (mCall m_with_thing [.nm 0, .ex (mSlice (.nm 1) (some (.ex (mC (.int 1)))) (none))])) (mNext)) (b_apply_deed_t2)
def b_apply_deed : M Fl := mSeq (mSet 2 (mPrim pIx [.nm 1, .ex (mC (.int 0))])) (b_apply_deed_t1)
def m_apply_deed : M Slot := mDef 2 5 [0, 1] b_apply_deed
/-! back_of -/
@[simp] def b_back_of_t7 : M Fl := mRet (mPrim pAdd [.ex (mTup [mC (.str "split"), mPrim pIx [.nm 1, .ex (mC (.int 1))]]), .ex (mCall m_thing_of [.nm 0, .ex (mPrim pIx [.nm 1, .ex (mC (.int 2))])])])
@[simp] def b_back_of_t6 : M Fl := mSeq (mIf (mTest (mPrim pEq [.nm 2, .ex (mC (.str "split"))])) (mRet (mTup [mC (.str "join"), mPrim pIx [.nm 1, .ex (mC (.int 1))], mPrim pIx [.nm 1, .ex (mC (.int 2))]])) (mNext)) (b_back_of_t7)
@[simp] def b_back_of_t5 : M Fl := mSeq (mIf (mTest (mPrim pEq [.nm 2, .ex (mC (.str "name"))])) (mRet (mTup [mC (.str "name"), mPrim pIx [.nm 1, .ex (mC (.int 2))], mPrim pIx [.nm 1, .ex (mC (.int 1))]])) (mNext)) (b_back_of_t6)
@[simp] def b_back_of_t4 : M Fl := mSeq (mIf (mTest (mPrim pEq [.nm 2, .ex (mC (.str "count"))])) (mRet (mTup [mC (.str "count"), mPrim pIx [.nm 1, .ex (mC (.int 1))], mPrim pSub [.ex (mC (.int 0)), .ex (mPrim pIx [.nm 1, .ex (mC (.int 2))])]])) (mNext)) (b_back_of_t5)
@[simp] def b_back_of_t3 : M Fl := mSeq (mIf (mTest (mPrim pEq [.nm 2, .ex (mC (.str "move"))])) (mRet (mTup [mC (.str "move"), mPrim pIx [.nm 1, .ex (mC (.int 1))], mPrim pIx [.ex (mCall m_thing_of [.nm 0, .ex (mPrim pIx [.nm 1, .ex (mC (.int 1))])]), .ex (mC (.int 1))]])) (mNext)) (b_back_of_t4)
@[simp] def b_back_of_t2 : M Fl := mSeq (mIf (mTest (mPrim pEq [.nm 2, .ex (mC (.str "take"))])) (mRet (mPrim pAdd [.ex (mTup [mC (.str "put")]), .ex (mCall m_thing_of [.nm 0, .ex (mPrim pIx [.nm 1, .ex (mC (.int 1))])])])) (mNext)) (b_back_of_t3)
@[simp] def b_back_of_t1 : M Fl := mSeq (mIf (mTest (mPrim pEq [.nm 2, .ex (mC (.str "put"))])) (mRet (mTup [mC (.str "take"), mPrim pIx [.nm 1, .ex (mC (.int 1))]])) (mNext)) (b_back_of_t2)
def b_back_of : M Fl := mSeq (mSet 2 (mPrim pIx [.nm 1, .ex (mC (.int 0))])) (b_back_of_t1)
def m_back_of : M Slot := mDef 2 1 [0, 1] b_back_of
/-! look -/
@[simp] def b_look_t2 : M Fl := mIf (mTest (mPrim pNotN [.nm 2, .ex (mC .none)])) ((fun _ => Out.bad)) (mNext)
@[simp] def b_look_t1 : M Fl := mSeq (mSet 2 (mCall m_first_amiss [.nm 0, .nm 1])) (b_look_t2)
def b_look : M Fl := mSeq (mIf (mNot (mTest (mCall m_is_deed [.nm 1]))) ((fun _ => Out.bad)) (mNext)) (b_look_t1)
def m_look : M Slot := mDef 2 1 [0, 1] b_look
/-! done -/
@[simp] def b_done_t1 : M Fl := mRet (mCall m_apply_deed [.nm 0, .nm 1])
def b_done : M Fl := mSeq (mDrop (mCall m_look [.nm 0, .nm 1])) (b_done_t1)
def m_done : M Slot := mDef 2 0 [0, 1] b_done
/-! back_deed -/
@[simp] def b_back_deed_t1 : M Fl := mRet (mCall m_back_of [.nm 0, .nm 1])
def b_back_deed : M Fl := mSeq (mDrop (mCall m_look [.nm 0, .nm 1])) (b_back_deed_t1)
def m_back_deed : M Slot := mDef 2 0 [0, 1] b_back_deed
/-! _law_mixed -/
def b_l_mixed : M Fl := mRet (mPrim pMod [.ex (mPrim pMul [.nm 0, .ex (mC (.int 915965594177219015054603514932384110774149374281672134266497))]), .ex (mPrim pPow [.ex (mC (.int 10)), .ex (mC (.int 60))])])
def m_l_mixed : M Slot := mDef 1 0 [0] b_l_mixed
/-! _law_take -/
@[simp] def b_l_take_t1 : M Fl := mRetV 2
def b_l_take : M Fl := mSeq (mAsg (gTp 2 (gsCons (gIx 0 0) (gsCons (gNm 2) (gsNil)))) (mPrim pDivmod [.ex (mPrim pIx [.nm 0, .ex (mC (.int 0))]), .nm 1])) (b_l_take_t1)
def m_l_take : M Slot := mDef 2 1 [0, 1] b_l_take
/-! _law_names -/
@[simp] def b_l_names_t7 : M Fl := mRet (mComp (mRange1 (mVar 1)) [6] (gNm 6) (mYes) (mPrim pAdd [.ex (mSlice (.nm 2) (some (.ex (mC (.int 3)))) (some (.ex (mPrim pAdd [.ex (mC (.int 3)), .nm 5])))), .ex (mPrim pIx [.nm 2, .nm 6])]))
@[simp] def b_l_names_t6 : M Fl := mSeq (mIf (mTest (mPrim pEq [.nm 4, .ex (mC (.int 1))])) (mRet (mComp (mRange1 (mVar 1)) [6] (gNm 6) (mYes) (mPrim pAdd [.ex (mPrim pIx [.nm 2, .nm 6]), .ex (mSlice (.nm 2) (some (.ex (mC (.int 3)))) (some (.ex (mPrim pAdd [.ex (mC (.int 3)), .nm 5]))))]))) (mNext)) (b_l_names_t7)
@[simp] def b_l_names_t5 : M Fl := mSeq (mIf (mTest (mPrim pEq [.nm 4, .ex (mC (.int 0))])) (mRet (mComp (mRange1 (mVar 1)) [6] (gNm 6) (mYes) (mPrim pMul [.ex (mPrim pIx [.nm 2, .ex (mPrim pDiv [.nm 6, .ex (mC (.int 8))])]), .ex (mPrim pAdd [.ex (mC (.int 1)), .ex (mPrim pMod [.nm 6, .ex (mC (.int 8))])])]))) (mNext)) (b_l_names_t6)
@[simp] def b_l_names_t4 : M Fl := mSeq (mSet 5 (mCall m_l_take [.nm 0, .ex (mC (.int 8))])) (b_l_names_t5)
@[simp] def b_l_names_t3 : M Fl := mSeq (mSet 4 (mCall m_l_take [.nm 0, .ex (mC (.int 3))])) (b_l_names_t4)
@[simp] def b_l_names_t2 : M Fl := mSeq (mSet 2 (mPrim pAdd [.ex (mSlice (.nm 2) (some (.nm 3)) (none)), .ex (mSlice (.nm 2) (none) (some (.nm 3)))])) (b_l_names_t3)
@[simp] def b_l_names_t1 : M Fl := mSeq (mSet 3 (mCall m_l_take [.nm 0, .ex (mC (.int 26))])) (b_l_names_t2)
def b_l_names : M Fl := mSeq (mSet 2 (mC (.str "abcdefghijklmnopqrstuvwxyz"))) (b_l_names_t1)
def m_l_names : M Slot := mDef 2 5 [0, 1] b_l_names
/-! _law_deed -/
@[simp] def b_l_deed_t12 : M Fl := mRet (mTup [mC (.str "count"), mVar 6, mVar 5])
@[simp] def b_l_deed_t11 : M Fl := mSeq (mIf (mAnd (mTest (mPrim pEq [.nm 3, .ex (mC (.str "join"))])) (mTest (mPrim pNe [.nm 7, .ex (mLst [])]))) (mRet (mTup [mC (.str "join"), mVar 6, mPrim pIx [.nm 7, .ex (mCall m_l_take [.nm 0, .ex (mPrim pLen [.nm 7])])]])) (mNext)) (b_l_deed_t12)
@[simp] def b_l_deed_t10 : M Fl := mSeq (mIf (mTest (mPrim pEq [.nm 3, .ex (mC (.str "split"))])) (mRet (mTup [mC (.str "split"), mVar 6, mPrim pIx [.nm 2, .ex (mC (.int 0))], mVar 4, mVar 5])) (mNext)) (b_l_deed_t11)
@[simp] def b_l_deed_t9 : M Fl := mSeq (mIf (mTest (mPrim pEq [.nm 3, .ex (mC (.str "name"))])) (mRet (mTup [mC (.str "name"), mVar 6, mPrim pIx [.nm 2, .ex (mC (.int 0))]])) (mNext)) (b_l_deed_t10)
@[simp] def b_l_deed_t8 : M Fl := mSeq (mIf (mTest (mPrim pEq [.nm 3, .ex (mC (.str "take"))])) (mRet (mTup [mC (.str "take"), mVar 6])) (mNext)) (b_l_deed_t9)
@[simp] def b_l_deed_t7 : M Fl := mSeq (mIf (mTest (mPrim pEq [.nm 3, .ex (mC (.str "move"))])) (mRet (mTup [mC (.str "move"), mVar 6, mVar 4])) (mNext)) (b_l_deed_t8)
@[simp] def b_l_deed_t6 : M Fl := mSeq (mSet 7 (mComp (mIter (mVar 1)) [8] (gNm 8) (mTest (mPrim pNe [.nm 8, .nm 6])) (mVar 8))) (b_l_deed_t7)
@[simp] def b_l_deed_t5 : M Fl := mSeq (mSet 6 (mPrim pIx [.nm 1, .ex (mCall m_l_take [.nm 0, .ex (mPrim pLen [.nm 1])])])) (b_l_deed_t6)
@[simp] def b_l_deed_t4 : M Fl := mSeq (mIf (mTest (mPrim pEq [.nm 3, .ex (mC (.str "put"))])) (mRet (mTup [mC (.str "put"), mPrim pIx [.nm 2, .ex (mC (.int 0))], mVar 4, mVar 5])) (mNext)) (b_l_deed_t5)
@[simp] def b_l_deed_t3 : M Fl := mSeq (mIf (mOr (mTest (mPrim pEq [.nm 1, .ex (mLst [])])) (mAnd (mTest (mPrim pEq [.nm 2, .ex (mLst [])])) (mTest (mPrim pIn [.nm 3, .ex (mLst [mC (.str "put"), mC (.str "name"), mC (.str "split")])])))) (mSet 3 (mPrim pIx [.ex (mLst [mC (.str "put"), mC (.str "move")]), .ex (mPrim pIntA [.ex (mPrim pEq [.nm 2, .ex (mLst [])])])])) (mNext)) (b_l_deed_t4)
@[simp] def b_l_deed_t2 : M Fl := mSeq (mSet 5 (mPrim pSub [.ex (mCall m_l_take [.nm 0, .ex (mC (.int 41))]), .ex (mC (.int 20))])) (b_l_deed_t3)
@[simp] def b_l_deed_t1 : M Fl := mSeq (mSet 4 (mCall m_l_take [.nm 0, .ex (mC (.int 1000))])) (b_l_deed_t2)
def b_l_deed : M Fl := mSeq (mSet 3 (mPrim pIx [.ex (mLst [mC (.str "put"), mC (.str "move"), mC (.str "count"), mC (.str "name"), mC (.str "split"), mC (.str "join"), mC (.str "take"), mC (.str "count"), mC (.str "split")]), .ex (mCall m_l_take [.nm 0, .ex (mC (.int 9))])])) (b_l_deed_t1)
def m_l_deed : M Slot := mDef 3 6 [0, 1, 2] b_l_deed
/-! _law_after -/
@[simp] def b_l_after_t3 : M Fl := mRet (mTup [mComp (mIter (mVar 1)) [4] (gNm 4) (mTest (mPrim pNe [.nm 4, .nm 5])) (mVar 4), mVar 2])
@[simp] def b_l_after_t2 : M Fl := mSeq (mSet 5 (mGet2 (.ex (mDict [(mC (.str "take"), mPrim pIx [.nm 0, .ex (mC (.int 1))]), (mC (.str "join"), mPrim pIx [.nm 0, .ex (mPrim pNeg [.ex (mC (.int 1))])])])) (mPrim pIx [.nm 0, .ex (mC (.int 0))]) (mC (.str "")))) (b_l_after_t3)
@[simp] def b_l_after_t1 : M Fl := mSeq (mIf (mTest (mPrim pIn [.ex (mPrim pIx [.nm 0, .ex (mC (.int 0))]), .ex (mLst [mC (.str "name"), mC (.str "split")])])) (mSeq (mSet 3 (mComp (mIter (mVar 1)) [4] (gNm 4) (mOr (mTest (mPrim pNe [.nm 4, .ex (mPrim pIx [.nm 0, .ex (mC (.int 1))])])) (mTest (mPrim pEq [.ex (mPrim pIx [.nm 0, .ex (mC (.int 0))]), .ex (mC (.str "split"))]))) (mVar 4))) (mRet (mTup [mPrim pAdd [.nm 3, .ex (mLst [mPrim pIx [.nm 0, .ex (mC (.int 2))]])], mSlice (.nm 2) (some (.ex (mC (.int 1)))) (none)]))) (mNext)) (b_l_after_t2)
def b_l_after : M Fl := mSeq (mIf (mTest (mPrim pEq [.ex (mPrim pIx [.nm 0, .ex (mC (.int 0))]), .ex (mC (.str "put"))])) (mRet (mTup [mPrim pAdd [.nm 1, .ex (mLst [mPrim pIx [.nm 0, .ex (mC (.int 1))]])], mSlice (.nm 2) (some (.ex (mC (.int 1)))) (none)])) (mNext)) (b_l_after_t1)
def m_l_after : M Slot := mDef 3 3 [0, 1, 2] b_l_after
/-! _law_start -/
def b_l_start_e1 : M Slot := mTup [mPrim pIx [.nm 1, .nm 4], mCall m_l_take [.nm 0, .ex (mC (.int 1000))], mPrim pSub [.ex (mCall m_l_take [.nm 0, .ex (mC (.int 41))]), .ex (mC (.int 20))]]
@[simp] def b_l_start_t1 : M Fl := mRet (mPrim pTuple [.ex (mPrim pSorted [.nm 3])])
def b_l_start : M Fl := mSeq (mSet 3 (mComp (mRange1 (mVar 2)) [4] (gNm 4) (mYes) (b_l_start_e1))) (b_l_start_t1)
def m_l_start : M Slot := mDef 3 2 [0, 1, 2] b_l_start
/-! _law_book -/
def b_l_book_f1 : M Fl := mSeq (mSet 9 (mLst [mCall m_l_mixed [.nm 8]])) (mSeq (mSet 10 (mPrim pIx [.ex (mLst [mC (.str "me"), mC (.str "you"), mC (.str "abcdefgh")]), .ex (mCall m_l_take [.nm 9, .ex (mC (.int 3))])])) (mIf (mOr (mTest (mPrim pNe [.nm 6, .ex (mLst [])])) (mTest (mPrim pNe [.nm 3, .ex (mLst [])]))) (mSeq (mSet 11 (mCall m_l_deed [.nm 9, .nm 6, .nm 3])) (mSeq (mAsg (gTp 2 (gsCons (gNm 6) (gsCons (gNm 3) (gsNil)))) (mCall m_l_after [.nm 11, .nm 6, .nm 3])) (mDrop (mAppend 7 (mTup [mVar 10, mVar 11]))))) (mNext)))
@[simp] def b_l_book_t8 : M Fl := mRet (mTup [mVar 5, mPrim pTuple [.nm 7]])
@[simp] def b_l_book_t7 : M Fl := mSeq (mFor (mIter (mVar 1)) (gNm 8) (b_l_book_f1)) (b_l_book_t8)
@[simp] def b_l_book_t6 : M Fl := mSeq (mSet 7 (mLst [])) (b_l_book_t7)
@[simp] def b_l_book_t5 : M Fl := mSeq (mSet 3 (mSlice (.nm 3) (some (.nm 4)) (none))) (b_l_book_t6)
@[simp] def b_l_book_t4 : M Fl := mSeq (mSet 6 (mSlice (.nm 3) (none) (some (.nm 4)))) (b_l_book_t5)
@[simp] def b_l_book_t3 : M Fl := mSeq (mSet 5 (mCall m_l_start [.nm 2, .nm 3, .nm 4])) (b_l_book_t4)
@[simp] def b_l_book_t2 : M Fl := mSeq (mSet 4 (mCall m_l_take [.nm 2, .ex (mC (.int 6))])) (b_l_book_t3)
@[simp] def b_l_book_t1 : M Fl := mSeq (mSet 3 (mCall m_l_names [.nm 2, .ex (mC (.int 26))])) (b_l_book_t2)
def b_l_book : M Fl := mSeq (mSet 2 (mLst [mCall m_l_mixed [.nm 0]])) (b_l_book_t1)
def m_l_book : M Slot := mDef 2 10 [0, 1] b_l_book
/-! law -/
def b_law_f1 : M Fl := mSeq (mDrop (mAppend 4 (mCall m_back_deed [.ex (mPrim pIx [.nm 3, .ex (mPrim pNeg [.ex (mC (.int 1))])]), .nm 6]))) (mDrop (mAppend 3 (mCall m_done [.ex (mPrim pIx [.nm 3, .ex (mPrim pNeg [.ex (mC (.int 1))])]), .nm 6])))
def b_law_f2 : M Fl := mSeq (mIf (mTest (mPrim pNe [.ex (mCall m_back_deed [.nm 7, .ex (mPrim pIx [.nm 4, .nm 8])]), .ex (mPrim pIx [.ex (mPrim pIx [.nm 2, .nm 8]), .ex (mC (.int 1))])])) (mRet (mC (.bool false))) (mNext)) (mSeq (mSet 7 (mCall m_done [.nm 7, .ex (mPrim pIx [.nm 4, .nm 8])])) (mIf (mTest (mPrim pNe [.nm 7, .ex (mPrim pIx [.nm 3, .nm 8])])) (mRet (mC (.bool false))) (mNext)))
@[simp] def b_law_t6 : M Fl := mRet (mPrim pEq [.nm 7, .nm 1])
@[simp] def b_law_t5 : M Fl := mSeq (mFor (mRange3 [.ex (mPrim pSub [.ex (mPrim pLen [.nm 2]), .ex (mC (.int 1))]), .ex (mPrim pNeg [.ex (mC (.int 1))]), .ex (mPrim pNeg [.ex (mC (.int 1))])]) (gNm 8) (b_law_f2)) (b_law_t6)
@[simp] def b_law_t4 : M Fl := mSeq (mSet 7 (mPrim pIx [.nm 3, .ex (mPrim pNeg [.ex (mC (.int 1))])])) (b_law_t5)
@[simp] def b_law_t3 : M Fl := mSeq (mFor (mIter (mVar 2)) (gTp 2 (gsCons (gNm 5) (gsCons (gNm 6) (gsNil)))) (b_law_f1)) (b_law_t4)
@[simp] def b_law_t2 : M Fl := mSeq (mSet 4 (mLst [])) (b_law_t3)
@[simp] def b_law_t1 : M Fl := mSeq (mSet 3 (mLst [mVar 1])) (b_law_t2)
def b_law : M Fl := mSeq (mAsg (gTp 2 (gsCons (gNm 1) (gsCons (gNm 2) (gsNil)))) (mCall m_l_book [.ex (mPrim pSum [.ex (mSlice (.nm 0) (none) (some (.ex (mC (.int 1)))))]), .ex (mSlice (.nm 0) (some (.ex (mC (.int 1)))) (some (.ex (mC (.int 41)))))])) (b_law_t1)
def m_law : M Slot := mDef 1 8 [0] b_law
end K

set_option Elab.async false
set_option linter.all false
set_option autoImplicit false
set_option maxRecDepth 100000
set_option maxHeartbeats 4000000
/-! SD, exceptions: raise, try .. except. -/
namespace SD
open PySem PySem.Spec PyProof.Rows L2

/-- raise C(e): an own class without a field -/
def mRaise0 (c : String) (as : List AE) : M Fl := fun ρ => (evAs as ρ).bind fun _ ρ' => .exc ⟨c, none⟩ ρ'
/-- raise C(e): the class keeps e -/
def mRaise1 (c : String) (f : M Slot) : M Fl := fun ρ => (mVals [f] ρ).bind fun ds ρ' => match ds with
  | [d] => .exc ⟨c, some d⟩ ρ'
  | _ => .bad
/-- what is to be known of a class without own __init__ -/
structure Ex0 (K : Fr0) (mg : Str → Option Value) (c : String) : Prop where
  ex : ∃ C : Addr, PySem.W.nsIn K mainGlobals (Str.ofString c) = some (some (.ref C)) ∧ mg (Str.ofString c) = some (.ref C) ∧ PySem.W.excIn K C [.type "ValueError", .type "Exception", .type "BaseException", .type "object"] "ValueError.__new__" = true ∧
    PySem.W.keepIn K (.ref C) = true ∧ PySem.W.subIn K (.ref C) (.type "BaseException") = some true ∧ PySem.W.typeIn K (.ref C) = some (.type "type")
section
variable {X : Cx} {W : WX} {I : ExI} {pr : Nat → Prop} {N : List Str} {sc : Scope} {cf : Str → Bool} {k : Nat} {p pos pos2 : Pos} {e : Expr} {es : List Expr}
/-- the promise of an __init__ that keeps its argument -/
def spInit (C : Addr) (f : Str) : Sp := fun vs H Q _ => ∃ (a : Addr) (v : V), vs = [.ref a, v] ∧ H a = some (exo a C none) ∧ ∀ dx, H dx = none → dx ≠ a → Q .non (upd (upd H dx (exd dx [(f, v)])) a (exo a C (some dx)))
/-- what is to be known of a class whose __init__ keeps its argument -/
structure Ex1 (P : Program) (w : World) (K : Fr0) (mg : Str → Option Value) (base : Heap) (c : String) : Prop where
  ex : ∃ (C fI : Addr) (fd : FuncData) (ps : List Str) (nm : Str), PySem.W.nsIn K mainGlobals (Str.ofString c) = some (some (.ref C)) ∧ mg (Str.ofString c) = some (.ref C) ∧ OexC K C ∧ PySem.W.findIn K (.ref C) "__init__" = some (some (.ref fI)) ∧
    PySem.W.typeIn K (.ref fI) = some (.type "function") ∧ exFld c = some nm ∧ FnOk P w K mg base (L2.CX P w) 1 fI fd ps (spInit C nm) ∧ Binds K fd ps []
end
end SD

set_option Elab.async false
set_option linter.all false
set_option autoImplicit false
set_option maxRecDepth 100000
set_option maxHeartbeats 4000000
/-! SD, exceptions: an __init__ that keeps its argument. -/
namespace SD
open PySem PySem.Spec PyProof.Rows L2
/-- what is to be known of the class above -/
structure ExS (K : Fr0) (mg : Str → Option Value) (c : String) : Prop where
  ex : ∃ C : Addr, mg (Str.ofString c) = some (.ref C) ∧ PySem.W.readsIn K C (.type "type") = true ∧ PySem.W.specialIn K (.ref C) "__getattribute__" = some (some (.builtin "type.__getattribute__")) ∧
    PySem.W.findCls K (.ref C) (.type "type") "__init__" = some (.val (.builtin "ValueError.__init__"))
section
variable {X : Cx} {e : Expr} {es : List Expr} {ta : TA} {p1 p2 pos : Pos}
end
end SD

set_option Elab.async false
set_option linter.all false
set_option autoImplicit false
set_option maxRecDepth 100000
set_option maxHeartbeats 4000000
/-! SD, exceptions: try .. except X as e (what is caught may be kept), try .. except X. -/
namespace SD
open PySem PySem.Spec PyProof.Rows L2
/-- the class c is x's, or above it -/
def exSub (x c : String) : Bool := x == c || (c == "StrikeError" || (c == "ValueError" || c == "Exception"))
def mTryAs (g : M Fl) (c : String) (i : Nat) (h : M Fl) : M Fl := fun ρ => match g ρ with
  | .exc x ρ1 => if exSub x.cls c then (match h (ρ1.set i (.exn x)) with
    | .ok f ρ2 => .ok f (ρ2.set i .emp)
    | _ => .bad) else .exc x ρ1
  | o => o
def mTryX (g : M Fl) (c : String) (h : M Fl) : M Fl := fun ρ => match g ρ with
  | .exc x ρ1 => if exSub x.cls c then (match h ρ1 with
    | .ok f ρ2 => .ok f ρ2
    | _ => .bad) else .exc x ρ1
  | o => o
/-- a class by its name, below or above which the text's classes are as exSub tells -/
structure ExK (K : Fr0) (mg : Str → Option Value) (c : String) (cv : Value) : Prop where
  nm : mg (Str.ofString c) = some cv ∨ (mg (Str.ofString c) = none ∧ bootBuiltins (Str.ofString c) = some cv ∧ Str.ofString c ≠ "__name__")
  sub : ∀ x ∈ exAll, ∀ cls, PySem.W.nsIn K mainGlobals (Str.ofString x) = some (some cls) → PySem.W.exmOne K cls cv = some (exSub x c) ∧ PySem.W.kitOne K cls cv = some (exSub x c)
  no : PySem.W.kitOne K (.type "NoneType") cv = some false
/-- the exception at a has been caught: it lies on the ground, beside the state that is told -/
structure Fallen (X : Cx) (pins : List (Addr × Obj)) (σ : St) (H : Hp) (cls : Value) (d : Option Addr) (a : Addr) (s : Shared) : Prop where
  ex : ∃ (G : Heap) (s0 : Shared), Inv X pins σ H s0 ∧ (∀ b o, s0.heap.get? b = some o → b ∉ frs X.stack → G.get? b = some o) ∧ s0.heap.UpToSlots s.heap ∧ HandSPX.FlyingZ G X.stack a (Zc cls d) s.heap ∧ s.os = s0.os ∧ AllBare s.gens ∧ H a = none
section
variable {X : Cx} {pins : List (Addr × Obj)} {σ : St} {H : Hp} {cls : Value} {d : Option Addr} {a : Addr} {s : Shared}
theorem exH_ok {P : Program} {w : World} {h : Heap} {oe : Obj} {vs : Array Value} (e : h.get? a = some oe) (z : Zc cls d oe) (hd : oe.data = .fields vs) : ObjOk P w H h a (exH cls d a) :=
  ⟨⟨oe, vs, e, z.1, z.2, hd⟩, ⟨_, e⟩, fun _ _ ⟨o, v, q, r⟩ k => ⟨o, v, k o q, r⟩⟩
/-- the state with the exception told -/
theorem Fallen.told (f : Fallen X pins σ H cls d a s) : Inv X pins σ (upd H a (exH cls d a)) s := by
  obtain ⟨G, s0, J, g, u, fl, e1, e2, na⟩ := f.ex
  obtain ⟨oe, vs, at_, zc, dt⟩ := fl.there
  have nfr : a ∉ frs X.stack := fun m => by
    obtain ⟨_, o, eo, nf⟩ := fl.2.2.1.mem m
    rw [at_] at eo
    cases eo
    exact nf vs dt
  have apart : ∀ {b o}, s0.heap.get? b = some o → b ≠ a := fun {b o} e z => by
    have y := g b o e (z ▸ nfr)
    rw [z, fl.2.1] at y
    cases y
  have frame : ∀ {b o}, b ∈ frs X.stack → s0.heap.get? b = some o → ∃ sl, s.heap.get? b = some { o with slots := sl } := fun {b o} m e => by
    obtain ⟨_, o', eo, nf⟩ := J.stack.mem m
    rw [e] at eo
    cases eo
    exact u b o e nf
  refine J.call' (ch := []) e1 ?_ ((J.inGround g).laidN fl.1 na (exH_ok at_ zc dt)) e2 (fun _ z => nomatch z)
  refine { keep := fun b o e _ m _ => fl.1 b o (g b o e m), slot := fun b o e _ m _ => frame m e, free := fun b o e n _ => ?_, there := fun b o e _ => ?_, tups := fun b xs q => ?_, frzs := fun b o v q => ?_, tbls := fun b ps q => ⟨#[], ?_⟩ }
  · rw [upd_ne (apart e)]; exact n
  · by_cases m : b ∈ frs X.stack
    · obtain ⟨sl, q⟩ := frame m e
      exact ⟨_, q⟩
    · exact ⟨o, fl.1 b o (g b o e m)⟩
  · rw [upd_ne (ne_of_none q na)]; exact q
  · rw [upd_ne (ne_of_none q na)]; exact q
  · rw [upd_ne (ne_of_none q na), q]; simp
theorem Fallen.again {M : Model} {A : Around} {E : Value → Shared → Prop} {Q : Unit → Shared → Prop} (f : Fallen X pins σ H cls d a s) (k : ∀ h, Fallen X pins σ H cls d a { s with heap := h } → Q () { s with heap := h }) : wpAny M A (setFlight (.ref a) none) Q E s := by
  obtain ⟨G, s0, J, g, u, fl, e1, e2, na⟩ := f.ex
  exact HandSPX.lands_againZ fl fun h fl' u' => k h ⟨G, s0, J, g, u.trans u', fl', e1, e2, na⟩
/-- its class -/
theorem Fallen.ty {M : Model} (f : Fallen X pins σ H cls d a s) : PySem.W.Looks M s.heap (typeOf (.ref a)) cls := fun A Q E s' k q => by
  obtain ⟨G, s0, J, g, u, fl, e1, e2, na⟩ := f.ex
  obtain ⟨oe, vs, at_, zc, dt⟩ := fl.there
  exact wpAny_typeOf_ref (k _ _ at_) (by rw [zc.1]; exact q)
/-- no clause is its -/
theorem Fallen.on {W : WX} {Q : Flow → Shared → Prop} (f : Fallen X pins σ H cls d a s) (tk : Takes X W) (w : W cls d σ H) (hfr : X.env.frame = some X.env.locals) : wpAny (model X.prog X.w) X.A (handleBy (.ref a) X.env []) Q X.xe s := by
  obtain ⟨G, s0, J, g, u, fl, e1, e2, na⟩ := f.ex
  have up : wpAny (model X.prog X.w) X.A (setFlight (.ref a) X.env.frame) (fun _ s' => wpAny (model X.prog X.w) X.A (throw (.ref a) : Sem Flow) Q X.xe s') X.xe s := by
    rw [hfr]
    exact HandSPX.setFlight_upZ fl fun h held u' => wpAny_throw (tk _ _ ⟨a, G, s0, pins, σ, H, cls, d, rfl, J, g, u.trans u', .inr (.inr held), na, e1, e2, w⟩)
  refine wpAny_handleBy_nil ?_
  obtain ⟨_, _, _, oe, vs, T, oT, ts, at_, _, dt, v1, _⟩ := fl
  unfold PySem.passOn
  refine wpAny_bind (wpAny_field at_ dt v1 ?_)
  have no : ¬ ((Value.ref T == Value.none) = true) := by simp
  rw [if_neg no]
  first
    | exact wpAny_bind up
    | exact wpAny_bind (wpAny_pure (wpAny_bind up))
end
/-- the wishes behind the suite: the name is gone -/
def endsAs (i : Nat) (D : Ends) : Ends := { nx := fun σ' H' => D.nx (σ'.set i none) H', rt := D.rt, bk := fun σ' H' => D.bk (σ'.set i none) H', ct := fun σ' H' => D.ct (σ'.set i none) H' }
section
variable {X : Cx} {x n : Str} {c : Value} {i : Nat} {body suite : List Stmt} {b₀ : Stmt} {np pos pos' : Pos} {Wout : WX}
/-- what is to be shown of the body of a try, whatever is wished of what it lets out -/
def tBody (X : Cx) (body : List Stmt) (W : WX) : TS := fun D σ H => ∀ pn xe, Takes (X.tr pn xe) W → PassesOwn (model X.prog X.w) X.A X.env xe → ∃ tb, PSs (X.tr pn xe) body tb ∧ tb D σ H
/-- what is to be shown of try: body, except x as n: suite -/
def tTryAs (X : Cx) (c : Value) (i : Nat) (body suite : List Stmt) (Wout : WX) : TS := fun D σ H => ∃ W : WX, tBody X body W D σ H ∧
  ∀ cls d σ' H', W cls d σ' H' → ∃ b, PySem.W.exmOne X.K cls c = some b ∧
    (b = true → ∀ a, H' a = none → ∀ pn, ∃ ts, PSs (X.suite a pn) suite ts ∧ ts (endsAs i D) (σ'.set i (some (.ref a))) (upd H' a (exH cls d a))) ∧ (b = false → Wout cls d σ' H')
end
end SD

set_option Elab.async false
set_option linter.all false
set_option autoImplicit false
set_option maxRecDepth 100000
set_option maxHeartbeats 4000000
/-! SD, exceptions: the rules of try. -/
namespace SD
open PySem PySem.Spec PyProof.Rows L2
section
variable {X : Cx} {W : WX} {I : ExI} {pr : Nat → Prop} {N : List Str} {sc : Scope} {cf : Str → Bool} {k : Nat} {g h : M Fl} {body suite : List Stmt} {b₀ : Stmt} {np pos pos' : Pos} {n : Str} {cn : String} {cv : Value}
end
end SD

set_option Elab.async false
set_option linter.all false
set_option autoImplicit false
set_option maxRecDepth 100000
set_option maxHeartbeats 4000000
/-! SD, exceptions: what is told of one that is kept: e is None, isinstance(e, C), e.f. -/
namespace SD
open PySem PySem.Spec PyProof.Rows L2
/-- a name, an exception too -/
def mVarX (i : Nat) : M Slot := fun ρ => match En.at ρ i with
  | .exn x => .ok (.exn x) ρ
  | _ => mVar i ρ
/-- x is None -/
def nonX : Slot → Option Bool
  | .exn _ => some false
  | s => s.data.map isNone
def mIsNX (b : Bool) (i : Nat) : M Slot := fun ρ => match nonX (En.at ρ i) with
  | some c => .ok (.val (.bool (c == b))) ρ
  | none => .bad
/-- isinstance(x, C), isinstance(x, (C, ..)): x an exception or None -/
def isX (cs : List String) : Slot → Option Bool
  | .exn x => some (cs.any fun c => exSub x.cls c)
  | .val .none => some false
  | _ => none
def mIsX (cs : List String) (i : Nat) : M Slot := fun ρ => match isX cs (En.at ρ i) with
  | some c => .ok (.val (.bool c)) ρ
  | none => .bad
/-- x.f -/
def mFld (f : Str) (i : Nat) : M Slot := fun ρ => match En.at ρ i with
  | .exn ⟨c, some d⟩ => if exFld c = some f then .ok (.val d) ρ else .bad
  | _ => .bad
/-- what is to be known of every class of the text -/
structure ExR (K : Fr0) : Prop where
  cl : ∀ x ∈ exAll, ∀ cls, PySem.W.nsIn K mainGlobals (Str.ofString x) = some (some cls) → ∃ C : Addr, cls = .ref C ∧ (PySem.W.clsIn K C).isSome = true ∧ PySem.W.findIn K (.ref C) "__getattribute__" = some (some (.builtin "BaseException.__getattribute__")) ∧
    PySem.W.findIn K (.ref C) "__getattr__" = some none ∧ PySem.W.subIn K (.ref C) (.type "BaseException") = some true ∧ PySem.W.hasDictIn K C = true ∧ PySem.W.findIn K (.ref C) "__class__" = some (some (.builtin "object.__class__")) ∧
    PySem.W.mroIn K C (.type "object") = some true ∧ ∀ nm, exFld x = some nm → PySem.W.findIn K (.ref C) nm = some none
  hn : PySem.W.specialIn K (.builtin "object.__class__") "__get__" = some (some (.builtin "getset_descriptor.__get__"))
  ht : PySem.W.takesIn K (.builtin "object.__class__") = some true
def exR1 (K : Fr0) (x : String) (cls : Value) : Bool := match cls with
  | .ref C => (PySem.W.clsIn K C).isSome && (decide (PySem.W.findIn K (.ref C) "__getattribute__" = some (some (.builtin "BaseException.__getattribute__"))) && (decide (PySem.W.findIn K (.ref C) "__getattr__" = some none) &&
    (decide (PySem.W.subIn K (.ref C) (.type "BaseException") = some true) && (PySem.W.hasDictIn K C && (decide (PySem.W.findIn K (.ref C) "__class__" = some (some (.builtin "object.__class__"))) && (decide (PySem.W.mroIn K C (.type "object") = some true) &&
    match exFld x with
    | some nm => decide (PySem.W.findIn K (.ref C) nm = some none)
    | none => true))))))
  | _ => false
def exRB (K : Fr0) : Bool := exAll.all fun x => match PySem.W.nsIn K mainGlobals (Str.ofString x) with
  | some (some cls) => exR1 K x cls
  | _ => true
/-- the class facts, as one truth -/
def exKB (K : Fr0) (c : String) (cv : Value) : Bool := decide (PySem.W.kitOne K (.type "NoneType") cv = some false) && exAll.all fun x => match PySem.W.nsIn K mainGlobals (Str.ofString x) with
  | some (some cls) => decide (PySem.W.exmOne K cls cv = some (exSub x c)) && decide (PySem.W.kitOne K cls cv = some (exSub x c))
  | _ => true
section
variable {X : Cx} {W : WX} {I : ExI}
section
variable {i : Nat} {e : Expr} {pos : Pos} {j : Nat} {pn : Pos}
end
/-! ### isinstance -/
/-- the classes that are asked, as values -/
inductive ClsL (K : Fr0) (mg : Str → Option Value) : List String → List V → List Value → Prop where
  | nil : ClsL K mg [] [] []
  | cons {c : String} {cs : List String} {v : V} {vs : List V} {u : Value} {us : List Value} (k : ExK K mg c u) (hv : ClsV v u) (r : ClsL K mg cs vs us) : ClsL K mg (c :: cs) (v :: vs) (u :: us)
theorem ClsL.any {K : Fr0} {mg : Str → Option Value} {x : String} {cls : Value} (hx : x ∈ exAll) (hn : PySem.W.nsIn K mainGlobals (Str.ofString x) = some (some cls)) : ∀ {cs : List String} {vs : List V} {us : List Value}, ClsL K mg cs vs us → PySem.W.kitAny K cls us = some (cs.any fun c => exSub x c)
  | _, _, _, .nil => rfl
  | _, _, _, .cons k hv r => by
    refine kitAny_cons (k.sub x hx cls hn).2 (fun h => ?_) fun h => ?_
    · rw [r.any hx hn, List.any_cons, h, Bool.false_or]
    · rw [List.any_cons, h, Bool.true_or]
theorem ClsL.none {K : Fr0} {mg : Str → Option Value} : ∀ {cs : List String} {vs : List V} {us : List Value}, ClsL K mg cs vs us → PySem.W.kitAny K (.type "NoneType") us = some false
  | _, _, _, .nil => rfl
  | _, _, _, .cons k hv r => kitAny_cons k.no (fun _ => r.none) fun h => by cases h
/-- isinstance(x, C) of what is told -/
def rIsX1 (K : Fr0) (mg : Str → Option Value) (c : String) : List V → Hp → VK → Prop := fun xs H Q => ∃ v cv u s F b, xs = [v, cv] ∧ ClsV cv u ∧ ExK K mg c u ∧ ExR K ∧ Same F H ∧ SlotOk K F H s (some v) ∧ isX [c] s = some b ∧ Q (.bl b) H
def rIsXT (K : Fr0) (mg : Str → Option Value) (cs : List String) : List V → Hp → VK → Prop := fun xs H Q => ∃ v tp vs us s F b, xs = [v, .ref tp] ∧ H tp = some (.tup vs) ∧ ClsL K mg cs vs us ∧ ExR K ∧ Same F H ∧ SlotOk K F H s (some v) ∧ isX cs s = some b ∧ Q (.bl b) H
end
end SD

set_option Elab.async false
set_option linter.all false
set_option autoImplicit false
set_option maxRecDepth 100000
set_option maxHeartbeats 4000000
/-! SD, exceptions: the rules of isinstance, of a field; equations for runs. -/
namespace SD
open PySem PySem.Spec PyProof.Rows L2
/-- a class that may be asked -/
def ExC (K : Fr0) (mg : Str → Option Value) (c : String) : Prop := ∃ v u, ClsV v u ∧ ExK K mg c u
section
variable {X : Cx} {W : WX} {I : ExI} {c : String} {cs : List String} {v : V} {u : Value} {i : Nat} {e : Expr} {es : List Expr} {pos pp tp : Pos}
/-- classes in a row -/
structure ExCs (X : Cx) (cs : List String) (es : List Expr) : Prop where
  ex : ∃ vs us, ClsL X.K X.mg cs vs us ∧ PA X es (fun σ H Q => Q vs H)
end
section
variable {X : Cx} {W : WX} {I : ExI} {pr : Nat → Prop} {N : List Str} {sc : Scope} {cf : Str → Bool} {k : Nat} {g h : M Fl} {body suite : List Stmt} {b₀ : Stmt} {np pos pos' : Pos} {n : Str} {cn : String}
end
/-! ### equations -/
def raiseK1 (c : String) (o : Out (List D)) : Out Fl := match o with
  | .ok [d] ρ => .exc ⟨c, some d⟩ ρ
  | .exc x ρ => .exc x ρ
  | _ => .bad
def raiseK0 (c : String) (o : Out (List Arg)) : Out Fl := match o with
  | .ok _ ρ => .exc ⟨c, none⟩ ρ
  | .exc x ρ => .exc x ρ
  | .bad => .bad
def tryAsK (c : String) (i : Nat) (h : M Fl) (o : Out Fl) : Out Fl := match o with
  | .exc x ρ1 => if exSub x.cls c then (match h (ρ1.set i (.exn x)) with
    | .ok f ρ2 => .ok f (ρ2.set i .emp)
    | _ => .bad) else .exc x ρ1
  | o => o
def tryXK (c : String) (h : M Fl) (o : Out Fl) : Out Fl := match o with
  | .exc x ρ1 => if exSub x.cls c then (match h ρ1 with
    | .ok f ρ2 => .ok f ρ2
    | _ => .bad) else .exc x ρ1
  | o => o
def asEnd (i : Nat) (o : Out Fl) : Out Fl := match o with
  | .ok f ρ2 => .ok f (ρ2.set i .emp)
  | _ => .bad
def noX (o : Out Fl) : Out Fl := match o with
  | .ok f ρ2 => .ok f ρ2
  | _ => .bad
section
variable {c : String} {as : List AE} {f : M Slot} {ρ : En} {d : D} {ds : List D} {gs : List Arg} {i : Nat} {g h : M Fl} {x : Exc} {fl : Fl} {b : Bool} {cs : List String} {nm : Str} {s : Slot} {e : String}
@[simp] theorem ev_raise0 : mRaise0 c as ρ = raiseK0 c (evAs as ρ) := by
  unfold mRaise0 raiseK0
  cases evAs as ρ <;> rfl
@[simp] theorem ev_raiseK0 : raiseK0 c (.ok gs ρ) = .exc ⟨c, none⟩ ρ := rfl
@[simp] theorem ev_raise1 : mRaise1 c f ρ = raiseK1 c (mVals [f] ρ) := by
  unfold mRaise1 raiseK1
  cases mVals [f] ρ with
  | ok ds ρ1 => match ds with
    | [] => rfl
    | [_] => rfl
    | _ :: _ :: _ => rfl
  | _ => rfl
@[simp] theorem ev_raiseK1 : raiseK1 c (.ok [d] ρ) = .exc ⟨c, some d⟩ ρ := rfl
@[simp] theorem ev_tryAs : mTryAs g c i h ρ = tryAsK c i h (g ρ) := rfl
@[simp] theorem ev_tryAsK : tryAsK c i h (.ok fl ρ) = .ok fl ρ := rfl
@[simp] theorem ev_tryAsX : tryAsK c i h (.exc x ρ) = if exSub x.cls c then asEnd i (h (ρ.set i (.exn x))) else .exc x ρ := rfl
@[simp] theorem ev_asEnd : asEnd i (.ok fl ρ) = .ok fl (ρ.set i .emp) := rfl
@[simp] theorem ev_tryX : mTryX g c h ρ = tryXK c h (g ρ) := rfl
@[simp] theorem ev_tryXK : tryXK c h (.ok fl ρ) = .ok fl ρ := rfl
@[simp] theorem ev_tryXX : tryXK c h (.exc x ρ) = if exSub x.cls c then noX (h ρ) else .exc x ρ := rfl
@[simp] theorem ev_noX : noX (.ok fl ρ) = .ok fl ρ := rfl
@[simp] theorem exSub_iff : exSub e c = (e == c || (c == "StrikeError" || (c == "ValueError" || c == "Exception"))) := rfl
def varXO (i : Nat) (ρ : En) (s : Slot) : Out Slot := match s with
  | .exn x => .ok (.exn x) ρ
  | _ => mVar i ρ
@[simp] theorem ev_varX : mVarX i ρ = varXO i ρ (En.at ρ i) := rfl
@[simp] theorem ev_varXO : varXO i ρ (.exn x) = .ok (.exn x) ρ := rfl
@[simp] theorem ev_varXV : varXO i ρ (.val d) = mVar i ρ := rfl
def boolO (ρ : En) (o : Option Bool) : Out Slot := match o with
  | some c => .ok (.val (.bool c)) ρ
  | none => .bad
def isNO (b : Bool) (ρ : En) (o : Option Bool) : Out Slot := match o with
  | some c => .ok (.val (.bool (c == b))) ρ
  | none => .bad
@[simp] theorem ev_isNX : mIsNX b i ρ = isNO b ρ (nonX (En.at ρ i)) := rfl
@[simp] theorem ev_isNO {c : Bool} : isNO b ρ (some c) = .ok (.val (.bool (c == b))) ρ := rfl
@[simp] theorem ev_nonX : nonX (.exn x) = some false := rfl
@[simp] theorem ev_nonV : nonX (.val d) = some (isNone d) := rfl
@[simp] theorem ev_isX : mIsX cs i ρ = boolO ρ (isX cs (En.at ρ i)) := rfl
@[simp] theorem ev_boolO : boolO ρ (some b) = .ok (.val (.bool b)) ρ := rfl
@[simp] theorem ev_isXx : isX cs (.exn x) = some (cs.any fun c => exSub x.cls c) := rfl
@[simp] theorem ev_isXn : isX cs (.val .none) = some false := rfl
def fldO (f : Str) (ρ : En) (s : Slot) : Out Slot := match s with
  | .exn ⟨c, some d⟩ => if exFld c = some f then .ok (.val d) ρ else .bad
  | _ => .bad
@[simp] theorem ev_fld : mFld nm i ρ = fldO nm ρ (En.at ρ i) := rfl
@[simp] theorem ev_fldO : fldO nm ρ (.exn ⟨c, some d⟩) = if exFld c = some nm then .ok (.val d) ρ else .bad := rfl
@[simp] theorem ev_isE : (Slot.exn x).isSome = true := rfl
@[simp] theorem ev_cE : (Slot.exn x).isCell = false := rfl
@[simp] theorem fld_NoText : exFld "NoText" = some "part" := by decide +kernel
@[simp] theorem fld_NotNow : exFld "NotNow" = some "name" := by decide +kernel
@[simp] theorem fld_NoRow : exFld "NoRow" = some "number" := by decide +kernel
@[simp] theorem fld_NoBook : exFld "NoBook" = some "number" := by decide +kernel
@[simp] theorem fld_NoLine : exFld "NoLine" = some "line" := by decide +kernel
@[simp] theorem fld_NoName : exFld "NoName" = some "name" := by decide +kernel
@[simp] theorem fld_NoNeed : exFld "NoNeed" = some "line" := by decide +kernel
@[simp] theorem fld_NoMark : exFld "NoMark" = some "name" := by decide +kernel
@[simp] theorem fld_NoCall : exFld "NoCall" = some "row" := by decide +kernel
@[simp] theorem fld_NoLog : exFld "NoLog" = some "name" := by decide +kernel
end
end SD

set_option Elab.async false
set_option linter.all false
set_option autoImplicit false
set_option maxRecDepth 100000
set_option maxHeartbeats 4000000
/-! SD: for x in d, d a name that holds this frame's own dict: it is locked, and never changes from here on. -/
namespace SD
open PySem PySem.Spec PyProof.Rows L2
/-- a list, a tuple, a text; a dict, locked -/
def iAnyD (K : Fr0) (te : TE) : TI := fun σ H R => te σ H fun x H1 => (∃ a, x = .ref a ∧ (∃ xs, SqL K H1 a xs) ∧ R (Itl K a) H1) ∨ (∃ a, x = .ref a ∧ (∃ xs, SqT K H1 a xs) ∧ R (Itt K a) H1) ∨ (∃ z, x = .str z ∧ R (Its z) H1) ∨
  ∃ d kvs, x = .ref d ∧ H1 d = some (.dK kvs) ∧ ∀ od, R (Itk d od kvs) (upd H1 d (.frz od (.dK kvs)))
/-- the items of what a name holds; of an own dict the keys -/
def mIterD (i : Nat) : M (List D) := fun ρ => match En.at ρ i with
  | .dic kvs => .ok (kvs.map fun p => kD p.1) (ρ.set i (.val (.dict (qD kvs))))
  | _ => mIter (mVar i) ρ
section
variable {X : Cx} {W : WX} {I : ExI} {tg e : Expr}
end
/-! equations -/
variable {ρ : En} {i : Nat}
@[simp] theorem ev_iterD : mIterD i ρ = (match En.at ρ i with | .dic kvs => .ok (kvs.map fun p => kD p.1) (ρ.set i (.val (.dict (qD kvs)))) | _ => mIter (mVar i) ρ) := rfl
end SD

set_option Elab.async false
set_option linter.all false
set_option autoImplicit false
set_option maxRecDepth 100000
set_option maxHeartbeats 4000000
/-! SD: x.extend(e), e a tuple. -/
namespace SD
open PySem PySem.Spec PyProof.Rows L2
def rExtendT (K : Fr0) : V → List V → Hp → VK → Prop := fun x vs H Q => ∃ l b xs zs, x = .ref l ∧ vs = [.ref b] ∧ H l = some (.lst xs) ∧ SqT K H b zs ∧ xs.length + zs.length ≤ sizeLine ∧ Q .non (upd H l (.lst (xs ++ zs)))
def extTO (i : Nat) (ρ : En) (o : Option D) (s : Slot) : Out Slot := match o with
  | some (.tuple es) => (match s with
    | .lst ds => if ds.length + es.length ≤ 16777216 then .ok (.val .none) (ρ.set i (.lst (ds ++ es))) else .bad
    | _ => .bad)
  | _ => .bad
/-- x.extend(e), e a tuple -/
def mExtendT (i : Nat) (f : M Slot) : M Slot := fun ρ => match En.at ρ i with
  | .lst _ => (f ρ).bind fun s ρ1 => extTO i ρ1 s.data (En.at ρ1 i)
  | _ => .bad
section
variable {X : Cx} {W : WX} {I : ExI} {i : Nat} {e ex : Expr} {f : M Slot} {pos apos : Pos}
end
def extTK (i : Nat) (o : Out Slot) : Out Slot := o.bind fun s ρ1 => extTO i ρ1 s.data (En.at ρ1 i)
variable {i : Nat} {ρ : En} {f : M Slot} {s : Slot} {ds es : List D}
@[simp] theorem ev_extT : mExtendT i f ρ = match En.at ρ i with | .lst _ => extTK i (f ρ) | _ => .bad := by
  unfold mExtendT extTK
  cases En.at ρ i <;> rfl
@[simp] theorem ev_extTK : extTK i (.ok s ρ) = extTO i ρ s.data (En.at ρ i) := rfl
@[simp] theorem ev_extTO : extTO i ρ (some (.tuple es)) (.lst ds) = if ds.length + es.length ≤ 16777216 then .ok (.val .none) (ρ.set i (.lst (ds ++ es))) else .bad := rfl
end SD

set_option Elab.async false
set_option linter.all false
set_option autoImplicit false
set_option maxRecDepth 100000
set_option maxHeartbeats 4000000
/-! SD: d.pop(k, x) of an own dict. -/
namespace SD
open PySem PySem.Spec PyProof.Rows L2
def popO2 (i : Nat) (ρ : En) (q : Key) (x : Option D) (s : Slot) : Out Slot := match x with
  | some d => (match s with
    | .dic kvs => (match valQ kvs q with
      | some w => .ok (.val w) (ρ.set i (.dic (dropQ kvs q)))
      | none => .ok (.val d) ρ)
    | _ => .bad)
  | none => .bad
def mDPop2 (i : Nat) (fk fx : M Slot) : M Slot := fun ρ => match En.at ρ i with
  | .dic _ => (fk ρ).bind fun s ρ1 => match s.data.bind keyOf with
    | some q => (fx ρ1).bind fun t ρ2 => popO2 i ρ2 q t.data (En.at ρ2 i)
    | none => .bad
  | _ => .bad
section
variable {X : Cx} {W : WX} {I : ExI} {i k : Nat} {eb ec ex : Expr} {f h : M Slot} {apos pos : Pos}
end
def popK4 (i : Nat) (q : Key) (o : Out Slot) : Out Slot := o.bind fun t ρ2 => popO2 i ρ2 q t.data (En.at ρ2 i)
def popK3 (i : Nat) (fx : M Slot) (ρ1 : En) (k : Option Key) : Out Slot := match k with
  | some q => popK4 i q (fx ρ1)
  | none => .bad
def popK2 (i : Nat) (fx : M Slot) (o : Out Slot) : Out Slot := o.bind fun s ρ1 => popK3 i fx ρ1 (s.data.bind keyOf)
section
variable {i : Nat} {fk fx : M Slot} {ρ : En} {s : Slot} {q : Key} {d : D} {kvs : List (Key × D)}
@[simp] theorem ev_pop2 : mDPop2 i fk fx ρ = match En.at ρ i with | .dic _ => popK2 i fx (fk ρ) | _ => .bad := by
  unfold mDPop2 popK2
  cases En.at ρ i <;> rfl
@[simp] theorem ev_popK2 : popK2 i fx (.ok s ρ) = popK3 i fx ρ (s.data.bind keyOf) := rfl
@[simp] theorem ev_popK3 : popK3 i fx ρ (some q) = popK4 i q (fx ρ) := rfl
@[simp] theorem ev_popK4 : popK4 i q (.ok s ρ) = popO2 i ρ q s.data (En.at ρ i) := rfl
@[simp] theorem ev_popO2 : popO2 i ρ q (some d) (.dic kvs) = match valQ kvs q with | some w => .ok (.val w) (ρ.set i (.dic (dropQ kvs q))) | none => .ok (.val d) ρ := rfl
end
end SD

set_option Elab.async false
set_option linter.all false
set_option autoImplicit false
set_option maxRecDepth 100000
set_option maxHeartbeats 4000000
/-! SD: defs whose exceptions have no context: what is raised while nothing is handled. -/
namespace SD
open PySem PySem.Spec PyProof.Rows L2
/-- as Cn, but the context takes exceptions without a context alone -/
structure CnN (X : Cx) (W : WX) (N : List Str) (sc : Scope) (cf : Str → Bool) (k : Nat) : Prop extends Cn0 X N sc cf where
  tk : L2N.Takes X W
  po : PassesOwn (model X.prog X.w) X.A X.env X.xe
  hr : Room k X.A
  calm : X.calm = true
/-- a def of the text that is f, its exceptions without a context -/
structure FnTN (P : Program) (w : World) (K : Fr0) (mg : Str → Option Value) (base : Heap) (I : ExI) (name : Str) (n k : Nat) (f : M Slot) : Prop where
  ex : ∃ fa fd ps, FnOk P w K mg base (L2N.CX P w) k fa fd ps (spF K I n f) ∧ mg name = some (.ref fa) ∧ PySem.W.keepIn K (.ref fa) = true ∧ Binds K fd ps []
/-- a call of a def that raises nothing -/
def mCallX (f : M Slot) (as : List AE) : M Slot := fun ρ => (mCall f as ρ).noexc
section
variable {X : Cx} {W : WX} {I : ExI} {pr : Nat → Prop} {N : List Str} {sc : Scope} {cf : Str → Bool} {k : Nat} {p pos pos2 : Pos} {e : Expr} {es : List Expr}
end
section
variable {X : Cx} {W : WX} {I : ExI} {pr : Nat → Prop} {N : List Str} {sc : Scope} {cf : Str → Bool} {k : Nat} {p pos pos2 : Pos} {e : Expr} {es : List Expr}
end
end SD

set_option Elab.async false
set_option linter.all false
set_option autoImplicit false
set_option maxRecDepth 100000
set_option maxHeartbeats 4000000
/-! SD, exceptions: a try whose suite raises anew. -/
namespace SD
open PySem PySem.Spec PyProof.Rows L2 L2H
/-- as Fallen, the exception without a context -/
structure FallenN (X : Cx) (pins : List (Addr × Obj)) (σ : St) (H : Hp) (cls : Value) (d : Option Addr) (a : Addr) (s : Shared) : Prop where
  ex : ∃ (G : Heap) (s0 : Shared), Inv X pins σ H s0 ∧ (∀ b o, s0.heap.get? b = some o → b ∉ frs X.stack → G.get? b = some o) ∧ s0.heap.UpToSlots s.heap ∧ HandSPX.FlyingZ G X.stack a (L2N.Zn cls d) s.heap ∧ s.os = s0.os ∧ AllBare s.gens ∧ H a = none
section
variable {X : Cx} {pins : List (Addr × Obj)} {σ : St} {H : Hp} {cls : Value} {d : Option Addr} {a : Addr} {s : Shared}
theorem FallenN.keeps (f : FallenN X pins σ H cls d a s) {h : Heap} {tk : Nat} (k : ∀ b o, s.heap.get? b = some o → h.get? b = some o) : FallenN X pins σ H cls d a { s with heap := h, toks := tk } := by
  obtain ⟨G, s0, J, g, u, ⟨f1, f2, f3, oe, vs, T, oT, ts, t1, t2, t3, t4, t5, t6, t7, t8, t9⟩, r⟩ := f.ex
  exact ⟨G, s0, J, g, u.trans (Heap.UpToSlots.of_keeps k), ⟨fun b o e => k b o (f1 b o e), f2, Heap.FunFrames.of_keeps (fun b o e _ => ⟨o, k b o e, rfl⟩) f3, oe, vs, T, oT, ts, k _ _ t1, t2, t3, t4, t5, t6, k _ _ t7, t8, t9⟩, r⟩
theorem FallenN.again {M : Model} {A : Around} {E : Value → Shared → Prop} {Q : Unit → Shared → Prop} (f : FallenN X pins σ H cls d a s) (k : ∀ h, FallenN X pins σ H cls d a { s with heap := h } → Q () { s with heap := h }) : wpAny M A (setFlight (.ref a) none) Q E s := by
  obtain ⟨G, s0, J, g, u, fl, e1, e2, na⟩ := f.ex
  exact HandSPX.lands_againZ fl fun h fl' u' => k h ⟨G, s0, J, g, u.trans u', fl', e1, e2, na⟩
end
/-- the clause's expression names these classes -/
def TestR (X : Cx) (te : Expr) (cs : List Value) : Prop := ∀ (a : Addr) (pn : List (Addr × Obj)) (σ : St) (H : Hp) (s : Shared) (Q : Value → Shared → Prop) (E : Value → Shared → Prop), Inv (X.suite a pn) [] σ H s →
  (∀ (h : Heap) (tk : Nat) (c : Value), (∀ b o, s.heap.get? b = some o → h.get? b = some o) →
    (∀ (cls : Value) (b : Bool), X.K.In h → PySem.W.Looks (model X.prog X.w) h (typeOf (.ref a)) cls → PySem.W.exmAny X.K cls cs = some b → PySem.W.Looks (model X.prog X.w) h (excMatches (.ref a) c) b) → Q c { s with heap := h, toks := tk }) →
  wpAny (model X.prog X.w) (X.A.mark (some (.ref a))) (eval te X.env) Q E s
section
variable {X : Cx} {te : Expr} {cs : List Value} {x x1 x2 : Str} {c c1 c2 : Value} {np p1 p2 tp : Pos} {kk : Nat}
end
section
variable {X : Cx} {te : Expr} {cs : List Value} {body suite : List Stmt} {b₀ : Stmt} {pos pos' : Pos} {Wout : WX}
def tBodyN (X : Cx) (body : List Stmt) (W : WX) : TS := fun D σ H => ∀ pn xe, L2N.Takes (X.tr pn xe) W → PassesOwn (model X.prog X.w) X.A X.env xe → ∃ tb, PSs (X.tr pn xe) body tb ∧ tb D σ H
end
end SD

set_option Elab.async false
set_option linter.all false
set_option autoImplicit false
set_option maxRecDepth 100000
set_option maxHeartbeats 4000000
/-! SD, exceptions: try: body, except classes: raise C(e). -/
namespace SD
open PySem PySem.Spec PyProof.Rows L2 L2H
/-- as Ex1, the __init__ told within an except suite -/
structure Ex1H (P : Program) (w : World) (K : Fr0) (mg : Str → Option Value) (base : Heap) (c : String) : Prop where
  ex : ∃ (C fI : Addr) (fd : FuncData) (ps : List Str) (nm : Str), PySem.W.nsIn K mainGlobals (Str.ofString c) = some (some (.ref C)) ∧ mg (Str.ofString c) = some (.ref C) ∧ OexC K C ∧ PySem.W.findIn K (.ref C) "__init__" = some (some (.ref fI)) ∧
    PySem.W.typeIn K (.ref fI) = some (.type "function") ∧ exFld c = some nm ∧ FnH P w K mg base (L2.CX P w) 1 fI fd ps (spInit C nm) ∧ Binds K fd ps []
/-- raise C(e) in an except suite -/
def mReraise (c : String) (f : M Slot) : M Fl := fun ρ => ((mVals [f] ρ).noexc).bind fun ds ρ' => match ds with
  | [d] => .exc ⟨c, some d⟩ ρ'
  | _ => .bad
def mTryRe (g : M Fl) (cns : List String) (h : M Fl) : M Fl := fun ρ => match g ρ with
  | .exc x ρ1 => if cns.any (exSub x.cls) then h ρ1 else .exc x ρ1
  | o => o
/-- the classes by their names -/
structure ExAny (K : Fr0) (cns : List String) (cs : List Value) : Prop where
  ok : ∀ x ∈ exAll, ∀ cls, PySem.W.nsIn K mainGlobals (Str.ofString x) = some (some cls) → PySem.W.exmAny K cls cs = some (cns.any (exSub x))
section
variable {X : Cx} {W : WX} {I : ExI} {pr : Nat → Prop} {N : List Str} {sc : Scope} {cf : Str → Bool} {k : Nat} {g : M Fl} {f : M Slot} {body : List Stmt} {te e : Expr} {p pos pos2 pos3 pos' : Pos} {cns : List String} {cs : List Value} {cr : String}
end
end SD

set_option Elab.async false
set_option linter.all false
set_option autoImplicit false
set_option maxRecDepth 100000
set_option maxHeartbeats 4000000
/-! SD, exceptions: the rules of a try whose suite raises, for the printed walks; equations. -/
namespace SD
open PySem PySem.Spec PyProof.Rows L2 L2H
section
variable {X : Cx} {W : WX} {I : ExI} {pr : Nat → Prop} {N : List Str} {sc : Scope} {cf : Str → Bool} {k : Nat} {g : M Fl} {f : M Slot} {body : List Stmt} {e : Expr} {p np p1 p2 tp pos pos2 pos3 pos' : Pos} {kk : Nat} {cn cn1 cn2 cr : String}
end
/-! ### equations -/
def tryReK (cns : List String) (h : M Fl) (o : Out Fl) : Out Fl := match o with
  | .exc x ρ1 => if cns.any (exSub x.cls) then h ρ1 else .exc x ρ1
  | o => o
def reK (c : String) (o : Out (List D)) : Out Fl := match o with
  | .ok [d] ρ => .exc ⟨c, some d⟩ ρ
  | _ => .bad
section
variable {c : String} {cns : List String} {as : List AE} {f : M Slot} {ρ : En} {d : D} {g h : M Fl} {x : Exc} {fl : Fl} {s : Slot}
@[simp] theorem ev_callNX : mCallX f as ρ = (mCall f as ρ).noexc := rfl
@[simp] theorem noexc_ok {α : Type} {a : α} : (Out.ok a ρ).noexc = .ok a ρ := rfl
@[simp] theorem ev_tryRe : mTryRe g cns h ρ = tryReK cns h (g ρ) := rfl
@[simp] theorem ev_tryReK : tryReK cns h (.ok fl ρ) = .ok fl ρ := rfl
@[simp] theorem ev_tryReX : tryReK cns h (.exc x ρ) = if cns.any (exSub x.cls) then h ρ else .exc x ρ := rfl
@[simp] theorem ev_reraise : mReraise c f ρ = reK c (mVals [f] ρ) := by
  unfold mReraise reK
  cases mVals [f] ρ with
  | ok ds ρ1 => match ds with
    | [] => rfl
    | [_] => rfl
    | _ :: _ :: _ => rfl
  | _ => rfl
@[simp] theorem ev_reK : reK c (.ok [d] ρ) = .exc ⟨c, some d⟩ ρ := rfl
end
end SD

set_option Elab.async false
set_option linter.all false
set_option autoImplicit false
set_option maxRecDepth 100000
set_option maxHeartbeats 4000000
/-! SD: dict(d) of a dict: a copy. -/
namespace SD
open PySem PySem.Spec PyProof.Rows L2
def unqD : List (D × D) → Option (List (Key × D))
  | [] => some []
  | (k, d) :: r => (keyOf k).bind fun q => (unqD r).map ((q, d) :: ·)
def pDictA : List D → Option Slot
  | [.dict kvs] => (unqD kvs).map fun q => .dic q
  | ds => pDictOf ds
theorem keyOf_kD (q : Key) : keyOf (kD q) = some q := by cases q <;> rfl
theorem repQ_unq {K : Fr0} {F : Hp} : ∀ {kvs : List (D × D)} {q : List (Key × D)} {es : List (Key × V)}, RepK K F kvs es → unqD kvs = some q → RepQ K F q es
  | [], q, es, r, e => by
    cases repk_nil.mp r
    cases e
    exact repQ_nil.mpr rfl
  | (k, d) :: kvs, q, es, r, e => by
    obtain ⟨p, v, t, rfl, ek, rv, rt⟩ := repk_cons.mp r
    have e' : ((keyOf k).bind fun q => (unqD kvs).map ((q, d) :: ·)) = some q := e
    have ek' : keyOf k = some p := by
      have : k = kD p := ek
      rw [this, keyOf_kD]
    rw [ek'] at e'
    cases eu : unqD kvs with
    | none => rw [eu] at e'; cases e'
    | some q' =>
      rw [eu] at e'
      cases e'
      exact repQ_cons.mpr ⟨v, t, rfl, rv, repQ_unq rt eu⟩
section
variable {X : Cx}
theorem call_dictAP (hc : X.calm = true) : CallR X (.type "dict") (rP X.K pDictA) := by
  intro pins s σ H xs us Q J r ⟨F, ds, sl, sub, rr, e, q⟩
  unfold pDictA at e
  split at e
  · rename_i kvs
    cases en : unqD kvs with
    | none => rw [en] at e; cases e
    | some qs =>
      rw [en] at e
      cases e
      obtain ⟨v, rfl, h⟩ := vals_one rr
      obtain ⟨a, es, rfl, h1, h2⟩ := top_dict h
      exact call_dictD pins s σ H _ us Q J r ⟨a, es, rfl, h1, fun p np => q _ _ _ (.dic sub (repQ_unq h2 en) np)⟩
  · exact call_dictOfP hc pins s σ H xs us Q J r ⟨F, ds, sl, sub, rr, e, q⟩
end
theorem unq_qD : ∀ kvs : List (Key × D), unqD (qD kvs) = some kvs
  | [] => rfl
  | (k, d) :: kvs => by
    show ((keyOf (kD k)).bind fun q => (unqD (qD kvs)).map ((q, d) :: ·)) = _
    rw [keyOf_kD, unq_qD kvs]
    rfl
@[simp] theorem p_dictA {kvs : List (Key × D)} : pDictA [.dict (qD kvs)] = some (.dic kvs) := by
  show (unqD (qD kvs)).map _ = _
  rw [unq_qD]
  rfl
@[simp] theorem p_dictAL {ds : List D} : pDictA [.list ds] = pDictOf [.list ds] := rfl
end SD

set_option Elab.async false
set_option linter.all false
set_option autoImplicit false
set_option maxRecDepth 100000
set_option maxHeartbeats 4000000
/-! SD: TABLE.get(word, other) of a written table of texts. -/
namespace SD
open PySem PySem.Spec PyProof.Rows L2
def tTabGet (K : Fr0) (ta tb : TE) (d : Addr) : TE := fun σ H Q => ta σ H fun x H1 => tb σ H1 fun z H2 => ∃ (y : Str) (r : Option Value) (v : V), x = .str y ∧ PySem.W.nsIn K d y = some r ∧ (match r with | some u => RelV v u | none => v = z) ∧ Q v H2
section
variable {X : Cx} {W : WX} {I : ExI} {a : AE} {e e2 : Expr} {x : Str} {tab : List (Str × Str)} {p pos apos : Pos} {f : M Slot} {ta tb : TE} {d : Addr} {es : Array DictEntry} {n : Nat}
/-- .. what it gives -/
def tabGetO (tab : List (Str × Str)) (ρ : En) (d : D) : Option D → Out Slot
  | some (.str z) => .ok (.val ((tab.lookup z).elim d PyData.str)) ρ
  | _ => .bad
def mTabGet (tab : List (Str × Str)) (a : AE) (f : M Slot) : M Slot := fun ρ => (evA a ρ).bind fun g ρ1 => (f ρ1).bind fun s ρ2 => match s.data with
  | some d => tabGetO tab ρ2 d (g.slot ρ2).data
  | none => .bad
end
/-! ### equations -/
def tgK2 (tab : List (Str × Str)) (g : Arg) (o : Out Slot) : Out Slot := o.bind fun s ρ2 => match s.data with
  | some d => tabGetO tab ρ2 d (g.slot ρ2).data
  | none => .bad
def tgK (tab : List (Str × Str)) (f : M Slot) (o : Out Arg) : Out Slot := o.bind fun g ρ1 => tgK2 tab g (f ρ1)
section
variable {tab : List (Str × Str)} {a : AE} {f : M Slot} {ρ : En} {g : Arg} {d : D} {z : Str} {es : List D}
@[simp] theorem ev_tg : mTabGet tab a f ρ = tgK tab f (evA a ρ) := rfl
@[simp] theorem ev_tgK : tgK tab f (.ok g ρ) = tgK2 tab g (f ρ) := rfl
@[simp] theorem ev_tgK2 : tgK2 tab g (.ok (.val d) ρ) = tabGetO tab ρ d (g.slot ρ).data := rfl
@[simp] theorem ev_tgO : tabGetO tab ρ d (some (.str z)) = .ok (.val ((tab.lookup z).elim d PyData.str)) ρ := rfl
end
end SD

set_option Elab.async false
set_option linter.all false
set_option autoImplicit false
set_option maxRecDepth 100000
set_option maxHeartbeats 4000000
/-! SD: zip of a list and a text. -/
namespace SD
open PySem PySem.Spec PyProof.Rows L2
/-! ### the library's level -/
abbrev zsH1 (h : Heap) (l1 : Addr) : Heap := h.push { cls := .type "list_iterator", data := .fields #[.ref l1, .int 0 0] }
abbrev zsH2 (h : Heap) (l1 : Addr) (x : Str) (t : Tok) : Heap := (zsH1 h l1).push { cls := .type "str_ascii_iterator", data := .fields #[.str x t, .int 0 0] }
abbrev zsH3 (h : Heap) (l1 : Addr) (x : Str) (t : Tok) : Heap := (zsH2 h l1 x t).push { cls := .type "tuple", data := .seq #[.ref h.objs.size, .ref (zsH1 h l1).objs.size] }
abbrev zsH4 (h : Heap) (l1 : Addr) (x : Str) (t : Tok) : Heap := (zsH3 h l1 x t).push { cls := .type "tuple", data := .seq #[.none, .none] }
abbrev zsH5 (h : Heap) (l1 : Addr) (x : Str) (t : Tok) : Heap := (zsH4 h l1 x t).push { cls := .type "zip", data := .fields #[.none, .bool false, .bool false, .ref (zsH2 h l1 x t).objs.size, .ref (zsH3 h l1 x t).objs.size] }
section
variable {prog : Program} {w : World} {A : Around} {E : Value → Shared → Prop} {s : Shared}
end
/-! ### a walk over it -/
/-- the list at a and the text y, the items in new pairs -/
def Itzs (K : PySem.W.Frag) (a : Addr) (y : Str) (n : Nat) : It :=
  ⟨fun i H => ∃ (xs : List V) (x : V) (c : Nat), SqL K H a xs ∧ xs.length = n ∧ xs[i]? = some x ∧ y.cps[i]? = some c,
    fun i H v H' => ∃ T x c, v = .ref T ∧ H T = none ∧ H' = upd H T (.tup [x, .str ⟨#[c]⟩]) ∧ (∀ xs, SqL K H a xs → xs[i]? = some x) ∧ y.cps[i]? = some c,
    fun i H => ∃ xs : List V, SqL K H a xs ∧ xs.length = n ∧ (n ≤ i ∨ y.cps.size ≤ i)⟩
def iZipS (K : PySem.W.Frag) (ta : TA) : TI := fun σ H R => ta σ H fun vs H1 => ∃ a xs y, vs = [.ref a, .str y] ∧ y.cps.all (· < 128) = true ∧ SqL K H1 a xs ∧ R (Itzs K a y xs.length) H1
/-! ### the layer -/
def mZipS (f h : M Slot) : M (List D) := fun ρ => (mVals [f, h] ρ).bind fun ds ρ' => match ds with
  | [.list es, .str y] => if y.cps.all (· < 128) = true then .ok (zipped es (signs y)) ρ' else .bad
  | _ => .bad
section
variable {X : Cx} {W : WX} {I : ExI} {f h : M Slot} {e e2 : Expr} {elts : List Expr} {kk : Nat} {p pos tpos : Pos}
end
/-! ### equations -/
def zsK (o : Out (List D)) : Out (List D) := o.bind fun ds ρ' => match ds with
  | [.list es, .str y] => if y.cps.all (· < 128) = true then .ok (zipped es (signs y)) ρ' else .bad
  | _ => .bad
@[simp] theorem ev_zipS {f h : M Slot} {ρ : En} : mZipS f h ρ = zsK (mVals [f, h] ρ) := rfl
@[simp] theorem ev_zsK {ρ : En} {es : List D} {y : Str} : zsK (.ok [.list es, .str y] ρ) = if y.cps.all (· < 128) = true then .ok (zipped es (signs y)) ρ else .bad := rfl
end SD

set_option Elab.async false
set_option linter.all false
set_option autoImplicit false
set_option maxRecDepth 100000
set_option maxHeartbeats 4000000
/-! SD: str of a text. -/
namespace SD
open PySem PySem.Spec PyProof.Rows L2
def pStrA : List D → Option Slot
  | [.int i] => if i.natAbs.log2 < 1920 then some (.val (.str (toString i))) else none
  | [.str z] => some (.val (.str z))
  | _ => none
section
variable {X : Cx}
end
@[simp] theorem p_strAS {z : Str} : pStrA [.str z] = some (.val (.str z)) := rfl
end SD

set_option Elab.async false
set_option linter.all false
set_option autoImplicit false
set_option maxRecDepth 100000
set_option maxHeartbeats 4000000
/-! SD: list(range(n)). -/
namespace SD
open PySem PySem.Spec PyProof.Rows L2
def lstRO (ρ : En) (o : Option D) : Out Slot := match o with
  | some (.int j) => if j ≤ 16777216 ∧ -(2 ^ 62) ≤ j then .ok (.lst ((List.range (j - 0).toNat).map fun i => PyData.int (0 + (i : Nat)))) ρ else .bad
  | _ => .bad
def mLstRange (f : M Slot) : M Slot := fun ρ => (f ρ).bind fun s ρ1 => lstRO ρ1 s.data
section
variable {X : Cx} {W : WX} {I : ExI} {e : Expr} {f : M Slot}
end
/-! ### equations -/
def lrK (o : Out Slot) : Out Slot := o.bind fun s ρ1 => lstRO ρ1 s.data
section
variable {f : M Slot} {ρ : En} {s : Slot} {j : Int}
@[simp] theorem ev_lr : mLstRange f ρ = lrK (f ρ) := rfl
@[simp] theorem ev_lrK : lrK (.ok s ρ) = lstRO ρ s.data := rfl
@[simp] theorem ev_lrO : lstRO ρ (some (.int j)) = if j ≤ 16777216 ∧ -4611686018427387904 ≤ j then .ok (.lst ((List.range j.toNat).map fun i : Nat => PyData.int (i : Int))) ρ else .bad := by
  unfold lstRO
  simp
end
end SD

set_option Elab.async false
set_option linter.all false
set_option autoImplicit false
set_option maxRecDepth 100000
set_option maxHeartbeats 4000000
/-! SD: a promise that promises nothing (the floor of a recursion). -/
namespace SD
open PySem PySem.Spec PyProof.Rows L2
end SD

set_option Elab.async false
set_option linter.all false
set_option autoImplicit false
set_option maxRecDepth 100000
set_option maxHeartbeats 4000000
/-! SD: xs[::2] of a tuple. -/
namespace HT
open PySem PySem.Spec PyProof.Rows L2
def ev2 {α : Type} : List α → List α
  | [] => []
  | [a] => [a]
  | a :: _ :: r => a :: ev2 r
section
variable {prog : Program} {w : World} {A : Around} {E : Value → Shared → Prop} {s : Shared}
end
end HT
namespace SD
open PySem PySem.Spec PyProof.Rows L2
def tEv (K : Fr0) (te : TE) : TE := fun σ H Q => te σ H fun x H1 => ∃ a xs, x = .ref a ∧ (SqT K H1 a xs ∧ ∀ p, H1 p = none → Q (.ref p) (upd H1 p (.tup (HT.ev2 xs))))
def evO (ρ : En) (o : Option D) : Out Slot := match o with
  | some (.tuple ds) => .ok (.val (.tuple (HT.ev2 ds))) ρ
  | _ => .bad
def mEv (a : AE) : M Slot := fun ρ => (evA a ρ).bind fun g ρ1 => evO ρ1 (g.slot ρ1).data
section
variable {X : Cx} {W : WX} {I : ExI} {a : AE} {e : Expr}
end
end SD

set_option Elab.async false
set_option linter.all false
set_option autoImplicit false
set_option maxRecDepth 100000
set_option maxHeartbeats 4000000
/-! SD: a, b = e1, e2 with plain local names: lists and dicts of one's own stay such. -/
namespace SD
open PySem PySem.Spec PyProof.Rows L2
def mPar (i j : Nat) (f h : M Slot) : M Fl := fun ρ => (evAs [.ex f, .ex h] ρ).bind fun gs ρ1 => match gs with
  | [.sl s1, .sl s2] => .ok .next ((ρ1.set i s1).set j s2)
  | _ => .bad
section
variable {X : Cx} {W : WX} {I : ExI} {N : List Str} {sc : Scope} {cf : Str → Bool} {k : Nat} {pr : Nat → Prop}
theorem post_set2 {K : Fr0} {F H F1 H1 : Hp} {ρ ρ1 : En} {σ : St} {i j : Nat} {s1 s2 : Slot} {v v2 : V} (P : PostL K F H ρ σ F1 H1 ρ1 [.sl s1, .sl s2] [v, v2]) (hi : ¬ pr i) (hj : ¬ pr j) :
    PostS K pr F H ρ σ F1 H1 ((ρ1.set i s1).set j s2) ((σ.set i (some v)).set j (some v2)) := by
  obtain ⟨okA, dj, okB, -, -⟩ := P.ok
  have R1 : Rp K F1 H1 (ρ1.set i s1) (σ.set i (some v)) := P.rp.set P.rp.sub okA.1 (fun j t u _ e1 e2 => P.rp.ok j t u e1 e2) fun q j t u o _ e1 e2 o2 => okA.2 q o ⟨j, t, u, e1, e2, o2⟩
  have no : ∀ q, Owns H1 s2 (some v2) q → ¬ OwnE H1 (ρ1.set i s1) (σ.set i (some v)) q := fun q o h => by
    rcases ownE_set h with h | h
    · exact dj q h (.inl o)
    · exact okB.2 q o h
  refine ⟨R1.set R1.sub okB.1 (fun j t u _ e1 e2 => R1.ok j t u e1 e2) fun q j t u o _ e1 e2 o2 => no q o ⟨j, t, u, e1, e2, o2⟩, P.ext.weak (fun _ h => h) fun q h => .inl ?_, fun l hl => ?_, by simp⟩
  · rcases ownE_set h with h | h
    · exact .inl (.inr (.inl h))
    · rcases ownE_set h with h | h
      · exact .inl (.inl h)
      · exact .inr h
  · have n1 : i ≠ l := fun z => hi (z ▸ hl)
    have n2 : j ≠ l := fun z => hj (z ▸ hl)
    rw [List.getElem?_set_ne n2, List.getElem?_set_ne n1]
theorem cs_parO {fa fb : M Slot} {a b : Expr} {x y : Str} {px py pt pt2 pos : Pos} {kt k2 : Nat} (c : Cn X W N sc cf k) (i j : Nat) (hi : N[i]? = some x) (hj : N[j]? = some y) (hx : locB sc x = true) (hy : locB sc y = true) (hij : i ≠ j) (hpi : ¬ pr i) (hpj : ¬ pr j)
    (h : CAs X W I [.ex fa, .ex fb] [a, b]) (hxy : (x == y) = false) (hl : (py.line == px.line) = true) (hsa : starB a = false) (hsb : starB b = false) (hf : [a, b].all (foldedForSure 8) = false) (hc : [a, b].all (constantsAlone 8) = false) (hk : sc.kind = .function := by rfl)
    (hs : swapsWithSole [.Tuple [.Name x px, .Name y py] kt pt] (.Tuple [a, b] k2 pt2) pos.line X.env = pure false := by rfl) :
    CS X W I pr (mPar i j fa fb) (.Assign [.Tuple [.Name x px, .Name y py] kt pt] (.Tuple [a, b] k2 pt2) pos) := by
  obtain ⟨t, k1, q1⟩ := h.run
  have hx' := loc_of hx
  have hy' := loc_of hy
  rw [← c.hs] at hx' hy' hk
  refine ⟨_, ps_par c.calm (by rw [c.hN]; exact c.nd) (by rw [c.hN]; exact hi) (by rw [c.hN]; exact hj) hij hx' hy' k1 (sw2_of hk hx' hy' hxy hl hsa hsb hf hc) hs, fun F H ρ σ E R z => ?_⟩
  unfold mPar at z
  rw [Out.sat_bind] at z
  refine q1 F H ρ σ _ R (Out.sat_mono z (fun gs ρ1 e y F1 H1 vs P => ?_) fun _ _ y => y.toC)
  split at y
  · rename_i s1 s2
    match vs, P with
    | [v, v2], P => exact ⟨v, v2, rfl, y F1 H1 _ (post_set2 P hpi hpj)⟩
    | [], P => exact P.ok.elim
    | [_], P => exact P.ok.2.2.elim
    | _ :: _ :: _ :: _, P => exact P.ok.2.2.2.2.elim
  · exact y.elim
end
/-! ### equations -/
def parK (i j : Nat) (o : Out (List Arg)) : Out Fl := o.bind fun gs ρ1 => match gs with
  | [.sl s1, .sl s2] => .ok .next ((ρ1.set i s1).set j s2)
  | _ => .bad
section
variable {i j : Nat} {f h : M Slot} {ρ : En} {s1 s2 : Slot}
@[simp] theorem ev_par : mPar i j f h ρ = parK i j (evAs [.ex f, .ex h] ρ) := rfl
@[simp] theorem ev_parK : parK i j (.ok [.sl s1, .sl s2] ρ) = .ok .next ((ρ.set i s1).set j s2) := rfl
end
end SD

set_option Elab.async false
set_option linter.all false
set_option autoImplicit false
set_option maxRecDepth 100000
set_option maxHeartbeats 4000000
/-! SD: x.remove(k), x an own list of ints in which k stands. -/
namespace SD
open PySem PySem.Spec PyProof.Rows L2
def remO (i : Nat) (ρ : En) (o : Option D) (s : Slot) : Out Slot := match o with
  | some (.int k) => (match s with
    | .lst ds => (match intsOf ds with
      | some ns => if k ∈ ns then .ok (.val .none) (ρ.set i (.lst ((ns.erase k).map PyData.int))) else .bad
      | none => .bad)
    | _ => .bad)
  | _ => .bad
def mRemove (i : Nat) (f : M Slot) : M Slot := fun ρ => match En.at ρ i with
  | .lst _ => (f ρ).bind fun s ρ1 => remO i ρ1 s.data (En.at ρ1 i)
  | _ => .bad
section
variable {X : Cx} {W : WX} {I : ExI} {i : Nat} {e ex : Expr} {f : M Slot} {pos apos : Pos}
end
/-! ### equations -/
def remK (i : Nat) (o : Out Slot) : Out Slot := o.bind fun s ρ1 => remO i ρ1 s.data (En.at ρ1 i)
section
variable {f : M Slot} {ρ : En} {s : Slot} {k : Int} {i : Nat} {ns : List Int}
@[simp] theorem ev_rem : mRemove i f ρ = match En.at ρ i with | .lst _ => remK i (f ρ) | _ => .bad := by
  unfold mRemove remK
  cases En.at ρ i <;> rfl
@[simp] theorem ev_remK : remK i (.ok s ρ) = remO i ρ s.data (En.at ρ i) := rfl
end
end SD

set_option Elab.async false
set_option linter.all false
set_option autoImplicit false
set_option maxRecDepth 100000
set_option maxHeartbeats 4000000
/-! SD: sum of a list of truths. -/
namespace HT
open PySem PySem.Spec PyProof.Rows L2
section
variable {prog : Program} {w : World} {A : Around} {E : Value → Shared → Prop} {s : Shared} {l : Addr}
def bAt (bs : List Bool) (i : Nat) : Int := if bs.getD i false = true then 1 else 0
end
end HT
namespace SD
open PySem PySem.Spec PyProof.Rows L2
def boolsOf2 : List D → Option (List Bool)
  | [] => some []
  | .bool b :: ds => (boolsOf2 ds).map (b :: ·)
  | _ => none
def pSumB : List D → Option Slot
  | [.list ds] => (boolsOf2 ds).map fun bs => .val (.int (preSum (HT.bAt bs) bs.length))
  | _ => none
end SD

set_option Elab.async false
set_option linter.all false
set_option autoImplicit false
set_option maxRecDepth 100000
set_option maxHeartbeats 4000000
/-! SD: == of two dicts whose values are plain data, in whatever order their keys stand. -/
namespace SD
open PySem PySem.Spec PyProof.Rows L2
def vOk (a : List (D × D)) : Bool := a.all fun p => PyData.plain p.2 && decide (PyData.depth p.2 ≤ 40)
def keyE (f : Key → Bool) (k : D) : Bool := match keyOf k with
  | some q => f q
  | none => false
def sameAt (a b : List (D × D)) (q : Key) : Bool := match dGet a q, dGet b q with
  | some x, some y => PyData.eqv x y
  | _, _ => true
def dictB (a b : List (D × D)) : Bool := a.length == b.length && a.all fun p => keyE (fun q => (dGet b q).isSome && sameAt a b q) p.1
def pEqD : List D → Option Slot
  | [.dict a, .dict b] => if vOk a = true ∧ vOk b = true ∧ (a.map fun p => keyOf p.1).Nodup ∧ (b.map fun p => keyOf p.1).Nodup then some (.val (.bool (dictB a b))) else none
  | _ => none
theorem keyOf_is {k : D} {q : Key} (h : keyIs k q = true) : keyOf k = some q := by
  cases k <;> cases q <;> simp [keyIs] at h <;> subst h <;> rfl
theorem dGet_nodup {q : Key} {d : D} : ∀ {a : List (D × D)}, (a.map fun p => keyOf p.1).Nodup → (kD q, d) ∈ a → dGet a q = some d
  | [], _, h => by cases h
  | (k, x) :: a, nd, h => by
    rw [List.map_cons, List.nodup_cons] at nd
    rcases List.mem_cons.mp h with h | h
    · cases h
      simp [dGet, List.find?_cons, keyIs_kD]
    · have ih := dGet_nodup nd.2 h
      have ne : keyIs k q = false := by
        cases e : keyIs k q with
        | false => rfl
        | true =>
          refine absurd ?_ nd.1
          rw [keyOf_is e, List.mem_map]
          exact ⟨(kD q, d), h, keyOf_kD q⟩
      unfold dGet at ih ⊢
      rw [List.find?_cons]
      simp only [ne]
      exact ih
theorem mem_rep {K : Fr0} {F : Hp} {k : Key} {v : Value} : ∀ {a : List (D × D)} {es : List (Key × V)} {vs : List (Key × Value)}, RepK K F a es → KV es vs → (k, v) ∈ vs → ∃ d x, (kD k, d) ∈ a ∧ Rep K F d x ∧ RelV x v
  | [], es, vs, r, kv, h => by
    rw [repk_nil] at r
    subst r
    cases kv
    cases h
  | (c, d) :: a, es, vs, r, kv, h => by
    rw [repk_cons] at r
    obtain ⟨q, x, t, rfl, rfl, h1, h2⟩ := r
    cases kv with
    | cons h3 h4 =>
      rename_i u us
      rcases List.mem_cons.mp h with h | h
      · subst h
        obtain ⟨e, r⟩ := h3
        have e : q = k := e
        subst e
        exact ⟨d, x, List.mem_cons_self, h1, r⟩
      · obtain ⟨d', x', m, r', r''⟩ := mem_rep h2 h4 h
        exact ⟨d', x', List.mem_cons_of_mem _ m, r', r''⟩
theorem all_rep {K : Fr0} {F : Hp} (f : Key → Bool) : ∀ {a : List (D × D)} {es : List (Key × V)} {vs : List (Key × Value)}, RepK K F a es → KV es vs → (vs.all fun p => f p.1) = (a.all fun p => keyE f p.1) ∧ vs.length = a.length
  | [], es, vs, r, kv => by
    rw [repk_nil] at r
    subst r
    cases kv
    exact ⟨rfl, rfl⟩
  | (c, d) :: a, es, vs, r, kv => by
    rw [repk_cons] at r
    obtain ⟨q, x, t, rfl, rfl, h1, h2⟩ := r
    cases kv with
    | cons h3 h4 =>
      rename_i u us
      obtain ⟨i1, i2⟩ := all_rep f h2 h4
      have e : q = u.1 := h3.1
      refine ⟨?_, by simp [i2]⟩
      rw [List.all_cons, List.all_cons, i1, ← e]
      congr 1
      show f q = keyE f (kD q)
      unfold keyE
      rw [keyOf_kD]
section
variable {X : Cx} {k : Nat}
theorem op_eqDP (hr : Room k X.A) : OpR X (compareOp .Eq) (fun x y => rP X.K pEqD [x, y]) := by
  intro pins s σ H x y v u Q J rx ry ⟨F, ds, sl, sub, r, e, q⟩
  obtain ⟨a, b, rfl, h1, h2⟩ := two_of r
  have hu := hr.un
  cases a with
  | dict a =>
    cases b with
    | dict b =>
      have e : (if vOk a = true ∧ vOk b = true ∧ (a.map fun p => keyOf p.1).Nodup ∧ (b.map fun p => keyOf p.1).Nodup then some (Slot.val (.bool (dictB a b))) else none) = some sl := e
      split at e
      · rename_i ok
        obtain ⟨oa, ob, na, nb⟩ := ok
        cases e
        obtain ⟨p, es, rfl, g, w1⟩ := top_dict h1
        obtain ⟨p2, es2, rfl, g2, w2⟩ := top_dict h2
        obtain ⟨-, z1, vs, r1, d1⟩ := dk_rd J.hok g
        obtain ⟨-, z2, vs2, r2, d2⟩ := dk_rd J.hok g2
        cases (show v = Value.ref p from rx)
        cases (show u = Value.ref p2 from ry)
        unfold vOk at oa ob
        rw [List.all_eq_true] at oa ob
        have some2 : ∀ q, (valueAt vs2 q).isSome = (dGet b q).isSome := fun q => by
          have h := r2.val q
          rcases repk_get q w2 with ⟨d, x, e1, e2, -⟩ | ⟨e1, e2⟩
          · rw [e2] at h
            obtain ⟨y, hy, -⟩ := h.some_of
            rw [hy, e1]
            rfl
          · rw [e2] at h
            rw [e1]
            cases hv : valueAt vs2 q with
            | none => rfl
            | some y => rw [hv] at h; exact h.elim
        refine PySem.W.eq_dictsT (n := 40) (e := sameAt a b) z1 z2 d1 d2 (fun k v y hm hy => ?_) (by omega) ?_
        · obtain ⟨d, x, m, rd, rv⟩ := mem_rep w1 r1 hm
          have ga := dGet_nodup na m
          have h := r2.val k
          rcases repk_get k w2 with ⟨d2', x2, e1, e2, rd2⟩ | ⟨e1, e2⟩
          · rw [e2, hy] at h
            have rv2 : RelV x2 y := h
            have pa := oa _ m
            simp only [Bool.and_eq_true, decide_eq_true_eq] at pa
            have mb : ∃ k', (k', d2') ∈ b := by
              unfold dGet at e1
              rw [Option.map_eq_some_iff] at e1
              obtain ⟨p, hp, rfl⟩ := e1
              exact ⟨p.1, List.mem_of_find?_eq_some hp⟩
            obtain ⟨k', mb⟩ := mb
            have pb := ob _ mb
            simp only [Bool.and_eq_true, decide_eq_true_eq] at pb
            obtain ⟨as, k1⟩ := Dp.reads J d x v (Rep.dp d x pa.1 (Rep.mono sub d x rd)) rv
            obtain ⟨bs, k2⟩ := Dp.reads J d2' x2 y (Rep.dp d2' x2 pb.1 (Rep.mono sub d2' x2 rd2)) rv2
            have es : sameAt a b k = PyData.eqv d d2' := by
              unfold sameAt
              rw [ga, e1]
            rw [es]
            exact .leaf fun A hA => SeqAt.eqAt_plain d d2' A s v y as bs k1 k2 pa.1 pb.1 (by omega)
          · rw [e2, hy] at h
            exact h.elim
        · obtain ⟨i1, i2⟩ := all_rep (fun q => (valueAt vs2 q).isSome && sameAt a b q) w1 r1
          obtain ⟨-, i4⟩ := all_rep (fun _ => true) w2 r2
          rw [i1, i2, i4]
          have e : (fun q => (valueAt vs2 q).isSome && sameAt a b q) = fun q => (dGet b q).isSome && sameAt a b q := funext fun q => by rw [some2]
          rw [e]
          exact ⟨.bl _, H, J, rfl, res_bool sub q⟩
      · cases e
    | _ => cases e
  | _ => cases e
end
end SD

set_option Elab.async false
set_option linter.all false
set_option autoImplicit false
set_option maxRecDepth 100000
set_option maxHeartbeats 4000000
/-! SD: name = [.. for .. in other name], the other's list stays its own. -/
namespace SD
open PySem PySem.Spec PyProof.Rows L2
def mCompO (i : Nat) (vs : List Nat) (g : Tg) (c : M Bool) (f : M Slot) : M Slot := fun ρ => match En.at ρ i with
  | .lst ds => (mComp (fun ρ => .ok ds ρ) vs g c f (ρ.set i .emp)).bind fun s ρ2 => .ok s (ρ2.set i (.lst ds))
  | _ => .bad
section
variable {X : Cx} {W : WX} {I : ExI} {N : List Str} {sc : Scope} {cf : Str → Bool} {k : Nat}
variable {tg iter elt : Expr} {ifs : List Expr} {g : Tg} {cnd : M Bool} {f : M Slot} {scope : Scope} {own : List (Str × Nat)} {pos : Pos} {i : Nat}
end
/-! ### equations -/
section
variable {i : Nat} {vs : List Nat} {g : Tg} {c : M Bool} {f : M Slot} {ρ : En} {ds : List D} {s : Slot}
@[simp] theorem ev_compO : mCompO i vs g c f ρ = match En.at ρ i with
    | .lst ds => backL i ds (compR vs g c f ds (ρ.set i .emp))
    | _ => .bad := by
  unfold mCompO backL
  cases En.at ρ i with
  | lst ds =>
    show (mComp (fun ρ => .ok ds ρ) vs g c f (ρ.set i .emp)).bind _ = _
    rw [ev_comp]
    rfl
  | emp => rfl
  | val d => rfl
  | dic kv => rfl
  | exn x => rfl
  | pr _ _ => rfl
  | obj _ _ _ _ => rfl
  | fro _ _ _ => rfl
  | box _ _ => rfl
end
end SD

set_option Elab.async false
set_option linter.all false
set_option autoImplicit false
set_option maxRecDepth 100000
set_option maxHeartbeats 4000000
/-! SD: x.pop(k) and x.pop(), x an own list. -/
namespace SD
open PySem PySem.Spec PyProof.Rows L2
def popLO (i : Nat) (ρ : En) (o : Option D) (s : Slot) : Out Slot := match o with
  | some (.int k) => (match s with
    | .lst ds => if -(2 ^ 63) ≤ k ∧ k < 2 ^ 63 then (match seqIndex? k ds.length with
      | some j => (match ds[j]? with
        | some d => .ok (.val d) (ρ.set i (.lst (ds.eraseIdx j)))
        | none => .bad)
      | none => .bad) else .bad
    | _ => .bad)
  | _ => .bad
/-- x.pop(k) -/
def mPopL (i : Nat) (f : M Slot) : M Slot := fun ρ => match En.at ρ i with
  | .lst _ => (f ρ).bind fun s ρ1 => popLO i ρ1 s.data (En.at ρ1 i)
  | _ => .bad
section
variable {X : Cx} {W : WX} {I : ExI} {i : Nat} {e ex : Expr} {f : M Slot} {pos apos : Pos}
end
/-! ### equations -/
def popLK (i : Nat) (o : Out Slot) : Out Slot := o.bind fun s ρ1 => popLO i ρ1 s.data (En.at ρ1 i)
section
variable {f : M Slot} {ρ : En} {s : Slot} {i : Nat} {d : D} {ds : List D}
@[simp] theorem ev_popL : mPopL i f ρ = match En.at ρ i with | .lst _ => popLK i (f ρ) | _ => .bad := by
  unfold mPopL popLK
  cases En.at ρ i <;> rfl
@[simp] theorem ev_popLK : popLK i (.ok s ρ) = popLO i ρ s.data (En.at ρ i) := rfl
@[simp] theorem ev_popL0 : popLO i ρ (some (.int 0)) (.lst (d :: ds)) = .ok (.val d) (ρ.set i (.lst ds)) := by
  have h : seqIndex? 0 (d :: ds).length = some 0 := by
    unfold seqIndex?
    simp
  unfold popLO
  simp only [h]
  simp
end
end SD

set_option Elab.async false
set_option linter.all false
set_option autoImplicit false
set_option maxRecDepth 100000
set_option maxHeartbeats 4000000
/-! SD: len of a dict. -/
namespace SD
open PySem PySem.Spec PyProof.Rows L2
def pLenD : List D → Option Slot
  | [.dict kvs] => some (.val (.int kvs.length))
  | _ => none
section
variable {X : Cx}
end
@[simp] theorem p_lenD {kvs : List (D × D)} : pLenD [.dict kvs] = some (.val (.int kvs.length)) := rfl
end SD

set_option Elab.async false
set_option linter.all false
set_option autoImplicit false
set_option maxRecDepth 100000
set_option maxHeartbeats 4000000
/-! SD: a or b, a a list. -/
namespace SD
open PySem PySem.Spec PyProof.Rows L2
def orLO (b : M Slot) (s : Slot) (o : Option D) (ρ : En) : Out Slot := match o with
  | some (.list ds) => if ds = [] then b ρ else .ok s ρ
  | _ => .bad
def mOrL (a b : M Slot) : M Slot := fun ρ => (a ρ).bind fun s ρ1 => orLO b s s.data ρ1
section
variable {X : Cx} {W : WX} {I : ExI} {ea eb : Expr} {pos : Pos}
end
def orLK (b : M Slot) (o : Out Slot) : Out Slot := o.bind fun s ρ1 => orLO b s s.data ρ1
section
variable {a b : M Slot} {ρ : En} {s : Slot} {d : D} {ds : List D}
@[simp] theorem ev_orL : mOrL a b ρ = orLK b (a ρ) := rfl
@[simp] theorem ev_orLK : orLK b (.ok s ρ) = orLO b s s.data ρ := rfl
@[simp] theorem ev_orL0 : orLO b s (some (.list [])) ρ = b ρ := rfl
@[simp] theorem ev_orL1 : orLO b s (some (.list (d :: ds))) ρ = .ok s ρ := by
  unfold orLO
  simp
end
end SD

set_option Elab.async false
set_option linter.all false
set_option autoImplicit false
set_option maxRecDepth 100000
set_option maxHeartbeats 4000000
/-! SD: != of two dicts of plain data in any order, or of a dict and None. -/
namespace SD
open PySem PySem.Spec PyProof.Rows L2 PySem.SeqAt
open AutoSeq1 (wpAny_loadPart')
open MeetsSeq
def pNeD : List D → Option Slot
  | [.dict a, .dict b] => if vOk a = true ∧ vOk b = true ∧ (a.map fun p => keyOf p.1).Nodup ∧ (b.map fun p => keyOf p.1).Nodup then some (.val (.bool (!dictB a b))) else none
  | [.none, .dict _] => some (.val (.bool true))
  | [.dict _, .none] => some (.val (.bool true))
  | [.none, .none] => some (.val (.bool false))
  | _ => none
theorem dict_ne_none (l : Addr) (es : Array DictEntry) (ep : Nat) (dd : Option Addr) (sl : Array (Option Value)) :
    Meets (Builtin.«dict.__ne__» ⟨[.ref l, .none], []⟩) (fun _ R s => s.heap.get? l = some { cls := .type "dict", dict := dd, data := .dict es ep, slots := sl } ∧ R (.ok (.ret .notImplemented)) s) :=
  .of_wp fun prog w A R s h => by obtain ⟨hp, g, d, tk, os⟩ := s; obtain ⟨hl, h⟩ := h; have f1 := F.sub_NoneType_dict; wp_walk using wpAny_loadPart' hl, wpAny_load hl; exact ⟨_, rfl, h⟩
theorem keqHits_of {prog : Program} {w : World} {K : Type} [DecidableEq K] {knd : KeyKind prog w K} {A : Around} {s : Shared} {kb : List (K × Value)} {e : K → Bool} : ∀ (r : List (K × Value)), (∀ k v y, (k, v) ∈ r → valueAt kb k = some y → EqAt A s v y (e k)) →
    PySem.W.KeqHits A s kb r (r.all fun p => (valueAt kb p.1).isSome && e p.1)
  | [], _ => .nil
  | (k, v) :: r, h => by
    cases hv : valueAt kb k with
    | none =>
      have q : (((k, v) :: r).all fun p => (valueAt kb p.1).isSome && e p.1) = false := by simp [hv]
      rw [q]
      exact .miss hv
    | some y =>
      have q : (((k, v) :: r).all fun p => (valueAt kb p.1).isSome && e p.1) = (e k && r.all fun p => (valueAt kb p.1).isSome && e p.1) := by simp [hv]
      rw [q]
      exact .hit hv (h k v y List.mem_cons_self hv) (keqHits_of (knd := knd) r fun k' v' y' hm hv' => h k' v' y' (List.mem_cons_of_mem _ hm) hv')
section
variable {A : Around} {s : Shared}
theorem rcne_dict_none {l : Addr} {o : Obj} {es : Array DictEntry} {ep : Nat} (ho : s.heap.get? l = some o) (hc : o.ExactDict) (hd : o.data = .dict es ep) (hu : A.units < cLine) : RcNeAt A s (.ref l) .none true := fun prog w E Q h => by
  obtain ⟨cls, dd, data, sl⟩ := o
  have hc : cls = .type "dict" := hc.1
  simp only at hd
  subst hc hd
  exact rc_ne_decline_or (k := false) ⟨_, ho, rfl⟩ rfl (by decide) F.sub_NoneType_dict F.slot_dict_ne F.slot_NoneType_ne_refl
    (fun _ hq => call_meets F.slot_dict_ne ⟨_, ho, rfl⟩ F.entry_dict_ne (F.args_dict_ne_2 _ _) (dict_ne_none l es ep dd sl) ⟨ho, hq⟩)
    (fun _ hq => call_gives F.slot_NoneType_ne_refl rfl F.entry_NoneType_ne (F.args_NoneType_ne_2 _ _) (NoneType___ne___none_ref_0 l) hq)
    (fun _ hq => wpAny_of_eq (rfl : isSame (.ref l) .none = pure false) hq) (.inr hu) h
theorem rcne_none_dict {l : Addr} {o : Obj} {es : Array DictEntry} {ep : Nat} (ho : s.heap.get? l = some o) (hc : o.ExactDict) (hd : o.data = .dict es ep) (hu : A.units < cLine) : RcNeAt A s .none (.ref l) true := fun prog w E Q h => by
  obtain ⟨cls, dd, data, sl⟩ := o
  have hc : cls = .type "dict" := hc.1
  simp only at hd
  subst hc hd
  exact rc_ne_decline_or (k := false) rfl ⟨_, ho, rfl⟩ (by decide) F.sub_dict_NoneType F.slot_NoneType_ne F.slot_dict_ne_refl
    (fun _ hq => call_gives F.slot_NoneType_ne rfl F.entry_NoneType_ne (F.args_NoneType_ne_2 _ _) (NoneType___ne___none_ref_0 l) hq)
    (fun _ hq => call_meets F.slot_dict_ne_refl ⟨_, ho, rfl⟩ F.entry_dict_ne (F.args_dict_ne_2 _ _) (dict_ne_none l es ep dd sl) ⟨ho, hq⟩)
    (fun _ hq => wpAny_of_eq (rfl : isSame .none (.ref l) = pure false) hq) (.inr hu) h
end
section
variable {X : Cx} {k : Nat}
theorem op_neDP (hr : Room k X.A) : OpR X (compareOp .NotEq) (fun x y => rP X.K pNeD [x, y]) := by
  intro pins s σ H x y v u Q J rx ry ⟨F, ds, sl, sub, r, e, q⟩
  obtain ⟨a, b, rfl, h1, h2⟩ := two_of r
  have hu := hr.un
  unfold pNeD at e
  split at e
  · rename_i a' b' he
    cases he
    split at e
    · rename_i ok
      obtain ⟨oa, ob, na, nb⟩ := ok
      cases e
      obtain ⟨p, es, rfl, g, w1⟩ := top_dict h1
      obtain ⟨p2, es2, rfl, g2, w2⟩ := top_dict h2
      obtain ⟨-, z1, vs, r1, d1⟩ := dk_rd J.hok g
      obtain ⟨-, z2, vs2, r2, d2⟩ := dk_rd J.hok g2
      cases (show v = Value.ref p from rx)
      cases (show u = Value.ref p2 from ry)
      unfold vOk at oa ob
      rw [List.all_eq_true] at oa ob
      have some2 : ∀ q, (valueAt vs2 q).isSome = (dGet b' q).isSome := fun q => by
        have h := r2.val q
        rcases repk_get q w2 with ⟨d, x, e1, e2, -⟩ | ⟨e1, e2⟩
        · rw [e2] at h
          obtain ⟨y, hy, -⟩ := h.some_of
          rw [hy, e1]
          rfl
        · rw [e2] at h
          rw [e1]
          cases hv : valueAt vs2 q with
          | none => rfl
          | some y => rw [hv] at h; exact h.elim
      refine PySem.W.keq_ne (r := vs.all fun p => (valueAt vs2 p.1).isSome && sameAt a' b' p.1) z1 z2 d1 d2 (by omega) (fun _ => keqHits_of (knd := mixKind X.prog X.w) (e := sameAt a' b') vs fun k v y hm hy => ?_) ?_
      · obtain ⟨d, x, m, rd, rv⟩ := mem_rep w1 r1 hm
        have ga := dGet_nodup na m
        have h := r2.val k
        rcases repk_get k w2 with ⟨d2', x2, e1, e2, rd2⟩ | ⟨e1, e2⟩
        · rw [e2, hy] at h
          have rv2 : RelV x2 y := h
          have pa := oa _ m
          simp only [Bool.and_eq_true, decide_eq_true_eq] at pa
          have mb : ∃ k', (k', d2') ∈ b' := by
            unfold dGet at e1
            rw [Option.map_eq_some_iff] at e1
            obtain ⟨p, hp, rfl⟩ := e1
            exact ⟨p.1, List.mem_of_find?_eq_some hp⟩
          obtain ⟨k', mb⟩ := mb
          have pb := ob _ mb
          simp only [Bool.and_eq_true, decide_eq_true_eq] at pb
          obtain ⟨as, k1⟩ := Dp.reads J d x v (Rep.dp d x pa.1 (Rep.mono sub d x rd)) rv
          obtain ⟨bs, k2⟩ := Dp.reads J d2' x2 y (Rep.dp d2' x2 pb.1 (Rep.mono sub d2' x2 rd2)) rv2
          have es : sameAt a' b' k = PyData.eqv d d2' := by
            unfold sameAt
            rw [ga, e1]
          rw [es]
          exact SeqAt.eqAt_plain d d2' X.A.in1 s v y as bs k1 k2 pa.1 pb.1 (by show X.A.units + 1 + _ < _; omega)
        · rw [e2, hy] at h
          exact h.elim
      · obtain ⟨i1, i2⟩ := all_rep (fun q => (valueAt vs2 q).isSome && sameAt a' b' q) w1 r1
        obtain ⟨-, i4⟩ := all_rep (fun _ => true) w2 r2
        rw [i1, i2, i4]
        have e : (fun q => (valueAt vs2 q).isSome && sameAt a' b' q) = fun q => (dGet b' q).isSome && sameAt a' b' q := funext fun q => by rw [some2]
        rw [e]
        exact ⟨.bl _, H, J, rfl, res_bool sub q⟩
    · cases e
  · rename_i b' he
    cases he
    cases e
    obtain ⟨p2, es2, rfl, g2, w2⟩ := top_dict h2
    cases top_none h1
    obtain ⟨-, -, vs, -, o, ents, ep, g1, g2, g3, -⟩ := dk_rd J.hok g2
    cases (show u = Value.ref p2 from ry)
    cases (show v = Value.none from rx)
    exact rcne_none_dict g1 g2 g3 (by omega) _ _ _ _ ⟨.bl _, H, J, rfl, res_bool sub q⟩
  · rename_i a' he
    cases he
    cases e
    obtain ⟨p, es, rfl, g, w1⟩ := top_dict h1
    cases top_none h2
    obtain ⟨-, -, vs, -, o, ents, ep, g1, g2, g3, -⟩ := dk_rd J.hok g
    cases (show v = Value.ref p from rx)
    cases (show u = Value.none from ry)
    exact rcne_dict_none g1 g2 g3 (by omega) _ _ _ _ ⟨.bl _, H, J, rfl, res_bool sub q⟩
  · rename_i he
    cases he
    cases e
    cases top_none h1
    cases top_none h2
    cases (show v = Value.none from rx)
    cases (show u = Value.none from ry)
    exact RcNeAt.none_none _ _ _ _ ⟨.bl _, H, J, rfl, res_bool sub q⟩
  · cases e
end
end SD
namespace SD
open PySem PySem.Spec PyProof.Rows L2
section
variable {kvs : List (D × D)}
@[simp] theorem p_neD1 : pNeD [.none, .dict kvs] = some (.val (.bool true)) := rfl
@[simp] theorem p_neD2 : pNeD [.dict kvs, .none] = some (.val (.bool true)) := rfl
@[simp] theorem p_neD3 : pNeD [.none, .none] = some (.val (.bool false)) := rfl
end
end SD

set_option Elab.async false
set_option linter.all false
set_option autoImplicit false
set_option maxRecDepth 100000
set_option maxHeartbeats 4000000
/-! SD: a tuple of a datum and of None or an exception. -/
namespace SD
open PySem PySem.Spec PyProof.Rows L2
/-- (a, b): a a datum, b None or an exception -/
def prO (i : Nat) (ρ : En) (o : Option D) (s : Slot) : Out Slot := match o with
  | some d => (match s with
    | .val .none => .ok (.pr d none) (ρ.set i (.val d))
    | .exn x => .ok (.pr d (some x)) (ρ.set i (.val d))
    | _ => .bad)
  | none => .bad
def mPr (i j : Nat) : M Slot := fun ρ => if i = j then .bad else prO i ρ (En.at ρ i).data (En.at ρ j)
def unO (i j : Nat) (ρ : En) (s : Slot) : Out Fl := match s with
  | .pr d none => .ok .next ((ρ.set i (.val d)).set j (.val .none))
  | .pr d (some x) => .ok .next ((ρ.set i (.val d)).set j (.exn x))
  | _ => .bad
/-- a, b = e, e such a tuple -/
def mUn (i j : Nat) (f : M Slot) : M Fl := fun ρ => (f ρ).bind fun s ρ1 => unO i j ρ1 s
def prIxO (k : Int) (ρ : En) (s : Slot) : Out Slot := match s with
  | .pr d none => if k = 0 then .ok (.val d) ρ else if k = 1 then .ok (.val .none) ρ else .bad
  | .pr d (some x) => if k = 0 then .ok (.val d) ρ else if k = 1 then .ok (.exn x) ρ else .bad
  | _ => .bad
/-- e[k], e such a tuple -/
def mPrIx (k : Int) (f : M Slot) : M Slot := fun ρ => (f ρ).bind fun s ρ1 => prIxO k ρ1 s
def exSlot : Option Exc → Slot
  | none => .val .none
  | some x => .exn x
theorem Res1.pr {K : Fr0} {F H : Hp} {d : D} {x : Option Exc} {v1 v2 : V} {p : Addr} (s : Same F H) (h : Rep K F d v1) (hx : PrOk K F x v2) (n : H p = none) : Res1 K F H (upd F p (.tup [v1, v2])) (upd H p (.tup [v1, v2])) (.pr d x) (.ref p) := by
  have sF := same_upd (o := .tup [v1, v2]) (s.free n)
  refine ⟨same_upd2 s n, ⟨p, v1, v2, rfl, SqT.of upd_same, Rep.mono sF _ _ h, hx.mono sF⟩, same_upd n, sF, fun a e e' => ?_, fun _ o => o.elim⟩
  by_cases ha : a = p
  · subst ha; exact n
  · rw [upd_ne ha] at e'; exact absurd e e'
section
variable {X : Cx} {W : WX} {I : ExI} {pr : Nat → Prop} {i j : Nat} {ea eb e : Expr} {f : M Slot} {pos : Pos}
end
/-! ### equations -/
def unK (i j : Nat) (o : Out Slot) : Out Fl := o.bind fun s ρ1 => unO i j ρ1 s
def prIxK (k : Int) (o : Out Slot) : Out Slot := o.bind fun s ρ1 => prIxO k ρ1 s
section
variable {i j : Nat} {f : M Slot} {ρ : En} {s : Slot} {d : D} {x : Exc} {k : Int}
@[simp] theorem ev_pr : mPr i j ρ = if i = j then .bad else prO i ρ (En.at ρ i).data (En.at ρ j) := rfl
@[simp] theorem ev_prO0 : prO i ρ (some d) (.val .none) = .ok (.pr d none) (ρ.set i (.val d)) := rfl
@[simp] theorem ev_prO1 : prO i ρ (some d) (.exn x) = .ok (.pr d (some x)) (ρ.set i (.val d)) := rfl
@[simp] theorem ev_un : mUn i j f ρ = unK i j (f ρ) := rfl
@[simp] theorem ev_unK : unK i j (.ok s ρ) = unO i j ρ s := rfl
@[simp] theorem ev_unO0 : unO i j ρ (.pr d none) = .ok .next ((ρ.set i (.val d)).set j (.val .none)) := rfl
@[simp] theorem ev_unO1 : unO i j ρ (.pr d (some x)) = .ok .next ((ρ.set i (.val d)).set j (.exn x)) := rfl
@[simp] theorem ev_prIx : mPrIx k f ρ = prIxK k (f ρ) := rfl
@[simp] theorem ev_prIxK : prIxK k (.ok s ρ) = prIxO k ρ s := rfl
@[simp] theorem ev_prIx00 : prIxO 0 ρ (.pr d none) = .ok (.val d) ρ := rfl
@[simp] theorem ev_prIx01 : prIxO 0 ρ (.pr d (some x)) = .ok (.val d) ρ := rfl
@[simp] theorem ev_prIx10 : prIxO 1 ρ (.pr d none) = .ok (.val .none) ρ := rfl
@[simp] theorem ev_prIx11 : prIxO 1 ρ (.pr d (some x)) = .ok (.exn x) ρ := rfl
end
end SD

set_option Elab.async false
set_option linter.all false
set_option autoImplicit false
set_option maxRecDepth 100000
set_option maxHeartbeats 4000000
/-! SD: a call without arguments. -/
namespace SD
open PySem PySem.Spec PyProof.Rows L2
section
variable {X : Cx} {W : WX} {I : ExI}
end
end SD

set_option Elab.async false
set_option linter.all false
set_option autoImplicit false
set_option maxRecDepth 100000
set_option maxHeartbeats 4000000
/-! SD: objects of one's own: their fields, their methods. -/
namespace SD
open PySem PySem.Spec PyProof.Rows L2
/-! ### fields written -/
def setFv : List (Str × FV) → Str → FV → List (Str × FV)
  | (n, fv) :: fs, f, w => if n = f then (n, w) :: fs else (n, fv) :: setFv fs f w
  | [], _, _ => []
theorem own_dic {f : Str} {kvs kvs' : List (Key × D)} {a : Addr} : ∀ {fs : List (Str × FV)} {ad : List Addr}, fldAt fs ad f = some (.dic kvs, a) → ownA (setFv fs f (.dic kvs')) ad = ownA fs ad ∧ a ∈ ownA fs ad
  | [], _, e => by cases e
  | _ :: _, [], e => by cases e
  | (n, fv) :: fs, a0 :: ad, e => by
    have e' : (if n = f then some (fv, a0) else fldAt fs ad f) = some (FV.dic kvs, a) := e
    unfold setFv
    by_cases h : n = f
    · rw [if_pos h] at e' ⊢
      cases e'
      exact ⟨rfl, List.mem_cons_self⟩
    · rw [if_neg h] at e' ⊢
      obtain ⟨h1, h2⟩ := own_dic (kvs' := kvs') e'
      cases fv with
      | val d => exact ⟨h1, h2⟩
      | lst ds => exact ⟨congrArg (a0 :: ·) h1, List.mem_cons_of_mem _ h2⟩
      | dic ds => exact ⟨congrArg (a0 :: ·) h1, List.mem_cons_of_mem _ h2⟩
/-- fields apart from what is written stay -/
theorem FsOk.upd {K : Fr0} {F H : Hp} {a : Addr} {o : HO} : ∀ {fs : List (Str × FV)} {ad : List Addr} {vs : List (Str × V)}, FsOk K F H fs ad vs → a ∉ ownA fs ad → FsOk K F (L2.upd H a o) fs ad vs
  | [], [], [], _, _ => trivial
  | [], [], _ :: _, h, _ => h.elim
  | [], _ :: _, _, h, _ => h.elim
  | _ :: _, [], _, h, _ => h.elim
  | _ :: _, _ :: _, [], h, _ => h.elim
  | (n, fv) :: fs, a0 :: ad, w :: vs, h, na => by
    obtain ⟨h0, h1, h2⟩ := h
    cases fv with
    | val d => exact ⟨h0, h1, FsOk.upd h2 na⟩
    | lst ds =>
      have ne : a0 ≠ a := fun z => na (by rw [← z]; exact List.mem_cons_self)
      obtain ⟨us, e0, e1, e2, r⟩ := h1
      exact ⟨h0, ⟨us, e0, by rw [upd_ne ne]; exact e1, e2, r⟩, FsOk.upd h2 fun z => na (List.mem_cons_of_mem _ z)⟩
    | dic ds =>
      have ne : a0 ≠ a := fun z => na (by rw [← z]; exact List.mem_cons_self)
      obtain ⟨us, e0, e1, e2, r⟩ := h1
      exact ⟨h0, ⟨us, e0, by rw [upd_ne ne]; exact e1, e2, r⟩, FsOk.upd h2 fun z => na (List.mem_cons_of_mem _ z)⟩
theorem FsOk.put {K : Fr0} {F H : Hp} {f : Str} {kvs kvs' : List (Key × D)} {es' : List (Key × V)} {a : Addr} (r : RepK K F (qD kvs') es') : ∀ {fs : List (Str × FV)} {ad : List Addr} {vs : List (Str × V)}, FsOk K F H fs ad vs → (ownA fs ad).Nodup → fldAt fs ad f = some (.dic kvs, a) → FsOk K F (L2.upd H a (.dK es')) (setFv fs f (.dic kvs')) ad vs
  | [], _, _, _, _, e => by cases e
  | _ :: _, [], _, _, _, e => by cases e
  | _ :: _, _ :: _, [], h, _, _ => h.elim
  | (n, fv) :: fs, a0 :: ad, w :: vs, h, nd, e => by
    obtain ⟨h0, h1, h2⟩ := h
    have e' : (if n = f then some (fv, a0) else fldAt fs ad f) = some (FV.dic kvs, a) := e
    unfold setFv
    by_cases hn : n = f
    · rw [if_pos hn] at e' ⊢
      cases e'
      obtain ⟨us, e0, e1, e2, _⟩ := h1
      have na := (List.nodup_cons.mp (show (a :: ownA fs ad).Nodup from nd)).1
      exact ⟨h0, ⟨es', e0, upd_same, e2, r⟩, h2.upd na⟩
    · rw [if_neg hn] at e' ⊢
      have ma := (own_dic (kvs' := kvs') e').2
      cases fv with
      | val d => exact ⟨h0, h1, FsOk.put r h2 nd e'⟩
      | lst ds =>
        obtain ⟨na, nd'⟩ := List.nodup_cons.mp (show (a0 :: ownA fs ad).Nodup from nd)
        have ne : a0 ≠ a := fun z => na (by rw [z]; exact ma)
        obtain ⟨us, e0, e1, e2, r'⟩ := h1
        exact ⟨h0, ⟨us, e0, by rw [upd_ne ne]; exact e1, e2, r'⟩, FsOk.put r h2 nd' e'⟩
      | dic ds =>
        obtain ⟨na, nd'⟩ := List.nodup_cons.mp (show (a0 :: ownA fs ad).Nodup from nd)
        have ne : a0 ≠ a := fun z => na (by rw [z]; exact ma)
        obtain ⟨us, e0, e1, e2, r'⟩ := h1
        exact ⟨h0, ⟨us, e0, by rw [upd_ne ne]; exact e1, e2, r'⟩, FsOk.put r h2 nd' e'⟩
theorem FsOk.names {K : Fr0} {F H : Hp} : ∀ {fs : List (Str × FV)} {ad : List Addr} {vs : List (Str × V)}, FsOk K F H fs ad vs → vs.map (·.1) = fs.map (·.1)
  | [], [], [], _ => rfl
  | [], [], _ :: _, h => h.elim
  | [], _ :: _, _, h => h.elim
  | _ :: _, [], _, h => h.elim
  | _ :: _, _ :: _, [], h => h.elim
  | f :: fs, a0 :: ad, w :: vs, h => by rw [List.map_cons, List.map_cons, h.1, FsOk.names h.2.2]
end SD

set_option Elab.async false
set_option linter.all false
set_option autoImplicit false
set_option maxRecDepth 100000
set_option maxHeartbeats 4000000
/-! SD: objects of one's own: the rules. -/
namespace SD
open PySem PySem.Spec PyProof.Rows L2
/-- x.f, a value -/
def mFldV (i : Nat) (f : Str) : M Slot := fun ρ => match En.at ρ i with
  | .obj _ fs _ ad => (match fldAt fs ad f with
    | some (.val d, _) => .ok (.val d) ρ
    | _ => .bad)
  | _ => .bad
def setFO (i : Nat) (f : Str) (a : Option Addr) (ρ : En) (d : D) (k : Option D) (s : Slot) : Out Fl := match s with
  | .obj cn fs dx ad => (match fldAt fs ad f with
    | some (.dic kvs, b) => (match k.bind keyOf with
      | some q => if kvs.length < 16777216 ∧ a = some b then .ok .next (ρ.set i (.obj cn (setFv fs f (.dic (putQ kvs q d))) dx ad)) else .bad
      | none => .bad)
    | _ => .bad)
  | _ => .bad
/-- x.f[k] = e -/
def mSetF (i : Nat) (f : Str) (a : AE) (g : M Slot) : M Fl := fun ρ => (g ρ).bind fun s ρ1 => match s.data with
  | some d => (match (En.at ρ1 i).fadr f with
    | some b => (evA a ρ1).bind fun gk ρ2 => setFO i f (some b) ρ2 d (gk.slot ρ2).data (En.at ρ2 i)
    | none => .bad)
  | none => .bad
def popFO (i : Nat) (f : Str) (a : Option Addr) (ρ : En) (k : Option Key) (s : Slot) : Out Slot := match s with
  | .obj cn fs dx ad => (match fldAt fs ad f with
    | some (.dic kvs, b) => (match k with
      | some q => (match valQ kvs q with
        | some d => if a = some b then .ok (.val d) (ρ.set i (.obj cn (setFv fs f (.dic (dropQ kvs q))) dx ad)) else .bad
        | none => .bad)
      | none => .bad)
    | _ => .bad)
  | _ => .bad
/-- x.f.pop(k) -/
def mPopF (i : Nat) (f : Str) (g : M Slot) : M Slot := fun ρ => match En.at ρ i with
  | .obj _ fs _ ad => (match fldAt fs ad f with
    | some (.dic _, b) => (g ρ).bind fun s ρ1 => popFO i f (some b) ρ1 (s.data.bind keyOf) (En.at ρ1 i)
    | _ => .bad)
  | _ => .bad
def putFO (i : Nat) (f : Str) (ρ : En) (d : D) (s : Slot) : Out Fl := match s with
  | .obj cn fs dx ad => (match fldAt fs ad f with
    | some (.val _, _) => if fs.length < 100 then .ok .next (ρ.set i (.obj cn (setFv fs f (.val d)) dx ad)) else .bad
    | _ => .bad)
  | _ => .bad
/-- x.f = e, a value -/
def mPutF (i : Nat) (f : Str) (g : M Slot) : M Fl := fun ρ => (g ρ).bind fun s ρ1 => match s.data with
  | some d => putFO i f ρ1 d (En.at ρ1 i)
  | none => .bad
/-- x.m(..) -/
def mMethO (cn : String) (m : Str) (i : Nat) (f : M Slot) (as : List AE) : M Slot := fun ρ => match En.at ρ i with
  | .obj c fs _ _ => if c = cn ∧ m ∉ fs.map (·.1) then mCall f (.nm i :: as) ρ else .bad
  | _ => .bad
theorem FsOk.len {K : Fr0} {F H : Hp} {fs : List (Str × FV)} {ad : List Addr} {vs : List (Str × V)} (h : FsOk K F H fs ad vs) : vs.length = fs.length := by
  have := congrArg List.length h.names
  simpa using this
theorem FvOk.ref {K : Fr0} {F H : Hp} {fv : FV} {v : V} {a : Addr} (h : FvOk K F H fv v a) (c : fv.cell.isSome = true) : v = .ref a := by
  cases fv with
  | val d => cases c
  | lst ds => exact h.choose_spec.1
  | dic ds => exact h.choose_spec.1
section
variable {X : Cx} {W : WX} {I : ExI} {pr : Nat → Prop} {i k : Nat} {f : Str} {e ex eb ei : Expr} {g : M Slot} {a : AE} {pos apos pos' : Pos}
end
/-! ### methods -/
/-- a method of the class that is f -/
structure MthT (P : Program) (w : World) (K : Fr0) (mg : Str → Option Value) (base : Heap) (I : ExI) (cn : String) (m : Str) (n k : Nat) (f : M Slot) : Prop where
  ex : ∃ C fa fd ps, PySem.W.nsIn K mainGlobals (Str.ofString cn) = some (some (.ref C)) ∧ Cls K C ∧ Meth K C m fa ∧ FnOk P w K mg base (L2.CX P w) k fa fd ps (spF K I n f) ∧ Binds K fd ps []
section
variable {X : Cx} {CX : CXT} {k : Nat} {f C : Addr} {fd : FuncData} {ps : List Str} {sp : Sp} {E : St → XK} {m : Str} {pos apos : Pos} {e o : Expr} {es : List Expr} {ta : TE} {t : TA}
def tMethA (C : Addr) (m : Str) (sp : Sp) (E : St → XK) (ta : TE) (t : TA) : TE := fun σ H Q => ta σ H fun x H1 => ∃ a dx fs, x = .ref a ∧ H1 a = some (.ins C dx fs) ∧ fs.lookup m = none ∧ t σ H1 fun vs H2 => sp (x :: vs) H2 Q (E σ)
end
section
variable {X : Cx} {W : WX} {I : ExI} {i n k : Nat} {cn : String} {m : Str} {f : M Slot} {as : List AE} {o e : Expr} {es : List Expr} {pos apos : Pos}
end
end SD

set_option Elab.async false
set_option linter.all false
set_option autoImplicit false
set_option maxRecDepth 100000
set_option maxHeartbeats 4000000
/-! SD: objects made. -/
namespace SD
open PySem PySem.Spec PyProof.Rows L2
/-- what an __init__ puts into a field -/
inductive FI where
  | dic
  | lst
  | boo (b : Bool)
  | non
def FI.fv : FI → FV
  | .dic => .dic []
  | .lst => .lst []
  | .boo b => .val (.bool b)
  | .non => .val .none
def initFs (l : List (Str × FI)) : List (Str × FV) := l.map fun p => (p.1, p.2.fv)
def noF : Hp := fun _ => none
def spNew (K : Fr0) (C : Addr) (l : List (Str × FI)) : Sp := fun vs H Q _ => ∃ o dx, vs = [.ref o] ∧ H o = some (.ins C dx []) ∧ dx ≠ o ∧ Cls K C ∧ (∀ f ∈ l, NoAttr K C f.1) ∧ (l.map (·.1)).Nodup ∧ l.length < 900 ∧
  ∀ H' ad vs', (∀ q u, H q = some u → q ≠ o → H' q = some u) → H' o = some (.ins C dx vs') → FsOk K noF H' (initFs l) ad vs' → (∀ q ∈ ownA (initFs l) ad, H q = none) → (ownA (initFs l) ad).Nodup → Q .non H'
theorem FsOk.snoc {K : Fr0} {F H : Hp} {n : Str} {fv : FV} {v : V} {a : Addr} (h1 : FvOk K F H fv v a) : ∀ {fs : List (Str × FV)} {ad : List Addr} {vs : List (Str × V)}, FsOk K F H fs ad vs → FsOk K F H (fs ++ [(n, fv)]) (ad ++ [a]) (vs ++ [(n, v)])
  | [], [], [], _ => ⟨rfl, h1, trivial⟩
  | [], [], _ :: _, h => h.elim
  | [], _ :: _, _, h => h.elim
  | _ :: _, [], _, h => h.elim
  | _ :: _, _ :: _, [], h => h.elim
  | _ :: _, _ :: _, _ :: _, h => ⟨h.1, h.2.1, FsOk.snoc h1 h.2.2⟩
theorem FsOk.lenA {K : Fr0} {F H : Hp} : ∀ {fs : List (Str × FV)} {ad : List Addr} {vs : List (Str × V)}, FsOk K F H fs ad vs → ad.length = fs.length
  | [], [], [], _ => rfl
  | [], [], _ :: _, h => h.elim
  | [], _ :: _, _, h => h.elim
  | _ :: _, [], _, h => h.elim
  | _ :: _, _ :: _, [], h => h.elim
  | _ :: _, _ :: _, _ :: _, h => by rw [List.length_cons, List.length_cons, FsOk.lenA h.2.2]
theorem ownA_snoc {n : Str} {fv : FV} {a : Addr} : ∀ {fs : List (Str × FV)} {ad : List Addr}, ad.length = fs.length → ownA (fs ++ [(n, fv)]) (ad ++ [a]) = ownA fs ad ++ ownA [(n, fv)] [a]
  | [], [], _ => rfl
  | [], _ :: _, h => by cases h
  | _ :: _, [], h => by cases h
  | (m, gv) :: fs, b :: ad, h => by
    have ih := ownA_snoc (n := n) (fv := fv) (a := a) (fs := fs) (ad := ad) (by simpa using h)
    cases gv with
    | val d => exact ih
    | lst ds => exact congrArg (b :: ·) ih
    | dic ds => exact congrArg (b :: ·) ih
theorem putF_new {f : Str} {v : V} : ∀ {vs : List (Str × V)}, f ∉ vs.map (·.1) → putF f v vs = vs ++ [(f, v)]
  | [], _ => rfl
  | (g, x) :: vs, h => by
    rw [List.map_cons, List.mem_cons, not_or] at h
    show (if g = f then (g, v) :: vs else (g, x) :: putF f v vs) = _
    rw [if_neg fun z => h.1 z.symm, putF_new h.2]
    rfl
/-- what holds once the first fields are there -/
structure NewAt (K : Fr0) (C o dx : Addr) (H : Hp) (dn : List (Str × FI)) (H1 : Hp) (ad : List Addr) (vs : List (Str × V)) : Prop where
  keep : ∀ q u, H q = some u → q ≠ o → H1 q = some u
  at_ : H1 o = some (.ins C dx vs)
  ok : FsOk K noF H1 (initFs dn) ad vs
  new : ∀ q ∈ ownA (initFs dn) ad, H q = none
  nd : (ownA (initFs dn) ad).Nodup
theorem ownA_some {K : Fr0} {H1 : Hp} {fs : List (Str × FV)} {ad : List Addr} {vs : List (Str × V)} (h : FsOk K noF H1 fs ad vs) {q : Addr} (hq : H1 q = none) : q ∉ ownA fs ad := fun z => by
  obtain ⟨_, u, e⟩ := h.own z
  rw [hq] at e; cases e
/-- a field that owns nothing -/
theorem NewAt.val {K : Fr0} {C o dx : Addr} {H H1 : Hp} {dn : List (Str × FI)} {ad : List Addr} {vs : List (Str × V)} (N : NewAt K C o dx H dn H1 ad vs) (ho : H o ≠ none) {f : Str} {k : FI} {v : V} {d : D} (hk : k.fv = .val d) (r : Rep K noF d v) (hf : f ∉ dn.map (·.1)) :
    NewAt K C o dx H (dn ++ [(f, k)]) (upd H1 o (.ins C dx (putF f v vs))) (ad ++ [o]) (putF f v vs) := by
  have hf' : f ∉ vs.map (·.1) := by
    rw [N.ok.names]
    intro z
    exact hf (by simpa [initFs] using z)
  have oo : o ∉ ownA (initFs dn) ad := fun z => ho (N.new o z)
  have e1 : initFs (dn ++ [(f, k)]) = initFs dn ++ [(f, .val d)] := by
    rw [initFs, List.map_append, ← hk]; rfl
  have e2 : ownA (initFs dn ++ [(f, FV.val d)]) (ad ++ [o]) = ownA (initFs dn) ad := by
    rw [ownA_snoc N.ok.lenA]
    show _ ++ [] = _
    rw [List.append_nil]
  refine ⟨fun q u h n => by rw [upd_ne n]; exact N.keep q u h n, upd_same, ?_, ?_, ?_⟩
  · rw [e1, putF_new hf']
    exact FsOk.snoc (fv := .val d) (a := o) (show FvOk K noF _ (.val d) v o from r) (N.ok.upd oo)
  · rw [e1, e2]; exact N.new
  · rw [e1, e2]; exact N.nd
/-- a field with a new list or dict -/
theorem NewAt.cell {K : Fr0} {C o dx : Addr} {H H1 : Hp} {dn : List (Str × FI)} {ad : List Addr} {vs : List (Str × V)} (N : NewAt K C o dx H dn H1 ad vs) (ho : H o ≠ none) {f : Str} {k : FI} {p : Addr} {w : HO} (hp : H1 p = none) (hf : f ∉ dn.map (·.1))
    (hk : ∀ H2 : Hp, H2 p = some w → FvOk K noF H2 k.fv (.ref p) p) (hc : ownA [(f, k.fv)] [p] = [p]) :
    NewAt K C o dx H (dn ++ [(f, k)]) (upd (upd H1 p w) o (.ins C dx (putF f (.ref p) vs))) (ad ++ [p]) (putF f (.ref p) vs) := by
  have hf' : f ∉ vs.map (·.1) := by
    rw [N.ok.names]
    intro z
    exact hf (by simpa [initFs] using z)
  have po : p ≠ o := fun z => by rw [z, N.at_] at hp; cases hp
  have oo : o ∉ ownA (initFs dn) ad := fun z => ho (N.new o z)
  have pp := ownA_some N.ok hp
  have hpH : H p = none := by
    cases e : H p with
    | none => rfl
    | some u => rw [N.keep p u e po] at hp; cases hp
  have e1 : initFs (dn ++ [(f, k)]) = initFs dn ++ [(f, k.fv)] := by
    rw [initFs, List.map_append]; rfl
  have e2 : ownA (initFs dn ++ [(f, k.fv)]) (ad ++ [p]) = ownA (initFs dn) ad ++ [p] := by
    rw [ownA_snoc N.ok.lenA, hc]
  refine ⟨fun q u h n => ?_, upd_same, ?_, ?_, ?_⟩
  · have qp : q ≠ p := fun z => by rw [z, hpH] at h; cases h
    rw [upd_ne n, upd_ne qp]; exact N.keep q u h n
  · rw [e1, putF_new hf']
    exact FsOk.snoc (hk _ (by rw [upd_ne po]; exact upd_same)) ((N.ok.upd pp).upd oo)
  · rw [e1, e2]
    intro q hq
    rcases List.mem_append.mp hq with h | h
    · exact N.new q h
    · rw [List.mem_singleton] at h; rw [h]; exact hpH
  · rw [e1, e2]
    exact List.nodup_append.mpr ⟨N.nd, by simp, fun a ha b hb z => pp (by rw [List.mem_singleton] at hb; rw [← hb, ← z]; exact ha)⟩
/-- what a field's value is: the code -/
def tFI : FI → TE
  | .dic => tDNewK
  | .lst => tLst tNil
  | .boo b => tC (.bl b)
  | .non => tC .non
def tInit (K : Fr0) : List (Str × FI) → TS
  | [] => tNext
  | (f, k) :: r => tSeq (sFld K (tVar 0) (tFI k) f) (tInit K r)
section
variable {X : Cx} {ex : Expr} {f : Str} {p' q pos : Pos} {sts : List Stmt} {r : List (Str × FI)}
end
/-! ### a name that holds a new object; what stands behind -/
/-- a class of the text whose __init__ makes these fields -/
structure MkT (P : Program) (w : World) (K : Fr0) (mg : Str → Option Value) (base : Heap) (cn : String) (k : Nat) (l : List (Str × FI)) : Prop where
  ex : ∃ C fa fd ps, mg (Str.ofString cn) = some (.ref C) ∧ Kls K cn C (l.map (·.1)) ∧ Mk K C fa ∧ FnOk P w K mg base (L2.CX P w) k fa fd ps (spNew K C l) ∧ Binds K fd ps [] ∧ (l.map (·.1)).Nodup ∧ l.length < 900
def MkAt (i : Nat) (cn : String) (l : List (Str × FI)) (rest : M Fl) (ρ : En) (d : D) (ρ1 : En) : Prop := ∀ dx ad, ad.length = l.length → ∃ s, rest (ρ.set i (.obj cn (initFs l) dx ad)) = .ok (.ret (.val d)) (ρ1.set i s)
open Classical in
noncomputable def mMake (i : Nat) (cn : String) (l : List (Str × FI)) (rest : M Fl) : M Fl := fun ρ => if h : ∃ q : D × En, MkAt i cn l rest ρ q.1 q.2 then .ok (.ret (.val h.choose.1)) (h.choose.2.set i .emp) else .bad
/-- a slot that is told no more -/
theorem Rp.drop {K : Fr0} {F H : Hp} {ρ : En} {σ : St} (R : Rp K F H ρ σ) (i : Nat) : Rp K F H (ρ.set i .emp) σ ∧ ∀ q, OwnE H (ρ.set i .emp) σ q → OwnE H ρ σ q := by
  by_cases hi : i < ρ.length
  · obtain ⟨v, ev, _⟩ := R.get (List.getElem?_eq_getElem hi)
    have R' := R.set (i := i) (s := .emp) (v := v) R.sub trivial (fun j t u _ e1 e2 => R.ok j t u e1 e2) fun q j t u z => z.elim
    rw [set_self ev] at R'
    refine ⟨R', fun q z => ?_⟩
    rw [← set_self ev] at z
    rcases ownE_set z with y | y
    · exact y.elim
    · exact y
  · rw [List.set_eq_of_length_le (by omega)]
    exact ⟨R, fun q z => z⟩
section
variable {X : Cx} {W : WX} {I : ExI} {pr : Nat → Prop} {sts : List Stmt} {h : M Fl} {cn : String} {k i : Nat} {l : List (Str × FI)} {p pos pos2 : Pos} {tg : Expr}
end
end SD

set_option Elab.async false
set_option linter.all false
set_option autoImplicit false
set_option maxRecDepth 100000
set_option maxHeartbeats 4000000
/-! SD: == of dicts or None. -/
namespace SD
open PySem PySem.Spec PyProof.Rows L2 PySem.SeqAt
open AutoSeq1 (wpAny_loadPart')
open MeetsSeq
def pEqN : List D → Option Slot
  | [.dict a, .dict b] => if vOk a = true ∧ vOk b = true ∧ (a.map fun p => keyOf p.1).Nodup ∧ (b.map fun p => keyOf p.1).Nodup then some (.val (.bool (dictB a b))) else none
  | [.none, .dict _] => some (.val (.bool false))
  | [.dict _, .none] => some (.val (.bool false))
  | [.none, .none] => some (.val (.bool true))
  | _ => none
section
variable {A : Around} {s : Shared}
end
section
variable {X : Cx} {k : Nat}
end
section
variable {kvs : List (D × D)}
@[simp] theorem p_eqN1 : pEqN [.none, .dict kvs] = some (.val (.bool false)) := rfl
@[simp] theorem p_eqN2 : pEqN [.dict kvs, .none] = some (.val (.bool false)) := rfl
@[simp] theorem p_eqN3 : pEqN [.none, .none] = some (.val (.bool true)) := rfl
end
end SD

set_option Elab.async false
set_option linter.all false
set_option autoImplicit false
set_option maxRecDepth 100000
set_option maxHeartbeats 4000000
/-! SD: equations for objects; Course. -/
namespace SD
open PySem PySem.Spec PyProof.Rows L2
def fldK (i : Nat) (f : Str) (ρ : En) : Option Addr → Out Arg
  | some a => .ok (.fl i f a) ρ
  | none => .bad
def setFK (i : Nat) (f : Str) (a : AE) (o : Out Slot) : Out Fl := o.bind fun s ρ1 => match s.data with
  | some d => (match (En.at ρ1 i).fadr f with
    | some b => (evA a ρ1).bind fun gk ρ2 => setFO i f (some b) ρ2 d (gk.slot ρ2).data (En.at ρ2 i)
    | none => .bad)
  | none => .bad
def setFD (i : Nat) (f : Str) (a : AE) (ρ1 : En) : Option D → Option Addr → Out Fl
  | some d, some b => (evA a ρ1).bind fun gk ρ2 => setFO i f (some b) ρ2 d (gk.slot ρ2).data (En.at ρ2 i)
  | _, _ => .bad
def setFA (i : Nat) (f : Str) (b : Addr) (d : D) (o : Out Arg) : Out Fl := o.bind fun gk ρ2 => setFO i f (some b) ρ2 d (gk.slot ρ2).data (En.at ρ2 i)
def popFS (i : Nat) (f : Str) (g : M Slot) (ρ : En) : Slot → Out Slot
  | .obj _ fs _ ad => (match fldAt fs ad f with
    | some (.dic _, b) => (g ρ).bind fun s ρ1 => popFO i f (some b) ρ1 (s.data.bind keyOf) (En.at ρ1 i)
    | _ => .bad)
  | _ => .bad
def popFK (i : Nat) (f : Str) (b : Addr) (o : Out Slot) : Out Slot := o.bind fun s ρ1 => popFO i f (some b) ρ1 (s.data.bind keyOf) (En.at ρ1 i)
def putFK (i : Nat) (f : Str) (o : Out Slot) : Out Fl := o.bind fun s ρ1 => match s.data with
  | some d => putFO i f ρ1 d (En.at ρ1 i)
  | none => .bad
def putFD (i : Nat) (f : Str) (ρ1 : En) (s : Slot) : Option D → Out Fl
  | some d => putFO i f ρ1 d s
  | none => .bad
def methS (cn : String) (m : Str) (i : Nat) (f : M Slot) (as : List AE) (ρ : En) : Slot → Out Slot
  | .obj c fs _ _ => if c = cn ∧ m ∉ fs.map (·.1) then mCall f (.nm i :: as) ρ else .bad
  | _ => .bad
def fldVS (f : Str) (ρ : En) : Slot → Out Slot
  | .obj _ fs _ ad => (match fldAt fs ad f with
    | some (.val d, _) => .ok (.val d) ρ
    | _ => .bad)
  | _ => .bad
section
variable {i : Nat} {f m : Str} {ρ : En} {a b : Addr} {ae : AE} {g : M Slot} {d : D} {s : Slot} {gk : Arg} {cn : String} {as : List AE} {h : M Slot} {gs : List Arg}
@[simp] theorem ev_fldA : evA (.fld i f) ρ = fldK i f ρ ((En.at ρ i).fadr f) := by
  show (match (En.at ρ i).fadr f with | some a => Out.ok (Arg.fl i f a) ρ | none => .bad) = _
  unfold fldK
  rfl
@[simp] theorem ev_fldS : fldK i f ρ (some a) = .ok (.fl i f a) ρ := rfl
@[simp] theorem ev_argD3 : argDs ρ (.fl i f a :: gs) = ((En.at ρ i).fcell f a).data.bind fun d => (argDs ρ gs).bind fun ds => some (d :: ds) := rfl
@[simp] theorem ev_asl1 : (Arg.nm i).slot ρ = En.at ρ i := rfl
@[simp] theorem ev_asl2 : (Arg.sl s).slot ρ = s := rfl
@[simp] theorem ev_asl3 : (Arg.fl i f a).slot ρ = (En.at ρ i).fcell f a := rfl
@[simp] theorem ev_setF : mSetF i f ae g ρ = setFK i f ae (g ρ) := rfl
@[simp] theorem ev_setFK : setFK i f ae (.ok s ρ) = setFD i f ae ρ s.data ((En.at ρ i).fadr f) := by
  show (match s.data with | some d => _ | none => _) = _
  cases s.data with
  | none => rfl
  | some d =>
    cases (En.at ρ i).fadr f with
    | none => rfl
    | some b => rfl
@[simp] theorem ev_setFD : setFD i f ae ρ (some d) (some b) = setFA i f b d (evA ae ρ) := rfl
@[simp] theorem ev_setFA : setFA i f b d (.ok gk ρ) = setFO i f (some b) ρ d (gk.slot ρ).data (En.at ρ i) := rfl
@[simp] theorem ev_popF : mPopF i f g ρ = popFS i f g ρ (En.at ρ i) := by
  unfold mPopF popFS
  rfl
@[simp] theorem ev_popFK : popFK i f b (.ok s ρ) = popFO i f (some b) ρ (s.data.bind keyOf) (En.at ρ i) := rfl
@[simp] theorem ev_putF : mPutF i f g ρ = putFK i f (g ρ) := rfl
@[simp] theorem ev_putFK : putFK i f (.ok s ρ) = putFD i f ρ (En.at ρ i) s.data := by
  show (match s.data with | some d => _ | none => _) = _
  cases s.data <;> rfl
@[simp] theorem ev_putFD : putFD i f ρ s (some d) = putFO i f ρ d s := rfl
@[simp] theorem ev_methOb : mMethO cn m i h as ρ = methS cn m i h as ρ (En.at ρ i) := by
  unfold mMethO methS
  rfl
@[simp] theorem ev_fldV : mFldV i f ρ = fldVS f ρ (En.at ρ i) := by
  unfold mFldV fldVS
  rfl
end
/-! ### Course -/
def cO (A B N : List (Key × D)) (s : Bool) (dx a b c e : Addr) : Slot := .obj "Course" [("asked_for", .dic A), ("kept_out", .dic B), ("now", .dic N), ("sound", .val (.bool s))] dx [a, b, c, e]
section
variable {A B N : List (Key × D)} {s t : Bool} {dx a b c e : Addr} {i : Nat} {ρ : En} {g h : M Slot} {as : List AE} {d k : D} {q : Key}
@[simp] theorem co_is : (cO A B N s dx a b c e).isSome = true := rfl
@[simp] theorem co_cell : (cO A B N s dx a b c e).isCell = true := rfl
@[simp] theorem co_f1 : (cO A B N s dx a b c e).fadr "asked_for" = some a := by first | rfl | decide +kernel
@[simp] theorem co_f2 : (cO A B N s dx a b c e).fadr "kept_out" = some b := by first | rfl | decide +kernel
@[simp] theorem co_f3 : (cO A B N s dx a b c e).fadr "now" = some c := by first | rfl | decide +kernel
@[simp] theorem co_c1 : (cO A B N s dx a b c e).fcell "asked_for" a = .dic A := by
  show (if a = a then FV.cell (.dic A) else .emp) = _
  rw [if_pos rfl]; rfl
@[simp] theorem co_c2 : (cO A B N s dx a b c e).fcell "kept_out" b = .dic B := by
  show (if b = b then FV.cell (.dic B) else .emp) = _
  rw [if_pos rfl]; rfl
@[simp] theorem co_c3 : (cO A B N s dx a b c e).fcell "now" c = .dic N := by
  show (if c = c then FV.cell (.dic N) else .emp) = _
  rw [if_pos rfl]; rfl
@[simp] theorem co_v : fldVS "sound" ρ (cO A B N s dx a b c e) = .ok (.val (.bool s)) ρ := rfl
@[simp] theorem co_s1 : setFO i "asked_for" (some a) ρ d (some k) (cO A B N s dx a b c e) = match keyOf k with
    | some q => if A.length < 16777216 then .ok .next (ρ.set i (cO (putQ A q d) B N s dx a b c e)) else .bad
    | none => .bad := by
  show (match keyOf k with | some q => if A.length < 16777216 ∧ some a = some a then Out.ok Fl.next (ρ.set i (cO (putQ A q d) B N s dx a b c e)) else .bad | none => .bad) = _
  simp
@[simp] theorem co_s2 : setFO i "kept_out" (some b) ρ d (some k) (cO A B N s dx a b c e) = match keyOf k with
    | some q => if B.length < 16777216 then .ok .next (ρ.set i (cO A (putQ B q d) N s dx a b c e)) else .bad
    | none => .bad := by
  show (match keyOf k with | some q => if B.length < 16777216 ∧ some b = some b then Out.ok Fl.next (ρ.set i (cO A (putQ B q d) N s dx a b c e)) else .bad | none => .bad) = _
  simp
@[simp] theorem co_s3 : setFO i "now" (some c) ρ d (some k) (cO A B N s dx a b c e) = match keyOf k with
    | some q => if N.length < 16777216 then .ok .next (ρ.set i (cO A B (putQ N q d) s dx a b c e)) else .bad
    | none => .bad := by
  show (match keyOf k with | some q => if N.length < 16777216 ∧ some c = some c then Out.ok Fl.next (ρ.set i (cO A B (putQ N q d) s dx a b c e)) else .bad | none => .bad) = _
  simp
@[simp] theorem co_p3 : popFS i "now" g ρ (cO A B N s dx a b c e) = popFK i "now" c (g ρ) := rfl
@[simp] theorem co_p4 : popFO i "now" (some c) ρ (some q) (cO A B N s dx a b c e) = match valQ N q with
    | some d => .ok (.val d) (ρ.set i (cO A B (dropQ N q) s dx a b c e))
    | none => .bad := by
  show (match valQ N q with | some d => if some c = some c then Out.ok (Slot.val d) (ρ.set i (cO A B (dropQ N q) s dx a b c e)) else .bad | none => .bad) = _
  simp
@[simp] theorem co_t : putFO i "sound" ρ (.bool t) (cO A B N s dx a b c e) = .ok .next (ρ.set i (cO A B N t dx a b c e)) := rfl
@[simp] theorem co_m_settled : methS "Course" "settled" i h as ρ (cO A B N s dx a b c e) = mCall h (.nm i :: as) ρ := by
  unfold cO methS
  exact if_pos ⟨rfl, by
    simp only [List.map_cons, List.map_nil]
    decide +kernel⟩
@[simp] theorem co_m_wants : methS "Course" "wants" i h as ρ (cO A B N s dx a b c e) = mCall h (.nm i :: as) ρ := by
  unfold cO methS
  exact if_pos ⟨rfl, by
    simp only [List.map_cons, List.map_nil]
    decide +kernel⟩
@[simp] theorem co_m_spares : methS "Course" "spares" i h as ρ (cO A B N s dx a b c e) = mCall h (.nm i :: as) ρ := by
  unfold cO methS
  exact if_pos ⟨rfl, by
    simp only [List.map_cons, List.map_nil]
    decide +kernel⟩
@[simp] theorem co_m_adds : methS "Course" "adds" i h as ρ (cO A B N s dx a b c e) = mCall h (.nm i :: as) ρ := by
  unfold cO methS
  exact if_pos ⟨rfl, by
    simp only [List.map_cons, List.map_nil]
    decide +kernel⟩
@[simp] theorem co_m_puts : methS "Course" "puts" i h as ρ (cO A B N s dx a b c e) = mCall h (.nm i :: as) ρ := by
  unfold cO methS
  exact if_pos ⟨rfl, by
    simp only [List.map_cons, List.map_nil]
    decide +kernel⟩
@[simp] theorem co_m_pours : methS "Course" "pours" i h as ρ (cO A B N s dx a b c e) = mCall h (.nm i :: as) ρ := by
  unfold cO methS
  exact if_pos ⟨rfl, by
    simp only [List.map_cons, List.map_nil]
    decide +kernel⟩
@[simp] theorem co_m_renames : methS "Course" "renames" i h as ρ (cO A B N s dx a b c e) = mCall h (.nm i :: as) ρ := by
  unfold cO methS
  exact if_pos ⟨rfl, by
    simp only [List.map_cons, List.map_nil]
    decide +kernel⟩
@[simp] theorem co_m_does : methS "Course" "does" i h as ρ (cO A B N s dx a b c e) = mCall h (.nm i :: as) ρ := by
  unfold cO methS
  exact if_pos ⟨rfl, by
    simp only [List.map_cons, List.map_nil]
    decide +kernel⟩
@[simp] theorem co_m_ending : methS "Course" "ending" i h as ρ (cO A B N s dx a b c e) = mCall h (.nm i :: as) ρ := by
  unfold cO methS
  exact if_pos ⟨rfl, by
    simp only [List.map_cons, List.map_nil]
    decide +kernel⟩
@[simp] theorem co_m_opened : methS "Course" "opened" i h as ρ (cO A B N s dx a b c e) = mCall h (.nm i :: as) ρ := by
  unfold cO methS
  exact if_pos ⟨rfl, by
    simp only [List.map_cons, List.map_nil]
    decide +kernel⟩
@[simp] theorem co_m_flown : methS "Course" "flown" i h as ρ (cO A B N s dx a b c e) = mCall h (.nm i :: as) ρ := by
  unfold cO methS
  exact if_pos ⟨rfl, by
    simp only [List.map_cons, List.map_nil]
    decide +kernel⟩
@[simp] theorem co_m_does_on : methS "Course" "does_on" i h as ρ (cO A B N s dx a b c e) = mCall h (.nm i :: as) ρ := by
  unfold cO methS
  exact if_pos ⟨rfl, by
    simp only [List.map_cons, List.map_nil]
    decide +kernel⟩
end
end SD

set_option Elab.async false
set_option linter.all false
set_option autoImplicit false
set_option maxRecDepth 100000
set_option maxHeartbeats 4000000
/-! SD: what is never called; list(range(a, b)); xs[e] as a target. -/
namespace SD
open PySem PySem.Spec PyProof.Rows L2
/-- a def that is never called -/
def m_dead : M Slot := fun _ => .bad
/-! ### list(range(a, b)) -/
def lstR2O (ρ : En) (o p : Option D) : Out Slot := match o, p with
  | some (.int i), some (.int j) => if -(2 ^ 62) ≤ i ∧ i < 2 ^ 62 ∧ -(2 ^ 62) ≤ j ∧ j < 2 ^ 62 ∧ j - i ≤ 16777216 then .ok (.lst ((List.range (j - i).toNat).map fun k => PyData.int (i + (k : Nat)))) ρ else .bad
  | _, _ => .bad
def mLstRange2 (f g : M Slot) : M Slot := fun ρ => (f ρ).bind fun s ρ1 => match s.data with
  | some (.int i) => (g ρ1).bind fun t ρ2 => lstR2O ρ2 (some (.int i)) t.data
  | _ => .bad
section
variable {X : Cx} {W : WX} {I : ExI} {e e2 : Expr} {f g : M Slot}
end
section
def lr2K (g : M Slot) (o : Out Slot) : Out Slot := o.bind fun s ρ1 => match s.data with
  | some (.int i) => (g ρ1).bind fun t ρ2 => lstR2O ρ2 (some (.int i)) t.data
  | _ => .bad
def lr2D (g : M Slot) (ρ : En) : Option D → Out Slot
  | some (.int i) => (g ρ).bind fun t ρ2 => lstR2O ρ2 (some (.int i)) t.data
  | _ => .bad
def lr2J (i : Int) (o : Out Slot) : Out Slot := o.bind fun t ρ2 => lstR2O ρ2 (some (.int i)) t.data
variable {f g : M Slot} {ρ : En} {s : Slot} {i j : Int}
@[simp] theorem ev_lr2 : mLstRange2 f g ρ = lr2K g (f ρ) := rfl
@[simp] theorem ev_lr2K : lr2K g (.ok s ρ) = lr2D g ρ s.data := by
  show (match s.data with | some (.int i) => _ | _ => _) = _
  unfold lr2D
  rfl
@[simp] theorem ev_lr2D : lr2D g ρ (some (.int i)) = lr2J i (g ρ) := rfl
@[simp] theorem ev_lr2J : lr2J i (.ok s ρ) = lstR2O ρ (some (.int i)) s.data := rfl
@[simp] theorem ev_lr2O : lstR2O ρ (some (.int i)) (some (.int j)) = if -4611686018427387904 ≤ i ∧ i < 4611686018427387904 ∧ -4611686018427387904 ≤ j ∧ j < 4611686018427387904 ∧ j - i ≤ 16777216 then .ok (.lst ((List.range (j - i).toNat).map fun k : Nat => PyData.int (i + (k : Int)))) ρ else .bad := rfl
end
/-! ### xs[e] as a target -/
def gIxE (i : Nat) (f : M Slot) : Tg := fun d ρ => match En.at ρ i, f ρ with
  | .lst _, .ok s ρ1 => (match s.data with
    | some (.int c) => gIx i c d ρ1
    | _ => none)
  | _, _ => none
section
variable {X : Cx} {W : WX} {I : ExI} {pr : Nat → Prop} {pos' : Pos} {ex ei : Expr} {i : Nat} {f : M Slot}
end
section
variable {i : Nat} {f : M Slot} {d : D} {ρ : En} {s : Slot} {c : Int}
def gxK (i : Nat) (d : D) (s0 : Slot) (o : Out Slot) : Option En := match s0, o with
  | .lst _, .ok s ρ1 => (match s.data with
    | some (.int c) => gIx i c d ρ1
    | _ => none)
  | _, _ => none
def gxD (i : Nat) (d : D) (ρ : En) : Option D → Option En
  | some (.int c) => gIx i c d ρ
  | _ => none
@[simp] theorem ev_gIxE : gIxE i f d ρ = gxK i d (En.at ρ i) (f ρ) := by
  unfold gIxE gxK
  rfl
@[simp] theorem ev_gxK {ds : List D} : gxK i d (.lst ds) (.ok s ρ) = gxD i d ρ s.data := by
  show (match s.data with | some (.int c) => gIx i c d ρ | _ => none) = _
  unfold gxD
  rfl
@[simp] theorem ev_gxD : gxD i d ρ (some (.int c)) = gIx i c d ρ := rfl
end
end SD

set_option Elab.async false
set_option linter.all false
set_option autoImplicit false
set_option maxRecDepth 100000
set_option maxHeartbeats 4000000
/-! SD: enumerate over a tuple. -/
namespace SD
open PySem PySem.Spec PyProof.Rows L2
open AutoSeq1 (wpAny_loadPart')
section
variable {prog : Program} {w : World} {A : Around} {E : Value → Shared → Prop} {s : Shared}
end
/-- the tuple at a, each item in a new pair -/
def IteT (K : PySem.W.Frag) (a : Addr) : It :=
  ⟨fun i H => ∃ (xs : List V) (x : V), SqT K H a xs ∧ xs[i]? = some x, fun i H v H' => ∃ T x, v = .ref T ∧ H T = none ∧ H' = upd H T (.tup [.int (i : Nat), x]) ∧ ∀ xs, SqT K H a xs → xs[i]? = some x, fun i H => ∃ xs : List V, SqT K H a xs ∧ xs.length ≤ i⟩
def iEnumA (K : PySem.W.Frag) (ta : TA) : TI := fun σ H R => ta σ H fun vs H1 => ∃ a xs, vs = [.ref a] ∧ ((SqL K H1 a xs ∧ R (Ite K a) H1) ∨ (SqT K H1 a xs ∧ R (IteT K a) H1))
/-- what is numbered: a list or a tuple -/
def mEnumA (f : M Slot) : M (List D) := fun ρ => (mVals [f] ρ).bind fun ds ρ' => match ds with
  | [.list es] => .ok (numbered es) ρ'
  | [.tuple es] => .ok (numbered es) ρ'
  | _ => .bad
section
variable {X : Cx} {W : WX} {I : ExI} {f h : M Slot} {e e2 : Expr} {elts : List Expr} {kk : Nat} {p pos tpos : Pos}
end
def enAK (o : Out (List D)) : Out (List D) := o.bind fun ds ρ' => match ds with
  | [.list es] => .ok (numbered es) ρ'
  | [.tuple es] => .ok (numbered es) ρ'
  | _ => .bad
section
variable {f : M Slot} {ρ : En} {es : List D}
@[simp] theorem ev_enA : mEnumA f ρ = enAK (mVals [f] ρ) := rfl
@[simp] theorem ev_enA1 : enAK (.ok [.list es] ρ) = .ok (numbered es) ρ := rfl
@[simp] theorem ev_enA2 : enAK (.ok [.tuple es] ρ) = .ok (numbered es) ρ := rfl
end
end SD

set_option Elab.async false
set_option linter.all false
set_option autoImplicit false
set_option maxRecDepth 100000
set_option maxHeartbeats 4000000
/-! SD: zip of a tuple and a list. -/
namespace SD
open PySem PySem.Spec PyProof.Rows L2
/-! ### the library's level -/
abbrev zmH1 (h : Heap) (l1 : Addr) : Heap := h.push { cls := .type "tuple_iterator", data := .fields #[.ref l1, .int 0 0] }
abbrev zmH2 (h : Heap) (l1 l2 : Addr) : Heap := (zmH1 h l1).push { cls := .type "list_iterator", data := .fields #[.ref l2, .int 0 0] }
abbrev zmH3 (h : Heap) (l1 l2 : Addr) : Heap := (zmH2 h l1 l2).push { cls := .type "tuple", data := .seq #[.ref h.objs.size, .ref (zmH1 h l1).objs.size] }
abbrev zmH4 (h : Heap) (l1 l2 : Addr) : Heap := (zmH3 h l1 l2).push { cls := .type "tuple", data := .seq #[.none, .none] }
abbrev zmH5 (h : Heap) (l1 l2 : Addr) : Heap := (zmH4 h l1 l2).push { cls := .type "zip", data := .fields #[.none, .bool false, .bool false, .ref (zmH2 h l1 l2).objs.size, .ref (zmH3 h l1 l2).objs.size] }
section
variable {prog : Program} {w : World} {A : Around} {E : Value → Shared → Prop} {s : Shared}
end
/-! ### a walk over it -/
/-- the tuple at a and the list at b, the items in new pairs -/
def Itzm (K : PySem.W.Frag) (a b : Addr) (n m : Nat) : It :=
  ⟨fun i H => ∃ (xs ys : List V) (x y : V), SqT K H a xs ∧ SqL K H b ys ∧ xs.length = n ∧ ys.length = m ∧ xs[i]? = some x ∧ ys[i]? = some y,
    fun i H v H' => ∃ T x y, v = .ref T ∧ H T = none ∧ H' = upd H T (.tup [x, y]) ∧ (∀ xs, SqT K H a xs → xs[i]? = some x) ∧ ∀ ys, SqL K H b ys → ys[i]? = some y,
    fun i H => ∃ xs ys : List V, SqT K H a xs ∧ SqL K H b ys ∧ xs.length = n ∧ ys.length = m ∧ (n ≤ i ∨ m ≤ i)⟩
def iZipM (K : PySem.W.Frag) (ta : TA) : TI := fun σ H R => ta σ H fun vs H1 => ∃ a b xs ys, vs = [.ref a, .ref b] ∧ SqT K H1 a xs ∧ SqL K H1 b ys ∧ R (Itzm K a b xs.length ys.length) H1
/-! ### the layer -/
def mZipM (f h : M Slot) : M (List D) := fun ρ => (mVals [f, h] ρ).bind fun ds ρ' => match ds with
  | [.tuple es, .list gs] => .ok (zipped es gs) ρ'
  | _ => .bad
section
variable {X : Cx} {W : WX} {I : ExI} {f h : M Slot} {e e2 : Expr} {elts : List Expr} {kk : Nat} {p pos tpos : Pos}
end
/-! ### equations -/
def zmK (o : Out (List D)) : Out (List D) := o.bind fun ds ρ' => match ds with
  | [.tuple es, .list gs] => .ok (zipped es gs) ρ'
  | _ => .bad
@[simp] theorem ev_zipM {f h : M Slot} {ρ : En} : mZipM f h ρ = zmK (mVals [f, h] ρ) := rfl
@[simp] theorem ev_zmK {ρ : En} {es gs : List D} : zmK (.ok [.tuple es, .list gs] ρ) = .ok (zipped es gs) ρ := rfl
end SD

set_option Elab.async false
set_option linter.all false
set_option autoImplicit false
set_option maxRecDepth 100000
set_option maxHeartbeats 4000000
/-! SD: objects in boxes: frozen for a while. -/
namespace SD
open PySem PySem.Spec PyProof.Rows L2
/-! ### flat data: without lists and dicts -/
mutual
def lf : D → Bool
  | .list _ => false
  | .dict _ => false
  | .tuple ds => lfs ds
  | .none => true
  | .bool _ => true
  | .int _ => true
  | .str _ => true
def lfs : List D → Bool
  | [] => true
  | d :: ds => lf d && lfs ds
end
def lfk : List (Key × D) → Bool
  | [] => true
  | p :: ps => lf p.2 && lfk ps
/-- what may stand beside an object that is frozen for a while -/
def lfx : Slot → Bool
  | .emp => true
  | .val d => lf d
  | .lst ds => lfs ds
  | .dic kvs => lfk kvs
  | .exn x => (match x.arg with
    | some a => lf a
    | none => true)
  | _ => false
/-- what can be written -/
def cellO : HO → Bool
  | .lst _ => true
  | .dK _ => true
  | .ins _ _ _ => true
  | .own _ => true
  | _ => false
section
variable {K : Fr0} {F F' : Hp} (hF : ∀ a o, F a = some o → cellO o = false → F' a = some o)
include hF
theorem SqT.un {a : Addr} {xs : List V} (h : SqT K F a xs) : SqT K F' a xs := by
  rcases h with (h | ⟨o, h⟩) | h
  · exact .inl (.inl (hF _ _ h rfl))
  · exact .inl (.inr ⟨o, hF _ _ h rfl⟩)
  · exact .inr h
end
/-! ### what a box holds, as data -/
def dsOf : List Slot → Option (List D)
  | [] => some []
  | s :: ss => match s.data with
    | some d => (match dsOf ss with
      | some ds => some (d :: ds)
      | none => none)
    | none => none
/-! ### frozen, and no longer -/
open Classical in
noncomputable def offF (Ow : Addr → Prop) (F2 : Hp) : Hp := fun a => if Ow a then none else F2 a
structure FrzIn (K : Fr0) (F H : Hp) (ρ : En) (σ : St) (i : Nat) (cn : String) (fl : List Str) (ss : List Slot) (ds : List D) (F1 : Hp) (p : Addr) (Ow : Addr → Prop) : Prop where
  at_ : σ[i]? = some (some (.ref p))
  box : SlotOk K F H (.box (.ins cn fl) ss) (some (.ref p))
  ow : ∀ q, Owns H (.box (.ins cn fl) ss) (some (.ref p)) q ↔ Ow q
  sub : Same F F1
  rp : Rp K F1 H (ρ.set i (.fro cn fl ds)) σ
  oth : ∀ q, OwnE H (ρ.set i (.fro cn fl ds)) σ q → OwnE H ρ σ q ∧ ¬ Ow q
  on : ∀ q, Ow q → F1 q = H q
  off : ∀ q, ¬ Ow q → F1 q = F q
  own : ∀ q, Ow q → OwnE H ρ σ q
  cell : ∀ q, Ow q → F q = none ∧ ∃ o, H q = some o ∧ cellO o = true
structure FrzOut (K : Fr0) (F H : Hp) (ρ : En) (σ : St) (i : Nat) (cn : String) (fl : List Str) (ss : List Slot) (ds : List D) (p : Addr) (Ow : Addr → Prop) (F2 H2 : Hp) (O' : Addr → Prop) (F3 : Hp) : Prop where
  sub3 : Same F3 H2
  ext : Ext F H (OwnE H (ρ.set i (.fro cn fl ds)) σ) F3 H2 O'
  same : ∀ q, Ow q → H2 q = H q
  box : SlotOk K F3 H2 (.box (.ins cn fl) ss) (some (.ref p))
  ow : ∀ q, Owns H2 (.box (.ins cn fl) ss) (some (.ref p)) q ↔ Ow q
  hF : ∀ a o, F2 a = some o → cellO o = false → F3 a = some o
  hN : ∀ a, F2 a = none → F3 a = none
  dj : ∀ q, Ow q → ¬ O' q
/-! ### an expression over a frozen object -/
open Classical in
noncomputable def mFrz (i : Nat) (g : M Slot) : M Slot := fun ρ => match En.at ρ i with
  | .fro _ _ _ => g ρ
  | .box (.ins cn fl) ss => (match dsOf ss with
    | some ds => (match g (ρ.set i (.fro cn fl ds)) with
      | .ok s ρ' => if lfx s = true ∧ (ρ'.set i .emp).all lfx = true then .ok s (ρ'.set i (.box (.ins cn fl) ss)) else .bad
      | _ => .bad)
    | none => .bad)
  | _ => .bad
section
variable {X : Cx} {W : WX} {I : ExI} {pr : Nat → Prop} {i : Nat} {g : M Slot} {e : Expr}
open Classical in
/-- a statement over a frozen object, that goes on -/
noncomputable def mFrzS (i : Nat) (g : M Fl) : M Fl := fun ρ => match En.at ρ i with
  | .fro _ _ _ => g ρ
  | .box (.ins cn fl) ss => (match dsOf ss with
    | some ds => (match g (ρ.set i (.fro cn fl ds)) with
      | .ok .next ρ' => if (ρ'.set i .emp).all lfx = true then .ok .next (ρ'.set i (.box (.ins cn fl) ss)) else .bad
      | _ => .bad)
    | none => .bad)
  | _ => .bad
end
/-- a test over a frozen object -/
def mFrzT (i : Nat) (g : M Bool) : M Bool := fun ρ => match En.at ρ i with
  | .fro _ _ _ => g ρ
  | .box (.ins cn fl) ss => (match dsOf ss with
    | some ds => (match g (ρ.set i (.fro cn fl ds)) with
      | .ok b ρ' => if (ρ'.set i .emp).all lfx = true then .ok b (ρ'.set i (.box (.ins cn fl) ss)) else .bad
      | _ => .bad)
    | none => .bad)
  | _ => .bad
/-! ### fields read -/
def fldD : List Str → List D → Str → Option D
  | n :: fl, d :: ds, f => if n = f then some d else fldD fl ds f
  | _, _, _ => none
def mFldR (i : Nat) (f : Str) : M Slot := fun ρ => match En.at ρ i with
  | .fro _ fl ds => (match fldD fl ds f with
    | some d => .ok (.val d) ρ
    | none => .bad)
  | _ => .bad
section
variable {X : Cx} {W : WX} {I : ExI} {pr : Nat → Prop} {i k : Nat} {f : Str} {e ex eb ei : Expr} {g : M Slot} {a : AE} {pos apos pos' : Pos}
end
end SD

set_option Elab.async false
set_option linter.all false
set_option autoImplicit false
set_option maxRecDepth 100000
set_option maxHeartbeats 4000000
/-! SD: objects in boxes: fields written, objects made, methods. -/
namespace SD
open PySem PySem.Spec PyProof.Rows L2
def setC : List Str → List Slot → Str → Slot → List Slot
  | n :: fl, s :: ss, f, t => if n = f then t :: ss else s :: setC fl ss f t
  | _, ss, _, _ => ss
def getC : List Str → List Slot → Str → Slot
  | n :: fl, s :: ss, f => if n = f then s else getC fl ss f
  | _, _, _ => .emp
/-- x.f.append(e) -/
noncomputable def mAppB (i : Nat) (f : Str) (g : M Slot) : M Slot := fun ρ => match En.at ρ i with
  | .box (.ins cn fl) ss => (match getC fl ss f with
    | .lst us => (match dsOf ss with
      | some _ => (mFrz i g ρ).bind fun s ρ1 => (match s.data with
        | some d => if us.length < 16777216 then .ok (.val .none) (ρ1.set i (.box (.ins cn fl) (setC fl ss f (.lst (us ++ [d]))))) else .bad
        | none => .bad)
      | none => .bad)
    | _ => .bad)
  | _ => .bad
/-- x.f[k] = e, k a name -/
def mSetB (i : Nat) (f : Str) (j : Nat) (g : M Slot) : M Fl := fun ρ => (g ρ).bind fun s ρ1 => match s.data with
  | some d => (match En.at ρ1 i with
    | .box (.ins cn fl) ss => (match getC fl ss f with
      | .dic kvs => (match (En.at ρ1 j).data with
        | some kd => (match keyOf kd with
          | some q => if kvs.length < 16777216 then .ok .next (ρ1.set i (.box (.ins cn fl) (setC fl ss f (.dic (putQ kvs q d))))) else .bad
          | none => .bad)
        | none => .bad)
      | _ => .bad)
    | _ => .bad)
  | none => .bad
/-- x.f = e -/
def mPutB (i : Nat) (f : Str) (g : M Slot) : M Fl := fun ρ => (g ρ).bind fun s ρ1 => match En.at ρ1 i with
  | .box (.ins cn fl) ss => if f ∈ fl ∧ fl.length < 100 then .ok .next (ρ1.set i (.box (.ins cn fl) (setC fl ss f s))) else .bad
  | _ => .bad
section
variable {X : Cx} {W : WX} {I : ExI} {pr : Nat → Prop} {i k : Nat} {f : Str} {e ex eb ei : Expr} {g : M Slot} {a : AE} {pos apos apos2 pos' : Pos}
end
/-! ### methods -/
/-- x.m(..) -/
def mMethB (cn : String) (m : Str) (i : Nat) (f : M Slot) (as : List AE) : M Slot := fun ρ => match En.at ρ i with
  | .box (.ins c fl) _ => if c = cn ∧ m ∉ fl then mCall f (.nm i :: as) ρ else .bad
  | .fro c fl _ => if c = cn ∧ m ∉ fl then mCall f (.nm i :: as) ρ else .bad
  | _ => .bad
section
variable {X : Cx} {W : WX} {I : ExI} {i n k : Nat} {cn : String} {m : Str} {f : M Slot} {as : List AE} {o e : Expr} {es : List Expr} {pos apos : Pos}
end
end SD

set_option Elab.async false
set_option linter.all false
set_option autoImplicit false
set_option maxRecDepth 100000
set_option maxHeartbeats 4000000
/-! SD: objects in boxes made. -/
namespace SD
open PySem PySem.Spec PyProof.Rows L2
/-- what an __init__ puts into a field -/
inductive BI where
  | arg (j : Nat)
  | dic
  | lst
def BI.slot (ds : List D) : BI → Slot
  | .arg j => .val (ds.getD j .none)
  | .dic => .dic []
  | .lst => .lst []
def initB (l : List (Str × BI)) (ds : List D) : List Slot := l.map fun p => p.2.slot ds
def spNewB (K : Fr0) (C : Addr) (l : List (Str × BI)) (n : Nat) : Sp := fun vs H Q _ => ∃ o dx us F ds, vs = .ref o :: us ∧ us.length = n ∧ Same F H ∧ Reps K F ds us ∧ H o = some (.ins C dx []) ∧ F o = none ∧ dx ≠ o ∧ Cls K C ∧ (∀ f ∈ l, NoAttr K C f.1) ∧ (l.map (·.1)).Nodup ∧ l.length < 900 ∧ (∀ p ∈ l, ∀ j, p.2 = .arg j → j < n) ∧
  ∀ H' w, (∀ q u, H q = some u → q ≠ o → H' q = some u) → H' o = some (.ins C dx w) → w.map (·.1) = l.map (·.1) → SlotsOk K F H' (initB l ds) (w.map (·.2)) → (∀ q, OwnsS H' (initB l ds) (w.map (·.2)) q → H q = none) → Q .non H'
theorem slots_snoc {K : Fr0} {F H : Hp} {s : Slot} {v : V} (h1 : SlotOk K F H s (some v)) : ∀ {ss : List Slot} {vs : List V}, SlotsOk K F H ss vs → (∀ q, Owns H s (some v) q → ¬ OwnsS H ss vs q) → SlotsOk K F H (ss ++ [s]) (vs ++ [v]) ∧ ∀ q, OwnsS H (ss ++ [s]) (vs ++ [v]) q ↔ OwnsS H ss vs q ∨ Owns H s (some v) q
  | [], [], _, _ => ⟨⟨h1, (fun q _ z => False.elim z), trivial⟩, fun q => by
      constructor
      · intro z
        rcases (show Owns H s (some v) q ∨ OwnsS H [] [] q from z) with z | z
        · exact .inr z
        · exact False.elim z
      · rintro (z | z)
        · exact False.elim z
        · exact .inl z⟩
  | [], _ :: _, h, _ => h.elim
  | _ :: _, [], h, _ => h.elim
  | t :: ss, u :: vs, h, dj => by
    obtain ⟨a, nd, b⟩ := h
    obtain ⟨k, o⟩ := slots_snoc h1 b fun q z y => dj q z (.inr y)
    refine ⟨⟨a, fun q z y => ?_, k⟩, fun q => ?_⟩
    · rcases (o q).mp y with y | y
      · exact nd q z y
      · exact dj q y (.inl z)
    · show (Owns H t (some u) q ∨ OwnsS H (ss ++ [s]) (vs ++ [v]) q) ↔ (Owns H t (some u) q ∨ OwnsS H ss vs q) ∨ Owns H s (some v) q
      rw [o q, or_assoc]
/-- what holds once the first fields are there -/
structure NewB (K : Fr0) (F : Hp) (C o dx : Addr) (ds : List D) (H : Hp) (dn : List (Str × BI)) (H1 : Hp) (w : List (Str × V)) : Prop where
  keep : ∀ q u, H q = some u → q ≠ o → H1 q = some u
  at_ : H1 o = some (.ins C dx w)
  nm : w.map (·.1) = dn.map (·.1)
  ok : SlotsOk K F H1 (initB dn ds) (w.map (·.2))
  new : ∀ q, OwnsS H1 (initB dn ds) (w.map (·.2)) q → H q = none
section
variable {K : Fr0} {F H H1 : Hp} {C o dx : Addr} {ds : List D} {dn : List (Str × BI)} {w : List (Str × V)} {f : Str} {k : BI} {v : V}
theorem NewB.step (N : NewB K F C o dx ds H dn H1 w) (ho : H o ≠ none) (fo : F o = none) (hf : f ∉ dn.map (·.1)) {H2 : Hp} (keep2 : ∀ q u, H1 q = some u → q ≠ o → H2 q = some u) (at2 : H2 o = some (.ins C dx (w ++ [(f, v)])))
    (ok : SlotOk K F H2 (k.slot ds) (some v)) (new : ∀ q, Owns H2 (k.slot ds) (some v) q → H1 q = none) : NewB K F C o dx ds H (dn ++ [(f, k)]) H2 (w ++ [(f, v)]) := by
  have x : Ext F H1 (fun q => q = o) F H2 (fun q => q = o) := ⟨Same.refl _, fun a h h' => absurd h h', fun a u h n => keep2 a u h n, fun a h => .inr h⟩
  obtain ⟨k2, o2⟩ := SlotsOk.ext2 x N.ok fun q z y => by
    cases (show q = o from y)
    exact ho (N.new o z)
  have e1 : initB (dn ++ [(f, k)]) ds = initB dn ds ++ [k.slot ds] := by simp [initB]
  have e2 : (w ++ [(f, v)]).map (·.2) = w.map (·.2) ++ [v] := by simp
  obtain ⟨k3, o3⟩ := slots_snoc ok k2 fun q z y => by
    obtain ⟨_, u, hu⟩ := N.ok.own ((o2 q).mp y)
    rw [new q z] at hu; cases hu
  refine ⟨fun q u h n => keep2 q u (N.keep q u h n) n, at2, by simp [N.nm], by rw [e1, e2]; exact k3, fun q z => ?_⟩
  rw [e1, e2] at z
  rcases (o3 q).mp z with y | y
  · exact N.new q ((o2 q).mp y)
  · cases e : H q with
    | none => rfl
    | some u =>
      by_cases hq : q = o
      · subst hq
        have := new q y
        rw [N.at_] at this; cases this
      · have := new q y
        rw [N.keep q u e hq] at this; cases this
end
def tBI : BI → TE
  | .arg j => tVar (j + 1)
  | .dic => tDNewK
  | .lst => tLst tNil
def tInitB (K : Fr0) : List (Str × BI) → TS
  | [] => tNext
  | (f, k) :: r => tSeq (sFld K (tVar 0) (tBI k) f) (tInitB K r)
end SD

set_option Elab.async false
set_option linter.all false
set_option autoImplicit false
set_option maxRecDepth 100000
set_option maxHeartbeats 4000000
/-! SD: objects in boxes made, by a class's call; tuples and lists of what one owns. -/
namespace SD
open PySem PySem.Spec PyProof.Rows L2
/-- a class of the text whose __init__ makes these fields -/
structure MkB (P : Program) (w : World) (K : Fr0) (mg : Str → Option Value) (base : Heap) (cn : String) (k : Nat) (l : List (Str × BI)) (n : Nat) : Prop where
  ex : ∃ C fa fd ps, mg (Str.ofString cn) = some (.ref C) ∧ Kls K cn C (l.map (·.1)) ∧ Mk K C fa ∧ FnOk P w K mg base (L2.CX P w) k fa fd ps (spNewB K C l n) ∧ Binds K fd ps [] ∧ (l.map (·.1)).Nodup ∧ l.length < 900 ∧ (∀ p ∈ l, ∀ j, p.2 = .arg j → j < n)
def mNewB (cn : String) (l : List (Str × BI)) (n : Nat) (gs : List (M Slot)) : M Slot := fun ρ => (mVals gs ρ).bind fun ds ρ1 => if ds.length = n then .ok (.box (.ins cn (l.map (·.1))) (initB l ds)) ρ1 else .bad
section
variable {X : Cx} {W : WX} {I : ExI} {pr : Nat → Prop} {k n : Nat} {cn : String} {l : List (Str × BI)} {gs : List (M Slot)} {e : Expr} {es : List Expr} {p pos : Pos}
end
/-! ### __init__, its statements -/
section
variable {X : Cx} {ex e : Expr} {f : Str} {j : Nat} {p' q pos : Pos} {sts : List Stmt} {r : List (Str × BI)}
end
/-! ### tuples and lists of what one owns -/
/-- (x, y, ..) that keeps what is owned -/
def mTupB (as : List AE) : M Slot := fun ρ => (evAs as ρ).bind fun gs ρ1 => match takeArgs gs ρ1 with
  | none => .bad
  | some (sl, ρ2) => if lineOk sl.length then .ok (.box .tup sl) ρ2 else .bad
/-- [x, y, ..] that keeps what is owned -/
def mLstB (as : List AE) : M Slot := fun ρ => (evAs as ρ).bind fun gs ρ1 => match takeArgs gs ρ1 with
  | none => .bad
  | some (sl, ρ2) => if lineOk sl.length then .ok (.box .lst sl) ρ2 else .bad
section
variable {X : Cx} {W : WX} {I : ExI} {pr : Nat → Prop} {as : List AE} {es : List Expr} {e : Expr} {k : Nat} {pos : Pos} {f : M Slot}
/-! ### such tuples unpacked -/
def setL : List Nat → List Slot → En → En
  | j :: js, s :: ss, ρ => setL js ss (ρ.set j s)
  | _, _, ρ => ρ
structure CUs (X : Cx) (pr : Nat → Prop) (js : List Nat) (es : List Expr) : Prop where
  run : ∃ t, PGs X es t ∧ ∀ (F H : Hp) (ρ : En) (σ : St) (ss : List Slot) (vs : List V) (Q : St → Hp → Prop), Rp X.K F H ρ σ → SlotsOk X.K F H ss vs → (∀ q, OwnsS H ss vs q → ¬ OwnE H ρ σ q) → ss.length = js.length →
    (∀ σ', Rp X.K F H (setL js ss ρ) σ' → (∀ q, OwnE H (setL js ss ρ) σ' q → OwnsS H ss vs q ∨ OwnE H ρ σ q) → (∀ i, pr i → σ'[i]? = σ[i]?) → σ'.length = σ.length → Q σ' H) → t vs σ H Q
/-- a, b, .. = e, where what is owned comes along -/
def mUnB (js : List Nat) (f : M Slot) : M Fl := fun ρ => (f ρ).bind fun s ρ1 => match s with
  | .box .tup ss => if ss.length = js.length then .ok .next (setL js ss ρ1) else .bad
  | _ => .bad
/-! ### min of a list of ints -/
def pMinL : List D → Option Slot
  | [.list ds] => (match intsOf ds with
    | some (n :: ns) => some (.val (.int (ns.foldl min n)))
    | _ => none)
  | _ => none
end
end SD

set_option Elab.async false
set_option linter.all false
set_option autoImplicit false
set_option maxRecDepth 100000
set_option maxHeartbeats 4000000
/-! SD: equations for boxes; Log. -/
namespace SD
open PySem PySem.Spec PyProof.Rows L2
abbrev fi_Log : List (Str × BI) := [("start", .arg 0), ("told", .lst), ("standing", .lst), ("makers", .dic), ("marks", .dic)]
abbrev lgN : List Str := ["start", "told", "standing", "makers", "marks"]
/-- a log; the same, frozen -/
def lgS (S : D) (T N : List D) (A B : List (Key × D)) : Slot := .box (.ins "Log" lgN) [.val S, .lst T, .lst N, .dic A, .dic B]
def lgF (S : D) (T N : List D) (A B : List (Key × D)) : Slot := .fro "Log" lgN [S, .list T, .list N, .dict (qD A), .dict (qD B)]
open Classical in
noncomputable def frzE (i : Nat) (b : Slot) : Out Slot → Out Slot
  | .ok s ρ' => if lfx s = true ∧ (ρ'.set i .emp).all lfx = true then .ok s (ρ'.set i b) else .bad
  | _ => .bad
open Classical in
noncomputable def frzSE (i : Nat) (b : Slot) : Out Fl → Out Fl
  | .ok .next ρ' => if (ρ'.set i .emp).all lfx = true then .ok .next (ρ'.set i b) else .bad
  | _ => .bad
noncomputable def frzO (i : Nat) (g : M Slot) (ρ : En) : Slot → Out Slot
  | .fro _ _ _ => g ρ
  | .box (.ins cn fl) ss => (match dsOf ss with
    | some ds => frzE i (.box (.ins cn fl) ss) (g (ρ.set i (.fro cn fl ds)))
    | none => .bad)
  | _ => .bad
noncomputable def frzSO (i : Nat) (g : M Fl) (ρ : En) : Slot → Out Fl
  | .fro _ _ _ => g ρ
  | .box (.ins cn fl) ss => (match dsOf ss with
    | some ds => frzSE i (.box (.ins cn fl) ss) (g (ρ.set i (.fro cn fl ds)))
    | none => .bad)
  | _ => .bad
def frzTE (i : Nat) (b : Slot) : Out Bool → Out Bool
  | .ok s ρ' => if (ρ'.set i .emp).all lfx = true then .ok s (ρ'.set i b) else .bad
  | _ => .bad
def frzTO (i : Nat) (g : M Bool) (ρ : En) : Slot → Out Bool
  | .fro _ _ _ => g ρ
  | .box (.ins cn fl) ss => (match dsOf ss with
    | some ds => frzTE i (.box (.ins cn fl) ss) (g (ρ.set i (.fro cn fl ds)))
    | none => .bad)
  | _ => .bad
def fldRO (f : Str) (ρ : En) : Slot → Out Slot
  | .fro _ fl ds => (match fldD fl ds f with
    | some d => .ok (.val d) ρ
    | none => .bad)
  | _ => .bad
def appBK (i : Nat) (f : Str) (cn : String) (fl : List Str) (ss : List Slot) (us : List D) (o : Out Slot) : Out Slot := o.bind fun s ρ1 => (match s.data with
  | some d => if us.length < 16777216 then .ok (.val .none) (ρ1.set i (.box (.ins cn fl) (setC fl ss f (.lst (us ++ [d]))))) else .bad
  | none => .bad)
noncomputable def appBO (i : Nat) (f : Str) (g : M Slot) (ρ : En) : Slot → Out Slot
  | .box (.ins cn fl) ss => (match getC fl ss f with
    | .lst us => (match dsOf ss with
      | some _ => appBK i f cn fl ss us (mFrz i g ρ)
      | none => .bad)
    | _ => .bad)
  | _ => .bad
def setBO (i : Nat) (f : Str) (ρ1 : En) (d : D) (kd : Option D) : Slot → Out Fl
  | .box (.ins cn fl) ss => (match getC fl ss f with
    | .dic kvs => (match kd with
      | some kd => (match keyOf kd with
        | some q => if kvs.length < 16777216 then .ok .next (ρ1.set i (.box (.ins cn fl) (setC fl ss f (.dic (putQ kvs q d))))) else .bad
        | none => .bad)
      | none => .bad)
    | _ => .bad)
  | _ => .bad
def setBK (i : Nat) (f : Str) (j : Nat) (o : Out Slot) : Out Fl := o.bind fun s ρ1 => match s.data with
  | some d => setBO i f ρ1 d (En.at ρ1 j).data (En.at ρ1 i)
  | none => .bad
def setBD (i : Nat) (f : Str) (j : Nat) (ρ1 : En) : Option D → Out Fl
  | some d => setBO i f ρ1 d (En.at ρ1 j).data (En.at ρ1 i)
  | none => .bad
def putBO (i : Nat) (f : Str) (ρ1 : En) (s : Slot) : Slot → Out Fl
  | .box (.ins cn fl) ss => if f ∈ fl ∧ fl.length < 100 then .ok .next (ρ1.set i (.box (.ins cn fl) (setC fl ss f s))) else .bad
  | _ => .bad
def putBK (i : Nat) (f : Str) (o : Out Slot) : Out Fl := o.bind fun s ρ1 => putBO i f ρ1 s (En.at ρ1 i)
def methBO (cn : String) (m : Str) (i : Nat) (f : M Slot) (as : List AE) (ρ : En) : Slot → Out Slot
  | .box (.ins c fl) _ => if c = cn ∧ m ∉ fl then mCall f (.nm i :: as) ρ else .bad
  | .fro c fl _ => if c = cn ∧ m ∉ fl then mCall f (.nm i :: as) ρ else .bad
  | _ => .bad
def newBK (cn : String) (l : List (Str × BI)) (n : Nat) (o : Out (List D)) : Out Slot := o.bind fun ds ρ1 => if ds.length = n then .ok (.box (.ins cn (l.map (·.1))) (initB l ds)) ρ1 else .bad
def tupBK (o : Out (List Arg)) : Out Slot := o.bind fun gs ρ1 => match takeArgs gs ρ1 with
  | none => .bad
  | some (sl, ρ2) => if lineOk sl.length then .ok (.box .tup sl) ρ2 else .bad
def tupBT (t : BT) : Option (En × En) → Out Slot
  | none => .bad
  | some r => if lineOk r.1.length then .ok (.box t r.1) r.2 else .bad
def lstBK (o : Out (List Arg)) : Out Slot := o.bind fun gs ρ1 => match takeArgs gs ρ1 with
  | none => .bad
  | some (sl, ρ2) => if lineOk sl.length then .ok (.box .lst sl) ρ2 else .bad
def unBO (js : List Nat) (ρ1 : En) : Slot → Out Fl
  | .box .tup ss => if ss.length = js.length then .ok .next (setL js ss ρ1) else .bad
  | _ => .bad
def unBK (js : List Nat) (o : Out Slot) : Out Fl := o.bind fun s ρ1 => unBO js ρ1 s
section
variable {i j n : Nat} {f m : Str} {ρ ρ' : En} {g h : M Slot} {b s : Slot} {d k : D} {cn : String} {as : List AE} {x : Exc} {gf : M Fl} {l : List (Str × BI)} {gs : List (M Slot)} {ds : List D} {js : List Nat} {ss : List Slot} {ga : List Arg} {r : En × En} {t : BT} {us : List D} {fl : List Str}
@[simp] theorem ev_frz : mFrz i g ρ = frzO i g ρ (En.at ρ i) := by
  unfold mFrz frzO frzE
  cases En.at ρ i with
  | box t ss =>
    cases t with
    | ins cn fl =>
      show _ = _
      cases dsOf ss with
      | none => rfl
      | some ds =>
        show _ = _
        cases g (ρ.set i (.fro cn fl ds)) <;> rfl
    | tup => rfl
    | lst => rfl
  | _ => rfl
@[simp] theorem ev_frzS : mFrzS i gf ρ = frzSO i gf ρ (En.at ρ i) := by
  unfold mFrzS frzSO frzSE
  cases En.at ρ i with
  | box t ss =>
    cases t with
    | ins cn fl =>
      show _ = _
      cases dsOf ss with
      | none => rfl
      | some ds =>
        show _ = _
        cases gf (ρ.set i (.fro cn fl ds)) with
        | ok f ρ1 => cases f <;> rfl
        | _ => rfl
    | tup => rfl
    | lst => rfl
  | _ => rfl
@[simp] theorem ev_frzT {gb : M Bool} : mFrzT i gb ρ = frzTO i gb ρ (En.at ρ i) := by
  unfold mFrzT frzTO frzTE
  cases En.at ρ i with
  | box t ss =>
    cases t with
    | ins cn fl =>
      show _ = _
      cases dsOf ss with
      | none => rfl
      | some ds =>
        show _ = _
        cases gb (ρ.set i (.fro cn fl ds)) <;> rfl
    | tup => rfl
    | lst => rfl
  | _ => rfl
@[simp] theorem frzTE_ok {x : Bool} : frzTE i b (.ok x ρ') = if (ρ'.set i .emp).all lfx = true then .ok x (ρ'.set i b) else .bad := rfl
@[simp] theorem lg_frzT {gb : M Bool} {S : D} {T N : List D} {A B : List (Key × D)} : frzTO i gb ρ (lgS S T N A B) = frzTE i (lgS S T N A B) (gb (ρ.set i (lgF S T N A B))) := rfl
@[simp] theorem lgF_frzT {gb : M Bool} {S : D} {T N : List D} {A B : List (Key × D)} : frzTO i gb ρ (lgF S T N A B) = gb ρ := rfl
@[simp] theorem frzE_ok : frzE i b (.ok s ρ') = if lfx s = true ∧ (ρ'.set i .emp).all lfx = true then .ok s (ρ'.set i b) else .bad := rfl
@[simp] theorem frzSE_ok : frzSE i b (.ok .next ρ') = if (ρ'.set i .emp).all lfx = true then .ok .next (ρ'.set i b) else .bad := rfl
@[simp] theorem ev_fldR : mFldR i f ρ = fldRO f ρ (En.at ρ i) := by
  unfold mFldR fldRO
  cases En.at ρ i <;> rfl
@[simp] theorem ev_appB : mAppB i f g ρ = appBO i f g ρ (En.at ρ i) := by
  unfold mAppB appBO
  cases En.at ρ i with
  | box t ss =>
    cases t with
    | ins cn fl => rfl
    | tup => rfl
    | lst => rfl
  | _ => rfl
@[simp] theorem ev_appBK : appBK i f cn fl ss us (.ok (.val d) ρ) = if us.length < 16777216 then .ok (.val .none) (ρ.set i (.box (.ins cn fl) (setC fl ss f (.lst (us ++ [d]))))) else .bad := rfl
@[simp] theorem ev_setB : mSetB i f j g ρ = setBK i f j (g ρ) := by
  unfold mSetB setBK
  congr 1
@[simp] theorem ev_setBK : setBK i f j (.ok s ρ) = setBD i f j ρ s.data := by
  show (match s.data with | some d => setBO i f ρ d (En.at ρ j).data (En.at ρ i) | none => .bad : Out Fl) = _
  unfold setBD
  cases s.data <;> rfl
@[simp] theorem ev_setBD : setBD i f j ρ (some d) = setBO i f ρ d (En.at ρ j).data (En.at ρ i) := rfl
@[simp] theorem ev_putB : mPutB i f g ρ = putBK i f (g ρ) := by
  unfold mPutB putBK
  congr 1
@[simp] theorem ev_putBK : putBK i f (.ok s ρ) = putBO i f ρ s (En.at ρ i) := rfl
@[simp] theorem ev_methB : mMethB cn m i h as ρ = methBO cn m i h as ρ (En.at ρ i) := by
  unfold mMethB methBO
  cases En.at ρ i with
  | box t ss =>
    cases t with
    | ins cn fl => rfl
    | tup => rfl
    | lst => rfl
  | _ => rfl
@[simp] theorem ev_newB : mNewB cn l n gs ρ = newBK cn l n (mVals gs ρ) := rfl
@[simp] theorem ev_tupB : mTupB as ρ = tupBK (evAs as ρ) := rfl
@[simp] theorem ev_tupBK : tupBK (.ok ga ρ) = tupBT .tup (takeArgs ga ρ) := by
  show (match takeArgs ga ρ with | none => .bad | some (sl, ρ2) => if lineOk sl.length then .ok (.box .tup sl) ρ2 else .bad : Out Slot) = _
  unfold tupBT
  cases takeArgs ga ρ <;> rfl
@[simp] theorem ev_lstB : mLstB as ρ = lstBK (evAs as ρ) := rfl
@[simp] theorem ev_lstBK : lstBK (.ok ga ρ) = tupBT .lst (takeArgs ga ρ) := by
  show (match takeArgs ga ρ with | none => .bad | some (sl, ρ2) => if lineOk sl.length then .ok (.box .lst sl) ρ2 else .bad : Out Slot) = _
  unfold tupBT
  cases takeArgs ga ρ <;> rfl
@[simp] theorem ev_tupBT : tupBT t (some r) = if lineOk r.1.length then .ok (.box t r.1) r.2 else .bad := rfl
@[simp] theorem ev_unB : mUnB js g ρ = unBK js (g ρ) := by
  unfold mUnB unBK unBO
  rfl
@[simp] theorem ev_unBK : unBK js (.ok s ρ) = unBO js ρ s := rfl
@[simp] theorem ev_unBO : unBO js ρ (.box .tup ss) = if ss.length = js.length then .ok .next (setL js ss ρ) else .bad := rfl
@[simp] theorem ev_setL1 : setL (j :: js) (s :: ss) ρ = setL js ss (ρ.set j s) := rfl
@[simp] theorem ev_setL0 : setL [] ss ρ = ρ := rfl
/-! ### Log -/
variable {S S' : D} {T N : List D} {A B : List (Key × D)} {q : Key}
@[simp] theorem lg_new : newBK "Log" fi_Log 1 (.ok [S] ρ) = .ok (lgS S [] [] [] []) ρ := rfl
@[simp] theorem lg_is : (lgS S T N A B).isSome = true := rfl
@[simp] theorem lg_cell : (lgS S T N A B).isCell = true := rfl
@[simp] theorem lgF_is : (lgF S T N A B).isSome = true := rfl
@[simp] theorem lgF_cell : (lgF S T N A B).isCell = false := rfl
@[simp] theorem lg_frz : frzO i g ρ (lgS S T N A B) = frzE i (lgS S T N A B) (g (ρ.set i (lgF S T N A B))) := rfl
@[simp] theorem lgF_frz : frzO i g ρ (lgF S T N A B) = g ρ := rfl
@[simp] theorem lg_frzS : frzSO i gf ρ (lgS S T N A B) = frzSE i (lgS S T N A B) (gf (ρ.set i (lgF S T N A B))) := rfl
@[simp] theorem lgF_frzS : frzSO i gf ρ (lgF S T N A B) = gf ρ := rfl
@[simp] theorem lgF_start : fldRO "start" ρ (lgF S T N A B) = .ok (.val S) ρ := rfl
@[simp] theorem lgF_told : fldRO "told" ρ (lgF S T N A B) = .ok (.val (.list T)) ρ := rfl
@[simp] theorem lgF_standing : fldRO "standing" ρ (lgF S T N A B) = .ok (.val (.list N)) ρ := rfl
@[simp] theorem lgF_makers : fldRO "makers" ρ (lgF S T N A B) = .ok (.val (.dict (qD A))) ρ := rfl
@[simp] theorem lgF_marks : fldRO "marks" ρ (lgF S T N A B) = .ok (.val (.dict (qD B))) ρ := rfl
@[simp] theorem lg_app_told : appBO i "told" g ρ (lgS S T N A B) = appBK i "told" "Log" lgN [.val S, .lst T, .lst N, .dic A, .dic B] T (frzO i g ρ (En.at ρ i)) := by
  rw [← ev_frz]; rfl
@[simp] theorem lg_app_standing : appBO i "standing" g ρ (lgS S T N A B) = appBK i "standing" "Log" lgN [.val S, .lst T, .lst N, .dic A, .dic B] N (frzO i g ρ (En.at ρ i)) := by
  rw [← ev_frz]; rfl
@[simp] theorem lg_box_told : Slot.box (.ins "Log" lgN) (setC lgN [.val S, .lst T, .lst N, .dic A, .dic B] "told" (.lst us)) = lgS S us N A B := rfl
@[simp] theorem lg_box_standing : Slot.box (.ins "Log" lgN) (setC lgN [.val S, .lst T, .lst N, .dic A, .dic B] "standing" (.lst us)) = lgS S T us A B := rfl
@[simp] theorem lg_set_makers : setBO i "makers" ρ d (some k) (lgS S T N A B) = match keyOf k with
    | some q => if A.length < 16777216 then .ok .next (ρ.set i (lgS S T N (putQ A q d) B)) else .bad
    | none => .bad := rfl
@[simp] theorem lg_set_marks : setBO i "marks" ρ d (some k) (lgS S T N A B) = match keyOf k with
    | some q => if B.length < 16777216 then .ok .next (ρ.set i (lgS S T N A (putQ B q d))) else .bad
    | none => .bad := rfl
@[simp] theorem lg_put_standing : putBO i "standing" ρ (.lst us) (lgS S T N A B) = .ok .next (ρ.set i (lgS S T us A B)) := rfl
theorem lg_m {h : M Slot} (hm : m ∉ lgN) : methBO "Log" m i h as ρ (lgS S T N A B) = mCall h (.nm i :: as) ρ := if_pos ⟨rfl, hm⟩
theorem lgF_m {h : M Slot} (hm : m ∉ lgN) : methBO "Log" m i h as ρ (lgF S T N A B) = mCall h (.nm i :: as) ρ := if_pos ⟨rfl, hm⟩
@[simp] theorem lg_m_lines : methBO "Log" "lines" i h as ρ (lgS S T N A B) = mCall h (.nm i :: as) ρ := lg_m (by decide +kernel)
@[simp] theorem lgF_m_lines : methBO "Log" "lines" i h as ρ (lgF S T N A B) = mCall h (.nm i :: as) ρ := lgF_m (by decide +kernel)
@[simp] theorem lg_m_stand : methBO "Log" "stand" i h as ρ (lgS S T N A B) = mCall h (.nm i :: as) ρ := lg_m (by decide +kernel)
@[simp] theorem lgF_m_stand : methBO "Log" "stand" i h as ρ (lgF S T N A B) = mCall h (.nm i :: as) ρ := lgF_m (by decide +kernel)
@[simp] theorem lg_m_world : methBO "Log" "world" i h as ρ (lgS S T N A B) = mCall h (.nm i :: as) ρ := lg_m (by decide +kernel)
@[simp] theorem lgF_m_world : methBO "Log" "world" i h as ρ (lgF S T N A B) = mCall h (.nm i :: as) ρ := lgF_m (by decide +kernel)
@[simp] theorem lg_m_book : methBO "Log" "book" i h as ρ (lgS S T N A B) = mCall h (.nm i :: as) ρ := lg_m (by decide +kernel)
@[simp] theorem lgF_m_book : methBO "Log" "book" i h as ρ (lgF S T N A B) = mCall h (.nm i :: as) ρ := lgF_m (by decide +kernel)
@[simp] theorem lg_m_deed : methBO "Log" "deed" i h as ρ (lgS S T N A B) = mCall h (.nm i :: as) ρ := lg_m (by decide +kernel)
@[simp] theorem lgF_m_deed : methBO "Log" "deed" i h as ρ (lgF S T N A B) = mCall h (.nm i :: as) ρ := lgF_m (by decide +kernel)
@[simp] theorem lg_m_tell : methBO "Log" "tell" i h as ρ (lgS S T N A B) = mCall h (.nm i :: as) ρ := lg_m (by decide +kernel)
@[simp] theorem lgF_m_tell : methBO "Log" "tell" i h as ρ (lgF S T N A B) = mCall h (.nm i :: as) ρ := lgF_m (by decide +kernel)
@[simp] theorem lg_m_needed : methBO "Log" "needed" i h as ρ (lgS S T N A B) = mCall h (.nm i :: as) ρ := lg_m (by decide +kernel)
@[simp] theorem lgF_m_needed : methBO "Log" "needed" i h as ρ (lgF S T N A B) = mCall h (.nm i :: as) ρ := lgF_m (by decide +kernel)
@[simp] theorem lg_m_is_line : methBO "Log" "is_line" i h as ρ (lgS S T N A B) = mCall h (.nm i :: as) ρ := lg_m (by decide +kernel)
@[simp] theorem lgF_m_is_line : methBO "Log" "is_line" i h as ρ (lgF S T N A B) = mCall h (.nm i :: as) ρ := lgF_m (by decide +kernel)
@[simp] theorem lg_m_let_go : methBO "Log" "let_go" i h as ρ (lgS S T N A B) = mCall h (.nm i :: as) ρ := lg_m (by decide +kernel)
@[simp] theorem lgF_m_let_go : methBO "Log" "let_go" i h as ρ (lgF S T N A B) = mCall h (.nm i :: as) ρ := lgF_m (by decide +kernel)
@[simp] theorem lg_m_strike : methBO "Log" "strike" i h as ρ (lgS S T N A B) = mCall h (.nm i :: as) ρ := lg_m (by decide +kernel)
@[simp] theorem lgF_m_strike : methBO "Log" "strike" i h as ρ (lgF S T N A B) = mCall h (.nm i :: as) ρ := lgF_m (by decide +kernel)
@[simp] theorem lg_m_ended_ahead : methBO "Log" "ended_ahead" i h as ρ (lgS S T N A B) = mCall h (.nm i :: as) ρ := lg_m (by decide +kernel)
@[simp] theorem lgF_m_ended_ahead : methBO "Log" "ended_ahead" i h as ρ (lgF S T N A B) = mCall h (.nm i :: as) ρ := lgF_m (by decide +kernel)
@[simp] theorem lg_m_check_back : methBO "Log" "check_back" i h as ρ (lgS S T N A B) = mCall h (.nm i :: as) ρ := lg_m (by decide +kernel)
@[simp] theorem lgF_m_check_back : methBO "Log" "check_back" i h as ρ (lgF S T N A B) = mCall h (.nm i :: as) ρ := lgF_m (by decide +kernel)
@[simp] theorem lg_m_put_back : methBO "Log" "put_back" i h as ρ (lgS S T N A B) = mCall h (.nm i :: as) ρ := lg_m (by decide +kernel)
@[simp] theorem lgF_m_put_back : methBO "Log" "put_back" i h as ρ (lgF S T N A B) = mCall h (.nm i :: as) ρ := lgF_m (by decide +kernel)
@[simp] theorem lg_m_undo : methBO "Log" "undo" i h as ρ (lgS S T N A B) = mCall h (.nm i :: as) ρ := lg_m (by decide +kernel)
@[simp] theorem lgF_m_undo : methBO "Log" "undo" i h as ρ (lgF S T N A B) = mCall h (.nm i :: as) ρ := lgF_m (by decide +kernel)
@[simp] theorem lg_m_mark : methBO "Log" "mark" i h as ρ (lgS S T N A B) = mCall h (.nm i :: as) ρ := lg_m (by decide +kernel)
@[simp] theorem lgF_m_mark : methBO "Log" "mark" i h as ρ (lgF S T N A B) = mCall h (.nm i :: as) ρ := lgF_m (by decide +kernel)
@[simp] theorem lg_m_come_back : methBO "Log" "come_back" i h as ρ (lgS S T N A B) = mCall h (.nm i :: as) ρ := lg_m (by decide +kernel)
@[simp] theorem lgF_m_come_back : methBO "Log" "come_back" i h as ρ (lgF S T N A B) = mCall h (.nm i :: as) ρ := lgF_m (by decide +kernel)
end
end SD

set_option Elab.async false
set_option linter.all false
set_option autoImplicit false
set_option maxRecDepth 100000
set_option maxHeartbeats 4000000
/-! SD: a name that holds an object, or None: is it None? -/
namespace SD
open PySem PySem.Spec PyProof.Rows L2
def nonB : Slot → Option Bool
  | .box _ _ => some false
  | .val d => some (isNone d)
  | _ => none
def mIsNB (b : Bool) (i : Nat) : M Slot := fun ρ => match nonB (En.at ρ i) with
  | some c => .ok (.val (.bool (c == b))) ρ
  | none => .bad
section
variable {X : Cx} {W : WX} {I : ExI} {i : Nat} {e : Expr} {pos : Pos} {j : Nat} {pn : Pos}
def isNBO (b : Bool) (ρ : En) (o : Option Bool) : Out Slot := match o with
  | some c => .ok (.val (.bool (c == b))) ρ
  | none => .bad
variable {ρ : En} {b c : Bool} {t : BT} {ss : List Slot} {d : D}
@[simp] theorem ev_isNB : mIsNB b i ρ = isNBO b ρ (nonB (En.at ρ i)) := rfl
@[simp] theorem ev_isNBO : isNBO b ρ (some c) = .ok (.val (.bool (c == b))) ρ := rfl
@[simp] theorem ev_nonBx : nonB (.box t ss) = some false := rfl
@[simp] theorem ev_nonBl {S : D} {T N : List D} {A B : List (Key × D)} : nonB (lgS S T N A B) = some false := rfl
@[simp] theorem ev_nonBv : nonB (.val d) = some (isNone d) := rfl
end
end SD

set_option Elab.async false
set_option linter.all false
set_option autoImplicit false
set_option maxRecDepth 100000
set_option maxHeartbeats 4000000
/-! SD: for x in xs, xs a name of an own list that is not stored: the list stays its own. -/
namespace SD
open PySem PySem.Spec PyProof.Rows L2
def forNE (i : Nat) (ds : List D) (o : Out Fl) : Out Fl := o.bind fun f ρ2 => .ok f (ρ2.set i (.lst ds))
def mForN (i : Nat) (g : Tg) (b : M Fl) : M Fl := fun ρ => match En.at ρ i with
  | .lst ds => forNE i ds (forL g b ds (ρ.set i .emp))
  | _ => mFor (mIter (mVar i)) g b ρ
section
variable {K : Fr0} {F H : Hp} {ρ : En} {σ : St} {i : Nat} {ds : List D} {a : Addr} {vs : List V} {pr : Nat → Prop}
end
section
variable {X : Cx} {W : WX} {I : ExI} {pr : Nat → Prop} {tg e : Expr} {pos : Pos}
variable {i : Nat} {g : Tg} {b : M Fl} {ds : List D} {ρ : En}
def forNO (i : Nat) (g : Tg) (b : M Fl) (ρ : En) : Slot → Out Fl
  | .lst ds => forNE i ds (forL g b ds (ρ.set i .emp))
  | _ => mFor (mIter (mVar i)) g b ρ
@[simp] theorem ev_forN : mForN i g b ρ = forNO i g b ρ (En.at ρ i) := rfl
@[simp] theorem ev_forNO : forNO i g b ρ (.lst ds) = forNE i ds (forL g b ds (ρ.set i .emp)) := rfl
@[simp] theorem ev_forNOv {d : D} : forNO i g b ρ (.val d) = mFor (mIter (mVar i)) g b ρ := rfl
@[simp] theorem ev_forNE {f : Fl} : forNE i ds (.ok f ρ) = .ok f (ρ.set i (.lst ds)) := rfl
end
end SD

set_option Elab.async false
set_option linter.all false
set_option autoImplicit false
set_option maxRecDepth 100000
set_option maxHeartbeats 4000000
/-! SD: {} not in a list of texts; [{}] == [{}]. -/
namespace SD
open PySem PySem.Spec PyProof.Rows L2 PySem.SeqAt
open AutoSeq1 (wpAny_loadPart')
open MeetsSeq
section
variable {A : Around} {s : Shared}
end
def isTxD : D → Bool
  | .str _ => true
  | _ => false
/-- not in; {} too, where there are texts alone -/
def pNotInE : List D → Option Slot
  | [.dict [], .list ds] => if ds.all isTxD then some (.val (.bool true)) else none
  | l => pNotIn l
/-- ==; [{}] == [{}] too -/
def pEqE : List D → Option Slot
  | [.list [.dict []], .list [.dict []]] => some (.val (.bool true))
  | l => pEq l
section
variable {X : Cx} {k : Nat}
end
end SD

set_option Elab.async false
set_option linter.all false
set_option autoImplicit false
set_option maxRecDepth 100000
set_option maxHeartbeats 4000000
/-! SD: a, b, c = e1, e2, e3 with plain local names. -/
namespace SD
open PySem PySem.Spec PyProof.Rows L2
section
variable {X : Cx} {W : WX} {I : ExI} {N : List Str} {sc : Scope} {cf : Str → Bool} {k : Nat} {pr : Nat → Prop}
end
end SD

set_option Elab.async false
set_option linter.all false
set_option autoImplicit false
set_option maxRecDepth 100000
set_option maxHeartbeats 4000000
/-! SD: a statement over a frozen object, where some names keep what isn't flat. -/
namespace SD
open PySem PySem.Spec PyProof.Rows L2
def sameV : Slot → Slot → Prop
  | .val d, .val e => d = e
  | _, _ => False
def keepU : List Nat → En → En → Prop
  | [], _, _ => True
  | j :: js, ρ, ρ' => sameV (En.at ρ j) (En.at ρ' j) ∧ keepU js ρ ρ'
open Classical in
noncomputable def frzUE (i : Nat) (js : List Nat) (b : Slot) (ρ : En) : Out Fl → Out Fl
  | .ok .next ρ' => if (wipeE (ρ'.set i .emp) js).all lfx = true ∧ keepU js ρ ρ' then .ok .next (ρ'.set i b) else .bad
  | _ => .bad
noncomputable def frzUO (i : Nat) (js : List Nat) (g : M Fl) (ρ : En) : Slot → Out Fl
  | .fro _ _ _ => g ρ
  | .box (.ins cn fl) ss => (match dsOf ss with
    | some ds => frzUE i js (.box (.ins cn fl) ss) ρ (g (ρ.set i (.fro cn fl ds)))
    | none => .bad)
  | _ => .bad
noncomputable def mFrzU (i : Nat) (js : List Nat) (g : M Fl) : M Fl := fun ρ => frzUO i js g ρ (En.at ρ i)
@[simp] theorem ev_frzU {i : Nat} {js : List Nat} {g : M Fl} {ρ : En} : mFrzU i js g ρ = frzUO i js g ρ (En.at ρ i) := rfl
section
variable {i : Nat} {js : List Nat} {g : M Fl} {ρ ρ' : En} {cn : String} {fl : List Str} {ss : List Slot} {ds : List D} {b : Slot} {S : D} {T N : List D} {A B : List (Key × D)}
@[simp] theorem frzUO_fro : frzUO i js g ρ (.fro cn fl ds) = g ρ := rfl
@[simp] theorem frzUO_box : frzUO i js g ρ (.box (.ins cn fl) ss) = (match dsOf ss with
    | some ds => frzUE i js (.box (.ins cn fl) ss) ρ (g (ρ.set i (.fro cn fl ds)))
    | none => .bad) := rfl
open Classical in
@[simp] theorem frzUE_next : frzUE i js b ρ (.ok .next ρ') = if (wipeE (ρ'.set i .emp) js).all lfx = true ∧ keepU js ρ ρ' then .ok .next (ρ'.set i b) else .bad := rfl
@[simp] theorem lg_frzU : frzUO i js g ρ (lgS S T N A B) = frzUE i js (lgS S T N A B) ρ (g (ρ.set i (lgF S T N A B))) := rfl
@[simp] theorem lgF_frzU : frzUO i js g ρ (lgF S T N A B) = g ρ := rfl
@[simp] theorem wipeE_nil' : wipeE ρ [] = ρ := rfl
@[simp] theorem wipeE_cons' {j : Nat} : wipeE ρ (j :: js) = (wipeE ρ js).set j .emp := rfl
@[simp] theorem keepU_nil : keepU [] ρ ρ' = True := rfl
@[simp] theorem keepU_cons {j : Nat} : keepU (j :: js) ρ ρ' = (sameV (En.at ρ j) (En.at ρ' j) ∧ keepU js ρ ρ') := rfl
@[simp] theorem sameV_val {d e : D} : sameV (.val d) (.val e) = (d = e) := rfl
end
end SD

set_option Elab.async false
set_option linter.all false
set_option autoImplicit false
set_option maxRecDepth 100000
set_option maxHeartbeats 4000000
/-! SD: {} != a text. -/
namespace SD
open PySem PySem.Spec PyProof.Rows L2 PySem.SeqAt
open AutoSeq1 (wpAny_loadPart')
open MeetsSeq
section
variable {A : Around} {s : Shared}
end
/-- !=; a dict and a text too -/
def pNeS : List D → Option Slot
  | [.dict _, .str _] => some (.val (.bool true))
  | l => pNe l
section
variable {X : Cx} {k : Nat}
end
@[simp] theorem p_neS1 {kvs : List (D × D)} {z : Str} : pNeS [.dict kvs, .str z] = some (.val (.bool true)) := rfl
end SD

set_option Elab.async false
set_option linter.all false
set_option autoImplicit false
set_option maxRecDepth 100000
set_option maxHeartbeats 4000000
/-! SD: what lies in an own list of own things, lent to a call. -/
namespace SD
open PySem PySem.Spec PyProof.Rows L2
section
variable {K : Fr0} {F H : Hp} {σ : St} {a b ρ η : En} {q p : Addr} {i k : Nat} {ss : List Slot} {ws : List V} {s o : Slot} {v : V}
theorem owns_emp {u : Option V} : ¬ Owns H .emp u q := fun h => by cases u <;> exact (show False from h)
def LeE (a ρ : En) : Prop := a.length = ρ.length ∧ ∀ (i : Nat) (s : Slot), a[i]? = some s → s = .emp ∨ ρ[i]? = some s
theorem LeE.own (h : LeE a ρ) (o : OwnE H a σ q) : OwnE H ρ σ q := by
  obtain ⟨i, s, v, h1, h2, o⟩ := o
  rcases h.2 i s h1 with rfl | e
  · exact absurd o owns_emp
  · exact ⟨i, s, v, e, h2, o⟩
theorem LeE.rp (h : LeE a ρ) (R : Rp K F H ρ σ) : Rp K F H a σ := by
  refine ⟨h.1.trans R.len, R.sub, fun i s v h1 h2 => ?_, fun i j s t v u q h1 h2 h3 h4 o1 o2 => ?_⟩
  · rcases h.2 i s h1 with rfl | e
    · trivial
    · exact R.ok i s v e h2
  · rcases h.2 i s h1 with rfl | e
    · exact absurd o1 owns_emp
    · rcases h.2 j t h3 with rfl | e2
      · exact absurd o2 owns_emp
      · exact R.dj i j s t v u q e h2 e2 h4 o1 o2
/-- two environments of the same frame, put together -/
def mergeE (a b : En) : En := a.zipWith (fun s t => if t.isSome then t else s) b
/-! ### one element of a box -/
end
/-! ### arguments -/
/-- an argument, or an element of a box -/
inductive AEB where
  | a (x : AE)
  | el (i : Nat) (x : AE)
abbrev Bk := Option (Nat × Nat)
def evB (len : Nat → Nat) : List AEB → M (List Arg × List Bk)
  | [] => fun ρ => .ok ([], []) ρ
  | .a x :: as => fun ρ => (evA x ρ).bind fun g ρ1 => (evB len as ρ1).bind fun r ρ2 => .ok (g :: r.1, none :: r.2) ρ2
  | .el i x :: as => fun ρ => (evA x ρ).bind fun g ρ1 => match (g.slot ρ1).data with
      | some (.int k) => if 0 ≤ k ∧ k < len i then (evB len as ρ1).bind fun r ρ2 => .ok (.sl .emp :: r.1, some (i, k.toNat) :: r.2) ρ2 else .bad
      | _ => .bad
def LinkL (σ : St) (H : Hp) : List Bk → List V → Prop
  | [], [] => True
  | b :: bs, v :: vs => (∀ i k, b = some (i, k) → ∃ p ws, σ[i]? = some (some (.ref p)) ∧ H p = some (.lst ws) ∧ ws[k]? = some v) ∧ LinkL σ H bs vs
  | _, _ => False
/-- the boxes lie where they lay -/
def BxH (len : Nat → Nat) (σ : St) (H : Hp) (ρ : En) (is : List Nat) : Prop := ∀ i ∈ is, ∃ p ws, σ[i]? = some (some (.ref p)) ∧ H p = some (.lst ws) ∧ ws.length = len i ∧ ¬ OwnE H ρ σ p
def basesB : List AEB → List Nat
  | [] => []
  | .a _ :: as => basesB as
  | .el i _ :: as => i :: basesB as
structure CBs (X : Cx) (W : WX) (I : ExI) (as : List AEB) (es : List Expr) : Prop where
  run : ∃ t, PA X es t ∧ ∀ (len : Nat → Nat) (F H : Hp) (ρ : En) (σ : St) (Q : List V → Hp → Prop), Rp X.K F H ρ σ → BxH len σ H ρ (basesB as) →
    (evB len as ρ).sat (fun r ρ' => ∀ F' H' vs, PostL X.K F H ρ σ F' H' ρ' r.1 vs → LinkL σ H r.2 vs → Q vs H') (fun _ _ => False) → t σ H Q
section
variable {X : Cx} {W : WX} {I : ExI}
end
end SD

set_option Elab.async false
set_option linter.all false
set_option autoImplicit false
set_option maxRecDepth 100000
set_option maxHeartbeats 4000000
/-! SD: calls that are lent elements of boxes. -/
namespace SD
open PySem PySem.Spec PyProof.Rows L2
/-- the boxes that are held -/
def holdE (ρ : En) (is : List Nat) : En := is.foldr (fun i e => e.set i (En.at ρ i)) (ρ.map fun _ => .emp)
def putIn (η : En) (i k : Nat) (o : Slot) : Slot → En
  | .box .lst ss => η.set i (.box .lst (ss.set k o))
  | _ => η
def takeEl : List Bk → En → En → Option (En × En)
  | [], η, [] => some (η, [])
  | none :: bs, η, s :: sl => (takeEl bs η sl).map fun r => (r.1, s :: r.2)
  | some (i, k) :: bs, η, _ :: sl => match En.at η i with
    | .box .lst ss => (match ss[k]? with
      | some s => if s.isCell then (takeEl bs (η.set i (.box .lst (ss.set k .emp))) sl).map fun r => (r.1, s :: r.2) else none
      | none => none)
    | _ => none
  | _, _, _ => none
def putEl : List Bk → En → En → En
  | some (i, k) :: bs, o :: os, η => putEl bs os (putIn η i k o (En.at η i))
  | none :: bs, _ :: os, η => putEl bs os η
  | _, _, η => η
def lenB (ρ : En) (i : Nat) : Nat := match En.at ρ i with
  | .box .lst ss => ss.length
  | _ => 0
def isBxL : Slot → Bool
  | .box .lst _ => true
  | _ => false
/-- a def called, some arguments being elements of boxes -/
def callE (f : M Slot) (len : Nat → Nat) (η : En) (as : List AEB) (ρ : En) : Out Slot := match evB len as ρ with
  | .ok r ρ1 => (match takeArgs r.1 ρ1 with
    | some (sl, ρ2) => (match takeEl r.2 η sl with
      | some (η1, sl2) => (match f sl2 with
        | .ok s outs => .ok s (mergeE (giveBack r.1 sl2 outs ρ2) (putEl r.2 outs η1))
        | _ => .bad)
      | none => .bad)
    | none => .bad)
  | _ => .bad
def mCallE (f : M Slot) (is : List Nat) (as : List AEB) : M Slot := fun ρ => if (is.all fun i => isBxL (En.at ρ i)) ∧ (∀ i ∈ basesB as, i ∈ is) then callE f (lenB ρ) (holdE ρ is) as (wipeE ρ is) else .bad
section
variable {K : Fr0} {F H : Hp} {σ : St} {ρ η : En}
/-- the outs of elements alone; those of the others -/
def outE : List Bk → En → En
  | some _ :: bs, o :: os => o :: outE bs os
  | none :: bs, _ :: os => .emp :: outE bs os
  | [], os => os.map fun _ => .emp
  | _, [] => []
def outN : List Bk → En → En
  | some _ :: bs, _ :: os => .emp :: outN bs os
  | none :: bs, o :: os => o :: outN bs os
  | [], os => os
  | _, [] => []
/-- names' arguments have no place in a box -/
def Gb : List Arg → List Bk → Prop
  | [], [] => True
  | .sl _ :: gs, _ :: bs => Gb gs bs
  | _ :: gs, none :: bs => Gb gs bs
  | _, _ => False
end
section
variable {X : Cx} {W : WX} {I : ExI}
end
end SD

set_option Elab.async false
set_option linter.all false
set_option autoImplicit false
set_option maxRecDepth 100000
set_option maxHeartbeats 4000000
/-! SD: elements of boxes lent: rules and equations. -/
namespace SD
open PySem PySem.Spec PyProof.Rows L2
def elAt (k : Nat) : Slot → Option Slot
  | .box .lst ss => ss[k]?
  | _ => none
def isIns (cn : String) (m : Str) : Option Slot → Bool
  | some (.box (.ins c fl) _) => decide (c = cn) && !decide (m ∈ fl)
  | _ => false
/-- xs[e].m(..) -/
def methE1 (cn : String) (m : Str) (f : M Slot) (is : List Nat) (i : Nat) (x : AE) (as : List AEB) (ρ : En) : Out Arg → Out Slot
  | .ok g ρ1 => (match (g.slot ρ1).data with
    | some (.int k) => if isIns cn m (elAt k.toNat (En.at ρ i)) then mCallE f is (.el i x :: as) ρ else .bad
    | _ => .bad)
  | _ => .bad
def mMethE (cn : String) (m : Str) (f : M Slot) (is : List Nat) (i : Nat) (x : AE) (as : List AEB) : M Slot := fun ρ => methE1 cn m f is i x as ρ (evA x (wipeE ρ is))
section
variable {X : Cx} {W : WX} {I : ExI}
end
/-! ### equations -/
def bK (g : Arg) (b : Bk) : Out (List Arg × List Bk) → Out (List Arg × List Bk)
  | .ok r ρ => .ok (g :: r.1, b :: r.2) ρ
  | .exc x ρ => .exc x ρ
  | .bad => .bad
def aK (len : Nat → Nat) (as : List AEB) : Out Arg → Out (List Arg × List Bk)
  | .ok g ρ1 => bK g none (evB len as ρ1)
  | .exc x ρ => .exc x ρ
  | .bad => .bad
def eK2 (len : Nat → Nat) (i : Nat) (as : List AEB) (ρ1 : En) : Option D → Out (List Arg × List Bk)
  | some (.int k) => if 0 ≤ k ∧ k < len i then bK (.sl .emp) (some (i, k.toNat)) (evB len as ρ1) else .bad
  | _ => .bad
def eK (len : Nat → Nat) (i : Nat) (as : List AEB) : Out Arg → Out (List Arg × List Bk)
  | .ok g ρ1 => eK2 len i as ρ1 (g.slot ρ1).data
  | .exc x ρ => .exc x ρ
  | .bad => .bad
def cK3 (r1 : List Arg) (r2 : List Bk) (outs0 ρ2 η1 : En) : Out Slot → Out Slot
  | .ok s outs => .ok s (mergeE (giveBack r1 outs0 outs ρ2) (putEl r2 outs η1))
  | _ => .bad
def cK2 (f : M Slot) (r1 : List Arg) (r2 : List Bk) (ρ2 : En) : Option (En × En) → Out Slot
  | some p => cK3 r1 r2 p.2 ρ2 p.1 (f p.2)
  | none => .bad
def cK1 (f : M Slot) (r1 : List Arg) (r2 : List Bk) (η : En) : Option (En × En) → Out Slot
  | some p => cK2 f r1 r2 p.2 (takeEl r2 η p.1)
  | none => .bad
def cK (f : M Slot) (η : En) : Out (List Arg × List Bk) → Out Slot
  | .ok r ρ1 => cK1 f r.1 r.2 η (takeArgs r.1 ρ1)
  | _ => .bad
section
variable {len : Nat → Nat} {f : M Slot} {is : List Nat} {as : List AEB} {ρ ρ1 η : En} {x : AE} {i : Nat} {g : Arg} {r : List Arg × List Bk} {k : Int} {b : Bk} {s : Slot} {p : En × En} {outs outs0 : En} {ss : List Slot}
theorem callE_cK : callE f len η as ρ = cK f η (evB len as ρ) := by
  unfold callE
  cases evB len as ρ with
  | ok r ρ1 =>
    show (match takeArgs r.1 ρ1 with
      | some (sl, ρ2) => (match takeEl r.2 η sl with
        | some (η1, sl2) => (match f sl2 with
          | .ok s outs => .ok s (mergeE (giveBack r.1 sl2 outs ρ2) (putEl r.2 outs η1))
          | _ => .bad)
        | none => .bad)
      | none => .bad) = cK1 f r.1 r.2 η (takeArgs r.1 ρ1)
    cases takeArgs r.1 ρ1 with
    | none => rfl
    | some p =>
      obtain ⟨sl, ρ2⟩ := p
      show (match takeEl r.2 η sl with
        | some (η1, sl2) => (match f sl2 with
          | .ok s outs => .ok s (mergeE (giveBack r.1 sl2 outs ρ2) (putEl r.2 outs η1))
          | _ => .bad)
        | none => .bad) = cK2 f r.1 r.2 ρ2 (takeEl r.2 η sl)
      cases takeEl r.2 η sl with
      | none => rfl
      | some p =>
        obtain ⟨η1, sl2⟩ := p
        show (match f sl2 with
          | .ok s outs => .ok s (mergeE (giveBack r.1 sl2 outs ρ2) (putEl r.2 outs η1))
          | _ => .bad) = cK3 r.1 r.2 sl2 ρ2 η1 (f sl2)
        cases f sl2 <;> rfl
  | _ => rfl
@[simp] theorem ev_callE : mCallE f is as ρ = if (is.all fun i => isBxL (En.at ρ i)) ∧ (∀ i ∈ basesB as, i ∈ is) then cK f (holdE ρ is) (evB (lenB ρ) as (wipeE ρ is)) else .bad := by
  unfold mCallE
  rw [callE_cK]
@[simp] theorem ev_b0 : evB len [] ρ = .ok ([], []) ρ := rfl
@[simp] theorem ev_ba : evB len (.a x :: as) ρ = aK len as (evA x ρ) := by
  show ((evA x ρ).bind fun g ρ1 => (evB len as ρ1).bind fun r ρ2 => (Out.ok (g :: r.1, none :: r.2) ρ2 : Out (List Arg × List Bk))) = _
  cases evA x ρ with
  | ok g ρ1 =>
    show ((evB len as ρ1).bind fun r ρ2 => (Out.ok (g :: r.1, none :: r.2) ρ2 : Out (List Arg × List Bk))) = bK g none (evB len as ρ1)
    cases evB len as ρ1 <;> rfl
  | _ => rfl
@[simp] theorem ev_be : evB len (.el i x :: as) ρ = eK len i as (evA x ρ) := by
  show ((evA x ρ).bind fun g ρ1 => (match (g.slot ρ1).data with
      | some (.int k) => if 0 ≤ k ∧ k < len i then (evB len as ρ1).bind fun r ρ2 => .ok (.sl .emp :: r.1, some (i, k.toNat) :: r.2) ρ2 else .bad
      | _ => .bad : Out (List Arg × List Bk))) = _
  cases evA x ρ with
  | ok g ρ1 =>
    show _ = eK2 len i as ρ1 (g.slot ρ1).data
    show (match (g.slot ρ1).data with
      | some (.int k) => if 0 ≤ k ∧ k < len i then (evB len as ρ1).bind fun r ρ2 => .ok (.sl .emp :: r.1, some (i, k.toNat) :: r.2) ρ2 else .bad
      | _ => .bad : Out (List Arg × List Bk)) = _
    cases (g.slot ρ1).data with
    | none => rfl
    | some d =>
      cases d with
      | int k =>
        show (if 0 ≤ k ∧ k < len i then (evB len as ρ1).bind fun r ρ2 => (Out.ok (Arg.sl .emp :: r.1, some (i, k.toNat) :: r.2) ρ2 : Out (List Arg × List Bk)) else .bad) = if 0 ≤ k ∧ k < len i then bK (.sl .emp) (some (i, k.toNat)) (evB len as ρ1) else .bad
        congr 1
        cases evB len as ρ1 <;> rfl
      | _ => rfl
  | _ => rfl
@[simp] theorem ev_aK : aK len as (.ok g ρ) = bK g none (evB len as ρ) := rfl
@[simp] theorem ev_eK : eK len i as (.ok g ρ) = eK2 len i as ρ (g.slot ρ).data := rfl
@[simp] theorem ev_eK2 : eK2 len i as ρ (some (.int k)) = if 0 ≤ k ∧ k < len i then bK (.sl .emp) (some (i, k.toNat)) (evB len as ρ) else .bad := rfl
@[simp] theorem ev_bK : bK g b (.ok r ρ) = .ok (g :: r.1, b :: r.2) ρ := rfl
@[simp] theorem ev_cK : cK f η (.ok r ρ) = cK1 f r.1 r.2 η (takeArgs r.1 ρ) := rfl
@[simp] theorem ev_cK1 {r1 : List Arg} {r2 : List Bk} : cK1 f r1 r2 η (some p) = cK2 f r1 r2 p.2 (takeEl r2 η p.1) := rfl
@[simp] theorem ev_cK2 {r1 : List Arg} {r2 : List Bk} : cK2 f r1 r2 ρ (some p) = cK3 r1 r2 p.2 ρ p.1 (f p.2) := rfl
@[simp] theorem ev_cK3 {r1 : List Arg} {r2 : List Bk} : cK3 r1 r2 outs0 ρ η (.ok s outs) = .ok s (mergeE (giveBack r1 outs0 outs ρ) (putEl r2 outs η)) := rfl
@[simp] theorem ev_hold0 : holdE ρ [] = ρ.map fun _ => .emp := rfl
@[simp] theorem ev_hold1 : holdE ρ (i :: is) = (holdE ρ is).set i (En.at ρ i) := rfl
@[simp] theorem ev_lenB : lenB ρ i = (match En.at ρ i with
  | .box .lst ss => ss.length
  | _ => 0) := rfl
@[simp] theorem ev_isBxL : isBxL (.box .lst ss) = true := rfl
@[simp] theorem ev_bases0 : basesB [] = [] := rfl
@[simp] theorem ev_bases1 : basesB (.a x :: as) = basesB as := rfl
@[simp] theorem ev_bases2 : basesB (.el i x :: as) = i :: basesB as := rfl
@[simp] theorem ev_te0 : takeEl [] η [] = some (η, []) := rfl
@[simp] theorem ev_te1 {bs : List Bk} {sl : En} : takeEl (none :: bs) η (s :: sl) = (takeEl bs η sl).map fun w : En × En => (w.1, s :: w.2) := rfl
def teO (bs : List Bk) (η : En) (i k : Nat) (sl : En) (ss : List Slot) : Option Slot → Option (En × En)
  | some s => if s.isCell then (takeEl bs (η.set i (.box .lst (ss.set k .emp))) sl).map fun w : En × En => (w.1, s :: w.2) else none
  | none => none
def teB (bs : List Bk) (η : En) (i k : Nat) (sl : En) : Slot → Option (En × En)
  | .box .lst ss => teO bs η i k sl ss ss[k]?
  | _ => none
@[simp] theorem ev_te2 {bs : List Bk} {sl : En} {k : Nat} : takeEl (some (i, k) :: bs) η (s :: sl) = teB bs η i k sl (En.at η i) := by
  show (match En.at η i with
    | .box .lst ss => (match ss[k]? with
      | some s => if s.isCell then (takeEl bs (η.set i (.box .lst (ss.set k .emp))) sl).map fun w : En × En => (w.1, s :: w.2) else none
      | none => none)
    | _ => none) = _
  cases En.at η i with
  | box t ss =>
    cases t with
    | lst =>
      show (match ss[k]? with
        | some s => if s.isCell then (takeEl bs (η.set i (.box .lst (ss.set k .emp))) sl).map fun w : En × En => (w.1, s :: w.2) else none
        | none => none) = teO bs η i k sl ss ss[k]?
      generalize ss[k]? = z
      cases z <;> rfl
    | _ => rfl
  | _ => rfl
@[simp] theorem ev_teB {bs : List Bk} {sl : En} {k : Nat} : teB bs η i k sl (.box .lst ss) = teO bs η i k sl ss ss[k]? := rfl
@[simp] theorem ev_teO {bs : List Bk} {sl : En} {k : Nat} : teO bs η i k sl ss (some s) = if s.isCell then (takeEl bs (η.set i (.box .lst (ss.set k .emp))) sl).map fun w : En × En => (w.1, s :: w.2) else none := rfl
@[simp] theorem ev_pe0 : putEl [] outs η = η := by unfold putEl; rfl
@[simp] theorem ev_pe1 {bs : List Bk} : putEl (none :: bs) (s :: outs) η = putEl bs outs η := rfl
@[simp] theorem ev_pe2 {bs : List Bk} {k : Nat} : putEl (some (i, k) :: bs) (s :: outs) η = putEl bs outs (putIn η i k s (En.at η i)) := rfl
@[simp] theorem ev_putIn {k : Nat} : putIn η i k s (.box .lst ss) = η.set i (.box .lst (ss.set k s)) := rfl
@[simp] theorem ev_mg0 : mergeE [] [] = [] := rfl
@[simp] theorem ev_mg1 {s t : Slot} {a b : En} : mergeE (s :: a) (t :: b) = (if t.isSome then t else s) :: mergeE a b := rfl
@[simp] theorem ev_methE {cn : String} {m : Str} : mMethE cn m f is i x as ρ = methE1 cn m f is i x as ρ (evA x (wipeE ρ is)) := rfl
def methE2 (cn : String) (m : Str) (f : M Slot) (is : List Nat) (i : Nat) (x : AE) (as : List AEB) (ρ : En) : Option D → Out Slot
  | some (.int k) => if isIns cn m (elAt k.toNat (En.at ρ i)) then mCallE f is (.el i x :: as) ρ else .bad
  | _ => .bad
@[simp] theorem ev_methE1 {cn : String} {m : Str} : methE1 cn m f is i x as ρ (.ok g ρ1) = methE2 cn m f is i x as ρ (g.slot ρ1).data := by
  unfold methE1 methE2
  rfl
@[simp] theorem ev_methE2 {cn : String} {m : Str} : methE2 cn m f is i x as ρ (some (.int k)) = if isIns cn m (elAt k.toNat (En.at ρ i)) then mCallE f is (.el i x :: as) ρ else .bad := rfl
@[simp] theorem ev_elAt {k : Nat} : elAt k (.box .lst ss) = ss[k]? := rfl
end
end SD

set_option Elab.async false
set_option linter.all false
set_option autoImplicit false
set_option maxRecDepth 100000
set_option maxHeartbeats 4000000
/-! SD: what lies in a box, as data, asked of a builtin; methods of new objects. -/
namespace SD
open PySem PySem.Spec PyProof.Rows L2
def elS (p : List D → Option Slot) (ρ : En) : Option Slot → Out Slot
  | some s => (match s.data with
    | some d => (match p [d] with
      | some r => .ok r ρ
      | none => .bad)
    | none => .bad)
  | none => .bad
def elK (p : List D → Option Slot) (i : Nat) (ρ : En) : Option D → Out Slot
  | some (.int k) => if 0 ≤ k then elS p ρ (elAt k.toNat (En.at ρ i)) else .bad
  | _ => .bad
def elO (p : List D → Option Slot) (i : Nat) : Out Arg → Out Slot
  | .ok g ρ => elK p i ρ (g.slot ρ).data
  | _ => .bad
def mElP (p : List D → Option Slot) (i : Nat) (x : AE) : M Slot := fun ρ => if isBxL (En.at ρ i) then elO p i (evA x ρ) else .bad
section
variable {X : Cx} {W : WX} {I : ExI}
/-! ### a method of what an expression makes -/
def chkO (cn : String) (m : Str) : Out Slot → Out Slot
  | .ok s ρ => if isIns cn m (some s) then .ok s ρ else .bad
  | .exc x ρ => .exc x ρ
  | .bad => .bad
def mMethN (cn : String) (m : Str) (f g : M Slot) : M Slot := mCall f [.ex fun ρ => chkO cn m (g ρ)]
end
section
variable {p : List D → Option Slot} {i k : Nat} {ρ : En} {x : AE} {g : Arg} {s : Slot} {f m0 : M Slot} {cn : String} {m : Str}
@[simp] theorem some_box {t : BT} {ss : List Slot} : (Slot.box t ss).isSome = true := rfl
@[simp] theorem some_emp : Slot.emp.isSome = false := rfl
@[simp] theorem cell_box {t : BT} {ss : List Slot} : (Slot.box t ss).isCell = true := rfl
@[simp] theorem cell_lgS {S : D} {T N : List D} {A B : List (Key × D)} : (lgS S T N A B).isCell = true := rfl
@[simp] theorem some_lgS {S : D} {T N : List D} {A B : List (Key × D)} : (lgS S T N A B).isSome = true := rfl
theorem isIns_lgS {S : D} {T N : List D} {A B : List (Key × D)} {m : Str} (h : decide (m ∈ lgN) = false) : isIns "Log" m (some (lgS S T N A B)) = true := by
  show (decide ("Log" = "Log") && !decide (m ∈ lgN)) = _
  rw [h]
  simp
@[simp] theorem isIns_lines {S : D} {T N : List D} {A B : List (Key × D)} : isIns "Log" "lines" (some (lgS S T N A B)) = true := isIns_lgS (by decide +kernel)
@[simp] theorem isIns_stand {S : D} {T N : List D} {A B : List (Key × D)} : isIns "Log" "stand" (some (lgS S T N A B)) = true := isIns_lgS (by decide +kernel)
@[simp] theorem isIns_world {S : D} {T N : List D} {A B : List (Key × D)} : isIns "Log" "world" (some (lgS S T N A B)) = true := isIns_lgS (by decide +kernel)
@[simp] theorem isIns_book {S : D} {T N : List D} {A B : List (Key × D)} : isIns "Log" "book" (some (lgS S T N A B)) = true := isIns_lgS (by decide +kernel)
@[simp] theorem isIns_tell {S : D} {T N : List D} {A B : List (Key × D)} : isIns "Log" "tell" (some (lgS S T N A B)) = true := isIns_lgS (by decide +kernel)
@[simp] theorem isIns_strike {S : D} {T N : List D} {A B : List (Key × D)} : isIns "Log" "strike" (some (lgS S T N A B)) = true := isIns_lgS (by decide +kernel)
@[simp] theorem isIns_put_back {S : D} {T N : List D} {A B : List (Key × D)} : isIns "Log" "put_back" (some (lgS S T N A B)) = true := isIns_lgS (by decide +kernel)
@[simp] theorem isIns_undo {S : D} {T N : List D} {A B : List (Key × D)} : isIns "Log" "undo" (some (lgS S T N A B)) = true := isIns_lgS (by decide +kernel)
@[simp] theorem isIns_mark {S : D} {T N : List D} {A B : List (Key × D)} : isIns "Log" "mark" (some (lgS S T N A B)) = true := isIns_lgS (by decide +kernel)
@[simp] theorem isIns_come_back {S : D} {T N : List D} {A B : List (Key × D)} : isIns "Log" "come_back" (some (lgS S T N A B)) = true := isIns_lgS (by decide +kernel)
@[simp] theorem ev_elP : mElP p i x ρ = if isBxL (En.at ρ i) then elO p i (evA x ρ) else .bad := rfl
@[simp] theorem ev_elO : elO p i (.ok g ρ) = elK p i ρ (g.slot ρ).data := rfl
@[simp] theorem ev_elK {k : Int} : elK p i ρ (some (.int k)) = if 0 ≤ k then elS p ρ (elAt k.toNat (En.at ρ i)) else .bad := rfl
@[simp] theorem ev_elS : elS p ρ (some s) = (match s.data with
    | some d => (match p [d] with
      | some r => .ok r ρ
      | none => .bad)
    | none => .bad) := rfl
@[simp] theorem ev_methN : mMethN cn m f m0 ρ = mCall f [.ex fun ρ => chkO cn m (m0 ρ)] ρ := rfl
@[simp] theorem ev_chkO : chkO cn m (.ok s ρ) = if isIns cn m (some s) then .ok s ρ else .bad := rfl
end
end SD

set_option Elab.async false
set_option linter.all false
set_option autoImplicit false
set_option maxRecDepth 100000
set_option maxHeartbeats 4000000
/-! SD: None or an exception picked out of a list; pairs of a datum and such a thing, by name. -/
namespace SD
open PySem PySem.Spec PyProof.Rows L2
/-- None or the exception at a name -/
def exAt (ρ : En) (j : Nat) : Option (Option Exc) := match En.at ρ j with
  | .val .none => some none
  | .exn x => some (some x)
  | _ => none
def pickO (x : Option Exc) (ρ : En) : Option D → Out Slot
  | some (.int k) => if k = 0 then .ok (.val .none) ρ else if k = 1 then .ok (exSlot x) ρ else .bad
  | _ => .bad
def pickK (x : Option Exc) : Out Slot → Out Slot
  | .ok s ρ => pickO x ρ s.data
  | _ => .bad
/-- [None, x][e] -/
def mPick (j : Nat) (f : M Slot) : M Slot := fun ρ => match exAt ρ j with
  | some x => pickK x (f ρ)
  | none => .bad
def prS (d : D) : Out Slot → Out Slot
  | .ok (.val .none) ρ => .ok (.pr d none) ρ
  | .ok (.exn x) ρ => .ok (.pr d (some x)) ρ
  | _ => .bad
/-- (a, e): a a datum at a name, e None or an exception -/
def mPrE (i : Nat) (g : M Slot) : M Slot := fun ρ => match (En.at ρ i).data with
  | some d => prS d (g (ρ.set i (.val d)))
  | none => .bad
/-- a pair, or a datum, by name -/
def mVarP (i : Nat) : M Slot := fun ρ => match En.at ρ i with
  | .pr d x => .ok (.pr d x) ρ
  | _ => .bad
def nonP : Slot → Option Bool
  | .pr _ _ => some false
  | s => nonX s
def mIsNP (i : Nat) : M Slot := fun ρ => match nonP (En.at ρ i) with
  | some c => .ok (.val (.bool c)) ρ
  | none => .bad
def fldS (f : Str) : Out Slot → Out Slot
  | .ok (.exn ⟨c, some d⟩) ρ => if exFld c = some f then .ok (.val d) ρ else .bad
  | _ => .bad
/-- e.f, e an exception -/
def mFldE (f : Str) (g : M Slot) : M Slot := fun ρ => fldS f (g ρ)
section
variable {X : Cx} {W : WX} {I : ExI} {i j : Nat} {ea eb e ei : Expr} {f g : M Slot} {pos : Pos}
end
section
variable {i j : Nat} {f g : M Slot} {ρ : En} {x : Exc} {d : D} {y : Option Exc} {s : Slot} {c : String} {n : Str}
@[simp] theorem ev_pick : mPick j f ρ = (match exAt ρ j with
  | some x => pickK x (f ρ)
  | none => .bad) := rfl
@[simp] theorem exAt_eq : exAt ρ j = (match En.at ρ j with
  | .val .none => some none
  | .exn x => some (some x)
  | _ => none) := rfl
@[simp] theorem ev_pickK : pickK y (.ok s ρ) = pickO y ρ s.data := rfl
@[simp] theorem ev_pickO0 : pickO y ρ (some (.int 0)) = .ok (.val .none) ρ := rfl
@[simp] theorem ev_pickO1 : pickO (some x) ρ (some (.int 1)) = .ok (.exn x) ρ := rfl
@[simp] theorem ev_prE : mPrE i g ρ = (match (En.at ρ i).data with
  | some d => prS d (g (ρ.set i (.val d)))
  | none => .bad) := rfl
@[simp] theorem ev_prS0 : prS d (.ok (.val .none) ρ) = .ok (.pr d none) ρ := rfl
@[simp] theorem ev_prS1 : prS d (.ok (.exn x) ρ) = .ok (.pr d (some x)) ρ := rfl
@[simp] theorem ev_varP : mVarP i ρ = (match En.at ρ i with
  | .pr d x => .ok (.pr d x) ρ
  | _ => .bad) := rfl
@[simp] theorem ev_isNP : mIsNP i ρ = (match nonP (En.at ρ i) with
  | some c => .ok (.val (.bool c)) ρ
  | none => .bad) := rfl
@[simp] theorem nonP_pr : nonP (.pr d y) = some false := rfl
@[simp] theorem nonP_non : nonP (.val .none) = some true := rfl
@[simp] theorem ev_fldE : mFldE n g ρ = fldS n (g ρ) := rfl
@[simp] theorem ev_fldEX : fldS n (.ok (.exn ⟨c, some d⟩) ρ) = if exFld c = some n then .ok (.val d) ρ else .bad := rfl
end
end SD

set_option Elab.async false
set_option linter.all false
set_option autoImplicit false
set_option maxRecDepth 100000
set_option maxHeartbeats 4000000
/-! SD: a statement that changes fewer names than its frame may. -/
namespace SD
open PySem PySem.Spec PyProof.Rows L2
end SD

set_option Elab.async false
set_option linter.all false
set_option autoImplicit false
set_option maxRecDepth 100000
set_option maxHeartbeats 4000000
/-! SD: [f for x in xs], xs an own list of own things that is a name: each thing is x's for its turn. -/
namespace SD
open PySem PySem.Spec PyProof.Rows L2
def compB (i j : Nat) (vs : List Nat) (f : M Slot) : Nat → Nat → List D → M (List D)
  | 0, k, acc => fun ρ => match En.at ρ i with
    | .box .lst ss => if ss.length = k then .ok acc ρ else .bad
    | _ => .bad
  | n + 1, k, acc => fun ρ => match En.at ρ i with
    | .box .lst ss => if k < ss.length then (f ((ρ.set i .emp).set j (ss.getD k .emp))).bind fun t ρ3 => (match t.data with
        | some x => if acc.length < 16777216 then compB i j vs f n (k + 1) (acc ++ [x]) ((wipeE ρ3 vs).set i (.box .lst (ss.set k (En.at ρ3 j)))) else .bad
        | none => .bad)
      else .bad
    | _ => .bad
def mCompB (i j : Nat) (vs : List Nat) (f : M Slot) : M Slot := fun ρ => if i ∉ vs ∧ j ∈ vs ∧ j < ρ.length then (match En.at ρ i with
    | .box .lst ss => ((compB i j vs f ss.length 0 [] (wipeE ρ vs)).noexc).bind fun acc ρ2 => .ok (.lst acc) (restE ρ ρ2 vs)
    | _ => .bad)
  else .bad
section
variable {X : Cx} {W : WX} {I : ExI} {N : List Str} {sc : Scope} {cf : Str → Bool} {k : Nat}
variable {tg iter elt : Expr} {f : M Slot} {scope : Scope} {own : List (Str × Nat)} {pos : Pos} {i j : Nat}
end
end SD

set_option Elab.async false
set_option linter.all false
set_option autoImplicit false
set_option maxRecDepth 100000
set_option maxHeartbeats 4000000
/-! SD: < of tuples that are alike up to the place that decides. -/
namespace PySem.SeqAt
open AutoSeq1 (wpAny_loadPart')
open MeetsSeq MeetsSeq2 MeetsSeq3 SeqRoads2
theorem tupLtW (p q : Addr) (xa ya : Array Value) (n1 n2 : Nat) (d1 d2 : Option Addr) (z1 z2 : Array (Option Value)) (f g : Nat → Bool) :
    Meets (Builtin.«tuple.__lt__» ⟨[.ref p, .ref q], []⟩) (fun A R s =>
      s.heap.get? p = some { cls := .type "tuple", dict := d1, data := .seq xa n1, slots := z1 } ∧
      s.heap.get? q = some { cls := .type "tuple", dict := d2, data := .seq ya n2, slots := z2 } ∧
      (∀ j (a1 : j < xa.size) (a2 : j < ya.size), EqAt A.in1 s xa[j] ya[j] (f j)) ∧
      (∀ j (a1 : j < xa.size) (a2 : j < ya.size), (∀ m, m < j → f m = true) → f j = false → RcLt A.in1 s xa[j] ya[j] (g j)) ∧
      R (.ok (.ret (.bool (firstLt f g (decide (xa.size < ya.size)) (List.range (min xa.size ya.size)))))) s) :=
  .of_wp fun prog w A R s h => by
    obtain ⟨hp, gg, dd, tk, os⟩ := s
    obtain ⟨hx, hy, he, hr, h⟩ := h
    have sub := AutoSeq1.sub_tuple_tuple
    have zl : (xa.toList.zip ya.toList).length = min xa.size ya.size := by simp
    wp_walk using wpAny_loadPart' hx, wpAny_loadPart' hy, wpAny_forIn_list _ (fun rest b s' => b.1 = none ∧ s' = ⟨hp, gg, dd, tk, os⟩ ∧ ∃ i, rest = (xa.toList.zip ya.toList).drop i ∧ (∀ m, m < i → f m = true) ∧
      R (.ok (.ret (.bool (firstLt f g (decide (xa.size < ya.size)) ((List.range (min xa.size ya.size)).drop i))))) ⟨hp, gg, dd, tk, os⟩) _
    case turn =>
      rintro ⟨u, v⟩ rest b s' ⟨hb', rfl, i, hz, hall, hR⟩
      have il : i < (xa.toList.zip ya.toList).length := by
        refine Nat.lt_of_not_le fun h' => ?_
        rw [List.drop_of_length_le h'] at hz
        cases hz
      have im : i < min xa.size ya.size := zl ▸ il
      have a1 : i < xa.size := Nat.lt_of_lt_of_le im (Nat.min_le_left _ _)
      have a2 : i < ya.size := Nat.lt_of_lt_of_le im (Nat.min_le_right _ _)
      rw [List.drop_eq_getElem_cons il] at hz
      injection hz with huv hrest
      obtain rfl : u = xa[i] := by have := congrArg Prod.fst huv; simpa using this
      obtain rfl : v = ya[i] := by have := congrArg Prod.snd huv; simpa using this
      have dr : (List.range (min xa.size ya.size)).drop i = i :: (List.range (min xa.size ya.size)).drop (i + 1) := by simp [List.drop_eq_getElem_cons, im]
      rw [dr] at hR
      refine wpAny_bind (he i a1 a2 prog w _ _ ?_)
      cases hfi : f i with
      | true =>
        rw [firstLt_yes hfi] at hR
        wp_walk
        exact ⟨rfl, rfl, i + 1, hrest, fun m hm => (by
          by_cases e : m = i
          · rw [e]; exact hfi
          · exact hall m (by omega)), hR⟩
      | false =>
        rw [firstLt_no hfi] at hR
        have hq := hr i a1 a2 hall hfi
        unfold RcLt at hq
        generalize richCompare .Lt xa[i] ya[i] = rc at hq ⊢
        wp_walk
        refine hq prog w _ _ ?_
        wp_walk
        exact ⟨_, rfl, hR⟩
    case fin =>
      rintro ⟨b1, b2⟩ s' ⟨hb', rfl, i, hz, hall, hR⟩
      simp only at hb'
      subst hb'
      have ge : min xa.size ya.size ≤ i := by
        refine Nat.le_of_not_lt fun h' => ?_
        rw [← zl] at h'
        rw [List.drop_eq_getElem_cons h'] at hz
        cases hz
      rw [List.drop_of_length_le (by simpa using ge)] at hR
      wp_walk
      exact ⟨_, rfl, by simpa [Builtin.Tuple.tupleCompareSizes, firstLt] using hR⟩
    case h =>
      exact ⟨rfl, rfl, 0, rfl, fun m hm => absurd hm (Nat.not_lt_zero _), by simpa using h⟩
theorem RcLt.tuplesW {A : Around} {s : Shared} {p q : Addr} {xa ya : Array Value} {f g : Nat → Bool} (hx : s.heap.IsTuple p xa) (hy : s.heap.IsTuple q ya) (hu : A.units < cLine)
    (he : ∀ j (a1 : j < xa.size) (a2 : j < ya.size), EqAt A.in1 s xa[j] ya[j] (f j)) (hr : ∀ j (a1 : j < xa.size) (a2 : j < ya.size), (∀ m, m < j → f m = true) → f j = false → RcLt A.in1 s xa[j] ya[j] (g j)) :
    RcLt A s (.ref p) (.ref q) (firstLt f g (decide (xa.size < ya.size)) (List.range (min xa.size ya.size))) := fun prog w E Q h => by
  obtain ⟨⟨c1, d1, t1, z1⟩, o1, k1, n1, e1⟩ := id hx
  obtain ⟨⟨c2, d2, t2, z2⟩, o2, k2, n2, e2⟩ := id hy
  simp only at k1 e1 k2 e2
  subst k1 e1 k2 e2
  refine richCompare_meets_room (op := .Lt) ⟨_, o1, rfl⟩ ⟨_, o2, rfl⟩ F.slot_tuple_lt F.entry_tuple_lt (F.args_tuple_lt_2 _ _) (tupLtW p q xa ya n1 n2 d1 d2 z1 z2 f g) ⟨o1, o2, he, hr, ?_⟩ hu
  exact ⟨(fun x => nomatch x), h⟩
end PySem.SeqAt

set_option Elab.async false
set_option linter.all false
set_option autoImplicit false
set_option maxRecDepth 100000
set_option maxHeartbeats 4000000
/-! SD: min of a list of tuples that are alike up to the place that decides; x.remove(d) of an own list of plain data. -/
namespace SD
open PySem PySem.Spec PyProof.Rows L2
def notNone : D → Bool
  | .none => false
  | _ => true
/-- < between two rows: the parts are alike up to the first that differ -/
def ltb1 : List D → List D → Bool
  | x :: xs, y :: ys => if PyData.eqv x y then W.alike x y && ltb1 xs ys else W.alike x y && notNone x
  | _, _ => true
def ltbT : D → D → Bool
  | .tuple xs, .tuple ys => ltb1 xs ys
  | _, _ => false
theorem ltb1_toks : ∀ (xs ys : List D), ltb1 xs ys = true →
    SeqAt.firstLt (SeqAt.pairEq xs ys) (fun j => W.dataLt (xs.getD j .none) (ys.getD j .none)) (decide (xs.length < ys.length)) (List.range (min xs.length ys.length)) = PyProof.Rows.lexLt itemOrd (W.keyToksAll xs) (W.keyToksAll ys)
  | [], ys, _ => W.firstLt_toks [] ys (by simp [W.alikeAll])
  | x :: xs, [], _ => W.firstLt_toks (x :: xs) [] (by simp [W.alikeAll])
  | x :: xs, y :: ys, h => by
    unfold ltb1 at h
    have hm : min (x :: xs).length (y :: ys).length = min xs.length ys.length + 1 := by simp only [List.length_cons]; omega
    have hd : decide ((x :: xs).length < (y :: ys).length) = decide (xs.length < ys.length) := decide_eq_decide.mpr (by simp only [List.length_cons]; omega)
    rw [hm, hd, List.range_succ_eq_map]
    cases e : PyData.eqv x y with
    | true =>
      rw [e, if_pos rfl, Bool.and_eq_true] at h
      rw [SeqAt.firstLt_yes (show SeqAt.pairEq (x :: xs) (y :: ys) 0 = true from e), W.firstLt_map, W.dataLt_all_yes h.1 e, ← ltb1_toks xs ys h.2]
      rfl
    | false =>
      rw [e, if_neg Bool.false_ne_true, Bool.and_eq_true] at h
      rw [SeqAt.firstLt_no (show SeqAt.pairEq (x :: xs) (y :: ys) 0 = false from e), W.dataLt_all_no h.1 e]
      rfl
theorem ltb1_at : ∀ {xs ys : List D} {j : Nat}, ltb1 xs ys = true → j < xs.length → j < ys.length → (∀ m, m < j → SeqAt.pairEq xs ys m = true) → SeqAt.pairEq xs ys j = false → W.alike (xs.getD j .none) (ys.getD j .none) = true ∧ xs.getD j .none ≠ .none
  | [], _, _, _, h1, _, _, _ => absurd h1 (Nat.not_lt_zero _)
  | _ :: _, [], _, _, _, h2, _, _ => absurd h2 (Nat.not_lt_zero _)
  | x :: xs, y :: ys, 0, h, _, _, _, e => by
    have e : PyData.eqv x y = false := e
    unfold ltb1 at h
    rw [e, if_neg Bool.false_ne_true, Bool.and_eq_true] at h
    refine ⟨h.1, ?_⟩
    show x ≠ .none
    intro z
    rw [z] at h
    exact Bool.false_ne_true h.2
  | x :: xs, y :: ys, j + 1, h, h1, h2, a, e => by
    have e0 : PyData.eqv x y = true := a 0 (Nat.succ_pos j)
    unfold ltb1 at h
    rw [e0, if_pos rfl, Bool.and_eq_true] at h
    exact ltb1_at (j := j) h.2 (Nat.lt_of_succ_lt_succ h1) (Nat.lt_of_succ_lt_succ h2) (fun m hm => a (m + 1) (Nat.succ_lt_succ hm)) e
theorem rcLt_ltb {da db : D} {A : Around} {s : Shared} {a b : Value} {as bs : List Addr} (ra : Reads s.heap a da as) (rb : Reads s.heap b db bs) (pa : da.plain = true) (pb : db.plain = true) (h : ltbT da db = true) (hu : A.units + min da.depth db.depth < cLine) : SeqAt.RcLt A s a b (W.dataLt da db) := by
  unfold ltbT at h
  split at h
  · rename_i xs ys
    cases ra with
    | @tuple l o vs n _ as1 h1 h2 h3 h4 =>
      cases rb with
      | @tuple l' o' vs' n' _ bs1 k1 k2 k3 k4 =>
        have n1 : vs.size = xs.length := by simpa using SeqAt.ReadsAll.length _ _ _ h4
        have n2 : vs'.size = ys.length := by simpa using SeqAt.ReadsAll.length _ _ _ k4
        rw [W.dataLt_tuple, ← ltb1_toks xs ys h, ← n1, ← n2]
        refine SeqAt.RcLt.tuplesW ⟨_, h1, h2, _, h3⟩ ⟨_, k1, k2, _, k3⟩ (SeqAt.room_here hu) (fun j j1 j2 => ?_) fun j j1 j2 hall hj => ?_
        · have := SeqAt.eqAt_plainAll xs ys A.in1 s vs.toList vs'.toList _ _ h4 k4 (by simpa [PyData.plain] using pa) (by simpa [PyData.plain] using pb) (SeqAt.room_in hu) j (by simpa using j1) (by simpa using j2)
          simpa using this
        · obtain ⟨e1, e2⟩ := ltb1_at h (by omega) (by omega) hall hj
          obtain ⟨c1, r1, -, -, d1⟩ := W.readsAll_at h4 j vs[j] (by simp [j1])
          obtain ⟨c2, r2, -, -, d2⟩ := W.readsAll_at k4 j vs'[j] (by simp [j2])
          have hu' := SeqAt.room_in hu
          have hk : A.in1.units = A.units + 1 := rfl
          exact W.rcLt_alike _ _ _ _ _ _ _ _ r1 r2 e1 e2 (by omega)
  · cases h
/-! ### min -/
def minOk (ds : List D) : Bool := (ds.all fun d => ds.all fun e => ltbT d e) && (PyData.plainAll ds && decide (PyData.depthAll ds ≤ 60))
/-- min of a list of numbers, or of tuples that can be compared -/
def pMinD : List D → Option Slot
  | [.list (.tuple x :: xs)] => if minOk (.tuple x :: xs) then some (.val (W.minD (.tuple x) xs)) else none
  | l => pMinL l
theorem plain_mem {d : D} : ∀ {ds : List D}, PyData.plainAll ds = true → d ∈ ds → PyData.plain d = true
  | e :: ds, h, m => by
    rw [PyData.plainAll, Bool.and_eq_true] at h
    rcases List.mem_cons.mp m with rfl | m
    · exact h.1
    · exact plain_mem h.2 m
section
variable {X : Cx}
end
end SD

set_option Elab.async false
set_option linter.all false
set_option autoImplicit false
set_option maxRecDepth 100000
set_option maxHeartbeats 4000000
/-! SD: x.remove(d), x an own list of plain data in which d stands. -/
namespace SD
open PySem PySem.Spec PyProof.Rows L2
open PySem.SeqAt (dataPlace)
/-- o.remove(e), by data -/
def tRemD (K : PySem.W.Frag) (to te : TE) : TE := fun σ H Q => to σ H fun x H1 => tyV K "list" x H1 ∧ te σ H1 fun y H2 => ∃ (l : Addr) (vs : List V) (F : Hp) (ds : List D) (d : D) (j : Nat),
  x = .ref l ∧ H2 l = some (.lst vs) ∧ Same F H2 ∧ Reps K F ds vs ∧ Rep K F d y ∧ PyData.plainAll ds = true ∧ PyData.plain d = true ∧ PyData.depthAll ds ≤ 60 ∧ dataPlace ds d = some j ∧ Q .non (upd H2 l (.lst (vs.eraseIdx j)))
section
variable {X : Cx} {o e : Expr} {to te : TE} {apos cpos : Pos} {k : Nat}
end
def remDO (i : Nat) (ρ : En) (o : Option D) (s : Slot) : Out Slot := match o with
  | some d => (match s with
    | .lst ds => if PyData.plainAll ds = true ∧ PyData.plain d = true ∧ PyData.depthAll ds ≤ 60 then (match dataPlace ds d with
      | some j => .ok (.val .none) (ρ.set i (.lst (ds.eraseIdx j)))
      | none => .bad) else .bad
    | _ => .bad)
  | none => .bad
def mRemD (i : Nat) (f : M Slot) : M Slot := fun ρ => match En.at ρ i with
  | .lst _ => (f ρ).bind fun s ρ1 => remDO i ρ1 s.data (En.at ρ1 i)
  | _ => .bad
section
variable {X : Cx} {W : WX} {I : ExI} {i k : Nat} {e ex : Expr} {f : M Slot} {pos apos : Pos}
end
/-! ### equations -/
def remDK (i : Nat) (o : Out Slot) : Out Slot := o.bind fun s ρ1 => remDO i ρ1 s.data (En.at ρ1 i)
section
variable {f : M Slot} {ρ : En} {s : Slot} {d : D} {i : Nat} {ds : List D}
@[simp] theorem ev_remD : mRemD i f ρ = match En.at ρ i with | .lst _ => remDK i (f ρ) | _ => .bad := by
  unfold mRemD remDK
  cases En.at ρ i <;> rfl
@[simp] theorem ev_remDK : remDK i (.ok s ρ) = remDO i ρ s.data (En.at ρ i) := rfl
end
end SD

set_option Elab.async false
set_option linter.all false
set_option autoImplicit false
set_option maxRecDepth 100000
set_option maxHeartbeats 4000000
/-! SD: sorted of a list of rows whose first parts are rows themselves, alike up to the place that decides. -/
namespace SD
open PySem PySem.Spec PyProof.Rows L2
theorem ltb1_pre : ∀ {xs ys : List D}, ltb1 xs ys = true → PyData.eqvAll xs ys = false → ∀ l m, PyProof.Rows.lexLt itemOrd (W.keyToksAll xs ++ l) (W.keyToksAll ys ++ m) = PyProof.Rows.lexLt itemOrd (W.keyToksAll xs) (W.keyToksAll ys)
  | [], ys, _, e => fun l m => (W.toksAll_eqv [] ys (by simp [W.alikeAll])).2 e l m
  | x :: xs, [], _, e => fun l m => (W.toksAll_eqv (x :: xs) [] (by simp [W.alikeAll])).2 e l m
  | x :: xs, y :: ys, h, e => fun l m => by
    unfold ltb1 at h
    rw [W.eqv_all_cons] at e
    rw [W.toks_all_cons, W.toks_all_cons]
    simp only [List.cons_append, List.append_assoc]
    refine (lex_self (O := itemOrd) _ _ _).trans (Eq.trans ?_ (lex_self (O := itemOrd) _ _ _).symm)
    cases hx : PyData.eqv x y with
    | true =>
      rw [hx, if_pos rfl, Bool.and_eq_true] at h
      rw [hx, Bool.true_and] at e
      rw [(W.toks_eqv x y h.1).1 hx]
      exact (W.lex_pre _ _ _).trans ((ltb1_pre h.2 e l m).trans (W.lex_pre _ _ _).symm)
    | false =>
      rw [hx, if_neg Bool.false_ne_true, Bool.and_eq_true] at h
      have t := (W.toks_eqv x y h.1).2 hx
      exact (t _ _).trans (t _ _).symm
/-- < between two rows: the parts are alike up to the first that differ, and these are rows that can be compared -/
def ltb2 : List D → List D → Bool
  | x :: xs, y :: ys => if PyData.eqv x y then W.alike x y && ltb2 xs ys else ltbT x y
  | _, _ => true
theorem tup_of_ltb {x y : D} (h : ltbT x y = true) : ∃ xs ys, x = .tuple xs ∧ y = .tuple ys ∧ ltb1 xs ys = true := by
  unfold ltbT at h
  split at h
  · exact ⟨_, _, rfl, rfl, h⟩
  · cases h
theorem lt2_no {x y : D} {xs ys : List D} (h : ltbT x y = true) (e : PyData.eqv x y = false) : PyProof.Rows.lexLt itemOrd (W.keyToksAll (x :: xs)) (W.keyToksAll (y :: ys)) = W.dataLt x y := by
  obtain ⟨a, b, rfl, rfl, hl⟩ := tup_of_ltb h
  have e : PyData.eqvAll a b = false := by rw [← e, PyData.eqv]
  rw [W.toks_all_cons, W.toks_all_cons]
  refine (lex_self (O := itemOrd) _ _ _).trans ?_
  unfold W.dataLt
  simp only [W.keyToks]
  exact ltb1_pre hl e _ _
section
variable {prog : Program} {w : World} {A : Around} {s : Shared}
theorem kat2 {fin : Bool} {Q : Bool → Shared → Prop} : ∀ (xs ys : List D) (i : Nat) (vs ws : List Value) (as bs : List Addr), ReadsAll s.heap vs xs as → ReadsAll s.heap ws ys bs → ltb2 xs ys = true → PyData.plainAll xs = true → PyData.plainAll ys = true →
    A.units + min (PyData.depthAll xs) (PyData.depthAll ys) < cLine → fin = decide (xs.length < ys.length) → Q (PyProof.Rows.lexLt itemOrd (W.keyToksAll xs) (W.keyToksAll ys)) s → W.KatLex prog w A false fin Q (vs.zip ws) i s
  | [], ys, i, vs, ws, as, bs, ra, rb, _, _, _, hu, hf, hq => W.katLex_alike [] ys i vs ws as bs ra rb (by simp [W.alikeAll]) hu (fun h => absurd h Bool.false_ne_true) hf hq
  | x :: xs, [], i, vs, ws, as, bs, ra, rb, _, _, _, hu, hf, hq => W.katLex_alike (x :: xs) [] i vs ws as bs ra rb (by simp [W.alikeAll]) hu (fun h => absurd h Bool.false_ne_true) hf hq
  | x :: xs, y :: ys, i, _, _, _, _, ra, rb, h, px, py, hu, hf, hq => by
    have px' : x.plain = true ∧ PyData.plainAll xs = true := by simpa [PyData.plainAll] using px
    have py' : y.plain = true ∧ PyData.plainAll ys = true := by simpa [PyData.plainAll] using py
    have hf' : fin = decide (xs.length < ys.length) := by
      rw [hf]
      simp only [List.length_cons, Nat.add_lt_add_iff_right]
    unfold ltb2 at h
    cases ra with
    | cons r rs =>
      cases rb with
      | cons r' rs' =>
        rw [List.zip_cons_cons]
        refine W.kat_cons (SeqAt.eqAt_plain x y A s _ _ _ _ r r' px'.1 py'.1 (SeqAt.room_head hu) prog w _ _ ?_)
        cases e : PyData.eqv x y with
        | true =>
          rw [e, if_pos rfl, Bool.and_eq_true] at h
          rw [W.dataLt_all_yes h.1 e] at hq
          exact W.kat_yes (kat2 xs ys (i + 1) _ _ _ _ rs rs' h.2 px'.2 py'.2 (SeqAt.room_tail hu) hf' hq)
        | false =>
          rw [e, if_neg Bool.false_ne_true] at h
          rw [lt2_no h e] at hq
          refine W.kat_no ?_
          rw [Bool.false_and, oneLt'_eq]
          simp only [Bool.false_eq_true, if_false]
          exact wpAny_bind (rcLt_ltb r r' px'.1 py'.1 h (SeqAt.room_head hu) prog w _ _ (wpAny_truthy_bool hq))
end
/-! ### sorting -/
def row2 : D → Bool
  | .tuple (.tuple _ :: _) => true
  | _ => false
def ltbR : D → D → Bool
  | .tuple xs, .tuple ys => ltb2 xs ys
  | _, _ => false
def sortOk2 (ds : List D) : Bool := ds.all row2 && ((ds.all fun d => ds.all fun e => ltbR d e) && (PyData.plainAll ds && (lineOk ds.length && decide (PyData.depthAll ds ≤ 60))))
theorem reads_fun {h : Heap} {v : Value} {d d' : D} {as as' : List Addr} (p : d.plain = true) (p' : d'.plain = true) (r : Reads h v d as) (r' : Reads h v d' as') : d = d' := by
  have e1 := SeqAt.readsAll_map_plain [d] [v] _ (by simp [PyData.plainAll, p]) (.cons r .nil)
  have e2 := SeqAt.readsAll_map_plain [d'] [v] _ (by simp [PyData.plainAll, p']) (.cons r' .nil)
  simp only [List.map_cons, List.map_nil, List.cons.injEq, and_true] at e1 e2
  rw [← e1, ← e2]
theorem kind_some {h : Heap} {ds : List D} (hp : PyData.plainAll ds = true) {v : Value} {d : D} {as : List Addr} (hd : d ∈ ds) (r : Reads h v d as) : (W.dataKind h ds).keyOf v = some (W.keyToks d) := by
  have q : ∃ d, d ∈ ds ∧ ∃ as, Reads h v d as := ⟨d, hd, as, r⟩
  obtain ⟨h1, as', h2⟩ := q.choose_spec
  have e : (W.dataKind h ds).keyOf v = some (W.keyToks q.choose) := dif_pos q
  rw [e, reads_fun (plain_mem hp h1) (plain_mem hp hd) h2 r]
theorem sortsAt2 {prog : Program} {w : World} {A : Around} {s : Shared} {vs : List Value} {ds : List D} (e : W.EachIs (fun v d => ∃ as, Reads s.heap v d as) vs ds) (ok : sortOk2 ds = true) (hu : A.units + 60 < cLine) : W.SortsAt prog w A s (W.dataKind s.heap ds) vs := by
  unfold sortOk2 at ok
  simp only [Bool.and_eq_true, decide_eq_true_eq] at ok
  obtain ⟨o1, o2, o3, o4, o5⟩ := ok
  have rows : ∀ d, d ∈ ds → ∃ a r, d = .tuple (.tuple a :: r) := fun d hd => by
    have := List.all_eq_true.mp o1 d hd
    unfold row2 at this
    split at this
    · exact ⟨_, _, rfl⟩
    · cases this
  refine ⟨fun v hv => ?_, tuples' false, ?_, fun h2 E Q hq => ?_⟩
  · obtain ⟨d, hd, as, r⟩ := e.left v hv
    exact ⟨_, kind_some o3 hd r⟩
  · intro E x y a b Q ha hb hq
    obtain ⟨d, as, hd, ra, rfl⟩ := W.dataKind_inv ha
    obtain ⟨d', as', hd', rb, rfl⟩ := W.dataKind_inv hb
    obtain ⟨x1, r1, e1⟩ := rows d hd
    obtain ⟨x2, r2, e2⟩ := rows d' hd'
    have lt : ltbR d d' = true := List.all_eq_true.mp (List.all_eq_true.mp o2 d hd) d' hd'
    have pd := plain_mem o3 hd
    have pd' := plain_mem o3 hd'
    have dp := depth_mem hd
    have hroom : A.units + min d.depth d'.depth < cLine := by omega
    subst e1 e2
    have hq : Q (W.dataLt (.tuple (.tuple x1 :: r1)) (.tuple (.tuple x2 :: r2))) s := hq
    rw [W.dataLt_tuple] at hq
    cases ra with
    | @tuple l o xs n _ _ h1 h2 h3 h4 =>
      cases rb with
      | @tuple l' o' xs' n' _ _ k1 k2 k3 k4 =>
        have n1 : xs.size = (PyData.tuple x1 :: r1).length := by simpa using SeqAt.ReadsAll.length _ _ _ h4
        have n2 : xs'.size = (PyData.tuple x2 :: r2).length := by simpa using SeqAt.ReadsAll.length _ _ _ k4
        have hi := SeqAt.room_in hroom
        have hk : A.in1.units = A.units + 1 := rfl
        exact W.kat_lt h1 h3 k1 k3 (kat2 (A := A) _ _ 0 _ _ _ _ h4 k4 lt (by simpa [PyData.plain] using pd) (by simpa [PyData.plain] using pd') (by omega) (by rw [n1, n2]) hq)
  · obtain ⟨fs, t1, t2, t3⟩ := W.each_katTups e fun d hd => let ⟨a, r, z⟩ := rows d hd; ⟨_, _, z⟩
    have hT : (Value.type "tuple" != Value.type "tuple") = false := by decide
    rw [← hT] at hq
    refine W.kat_kind (T := Value.type "tuple") t1 (by omega) (fun f hf => ?_) (beq_self_eq_true _) hq
    obtain ⟨x, r, as, m1, m2⟩ := t3 f hf
    obtain ⟨a, r', z⟩ := rows _ m1
    injection z with z
    injection z with z _
    subst z
    exact W.looks_reads m2
/-- sorted; of rows of rows too -/
def pSortedX : List D → Option Slot
  | [.list (d :: ds)] => if sortOk2 (d :: ds) then some (.lst (sortD (d :: ds))) else none
  | l => pSorted l
section
variable {X : Cx}
theorem call_sortedXP (hc : X.calm = true) (hr : Room 0 X.A) : CallR X (.builtin "sorted") (rP X.K pSortedX) := by
  intro pins s σ H xs us Q J r ⟨F, ds, sl, sub, rr, e, q⟩
  unfold pSortedX at e
  split at e
  · rename_i d0 es0
    split at e
    · rename_i ok
      cases e
      generalize hes : d0 :: es0 = es at *
      obtain ⟨v, rfl, h⟩ := vals_one rr
      obtain ⟨a, vs, rfl, s1, r1⟩ := top_list h
      obtain ⟨its, rv, hl, _⟩ := J.list s1
      have ok' := ok
      unfold sortOk2 at ok'
      simp only [Bool.and_eq_true, decide_eq_true_eq] at ok'
      obtain ⟨o1, o2, o3, o4, o5⟩ := ok'
      obtain ⟨z1, z2, z3⟩ := reps_zip r1
      rw [Vals.ref1 r]
      obtain ⟨as, ra⟩ := readsAll_of J sub r1 o3 rv
      have hun := hr.units
      have hin : X.A.in1.in1.units = X.A.units + 2 := rfl
      have hll : its.length ≤ sizeLine := by
        rw [← rv.length, ← r1.length]
        exact lineOk_line o4
      have er : W.EachIs (fun v (b : D × V) => ∃ as, Reads s.heap v b.1 as) its (es.zip vs) := by
        have := W.readsAll_each (β := D × V) Prod.fst (bs := es.zip vs) (by rw [z1]; exact ra)
        exact this
      have er' : W.EachIs (fun v (b : D × V) => ∃ as, Reads (W.sortingHeap (W.copyHeap s.heap its) (s.heap.objs.size + 1) its) v b.1 as) its (es.zip vs) := er.mono fun _ _ ⟨as, r⟩ => ⟨as, Reads.keeps (fun _ _ => W.sorting_copy_old) r⟩
      have ez : (es.zip vs).map Prod.fst = es := z1
      have e2 := W.each_map (R := fun v d => ∃ as, Reads (W.sortingHeap (W.copyHeap s.heap its) (s.heap.objs.size + 1) its) v d as) Prod.fst er'
      rw [ez] at e2
      refine W.sorted_vals hl.isList (sortsAt2 (s := { s with heap := W.sortingHeap (W.copyHeap s.heap its) (s.heap.objs.size + 1) its }) e2 ok (by omega)) hll ?_
      have e3 := W.sortVals_each (κ := W.dataKind (W.sortingHeap (W.copyHeap s.heap its) (s.heap.objs.size + 1) its) es) (rev := false) (fun b : D × V => W.keyToks b.1) (each_zip (h := s.heap) (K := X.K) (F := F) rv r1.length)
        ((W.each_mem er').mono fun v b ⟨⟨as, r⟩, hb⟩ => kind_some o3 (by rw [← ez]; exact List.mem_map_of_mem hb) r)
      have hlen : (W.sortVals (W.dataKind (W.sortingHeap (W.copyHeap s.heap its) (s.heap.objs.size + 1) its) es) false its its).length ≤ sizeLine := by
        rw [W.sortVals_length false rfl]; exact hll
      generalize W.sortVals (W.dataKind (W.sortingHeap (W.copyHeap s.heap its) (s.heap.objs.size + 1) its) es) false its its = out at *
      obtain ⟨ep, he'⟩ := PyProof.Rows.sortedAll_at s.heap its out.toArray
      have ve := vals_each e3
      have rs : Reps X.K F (sortD es) (((es.zip vs).mergeSort (W.dataLe false Prod.fst)).map (·.2)) := by
        rw [← sort_zip z1]
        exact reps_of_zip fun p hp => z3 p ((List.mergeSort_perm _ _).mem_iff.mp hp)
      have hlen2 : (((es.zip vs).mergeSort (W.dataLe false Prod.fst)).map (·.2)).length ≤ sizeLine := by
        rw [List.length_map, List.length_mergeSort]
        have : (es.zip vs).length = es.length := by rw [← z1, List.length_map, z1]
        rw [this]
        exact lineOk_line o4
      exact ⟨.ref _, upd H (s.heap.objs.size + 1) (.lst (((es.zip vs).mergeSort (W.dataLe false Prod.fst)).map (·.2))), J.laid (t' := s.toks) (fun _ _ => sortedAll_old) (Nat.le_succ _) ⟨hlen2, out, ep, ve, he'⟩, rfl, q _ _ _ (.lst sub rs (J.hok.fresh (Nat.le_succ _)))⟩
    · cases e
  · exact call_sortedP hc hr pins s σ H xs us Q J r ⟨F, ds, sl, sub, rr, e, q⟩
end
end SD

set_option Elab.async false
set_option linter.all false
set_option autoImplicit false
set_option maxRecDepth 100000
set_option maxHeartbeats 4000000
namespace K
open PySem PySem.Spec PyProof.Rows L2 SD
/-! only_adds -/
def b_only_adds : M Fl := mRet (mAndV (mPrim pIn [.ex (mPrim pIx [.nm 0, .ex (mC (.int 0))]), .ex (mTup [mC (.str "count"), mC (.str "split"), mC (.str "join")])]) (mPrim pEq [.ex (mPrim pIx [.nm 0, .ex (mC (.int 1))]), .nm 1]))
def m_only_adds : M Slot := mDef 2 0 [0, 1] b_only_adds
/-! only_moves -/
def b_only_moves : M Fl := mRet (mPrim pEq [.ex (mPrim pIx [.nm 0, .ex (mC (.int 0))]), .ex (mC (.str "move"))])
def m_only_moves : M Slot := mDef 1 0 [0] b_only_moves
/-! pass_by -/
@[simp] def b_pass_by_t1 : M Fl := mRet (mAndV (mCall m_only_adds [.nm 1, .nm 2]) (mCall m_only_moves [.nm 0]))
def b_pass_by : M Fl := mSeq (mIf (mTest (mCall m_only_adds [.nm 0, .nm 2])) (mRet (mOrV (mCall m_only_adds [.nm 1, .nm 2]) (mCall m_only_moves [.nm 1]))) (mNext)) (b_pass_by_t1)
def m_pass_by : M Slot := mDef 3 0 [0, 1, 2] b_pass_by
/-! touch -/
def b_touch_c1 : M Bool := mTest (mPrim pIn [.nm 3, .ex (mCall m_names_in [.nm 1])])
def b_touch_e1 : M Slot := mCall m_pass_by [.nm 0, .nm 1, .nm 3]
@[simp] def b_touch_t1 : M Fl := mRet (mNotV (mPrim pAll [.ex (mComp (mIter (mVar 2)) [3] (gNm 3) (mYes) (b_touch_e1))]))
def b_touch : M Fl := mSeq (mSet 2 (mComp (mIter (mCall m_names_in [.nm 0])) [3] (gNm 3) (b_touch_c1) (mVar 3))) (b_touch_t1)
def m_touch : M Slot := mDef 2 2 [0, 1] b_touch
/-! _law_mixed -/
def b_l_mixed_2 : M Fl := mRet (mPrim pMod [.ex (mPrim pMul [.nm 0, .ex (mC (.int 718281828459045235360287471352662497757247093699959574966967))]), .ex (mPrim pPow [.ex (mC (.int 10)), .ex (mC (.int 60))])])
def m_l_mixed_2 : M Slot := mDef 1 0 [0] b_l_mixed_2
/-! _law_pack -/
@[simp] def b_l_pack_t1 : M Fl := mRet (mLst [mCall m_l_mixed_2 [.ex (mPrim pAdd [.ex (mPrim pMul [.ex (mC (.int 7919)), .nm 1]), .ex (mC (.int 11))])]])
def b_l_pack : M Fl := mSeq (mIf (mTest (mPrim pLt [.nm 1, .ex (mPrim pLen [.nm 0])])) (mRet (mLst [mCall m_l_mixed_2 [.ex (mPrim pAdd [.ex (mPrim pIx [.nm 0, .nm 1]), .ex (mPrim pMul [.ex (mC (.int 31)), .nm 1])])]])) (mNext)) (b_l_pack_t1)
def m_l_pack : M Slot := mDef 2 0 [0, 1] b_l_pack
/-! _law_any_deed -/
@[simp] def b_l_any_deed_t11 : M Fl := mRet (mTup [mVar 2, mVar 4, mVar 5])
@[simp] def b_l_any_deed_t10 : M Fl := mSeq (mIf (mTest (mPrim pEq [.nm 2, .ex (mC (.str "split"))])) (mRet (mTup [mC (.str "split"), mVar 4, mVar 5, mVar 6, mVar 7])) (mNext)) (b_l_any_deed_t11)
@[simp] def b_l_any_deed_t9 : M Fl := mSeq (mIf (mTest (mPrim pEq [.nm 2, .ex (mC (.str "count"))])) (mRet (mTup [mC (.str "count"), mVar 4, mVar 7])) (mNext)) (b_l_any_deed_t10)
@[simp] def b_l_any_deed_t8 : M Fl := mSeq (mIf (mTest (mPrim pEq [.nm 2, .ex (mC (.str "move"))])) (mRet (mTup [mC (.str "move"), mVar 4, mVar 6])) (mNext)) (b_l_any_deed_t9)
@[simp] def b_l_any_deed_t7 : M Fl := mSeq (mIf (mTest (mPrim pEq [.nm 2, .ex (mC (.str "take"))])) (mRet (mTup [mC (.str "take"), mVar 4])) (mNext)) (b_l_any_deed_t8)
@[simp] def b_l_any_deed_t6 : M Fl := mSeq (mIf (mTest (mPrim pEq [.nm 2, .ex (mC (.str "put"))])) (mRet (mTup [mC (.str "put"), mVar 4, mVar 6, mVar 7])) (mNext)) (b_l_any_deed_t7)
@[simp] def b_l_any_deed_t5 : M Fl := mSeq (mSet 7 (mPrim pIx [.ex (mLst [mC (.int 0), mC (.int 1), mPrim pNeg [.ex (mC (.int 1))], mPrim pPow [.ex (mC (.int 10)), .ex (mC (.int 12))], mPrim pSub [.ex (mCall m_l_take [.nm 0, .ex (mC (.int 41))]), .ex (mC (.int 20))]]), .ex (mCall m_l_take [.nm 0, .ex (mC (.int 5))])])) (b_l_any_deed_t6)
@[simp] def b_l_any_deed_t4 : M Fl := mSeq (mSet 6 (mPrim pIx [.ex (mLst [mC (.int 0), mC (.int 1), mC (.int 2), mC (.int 999), mC (.int 7)]), .ex (mCall m_l_take [.nm 0, .ex (mC (.int 5))])])) (b_l_any_deed_t5)
@[simp] def b_l_any_deed_t3 : M Fl := mSeq (mSet 5 (mPrim pIx [.nm 1, .ex (mPrim pMod [.ex (mPrim pAdd [.ex (mPrim pAdd [.nm 3, .ex (mC (.int 1))]), .ex (mCall m_l_take [.nm 0, .ex (mPrim pSub [.ex (mPrim pLen [.nm 1]), .ex (mC (.int 1))])])]), .ex (mPrim pLen [.nm 1])])])) (b_l_any_deed_t4)
@[simp] def b_l_any_deed_t2 : M Fl := mSeq (mSet 4 (mPrim pIx [.nm 1, .nm 3])) (b_l_any_deed_t3)
@[simp] def b_l_any_deed_t1 : M Fl := mSeq (mSet 3 (mCall m_l_take [.nm 0, .ex (mPrim pLen [.nm 1])])) (b_l_any_deed_t2)
def b_l_any_deed : M Fl := mSeq (mSet 2 (mPrim pIx [.ex (mLst [mC (.str "put"), mC (.str "take"), mC (.str "move"), mC (.str "count"), mC (.str "name"), mC (.str "split"), mC (.str "join"), mC (.str "count"), mC (.str "move")]), .ex (mCall m_l_take [.nm 0, .ex (mC (.int 9))])])) (b_l_any_deed_t1)
def m_l_any_deed : M Slot := mDef 2 6 [0, 1] b_l_any_deed
/-! _law_named -/
def b_l_named : M Fl := mRet (mPrim pList [.ex (mSlice (.nm 0) (some (.ex (mC (.int 1)))) (some (.ex (mPrim pAdd [.ex (mC (.int 2)), .ex (mPrim pIntA [.ex (mPrim pIn [.ex (mPrim pIx [.nm 0, .ex (mC (.int 0))]), .ex (mLst [mC (.str "name"), mC (.str "split"), mC (.str "join")])])])]))))])
def m_l_named : M Slot := mDef 1 0 [0] b_l_named
/-! _law_made -/
@[simp] def b_l_made_t2 : M Fl := mRet (mC (.str ""))
@[simp] def b_l_made_t1 : M Fl := mSeq (mIf (mTest (mPrim pIn [.ex (mPrim pIx [.nm 0, .ex (mC (.int 0))]), .ex (mLst [mC (.str "name"), mC (.str "split")])])) (mRet (mPrim pIx [.nm 0, .ex (mC (.int 2))])) (mNext)) (b_l_made_t2)
def b_l_made : M Fl := mSeq (mIf (mTest (mPrim pEq [.ex (mPrim pIx [.nm 0, .ex (mC (.int 0))]), .ex (mC (.str "put"))])) (mRet (mPrim pIx [.nm 0, .ex (mC (.int 1))])) (mNext)) (b_l_made_t1)
def m_l_made : M Slot := mDef 1 0 [0] b_l_made
/-! _law_can -/
def b_l_can_e1 : M Slot := mPrim pNe [.ex (mPrim pIn [.nm 2, .nm 0]), .ex (mPrim pEq [.nm 2, .ex (mCall m_l_made [.nm 1])])]
def b_l_can : M Fl := mRet (mPrim pAll [.ex (mComp (mIter (mCall m_l_named [.nm 1])) [2] (gNm 2) (mYes) (b_l_can_e1))])
def m_l_can : M Slot := mDef 2 1 [0, 1] b_l_can
/-! _law_do -/
@[simp] def b_l_do_t10 : M Fl := mRetV 2
@[simp] def b_l_do_t9 : M Fl := mSeq (mIf (mTest (mPrim pEq [.nm 3, .ex (mC (.str "join"))])) (mSetIx 2 (.nm 4) (mTup [mVar 5, mPrim pAdd [.nm 6, .ex (mPrim pIx [.ex (mDPop 2 (mPrim pIx [.nm 1, .ex (mC (.int 2))])), .ex (mC (.int 1))])]])) (mNext)) (b_l_do_t10)
@[simp] def b_l_do_t8 : M Fl := mSeq (mIf (mTest (mPrim pEq [.nm 3, .ex (mC (.str "split"))])) (mSeq (mSetIx 2 (.nm 4) (mTup [mVar 5, mPrim pSub [.nm 6, .ex (mPrim pIx [.nm 1, .ex (mC (.int 4))])]])) (mSetIx 2 (.ex (mPrim pIx [.nm 1, .ex (mC (.int 2))])) (mSlice (.nm 1) (some (.ex (mC (.int 3)))) (none)))) (mNext)) (b_l_do_t9)
@[simp] def b_l_do_t7 : M Fl := mSeq (mIf (mTest (mPrim pEq [.nm 3, .ex (mC (.str "name"))])) (mSetIx 2 (.ex (mPrim pIx [.nm 1, .ex (mC (.int 2))])) (mTup [mVar 5, mVar 6])) (mNext)) (b_l_do_t8)
@[simp] def b_l_do_t6 : M Fl := mSeq (mIf (mTest (mPrim pEq [.nm 3, .ex (mC (.str "count"))])) (mSetIx 2 (.nm 4) (mTup [mVar 5, mPrim pAdd [.nm 6, .ex (mPrim pIx [.nm 1, .ex (mC (.int 2))])]])) (mNext)) (b_l_do_t7)
@[simp] def b_l_do_t5 : M Fl := mSeq (mIf (mTest (mPrim pEq [.nm 3, .ex (mC (.str "move"))])) (mSetIx 2 (.nm 4) (mTup [mPrim pIx [.nm 1, .ex (mC (.int 2))], mVar 6])) (mNext)) (b_l_do_t6)
@[simp] def b_l_do_t4 : M Fl := mSeq (mAsg (gTp 2 (gsCons (gNm 5) (gsCons (gNm 6) (gsNil)))) (mDPop 2 (mVar 4))) (b_l_do_t5)
@[simp] def b_l_do_t3 : M Fl := mSeq (mIf (mTest (mPrim pEq [.nm 3, .ex (mC (.str "put"))])) (mSeq (mSetIx 2 (.nm 4) (mSlice (.nm 1) (some (.ex (mC (.int 2)))) (none))) (mRetV 2)) (mNext)) (b_l_do_t4)
@[simp] def b_l_do_t2 : M Fl := mSeq (mAsg (gTp 2 (gsCons (gNm 3) (gsCons (gNm 4) (gsNil)))) (mSlice (.nm 1) (none) (some (.ex (mC (.int 2)))))) (b_l_do_t3)
@[simp] def b_l_do_t1 : M Fl := mSeq (mSet 2 (mPrim pDictA [.nm 0])) (b_l_do_t2)
def b_l_do : M Fl := mSeq (mIf (mOr (mTest (mPrim pIsN [.nm 0, .ex (mC .none)])) (mNot (mTest (mCall m_l_can [.nm 0, .nm 1])))) (mRet (mC .none)) (mNext)) (b_l_do_t1)
def m_l_do : M Slot := mDef 2 5 [0, 1] b_l_do
/-! _law_done -/
def b_l_done_f1 : M Fl := mSet 0 (mCall m_l_do [.nm 0, .nm 2])
@[simp] def b_l_done_t1 : M Fl := mRetV 0
def b_l_done : M Fl := mSeq (mFor (mIter (mVar 1)) (gNm 2) (b_l_done_f1)) (b_l_done_t1)
def m_l_done : M Slot := mDef 2 1 [1] b_l_done
/-! _law_back -/
@[simp] def b_l_back_t7 : M Fl := mRet (mPrim pAdd [.ex (mTup [mC (.str "split"), mVar 3, mPrim pIx [.nm 1, .ex (mC (.int 2))]]), .ex (mPrim pIx [.nm 0, .ex (mPrim pIx [.nm 1, .ex (mC (.int 2))])])])
@[simp] def b_l_back_t6 : M Fl := mSeq (mIf (mTest (mPrim pEq [.nm 2, .ex (mC (.str "split"))])) (mRet (mTup [mC (.str "join"), mVar 3, mPrim pIx [.nm 1, .ex (mC (.int 2))]])) (mNext)) (b_l_back_t7)
@[simp] def b_l_back_t5 : M Fl := mSeq (mIf (mTest (mPrim pEq [.nm 2, .ex (mC (.str "name"))])) (mRet (mTup [mC (.str "name"), mPrim pIx [.nm 1, .ex (mC (.int 2))], mVar 3])) (mNext)) (b_l_back_t6)
@[simp] def b_l_back_t4 : M Fl := mSeq (mIf (mTest (mPrim pEq [.nm 2, .ex (mC (.str "count"))])) (mRet (mTup [mC (.str "count"), mVar 3, mPrim pSub [.ex (mC (.int 0)), .ex (mPrim pIx [.nm 1, .ex (mC (.int 2))])]])) (mNext)) (b_l_back_t5)
@[simp] def b_l_back_t3 : M Fl := mSeq (mIf (mTest (mPrim pEq [.nm 2, .ex (mC (.str "move"))])) (mRet (mTup [mC (.str "move"), mVar 3, mPrim pIx [.ex (mPrim pIx [.nm 0, .nm 3]), .ex (mC (.int 0))]])) (mNext)) (b_l_back_t4)
@[simp] def b_l_back_t2 : M Fl := mSeq (mIf (mTest (mPrim pEq [.nm 2, .ex (mC (.str "take"))])) (mRet (mPrim pAdd [.ex (mTup [mC (.str "put"), mVar 3]), .ex (mPrim pIx [.nm 0, .nm 3])])) (mNext)) (b_l_back_t3)
@[simp] def b_l_back_t1 : M Fl := mSeq (mIf (mTest (mPrim pEq [.nm 2, .ex (mC (.str "put"))])) (mRet (mTup [mC (.str "take"), mVar 3])) (mNext)) (b_l_back_t2)
def b_l_back : M Fl := mSeq (mAsg (gTp 2 (gsCons (gNm 2) (gsCons (gNm 3) (gsNil)))) (mSlice (.nm 1) (none) (some (.ex (mC (.int 2)))))) (b_l_back_t1)
def m_l_back : M Slot := mDef 2 2 [0, 1] b_l_back
/-! _law_worlds -/
def b_l_worlds_f1 : M Fl := mSeq (mSet 5 (mPrim pDictA [.nm 4])) (mSeq (mSetIx 5 (.ex (mPrim pIx [.nm 0, .nm 2])) (mTup [mPrim pAdd [.ex (mC (.int 500)), .nm 2], mPrim pMul [.ex (mPrim pIx [.ex (mLst [mC (.int 1), mC (.int 3), mC (.int 9), mC (.int 27)]), .nm 2]), .ex (mPrim pPow [.ex (mC (.int 10)), .ex (mC (.int 15))])]])) (mSet 3 (mPrim pAdd [.nm 3, .ex (mLst [mVar 4, mVar 5])])))
def b_l_worlds_f2 : M Fl := mSeq (mSet 3 (mLst [])) (mSeq (mFor (mIter (mVar 1)) (gNm 4) (b_l_worlds_f1)) (mSet 1 (mVar 3)))
@[simp] def b_l_worlds_t2 : M Fl := mRetV 1
@[simp] def b_l_worlds_t1 : M Fl := mSeq (mFor (mRange1 (mPrim pLen [.nm 0])) (gNm 2) (b_l_worlds_f2)) (b_l_worlds_t2)
def b_l_worlds : M Fl := mSeq (mSet 1 (mLst [(fun ρ => .ok (.dic []) ρ)])) (b_l_worlds_t1)
def m_l_worlds : M Slot := mDef 1 5 [0] b_l_worlds
/-! _law_backs -/
def b_l_backs_f1 : M Fl := mSeq (mDrop (mAppend 2 (mTup [mVar 3, mCall m_l_back [.nm 0, .nm 3]]))) (mSet 0 (mCall m_l_do [.nm 0, .nm 3]))
@[simp] def b_l_backs_t2 : M Fl := mRet (mPrim pSortedX [.nm 2])
@[simp] def b_l_backs_t1 : M Fl := mSeq (mFor (mIter (mVar 1)) (gNm 3) (b_l_backs_f1)) (b_l_backs_t2)
def b_l_backs : M Fl := mSeq (mSet 2 (mLst [])) (b_l_backs_t1)
def m_l_backs : M Slot := mDef 2 2 [1] b_l_backs
/-! _law_same -/
@[simp] def b_l_same_t2 : M Fl := mRet (mAndV (mPrim pEqD [.nm 3, .nm 4]) (mPrim pEq [.ex (mCall m_l_backs [.nm 0, .ex (mLst [mVar 1, mVar 2])]), .ex (mCall m_l_backs [.nm 0, .ex (mLst [mVar 2, mVar 1])])]))
@[simp] def b_l_same_t1 : M Fl := mSeq (mIf (mOr (mTest (mPrim pIsN [.nm 3, .ex (mC .none)])) (mTest (mPrim pIsN [.nm 4, .ex (mC .none)]))) (mRet (mAndV (mPrim pIsN [.nm 3, .ex (mC .none)]) (mPrim pIsN [.nm 4, .ex (mC .none)]))) (mNext)) (b_l_same_t2)
def b_l_same : M Fl := mSeq (mPar 3 4 (mCall m_l_done [.nm 0, .ex (mLst [mVar 1, mVar 2])]) (mCall m_l_done [.nm 0, .ex (mLst [mVar 2, mVar 1])])) (b_l_same_t1)
def m_l_same : M Slot := mDef 3 2 [0, 1, 2] b_l_same
/-! _law_right -/
def b_l_right_e1 : M Slot := mCall m_l_same [.nm 5, .nm 1, .nm 2]
def b_l_right_e2 : M Slot := mPrim pIsN [.ex (mCall m_l_done [.nm 5, .ex (mLst [mVar 1, mVar 2])]), .ex (mC .none)]
def b_l_right_e3 : M Slot := mPrim pNeD [.ex (mCall m_l_done [.nm 5, .ex (mLst [mVar 1, mVar 2])]), .ex (mCall m_l_done [.nm 5, .ex (mLst [mVar 2, mVar 1])])]
@[simp] def b_l_right_t4 : M Fl := mRet (mPrim pAny [.ex (mComp (mIter (mVar 3)) [5] (gNm 5) (mYes) (b_l_right_e3))])
@[simp] def b_l_right_t3 : M Fl := mSeq (mIf (mOr (mTest (mPrim pEq [.nm 1, .nm 2])) (mTest (mPrim pAll [.ex (mComp (mIter (mVar 3)) [5] (gNm 5) (mYes) (b_l_right_e2))]))) (mRet (mC (.bool true))) (mNext)) (b_l_right_t4)
@[simp] def b_l_right_t2 : M Fl := mSeq (mIf (mNot (mTest (mVar 4))) (mRet (mPrim pAll [.ex (mComp (mIter (mVar 3)) [5] (gNm 5) (mYes) (b_l_right_e1))])) (mNext)) (b_l_right_t3)
@[simp] def b_l_right_t1 : M Fl := mSeq (mSet 4 (mCall m_touch [.nm 1, .nm 2])) (b_l_right_t2)
def b_l_right : M Fl := mSeq (mSet 3 (mCall m_l_worlds [.nm 0])) (b_l_right_t1)
def m_l_right : M Slot := mDef 3 3 [0, 1, 2] b_l_right
/-! law -/
def b_law_2_f1 : M Fl := mIf (mNot (mTest (mCall m_l_right [.nm 3, .ex (mCall m_l_any_deed [.nm 2, .nm 3]), .ex (mCall m_l_any_deed [.nm 2, .nm 3])]))) (mRet (mC (.bool false))) (mNext)
def b_law_2_f2 : M Fl := mSeq (mSet 2 (mCall m_l_pack [.nm 0, .nm 1])) (mSeq (mSet 3 (mCall m_l_names [.nm 2, .ex (mPrim pAdd [.ex (mC (.int 2)), .ex (mCall m_l_take [.nm 2, .ex (mC (.int 3))])])])) (mFor (mRange1 (mC (.int 3))) (gNm 4) (b_law_2_f1)))
@[simp] def b_law_2_t1 : M Fl := mRet (mC (.bool true))
def b_law_2 : M Fl := mSeq (mFor (mRange1 (mPrim pMax2 [.ex (mC (.int 1)), .ex (mPrim pMin2 [.ex (mPrim pLen [.nm 0]), .ex (mC (.int 10))])])) (gNm 1) (b_law_2_f2)) (b_law_2_t1)
def m_law_2 : M Slot := mDef 1 4 [0] b_law_2
end K

set_option Elab.async false
set_option linter.all false
set_option autoImplicit false
set_option maxRecDepth 100000
set_option maxHeartbeats 1000000
/-! Worlds and deeds, in plain Lean. -/
namespace K
open PySem PySem.Spec PyProof.Rows L2 SD
abbrev Nm := List Nat
/-- letters a to z, one to eight -/
structure NameOk (l : Nm) : Prop where
  lo : 1 ≤ l.length
  hi : l.length ≤ 8
  az : ∀ c ∈ l, 97 ≤ c ∧ c ≤ 122
/-- a deed that is well made -/
inductive Dd where
  | put (n : Nm) (p k : Int)
  | take (n : Nm)
  | move (n : Nm) (p : Int)
  | count (n : Nm) (k : Int)
  | name (n m : Nm)
  | split (n m : Nm) (p k : Int)
  | join (n m : Nm)
  deriving DecidableEq
def tx (n : Nm) : D := .str (cs n)
def kput : Nm := [112, 117, 116]
def ktake : Nm := [116, 97, 107, 101]
def kmove : Nm := [109, 111, 118, 101]
def kcount : Nm := [99, 111, 117, 110, 116]
def kname : Nm := [110, 97, 109, 101]
def ksplit : Nm := [115, 112, 108, 105, 116]
def kjoin : Nm := [106, 111, 105, 110]
def Dd.kind : Dd → Nm
  | .put _ _ _ => kput
  | .take _ => ktake
  | .move _ _ => kmove
  | .count _ _ => kcount
  | .name _ _ => kname
  | .split _ _ _ _ => ksplit
  | .join _ _ => kjoin
def Dd.ds : Dd → List D
  | .put n p k => [tx kput, tx n, .int p, .int k]
  | .take n => [tx ktake, tx n]
  | .move n p => [tx kmove, tx n, .int p]
  | .count n k => [tx kcount, tx n, .int k]
  | .name n m => [tx kname, tx n, tx m]
  | .split n m p k => [tx ksplit, tx n, tx m, .int p, .int k]
  | .join n m => [tx kjoin, tx n, tx m]
def Dd.d (d : Dd) : D := .tuple d.ds
/-- the names a deed speaks of, from the left -/
def Dd.nms : Dd → List Nm
  | .put n _ _ => [n]
  | .take n => [n]
  | .move n _ => [n]
  | .count n _ => [n]
  | .name n m => [n, m]
  | .split n m _ _ => [n, m]
  | .join n m => [n, m]
def Dd.made : Dd → Option Nm
  | .put n _ _ => some n
  | .name _ m => some m
  | .split _ m _ _ => some m
  | _ => none
def Dd.ended : Dd → Option Nm
  | .take n => some n
  | .name n _ => some n
  | .join _ m => some m
  | _ => none
/-- the names that must stand -/
def Dd.must : Dd → List Nm
  | .put _ _ _ => []
  | .take n => [n]
  | .move n _ => [n]
  | .count n _ => [n]
  | .name n _ => [n]
  | .split n _ _ _ => [n]
  | .join n m => [n, m]
/-- names are names, unlike; places and numbers are small -/
def Dd.good : Dd → Prop
  | .put n p k => NameOk n ∧ (0 ≤ p ∧ p ≤ 999)
  | .take n => NameOk n
  | .move n p => NameOk n ∧ (0 ≤ p ∧ p ≤ 999)
  | .count n k => NameOk n
  | .name n m => NameOk n ∧ NameOk m ∧ n ≠ m
  | .split n m p k => NameOk n ∧ NameOk m ∧ n ≠ m ∧ (0 ≤ p ∧ p ≤ 999)
  | .join n m => NameOk n ∧ NameOk m ∧ n ≠ m
/-- the number of a deed -/
def Dd.num : Dd → Int
  | .put _ _ k => k
  | .count _ k => k
  | .split _ _ _ k => k
  | _ => 0
/-- a name or None -/
def oD : Option Nm → D
  | some n => tx n
  | none => .none

/-! ### things, worlds -/
abbrev Th := Nm × Int × Int
def th (t : Th) : D := .tuple [tx t.1, .int t.2.1, .int t.2.2]
def wd (w : List Th) : D := .tuple (w.map th)
def getT (w : List Th) (n : Nm) : Option Th := w.find? fun t => decide (t.1 = n)
def val (w : List Th) (n : Nm) : Option (Int × Int) := (getT w n).map (·.2)
def rem (w : List Th) (n : Nm) : List Th := w.filter fun t => !decide (t.1 = n)
def insT (t : Th) : List Th → List Th
  | [] => [t]
  | u :: r => if t.1 < u.1 then t :: u :: r else u :: insT t r
def wth (w : List Th) (t : Th) : List Th := insT t (rem w t.1)
def Rise (w : List Th) : Prop := w.Pairwise fun a b => a.1 < b.1
def names (w : List Th) : List Nm := w.map (·.1)

theorem nlt_trans {a b c : Nm} (h : a < b) (h2 : b < c) : a < c := List.lt_trans h h2
theorem nlt_irr (a : Nm) : ¬ a < a := List.lt_irrefl a
theorem nlt_of {a b : Nm} (h : ¬ a < b) (h2 : a ≠ b) : b < a := by
  by_cases e : b < a
  · exact e
  · exact absurd (List.le_antisymm (List.not_lt.mp e) (List.not_lt.mp h)) h2
theorem val_nil (n : Nm) : val [] n = none := rfl
theorem val_cons (t : Th) (w : List Th) (n : Nm) : val (t :: w) n = if t.1 = n then some t.2 else val w n := by
  unfold val getT
  rw [List.find?_cons]
  by_cases h : t.1 = n <;> simp [h]
theorem val_none {w : List Th} {n : Nm} : val w n = none ↔ n ∉ names w := by
  induction w with
  | nil => simp [val_nil, names]
  | cons t w ih =>
    rw [val_cons]
    by_cases h : t.1 = n
    · simp [h, names]
    · simp only [if_neg h, ih]
      simp [names, Ne.symm h]
theorem val_some {w : List Th} {n : Nm} : (∃ x, val w n = some x) ↔ n ∈ names w := by
  cases h : val w n with
  | none => simp [val_none.mp h]
  | some x =>
    simp only [Option.some.injEq, exists_eq', true_iff]
    by_cases e : n ∈ names w
    · exact e
    · rw [val_none.mpr e] at h; cases h
theorem getT_val {w : List Th} {n : Nm} {x : Int × Int} (h : val w n = some x) : getT w n = some (n, x) := by
  unfold val at h
  cases e : getT w n with
  | none => rw [e] at h; cases h
  | some t =>
    rw [e] at h
    have h1 : t.2 = x := Option.some.inj h
    have h2 : t.1 = n := by
      have := List.find?_some e
      simpa using this
    rw [← h1, ← h2]
theorem val_rem (w : List Th) (n m : Nm) : val (rem w n) m = if m = n then none else val w m := by
  induction w with
  | nil => simp [rem, val_nil]
  | cons t w ih =>
    unfold rem at ih ⊢
    rw [List.filter_cons]
    by_cases h : t.1 = n
    · simp only [h, decide_true, Bool.not_true, Bool.false_eq_true, if_false]
      rw [ih, val_cons, h]
      by_cases e : m = n
      · simp [e]
      · simp [e, Ne.symm e]
    · simp only [h, decide_false, Bool.not_false, if_true]
      rw [val_cons, val_cons, ih]
      by_cases e : t.1 = m
      · simp [e, show m ≠ n from fun z => h (e.trans z)]
      · simp [e]
theorem val_ins (t : Th) (w : List Th) (m : Nm) (h : t.1 ∉ names w) : val (insT t w) m = if m = t.1 then some t.2 else val w m := by
  induction w with
  | nil =>
    show val [t] m = _
    rw [val_cons]
    by_cases e : m = t.1
    · simp [e]
    · simp [e, Ne.symm e]
  | cons u w ih =>
    have h1 : t.1 ≠ u.1 := fun e => h (by simp [names, e])
    have h2 : t.1 ∉ names w := fun e => h (by simp [names] at e ⊢; exact .inr e)
    unfold insT
    split
    · rw [val_cons]
      by_cases e : t.1 = m
      · simp [e]
      · simp [e, Ne.symm e]
    · rw [val_cons, ih h2, val_cons]
      by_cases e : u.1 = m
      · have : m ≠ t.1 := fun z => h1 (by rw [← z, e])
        simp [e, this]
      · simp [e]
theorem rem_no (w : List Th) (n : Nm) : n ∉ names (rem w n) := by
  rw [← val_none, val_rem]
  simp
theorem val_wth (w : List Th) (t : Th) (m : Nm) : val (wth w t) m = if m = t.1 then some t.2 else val w m := by
  unfold wth
  rw [val_ins t _ m (rem_no w t.1), val_rem]
  by_cases e : m = t.1 <;> simp [e]
theorem rise_rem {w : List Th} (h : Rise w) (n : Nm) : Rise (rem w n) := List.Pairwise.filter _ h
theorem ins_mem {t u : Th} : ∀ {w : List Th}, u ∈ insT t w ↔ u = t ∨ u ∈ w
  | [] => by simp [insT]
  | x :: w => by
    unfold insT
    split
    · simp
    · simp only [List.mem_cons, ins_mem (w := w)]
      constructor
      · rintro (h | h | h) <;> simp [h]
      · rintro (h | h | h) <;> simp [h]
theorem rise_ins {t : Th} : ∀ {w : List Th}, Rise w → t.1 ∉ names w → Rise (insT t w)
  | [], _, _ => by simp [insT, Rise]
  | u :: w, h, hn => by
    have h' := List.pairwise_cons.mp h
    unfold insT
    split
    · rename_i hlt
      refine List.Pairwise.cons (fun x hx => ?_) h
      rcases List.mem_cons.mp hx with rfl | hx
      · exact hlt
      · exact nlt_trans hlt (h'.1 x hx)
    · rename_i hlt
      refine List.Pairwise.cons (fun x hx => ?_) (rise_ins h'.2 fun e => hn (by simp [names] at e ⊢; exact .inr e))
      rcases ins_mem.mp hx with rfl | hx
      · exact nlt_of hlt fun e => hn (by simp [names, e])
      · exact h'.1 x hx
theorem rise_wth {w : List Th} (h : Rise w) (t : Th) : Rise (wth w t) := rise_ins (rise_rem h _) (rem_no w t.1)
theorem ins_perm (t : Th) : ∀ w : List Th, (insT t w).Perm (w ++ [t])
  | [] => List.Perm.refl _
  | u :: w => by
    unfold insT
    split
    · exact (List.perm_append_singleton t (u :: w)).symm
    · exact (ins_perm t w).cons u
theorem rise_nodup {w : List Th} (h : Rise w) : (names w).Nodup := by
  unfold names
  rw [List.Nodup, List.pairwise_map]
  refine List.Pairwise.imp ?_ h
  intro a b e z
  exact nlt_irr b.1 (by rw [z] at e; exact e)
theorem val_mem {w : List Th} (h : Rise w) {t : Th} (ht : t ∈ w) : val w t.1 = some t.2 := by
  induction w with
  | nil => cases ht
  | cons u w ih =>
    have h' := List.pairwise_cons.mp h
    rw [val_cons]
    rcases List.mem_cons.mp ht with rfl | ht
    · simp
    · have : u.1 ≠ t.1 := fun e => nlt_irr t.1 (by have := h'.1 t ht; rw [e] at this; exact this)
      rw [if_neg this, ih h'.2 ht]
theorem mem_val {w : List Th} {n : Nm} {x : Int × Int} (h : val w n = some x) : (n, x) ∈ w := by
  have := getT_val h
  exact List.mem_of_find?_eq_some this
/-- worlds that hold the same are the same -/
theorem wext {w w' : List Th} (h : Rise w) (h' : Rise w') (e : ∀ n, val w n = val w' n) : w = w' := by
  have mem : ∀ t, t ∈ w ↔ t ∈ w' := fun t => by
    constructor
    · intro ht
      have := val_mem h ht
      rw [e] at this
      exact mem_val this
    · intro ht
      have := val_mem h' ht
      rw [← e] at this
      exact mem_val this
  have nd : ∀ {w : List Th}, Rise w → w.Nodup := fun h => by
    refine List.Pairwise.imp ?_ h
    intro a b e z
    exact nlt_irr b.1 (by rw [z] at e; exact e)
  exact List.Perm.eq_of_pairwise (le := fun a b : Th => a.1 < b.1) (fun a b _ _ h1 h2 => absurd (nlt_trans h1 h2) (nlt_irr _)) h h' ((List.perm_ext_iff_of_nodup (nd h) (nd h')).mpr mem)

/-! ### deeds done -/
def act (w : List Th) : Dd → List Th
  | .put n p k => wth w (n, p, k)
  | .take n => rem w n
  | .move n p => match val w n with
    | some x => wth w (n, p, x.2)
    | none => w
  | .count n k => match val w n with
    | some x => wth w (n, x.1, x.2 + k)
    | none => w
  | .name n m => match val w n with
    | some x => wth (rem w n) (m, x.1, x.2)
    | none => w
  | .split n m p k => match val w n with
    | some x => wth (wth w (n, x.1, x.2 - k)) (m, p, k)
    | none => w
  | .join n m => match val w n, val w m with
    | some x, some y => wth (rem w m) (n, x.1, x.2 + y.2)
    | _, _ => w
/-- the first name that stands and shouldn't, or doesn't and should -/
def amiss (w : List Th) (d : Dd) : Option Nm := d.nms.find? fun n => (val w n).isNone != (some n == d.made)
def can (w : List Th) (d : Dd) : Prop := (∀ n ∈ d.must, n ∈ names w) ∧ ∀ m, d.made = some m → m ∉ names w
def back (w : List Th) : Dd → Dd
  | .put n _ _ => .take n
  | .take n => match val w n with
    | some x => .put n x.1 x.2
    | none => .take n
  | .move n _ => match val w n with
    | some x => .move n x.1
    | none => .take n
  | .count n k => .count n (0 - k)
  | .name n m => .name m n
  | .split n m _ _ => .join n m
  | .join n m => match val w m with
    | some x => .split n m x.1 x.2
    | none => .take n
theorem rise_act {w : List Th} (h : Rise w) (d : Dd) : Rise (act w d) := by
  cases d with
  | put n p k => exact rise_wth h _
  | take n => exact rise_rem h _
  | move n p => simp only [act]; split; exact rise_wth h _; exact h
  | count n p => simp only [act]; split; exact rise_wth h _; exact h
  | name n m => simp only [act]; split; exact rise_wth (rise_rem h _) _; exact h
  | split n m p k => simp only [act]; split; exact rise_wth (rise_wth h _) _; exact h
  | join n m => simp only [act]; split; exact rise_wth (rise_rem h _) _; exact h
end K

set_option Elab.async false
set_option linter.all false
set_option autoImplicit false
set_option maxRecDepth 100000
set_option maxHeartbeats 1000000
namespace K
open PySem PySem.Spec PyProof.Rows L2 SD
/-- two names of a deed are unlike -/
def Dd.two : Dd → Prop
  | .name n m => n ≠ m
  | .split n m _ _ => n ≠ m
  | .join n m => n ≠ m
  | _ => True
theorem good_two {d : Dd} (h : d.good) : d.two := by
  cases d <;> simp_all [Dd.good, Dd.two]
theorem can_must {w : List Th} {d : Dd} (h : can w d) {n : Nm} (hn : n ∈ d.must) : ∃ x, val w n = some x := val_some.mpr (h.1 n hn)
theorem can_made {w : List Th} {d : Dd} (h : can w d) {n : Nm} (hn : d.made = some n) : val w n = none := val_none.mpr (h.2 n hn)
theorem can_of {w : List Th} {d : Dd} (h1 : ∀ n ∈ d.must, (val w n).isSome = true) (h2 : ∀ n, d.made = some n → val w n = none) : can w d :=
  ⟨fun n hn => val_some.mp (Option.isSome_iff_exists.mp (h1 n hn)), fun n hn => val_none.mp (h2 n hn)⟩
/-- what a deed does to each name -/
def eff (w : List Th) (d : Dd) (q : Nm) : Option (Int × Int) := match d with
  | .put n p k => if q = n then some (p, k) else val w q
  | .take n => if q = n then none else val w q
  | .move n p => if q = n then (val w n).map fun x => (p, x.2) else val w q
  | .count n k => if q = n then (val w n).map fun x => (x.1, x.2 + k) else val w q
  | .name n m => if q = m then val w n else if q = n then none else val w q
  | .split n m p k => if q = m then some (p, k) else if q = n then (val w n).map fun x => (x.1, x.2 - k) else val w q
  | .join n m => if q = n then (val w n).bind fun x => (val w m).map fun y => (x.1, x.2 + y.2) else if q = m then none else val w q
theorem val_act {w : List Th} {d : Dd} (c : can w d) (t : d.two) (q : Nm) : val (act w d) q = eff w d q := by
  cases d with
  | put n p k => simp [act, eff, val_wth]
  | take n => simp [act, eff, val_rem]
  | move n p =>
    obtain ⟨x, hx⟩ := can_must c (n := n) (by simp [Dd.must])
    simp [act, eff, hx, val_wth]
  | count n k =>
    obtain ⟨x, hx⟩ := can_must c (n := n) (by simp [Dd.must])
    simp [act, eff, hx, val_wth]
  | name n m =>
    obtain ⟨x, hx⟩ := can_must c (n := n) (by simp [Dd.must])
    simp [act, eff, hx, val_wth, val_rem]
  | split n m p k =>
    obtain ⟨x, hx⟩ := can_must c (n := n) (by simp [Dd.must])
    simp [act, eff, hx, val_wth, val_rem]
  | join n m =>
    obtain ⟨x, hx⟩ := can_must c (n := n) (by simp [Dd.must])
    obtain ⟨y, hy⟩ := can_must c (n := m) (by simp [Dd.must])
    simp [act, eff, hx, hy, val_wth, val_rem]
end K

set_option Elab.async false
set_option linter.all false
set_option autoImplicit false
set_option maxRecDepth 100000
set_option maxHeartbeats 1000000
/-! Loops, in general. -/
namespace K
open PySem PySem.Spec PyProof.Rows L2 SD
@[simp] theorem isNone_n : isNone .none = true := rfl
@[simp] theorem isNone_i {i : Int} : isNone (.int i) = false := rfl
@[simp] theorem isNone_s {i : Str} : isNone (.str i) = false := rfl
@[simp] theorem isNone_b {i : Bool} : isNone (.bool i) = false := rfl
@[simp] theorem isNone_t {i : List D} : isNone (.tuple i) = false := rfl
@[simp] theorem isNone_l {i : List D} : isNone (.list i) = false := rfl
@[simp] theorem isNone_d {i : List (D × D)} : isNone (.dict i) = false := rfl
@[simp] theorem at_last {α : Type} {l : List α} : atI l (-1) = l.getLast? := by
  unfold atI ixN
  rw [if_neg (by decide)]
  cases l with
  | nil => rfl
  | cons a l =>
    have e : (-1 + ((a :: l).length : Int)).toNat = l.length := by simp only [List.length_cons]; omega
    have h : -((a :: l).length : Int) ≤ -1 := by simp only [List.length_cons]; omega
    rw [if_pos h, e, List.getLast?_eq_getElem?]
    rfl
end K

set_option Elab.async false
set_option linter.all false
set_option autoImplicit false
set_option maxRecDepth 100000
set_option maxHeartbeats 1000000
/-! The program's functions about deeds and worlds. -/
namespace K
open PySem PySem.Spec PyProof.Rows L2 SD
@[simp] theorem tx_plain (n : Nm) : PyData.plain (tx n) = true := by simp [tx]
@[simp] theorem tx_depth (n : Nm) : PyData.depth (tx n) = 0 := by simp [tx]
@[simp] theorem tx_eqv (a b : Nm) : PyData.eqv (tx a) (tx b) = decide (a = b) := by simp [tx]
@[simp] theorem tx_none (n : Nm) : isNone (tx n) = false := rfl
theorem names_in_eq (d : Dd) : m_names_in [.val d.d] = .ok (.val (.tuple (d.nms.map tx))) [.val d.d] := by
  have c1 : Txt.count (cs [110, 112, 107]) (cs [110]) = 1 := by decide +kernel
  have c2 : Txt.count (cs [110]) (cs [110]) = 1 := by decide +kernel
  have c3 : Txt.count (cs [110, 112]) (cs [110]) = 1 := by decide +kernel
  have c4 : Txt.count (cs [110, 107]) (cs [110]) = 1 := by decide +kernel
  have c5 : Txt.count (cs [110, 110]) (cs [110]) = 2 := by decide +kernel
  have c6 : Txt.count (cs [110, 110, 112, 107]) (cs [110]) = 2 := by decide +kernel
  cases d <;> simp [Dd.d, Dd.ds, Dd.nms, m_names_in, b_names_in, tx, t_FORMS, List.lookup, pCount, kput, ktake, kmove, kcount, kname, ksplit, kjoin, c1, c2, c3, c4, c5, c6]
@[simp] theorem oD_plain (o : Option Nm) : PyData.plain (oD o) = true := by cases o <;> simp [oD]
@[simp] theorem oD_depth (o : Option Nm) : PyData.depth (oD o) = 0 := by cases o <;> simp [oD]
@[simp] theorem th_plain (t : Th) : PyData.plain (th t) = true := by simp [th]
@[simp] theorem th_depth (t : Th) : PyData.depth (th t) = 1 := by simp [th]
def oT : Option Th → D
  | some t => th t
  | none => .none
theorem rem_len (w : List Th) (n : Nm) : (rem w n).length ≤ w.length := List.length_filter_le _ _
end K

set_option Elab.async false
set_option linter.all false
set_option autoImplicit false
set_option maxRecDepth 100000
set_option maxHeartbeats 1000000
namespace K
open PySem PySem.Spec PyProof.Rows L2 SD
@[simp] theorem at_4 {α : Type} {x y z w v : α} {l : List α} : atI (x :: y :: z :: w :: v :: l) 4 = some v := by simp [atI, ixN, show (4 : Int) < (l.length : Int) + 1 + 1 + 1 + 1 + 1 by omega]
theorem wth_len (w : List Th) (t : Th) : (wth w t).length ≤ w.length + 1 := by
  have := (ins_perm t (rem w t.1)).length_eq
  have h2 := rem_len w t.1
  unfold wth
  rw [this]
  simp; omega
end K

set_option Elab.async false
set_option linter.all false
set_option autoImplicit false
set_option maxRecDepth 100000
set_option maxHeartbeats 1000000
namespace K
open PySem PySem.Spec PyProof.Rows L2 SD
def whole (d : D) : Bool := isTy .int d && !isTy .bool d
def nameB (l : List Nat) : Bool := decide (1 ≤ l.length ∧ l.length ≤ 8) && l.all fun c => decide (c ∈ az)
def placeB : D → Bool
  | .int i => decide (0 ≤ i ∧ i ≤ 999)
  | _ => false
/-! ### the others -/
end K

set_option Elab.async false
set_option linter.all false
set_option autoImplicit false
set_option maxRecDepth 100000
set_option maxHeartbeats 1000000
/-! What the law draws: packs, names. -/
namespace K
open PySem PySem.Spec PyProof.Rows L2 SD
theorem take_ex (x n : Int) (hn : 0 < n) (hw : n < 18446744073709551616) : m_l_take [.lst [.int x], .val (.int n)] = .ok (.val (.int (x % n))) [.lst [.int (x / n)], .val (.int n)] ∧ 0 ≤ x % n ∧ x % n < n := by
  refine ⟨?_, Int.emod_nonneg _ (by omega), Int.emod_lt_of_pos _ hn⟩
  simp [m_l_take, b_l_take, hn, goes_no hn hw, ixN]
/-- a digit taken -/
theorem take_d (x n : Int) (hn : 0 < n) (hw : n < 18446744073709551616) : ∃ d x', m_l_take [.lst [.int x], .val (.int n)] = .ok (.val (.int d)) [.lst [.int x'], .val (.int n)] ∧ 0 ≤ d ∧ d < n :=
  ⟨_, _, take_ex x n hn hw⟩
theorem az_nodup : az.Nodup := by decide
theorem rot_nodup (t : Nat) : (az.drop t ++ az.take t).Nodup := by
  have h := az_nodup
  rw [← List.take_append_drop t az, List.nodup_append] at h
  rw [List.nodup_append]
  exact ⟨h.2.1, h.1, fun a ha b hb e => h.2.2 b hb a ha e.symm⟩
theorem rot_az {t c : Nat} (h : c ∈ az.drop t ++ az.take t) : 97 ≤ c ∧ c ≤ 122 := by
  rcases List.mem_append.mp h with h | h
  · exact mem_az.mp (List.mem_of_mem_drop h)
  · exact mem_az.mp (List.mem_of_mem_take h)
theorem getD_mem {l : List Nat} {i : Nat} (h : i < l.length) : l.getD i 0 ∈ l := by
  rw [List.getD_eq_getElem?_getD, List.getElem?_eq_getElem h]
  exact List.getElem_mem h
theorem getD_inj {l : List Nat} (hn : l.Nodup) {i j : Nat} (hi : i < l.length) (hj : j < l.length) (e : l.getD i 0 = l.getD j 0) : i = j := by
  rw [List.getD_eq_getElem?_getD, List.getElem?_eq_getElem hi, List.getD_eq_getElem?_getD, List.getElem?_eq_getElem hj] at e
  rcases Nat.lt_trichotomy i j with h | h | h
  · exact absurd e (List.pairwise_iff_getElem.mp hn i j hi hj h)
  · exact h
  · exact absurd e.symm (List.pairwise_iff_getElem.mp hn j i hj hi h)
theorem range_map_nodup {F : Nat → Nm} {m : Nat} (h : ∀ i j, i < m → j < m → F i = F j → i = j) : ((List.range m).map F).Nodup := by
  rw [List.Nodup, List.pairwise_map]
  refine List.Pairwise.imp_of_mem ?_ (List.nodup_range (n := m))
  intro a b ha hb hab e
  exact hab (h a b (List.mem_range.mp ha) (List.mem_range.mp hb) e)
theorem names_ex (x : Int) (μ : Int) (hm : 0 ≤ μ ∧ μ ≤ 26) : ∃ ks x', m_l_names [.lst [.int x], .val (.int μ)] = .ok (.lst (txs ks)) [.lst [.int x'], .val (.int μ)] ∧ ks.length = μ.toNat ∧ ks.Nodup ∧ ∀ k ∈ ks, NameOk k := by
  obtain ⟨t, x1, e1, a1, a2⟩ := take_d x 26 (by decide) (by decide)
  obtain ⟨p, x2, e2, b1, b2⟩ := take_d x1 3 (by decide) (by decide)
  obtain ⟨z, x3, e3, c1, c2⟩ := take_d x2 8 (by decide) (by decide)
  obtain ⟨tn, rfl⟩ := Int.eq_ofNat_of_zero_le a1
  have s1 : pSl (some (tn : Int)) none (.str (cs az)) = some (.val (.str (cs (az.drop tn)))) := p_slSlo tn (by simp)
  have s2 : pSl none (some (tn : Int)) (.str (cs az)) = some (.val (.str (cs (az.take tn)))) := p_slS tn (by simp)
  have al_nd := rot_nodup tn
  have al_az := @rot_az tn
  have al26 : (az.drop tn ++ az.take tn).length = 26 := by simp; omega
  have hw : (az.drop tn).length + (az.take tn).length ≤ 16777216 := by simp; omega
  generalize hal : az.drop tn ++ az.take tn = al at al_nd al_az al26
  generalize az.drop tn = L1 at s1 hw hal
  generalize az.take tn = L2 at s2 hw hal
  generalize (tn : Int) = τ at e1 a1 a2 s1 s2
  have alw : al.length ≤ 16777216 := by omega
  obtain ⟨zn, rfl⟩ := Int.eq_ofNat_of_zero_le c1
  have s3 : pSl (some 3) (some (3 + (zn : Int))) (.str (cs al)) = some (.val (.str (cs ((al.drop 3).take zn)))) := by
    have := p_slSb (l := al) 3 (3 + zn) alw
    rw [Nat.add_sub_cancel_left, Int.natCast_add] at this
    exact this
  have l3 : ((al.drop 3).take zn).length ≤ 7 := by simp; omega
  have m3 : ∀ c ∈ (al.drop 3).take zn, 97 ≤ c ∧ c ≤ 122 := fun c hc => al_az (List.mem_of_mem_drop (List.mem_of_mem_take hc))
  generalize (al.drop 3).take zn = L3 at s3 l3 m3
  generalize (zn : Int) = ζ at e3 c1 c2 s3
  have rm : -4611686018427387904 ≤ μ ∧ μ < 4611686018427387904 := by omega
  have lr : (List.range μ.toNat).length ≤ 16777216 := by simp; omega
  have el : ∀ i : Nat, i < 26 → pIx [.str (cs al), .int (i : Int)] = some (.val (.str (cs [al.getD i 0]))) := fun i hi => p_ixG (by omega) alw
  have ma : ∀ i : Nat, i < 26 → 97 ≤ al.getD i 0 ∧ al.getD i 0 ≤ 122 := fun i hi => al_az (getD_mem (by omega))
  have inj : ∀ i j : Nat, i < 26 → j < 26 → al.getD i 0 = al.getD j 0 → i = j := fun i j hi hj e => getD_inj al_nd (by omega) (by omega) e
  have fin : ∀ F : Nat → Nm, (∀ i, i < 26 → NameOk (F i)) → (∀ i j, i < 26 → j < 26 → F i = F j → i = j) → ((List.range μ.toNat).map F).length = μ.toNat ∧ ((List.range μ.toNat).map F).Nodup ∧ ∀ k ∈ (List.range μ.toNat).map F, NameOk k := fun F h1 h2 =>
    ⟨by simp, range_map_nodup fun i j hi hj e => h2 i j (by omega) (by omega) e, fun k hk => by
      obtain ⟨i, hi, rfl⟩ := List.mem_map.mp hk
      have := List.mem_range.mp hi
      exact h1 i (by omega)⟩
  obtain rfl | rfl | rfl : p = 0 ∨ p = 1 ∨ p = 2 := by omega
  · refine ⟨(List.range μ.toNat).map fun i => List.replicate (1 + i % 8) (al.getD (i / 8) 0), x3, ?_, fin _ (fun i hi => ⟨by simp, by simp; omega, fun c hc => by rw [List.eq_of_mem_replicate hc]; exact ma _ (by omega)⟩) fun i j hi hj e => ?_⟩
    · simp [m_l_names, b_l_names, e1, e2, e3, s1, s2, hw, hal, p_eq, rm]
      rw [comp1Y _ (fun i => .str (cs (List.replicate (1 + i % 8) (al.getD (i / 8) 0)))) (fun i hi => ⟨.val (.str (cs (List.replicate (1 + i % 8) (al.getD (i / 8) 0)))), ?_, rfl⟩) lr]
      · simp [txs]
      · have hi := List.mem_range.mp hi
        have h1 := el (i / 8) (by omega)
        have h2 := mul_one' (al.getD (i / 8) 0) (1 + i % 8)
        have e8 : ((i / 8 : Nat) : Int) = (i : Int) / 8 := by omega
        have e9 : ((1 + i % 8 : Nat) : Int) = 1 + (i : Int) % 8 := by omega
        have h3 : -4096 ≤ 1 + (i : Int) % 8 ∧ 1 + (i : Int) % 8 ≤ 4096 := by omega
        rw [e8] at h1
        rw [e9] at h2
        generalize List.replicate (1 + i % 8) (al.getD (i / 8) 0) = L at h2
        generalize al.getD (i / 8) 0 = c at h1 h2
        generalize (i : Int) = ι at h1 h2 h3
        have h4 : CDivW ι 8 := cdivW (by decide) (by decide)
        simp [alw] at h1
        simp [alw, h1, h2, h3, h4]
    · have hl := congrArg List.length e
      simp only [List.length_replicate] at hl
      have h0 : (List.replicate (1 + i % 8) (al.getD (i / 8) 0)).head? = (List.replicate (1 + j % 8) (al.getD (j / 8) 0)).head? := congrArg _ e
      rw [Nat.add_comm 1, Nat.add_comm 1, List.replicate_succ, List.replicate_succ] at h0
      have := inj _ _ (by omega) (by omega) (Option.some.inj h0)
      omega
  · refine ⟨(List.range μ.toNat).map fun i => al.getD i 0 :: L3, x3, ?_, fin _ (fun i hi => ⟨by simp, by simp; omega, fun c hc => by
      rcases List.mem_cons.mp hc with rfl | hc
      · exact ma i hi
      · exact m3 c hc⟩) fun i j hi hj e => inj i j hi hj (List.cons.inj e).1⟩
    simp [m_l_names, b_l_names, e1, e2, e3, s1, s2, hw, hal, p_eq, rm]
    rw [comp1Y _ (fun i => .str (cs (al.getD i 0 :: L3))) (fun i hi => ⟨.val (.str (cs (al.getD i 0 :: L3))), ?_, rfl⟩) lr]
    · simp [txs]
    · have h1 := el i (by have := List.mem_range.mp hi; omega)
      have w3 : L3.length + 1 ≤ 16777216 := by omega
      have w4 : 1 + L3.length ≤ 16777216 := by omega
      generalize al.getD i 0 = c at h1
      generalize (i : Int) = ι at h1
      simp [alw] at h1
      simp [alw, h1, s3, w3, w4]
  · refine ⟨(List.range μ.toNat).map fun i => L3 ++ [al.getD i 0], x3, ?_, fin _ (fun i hi => ⟨by simp, by simp; omega, fun c hc => by
      rcases List.mem_append.mp hc with hc | hc
      · exact m3 c hc
      · rw [List.mem_singleton.mp hc]; exact ma i hi⟩) fun i j hi hj e => inj i j hi hj (by simpa using e)⟩
    simp [m_l_names, b_l_names, e1, e2, e3, s1, s2, hw, hal, p_eq, rm]
    rw [comp1Y _ (fun i => .str (cs (L3 ++ [al.getD i 0]))) (fun i hi => ⟨.val (.str (cs (L3 ++ [al.getD i 0]))), ?_, rfl⟩) lr]
    · simp [txs]
    · have h1 := el i (by have := List.mem_range.mp hi; omega)
      have w3 : L3.length + 1 ≤ 16777216 := by omega
      have w4 : 1 + L3.length ≤ 16777216 := by omega
      generalize al.getD i 0 = c at h1
      generalize (i : Int) = ι at h1
      simp [alw] at h1
      simp [alw, h1, s3, w3, w4]
end K

set_option Elab.async false
set_option linter.all false
set_option autoImplicit false
set_option maxRecDepth 100000
set_option maxHeartbeats 1000000
/-! What the law draws: deeds. -/
namespace K
open PySem PySem.Spec PyProof.Rows L2 SD
/-- a slot that holds the names ks -/
def LS (s : Slot) (ks : List Nm) : Prop := s = .lst (txs ks) ∨ s = .val (.list (txs ks))
@[simp] theorem txs_eqv0 (ks : List Nm) : PyData.eqvAll (txs ks) [] = decide (ks = []) := by cases ks <;> simp
/-- what a drawn deed is -/
structure Drawn (some_ spare : List Nm) (d : Dd) : Prop where
  good : d.good
  must : ∀ n ∈ d.must, n ∈ some_
  made : ∀ m, d.made = some m → ∃ r, spare = m :: r
  num : -20 ≤ d.num ∧ d.num ≤ 20
end K

set_option Elab.async false
set_option linter.all false
set_option autoImplicit false
set_option maxRecDepth 100000
set_option maxHeartbeats 1000000
/-! Books, in plain Lean. -/
namespace K
open PySem PySem.Spec PyProof.Rows L2 SD
abbrev Ln := Nm × Dd
def lnD (l : Ln) : D := .tuple [tx l.1, l.2.d]
def lnsD (ls : List Ln) : D := .tuple (ls.map lnD)
def bkD (st : List Th) (ls : List Ln) : D := .tuple [wd st, lnsD ls]
/-- the world behind lines -/
def runW (w : List Th) (ls : List Ln) : List Th := ls.foldl (fun w l => act w l.2) w
/-- lines that can be done, one behind the other -/
def Goes : List Th → List Ln → Prop
  | _, [] => True
  | w, l :: r => (NameOk l.1 ∧ l.2.good ∧ can w l.2) ∧ Goes (act w l.2) r
def madeL (ls : List Ln) : List Nm := ls.filterMap fun l => l.2.made
/-- things with names that are names and places that are places -/
def GoodW (w : List Th) : Prop := ∀ t ∈ w, NameOk t.1 ∧ (0 ≤ t.2.1 ∧ t.2.1 ≤ 999)
/-- numbers up to 20 either way -/
def SmallW (w : List Th) : Prop := ∀ t ∈ w, -20 ≤ t.2.2 ∧ t.2.2 ≤ 20
def SmallL (ls : List Ln) : Prop := ∀ l ∈ ls, -20 ≤ l.2.num ∧ l.2.num ≤ 20
structure OkB (st : List Th) (ls : List Ln) : Prop where
  rise : Rise st
  good : GoodW st
  goes : Goes st ls
  once : (names st ++ madeL ls).Nodup
theorem goes_app {ls r : List Ln} : ∀ {w : List Th}, Goes w (ls ++ r) ↔ Goes w ls ∧ Goes (runW w ls) r := by
  induction ls with
  | nil => intro w; simp [Goes, runW]
  | cons l ls ih =>
    intro w
    rw [List.cons_append]
    show (_ ∧ Goes _ (ls ++ r)) ↔ (_ ∧ Goes _ ls) ∧ _
    rw [ih]
    exact and_assoc.symm
theorem runW_app (w : List Th) (ls r : List Ln) : runW w (ls ++ r) = runW (runW w ls) r := List.foldl_append ..
theorem ins_len (t : Th) (w : List Th) : (insT t w).length = w.length + 1 := by
  rw [(ins_perm t w).length_eq]; simp
theorem wth_le (w : List Th) (t : Th) : (wth w t).length ≤ w.length + 1 := by
  unfold wth
  rw [ins_len]
  have : (rem w t.1).length ≤ w.length := List.length_filter_le _ _
  omega
theorem rem_le (w : List Th) (n : Nm) : (rem w n).length ≤ w.length := List.length_filter_le _ _
theorem act_len (w : List Th) (d : Dd) : (act w d).length ≤ w.length + 2 := by
  cases d with
  | put n p k => have := wth_le w (n, p, k); simp only [act]; omega
  | take n => have := rem_le w n; simp only [act]; omega
  | move n p => simp only [act]; split; (rename_i x _; have := wth_le w (n, p, x.2); omega); omega
  | count n k => simp only [act]; split; (rename_i x _; have := wth_le w (n, x.1, x.2 + k); omega); omega
  | name n m => simp only [act]; split; (rename_i x _; have := wth_le (rem w n) (m, x.1, x.2); have := rem_le w n; omega); omega
  | split n m p k => simp only [act]; split; (rename_i x _; have := wth_le (wth w (n, x.1, x.2 - k)) (m, p, k); have := wth_le w (n, x.1, x.2 - k); omega); omega
  | join n m => simp only [act]; split; (rename_i x y _ _; have := wth_le (rem w m) (n, x.1, x.2 + y.2); have := rem_le w m; omega); omega
/-- the names behind a deed -/
theorem names_act {w : List Th} {d : Dd} (c : can w d) (t : d.two) (q : Nm) : q ∈ names (act w d) ↔ (q ∈ names w ∧ d.ended ≠ some q) ∨ d.made = some q := by
  rw [← val_some, ← val_some, val_act c t]
  cases d with
  | put n p k =>
    by_cases h : q = n
    · simp [eff, Dd.ended, Dd.made, h]
    · simp [eff, Dd.ended, Dd.made, h, Ne.symm h]
  | take n =>
    by_cases h : q = n
    · simp [eff, Dd.ended, Dd.made, h]
    · simp [eff, Dd.ended, Dd.made, h, Ne.symm h]
  | move n p =>
    obtain ⟨x, hx⟩ := can_must c (n := n) (by simp [Dd.must])
    by_cases h : q = n <;> simp [eff, Dd.ended, Dd.made, h, hx]
  | count n k =>
    obtain ⟨x, hx⟩ := can_must c (n := n) (by simp [Dd.must])
    by_cases h : q = n <;> simp [eff, Dd.ended, Dd.made, h, hx]
  | name n m =>
    obtain ⟨x, hx⟩ := can_must c (n := n) (by simp [Dd.must])
    by_cases h : q = m
    · subst h; simp [eff, Dd.ended, Dd.made, hx]
    · by_cases h2 : q = n
      · subst h2; simp [eff, Dd.ended, Dd.made, h, Ne.symm h]
      · simp [eff, Dd.ended, Dd.made, h, h2, Ne.symm h, Ne.symm h2]
  | split n m p k =>
    obtain ⟨x, hx⟩ := can_must c (n := n) (by simp [Dd.must])
    by_cases h : q = m
    · subst h; simp [eff, Dd.ended, Dd.made]
    · by_cases h2 : q = n
      · subst h2; simp [eff, Dd.ended, Dd.made, h, hx]
      · simp [eff, Dd.ended, Dd.made, h, h2, Ne.symm h]
  | join n m =>
    obtain ⟨x, hx⟩ := can_must c (n := n) (by simp [Dd.must])
    obtain ⟨y, hy⟩ := can_must c (n := m) (by simp [Dd.must])
    have t' : n ≠ m := t
    by_cases h : q = n
    · subst h; simp [eff, Dd.ended, Dd.made, hx, hy, Ne.symm t']
    · by_cases h2 : q = m
      · subst h2; simp [eff, Dd.ended, Dd.made, h]
      · simp [eff, Dd.ended, Dd.made, h, h2, Ne.symm h2]
end K

set_option Elab.async false
set_option linter.all false
set_option autoImplicit false
set_option maxRecDepth 100000
set_option maxHeartbeats 1000000
/-! Good worlds, equality of data. -/
namespace K
open PySem PySem.Spec PyProof.Rows L2 SD
/-! ### equality -/
@[simp] theorem th_eqv (a b : Th) : PyData.eqv (th a) (th b) = decide (a = b) := by
  obtain ⟨n, p, c⟩ := a
  obtain ⟨m, q, d⟩ := b
  by_cases h1 : n = m <;> by_cases h2 : p = q <;> by_cases h3 : c = d <;> simp [th, tx, h1, h2, h3]
theorem map_eqv {α : Type} [DecidableEq α] {T : α → D} (h : ∀ a b, PyData.eqv (T a) (T b) = decide (a = b)) : ∀ a b : List α, PyData.eqvAll (a.map T) (b.map T) = decide (a = b)
  | [], [] => by simp
  | [], b :: l => by simp
  | a :: l, [] => by simp
  | a :: l, b :: m => by
    rw [List.map_cons, List.map_cons, eqv_cons, h, map_eqv h l m]
    by_cases h1 : a = b <;> by_cases h2 : l = m <;> simp [h1, h2]
theorem map_plain {α : Type} {T : α → D} (h : ∀ a, PyData.plain (T a) = true) : ∀ a : List α, PyData.plainAll (a.map T) = true
  | [] => rfl
  | a :: l => by simp [h, map_plain h l]
theorem map_depth {α : Type} {T : α → D} {n : Nat} (h : ∀ a, PyData.depth (T a) ≤ n) : ∀ a : List α, PyData.depthAll (a.map T) ≤ n
  | [] => by simp
  | a :: l => by have := h a; have := map_depth h l; simp; omega
theorem depth_tup (l : List D) : PyData.depth (.tuple l) = PyData.depthAll l + 1 := by simp [Nat.add_comm]
@[simp] theorem dd_eqv (a b : Dd) : PyData.eqv a.d b.d = decide (a = b) := by
  cases a with
  | put n p k => cases b with
    | put n' p' k' => by_cases h1 : n = n' <;> by_cases h2 : p = p' <;> by_cases h3 : k = k' <;> simp [Dd.d, Dd.ds, tx, h1, h2, h3]
    | _ => simp [Dd.d, Dd.ds, tx, kput, ktake, kmove, kcount, kname, ksplit, kjoin]
  | take n => cases b with
    | take n' => simp [Dd.d, Dd.ds, tx]
    | _ => simp [Dd.d, Dd.ds, tx, kput, ktake, kmove, kcount, kname, ksplit, kjoin]
  | move n p => cases b with
    | move n' p' => by_cases h1 : n = n' <;> by_cases h2 : p = p' <;> simp [Dd.d, Dd.ds, tx, h1, h2]
    | _ => simp [Dd.d, Dd.ds, tx, kput, ktake, kmove, kcount, kname, ksplit, kjoin]
  | count n p => cases b with
    | count n' p' => by_cases h1 : n = n' <;> by_cases h2 : p = p' <;> simp [Dd.d, Dd.ds, tx, h1, h2]
    | _ => simp [Dd.d, Dd.ds, tx, kput, ktake, kmove, kcount, kname, ksplit, kjoin]
  | name n p => cases b with
    | name n' p' => by_cases h1 : n = n' <;> by_cases h2 : p = p' <;> simp [Dd.d, Dd.ds, tx, h1, h2]
    | _ => simp [Dd.d, Dd.ds, tx, kput, ktake, kmove, kcount, kname, ksplit, kjoin]
  | split n m p k => cases b with
    | split n' m' p' k' => by_cases h1 : n = n' <;> by_cases h0 : m = m' <;> by_cases h2 : p = p' <;> by_cases h3 : k = k' <;> simp [Dd.d, Dd.ds, tx, h0, h1, h2, h3]
    | _ => simp [Dd.d, Dd.ds, tx, kput, ktake, kmove, kcount, kname, ksplit, kjoin]
  | join n p => cases b with
    | join n' p' => by_cases h1 : n = n' <;> by_cases h2 : p = p' <;> simp [Dd.d, Dd.ds, tx, h1, h2]
    | _ => simp [Dd.d, Dd.ds, tx, kput, ktake, kmove, kcount, kname, ksplit, kjoin]
@[simp] theorem dd_plain (d : Dd) : PyData.plain d.d = true := by cases d <;> simp [Dd.d, Dd.ds, tx]
@[simp] theorem dd_depth (d : Dd) : PyData.depth d.d = 1 := by cases d <;> simp [Dd.d, Dd.ds, tx]
@[simp] theorem wd_eqv (a b : List Th) : PyData.eqv (wd a) (wd b) = decide (a = b) := map_eqv th_eqv a b
@[simp] theorem wd_plain (a : List Th) : PyData.plain (wd a) = true := by
  show PyData.plain (.tuple _) = true
  simp [map_plain (T := th) (fun a => by simp [th, tx])]
theorem wd_depth (a : List Th) : PyData.depth (wd a) ≤ 2 := by
  have := map_depth (T := th) (n := 1) (fun a => by simp [th, tx]) a
  unfold wd
  rw [depth_tup]
  omega
@[simp] theorem wd_d60 (a : List Th) : (PyData.depth (wd a) ≤ 60) = True := by
  have := wd_depth a
  simp only [eq_iff_iff, iff_true]
  omega
@[simp] theorem wd_eqOk (a : List Th) (x : D) : eqOk (wd a) x = PyData.plain x := by
  have := wd_depth a
  rw [eqOk_iff, wd_plain, decide_eq_true (by omega)]
  simp
@[simp] theorem dd_eqOk (d : Dd) (x : D) : eqOk d.d x = PyData.plain x := by
  rw [eqOk_iff, dd_plain, dd_depth, decide_eq_true (by omega)]
  simp
@[simp] theorem ln_eqv (a b : Ln) : PyData.eqv (lnD a) (lnD b) = decide (a = b) := by
  obtain ⟨n, d⟩ := a
  obtain ⟨m, e⟩ := b
  by_cases h1 : n = m <;> by_cases h2 : d = e <;> simp [lnD, tx, h1, h2]
@[simp] theorem ln_plain (a : Ln) : PyData.plain (lnD a) = true := by simp [lnD, tx]
@[simp] theorem ln_depth (a : Ln) : PyData.depth (lnD a) = 2 := by simp [lnD, tx]
@[simp] theorem lns_eqv (a b : List Ln) : PyData.eqv (lnsD a) (lnsD b) = decide (a = b) := map_eqv ln_eqv a b
@[simp] theorem lns_plain (a : List Ln) : PyData.plain (lnsD a) = true := by
  show PyData.plain (.tuple _) = true
  simp [map_plain (T := lnD) ln_plain]
theorem lns_depth (a : List Ln) : PyData.depth (lnsD a) ≤ 3 := by
  have := map_depth (T := lnD) (n := 2) (fun a => by simp) a
  unfold lnsD
  rw [depth_tup]
  omega
@[simp] theorem lns_d60 (a : List Ln) : (PyData.depth (lnsD a) ≤ 60) = True := by
  have := lns_depth a
  simp only [eq_iff_iff, iff_true]
  omega
@[simp] theorem bk_eqv (a b : List Th) (l m : List Ln) : PyData.eqv (bkD a l) (bkD b m) = decide (a = b ∧ l = m) := by
  by_cases h1 : a = b <;> by_cases h2 : l = m <;> simp [bkD, h1, h2]
@[simp] theorem bk_plain (a : List Th) (l : List Ln) : PyData.plain (bkD a l) = true := by simp [bkD]
theorem bk_depth (a : List Th) (l : List Ln) : PyData.depth (bkD a l) ≤ 4 := by
  have := wd_depth a
  have := lns_depth l
  simp [bkD]
  omega
@[simp] theorem bk_d60 (a : List Th) (l : List Ln) : (PyData.depth (bkD a l) ≤ 60) = True := by
  have := bk_depth a l
  simp only [eq_iff_iff, iff_true]
  omega
@[simp] theorem bk_eqOk (a : List Th) (l : List Ln) (x : D) : eqOk (bkD a l) x = PyData.plain x := by
  have := bk_depth a l
  rw [eqOk_iff, bk_plain, decide_eq_true (by omega)]
  simp
/-! ### how books are read, without opening them -/
end K

set_option Elab.async false
set_option linter.all false
set_option autoImplicit false
set_option maxRecDepth 100000
set_option maxHeartbeats 1000000
/-! What the law draws: names behind a deed, the start. -/
namespace K
open PySem PySem.Spec PyProof.Rows L2 SD
/-- the law's lists behind a deed -/
def aftS (some_ : List Nm) : Dd → List Nm
  | .put m _ _ => some_ ++ [m]
  | .name n m => some_.filter (fun q => !decide (q = n)) ++ [m]
  | .split _ m _ _ => some_ ++ [m]
  | .take n => some_.filter fun q => !decide (q = n)
  | .join _ m => some_.filter fun q => !decide (q = m)
  | _ => some_
def aftP (spare : List Nm) (d : Dd) : List Nm := if d.made = none then spare else spare.drop 1
end K

set_option Elab.async false
set_option linter.all false
set_option autoImplicit false
set_option maxRecDepth 100000
set_option maxHeartbeats 1000000
namespace K
open PySem PySem.Spec PyProof.Rows L2 SD
def sortT : List Th → List Th
  | [] => []
  | t :: w => insT t (sortT w)
end K

set_option Elab.async false
set_option linter.all false
set_option autoImplicit false
set_option maxRecDepth 100000
set_option maxHeartbeats 1000000
/-! What the law draws: books. -/
namespace K
open PySem PySem.Spec PyProof.Rows L2 SD
theorem names_runW {st : List Th} {ls : List Ln} (h : Goes st ls) {q : Nm} (hq : q ∈ names (runW st ls)) : q ∈ names st ∨ q ∈ madeL ls := by
  induction ls generalizing st with
  | nil => exact .inl hq
  | cons l ls ih =>
    rcases ih h.2 hq with h2 | h2
    · rcases (names_act h.1.2.2 (good_two h.1.2.1) q).mp h2 with h3 | h3
      · exact .inl h3.1
      · exact .inr (by simp [madeL, h3])
    · refine .inr ?_
      unfold madeL at h2 ⊢
      rw [List.filterMap_cons]
      split
      · exact h2
      · exact List.mem_cons_of_mem _ h2
/-- how the law's lists stand to the book that is made so far -/
structure BInv (st : List Th) (ls : List Ln) (some_ spare : List Nm) : Prop where
  goes : Goes st ls
  mem : ∀ q, q ∈ some_ ↔ q ∈ names (runW st ls)
  len : some_.length + spare.length ≤ 26
  ok1 : ∀ q ∈ some_, NameOk q
  ok2 : ∀ q ∈ spare, NameOk q
  nd : spare.Nodup
  new : ∀ q ∈ spare, q ∉ names st ∧ q ∉ madeL ls
  once : (names st ++ madeL ls).Nodup
  small : SmallL ls
theorem BInv.dj {st : List Th} {ls : List Ln} {some_ spare : List Nm} (b : BInv st ls some_ spare) : ∀ n ∈ some_, n ∉ spare := fun n hn hs => by
  rcases names_runW b.goes ((b.mem n).mp hn) with h | h
  · exact (b.new n hs).1 h
  · exact (b.new n hs).2 h
theorem BInv.step {st : List Th} {ls : List Ln} {some_ spare : List Nm} (b : BInv st ls some_ spare) {hand : Nm} (hh : NameOk hand) {d : Dd} (dr : Drawn some_ spare d) : BInv st (ls ++ [(hand, d)]) (aftS some_ d) (aftP spare d) := by
  have cn : can (runW st ls) d := by
    refine ⟨fun n hn => (b.mem n).mp (dr.must n hn), fun m hm hc => ?_⟩
    obtain ⟨r, e⟩ := dr.made m hm
    exact b.dj m ((b.mem m).mpr hc) (by rw [e]; exact List.mem_cons_self)
  have two := good_two dr.good
  have hr : runW st (ls ++ [(hand, d)]) = act (runW st ls) d := by rw [runW_app]; rfl
  have hm : madeL (ls ++ [(hand, d)]) = madeL ls ++ (match d.made with | some m => [m] | none => []) := by
    unfold madeL
    rw [List.filterMap_append]
    cases h : d.made <;> simp [h]
  have aft : ∀ q, q ∈ aftS some_ d ↔ (q ∈ some_ ∧ d.ended ≠ some q) ∨ d.made = some q := fun q => by
    cases d with
    | put m p k => simp [aftS, Dd.ended, Dd.made, @eq_comm _ q]
    | take n => simp [aftS, Dd.ended, Dd.made, @eq_comm _ q]
    | move n p => simp [aftS, Dd.ended, Dd.made]
    | count n p => simp [aftS, Dd.ended, Dd.made]
    | name n m => simp [aftS, Dd.ended, Dd.made, @eq_comm _ q]
    | split n m p k => simp [aftS, Dd.ended, Dd.made, @eq_comm _ q]
    | join n m => simp [aftS, Dd.ended, Dd.made, @eq_comm _ q]
  have fl : ∀ n : Nm, (some_.filter fun q => !decide (q = n)).length ≤ some_.length := fun n => List.length_filter_le _ _
  have bl := b.len
  refine ⟨goes_app.mpr ⟨b.goes, ⟨hh, dr.good, cn⟩, trivial⟩, fun q => ?_, ?_, fun q hq => ?_, fun q hq => ?_, ?_, fun q hq => ?_, ?_, fun l hl => by
    rcases List.mem_append.mp hl with h | h
    · exact b.small l h
    · rw [List.mem_singleton.mp h]; exact dr.num⟩
  · rw [hr, aft, names_act cn two, b.mem]
  · have pos : ∀ m, d.made = some m → 0 < spare.length := fun m hm => by
      obtain ⟨r, e⟩ := dr.made m hm
      rw [e]; simp
    cases d with
    | put m p k => have := pos m rfl; simp [aftS, aftP, Dd.made]; omega
    | take n => have := fl n; simp [aftS, aftP, Dd.made]; omega
    | move n p => simp [aftS, aftP, Dd.made]; omega
    | count n k => simp [aftS, aftP, Dd.made]; omega
    | name n m => have := pos m rfl; have := fl n; simp [aftS, aftP, Dd.made]; omega
    | split n m p k => have := pos m rfl; simp [aftS, aftP, Dd.made]; omega
    | join n m => have := fl m; simp [aftS, aftP, Dd.made]; omega
  · rcases (aft q).mp hq with h | h
    · exact b.ok1 q h.1
    · obtain ⟨r, e⟩ := dr.made q h
      exact b.ok2 q (by rw [e]; exact List.mem_cons_self)
  · refine b.ok2 q ?_
    unfold aftP at hq
    split at hq
    · exact hq
    · exact List.mem_of_mem_drop hq
  · unfold aftP
    split
    · exact b.nd
    · exact List.Nodup.sublist (List.drop_sublist _ _) b.nd
  · unfold aftP at hq
    split at hq
    · rename_i h
      rw [hm, h]
      simpa using b.new q hq
    · rename_i h
      obtain ⟨m, e⟩ := Option.ne_none_iff_exists'.mp h
      obtain ⟨r, es⟩ := dr.made m e
      rw [es] at hq
      have hq' : q ∈ r := by simpa using hq
      have := b.new q (by rw [es]; exact List.mem_cons_of_mem _ hq')
      rw [hm, e]
      have nd := b.nd
      rw [es, List.nodup_cons] at nd
      refine ⟨this.1, fun hc => ?_⟩
      rcases List.mem_append.mp hc with hc | hc
      · exact this.2 hc
      · rw [List.mem_singleton.mp hc] at hq'
        exact nd.1 hq'
  · rw [hm, ← List.append_assoc]
    cases e : d.made with
    | none => simpa using b.once
    | some m =>
      obtain ⟨r, es⟩ := dr.made m e
      have nw := b.new m (by rw [es]; exact List.mem_cons_self)
      rw [List.nodup_append]
      refine ⟨b.once, by simp, fun x hx y hy exy => ?_⟩
      have : y = m := by simpa using hy
      subst this
      subst exy
      rcases List.mem_append.mp hx with h | h
      · exact nw.1 h
      · exact nw.2 h
end K

set_option Elab.async false
set_option linter.all false
set_option autoImplicit false
set_option maxRecDepth 100000
set_option maxHeartbeats 1000000
/-! Books by the numbers of their lines: needs, stands. -/
namespace K
open PySem PySem.Spec PyProof.Rows L2 SD
theorem goes_at {st : List Th} {ls : List Ln} (h : Goes st ls) {i : Nat} (hi : i < ls.length) : (NameOk ls[i].1 ∧ ls[i].2.good ∧ can (runW st (ls.take i)) ls[i].2) ∧ runW st (ls.take (i + 1)) = act (runW st (ls.take i)) ls[i].2 := by
  have e : ls = ls.take i ++ ls[i] :: ls.drop (i + 1) := by rw [← List.drop_eq_getElem_cons hi, List.take_append_drop]
  have h2 := h
  rw [e, goes_app] at h2
  refine ⟨h2.2.1, ?_⟩
  rw [List.take_succ_eq_append_getElem hi, runW_app]
  rfl
/-- the line of a number -/
def ln (ls : List Ln) (i : Nat) : Ln := ls.getD i ([], .take [])
theorem ln_get {ls : List Ln} {i : Nat} (h : i < ls.length) : ln ls i = ls[i] := by simp [ln, h]
/-- the number of the line that makes a name -/
def mkr (ls : List Ln) (n : Nm) : Option Nat := ls.findIdx? fun l => decide (l.2.made = some n)
theorem madeL_mem {ls : List Ln} {n : Nm} : n ∈ madeL ls ↔ ∃ i, i < ls.length ∧ (ln ls i).2.made = some n := by
  unfold madeL
  rw [List.mem_filterMap]
  constructor
  · rintro ⟨l, hl, e⟩
    obtain ⟨i, hi, rfl⟩ := List.mem_iff_getElem.mp hl
    exact ⟨i, hi, by rw [ln_get hi]; exact e⟩
  · rintro ⟨i, hi, e⟩
    exact ⟨ls[i], List.getElem_mem hi, by rw [← ln_get hi]; exact e⟩
theorem madeL_uniq : ∀ {ls : List Ln}, (madeL ls).Nodup → ∀ {i j : Nat} {n : Nm}, i < ls.length → j < ls.length → (ln ls i).2.made = some n → (ln ls j).2.made = some n → i = j
  | [], _, i, _, _, hi, _, _, _ => by cases hi
  | l :: ls, h, i, j, n, hi, hj, e1, e2 => by
    have hc : ∀ k, ln (l :: ls) (k + 1) = ln ls k := fun k => rfl
    have hm : l.2.made = some n → n ∉ madeL ls := fun e => by
      unfold madeL at h ⊢
      rw [List.filterMap_cons, e] at h
      exact (List.nodup_cons.mp h).1
    have ht : (madeL ls).Nodup := by
      unfold madeL at h ⊢
      rw [List.filterMap_cons] at h
      split at h
      · exact h
      · exact (List.nodup_cons.mp h).2
    cases i with
    | zero => cases j with
      | zero => rfl
      | succ j => exact absurd (madeL_mem.mpr ⟨j, by simpa using hj, e2⟩) (hm e1)
    | succ i => cases j with
      | zero => exact absurd (madeL_mem.mpr ⟨i, by simpa using hi, e1⟩) (hm e2)
      | succ j => rw [madeL_uniq ht (by simpa using hi) (by simpa using hj) e1 e2]
section
variable {st : List Th} {ls : List Ln} (o : OkB st ls)
include o
theorem OkB.uniq {i j : Nat} {n : Nm} (hi : i < ls.length) (hj : j < ls.length) (e1 : (ln ls i).2.made = some n) (e2 : (ln ls j).2.made = some n) : i = j :=
  madeL_uniq (List.nodup_append.mp o.once).2.1 hi hj e1 e2
theorem OkB.nost {i : Nat} {n : Nm} (hi : i < ls.length) (e : (ln ls i).2.made = some n) : n ∉ names st := fun h =>
  (List.nodup_append.mp o.once).2.2 n h n (madeL_mem.mpr ⟨i, hi, e⟩) rfl
theorem OkB.line {i : Nat} (hi : i < ls.length) : NameOk (ln ls i).1 ∧ (ln ls i).2.good ∧ can (runW st (ls.take i)) (ln ls i).2 := by
  rw [ln_get hi]; exact (goes_at o.goes hi).1
/-- what stands behind the first lines -/
theorem OkB.stands {i : Nat} (hi : i ≤ ls.length) (q : Nm) : q ∈ names (runW st (ls.take i)) ↔ (q ∈ names st ∨ ∃ j, j < i ∧ (ln ls j).2.made = some q) ∧ ∀ j, j < i → (ln ls j).2.ended ≠ some q := by
  induction i with
  | zero => simp [runW]
  | succ i ih =>
    have hi' : i < ls.length := by omega
    have e := (goes_at o.goes hi').2
    obtain ⟨-, g, c⟩ := o.line hi'
    rw [e, ← ln_get hi', names_act c (good_two g), ih (by omega)]
    constructor
    · rintro (⟨⟨h1, h2⟩, h3⟩ | h)
      · refine ⟨h1.imp id fun ⟨j, hj, e⟩ => ⟨j, by omega, e⟩, fun j hj => ?_⟩
        by_cases hji : j = i
        · subst hji; exact h3
        · exact h2 j (by omega)
      · refine ⟨.inr ⟨i, by omega, h⟩, fun j hj he => ?_⟩
        -- what is ended by j stands ahead of it
        have hj' : j < ls.length := by omega
        obtain ⟨-, gj, cj⟩ := o.line hj'
        have must : q ∈ (ln ls j).2.must := by
          cases hd : (ln ls j).2 <;> rw [hd] at he <;> simp [Dd.ended] at he <;> subst he <;> simp [Dd.must]
        have st1 := cj.1 q must
        by_cases hji : j = i
        · subst hji
          exact cj.2 q h st1
        · -- q stands ahead of j: made ahead of it, or at the start
          have hlt : j < i := by omega
          have key : q ∈ names st ∨ ∃ k, k < j ∧ (ln ls k).2.made = some q := by
            rcases Classical.em (q ∈ names st ∨ ∃ k, k < j ∧ (ln ls k).2.made = some q) with h | h
            · exact h
            · exfalso
              have : ∀ k, k ≤ j → q ∉ names (runW st (ls.take k)) := by
                intro k
                induction k with
                | zero => intro _ hq; exact h (.inl hq)
                | succ k ihk =>
                  intro hk hq
                  have hk' : k < ls.length := by omega
                  obtain ⟨-, gk, ck⟩ := o.line hk'
                  rw [(goes_at o.goes hk').2, ← ln_get hk', names_act ck (good_two gk)] at hq
                  rcases hq with ⟨hq, -⟩ | hq
                  · exact ihk (by omega) hq
                  · exact h (.inr ⟨k, by omega, hq⟩)
              exact this j (Nat.le_refl _) st1
          rcases key with h1 | ⟨k, hk, ek⟩
          · exact o.nost hi' h h1
          · have := o.uniq (by omega) hi' ek h
            omega
    · rintro ⟨h1, h2⟩
      by_cases hm : (ln ls i).2.made = some q
      · exact .inr hm
      · refine .inl ⟨⟨?_, fun j hj => h2 j (by omega)⟩, h2 i (by omega)⟩
        rcases h1 with h1 | ⟨j, hj, e5⟩
        · exact .inl h1
        · by_cases hji : j = i
          · subst hji; exact absurd e5 hm
          · exact .inr ⟨j, by omega, e5⟩
end
end K

set_option Elab.async false
set_option linter.all false
set_option autoImplicit false
set_option maxRecDepth 100000
set_option maxHeartbeats 1000000
/-! Lines that hold with each line all that it needs are a book of their own. -/
namespace K
open PySem PySem.Spec PyProof.Rows L2 SD
/-- the lines of some numbers -/
def pick (ls : List Ln) (is : List Nat) : List Ln := is.map (ln ls)
/-- rising numbers of lines -/
def RiseN (n : Nat) (is : List Nat) : Prop := is.Pairwise (· < ·) ∧ ∀ i ∈ is, i < n
/-- with each line all that it needs -/
def Closed (ls : List Ln) (is : List Nat) : Prop := ∀ i ∈ is, ∀ n ∈ (ln ls i).2.must, ∀ j, j < ls.length → (ln ls j).2.made = some n → j ∈ is
section
variable {st : List Th} {ls : List Ln} (o : OkB st ls)
include o
end
end K

set_option Elab.async false
set_option linter.all false
set_option autoImplicit false
set_option maxRecDepth 100000
set_option maxHeartbeats 1000000
/-! Numbers of lines as data; what goes with struck lines. -/
namespace K
open PySem PySem.Spec PyProof.Rows L2 SD
/-- a number or None -/
def oN : Option Nat → D
  | some a => .int (a : Int)
  | none => .none
def natD (l : List Nat) : List D := l.map fun i : Nat => PyData.int (i : Int)
@[simp] theorem natD_nil : natD [] = [] := rfl
@[simp] theorem natD_cons (a : Nat) (l : List Nat) : natD (a :: l) = .int (a : Int) :: natD l := rfl
@[simp] theorem natD_len (l : List Nat) : (natD l).length = l.length := by simp [natD]
@[simp] theorem natD_plain (l : List Nat) : PyData.plainAll (natD l) = true := by
  induction l with
  | nil => rfl
  | cons a l ih => simp [ih]
@[simp] theorem natD_depth (l : List Nat) : PyData.depthAll (natD l) = 0 := by
  induction l with
  | nil => rfl
  | cons a l ih => simp [ih]
@[simp] theorem natD_has (k : Nat) (l : List Nat) : hasD (.int (k : Int)) (natD l) = decide (k ∈ l) := by
  induction l with
  | nil => simp
  | cons a l ih =>
    rw [natD_cons, hasD1, ih]
    by_cases h : k = a
    · subst h; simp
    · have : ¬ (a : Int) = (k : Int) := by omega
      simp [h, this]
@[simp] theorem natD_eqv (a b : List Nat) : PyData.eqvAll (natD a) (natD b) = decide (a = b) := by
  induction a generalizing b with
  | nil => cases b <;> simp
  | cons x a ih =>
    cases b with
    | nil => simp
    | cons y b =>
      rw [natD_cons, natD_cons, eqv_cons, ih]
      by_cases h1 : x = y
      · by_cases h2 : a = b <;> simp [h1, h2]
      · have : ¬ (x : Int) = (y : Int) := by omega
        by_cases h2 : a = b <;> simp [h1, h2, this]
@[simp] theorem natD_eqv0 (a : List Nat) : PyData.eqvAll (natD a) [] = decide (a = []) := by cases a <;> simp
/-! ### what a line needs -/
def needN (ls : List Ln) (d : Dd) : List Nat := (setI ((d.must.filterMap (mkr ls)).map fun k : Nat => (k : Int))).map Int.toNat
/-! ### what goes -/
/-- for each line that goes the line ahead of it in a chain -/
def clo (ls : List Ln) (S : List Nat) : Nat → List (Nat × Option Nat)
  | 0 => []
  | k + 1 => if k ∈ S then clo ls S k ++ [(k, none)] else
      match (needN ls (ln ls k).2).filter fun j => decide (j ∈ (clo ls S k).map (·.1)) with
      | [] => clo ls S k
      | a :: _ => clo ls S k ++ [(k, some a)]
def goneK (ls : List Ln) (S : List Nat) (k : Nat) : List Nat := (clo ls S k).map (·.1)
def gone (ls : List Ln) (S : List Nat) : List Nat := goneK ls S ls.length
section
variable {st : List Th} {ls : List Ln} (o : OkB st ls)
include o
end
/-- the numbers of the lines that don't go -/
def keptN (n : Nat) (out : List Nat) : List Nat := (List.range n).filter fun i => !decide (i ∈ out)
end K

set_option Elab.async false
set_option linter.all false
set_option autoImplicit false
set_option maxRecDepth 100000
set_option maxHeartbeats 1000000
namespace K
open PySem PySem.Spec PyProof.Rows L2 SD
end K

set_option Elab.async false
set_option linter.all false
set_option autoImplicit false
set_option maxRecDepth 100000
set_option maxHeartbeats 1000000
/-! Loops and lists by places; dicts; more. -/
namespace K
open PySem PySem.Spec PyProof.Rows L2 SD
def r2O (ρ : En) (o : Option (List D)) : Out (List D) := match o with
  | some [.int i, .int j] => if -(2 ^ 62) ≤ i ∧ i < 2 ^ 62 ∧ -(2 ^ 62) ≤ j ∧ j < 2 ^ 62 then .ok ((List.range (j - i).toNat).map fun k => PyData.int (i + (k : Nat))) ρ else .bad
  | _ => .bad
def r2K (o : Out (List SD.Arg)) : Out (List D) := o.bind fun gs ρ' => r2O ρ' (argDs ρ' gs)
@[simp] theorem ev_r2 {as : List AE} {ρ : En} : mRange2 as ρ = r2K (evAs as ρ) := by
  unfold mRange2 r2K r2O
  rfl
@[simp] theorem ev_r2K {gs : List SD.Arg} {ρ : En} : r2K (.ok gs ρ) = r2O ρ (argDs ρ gs) := rfl
@[simp] theorem ev_r2O {i j : Int} {ρ : En} : r2O ρ (some [.int i, .int j]) = if -4611686018427387904 ≤ i ∧ i < 4611686018427387904 ∧ -4611686018427387904 ≤ j ∧ j < 4611686018427387904 then .ok ((List.range (j - i).toNat).map fun k : Nat => PyData.int (i + (k : Int))) ρ else .bad := rfl
theorem comp_map {α : Type} {v : Nat} {c : M Bool} {f : M Slot} {ρ : En} {L : List α} (T : α → D) (b : α → Bool) (F : α → D)
    (h : ∀ a ∈ L, c (ρ.set v (.val (T a))) = .ok (b a) (ρ.set v (.val (T a))) ∧ (b a = true → ∃ s, f (ρ.set v (.val (T a))) = .ok s (ρ.set v (.val (T a))) ∧ s.data = some (F a))) (hl : L.length ≤ 16777216) :
    compR [v] (gNm v) c f (L.map T) ρ = .ok (.lst ((L.filter b).map F)) ρ := comp1 T b F h hl
theorem cs_inj' {a b : Nm} : (Sum.inr (cs a) : Key) = .inr (cs b) ↔ a = b := by simp
/-- a loop over a list, by places -/
theorem for_atK {α : Type} {g : Tg} {body : M Fl} (T : α → D) (I : Nat → En → Prop) : ∀ (L : List α) (k : Nat) (ρ : En), I k ρ →
    (∀ i (h : i < L.length) ρ, I (k + i) ρ → ∃ ρ1 ρ2, g (T L[i]) ρ = some ρ1 ∧ body ρ1 = .ok .next ρ2 ∧ I (k + i + 1) ρ2) →
    ∃ ρ', forL g body (L.map T) ρ = .ok .next ρ' ∧ I (k + L.length) ρ'
  | [], k, ρ, h, _ => ⟨ρ, rfl, h⟩
  | a :: L, k, ρ, h, st => by
    obtain ⟨ρ1, ρ2, e1, e2, i2⟩ := st 0 (by simp) ρ h
    obtain ⟨ρ', e, i'⟩ := for_atK T I L (k + 1) ρ2 i2 fun i hi ρ h => by
      have := st (i + 1) (by simp; omega) ρ (by rw [← Nat.add_assoc, Nat.add_right_comm]; exact h)
      rw [← Nat.add_assoc, Nat.add_right_comm k i 1] at this
      exact this
    refine ⟨ρ', ?_, by rw [List.length_cons, Nat.add_comm L.length 1, ← Nat.add_assoc]; exact i'⟩
    simp only [List.getElem_cons_zero] at e1
    rw [List.map_cons, ev_forL1, e1]
    simp only [e2]
    exact e
theorem for_at {α : Type} {g : Tg} {body : M Fl} (T : α → D) (I : Nat → En → Prop) (L : List α) (ρ : En) (h : I 0 ρ)
    (st : ∀ i (h : i < L.length) ρ, I i ρ → ∃ ρ1 ρ2, g (T L[i]) ρ = some ρ1 ∧ body ρ1 = .ok .next ρ2 ∧ I (i + 1) ρ2) :
    ∃ ρ', forL g body (L.map T) ρ = .ok .next ρ' ∧ I L.length ρ' := by
  obtain ⟨ρ', e, i⟩ := for_atK T I L 0 ρ h fun i hi ρ h => by
    rw [Nat.zero_add] at h ⊢
    exact st i hi ρ h
  rw [Nat.zero_add] at i
  exact ⟨ρ', e, i⟩
theorem for_range {g : Tg} {body : M Fl} (n : Nat) (I : Nat → En → Prop) (ρ : En) (h : I 0 ρ)
    (st : ∀ i, i < n → ∀ ρ, I i ρ → ∃ ρ1 ρ2, g (.int (i : Int)) ρ = some ρ1 ∧ body ρ1 = .ok .next ρ2 ∧ I (i + 1) ρ2) :
    ∃ ρ', forL g body ((List.range n).map fun i : Nat => PyData.int (i : Int)) ρ = .ok .next ρ' ∧ I n ρ' := by
  obtain ⟨ρ', e, i⟩ := for_at (g := g) (body := body) (fun i : Nat => PyData.int (i : Int)) I (List.range n) ρ h fun i hi ρ h => by
    have hi' : i < n := by simpa using hi
    rw [List.getElem_range]
    exact st i hi' ρ h
  rw [List.length_range] at i
  exact ⟨ρ', e, i⟩
/-- a thing, its name -/
def nmOf : D → Nm
  | .tuple (.str z :: _) => z.cps.toList
  | _ => []
theorem comp_yes {α : Type} {v : Nat} {f : M Slot} {ρ : En} {L : List α} (T F : α → D)
    (h : ∀ a ∈ L, ∃ s, f (ρ.set v (.val (T a))) = .ok s (ρ.set v (.val (T a))) ∧ s.data = some (F a)) (hl : L.length ≤ 16777216) :
    compR [v] (gNm v) mYes f (L.map T) ρ = .ok (.lst (L.map F)) ρ := comp1Y T F h hl
theorem put_len (kvs : List (Key × D)) (k : Key) (d : D) : (putQ kvs k d).length ≤ kvs.length + 1 := by
  unfold putQ
  split <;> simp
theorem valQ_none {L : List (Key × D)} {q : Key} : valQ L q = none ↔ q ∉ L.map (·.1) := by
  induction L with
  | nil => simp
  | cons p L ih =>
    obtain ⟨k, d⟩ := p
    rw [valQ1]
    by_cases e : k = q
    · simp [e]
    · rw [if_neg e, ih]
      simp only [List.map_cons, List.mem_cons, not_or]
      exact ⟨fun h => ⟨fun z => e z.symm, h⟩, fun h => h.2⟩
theorem put_in {kvs : List (Key × D)} {k : Key} (h : k ∈ kvs.map (·.1)) (d : D) : (putQ kvs k d).map (·.1) = kvs.map (·.1) := by
  unfold putQ
  rw [if_pos]
  · rw [List.map_map]
    refine List.map_congr_left fun p hp => ?_
    show (if p.1 = k then (p.1, d) else p).1 = p.1
    split <;> rfl
  · rw [List.any_eq_true]
    obtain ⟨p, hp, e⟩ := List.mem_map.mp h
    exact ⟨p, hp, by simpa using e⟩
theorem put_new {kvs : List (Key × D)} {k : Key} (h : k ∉ kvs.map (·.1)) (d : D) : (putQ kvs k d).map (·.1) = kvs.map (·.1) ++ [k] := by
  unfold putQ
  rw [if_neg]
  · simp
  · intro h2
    rw [List.any_eq_true] at h2
    obtain ⟨p, hp, e⟩ := h2
    exact h (List.mem_map.mpr ⟨p, hp, by simpa using e⟩)
@[simp] theorem keyOf_tx (m : Nm) : keyOf (tx m) = some (.inr (cs m)) := rfl
@[simp] theorem p_inTx (m : Nm) (kv : List (D × D)) : pIn [tx m, .dict kv] = some (.val (.bool (dGet kv (.inr (cs m))).isSome)) := rfl
@[simp] theorem ty_bk (st : List Th) (ls : List Ln) : isTy .tuple (bkD st ls) = true := rfl
@[simp] theorem ty_lns (ls : List Ln) : isTy .tuple (lnsD ls) = true := rfl
@[simp] theorem ty_wd (st : List Th) : isTy .tuple (wd st) = true := rfl
@[simp] theorem ty_ln (l : Ln) : isTy .tuple (lnD l) = true := rfl
end K

set_option Elab.async false
set_option linter.all false
set_option autoImplicit false
set_option maxRecDepth 100000
set_option maxHeartbeats 1000000
/-! Worlds kept in a dict. -/
namespace K
open PySem PySem.Spec PyProof.Rows L2 SD
def vD (x : Int × Int) : D := .tuple [.int x.1, .int x.2]
/-- a dict that holds what a world holds -/
structure Wk (w : List Th) (kvs : List (Key × D)) : Prop where
  keys : ∃ ns : List Nm, kvs.map (·.1) = ns.map (fun n => (.inr (cs n) : Key)) ∧ ns.Nodup
  vals : ∀ n : Nm, valQ kvs (.inr (cs n)) = (val w n).map vD
theorem mem_keys {ns : List Nm} {n : Nm} : (.inr (cs n) : Key) ∈ ns.map (fun n => (.inr (cs n) : Key)) ↔ n ∈ ns := by
  rw [List.mem_map]
  constructor
  · rintro ⟨m, hm, e⟩
    rw [cs_inj'] at e
    exact e ▸ hm
  · intro h
    exact ⟨n, h, rfl⟩
theorem Wk.put {w : List Th} {kvs : List (Key × D)} (h : Wk w kvs) (n : Nm) (x : Int × Int) : Wk (wth w (n, x)) (putQ kvs (.inr (cs n)) (vD x)) := by
  refine ⟨?_, fun q => ?_⟩
  · obtain ⟨ns, e, nd⟩ := h.keys
    by_cases hn : n ∈ ns
    · refine ⟨ns, ?_, nd⟩
      rw [put_in, e]
      rw [e]
      exact mem_keys.mpr hn
    · refine ⟨ns ++ [n], ?_, ?_⟩
      · rw [put_new, e]
        · simp
        · rw [e]
          exact fun h => hn (mem_keys.mp h)
      · rw [List.nodup_append]
        refine ⟨nd, by simp, fun a ha b hb => ?_⟩
        rw [List.mem_singleton.mp hb]
        exact fun z => hn (z ▸ ha)
  · rw [valQ_put, val_wth, h.vals]
    by_cases e : q = n
    · subst e; simp
    · rw [if_neg (by simpa using e), if_neg e]
theorem Wk.drop {w : List Th} {kvs : List (Key × D)} (h : Wk w kvs) (n : Nm) : Wk (rem w n) (dropQ kvs (.inr (cs n))) := by
  refine ⟨?_, fun q => ?_⟩
  · obtain ⟨ns, e, nd⟩ := h.keys
    refine ⟨ns.filter (fun m => !decide (m = n)), ?_, nd.filter _⟩
    have : ∀ (kvs : List (Key × D)) (ns : List Nm), kvs.map (·.1) = ns.map (fun n => (.inr (cs n) : Key)) → (dropQ kvs (.inr (cs n))).map (·.1) = (ns.filter (fun m => !decide (m = n))).map (fun n => (.inr (cs n) : Key)) := by
      intro kvs
      induction kvs with
      | nil => intro ns e; cases ns with
        | nil => rfl
        | cons a l => cases e
      | cons p r ih =>
        intro ns e
        cases ns with
        | nil => cases e
        | cons a l =>
          rw [List.map_cons, List.map_cons] at e
          injection e with e1 e2
          have := ih l e2
          unfold dropQ at this ⊢
          rw [List.filter_cons, List.filter_cons, e1]
          by_cases h : a = n
          · subst h; simp only [ne_eq, not_true_eq_false, decide_false, Bool.false_eq_true, if_false, decide_true, Bool.not_true]; exact this
          · have h2 : ¬ (.inr (cs a) : Key) = .inr (cs n) := fun z => h (cs_inj'.mp z)
            simp only [ne_eq, h2, not_false_eq_true, decide_true, if_true, h, decide_false, Bool.not_false, List.map_cons, e1]
            rw [this]
    exact this kvs ns e
  · rw [valQ_drop, val_rem, h.vals]
    by_cases e : q = n
    · subst e; simp
    · rw [if_neg (by simpa using e), if_neg e]
theorem Wk.mem {w : List Th} {kvs : List (Key × D)} (h : Wk w kvs) {ns : List Nm} (e : kvs.map (·.1) = ns.map (fun n => (.inr (cs n) : Key))) (n : Nm) : n ∈ ns ↔ n ∈ names w := by
  rw [← mem_keys, ← e, ← val_some]
  have hv := h.vals n
  constructor
  · intro hm
    cases q : val w n with
    | some x => exact ⟨x, rfl⟩
    | none =>
      rw [q] at hv
      exact absurd hm (valQ_none.mp hv)
  · rintro ⟨x, hx⟩
    rw [hx] at hv
    refine Classical.byContradiction fun hm => ?_
    rw [valQ_none.mpr hm] at hv
    cases hv
theorem Wk.perm {w : List Th} {kvs : List (Key × D)} (h : Wk w kvs) (r : Rise w) : ∃ ns : List Nm, kvs.map (·.1) = ns.map (fun n => (.inr (cs n) : Key)) ∧ (names w).Perm ns := by
  obtain ⟨ns, e, nd⟩ := h.keys
  exact ⟨ns, e, (List.perm_ext_iff_of_nodup (rise_nodup r) nd).mpr fun n => (h.mem e n).symm⟩
theorem Wk.len {w : List Th} {kvs : List (Key × D)} (h : Wk w kvs) (r : Rise w) : kvs.length = w.length := by
  obtain ⟨ns, e, p⟩ := h.perm r
  have h1 := congrArg List.length e
  have h2 := p.length_eq
  simp [names] at h1 h2
  omega
def wkD (w : List Th) : List (Key × D) := w.map fun t => (.inr (cs t.1), vD t.2)
end K

set_option Elab.async false
set_option linter.all false
set_option autoImplicit false
set_option maxRecDepth 100000
set_option maxHeartbeats 1000000
/-! Deeds that don't touch can change places. -/
namespace K
open PySem PySem.Spec PyProof.Rows L2 SD
/-- the deed adds to the count of n -/
def Dd.adds (d : Dd) (n : Nm) : Bool := match d with
  | .count m _ => decide (m = n)
  | .split m _ _ _ => decide (m = n)
  | .join m _ => decide (m = n)
  | _ => false
def Dd.moves : Dd → Bool
  | .move _ _ => true
  | _ => false
def passB (a b : Dd) (n : Nm) : Bool := if a.adds n then (b.adds n || b.moves) else (b.adds n && a.moves)
def touchB (a b : Dd) : Bool := !((a.nms.filter fun n => decide (n ∈ b.nms)).all (passB a b))
theorem can_val {w : List Th} {d : Dd} : can w d ↔ (∀ n ∈ d.must, (val w n).isSome = true) ∧ ∀ m, d.made = some m → val w m = none := by
  constructor
  · intro c
    refine ⟨fun n hn => ?_, fun m hm => can_made c hm⟩
    obtain ⟨x, hx⟩ := can_must c hn
    simp [hx]
  · rintro ⟨h1, h2⟩
    exact can_of h1 h2
theorem must_nms {d : Dd} {n : Nm} (h : n ∈ d.must) : n ∈ d.nms := by
  cases d <;> simp [Dd.must, Dd.nms] at h ⊢ <;> first | exact h | (rcases h with h | h <;> simp [h]) | exact .inl h
theorem made_nms {d : Dd} {n : Nm} (h : d.made = some n) : n ∈ d.nms := by
  cases d <;> simp [Dd.made, Dd.nms] at h ⊢ <;> first | exact h.symm | exact .inr h.symm
theorem loc_can {w w' : List Th} {d : Dd} (h : ∀ q ∈ d.nms, val w q = val w' q) : can w d ↔ can w' d := by
  rw [can_val, can_val]
  refine and_congr ?_ ?_
  · refine forall_congr' fun n => forall_congr' fun hn => ?_
    rw [h n (must_nms hn)]
  · refine forall_congr' fun m => forall_congr' fun hm => ?_
    rw [h m (made_nms hm)]
theorem loc_eff {w w' : List Th} {d : Dd} (h : ∀ q ∈ d.nms, val w q = val w' q) {q : Nm} (hq : q ∈ d.nms) : eff w d q = eff w' d q := by
  cases d <;> simp [Dd.nms] at h hq <;> simp [eff, h] <;> rcases hq with rfl | rfl <;> simp [h]
theorem loc_back {w w' : List Th} {d : Dd} (h : ∀ q ∈ d.nms, val w q = val w' q) : back w d = back w' d := by
  cases d <;> simp [Dd.nms] at h <;> simp [back, h]
theorem eff_oth {w : List Th} {d : Dd} {q : Nm} (h : q ∉ d.nms) : eff w d q = val w q := by
  cases d <;> simp [Dd.nms] at h <;> simp [eff, h]
structure Swap (w : List Th) (a b : Dd) : Prop where
  cb : can w b
  ca : can (act w b) a
  acts : act (act w b) a = act (act w a) b
  bb : back (act w a) b = back w b
  ba : back (act w b) a = back w a
theorem swap_apart {w : List Th} {a b : Dd} (r : Rise w) (ca : can w a) (ta : a.two) (cb : can (act w a) b) (tb : b.two) (h : ∀ q ∈ a.nms, q ∉ b.nms) : Swap w a b := by
  have h' : ∀ q ∈ b.nms, q ∉ a.nms := fun q hq hq' => h q hq' hq
  have s1 : ∀ q ∈ b.nms, val (act w a) q = val w q := fun q hq => by rw [val_act ca ta, eff_oth (h' q hq)]
  have cb' := (loc_can s1).mp cb
  have s2 : ∀ q ∈ a.nms, val (act w b) q = val w q := fun q hq => by rw [val_act cb' tb, eff_oth (h q hq)]
  have ca' := (loc_can s2).mpr ca
  refine ⟨cb', ca', wext (rise_act (rise_act r _) _) (rise_act (rise_act r _) _) fun q => ?_, loc_back s1, loc_back s2⟩
  rw [val_act ca' ta, val_act cb tb]
  by_cases qa : q ∈ a.nms
  · rw [loc_eff s2 qa, eff_oth (h q qa), val_act ca ta]
  · by_cases qb : q ∈ b.nms
    · rw [eff_oth qa, val_act cb' tb, loc_eff s1 qb]
    · rw [eff_oth qa, eff_oth qb, val_act cb' tb, val_act ca ta, eff_oth qa, eff_oth qb]
/-- a deed that adds to n, or moves it -/
def On (n : Nm) : Dd → Prop
  | .count m _ => m = n
  | .split m _ _ _ => m = n
  | .join m _ => m = n
  | .move m _ => m = n
  | _ => False
/-- its other name -/
def Dd.oth : Dd → List Nm
  | .split _ m _ _ => [m]
  | .join _ m => [m]
  | _ => []
/-- what it does to what n has -/
def phi (w : List Th) (x : Int × Int) : Dd → Int × Int
  | .count _ k => (x.1, x.2 + k)
  | .split _ _ _ k => (x.1, x.2 - k)
  | .join _ m => (x.1, x.2 + ((val w m).getD (0, 0)).2)
  | .move _ p => (p, x.2)
  | _ => x
theorem On.nms {n : Nm} {d : Dd} (h : On n d) (t : d.two) : n ∈ d.nms ∧ n ∉ d.oth ∧ ∀ q, q ∈ d.nms ↔ q = n ∨ q ∈ d.oth := by
  cases d <;> simp [On] at h <;> subst h <;> simp [Dd.nms, Dd.oth]
  · exact t
  · exact t
theorem On.eff_n {n : Nm} {d : Dd} (h : On n d) {w : List Th} (c : can w d) (t : d.two) {x : Int × Int} (hx : val w n = some x) : eff w d n = some (phi w x d) := by
  cases d with
  | count m k => simp [On] at h; subst h; simp [eff, hx, phi]
  | split m q p k =>
    simp [On] at h; subst h
    have t' : m ≠ q := t
    simp [eff, hx, phi, t']
  | join m q =>
    simp [On] at h; subst h
    obtain ⟨y, hy⟩ := can_must c (n := q) (by simp [Dd.must])
    simp [eff, hx, hy, phi]
  | move m p => simp [On] at h; subst h; simp [eff, hx, phi]
  | _ => simp [On] at h
theorem On.eff_o {n : Nm} {d : Dd} (h : On n d) (t : d.two) {w w' : List Th} {q : Nm} (hq : q ∈ d.oth) : eff w d q = eff w' d q := by
  cases d <;> simp [On, Dd.oth] at h hq
  · subst hq; simp [eff]
  · rename_i a b
    subst hq
    have t' : a ≠ q := t
    simp [eff, Ne.symm t']
theorem On.loc {n : Nm} {d : Dd} (h : On n d) {w w' : List Th} (ho : ∀ q ∈ d.oth, val w q = val w' q) (hn : (val w n).isSome = (val w' n).isSome) : can w d ↔ can w' d := by
  rw [can_val, can_val]
  cases d <;> simp [On, Dd.oth] at h ho <;> subst h <;> simp [Dd.must, Dd.made, hn, ho]
theorem On.phi_loc {d : Dd} {w w' : List Th} (ho : ∀ q ∈ d.oth, val w q = val w' q) (x : Int × Int) : phi w x d = phi w' x d := by
  cases d <;> simp [Dd.oth] at ho <;> simp [phi, ho]
theorem On.back_loc {n : Nm} {d : Dd} (h : On n d) {w w' : List Th} (ho : ∀ q ∈ d.oth, val w q = val w' q) (hn : d.moves = true → (val w n).map (·.1) = (val w' n).map (·.1)) : back w d = back w' d := by
  cases d with
  | count m k => rfl
  | split m q p k => rfl
  | join m q => simp [Dd.oth] at ho; simp [back, ho]
  | move m p =>
    simp [On] at h
    subst h
    have := hn rfl
    cases h1 : val w m <;> cases h2 : val w' m <;> simp [h1, h2] at this <;> simp [back, h1, h2, this]
  | _ => simp [On] at h
theorem phi_place {w : List Th} {x : Int × Int} {d : Dd} (h : d.moves = false) : (phi w x d).1 = x.1 := by
  cases d <;> simp [Dd.moves] at h <;> rfl
theorem phi_swap {n : Nm} {a b : Dd} (ha : On n a) (hb : On n b) (hm : ¬ (a.moves = true ∧ b.moves = true)) (w w' : List Th) (x : Int × Int) : phi w (phi w' x a) b = phi w' (phi w x b) a := by
  cases a <;> cases b <;> simp [On] at ha hb <;> simp [Dd.moves] at hm <;> simp [phi] <;> omega
theorem swap_on {w : List Th} {a b : Dd} {n : Nm} (r : Rise w) (ca : can w a) (ta : a.two) (cb : can (act w a) b) (tb : b.two) (ha : On n a) (hb : On n b) (hm : ¬ (a.moves = true ∧ b.moves = true)) (oa : ∀ q ∈ a.oth, q ∉ b.nms) (ob : ∀ q ∈ b.oth, q ∉ a.nms) : Swap w a b := by
  obtain ⟨na, na2, na3⟩ := ha.nms ta
  obtain ⟨nb, nb2, nb3⟩ := hb.nms tb
  have mn : n ∈ a.must := by cases a <;> simp [On] at ha <;> subst ha <;> simp [Dd.must]
  obtain ⟨x, hx⟩ := can_must ca mn
  have vn : val (act w a) n = some (phi w x a) := by rw [val_act ca ta, ha.eff_n ca ta hx]
  have s1 : ∀ q ∈ b.oth, val (act w a) q = val w q := fun q hq => by rw [val_act ca ta, eff_oth (ob q hq)]
  have cb' : can w b := (hb.loc s1 (by rw [vn, hx]; rfl)).mp cb
  have vn2 : val (act w b) n = some (phi w x b) := by rw [val_act cb' tb, hb.eff_n cb' tb hx]
  have s2 : ∀ q ∈ a.oth, val (act w b) q = val w q := fun q hq => by rw [val_act cb' tb, eff_oth (oa q hq)]
  have ca' : can (act w b) a := (ha.loc s2 (by rw [vn2, hx]; rfl)).mpr ca
  refine ⟨cb', ca', wext (rise_act (rise_act r _) _) (rise_act (rise_act r _) _) fun q => ?_, ?_, ?_⟩
  · rw [val_act ca' ta, val_act cb tb]
    by_cases e : q = n
    · subst e
      rw [ha.eff_n ca' ta vn2, hb.eff_n cb tb vn, On.phi_loc (d := a) s2, On.phi_loc (d := b) s1]
      exact congrArg some (phi_swap hb ha (fun h => hm ⟨h.2, h.1⟩) w w x)
    · by_cases qa : q ∈ a.oth
      · rw [ha.eff_o ta qa (w' := w), eff_oth (oa q qa), val_act ca ta]
      · have qa' : q ∉ a.nms := fun h => (na3 q).mp h |>.elim e qa
        by_cases qb : q ∈ b.oth
        · rw [eff_oth qa', val_act cb' tb, hb.eff_o tb qb (w' := act w a)]
        · have qb' : q ∉ b.nms := fun h => (nb3 q).mp h |>.elim e qb
          rw [eff_oth qa', eff_oth qb', val_act cb' tb, val_act ca ta, eff_oth qa', eff_oth qb']
  · refine hb.back_loc s1 fun h => ?_
    have hm' : a.moves = false := by cases h2 : a.moves with
      | false => rfl
      | true => exact absurd ⟨h2, h⟩ hm
    rw [vn, hx]
    exact congrArg some (phi_place hm')
  · refine ha.back_loc s2 fun h => ?_
    have hm' : b.moves = false := by cases h2 : b.moves with
      | false => rfl
      | true => exact absurd ⟨h, h2⟩ hm
    rw [vn2, hx]
    exact congrArg some (phi_place hm')
theorem adds_on {d : Dd} {n : Nm} (h : d.adds n = true) : On n d ∧ d.moves = false := by
  cases d <;> simp [Dd.adds] at h <;> exact ⟨h, rfl⟩
theorem moves_on {d : Dd} {n : Nm} (h : d.moves = true) (hn : n ∈ d.nms) : On n d := by
  cases d <;> simp [Dd.moves] at h
  simp [Dd.nms] at hn
  exact hn.symm
theorem oth_no {d : Dd} {n q : Nm} (h : On n d) (t : d.two) (hq : q ∈ d.oth) : d.adds q = false ∧ d.moves = false := by
  cases d with
  | split a m p k =>
    have t' : a ≠ m := t
    simp [Dd.oth] at hq
    subst hq
    simp [Dd.adds, Dd.moves, t']
  | join a m =>
    have t' : a ≠ m := t
    simp [Dd.oth] at hq
    subst hq
    simp [Dd.adds, Dd.moves, t']
  | _ => simp [Dd.oth] at hq
/-- deeds that don't touch can change places -/
theorem swap_of {w : List Th} {a b : Dd} (r : Rise w) (ca : can w a) (ta : a.two) (cb : can (act w a) b) (tb : b.two) (h : touchB a b = false) : Swap w a b := by
  by_cases d : ∀ q ∈ a.nms, q ∉ b.nms
  · exact swap_apart r ca ta cb tb d
  · have ⟨n, hna, hnb⟩ : ∃ n, n ∈ a.nms ∧ n ∈ b.nms := by
      refine Classical.byContradiction fun hc => d fun q qa qb => hc ⟨q, qa, qb⟩
    have pass : ∀ q, q ∈ a.nms → q ∈ b.nms → passB a b q = true := fun q qa qb => by
      unfold touchB at h
      rw [Bool.not_eq_false', List.all_eq_true] at h
      exact h q (List.mem_filter.mpr ⟨qa, by simpa using qb⟩)
    have pn := pass n hna hnb
    have on : On n a ∧ On n b ∧ ¬ (a.moves = true ∧ b.moves = true) := by
      unfold passB at pn
      split at pn
      · rename_i h1
        have := adds_on h1
        rw [Bool.or_eq_true] at pn
        refine ⟨this.1, ?_, fun h => by rw [this.2] at h; exact absurd h.1 (by simp)⟩
        rcases pn with h2 | h2
        · exact (adds_on h2).1
        · exact moves_on h2 hnb
      · rw [Bool.and_eq_true] at pn
        have := adds_on pn.1
        exact ⟨moves_on pn.2 hna, this.1, fun h => by rw [this.2] at h; exact absurd h.2 (by simp)⟩
    obtain ⟨oa, ob, hm⟩ := on
    obtain ⟨-, -, a3⟩ := oa.nms ta
    obtain ⟨-, -, b3⟩ := ob.nms tb
    refine swap_on r ca ta cb tb oa ob hm (fun q hq hqb => ?_) (fun q hq hqa => ?_)
    · have := pass q ((a3 q).mpr (.inr hq)) hqb
      have no := oth_no oa ta hq
      simp [passB, no.1, no.2] at this
    · have := pass q hqa ((b3 q).mpr (.inr hq))
      have no := oth_no ob tb hq
      simp [passB, no.1, no.2] at this
end K

set_option Elab.async false
set_option linter.all false
set_option autoImplicit false
set_option maxRecDepth 100000
set_option maxHeartbeats 1000000
/-! Rows of deeds. -/
namespace K
open PySem PySem.Spec PyProof.Rows L2 SD
def runR (w : List Th) (ds : List Dd) : List Th := ds.foldl act w
def GoR : List Th → List Dd → Prop
  | _, [] => True
  | w, d :: r => (d.good ∧ can w d) ∧ GoR (act w d) r
/-- the back deeds, in the row's order -/
def fwR : List Th → List Dd → List Dd
  | _, [] => []
  | w, d :: r => back w d :: fwR (act w d) r
/-- .. the last one's first -/
def bkR (w : List Th) (ds : List Dd) : List Dd := (fwR w ds).reverse
/-- the deeds of lines -/
def rowL (ls : List Ln) : List Dd := ls.map (·.2)
end K

set_option Elab.async false
set_option linter.all false
set_option autoImplicit false
set_option maxRecDepth 100000
set_option maxHeartbeats 1000000
/-! k24: touches by the program; deeds that touch; worlds in dicts; packs -/
namespace K
open PySem PySem.Spec PyProof.Rows L2 SD
theorem nms_len (d : Dd) : d.nms.length ≤ 2 := by cases d <;> simp [Dd.nms]
theorem only_adds_eq (d : Dd) (n : Nm) : m_only_adds [.val d.d, .val (tx n)] = .ok (.val (.bool (d.adds n))) [.val d.d, .val (tx n)] := by
  cases d <;> simp -implicitDefEqProofs [Dd.d, Dd.ds, Dd.adds, m_only_adds, b_only_adds, tx, kput, ktake, kmove, kcount, kname, ksplit, kjoin, p_eq, inOk, hasD]
theorem only_moves_eq (d : Dd) : m_only_moves [.val d.d] = .ok (.val (.bool d.moves)) [.val d.d] := by
  cases d <;> simp -implicitDefEqProofs [Dd.d, Dd.ds, Dd.moves, m_only_moves, b_only_moves, tx, kput, ktake, kmove, kcount, kname, ksplit, kjoin, p_eq]
theorem pass_by_eq (a b : Dd) (n : Nm) : m_pass_by [.val a.d, .val b.d, .val (tx n)] = .ok (.val (.bool (passB a b n))) [.val a.d, .val b.d, .val (tx n)] := by
  have e1 := only_adds_eq a n
  have e2 := only_adds_eq b n
  have e3 := only_moves_eq a
  have e4 := only_moves_eq b
  unfold passB
  cases h1 : a.adds n <;> cases h2 : b.adds n <;> rw [h1] at e1 <;> rw [h2] at e2 <;> simp -implicitDefEqProofs [m_pass_by, b_pass_by, e1, e2, e3, e4]
theorem touch_eq (a b : Dd) : m_touch [.val a.d, .val b.d] = .ok (.val (.bool (touchB a b))) [.val a.d, .val b.d] := by
  have hl := nms_len a
  have n1 := names_in_eq a
  have n2 := names_in_eq b
  have tt : ∀ L : List Nm, L.map tx = txs L := fun _ => rfl
  rw [tt] at n1 n2
  have c1 := comp_map (v := 3) (c := b_touch_c1) (f := mVar 3) (ρ := [.val a.d, .val b.d, .emp, .emp]) (L := a.nms) tx (fun n => decide (n ∈ b.nms)) tx (fun n _ => ⟨by simp -implicitDefEqProofs [b_touch_c1, n2, tx, inOk], fun _ => ⟨.val (tx n), by simp -implicitDefEqProofs, rfl⟩⟩) (by omega)
  have fl : (a.nms.filter fun n => decide (n ∈ b.nms)).length ≤ 2 := Nat.le_trans (List.length_filter_le _ _) hl
  have c2 := comp_yes (v := 3) (f := b_touch_e1) (ρ := [.val a.d, .val b.d, .val (.list (txs (a.nms.filter fun n => decide (n ∈ b.nms)))), .emp]) (L := a.nms.filter fun n => decide (n ∈ b.nms)) tx (fun n => .bool (passB a b n)) (fun n _ => ⟨.val (.bool (passB a b n)), by
    have := pass_by_eq a b n
    simp -implicitDefEqProofs [b_touch_e1, this], rfl⟩) (by omega)
  have y := p_allM (L := a.nms.filter fun n => decide (n ∈ b.nms)) (b := passB a b)
  rw [tt, tt] at c1
  rw [tt] at c2
  unfold touchB
  generalize a.nms.filter (fun n => decide (n ∈ b.nms)) = F at c1 c2 y
  simp -implicitDefEqProofs [-p_all, m_touch, b_touch, n1, c1, c2, y]
section
variable {w : List Th} {a b d : Dd} {n : Nm}
theorem touch_comm21 (a b : Dd) : touchB a b = touchB b a := by
  have pc : ∀ n, passB a b n = passB b a n := fun n => by
    unfold passB
    cases a.adds n <;> cases b.adds n <;> cases a.moves <;> cases b.moves <;> rfl
  unfold touchB
  congr 1
  rw [Bool.eq_iff_iff, List.all_eq_true, List.all_eq_true]
  constructor
  · intro h n hn
    have := List.mem_filter.mp hn
    rw [← pc]
    exact h n (List.mem_filter.mpr ⟨by simpa using this.2, by simpa using this.1⟩)
  · intro h n hn
    have := List.mem_filter.mp hn
    rw [pc]
    exact h n (List.mem_filter.mpr ⟨by simpa using this.2, by simpa using this.1⟩)
theorem nms_cases (h : n ∈ d.nms) : n ∈ d.must ∨ d.made = some n := by
  cases d with
  | put m p k => simp [Dd.nms] at h; subst h; exact .inr rfl
  | take m => simp [Dd.nms] at h; subst h; exact .inl (by simp [Dd.must])
  | move m p => simp [Dd.nms] at h; subst h; exact .inl (by simp [Dd.must])
  | count m k => simp [Dd.nms] at h; subst h; exact .inl (by simp [Dd.must])
  | name m q =>
    simp [Dd.nms] at h
    rcases h with rfl | rfl
    · exact .inl (by simp [Dd.must])
    · exact .inr rfl
  | split m q p k =>
    simp [Dd.nms] at h
    rcases h with rfl | rfl
    · exact .inl (by simp [Dd.must])
    · exact .inr rfl
  | join m q => exact .inl (by simpa [Dd.must, Dd.nms] using h)
theorem made_in (c : can w d) (t : d.two) (h : d.made = some n) : n ∈ names (act w d) := by
  refine val_some.mp ?_
  rw [val_act c t]
  cases d with
  | put m p k => cases h; exact ⟨(p, k), by simp [eff]⟩
  | name m q =>
    cases h
    obtain ⟨x, hx⟩ := can_must c (n := m) (by simp [Dd.must])
    exact ⟨x, by simp [eff, hx]⟩
  | split m q p k => cases h; exact ⟨(p, k), by simp [eff]⟩
  | take m => cases h
  | move m p => cases h
  | count m k => cases h
  | join m q => cases h
theorem ended_out (c : can w d) (t : d.two) (h : d.ended = some n) : n ∉ names (act w d) := by
  rw [← val_none, val_act c t]
  cases d with
  | take m => cases h; simp [eff]
  | name m q => cases h; have t : n ≠ q := t; simp [eff, t]
  | join m q => cases h; have t' : ¬ n = m := fun z => t z.symm; simp [eff, t']
  | put m p k => cases h
  | move m p => cases h
  | count m k => cases h
  | split m q p k => cases h
theorem keep_form (h : n ∈ d.must) (e : d.ended ≠ some n) : d.adds n = true ∨ ∃ p, d = .move n p := by
  cases d with
  | put m p k => simp [Dd.must] at h
  | take m => simp [Dd.must] at h; subst h; exact absurd rfl e
  | move m p => simp [Dd.must] at h; subst h; exact .inr ⟨p, rfl⟩
  | count m k => simp [Dd.must] at h; subst h; exact .inl (by simp [Dd.adds])
  | name m q => simp [Dd.must] at h; subst h; exact absurd rfl e
  | split m q p k => simp [Dd.must] at h; subst h; exact .inl (by simp [Dd.adds])
  | join m q =>
    simp [Dd.must] at h
    rcases h with rfl | rfl
    · exact .inl (by simp [Dd.adds])
    · exact absurd rfl e
theorem touch_parts (ga : a.good) (gb : b.good) (h : touchB a b = true) (g1 : GoR w [a, b]) (g2 : GoR w [b, a]) (e : runR w [a, b] = runR w [b, a]) : a = b := by
  have ta := good_two ga
  have tb := good_two gb
  obtain ⟨⟨-, ca⟩, ⟨-, cb'⟩, -⟩ := g1
  obtain ⟨⟨-, cb⟩, ⟨-, ca'⟩, -⟩ := g2
  unfold touchB at h
  have h : ((a.nms.filter fun n => decide (n ∈ b.nms)).all (passB a b)) = false := by simpa using h
  rw [List.all_eq_false] at h
  obtain ⟨n, hn, hp⟩ := h
  have hm := List.mem_filter.mp hn
  have na := hm.1
  have nb : n ∈ b.nms := by simpa using hm.2
  have hp : passB a b n = false := by simpa using hp
  -- neither makes it
  have m1 : a.made ≠ some n := fun z => by
    have out := ca.2 n z
    rcases nms_cases nb with h | h
    · exact out (cb.1 n h)
    · exact cb'.2 n h (made_in ca ta z)
  have m2 : b.made ≠ some n := fun z => by
    have out := cb.2 n z
    rcases nms_cases na with h | h
    · exact out (ca.1 n h)
    · exact ca'.2 n h (made_in cb tb z)
  have u1 : n ∈ a.must := (nms_cases na).resolve_right m1
  have u2 : n ∈ b.must := (nms_cases nb).resolve_right m2
  have e1 : a.ended ≠ some n := fun z => ended_out ca ta z (cb'.1 n u2)
  have e2 : b.ended ≠ some n := fun z => ended_out cb tb z (ca'.1 n u1)
  unfold passB at hp
  rcases keep_form u1 e1 with f1 | ⟨p, rfl⟩
  · rw [if_pos f1] at hp
    rcases keep_form u2 e2 with f2 | ⟨p, rfl⟩
    · rw [f2] at hp; cases hp
    · simp [Dd.adds, Dd.moves] at hp
  · rcases keep_form u2 e2 with f2 | ⟨p', rfl⟩
    · have z : (Dd.move n p).adds n = false := rfl
      rw [z, f2] at hp
      cases hp
    · obtain ⟨x, hx⟩ := can_must ca (n := n) (by simp [Dd.must])
      have v : val (act (act w (.move n p)) (.move n p')) n = val (act (act w (.move n p')) (.move n p)) n := by
        have e : act (act w (.move n p)) (.move n p') = act (act w (.move n p')) (.move n p) := e
        rw [e]
      rw [val_act cb' trivial, val_act ca' trivial] at v
      simp [eff, val_act ca trivial, val_act cb trivial, hx] at v
      rw [v]
end
theorem qD_keyOf (a : List (Key × D)) : ((qD a).map fun p => SD.keyOf p.1) = a.map fun p => some p.1 := by
  unfold qD
  rw [List.map_map]
  refine List.map_congr_left fun p _ => ?_
  exact SD.keyOf_kD p.1
theorem wk_nodup {w : List Th} {a : List (Key × D)} (h : Wk w a) : ((qD a).map fun p => SD.keyOf p.1).Nodup := by
  obtain ⟨ns, e, nd⟩ := h.keys
  have e2 : (a.map fun p => some p.1) = (a.map (·.1)).map some := by rw [List.map_map]; rfl
  rw [qD_keyOf, e2, e, List.map_map, List.Nodup, List.pairwise_map]
  refine List.Pairwise.imp ?_ nd
  intro x y hxy z
  have z : some (.inr (cs x) : Key) = some (.inr (cs y)) := z
  exact hxy (cs_inj'.mp (Option.some.inj z))
theorem wk_mem {w : List Th} {a : List (Key × D)} (h : Wk w a) {p : D × D} (hp : p ∈ qD a) : ∃ n x, p = (.str (cs n), vD x) ∧ val w n = some x := by
  obtain ⟨q, hq, rfl⟩ := List.mem_map.mp hp
  obtain ⟨ns, e, nd⟩ := h.keys
  have : q.1 ∈ ns.map (fun n => (.inr (cs n) : Key)) := by rw [← e]; exact List.mem_map.mpr ⟨q, hq, rfl⟩
  obtain ⟨n, hn, en⟩ := List.mem_map.mp this
  have g := dGet_nodup (q := q.1) (d := q.2) (wk_nodup h) hp
  rw [dGet_q] at g
  have v := h.vals n
  have en : (.inr (cs n) : Key) = q.1 := en
  rw [en, g] at v
  cases hx : val w n with
  | none => rw [hx] at v; cases v
  | some x =>
    rw [hx] at v
    refine ⟨n, x, ?_, hx⟩
    have v : some q.2 = some (vD x) := v
    rw [← Option.some.inj v, ← en]
    rfl
theorem neD_wk {w : List Th} {a b : List (Key × D)} (ha : Wk w a) (hb : Wk w b) (r : Rise w) : pNeD [.dict (qD a), .dict (qD b)] = some (.val (.bool false)) := by
  have vo : ∀ {c : List (Key × D)}, Wk w c → vOk (qD c) = true := fun {c} hc => by
    unfold vOk
    rw [List.all_eq_true]
    intro p hp
    obtain ⟨n, x, rfl, -⟩ := wk_mem hc hp
    simp [vD]
  show (if _ then _ else _) = _
  rw [if_pos ⟨vo ha, vo hb, wk_nodup ha, wk_nodup hb⟩]
  have key : dictB (qD a) (qD b) = true := ?_
  · rw [key]; rfl
  unfold dictB
  rw [Bool.and_eq_true]
  refine ⟨?_, ?_⟩
  · have h1 := ha.len r
    have h2 := hb.len r
    simp [qD, h1, h2]
  · rw [List.all_eq_true]
    intro p hp
    obtain ⟨n, x, rfl, hx⟩ := wk_mem ha hp
    have va := ha.vals n
    have vb := hb.vals n
    rw [hx] at va vb
    unfold keyE
    simp only [SD.keyOf_str, sameAt, dGet_q, va, vb]
    simp [vD]
theorem nsub20 {α : Type} [DecidableEq α] : ∀ {l m : List α}, l.Nodup → (∀ x ∈ l, x ∈ m) → l.length ≤ m.length
  | [], m, _, _ => Nat.zero_le _
  | a :: l, m, nd, h => by
    obtain ⟨h1, h2⟩ := List.nodup_cons.mp nd
    have := nsub20 (l := l) (m := m.erase a) h2 fun x hx => by
      have ne : x ≠ a := fun z => h1 (z ▸ hx)
      exact (List.mem_erase_of_ne ne).mpr (h x (List.mem_cons_of_mem _ hx))
    rw [List.length_erase_of_mem (h a List.mem_cons_self)] at this
    have pos : 0 < m.length := List.length_pos_of_mem (h a List.mem_cons_self)
    rw [List.length_cons]
    omega
theorem wk_vok {w : List Th} {c : List (Key × D)} (hc : Wk w c) : vOk (qD c) = true := by
  unfold vOk
  rw [List.all_eq_true]
  intro p hp
  obtain ⟨n, x, rfl, -⟩ := wk_mem hc hp
  simp [vD]
theorem valQ_mem20 {α : Type} {kvs : List (Key × α)} {q : Key} {x : α} (h : valQ kvs q = some x) : (q, x) ∈ kvs := by
  unfold valQ at h
  cases e : kvs.find? fun kv => decide (kv.1 = q) with
  | none => rw [e] at h; cases h
  | some p =>
    rw [e] at h
    have m := List.mem_of_find?_eq_some e
    have k := List.find?_some e
    have k : p.1 = q := by simpa using k
    have h : some p.2 = some x := h
    injection h with h
    rw [← k, ← h]
    exact m
theorem dictB_wk {w w' : List Th} {a b : List (Key × D)} (ha : Wk w a) (hb : Wk w' b) (r : Rise w) (r' : Rise w') : dictB (qD a) (qD b) = decide (w = w') := by
  by_cases e : w = w'
  · subst e
    have h := neD_wk ha hb r
    have h2 : (if vOk (qD a) = true ∧ vOk (qD b) = true ∧ ((qD a).map fun p => SD.keyOf p.1).Nodup ∧ ((qD b).map fun p => SD.keyOf p.1).Nodup then some (SD.Slot.val (.bool (!dictB (qD a) (qD b)))) else none) = some (.val (.bool false)) := h
    rw [if_pos ⟨wk_vok ha, wk_vok hb, wk_nodup ha, wk_nodup hb⟩] at h2
    injection h2 with h2
    injection h2 with h2
    injection h2 with h2
    simpa using h2
  · rw [decide_eq_false e]
    rw [Bool.eq_false_iff]
    intro z
    apply e
    unfold dictB at z
    rw [Bool.and_eq_true, List.all_eq_true] at z
    obtain ⟨zl, za⟩ := z
    have zl : w.length = w'.length := by
      have h1 := ha.len r
      have h2 := hb.len r'
      have : (qD a).length = (qD b).length := by simpa using zl
      simp only [qD, List.length_map] at this
      omega
    have key : ∀ n x, val w n = some x → val w' n = some x := fun n x hx => by
      have va := ha.vals n
      have vb := hb.vals n
      rw [hx] at va
      have hm : (PyData.str (cs n), vD x) ∈ qD a := by
        have hq := valQ_mem20 va
        exact List.mem_map.mpr ⟨_, hq, rfl⟩
      have := za _ hm
      unfold keyE at this
      cases hy : val w' n with
      | none =>
        rw [hy] at vb
        simp [SD.keyOf_str, sameAt, dGet_q, va, vb] at this
      | some y =>
        rw [hy] at vb
        simp [SD.keyOf_str, sameAt, dGet_q, va, vb] at this
        simp [vD] at this
        congr 1
        exact (Prod.ext this.1 this.2).symm
    have sub : ∀ n ∈ names w, n ∈ names w' := fun n hn => by
      cases hx : val w n with
      | none => exact absurd hn (val_none.mp hx)
      | some x =>
        have h2 := key n x hx
        exact Classical.byContradiction fun z => by rw [val_none.mpr z] at h2; cases h2
    have sub2 : ∀ n ∈ names w', n ∈ names w := fun n hn => Classical.byContradiction fun z => by
      have := nsub20 (l := n :: names w) (m := names w') (List.nodup_cons.mpr ⟨z, rise_nodup r⟩) fun q hq => by
        rcases List.mem_cons.mp hq with rfl | hq
        · exact hn
        · exact sub q hq
      unfold names at this
      rw [List.length_cons, List.length_map, List.length_map] at this
      omega
    refine wext r r' fun n => ?_
    cases hx : val w n with
    | some x => rw [key n x hx]
    | none => exact (val_none.mpr fun z => (val_none.mp hx) (sub2 n z)).symm
theorem mixed_eq24 (x : Int) {B : Nat} (hB : B ≤ 100000000) (h : Builtin.Int.intBits x ≤ B) : ∃ y, m_l_mixed_2 [.val (.int x)] = .ok (.val (.int y)) [.val (.int x)] := by
  have c : CMulA x 718281828459045235360287471352662497757247093699959574966967 := by
    unfold CMulA
    have : Builtin.Int.intBits 718281828459045235360287471352662497757247093699959574966967 ≤ 200 := bits_lt (by decide)
    omega
  refine ⟨x * 718281828459045235360287471352662497757247093699959574966967 % 10 ^ 60, ?_⟩
  simp [m_l_mixed_2, b_l_mixed_2, c]
theorem pack_hi24 (d : List D) (κ y : Int) (h : ¬ κ < d.length) (e2 : m_l_mixed_2 [.val (.int (7919 * κ + 11))] = .ok (.val (.int y)) [.val (.int (7919 * κ + 11))]) : m_l_pack [.val (.list d), .val (.int κ)] = .ok (.lst [.int y]) [.val (.list d), .val (.int κ)] := by
  simp [m_l_pack, b_l_pack, h, e2, cmul_l]
theorem pack_lo24 (d : List D) (κ y z : Int) (h : κ < d.length) (e : atI d κ = some (.int z)) (e2 : m_l_mixed_2 [.val (.int (z + 31 * κ))] = .ok (.val (.int y)) [.val (.int (z + 31 * κ))]) : m_l_pack [.val (.list d), .val (.int κ)] = .ok (.lst [.int y]) [.val (.list d), .val (.int κ)] := by
  simp [m_l_pack, b_l_pack, h, e, e2, cmul_l]
theorem pack_ex24 (ns : List Int) {B : Nat} (h64 : 64 ≤ B) (hB : B + 1 ≤ 100000000) (hb : ∀ z ∈ ns, Builtin.Int.intBits z ≤ B) (k : Nat) (hk : k < 1000) : ∃ x, m_l_pack [.val (.list (ns.map PyData.int)), .val (.int k)] = .ok (.lst [.int x]) [.val (.list (ns.map PyData.int)), .val (.int k)] := by
  by_cases h : k < ns.length
  · have e : atI (ns.map PyData.int) (k : Int) = some (.int ns[k]) := at_map h
    obtain ⟨y, e2⟩ := mixed_eq24 (ns[k] + 31 * k) hB (SD.bits_add (hb _ (List.getElem_mem h)) (Nat.le_trans (bits_small (i := 31 * (k : Int)) (by omega)) h64))
    exact ⟨y, pack_lo24 _ _ _ _ (by simpa using h) e e2⟩
  · obtain ⟨y, e2⟩ := mixed_eq24 (7919 * k + 11) (B := 64) (by omega) (bits_small (by omega))
    exact ⟨y, pack_hi24 _ _ _ (by simpa using h) e2⟩
end K

set_option Elab.async false
set_option linter.all false
set_option autoImplicit false
set_option maxRecDepth 100000
set_option maxHeartbeats 1000000
/-! k24: deeds drawn; what can be done -/
namespace K
open PySem PySem.Spec PyProof.Rows L2 SD
theorem ix_txs24 {ks : List Nm} {i : Int} (h0 : 0 ≤ i) (h1 : i < ks.length) : ∃ (n : Nat) (h : n < ks.length), i = n ∧ atI (txs ks) i = some (.str (cs ks[n])) := by
  obtain ⟨n, rfl⟩ := Int.eq_ofNat_of_zero_le h0
  exact ⟨n, by omega, rfl, at_txs (by omega)⟩
theorem ix_ints24 {L : List Int} {i : Int} (h0 : 0 ≤ i) (h1 : i < L.length) : ∃ k ∈ L, atI (L.map PyData.int) i = some (.int k) := by
  obtain ⟨n, rfl⟩ := Int.eq_ofNat_of_zero_le h0
  exact ⟨_, List.getElem_mem (by omega), at_map (by omega)⟩
theorem any_deed24 (x : Int) (ks : List Nm) (h2 : 2 ≤ ks.length) (h8 : ks.length ≤ 8) (nd : ks.Nodup) (ok : ∀ k ∈ ks, NameOk k) : ∃ (d : Dd) (x' : Int), d.good ∧ m_l_any_deed [.lst [.int x], .lst (txs ks)] = .ok (.val d.d) [.lst [.int x'], .lst (txs ks)] := by
  have eL : pLen [.list (txs ks)] = some (.val (.int (ks.length : Int))) := by simp
  have ix : ∀ i : Int, 0 ≤ i → i < ks.length → ∃ (n : Nat) (h : n < ks.length), i = n ∧ atI (txs ks) i = some (.str (cs ks[n])) := fun i a b => ix_txs24 a b
  have n2 : (2 : Int) ≤ ks.length := by omega
  have n8 : (ks.length : Int) ≤ 8 := by omega
  have nl : ∀ n : Nat, n < ks.length ↔ (n : Int) < ks.length := fun n => by omega
  generalize (ks.length : Int) = ν at eL ix n2 n8
  obtain ⟨e1, a1, a2⟩ := take_ex x 9 (by decide) (by decide)
  obtain ⟨e2, b1, b2⟩ := take_ex (x / 9) ν (by omega) (by omega)
  obtain ⟨e3, c1, c2⟩ := take_ex (x / 9 / ν) (ν - 1) (by omega) (by omega)
  obtain ⟨e4, d1, d2⟩ := take_ex (x / 9 / ν / (ν - 1)) 5 (by decide) (by decide)
  obtain ⟨e5, f1, f2⟩ := take_ex (x / 9 / ν / (ν - 1) / 5) 41 (by decide) (by decide)
  obtain ⟨e6, g1, g2⟩ := take_ex (x / 9 / ν / (ν - 1) / 5 / 41) 5 (by decide) (by decide)
  generalize x % 9 = i1 at e1 a1 a2
  generalize x / 9 % ν = i2 at e2 b1 b2
  generalize x / 9 / ν % (ν - 1) = i3 at e3 c1 c2
  generalize x / 9 / ν / (ν - 1) % 5 = i4 at e4 d1 d2
  generalize x / 9 / ν / (ν - 1) / 5 % 41 = i5 at e5 f1 f2
  generalize x / 9 / ν / (ν - 1) / 5 / 41 % 5 = i6 at e6 g1 g2
  generalize x / 9 / ν / (ν - 1) / 5 / 41 / 5 = x6 at e6
  generalize x / 9 / ν / (ν - 1) / 5 / 41 = x5 at e5 e6
  generalize x / 9 / ν / (ν - 1) / 5 = x4 at e4 e5
  generalize x / 9 / ν / (ν - 1) = x3 at e3 e4
  generalize x / 9 / ν = x2 at e2 e3
  generalize x / 9 = x1 at e1 e2
  obtain ⟨j1, hj1, ej1, q1⟩ := ix i2 b1 b2
  have hν : 0 < ν := by omega
  obtain ⟨j2, hj2, ej2, q2⟩ := ix ((i2 + 1 + i3) % ν) (Int.emod_nonneg _ (by omega)) (Int.emod_lt_of_pos _ hν)
  have nej : j1 ≠ j2 := by
    intro z
    subst z
    have hm : (i2 + 1 + i3) % ν = if i2 + 1 + i3 < ν then i2 + 1 + i3 else i2 + 1 + i3 - ν := by
      split
      · exact Int.emod_eq_of_lt (by omega) (by omega)
      · rw [← Int.sub_emod_right]
        exact Int.emod_eq_of_lt (by omega) (by omega)
    rw [hm] at ej2
    split at ej2 <;> omega
  have ne12 : ks[j1] ≠ ks[j2] := by
    have pw := List.pairwise_iff_getElem.mp nd
    rcases Nat.lt_or_gt_of_ne nej with h | h
    · exact pw j1 j2 hj1 hj2 h
    · exact (pw j2 j1 hj2 hj1 h).symm
  have o1 := ok _ (List.getElem_mem hj1)
  have o2 := ok _ (List.getElem_mem hj2)
  generalize ks[j1] = k1 at *
  generalize ks[j2] = k2 at *
  obtain ⟨pl, mpl, q3⟩ := ix_ints24 (L := [0, 1, 2, 999, 7]) (i := i4) d1 d2
  obtain ⟨nu, -, q4⟩ := ix_ints24 (L := [0, 1, -1, 1000000000000, i5 - 20]) (i := i6) g1 g2
  simp only [List.map_cons, List.map_nil] at q3 q4
  have bp : 0 ≤ pl ∧ pl ≤ 999 := by simp at mpl; omega
  have run : ∀ kw : Nm, atI [PyData.str (cs kput), .str (cs ktake), .str (cs kmove), .str (cs kcount), .str (cs kname), .str (cs ksplit), .str (cs kjoin), .str (cs kcount), .str (cs kmove)] i1 = some (.str (cs kw)) →
      m_l_any_deed [.lst [.int x], .lst (txs ks)] = defK [0, 1] 2 (b_l_any_deed_t6 [.lst [.int x6], .lst (txs ks), .val (.str (cs kw)), .val (.int i2), .val (.str (cs k1)), .val (.str (cs k2)), .val (.int pl), .val (.int nu)]) := fun kw hk => by
    simp only [kput, ktake, kmove, kcount, kname, ksplit, kjoin] at hk
    simp [-b_l_any_deed_t6, -p_lenL, m_l_any_deed, b_l_any_deed, e1, e2, e3, e4, e5, e6, eL, q1, q2, q3, q4, hk, hν]
  obtain rfl | rfl | rfl | rfl | rfl | rfl | rfl | rfl | rfl : i1 = 0 ∨ i1 = 1 ∨ i1 = 2 ∨ i1 = 3 ∨ i1 = 4 ∨ i1 = 5 ∨ i1 = 6 ∨ i1 = 7 ∨ i1 = 8 := by omega
  · exact ⟨.put k1 pl nu, x6, ⟨o1, bp⟩, by rw [run kput rfl]; simp [kput, p_eq, Dd.d, Dd.ds, tx]⟩
  · exact ⟨.take k1, x6, o1, by rw [run ktake rfl]; simp [ktake, p_eq, Dd.d, Dd.ds, tx]⟩
  · exact ⟨.move k1 pl, x6, ⟨o1, bp⟩, by rw [run kmove rfl]; simp [kmove, p_eq, Dd.d, Dd.ds, tx]⟩
  · exact ⟨.count k1 nu, x6, o1, by rw [run kcount rfl]; simp [kcount, p_eq, Dd.d, Dd.ds, tx]⟩
  · exact ⟨.name k1 k2, x6, ⟨o1, o2, ne12⟩, by rw [run kname rfl]; simp [kname, p_eq, Dd.d, Dd.ds, tx]⟩
  · exact ⟨.split k1 k2 pl nu, x6, ⟨o1, o2, ne12, bp⟩, by rw [run ksplit rfl]; simp [ksplit, p_eq, Dd.d, Dd.ds, tx]⟩
  · exact ⟨.join k1 k2, x6, ⟨o1, o2, ne12⟩, by rw [run kjoin rfl]; simp [kjoin, p_eq, Dd.d, Dd.ds, tx]⟩
  · exact ⟨.count k1 nu, x6, o1, by rw [run kcount rfl]; simp [kcount, p_eq, Dd.d, Dd.ds, tx]⟩
  · exact ⟨.move k1 pl, x6, ⟨o1, bp⟩, by rw [run kmove rfl]; simp [kmove, p_eq, Dd.d, Dd.ds, tx]⟩
theorem named_eq24 (d : Dd) : m_l_named [.val d.d] = .ok (.lst (txs d.nms)) [.val d.d] := by
  cases d <;> simp -implicitDefEqProofs [Dd.d, Dd.ds, Dd.nms, m_l_named, b_l_named, tx, kput, ktake, kmove, kcount, kname, ksplit, kjoin]
/-! ### what can be done -/
theorem txs_tx24 (l : List Nm) : txs l = l.map tx := rfl
theorem made_eq24 (d : Dd) : m_l_made [.val d.d] = .ok (.val (.str (cs (d.made.getD [])))) [.val d.d] := by
  cases d <;> simp -implicitDefEqProofs [Dd.d, Dd.ds, Dd.made, m_l_made, b_l_made, tx, p_eq, kput, ktake, kmove, kcount, kname, ksplit, kjoin]
def canB (w : List Th) (d : Dd) : Bool := d.nms.all fun n => decide (n ∈ names w) != decide (n = d.made.getD [])
theorem name_ne {n : Nm} (h : NameOk n) : n ≠ [] := by
  rintro rfl
  have := h.1
  simp at this
theorem nms_ok {d : Dd} (g : d.good) : ∀ n ∈ d.nms, NameOk n := by
  intro n hn
  cases d <;> simp [Dd.nms] at hn <;> simp only [Dd.good] at g
  all_goals first
    | (subst hn; first | exact g | exact g.1)
    | (rcases hn with rfl | rfl; · exact g.1
       · exact g.2.1)
theorem canB_iff {w : List Th} {d : Dd} (g : d.good) : canB w d = true ↔ can w d := by
  have isn : ∀ n, (val w n).isSome = true ↔ n ∈ names w := fun n => by rw [← val_some, Option.isSome_iff_exists]
  have nn : ∀ n, val w n = none ↔ n ∉ names w := fun n => val_none
  have ok := nms_ok g
  unfold canB
  rw [can_val, List.all_eq_true]
  simp only [isn, nn]
  cases d <;> simp [Dd.nms, Dd.must, Dd.made] at ok ⊢
  all_goals simp only [Dd.good] at g
  all_goals first
    | (have := name_ne ok; simp [this]; done)
    | (have h1 := name_ne ok.1; have h2 := name_ne ok.2; simp [h1, h2]; done)
    | (have h1 := g.2.2; simp [h1]; done)
    | (have h1 := g.2.2.1; simp [h1]; done)
/-- a slot that holds a world in a dict, or nothing -/
def DW (S : Slot) (w : List Th) : Prop := ∃ kvs, Wk w kvs ∧ (S = .dic kvs ∨ S = .val (.dict (qD kvs)))
theorem in_dw {w : List Th} {kvs : List (Key × D)} (h : Wk w kvs) (n : Nm) : pIn [tx n, .dict (qD kvs)] = some (.val (.bool (decide (n ∈ names w)))) := by
  have v := h.vals n
  show some (Slot.val (.bool (dGet (qD kvs) (.inr (cs n))).isSome)) = _
  rw [dGet_q, v, Option.isSome_map]
  congr 3
  rw [Bool.eq_iff_iff, decide_eq_true_eq, ← val_some, Option.isSome_iff_exists]
theorem ne_bb (a b : Bool) : pNe [.bool a, .bool b] = some (.val (.bool (a != b))) := by
  cases a <;> cases b <;> rfl
theorem can_eq24 {w : List Th} {S : Slot} (hS : DW S w) (d : Dd) : m_l_can [S, .val d.d] = .ok (.val (.bool (canB w d))) [S, .val d.d] := by
  obtain ⟨kvs, h, hS⟩ := hS
  have nl := nms_len d
  have nm := named_eq24 d
  have md := made_eq24 d
  have key : ∀ S : Slot, S.data = some (.dict (qD kvs)) → (S = .dic kvs ∨ S = .val (.dict (qD kvs))) → m_l_can [S, .val d.d] = .ok (.val (.bool (canB w d))) [S, .val d.d] := fun S hd hS => by
    have cc := comp_yes (v := 2) (f := b_l_can_e1) (ρ := [S, .val d.d, .emp]) (L := d.nms) tx (fun n => .bool (decide (n ∈ names w) != decide (n = d.made.getD []))) (fun n _ => ⟨.val (.bool (decide (n ∈ names w) != decide (n = d.made.getD []))), by
      have i1 := in_dw h n
      have i2 : pEq [tx n, .str (cs (d.made.getD []))] = some (.val (.bool (decide (n = d.made.getD [])))) := by simp [tx, p_eq]
      have i3 := ne_bb (decide (n ∈ names w)) (decide (n = d.made.getD []))
      generalize decide (n ∈ names w) = p at *
      generalize decide (n = d.made.getD []) = q at *
      generalize cs (d.made.getD []) = ms at *
      generalize tx n = y at *
      generalize d.d = z at *
      rcases hS with rfl | rfl
      · simp -implicitDefEqProofs [b_l_can_e1, md, i1, i2, i3]
      · simp -implicitDefEqProofs [b_l_can_e1, md, i1, i2, i3], rfl⟩) (by omega)
    rw [← txs_tx24] at cc
    have al := p_allM (L := d.nms) (b := fun n => decide (n ∈ names w) != decide (n = d.made.getD []))
    unfold canB
    generalize (d.nms.all fun n => decide (n ∈ names w) != decide (n = d.made.getD [])) = r at *
    generalize (d.nms.map fun n => PyData.bool (decide (n ∈ names w) != decide (n = d.made.getD []))) = Y at *
    generalize txs d.nms = NN at *
    generalize d.d = z at *
    rcases hS with rfl | rfl
    · simp -implicitDefEqProofs [-p_all, m_l_can, b_l_can, nm, cc, al]
    · simp -implicitDefEqProofs [-p_all, m_l_can, b_l_can, nm, cc, al]
  rcases hS with rfl | rfl
  · exact key _ rfl (.inl rfl)
  · exact key _ rfl (.inr rfl)
end K

set_option Elab.async false
set_option linter.all false
set_option autoImplicit false
set_option maxRecDepth 100000
set_option maxHeartbeats 1000000
/-! k24: deeds done and undone on dicts -/
namespace K
open PySem PySem.Spec PyProof.Rows L2 SD
theorem Wk.congr24 {w w' : List Th} {kvs : List (Key × D)} (h : Wk w kvs) (e : ∀ n, val w n = val w' n) : Wk w' kvs := ⟨h.keys, fun n => by rw [h.vals, e]⟩
section
variable {w : List Th} {kvs : List (Key × D)}
theorem do_can24 (h : Wk w kvs) (r : Rise w) (hl : w.length ≤ 1000) {d : Dd} (g : d.good) (c : can w d) {S : Slot} (hS : S = .dic kvs ∨ S = .val (.dict (qD kvs))) : ∃ kvs', Wk (act w d) kvs' ∧ m_l_do [S, .val d.d] = .ok (.dic kvs') [S, .val d.d] := by
  have t := good_two g
  have kl := h.len r
  have k1 : kvs.length ≤ 16777215 := by omega
  have k1' : kvs.length < 16777216 := by omega
  have k2 : ∀ k d, (putQ kvs k d).length ≤ 16777215 := fun k d => by have := put_len kvs k d; omega
  have dl : ∀ (kv : List (Key × D)) k, (dropQ kv k).length ≤ kv.length := fun kv k => List.length_filter_le _ _
  have k3 : ∀ k, (dropQ kvs k).length ≤ 16777215 := fun k => by have := dl kvs k; omega
  have k3' : ∀ k, (dropQ kvs k).length < 16777216 := fun k => by have := dl kvs k; omega
  have k4' : ∀ k j, (dropQ (dropQ kvs k) j).length < 16777216 := fun k j => by have := dl kvs k; have := dl (dropQ kvs k) j; omega
  have k5' : ∀ k j d, (putQ (dropQ kvs k) j d).length < 16777216 := fun k j d => by have := put_len (dropQ kvs k) j d; have := dl kvs k; omega
  have cn : m_l_can [S, .val d.d] = .ok (.val (.bool true)) [S, .val d.d] := by
    have := can_eq24 ⟨kvs, h, hS⟩ d
    rw [(canB_iff g).mpr c] at this
    exact this
  have vp : ∀ (n : Nm) (x : Int × Int), val w n = some x → valQ kvs (.inr (cs n)) = some (.tuple [.int x.1, .int x.2]) := fun n x hx => by rw [h.vals, hx]; rfl
  cases d with
  | put n p k =>
    refine ⟨_, h.put n (p, k), ?_⟩
    simp -implicitDefEqProofs only [Dd.d, Dd.ds, tx, kput] at cn ⊢
    rcases hS with rfl | rfl <;> simp -implicitDefEqProofs [m_l_do, b_l_do, cn, p_eq, vD, k1']
  | take n =>
    obtain ⟨x, hx⟩ := can_must c (n := n) (by simp [Dd.must])
    have v := vp n x hx
    refine ⟨_, h.drop n, ?_⟩
    simp -implicitDefEqProofs only [Dd.d, Dd.ds, tx, ktake] at cn ⊢
    rcases hS with rfl | rfl <;> simp -implicitDefEqProofs [m_l_do, b_l_do, cn, p_eq, v]
  | move n p =>
    obtain ⟨x, hx⟩ := can_must c (n := n) (by simp [Dd.must])
    have v := vp n x hx
    have e : act w (.move n p) = wth w (n, p, x.2) := by simp only [act, hx]
    rw [e]
    refine ⟨_, ((h.drop n).put n (p, x.2)).congr24 fun q => ?_, ?_⟩
    · by_cases z : q = n <;> simp [val_wth, val_rem, z]
    simp -implicitDefEqProofs only [Dd.d, Dd.ds, tx, kmove] at cn ⊢
    rcases hS with rfl | rfl <;> simp -implicitDefEqProofs [m_l_do, b_l_do, cn, p_eq, v, vD, k3']
  | count n k =>
    obtain ⟨x, hx⟩ := can_must c (n := n) (by simp [Dd.must])
    have v := vp n x hx
    have e : act w (.count n k) = wth w (n, x.1, x.2 + k) := by simp only [act, hx]
    rw [e]
    refine ⟨_, ((h.drop n).put n (x.1, x.2 + k)).congr24 fun q => ?_, ?_⟩
    · by_cases z : q = n <;> simp [val_wth, val_rem, z]
    simp -implicitDefEqProofs only [Dd.d, Dd.ds, tx, kcount] at cn ⊢
    rcases hS with rfl | rfl <;> simp -implicitDefEqProofs [m_l_do, b_l_do, cn, p_eq, v, vD, k3']
  | name n m =>
    obtain ⟨x, hx⟩ := can_must c (n := n) (by simp [Dd.must])
    have v := vp n x hx
    have e : act w (.name n m) = wth (rem w n) (m, x.1, x.2) := by simp only [act, hx]
    rw [e]
    refine ⟨_, (h.drop n).put m (x.1, x.2), ?_⟩
    simp -implicitDefEqProofs only [Dd.d, Dd.ds, tx, kname] at cn ⊢
    rcases hS with rfl | rfl <;> simp -implicitDefEqProofs [m_l_do, b_l_do, cn, p_eq, v, vD, k3']
  | split n m p k =>
    obtain ⟨x, hx⟩ := can_must c (n := n) (by simp [Dd.must])
    have v := vp n x hx
    have e : act w (.split n m p k) = wth (wth w (n, x.1, x.2 - k)) (m, p, k) := by simp only [act, hx]
    rw [e]
    refine ⟨_, (((h.drop n).put n (x.1, x.2 - k)).put m (p, k)).congr24 fun q => ?_, ?_⟩
    · by_cases z : q = n <;> by_cases z2 : q = m <;> simp [val_wth, val_rem, z, z2]
    simp -implicitDefEqProofs only [Dd.d, Dd.ds, tx, ksplit] at cn ⊢
    rcases hS with rfl | rfl <;> simp -implicitDefEqProofs [m_l_do, b_l_do, cn, p_eq, v, vD, k3', k5']
  | join n m =>
    obtain ⟨x, hx⟩ := can_must c (n := n) (by simp [Dd.must])
    obtain ⟨y, hy⟩ := can_must c (n := m) (by simp [Dd.must])
    have v := vp n x hx
    have nm : n ≠ m := t
    have v2 : valQ (dropQ kvs (.inr (cs n))) (.inr (cs m)) = some (.tuple [.int y.1, .int y.2]) := by
      rw [(h.drop n).vals, val_rem, if_neg (fun z => nm z.symm), hy]; rfl
    have e : act w (.join n m) = wth (rem w m) (n, x.1, x.2 + y.2) := by simp only [act, hx, hy]
    rw [e]
    refine ⟨_, (((h.drop n).drop m).put n (x.1, x.2 + y.2)).congr24 fun q => ?_, ?_⟩
    · by_cases z : q = n <;> simp [val_wth, val_rem, z]
    simp -implicitDefEqProofs only [Dd.d, Dd.ds, tx, kjoin] at cn ⊢
    rcases hS with rfl | rfl <;> simp -implicitDefEqProofs [m_l_do, b_l_do, cn, p_eq, v, v2, vD, k3', k4']
theorem do_cannot24 {S : Slot} (hS : DW S w) {d : Dd} (g : d.good) (c : ¬ can w d) : m_l_do [S, .val d.d] = .ok (.val .none) [S, .val d.d] := by
  have cn : m_l_can [S, .val d.d] = .ok (.val (.bool false)) [S, .val d.d] := by
    have := can_eq24 hS d
    rw [Bool.eq_false_iff.mpr fun h => c ((canB_iff g).mp h)] at this
    exact this
  obtain ⟨kvs, h, hS⟩ := hS
  generalize d.d = z at *
  rcases hS with rfl | rfl <;> simp -implicitDefEqProofs [m_l_do, b_l_do, cn]
theorem do_none24 (d : Dd) : m_l_do [.val .none, .val d.d] = .ok (.val .none) [.val .none, .val d.d] := by
  generalize d.d = z at *
  simp -implicitDefEqProofs [m_l_do, b_l_do]
theorem back_eq24 {S : Slot} (hS : DW S w) {d : Dd} (c : can w d) : m_l_back [S, .val d.d] = .ok (.val (back w d).d) [S, .val d.d] := by
  obtain ⟨kvs, h, hS⟩ := hS
  have vp : ∀ (n : Nm) (x : Int × Int), val w n = some x → valQ kvs (.inr (cs n)) = some (.tuple [.int x.1, .int x.2]) := fun n x hx => by rw [h.vals, hx]; rfl
  cases d with
  | put n p k =>
    rcases hS with rfl | rfl <;> simp -implicitDefEqProofs [m_l_back, b_l_back, p_eq, back, Dd.d, Dd.ds, tx, kput, ktake]
  | take n =>
    obtain ⟨x, hx⟩ := can_must c (n := n) (by simp [Dd.must])
    have v := vp n x hx
    rcases hS with rfl | rfl <;> simp -implicitDefEqProofs [m_l_back, b_l_back, p_eq, back, hx, v, Dd.d, Dd.ds, tx, kput, ktake]
  | move n p =>
    obtain ⟨x, hx⟩ := can_must c (n := n) (by simp [Dd.must])
    have v := vp n x hx
    rcases hS with rfl | rfl <;> simp -implicitDefEqProofs [m_l_back, b_l_back, p_eq, back, hx, v, Dd.d, Dd.ds, tx, kmove]
  | count n k =>
    rcases hS with rfl | rfl <;> simp -implicitDefEqProofs [m_l_back, b_l_back, p_eq, back, Dd.d, Dd.ds, tx, kcount]
  | name n m =>
    rcases hS with rfl | rfl <;> simp -implicitDefEqProofs [m_l_back, b_l_back, p_eq, back, Dd.d, Dd.ds, tx, kname]
  | split n m p k =>
    rcases hS with rfl | rfl <;> simp -implicitDefEqProofs [m_l_back, b_l_back, p_eq, back, Dd.d, Dd.ds, tx, ksplit, kjoin]
  | join n m =>
    obtain ⟨y, hy⟩ := can_must c (n := m) (by simp [Dd.must])
    have v := vp m y hy
    rcases hS with rfl | rfl <;> simp -implicitDefEqProofs [m_l_back, b_l_back, p_eq, back, hy, v, Dd.d, Dd.ds, tx, ksplit, kjoin]
end
end K

set_option Elab.async false
set_option linter.all false
set_option autoImplicit false
set_option maxRecDepth 100000
set_option maxHeartbeats 1000000
/-! k24: rows of two deeds; their back deeds in order -/
namespace K
open PySem PySem.Spec PyProof.Rows L2 SD
theorem ltb1_alike : ∀ {xs ys : List D}, W.alikeAll xs ys = true → (∀ x ∈ xs, notNone x = true) → ltb1 xs ys = true
  | [], _, _, _ => by unfold ltb1; rfl
  | _ :: _, [], _, _ => by unfold ltb1; rfl
  | x :: xs, y :: ys, h, n => by
    obtain ⟨h1, h2⟩ := W.alike_all_cons h
    unfold ltb1
    rw [h1, ltb1_alike h2 fun z hz => n z (List.mem_cons_of_mem _ hz), n x List.mem_cons_self]
    simp
theorem ltb_words {a b : Nm} (h : a ≠ b) (xs ys : List D) : ltb1 (tx a :: xs) (tx b :: ys) = true := by
  unfold ltb1
  have e : PyData.eqv (tx a) (tx b) = false := by
    cases q : PyData.eqv (tx a) (tx b) with
    | false => rfl
    | true =>
      have : decide (a = b) = true := by rw [← q]; simp [tx, PyData.eqv]
      exact absurd (of_decide_eq_true this) h
  rw [e]
  rfl
theorem ltb_dd (a b : Dd) : ltbT a.d b.d = true := by
  have key : ∀ (x y : Nm) (xs ys : List D), (x = y → W.alikeAll xs ys = true ∧ ∀ z ∈ xs, notNone z = true) → ltbT (.tuple (tx x :: xs)) (.tuple (tx y :: ys)) = true := fun x y xs ys h => by
    show ltb1 (tx x :: xs) (tx y :: ys) = true
    by_cases e : x = y
    · obtain ⟨h1, h2⟩ := h e
      subst e
      refine ltb1_alike ?_ fun z hz => ?_
      · rw [W.alikeAll, h1]; rfl
      · rcases List.mem_cons.mp hz with rfl | hz
        · rfl
        · exact h2 z hz
    · exact ltb_words e _ _
  cases a <;> cases b <;> refine key _ _ _ _ fun e => ?_ <;> first
    | (exact absurd e (by decide))
    | (refine ⟨by simp [W.alikeAll, W.alike, tx], fun z hz => ?_⟩
       simp at hz
       first
         | (rcases hz with rfl | rfl | rfl | rfl <;> rfl)
         | (rcases hz with rfl | rfl | rfl <;> rfl)
         | (rcases hz with rfl | rfl <;> rfl)
         | (subst hz; rfl))
/-! ### pairs of deeds -/
def pD (p : Dd × Dd) : D := .tuple [p.1.d, p.2.d]
theorem alike_dd (d : Dd) : W.alike d.d d.d = true := by
  cases d <;> simp [Dd.d, Dd.ds, tx, W.alike, W.alikeAll]
theorem ltb_pD (p q : Dd × Dd) : ltbR (pD p) (pD q) = true := by
  have two : ∀ (x y : Dd) (xs ys : List D), ltb2 xs ys = true → ltb2 (x.d :: xs) (y.d :: ys) = true := fun x y xs ys h => by
    unfold ltb2
    rw [dd_eqv]
    by_cases e : x = y
    · subst e
      simp [alike_dd, h]
    · simp [e, ltb_dd]
  exact two _ _ _ _ (two _ _ _ _ (by unfold ltb2; rfl))
theorem row_pD (p : Dd × Dd) : row2 (pD p) = true := by
  have : ∃ l, p.1.d = .tuple l := by cases p.1 <;> exact ⟨_, rfl⟩
  obtain ⟨l, e⟩ := this
  unfold pD
  rw [e]
  rfl
theorem sort_pD (p q : Dd × Dd) : pSortedX [.list [pD p, pD q]] = some (.lst (sortD [pD p, pD q])) := by
  have ok : sortOk2 [pD p, pD q] = true := by
    unfold sortOk2
    simp only [List.all_cons, List.all_nil, row_pD, ltb_pD, Bool.and_true, Bool.true_and]
    simp [pD, PyData.plainAll, PyData.plain, PyData.depthAll, PyData.depth, lineOk]
  show (if sortOk2 [pD p, pD q] then some (Slot.lst (sortD [pD p, pD q])) else none) = _
  rw [if_pos ok]
theorem toks_pD {p q : Dd × Dd} (h : W.keyToks (pD p) = W.keyToks (pD q)) : p = q := by
  have cs1 : ∀ {a b : Nm}, (cs a).cps.toList = (cs b).cps.toList → a = b := fun {a b} h => by simpa using h
  have key : ∀ (a b : Dd) (l m : List (Int ⊕ List Nat)), W.keyToks a.d ++ l = W.keyToks b.d ++ m → a = b ∧ l = m := by
    intro a b l m h
    cases a <;> cases b <;> simp [Dd.d, Dd.ds, tx, W.keyToks, W.keyToksAll, kput, ktake, kmove, kcount, kname, ksplit, kjoin] at h
    all_goals simp [h]
  obtain ⟨p1, p2⟩ := p
  obtain ⟨q1, q2⟩ := q
  simp only [pD, W.keyToks, W.keyToksAll, List.cons.injEq, true_and] at h
  obtain ⟨e1, h2⟩ := key _ _ _ _ h
  simp only [List.cons.injEq, true_and] at h2
  obtain ⟨e2, -⟩ := key _ _ _ _ h2
  rw [e1, e2]
theorem sort_swap (p q : Dd × Dd) : sortD [pD p, pD q] = sortD [pD q, pD p] := by
  rw [sort2, sort2]
  cases h1 : W.dataLt (pD q) (pD p) with
  | true =>
    cases h2 : W.dataLt (pD p) (pD q) with
    | true =>
      have := lex_trans (O := itemOrd) _ _ _ h1 h2
      rw [lex_irrefl] at this
      cases this
    | false => simp
  | false =>
    cases h2 : W.dataLt (pD p) (pD q) with
    | true => simp
    | false =>
      have := toks_pD (lex_total (O := itemOrd) _ _ h1 h2)
      rw [this]
/-! ### rows of two -/
def stp (o : Option (List Th)) (d : Dd) : Option (List Th) := o.bind fun w => if canB w d then some (act w d) else none
/-- a slot that holds a world, or None -/
def OW (S : Slot) : Option (List Th) → Prop
  | none => S = .val .none
  | some w => DW S w
theorem do_eq24 {o : Option (List Th)} {S : Slot} (hS : OW S o) (r : ∀ w, o = some w → Rise w ∧ w.length ≤ 1000) {d : Dd} (g : d.good) : ∃ S', OW S' (stp o d) ∧ m_l_do [S, .val d.d] = .ok S' [S, .val d.d] := by
  cases o with
  | none => exact ⟨.val .none, rfl, by rw [show S = .val .none from hS]; exact do_none24 d⟩
  | some w =>
    obtain ⟨r1, r2⟩ := r w rfl
    by_cases c : can w d
    · obtain ⟨kvs, h, hs⟩ := hS
      obtain ⟨kvs', h', e⟩ := do_can24 h r1 r2 g c hs
      refine ⟨.dic kvs', ?_, e⟩
      show OW _ (if canB w d then some (act w d) else none)
      rw [if_pos ((canB_iff g).mpr c)]
      exact ⟨kvs', h', .inl rfl⟩
    · refine ⟨.val .none, ?_, do_cannot24 hS g c⟩
      show OW _ (if canB w d then some (act w d) else none)
      rw [if_neg fun z => c ((canB_iff g).mp z)]
      rfl
theorem stp_ok {o : Option (List Th)} {n : Nat} (r : ∀ w, o = some w → Rise w ∧ w.length ≤ n) (d : Dd) : ∀ w, stp o d = some w → Rise w ∧ w.length ≤ n + 2 := by
  intro w h
  cases o with
  | none => cases h
  | some v =>
    obtain ⟨r1, r2⟩ := r v rfl
    have h : (if canB v d then some (act v d) else none) = some w := h
    split at h
    · injection h with h
      subst h
      have := act_len v d
      exact ⟨rise_act r1 _, by omega⟩
    · cases h
theorem ow_data {S : Slot} {o : Option (List Th)} (h : OW S o) : S.isSome = true ∧ ((o = none ∧ S = .val .none) ∨ ∃ w kvs, o = some w ∧ Wk w kvs ∧ (S = .dic kvs ∨ S = .val (.dict (qD kvs)))) := by
  cases o with
  | none => rw [show S = .val .none from h]; exact ⟨rfl, .inl ⟨rfl, rfl⟩⟩
  | some w =>
    obtain ⟨kvs, h1, h2⟩ := h
    refine ⟨?_, .inr ⟨w, kvs, rfl, h1, h2⟩⟩
    rcases h2 with rfl | rfl <;> rfl
theorem done_eq24 {w : List Th} {kvs : List (Key × D)} (h : Wk w kvs) (r : Rise w) (hl : w.length ≤ 500) {a b : Dd} (ga : a.good) (gb : b.good) : ∃ S', OW S' (stp (stp (some w) a) b) ∧ m_l_done [.val (.dict (qD kvs)), .lst [a.d, b.d]] = .ok S' [.emp, .val (.list [a.d, b.d])] := by
  obtain ⟨S1, h1, e1⟩ := do_eq24 (o := some w) (S := .val (.dict (qD kvs))) ⟨kvs, h, .inr rfl⟩ (fun v e => by injection e with e; subst e; exact ⟨r, by omega⟩) ga
  have r1 := stp_ok (o := some w) (n := 500) (fun v e => by injection e with e; subst e; exact ⟨r, hl⟩) a
  obtain ⟨S2, h2, e2⟩ := do_eq24 h1 (fun v e => by obtain ⟨x, y⟩ := r1 v e; exact ⟨x, by omega⟩) gb
  refine ⟨S2, h2, ?_⟩
  obtain ⟨i1, d1⟩ := ow_data h1
  obtain ⟨i2, d2⟩ := ow_data h2
  generalize a.d = x at *
  generalize b.d = y at *
  have f1 : forL (gNm 2) b_l_done_f1 [x, y] [.val (.dict (qD kvs)), .val (.list [x, y]), .emp] = .ok .next [S2, .val (.list [x, y]), .val y] := by
    have q1 : b_l_done_f1 [.val (.dict (qD kvs)), .val (.list [x, y]), .val x] = .ok .next [S1, .val (.list [x, y]), .val x] := by simp -implicitDefEqProofs [b_l_done_f1, e1]
    have q2 : b_l_done_f1 [S1, .val (.list [x, y]), .val y] = .ok .next [S2, .val (.list [x, y]), .val y] := by
      rcases d1 with ⟨-, rfl⟩ | ⟨_, _, -, -, rfl | rfl⟩ <;> simp -implicitDefEqProofs [b_l_done_f1, e2]
    simp -implicitDefEqProofs [forL, q1, q2, Out.bind]
  rcases d2 with ⟨-, rfl⟩ | ⟨_, _, -, -, rfl | rfl⟩ <;> simp -implicitDefEqProofs [m_l_done, b_l_done, f1]
theorem backs_eq24 {w : List Th} {kvs : List (Key × D)} (h : Wk w kvs) (r : Rise w) (hl : w.length ≤ 500) {a b : Dd} (ga : a.good) (gb : b.good) (ca : can w a) (cb : can (act w a) b) : m_l_backs [.val (.dict (qD kvs)), .lst [a.d, b.d]] = .ok (.lst (sortD [pD (a, back w a), pD (b, back (act w a) b)])) [.emp, .val (.list [a.d, b.d])] := by
  obtain ⟨k1, h1, e1⟩ := do_can24 h r (by omega) ga ca (.inr rfl)
  have al := act_len w a
  obtain ⟨k2, h2, e2⟩ := do_can24 h1 (rise_act r _) (by omega) gb cb (.inl rfl)
  have b1 := back_eq24 (S := .val (.dict (qD kvs))) ⟨kvs, h, .inr rfl⟩ ca
  have b2 := back_eq24 (S := .dic k1) ⟨k1, h1, .inl rfl⟩ cb
  have so := sort_pD (a, back w a) (b, back (act w a) b)
  have p1 : pD (a, back w a) = .tuple [a.d, (back w a).d] := rfl
  have p2 : pD (b, back (act w a) b) = .tuple [b.d, (back (act w a) b).d] := rfl
  rw [p1, p2] at so ⊢
  generalize a.d = x at *
  generalize b.d = y at *
  generalize (back w a).d = u at *
  generalize (back (act w a) b).d = v at *
  have q1 : b_l_backs_f1 [.val (.dict (qD kvs)), .val (.list [x, y]), .lst [], .val x] = .ok .next [.dic k1, .val (.list [x, y]), .lst [.tuple [x, u]], .val x] := by simp -implicitDefEqProofs [b_l_backs_f1, b1, e1]
  have q2 : b_l_backs_f1 [.dic k1, .val (.list [x, y]), .lst [.tuple [x, u]], .val y] = .ok .next [.dic k2, .val (.list [x, y]), .lst [.tuple [x, u], .tuple [y, v]], .val y] := by simp -implicitDefEqProofs [b_l_backs_f1, b2, e2]
  have f1 : forL (gNm 3) b_l_backs_f1 [x, y] [.val (.dict (qD kvs)), .val (.list [x, y]), .lst [], .emp] = .ok .next [.dic k2, .val (.list [x, y]), .lst [.tuple [x, u], .tuple [y, v]], .val y] := by
    simp -implicitDefEqProofs [forL, q1, q2, Out.bind]
  simp -implicitDefEqProofs [m_l_backs, b_l_backs, f1, so]
end K

set_option Elab.async false
set_option linter.all false
set_option autoImplicit false
set_option maxRecDepth 100000
set_option maxHeartbeats 1000000
/-! k24: one world; all worlds -/
namespace K
open PySem PySem.Spec PyProof.Rows L2 SD
section
variable {w : List Th} {kvs : List (Key × D)} {a b : Dd}
theorem two_some (ga : a.good) (gb : b.good) (ca : can w a) (cb : can (act w a) b) : stp (stp (some w) a) b = some (act (act w a) b) := by
  show ((if canB w a then some (act w a) else none : Option (List Th)).bind fun v => if canB v b then some (act v b) else none) = _
  rw [if_pos ((canB_iff ga).mpr ca)]
  show (if canB (act w a) b then some (act (act w a) b) else none) = _
  rw [if_pos ((canB_iff gb).mpr cb)]
theorem two_none (ga : a.good) (gb : b.good) (h : ¬ (can w a ∧ can (act w a) b)) : stp (stp (some w) a) b = none := by
  show ((if canB w a then some (act w a) else none : Option (List Th)).bind fun v => if canB v b then some (act v b) else none) = _
  by_cases ca : can w a
  · rw [if_pos ((canB_iff ga).mpr ca)]
    show (if canB (act w a) b then some (act (act w a) b) else none) = _
    rw [if_neg fun z => h ⟨ca, (canB_iff gb).mp z⟩]
  · rw [if_neg fun z => ca ((canB_iff ga).mp z)]
    rfl
theorem two_goR (ga : a.good) (gb : b.good) : GoR w [a, b] ↔ can w a ∧ can (act w a) b := by
  simp only [GoR]
  exact ⟨fun h => ⟨h.1.2, h.2.1.2⟩, fun h => ⟨⟨ga, h.1⟩, ⟨gb, h.2⟩, trivial⟩⟩
theorem same_eq24 (h : Wk w kvs) (r : Rise w) (hl : w.length ≤ 500) (ga : a.good) (gb : b.good) (t : touchB a b = false) : ∃ o0, m_l_same [.val (.dict (qD kvs)), .val a.d, .val b.d] = .ok (.val (.bool true)) [o0, .val a.d, .val b.d] := by
  obtain ⟨S1, h1, e1⟩ := done_eq24 h r hl ga gb
  obtain ⟨S2, h2, e2⟩ := done_eq24 h r hl gb ga
  have t' : touchB b a = false := by rw [touch_comm21]; exact t
  refine ⟨.val (.dict (qD kvs)), ?_⟩
  by_cases c : can w a ∧ can (act w a) b
  · have sw := swap_of r c.1 (good_two ga) c.2 (good_two gb) t
    rw [two_some ga gb c.1 c.2] at h1
    rw [two_some gb ga sw.cb sw.ca, sw.acts] at h2
    obtain ⟨k1, w1, d1⟩ := h1
    obtain ⟨k2, w2, d2⟩ := h2
    have rr : Rise (act (act w a) b) := rise_act (rise_act r _) _
    have eq : pEqD [.dict (qD k1), .dict (qD k2)] = some (.val (.bool true)) := by
      show (if _ then _ else _) = _
      rw [if_pos ⟨wk_vok w1, wk_vok w2, wk_nodup w1, wk_nodup w2⟩, dictB_wk w1 w2 rr rr]
      simp
    have b1 := backs_eq24 h r hl ga gb c.1 c.2
    have b2 := backs_eq24 h r hl gb ga sw.cb sw.ca
    rw [sw.bb] at b1
    rw [sw.ba, sort_swap] at b2
    have pl : PyData.plainAll (sortD [pD (a, back w a), pD (b, back w b)]) = true ∧ PyData.depthAll (sortD [pD (a, back w a), pD (b, back w b)]) ≤ 2 := by
      have x : ∀ p q : Dd × Dd, PyData.plainAll [pD p, pD q] = true ∧ PyData.depthAll [pD p, pD q] ≤ 2 := fun p q => by
        simp [pD, PyData.plainAll, PyData.plain, PyData.depthAll, PyData.depth]
      rw [sort2]
      split
      · exact x _ _
      · exact x _ _
    have ee : pEq [.list (sortD [pD (a, back w a), pD (b, back w b)]), .list (sortD [pD (a, back w a), pD (b, back w b)])] = some (.val (.bool true)) := by
      have p1 : PyData.plain (.list (sortD [pD (a, back w a), pD (b, back w b)])) = true := by rw [PyData.plain]; exact pl.1
      have p2 : PyData.depth (.list (sortD [pD (a, back w a), pD (b, back w b)])) ≤ 60 := by rw [PyData.depth]; have := pl.2; omega
      rw [p_eq, if_pos]
      · rw [SeqAt.eqv_refl_plain _ p1]
      · unfold eqOk
        rw [p1]
        simp
        omega
    generalize sortD [pD (a, back w a), pD (b, back w b)] = L at *
    generalize a.d = x at *
    generalize b.d = y at *
    rcases d1 with rfl | rfl <;> rcases d2 with rfl | rfl <;> simp -implicitDefEqProofs [m_l_same, b_l_same, e1, e2, eq, b1, b2, ee]
  · have c' : ¬ (can w b ∧ can (act w b) a) := fun z => by
      have sw := swap_of r z.1 (good_two gb) z.2 (good_two ga) t'
      exact c ⟨sw.cb, sw.ca⟩
    rw [two_none ga gb c] at h1
    rw [two_none gb ga c'] at h2
    rw [show S1 = .val .none from h1] at e1
    rw [show S2 = .val .none from h2] at e2
    generalize a.d = x at *
    generalize b.d = y at *
    simp -implicitDefEqProofs [m_l_same, b_l_same, e1, e2]
theorem isn_eq24 (h : Wk w kvs) (r : Rise w) (hl : w.length ≤ 500) (ga : a.good) (gb : b.good) : ∃ S, m_l_done [.val (.dict (qD kvs)), .lst [a.d, b.d]] = .ok S [.emp, .val (.list [a.d, b.d])] ∧ (((stp (stp (some w) a) b).isNone = true ∧ S = .val .none) ∨ ((stp (stp (some w) a) b).isNone = false ∧ ∃ k, S = .dic k ∨ S = .val (.dict (qD k)))) := by
  obtain ⟨S1, h1, e1⟩ := done_eq24 h r hl ga gb
  refine ⟨S1, e1, ?_⟩
  rcases (ow_data h1).2 with ⟨h2, e⟩ | ⟨v, k, h2, -, e⟩
  · rw [h2]; exact .inl ⟨rfl, e⟩
  · rw [h2]; exact .inr ⟨rfl, k, e⟩
/-- two that touch and can be done one behind the other: the other row comes to something else -/
theorem ne_eq24 (h : Wk w kvs) (r : Rise w) (hl : w.length ≤ 500) (ga : a.good) (gb : b.good) : ∃ (S1 S2 : Slot) (x y : D), m_l_done [.val (.dict (qD kvs)), .lst [a.d, b.d]] = .ok S1 [.emp, .val (.list [a.d, b.d])] ∧ m_l_done [.val (.dict (qD kvs)), .lst [b.d, a.d]] = .ok S2 [.emp, .val (.list [b.d, a.d])] ∧
    (S1 = .val x ∨ ∃ k, S1 = .dic k ∧ x = .dict (qD k)) ∧ (S2 = .val y ∨ ∃ k, S2 = .dic k ∧ y = .dict (qD k)) ∧ pNeD [x, y] = some (.val (.bool (decide (stp (stp (some w) a) b ≠ stp (stp (some w) b) a)))) := by
  obtain ⟨S1, h1, e1⟩ := done_eq24 h r hl ga gb
  obtain ⟨S2, h2, e2⟩ := done_eq24 h r hl gb ga
  have r0 : ∀ v, some w = some v → Rise v ∧ v.length ≤ 500 := fun v e => by injection e with e; subst e; exact ⟨r, hl⟩
  have q1 := stp_ok (stp_ok r0 a) b
  have q2 := stp_ok (stp_ok r0 b) a
  have d1 := (ow_data h1).2
  have d2 := (ow_data h2).2
  generalize stp (stp (some w) a) b = o1 at *
  generalize stp (stp (some w) b) a = o2 at *
  rcases d1 with ⟨rfl, rfl⟩ | ⟨v1, k1, rfl, w1, hd1⟩
  · rcases d2 with ⟨rfl, rfl⟩ | ⟨v2, k2, rfl, w2, hd2⟩
    · exact ⟨_, _, .none, .none, e1, e2, .inl rfl, .inl rfl, by simp [pNeD]⟩
    · exact ⟨_, _, .none, .dict (qD k2), e1, e2, .inl rfl, hd2.symm.imp id fun z => ⟨k2, z, rfl⟩, by simp [pNeD]⟩
  · rcases d2 with ⟨rfl, rfl⟩ | ⟨v2, k2, rfl, w2, hd2⟩
    · exact ⟨_, _, .dict (qD k1), .none, e1, e2, hd1.symm.imp id fun z => ⟨k1, z, rfl⟩, .inl rfl, by simp [pNeD]⟩
    · refine ⟨_, _, .dict (qD k1), .dict (qD k2), e1, e2, hd1.symm.imp id fun z => ⟨k1, z, rfl⟩, hd2.symm.imp id fun z => ⟨k2, z, rfl⟩, ?_⟩
      show (if _ then _ else _) = _
      rw [if_pos ⟨wk_vok w1, wk_vok w2, wk_nodup w1, wk_nodup w2⟩, dictB_wk w1 w2 (q1 _ rfl).1 (q2 _ rfl).1]
      congr 3
      by_cases z : v1 = v2 <;> simp [z]
end
end K

set_option Elab.async false
set_option linter.all false
set_option autoImplicit false
set_option maxRecDepth 100000
set_option maxHeartbeats 1000000
/-! k24: all worlds of some names; the two rows on all of them -/
namespace K
open PySem PySem.Spec PyProof.Rows L2 SD
/-- worlds, each in a dict -/
abbrev WL := List (List Th × List (Key × D))
def wlD (W : WL) : List D := W.map fun p => .dict (qD p.2)
def WLok (n : Nat) (W : WL) : Prop := ∀ p ∈ W, Wk p.1 p.2 ∧ Rise p.1 ∧ p.1.length ≤ n
theorem rise_wth24 {w : List Th} (r : Rise w) (t : Th) : Rise (wth w t) := rise_wth r t
theorem wth_len24 (w : List Th) (t : Th) : (wth w t).length ≤ w.length + 1 := wth_len w t
theorem worlds_in {ks : List Nm} {k : Nat} (hk : k < ks.length) (hk4 : k < 4) {W : WL} (h : WLok k W) (hl : W.length ≤ 1000) (s1 s4 s5 : Slot) : ∃ (M : WL) (t4 t5 : Slot), WLok (k + 1) M ∧ M.length = 2 * W.length ∧
    forL (gNm 4) b_l_worlds_f1 (wlD W) [.lst (txs ks), s1, .val (.int (k : Int)), .lst [], s4, s5] = .ok .next [.lst (txs ks), s1, .val (.int (k : Int)), .lst (wlD M), t4, t5] := by
  have ix : atI (txs ks) (k : Int) = some (tx ks[k]) := at_txs hk
  have cp : CPow 10 15 := by decide
  have cm : ∀ z ∈ [(1 : Int), 3, 9, 27], CMul z 1000000000000000 := by decide
  obtain ⟨v, hv⟩ : ∃ v : Int, ∀ (s0 s1 s3 s4 s5 : Slot), (mPrim pMul [.ex (mPrim pIx [.ex (mLst [mC (.int 1), mC (.int 3), mC (.int 9), mC (.int 27)]), .nm 2]), .ex (mPrim pPow [.ex (mC (.int 10)), .ex (mC (.int 15))])]) [s0, s1, .val (.int (k : Int)), s3, s4, s5] = .ok (.val (.int v)) [s0, s1, .val (.int (k : Int)), s3, s4, s5] := by
    obtain rfl | rfl | rfl | rfl : k = 0 ∨ k = 1 ∨ k = 2 ∨ k = 3 := by omega
    · exact ⟨1000000000000000, fun _ _ _ _ _ => by simp -implicitDefEqProofs [cp, cm 1 (by simp)]⟩
    · exact ⟨3000000000000000, fun _ _ _ _ _ => by simp -implicitDefEqProofs [cp, cm 3 (by simp)]⟩
    · exact ⟨9000000000000000, fun _ _ _ _ _ => by simp -implicitDefEqProofs [cp, cm 9 (by simp)]⟩
    · exact ⟨27000000000000000, fun _ _ _ _ _ => by simp -implicitDefEqProofs [cp, cm 27 (by simp)]⟩
  obtain ⟨ρ', e, M, t4, t5, h1, h2, rfl⟩ := for_at (g := gNm 4) (body := b_l_worlds_f1) (fun p : List Th × List (Key × D) => PyData.dict (qD p.2)) (fun i ρ => ∃ (M : WL) (t4 t5 : Slot), WLok (k + 1) M ∧ M.length = 2 * i ∧ ρ = [.lst (txs ks), s1, .val (.int (k : Int)), .lst (wlD M), t4, t5])
    W [.lst (txs ks), s1, .val (.int (k : Int)), .lst [], s4, s5] ⟨[], s4, s5, (fun p hp => by cases hp), rfl, rfl⟩ (by
      rintro i hi ρ ⟨M, t4, t5, h1, h2, rfl⟩
      obtain ⟨w1, w2, w3⟩ := h _ (List.getElem_mem hi)
      generalize W[i] = p at *
      obtain ⟨w, kv⟩ := p
      have kl := w1.len w2
      have kl' : kv.length < 16777216 := by have : w.length ≤ k := w3; have : kv.length = w.length := kl; omega
      have hw := w1.put ks[k] (500 + (k : Int), v)
      have ml : (wlD M).length ≤ 2 * 1000 := by unfold wlD; rw [List.length_map]; omega
      have al : (wlD M).length + 2 ≤ 16777216 := by omega
      refine ⟨_, [.lst (txs ks), s1, .val (.int (k : Int)), .lst (wlD (M ++ [(w, kv), (wth w (ks[k], 500 + (k : Int), v), putQ kv (.inr (cs ks[k])) (vD (500 + (k : Int), v)))])), .val (.dict (qD kv)), .val (.dict (qD (putQ kv (.inr (cs ks[k])) (vD (500 + (k : Int), v)))))], rfl, ?_, M ++ [(w, kv), (wth w (ks[k], 500 + (k : Int), v), putQ kv (.inr (cs ks[k])) (vD (500 + (k : Int), v)))], _, _, ?_, by simp; omega, rfl⟩
      · have ad : wlD (M ++ [(w, kv), (wth w (ks[k], 500 + (k : Int), v), putQ kv (.inr (cs ks[k])) (vD (500 + (k : Int), v)))]) = wlD M ++ [.dict (qD kv), .dict (qD (putQ kv (.inr (cs ks[k])) (vD (500 + (k : Int), v))))] := by
          unfold wlD
          rw [List.map_append]
          rfl
        rw [ad]
        have kx : keyOf (tx ks[k]) = some (.inr (cs ks[k])) := rfl
        have vd : vD (500 + (k : Int), v) = .tuple [.int (500 + (k : Int)), .int v] := rfl
        rw [vd]
        generalize wlD M = MM at *
        generalize tx ks[k] = y at *
        generalize cs ks[k] = z at *
        generalize txs ks = KS at *
        generalize (k : Int) = κ at *
        unfold b_l_worlds_f1
        generalize (mPrim pMul [.ex (mPrim pIx [.ex (mLst [mC (.int 1), mC (.int 3), mC (.int 9), mC (.int 27)]), .nm 2]), .ex (mPrim pPow [.ex (mC (.int 10)), .ex (mC (.int 15))])]) = EE at hv ⊢
        simp -implicitDefEqProofs [ix, kx, hv, kl', al]
      · intro q hq
        rcases List.mem_append.mp hq with hq | hq
        · exact h1 q hq
        · rcases List.mem_cons.mp hq with rfl | hq
          · exact ⟨w1, w2, by have : w.length ≤ k := w3; show w.length ≤ k + 1; omega⟩
          · rw [List.mem_singleton.mp hq]
            refine ⟨hw, rise_wth24 w2 _, ?_⟩
            have := wth_len24 w (ks[k], 500 + (k : Int), v)
            have : w.length ≤ k := w3
            show (wth w (ks[k], 500 + (k : Int), v)).length ≤ k + 1
            omega)
  exact ⟨M, t4, t5, h1, h2, e⟩
end K

set_option Elab.async false
set_option linter.all false
set_option autoImplicit false
set_option maxRecDepth 100000
set_option maxHeartbeats 1000000
/-! k24: the law -/
namespace K
open PySem PySem.Spec PyProof.Rows L2 SD
theorem worlds_ex {ks : List Nm} (h2 : 2 ≤ ks.length) (h4 : ks.length ≤ 4) : ∃ (W : WL), WLok 4 W ∧ W.length ≤ 16 ∧ m_l_worlds [.lst (txs ks)] = .ok (.val (.list (wlD W))) [.lst (txs ks)] := by
  have eL : pLen [.list (txs ks)] = some (.val (.int (ks.length : Int))) := by simp
  have hr : -4611686018427387904 ≤ (ks.length : Int) ∧ (ks.length : Int) < 4611686018427387904 := by omega
  obtain ⟨ρ', e, W, s1, s2, t3, t4, t5, hW, lW, hs, rfl⟩ := for_range (g := gNm 2) (body := b_l_worlds_f2) ks.length (fun i ρ => ∃ (W : WL) (s1 s2 t3 t4 t5 : Slot), WLok i W ∧ W.length = 2 ^ i ∧ ((i = 0 ∧ s1 = .lst (wlD W)) ∨ (0 < i ∧ s1 = .val (.list (wlD W)))) ∧ ρ = [.lst (txs ks), s1, s2, t3, t4, t5])
    [.lst (txs ks), .lst [.dict (qD [])], .emp, .emp, .emp, .emp] ⟨[([], [])], _, _, _, _, _, fun p hp => by
        rw [List.mem_singleton.mp hp]
        exact ⟨⟨⟨[], rfl, List.nodup_nil⟩, fun n => rfl⟩, .nil, Nat.le_refl _⟩, rfl, .inl ⟨rfl, rfl⟩, rfl⟩ (by
      rintro i hi ρ ⟨W, s1, s2, t3, t4, t5, hW, lW, hs, rfl⟩
      have p2 : 2 ^ i ≤ 2 ^ 4 := Nat.pow_le_pow_right (by decide) (by omega)
      have e16 : (2 : Nat) ^ 4 = 16 := by decide
      obtain ⟨M, u4, u5, hM, lM, q⟩ := worlds_in hi (by omega) hW (by omega) (.val (.list (wlD W))) t4 t5
      refine ⟨_, [.lst (txs ks), .val (.list (wlD M)), .val (.int (i : Int)), .val (.list (wlD M)), u4, u5], rfl, ?_, M, _, _, _, _, _, hM, by rw [lM, lW, Nat.pow_succ]; omega, .inr ⟨Nat.succ_pos i, rfl⟩, rfl⟩
      generalize wlD M = MM at *
      generalize wlD W = WW at *
      generalize txs ks = KS at *
      generalize (i : Int) = ι at *
      rcases hs with ⟨-, rfl⟩ | ⟨-, rfl⟩ <;> simp -implicitDefEqProofs [b_l_worlds_f2, q])
  rcases hs with ⟨h0, -⟩ | ⟨-, rfl⟩
  · omega
  have p2 : 2 ^ ks.length ≤ 2 ^ 4 := Nat.pow_le_pow_right (by decide) h4
  have e16 : (2 : Nat) ^ 4 = 16 := by decide
  refine ⟨W, fun p hp => ?_, by omega, ?_⟩
  · obtain ⟨a, b, c⟩ := hW p hp
    exact ⟨a, b, by omega⟩
  · generalize wlD W = WW at *
    generalize txs ks = KS at *
    simp -implicitDefEqProofs [m_l_worlds, b_l_worlds, eL, hr, e]
theorem right24 {ks : List Nm} (h2 : 2 ≤ ks.length) (h4 : ks.length ≤ 4) {a b : Dd} (ga : a.good) (gb : b.good) : ∃ o1 o2, m_l_right [.lst (txs ks), .val a.d, .val b.d] = .ok (.val (.bool true)) [.lst (txs ks), .val o1, .val o2] := by
  obtain ⟨W, hW, lW, ew⟩ := worlds_ex h2 h4
  have et := touch_eq a b
  have wi : ∀ ρ : En, (mIter (mVar 3)) ρ = (mIter (mVar 3)) ρ := fun _ => rfl
  have ee : pEq [a.d, b.d] = some (.val (.bool (decide (a = b)))) := by simp [p_eq]
  refine ⟨a.d, b.d, ?_⟩
  have wl : wlD W = W.map fun p => PyData.dict (qD p.2) := rfl
  cases ht : touchB a b with
  | false =>
    rw [ht] at et
    have c := comp_yes (v := 5) (f := b_l_right_e1) (ρ := [.lst (txs ks), .val a.d, .val b.d, .val (.list (wlD W)), .val (.bool false), .emp]) (L := W) (fun p => PyData.dict (qD p.2)) (fun _ => .bool true) (fun p hp => by
      obtain ⟨w1, w2, w3⟩ := hW p hp
      obtain ⟨o0, e⟩ := same_eq24 w1 w2 (by omega) ga gb ht
      refine ⟨.val (.bool true), ?_, rfl⟩
      generalize wlD W = WW at *
      generalize txs ks = KS at *
      generalize a.d = x at *
      generalize b.d = y at *
      generalize PyData.dict (qD p.2) = z at *
      simp -implicitDefEqProofs [b_l_right_e1, e]) (by omega)
    rw [← wl] at c
    have al : pAll [.list (W.map fun _ => PyData.bool true)] = some (.val (.bool true)) := by
      have := p_allM (L := W) (b := fun _ => true)
      rw [this]
      simp
    generalize (W.map fun _ => PyData.bool true) = Y at *
    generalize wlD W = WW at *
    generalize txs ks = KS at *
    generalize a.d = x at *
    generalize b.d = y at *
    simp -implicitDefEqProofs [-p_all, m_l_right, b_l_right, ew, et, c, al]
  | true =>
    rw [ht] at et
    have c2 := comp_yes (v := 5) (f := b_l_right_e2) (ρ := [.lst (txs ks), .val a.d, .val b.d, .val (.list (wlD W)), .val (.bool true), .emp]) (L := W) (fun p => PyData.dict (qD p.2)) (fun p => .bool (stp (stp (some p.1) a) b).isNone) (fun p hp => by
      obtain ⟨w1, w2, w3⟩ := hW p hp
      obtain ⟨S, e, hS⟩ := isn_eq24 w1 w2 (by omega) ga gb
      refine ⟨.val (.bool (stp (stp (some p.1) a) b).isNone), ?_, rfl⟩
      generalize (stp (stp (some p.1) a) b).isNone = r at *
      generalize wlD W = WW at *
      generalize txs ks = KS at *
      generalize a.d = x at *
      generalize b.d = y at *
      generalize PyData.dict (qD p.2) = z at *
      rcases hS with ⟨rfl, rfl⟩ | ⟨rfl, k, rfl | rfl⟩ <;> simp -implicitDefEqProofs [b_l_right_e2, e]) (by omega)
    rw [← wl] at c2
    have c3 := comp_yes (v := 5) (f := b_l_right_e3) (ρ := [.lst (txs ks), .val a.d, .val b.d, .val (.list (wlD W)), .val (.bool true), .emp]) (L := W) (fun p => PyData.dict (qD p.2)) (fun p => .bool (decide (stp (stp (some p.1) a) b ≠ stp (stp (some p.1) b) a))) (fun p hp => by
      obtain ⟨w1, w2, w3⟩ := hW p hp
      obtain ⟨S1, S2, u, v, e1, e2, d1, d2, ne⟩ := ne_eq24 w1 w2 (by omega) ga gb
      refine ⟨.val (.bool (decide (stp (stp (some p.1) a) b ≠ stp (stp (some p.1) b) a))), ?_, rfl⟩
      generalize decide (stp (stp (some p.1) a) b ≠ stp (stp (some p.1) b) a) = r at *
      generalize wlD W = WW at *
      generalize txs ks = KS at *
      generalize a.d = x at *
      generalize b.d = y at *
      generalize PyData.dict (qD p.2) = z at *
      rcases d1 with rfl | ⟨k1, rfl, rfl⟩ <;> rcases d2 with rfl | ⟨k2, rfl, rfl⟩ <;> simp -implicitDefEqProofs [b_l_right_e3, e1, e2, ne]) (by omega)
    rw [← wl] at c3
    have al := p_allM (L := W) (b := fun p => (stp (stp (some p.1) a) b).isNone)
    have an := p_anyM (L := W) (b := fun p => decide (stp (stp (some p.1) a) b ≠ stp (stp (some p.1) b) a))
    have key : a = b ∨ (W.all fun p => (stp (stp (some p.1) a) b).isNone) = true ∨ (W.any fun p => decide (stp (stp (some p.1) a) b ≠ stp (stp (some p.1) b) a)) = true := by
      by_cases e : a = b
      · exact .inl e
      · refine .inr ?_
        by_cases all : (W.all fun p => (stp (stp (some p.1) a) b).isNone) = true
        · exact .inl all
        · rw [Bool.not_eq_true, List.all_eq_false] at all
          obtain ⟨p, hp, h⟩ := all
          obtain ⟨w1, w2, w3⟩ := hW p hp
          refine .inr (List.any_eq_true.mpr ⟨p, hp, decide_eq_true fun z => ?_⟩)
          have c : can p.1 a ∧ can (act p.1 a) b := Classical.byContradiction fun q => by rw [two_none ga gb q] at h; exact h rfl
          have c' : can p.1 b ∧ can (act p.1 b) a := Classical.byContradiction fun q => by rw [two_none gb ga q] at z; rw [z] at h; exact h rfl
          rw [two_some ga gb c.1 c.2, two_some gb ga c'.1 c'.2] at z
          injection z with z
          exact e (touch_parts ga gb ht ((two_goR ga gb).mpr c) ((two_goR gb ga).mpr c') z)
    generalize (W.all fun p => (stp (stp (some p.1) a) b).isNone) = r1 at *
    generalize (W.any fun p => decide (stp (stp (some p.1) a) b ≠ stp (stp (some p.1) b) a)) = r2 at *
    generalize (W.map fun p => PyData.bool (stp (stp (some p.1) a) b).isNone) = Y1 at *
    generalize (W.map fun p => PyData.bool (decide (stp (stp (some p.1) a) b ≠ stp (stp (some p.1) b) a))) = Y2 at *
    by_cases e : a = b
    · rw [decide_eq_true e] at ee
      generalize wlD W = WW at *
      generalize txs ks = KS at *
      generalize a.d = x at *
      generalize b.d = y at *
      simp -implicitDefEqProofs [-p_all, -p_any, m_l_right, b_l_right, ew, et, ee]
    · rw [decide_eq_false e] at ee
      have key := key.resolve_left e
      generalize wlD W = WW at *
      generalize txs ks = KS at *
      generalize a.d = x at *
      generalize b.d = y at *
      cases r1 with
      | true => simp -implicitDefEqProofs [-p_all, -p_any, m_l_right, b_l_right, ew, et, ee, c2, al]
      | false =>
        cases r2 with
        | true => simp -implicitDefEqProofs [-p_all, -p_any, m_l_right, b_l_right, ew, et, ee, c2, al, c3, an]
        | false => rcases key with z | z <;> cases z
end K

set_option Elab.async false
set_option linter.all false
set_option autoImplicit false
set_option maxRecDepth 100000
set_option maxHeartbeats 1000000
/-! k24: the law -/
namespace K
open PySem PySem.Spec PyProof.Rows L2 SD
theorem turn24 {ks : List Nm} (h2 : 2 ≤ ks.length) (h4 : ks.length ≤ 4) (nd : ks.Nodup) (ok : ∀ k ∈ ks, NameOk k) (s0 s1 s4 : Slot) (x : Int) : ∃ x', b_law_2_f1 [s0, s1, .lst [.int x], .lst (txs ks), s4] = .ok .next [s0, s1, .lst [.int x'], .lst (txs ks), s4] := by
  obtain ⟨a, x1, ga, e1⟩ := any_deed24 x ks h2 (by omega) nd ok
  obtain ⟨b, x2, gb, e2⟩ := any_deed24 x1 ks h2 (by omega) nd ok
  obtain ⟨o1, o2, e3⟩ := right24 h2 h4 ga gb
  refine ⟨x2, ?_⟩
  generalize a.d = u at *
  generalize b.d = v at *
  generalize txs ks = KS at *
  simp -implicitDefEqProofs [b_law_2_f1, e1, e2, e3]
theorem out24 (ns : List Int) {B : Nat} (h64 : 64 ≤ B) (hB : B + 1 ≤ 100000000) (hb : ∀ z ∈ ns, Builtin.Int.intBits z ≤ B) (k : Nat) (hk : k < 1000) (s2 s3 s4 : Slot) :
    ∃ s2' s3' s4', b_law_2_f2 [.val (.list (ns.map PyData.int)), .val (.int k), s2, s3, s4] = .ok .next [.val (.list (ns.map PyData.int)), .val (.int k), s2', s3', s4'] := by
  obtain ⟨x, e1⟩ := pack_ex24 ns h64 hB hb k hk
  generalize (k : Int) = κ at e1 ⊢
  obtain ⟨e2, a1, a2⟩ := take_ex x 3 (by decide) (by decide)
  generalize x % 3 = r at e2 a1 a2
  generalize x / 3 = x1 at e2
  obtain ⟨ks, x2, e3, hl, nd, ok⟩ := names_ex x1 (2 + r) (by omega)
  obtain ⟨ρ', e4, ⟨c1, c2, e5⟩⟩ := for_all (g := gNm 4) (body := b_law_2_f1) (fun ρ => ∃ (x : Int) (t : Slot), ρ = [.val (.list (ns.map PyData.int)), .val (.int κ), .lst [.int x], .lst (txs ks), t]) [.int 0, .int 1, .int 2]
    [.val (.list (ns.map PyData.int)), .val (.int κ), .lst [.int x2], .lst (txs ks), s4] ⟨_, _, rfl⟩ (by
      intro d hd ρ ⟨x, t, e⟩
      subst e
      obtain ⟨x', q⟩ := turn24 (ks := ks) (by omega) (by omega) nd ok (.val (.list (ns.map PyData.int))) (.val (.int κ)) (.val d) x
      exact ⟨_, _, rfl, q, _, _, rfl⟩)
  subst e5
  have er : List.map (fun i : Nat => PyData.int (i : Int)) (List.range 3) = [.int 0, .int 1, .int 2] := rfl
  refine ⟨.lst [.int c1], .lst (txs ks), c2, ?_⟩
  generalize txs ks = KS at *
  generalize ns.map PyData.int = NN at *
  simp -implicitDefEqProofs [b_law_2_f2, e1, e2, e3, e4, er]
theorem law_true_24 (ns : List Int) (hl : ns.length ≤ 63) (hb : ∀ z ∈ ns, Builtin.Int.intBits z ≤ 1048576) : ∃ ρ, m_law_2 [.val (.list (ns.map PyData.int))] = .ok (.val (.bool true)) ρ := by
  have h64 : 64 ≤ 1048576 := by decide
  have hB : 1048576 + 1 ≤ 100000000 := by decide
  generalize 1048576 = B at hb h64 hB
  have lp : ∀ N : Nat, N ≤ 24 → ∃ ρ', forL (gNm 1) b_law_2_f2 ((List.range N).map fun i : Nat => PyData.int (i : Int)) [.val (.list (ns.map PyData.int)), .emp, .emp, .emp, .emp] = .ok .next ρ' := fun N hN => by
    obtain ⟨ρ', e, -⟩ := for_all (g := gNm 1) (body := b_law_2_f2) (fun ρ => ∃ s1 s2 s3 s4, ρ = [.val (.list (ns.map PyData.int)), s1, s2, s3, s4]) ((List.range N).map fun i : Nat => PyData.int (i : Int))
      [.val (.list (ns.map PyData.int)), .emp, .emp, .emp, .emp] ⟨_, _, _, _, rfl⟩ (by
        intro d hd ρ ⟨s1, s2, s3, s4, e⟩
        subst e
        obtain ⟨k, hk, rfl⟩ := List.mem_map.mp hd
        have hk' := List.mem_range.mp hk
        obtain ⟨a2, a3, a4, q⟩ := out24 ns h64 hB hb k (by omega) s2 s3 s4
        exact ⟨_, _, rfl, q, _, _, _, _, rfl⟩)
    exact ⟨ρ', e⟩
  have eL : pLen [.list (ns.map PyData.int)] = some (.val (.int (ns.length : Int))) := by simp
  have hν : 0 ≤ (ns.length : Int) := by omega
  generalize (ns.length : Int) = ν at eL hν
  have e2 : pMin2 [.int ν, .int 10] = some (.val (.int (if 10 < ν then 10 else ν))) := rfl
  obtain ⟨m, hm⟩ : ∃ m, m = (if 10 < ν then (10 : Int) else ν) := ⟨_, rfl⟩
  rw [← hm] at e2
  have e3 : pMax2 [.int 1, .int m] = some (.val (.int (if m > 1 then m else 1))) := rfl
  obtain ⟨n, hn⟩ : ∃ n, n = (if m > 1 then m else (1 : Int)) := ⟨_, rfl⟩
  rw [← hn] at e3
  have h24 : m ≤ 10 := by rw [hm]; split <;> omega
  have n24 : 1 ≤ n ∧ n ≤ 24 := by rw [hn]; split <;> omega
  have rn : -4611686018427387904 ≤ n ∧ n < 4611686018427387904 := by omega
  obtain ⟨ρ', e⟩ := lp n.toNat (by omega)
  generalize ns.map PyData.int = NN at *
  simp -implicitDefEqProofs [-p_lenL, -p_min2, -p_max2, m_law_2, b_law_2, eL, e2, e3, rn, e]
end K

set_option Elab.async false
set_option linter.all false
set_option autoImplicit false
set_option maxRecDepth 100000
set_option maxHeartbeats 4000000
namespace K
open PySem PySem.Spec PyProof.Rows L2 SD
def top (i : Nat) : Stmt := PySem.Challenge.pw_struckdeeds_k24_whole_touching_by_worlds.main.body.getD i (.Pass ⟨0, 0, 0, 0⟩)
structure Gm (K : Fr0) (w : World) (mg : Str → Option Value) : Prop where
  all : mg "all" = none
  any : mg "any" = none
  dict : mg "dict" = none
  divmod : mg "divmod" = none
  int : mg "int" = none
  len : mg "len" = none
  list : mg "list" = none
  max : mg "max" = none
  min : mg "min" = none
  range : mg "range" = none
  sorted : mg "sorted" = none
  t_FORMS : ∃ d, mg "FORMS" = some (.ref d) ∧ TabOk K w d t_FORMS
theorem T_FORMS {X : Cx} (G : Gm X.K X.w X.mg) : Tab X "FORMS" t_FORMS := G.t_FORMS
/-! names_in -/
abbrev s_names_in : Stmt := top 2
theorem sc_names_in : FnScope ["deed"] ["deed"] (defScope s_names_in) := ⟨rfl, rfl, rfl, by decide +kernel, rfl, by decide +kernel, by decide +kernel⟩
theorem w_names_in {X : Cx} {W : WX} {I : ExI} (G : Gm X.K X.w X.mg) (c : Cn X W ["deed"] (defScope s_names_in) (fun _ => true) 0) : CB X W I (fun i => i ∈ ([0] : List Nat)) b_names_in (defBody s_names_in) :=
  (cb_one (cs_ret (ce_slice (c.nm 0 rfl rfl) (cp_some ce_int) (cp_some (ce_bin op_addP ce_int (ce_m1 PySem.F.slot_str_count PySem.F.type_str_count mt_countP (ce_tabIx (T_FORMS G) (c.gl rfl) (ce_ix (ix_P c.hr) (c.nm 0 rfl rfl) ce_int (fun _ _ => rfl)) (fun _ _ => rfl)) ce_str))))))
theorem ok_names_in {P : Program} {w : World} {K : Fr0} {mg : Str → Option Value} {base : Heap} {I : ExI} {f : Addr} {fd : FuncData} (G : Gm K w mg) (F : Fun K "names_in" "names_in" s_names_in f fd) : FnOk P w K mg base (L2.CX P w) 1 f fd ["deed"] (spF K I 1 m_names_in) :=
  def_ok F sc_names_in rfl rfl fun X W e1 e2 e3 e4 e5 c => by subst e1 e2 e3 e4 e5; exact w_names_in G  c
/-! only_adds -/
abbrev s_only_adds : Stmt := top 4
theorem sc_only_adds : FnScope ["deed", "name"] ["deed", "name"] (defScope s_only_adds) := ⟨rfl, rfl, rfl, by decide +kernel, rfl, by decide +kernel, by decide +kernel⟩
theorem w_only_adds {X : Cx} {W : WX} {I : ExI} (G : Gm X.K X.w X.mg) (c : Cn X W ["deed", "name"] (defScope s_only_adds) (fun _ => true) 0) : CB X W I (fun i => i ∈ ([0, 1] : List Nat)) b_only_adds (defBody s_only_adds) :=
  (cb_one (cs_ret (ce_and (ce_cmp (op_inP c.hr) (ce_ix (ix_P c.hr) (c.nm 0 rfl rfl) ce_int (fun _ _ => rfl)) (ce_tup (cvs_cons ce_str (cvs_cons ce_str (cvs_cons ce_str cvs_nil)))) rfl) (ce_one (ce_cmp (op_eqP c.hr) (ce_ix (ix_P c.hr) (c.nm 0 rfl rfl) ce_int (fun _ _ => rfl)) (c.nm 1 rfl rfl) (nomark _))))))
theorem ok_only_adds {P : Program} {w : World} {K : Fr0} {mg : Str → Option Value} {base : Heap} {I : ExI} {f : Addr} {fd : FuncData} (G : Gm K w mg) (F : Fun K "only_adds" "only_adds" s_only_adds f fd) : FnOk P w K mg base (L2.CX P w) 1 f fd ["deed", "name"] (spF K I 2 m_only_adds) :=
  def_ok F sc_only_adds rfl rfl fun X W e1 e2 e3 e4 e5 c => by subst e1 e2 e3 e4 e5; exact w_only_adds G  c
/-! only_moves -/
abbrev s_only_moves : Stmt := top 5
theorem sc_only_moves : FnScope ["deed"] ["deed"] (defScope s_only_moves) := ⟨rfl, rfl, rfl, by decide +kernel, rfl, by decide +kernel, by decide +kernel⟩
theorem w_only_moves {X : Cx} {W : WX} {I : ExI} (G : Gm X.K X.w X.mg) (c : Cn X W ["deed"] (defScope s_only_moves) (fun _ => true) 0) : CB X W I (fun i => i ∈ ([0] : List Nat)) b_only_moves (defBody s_only_moves) :=
  (cb_one (cs_ret (ce_cmp (op_eqP c.hr) (ce_ix (ix_P c.hr) (c.nm 0 rfl rfl) ce_int (fun _ _ => rfl)) ce_str (nomark _))))
theorem ok_only_moves {P : Program} {w : World} {K : Fr0} {mg : Str → Option Value} {base : Heap} {I : ExI} {f : Addr} {fd : FuncData} (G : Gm K w mg) (F : Fun K "only_moves" "only_moves" s_only_moves f fd) : FnOk P w K mg base (L2.CX P w) 1 f fd ["deed"] (spF K I 1 m_only_moves) :=
  def_ok F sc_only_moves rfl rfl fun X W e1 e2 e3 e4 e5 c => by subst e1 e2 e3 e4 e5; exact w_only_moves G  c
/-! pass_by -/
abbrev s_pass_by : Stmt := top 6
theorem sc_pass_by : FnScope ["one", "other", "name"] ["one", "other", "name"] (defScope s_pass_by) := ⟨rfl, rfl, rfl, by decide +kernel, rfl, by decide +kernel, by decide +kernel⟩
theorem w_pass_by {X : Cx} {W : WX} {I : ExI} (G : Gm X.K X.w X.mg) (T_only_adds : FnT X.prog X.w X.K X.mg X.base I "only_adds" 2 1 m_only_adds) (T_only_moves : FnT X.prog X.w X.K X.mg X.base I "only_moves" 1 1 m_only_moves) (c : Cn X W ["one", "other", "name"] (defScope s_pass_by) (fun _ => true) 1) : CB X W I (fun i => i ∈ ([0, 1, 2] : List Nat)) b_pass_by (defBody s_pass_by) :=
  (cb_cons (cs_if (ct_val (ce_call T_only_adds (c.hr.mono (by decide)) c.tk (c.gl rfl) (cas_cons (c.nm 0 rfl rfl) (cas_cons (c.nm 2 rfl rfl) cas_nil)) rfl)) (cb_one (cs_ret (ce_or (ce_call T_only_adds (c.hr.mono (by decide)) c.tk (c.gl rfl) (cas_cons (c.nm 1 rfl rfl) (cas_cons (c.nm 2 rfl rfl) cas_nil)) rfl) (ce_one (ce_call T_only_moves (c.hr.mono (by decide)) c.tk (c.gl rfl) (cas_cons (c.nm 1 rfl rfl) cas_nil) rfl))))) cb_nil)
    (cb_one (cs_ret (ce_and (ce_call T_only_adds (c.hr.mono (by decide)) c.tk (c.gl rfl) (cas_cons (c.nm 1 rfl rfl) (cas_cons (c.nm 2 rfl rfl) cas_nil)) rfl) (ce_one (ce_call T_only_moves (c.hr.mono (by decide)) c.tk (c.gl rfl) (cas_cons (c.nm 0 rfl rfl) cas_nil) rfl))))))
theorem ok_pass_by {P : Program} {w : World} {K : Fr0} {mg : Str → Option Value} {base : Heap} {I : ExI} {f : Addr} {fd : FuncData} (G : Gm K w mg) (T_only_adds : FnT P w K mg base I "only_adds" 2 1 m_only_adds) (T_only_moves : FnT P w K mg base I "only_moves" 1 1 m_only_moves) (F : Fun K "pass_by" "pass_by" s_pass_by f fd) : FnOk P w K mg base (L2.CX P w) 2 f fd ["one", "other", "name"] (spF K I 3 m_pass_by) :=
  def_ok F sc_pass_by rfl rfl fun X W e1 e2 e3 e4 e5 c => by subst e1 e2 e3 e4 e5; exact w_pass_by G T_only_adds T_only_moves c
/-! touch -/
abbrev s_touch : Stmt := top 7
theorem sc_touch : FnScope ["one", "other", "common", "name"] ["one", "other"] (defScope s_touch) := ⟨rfl, rfl, rfl, by decide +kernel, rfl, by decide +kernel, by decide +kernel⟩
theorem w_touch {X : Cx} {W : WX} {I : ExI} (G : Gm X.K X.w X.mg) (T_names_in : FnT X.prog X.w X.K X.mg X.base I "names_in" 1 1 m_names_in) (T_pass_by : FnT X.prog X.w X.K X.mg X.base I "pass_by" 3 2 m_pass_by) (c : Cn X W ["one", "other", "common", "name"] (defScope s_touch) (fun _ => true) 2) : CB X W I (fun i => i ∈ ([0, 1] : List Nat)) b_touch (defBody s_touch) :=
  (cb_cons (cs_setLc (own := [("name", 3)]) c rfl rfl (by simp) (sw_of c rfl rfl rfl rfl) (ci_any (ce_call T_names_in (c.hr.mono (by decide)) c.tk (c.gl rfl) (cas_cons (c.nm 0 rfl rfl) cas_nil) rfl)) (by decide +kernel) (fun _ _ _ _ _ c1 => (cg_name (c1.tgt 3 rfl rfl) (by simp))) (fun _ _ _ _ _ c1 => (cts_one (ct_cmp (op_inP c1.hr) (c1.nm 3 rfl rfl) (ce_call T_names_in (c1.hr.mono (by decide)) c1.tk (c1.gl rfl) (cas_cons (c1.nm 1 rfl rfl) cas_nil) rfl) rfl))) (fun _ _ _ _ _ c1 => (c1.var 3 rfl rfl)))
    (cb_one (cs_ret (ce_not (ce_callB (call_allP c.calm) (c.gl rfl) G.all bt_all (cas_cons (ce_lc (own := [("name", 3)]) c (ci_any (c.var 2 rfl rfl)) (by decide +kernel) (fun _ _ _ _ _ c1 => (cg_name (c1.tgt 3 rfl rfl) (by simp))) (fun _ _ _ _ _ c1 => cts_nil) (fun _ _ _ _ _ c1 => (ce_call T_pass_by (c1.hr.mono (by decide)) c1.tk (c1.gl rfl) (cas_cons (c1.nm 0 rfl rfl) (cas_cons (c1.nm 1 rfl rfl) (cas_cons (c1.nm 3 rfl rfl) cas_nil))) rfl))) cas_nil))))))
theorem ok_touch {P : Program} {w : World} {K : Fr0} {mg : Str → Option Value} {base : Heap} {I : ExI} {f : Addr} {fd : FuncData} (G : Gm K w mg) (T_names_in : FnT P w K mg base I "names_in" 1 1 m_names_in) (T_pass_by : FnT P w K mg base I "pass_by" 3 2 m_pass_by) (F : Fun K "touch" "touch" s_touch f fd) : FnOk P w K mg base (L2.CX P w) 3 f fd ["one", "other"] (spF K I 2 m_touch) :=
  def_ok F sc_touch rfl rfl fun X W e1 e2 e3 e4 e5 c => by subst e1 e2 e3 e4 e5; exact w_touch G T_names_in T_pass_by c
/-! _law_mixed -/
abbrev s_l_mixed : Stmt := top 9
theorem sc_l_mixed : FnScope ["_law_cell"] ["_law_cell"] (defScope s_l_mixed) := ⟨rfl, rfl, rfl, by decide +kernel, rfl, by decide +kernel, by decide +kernel⟩
theorem w_l_mixed {X : Cx} {W : WX} {I : ExI} (G : Gm X.K X.w X.mg) (c : Cn X W ["_law_cell"] (defScope s_l_mixed) (fun _ => true) 0) : CB X W I (fun i => i ∈ ([0] : List Nat)) b_l_mixed_2 (defBody s_l_mixed) :=
  (cb_one (cs_ret (ce_bin op_modP (ce_bin op_mulP (c.nm 0 rfl rfl) ce_int) (ce_bin op_powP ce_int ce_int))))
theorem ok_l_mixed {P : Program} {w : World} {K : Fr0} {mg : Str → Option Value} {base : Heap} {I : ExI} {f : Addr} {fd : FuncData} (G : Gm K w mg) (F : Fun K "_law_mixed" "_law_mixed" s_l_mixed f fd) : FnOk P w K mg base (L2.CX P w) 1 f fd ["_law_cell"] (spF K I 1 m_l_mixed_2) :=
  def_ok F sc_l_mixed rfl rfl fun X W e1 e2 e3 e4 e5 c => by subst e1 e2 e3 e4 e5; exact w_l_mixed G  c
/-! _law_pack -/
abbrev s_l_pack : Stmt := top 10
theorem sc_l_pack : FnScope ["_law_script", "_law_k"] ["_law_script", "_law_k"] (defScope s_l_pack) := ⟨rfl, rfl, rfl, by decide +kernel, rfl, by decide +kernel, by decide +kernel⟩
theorem w_l_pack {X : Cx} {W : WX} {I : ExI} (G : Gm X.K X.w X.mg) (T_l_mixed : FnT X.prog X.w X.K X.mg X.base I "_law_mixed" 1 1 m_l_mixed_2) (c : Cn X W ["_law_script", "_law_k"] (defScope s_l_pack) (fun _ => true) 1) : CB X W I (fun i => i ∈ ([0, 1] : List Nat)) b_l_pack (defBody s_l_pack) :=
  (cb_cons (cs_if (ct_cmp (op_ltP c.hr) (c.nm 1 rfl rfl) (ce_callB call_lenP (c.gl rfl) G.len bt_len (cas_cons (c.nm 0 rfl rfl) cas_nil)) (nomark _)) (cb_one (cs_ret (ce_lst (cvs_cons (ce_call T_l_mixed (c.hr.mono (by decide)) c.tk (c.gl rfl) (cas_cons (ce_bin op_addP (ce_ix (ix_P c.hr) (c.nm 0 rfl rfl) (c.nm 1 rfl rfl) (fun _ _ => rfl)) (ce_bin op_mulP ce_int (c.nm 1 rfl rfl))) cas_nil) rfl) cvs_nil)))) cb_nil)
    (cb_one (cs_ret (ce_lst (cvs_cons (ce_call T_l_mixed (c.hr.mono (by decide)) c.tk (c.gl rfl) (cas_cons (ce_bin op_addP (ce_bin op_mulP ce_int (c.nm 1 rfl rfl)) ce_int) cas_nil) rfl) cvs_nil)))))
theorem ok_l_pack {P : Program} {w : World} {K : Fr0} {mg : Str → Option Value} {base : Heap} {I : ExI} {f : Addr} {fd : FuncData} (G : Gm K w mg) (T_l_mixed : FnT P w K mg base I "_law_mixed" 1 1 m_l_mixed_2) (F : Fun K "_law_pack" "_law_pack" s_l_pack f fd) : FnOk P w K mg base (L2.CX P w) 2 f fd ["_law_script", "_law_k"] (spF K I 2 m_l_pack) :=
  def_ok F sc_l_pack rfl rfl fun X W e1 e2 e3 e4 e5 c => by subst e1 e2 e3 e4 e5; exact w_l_pack G T_l_mixed c
/-! _law_take -/
abbrev s_l_take : Stmt := top 11
theorem sc_l_take : FnScope ["_law_pack_here", "_law_size", "_law_digit"] ["_law_pack_here", "_law_size"] (defScope s_l_take) := ⟨rfl, rfl, rfl, by decide +kernel, rfl, by decide +kernel, by decide +kernel⟩
theorem w_l_take {X : Cx} {W : WX} {I : ExI} (G : Gm X.K X.w X.mg) (c : Cn X W ["_law_pack_here", "_law_size", "_law_digit"] (defScope s_l_take) (fun _ => true) 0) : CB X W I (fun i => i ∈ ([0, 1] : List Nat)) b_l_take (defBody s_l_take) :=
  (cb_cons (cs_asgH (ce_callB call_divmodP (c.gl rfl) G.divmod bt_divmod (cas_cons (ce_ix (ix_P c.hr) (c.nm 0 rfl rfl) ce_int (fun _ _ => rfl)) (cas_cons (c.nm 1 rfl rfl) cas_nil))) (ch_tup c.calm (chs_cons (ch_ix (c.pv 0 rfl rfl) pe_int) (chs_cons (ch_of (cg_name (c.tgt 2 rfl rfl) (by simp))) chs_nil))))
    (cb_one (cs_retV (c.pv 2 rfl rfl))))
theorem ok_l_take {P : Program} {w : World} {K : Fr0} {mg : Str → Option Value} {base : Heap} {I : ExI} {f : Addr} {fd : FuncData} (G : Gm K w mg) (F : Fun K "_law_take" "_law_take" s_l_take f fd) : FnOk P w K mg base (L2.CX P w) 1 f fd ["_law_pack_here", "_law_size"] (spF K I 2 m_l_take) :=
  def_ok F sc_l_take rfl rfl fun X W e1 e2 e3 e4 e5 c => by subst e1 e2 e3 e4 e5; exact w_l_take G  c
/-! _law_names -/
abbrev s_l_names : Stmt := top 12
theorem sc_l_names : FnScope ["_law_pack_here", "_law_amount", "_law_letters", "_law_turn", "_law_pick", "_law_size", "_law_k"] ["_law_pack_here", "_law_amount"] (defScope s_l_names) := ⟨rfl, rfl, rfl, by decide +kernel, rfl, by decide +kernel, by decide +kernel⟩
theorem w_l_names {X : Cx} {W : WX} {I : ExI} (G : Gm X.K X.w X.mg) (T_l_take : FnT X.prog X.w X.K X.mg X.base I "_law_take" 2 1 m_l_take) (c : Cn X W ["_law_pack_here", "_law_amount", "_law_letters", "_law_turn", "_law_pick", "_law_size", "_law_k"] (defScope s_l_names) (fun _ => true) 1) : CB X W I (fun i => i ∈ ([0, 1] : List Nat)) b_l_names (defBody s_l_names) :=
  (cb_cons (cs_set ce_str (by simp) (c.set 2 rfl rfl))
    (cb_cons (cs_set (ce_call T_l_take (c.hr.mono (by decide)) c.tk (c.gl rfl) (cas_cons (c.nm 0 rfl rfl) (cas_cons ce_int cas_nil)) rfl) (by simp) (c.set 3 rfl rfl))
    (cb_cons (cs_set (ce_bin op_addP (ce_slice (c.nm 2 rfl rfl) (cp_some (c.nm 3 rfl rfl)) cp_none) (ce_slice (c.nm 2 rfl rfl) cp_none (cp_some (c.nm 3 rfl rfl)))) (by simp) (c.set 2 rfl rfl))
    (cb_cons (cs_set (ce_call T_l_take (c.hr.mono (by decide)) c.tk (c.gl rfl) (cas_cons (c.nm 0 rfl rfl) (cas_cons ce_int cas_nil)) rfl) (by simp) (c.set 4 rfl rfl))
    (cb_cons (cs_set (ce_call T_l_take (c.hr.mono (by decide)) c.tk (c.gl rfl) (cas_cons (c.nm 0 rfl rfl) (cas_cons ce_int cas_nil)) rfl) (by simp) (c.set 5 rfl rfl))
    (cb_cons (cs_if (ct_cmp (op_eqP c.hr) (c.nm 4 rfl rfl) ce_int (nomark _)) (cb_one (cs_ret (ce_lc (own := [("_law_k", 6)]) c (ci_range1 (c.gl rfl) G.range (c.var 1 rfl rfl)) (by decide +kernel) (fun _ _ _ _ _ c1 => (cg_name (c1.tgt 6 rfl rfl) (by simp))) (fun _ _ _ _ _ c1 => cts_nil) (fun _ _ _ _ _ c1 => (ce_bin op_mulP (ce_ix (ix_P c1.hr) (c1.nm 2 rfl rfl) (ce_bin op_divP (c1.nm 6 rfl rfl) ce_int) (fun _ _ => rfl)) (ce_bin op_addP ce_int (ce_bin op_modP (c1.nm 6 rfl rfl) ce_int))))))) cb_nil)
    (cb_cons (cs_if (ct_cmp (op_eqP c.hr) (c.nm 4 rfl rfl) ce_int (nomark _)) (cb_one (cs_ret (ce_lc (own := [("_law_k", 6)]) c (ci_range1 (c.gl rfl) G.range (c.var 1 rfl rfl)) (by decide +kernel) (fun _ _ _ _ _ c1 => (cg_name (c1.tgt 6 rfl rfl) (by simp))) (fun _ _ _ _ _ c1 => cts_nil) (fun _ _ _ _ _ c1 => (ce_bin op_addP (ce_ix (ix_P c1.hr) (c1.nm 2 rfl rfl) (c1.nm 6 rfl rfl) (fun _ _ => rfl)) (ce_slice (c1.nm 2 rfl rfl) (cp_some ce_int) (cp_some (ce_bin op_addP ce_int (c1.nm 5 rfl rfl))))))))) cb_nil)
    (cb_one (cs_ret (ce_lc (own := [("_law_k", 6)]) c (ci_range1 (c.gl rfl) G.range (c.var 1 rfl rfl)) (by decide +kernel) (fun _ _ _ _ _ c1 => (cg_name (c1.tgt 6 rfl rfl) (by simp))) (fun _ _ _ _ _ c1 => cts_nil) (fun _ _ _ _ _ c1 => (ce_bin op_addP (ce_slice (c1.nm 2 rfl rfl) (cp_some ce_int) (cp_some (ce_bin op_addP ce_int (c1.nm 5 rfl rfl)))) (ce_ix (ix_P c1.hr) (c1.nm 2 rfl rfl) (c1.nm 6 rfl rfl) (fun _ _ => rfl))))))))))))))
theorem ok_l_names {P : Program} {w : World} {K : Fr0} {mg : Str → Option Value} {base : Heap} {I : ExI} {f : Addr} {fd : FuncData} (G : Gm K w mg) (T_l_take : FnT P w K mg base I "_law_take" 2 1 m_l_take) (F : Fun K "_law_names" "_law_names" s_l_names f fd) : FnOk P w K mg base (L2.CX P w) 2 f fd ["_law_pack_here", "_law_amount"] (spF K I 2 m_l_names) :=
  def_ok F sc_l_names rfl rfl fun X W e1 e2 e3 e4 e5 c => by subst e1 e2 e3 e4 e5; exact w_l_names G T_l_take c
/-! _law_any_deed -/
abbrev s_l_any_deed : Stmt := top 13
theorem sc_l_any_deed : FnScope ["_law_pack_here", "_law_names_here", "_law_kind", "_law_at", "_law_one", "_law_other", "_law_place", "_law_number"] ["_law_pack_here", "_law_names_here"] (defScope s_l_any_deed) := ⟨rfl, rfl, rfl, by decide +kernel, rfl, by decide +kernel, by decide +kernel⟩
theorem w_l_any_deed {X : Cx} {W : WX} {I : ExI} (G : Gm X.K X.w X.mg) (T_l_take : FnT X.prog X.w X.K X.mg X.base I "_law_take" 2 1 m_l_take) (c : Cn X W ["_law_pack_here", "_law_names_here", "_law_kind", "_law_at", "_law_one", "_law_other", "_law_place", "_law_number"] (defScope s_l_any_deed) (fun _ => true) 1) : CB X W I (fun i => i ∈ ([0, 1] : List Nat)) b_l_any_deed (defBody s_l_any_deed) :=
  (cb_cons (cs_set (ce_ix (ix_P c.hr) (ce_lst (cvs_cons ce_str (cvs_cons ce_str (cvs_cons ce_str (cvs_cons ce_str (cvs_cons ce_str (cvs_cons ce_str (cvs_cons ce_str (cvs_cons ce_str (cvs_cons ce_str cvs_nil)))))))))) (ce_call T_l_take (c.hr.mono (by decide)) c.tk (c.gl rfl) (cas_cons (c.nm 0 rfl rfl) (cas_cons ce_int cas_nil)) rfl) (fun _ _ => rfl)) (by simp) (c.set 2 rfl rfl))
    (cb_cons (cs_set (ce_call T_l_take (c.hr.mono (by decide)) c.tk (c.gl rfl) (cas_cons (c.nm 0 rfl rfl) (cas_cons (ce_callB call_lenP (c.gl rfl) G.len bt_len (cas_cons (c.nm 1 rfl rfl) cas_nil)) cas_nil)) rfl) (by simp) (c.set 3 rfl rfl))
    (cb_cons (cs_set (ce_ix (ix_P c.hr) (c.nm 1 rfl rfl) (c.nm 3 rfl rfl) (fun _ _ => rfl)) (by simp) (c.set 4 rfl rfl))
    (cb_cons (cs_set (ce_ix (ix_P c.hr) (c.nm 1 rfl rfl) (ce_bin op_modP (ce_bin op_addP (ce_bin op_addP (c.nm 3 rfl rfl) ce_int) (ce_call T_l_take (c.hr.mono (by decide)) c.tk (c.gl rfl) (cas_cons (c.nm 0 rfl rfl) (cas_cons (ce_bin op_subP (ce_callB call_lenP (c.gl rfl) G.len bt_len (cas_cons (c.nm 1 rfl rfl) cas_nil)) ce_int) cas_nil)) rfl)) (ce_callB call_lenP (c.gl rfl) G.len bt_len (cas_cons (c.nm 1 rfl rfl) cas_nil))) (fun _ _ => rfl)) (by simp) (c.set 5 rfl rfl))
    (cb_cons (cs_set (ce_ix (ix_P c.hr) (ce_lst (cvs_cons ce_int (cvs_cons ce_int (cvs_cons ce_int (cvs_cons ce_int (cvs_cons ce_int cvs_nil)))))) (ce_call T_l_take (c.hr.mono (by decide)) c.tk (c.gl rfl) (cas_cons (c.nm 0 rfl rfl) (cas_cons ce_int cas_nil)) rfl) (fun _ _ => rfl)) (by simp) (c.set 6 rfl rfl))
    (cb_cons (cs_set (ce_ix (ix_P c.hr) (ce_lst (cvs_cons ce_int (cvs_cons ce_int (cvs_cons (ce_un un_negP ce_int) (cvs_cons (ce_bin op_powP ce_int ce_int) (cvs_cons (ce_bin op_subP (ce_call T_l_take (c.hr.mono (by decide)) c.tk (c.gl rfl) (cas_cons (c.nm 0 rfl rfl) (cas_cons ce_int cas_nil)) rfl) ce_int) cvs_nil)))))) (ce_call T_l_take (c.hr.mono (by decide)) c.tk (c.gl rfl) (cas_cons (c.nm 0 rfl rfl) (cas_cons ce_int cas_nil)) rfl) (fun _ _ => rfl)) (by simp) (c.set 7 rfl rfl))
    (cb_cons (cs_if (ct_cmp (op_eqP c.hr) (c.nm 2 rfl rfl) ce_str (nomark _)) (cb_one (cs_ret (ce_tup (cvs_cons ce_str (cvs_cons (c.var 4 rfl rfl) (cvs_cons (c.var 6 rfl rfl) (cvs_cons (c.var 7 rfl rfl) cvs_nil))))))) cb_nil)
    (cb_cons (cs_if (ct_cmp (op_eqP c.hr) (c.nm 2 rfl rfl) ce_str (nomark _)) (cb_one (cs_ret (ce_tup (cvs_cons ce_str (cvs_cons (c.var 4 rfl rfl) cvs_nil))))) cb_nil)
    (cb_cons (cs_if (ct_cmp (op_eqP c.hr) (c.nm 2 rfl rfl) ce_str (nomark _)) (cb_one (cs_ret (ce_tup (cvs_cons ce_str (cvs_cons (c.var 4 rfl rfl) (cvs_cons (c.var 6 rfl rfl) cvs_nil)))))) cb_nil)
    (cb_cons (cs_if (ct_cmp (op_eqP c.hr) (c.nm 2 rfl rfl) ce_str (nomark _)) (cb_one (cs_ret (ce_tup (cvs_cons ce_str (cvs_cons (c.var 4 rfl rfl) (cvs_cons (c.var 7 rfl rfl) cvs_nil)))))) cb_nil)
    (cb_cons (cs_if (ct_cmp (op_eqP c.hr) (c.nm 2 rfl rfl) ce_str (nomark _)) (cb_one (cs_ret (ce_tup (cvs_cons ce_str (cvs_cons (c.var 4 rfl rfl) (cvs_cons (c.var 5 rfl rfl) (cvs_cons (c.var 6 rfl rfl) (cvs_cons (c.var 7 rfl rfl) cvs_nil)))))))) cb_nil)
    (cb_one (cs_ret (ce_tup (cvs_cons (c.var 2 rfl rfl) (cvs_cons (c.var 4 rfl rfl) (cvs_cons (c.var 5 rfl rfl) cvs_nil)))))))))))))))))
theorem ok_l_any_deed {P : Program} {w : World} {K : Fr0} {mg : Str → Option Value} {base : Heap} {I : ExI} {f : Addr} {fd : FuncData} (G : Gm K w mg) (T_l_take : FnT P w K mg base I "_law_take" 2 1 m_l_take) (F : Fun K "_law_any_deed" "_law_any_deed" s_l_any_deed f fd) : FnOk P w K mg base (L2.CX P w) 2 f fd ["_law_pack_here", "_law_names_here"] (spF K I 2 m_l_any_deed) :=
  def_ok F sc_l_any_deed rfl rfl fun X W e1 e2 e3 e4 e5 c => by subst e1 e2 e3 e4 e5; exact w_l_any_deed G T_l_take c
/-! _law_named -/
abbrev s_l_named : Stmt := top 14
theorem sc_l_named : FnScope ["_law_deed"] ["_law_deed"] (defScope s_l_named) := ⟨rfl, rfl, rfl, by decide +kernel, rfl, by decide +kernel, by decide +kernel⟩
theorem w_l_named {X : Cx} {W : WX} {I : ExI} (G : Gm X.K X.w X.mg) (c : Cn X W ["_law_deed"] (defScope s_l_named) (fun _ => true) 0) : CB X W I (fun i => i ∈ ([0] : List Nat)) b_l_named (defBody s_l_named) :=
  (cb_one (cs_ret (ce_callTy (call_listP c.calm) (c.gl rfl) G.list bt_list (cas_cons (ce_slice (c.nm 0 rfl rfl) (cp_some ce_int) (cp_some (ce_bin op_addP ce_int (ce_callTy call_intP (c.gl rfl) G.int bt_int (cas_cons (ce_cmp (op_inP c.hr) (ce_ix (ix_P c.hr) (c.nm 0 rfl rfl) ce_int (fun _ _ => rfl)) (ce_lst (cvs_cons ce_str (cvs_cons ce_str (cvs_cons ce_str cvs_nil)))) rfl) cas_nil))))) cas_nil))))
theorem ok_l_named {P : Program} {w : World} {K : Fr0} {mg : Str → Option Value} {base : Heap} {I : ExI} {f : Addr} {fd : FuncData} (G : Gm K w mg) (F : Fun K "_law_named" "_law_named" s_l_named f fd) : FnOk P w K mg base (L2.CX P w) 1 f fd ["_law_deed"] (spF K I 1 m_l_named) :=
  def_ok F sc_l_named rfl rfl fun X W e1 e2 e3 e4 e5 c => by subst e1 e2 e3 e4 e5; exact w_l_named G  c
/-! _law_made -/
abbrev s_l_made : Stmt := top 15
theorem sc_l_made : FnScope ["_law_deed"] ["_law_deed"] (defScope s_l_made) := ⟨rfl, rfl, rfl, by decide +kernel, rfl, by decide +kernel, by decide +kernel⟩
theorem w_l_made {X : Cx} {W : WX} {I : ExI} (G : Gm X.K X.w X.mg) (c : Cn X W ["_law_deed"] (defScope s_l_made) (fun _ => true) 0) : CB X W I (fun i => i ∈ ([0] : List Nat)) b_l_made (defBody s_l_made) :=
  (cb_cons (cs_if (ct_cmp (op_eqP c.hr) (ce_ix (ix_P c.hr) (c.nm 0 rfl rfl) ce_int (fun _ _ => rfl)) ce_str (nomark _)) (cb_one (cs_ret (ce_ix (ix_P c.hr) (c.nm 0 rfl rfl) ce_int (fun _ _ => rfl)))) cb_nil)
    (cb_cons (cs_if (ct_cmp (op_inP c.hr) (ce_ix (ix_P c.hr) (c.nm 0 rfl rfl) ce_int (fun _ _ => rfl)) (ce_lst (cvs_cons ce_str (cvs_cons ce_str cvs_nil))) rfl) (cb_one (cs_ret (ce_ix (ix_P c.hr) (c.nm 0 rfl rfl) ce_int (fun _ _ => rfl)))) cb_nil)
    (cb_one (cs_ret ce_str))))
theorem ok_l_made {P : Program} {w : World} {K : Fr0} {mg : Str → Option Value} {base : Heap} {I : ExI} {f : Addr} {fd : FuncData} (G : Gm K w mg) (F : Fun K "_law_made" "_law_made" s_l_made f fd) : FnOk P w K mg base (L2.CX P w) 1 f fd ["_law_deed"] (spF K I 1 m_l_made) :=
  def_ok F sc_l_made rfl rfl fun X W e1 e2 e3 e4 e5 c => by subst e1 e2 e3 e4 e5; exact w_l_made G  c
/-! _law_can -/
abbrev s_l_can : Stmt := top 16
theorem sc_l_can : FnScope ["_law_world", "_law_deed", "_law_name"] ["_law_world", "_law_deed"] (defScope s_l_can) := ⟨rfl, rfl, rfl, by decide +kernel, rfl, by decide +kernel, by decide +kernel⟩
theorem w_l_can {X : Cx} {W : WX} {I : ExI} (G : Gm X.K X.w X.mg) (T_l_named : FnT X.prog X.w X.K X.mg X.base I "_law_named" 1 1 m_l_named) (T_l_made : FnT X.prog X.w X.K X.mg X.base I "_law_made" 1 1 m_l_made) (c : Cn X W ["_law_world", "_law_deed", "_law_name"] (defScope s_l_can) (fun _ => true) 1) : CB X W I (fun i => i ∈ ([0, 1] : List Nat)) b_l_can (defBody s_l_can) :=
  (cb_one (cs_ret (ce_callB (call_allP c.calm) (c.gl rfl) G.all bt_all (cas_cons (ce_lc (own := [("_law_name", 2)]) c (ci_any (ce_call T_l_named (c.hr.mono (by decide)) c.tk (c.gl rfl) (cas_cons (c.nm 1 rfl rfl) cas_nil) rfl)) (by decide +kernel) (fun _ _ _ _ _ c1 => (cg_name (c1.tgt 2 rfl rfl) (by simp))) (fun _ _ _ _ _ c1 => cts_nil) (fun _ _ _ _ _ c1 => (ce_cmp (op_neP c1.hr) (ce_cmp (op_inP c1.hr) (c1.nm 2 rfl rfl) (c1.nm 0 rfl rfl) rfl) (ce_cmp (op_eqP c1.hr) (c1.nm 2 rfl rfl) (ce_call T_l_made (c1.hr.mono (by decide)) c1.tk (c1.gl rfl) (cas_cons (c1.nm 1 rfl rfl) cas_nil) rfl) (nomark _)) (nomark _)))) cas_nil))))
theorem ok_l_can {P : Program} {w : World} {K : Fr0} {mg : Str → Option Value} {base : Heap} {I : ExI} {f : Addr} {fd : FuncData} (G : Gm K w mg) (T_l_named : FnT P w K mg base I "_law_named" 1 1 m_l_named) (T_l_made : FnT P w K mg base I "_law_made" 1 1 m_l_made) (F : Fun K "_law_can" "_law_can" s_l_can f fd) : FnOk P w K mg base (L2.CX P w) 2 f fd ["_law_world", "_law_deed"] (spF K I 2 m_l_can) :=
  def_ok F sc_l_can rfl rfl fun X W e1 e2 e3 e4 e5 c => by subst e1 e2 e3 e4 e5; exact w_l_can G T_l_named T_l_made c
/-! _law_do -/
abbrev s_l_do : Stmt := top 17
theorem sc_l_do : FnScope ["_law_world", "_law_deed", "_law_found", "_law_word", "_law_one", "_law_place", "_law_count"] ["_law_world", "_law_deed"] (defScope s_l_do) := ⟨rfl, rfl, rfl, by decide +kernel, rfl, by decide +kernel, by decide +kernel⟩
theorem w_l_do {X : Cx} {W : WX} {I : ExI} (G : Gm X.K X.w X.mg) (T_l_can : FnT X.prog X.w X.K X.mg X.base I "_law_can" 2 2 m_l_can) (c : Cn X W ["_law_world", "_law_deed", "_law_found", "_law_word", "_law_one", "_law_place", "_law_count"] (defScope s_l_do) (fun _ => true) 2) : CB X W I (fun i => i ∈ ([0, 1] : List Nat)) b_l_do (defBody s_l_do) :=
  (cb_cons (cs_if (CW.ct (cw_or (ct_cmp op_isNP (c.nm 0 rfl rfl) ce_none (nomark _)) (cw_or1 (ct_not (ct_val (ce_call T_l_can (c.hr.mono (by decide)) c.tk (c.gl rfl) (cas_cons (c.nm 0 rfl rfl) (cas_cons (c.nm 1 rfl rfl) cas_nil)) rfl)))))) (cb_one (cs_ret ce_none)) cb_nil)
    (cb_cons (cs_set (ce_callTy (call_dictAP c.calm) (c.gl rfl) G.dict bt_dict (cas_cons (c.nm 0 rfl rfl) cas_nil)) (by simp) (c.set 2 rfl rfl))
    (cb_cons (cs_asg (ce_slice (c.nm 1 rfl rfl) cp_none (cp_some ce_int)) (cg_tup c.calm (cgs_cons (cg_name (c.tgt 3 rfl rfl) (by simp)) (cgs_cons (cg_name (c.tgt 4 rfl rfl) (by simp)) cgs_nil))))
    (cb_cons (cs_if (ct_cmp (op_eqP c.hr) (c.nm 3 rfl rfl) ce_str (nomark _)) (cb_cons (cs_setIx c.hr (c.pv 2 rfl rfl) (c.nm 4 rfl rfl) (ce_slice (c.nm 1 rfl rfl) (cp_some ce_int) cp_none))
    (cb_one (cs_retV (c.pv 2 rfl rfl)))) cb_nil)
    (cb_cons (cs_asg (ce_dpop (c.pv 2 rfl rfl) (c.var 4 rfl rfl) ⟨rfl, rfl, rfl, rfl⟩) (cg_tup c.calm (cgs_cons (cg_name (c.tgt 5 rfl rfl) (by simp)) (cgs_cons (cg_name (c.tgt 6 rfl rfl) (by simp)) cgs_nil))))
    (cb_cons (cs_if (ct_cmp (op_eqP c.hr) (c.nm 3 rfl rfl) ce_str (nomark _)) (cb_one (cs_setIx c.hr (c.pv 2 rfl rfl) (c.nm 4 rfl rfl) (ce_tup (cvs_cons (ce_ix (ix_P c.hr) (c.nm 1 rfl rfl) ce_int (fun _ _ => rfl)) (cvs_cons (c.var 6 rfl rfl) cvs_nil))))) cb_nil)
    (cb_cons (cs_if (ct_cmp (op_eqP c.hr) (c.nm 3 rfl rfl) ce_str (nomark _)) (cb_one (cs_setIx c.hr (c.pv 2 rfl rfl) (c.nm 4 rfl rfl) (ce_tup (cvs_cons (c.var 5 rfl rfl) (cvs_cons (ce_bin op_addP (c.nm 6 rfl rfl) (ce_ix (ix_P c.hr) (c.nm 1 rfl rfl) ce_int (fun _ _ => rfl))) cvs_nil))))) cb_nil)
    (cb_cons (cs_if (ct_cmp (op_eqP c.hr) (c.nm 3 rfl rfl) ce_str (nomark _)) (cb_one (cs_setIx c.hr (c.pv 2 rfl rfl) (ce_ix (ix_P c.hr) (c.nm 1 rfl rfl) ce_int (fun _ _ => rfl)) (ce_tup (cvs_cons (c.var 5 rfl rfl) (cvs_cons (c.var 6 rfl rfl) cvs_nil))))) cb_nil)
    (cb_cons (cs_if (ct_cmp (op_eqP c.hr) (c.nm 3 rfl rfl) ce_str (nomark _)) (cb_cons (cs_setIx c.hr (c.pv 2 rfl rfl) (c.nm 4 rfl rfl) (ce_tup (cvs_cons (c.var 5 rfl rfl) (cvs_cons (ce_bin op_subP (c.nm 6 rfl rfl) (ce_ix (ix_P c.hr) (c.nm 1 rfl rfl) ce_int (fun _ _ => rfl))) cvs_nil))))
    (cb_one (cs_setIx c.hr (c.pv 2 rfl rfl) (ce_ix (ix_P c.hr) (c.nm 1 rfl rfl) ce_int (fun _ _ => rfl)) (ce_slice (c.nm 1 rfl rfl) (cp_some ce_int) cp_none)))) cb_nil)
    (cb_cons (cs_if (ct_cmp (op_eqP c.hr) (c.nm 3 rfl rfl) ce_str (nomark _)) (cb_one (cs_setIx c.hr (c.pv 2 rfl rfl) (c.nm 4 rfl rfl) (ce_tup (cvs_cons (c.var 5 rfl rfl) (cvs_cons (ce_bin op_addP (c.nm 6 rfl rfl) (ce_ix (ix_P c.hr) (ce_dpop (c.pv 2 rfl rfl) (ce_ix (ix_P c.hr) (c.nm 1 rfl rfl) ce_int (fun _ _ => rfl)) ⟨rfl, rfl, rfl, rfl⟩) ce_int (fun _ _ => rfl))) cvs_nil))))) cb_nil)
    (cb_one (cs_retV (c.pv 2 rfl rfl)))))))))))))
theorem ok_l_do {P : Program} {w : World} {K : Fr0} {mg : Str → Option Value} {base : Heap} {I : ExI} {f : Addr} {fd : FuncData} (G : Gm K w mg) (T_l_can : FnT P w K mg base I "_law_can" 2 2 m_l_can) (F : Fun K "_law_do" "_law_do" s_l_do f fd) : FnOk P w K mg base (L2.CX P w) 3 f fd ["_law_world", "_law_deed"] (spF K I 2 m_l_do) :=
  def_ok F sc_l_do rfl rfl fun X W e1 e2 e3 e4 e5 c => by subst e1 e2 e3 e4 e5; exact w_l_do G T_l_can c
/-! _law_done -/
abbrev s_l_done : Stmt := top 18
theorem sc_l_done : FnScope ["_law_world", "_law_row", "_law_deed"] ["_law_world", "_law_row"] (defScope s_l_done) := ⟨rfl, rfl, rfl, by decide +kernel, rfl, by decide +kernel, by decide +kernel⟩
theorem w_l_done {X : Cx} {W : WX} {I : ExI} (G : Gm X.K X.w X.mg) (T_l_do : FnT X.prog X.w X.K X.mg X.base I "_law_do" 2 3 m_l_do) (c : Cn X W ["_law_world", "_law_row", "_law_deed"] (defScope s_l_done) (fun _ => true) 3) : CB X W I (fun i => i ∈ ([1] : List Nat)) b_l_done (defBody s_l_done) :=
  (cb_cons (cs_for c.po c.calm (ci_any (c.var 1 rfl rfl)) (cg_name (c.tgt 2 rfl rfl) (by simp)) (cb_one (cs_set (ce_call T_l_do (c.hr.mono (by decide)) c.tk (c.gl rfl) (cas_cons (c.nm 0 rfl rfl) (cas_cons (c.nm 2 rfl rfl) cas_nil)) rfl) (by simp) (c.set 0 rfl rfl))))
    (cb_one (cs_retV (c.pv 0 rfl rfl))))
theorem ok_l_done {P : Program} {w : World} {K : Fr0} {mg : Str → Option Value} {base : Heap} {I : ExI} {f : Addr} {fd : FuncData} (G : Gm K w mg) (T_l_do : FnT P w K mg base I "_law_do" 2 3 m_l_do) (F : Fun K "_law_done" "_law_done" s_l_done f fd) : FnOk P w K mg base (L2.CX P w) 4 f fd ["_law_world", "_law_row"] (spF K I 2 m_l_done) :=
  def_ok F sc_l_done rfl rfl fun X W e1 e2 e3 e4 e5 c => by subst e1 e2 e3 e4 e5; exact w_l_done G T_l_do c
/-! _law_back -/
abbrev s_l_back : Stmt := top 19
theorem sc_l_back : FnScope ["_law_world", "_law_deed", "_law_word", "_law_one"] ["_law_world", "_law_deed"] (defScope s_l_back) := ⟨rfl, rfl, rfl, by decide +kernel, rfl, by decide +kernel, by decide +kernel⟩
theorem w_l_back {X : Cx} {W : WX} {I : ExI} (G : Gm X.K X.w X.mg) (c : Cn X W ["_law_world", "_law_deed", "_law_word", "_law_one"] (defScope s_l_back) (fun _ => true) 0) : CB X W I (fun i => i ∈ ([0, 1] : List Nat)) b_l_back (defBody s_l_back) :=
  (cb_cons (cs_asg (ce_slice (c.nm 1 rfl rfl) cp_none (cp_some ce_int)) (cg_tup c.calm (cgs_cons (cg_name (c.tgt 2 rfl rfl) (by simp)) (cgs_cons (cg_name (c.tgt 3 rfl rfl) (by simp)) cgs_nil))))
    (cb_cons (cs_if (ct_cmp (op_eqP c.hr) (c.nm 2 rfl rfl) ce_str (nomark _)) (cb_one (cs_ret (ce_tup (cvs_cons ce_str (cvs_cons (c.var 3 rfl rfl) cvs_nil))))) cb_nil)
    (cb_cons (cs_if (ct_cmp (op_eqP c.hr) (c.nm 2 rfl rfl) ce_str (nomark _)) (cb_one (cs_ret (ce_bin op_addP (ce_tup (cvs_cons ce_str (cvs_cons (c.var 3 rfl rfl) cvs_nil))) (ce_ix (ix_P c.hr) (c.nm 0 rfl rfl) (c.nm 3 rfl rfl) (fun _ _ => rfl))))) cb_nil)
    (cb_cons (cs_if (ct_cmp (op_eqP c.hr) (c.nm 2 rfl rfl) ce_str (nomark _)) (cb_one (cs_ret (ce_tup (cvs_cons ce_str (cvs_cons (c.var 3 rfl rfl) (cvs_cons (ce_ix (ix_P c.hr) (ce_ix (ix_P c.hr) (c.nm 0 rfl rfl) (c.nm 3 rfl rfl) (fun _ _ => rfl)) ce_int (fun _ _ => rfl)) cvs_nil)))))) cb_nil)
    (cb_cons (cs_if (ct_cmp (op_eqP c.hr) (c.nm 2 rfl rfl) ce_str (nomark _)) (cb_one (cs_ret (ce_tup (cvs_cons ce_str (cvs_cons (c.var 3 rfl rfl) (cvs_cons (ce_bin op_subP ce_int (ce_ix (ix_P c.hr) (c.nm 1 rfl rfl) ce_int (fun _ _ => rfl))) cvs_nil)))))) cb_nil)
    (cb_cons (cs_if (ct_cmp (op_eqP c.hr) (c.nm 2 rfl rfl) ce_str (nomark _)) (cb_one (cs_ret (ce_tup (cvs_cons ce_str (cvs_cons (ce_ix (ix_P c.hr) (c.nm 1 rfl rfl) ce_int (fun _ _ => rfl)) (cvs_cons (c.var 3 rfl rfl) cvs_nil)))))) cb_nil)
    (cb_cons (cs_if (ct_cmp (op_eqP c.hr) (c.nm 2 rfl rfl) ce_str (nomark _)) (cb_one (cs_ret (ce_tup (cvs_cons ce_str (cvs_cons (c.var 3 rfl rfl) (cvs_cons (ce_ix (ix_P c.hr) (c.nm 1 rfl rfl) ce_int (fun _ _ => rfl)) cvs_nil)))))) cb_nil)
    (cb_one (cs_ret (ce_bin op_addP (ce_tup (cvs_cons ce_str (cvs_cons (c.var 3 rfl rfl) (cvs_cons (ce_ix (ix_P c.hr) (c.nm 1 rfl rfl) ce_int (fun _ _ => rfl)) cvs_nil)))) (ce_ix (ix_P c.hr) (c.nm 0 rfl rfl) (ce_ix (ix_P c.hr) (c.nm 1 rfl rfl) ce_int (fun _ _ => rfl)) (fun _ _ => rfl))))))))))))
theorem ok_l_back {P : Program} {w : World} {K : Fr0} {mg : Str → Option Value} {base : Heap} {I : ExI} {f : Addr} {fd : FuncData} (G : Gm K w mg) (F : Fun K "_law_back" "_law_back" s_l_back f fd) : FnOk P w K mg base (L2.CX P w) 1 f fd ["_law_world", "_law_deed"] (spF K I 2 m_l_back) :=
  def_ok F sc_l_back rfl rfl fun X W e1 e2 e3 e4 e5 c => by subst e1 e2 e3 e4 e5; exact w_l_back G  c
/-! _law_worlds -/
abbrev s_l_worlds : Stmt := top 20
theorem sc_l_worlds : FnScope ["_law_names_here", "_law_found", "_law_k", "_law_more", "_law_world", "_law_wider"] ["_law_names_here"] (defScope s_l_worlds) := ⟨rfl, rfl, rfl, by decide +kernel, rfl, by decide +kernel, by decide +kernel⟩
theorem w_l_worlds {X : Cx} {W : WX} {I : ExI} (G : Gm X.K X.w X.mg) (c : Cn X W ["_law_names_here", "_law_found", "_law_k", "_law_more", "_law_world", "_law_wider"] (defScope s_l_worlds) (fun _ => true) 0) : CB X W I (fun i => i ∈ ([0] : List Nat)) b_l_worlds (defBody s_l_worlds) :=
  (cb_cons (cs_set (ce_lst (cvs_cons ce_dnew cvs_nil)) (by simp) (c.set 1 rfl rfl))
    (cb_cons (cs_for c.po c.calm (ci_range1 (c.gl rfl) G.range (ce_callB call_lenP (c.gl rfl) G.len bt_len (cas_cons (c.nm 0 rfl rfl) cas_nil))) (cg_name (c.tgt 2 rfl rfl) (by simp)) (cb_cons (cs_set (ce_lst cvs_nil) (by simp) (c.set 3 rfl rfl))
    (cb_cons (cs_for c.po c.calm (ci_any (c.var 1 rfl rfl)) (cg_name (c.tgt 4 rfl rfl) (by simp)) (cb_cons (cs_set (ce_callTy (call_dictAP c.calm) (c.gl rfl) G.dict bt_dict (cas_cons (c.nm 4 rfl rfl) cas_nil)) (by simp) (c.set 5 rfl rfl))
    (cb_cons (cs_setIx c.hr (c.pv 5 rfl rfl) (ce_ix (ix_P c.hr) (c.nm 0 rfl rfl) (c.nm 2 rfl rfl) (fun _ _ => rfl)) (ce_tup (cvs_cons (ce_bin op_addP ce_int (c.nm 2 rfl rfl)) (cvs_cons (ce_bin op_mulP (ce_ix (ix_P c.hr) (ce_lst (cvs_cons ce_int (cvs_cons ce_int (cvs_cons ce_int (cvs_cons ce_int cvs_nil))))) (c.nm 2 rfl rfl) (fun _ _ => rfl)) (ce_bin op_powP ce_int ce_int)) cvs_nil))))
    (cb_one (cs_set (ce_bin op_addP (c.nm 3 rfl rfl) (ce_lst (cvs_cons (c.var 4 rfl rfl) (cvs_cons (c.var 5 rfl rfl) cvs_nil)))) (by simp) (c.set 3 rfl rfl))))))
    (cb_one (cs_set (c.var 3 rfl rfl) (by simp) (c.set 1 rfl rfl))))))
    (cb_one (cs_retV (c.pv 1 rfl rfl)))))
theorem ok_l_worlds {P : Program} {w : World} {K : Fr0} {mg : Str → Option Value} {base : Heap} {I : ExI} {f : Addr} {fd : FuncData} (G : Gm K w mg) (F : Fun K "_law_worlds" "_law_worlds" s_l_worlds f fd) : FnOk P w K mg base (L2.CX P w) 1 f fd ["_law_names_here"] (spF K I 1 m_l_worlds) :=
  def_ok F sc_l_worlds rfl rfl fun X W e1 e2 e3 e4 e5 c => by subst e1 e2 e3 e4 e5; exact w_l_worlds G  c
/-! _law_backs -/
abbrev s_l_backs : Stmt := top 21
theorem sc_l_backs : FnScope ["_law_world", "_law_row", "_law_found", "_law_deed"] ["_law_world", "_law_row"] (defScope s_l_backs) := ⟨rfl, rfl, rfl, by decide +kernel, rfl, by decide +kernel, by decide +kernel⟩
theorem w_l_backs {X : Cx} {W : WX} {I : ExI} (G : Gm X.K X.w X.mg) (T_l_do : FnT X.prog X.w X.K X.mg X.base I "_law_do" 2 3 m_l_do) (T_l_back : FnT X.prog X.w X.K X.mg X.base I "_law_back" 2 1 m_l_back) (c : Cn X W ["_law_world", "_law_row", "_law_found", "_law_deed"] (defScope s_l_backs) (fun _ => true) 3) : CB X W I (fun i => i ∈ ([1] : List Nat)) b_l_backs (defBody s_l_backs) :=
  (cb_cons (cs_set (ce_lst cvs_nil) (by simp) (c.set 2 rfl rfl))
    (cb_cons (cs_for c.po c.calm (ci_any (c.var 1 rfl rfl)) (cg_name (c.tgt 3 rfl rfl) (by simp)) (cb_cons (cs_drop (ce_append (c.pv 2 rfl rfl) (ce_tup (cvs_cons (c.var 3 rfl rfl) (cvs_cons (ce_call T_l_back (c.hr.mono (by decide)) c.tk (c.gl rfl) (cas_cons (c.nm 0 rfl rfl) (cas_cons (c.nm 3 rfl rfl) cas_nil)) rfl) cvs_nil)))))
    (cb_one (cs_set (ce_call T_l_do (c.hr.mono (by decide)) c.tk (c.gl rfl) (cas_cons (c.nm 0 rfl rfl) (cas_cons (c.nm 3 rfl rfl) cas_nil)) rfl) (by simp) (c.set 0 rfl rfl)))))
    (cb_one (cs_ret (ce_callB (call_sortedXP c.calm (c.hr.mono (Nat.zero_le _))) (c.gl rfl) G.sorted bt_sorted (cas_cons (c.nm 2 rfl rfl) cas_nil))))))
theorem ok_l_backs {P : Program} {w : World} {K : Fr0} {mg : Str → Option Value} {base : Heap} {I : ExI} {f : Addr} {fd : FuncData} (G : Gm K w mg) (T_l_do : FnT P w K mg base I "_law_do" 2 3 m_l_do) (T_l_back : FnT P w K mg base I "_law_back" 2 1 m_l_back) (F : Fun K "_law_backs" "_law_backs" s_l_backs f fd) : FnOk P w K mg base (L2.CX P w) 4 f fd ["_law_world", "_law_row"] (spF K I 2 m_l_backs) :=
  def_ok F sc_l_backs rfl rfl fun X W e1 e2 e3 e4 e5 c => by subst e1 e2 e3 e4 e5; exact w_l_backs G T_l_do T_l_back c
/-! _law_same -/
abbrev s_l_same : Stmt := top 22
theorem sc_l_same : FnScope ["_law_world", "_law_one", "_law_other", "_law_first", "_law_second"] ["_law_world", "_law_one", "_law_other"] (defScope s_l_same) := ⟨rfl, rfl, rfl, by decide +kernel, rfl, by decide +kernel, by decide +kernel⟩
theorem w_l_same {X : Cx} {W : WX} {I : ExI} (G : Gm X.K X.w X.mg) (T_l_done : FnT X.prog X.w X.K X.mg X.base I "_law_done" 2 4 m_l_done) (T_l_backs : FnT X.prog X.w X.K X.mg X.base I "_law_backs" 2 4 m_l_backs) (c : Cn X W ["_law_world", "_law_one", "_law_other", "_law_first", "_law_second"] (defScope s_l_same) (fun _ => true) 4) : CB X W I (fun i => i ∈ ([0, 1, 2] : List Nat)) b_l_same (defBody s_l_same) :=
  (cb_cons (cs_parO c 3 4 rfl rfl rfl rfl (by decide) (by simp) (by simp) (cas_cons (ce_call T_l_done (c.hr.mono (by decide)) c.tk (c.gl rfl) (cas_cons (c.nm 0 rfl rfl) (cas_cons (ce_lst (cvs_cons (c.var 1 rfl rfl) (cvs_cons (c.var 2 rfl rfl) cvs_nil))) cas_nil)) rfl) (cas_cons (ce_call T_l_done (c.hr.mono (by decide)) c.tk (c.gl rfl) (cas_cons (c.nm 0 rfl rfl) (cas_cons (ce_lst (cvs_cons (c.var 2 rfl rfl) (cvs_cons (c.var 1 rfl rfl) cvs_nil))) cas_nil)) rfl) cas_nil)) rfl rfl rfl rfl rfl rfl)
    (cb_cons (cs_if (CW.ct (cw_or (ct_cmp op_isNP (c.nm 3 rfl rfl) ce_none (nomark _)) (cw_or1 (ct_cmp op_isNP (c.nm 4 rfl rfl) ce_none (nomark _))))) (cb_one (cs_ret (ce_and (ce_cmp op_isNP (c.nm 3 rfl rfl) ce_none (nomark _)) (ce_one (ce_cmp op_isNP (c.nm 4 rfl rfl) ce_none (nomark _)))))) cb_nil)
    (cb_one (cs_ret (ce_and (ce_cmp (op_eqDP c.hr) (c.nm 3 rfl rfl) (c.nm 4 rfl rfl) (nomark _)) (ce_one (ce_cmp (op_eqP c.hr) (ce_call T_l_backs (c.hr.mono (by decide)) c.tk (c.gl rfl) (cas_cons (c.nm 0 rfl rfl) (cas_cons (ce_lst (cvs_cons (c.var 1 rfl rfl) (cvs_cons (c.var 2 rfl rfl) cvs_nil))) cas_nil)) rfl) (ce_call T_l_backs (c.hr.mono (by decide)) c.tk (c.gl rfl) (cas_cons (c.nm 0 rfl rfl) (cas_cons (ce_lst (cvs_cons (c.var 2 rfl rfl) (cvs_cons (c.var 1 rfl rfl) cvs_nil))) cas_nil)) rfl) (nomark _))))))))
theorem ok_l_same {P : Program} {w : World} {K : Fr0} {mg : Str → Option Value} {base : Heap} {I : ExI} {f : Addr} {fd : FuncData} (G : Gm K w mg) (T_l_done : FnT P w K mg base I "_law_done" 2 4 m_l_done) (T_l_backs : FnT P w K mg base I "_law_backs" 2 4 m_l_backs) (F : Fun K "_law_same" "_law_same" s_l_same f fd) : FnOk P w K mg base (L2.CX P w) 5 f fd ["_law_world", "_law_one", "_law_other"] (spF K I 3 m_l_same) :=
  def_ok F sc_l_same rfl rfl fun X W e1 e2 e3 e4 e5 c => by subst e1 e2 e3 e4 e5; exact w_l_same G T_l_done T_l_backs c
/-! _law_right -/
abbrev s_l_right : Stmt := top 23
theorem sc_l_right : FnScope ["_law_names_here", "_law_one", "_law_other", "_law_worlds_here", "_law_told", "_law_world"] ["_law_names_here", "_law_one", "_law_other"] (defScope s_l_right) := ⟨rfl, rfl, rfl, by decide +kernel, rfl, by decide +kernel, by decide +kernel⟩
theorem w_l_right {X : Cx} {W : WX} {I : ExI} (G : Gm X.K X.w X.mg) (T_l_worlds : FnT X.prog X.w X.K X.mg X.base I "_law_worlds" 1 1 m_l_worlds) (T_touch : FnT X.prog X.w X.K X.mg X.base I "touch" 2 3 m_touch) (T_l_same : FnT X.prog X.w X.K X.mg X.base I "_law_same" 3 5 m_l_same) (T_l_done : FnT X.prog X.w X.K X.mg X.base I "_law_done" 2 4 m_l_done) (c : Cn X W ["_law_names_here", "_law_one", "_law_other", "_law_worlds_here", "_law_told", "_law_world"] (defScope s_l_right) (fun _ => true) 5) : CB X W I (fun i => i ∈ ([0, 1, 2] : List Nat)) b_l_right (defBody s_l_right) :=
  (cb_cons (cs_set (ce_call T_l_worlds (c.hr.mono (by decide)) c.tk (c.gl rfl) (cas_cons (c.nm 0 rfl rfl) cas_nil) rfl) (by simp) (c.set 3 rfl rfl))
    (cb_cons (cs_set (ce_call T_touch (c.hr.mono (by decide)) c.tk (c.gl rfl) (cas_cons (c.nm 1 rfl rfl) (cas_cons (c.nm 2 rfl rfl) cas_nil)) rfl) (by simp) (c.set 4 rfl rfl))
    (cb_cons (cs_if (ct_not (ct_val (c.var 4 rfl rfl))) (cb_one (cs_ret (ce_callB (call_allP c.calm) (c.gl rfl) G.all bt_all (cas_cons (ce_lc (own := [("_law_world", 5)]) c (ci_any (c.var 3 rfl rfl)) (by decide +kernel) (fun _ _ _ _ _ c1 => (cg_name (c1.tgt 5 rfl rfl) (by simp))) (fun _ _ _ _ _ c1 => cts_nil) (fun _ _ _ _ _ c1 => (ce_call T_l_same (c1.hr.mono (by decide)) c1.tk (c1.gl rfl) (cas_cons (c1.nm 5 rfl rfl) (cas_cons (c1.nm 1 rfl rfl) (cas_cons (c1.nm 2 rfl rfl) cas_nil))) rfl))) cas_nil)))) cb_nil)
    (cb_cons (cs_if (CW.ct (cw_or (ct_cmp (op_eqP c.hr) (c.nm 1 rfl rfl) (c.nm 2 rfl rfl) (nomark _)) (cw_or1 (ct_val (ce_callB (call_allP c.calm) (c.gl rfl) G.all bt_all (cas_cons (ce_lc (own := [("_law_world", 5)]) c (ci_any (c.var 3 rfl rfl)) (by decide +kernel) (fun _ _ _ _ _ c1 => (cg_name (c1.tgt 5 rfl rfl) (by simp))) (fun _ _ _ _ _ c1 => cts_nil) (fun _ _ _ _ _ c1 => (ce_cmp op_isNP (ce_call T_l_done (c1.hr.mono (by decide)) c1.tk (c1.gl rfl) (cas_cons (c1.nm 5 rfl rfl) (cas_cons (ce_lst (cvs_cons (c1.var 1 rfl rfl) (cvs_cons (c1.var 2 rfl rfl) cvs_nil))) cas_nil)) rfl) ce_none (nomark _)))) cas_nil)))))) (cb_one (cs_ret ce_bool)) cb_nil)
    (cb_one (cs_ret (ce_callB (call_anyP c.calm) (c.gl rfl) G.any bt_any (cas_cons (ce_lc (own := [("_law_world", 5)]) c (ci_any (c.var 3 rfl rfl)) (by decide +kernel) (fun _ _ _ _ _ c1 => (cg_name (c1.tgt 5 rfl rfl) (by simp))) (fun _ _ _ _ _ c1 => cts_nil) (fun _ _ _ _ _ c1 => (ce_cmp (op_neDP c1.hr) (ce_call T_l_done (c1.hr.mono (by decide)) c1.tk (c1.gl rfl) (cas_cons (c1.nm 5 rfl rfl) (cas_cons (ce_lst (cvs_cons (c1.var 1 rfl rfl) (cvs_cons (c1.var 2 rfl rfl) cvs_nil))) cas_nil)) rfl) (ce_call T_l_done (c1.hr.mono (by decide)) c1.tk (c1.gl rfl) (cas_cons (c1.nm 5 rfl rfl) (cas_cons (ce_lst (cvs_cons (c1.var 2 rfl rfl) (cvs_cons (c1.var 1 rfl rfl) cvs_nil))) cas_nil)) rfl) (nomark _)))) cas_nil))))))))
theorem ok_l_right {P : Program} {w : World} {K : Fr0} {mg : Str → Option Value} {base : Heap} {I : ExI} {f : Addr} {fd : FuncData} (G : Gm K w mg) (T_l_worlds : FnT P w K mg base I "_law_worlds" 1 1 m_l_worlds) (T_touch : FnT P w K mg base I "touch" 2 3 m_touch) (T_l_same : FnT P w K mg base I "_law_same" 3 5 m_l_same) (T_l_done : FnT P w K mg base I "_law_done" 2 4 m_l_done) (F : Fun K "_law_right" "_law_right" s_l_right f fd) : FnOk P w K mg base (L2.CX P w) 6 f fd ["_law_names_here", "_law_one", "_law_other"] (spF K I 3 m_l_right) :=
  def_ok F sc_l_right rfl rfl fun X W e1 e2 e3 e4 e5 c => by subst e1 e2 e3 e4 e5; exact w_l_right G T_l_worlds T_touch T_l_same T_l_done c
/-! law -/
abbrev s_law : Stmt := top 24
theorem sc_law : FnScope ["_law_script", "_law_k", "_law_pack_here", "_law_names_here", "_law_turn"] ["_law_script"] (defScope s_law) := ⟨rfl, rfl, rfl, by decide +kernel, rfl, by decide +kernel, by decide +kernel⟩
theorem w_law {X : Cx} {W : WX} {I : ExI} (G : Gm X.K X.w X.mg) (T_l_pack : FnT X.prog X.w X.K X.mg X.base I "_law_pack" 2 2 m_l_pack) (T_l_names : FnT X.prog X.w X.K X.mg X.base I "_law_names" 2 2 m_l_names) (T_l_take : FnT X.prog X.w X.K X.mg X.base I "_law_take" 2 1 m_l_take) (T_l_right : FnT X.prog X.w X.K X.mg X.base I "_law_right" 3 6 m_l_right) (T_l_any_deed : FnT X.prog X.w X.K X.mg X.base I "_law_any_deed" 2 2 m_l_any_deed) (c : Cn X W ["_law_script", "_law_k", "_law_pack_here", "_law_names_here", "_law_turn"] (defScope s_law) (fun _ => true) 6) : CB X W I (fun i => i ∈ ([0] : List Nat)) b_law_2 (defBody s_law) :=
  (cb_cons (cs_for c.po c.calm (ci_range1 (c.gl rfl) G.range (ce_callB (call_max2P c.calm) (c.gl rfl) G.max bt_max (cas_cons ce_int (cas_cons (ce_callB (call_min2P c.calm) (c.gl rfl) G.min bt_min (cas_cons (ce_callB call_lenP (c.gl rfl) G.len bt_len (cas_cons (c.nm 0 rfl rfl) cas_nil)) (cas_cons ce_int cas_nil))) cas_nil)))) (cg_name (c.tgt 1 rfl rfl) (by simp)) (cb_cons (cs_set (ce_call T_l_pack (c.hr.mono (by decide)) c.tk (c.gl rfl) (cas_cons (c.nm 0 rfl rfl) (cas_cons (c.nm 1 rfl rfl) cas_nil)) rfl) (by simp) (c.set 2 rfl rfl))
    (cb_cons (cs_set (ce_call T_l_names (c.hr.mono (by decide)) c.tk (c.gl rfl) (cas_cons (c.nm 2 rfl rfl) (cas_cons (ce_bin op_addP ce_int (ce_call T_l_take (c.hr.mono (by decide)) c.tk (c.gl rfl) (cas_cons (c.nm 2 rfl rfl) (cas_cons ce_int cas_nil)) rfl)) cas_nil)) rfl) (by simp) (c.set 3 rfl rfl))
    (cb_one (cs_for c.po c.calm (ci_range1 (c.gl rfl) G.range ce_int) (cg_name (c.tgt 4 rfl rfl) (by simp)) (cb_one (cs_if (ct_not (ct_val (ce_call T_l_right (c.hr.mono (by decide)) c.tk (c.gl rfl) (cas_cons (c.nm 3 rfl rfl) (cas_cons (ce_call T_l_any_deed (c.hr.mono (by decide)) c.tk (c.gl rfl) (cas_cons (c.nm 2 rfl rfl) (cas_cons (c.nm 3 rfl rfl) cas_nil)) rfl) (cas_cons (ce_call T_l_any_deed (c.hr.mono (by decide)) c.tk (c.gl rfl) (cas_cons (c.nm 2 rfl rfl) (cas_cons (c.nm 3 rfl rfl) cas_nil)) rfl) cas_nil))) rfl))) (cb_one (cs_ret ce_bool)) cb_nil)))))))
    (cb_one (cs_ret ce_bool)))
theorem ok_law {P : Program} {w : World} {K : Fr0} {mg : Str → Option Value} {base : Heap} {I : ExI} {f : Addr} {fd : FuncData} (G : Gm K w mg) (T_l_pack : FnT P w K mg base I "_law_pack" 2 2 m_l_pack) (T_l_names : FnT P w K mg base I "_law_names" 2 2 m_l_names) (T_l_take : FnT P w K mg base I "_law_take" 2 1 m_l_take) (T_l_right : FnT P w K mg base I "_law_right" 3 6 m_l_right) (T_l_any_deed : FnT P w K mg base I "_law_any_deed" 2 2 m_l_any_deed) (F : Fun K "law" "law" s_law f fd) : FnOk P w K mg base (L2.CX P w) 7 f fd ["_law_script"] (spF K I 1 m_law_2) :=
  def_ok F sc_law rfl rfl fun X W e1 e2 e3 e4 e5 c => by subst e1 e2 e3 e4 e5; exact w_law G T_l_pack T_l_names T_l_take T_l_right T_l_any_deed c
end K

namespace K
open PySem PySem.Spec PyProof.Rows L2 SD
theorem all_mk {l : PySem.W.OpenLaw} {w : World} {K : PySem.W.Frag} {h : Heap} {mg : Str → Option Value} {fa : Addr} (X : K.In h) (G : h.Ns mainGlobals mg) (hfa : mg "law" = some (.ref fa))
    {f_names_in : Addr} {oc_names_in kV_names_in dc_names_in pm_names_in cd_names_in ct_names_in : Value} {od_names_in an_names_in : Option Addr} {sl_names_in : Array (Option Value)}
    (a_names_in : PySem.W.nsIn K mainGlobals "names_in" = some (some (.ref f_names_in))) (l_names_in : K.lookup f_names_in = some ⟨oc_names_in, od_names_in, .func (PySem.W.fnOf "names_in" "names_in" (defArgs s_names_in) (defBody s_names_in) (defScope s_names_in) .none kV_names_in dc_names_in pm_names_in an_names_in cd_names_in ct_names_in), sl_names_in⟩) (c_names_in : PySem.W.codeIn K cd_names_in "names_in" = true) (k_names_in : PySem.W.keepIn K (.ref f_names_in) = true)
    {f_only_adds : Addr} {oc_only_adds kV_only_adds dc_only_adds pm_only_adds cd_only_adds ct_only_adds : Value} {od_only_adds an_only_adds : Option Addr} {sl_only_adds : Array (Option Value)}
    (a_only_adds : PySem.W.nsIn K mainGlobals "only_adds" = some (some (.ref f_only_adds))) (l_only_adds : K.lookup f_only_adds = some ⟨oc_only_adds, od_only_adds, .func (PySem.W.fnOf "only_adds" "only_adds" (defArgs s_only_adds) (defBody s_only_adds) (defScope s_only_adds) .none kV_only_adds dc_only_adds pm_only_adds an_only_adds cd_only_adds ct_only_adds), sl_only_adds⟩) (c_only_adds : PySem.W.codeIn K cd_only_adds "only_adds" = true) (k_only_adds : PySem.W.keepIn K (.ref f_only_adds) = true)
    {f_only_moves : Addr} {oc_only_moves kV_only_moves dc_only_moves pm_only_moves cd_only_moves ct_only_moves : Value} {od_only_moves an_only_moves : Option Addr} {sl_only_moves : Array (Option Value)}
    (a_only_moves : PySem.W.nsIn K mainGlobals "only_moves" = some (some (.ref f_only_moves))) (l_only_moves : K.lookup f_only_moves = some ⟨oc_only_moves, od_only_moves, .func (PySem.W.fnOf "only_moves" "only_moves" (defArgs s_only_moves) (defBody s_only_moves) (defScope s_only_moves) .none kV_only_moves dc_only_moves pm_only_moves an_only_moves cd_only_moves ct_only_moves), sl_only_moves⟩) (c_only_moves : PySem.W.codeIn K cd_only_moves "only_moves" = true) (k_only_moves : PySem.W.keepIn K (.ref f_only_moves) = true)
    {f_pass_by : Addr} {oc_pass_by kV_pass_by dc_pass_by pm_pass_by cd_pass_by ct_pass_by : Value} {od_pass_by an_pass_by : Option Addr} {sl_pass_by : Array (Option Value)}
    (a_pass_by : PySem.W.nsIn K mainGlobals "pass_by" = some (some (.ref f_pass_by))) (l_pass_by : K.lookup f_pass_by = some ⟨oc_pass_by, od_pass_by, .func (PySem.W.fnOf "pass_by" "pass_by" (defArgs s_pass_by) (defBody s_pass_by) (defScope s_pass_by) .none kV_pass_by dc_pass_by pm_pass_by an_pass_by cd_pass_by ct_pass_by), sl_pass_by⟩) (c_pass_by : PySem.W.codeIn K cd_pass_by "pass_by" = true) (k_pass_by : PySem.W.keepIn K (.ref f_pass_by) = true)
    {f_touch : Addr} {oc_touch kV_touch dc_touch pm_touch cd_touch ct_touch : Value} {od_touch an_touch : Option Addr} {sl_touch : Array (Option Value)}
    (a_touch : PySem.W.nsIn K mainGlobals "touch" = some (some (.ref f_touch))) (l_touch : K.lookup f_touch = some ⟨oc_touch, od_touch, .func (PySem.W.fnOf "touch" "touch" (defArgs s_touch) (defBody s_touch) (defScope s_touch) .none kV_touch dc_touch pm_touch an_touch cd_touch ct_touch), sl_touch⟩) (c_touch : PySem.W.codeIn K cd_touch "touch" = true) (k_touch : PySem.W.keepIn K (.ref f_touch) = true)
    {f_l_mixed : Addr} {oc_l_mixed kV_l_mixed dc_l_mixed pm_l_mixed cd_l_mixed ct_l_mixed : Value} {od_l_mixed an_l_mixed : Option Addr} {sl_l_mixed : Array (Option Value)}
    (a_l_mixed : PySem.W.nsIn K mainGlobals "_law_mixed" = some (some (.ref f_l_mixed))) (l_l_mixed : K.lookup f_l_mixed = some ⟨oc_l_mixed, od_l_mixed, .func (PySem.W.fnOf "_law_mixed" "_law_mixed" (defArgs s_l_mixed) (defBody s_l_mixed) (defScope s_l_mixed) .none kV_l_mixed dc_l_mixed pm_l_mixed an_l_mixed cd_l_mixed ct_l_mixed), sl_l_mixed⟩) (c_l_mixed : PySem.W.codeIn K cd_l_mixed "_law_mixed" = true) (k_l_mixed : PySem.W.keepIn K (.ref f_l_mixed) = true)
    {f_l_pack : Addr} {oc_l_pack kV_l_pack dc_l_pack pm_l_pack cd_l_pack ct_l_pack : Value} {od_l_pack an_l_pack : Option Addr} {sl_l_pack : Array (Option Value)}
    (a_l_pack : PySem.W.nsIn K mainGlobals "_law_pack" = some (some (.ref f_l_pack))) (l_l_pack : K.lookup f_l_pack = some ⟨oc_l_pack, od_l_pack, .func (PySem.W.fnOf "_law_pack" "_law_pack" (defArgs s_l_pack) (defBody s_l_pack) (defScope s_l_pack) .none kV_l_pack dc_l_pack pm_l_pack an_l_pack cd_l_pack ct_l_pack), sl_l_pack⟩) (c_l_pack : PySem.W.codeIn K cd_l_pack "_law_pack" = true) (k_l_pack : PySem.W.keepIn K (.ref f_l_pack) = true)
    {f_l_take : Addr} {oc_l_take kV_l_take dc_l_take pm_l_take cd_l_take ct_l_take : Value} {od_l_take an_l_take : Option Addr} {sl_l_take : Array (Option Value)}
    (a_l_take : PySem.W.nsIn K mainGlobals "_law_take" = some (some (.ref f_l_take))) (l_l_take : K.lookup f_l_take = some ⟨oc_l_take, od_l_take, .func (PySem.W.fnOf "_law_take" "_law_take" (defArgs s_l_take) (defBody s_l_take) (defScope s_l_take) .none kV_l_take dc_l_take pm_l_take an_l_take cd_l_take ct_l_take), sl_l_take⟩) (c_l_take : PySem.W.codeIn K cd_l_take "_law_take" = true) (k_l_take : PySem.W.keepIn K (.ref f_l_take) = true)
    {f_l_names : Addr} {oc_l_names kV_l_names dc_l_names pm_l_names cd_l_names ct_l_names : Value} {od_l_names an_l_names : Option Addr} {sl_l_names : Array (Option Value)}
    (a_l_names : PySem.W.nsIn K mainGlobals "_law_names" = some (some (.ref f_l_names))) (l_l_names : K.lookup f_l_names = some ⟨oc_l_names, od_l_names, .func (PySem.W.fnOf "_law_names" "_law_names" (defArgs s_l_names) (defBody s_l_names) (defScope s_l_names) .none kV_l_names dc_l_names pm_l_names an_l_names cd_l_names ct_l_names), sl_l_names⟩) (c_l_names : PySem.W.codeIn K cd_l_names "_law_names" = true) (k_l_names : PySem.W.keepIn K (.ref f_l_names) = true)
    {f_l_any_deed : Addr} {oc_l_any_deed kV_l_any_deed dc_l_any_deed pm_l_any_deed cd_l_any_deed ct_l_any_deed : Value} {od_l_any_deed an_l_any_deed : Option Addr} {sl_l_any_deed : Array (Option Value)}
    (a_l_any_deed : PySem.W.nsIn K mainGlobals "_law_any_deed" = some (some (.ref f_l_any_deed))) (l_l_any_deed : K.lookup f_l_any_deed = some ⟨oc_l_any_deed, od_l_any_deed, .func (PySem.W.fnOf "_law_any_deed" "_law_any_deed" (defArgs s_l_any_deed) (defBody s_l_any_deed) (defScope s_l_any_deed) .none kV_l_any_deed dc_l_any_deed pm_l_any_deed an_l_any_deed cd_l_any_deed ct_l_any_deed), sl_l_any_deed⟩) (c_l_any_deed : PySem.W.codeIn K cd_l_any_deed "_law_any_deed" = true) (k_l_any_deed : PySem.W.keepIn K (.ref f_l_any_deed) = true)
    {f_l_named : Addr} {oc_l_named kV_l_named dc_l_named pm_l_named cd_l_named ct_l_named : Value} {od_l_named an_l_named : Option Addr} {sl_l_named : Array (Option Value)}
    (a_l_named : PySem.W.nsIn K mainGlobals "_law_named" = some (some (.ref f_l_named))) (l_l_named : K.lookup f_l_named = some ⟨oc_l_named, od_l_named, .func (PySem.W.fnOf "_law_named" "_law_named" (defArgs s_l_named) (defBody s_l_named) (defScope s_l_named) .none kV_l_named dc_l_named pm_l_named an_l_named cd_l_named ct_l_named), sl_l_named⟩) (c_l_named : PySem.W.codeIn K cd_l_named "_law_named" = true) (k_l_named : PySem.W.keepIn K (.ref f_l_named) = true)
    {f_l_made : Addr} {oc_l_made kV_l_made dc_l_made pm_l_made cd_l_made ct_l_made : Value} {od_l_made an_l_made : Option Addr} {sl_l_made : Array (Option Value)}
    (a_l_made : PySem.W.nsIn K mainGlobals "_law_made" = some (some (.ref f_l_made))) (l_l_made : K.lookup f_l_made = some ⟨oc_l_made, od_l_made, .func (PySem.W.fnOf "_law_made" "_law_made" (defArgs s_l_made) (defBody s_l_made) (defScope s_l_made) .none kV_l_made dc_l_made pm_l_made an_l_made cd_l_made ct_l_made), sl_l_made⟩) (c_l_made : PySem.W.codeIn K cd_l_made "_law_made" = true) (k_l_made : PySem.W.keepIn K (.ref f_l_made) = true)
    {f_l_can : Addr} {oc_l_can kV_l_can dc_l_can pm_l_can cd_l_can ct_l_can : Value} {od_l_can an_l_can : Option Addr} {sl_l_can : Array (Option Value)}
    (a_l_can : PySem.W.nsIn K mainGlobals "_law_can" = some (some (.ref f_l_can))) (l_l_can : K.lookup f_l_can = some ⟨oc_l_can, od_l_can, .func (PySem.W.fnOf "_law_can" "_law_can" (defArgs s_l_can) (defBody s_l_can) (defScope s_l_can) .none kV_l_can dc_l_can pm_l_can an_l_can cd_l_can ct_l_can), sl_l_can⟩) (c_l_can : PySem.W.codeIn K cd_l_can "_law_can" = true) (k_l_can : PySem.W.keepIn K (.ref f_l_can) = true)
    {f_l_do : Addr} {oc_l_do kV_l_do dc_l_do pm_l_do cd_l_do ct_l_do : Value} {od_l_do an_l_do : Option Addr} {sl_l_do : Array (Option Value)}
    (a_l_do : PySem.W.nsIn K mainGlobals "_law_do" = some (some (.ref f_l_do))) (l_l_do : K.lookup f_l_do = some ⟨oc_l_do, od_l_do, .func (PySem.W.fnOf "_law_do" "_law_do" (defArgs s_l_do) (defBody s_l_do) (defScope s_l_do) .none kV_l_do dc_l_do pm_l_do an_l_do cd_l_do ct_l_do), sl_l_do⟩) (c_l_do : PySem.W.codeIn K cd_l_do "_law_do" = true) (k_l_do : PySem.W.keepIn K (.ref f_l_do) = true)
    {f_l_done : Addr} {oc_l_done kV_l_done dc_l_done pm_l_done cd_l_done ct_l_done : Value} {od_l_done an_l_done : Option Addr} {sl_l_done : Array (Option Value)}
    (a_l_done : PySem.W.nsIn K mainGlobals "_law_done" = some (some (.ref f_l_done))) (l_l_done : K.lookup f_l_done = some ⟨oc_l_done, od_l_done, .func (PySem.W.fnOf "_law_done" "_law_done" (defArgs s_l_done) (defBody s_l_done) (defScope s_l_done) .none kV_l_done dc_l_done pm_l_done an_l_done cd_l_done ct_l_done), sl_l_done⟩) (c_l_done : PySem.W.codeIn K cd_l_done "_law_done" = true) (k_l_done : PySem.W.keepIn K (.ref f_l_done) = true)
    {f_l_back : Addr} {oc_l_back kV_l_back dc_l_back pm_l_back cd_l_back ct_l_back : Value} {od_l_back an_l_back : Option Addr} {sl_l_back : Array (Option Value)}
    (a_l_back : PySem.W.nsIn K mainGlobals "_law_back" = some (some (.ref f_l_back))) (l_l_back : K.lookup f_l_back = some ⟨oc_l_back, od_l_back, .func (PySem.W.fnOf "_law_back" "_law_back" (defArgs s_l_back) (defBody s_l_back) (defScope s_l_back) .none kV_l_back dc_l_back pm_l_back an_l_back cd_l_back ct_l_back), sl_l_back⟩) (c_l_back : PySem.W.codeIn K cd_l_back "_law_back" = true) (k_l_back : PySem.W.keepIn K (.ref f_l_back) = true)
    {f_l_worlds : Addr} {oc_l_worlds kV_l_worlds dc_l_worlds pm_l_worlds cd_l_worlds ct_l_worlds : Value} {od_l_worlds an_l_worlds : Option Addr} {sl_l_worlds : Array (Option Value)}
    (a_l_worlds : PySem.W.nsIn K mainGlobals "_law_worlds" = some (some (.ref f_l_worlds))) (l_l_worlds : K.lookup f_l_worlds = some ⟨oc_l_worlds, od_l_worlds, .func (PySem.W.fnOf "_law_worlds" "_law_worlds" (defArgs s_l_worlds) (defBody s_l_worlds) (defScope s_l_worlds) .none kV_l_worlds dc_l_worlds pm_l_worlds an_l_worlds cd_l_worlds ct_l_worlds), sl_l_worlds⟩) (c_l_worlds : PySem.W.codeIn K cd_l_worlds "_law_worlds" = true) (k_l_worlds : PySem.W.keepIn K (.ref f_l_worlds) = true)
    {f_l_backs : Addr} {oc_l_backs kV_l_backs dc_l_backs pm_l_backs cd_l_backs ct_l_backs : Value} {od_l_backs an_l_backs : Option Addr} {sl_l_backs : Array (Option Value)}
    (a_l_backs : PySem.W.nsIn K mainGlobals "_law_backs" = some (some (.ref f_l_backs))) (l_l_backs : K.lookup f_l_backs = some ⟨oc_l_backs, od_l_backs, .func (PySem.W.fnOf "_law_backs" "_law_backs" (defArgs s_l_backs) (defBody s_l_backs) (defScope s_l_backs) .none kV_l_backs dc_l_backs pm_l_backs an_l_backs cd_l_backs ct_l_backs), sl_l_backs⟩) (c_l_backs : PySem.W.codeIn K cd_l_backs "_law_backs" = true) (k_l_backs : PySem.W.keepIn K (.ref f_l_backs) = true)
    {f_l_same : Addr} {oc_l_same kV_l_same dc_l_same pm_l_same cd_l_same ct_l_same : Value} {od_l_same an_l_same : Option Addr} {sl_l_same : Array (Option Value)}
    (a_l_same : PySem.W.nsIn K mainGlobals "_law_same" = some (some (.ref f_l_same))) (l_l_same : K.lookup f_l_same = some ⟨oc_l_same, od_l_same, .func (PySem.W.fnOf "_law_same" "_law_same" (defArgs s_l_same) (defBody s_l_same) (defScope s_l_same) .none kV_l_same dc_l_same pm_l_same an_l_same cd_l_same ct_l_same), sl_l_same⟩) (c_l_same : PySem.W.codeIn K cd_l_same "_law_same" = true) (k_l_same : PySem.W.keepIn K (.ref f_l_same) = true)
    {f_l_right : Addr} {oc_l_right kV_l_right dc_l_right pm_l_right cd_l_right ct_l_right : Value} {od_l_right an_l_right : Option Addr} {sl_l_right : Array (Option Value)}
    (a_l_right : PySem.W.nsIn K mainGlobals "_law_right" = some (some (.ref f_l_right))) (l_l_right : K.lookup f_l_right = some ⟨oc_l_right, od_l_right, .func (PySem.W.fnOf "_law_right" "_law_right" (defArgs s_l_right) (defBody s_l_right) (defScope s_l_right) .none kV_l_right dc_l_right pm_l_right an_l_right cd_l_right ct_l_right), sl_l_right⟩) (c_l_right : PySem.W.codeIn K cd_l_right "_law_right" = true) (k_l_right : PySem.W.keepIn K (.ref f_l_right) = true)
    {f_law : Addr} {oc_law kV_law dc_law pm_law cd_law ct_law : Value} {od_law an_law : Option Addr} {sl_law : Array (Option Value)}
    (a_law : PySem.W.nsIn K mainGlobals "law" = some (some (.ref f_law))) (l_law : K.lookup f_law = some ⟨oc_law, od_law, .func (PySem.W.fnOf "law" "law" (defArgs s_law) (defBody s_law) (defScope s_law) .none kV_law dc_law pm_law an_law cd_law ct_law), sl_law⟩) (c_law : PySem.W.codeIn K cd_law "law" = true) (k_law : PySem.W.keepIn K (.ref f_law) = true)
    (z_all : PySem.W.nsIn K mainGlobals "all" = some none)
    (z_any : PySem.W.nsIn K mainGlobals "any" = some none)
    (z_dict : PySem.W.nsIn K mainGlobals "dict" = some none)
    (z_divmod : PySem.W.nsIn K mainGlobals "divmod" = some none)
    (z_int : PySem.W.nsIn K mainGlobals "int" = some none)
    (z_len : PySem.W.nsIn K mainGlobals "len" = some none)
    (z_list : PySem.W.nsIn K mainGlobals "list" = some none)
    (z_max : PySem.W.nsIn K mainGlobals "max" = some none)
    (z_min : PySem.W.nsIn K mainGlobals "min" = some none)
    (z_range : PySem.W.nsIn K mainGlobals "range" = some none)
    (z_sorted : PySem.W.nsIn K mainGlobals "sorted" = some none)
    {d_FORMS : Addr} {es_FORMS : Array DictEntry} {n_FORMS : Nat} (x_FORMS : PySem.W.nsIn K mainGlobals "FORMS" = some (some (.ref d_FORMS))) (e_FORMS : K.lookup d_FORMS = some ⟨.type "dict", none, .dict es_FORMS n_FORMS, #[]⟩) (t_FORMS : SD.Entries w.params es_FORMS.toList t_FORMS) (b_FORMS : (d_FORMS == sysModules) = false)
    : ∃ fd : FuncData, (∀ (s : Shared) (v : Value), BindsTo s fd ⟨[v], []⟩ [("_law_script", v)]) ∧ ∀ base : Heap, K.In base → base.Ns mainGlobals mg → FnOk l.prog w K mg base (L2.CX l.prog w) 7 fa fd ["_law_script"] (SD.spLawB K) := by
  have e := hfa.symm.trans (PySem.W.mg_of X G a_law)
  cases e
  have GM : Gm K w mg := ⟨PySem.W.mg_none_of X G z_all, PySem.W.mg_none_of X G z_any, PySem.W.mg_none_of X G z_dict, PySem.W.mg_none_of X G z_divmod, PySem.W.mg_none_of X G z_int, PySem.W.mg_none_of X G z_len, PySem.W.mg_none_of X G z_list, PySem.W.mg_none_of X G z_max, PySem.W.mg_none_of X G z_min, PySem.W.mg_none_of X G z_range, PySem.W.mg_none_of X G z_sorted, ⟨_, PySem.W.mg_of X G x_FORMS, ⟨_, _, e_FORMS, t_FORMS⟩, b_FORMS⟩⟩
  have F_names_in := fun_mk (st := s_names_in) l_names_in c_names_in k_names_in
  have F_only_adds := fun_mk (st := s_only_adds) l_only_adds c_only_adds k_only_adds
  have F_only_moves := fun_mk (st := s_only_moves) l_only_moves c_only_moves k_only_moves
  have F_pass_by := fun_mk (st := s_pass_by) l_pass_by c_pass_by k_pass_by
  have F_touch := fun_mk (st := s_touch) l_touch c_touch k_touch
  have F_l_mixed := fun_mk (st := s_l_mixed) l_l_mixed c_l_mixed k_l_mixed
  have F_l_pack := fun_mk (st := s_l_pack) l_l_pack c_l_pack k_l_pack
  have F_l_take := fun_mk (st := s_l_take) l_l_take c_l_take k_l_take
  have F_l_names := fun_mk (st := s_l_names) l_l_names c_l_names k_l_names
  have F_l_any_deed := fun_mk (st := s_l_any_deed) l_l_any_deed c_l_any_deed k_l_any_deed
  have F_l_named := fun_mk (st := s_l_named) l_l_named c_l_named k_l_named
  have F_l_made := fun_mk (st := s_l_made) l_l_made c_l_made k_l_made
  have F_l_can := fun_mk (st := s_l_can) l_l_can c_l_can k_l_can
  have F_l_do := fun_mk (st := s_l_do) l_l_do c_l_do k_l_do
  have F_l_done := fun_mk (st := s_l_done) l_l_done c_l_done k_l_done
  have F_l_back := fun_mk (st := s_l_back) l_l_back c_l_back k_l_back
  have F_l_worlds := fun_mk (st := s_l_worlds) l_l_worlds c_l_worlds k_l_worlds
  have F_l_backs := fun_mk (st := s_l_backs) l_l_backs c_l_backs k_l_backs
  have F_l_same := fun_mk (st := s_l_same) l_l_same c_l_same k_l_same
  have F_l_right := fun_mk (st := s_l_right) l_l_right c_l_right k_l_right
  have F_law := fun_mk (st := s_law) l_law c_law k_law
  refine ⟨PySem.W.fnOf "law" "law" (defArgs s_law) (defBody s_law) (defScope s_law) .none kV_law dc_law pm_law an_law cd_law ct_law, fun s v => .of_eq rfl, fun base _ _ => ?_⟩
  have T_names_in : FnT l.prog w K mg base (fun _ => none) "names_in" 1 1 m_names_in := ⟨⟨_, _, _, ok_names_in GM  F_names_in, PySem.W.mg_of X G a_names_in, k_names_in, F_names_in.binds (ps := ["deed"]) fun _ _ _ _ _ _ us hl => match us, hl with | [_], _ => rfl⟩⟩
  have T_only_adds : FnT l.prog w K mg base (fun _ => none) "only_adds" 2 1 m_only_adds := ⟨⟨_, _, _, ok_only_adds GM  F_only_adds, PySem.W.mg_of X G a_only_adds, k_only_adds, F_only_adds.binds (ps := ["deed", "name"]) fun _ _ _ _ _ _ us hl => match us, hl with | [_, _], _ => rfl⟩⟩
  have T_only_moves : FnT l.prog w K mg base (fun _ => none) "only_moves" 1 1 m_only_moves := ⟨⟨_, _, _, ok_only_moves GM  F_only_moves, PySem.W.mg_of X G a_only_moves, k_only_moves, F_only_moves.binds (ps := ["deed"]) fun _ _ _ _ _ _ us hl => match us, hl with | [_], _ => rfl⟩⟩
  have T_pass_by : FnT l.prog w K mg base (fun _ => none) "pass_by" 3 2 m_pass_by := ⟨⟨_, _, _, ok_pass_by GM T_only_adds T_only_moves F_pass_by, PySem.W.mg_of X G a_pass_by, k_pass_by, F_pass_by.binds (ps := ["one", "other", "name"]) fun _ _ _ _ _ _ us hl => match us, hl with | [_, _, _], _ => rfl⟩⟩
  have T_touch : FnT l.prog w K mg base (fun _ => none) "touch" 2 3 m_touch := ⟨⟨_, _, _, ok_touch GM T_names_in T_pass_by F_touch, PySem.W.mg_of X G a_touch, k_touch, F_touch.binds (ps := ["one", "other"]) fun _ _ _ _ _ _ us hl => match us, hl with | [_, _], _ => rfl⟩⟩
  have T_l_mixed : FnT l.prog w K mg base (fun _ => none) "_law_mixed" 1 1 m_l_mixed_2 := ⟨⟨_, _, _, ok_l_mixed GM  F_l_mixed, PySem.W.mg_of X G a_l_mixed, k_l_mixed, F_l_mixed.binds (ps := ["_law_cell"]) fun _ _ _ _ _ _ us hl => match us, hl with | [_], _ => rfl⟩⟩
  have T_l_pack : FnT l.prog w K mg base (fun _ => none) "_law_pack" 2 2 m_l_pack := ⟨⟨_, _, _, ok_l_pack GM T_l_mixed F_l_pack, PySem.W.mg_of X G a_l_pack, k_l_pack, F_l_pack.binds (ps := ["_law_script", "_law_k"]) fun _ _ _ _ _ _ us hl => match us, hl with | [_, _], _ => rfl⟩⟩
  have T_l_take : FnT l.prog w K mg base (fun _ => none) "_law_take" 2 1 m_l_take := ⟨⟨_, _, _, ok_l_take GM  F_l_take, PySem.W.mg_of X G a_l_take, k_l_take, F_l_take.binds (ps := ["_law_pack_here", "_law_size"]) fun _ _ _ _ _ _ us hl => match us, hl with | [_, _], _ => rfl⟩⟩
  have T_l_names : FnT l.prog w K mg base (fun _ => none) "_law_names" 2 2 m_l_names := ⟨⟨_, _, _, ok_l_names GM T_l_take F_l_names, PySem.W.mg_of X G a_l_names, k_l_names, F_l_names.binds (ps := ["_law_pack_here", "_law_amount"]) fun _ _ _ _ _ _ us hl => match us, hl with | [_, _], _ => rfl⟩⟩
  have T_l_any_deed : FnT l.prog w K mg base (fun _ => none) "_law_any_deed" 2 2 m_l_any_deed := ⟨⟨_, _, _, ok_l_any_deed GM T_l_take F_l_any_deed, PySem.W.mg_of X G a_l_any_deed, k_l_any_deed, F_l_any_deed.binds (ps := ["_law_pack_here", "_law_names_here"]) fun _ _ _ _ _ _ us hl => match us, hl with | [_, _], _ => rfl⟩⟩
  have T_l_named : FnT l.prog w K mg base (fun _ => none) "_law_named" 1 1 m_l_named := ⟨⟨_, _, _, ok_l_named GM  F_l_named, PySem.W.mg_of X G a_l_named, k_l_named, F_l_named.binds (ps := ["_law_deed"]) fun _ _ _ _ _ _ us hl => match us, hl with | [_], _ => rfl⟩⟩
  have T_l_made : FnT l.prog w K mg base (fun _ => none) "_law_made" 1 1 m_l_made := ⟨⟨_, _, _, ok_l_made GM  F_l_made, PySem.W.mg_of X G a_l_made, k_l_made, F_l_made.binds (ps := ["_law_deed"]) fun _ _ _ _ _ _ us hl => match us, hl with | [_], _ => rfl⟩⟩
  have T_l_can : FnT l.prog w K mg base (fun _ => none) "_law_can" 2 2 m_l_can := ⟨⟨_, _, _, ok_l_can GM T_l_named T_l_made F_l_can, PySem.W.mg_of X G a_l_can, k_l_can, F_l_can.binds (ps := ["_law_world", "_law_deed"]) fun _ _ _ _ _ _ us hl => match us, hl with | [_, _], _ => rfl⟩⟩
  have T_l_do : FnT l.prog w K mg base (fun _ => none) "_law_do" 2 3 m_l_do := ⟨⟨_, _, _, ok_l_do GM T_l_can F_l_do, PySem.W.mg_of X G a_l_do, k_l_do, F_l_do.binds (ps := ["_law_world", "_law_deed"]) fun _ _ _ _ _ _ us hl => match us, hl with | [_, _], _ => rfl⟩⟩
  have T_l_done : FnT l.prog w K mg base (fun _ => none) "_law_done" 2 4 m_l_done := ⟨⟨_, _, _, ok_l_done GM T_l_do F_l_done, PySem.W.mg_of X G a_l_done, k_l_done, F_l_done.binds (ps := ["_law_world", "_law_row"]) fun _ _ _ _ _ _ us hl => match us, hl with | [_, _], _ => rfl⟩⟩
  have T_l_back : FnT l.prog w K mg base (fun _ => none) "_law_back" 2 1 m_l_back := ⟨⟨_, _, _, ok_l_back GM  F_l_back, PySem.W.mg_of X G a_l_back, k_l_back, F_l_back.binds (ps := ["_law_world", "_law_deed"]) fun _ _ _ _ _ _ us hl => match us, hl with | [_, _], _ => rfl⟩⟩
  have T_l_worlds : FnT l.prog w K mg base (fun _ => none) "_law_worlds" 1 1 m_l_worlds := ⟨⟨_, _, _, ok_l_worlds GM  F_l_worlds, PySem.W.mg_of X G a_l_worlds, k_l_worlds, F_l_worlds.binds (ps := ["_law_names_here"]) fun _ _ _ _ _ _ us hl => match us, hl with | [_], _ => rfl⟩⟩
  have T_l_backs : FnT l.prog w K mg base (fun _ => none) "_law_backs" 2 4 m_l_backs := ⟨⟨_, _, _, ok_l_backs GM T_l_do T_l_back F_l_backs, PySem.W.mg_of X G a_l_backs, k_l_backs, F_l_backs.binds (ps := ["_law_world", "_law_row"]) fun _ _ _ _ _ _ us hl => match us, hl with | [_, _], _ => rfl⟩⟩
  have T_l_same : FnT l.prog w K mg base (fun _ => none) "_law_same" 3 5 m_l_same := ⟨⟨_, _, _, ok_l_same GM T_l_done T_l_backs F_l_same, PySem.W.mg_of X G a_l_same, k_l_same, F_l_same.binds (ps := ["_law_world", "_law_one", "_law_other"]) fun _ _ _ _ _ _ us hl => match us, hl with | [_, _, _], _ => rfl⟩⟩
  have T_l_right : FnT l.prog w K mg base (fun _ => none) "_law_right" 3 6 m_l_right := ⟨⟨_, _, _, ok_l_right GM T_l_worlds T_touch T_l_same T_l_done F_l_right, PySem.W.mg_of X G a_l_right, k_l_right, F_l_right.binds (ps := ["_law_names_here", "_law_one", "_law_other"]) fun _ _ _ _ _ _ us hl => match us, hl with | [_, _, _], _ => rfl⟩⟩
  exact law_okB (ok_law GM T_l_pack T_l_names T_l_take T_l_right T_l_any_deed F_law) law_true_24
end K
open PySem PySem.W PyProof.Rows
set_option maxRecDepth 100000 in
set_option maxHeartbeats 0 in
theorem PySem.Challenge.cw_struckdeeds_k24_whole_touching_by_worlds_holds : PySem.Challenge.rw_struckdeeds_k24_whole_touching_by_worlds.Holds := by
  w_on; o_law; k_head; (case hw => w_witness2)
  k_fill
  refine SD.walkB (l := PySem.Challenge.rw_struckdeeds_k24_whole_touching_by_worlds) 7 rfl rfl ⟨rfl, by decide, by decide⟩ (fun w h Y => PySem.W.kIn_of Y) ?F
  case F =>
    intro w mg fa h KX G hmg
    refine' K.all_mk KX G hmg ?a_names_in ?l_names_in ?c_names_in ?k_names_in ?a_only_adds ?l_only_adds ?c_only_adds ?k_only_adds ?a_only_moves ?l_only_moves ?c_only_moves ?k_only_moves ?a_pass_by ?l_pass_by ?c_pass_by ?k_pass_by ?a_touch ?l_touch ?c_touch ?k_touch ?a_l_mixed ?l_l_mixed ?c_l_mixed ?k_l_mixed ?a_l_pack ?l_l_pack ?c_l_pack ?k_l_pack ?a_l_take ?l_l_take ?c_l_take ?k_l_take ?a_l_names ?l_l_names ?c_l_names ?k_l_names ?a_l_any_deed ?l_l_any_deed ?c_l_any_deed ?k_l_any_deed ?a_l_named ?l_l_named ?c_l_named ?k_l_named ?a_l_made ?l_l_made ?c_l_made ?k_l_made ?a_l_can ?l_l_can ?c_l_can ?k_l_can ?a_l_do ?l_l_do ?c_l_do ?k_l_do ?a_l_done ?l_l_done ?c_l_done ?k_l_done ?a_l_back ?l_l_back ?c_l_back ?k_l_back ?a_l_worlds ?l_l_worlds ?c_l_worlds ?k_l_worlds ?a_l_backs ?l_l_backs ?c_l_backs ?k_l_backs ?a_l_same ?l_l_same ?c_l_same ?k_l_same ?a_l_right ?l_l_right ?c_l_right ?k_l_right ?a_law ?l_law ?c_law ?k_law ?z_all ?z_any ?z_dict ?z_divmod ?z_int ?z_len ?z_list ?z_max ?z_min ?z_range ?z_sorted ?x_FORMS ?e_FORMS ?t_FORMS ?b_FORMS
    (case a_names_in => k_is)
    (case l_names_in => k_is)
    (case c_names_in => k_is)
    (case k_names_in => k_is)
    (case a_only_adds => k_is)
    (case l_only_adds => k_is)
    (case c_only_adds => k_is)
    (case k_only_adds => k_is)
    (case a_only_moves => k_is)
    (case l_only_moves => k_is)
    (case c_only_moves => k_is)
    (case k_only_moves => k_is)
    (case a_pass_by => k_is)
    (case l_pass_by => k_is)
    (case c_pass_by => k_is)
    (case k_pass_by => k_is)
    (case a_touch => k_is)
    (case l_touch => k_is)
    (case c_touch => k_is)
    (case k_touch => k_is)
    (case a_l_mixed => k_is)
    (case l_l_mixed => k_is)
    (case c_l_mixed => k_is)
    (case k_l_mixed => k_is)
    (case a_l_pack => k_is)
    (case l_l_pack => k_is)
    (case c_l_pack => k_is)
    (case k_l_pack => k_is)
    (case a_l_take => k_is)
    (case l_l_take => k_is)
    (case c_l_take => k_is)
    (case k_l_take => k_is)
    (case a_l_names => k_is)
    (case l_l_names => k_is)
    (case c_l_names => k_is)
    (case k_l_names => k_is)
    (case a_l_any_deed => k_is)
    (case l_l_any_deed => k_is)
    (case c_l_any_deed => k_is)
    (case k_l_any_deed => k_is)
    (case a_l_named => k_is)
    (case l_l_named => k_is)
    (case c_l_named => k_is)
    (case k_l_named => k_is)
    (case a_l_made => k_is)
    (case l_l_made => k_is)
    (case c_l_made => k_is)
    (case k_l_made => k_is)
    (case a_l_can => k_is)
    (case l_l_can => k_is)
    (case c_l_can => k_is)
    (case k_l_can => k_is)
    (case a_l_do => k_is)
    (case l_l_do => k_is)
    (case c_l_do => k_is)
    (case k_l_do => k_is)
    (case a_l_done => k_is)
    (case l_l_done => k_is)
    (case c_l_done => k_is)
    (case k_l_done => k_is)
    (case a_l_back => k_is)
    (case l_l_back => k_is)
    (case c_l_back => k_is)
    (case k_l_back => k_is)
    (case a_l_worlds => k_is)
    (case l_l_worlds => k_is)
    (case c_l_worlds => k_is)
    (case k_l_worlds => k_is)
    (case a_l_backs => k_is)
    (case l_l_backs => k_is)
    (case c_l_backs => k_is)
    (case k_l_backs => k_is)
    (case a_l_same => k_is)
    (case l_l_same => k_is)
    (case c_l_same => k_is)
    (case k_l_same => k_is)
    (case a_l_right => k_is)
    (case l_l_right => k_is)
    (case c_l_right => k_is)
    (case k_l_right => k_is)
    (case a_law => k_is)
    (case l_law => k_is)
    (case c_law => k_is)
    (case k_law => k_is)
    (case z_all => k_is)
    (case z_any => k_is)
    (case z_dict => k_is)
    (case z_divmod => k_is)
    (case z_int => k_is)
    (case z_len => k_is)
    (case z_list => k_is)
    (case z_max => k_is)
    (case z_min => k_is)
    (case z_range => k_is)
    (case z_sorted => k_is)
    (case x_FORMS => k_is)
    (case e_FORMS => k_is)
    (case t_FORMS => exact ⟨⟨_, rfl⟩, rfl, ⟨_, rfl⟩, ⟨⟨_, rfl⟩, rfl, ⟨_, rfl⟩, ⟨⟨_, rfl⟩, rfl, ⟨_, rfl⟩, ⟨⟨_, rfl⟩, rfl, ⟨_, rfl⟩, ⟨⟨_, rfl⟩, rfl, ⟨_, rfl⟩, ⟨⟨_, rfl⟩, rfl, ⟨_, rfl⟩, ⟨⟨_, rfl⟩, rfl, ⟨_, rfl⟩, trivial⟩⟩⟩⟩⟩⟩⟩)
    (case b_FORMS => rfl)
