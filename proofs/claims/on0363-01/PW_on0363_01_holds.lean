import PyProof.Rows.All
import Wide.All
import OpenK.AllK
import Wide.FinOn
import Lean
import PySem.Challenge.RW_on0363_01
set_option Elab.async false
set_option linter.all false
set_option bootstrap.genMatcherCode false

set_option maxRecDepth 100000
namespace Mine
open PySem PySem.W PySem.Calls PyProof.Rows PySem.Spec

/-! small terms: many existentials, many conjuncts at once -/
theorem xi2 {T1 T2 : Type} {P : T1 → T2 → Prop} (x1 : T1) (x2 : T2) (h : P x1 x2) : ∃ x1 x2, P x1 x2 := ⟨x1, x2, h⟩
theorem xi3 {T1 T2 T3 : Type} {P : T1 → T2 → T3 → Prop} (x1 : T1) (x2 : T2) (x3 : T3) (h : P x1 x2 x3) : ∃ x1 x2 x3, P x1 x2 x3 := ⟨x1, xi2 x2 x3 h⟩
theorem xi4 {T1 T2 T3 T4 : Type} {P : T1 → T2 → T3 → T4 → Prop} (x1 : T1) (x2 : T2) (x3 : T3) (x4 : T4) (h : P x1 x2 x3 x4) : ∃ x1 x2 x3 x4, P x1 x2 x3 x4 := ⟨x1, xi3 x2 x3 x4 h⟩
theorem xi5 {T1 T2 T3 T4 T5 : Type} {P : T1 → T2 → T3 → T4 → T5 → Prop} (x1 : T1) (x2 : T2) (x3 : T3) (x4 : T4) (x5 : T5) (h : P x1 x2 x3 x4 x5) : ∃ x1 x2 x3 x4 x5, P x1 x2 x3 x4 x5 := ⟨x1, xi4 x2 x3 x4 x5 h⟩
theorem xi6 {T1 T2 T3 T4 T5 T6 : Type} {P : T1 → T2 → T3 → T4 → T5 → T6 → Prop} (x1 : T1) (x2 : T2) (x3 : T3) (x4 : T4) (x5 : T5) (x6 : T6) (h : P x1 x2 x3 x4 x5 x6) : ∃ x1 x2 x3 x4 x5 x6, P x1 x2 x3 x4 x5 x6 := ⟨x1, xi5 x2 x3 x4 x5 x6 h⟩
theorem xi7 {T1 T2 T3 T4 T5 T6 T7 : Type} {P : T1 → T2 → T3 → T4 → T5 → T6 → T7 → Prop} (x1 : T1) (x2 : T2) (x3 : T3) (x4 : T4) (x5 : T5) (x6 : T6) (x7 : T7) (h : P x1 x2 x3 x4 x5 x6 x7) : ∃ x1 x2 x3 x4 x5 x6 x7, P x1 x2 x3 x4 x5 x6 x7 := ⟨x1, xi6 x2 x3 x4 x5 x6 x7 h⟩
theorem xi8 {T1 T2 T3 T4 T5 T6 T7 T8 : Type} {P : T1 → T2 → T3 → T4 → T5 → T6 → T7 → T8 → Prop} (x1 : T1) (x2 : T2) (x3 : T3) (x4 : T4) (x5 : T5) (x6 : T6) (x7 : T7) (x8 : T8) (h : P x1 x2 x3 x4 x5 x6 x7 x8) : ∃ x1 x2 x3 x4 x5 x6 x7 x8, P x1 x2 x3 x4 x5 x6 x7 x8 := ⟨x1, xi7 x2 x3 x4 x5 x6 x7 x8 h⟩
theorem xi9 {T1 T2 T3 T4 T5 T6 T7 T8 T9 : Type} {P : T1 → T2 → T3 → T4 → T5 → T6 → T7 → T8 → T9 → Prop} (x1 : T1) (x2 : T2) (x3 : T3) (x4 : T4) (x5 : T5) (x6 : T6) (x7 : T7) (x8 : T8) (x9 : T9) (h : P x1 x2 x3 x4 x5 x6 x7 x8 x9) : ∃ x1 x2 x3 x4 x5 x6 x7 x8 x9, P x1 x2 x3 x4 x5 x6 x7 x8 x9 := ⟨x1, xi8 x2 x3 x4 x5 x6 x7 x8 x9 h⟩
theorem xi10 {T1 T2 T3 T4 T5 T6 T7 T8 T9 T10 : Type} {P : T1 → T2 → T3 → T4 → T5 → T6 → T7 → T8 → T9 → T10 → Prop} (x1 : T1) (x2 : T2) (x3 : T3) (x4 : T4) (x5 : T5) (x6 : T6) (x7 : T7) (x8 : T8) (x9 : T9) (x10 : T10) (h : P x1 x2 x3 x4 x5 x6 x7 x8 x9 x10) : ∃ x1 x2 x3 x4 x5 x6 x7 x8 x9 x10, P x1 x2 x3 x4 x5 x6 x7 x8 x9 x10 := ⟨x1, xi9 x2 x3 x4 x5 x6 x7 x8 x9 x10 h⟩
theorem xi11 {T1 T2 T3 T4 T5 T6 T7 T8 T9 T10 T11 : Type} {P : T1 → T2 → T3 → T4 → T5 → T6 → T7 → T8 → T9 → T10 → T11 → Prop} (x1 : T1) (x2 : T2) (x3 : T3) (x4 : T4) (x5 : T5) (x6 : T6) (x7 : T7) (x8 : T8) (x9 : T9) (x10 : T10) (x11 : T11) (h : P x1 x2 x3 x4 x5 x6 x7 x8 x9 x10 x11) : ∃ x1 x2 x3 x4 x5 x6 x7 x8 x9 x10 x11, P x1 x2 x3 x4 x5 x6 x7 x8 x9 x10 x11 := ⟨x1, xi10 x2 x3 x4 x5 x6 x7 x8 x9 x10 x11 h⟩
theorem xi12 {T1 T2 T3 T4 T5 T6 T7 T8 T9 T10 T11 T12 : Type} {P : T1 → T2 → T3 → T4 → T5 → T6 → T7 → T8 → T9 → T10 → T11 → T12 → Prop} (x1 : T1) (x2 : T2) (x3 : T3) (x4 : T4) (x5 : T5) (x6 : T6) (x7 : T7) (x8 : T8) (x9 : T9) (x10 : T10) (x11 : T11) (x12 : T12) (h : P x1 x2 x3 x4 x5 x6 x7 x8 x9 x10 x11 x12) : ∃ x1 x2 x3 x4 x5 x6 x7 x8 x9 x10 x11 x12, P x1 x2 x3 x4 x5 x6 x7 x8 x9 x10 x11 x12 := ⟨x1, xi11 x2 x3 x4 x5 x6 x7 x8 x9 x10 x11 x12 h⟩
theorem xe2 {T1 T2 : Type} {P : T1 → T2 → Prop} {X : Prop} (h : ∃ x1 x2, P x1 x2) (k : ∀ x1 x2, P x1 x2 → X) : X := h.elim fun x1 h => h.elim (k x1)
theorem xe3 {T1 T2 T3 : Type} {P : T1 → T2 → T3 → Prop} {X : Prop} (h : ∃ x1 x2 x3, P x1 x2 x3) (k : ∀ x1 x2 x3, P x1 x2 x3 → X) : X := h.elim fun x1 h => xe2 h (k x1)
theorem xe4 {T1 T2 T3 T4 : Type} {P : T1 → T2 → T3 → T4 → Prop} {X : Prop} (h : ∃ x1 x2 x3 x4, P x1 x2 x3 x4) (k : ∀ x1 x2 x3 x4, P x1 x2 x3 x4 → X) : X := h.elim fun x1 h => xe3 h (k x1)
theorem xe5 {T1 T2 T3 T4 T5 : Type} {P : T1 → T2 → T3 → T4 → T5 → Prop} {X : Prop} (h : ∃ x1 x2 x3 x4 x5, P x1 x2 x3 x4 x5) (k : ∀ x1 x2 x3 x4 x5, P x1 x2 x3 x4 x5 → X) : X := h.elim fun x1 h => xe4 h (k x1)
theorem xe6 {T1 T2 T3 T4 T5 T6 : Type} {P : T1 → T2 → T3 → T4 → T5 → T6 → Prop} {X : Prop} (h : ∃ x1 x2 x3 x4 x5 x6, P x1 x2 x3 x4 x5 x6) (k : ∀ x1 x2 x3 x4 x5 x6, P x1 x2 x3 x4 x5 x6 → X) : X := h.elim fun x1 h => xe5 h (k x1)
theorem xe7 {T1 T2 T3 T4 T5 T6 T7 : Type} {P : T1 → T2 → T3 → T4 → T5 → T6 → T7 → Prop} {X : Prop} (h : ∃ x1 x2 x3 x4 x5 x6 x7, P x1 x2 x3 x4 x5 x6 x7) (k : ∀ x1 x2 x3 x4 x5 x6 x7, P x1 x2 x3 x4 x5 x6 x7 → X) : X := h.elim fun x1 h => xe6 h (k x1)
theorem xe8 {T1 T2 T3 T4 T5 T6 T7 T8 : Type} {P : T1 → T2 → T3 → T4 → T5 → T6 → T7 → T8 → Prop} {X : Prop} (h : ∃ x1 x2 x3 x4 x5 x6 x7 x8, P x1 x2 x3 x4 x5 x6 x7 x8) (k : ∀ x1 x2 x3 x4 x5 x6 x7 x8, P x1 x2 x3 x4 x5 x6 x7 x8 → X) : X := h.elim fun x1 h => xe7 h (k x1)
theorem xe9 {T1 T2 T3 T4 T5 T6 T7 T8 T9 : Type} {P : T1 → T2 → T3 → T4 → T5 → T6 → T7 → T8 → T9 → Prop} {X : Prop} (h : ∃ x1 x2 x3 x4 x5 x6 x7 x8 x9, P x1 x2 x3 x4 x5 x6 x7 x8 x9) (k : ∀ x1 x2 x3 x4 x5 x6 x7 x8 x9, P x1 x2 x3 x4 x5 x6 x7 x8 x9 → X) : X := h.elim fun x1 h => xe8 h (k x1)
theorem ae2 {A1 A2 X : Prop} (h : A1 ∧ A2) (k : A1 → A2 → X) : X := k h.1 h.2
theorem ae3 {A1 A2 A3 X : Prop} (h : A1 ∧ A2 ∧ A3) (k : A1 → A2 → A3 → X) : X := ae2 h.2 (k h.1)
theorem ae4 {A1 A2 A3 A4 X : Prop} (h : A1 ∧ A2 ∧ A3 ∧ A4) (k : A1 → A2 → A3 → A4 → X) : X := ae3 h.2 (k h.1)
theorem ae5 {A1 A2 A3 A4 A5 X : Prop} (h : A1 ∧ A2 ∧ A3 ∧ A4 ∧ A5) (k : A1 → A2 → A3 → A4 → A5 → X) : X := ae4 h.2 (k h.1)
theorem ae6 {A1 A2 A3 A4 A5 A6 X : Prop} (h : A1 ∧ A2 ∧ A3 ∧ A4 ∧ A5 ∧ A6) (k : A1 → A2 → A3 → A4 → A5 → A6 → X) : X := ae5 h.2 (k h.1)
theorem ae7 {A1 A2 A3 A4 A5 A6 A7 X : Prop} (h : A1 ∧ A2 ∧ A3 ∧ A4 ∧ A5 ∧ A6 ∧ A7) (k : A1 → A2 → A3 → A4 → A5 → A6 → A7 → X) : X := ae6 h.2 (k h.1)
theorem ae8 {A1 A2 A3 A4 A5 A6 A7 A8 X : Prop} (h : A1 ∧ A2 ∧ A3 ∧ A4 ∧ A5 ∧ A6 ∧ A7 ∧ A8) (k : A1 → A2 → A3 → A4 → A5 → A6 → A7 → A8 → X) : X := ae7 h.2 (k h.1)
theorem pe2 {T1 T2 : Type} {P : T1 × T2 → Prop} (h : ∀ x1 x2, P (x1, x2)) : ∀ x, P x := fun x => h x.1 x.2
theorem pe3 {T1 T2 T3 : Type} {P : T1 × T2 × T3 → Prop} (h : ∀ x1 x2 x3, P (x1, x2, x3)) : ∀ x, P x := fun x => h x.1 x.2.1 x.2.2
theorem pe4 {T1 T2 T3 T4 : Type} {P : T1 × T2 × T3 × T4 → Prop} (h : ∀ x1 x2 x3 x4, P (x1, x2, x3, x4)) : ∀ x, P x := fun x => h x.1 x.2.1 x.2.2.1 x.2.2.2
theorem pe5 {T1 T2 T3 T4 T5 : Type} {P : T1 × T2 × T3 × T4 × T5 → Prop} (h : ∀ x1 x2 x3 x4 x5, P (x1, x2, x3, x4, x5)) : ∀ x, P x := fun x => h x.1 x.2.1 x.2.2.1 x.2.2.2.1 x.2.2.2.2
theorem pe6 {T1 T2 T3 T4 T5 T6 : Type} {P : T1 × T2 × T3 × T4 × T5 × T6 → Prop} (h : ∀ x1 x2 x3 x4 x5 x6, P (x1, x2, x3, x4, x5, x6)) : ∀ x, P x := fun x => h x.1 x.2.1 x.2.2.1 x.2.2.2.1 x.2.2.2.2.1 x.2.2.2.2.2
theorem pe7 {T1 T2 T3 T4 T5 T6 T7 : Type} {P : T1 × T2 × T3 × T4 × T5 × T6 × T7 → Prop} (h : ∀ x1 x2 x3 x4 x5 x6 x7, P (x1, x2, x3, x4, x5, x6, x7)) : ∀ x, P x := fun x => h x.1 x.2.1 x.2.2.1 x.2.2.2.1 x.2.2.2.2.1 x.2.2.2.2.2.1 x.2.2.2.2.2.2

inductive LnS {α : Type} (l : List α) (n : Nat) : Prop
  | mk (a : α) (t : List α) (e : l = a :: t) (h : t.length = n) : LnS l n
theorem lnS {α : Type} {l : List α} {n : Nat} (h : l.length = n + 1) : LnS l n := by
  cases l with
  | nil => cases h
  | cons a t => exact ⟨a, t, rfl, Nat.succ.inj h⟩
theorem ln0 {α : Type} {l : List α} (h : l.length = 0) : l = [] := List.eq_nil_of_length_eq_zero h
theorem xd4 {T1 T2 T3 T4 : Type} {A B C D : T1 → T2 → T3 → T4 → Prop} (x1 : T1) (x2 : T2) (x3 : T3) (x4 : T4) (h1 : A x1 x2 x3 x4) (h2 : B x1 x2 x3 x4) (h3 : C x1 x2 x3 x4) (h4 : D x1 x2 x3 x4) : ∃ x1 x2 x3 x4, A x1 x2 x3 x4 ∧ B x1 x2 x3 x4 ∧ C x1 x2 x3 x4 ∧ D x1 x2 x3 x4 := xi4 x1 x2 x3 x4 ⟨h1, h2, h3, h4⟩
theorem xd5 {T1 T2 T3 T4 T5 : Type} {A B C D : T1 → T2 → T3 → T4 → T5 → Prop} (x1 : T1) (x2 : T2) (x3 : T3) (x4 : T4) (x5 : T5) (h1 : A x1 x2 x3 x4 x5) (h2 : B x1 x2 x3 x4 x5) (h3 : C x1 x2 x3 x4 x5) (h4 : D x1 x2 x3 x4 x5) : ∃ x1 x2 x3 x4 x5, A x1 x2 x3 x4 x5 ∧ B x1 x2 x3 x4 x5 ∧ C x1 x2 x3 x4 x5 ∧ D x1 x2 x3 x4 x5 := xi5 x1 x2 x3 x4 x5 ⟨h1, h2, h3, h4⟩
theorem xd12 {T1 T2 T3 T4 T5 T6 T7 T8 T9 T10 T11 T12 : Type} {A B C D : T1 → T2 → T3 → T4 → T5 → T6 → T7 → T8 → T9 → T10 → T11 → T12 → Prop} (x1 : T1) (x2 : T2) (x3 : T3) (x4 : T4) (x5 : T5) (x6 : T6) (x7 : T7) (x8 : T8) (x9 : T9) (x10 : T10) (x11 : T11) (x12 : T12) (h1 : A x1 x2 x3 x4 x5 x6 x7 x8 x9 x10 x11 x12) (h2 : B x1 x2 x3 x4 x5 x6 x7 x8 x9 x10 x11 x12) (h3 : C x1 x2 x3 x4 x5 x6 x7 x8 x9 x10 x11 x12) (h4 : D x1 x2 x3 x4 x5 x6 x7 x8 x9 x10 x11 x12) : ∃ x1 x2 x3 x4 x5 x6 x7 x8 x9 x10 x11 x12, A x1 x2 x3 x4 x5 x6 x7 x8 x9 x10 x11 x12 ∧ B x1 x2 x3 x4 x5 x6 x7 x8 x9 x10 x11 x12 ∧ C x1 x2 x3 x4 x5 x6 x7 x8 x9 x10 x11 x12 ∧ D x1 x2 x3 x4 x5 x6 x7 x8 x9 x10 x11 x12 := xi12 x1 x2 x3 x4 x5 x6 x7 x8 x9 x10 x11 x12 ⟨h1, h2, h3, h4⟩
theorem hide {G : Prop} (h : ∀ X : Prop, (G → X) → X) : G := h G id
theorem xa {T : Type} {A B : T → Prop} (x : T) (h1 : A x) (h2 : B x) : ∃ x, A x ∧ B x := ⟨x, h1, h2⟩
theorem xae {T : Type} {A B : T → Prop} {X : Prop} (h : ∃ x, A x ∧ B x) (k : ∀ x, A x → B x → X) : X := h.elim fun x h => k x h.1 h.2

/-! abstract values, ledger, state -/
inductive Bi where
  | len | sorted | max | range | list | tuple | int | bool | zip
noncomputable def Bi.val : Bi → Value
  | .len => .builtin "len"
  | .sorted => .builtin "sorted"
  | .max => .builtin "max"
  | .range => .type "range"
  | .list => .type "list"
  | .tuple => .type "tuple"
  | .int => .type "int"
  | .bool => .type "bool"
  | .zip => .type "zip"

inductive V where
  | d (x : PyData)
  | loc (own : Bool) (i : Nat) (a : Addr)
  | inst (own : Bool) (i : Nat) (C dx : Addr)
  | cset (b : List Int)
  | cstr (b : List Int) (ss : List (List Int))
  | fn (a : Addr)
  | bi (b : Bi)

inductive AO where
  | list (xs : List PyData)
  | dict (fs : List (Str × V))
  | idict (fs : List (Str × V))
  | gone

structure G where
  own : List (Addr × AO)
  out : List (Addr × AO)

noncomputable abbrev Mp := List (Str × Bool × Option V)

noncomputable def pTup (l : List Int) : PyData := .tuple (l.map .int)
noncomputable def pInts (l : List Int) : PyData := .list (l.map .int)
noncomputable def pStrs (ss : List (List Int)) : PyData := .list (ss.map pTup)

noncomputable def Rd (h : Heap) (v : Value) (x : PyData) : Prop := ∃ as, Reads h v x as
noncomputable def RdAll (h : Heap) (vs : List Value) (xs : List PyData) : Prop := ∃ as, ReadsAll h vs xs as

theorem Rd.keeps {h h' : Heap} (k : h.StaysIn h') {v x} (r : Rd h v x) : Rd h' v x := let ⟨as, r⟩ := r; ⟨as, Reads.keeps k r⟩
theorem RdAll.keeps {h h' : Heap} (k : h.StaysIn h') {v x} (r : RdAll h v x) : RdAll h' v x := let ⟨as, r⟩ := r; ⟨as, ReadsAll.keeps k r⟩

noncomputable abbrev cCS : Addr := 150
noncomputable abbrev cCStr : Addr := 185
noncomputable abbrev cSof : Addr := 244

noncomputable abbrev ent (P : Params) (name : Str) (t : Tok) (u : Value) : DictEntry := ⟨PyData.keyHash P name, .str name t, u⟩

inductive IsCS (P : Params) (h : Heap) (v : Value) (b : List Int) : Prop
  | mk (x dx : Addr) (n : Nat) (t : Tok) (u : Value) (e : v = .ref x) (h1 : h.get? x = some (instObj cCS dx)) (h2 : h.get? dx = some (dictOf [ent P "bounds" t u] n)) (r : Rd h u (pInts b)) : IsCS P h v b
inductive IsCStr (P : Params) (h : Heap) (v : Value) (b : List Int) (ss : List (List Int)) : Prop
  | mk (x dx : Addr) (n : Nat) (t₁ : Tok) (u₁ : Value) (t₂ : Tok) (u₂ : Value) (e : v = .ref x) (h1 : h.get? x = some (instObj cCStr dx)) (h2 : h.get? dx = some (dictOf [ent P "codes" t₁ u₁, ent P "strings" t₂ u₂] n))
      (r₁ : IsCS P h u₁ b) (r₂ : Rd h u₂ (pStrs ss)) : IsCStr P h v b ss

theorem IsCS.keeps {P : Params} {h h' : Heap} (k : h.StaysIn h') {v b} (r : IsCS P h v b) : IsCS P h' v b := by
  obtain ⟨x, dx, n, t, u, rfl, a, b, c⟩ := r
  exact ⟨x, dx, n, t, u, rfl, k _ _ a, k _ _ b, c.keeps k⟩
theorem IsCStr.keeps {P : Params} {h h' : Heap} (k : h.StaysIn h') {v b ss} (r : IsCStr P h v b ss) : IsCStr P h' v b ss := by
  obtain ⟨x, dx, n, t, u, t2, u2, rfl, a, b, c, d⟩ := r
  exact ⟨x, dx, n, t, u, t2, u2, rfl, k _ _ a, k _ _ b, c.keeps k, d.keeps k⟩

noncomputable def RepV (P : Params) (h : Heap) (v : Value) : V → Prop
  | .d x => Rd h v x
  | .loc _ _ a => v = .ref a
  | .inst _ _ C dx => ∃ x, v = .ref x ∧ h.get? x = some (instObj C dx)
  | .cset b => IsCS P h v b
  | .cstr b ss => IsCStr P h v b ss
  | .fn a => v = .ref a
  | .bi b => v = b.val

theorem RepV.keeps {P : Params} {h h' : Heap} (k : h.StaysIn h') {v : Value} : ∀ {d : V}, RepV P h v d → RepV P h' v d
  | .d _, r => Rd.keeps k r
  | .loc .., r => r
  | .inst .., ⟨x, e, a⟩ => ⟨x, e, k _ _ a⟩
  | .cset _, r => IsCS.keeps k r
  | .cstr .., r => IsCStr.keeps k r
  | .fn _, r => r
  | .bi _, r => r

inductive Reps (P : Params) (h : Heap) : List Value → List V → Prop
  | nil : Reps P h [] []
  | cons {v vs d ds} : RepV P h v d → Reps P h vs ds → Reps P h (v :: vs) (d :: ds)
theorem Reps.keeps {P : Params} {h h' : Heap} (k : h.StaysIn h') {vs : List Value} {ds : List V} (r : Reps P h vs ds) : Reps P h' vs ds := by
  induction r with
  | nil => exact .nil
  | cons a _ ih => exact .cons (a.keeps k) ih

inductive Ents (P : Params) (h : Heap) : List DictEntry → List (Str × V) → Prop
  | nil : Ents P h [] []
  | cons {name t u d es fs} : RepV P h u d → Ents P h es fs → Ents P h (ent P name t u :: es) ((name, d) :: fs)
theorem Ents.keeps {P : Params} {h h' : Heap} (k : h.StaysIn h') {vs : List DictEntry} {ds : List (Str × V)} (r : Ents P h vs ds) : Ents P h' vs ds := by
  induction r with
  | nil => exact .nil
  | cons a _ ih => exact .cons (a.keeps k) ih

inductive KvR (P : Params) (h : Heap) : List (Str × Value) → List (Str × V) → Prop
  | nil : KvR P h [] []
  | cons {name u d es fs} : RepV P h u d → KvR P h es fs → KvR P h ((name, u) :: es) ((name, d) :: fs)
theorem KvR.keeps {P : Params} {h h' : Heap} (k : h.StaysIn h') {vs : List (Str × Value)} {ds : List (Str × V)} (r : KvR P h vs ds) : KvR P h' vs ds := by
  induction r with
  | nil => exact .nil
  | cons a _ ih => exact .cons (a.keeps k) ih

structure Cx where
  prog : Program
  w : World
  h₀ : Heap
  s₀ : Shared

/-- what the heap `h` holds at a ledger address; `z` is the frozen part -/
noncomputable def AOIs (c : Cx) (z h : Heap) (a : Addr) : AO → Prop
  | .list xs => ∃ vs n, h.get? a = some { cls := .type "list", data := .seq vs n } ∧ RdAll z vs.toList xs
  | .dict fs => ∃ kvs, h.DictOf (strKind c.prog c.w) a kvs ∧ KvR c.w.params z kvs fs
  | .idict fs => ∃ es n, h.get? a = some (dictOf es n) ∧ Ents c.w.params z es fs
  | .gone => True

noncomputable def AO.live : AO → Bool
  | .gone => false
  | _ => true
noncomputable def lv (l : List (Addr × AO)) : List Addr := (l.filter (·.2.live)).map (·.1)

noncomputable abbrev fz (h : Heap) (l : List Addr) : Heap := hideAll h l
theorem fz_get {h : Heap} {l : List Addr} {b : Addr} {o : Obj} : (fz h l).get? b = some o ↔ h.get? b = some o ∧ b ∉ l := by
  constructor
  · intro e
    refine ⟨of_hideAll l e, fun m => ?_⟩
    rw [hideAll_none l m] at e; cases e
  · rintro ⟨e, n⟩; exact hideAll_get l e n
theorem fz_in {h : Heap} {l : List Addr} : (fz h l).StaysIn h := fun _ _ e => (fz_get.mp e).1
theorem fz_stays {h h' : Heap} {l l' : List Addr} (k : ∀ b o, b ∉ l → h.get? b = some o → h'.get? b = some o ∧ b ∉ l') : (fz h l).StaysIn (fz h' l') :=
  fun b o e => fz_get.mpr (k b o (fz_get.mp e).2 (fz_get.mp e).1)

structure Fm where
  env : Env
  A : Around

noncomputable abbrev Prt := List (Addr × Obj)

noncomputable def muts (f : Fm) (P : Prt) (g : G) : List Addr := P.map (·.1) ++ (lv g.own ++ (lv g.out ++ (f.env.locals :: f.env.cells.map (·.2))))

noncomputable def CellIs (P : Params) (z h : Heap) (cells : List (Str × Addr)) (x : Str) (ov : Option V) : Prop :=
  ∃ c ou, cells.lookup x = some c ∧ h.IsCell c ou ∧ ∀ d, ov = some d → ∃ u, ou = some u ∧ RepV P z u d

structure FrIs (P : Params) (z h : Heap) (env : Env) (m : Mp) : Prop where
  fn : env.scope.kind = .function
  glob : env.globals = mainGlobals
  blt : env.builtins = builtinsNs
  ns : ∃ mm, h.Ns env.locals mm ∧ ∀ x ov, (x, false, ov) ∈ m → env.kindOf x = some .local ∧ ∀ d, ov = some d → ∃ u, mm x = some u ∧ RepV P z u d
  cells : ∀ x ov, (x, true, ov) ∈ m → env.kindOf x = some .cell ∧ CellIs P z h env.cells x ov

noncomputable def SameRest (s s' : Shared) : Prop := s'.gens = s.gens ∧ s'.drawn = s.drawn ∧ s'.os = s.os

structure Sat (c : Cx) (f : Fm) (P : Prt) (m : Mp) (g : G) (ds : List V) (vs : List Value) (s : Shared) : Prop where
  base : c.h₀.StaysIn (fz s.heap (muts f P g))
  prot : ∀ p ∈ P, s.heap.get? p.1 = some p.2
  own : ∀ p ∈ g.own, AOIs c (fz s.heap (muts f P g)) s.heap p.1 p.2
  out : ∀ p ∈ g.out, AOIs c (fz s.heap (muts f P g)) s.heap p.1 p.2
  frame : FrIs c.w.params (fz s.heap (muts f P g)) s.heap f.env m
  nodup : (muts f P g).Nodup
  stack : Reps c.w.params (fz s.heap (muts f P g)) vs ds
  rest : SameRest c.s₀ s
  live : ∀ a ∈ muts f P g, ∃ o, s.heap.get? a = some o

/-! moves -/
theorem AOIs.move {c : Cx} {z z' h h' : Heap} {a : Addr} {ao : AO} (k : z.StaysIn z') (e : ∀ o, h.get? a = some o → h'.get? a = some o) (x : AOIs c z h a ao) : AOIs c z' h' a ao := by
  cases ao with
  | list xs => obtain ⟨vs, n, h1, h2⟩ := x; exact ⟨vs, n, e _ h1, h2.keeps k⟩
  | dict fs => obtain ⟨kvs, h1, h2⟩ := x; exact ⟨kvs, h1.at e, h2.keeps k⟩
  | idict fs => obtain ⟨es, n, h1, h2⟩ := x; exact ⟨es, n, e _ h1, h2.keeps k⟩
  | gone => trivial
theorem CellIs.move {P : Params} {z z' h h' : Heap} {cells : List (Str × Addr)} {x : Str} {ov : Option V} (k : z.StaysIn z') (e : ∀ c o, cells.lookup x = some c → h.get? c = some o → h'.get? c = some o) (q : CellIs P z h cells x ov) :
    CellIs P z' h' cells x ov := by
  obtain ⟨c, ou, h1, ⟨o, h2, h2'⟩, h3⟩ := q
  exact ⟨c, ou, h1, ⟨o, e _ _ h1 h2, h2'⟩, fun d hd => let ⟨u, a, b⟩ := h3 d hd; ⟨u, a, b.keeps k⟩⟩
theorem FrIs.move {P : Params} {z z' h h' : Heap} {env : Env} {m : Mp} (k : z.StaysIn z') (e : ∀ o, h.get? env.locals = some o → h'.get? env.locals = some o)
    (e' : ∀ x c o, env.cells.lookup x = some c → h.get? c = some o → h'.get? c = some o) (q : FrIs P z h env m) : FrIs P z' h' env m where
  fn := q.fn
  glob := q.glob
  blt := q.blt
  ns := let ⟨mm, a, b⟩ := q.ns; ⟨mm, a.at' e, fun x ov hm => ⟨(b x ov hm).1, fun d hd => let ⟨u, y, z⟩ := (b x ov hm).2 d hd; ⟨u, y, z.keeps k⟩⟩⟩
  cells := fun x ov hm => ⟨(q.cells x ov hm).1, (q.cells x ov hm).2.move k (e' x)⟩

theorem FrIs.move' {P : Params} {z z' h h' : Heap} {env : Env} {m : Mp} (k : z.StaysIn z') (e : ∀ mm, h.Ns env.locals mm → h'.Ns env.locals mm)
    (e' : ∀ x c o, env.cells.lookup x = some c → h.get? c = some o → h'.get? c = some o) (q : FrIs P z h env m) : FrIs P z' h' env m where
  fn := q.fn
  glob := q.glob
  blt := q.blt
  ns := let ⟨mm, a, b⟩ := q.ns; ⟨mm, e _ a, fun x ov hm => ⟨(b x ov hm).1, fun d hd => let ⟨u, y, z⟩ := (b x ov hm).2 d hd; ⟨u, y, z.keeps k⟩⟩⟩
  cells := fun x ov hm => ⟨(q.cells x ov hm).1, (q.cells x ov hm).2.move k (e' x)⟩

theorem mem_lookup {c : Addr} {x : Str} : ∀ {l : List (Str × Addr)}, l.lookup x = some c → c ∈ l.map (·.2)
  | [], h => by cases h
  | (y, d) :: r, h => by
    rw [List.lookup_cons] at h
    split at h
    · cases h; exact .head _
    · exact .tail _ (mem_lookup h)

section
variable {c : Cx} {f : Fm} {P : Prt} {m : Mp} {g : G} {ds : List V} {vs : List Value} {s : Shared}

theorem Sat.frozen (S : Sat c f P m g ds vs s) : c.h₀.StaysIn s.heap := fun b o e => fz_in b o (S.base b o e)

/-- the heap only grows (or other things than what stands change nothing) -/
theorem Sat.grow (S : Sat c f P m g ds vs s) {h' : Heap} {tk : Tok} (k : ∀ b o, s.heap.get? b = some o → h'.get? b = some o) : Sat c f P m g ds vs { s with heap := h', toks := tk } := by
  have z : (fz s.heap (muts f P g)).StaysIn (fz h' (muts f P g)) := fz_stays fun b o n e => ⟨k b o e, n⟩
  exact ⟨fun b o e => z b o (S.base b o e), fun p hp => k _ _ (S.prot p hp), fun p hp => (S.own p hp).move z fun o e => k _ o e, fun p hp => (S.out p hp).move z fun o e => k _ o e,
    S.frame.move z (fun o e => k _ o e) (fun _ _ o _ e => k _ o e), S.nodup, S.stack.keeps z, S.rest, fun a ha => (S.live a ha).imp fun o e => k _ o e⟩
theorem Sat.toks (S : Sat c f P m g ds vs s) {tk : Tok} : Sat c f P m g ds vs { s with toks := tk } := S.grow (h' := s.heap) fun _ _ e => e
theorem Sat.push (S : Sat c f P m g ds vs s) {v : Value} {d : V} (r : RepV c.w.params (fz s.heap (muts f P g)) v d) : Sat c f P m g (d :: ds) (v :: vs) s := { S with stack := .cons r S.stack }
theorem Sat.pop {v : Value} {d : V} (S : Sat c f P m g (d :: ds) (v :: vs) s) : Sat c f P m g ds vs s := { S with stack := by cases S.stack with | cons _ r => exact r }
theorem Sat.top {v : Value} {d : V} (S : Sat c f P m g (d :: ds) (v :: vs) s) : RepV c.w.params (fz s.heap (muts f P g)) v d := by cases S.stack with | cons a r => exact a
theorem Sat.nil (S : Sat c f P m g ds vs s) : Sat c f P m g [] [] s := { S with stack := .nil }

theorem mem_muts_P {p : Addr × Obj} (hp : p ∈ P) : p.1 ∈ muts f P g := List.mem_append_left _ (List.mem_map_of_mem hp)
theorem mem_lv {p : Addr × AO} {l : List (Addr × AO)} (hp : p ∈ l) (hl : p.2.live = true) : p.1 ∈ lv l := List.mem_map_of_mem (List.mem_filter.mpr ⟨hp, hl⟩)
theorem mem_muts_own {p : Addr × AO} (hp : p ∈ g.own) (hl : p.2.live = true) : p.1 ∈ muts f P g := List.mem_append_right _ (List.mem_append_left _ (mem_lv hp hl))
theorem mem_muts_out {p : Addr × AO} (hp : p ∈ g.out) (hl : p.2.live = true) : p.1 ∈ muts f P g := List.mem_append_right _ (List.mem_append_right _ (List.mem_append_left _ (mem_lv hp hl)))
theorem mem_muts_L : f.env.locals ∈ muts f P g := List.mem_append_right _ (List.mem_append_right _ (List.mem_append_right _ (.head _)))
theorem mem_muts_cell {x : Str} {a : Addr} (h : f.env.cells.lookup x = some a) : a ∈ muts f P g := List.mem_append_right _ (List.mem_append_right _ (List.mem_append_right _ (.tail _ (mem_lookup h))))

theorem Sat.lt (S : Sat c f P m g ds vs s) {a : Addr} (h : a ∈ muts f P g) : a < s.heap.objs.size := let ⟨_, e⟩ := S.live a h; Heap.lt_size e
theorem Sat.fresh (S : Sat c f P m g ds vs s) : s.heap.objs.size ∉ muts f P g := fun h => Nat.lt_irrefl _ (S.lt h)
theorem Sat.fz_grow (S : Sat c f P m g ds vs s) {h' : Heap} (k : ∀ b o, s.heap.get? b = some o → h'.get? b = some o) : (fz s.heap (muts f P g)).StaysIn (fz h' (muts f P g)) := fz_stays fun b o n e => ⟨k b o e, n⟩

/-- a new frozen object -/
theorem Sat.alloc (S : Sat c f P m g ds vs s) {o : Obj} (hf : o.isFreed = false) {tk : Tok} : Sat c f P m g ds vs { s with heap := s.heap.push o, toks := tk } ∧ (fz (s.heap.push o) (muts f P g)).get? s.heap.objs.size = some o ∧
    (fz s.heap (muts f P g)).StaysIn (fz (s.heap.push o) (muts f P g)) :=
  ⟨S.grow fun b o' e => Heap.get?_push_of_some _ e, fz_get.mpr ⟨Heap.get?_push_size _ hf, S.fresh⟩, S.fz_grow fun b o' e => Heap.get?_push_of_some _ e⟩

/-- the heap changes at mutable addresses alone -/
theorem Sat.change {P' : Prt} {m' : Mp} {g' : G} {f' : Fm} {ds' : List V} {vs' : List Value} (S : Sat c f P m g ds vs s) {h' : Heap} {tk : Tok}
    (hm : ∀ b o, b ∉ muts f P g → s.heap.get? b = some o → b ∉ muts f' P' g')
    (k : ∀ b o, b ∉ muts f P g → s.heap.get? b = some o → h'.get? b = some o)
    (prot : ∀ p ∈ P', h'.get? p.1 = some p.2)
    (own : (fz s.heap (muts f P g)).StaysIn (fz h' (muts f' P' g')) → ∀ p ∈ g'.own, AOIs c (fz h' (muts f' P' g')) h' p.1 p.2)
    (out : (fz s.heap (muts f P g)).StaysIn (fz h' (muts f' P' g')) → ∀ p ∈ g'.out, AOIs c (fz h' (muts f' P' g')) h' p.1 p.2)
    (frame : (fz s.heap (muts f P g)).StaysIn (fz h' (muts f' P' g')) → FrIs c.w.params (fz h' (muts f' P' g')) h' f'.env m')
    (nodup : (muts f' P' g').Nodup) (live : ∀ a ∈ muts f' P' g', ∃ o, h'.get? a = some o)
    (stack : (fz s.heap (muts f P g)).StaysIn (fz h' (muts f' P' g')) → Reps c.w.params (fz s.heap (muts f P g)) vs ds → Reps c.w.params (fz h' (muts f' P' g')) vs' ds') :
    Sat c f' P' m' g' ds' vs' { s with heap := h', toks := tk } := by
  have z : (fz s.heap (muts f P g)).StaysIn (fz h' (muts f' P' g')) := fz_stays fun b o n e => ⟨k b o n e, hm b o n e⟩
  exact ⟨fun b o e => z b o (S.base b o e), prot, own z, out z, frame z, nodup, stack z S.stack, S.rest, live⟩
end

section
variable {c : Cx} {f : Fm} {P : Prt} {m : Mp} {g : G} {ds : List V} {vs : List Value} {s : Shared}

theorem nodup_ne {α : Type} {l₁ l₂ : List α} {a b : α} (h : (l₁ ++ l₂).Nodup) (ha : a ∈ l₁) (hb : b ∈ l₂) : a ≠ b := fun e => (List.nodup_append.mp h).2.2 a ha b hb e

theorem Sat.nL_P (S : Sat c f P m g ds vs s) {p : Addr × Obj} (hp : p ∈ P) : p.1 ≠ f.env.locals :=
  nodup_ne S.nodup (List.mem_map_of_mem hp) (List.mem_append_right _ (List.mem_append_right _ (.head _)))
theorem Sat.nL_own (S : Sat c f P m g ds vs s) {p : Addr × AO} (hp : p ∈ g.own) (hl : p.2.live = true) : p.1 ≠ f.env.locals :=
  nodup_ne (List.nodup_append.mp S.nodup).2.1 (mem_lv hp hl) (List.mem_append_right _ (.head _))
theorem Sat.nL_out (S : Sat c f P m g ds vs s) {p : Addr × AO} (hp : p ∈ g.out) (hl : p.2.live = true) : p.1 ≠ f.env.locals :=
  nodup_ne (List.nodup_append.mp (List.nodup_append.mp S.nodup).2.1).2.1 (mem_lv hp hl) (.head _)
theorem Sat.nL_cell (S : Sat c f P m g ds vs s) {a : Addr} (hp : a ∈ f.env.cells.map (·.2)) : a ≠ f.env.locals := fun e => by
  have := (List.nodup_append.mp (List.nodup_append.mp (List.nodup_append.mp S.nodup).2.1).2.1).2.1
  exact (List.nodup_cons.mp this).1 (e ▸ hp)

theorem AOIs.at' {c : Cx} {z z' h h' : Heap} {p : Addr × AO} (k : z.StaysIn z') (e : p.2.live = true → ∀ o, h.get? p.1 = some o → h'.get? p.1 = some o) (x : AOIs c z h p.1 p.2) : AOIs c z' h' p.1 p.2 := by
  cases q : p.2 with
  | gone => trivial
  | list xs => rw [q] at x; exact x.move k (e (by rw [q]; rfl))
  | idict fs => rw [q] at x; exact x.move k (e (by rw [q]; rfl))
  | dict fs => rw [q] at x; exact x.move k (e (by rw [q]; rfl))

/-- what is stored into a local name -/
noncomputable def mset (x : Str) (d : V) (m : Mp) : Mp := m.map fun e => if e.1 = x then (e.1, e.2.1, some d) else e

theorem Sat.setLocal {x : Str} {v : Value} {d : V} {mm : Str → Option Value} {h' : Heap} {tk : Tok} (S : Sat c f P m g (d :: ds) (v :: vs) s) (hn : s.heap.Ns f.env.locals mm)
    (hn' : h'.Ns f.env.locals (fun y => if y = x then some v else mm y)) (hs : Heap.SameBut f.env.locals s.heap h') (hx : ∀ b ov, (x, b, ov) ∈ m → b = false) :
    Sat c f P (mset x d m) g ds vs { s with heap := h', toks := tk } := by
  have keep : ∀ b, b ≠ f.env.locals → ∀ o, s.heap.get? b = some o → h'.get? b = some o := fun b hb o e => (hs.2 b hb).trans e
  have top := S.top
  refine S.change (fun _ _ h _ => h) (fun b o n e => keep b (fun q => n (q ▸ mem_muts_L)) o e) (fun p hp => keep _ (S.nL_P hp) _ (S.prot p hp))
    (fun z p hp => (S.own p hp).at' z fun hl o e => keep _ (S.nL_own hp hl) o e) (fun z p hp => (S.out p hp).at' z fun hl o e => keep _ (S.nL_out hp hl) o e) (fun z => ?_) S.nodup
    (fun a ha => ?_) (fun z r => by cases r with | cons _ r => exact r.keeps z)
  · refine ⟨S.frame.fn, S.frame.glob, S.frame.blt, ⟨_, hn', fun y ov hm => ?_⟩, fun y ov hm => ?_⟩
    · obtain ⟨e, he, hq⟩ := List.mem_map.mp hm
      obtain ⟨mm₂, hn₂, h₂⟩ := S.frame.ns
      have hmm : mm₂ = mm := by
        obtain ⟨o, es, ep, a1, a2, a3, a4⟩ := hn
        obtain ⟨o', es', ep', b1, b2, b3, b4⟩ := hn₂
        rw [a1] at b1; cases b1
        rw [a2] at b2; cases b2
        funext n; rw [← a4, ← b4]
      subst hmm
      by_cases hxe : e.1 = x
      · rw [if_pos hxe] at hq
        obtain ⟨e1, e2, e3⟩ := e
        cases hq
        subst hxe
        refine ⟨(h₂ _ _ he).1, fun d' hd => ?_⟩
        cases hd
        exact ⟨v, by simp, top.keeps z⟩
      · rw [if_neg hxe] at hq
        subst hq
        refine ⟨(h₂ _ _ he).1, fun d' hd => ?_⟩
        obtain ⟨u, h3, h4⟩ := (h₂ _ _ he).2 d' hd
        exact ⟨u, by rw [if_neg hxe]; exact h3, h4.keeps z⟩
    · obtain ⟨e, he, hq⟩ := List.mem_map.mp hm
      by_cases hxe : e.1 = x
      · rw [if_pos hxe] at hq
        obtain ⟨e1, e2, e3⟩ := e
        cases hq
        subst hxe
        cases hx _ _ he
      · rw [if_neg hxe] at hq
        subst hq
        obtain ⟨k1, k2⟩ := S.frame.cells _ _ he
        exact ⟨k1, k2.move z fun cc o hc e => keep _ (S.nL_cell (mem_lookup hc)) o e⟩
  · by_cases hq : a = f.env.locals
    · subst hq; obtain ⟨o, es, ep, a1, _⟩ := hn'; exact ⟨o, a1⟩
    · obtain ⟨o, e⟩ := S.live a ha; exact ⟨o, keep a hq o e⟩
end
end Mine

set_option maxRecDepth 100000
namespace Mine
open PySem PySem.W PySem.Calls PyProof.Rows PySem.Spec
open PySem.W.Fast (sEq sEq_iff)
noncomputable section

/-! the checker: what must hold so that a text runs to its end and hands on `Q` -/
inductive Fl where
  | next
  | ret (v : V)

noncomputable abbrev Led := List (Addr × AO)
noncomputable abbrev QV := V → G → Prop
noncomputable abbrev QX := Fl → Mp → G → Prop

/-- a loop's word: the state by a datum, what holds of it and of the items that are left -/
structure Inv where
  α : Type
  st : α → Mp × G
  I : α → List PyData → Prop
/-- a comprehension's word: what has been made, what is left, the state -/
structure CInv where
  α : Type
  st : α → G
  I : α → List PyData → List PyData → Prop
structure IFam where
  β : Type
  J : β → Inv
/-- a family of words: which one is told where the comprehension begins -/
structure CFam where
  β : Type
  J : β → CInv
structure WInv where
  α : Type
  st : α → Mp × G
  I : α → Nat → Prop

structure SX where
  sc : List (Str × NameKind)
  mu : List Str
  sp : Nat → List V → Led → (V → Led → Prop) → Prop
  inv : Nat → IFam
  cinv : Nat → CFam
  winv : Nat → WInv
  jn : List (Nat × List Str)
  pu : List Nat

noncomputable def slook {α : Type} (x : Str) : List (Str × α) → Option α
  | [] => none
  | p :: r => match sEq p.1 x with
    | true => some p.2
    | false => slook x r
noncomputable def msetN (x : Str) (d : V) : Mp → Mp
  | [] => []
  | e :: r => match sEq e.1 x with
    | true => (e.1, e.2.1, some d) :: msetN x d r
    | false => e :: msetN x d r

noncomputable def G.sel (g : G) : Bool → Led
  | true => g.own
  | false => g.out
noncomputable def G.setL (g : G) : Bool → Led → G
  | true, l => { g with own := l }
  | false, l => { g with out := l }
noncomputable def lget (l : Led) (i : Nat) : Option (Addr × AO) := l[i]?
noncomputable def lset (l : Led) (i : Nat) (p : Addr × AO) : Led := l.set i p

noncomputable def br (b : Bool) (x y : Prop) : Prop := match b with
  | true => x
  | false => y
noncomputable def oB {α : Type} (o : Option α) (k : α → Prop) : Prop := match o with
  | some y => k y
  | none => False

/-- the items of a list, wherever it lies -/
noncomputable def vView (g : G) (v : V) (k : List PyData → Prop) : Prop := match v with
  | .d x => (match x with
    | .list xs => k xs
    | _ => False)
  | .loc o i a => (match lget (g.sel o) i with
    | some p => (match p.2 with
      | .list xs => p.1 = a ∧ k xs
      | _ => False)
    | none => False)
  | _ => False

/-- a value as a frozen datum -/
noncomputable def vData (g : G) (v : V) (k : PyData → G → Prop) : Prop := match v with
  | .d x => k x g
  | .loc o i a => (match o with
    | true => (match lget g.own i with
      | some p => (match p.2 with
        | .list xs => p.1 = a ∧ k (.list xs) { g with own := lset g.own i (a, .gone) }
        | _ => False)
      | none => False)
    | false => False)
  | _ => False
noncomputable def vFreeze (g : G) (v : V) (k : V → G → Prop) : Prop := match v with
  | .loc o i a => (match o with
    | true => (match lget g.own i with
      | some p => (match p.2 with
        | .list xs => p.1 = a ∧ k (.d (.list xs)) { g with own := lset g.own i (a, .gone) }
        | .dict _ => k v g
        | _ => False)
      | none => False)
    | false => False)
  | _ => k v g

noncomputable def vBool (v : V) (k : Bool → Prop) : Prop := match v with
  | .d x => (match x with
    | .bool b => k b
    | _ => False)
  | _ => False
noncomputable def vInt (v : V) (k : Int → Prop) : Prop := match v with
  | .d x => (match x with
    | .int b => k b
    | _ => False)
  | _ => False
noncomputable def vTruth (v : V) (k : Bool → Prop) : Prop := vBool v k

noncomputable def dI (i : Int) : V := .d (.int i)
noncomputable def dB (b : Bool) : V := .d (.bool b)
noncomputable def dL (xs : List PyData) : V := .d (.list xs)

noncomputable def vBin (op : Operator) (a b : V) (g : G) (Q : QV) : Prop := match op with
  | .Sub => vInt a fun x => vInt b fun y => Q (dI (x - y)) g
  | .Mod => vInt a fun x => vInt b fun y => y ≠ 0 ∧ Q (dI (x.fmod y)) g
  | .FloorDiv => vInt a fun x => vInt b fun y => (y ≠ 0 ∧ y.natAbs < 1073741824) ∧ Q (dI (x.fdiv y)) g
  | .Add => (match a with
    | .d da => (match da with
      | .int x => vInt b fun y => Q (dI (x + y)) g
      | .list xs => vView g b fun ys => xs.length + ys.length ≤ 1000 ∧ Q (dL (xs ++ ys)) g
      | _ => False)
    | _ => False)
  | .Mult => (match a with
    | .d da => (match da with
      | .int x => vInt b fun y => IntMulOk x y ∧ Q (dI (x * y)) g
      | _ => False)
    | _ => False)
  | _ => False

/-- == of two lists, or of two tuples -/
noncomputable def vEq (a b : V) (g : G) (k : Bool → Prop) : Prop := match a with
  | .d da => (match da with
    | .int x => vInt b fun y => k (x == y)
    | .bool x => vBool b fun y => k (x == y)
    | .str x => (match b with
      | .d db => (match db with
        | .str y => k (sEq x y)
        | _ => False)
      | _ => False)
    | .tuple xs => (match b with
      | .d db => (match db with
        | .tuple ys => (SeqAt.shaped (.tuple xs) = true ∧ SeqAt.shaped (.tuple ys) = true) ∧ k (PyData.eqvAll xs ys)
        | _ => False)
      | _ => False)
    | .list xs => vView g b fun ys => (SeqAt.shaped (.list xs) = true ∧ SeqAt.shaped (.list ys) = true) ∧ k (PyData.eqvAll xs ys)
    | _ => False)
  | .loc .. => vView g a fun xs => vView g b fun ys => (SeqAt.shaped (.list xs) = true ∧ SeqAt.shaped (.list ys) = true) ∧ k (PyData.eqvAll xs ys)
  | _ => False

noncomputable def vCmp (op : CmpOp) (a b : V) (g : G) (k : Bool → Prop) : Prop := match op with
  | .Lt => vInt a fun x => vInt b fun y => k (decide (x < y))
  | .LtE => vInt a fun x => vInt b fun y => k (decide (x ≤ y))
  | .Gt => vInt a fun x => vInt b fun y => k (decide (y < x))
  | .GtE => vInt a fun x => vInt b fun y => k (decide (y ≤ x))
  | .Eq => vEq a b g k
  | .NotEq => vEq a b g fun r => k (!r)
  | .In => (match a with
    | .d x => vView g b fun ys => (PyData.canLayAll0 ys = true ∧ x.canLay0 = true ∧ x.depth ≤ 8) ∧ k (ys.any fun y => PyData.eqv y x)
    | _ => False)
  | .NotIn => (match a with
    | .d x => vView g b fun ys => (PyData.canLayAll0 ys = true ∧ x.canLay0 = true ∧ x.depth ≤ 8) ∧ k (!ys.any fun y => PyData.eqv y x)
    | _ => False)
  | .Is => (match b with
    | .d db => (match db with
      | .none => (match a with
        | .d da => (match da with
          | .none => k true
          | .list _ => k false
          | _ => False)
        | _ => False)
      | _ => False)
    | _ => False)
  | _ => False

/-- an item: of a list or a tuple by its place, of a dict by a text -/
noncomputable def vItem (o i : V) (g : G) (Q : QV) : Prop := match o with
  | .d x => (match x with
    | .list xs => vInt i fun k => (-(2 ^ 62) < k ∧ k < 2 ^ 62) ∧ oB (seqIndex? k xs.length) fun j => oB xs[j]? fun y => Q (.d y) g
    | .tuple xs => vInt i fun k => (-(2 ^ 62) < k ∧ k < 2 ^ 62) ∧ oB (seqIndex? k xs.length) fun j => oB xs[j]? fun y => Q (.d y) g
    | _ => False)
  | .loc b n a => (match lget (g.sel b) n with
    | some p => (match p.2 with
      | .list xs => p.1 = a ∧ vInt i fun k => (-(2 ^ 62) < k ∧ k < 2 ^ 62) ∧ oB (seqIndex? k xs.length) fun j => oB xs[j]? fun y => Q (.d y) g
      | .dict fs => p.1 = a ∧ (match i with
        | .d di => (match di with
          | .str x => oB (slook x fs) fun y => Q y g
          | _ => False)
        | _ => False)
      | _ => False)
    | none => False)
  | _ => False

noncomputable def fput (x : Str) (v : V) : List (Str × V) → List (Str × V)
  | [] => [(x, v)]
  | p :: r => match sEq p.1 x with
    | true => (p.1, v) :: r
    | false => p :: fput x v r

noncomputable def vSetItem (o i v : V) (g : G) (Q : G → Prop) : Prop := match o with
  | .loc b n a => (match lget (g.sel b) n with
    | some p => (match p.2 with
      | .list xs => p.1 = a ∧ (match v with
        | .d y => vInt i fun k => (-(2 ^ 62) < k ∧ k < 2 ^ 62) ∧ oB (seqIndex? k xs.length) fun j => Q (g.setL b (lset (g.sel b) n (a, .list (xs.set j y))))
        | _ => False)
      | .dict fs => p.1 = a ∧ (match i with
        | .d di => (match di with
          | .str x => fs.length ≤ 8 ∧ oB (slook x fs) fun _ => Q (g.setL b (lset (g.sel b) n (a, .dict (fput x v fs))))
          | _ => False)
        | _ => False)
      | _ => False)
    | none => False)
  | _ => False

noncomputable def nmBounds : Str := "bounds"
noncomputable def nmCodes : Str := "codes"
noncomputable def nmStrings : Str := "strings"

/-- the attributes that objects of the text's classes bear -/
noncomputable def aTab : List (Addr × Str) := [(150, "bounds"), (185, "codes"), (185, "strings"), (244, "ranges"), (244, "whole"), (244, "is_behind_set")]
noncomputable def aIn (C : Addr) (name : Str) : Bool := aTab.any fun p => Nat.beq p.1 C && sEq p.2 name

noncomputable def vAttr (o : V) (name : Str) (g : G) (Q : QV) : Prop := match o with
  | .cset b => (match sEq name nmBounds with
    | true => Q (.d (pInts b)) g
    | false => False)
  | .cstr b ss => (match sEq name nmCodes with
    | true => Q (.cset b) g
    | false => (match sEq name nmStrings with
      | true => Q (.d (pStrs ss)) g
      | false => False))
  | .inst b n C dx => (match lget (g.sel b) n with
    | some p => (match p.2 with
      | .idict fs => (p.1 = dx ∧ aIn C name = true) ∧ oB (slook name fs) fun y => Q y g
      | _ => False)
    | none => False)
  | _ => False

noncomputable def vSetAttr (o : V) (name : Str) (v : V) (g : G) (Q : G → Prop) : Prop := match o with
  | .inst b n C dx => (match lget (g.sel b) n with
    | some p => (match p.2 with
      | .idict fs => (p.1 = dx ∧ aIn C name = true ∧ fs.length ≤ 8) ∧ Q (g.setL b (lset (g.sel b) n (dx, .idict (fput name v fs))))
      | _ => False)
    | none => False)
  | _ => False


noncomputable def V.port : V → Bool
  | .loc o _ _ => !o
  | .inst o _ _ _ => !o
  | _ => true

/-- the items of a list or a tuple -/
noncomputable def vSeq (g : G) (v : V) (k : List PyData → Prop) : Prop := match v with
  | .d x => (match x with
    | .list xs => k xs
    | .tuple xs => k xs
    | _ => False)
  | .loc .. => vView g v k
  | _ => False

/-- lexicographic order of texts of codes -/
noncomputable def ltL : List Int → List Int → Bool
  | [], [] => false
  | [], _ :: _ => true
  | _ :: _, [] => false
  | a :: x, b :: y => if a == b then ltL x y else decide (a < b)
noncomputable def insL (x : List Int) : List (List Int) → List (List Int)
  | [] => [x]
  | y :: r => if ltL x y then x :: y :: r else y :: insL x r
/-- sorted, each once or as often as it stands -/
noncomputable def sortL : List (List Int) → List (List Int)
  | [] => []
  | x :: r => insL x (sortL r)
noncomputable def insI (x : Int) : List Int → List Int
  | [] => [x]
  | y :: r => if x < y then x :: y :: r else y :: insI x r
noncomputable def sortI : List Int → List Int
  | [] => []
  | x :: r => insI x (sortI r)
noncomputable def dedup : List (List Int) → List (List Int)
  | [] => []
  | x :: r => x :: (dedup r).filter fun y => y != x
/-- pairs, by their first, as they stand -/
noncomputable def insPB (x : Int × Int) : List (Int × Int) → List (Int × Int)
  | [] => [x]
  | y :: r => if x.1 ≤ y.1 then x :: y :: r else y :: insPB x r
noncomputable def sortP : List (Int × Int) → List (Int × Int)
  | [] => []
  | x :: r => insPB x (sortP r)
noncomputable def pPairs (ps : List (Int × Int)) : List PyData := ps.map fun p => .tuple [.int p.1, .int p.2]

noncomputable def lawStrings : List (List Int) := [[], [97], [97, 98], [98, 97], [97, 97], [102], [99, 97, 98], [98]]
/-- what a global name is -/
inductive Gl where
  | fn (a : Addr)
  | strs
  | bi (b : Bi)
noncomputable def gtab : List (Str × Gl) := [("place_by_half", .fn 28), ("range_first_of", .fn 35), ("range_bounds", .fn 40), ("range_is_wanted", .fn 47), ("range_merged", .fn 54), ("CodeSet", .fn 150), ("CodeStrings", .fn 185),
  ("setexpr_strings", .fn 194), ("setexpr_put", .fn 199), ("SetSoFar", .fn 244), ("_law_begins", .fn 255), ("_law_ends", .fn 262), ("_law_strings", .strs), ("_law_deck", .fn 276), ("_law_draw", .fn 283), ("_law_put", .fn 288),
  ("_law_ranges", .fn 295), ("_law_made", .fn 302), ("_law_span", .fn 309), ("_law_drawn", .fn 314), ("_law_both", .fn 319), ("_law_is", .fn 324), ("_law_right", .fn 331),
  ("len", .bi .len), ("sorted", .bi .sorted), ("max", .bi .max), ("range", .bi .range), ("list", .bi .list), ("tuple", .bi .tuple), ("int", .bi .int), ("bool", .bi .bool), ("zip", .bi .zip)]
noncomputable def mCS : List (Str × Addr) := [("has", 86), ("ranges", 91), ("union", 105), ("both", 112), ("without", 119), ("equals", 140)]
noncomputable def mCStr : List (Str × Addr) := [("has_text", 175), ("equals", 182)]
noncomputable def mSof : List (Str × Addr) := [("put_range", 220), ("put_string", 227), ("put_set", 234), ("told", 241)]
noncomputable def nmOf : Str := "of"
noncomputable def nmAppend : Str := "append"
noncomputable def nmPop : Str := "pop"
noncomputable def nmExtend : Str := "extend"
noncomputable def nmKey : Str := "key"

/-- a name that no frame holds -/
noncomputable def vGlob (sx : SX) (x : Str) (k : Gl → Prop) : Prop := match slook x sx.sc with
  | some .globalImplicit => oB (slook x gtab) k
  | _ => False
noncomputable def nmDebug : Str := "__debug__"
noncomputable def vName (sx : SX) (m : Mp) (x : Str) (g : G) (Q : QV) : Prop := match sEq x nmDebug with
  | true => False
  | false => (match slook x m with
    | some p => oB p.2 fun d => Q d g
    | none => vGlob sx x fun l => match l with
      | .fn a => Q (.fn a) g
      | .strs => Q (.d (pStrs lawStrings)) g
      | .bi b => Q (.bi b) g)

/-- a new list that is frozen, or the frame's own -/
noncomputable def vNewList (own : Bool) (xs : List PyData) (g : G) (Q : QV) : Prop := match own with
  | false => Q (dL xs) g
  | true => ∀ a, Q (.loc true g.own.length a) { g with own := g.own ++ [(a, .list xs)] }

noncomputable def vBi (b : Bi) (vs : List V) (own : Bool) (g : G) (Q : QV) : Prop := match b with
  | .len => (match vs with
    | [v] => vSeq g v fun xs => xs.length ≤ 1000 ∧ Q (dI xs.length) g
    | _ => False)
  | .list => (match vs with
    | [v] => vSeq g v fun xs => xs.length ≤ 1000 ∧ vNewList own xs g Q
    | _ => False)
  | .tuple => (match vs with
    | [v] => vSeq g v fun xs => xs.length ≤ 1000 ∧ Q (.d (.tuple xs)) g
    | _ => False)
  | .int => (match vs with
    | [v] => vInt v fun i => Q (dI i) g
    | _ => False)
  | .bool => (match vs with
    | [v] => vBool v fun i => Q (dB i) g
    | _ => False)
  | .max => (match vs with
    | [u, v] => vInt u fun i => vInt v fun j => Q (dI (if i < j then j else i)) g
    | _ => False)
  | .sorted => (match vs with
    | [v] => vView g v fun xs => (∃ is : List Int, xs = is.map .int ∧ is.length < 64 ∧ ∀ js : List Int, js.Perm is → js.Pairwise (· ≤ ·) → Q (.d (pInts js)) g) ∨
        ∃ ss : List (List Int), xs = ss.map pTup ∧ (ss.Nodup ∧ ss.length ≤ 5) ∧ ∀ ts : List (List Int), ts.Perm ss → ts.Pairwise (fun a b => ltL a b = true) → Q (.d (pStrs ts)) g
    | _ => False)
  | _ => False

/-- what may be called -/
noncomputable def callables : List Nat := [28, 35, 40, 47, 54, 76, 86, 91, 105, 112, 119, 140, 150, 175, 182, 185, 194, 199, 220, 227, 234, 241, 244, 255, 262, 276, 283, 288, 295, 302, 309, 314, 319, 324, 331]
noncomputable def nlook {α : Type} (n : Nat) : List (Nat × α) → Option α
  | [] => none
  | p :: r => match Nat.beq p.1 n with
    | true => some p.2
    | false => nlook n r
noncomputable def nmem (n : Nat) : List Nat → Bool
  | [] => false
  | p :: r => match Nat.beq p n with
    | true => true
    | false => nmem n r
noncomputable def bB (b : Bool) (x : Prop) : Prop := match b with
  | true => x
  | false => False
/-- what may be called by its name -/
noncomputable def vKp : V → Bool
  | .fn a => nmem a callables
  | .bi _ => true
  | _ => false
noncomputable def vCall (sx : SX) (f : V) (vs : List V) (own : Bool) (g : G) (Q : QV) : Prop := match f with
  | .fn a => bB (nmem a callables && vs.all V.port) (sx.sp a vs g.out fun v out => Q v { g with out := out })
  | .bi b => vBi b vs own g Q
  | _ => False

/-- a method -/
inductive Me where
  | fn (a : Addr) (self : Bool)
  | app
  | ext
  | pop
noncomputable def vMeth (o : V) (name : Str) (g : G) (k : Me → Prop) : Prop := match o with
  | .cset _ => oB (slook name mCS) fun a => k (.fn a true)
  | .cstr _ _ => oB (slook name mCStr) fun a => k (.fn a true)
  | .inst b n C dx => bB (Nat.beq C 244) (match lget (g.sel b) n with
    | some p => (match p.2 with
      | .idict fs => p.1 = dx ∧ (match slook name fs with
        | none => oB (slook name mSof) fun a => k (.fn a true)
        | some _ => False)
      | _ => False)
    | none => False)
  | .fn a => bB (Nat.beq a 150 && sEq name nmOf) (k (.fn 76 false))
  | .loc b n a => (match lget (g.sel b) n with
    | some p => (match p.2 with
      | .list _ => p.1 = a ∧ (match sEq name nmAppend with
        | true => k .app
        | false => (match sEq name nmExtend with
          | true => k .ext
          | false => (match sEq name nmPop with
            | true => k .pop
            | false => False)))
      | _ => False)
    | none => False)
  | _ => False
/-- a list of the ledger -/
noncomputable def vMut (o : V) (g : G) (k : List PyData → (List PyData → G) → Prop) : Prop := match o with
  | .loc b n a => (match lget (g.sel b) n with
    | some p => (match p.2 with
      | .list xs => p.1 = a ∧ k xs (fun ys => g.setL b (lset (g.sel b) n (a, .list ys)))
      | _ => False)
    | none => False)
  | _ => False
noncomputable def vMeCall (sx : SX) (me : Me) (o : V) (vs : List V) (g : G) (Q : QV) : Prop := match me with
  | .fn a self => (match self with
    | true => vCall sx (.fn a) (o :: vs) false g Q
    | false => vCall sx (.fn a) vs false g Q)
  | .app => vMut o g fun xs put => (match vs with
    | [.d y] => xs.length ≤ 1000 ∧ Q (.d .none) (put (xs ++ [y]))
    | _ => False)
  | .ext => vMut o g fun xs put => (match vs with
    | [.d (.list ys)] => (ys ≠ [] ∧ xs.length + ys.length ≤ 1000) ∧ Q (.d .none) (put (xs ++ ys))
    | _ => False)
  | .pop => vMut o g fun xs put => (match vs with
    | [.d (.int k)] => (k = 0 ∧ xs.length ≤ 1000) ∧ (match xs with
      | y :: r => Q (.d y) (put r)
      | [] => False)
    | _ => False)

structure Rc where
  E : SX → Mp → Expr → Bool → G → QV → Prop
  T : SX → Mp → Expr → G → (Bool → G → Prop) → Prop
  X : SX → Stmt → Mp → G → QX → Prop

/-- the kinds of expressions, by number -/
noncomputable def tagE : Expr → Nat
  | .Name .. => 1
  | .Call .. => 2
  | .List .. => 3
  | .Tuple .. => 4
  | .ListComp .. => 5
  | .SetComp .. => 6
  | .DictComp .. => 7
  | .Starred .. => 8
  | .Set .. => 9
  | _ => 0
noncomputable def isPlainE (e : Expr) : Bool := !(Nat.beq (tagE e) 8 || Nat.beq (tagE e) 9)
noncomputable def vLst (v : V) (k : List PyData → Prop) : Prop := match v with
  | .d x => (match x with
    | .list xs => k xs
    | _ => False)
  | _ => False
theorem vLst_inv {v : V} {k : List PyData → Prop} (h : vLst v k) : ∃ xs, v = .d (.list xs) ∧ k xs := by
  unfold vLst at h
  split at h
  · split at h
    · exact ⟨_, rfl, h⟩
    · cases h
  · cases h
noncomputable def one {α : Type} : List α → Option α
  | [] => none
  | a :: r => match r with
    | [] => some a
    | _ :: _ => none
theorem one_inv {α : Type} {l : List α} {a : α} (h : one l = some a) : l = [a] := by
  cases l with
  | nil => cases h
  | cons b r => cases r with
    | nil => cases h; rfl
    | cons _ _ => cases h
noncomputable def two {α : Type} : List α → Option (α × α)
  | [] => none
  | a :: r => (one r).map fun b => (a, b)
theorem two_inv {α : Type} {l : List α} {a : α × α} (h : two l = some a) : l = [a.1, a.2] := by
  cases l with
  | nil => cases h
  | cons b r =>
    obtain ⟨x, h1, rfl⟩ := Option.map_eq_some_iff.mp h
    rw [one_inv h1]
noncomputable def nameE : Expr → Option Str
  | .Name x _ => some x
  | _ => none
noncomputable def tupE : Expr → Option (List Expr)
  | .Tuple es _ _ => some es
  | _ => none
theorem tupE_inv {e : Expr} {x : List Expr} (h : tupE e = some x) : ∃ k p, e = .Tuple x k p := by
  unfold tupE at h
  split at h
  · cases h; exact ⟨_, _, rfl⟩
  · cases h
noncomputable def constE : Expr → Option Const
  | .Constant c _ _ => some c
  | _ => none
noncomputable def intE (e : Expr) : Option Int := match constE e with
  | some c => (match c with
    | .int n => some n
    | _ => none)
  | none => none
noncomputable def strE (e : Expr) : Option Str := match constE e with
  | some c => (match c with
    | .str n => some n
    | _ => none)
  | none => none
noncomputable def trueE (e : Expr) : Bool := match constE e with
  | some c => (match c with
    | .bool b => b
    | _ => false)
  | none => false
theorem nameE_inv {e : Expr} {x : Str} (h : nameE e = some x) : ∃ p, e = .Name x p := by
  unfold nameE at h
  split at h
  · cases h; exact ⟨_, rfl⟩
  · cases h
theorem constE_inv {e : Expr} {x : Const} (h : constE e = some x) : ∃ k p, e = .Constant x k p := by
  unfold constE at h
  split at h
  · cases h; exact ⟨_, _, rfl⟩
  · cases h
theorem intE_inv {e : Expr} {x : Int} (h : intE e = some x) : ∃ k p, e = .Constant (.int x) k p := by
  unfold intE at h
  split at h
  · rename_i q
    split at h
    · cases h; exact constE_inv q
    · cases h
  · cases h
theorem strE_inv {e : Expr} {x : Str} (h : strE e = some x) : ∃ k p, e = .Constant (.str x) k p := by
  unfold strE at h
  split at h
  · rename_i q
    split at h
    · cases h; exact constE_inv q
    · cases h
  · cases h
theorem trueE_inv {e : Expr} (h : trueE e = true) : ∃ k p, e = .Constant (.bool true) k p := by
  unfold trueE at h
  split at h
  · rename_i q
    split at h
    · subst h; exact constE_inv q
    · cases h
  · cases h
noncomputable def isMult : Operator → Bool
  | .Mult => true
  | _ => false
noncomputable def isCallE (e : Expr) : Bool := Nat.beq (tagE e) 2
noncomputable def okEs (es : List Expr) : Bool := es.all isPlainE
noncomputable def vEs (r : Rc) (sx : SX) (m : Mp) : List Expr → G → (List V → G → Prop) → Prop
  | [], g, k => k [] g
  | e :: es, g, k => bB (isPlainE e) (r.E sx m e false g fun v g => vEs r sx m es g fun vs g => k (v :: vs) g)
/-- the values, frozen -/
noncomputable def vDatas : List V → G → (List PyData → G → Prop) → Prop
  | [], g, k => k [] g
  | v :: vs, g, k => vData g v fun x g => vDatas vs g fun xs g => k (x :: xs) g
noncomputable def vXs (r : Rc) (sx : SX) : List Stmt → Mp → G → QX → Prop
  | [], m, g, Q => Q .next m g
  | st :: rest, m, g, Q => r.X sx st m g fun fl m g => match fl with
    | .next => vXs r sx rest m g Q
    | .ret v => Q (.ret v) m g
noncomputable def vBoolOp (r : Rc) (sx : SX) (m : Mp) (op : BoolOp) : List Expr → G → QV → Prop
  | [], _, _ => False
  | [e], g, Q => r.E sx m e false g Q
  | e :: e' :: es, g, Q => r.E sx m e false g fun v g => vBool v fun b => match op with
    | .And => br b (vBoolOp r sx m op (e' :: es) g Q) (Q (dB false) g)
    | .Or => br b (Q (dB true) g) (vBoolOp r sx m op (e' :: es) g Q)
/-- a test whose later parts turn nothing: its value is one -/
noncomputable def vTPure (r : Rc) (sx : SX) (m : Mp) (op : BoolOp) : List Expr → G → (Bool → G → Prop) → Prop
  | [], g, k => k (match op with | .And => true | .Or => false) g
  | [e], g, k => r.T sx m e g k
  | e :: e' :: es, g, k => r.T sx m e g fun a g => ∃ b : Bool, (match op with
    | .And => (a = true → vTPure r sx m op (e' :: es) g fun b' g' => b' = b ∧ g' = g) ∧ k (a && b) g
    | .Or => (a = false → vTPure r sx m op (e' :: es) g fun b' g' => b' = b ∧ g' = g) ∧ k (a || b) g)
noncomputable def vTBoolOp (r : Rc) (sx : SX) (m : Mp) (op : BoolOp) : List Expr → G → (Bool → G → Prop) → Prop
  | [], g, k => k (match op with | .And => true | .Or => false) g
  | e :: es, g, k => r.T sx m e g fun b g => match op with
    | .And => br b (vTBoolOp r sx m op es g k) (k false g)
    | .Or => br b (k true g) (vTBoolOp r sx m op es g k)
/-- a chain of comparisons -/
noncomputable def vChain (r : Rc) (sx : SX) (m : Mp) (a : V) : List CmpOp → List Expr → G → (Bool → G → Prop) → Prop
  | [op], [e], g, k => r.E sx m e false g fun b g => vCmp op a b g fun c => k c g
  | op :: op' :: ops, e :: e' :: es, g, k => r.E sx m e false g fun b g => vCmp op a b g fun c => br c (vChain r sx m b (op' :: ops) (e' :: es) g k) (k false g)
  | _, _, _, _ => False

noncomputable def rangeL (a c : Int) : Nat → List PyData
  | 0 => []
  | n + 1 => .int a :: rangeL (a + c) c n
noncomputable def zipD : List PyData → List PyData → List PyData
  | x :: xs, y :: ys => .tuple [x, y] :: zipD xs ys
  | _, _ => []
noncomputable def cdiv (n c : Int) : Nat := ((n + c - 1).fdiv c).toNat

/-- a value, put into a name -/
noncomputable def vStore (x : Str) (v : V) (m : Mp) (k : Mp → Prop) : Prop := oB (slook x m) fun _ => k (msetN x v m)
/-- what a loop goes over: its items, and what must still stand at each turn -/
noncomputable def vIterP (r : Rc) (sx : SX) (m : Mp) (e : Expr) (g : G) (k : List PyData → (G → Prop) → G → Prop) : Prop :=
  bB (isPlainE e) (r.E sx m e false g fun v g => vView g v fun xs => xs.length ≤ 1000 ∧ k xs (fun g' => vView g' v fun ys => ys = xs) g)
noncomputable def vRange (vs : List V) (k : List PyData → Prop) : Prop := match vs with
  | [v] => vInt v fun n => (-1000 ≤ n ∧ n ≤ 1000) ∧ k (rangeL 0 1 n.toNat)
  | [u, v, w] => vInt u fun i => vInt v fun n => vInt w fun c => (0 ≤ i ∧ i ≤ 1000 ∧ 0 ≤ n ∧ n ≤ 1000 ∧ 0 < c ∧ c ≤ 1000) ∧ k (rangeL i c (cdiv (n - i) c))
  | _ => False
noncomputable def vZip (vs : List V) (k : List PyData → Prop) : Prop := oB (two vs) fun p => vLst p.1 fun xs => vLst p.2 fun ys => (xs.length ≤ 1000 ∧ ys.length ≤ 1000) ∧ k (zipD xs ys)
noncomputable def vIterG (r : Rc) (sx : SX) (m : Mp) (t : Expr) (l : Gl) (args : List Expr) (e : Expr) (g : G) (k : List PyData → (G → Prop) → G → Prop) : Prop := match l with
  | .bi .range => bB (okEs args) (vEs r sx m args g fun vs g => vRange vs fun xs => k xs (fun _ => True) g)
  | .bi .zip => bB (okEs args) (oB (tupE t) fun _ => vEs r sx m args g fun vs g => vZip vs fun xs => k xs (fun _ => True) g)
  | _ => vIterP r sx m e g k
noncomputable def vIter (r : Rc) (sx : SX) (m : Mp) (t e : Expr) (g : G) (k : List PyData → (G → Prop) → G → Prop) : Prop := match e with
  | .Call fe args kw _ => (match nameE fe with
    | some x => (match kw with
      | [] => (match sEq x nmDebug with
        | true => False
        | false => (match slook x m with
          | some _ => vIterP r sx m e g k
          | none => vGlob sx x fun l => vIterG r sx m t l args e g k))
      | _ :: _ => vIterP r sx m e g k)
    | none => vIterP r sx m e g k)
  | _ => vIterP r sx m e g k

noncomputable def targetNames (e : Expr) : Option (List Str) := match nameE e with
  | some x => some [x]
  | none => (tupE e).bind fun es => (two es).bind fun p => (nameE p.1).bind fun x => (nameE p.2).map fun y => [x, y]
/-- an item, put into the target's names -/
noncomputable def vTarget (names : List Str) (y : PyData) (m : Mp) (k : Mp → Prop) : Prop := match names with
  | [x] => vStore x (.d y) m k
  | [x, x'] => (match y with
    | .tuple ys => (match ys with
      | [u, v] => vStore x (.d u) m fun m => vStore x' (.d v) m k
      | _ => False)
    | _ => False)
  | _ => False

noncomputable def compMp (m : Mp) : List (Str × NameKind) → Mp
  | [] => []
  | p :: r => match p.2 with
    | .local => (p.1, false, none) :: compMp m r
    | .free => (p.1, true, (slook p.1 m).bind (·.2)) :: compMp m r
    | _ => compMp m r
noncomputable def compSc : List (Str × NameKind) → List (Str × NameKind) := List.map fun p => match p.2 with
  | .free => (p.1, .cell)
  | k => (p.1, k)

noncomputable def isFnK : ScopeKind → Bool
  | .function => true
  | _ => false
noncomputable def scOk (m : Mp) : List (Str × NameKind) → Bool
  | [] => true
  | p :: r => (match p.2 with
    | .local => true
    | .globalImplicit => true
    | .free => (match slook p.1 m with
      | some q => q.1
      | none => false)
    | _ => false) && !(r.any fun q => sEq p.1 q.1) && scOk m r
noncomputable def nodupM : Mp → Bool
  | [] => true
  | p :: r => !(r.any fun q => sEq p.1 q.1) && nodupM r
noncomputable def compOk (m : Mp) (sc : Scope) : Bool := isFnK sc.kind && scOk m sc.names && nodupM m
noncomputable def isLoc (sc : List (Str × NameKind)) (x : Str) : Bool := match slook x sc with
  | some .local => true
  | _ => false

noncomputable def vIfs (r : Rc) (sx : SX) (m : Mp) : List Expr → G → (Bool → G → Prop) → Prop
  | [], g, k => k true g
  | [e], g, k => r.T sx m e g k
  | _, _, _ => False

noncomputable def vComp (r : Rc) (sx : SX) (m : Mp) (elt t : Expr) (names : List Str) (iter : Expr) (ifs : List Expr) (sc : List (Str × NameKind)) (line : Nat) (g : G) (Q : List PyData → G → Prop) : Prop :=
  bB (names.all (isLoc sc)) (vIter r sx m t iter g fun xs still g => ∃ p : (sx.cinv line).β, let J := (sx.cinv line).J p
    ∃ a, J.st a = g ∧ J.I a [] xs ∧ (∀ a acc y rest, J.I a acc (y :: rest) → still (J.st a) ∧ vTarget names y (compMp m sc) fun m' =>
      vIfs r { sx with sc := compSc sc } m' ifs (J.st a) fun b g => br b (r.E { sx with sc := compSc sc } m' elt false g fun v g => (match v with
        | .d z => ∃ a, J.st a = g ∧ J.I a (acc ++ [z]) rest
        | _ => False)) (∃ a, J.st a = g ∧ J.I a acc rest)) ∧
      ∀ a acc, J.I a acc [] → still (J.st a) ∧ Q acc (J.st a))


noncomputable def isSorted : V → Bool
  | .bi .sorted => true
  | _ => false
noncomputable def vSortD (sx : SX) (m : Mp) (k v : Expr) (gens : List Comprehension) (dsc : Scope) (g : G) (Q : QV) : Prop := oB (nameE k) fun y => bB (trueE v) (oB (one gens) fun gn => oB (nameE gn.target) fun z => oB (nameE gn.iter) fun src => bB (gn.ifs.isEmpty && decide (gn.is_async = 0)) (bB (compOk m dsc && sEq y z && isLoc dsc.names z && !sEq z nmDebug) (vName sx m src g fun w g => vView g w fun xs =>
      ∃ ss : List (List Int), xs = ss.map pTup ∧ ((dedup ss).length ≤ 5 ∧ ss.length ≤ 60) ∧ ∀ ts : List (List Int), ts.Perm (dedup ss) → ts.Pairwise (fun a b => ltL a b = true) → Q (.d (pStrs ts)) g)))
noncomputable def isFn35 : V → Bool
  | .fn a => Nat.beq a 35
  | _ => false
noncomputable def vSortK (vs : List V) (w : V) (g : G) (Q : QV) : Prop := oB (one vs) fun u => vLst u fun xs => bB (isFn35 w) (∃ ps : List (Int × Int), xs = pPairs ps ∧ ps.length < 64 ∧ ∀ qs : List (Int × Int), qs.Perm ps → qs.Pairwise (fun a b => a.1 ≤ b.1) → Q (dL (pPairs qs)) g)
noncomputable def stepE (r : Rc) (sx : SX) (m : Mp) (e : Expr) (own : Bool) (g : G) (Q : QV) : Prop := match e with
  | .Constant c _ _ => (match c with
    | .none => Q (.d .none) g
    | .bool b => Q (dB b) g
    | .int i => Q (dI i) g
    | .str x => Q (.d (.str x)) g
    | _ => False)
  | .Name x _ => vName sx m x g Q
  | .BoolOp op es _ => vBoolOp r sx m op es g Q
  | .BinOp a op b _ => (match a with
    | .List es _ => bB (isMult op) (oB (intE b) fun n => vEs r sx m es g fun vs g => vDatas vs g fun xs g => (0 ≤ n ∧ n ≤ 100 ∧ xs.length ≤ 100 ∧ xs ≠ []) ∧ Q (dL (List.replicate n.toNat xs).flatten) g)
    | _ => r.E sx m a false g fun u g => r.E sx m b false g fun v g => vBin op u v g Q)
  | .UnaryOp op a _ => (match op with
    | .Not => r.E sx m a false g fun u g => vBool u fun b => Q (dB (!b)) g
    | .USub => r.E sx m a false g fun u g => vInt u fun b => Q (dI (-b)) g
    | _ => False)
  | .IfExp t a b _ => r.T sx m t g fun c g => br c (r.E sx m a false g Q) (r.E sx m b false g Q)
  | .List es _ => vEs r sx m es g fun vs g => vDatas vs g fun xs g => xs.length ≤ 1000 ∧ vNewList own xs g Q
  | .Tuple es _ _ => vEs r sx m es g fun vs g => vDatas vs g fun xs g => xs.length ≤ 1000 ∧ Q (.d (.tuple xs)) g
  | .Dict ks es _ => oB (two ks) fun ab => oB (two es) fun ee => oB (ab.1.bind strE) fun k1 => oB (ab.2.bind strE) fun k2 => sEq k1 k2 = false ∧ r.E sx m ee.1 false g fun v1 g => r.E sx m ee.2 false g fun v2 g => ∀ a, Q (.loc true g.own.length a) { g with own := g.own ++ [(a, .dict [(k1, v1), (k2, v2)])] }
  | .Compare a ops es _ => bB (okEs es) (r.E sx m a false g fun u g => vChain r sx m u ops es g fun c g => Q (dB c) g)
  | .Attribute o name _ => bB (!isCallE o) (r.E sx m o false g fun u g => vAttr u name g Q)
  | .Subscript o i _ => (match i with
    | .Slice lo hi st _ => bB (lo.isNone && st.isNone) (oB (hi.bind intE) fun n => oB (nameE o) fun _ => (r.E sx m o false g fun u g => (0 ≤ n ∧ n < 2 ^ 62) ∧ vView g u fun xs => xs.length ≤ 1000 ∧ Q (dL (xs.take n.toNat)) g))
    | _ => r.E sx m o false g fun u g => r.E sx m i false g fun v g => vItem u v g Q)
  | .ListComp elt gens sc p => oB (one gens) fun gn => bB (decide (gn.is_async = 0)) (bB (compOk m sc) (oB (targetNames gn.target) fun names => vComp r sx m elt gn.target names gn.iter gn.ifs sc.names (p.line * 1000 + p.col) g fun xs g => vNewList own xs g Q))
  | .Call f args kw pos => (match kw with
    | [] => (match f with
      | .Attribute o name apos => bB (okEs args && !isCallE o && Nat.beq apos.endLine pos.line && Nat.ble args.length 20) (r.E sx m o false g fun u g => vMeth u name g fun me => vEs r sx m args g fun vs g => vMeCall sx me u vs g Q)
      | .Name x _ => (match args with
        | [.DictComp k v gens dsc _] => vName sx m x g fun u g => bB (isSorted u) (vSortD sx m k v gens dsc g Q)
        | _ => bB (okEs args) (vName sx m x g fun u g => bB (vKp u) (vEs r sx m args g fun vs g => vCall sx u vs own g Q)))
      | _ => False)
    | kwd :: kws => bB kws.isEmpty (oB (nameE f) fun x => oB kwd.arg fun k => oB (nameE kwd.value) fun y => bB (okEs args && sEq k nmKey && !args.isEmpty) (vName sx m x g fun u g => bB (isSorted u) (vEs r sx m args g fun vs g => vName sx m y g fun w g => vSortK vs w g Q))))
  | _ => False

noncomputable def stepT (r : Rc) (sx : SX) (m : Mp) (e : Expr) (g : G) (k : Bool → G → Prop) : Prop := match e with
  | .UnaryOp op a _ => (match op with
    | .Not => r.T sx m a g fun b g => k (!b) g
    | _ => False)
  | .BoolOp op es p => (match nmem p.line sx.pu with
    | true => vTPure r sx m op es g k
    | false => vTBoolOp r sx m op es g k)
  | .Compare a ops es _ => bB (okEs es) (r.E sx m a false g fun u g => vChain r sx m u ops es g k)
  | .IfExp .. => False
  | e => r.E sx m e false g fun v g => vBool v fun b => k b g

noncomputable def vStoreAll : List Str → List V → Mp → (Mp → Prop) → Prop
  | [], [], m, k => k m
  | x :: xs, v :: vs, m, k => vStore x v m fun m => vStoreAll xs vs m k
  | _, _, _, _ => False
noncomputable def namesOf : List Expr → Option (List Str)
  | [] => some []
  | e :: r => (nameE e).bind fun x => (namesOf r).map (x :: ·)
/-- the values of a written tuple that is taken apart at once -/
noncomputable def vEsM (r : Rc) (sx : SX) (m : Mp) : List Str → List Expr → G → (List V → G → Prop) → Prop
  | [], [], g, k => k [] g
  | x :: xs, e :: es, g, k => r.E sx m e (sx.mu.any fun y => sEq x y) g fun v g => vEsM r sx m xs es g fun vs g => k (v :: vs) g
  | _, _, _, _ => False
noncomputable def isComp (e : Expr) : Bool := Nat.beq (tagE e) 5 || (Nat.beq (tagE e) 6 || Nat.beq (tagE e) 7)

noncomputable def okAsg (e : Expr) : Bool := !(Nat.beq (tagE e) 6 || Nat.beq (tagE e) 7)
noncomputable def notConst (e : Expr) : Bool := Nat.beq (tagE e) 2 || (Nat.beq (tagE e) 3 || Nat.beq (tagE e) 5)
noncomputable def isNext : Fl → Prop
  | .next => True
  | .ret _ => False
noncomputable def vJoin : List Str → Mp → (Mp → Prop) → Prop
  | [], m, k => k m
  | x :: xs, m, k => ∃ i : Int, vJoin xs (msetN x (dI i) m) k

/-- a new empty list is stored into an object -/
noncomputable def vListField (u : V) (name : Str) (g : G) (Q : G → Prop) : Prop := match u with
  | .inst b n C dx => (match lget (g.sel b) n with
    | some p => (match p.2 with
      | .idict fs => (match slook name fs with
        | some old => (match old with
          | .loc b' i a => (b = b' ∧ i ≠ n ∧ (lget (g.sel b) i).isSome = true) ∧ ∀ a', vSetAttr u name (.loc b i a') g fun g => Q (g.setL b (lset (g.sel b) i (a', .list [])))
          | _ => False)
        | none => bB b (∀ a', vSetAttr u name (.loc true g.own.length a') g fun g => Q { g with own := g.own ++ [(a', .list [])] }))
      | _ => False)
    | none => False)
  | _ => False
noncomputable def stepX (r : Rc) (sx : SX) (st : Stmt) (m : Mp) (g : G) (Q : QX) : Prop := match st with
  | .Expr e _ => (match e with
    | .Call .. => r.E sx m e false g fun _ g => Q .next m g
    | _ => False)
  | .Return e _ => (match e with
    | some e => r.E sx m e false g fun v g => vFreeze g v fun v g => Q (.ret v) m g
    | none => False)
  | .Assign ts e _ => (match ts with
    | [t] => (match t with
      | .Name x _ => bB (okAsg e) (r.E sx m e (sx.mu.any fun y => sEq x y) g fun v g => vStore x v m fun m => Q .next m g)
      | .Tuple ts _ _ => oB (namesOf ts) fun xs => (match e with
        | .Tuple es _ _ => bB (es.any notConst && okEs es && Nat.ble xs.length 20) (vEsM r sx m xs es g fun vs g => vStoreAll xs vs m fun m => Q .next m g)
        | .Call .. => r.E sx m e false g fun v g => (match v with
          | .d (.tuple ys) => vStoreAll xs (ys.map .d) m fun m => Q .next m g
          | .d (.list ys) => vStoreAll xs (ys.map .d) m fun m => Q .next m g
          | _ => False)
        | _ => False)
      | .Subscript o i _ => isComp e = false ∧ r.E sx m e false g fun v g => r.E sx m o false g fun u g => r.E sx m i false g fun w g => vSetItem u w v g fun g => Q .next m g
      | .Attribute o name _ => isComp e = false ∧ (match e with
        | .List [] _ => (match o with
          | .Name y _ => vName sx m y g fun u g => vListField u name g fun g => Q .next m g
          | _ => False)
        | _ => r.E sx m e false g fun v g => r.E sx m o false g fun u g => vSetAttr u name v g fun g => Q .next m g)
      | _ => False)
    | _ => False)
  | .AugAssign t op e _ => (match t, op with
    | .Name x _, .Add => vName sx m x g fun u g => r.E sx m e false g fun v g => vInt u fun i => vInt v fun j => vStore x (dI (i + j)) m fun m => Q .next m g
    | _, _ => False)
  | .If t a b p => r.T sx m t g fun c g => (match nlook p.line sx.jn with
    | none => br c (vXs r sx a m g Q) (vXs r sx b m g Q)
    | some xs => vJoin xs m fun m' => br c (vXs r sx a m g fun fl m₁ g₁ => isNext fl ∧ m₁ = m' ∧ g₁ = g) (vXs r sx b m g fun fl m₁ g₁ => isNext fl ∧ m₁ = m' ∧ g₁ = g) ∧ Q .next m' g)
  | .While t b o p => (match o with
    | [] => let J := sx.winv p.line
      ∃ a n, J.st a = (m, g) ∧ J.I a n ∧ ∀ a n, J.I a n → r.T sx (J.st a).1 t (J.st a).2 fun c g => br c (vXs r sx b (J.st a).1 g fun fl m g => (match fl with
        | .next => ∃ a n', J.st a = (m, g) ∧ n' < n ∧ J.I a n'
        | .ret v => Q (.ret v) m g)) (Q .next (J.st a).1 g)
    | _ => False)
  | .For t it b o p => (match o with
    | [] => oB (targetNames t) fun names => vIter r sx m t it g fun xs still g => ∃ q : (sx.inv p.line).β, let J := (sx.inv p.line).J q
      ∃ a, J.st a = (m, g) ∧ J.I a xs ∧ (∀ a y rest, J.I a (y :: rest) → still (J.st a).2 ∧ vTarget names y (J.st a).1 fun m => vXs r sx b m (J.st a).2 fun fl m g => (match fl with
        | .next => ∃ a, J.st a = (m, g) ∧ J.I a rest
        | .ret v => Q (.ret v) m g)) ∧ ∀ a, J.I a [] → still (J.st a).2 ∧ Q .next (J.st a).1 (J.st a).2
    | _ => False)
  | _ => False

noncomputable def bot : Rc := ⟨fun _ _ _ _ _ _ => False, fun _ _ _ _ _ => False, fun _ _ _ _ _ => False⟩
noncomputable def stepR (r : Rc) : Rc := ⟨stepE r, stepT r, stepX r⟩
noncomputable def vc : Nat → Rc
  | 0 => bot
  | n + 1 => stepR (vc n)

/-- what a frame made, handed to its caller -/
noncomputable def V.shift (k : Nat) : V → V
  | .loc o i a => (match o with
    | true => .loc false (k + i) a
    | false => .loc false i a)
  | .inst o i C dx => (match o with
    | true => .inst false (k + i) C dx
    | false => .inst false i C dx)
  | v => v
noncomputable def AO.shift (k : Nat) : AO → AO
  | .dict fs => .dict (fs.map fun p => (p.1, p.2.shift k))
  | .idict fs => .idict (fs.map fun p => (p.1, p.2.shift k))
  | ao => ao
noncomputable def vExit (v : V) (g : G) (Q : V → Led → Prop) : Prop := match v.port with
  | true => Q v g.out
  | false => Q (v.shift g.out.length) (g.out ++ g.own.map fun p => (p.1, p.2.shift g.out.length))
noncomputable def exitQ (Q : V → Led → Prop) : QX := fun fl _ g => match fl with
  | .next => Q (.d .none) g.out
  | .ret v => vExit v g Q

/-- the frame at a call -/
noncomputable def initM (args : List (Str × V)) : List (Str × NameKind) → Mp
  | [] => []
  | p :: r => match p.2 with
    | .local => (p.1, false, slook p.1 args) :: initM args r
    | .cell => (p.1, true, slook p.1 args) :: initM args r
    | _ => initM args r
end
end Mine

set_option maxRecDepth 100000
namespace Mine
open PySem PySem.W PySem.Calls PyProof.Rows PySem.Spec
open PySem.W.Fast (sEq sEq_iff)

structure Room (A : Around) (n : Nat) : Prop where
  h : A.handled = none
  d : A.depth + 4 * n ≤ 900
  u : A.units + 40 * n ≤ 9000
theorem cLine_eq : cLine = 9900 := rfl
theorem Room.units {A : Around} {n : Nat} (R : Room A n) : A.units + 64 < cLine := by have := R.u; rw [cLine_eq]; (first | lia | omega)
theorem Room.units0 {A : Around} {n : Nat} (R : Room A n) : A.units < cLine := by have := R.units; (first | lia | omega)
theorem Room.depth {A : Around} {n : Nat} (R : Room A n) : A.depth < recursionLimit := by have := R.d; show A.depth < 1000; (first | lia | omega)

noncomputable abbrev mdl (c : Cx) : Model := model c.prog c.w
noncomputable def no {α : Type} : α → Shared → Prop := fun _ _ => False

/-- what an operation hands on -/
inductive Gives (c : Cx) (f : Fm) (P : Prt) (m : Mp) (ds : List V) (vs : List Value) (Q : QV) (v : Value) (s' : Shared) : Prop
  | mk (d : V) (g' : G) (S : Sat c f P m g' (d :: ds) (v :: vs) s') (q : Q d g') : Gives c f P m ds vs Q v s'
inductive GivesL (c : Cx) (f : Fm) (P : Prt) (m : Mp) (ds : List V) (vs : List Value) (Q : List V → G → Prop) (ws : List Value) (s' : Shared) : Prop
  | mk (es : List V) (g' : G) (S : Sat c f P m g' (es ++ ds) (ws ++ vs) s') (hl : ws.length = es.length) (q : Q es g') : GivesL c f P m ds vs Q ws s'
inductive GivesT (c : Cx) (f : Fm) (P : Prt) (m : Mp) (ds : List V) (vs : List Value) (Q : Bool → G → Prop) (b : Bool) (s' : Shared) : Prop
  | mk (g' : G) (S : Sat c f P m g' ds vs s') (q : Q b g') : GivesT c f P m ds vs Q b s'
inductive GivesU (c : Cx) (f : Fm) (P : Prt) (m : Mp) (ds : List V) (vs : List Value) (Q : G → Prop) (s' : Shared) : Prop
  | mk (g' : G) (S : Sat c f P m g' ds vs s') (q : Q g') : GivesU c f P m ds vs Q s'
inductive GivesM (c : Cx) (f : Fm) (P : Prt) (g : G) (ds : List V) (vs : List Value) (k : Mp → Prop) (s' : Shared) : Prop
  | mk (m' : Mp) (S : Sat c f P m' g ds vs s') (q : k m') : GivesM c f P g ds vs k s'
inductive Gives2 (c : Cx) (f : Fm) (P : Prt) (ds : List V) (vs : List Value) (T : Mp → G → Prop) (s' : Shared) : Prop
  | mk (m' : Mp) (g' : G) (S : Sat c f P m' g' ds vs s') (q : T m' g') : Gives2 c f P ds vs T s'
inductive GivesB (c : Cx) (f : Fm) (P : Prt) (m : Mp) (ds : List V) (vs : List Value) (k : Bool → G → Prop) (w : Value) (s' : Shared) : Prop
  | mk (b : Bool) (g' : G) (e : w = .bool b) (S : Sat c f P m g' ds vs s') (q : k b g') : GivesB c f P m ds vs k w s'
inductive GivesN (c : Cx) (f : Fm) (P : Prt) (ds : List V) (vs : List Value) (Q : QX) (s' : Shared) : Prop
  | mk (m : Mp) (g : G) (S : Sat c f P m g ds vs s') (q : Q .next m g) : GivesN c f P ds vs Q s'
inductive GivesR (c : Cx) (f : Fm) (P : Prt) (ds : List V) (vs : List Value) (Q : QX) (v : Value) (s' : Shared) : Prop
  | mk (d : V) (m : Mp) (g : G) (S : Sat c f P m g (d :: ds) (v :: vs) s') (q : Q (.ret d) m g) : GivesR c f P ds vs Q v s'
/-- what an expression's tree hands on -/
noncomputable def EvP (c : Cx) (f : Fm) (m : Mp) (g : G) (t : Sem Value) (Q : QV) : Prop :=
  ∀ P ds vs s, Sat c f P m g ds vs s → wpAny (mdl c) f.A t (Gives c f P m ds vs Q) no s
noncomputable def EvsP (c : Cx) (f : Fm) (m : Mp) (g : G) (t : Sem (List Value)) (Q : List V → G → Prop) : Prop :=
  ∀ P ds vs s, Sat c f P m g ds vs s → wpAny (mdl c) f.A t (GivesL c f P m ds vs Q) no s
noncomputable def TeP (c : Cx) (f : Fm) (m : Mp) (g : G) (t : Sem Bool) (Q : Bool → G → Prop) : Prop :=
  ∀ P ds vs s, Sat c f P m g ds vs s → wpAny (mdl c) f.A t (GivesT c f P m ds vs Q) no s
noncomputable def flowIs (c : Cx) (f : Fm) (P : Prt) (ds : List V) (vs : List Value) (Q : QX) (fl : Flow) (s : Shared) : Prop := match fl with
  | .next => GivesN c f P ds vs Q s
  | .ret v => GivesR c f P ds vs Q v s
  | _ => False
noncomputable def ExP (c : Cx) (f : Fm) (m : Mp) (g : G) (t : Sem Flow) (Q : QX) : Prop :=
  ∀ P ds vs s, Sat c f P m g ds vs s → wpAny (mdl c) f.A t (flowIs c f P ds vs Q) no s

theorem no_imp {α : Type} {E : α → Shared → Prop} : ∀ e s, (no : α → Shared → Prop) e s → E e s := fun _ _ x => x.elim

/-! reading the abstract values -/
section
variable {Pr : Params} {z h : Heap} {v : Value} {u : V}
theorem rd_int {i : Int} (r : Rd z v (.int i)) : ∃ t, v = .int i t := by obtain ⟨_, r⟩ := r; cases r; exact ⟨_, rfl⟩
theorem rd_bool {i : Bool} (r : Rd z v (.bool i)) : v = .bool i := by obtain ⟨_, r⟩ := r; cases r; rfl
theorem rd_none (r : Rd z v .none) : v = .none := by obtain ⟨_, r⟩ := r; cases r; rfl
theorem rd_str {i : Str} (r : Rd z v (.str i)) : ∃ t, v = .str i t := by obtain ⟨_, r⟩ := r; cases r; exact ⟨_, rfl⟩
inductive RdL (z : Heap) (v : Value) (xs : List PyData) : Prop
  | mk (l : Addr) (vs : Array Value) (e : v = .ref l) (h : z.IsList l vs) (r : RdAll z vs.toList xs) : RdL z v xs
inductive RdT (z : Heap) (v : Value) (xs : List PyData) : Prop
  | mk (l : Addr) (vs : Array Value) (e : v = .ref l) (h : z.IsTuple l vs) (r : RdAll z vs.toList xs) : RdT z v xs
theorem rd_list {xs : List PyData} (r : Rd z v (.list xs)) : RdL z v xs := by
  obtain ⟨_, r⟩ := r
  cases r with
  | list h1 h2 h3 h4 => exact ⟨_, _, rfl, ⟨_, h1, h2, _, h3⟩, _, h4⟩
theorem rd_tuple {xs : List PyData} (r : Rd z v (.tuple xs)) : RdT z v xs := by
  obtain ⟨_, r⟩ := r
  cases r with
  | tuple h1 h2 h3 h4 => exact ⟨_, _, rfl, ⟨_, h1, h2, _, h3⟩, _, h4⟩
theorem Rd.int {i : Int} {t : Tok} : Rd z (.int i t) (.int i) := ⟨_, .int i t⟩
theorem Rd.bool {i : Bool} : Rd z (.bool i) (.bool i) := ⟨_, .bool i⟩
theorem Rd.none : Rd z .none .none := ⟨_, .none⟩
theorem Rd.str {i : Str} {t : Tok} : Rd z (.str i t) (.str i) := ⟨_, .str i t⟩
theorem Rd.list {l : Addr} {o : Obj} {vs : Array Value} {n : Nat} {xs : List PyData} (h : z.get? l = some o) (hc : o.cls = .type "list") (hd : o.data = .seq vs n) (r : RdAll z vs.toList xs) : Rd z (.ref l) (.list xs) := let ⟨_, r⟩ := r; ⟨_, .list h hc hd r⟩
theorem Rd.tuple {l : Addr} {o : Obj} {vs : Array Value} {n : Nat} {xs : List PyData} (h : z.get? l = some o) (hc : o.cls = .type "tuple") (hd : o.data = .seq vs n) (r : RdAll z vs.toList xs) : Rd z (.ref l) (.tuple xs) := let ⟨_, r⟩ := r; ⟨_, .tuple h hc hd r⟩
theorem RdAll.nil : RdAll z [] [] := ⟨_, .nil⟩
theorem RdAll.cons {vs : List Value} {x : PyData} {xs : List PyData} (a : Rd z v x) (b : RdAll z vs xs) : RdAll z (v :: vs) (x :: xs) := let ⟨_, a⟩ := a; let ⟨_, b⟩ := b; ⟨_, .cons a b⟩
theorem RdAll.inv {vs : List Value} {x : PyData} {xs : List PyData} (a : RdAll z (v :: vs) (x :: xs)) : Rd z v x ∧ RdAll z vs xs := by
  obtain ⟨_, a⟩ := a
  cases a with
  | cons a b => exact ⟨⟨_, a⟩, _, b⟩
theorem RdAll.length : ∀ {vs : List Value} {xs : List PyData}, RdAll z vs xs → vs.length = xs.length
  | [], xs, a => by obtain ⟨_, a⟩ := a; cases a; rfl
  | w :: vs, [], a => by obtain ⟨_, a⟩ := a; cases a
  | w :: vs, y :: xs, a => by simp [a.inv.2.length]
theorem RdAll.get : ∀ {vs : List Value} {xs : List PyData}, RdAll z vs xs → ∀ {j : Nat} {x : PyData}, xs[j]? = some x → ∃ v, vs[j]? = some v ∧ Rd z v x
  | [], xs, a, j, x, h => by obtain ⟨_, a⟩ := a; cases a; cases h
  | v :: vs, [], a, j, x, h => by cases h
  | v :: vs, y :: xs, a, 0, x, h => by cases h; exact ⟨v, rfl, a.inv.1⟩
  | v :: vs, y :: xs, a, j + 1, x, h => a.inv.2.get h
theorem RdAll.get' : ∀ {vs : List Value} {xs : List PyData}, RdAll z vs xs → ∀ {j : Nat} {v : Value}, vs[j]? = some v → ∃ x, xs[j]? = some x ∧ Rd z v x
  | [], xs, a, j, x, h => by cases h
  | v :: vs, [], a, j, x, h => by obtain ⟨_, a⟩ := a; cases a
  | v :: vs, y :: xs, a, 0, x, h => by cases h; exact ⟨y, rfl, a.inv.1⟩
  | v :: vs, y :: xs, a, j + 1, x, h => a.inv.2.get' h
theorem RdAll.append : ∀ {vs ws : List Value} {xs ys : List PyData}, RdAll z vs xs → RdAll z ws ys → RdAll z (vs ++ ws) (xs ++ ys)
  | [], ws, xs, ys, a, b => by obtain ⟨_, a⟩ := a; cases a; exact b
  | v :: vs, ws, [], ys, a, b => by obtain ⟨_, a⟩ := a; cases a
  | v :: vs, ws, x :: xs, ys, a, b => .cons a.inv.1 (a.inv.2.append b)
theorem RdAll.set : ∀ {vs : List Value} {xs : List PyData}, RdAll z vs xs → ∀ {j : Nat} {v : Value} {x : PyData}, Rd z v x → RdAll z (vs.set j v) (xs.set j x)
  | [], xs, a, j, v, x, h => by obtain ⟨_, a⟩ := a; cases a; exact .nil
  | w :: vs, [], a, j, v, x, h => by obtain ⟨_, a⟩ := a; cases a
  | w :: vs, y :: xs, a, 0, v, x, h => .cons h a.inv.2
  | w :: vs, y :: xs, a, j + 1, v, x, h => .cons a.inv.1 (a.inv.2.set h)
theorem RdAll.take : ∀ {vs : List Value} {xs : List PyData} (n : Nat), RdAll z vs xs → RdAll z (vs.take n) (xs.take n)
  | _, _, 0, a => by simp; exact .nil
  | [], xs, n + 1, a => by obtain ⟨_, a⟩ := a; cases a; exact .nil
  | w :: vs, [], n + 1, a => by obtain ⟨_, a⟩ := a; cases a
  | w :: vs, y :: xs, n + 1, a => .cons a.inv.1 (a.inv.2.take n)

inductive IntAt (u : V) (v : Value) (k : Int → Prop) : Prop
  | mk (i : Int) (t : Tok) (e : u = dI i) (e' : v = .int i t) (q : k i) : IntAt u v k
inductive BoolAt (u : V) (v : Value) (k : Bool → Prop) : Prop
  | mk (i : Bool) (e : u = dB i) (e' : v = .bool i) (q : k i) : BoolAt u v k
inductive SomeAt {α : Type} (o : Option α) (k : α → Prop) : Prop
  | mk (y : α) (e : o = some y) (q : k y) : SomeAt o k
theorem vInt_inv {k : Int → Prop} (r : RepV Pr z v u) (h : vInt u k) : IntAt u v k := by
  cases u with
  | d x => cases x with
    | int i => obtain ⟨t, rfl⟩ := rd_int r; exact ⟨i, t, rfl, rfl, h⟩
    | _ => cases h
  | _ => cases h
theorem vBool_inv {k : Bool → Prop} (r : RepV Pr z v u) (h : vBool u k) : BoolAt u v k := by
  cases u with
  | d x => cases x with
    | bool i => obtain rfl := rd_bool r; exact ⟨i, rfl, rfl, h⟩
    | _ => cases h
  | _ => cases h
theorem oB_inv {α : Type} {o : Option α} {k : α → Prop} (h : oB o k) : SomeAt o k := by
  cases o with
  | none => cases h
  | some y => exact ⟨y, rfl, h⟩
end

section
variable {c : Cx} {f : Fm} {P : Prt} {m : Mp} {g : G} {ds : List V} {vs : List Value} {s : Shared}
theorem Sat.sel (S : Sat c f P m g ds vs s) (o : Bool) : ∀ p ∈ g.sel o, AOIs c (fz s.heap (muts f P g)) s.heap p.1 p.2 := by
  cases o
  · exact S.out
  · exact S.own
theorem lget_mem {l : Led} {i : Nat} {p : Addr × AO} (h : lget l i = some p) : p ∈ l := List.mem_of_getElem? h

inductive ViewAt (h z : Heap) (v : Value) (k : List PyData → Prop) : Prop
  | mk (l : Addr) (ws : Array Value) (xs : List PyData) (e : v = .ref l) (hl : h.IsList l ws) (hr : RdAll z ws.toList xs) (q : k xs) : ViewAt h z v k
/-- a list, wherever it lies -/
theorem vView_inv {k : List PyData → Prop} {v : Value} {u : V} (S : Sat c f P m g ds vs s) (r : RepV c.w.params (fz s.heap (muts f P g)) v u) (h : vView g u k) :
    ViewAt s.heap (fz s.heap (muts f P g)) v k := by
  cases u with
  | d x => cases x with
    | list xs => obtain ⟨l, ws, rfl, h1, h2⟩ := rd_list r; exact ⟨l, ws, xs, rfl, h1.at fun o e => fz_in _ _ e, h2, h⟩
    | _ => cases h
  | loc o i a =>
    obtain rfl := r
    unfold vView at h
    dsimp only at h
    split at h
    · rename_i p hp
      split at h
      · rename_i xs hx
        obtain ⟨rfl, hk⟩ := h
        have := S.sel o p (lget_mem hp)
        rw [hx] at this
        obtain ⟨ws, n, h1, h2⟩ := this
        exact ⟨_, ws, xs, rfl, ⟨_, h1, rfl, _, rfl⟩, h2, hk⟩
      · cases h
    · cases h
  | _ => cases h
theorem vView_rd {k : List PyData → Prop} {v : Value} {u : V} (S : Sat c f P m g ds vs s) (r : RepV c.w.params (fz s.heap (muts f P g)) v u) (h : vView g u k) :
    ∃ xs, Rd s.heap v (.list xs) ∧ k xs := by
  obtain ⟨l, ws, xs, rfl, ⟨o, h1, h2, n, h3⟩, h4, h5⟩ := vView_inv S r h
  exact ⟨xs, Rd.list h1 h2 h3 (h4.keeps fz_in), h5⟩
theorem Sat.push2 (S : Sat c f P m g ds vs s) {v : Value} {x : PyData} (r : Rd (fz s.heap (muts f P g)) v x) : Sat c f P m g (.d x :: ds) (v :: vs) s := S.push (d := .d x) r
theorem Sat.pushI (S : Sat c f P m g ds vs s) {i : Int} {t tk : Tok} : Sat c f P m g (dI i :: ds) (.int i t :: vs) { s with toks := tk } := S.toks.push2 Rd.int
theorem Sat.pushB (S : Sat c f P m g ds vs s) {i : Bool} : Sat c f P m g (dB i :: ds) (.bool i :: vs) s := S.push2 Rd.bool
theorem Sat.pop2 {d e : V} {v w : Value} (S : Sat c f P m g (d :: e :: ds) (v :: w :: vs) s) : Sat c f P m g ds vs s := S.pop.pop
theorem Sat.snd {d e : V} {v w : Value} (S : Sat c f P m g (d :: e :: ds) (v :: w :: vs) s) : RepV c.w.params (fz s.heap (muts f P g)) w e := S.pop.top
end
end Mine

set_option maxRecDepth 100000
namespace Mine
open PySem PySem.W PySem.Calls PyProof.Rows PySem.Spec
open PySem.W.Fast (sEq sEq_iff)

section
variable {c : Cx} {f : Fm} {P : Prt} {m : Mp} {g : G} {ds : List V} {vs : List Value} {s : Shared} {n : Nat}

theorem gives_int {i : Int} {t tk : Tok} {Q : QV} (S : Sat c f P m g ds vs s) (h : Q (dI i) g) : Gives c f P m ds vs Q (.int i t) { s with toks := tk } := ⟨_, g, S.pushI, h⟩
theorem gives_bool {i : Bool} {Q : QV} (S : Sat c f P m g ds vs s) (h : Q (dB i) g) : Gives c f P m ds vs Q (.bool i) s := ⟨_, g, S.pushB, h⟩

theorem lists_add {A : Around} {E : Value → Shared → Prop} {s : Shared} {l b : Addr} {its its2 : Array Value} {Q : Value → Shared → Prop} (hl : s.heap.IsList l its) (hb : s.heap.IsList b its2) (hsz : its.size + its2.size ≤ sizeLine)
    {prog : Program} {w : World} (h : Q (.ref s.heap.objs.size) { s with heap := s.heap.push { cls := .type "list", data := .seq (its.toList ++ its2.toList).toArray } }) : wpAny (model prog w) A (binaryOp .Add (.ref l) (.ref b)) Q E s := by
  obtain ⟨⟨cls, dd, data, sl⟩, ho, hc, n, hd⟩ := id hl
  obtain ⟨⟨cls2, dd2, data2, sl2⟩, ho2, hc2, n2, hd2⟩ := id hb
  simp only at hc hd hc2 hd2
  subst hc hd hc2 hd2
  refine concat_meets ⟨_, ho, rfl⟩ ⟨_, ho2, rfl⟩ noFill_list_add seq_list_add PySem.F.slot_list_add PySem.F.entry_list_add (PySem.F.args_list_add_2 _ _) (list_addW l b its its2 n n2 dd dd2 sl sl2 (by simpa using hsz)) ⟨ho, ho2, ?_⟩
  have e : its ++ its2 = (its.toList ++ its2.toList).toArray := by simp
  rw [e]
  exact h

theorem op_bin {op : Operator} {a b : Value} {u v : V} {Q : QV} (R : Room f.A n) (S : Sat c f P m g (v :: u :: ds) (b :: a :: vs) s) (h : vBin op u v g Q) :
    wpAny (mdl c) f.A (binaryOp op a b) (Gives c f P m ds vs Q) no s := by
  have ru := S.snd
  have rv := S.top
  have S' := S.pop2
  have bothI : ∀ {k : Int → Int → Prop}, vInt u (fun x => vInt v fun y => k x y) → ∃ x t y t', a = .int x t ∧ b = .int y t' ∧ k x y := fun {k} h => by
    obtain ⟨x, t, -, rfl, h⟩ := vInt_inv ru h
    obtain ⟨y, t', -, rfl, h⟩ := vInt_inv rv h
    exact ⟨x, t, y, t', rfl, rfl, h⟩
  cases op with
  | Sub => obtain ⟨x, t, y, t', rfl, rfl, h⟩ := bothI h; exact PyProof.Rows.sub_int (gives_int S' h)
  | Mod => obtain ⟨x, t, y, t', rfl, rfl, h0, h⟩ := bothI h; exact PyProof.Rows.mod_int h0 (gives_int S' h)
  | FloorDiv =>
    obtain ⟨x, t, y, t', rfl, rfl, ⟨h0, h1⟩, h⟩ := bothI h
    exact PyProof.Rows.floordiv_int h0 (gives_int S' h) (.inl (PyProof.noPylong_small h1))
  | Add =>
    cases u with
    | d da => cases da with
      | int x =>
        obtain ⟨t, rfl⟩ := rd_int ru
        obtain ⟨y, t', -, rfl, h⟩ := vInt_inv rv h
        exact PyProof.Rows.add_int (gives_int S' h)
      | list xs =>
        obtain ⟨l, ws, rfl, h1, h2⟩ := rd_list ru
        obtain ⟨l', ws', ys, rfl, h3, h4, h5, h6⟩ := vView_inv S rv h
        have hz : ws.size + ws'.size ≤ 1000 := by have := h2.length; have := h4.length; simp at *; (first | lia | omega)
        refine lists_add (h1.at fun o e => fz_in _ _ e) h3 (Nat.le_trans hz (by decide)) ?_
        obtain ⟨S₁, e, k⟩ := S'.alloc (o := { cls := .type "list", data := .seq (ws.toList ++ ws'.toList).toArray }) (tk := s.toks) rfl
        exact ⟨_, g, S₁.push2 (Rd.list e rfl rfl (by simpa using (h2.append h4).keeps k)), h6⟩
      | _ => cases h
    | _ => cases h
  | Mult =>
    cases u with
    | d da => cases da with
      | int x =>
        obtain ⟨t, rfl⟩ := rd_int ru
        obtain ⟨y, t', -, rfl, h0, h⟩ := vInt_inv rv h
        exact PyProof.Rows.mul_int (gives_int S' h) h0
      | _ => cases h
    | _ => cases h
  | _ => cases h

theorem eqvAll_list {xs ys : List PyData} : PyData.eqv (.list xs) (.list ys) = PyData.eqvAll xs ys := by simp [PyData.eqv]
theorem eqvAll_tuple {xs ys : List PyData} : PyData.eqv (.tuple xs) (.tuple ys) = PyData.eqvAll xs ys := by simp [PyData.eqv]

theorem eq_both {a b : Value} {x y : PyData} (R : Room f.A n) (ra : Rd s.heap a x) (rb : Rd s.heap b y) (hx : SeqAt.shaped x = true) (hy : SeqAt.shaped y = true) (k : Bool → Prop) (h : k (PyData.eqv x y)) :
    (∀ Q : Value → Shared → Prop, (∀ b, k b → Q (.bool b) s) → wpAny (mdl c) f.A (compareOp .Eq a b) Q no s) ∧ (∀ Q : Value → Shared → Prop, (∀ b, k b → Q (.bool (!b)) s) → wpAny (mdl c) f.A (compareOp .NotEq a b) Q no s) := by
  obtain ⟨as, ra⟩ := ra
  obtain ⟨bs, rb⟩ := rb
  exact ⟨fun Q hq => SeqAt.compareEq_shaped ra rb hx hy R.units (hq _ h), fun Q hq => SeqAt.compareNe_shaped ra rb hx hy R.units (hq _ h)⟩

theorem op_eq {a b : Value} {u v : V} {k : Bool → Prop} (R : Room f.A n) (S : Sat c f P m g (v :: u :: ds) (b :: a :: vs) s) (h : vEq u v g k) :
    (∀ Q : Value → Shared → Prop, (∀ b, k b → Q (.bool b) s) → wpAny (mdl c) f.A (compareOp .Eq a b) Q no s) ∧ (∀ Q : Value → Shared → Prop, (∀ b, k b → Q (.bool (!b)) s) → wpAny (mdl c) f.A (compareOp .NotEq a b) Q no s) := by
  have ru := S.snd
  have rv := S.top
  cases u with
  | d da => cases da with
    | int x =>
      obtain ⟨t, rfl⟩ := rd_int ru
      obtain ⟨y, t', -, rfl, h⟩ := vInt_inv rv h
      exact ⟨fun Q hq => PyProof.Rows.eq_int (hq _ h), fun Q hq => PyProof.Rows.ne_int (by rw [bne]; exact hq _ h)⟩
    | bool x =>
      obtain rfl := rd_bool ru
      obtain ⟨y, -, rfl, h⟩ := vBool_inv rv h
      exact ⟨fun Q hq => PyProof.Rows.eq_bool (hq _ h), fun Q hq => PyProof.Rows.ne_bool (by rw [bne]; exact hq _ h)⟩
    | str x =>
      obtain ⟨t, rfl⟩ := rd_str ru
      cases v with
      | d db => cases db with
        | str y =>
          obtain ⟨t', rfl⟩ := rd_str rv
          have e : (x == y) = sEq x y := by
            by_cases q : x = y
            · rw [beq_iff_eq.mpr q, sEq_iff.mpr q]
            · rw [beq_eq_false_iff_ne.mpr q]; exact (Bool.eq_false_iff.mpr fun z => q (sEq_iff.mp z)).symm
          refine ⟨fun Q hq => PyProof.Rows.eq_str (by rw [e]; exact hq _ h), fun Q hq => PyProof.Rows.ne_str (by rw [bne, e]; exact hq _ h)⟩
        | _ => cases h
      | _ => cases h
    | tuple xs =>
      cases v with
      | d db => cases db with
        | tuple ys =>
          obtain ⟨⟨h1, h2⟩, h3⟩ := h
          exact eq_both R (Rd.keeps fz_in ru) (Rd.keeps fz_in rv) h1 h2 k (by rw [eqvAll_tuple]; exact h3)
        | _ => cases h
      | _ => cases h
    | list xs =>
      obtain ⟨ys, ry, ⟨h1, h2⟩, h3⟩ := vView_rd S rv h
      exact eq_both R (Rd.keeps fz_in ru) ry h1 h2 k (by rw [eqvAll_list]; exact h3)
    | _ => cases h
  | loc o i a' =>
    obtain ⟨xs, rx, h⟩ := vView_rd S ru h
    obtain ⟨ys, ry, ⟨h1, h2⟩, h3⟩ := vView_rd S rv h
    exact eq_both R rx ry h1 h2 k (by rw [eqvAll_list]; exact h3)
  | _ => cases h

theorem op_cmp {op : CmpOp} {a b : Value} {u v : V} {k : Bool → Prop} {Q : Value → Shared → Prop} (R : Room f.A n) (S : Sat c f P m g (v :: u :: ds) (b :: a :: vs) s) (h : vCmp op u v g k) (hq : ∀ b, k b → Q (.bool b) s) :
    wpAny (mdl c) f.A (compareOp op a b) Q no s := by
  have ru := S.snd
  have rv := S.top
  have bothI : ∀ {k : Int → Int → Prop}, vInt u (fun x => vInt v fun y => k x y) → ∃ x t y t', a = .int x t ∧ b = .int y t' ∧ k x y := fun {k} h => by
    obtain ⟨x, t, -, rfl, h⟩ := vInt_inv ru h
    obtain ⟨y, t', -, rfl, h⟩ := vInt_inv rv h
    exact ⟨x, t, y, t', rfl, rfl, h⟩
  cases op with
  | Lt => obtain ⟨x, t, y, t', rfl, rfl, h⟩ := bothI h; exact PyProof.Rows.lt_int (hq _ h)
  | LtE => obtain ⟨x, t, y, t', rfl, rfl, h⟩ := bothI h; exact PyProof.Rows.le_int (hq _ h)
  | Gt => obtain ⟨x, t, y, t', rfl, rfl, h⟩ := bothI h; exact PyProof.Rows.gt_int (hq _ h)
  | GtE => obtain ⟨x, t, y, t', rfl, rfl, h⟩ := bothI h; exact PyProof.Rows.ge_int (hq _ h)
  | Eq => exact (op_eq R S h).1 Q hq
  | NotEq => exact (op_eq (k := fun r => k (!r)) R S h).2 Q fun b hb => hq _ hb
  | In =>
    cases u with
    | d x =>
      obtain ⟨ys, ry, ⟨h1, h2, h4⟩, h3⟩ := vView_rd S rv h
      obtain ⟨as, ry⟩ := ry
      obtain ⟨bs, rx⟩ := Rd.keeps fz_in ru
      refine SeqAt.in_list_reads ry rx h1 h2 ?_ (hq _ h3)
      have := R.units; (first | lia | omega)
    | _ => cases h
  | NotIn =>
    cases u with
    | d x =>
      obtain ⟨ys, ry, ⟨h1, h2, h4⟩, h3⟩ := vView_rd S rv h
      obtain ⟨as, ry⟩ := ry
      obtain ⟨bs, rx⟩ := Rd.keeps fz_in ru
      refine SeqAt.notIn_list_reads ry rx h1 h2 ?_ (hq _ h3)
      have := R.units; (first | lia | omega)
    | _ => cases h
  | Is =>
    cases v with
    | d db => cases db with
      | none =>
        obtain rfl := rd_none rv
        cases u with
        | d da => cases da with
          | none => obtain rfl := rd_none ru; exact wpAny_is_self rfl (hq _ h)
          | list xs => obtain ⟨l, ws, rfl, _⟩ := rd_list ru; exact wpAny_is_other rfl (fun e => nomatch e) (hq _ h)
          | _ => cases h
        | _ => cases h
      | _ => cases h
    | _ => cases h
  | _ => cases h
end
end Mine

set_option maxRecDepth 100000
namespace Mine
open PySem PySem.W PySem.Calls PyProof.Rows PySem.Spec
open PySem.W.Fast (sEq sEq_iff)

/-! the ledger's moves -/
theorem list_split {α : Type} {l : List α} {i : Nat} {x : α} (h : l[i]? = some x) : ∃ pre post, l = pre ++ x :: post ∧ ∀ y, l.set i y = pre ++ y :: post := by
  induction l generalizing i with
  | nil => cases h
  | cons a r ih => cases i with
    | zero => cases h; exact ⟨[], r, rfl, fun _ => rfl⟩
    | succ i =>
      obtain ⟨pre, post, e, k⟩ := ih (i := i) h
      exact ⟨a :: pre, post, by rw [e]; rfl, fun y => by rw [List.set_cons_succ, k y]; rfl⟩
theorem lv_append (a b : Led) : lv (a ++ b) = lv a ++ lv b := by simp [lv]
theorem lv_cons_live {p : Addr × AO} {l : Led} (h : p.2.live = true) : lv (p :: l) = p.1 :: lv l := by simp [lv, h]
theorem lv_cons_gone {p : Addr × AO} {l : Led} (h : p.2.live = false) : lv (p :: l) = lv l := by simp [lv, h]
theorem lv_set {l : Led} {i : Nat} {a : Addr} {ao ao' : AO} (h : lget l i = some (a, ao)) (h1 : ao.live = true) (h2 : ao'.live = true) : lv (lset l i (a, ao')) = lv l := by
  obtain ⟨pre, post, e, k⟩ := list_split h
  unfold lset
  rw [k, e, lv_append, lv_append, lv_cons_live (p := (a, ao)) h1, lv_cons_live (p := (a, ao')) h2]

section
variable {c : Cx} {f : Fm} {P : Prt} {m : Mp} {g : G} {ds : List V} {vs : List Value} {s : Shared} {n : Nat}

theorem muts_setL {b : Bool} {i : Nat} {a : Addr} {ao ao' : AO} (h : lget (g.sel b) i = some (a, ao)) (h1 : ao.live = true) (h2 : ao'.live = true) : muts f P (g.setL b (lset (g.sel b) i (a, ao'))) = muts f P g := by
  cases b with
  | false => have := lv_set h h1 h2; simp only [muts, G.setL, G.sel] at this ⊢; rw [this]
  | true => have := lv_set h h1 h2; simp only [muts, G.setL, G.sel] at this ⊢; rw [this]

theorem Sat.ne_sel (S : Sat c f P m g ds vs s) {b : Bool} {p : Addr × AO} (hp : p ∈ g.sel b) (hl : p.2.live = true) : p.1 ≠ f.env.locals ∧ (∀ q ∈ P, q.1 ≠ p.1) ∧ ∀ a ∈ f.env.cells.map (·.2), a ≠ p.1 := by
  have nd := S.nodup
  have h1 := List.nodup_append.mp nd
  have h2 := List.nodup_append.mp h1.2.1
  have h3 := List.nodup_append.mp h2.2.1
  cases b with
  | true => exact ⟨S.nL_own hp hl, fun q hq => nodup_ne nd (List.mem_map_of_mem hq) (List.mem_append_left _ (mem_lv hp hl)), fun a ha e => nodup_ne h1.2.1 (mem_lv hp hl) (List.mem_append_right _ (.tail _ ha)) e.symm⟩
  | false => exact ⟨S.nL_out hp hl, fun q hq => nodup_ne nd (List.mem_map_of_mem hq) (List.mem_append_right _ (List.mem_append_left _ (mem_lv hp hl))), fun a ha e => nodup_ne h2.2.1 (mem_lv hp hl) (.tail _ ha) e.symm⟩

/-- two live entries of one ledger, at two places, lie apart -/
theorem lv_apart {l : Led} (h : (lv l).Nodup) {pre post : Led} {p : Addr × AO} (e : l = pre ++ p :: post) (hl : p.2.live = true) : (∀ q ∈ pre, q.2.live = true → q.1 ≠ p.1) ∧ ∀ q ∈ post, q.2.live = true → q.1 ≠ p.1 := by
  subst e
  rw [lv_append, lv_cons_live hl] at h
  have h1 := List.nodup_append.mp h
  exact ⟨fun q hq ql => h1.2.2 _ (mem_lv hq ql) _ (.head _), fun q hq ql e => (List.nodup_cons.mp h1.2.1).1 (e ▸ mem_lv hq ql)⟩

/-- an object of the ledger is turned -/
theorem Sat.setObj' {b : Bool} {i : Nat} {a : Addr} {ao ao' : AO} {h' : Heap} {tk : Tok} (S : Sat c f P m g ds vs s) (hi : lget (g.sel b) i = some (a, ao)) (h1 : ao.live = true) (h2 : ao'.live = true)
    (hs : ∀ x, x ≠ a → x ≠ f.env.locals → ∀ o, s.heap.get? x = some o → h'.get? x = some o) (hn : ∀ mm, s.heap.Ns f.env.locals mm → h'.Ns f.env.locals mm)
    (hq : (fz s.heap (muts f P g)).StaysIn (fz h' (muts f P g)) → AOIs c (fz h' (muts f P g)) h' a ao') (hl : ∃ o, h'.get? a = some o) :
    Sat c f P m (g.setL b (lset (g.sel b) i (a, ao'))) ds vs { s with heap := h', toks := tk } := by
  have hm := muts_setL (f := f) (P := P) hi h1 h2
  have hmem := lget_mem hi
  have N := S.ne_sel hmem h1
  have am : a ∈ muts f P g := by
    cases b
    · exact mem_muts_out hmem h1
    · exact mem_muts_own hmem h1
  have hs0 := hs
  replace hs : ∀ x, x ≠ a → (x ≠ f.env.locals) → ∀ o, s.heap.get? x = some o → h'.get? x = some o := hs0
  have nd := List.nodup_append.mp S.nodup
  have nd2 := List.nodup_append.mp nd.2.1
  have nd3 := List.nodup_append.mp nd2.2.1
  refine S.change (fun x o hx _ => by rw [hm]; exact hx) (fun x o hx e => hs x (fun q => hx (q ▸ am)) (fun q => hx (q ▸ mem_muts_L)) o e) (fun p hp => hs _ (N.2.1 p hp) (S.nL_P hp) _ (S.prot p hp)) (fun z => ?_) (fun z => ?_) (fun z => ?_) (by rw [hm]; exact S.nodup) (fun x hx => ?_) (fun z r => r.keeps z)
  · rw [hm] at z ⊢
    cases b with
    | false => exact fun p hp => (S.own p hp).at' z fun ql o e => hs _ (fun q => nodup_ne nd.2.1 (mem_lv hp ql) (List.mem_append_left _ (mem_lv hmem h1)) q) (S.nL_own hp ql) o e
    | true =>
      obtain ⟨pre, post, e, k⟩ := list_split hi
      have ap := lv_apart nd2.1 e h1
      intro p hp
      have hp' : p ∈ pre ++ (a, ao') :: post := by have : p ∈ lset (g.sel true) i (a, ao') := hp; unfold lset at this; rwa [k] at this
      rcases List.mem_append.mp hp' with q | q
      · exact (S.own p (by show p ∈ g.sel true; rw [e]; exact List.mem_append_left _ q)).at' z fun ql o e' => hs _ (ap.1 p q ql) (S.nL_own (by show p ∈ g.sel true; rw [e]; exact List.mem_append_left _ q) ql) o e'
      · rcases List.mem_cons.mp q with rfl | q
        · exact hq z
        · exact (S.own p (by show p ∈ g.sel true; rw [e]; exact List.mem_append_right _ (.tail _ q))).at' z fun ql o e' => hs _ (ap.2 p q ql) (S.nL_own (by show p ∈ g.sel true; rw [e]; exact List.mem_append_right _ (.tail _ q)) ql) o e'
  · rw [hm] at z ⊢
    cases b with
    | true => exact fun p hp => (S.out p hp).at' z fun ql o e => hs _ (fun q => nodup_ne nd.2.1 (mem_lv hmem h1) (List.mem_append_left _ (mem_lv hp ql)) q.symm) (S.nL_out hp ql) o e
    | false =>
      obtain ⟨pre, post, e, k⟩ := list_split hi
      have ap := lv_apart nd3.1 e h1
      intro p hp
      have hp' : p ∈ pre ++ (a, ao') :: post := by have : p ∈ lset (g.sel false) i (a, ao') := hp; unfold lset at this; rwa [k] at this
      rcases List.mem_append.mp hp' with q | q
      · exact (S.out p (by show p ∈ g.sel false; rw [e]; exact List.mem_append_left _ q)).at' z fun ql o e' => hs _ (ap.1 p q ql) (S.nL_out (by show p ∈ g.sel false; rw [e]; exact List.mem_append_left _ q) ql) o e'
      · rcases List.mem_cons.mp q with rfl | q
        · exact hq z
        · exact (S.out p (by show p ∈ g.sel false; rw [e]; exact List.mem_append_right _ (.tail _ q))).at' z fun ql o e' => hs _ (ap.2 p q ql) (S.nL_out (by show p ∈ g.sel false; rw [e]; exact List.mem_append_right _ (.tail _ q)) ql) o e'
  · exact S.frame.move' z hn fun x cc o hc e => hs _ (N.2.2 _ (mem_lookup hc)) (S.nL_cell (mem_lookup hc)) o e
  · rw [hm] at hx
    by_cases q : x = a
    · subst q; exact hl
    · by_cases ql : x = f.env.locals
      · subst ql; obtain ⟨mm, hm', _⟩ := S.frame.ns; obtain ⟨o, _, _, e, _⟩ := hn _ hm'; exact ⟨o, e⟩
      · obtain ⟨o, e⟩ := S.live x hx; exact ⟨o, hs x q ql o e⟩
theorem Sat.setObj {b : Bool} {i : Nat} {a : Addr} {ao ao' : AO} {h' : Heap} {tk : Tok} (S : Sat c f P m g ds vs s) (hi : lget (g.sel b) i = some (a, ao)) (h1 : ao.live = true) (h2 : ao'.live = true)
    (hs : ∀ x, x ≠ a → ∀ o, s.heap.get? x = some o → h'.get? x = some o)
    (hq : (fz s.heap (muts f P g)).StaysIn (fz h' (muts f P g)) → AOIs c (fz h' (muts f P g)) h' a ao') (hl : ∃ o, h'.get? a = some o) :
    Sat c f P m (g.setL b (lset (g.sel b) i (a, ao'))) ds vs { s with heap := h', toks := tk } :=
  S.setObj' hi h1 h2 (fun x hx _ => hs x hx) (fun mm hn => hn.at' fun o e => hs _ (Ne.symm (S.ne_sel (lget_mem hi) h1).1) o e) hq hl


theorem muts_own {l : Led} : muts f P { g with own := l } = P.map (·.1) ++ (lv l ++ (lv g.out ++ (f.env.locals :: f.env.cells.map (·.2)))) := rfl
/-- a new object, the frame's own -/
theorem Sat.pushOwn {ao : AO} {o : Obj} {tk : Tok} (S : Sat c f P m g ds vs s) (hl : ao.live = true) (hf : o.isFreed = false)
    (hq : ∀ z h', (fz s.heap (muts f P g)).StaysIn z → h'.get? s.heap.objs.size = some o → AOIs c z h' s.heap.objs.size ao) :
    Sat c f P m { g with own := g.own ++ [(s.heap.objs.size, ao)] } (.loc true g.own.length s.heap.objs.size :: ds) (.ref s.heap.objs.size :: vs) { s with heap := s.heap.push o, toks := tk } := by
  have hm : ∀ x, x ∈ muts f P { g with own := g.own ++ [(s.heap.objs.size, ao)] } ↔ x = s.heap.objs.size ∨ x ∈ muts f P g := by
    intro x
    have e0 : lv [(s.heap.objs.size, ao)] = [s.heap.objs.size] := lv_cons_live (p := (s.heap.objs.size, ao)) (l := []) hl
    rw [muts_own, lv_append, e0]
    unfold muts
    simp only [List.mem_append, List.mem_cons, List.not_mem_nil, or_false]
    grind
  have new : (s.heap.push o).get? s.heap.objs.size = some o := Heap.get?_push_size _ hf
  have old : ∀ x o', s.heap.get? x = some o' → (s.heap.push o).get? x = some o' := fun x o' e => Heap.get?_push_of_some _ e
  refine S.change (fun x o' hx e => fun q => ?_) (fun x o' hx e => old x o' e) (fun p hp => old _ _ (S.prot p hp)) (fun z p hp => ?_) (fun z p hp => (S.out p hp).move z fun o e => old _ _ e)
    (fun z => S.frame.move z (fun o e => old _ _ e) fun _ _ o _ e => old _ _ e) ?_ (fun x hx => ?_) (fun z r => .cons rfl (r.keeps z))
  · rcases (hm x).mp q with q | q
    · subst q; exact Nat.lt_irrefl _ (Heap.lt_size e)
    · exact hx q
  · rcases List.mem_append.mp hp with q | q
    · exact (S.own p q).move z fun o e => old _ _ e
    · simp only [List.mem_singleton] at q; subst q; exact hq _ _ z new
  · have nd := S.nodup
    have fr := S.fresh
    have e0 : lv [(s.heap.objs.size, ao)] = [s.heap.objs.size] := lv_cons_live (p := (s.heap.objs.size, ao)) (l := []) hl
    rw [muts_own, lv_append, e0]
    have p : (P.map (·.1) ++ ((lv g.own ++ [s.heap.objs.size]) ++ (lv g.out ++ (f.env.locals :: f.env.cells.map (·.2))))).Perm (s.heap.objs.size :: muts f P g) := by
      unfold muts
      refine List.Perm.trans ?_ List.perm_middle
      refine List.Perm.append_left _ ?_
      rw [List.append_assoc]
      exact List.perm_middle
    exact p.nodup_iff.mpr (List.nodup_cons.mpr ⟨fr, nd⟩)
  · rcases (hm x).mp hx with q | q
    · subst q; exact ⟨_, new⟩
    · obtain ⟨o', e⟩ := S.live x q; exact ⟨o', old _ _ e⟩

/-- an own list is frozen -/
theorem Sat.freeze {i : Nat} {a : Addr} {xs : List PyData} (S : Sat c f P m g ds vs s) (hi : lget g.own i = some (a, .list xs)) :
    Sat c f P m { g with own := lset g.own i (a, .gone) } ds vs s ∧ Rd (fz s.heap (muts f P { g with own := lset g.own i (a, .gone) })) (.ref a) (.list xs) := by
  obtain ⟨pre, post, e, k⟩ := list_split hi
  have hmem := lget_mem hi
  have e1 : lv g.own = lv pre ++ a :: lv post := by rw [e, lv_append, lv_cons_live rfl]
  have e2 : lv (lset g.own i (a, .gone)) = lv pre ++ lv post := by unfold lset; rw [k, lv_append, lv_cons_gone rfl]
  have sub : ∀ x, x ∈ muts f P { g with own := lset g.own i (a, .gone) } → x ∈ muts f P g := by
    intro x
    rw [muts_own, e2]
    unfold muts
    rw [e1]
    simp only [List.mem_append, List.mem_cons]
    grind
  have nd := S.nodup
  have nda : a ∉ muts f P { g with own := lset g.own i (a, .gone) } := by
    rw [muts_own, e2]
    unfold muts at nd
    rw [e1] at nd
    have p : (P.map (·.1) ++ ((lv pre ++ a :: lv post) ++ (lv g.out ++ (f.env.locals :: f.env.cells.map (·.2))))).Perm (a :: (P.map (·.1) ++ ((lv pre ++ lv post) ++ (lv g.out ++ (f.env.locals :: f.env.cells.map (·.2)))))) := by
      refine List.Perm.trans (List.Perm.append_left _ (List.Perm.append_right _ List.perm_middle)) ?_
      exact List.perm_middle
    exact (List.nodup_cons.mp (p.nodup_iff.mp nd)).1
  have nd' : (muts f P { g with own := lset g.own i (a, .gone) }).Nodup := by
    rw [muts_own, e2]
    unfold muts at nd
    rw [e1] at nd
    have p : (P.map (·.1) ++ ((lv pre ++ a :: lv post) ++ (lv g.out ++ (f.env.locals :: f.env.cells.map (·.2))))).Perm (a :: (P.map (·.1) ++ ((lv pre ++ lv post) ++ (lv g.out ++ (f.env.locals :: f.env.cells.map (·.2)))))) := by
      refine List.Perm.trans (List.Perm.append_left _ (List.Perm.append_right _ List.perm_middle)) ?_
      exact List.perm_middle
    exact (List.nodup_cons.mp (p.nodup_iff.mp nd)).2
  have S' : Sat c f P m { g with own := lset g.own i (a, .gone) } ds vs { s with heap := s.heap, toks := s.toks } := by
    refine S.change (fun x o hx e q => hx (sub x q)) (fun x o hx e => e) S.prot (fun z p hp => ?_) (fun z p hp => (S.out p hp).move z fun _ e => e) (fun z => S.frame.move z (fun _ e => e) fun _ _ _ _ e => e) nd'
      (fun x hx => S.live x (sub x hx)) (fun z r => r.keeps z)
    have hp' : p ∈ pre ++ (a, .gone) :: post := by have : p ∈ lset g.own i (a, .gone) := hp; unfold lset at this; rwa [k] at this
    rcases List.mem_append.mp hp' with q | q
    · exact (S.own p (by rw [e]; exact List.mem_append_left _ q)).move z fun _ e => e
    · rcases List.mem_cons.mp q with rfl | q
      · trivial
      · exact (S.own p (by rw [e]; exact List.mem_append_right _ (.tail _ q))).move z fun _ e => e
  refine ⟨S', ?_⟩
  obtain ⟨ws, n, h1, h2⟩ := S.own _ hmem
  exact Rd.list (fz_get.mpr ⟨h1, nda⟩) rfl rfl (h2.keeps (fz_stays fun b o hb e => ⟨e, fun q => hb (sub b q)⟩))
end
end Mine

set_option maxRecDepth 100000
namespace Mine
open PySem PySem.W PySem.Calls PyProof.Rows PySem.Spec
open PySem.W.Fast (sEq sEq_iff)

structure KOk (K : Frag) : Prop where
  attr : ∀ p ∈ aTab, plainGet K p.1 p.2 = true ∧ hasDictIn K p.1 = true ∧ findIn K (.ref p.1) p.2 = some none ∧ findIn K (.ref p.1) "__setattr__" = some (some (.builtin "object.__setattr__")) ∧ plainOver K p.1 = true ∧ takerIn K p.1 p.2 = some none

theorem aIn_inv {C : Addr} {name : Str} (h : aIn C name = true) : (C, name) ∈ aTab := by
  unfold aIn at h
  obtain ⟨p, hp, e⟩ := List.any_eq_true.mp h
  obtain ⟨e1, e2⟩ := Bool.and_eq_true_iff.mp e
  obtain ⟨a, b⟩ := p
  have : a = C := Nat.eq_of_beq_eq_true e1
  have : b = name := sEq_iff.mp e2
  subst_vars
  exact hp

/-! the library's rules are said of a frame and a ledger: from any state -/
noncomputable abbrev hp0 (h : Heap) : Heap := ⟨#[], h.life⟩
theorem hp0_get {h : Heap} {b : Addr} : (hp0 h).get? b = none := by simp [Heap.get?]
noncomputable def allBut (h : Heap) (l : List Addr) : List (Addr × Obj) := (List.range h.objs.size).filterMap fun b => if b ∈ l then none else (h.get? b).map (b, ·)
theorem mem_allBut {h : Heap} {l : List Addr} {b : Addr} {o : Obj} : (b, o) ∈ allBut h l ↔ b ∉ l ∧ h.get? b = some o := by
  unfold allBut
  rw [List.mem_filterMap]
  constructor
  · rintro ⟨a, _, e⟩
    by_cases q : a ∈ l
    · simp [q] at e
    · simp only [q, if_false, Option.map_eq_some_iff] at e
      obtain ⟨o', h1, h2⟩ := e
      cases h2
      exact ⟨q, h1⟩
  · rintro ⟨q, e⟩
    exact ⟨b, List.mem_range.mpr (Heap.lt_size e), by simp [q, e]⟩
theorem fr0 {h : Heap} {L : Addr} {mm : Str → Option Value} (hn : h.Ns L mm) : Fr (hp0 h) L h mm := ⟨hn, fun b o e => (by rw [hp0_get] at e; cases e), Nat.zero_le _⟩
theorem news0 {h : Heap} {L : Addr} {l : List Addr} (hl : L ∈ l) : News (hp0 h) L h (allBut h l) := fun p hp => by
  obtain ⟨b, o⟩ := p
  obtain ⟨q, e⟩ := mem_allBut.mp hp
  exact ⟨e, fun z => q ((show b = L from z) ▸ hl), hp0_get⟩

/-! items -/
section
variable {c : Cx} {f : Fm} {P : Prt} {m : Mp} {g : G} {ds : List V} {vs : List Value} {s : Shared} {n : Nat}

theorem kv_get {Pr : Params} {z : Heap} {kvs : List (Str × Value)} {fs : List (Str × V)} {x : Str} {d : V} (r : KvR Pr z kvs fs) (h : slook x fs = some d) : ∃ v, valueAt kvs x = some v ∧ RepV Pr z v d := by
  induction r with
  | nil => cases h
  | @cons name u d' es fs a r ih =>
    unfold slook at h
    unfold valueAt
    rw [List.find?_cons]
    by_cases q : name = x
    · rw [sEq_iff.mpr q] at h
      cases h
      simp only [q, decide_true]
      exact ⟨u, rfl, a⟩
    · have : sEq name x = false := Bool.eq_false_iff.mpr fun z => q (sEq_iff.mp z)
      simp only [this] at h
      simp only [q, decide_false]
      exact ih h
theorem kv_put {Pr : Params} {z : Heap} {kvs : List (Str × Value)} {fs : List (Str × V)} {x : Str} {d d' : V} {v : Value} (r : KvR Pr z kvs fs) (hn : (kvs.map (·.1)).Nodup) (h : slook x fs = some d') (a : RepV Pr z v d) : KvR Pr z (stored kvs x v) (fput x d fs) := by
  have hany : kvs.any (fun kv => kv.1 = x) = true := by
    obtain ⟨w, hw, _⟩ := kv_get r h
    unfold valueAt at hw
    obtain ⟨p, hp, _⟩ := Option.map_eq_some_iff.mp hw
    exact List.any_eq_true.mpr ⟨p, List.mem_of_find?_eq_some hp, by have := List.find?_some hp; exact this⟩
  unfold stored
  rw [if_pos hany]
  clear hany
  induction r with
  | nil => cases h
  | @cons name u d'' es fs b r ih =>
    unfold slook at h
    unfold fput
    rw [List.map_cons]
    by_cases q : name = x
    · rw [sEq_iff.mpr q]
      simp only [q, if_true]
      refine .cons a ?_
      have : ∀ p ∈ es, p.1 ≠ x := fun p hp e => (List.nodup_cons.mp hn).1 (by rw [q, ← e]; exact List.mem_map.mpr ⟨p, hp, rfl⟩)
      have e : es.map (fun kv => if kv.1 = x then (kv.1, v) else kv) = es := by
        conv => rhs; rw [← List.map_id es]
        exact List.map_congr_left fun p hp => by rw [if_neg (this p hp)]; rfl
      rw [e]; exact r
    · have e : sEq name x = false := Bool.eq_false_iff.mpr fun z => q (sEq_iff.mp z)
      simp only [e] at h ⊢
      simp only [q, if_false]
      exact .cons b (ih (List.nodup_cons.mp hn).2 h)

theorem seqIdx_inv {k : Int} {n j : Nat} (h : seqIndex? k n = some j) : (k < 0 ∧ -(n : Int) ≤ k ∧ j = (k + n).toNat) ∨ (0 ≤ k ∧ k < n ∧ j = k.toNat) := by
  unfold seqIndex? at h
  dsimp only at h
  by_cases h0 : k < 0
  · simp only [h0, if_true] at h
    by_cases q : (decide (0 ≤ k + (n : Int)) && decide (k + (n : Int) < n)) = true
    · rw [if_pos q] at h
      simp only [Bool.and_eq_true, decide_eq_true_eq] at q
      exact .inl ⟨h0, by (first | lia | omega), (Option.some.inj h).symm⟩
    · rw [if_neg q] at h; cases h
  · simp only [h0, if_false] at h
    by_cases q : (decide (0 ≤ k) && decide (k < (n : Int))) = true
    · rw [if_pos q] at h
      simp only [Bool.and_eq_true, decide_eq_true_eq] at q
      exact .inr ⟨q.1, q.2, (Option.some.inj h).symm⟩
    · rw [if_neg q] at h; cases h
theorem seqIdx_lt {k : Int} {n j : Nat} (h : seqIndex? k n = some j) : j < n := by rcases seqIdx_inv h with ⟨a, b, rfl⟩ | ⟨a, b, rfl⟩ <;> (first | lia | omega)
theorem list_item {A : Around} {prog : Program} {w : World} {E : Value → Shared → Prop} {l : Addr} {items : Array Value} {k : Int} {t : Tok} {j : Nat} {x : Value} {Q : Value → Shared → Prop} (hl : s.heap.IsList l items) (h1 : -(2 ^ 62) < k) (h2 : k < 2 ^ 62)
    (hj : seqIndex? k items.size = some j) (hx : items[j]? = some x) (h : Q x s) : wpAny (model prog w) A (getItem (.ref l) (.int k t)) Q E s := by
  rcases seqIdx_inv hj with ⟨a, b, rfl⟩ | ⟨a, b, rfl⟩
  · exact wpAny_getItem_list_neg hl a b (by (first | lia | omega)) hx h
  · exact wpAny_getItem_list hl a (by (first | lia | omega)) hx h

theorem op_item {a b : Value} {u v : V} {Q : QV} (S : Sat c f P m g (v :: u :: ds) (b :: a :: vs) s) (h : vItem u v g Q) :
    wpAny (mdl c) f.A (getItem a b) (Gives c f P m ds vs Q) no s ∧ ∃ T id, s.TypeIs a T ∧ typeLookup (.type T) "__getitem__" = pure (some (.builtin id)) := by
  have ru := S.snd
  have rv := S.top
  have S' := S.pop2
  have lst : ∀ {l : Addr} {ws : Array Value} {xs : List PyData}, s.heap.IsList l ws → RdAll (fz s.heap (muts f P g)) ws.toList xs → (vInt v fun k => (-(2 ^ 62) < k ∧ k < 2 ^ 62) ∧ oB (seqIndex? k xs.length) fun j => oB xs[j]? fun y => Q (.d y) g) →
      wpAny (mdl c) f.A (getItem (.ref l) b) (Gives c f P m ds vs Q) no s ∧ ∃ T id, s.TypeIs (.ref l) T ∧ typeLookup (.type T) "__getitem__" = pure (some (.builtin id)) := fun {l ws xs} hl hr h => by
    obtain ⟨k, t, -, rfl, ⟨h1, h2⟩, h⟩ := vInt_inv rv h
    obtain ⟨j, hj, h⟩ := oB_inv h
    obtain ⟨y, hy, h⟩ := oB_inv h
    obtain ⟨x, hx, hxy⟩ := hr.get hy
    have hlen := hr.length
    refine ⟨list_item hl h1 h2 (by rw [← hj, ← hlen]; simp) (by rw [← Array.getElem?_toList]; exact hx) ⟨_, g, S'.push2 hxy, h⟩, _, _, hl.typeIs, slot_list_getitem.lookup⟩
  cases u with
  | d da => cases da with
    | list xs =>
      obtain ⟨l, ws, rfl, h1, h2⟩ := rd_list ru
      exact lst (h1.at fun o e => fz_in _ _ e) h2 h
    | tuple xs =>
      obtain ⟨l, ws, rfl, ⟨o, e1, e2, e3⟩, hr⟩ := rd_tuple ru
      obtain ⟨k, t, -, rfl, ⟨h1, h2⟩, h⟩ := vInt_inv rv h
      obtain ⟨j, hj, h⟩ := oB_inv h
      obtain ⟨y, hy, h⟩ := oB_inv h
      obtain ⟨x, hx, hxy⟩ := hr.get hy
      have hlen := hr.length
      have ht : IsTup s.heap l ws := ⟨o, fz_in _ _ e1, e2, e3⟩
      refine ⟨PyProof.Rows.getItem_tuple ht (by (first | lia | omega)) (by (first | lia | omega)) (by rw [← hj, ← hlen]; simp) (by rw [← Array.getElem?_toList]; exact hx) ⟨_, g, S'.push2 hxy, h⟩, _, _, ht.typeIs, slot_tuple_getitem.lookup⟩
    | _ => cases h
  | loc o i a' =>
    obtain rfl := ru
    unfold vItem at h
    dsimp only at h
    split at h
    · rename_i p hp
      have hA := S.sel o p (lget_mem hp)
      split at h
      · rename_i xs hx
        obtain ⟨rfl, h⟩ := h
        rw [hx] at hA
        obtain ⟨ws, n, h1, h2⟩ := hA
        exact lst ⟨_, h1, rfl, _, rfl⟩ h2 h
      · rename_i fs hx
        obtain ⟨rfl, h⟩ := h
        rw [hx] at hA
        obtain ⟨kvs, h1, h2⟩ := hA
        cases v with
        | d di => cases di with
          | str x =>
            obtain ⟨t, rfl⟩ := rd_str rv
            obtain ⟨d, hd, h⟩ := oB_inv h
            obtain ⟨w, hw, hwd⟩ := kv_get h2 hd
            exact ⟨wpAny_getItem_of (strKind_is _ _ x t) h1.mapOf hw ⟨d, g, S'.toks.push hwd, h⟩, _, _, h1.typeIs, slot_dict_getitem.lookup⟩
          | _ => cases h
        | _ => cases h
      · cases h
    · cases h
  | _ => cases h
end
end Mine

set_option maxRecDepth 100000
namespace Mine
open PySem PySem.W PySem.Calls PyProof.Rows PySem.Spec
open PySem.W.Fast (sEq sEq_iff)

section
variable {prog : Program} {w : World} {A : Around} {E : Value → Shared → Prop} {s : Shared}

noncomputable abbrev plainL (vs : Array Value) (n : Nat) : Obj := { cls := .type "list", data := .seq vs n }

/-- an item of a plain list is replaced, at a place from either end -/
theorem put_item {l : Addr} {items : Array Value} {n : Nat} {k : Int} {t : Tok} {j : Nat} {v : Value} {Q : Unit → Shared → Prop} (ho : s.heap.get? l = some (plainL items n)) (h1 : -(2 ^ 62) < k) (h2 : k < 2 ^ 62) (hj : seqIndex? k items.size = some j)
    (hQ : Q () { s with heap := s.heap.update l (Obj.mapSeq (·.setIfInBounds j v)) }) : wpAny (model prog w) A (setItem (.ref l) (.int k t) v) Q E s := by
  have hT : s.TypeIs (.ref l) "list" := ⟨_, ho, rfl⟩
  have hfit : Builtin.List.listFitsIndex k = true := by
    rcases seqIdx_inv hj with ⟨a, b, -⟩ | ⟨a, b, -⟩
    · exact fitsIndex_neg a (by (first | lia | omega))
    · exact fitsIndex_of a (by (first | lia | omega))
  have hlt := seqIdx_lt hj
  have hx : items[j]? = some items[j] := Array.getElem?_eq_getElem hlt
  unfold setItem
  try with_reducible refine wpAny_holding ?_
  first | refine wpAny_bind (wpAny_pure ?_) | skip
  refine wpAny_bind (wpAny_sequenceKey hT (by decide) ?_)
  refine wpAny_bind (wpAny_callSpecial?_slot (name := Str.ofString "__setitem__") hT slot_list_setitem (wpAny_call_entry slot_list_setitem hT entry_list_setitem ?_ (args_list_setitem _ _ _)))
  show wpAny _ _ (Builtin.List.listSubscript? (.int k t) >>= _) _ _ s
  refine wpAny_bind (wpAny_listSubscript_int hfit ?_)
  have last : wpAny (model prog w) A.in1 (setSeqItemAt l j v) (fun _ s' => Q () s') (fun _ _ => False) s := wpAny_setSeqItemAt ho rfl hQ
  clear hfit h1 h2
  rcases seqIdx_inv hj with ⟨a, b, e⟩ | ⟨a, b, e⟩
  · obtain ⟨i, rfl⟩ : ∃ i : Nat, k = Int.negSucc i := by
      cases k with
      | ofNat n => exact absurd a (Int.not_lt.mpr (Int.natCast_nonneg n))
      | negSucc n => exact ⟨n, rfl⟩
    show wpAny _ _ ((Builtin.List.listItems (.ref l) >>= fun xs => pure ((seqIndex? (Int.negSucc i) xs.size).bind fun i => xs[i]?.map (i, ·))) >>= _) _ _ s
    refine wpAny_bind (wpAny_bind ?_)
    show wpAny _ _ (seqItems? (.ref l) >>= _) _ _ s
    refine wpAny_bind (wpAny_seqItems ho rfl (wpAny_pure (wpAny_pure ?_)))
    rw [hj]
    simp only [Option.bind_some, hx, Option.map_some]
    refine wpAny_bind (wpAny_mono last (fun _ s' q => ?_) fun _ _ x => x.elim)
    first
      | exact wpAny_bind (wpAny_pure (wpAny_pure ⟨.none, rfl, wpAny_pure q⟩))
      | exact wpAny_pure ⟨.none, rfl, wpAny_pure q⟩
  · obtain ⟨i, rfl⟩ := Int.eq_ofNat_of_zero_le a
    have : j = i := by rw [e]; rfl
    subst this
    show wpAny _ _ ((seqItemAt l j >>= fun r => pure (r.map (j, ·))) >>= _) _ _ s
    refine wpAny_bind (wpAny_bind (wpAny_seqItemAt ho rfl (wpAny_pure ?_)))
    rw [hx]
    refine wpAny_bind (wpAny_mono last (fun _ s' q => ?_) fun _ _ x => x.elim)
    first
      | exact wpAny_bind (wpAny_pure (wpAny_pure ⟨.none, rfl, wpAny_pure q⟩))
      | exact wpAny_pure ⟨.none, rfl, wpAny_pure q⟩
end

section
variable {c : Cx} {f : Fm} {P : Prt} {m : Mp} {g : G} {ds : List V} {vs : List Value} {s : Shared} {n : Nat}

theorem update_keep {h : Heap} {a : Addr} {fn : Obj → Obj} : ∀ x, x ≠ a → ∀ o, h.get? x = some o → (h.update a fn).get? x = some o := fun x hx o e => (Heap.get?_update_other h fn (Ne.symm hx)).trans e

/-- a plain list of the ledger is turned -/
theorem Sat.setList {b : Bool} {i : Nat} {a : Addr} {xs ys : List PyData} {ws : Array Value} {k k' : Nat} {fn : Obj → Obj} {us : List Value} {tk : Tok} (S : Sat c f P m g ds vs s) (hi : lget (g.sel b) i = some (a, .list xs)) (ho : s.heap.get? a = some (plainL ws k))
    (hf : fn (plainL ws k) = plainL us.toArray k') (hr : RdAll (fz s.heap (muts f P g)) us ys) : Sat c f P m (g.setL b (lset (g.sel b) i (a, .list ys))) ds vs { s with heap := s.heap.update a fn, toks := tk } := by
  have e : (s.heap.update a fn).get? a = some (plainL us.toArray k') := by rw [Heap.get?_update_self fn ho (by rw [hf]; rfl), hf]
  exact S.setObj hi rfl rfl update_keep (fun z => ⟨us.toArray, k', e, by simpa using hr.keeps z⟩) ⟨_, e⟩

theorem mapSeq_plain (fn : Array Value → Array Value) (ws : Array Value) (k : Nat) : ∃ k', Obj.mapSeq fn (plainL ws k) = plainL (fn ws) k' := ⟨_, rfl⟩

theorem kv_len {Pr : Params} {z : Heap} {kvs : List (Str × Value)} {fs : List (Str × V)} (r : KvR Pr z kvs fs) : kvs.length = fs.length := by
  induction r with
  | nil => rfl
  | cons _ _ ih => simp [ih]
theorem op_setItem {o i v : Value} {u w x : V} {Q : G → Prop} (S : Sat c f P m g (w :: u :: x :: ds) (i :: o :: v :: vs) s) (h : vSetItem u w x g Q) :
    wpAny (mdl c) f.A (setItem o i v) (fun _ => GivesU c f P m ds vs Q) no s := by
  have ri := S.top
  have ro := S.pop.top
  have rv := S.pop.pop.top
  have S' := S.pop.pop.pop
  cases u with
  | loc b n a =>
    obtain rfl := ro
    unfold vSetItem at h
    dsimp only at h
    split at h
    · rename_i p hp
      have hA := S.sel b p (lget_mem hp)
      obtain ⟨p1, p2⟩ := p
      dsimp only at h hA
      split at h
      · rename_i xs
        obtain ⟨rfl, h⟩ := h
        obtain ⟨ws, k, h1, h2⟩ := hA
        cases x with
        | d y =>
          obtain ⟨kk, t, -, rfl, ⟨e1, e2⟩, h⟩ := vInt_inv ri h
          obtain ⟨j, hj, h⟩ := oB_inv h
          have hlen := h2.length
          refine put_item h1 e1 e2 (by rw [← hj, ← hlen]; simp) ?_
          obtain ⟨k', ek⟩ := mapSeq_plain (·.setIfInBounds j v) ws k
          refine ⟨_, S'.setList (tk := s.toks) hp h1 (us := (ws.toList.set j v)) (k' := k') (by rw [ek]; congr 1; apply Array.ext'; simp) (h2.set rv), h⟩
        | _ => cases h
      · rename_i fs
        obtain ⟨rfl, h⟩ := h
        obtain ⟨kvs, h1, h2⟩ := hA
        cases w with
        | d di => cases di with
          | str y =>
            obtain ⟨t, rfl⟩ := rd_str ri
            obtain ⟨hfs, h⟩ := h
            obtain ⟨d', hd, h⟩ := oB_inv h
            have hlen := kv_len h2
            have hnd : (kvs.map (·.1)).Nodup := let ⟨_, _, _, _, _, _, _, _, q⟩ := h1; q
            refine wpAny_setItem_pairs (strKind_is _ _ y t) h1 (fun h' hd' hs' => ?_) (Nat.le_trans (hlen ▸ hfs) (by decide))
            refine ⟨_, S'.setObj (ao' := .dict (fput y x fs)) hp rfl rfl (fun x hx o e => (hs'.2 x hx).trans e) (fun z => ⟨_, hd', kv_put (h2.keeps z) hnd hd (rv.keeps z)⟩) ?_, h⟩
            obtain ⟨o', _, _, e, _⟩ := hd'
            exact ⟨o', e⟩
          | _ => cases h
        | _ => cases h
      · cases h
    · cases h
  | _ => cases h

/-! attributes -/
theorem handed_rep {Pr : Params} {z : Heap} {v : Value} {d : V} (r : RepV Pr z v d) : handedIn v = true := by
  cases d with
  | d x => obtain ⟨_, r⟩ := r; cases r <;> rfl
  | loc o i a => obtain rfl := r; rfl
  | inst o i C dx => obtain ⟨x, rfl, _⟩ := r; rfl
  | cset b => obtain ⟨x, dx, n, t, u, rfl, _⟩ := r; rfl
  | cstr b ss => obtain ⟨x, dx, n, t, u, t', u', rfl, _⟩ := r; rfl
  | fn a => obtain rfl := r; rfl
  | bi b => obtain rfl := r; cases b <;> decide +kernel

theorem ents_get {Pr : Params} {z : Heap} {es : List DictEntry} {fs : List (Str × V)} {x : Str} {d : V} (r : Ents Pr z es fs) (h : slook x fs = some d) : ∃ v, getL x es = some (some v) ∧ RepV Pr z v d := by
  unfold getL
  induction r with
  | nil => cases h
  | @cons name t u d' es fs a r ih =>
    unfold slook at h
    rw [List.find?_cons]
    have e : (ent Pr name t u).key.isStr x = (name == x) := rfl
    by_cases q : name = x
    · rw [sEq_iff.mpr q] at h
      cases h
      rw [e, beq_iff_eq.mpr q]
      exact ⟨u, rfl, a⟩
    · have q2 : sEq name x = false := Bool.eq_false_iff.mpr fun z => q (sEq_iff.mp z)
      simp only [q2] at h
      rw [e, beq_eq_false_iff_ne.mpr q]
      obtain ⟨v, hv, hr⟩ := ih h
      refine ⟨v, ?_, hr⟩
      split at hv
      · rename_i en hen; rw [hen]; exact hv
      · split at hv <;> cases hv
theorem ents_some {Pr : Params} {z : Heap} {es : List DictEntry} {fs : List (Str × V)} {x : Str} (r : Ents Pr z es fs) : (getL x es).isSome = true := by
  have nk : es.any (·.refKey) = false := by
    induction r with
    | nil => rfl
    | cons a r ih => rw [List.any_cons, ih]; rfl
  unfold getL
  split
  · rfl
  · rw [nk]; rfl
theorem ents_put {Pr : Params} {z : Heap} {es : List DictEntry} {fs : List (Str × V)} {x : Str} {d : V} {t : Tok} {v : Value} (r : Ents Pr z es fs) (a : RepV Pr z v d) : Ents Pr z (putL x (PyData.keyHash Pr x) (.str x t) v es) (fput x d fs) := by
  induction r with
  | nil => exact .cons a .nil
  | @cons name t' u d' es fs b r ih =>
    unfold putL fput
    have e : (ent Pr name t' u).key.isStr x = (name == x) := rfl
    rw [e]
    by_cases q : name = x
    · subst q
      rw [sEq_iff.mpr rfl, beq_self_eq_true]
      exact .cons a r
    · have q2 : sEq name x = false := Bool.eq_false_iff.mpr fun z => q (sEq_iff.mp z)
      rw [q2, beq_eq_false_iff_ne.mpr q]
      exact .cons b ih
theorem ents_len {Pr : Params} {z : Heap} {es : List DictEntry} {fs : List (Str × V)} (r : Ents Pr z es fs) : es.length = fs.length := by
  induction r with
  | nil => rfl
  | cons _ _ ih => simp [ih]
theorem putL_len (x : Str) (h : Int) (k v : Value) : ∀ es : List DictEntry, (putL x h k v es).length ≤ es.length + 1
  | [] => Nat.le_refl _
  | e :: es => by
    unfold putL
    split
    · simp
    · have := putL_len x h k v es; simp; (first | lia | omega)

/-- a field of an object whose dict is known -/
theorem attr_get {K : Frag} (X : K.In s.heap) (H : KOk K) {x C dx : Addr} {es : List DictEntry} {k : Nat} {name : Str} {u : Value} {Q : Value → Shared → Prop} {E : Value → Shared → Prop} {A : Around} {prog : Program} {w : World} (hC : (C, name) ∈ aTab)
    (h1 : s.heap.get? x = some (instObj C dx)) (h2 : s.heap.get? dx = some (dictOf es k)) (hl : getL name es = some (some u)) (hh : handedIn u = true) (h : Q u { s with toks := s.toks + 1 }) (ex : Bool) :
    wpAny (model prog w) A (getAttr (.ref x) name ex) Q E s := by
  obtain ⟨a1, a2, a3, -⟩ := H.attr _ hC
  exact get_value X ⟨h1, rfl, rfl, h2⟩ (plainGet_of a1).1 (findObj_own (od := dictOf es k) a2 a3 rfl (by rw [lookIn_dict]; exact hl)) hh h

theorem op_attr {K : Frag} (H : KOk K) (X : K.In c.h₀) {o : Value} {u : V} {name : Str} {ex : Bool} {Q : QV} (S : Sat c f P m g (u :: ds) (o :: vs) s) (h : vAttr u name g Q) :
    wpAny (mdl c) f.A (getAttr o name ex) (Gives c f P m ds vs Q) no s := by
  have r := S.top
  have S' := S.pop
  have X' : K.In s.heap := X.keeps S.frozen
  cases u with
  | cset b =>
    obtain ⟨x, dx, n, t, u, rfl, h1, h2, h3⟩ := r
    unfold vAttr at h
    dsimp only at h
    split at h
    · rename_i q
      obtain rfl := sEq_iff.mp q
      refine attr_get X' H (List.mem_cons_self) (fz_in _ _ h1) (fz_in _ _ h2) (u := u) (by simp [getL, ent, Value.isStr, nmBounds]) (handed_rep (Pr := c.w.params) (d := .d (pInts b)) h3) ⟨_, g, S'.toks.push2 h3, h⟩ ex
    · cases h
  | cstr b ss =>
    obtain ⟨x, dx, n, t1, u1, t2, u2, rfl, h1, h2, h3, h4⟩ := r
    unfold vAttr at h
    dsimp only at h
    split at h
    · rename_i q
      obtain rfl := sEq_iff.mp q
      refine attr_get X' H (.tail _ (.head _)) (fz_in _ _ h1) (fz_in _ _ h2) (u := u1) (by simp [getL, ent, Value.isStr, nmCodes]) (handed_rep (Pr := c.w.params) (d := .cset b) h3) ⟨_, g, S'.toks.push (d := .cset b) h3, h⟩ ex
    · split at h
      · rename_i q
        obtain rfl := sEq_iff.mp q
        refine attr_get X' H (.tail _ (.tail _ (.head _))) (fz_in _ _ h1) (fz_in _ _ h2) (u := u2) (by
          have e1 : (ent c.w.params "codes" t1 u1).key.isStr "strings" = false := by show (nmCodes == nmStrings) = false; decide +kernel
          have e2 : (ent c.w.params "strings" t2 u2).key.isStr "strings" = true := by show (nmStrings == nmStrings) = true; exact beq_self_eq_true _
          unfold getL
          rw [List.find?_cons, e1, List.find?_cons, e2]) (handed_rep (Pr := c.w.params) (d := .d (pStrs ss)) h4) ⟨_, g, S'.toks.push2 h4, h⟩ ex
      · cases h
  | inst b n C dx =>
    obtain ⟨x, rfl, h1⟩ := r
    unfold vAttr at h
    dsimp only at h
    split at h
    · rename_i p hp
      have hA := S.sel b p (lget_mem hp)
      obtain ⟨p1, p2⟩ := p
      dsimp only at h hA
      split at h
      · rename_i fs
        obtain ⟨⟨rfl, q⟩, h⟩ := h
        obtain ⟨d, hd, h⟩ := oB_inv h
        obtain ⟨es, k, e1, e2⟩ := hA
        obtain ⟨u, hu, ru⟩ := ents_get e2 hd
        exact attr_get X' H (aIn_inv q) (fz_in _ _ h1) e1 hu (handed_rep ru) ⟨d, g, S'.toks.push ru, h⟩ ex
      · cases h
    · cases h
  | _ => cases h

/-- a field is stored -/
theorem op_setAttr {K : Frag} (H : KOk K) (X : K.In c.h₀) {o v : Value} {u x : V} {name : Str} {Q : G → Prop} (S : Sat c f P m g (u :: x :: ds) (o :: v :: vs) s) (h : vSetAttr u name x g Q) :
    wpAny (mdl c) f.A (setAttr o name v) (fun _ => GivesU c f P m ds vs Q) no s := by
  have r := S.top
  have rv := S.pop.top
  have S' := S.pop.pop
  have X' : K.In s.heap := X.keeps S.frozen
  cases u with
  | inst b n C dx =>
    obtain ⟨xa, rfl, h1⟩ := r
    unfold vSetAttr at h
    dsimp only at h
    split at h
    · rename_i p hp
      have hA := S.sel b p (lget_mem hp)
      obtain ⟨p1, p2⟩ := p
      dsimp only at h hA
      split at h
      · rename_i fs
        obtain ⟨⟨rfl, q, hfs⟩, h⟩ := h
        obtain ⟨es, k, e1, e2⟩ := hA
        obtain ⟨a1, a2, a3, a4, a5, a6⟩ := H.attr _ (aIn_inv q)
        have I : PySem.W.InstAt s.heap xa (instObj C p1) C (some (dictOf es k)) := ⟨fz_in _ _ h1, rfl, rfl, e1⟩
        obtain ⟨mm, hn, -⟩ := S.frame.ns
        have hL : p1 ≠ f.env.locals := (S.ne_sel (lget_mem hp) rfl).1
        have N0 : News (hp0 s.heap) f.env.locals s.heap (allBut s.heap [f.env.locals, p1] ++ (p1, dictOf es k) :: []) := fun z hz => by
          rcases List.mem_append.mp hz with hz | hz
          · exact news0 (L := f.env.locals) (l := [f.env.locals, p1]) (.head _) z hz
          · simp only [List.mem_singleton] at hz; subst hz; exact ⟨e1, hL, hp0_get⟩
        refine set_plain X' I a4 (osa_dict (s := { s with toks := s.toks + 1 }) (fr0 hn) N0 X' I rfl a5 a6 a2 (ents_some (x := name) e2) (fun z hz e => ?_) (fun z hz => nomatch hz) (putName_dict _ _ _ _ _ _) rfl ?_ fun h' F' N' => ?_)
        · obtain ⟨z1, z2⟩ := z
          exact (mem_allBut.mp hz).1 (by rw [show z1 = p1 from e]; simp)
        · have := ents_len e2
          refine Nat.le_trans (putL_len _ _ _ _ _) ?_
          (first | lia | omega)
        · have keep : ∀ y, y ≠ p1 → y ≠ f.env.locals → ∀ o, s.heap.get? y = some o → h'.get? y = some o := fun y y1 y2 o e =>
            (N' (y, o) (List.mem_append_left _ (mem_allBut.mpr ⟨by simp [y1, y2], e⟩))).1
          have hnew := (N' (p1, _) (List.mem_append_right _ (.head _))).1
          exact ⟨_, S'.setObj' (ao' := .idict (fput name x fs)) hp rfl rfl keep (fun mm' hm' => (by
            have : mm' = mm := by
              obtain ⟨o, es, ep, a1, a2, a3, a4⟩ := hn
              obtain ⟨o', es', ep', b1, b2, b3, b4⟩ := hm'
              rw [a1] at b1; cases b1
              rw [a2] at b2; cases b2
              funext n; rw [← a4, ← b4]
            rw [this]; exact F'.ns)) (fun z => ⟨_, _, hnew, ents_put (e2.keeps z) (rv.keeps z)⟩) ⟨_, hnew⟩, h⟩
      · cases h
    · cases h
  | _ => cases h
end
end Mine

set_option maxRecDepth 100000
namespace Mine
open PySem PySem.W PySem.Calls PyProof.Rows PySem.Spec
open PySem.W.Fast (sEq sEq_iff)

theorem list_extendW (l b : Addr) (items items2 : Array Value) (n n2 : Nat) (dd : Option Addr) (sl : Array (Option Value)) (hc0 : ¬(!items.isEmpty && Builtin.List.listTooLong (items.size + items2.size)) = true) (hc1 : items.size ≤ sizeLine) (hs2 : items.size + items2.size ≤ sizeLine + 1) :
    Meets (Builtin.«list.extend» ⟨[.ref l, .ref b], []⟩) (fun _ R s => s.heap.get? l = some { cls := .type "list", dict := none, data := .seq items n, slots := #[] } ∧ s.heap.get? b = some { cls := .type "list", dict := dd, data := .seq items2 n2, slots := sl } ∧ R (.ok (.ret Value.none)) { s with heap := s.heap.update l (Obj.mapSeq fun x => x ++ items2), toks := s.toks }) :=
  .of_wp fun prog w A R s h => by
    obtain ⟨hp, g, d, tk, os⟩ := s; obtain ⟨hl, hb, h⟩ := h; have f1 := PySem.AutoSeq1.idx_int; have f2 := PySem.AutoSeq1.sub_tuple_tuple; have f3 := PySem.AutoSeq1.sub_list_list; have f4 := PySem.AutoSeq1.sub_tuple_list; have f5 := PySem.AutoSeq1.sub_list_tuple;
    have hz' : (items ++ items2).size ≤ sizeLine + 1 := by rw [Array.size_append]; exact hs2
    wp_walk using (wpAny_updateSeq hl rfl (hz := hc1) (_hz' := hz')), wpAny_loadPart' hl, wpAny_loadPart' hb; exact ⟨_, rfl, h⟩

section
variable {c : Cx} {f : Fm} {P : Prt} {m : Mp} {g : G} {ds : List V} {vs : List Value} {s : Shared} {n : Nat}

/-- a new object, the frame's own, in whatever heap -/
theorem Sat.addOwn {ao : AO} {o : Obj} {tk : Tok} {a : Addr} {h' : Heap} (S : Sat c f P m g ds vs s) (hl : ao.live = true) (ha : s.heap.get? a = none) (old : ∀ x o', s.heap.get? x = some o' → h'.get? x = some o') (new : h'.get? a = some o)
    (hq : ∀ z h', (fz s.heap (muts f P g)).StaysIn z → h'.get? a = some o → AOIs c z h' a ao) :
    Sat c f P m { g with own := g.own ++ [(a, ao)] } (.loc true g.own.length a :: ds) (.ref a :: vs) { s with heap := h', toks := tk } := by
  have hm : ∀ x, x ∈ muts f P { g with own := g.own ++ [(a, ao)] } ↔ x = a ∨ x ∈ muts f P g := by
    intro x
    have e0 : lv [(a, ao)] = [a] := lv_cons_live (p := (a, ao)) (l := []) hl
    rw [muts_own, lv_append, e0]
    unfold muts
    simp only [List.mem_append, List.mem_cons, List.not_mem_nil, or_false]
    grind
  have fr : a ∉ muts f P g := fun q => by obtain ⟨o', e⟩ := S.live a q; rw [ha] at e; cases e
  refine S.change (fun x o' hx e => fun q => ?_) (fun x o' hx e => old x o' e) (fun p hp => old _ _ (S.prot p hp)) (fun z p hp => ?_) (fun z p hp => (S.out p hp).move z fun o e => old _ _ e)
    (fun z => S.frame.move z (fun o e => old _ _ e) fun _ _ o _ e => old _ _ e) ?_ (fun x hx => ?_) (fun z r => .cons rfl (r.keeps z))
  · rcases (hm x).mp q with q | q
    · subst q; rw [ha] at e; cases e
    · exact hx q
  · rcases List.mem_append.mp hp with q | q
    · exact (S.own p q).move z fun o e => old _ _ e
    · simp only [List.mem_singleton] at q; subst q; exact hq _ _ z new
  · have nd := S.nodup
    have e0 : lv [(a, ao)] = [a] := lv_cons_live (p := (a, ao)) (l := []) hl
    rw [muts_own, lv_append, e0]
    have p : (P.map (·.1) ++ ((lv g.own ++ [a]) ++ (lv g.out ++ (f.env.locals :: f.env.cells.map (·.2))))).Perm (a :: muts f P g) := by
      unfold muts
      refine List.Perm.trans ?_ List.perm_middle
      refine List.Perm.append_left _ ?_
      rw [List.append_assoc]
      exact List.perm_middle
    exact p.nodup_iff.mpr (List.nodup_cons.mpr ⟨fr, nd⟩)
  · rcases (hm x).mp hx with q | q
    · subst q; exact ⟨_, new⟩
    · obtain ⟨o', e⟩ := S.live x q; exact ⟨o', old _ _ e⟩

/-- a new list, frozen or the frame's own -/
theorem give_list {own : Bool} {xs : List PyData} {Q : QV} {a : Addr} {h' : Heap} {ws : Array Value} {k : Nat} {tk : Tok} (S : Sat c f P m g ds vs s) (ha : s.heap.get? a = none) (old : ∀ x o', s.heap.get? x = some o' → h'.get? x = some o') (new : h'.get? a = some (plainL ws k))
    (hr : RdAll (fz s.heap (muts f P g)) ws.toList xs) (h : vNewList own xs g Q) : Gives c f P m ds vs Q (.ref a) { s with heap := h', toks := tk } := by
  cases own with
  | true => exact ⟨_, _, S.addOwn (ao := .list xs) rfl ha old new (fun z h' hz e => ⟨ws, k, e, hr.keeps hz⟩), h a⟩
  | false =>
    have fr : a ∉ muts f P g := fun q => by obtain ⟨o', e⟩ := S.live a q; rw [ha] at e; cases e
    exact ⟨_, _, (S.grow (tk := tk) old).push2 (Rd.list (fz_get.mpr ⟨new, fr⟩) rfl rfl (hr.keeps (S.fz_grow old))), h⟩
theorem get_none {h : Heap} : h.get? h.objs.size = none := Heap.get?_none_of_le (Nat.le_refl _)

inductive SeqAt (h z : Heap) (u : V) (v : Value) (k : List PyData → Prop) : Prop
  | mk (l : Addr) (ws : Array Value) (xs : List PyData) (T : String) (o : Obj) (n : Nat) (e : v = .ref l) (hT : T = "list" ∨ T = "tuple") (ho : h.get? l = some o) (hc : o.cls = .type T) (hd : o.data = .seq ws n) (hr : RdAll z ws.toList xs) (q : k xs) (e' : T = "tuple" → u = .d (.tuple xs)) : SeqAt h z u v k
theorem vSeq_inv {k : List PyData → Prop} {v : Value} {u : V} (S : Sat c f P m g ds vs s) (r : RepV c.w.params (fz s.heap (muts f P g)) v u) (h : vSeq g u k) :
    SeqAt s.heap (fz s.heap (muts f P g)) u v k := by
  have lst : ∀ u, RepV c.w.params (fz s.heap (muts f P g)) v u → vView g u k → SeqAt s.heap (fz s.heap (muts f P g)) u v k := fun u r h => by
    obtain ⟨l, ws, xs, rfl, ⟨o, h1, h2, n, h3⟩, h4, h5⟩ := vView_inv S r h
    exact ⟨l, ws, xs, "list", o, n, rfl, .inl rfl, h1, h2, h3, h4, h5, fun e => absurd e (by decide)⟩
  cases u with
  | d x => cases x with
    | list xs => exact lst _ r h
    | tuple xs =>
      obtain ⟨l, ws, rfl, ⟨o, h1, h2, n, h3⟩, h4⟩ := rd_tuple r
      exact ⟨l, ws, xs, "tuple", o, n, rfl, .inr rfl, fz_in _ _ h1, h2, h3, h4, h, fun _ => rfl⟩
    | _ => cases h
  | loc o i a => exact lst _ r h
  | _ => cases h

theorem sz {ws : Array Value} {z : Heap} {xs : List PyData} (h : RdAll z ws.toList xs) : ws.size = xs.length := by rw [← h.length]; simp

theorem bi_len {v : Value} {u : V} {Q : QV} (S : Sat c f P m g (u :: ds) (v :: vs) s) {k : Nat} (h : vSeq g u fun xs => xs.length ≤ 1000 ∧ Q (dI xs.length) g) :
    wpAny (mdl c) f.A (call (.builtin "len") [v]) (Gives c f P m ds vs Q) no s := by
  have S' := S.pop
  obtain ⟨l, ws, xs, T, o, n, rfl, hT, h1, h2, h3, h4, ⟨h5, h6⟩, h7⟩ := vSeq_inv S S.top h
  have hs := sz h4
  rcases hT with rfl | rfl
  · exact call_len_list ⟨o, h1, h2, n, h3⟩ (by (first | lia | omega)) (by rw [hs]; exact gives_int S' h6)
  · exact PyProof.Rows.len_tuple ⟨o, h1, h2, n, h3⟩ (by (first | lia | omega)) (by rw [hs]; exact gives_int S' h6)
theorem bi_list {v : Value} {u : V} {Q : QV} {own : Bool} (S : Sat c f P m g (u :: ds) (v :: vs) s) (h : vSeq g u fun xs => xs.length ≤ 1000 ∧ vNewList own xs g Q) :
    wpAny (mdl c) f.A (call (.type "list") [v]) (Gives c f P m ds vs Q) no s := by
  have S' := S.pop
  obtain ⟨l, ws, xs, T, o, n, rfl, hT, h1, h2, h3, h4, ⟨h5, h6⟩, h7⟩ := vSeq_inv S S.top h
  have hs := sz h4
  exact call_list_seq l hT h1 h2 h3 (fun h' k' old new => give_list S' get_none old new h4 h6) (Nat.le_trans (by (first | lia | omega) : ws.size ≤ 1000) (by decide))
theorem bi_tuple {v : Value} {u : V} {Q : QV} (S : Sat c f P m g (u :: ds) (v :: vs) s) (h : vSeq g u fun xs => xs.length ≤ 1000 ∧ Q (.d (.tuple xs)) g) :
    wpAny (mdl c) f.A (call (.type "tuple") [v]) (Gives c f P m ds vs Q) no s := by
  have S' := S.pop
  obtain ⟨l, ws, xs, T, o, n, rfl, hT, h1, h2, h3, h4, ⟨h5, h6⟩, h7⟩ := vSeq_inv S S.top h
  have hs := sz h4
  rcases hT with rfl | rfl
  · refine call_tuple_list ⟨o, h1, h2, n, h3⟩ (fun h' old => ?_) (Nat.le_trans (by (first | lia | omega) : ws.size ≤ 1000) (by decide))
    have S₁ := S'.grow (tk := s.toks) old
    obtain ⟨S₂, e, k⟩ := S₁.alloc (o := { cls := .type "tuple", data := .seq ws }) (tk := s.toks) rfl
    exact ⟨_, g, S₂.push2 (Rd.tuple e rfl rfl ((h4.keeps (S'.fz_grow old)).keeps k)), h6⟩
  · have := h7 rfl
    subst this
    exact call_tuple_same ⟨o, h1, h2, n, h3⟩ ⟨_, g, S'.push S.top, h6⟩
theorem bi_max {v v' : Value} {u u' : V} {Q : QV} (R : Room f.A n) (S : Sat c f P m g (u' :: u :: ds) (v' :: v :: vs) s) (h : vInt u fun i => vInt u' fun j => Q (dI (if i < j then j else i)) g) :
    wpAny (mdl c) f.A (call (.builtin "max") [v, v']) (Gives c f P m ds vs Q) no s := by
  have S' := S.pop2
  obtain ⟨i, t, -, rfl, h⟩ := vInt_inv S.snd h
  obtain ⟨j, t', -, rfl, h⟩ := vInt_inv S.top h
  refine max_two_ints R.h fun h' tk old => ?_
  by_cases q : i < j
  · rw [if_pos q] at h; rw [if_pos (show j > i from q)]; exact ⟨_, g, (S'.grow old).push2 Rd.int, h⟩
  · rw [if_neg q] at h; rw [if_neg (show ¬ j > i from q)]; exact ⟨_, g, (S'.grow old).push2 Rd.int, h⟩
end
end Mine

set_option maxRecDepth 100000
namespace Mine
open PySem PySem.W PySem.Calls PyProof.Rows PySem.Spec
open PySem.W.Fast (sEq sEq_iff)

/-- a rule that works on a frame: what it leaves -/
structure Kept (L : Addr) (h h' : Heap) : Prop where
  keep : ∀ b, b ≠ L → ∀ o, h.get? b = some o → h'.get? b = some o
  ns : ∀ mm, h.Ns L mm → h'.Ns L mm

inductive GivesC (c : Cx) (f : Fm) (P : Prt) (m : Mp) (own : Led) (ds : List V) (us : List Value) (Q : V → Led → Prop) (v : Value) (s' : Shared) : Prop
  | mk (d : V) (out' : Led) (S : Sat c f P m ⟨own, out'⟩ (d :: ds) (v :: us) s') (q : Q d out') : GivesC c f P m own ds us Q v s'
/-- a call of the function (or the class) at an address -/
noncomputable def CallOk (c : Cx) (N : Nat) (a : Addr) (vs : List V) (out : Led) (Q : V → Led → Prop) : Prop :=
  ∀ (f : Fm) P m own ds us (ws : List Value) s, Room f.A N → Sat c f P m ⟨own, out⟩ (vs ++ ds) (ws ++ us) s → ws.length = vs.length → vs.all V.port = true →
    wpAny (mdl c) f.A (call (.ref a) ws) (GivesC c f P m own ds us Q) no s

structure Scp (c : Cx) (N : Nat) (sx : SX) (f : Fm) : Prop where
  sp : ∀ a vs out Q, sx.sp a vs out Q → CallOk c N a vs out Q
  sc : ∀ x k, slook x sx.sc = some k → f.env.kindOf x = some k

noncomputable def GlV (h : Heap) (v : Value) : Gl → Prop
  | .fn a => v = .ref a
  | .strs => Rd h v (pStrs lawStrings)
  | .bi b => v = b.val

noncomputable def mAll : List (Addr × Str × Addr) := mCS.map (fun p => (150, p)) ++ mCStr.map (fun p => (185, p)) ++ mSof.map fun p => (244, p)
/-- what `sorted` makes of texts of codes, and of pairs by their first -/
noncomputable def SortT (c : Cx) : Prop := ∀ {s : Shared} {A : Around} {n : Nat} {L l : Addr} {mm : Str → Option Value} {ws : Array Value} {ss : List (List Int)} {Q : Value → Shared → Prop}, Room A n → c.h₀.StaysIn s.heap → s.heap.Ns L mm → s.heap.IsList l ws → RdAll s.heap ws.toList (ss.map pTup) → ss.Nodup → ss.length ≤ 5 →
  (∀ (D : Addr) (h' : Heap) (tk : Tok) (us : Array Value) (k : Nat) (ts : List (List Int)), Kept L s.heap h' → s.heap.get? D = none → h'.get? D = some (plainL us k) → RdAll s.heap us.toList (ts.map pTup) → (∀ v ∈ us.toList, v ∈ ws.toList) → ts.Perm ss → ts.Pairwise (fun a b => ltL a b = true) → Q (.ref D) { s with heap := h', toks := tk }) →
  wpAny (mdl c) A (call (.builtin "sorted") [.ref l]) Q no s
noncomputable def SortP (c : Cx) : Prop := ∀ {s : Shared} {A : Around} {n : Nat} {L l : Addr} {mm : Str → Option Value} {ws : Array Value} {ps : List (Int × Int)} {Q : Value → Shared → Prop}, Room A n → c.h₀.StaysIn s.heap → s.heap.Ns L mm → c.h₀.get? L = none → s.heap.IsList l ws → RdAll s.heap ws.toList (pPairs ps) → ps.length < 64 →
  (∀ (D : Addr) (h' : Heap) (tk : Tok) (us : Array Value) (k : Nat) (qs : List (Int × Int)), Kept L s.heap h' → s.heap.get? D = none → h'.get? D = some (plainL us k) → RdAll s.heap us.toList (pPairs qs) → (∀ v ∈ us.toList, v ∈ ws.toList) → qs.Perm ps → qs.Pairwise (fun a b => a.1 ≤ b.1) → Q (.ref D) { s with heap := h', toks := tk }) →
  wpAny (mdl c) A (call (.builtin "sorted") [.ref l] [(nmKey, .ref 35)]) Q no s
noncomputable abbrev tkd (c : Cx) : HeapKind c.prog c.w (List Int) := tupleKind (intKind c.prog c.w)
noncomputable def SortD (c : Cx) : Prop := ∀ {s : Shared} {A : Around} {n : Nat} {L D : Addr} {mm : Str → Option Value} {es : List (List Int × Addr × Value)} {Q : Value → Shared → Prop}, Room A n → c.h₀.StaysIn s.heap → s.heap.Ns L mm → s.heap.DictOfH (tkd c) D es → (D == sysModules) = false → RdAll s.heap (es.map fun e => .ref e.2.1) ((es.map (·.1)).map pTup) → es.length ≤ 5 →
  (∀ (B : Addr) (h' : Heap) (tk : Tok) (us : Array Value) (k : Nat) (ts : List (List Int)), Kept L s.heap h' → s.heap.get? B = none → h'.get? B = some (plainL us k) → RdAll s.heap us.toList (ts.map pTup) → (∀ v ∈ us.toList, v ∈ es.map fun e => Value.ref e.2.1) → ts.Perm (es.map (·.1)) → ts.Pairwise (fun a b => ltL a b = true) → Q (.ref B) { s with heap := h', toks := tk }) →
  wpAny (mdl c) A (call (.builtin "sorted") [.ref D]) Q no s
structure Wd (c : Cx) (K : Frag) : Prop where
  ok : KOk K
  X : K.In c.h₀
  glob : ∀ {x : Str} {l : Gl} {s : Shared} {A : Around} {env : Env} {E : Value → Shared → Prop} {Q : Value → Shared → Prop}, slook x gtab = some l → c.h₀.StaysIn s.heap → env.globals = mainGlobals → env.builtins = builtinsNs →
    (∀ v, GlV c.h₀ v l → Q v s) → wpAny (mdl c) A (loadGlobal env x) Q E s
  keep : ∀ a, nmem a callables = true → keepIn K (.ref a) = true
  meth : ∀ p ∈ mAll, plainGet K p.1 p.2.1 = true ∧ findIn K (.ref p.1) p.2.1 = some (some (.ref p.2.2)) ∧ isFn K (.ref p.2.2) = true
  sortT : SortT c
  sortP : SortP c
  sortD : SortD c
  sys : ∃ o, c.h₀.get? sysModules = some o
  stat : ∃ mc rest, specialIn K (.ref 150) "__getattribute__" = some (some (.builtin "type.__getattribute__")) ∧ readsIn K 150 mc = true ∧ findCls K (.ref 150) mc nmOf = some (.get (.builtin "staticmethod.__get__") (.ref 78) .none (.ref 150)) ∧
    recIn K 78 "staticmethod" = some (.ref 76 :: rest)

structure RcOk (c : Cx) (N : Nat) (r : Rc) (n : Nat) : Prop where
  E : ∀ {sx f m e own g Q}, Scp c N sx f → Room f.A (N + n) → r.E sx m e own g Q → EvP c f m g (eval e f.env) Q
  T : ∀ {sx f m e g k}, Scp c N sx f → Room f.A (N + n) → r.T sx m e g k → TeP c f m g (isTrue e f.env (eval e f.env)) k
  X : ∀ {sx f st m g Q}, Scp c N sx f → Room f.A (N + n) → r.X sx st m g Q → ExP c f m g (exec st f.env) Q
  U : ∀ {sx f m elt gens scope pos own g Q}, Scp c N sx f → Room f.A (N + n) → r.E sx m (.ListComp elt gens scope pos) own g Q → ∀ P ds vs s (u : Value → Sem Unit) (T : Mp → G → Prop), Sat c f P m g ds vs s →
    (∀ P' v d g' s', Sat c f P' m g' (d :: ds) (v :: vs) s' → Q d g' → wpAny (mdl c) f.A (u v) (fun _ => Gives2 c f P' ds vs T) no s') →
    wpAny (mdl c) f.A (evalThenUse (.ListComp elt gens scope pos) f.env u) (fun _ => Gives2 c f P ds vs T) no s

theorem Room.le {A : Around} {n k : Nat} (R : Room A n) (h : k ≤ n) : Room A k := ⟨R.h, by have := R.d; (first | lia | omega), by have := R.u; (first | lia | omega)⟩
theorem bB_inv {b : Bool} {x : Prop} (h : bB b x) : b = true ∧ x := by cases b; cases h; exact ⟨rfl, h⟩

section
variable {c : Cx} {K : Frag} {f : Fm} {P : Prt} {m : Mp} {g : G} {ds : List V} {vs : List Value} {s : Shared} {n N : Nat} {r : Rc} {sx : SX}

theorem slook_mem {α : Type} {x : Str} {d : α} : ∀ {l : List (Str × α)}, slook x l = some d → (x, d) ∈ l
  | [], h => by cases h
  | p :: l, h => by
    unfold slook at h
    split at h
    · rename_i e
      cases h
      obtain ⟨a, b⟩ := p
      rw [← show a = x from sEq_iff.mp e]
      exact .head _
    · exact .tail _ (slook_mem h)

theorem nmDebug_ne {x : Str} (h : sEq x nmDebug = false) : (x == ("__debug__" : Str)) = false := by
  refine beq_eq_false_iff_ne.mpr fun e => ?_
  rw [show sEq x nmDebug = true from sEq_iff.mpr e] at h
  cases h

/-- a name -/
theorem ok_load {x : Str} {Q : QV} (W : Wd c K) (C : Scp c N sx f) (h : vName sx m x g Q) : EvP c f m g (loadName f.env x) Q ∧ sEq x nmDebug = false := by
  unfold vName at h
  split at h
  · cases h
  · rename_i hd
    refine ⟨fun P ds vs s S => ?_, hd⟩
    split at h
    · rename_i p hp
      have hm := slook_mem hp
      obtain ⟨b, ov⟩ := p
      obtain ⟨d, rfl, h⟩ := oB_inv h
      cases b with
      | false =>
        obtain ⟨mm, hn, hl⟩ := S.frame.ns
        obtain ⟨hk, hv⟩ := hl _ _ hm
        obtain ⟨u, hu, ru⟩ := hv d rfl
        exact wpAny_loadName_local S.frame.fn hk hn hu ⟨d, g, S.push ru, h⟩
      | true =>
        obtain ⟨hk, cc, ou, h1, h2, h3⟩ := S.frame.cells _ _ hm
        obtain ⟨u, rfl, ru⟩ := h3 d rfl
        exact wpAny_loadName_cell S.frame.fn hk h1 h2 ⟨d, g, S.push ru, h⟩
    · unfold vGlob at h
      split at h
      · rename_i hg
        obtain ⟨l, hl, h⟩ := oB_inv h
        have hk := C.sc _ _ hg
        unfold loadName
        simp only [Env.blockKind, S.frame.fn, hk, ScopeKind.isAnnotationScope, Bool.false_and, Bool.false_eq_true, if_false]
        refine W.glob hl S.frozen S.frame.glob S.frame.blt fun v hv => ?_
        match l, hv, h with
        | .fn a, hv, h => exact ⟨_, g, S.push (d := .fn a) hv, h⟩
        | .strs, hv, h => exact ⟨_, g, S.push2 (Rd.keeps S.base hv), h⟩
        | .bi b, hv, h => exact ⟨_, g, S.push (d := .bi b) hv, h⟩
      · cases h
theorem ok_Name {x : Str} {pos : Pos} {Q : QV} (W : Wd c K) (C : Scp c N sx f) (h : vName sx m x g Q) : EvP c f m g (eval (.Name x pos) f.env) Q := fun P ds vs s S =>
  wpAny_Name ((ok_load W C h).1 P ds vs s S) (nmDebug_ne (ok_load W C h).2)

/-- a chain of comparisons -/
theorem ok_chain (O : RcOk c N r n) (C : Scp c N sx f) (R : Room f.A (N + n)) {pos : Pos} : ∀ {ops : List CmpOp} {es : List Expr} {a : V} {v : Value} {g : G} {k : Bool → G → Prop} {s : Shared}, vChain r sx m a ops es g k → Sat c f P m g (a :: ds) (v :: vs) s →
    wpAny (mdl c) f.A (compareChain pos v ops (evalEach es f.env)) (GivesB c f P m ds vs k) no s ∧
    wpAny (mdl c) f.A (testChain pos v ops (evalEach es f.env)) (GivesT c f P m ds vs k) no s
  | [op], [e], a, v, g, k, s, h, S => by
    have h1 := O.E C R h P _ _ _ S
    refine ⟨chain_last (wpAny_mono h1 (fun w s' q => ?_) no_imp), test_last (wpAny_mono h1 (fun w s' q => ?_) no_imp)⟩
    · obtain ⟨d, g', S', q⟩ := q
      exact op_cmp R S' q fun b hb => ⟨b, g', rfl, S'.pop2, hb⟩
    · obtain ⟨d, g', S', q⟩ := q
      exact op_cmp R S' q fun b hb => wpAny_truthy_bool ⟨g', S'.pop2, hb⟩
  | op :: op' :: ops, e :: e' :: es, a, v, g, k, s, h, S => by
    have h1 := O.E C R h P _ _ _ S
    have drop : ∀ {d : V} {w : Value} {g' : G} {s' : Shared}, Sat c f P m g' (d :: a :: ds) (w :: v :: vs) s' → Sat c f P m g' (d :: ds) (w :: vs) s' := fun S' => S'.pop.pop.push S'.top
    refine ⟨chain_link (wpAny_mono h1 (fun w s' q => ?_) no_imp), test_link (wpAny_mono h1 (fun w s' q => ?_) no_imp)⟩
    · obtain ⟨d, g', S', q⟩ := q
      refine op_cmp R S' q fun b hb => wpAny_truthy_bool ?_
      cases b with
      | true => exact (ok_chain O C R (hb) (drop S')).1
      | false => exact ⟨false, g', rfl, S'.pop2, hb⟩
    · obtain ⟨d, g', S', q⟩ := q
      refine op_cmp R S' q fun b hb => wpAny_truthy_bool ?_
      cases b with
      | true => exact (ok_chain O C R (hb) (drop S')).2
      | false => exact ⟨g', S'.pop2, hb⟩
  | [], _, _, _, _, _, _, h, _ => (show False from h).elim
  | [_], [], _, _, _, _, _, h, _ => (show False from h).elim
  | [_], _ :: _ :: _, _, _, _, _, _, h, _ => (show False from h).elim
  | _ :: _ :: _, [], _, _, _, _, _, h, _ => (show False from h).elim
  | _ :: _ :: _, [_], _, _, _, _, _, h, _ => (show False from h).elim

theorem okEs_marks : ∀ {ops : List CmpOp} {es : List Expr}, okEs es = true → lastMarks ops es = false
  | [], _, _ => by unfold lastMarks; rfl
  | _ :: ops, [], _ => by cases ops <;> (unfold lastMarks; rfl)
  | [op], [e], h => by
    unfold lastMarks
    have : isPlainE e = true := by simpa [okEs] using h
    cases e <;> first | rfl | cases this
  | [_], _ :: _ :: es, h => by
    unfold lastMarks
    unfold lastMarks
    rfl
  | _ :: o :: ops, [e], h => by unfold lastMarks; cases ops <;> (unfold lastMarks; rfl)
  | _ :: o :: ops, e :: e' :: es, h => by
    unfold lastMarks
    exact okEs_marks (ops := o :: ops) (es := e' :: es) (by
      unfold okEs at h ⊢
      rw [List.all_cons] at h
      exact (Bool.and_eq_true_iff.mp h).2)

theorem ok_Compare {l : Expr} {ops : List CmpOp} {es : List Expr} {pos : Pos} {k : Bool → G → Prop} (O : RcOk c N r n) (C : Scp c N sx f) (R : Room f.A (N + n)) (h : bB (okEs es) (r.E sx m l false g fun u g => vChain r sx m u ops es g k)) :
    EvP c f m g (eval (.Compare l ops es pos) f.env) (fun v g => ∃ b, v = dB b ∧ k b g) ∧ TeP c f m g (isTrue (.Compare l ops es pos) f.env (eval (.Compare l ops es pos) f.env)) k := by
  obtain ⟨hk, h⟩ := bB_inv h
  have hm := markedEach_of_false ops es (evalEach es f.env) (okEs_marks hk)
  refine ⟨fun P ds vs s S => ?_, fun P ds vs s S => ?_⟩
  · show wpAny _ _ (do compareChain pos (← eval l f.env) ops (markedEach ops es (evalEach es f.env))) _ _ s
    rw [hm]
    refine wpAny_bind (wpAny_mono (O.E C R h P _ _ _ S) (fun w s' q => ?_) no_imp)
    obtain ⟨d, g', S', q⟩ := q
    refine wpAny_mono (ok_chain O C R q S').1 (fun w s' q => ?_) no_imp
    obtain ⟨b, g', rfl, S', q⟩ := q
    exact ⟨_, g', S'.pushB, b, rfl, q⟩
  · show wpAny _ _ (do testChain pos (← eval l f.env) ops (markedEach ops es (evalEach es f.env))) _ _ s
    rw [hm]
    refine wpAny_bind (wpAny_mono (O.E C R h P _ _ _ S) (fun w s' q => ?_) no_imp)
    obtain ⟨d, g', S', q⟩ := q
    exact (ok_chain O C R q S').2

theorem EvP.mono {t : Sem Value} {Q Q' : QV} (h : EvP c f m g t Q) (k : ∀ v g, Q v g → Q' v g) : EvP c f m g t Q' := fun P ds vs s S =>
  wpAny_mono (h P ds vs s S) (fun v s' q => let ⟨d, g', S', q⟩ := q; ⟨d, g', S', k _ _ q⟩) no_imp

/-- and, or: their value -/
theorem ok_BoolOp {op : BoolOp} {pos : Pos} (O : RcOk c N r n) (C : Scp c N sx f) (R : Room f.A (N + n)) : ∀ {es : List Expr} {g : G} {Q : QV}, vBoolOp r sx m op es g Q → EvP c f m g (eval (.BoolOp op es pos) f.env) Q
  | [], g, Q, h => by unfold vBoolOp at h; cases h
  | [e], g, Q, h => fun P ds vs s S => BoolOp_one (O.E C R (show r.E sx m e false g Q from h) P ds vs s S)
  | e :: e' :: es, g, Q, h => fun P ds vs s S => by
    unfold vBoolOp at h
    have h1 := O.E C R h P ds vs s S
    cases op with
    | And =>
      refine BoolOp_and (wpAny_mono h1 (fun w s' q => ?_) no_imp)
      obtain ⟨d, g', S', q⟩ := q
      obtain ⟨b, rfl, rfl, q⟩ := vBool_inv S'.top q
      refine wpAny_truthy_bool ?_
      cases b with
      | true => exact ok_BoolOp O C R (q) P ds vs _ S'.pop
      | false => exact ⟨_, g', S', q⟩
    | Or =>
      refine BoolOp_or (wpAny_mono h1 (fun w s' q => ?_) no_imp)
      obtain ⟨d, g', S', q⟩ := q
      obtain ⟨b, rfl, rfl, q⟩ := vBool_inv S'.top q
      refine wpAny_truthy_bool ?_
      cases b with
      | true => exact ⟨_, g', S', q⟩
      | false => exact ok_BoolOp O C R (q) P ds vs _ S'.pop

/-- and, or: their truth -/
theorem ok_TBoolOp {op : BoolOp} {pos : Pos} {whole : Sem Value} (O : RcOk c N r n) (C : Scp c N sx f) (R : Room f.A (N + n)) : ∀ {es : List Expr} {g : G} {k : Bool → G → Prop}, vTBoolOp r sx m op es g k → TeP c f m g (isTrue (.BoolOp op es pos) f.env whole) k
  | [], g, k, h => fun P ds vs s S => by
    unfold vTBoolOp at h
    cases op with
    | And => exact isTrue_and_nil ⟨g, S, h⟩
    | Or => exact isTrue_or_nil ⟨g, S, h⟩
  | e :: es, g, k, h => fun P ds vs s S => by
    unfold vTBoolOp at h
    have h1 := O.T C R h P ds vs s S
    cases op with
    | And =>
      refine isTrue_and (wpAny_mono h1 (fun b s' q => ?_) no_imp)
      obtain ⟨g', S', q⟩ := q
      cases b with
      | true => exact ok_TBoolOp O C R (q) P ds vs _ S'
      | false => exact ⟨g', S', q⟩
    | Or =>
      refine isTrue_or (wpAny_mono h1 (fun b s' q => ?_) no_imp)
      obtain ⟨g', S', q⟩ := q
      cases b with
      | true => exact ⟨g', S', q⟩
      | false => exact ok_TBoolOp O C R (q) P ds vs _ S'
theorem ok_TPure {op : BoolOp} {pos : Pos} {whole : Sem Value} (O : RcOk c N r n) (C : Scp c N sx f) (R : Room f.A (N + n)) : ∀ {es : List Expr} {g : G} {k : Bool → G → Prop}, vTPure r sx m op es g k → TeP c f m g (isTrue (.BoolOp op es pos) f.env whole) k
  | [], g, k, h => fun P ds vs s S => by
    unfold vTPure at h
    cases op with
    | And => exact isTrue_and_nil ⟨g, S, h⟩
    | Or => exact isTrue_or_nil ⟨g, S, h⟩
  | [e], g, k, h => fun P ds vs s S => by
    unfold vTPure at h
    have h1 := O.T C R h P ds vs s S
    cases op with
    | And =>
      refine isTrue_and (wpAny_mono h1 (fun b s' q => ?_) no_imp)
      obtain ⟨g', S', q⟩ := q
      cases b with
      | true => exact isTrue_and_nil ⟨g', S', q⟩
      | false => exact ⟨g', S', q⟩
    | Or =>
      refine isTrue_or (wpAny_mono h1 (fun b s' q => ?_) no_imp)
      obtain ⟨g', S', q⟩ := q
      cases b with
      | true => exact ⟨g', S', q⟩
      | false => exact isTrue_or_nil ⟨g', S', q⟩
  | e :: e' :: es, g, k, h => fun P ds vs s S => by
    unfold vTPure at h
    have h1 := O.T C R h P ds vs s S
    cases op with
    | And =>
      refine isTrue_and (wpAny_mono h1 (fun b s' q => ?_) no_imp)
      obtain ⟨g', S', b', q1, q2⟩ := q
      cases b with
      | true =>
        refine wpAny_mono (ok_TPure O C R (q1 rfl) P ds vs _ S') (fun b s' q => ?_) no_imp
        obtain ⟨g'', S'', rfl, rfl⟩ := q
        exact ⟨_, S'', by simpa using q2⟩
      | false => exact ⟨g', S', by simpa using q2⟩
    | Or =>
      refine isTrue_or (wpAny_mono h1 (fun b s' q => ?_) no_imp)
      obtain ⟨g', S', b', q1, q2⟩ := q
      cases b with
      | false =>
        refine wpAny_mono (ok_TPure O C R (q1 rfl) P ds vs _ S') (fun b s' q => ?_) no_imp
        obtain ⟨g'', S'', rfl, rfl⟩ := q
        exact ⟨_, S'', by simpa using q2⟩
      | true => exact ⟨g', S', by simpa using q2⟩

/-- truth of an expression -/
theorem ok_stepT (W : Wd c K) (O : RcOk c N r n) (C : Scp c N sx f) (R : Room f.A (N + n)) {e : Expr} {k : Bool → G → Prop} (h : stepT r sx m e g k) : TeP c f m g (isTrue e f.env (eval e f.env)) k := by
  have plain : ∀ {e : Expr}, (r.E sx m e false g fun v g => vBool v fun b => k b g) → (isTrue e f.env (eval e f.env) = (do let v ← eval e f.env; standAt e.pos; holding [v] (truthy v))) → TeP c f m g (isTrue e f.env (eval e f.env)) k := fun {e} h he P ds vs s S => by
    refine isTrue_plain (wpAny_mono (O.E C R h P ds vs s S) (fun w s' q => ?_) no_imp) he
    obtain ⟨d, g', S', q⟩ := q
    obtain ⟨b, rfl, rfl, q⟩ := vBool_inv S'.top q
    exact wpAny_truthy_bool ⟨g', S'.pop, q⟩
  cases e with
  | UnaryOp op a p =>
    cases op with
    | Not =>
      intro P ds vs s S
      refine isTrue_not (wpAny_mono (O.T C R h P ds vs s S) (fun b s' q => ?_) no_imp)
      obtain ⟨g', S', q⟩ := q
      exact ⟨g', S', q⟩
    | _ => cases h
  | BoolOp op es p =>
    unfold stepT at h
    dsimp only at h
    split at h
    · exact ok_TPure O C R h
    · exact ok_TBoolOp O C R h
  | Compare a ops es p => exact (ok_Compare O C R h).2
  | IfExp t a b p => cases h
  | _ => exact plain h rfl
end
end Mine

set_option maxRecDepth 100000
namespace Mine
open PySem PySem.W PySem.Calls PyProof.Rows PySem.Spec
open PySem.W.Fast (sEq sEq_iff)

section
variable {c : Cx} {K : Frag} {f : Fm} {P : Prt} {m : Mp} {g : G} {ds : List V} {vs : List Value} {s : Shared} {n N : Nat} {r : Rc} {sx : SX}

theorem Sat.restack {ds' : List V} {vs' : List Value} (S : Sat c f P m g ds vs s) (k : Reps c.w.params (fz s.heap (muts f P g)) vs ds → Reps c.w.params (fz s.heap (muts f P g)) vs' ds') : Sat c f P m g ds' vs' s := { S with stack := k S.stack }

section
variable {Pr : Params} {z : Heap}
theorem Reps.app : ∀ {ws : List Value} {es : List V}, Reps Pr z ws es → Reps Pr z vs ds → Reps Pr z (ws ++ vs) (es ++ ds)
  | _, _, .nil, b => b
  | _, _, .cons a r, b => .cons a (r.app b)
theorem Reps.split : ∀ {ws : List Value} {es : List V}, ws.length = es.length → Reps Pr z (ws ++ vs) (es ++ ds) → Reps Pr z ws es ∧ Reps Pr z vs ds
  | [], [], _, r => ⟨.nil, r⟩
  | [], _ :: _, h, _ => by cases h
  | _ :: _, [], h, _ => by cases h
  | w :: ws, e :: es, h, r => by
    cases r with
    | cons a r =>
      have := Reps.split (ws := ws) (es := es) (Nat.succ.inj h) r
      exact ⟨.cons a this.1, this.2⟩
theorem Reps.rot {ws : List Value} {es : List V} {v : Value} {d : V} (h : ws.length = es.length) (r : Reps Pr z (ws ++ v :: vs) (es ++ d :: ds)) : Reps Pr z (v :: ws ++ vs) (d :: es ++ ds) := by
  obtain ⟨a, b⟩ := Reps.split h r
  cases b with
  | cons q b => exact .cons q (a.app b)
end

theorem okEs_hd {e : Expr} {es : List Expr} (h : okEs (e :: es) = true) : isPlainE e = true ∧ okEs es = true := by
  unfold okEs at h ⊢
  rw [List.all_cons] at h
  exact Bool.and_eq_true_iff.mp h
theorem star_hd {e : Expr} {es : List Expr} {env : Env} (h : isPlainE e = true) : starEach (e :: es) env = (false, eval e env) :: starEach es env := by
  cases e <;> first | rfl | cases h
theorem star_any {env : Env} {pos : Pos} : ∀ {es : List Expr}, okEs es = true → (backTo pos (starEach es env)).any (·.1) = false
  | [], _ => rfl
  | e :: es, h => by
    rw [star_hd (okEs_hd h).1]
    show (false || (backTo pos (starEach es env)).any (·.1)) = false
    rw [star_any (okEs_hd h).2]; rfl
theorem star_form {env : Env} {pos : Pos} : ∀ {es : List Expr}, okEs es = true → (backTo pos (starEach es env)).all (fun x => !x.1) = true
  | [], _ => rfl
  | e :: es, h => by
    rw [star_hd (okEs_hd h).1]
    show (true && (backTo pos (starEach es env)).all (fun x => !x.1)) = true
    rw [star_form (okEs_hd h).2]; rfl

/-- the items of a display, the arguments of a call -/
theorem ok_vEs (O : RcOk c N r n) (C : Scp c N sx f) (R : Room f.A (N + n)) {pos : Pos} : ∀ {es : List Expr} {g : G} {k : List V → G → Prop}, vEs r sx m es g k → EvsP c f m g (spliced (backTo pos (starEach es f.env))) k
  | [], g, k, h => fun P ds vs s S => wpAny_items_nil ⟨[], g, S, rfl, h⟩
  | e :: es, g, k, h => fun P ds vs s S => by
    obtain ⟨hp, h⟩ := bB_inv h
    refine wpAny_items_cons (wpAny_mono (O.E C R h P ds vs s S) (fun w s' q => ?_) no_imp) (star_hd hp)
    obtain ⟨d, g', S', q⟩ := q
    refine wpAny_mono (ok_vEs O C R q P _ _ _ S') (fun ws s'' q => ?_) no_imp
    obtain ⟨es', g'', S'', hl, q⟩ := q
    exact ⟨d :: es', g'', S''.restack (Reps.rot hl), by simp [hl], q⟩

/-- frozen -/
inductive DatasAt (c : Cx) (f : Fm) (P : Prt) (m : Mp) (g : G) (ds : List V) (vs : List Value) (s : Shared) (ws : List Value) (k : List PyData → G → Prop) : Prop
  | mk (xs : List PyData) (g' : G) (S : Sat c f P m g' ds vs s) (z : (fz s.heap (muts f P g)).StaysIn (fz s.heap (muts f P g'))) (r : RdAll (fz s.heap (muts f P g')) ws xs) (q : k xs g') : DatasAt c f P m g ds vs s ws k
theorem ok_vDatas : ∀ {es : List V} {ws : List Value} {g : G} {k : List PyData → G → Prop}, vDatas es g k → ws.length = es.length → Sat c f P m g (es ++ ds) (ws ++ vs) s →
    DatasAt c f P m g ds vs s ws k
  | [], [], g, k, h, _, S => ⟨[], g, S, fun _ _ e => e, .nil, h⟩
  | [], _ :: _, _, _, _, h, _ => by cases h
  | _ :: _, [], _, _, _, h, _ => by cases h
  | e :: es, w :: ws, g, k, h, hl, S => by
    have one : ∃ x g₁, Sat c f P m g₁ (e :: (es ++ ds)) (w :: (ws ++ vs)) s ∧ (fz s.heap (muts f P g)).StaysIn (fz s.heap (muts f P g₁)) ∧ Rd (fz s.heap (muts f P g₁)) w x ∧ vDatas es g₁ fun xs g => k (x :: xs) g := by
      unfold vDatas at h
      unfold vData at h
      have top := S.top
      cases e with
      | d x => exact ⟨x, g, S, fun _ _ e => e, top, h⟩
      | loc o i a =>
        cases o with
        | false => cases h
        | true =>
          dsimp only at h
          split at h
          · rename_i p hp
            obtain ⟨p1, p2⟩ := p
            dsimp only at h
            split at h
            · rename_i xs
              obtain ⟨rfl, h⟩ := h
              obtain ⟨S', q⟩ := S.freeze hp
              obtain rfl : w = .ref p1 := top
              refine ⟨.list xs, _, S', fz_stays fun b o hb e => ⟨e, fun q => hb ?_⟩, q, h⟩
              revert q
              obtain ⟨pre, post, e1, e2⟩ := list_split hp
              have e3 : lset g.own i (p1, .gone) = pre ++ (p1, AO.gone) :: post := e2 _
              have h1 : lv g.own = lv pre ++ p1 :: lv post := by rw [e1, lv_append, lv_cons_live rfl]
              have h2 : lv (lset g.own i (p1, .gone)) = lv pre ++ lv post := by rw [e3, lv_append, lv_cons_gone rfl]
              rw [muts_own, h2]
              unfold muts
              rw [h1]
              simp only [List.mem_append, List.mem_cons]
              grind
            · cases h
          · cases h
      | _ => cases h
    obtain ⟨x, g₁, S₁, z, rx, h⟩ := one
    obtain ⟨xs, g₂, S₂, z₂, rxs, h⟩ := ok_vDatas h (Nat.succ.inj hl) S₁.pop
    exact ⟨x :: xs, g₂, S₂, fun b o e => z₂ b o (z b o e), .cons (rx.keeps z₂) rxs, h⟩

theorem ok_List {es : List Expr} {pos : Pos} {own : Bool} {Q : QV} (O : RcOk c N r n) (C : Scp c N sx f) (R : Room f.A (N + n)) (h : vEs r sx m es g fun vs g => vDatas vs g fun xs g => xs.length ≤ 1000 ∧ vNewList own xs g Q) :
    EvP c f m g (eval (.List es pos) f.env) Q := fun P ds vs s S => by
  refine List_ (wpAny_mono (ok_vEs O C R h P ds vs s S) (fun ws s' q => ?_) no_imp)
  obtain ⟨es', g', S', hl, q⟩ := q
  obtain ⟨xs, g'', S'', z, hr, hx, q⟩ := ok_vDatas q hl S'
  have hlen := hr.length
  exact wpAny_newList (give_list (ws := ws.toArray) (k := 0) (tk := s'.toks) S'' get_none (fun b o e => Heap.get?_push_of_some _ e) (Heap.get?_push_size _ rfl) (by simpa using hr) q) (Nat.le_trans (by (first | lia | omega) : ws.length ≤ 1000) (by decide))
theorem ok_Tuple {es : List Expr} {k : Nat} {pos : Pos} {Q : QV} (O : RcOk c N r n) (C : Scp c N sx f) (R : Room f.A (N + n)) (h : vEs r sx m es g fun vs g => vDatas vs g fun xs g => xs.length ≤ 1000 ∧ Q (.d (.tuple xs)) g) :
    EvP c f m g (eval (.Tuple es k pos) f.env) Q := fun P ds vs s S => by
  refine Tuple_ (wpAny_mono (ok_vEs O C R h P ds vs s S) (fun ws s' q => ?_) no_imp)
  obtain ⟨es', g', S', hl, q⟩ := q
  obtain ⟨xs, g'', S'', z, hr, hx, q⟩ := ok_vDatas q hl S'
  have hlen := hr.length
  refine wpAny_newTuple ?_ (Nat.le_trans (by (first | lia | omega) : ws.length ≤ 1000) (by decide))
  obtain ⟨S₂, e, k⟩ := S''.alloc (o := { cls := .type "tuple", data := .seq ws.toArray }) (tk := s'.toks) rfl
  exact ⟨_, g'', S₂.push2 (Rd.tuple e rfl rfl (by simpa using hr.keeps k)), q⟩

/-- the heap grows; the frame may lie anew -/
theorem Sat.growN (S : Sat c f P m g ds vs s) {h' : Heap} {tk : Tok} (k : ∀ b, b ≠ f.env.locals → ∀ o, s.heap.get? b = some o → h'.get? b = some o) (hn : ∀ mm, s.heap.Ns f.env.locals mm → h'.Ns f.env.locals mm) :
    Sat c f P m g ds vs { s with heap := h', toks := tk } ∧ (fz s.heap (muts f P g)).StaysIn (fz h' (muts f P g)) := by
  have z : (fz s.heap (muts f P g)).StaysIn (fz h' (muts f P g)) := fz_stays fun b o n e => ⟨k b (fun q => n (q ▸ mem_muts_L)) o e, n⟩
  refine ⟨⟨fun b o e => z b o (S.base b o e), fun p hp => k _ (S.nL_P hp) _ (S.prot p hp), fun p hp => (S.own p hp).at' z fun hl o e => k _ (S.nL_own hp hl) o e, fun p hp => (S.out p hp).at' z fun hl o e => k _ (S.nL_out hp hl) o e,
    S.frame.move' z hn (fun _ _ o hc e => k _ (S.nL_cell (mem_lookup hc)) o e), S.nodup, S.stack.keeps z, S.rest, fun a ha => ?_⟩, z⟩
  by_cases q : a = f.env.locals
  · subst q
    obtain ⟨mm, h1, _⟩ := S.frame.ns
    obtain ⟨o, _, _, e, _⟩ := hn _ h1
    exact ⟨o, e⟩
  · obtain ⟨o, e⟩ := S.live a ha; exact ⟨o, k a q o e⟩

/-- to use a rule of the library's that is said of a frame and a ledger -/
theorem Sat.lib (S : Sat c f P m g ds vs s) : ∃ mm, Fr (hp0 s.heap) f.env.locals s.heap mm ∧ News (hp0 s.heap) f.env.locals s.heap (allBut s.heap [f.env.locals]) ∧
    ∀ h' extra, Fr (hp0 s.heap) f.env.locals h' mm → News (hp0 s.heap) f.env.locals h' (extra ++ allBut s.heap [f.env.locals]) →
      (∀ b, b ≠ f.env.locals → ∀ o, s.heap.get? b = some o → h'.get? b = some o) ∧ ∀ mm, s.heap.Ns f.env.locals mm → h'.Ns f.env.locals mm := by
  obtain ⟨mm, hn, -⟩ := S.frame.ns
  refine ⟨mm, fr0 hn, news0 (.head _), fun h' extra F' N' => ⟨fun b hb o e => (N' (b, o) (List.mem_append_right _ (mem_allBut.mpr ⟨by simp [hb], e⟩))).1, fun mm' hm' => ?_⟩⟩
  have : mm' = mm := by
    obtain ⟨o, es, ep, a1, a2, a3, a4⟩ := hn
    obtain ⟨o', es', ep', b1, b2, b3, b4⟩ := hm'
    rw [a1] at b1; cases b1
    rw [a2] at b2; cases b2
    funext n; rw [← a4, ← b4]
  rw [this]; exact F'.ns

theorem rep_flat {z : Heap} {vs : List Value} {xs : List PyData} (h : RdAll z vs xs) : ∀ n : Nat, RdAll z (List.replicate n vs).flatten (List.replicate n xs).flatten
  | 0 => by simpa using RdAll.nil
  | n + 1 => by simpa [List.replicate_succ] using h.append (rep_flat h n)
theorem foldl_flat (l : List Value) : ∀ (n : Nat) (acc : Array Value), (List.foldl (fun x1 x2 => x1 ++ x2) acc (List.replicate n l.toArray)).toList = acc.toList ++ (List.replicate n l).flatten
  | 0, acc => by simp
  | n + 1, acc => by
    rw [List.replicate_succ, List.foldl_cons, foldl_flat l n]
    simp [List.replicate_succ, List.append_assoc]

theorem ok_ListMul {es : List Expr} {x : Int} {k : Nat} {p p' pos : Pos} {Q : QV} (O : RcOk c N r n) (C : Scp c N sx f) (R : Room f.A (N + n))
    (h : vEs r sx m es g fun vs g => vDatas vs g fun xs g => (0 ≤ x ∧ x ≤ 100 ∧ xs.length ≤ 100 ∧ xs ≠ []) ∧ Q (dL (List.replicate x.toNat xs).flatten) g) : EvP c f m g (eval (.BinOp (.List es p) .Mult (.Constant (.int x) k p') pos) f.env) Q := fun P ds vs s S => by
  refine wpAny_BinOp (List_ (wpAny_mono (ok_vEs O C R h P ds vs s S) (fun ws s' q => ?_) no_imp))
  obtain ⟨es', g', S', hl, q⟩ := q
  obtain ⟨xs, g'', S'', z, hr, ⟨h0, h1, hx, hne⟩, q⟩ := ok_vDatas q hl S'
  have hlen := hr.length
  refine wpAny_newList (wpAny_Constant_int ?_) (Nat.le_trans (by (first | lia | omega) : ws.length ≤ 1000) (by decide))
  obtain ⟨S₂, e, k'⟩ := S''.alloc (o := { cls := .type "list", data := .seq ws.toArray }) (tk := s'.toks) rfl
  have e' : (s'.heap.push { cls := .type "list", data := .seq ws.toArray }).get? s'.heap.objs.size = some { cls := .type "list", data := .seq ws.toArray } := Heap.get?_push_size _ rfl
  have S₃ := S₂.toks (tk := s'.toks + 1)
  obtain ⟨mm, F, Nw, back⟩ := S₃.lib
  refine mul_list F Nw e' (by (first | lia | omega)) (by (first | lia | omega)) (by
    have : ws.length * x.toNat ≤ 100 * 100 := Nat.mul_le_mul (by (first | lia | omega)) (by (first | lia | omega))
    simp
    (first | lia | omega)) fun h' F' N' => ?_
  obtain ⟨b1, b2⟩ := back h' [_] F' N'
  obtain ⟨S₄, z₄⟩ := S₃.growN (tk := s'.toks + 1) b1 b2
  have enew := (N' _ (.head _)).1
  have hwe : ws.toArray.isEmpty = false := by
    cases ws with
    | nil => cases xs with
      | nil => exact absurd rfl hne
      | cons _ _ => cases hlen
    | cons _ _ => rfl
  rw [hwe] at enew
  refine ⟨_, g'', S₄.push2 (Rd.list (vs := _) (n := 0) (fz_get.mpr ⟨enew, S₃.fresh⟩) rfl rfl ?_), q⟩
  rw [if_neg Bool.false_ne_true, foldl_flat]
  simpa using rep_flat ((hr.keeps k').keeps z₄) x.toNat
end
end Mine

set_option maxRecDepth 100000
namespace Mine
open PySem PySem.W PySem.Calls PyProof.Rows PySem.Spec
open PySem.W.Fast (sEq sEq_iff)

section
variable {c : Cx} {K : Frag} {f : Fm} {P : Prt} {m : Mp} {g : G} {ds : List V} {vs : List Value} {s : Shared} {n N : Nat} {r : Rc} {sx : SX}

theorem pStr_inv {z : Heap} : ∀ {ns : List Int} {vs : List Value}, RdAll z vs (ns.map .int) → IntsAre vs ns
  | [], [], _ => .nil
  | [], _ :: _, h => by obtain ⟨_, h⟩ := h; cases h
  | _ :: _, [], h => by obtain ⟨_, h⟩ := h; cases h
  | n :: ns, v :: vs, h => by
    obtain ⟨t, rfl⟩ := rd_int h.inv.1
    exact .cons _ _ (pStr_inv h.inv.2)
theorem pStr_of {z : Heap} {ns : List Int} {vs : List Value} (h : IntsAre vs ns) : RdAll z vs (ns.map .int) := by
  induction h with
  | nil => exact .nil
  | cons _ _ _ ih => exact .cons Rd.int ih

/-- values that stand among frozen ones -/
theorem rdAll_sub {z h : Heap} (k : z.StaysIn h) : ∀ {us : List Value} {ys : List PyData} {ws : List Value} {xs : List PyData}, RdAll z ws xs → RdAll h us ys → (∀ v ∈ us, v ∈ ws) → RdAll z us ys
  | [], ys, _, _, _, b, _ => by obtain ⟨_, b⟩ := b; cases b; exact .nil
  | u :: us, [], _, _, _, b, _ => by obtain ⟨_, b⟩ := b; cases b
  | u :: us, y :: ys, ws, xs, a, b, hs => by
    refine .cons ?_ (rdAll_sub k a b.inv.2 fun v hv => hs v (.tail _ hv))
    obtain ⟨j, hj, e⟩ := List.getElem_of_mem (hs u (.head _))
    obtain ⟨x, hx, hr⟩ := a.get' (show ws[j]? = some u from by rw [List.getElem?_eq_getElem hj, e])
    have : x = y := by
      obtain ⟨as, r1⟩ := Rd.keeps k hr
      obtain ⟨bs, r2⟩ := b.inv.1
      exact (Reads.unique r1 _ _ r2).1
    exact this ▸ hr

theorem bi_sorted {v : Value} {u : V} {Q : QV} (W : Wd c K) (R : Room f.A n) (S : Sat c f P m g (u :: ds) (v :: vs) s)
    (h : vView g u fun xs => (∃ is : List Int, xs = is.map .int ∧ is.length < 64 ∧ ∀ js : List Int, js.Perm is → js.Pairwise (· ≤ ·) → Q (.d (pInts js)) g) ∨
        ∃ ss : List (List Int), xs = ss.map pTup ∧ (ss.Nodup ∧ ss.length ≤ 5) ∧ ∀ ts : List (List Int), ts.Perm ss → ts.Pairwise (fun a b => ltL a b = true) → Q (.d (pStrs ts)) g) :
    wpAny (mdl c) f.A (call (.builtin "sorted") [v]) (Gives c f P m ds vs Q) no s := by
  obtain ⟨l, ws, xs, rfl, hl, hr, h⟩ := vView_inv S S.top h
  have S' := S.pop
  rcases h with ⟨is, rfl, h64, h⟩ | ⟨ss, rfl, ⟨h1, h2⟩, h⟩
  · obtain ⟨mm, F, Nw, back⟩ := S'.lib
    refine kso_sorted F Nw (vs := ws.toList) (by simpa using hl) (pStr_inv hr) h64 fun D vs' ns' cc h' F' N' hD hi' hlen hp hw _ => ?_
    obtain ⟨b1, b2⟩ := back h' [_] F' N'
    obtain ⟨S₄, z₄⟩ := S'.growN (tk := s.toks) b1 b2
    have hDn : D ∉ muts f P g := fun q => by
      by_cases e : D = f.env.locals
      · subst e; exact (N' _ (.head _)).2.1 rfl
      · obtain ⟨o, ho⟩ := S'.live _ q
        exact Nat.lt_irrefl _ (hD (D, o) (mem_allBut.mpr ⟨by simp [e], ho⟩))
    exact ⟨_, g, S₄.push2 (Rd.list (fz_get.mpr ⟨(N' _ (.head _)).1, hDn⟩) rfl rfl (by simpa using pStr_of hi')), h ns' hp hw⟩
  · obtain ⟨mm, hn, _⟩ := S'.frame.ns
    refine W.sortT R S'.frozen hn hl (hr.keeps fz_in) h1 h2 fun D h' tk us k ts ke hD hnew hus hsub hp hw => ?_
    obtain ⟨S₄, z₄⟩ := S'.growN (tk := tk) ke.keep ke.ns
    have hDn : D ∉ muts f P g := fun q => by obtain ⟨o, ho⟩ := S'.live _ q; rw [hD] at ho; cases ho
    exact ⟨_, g, S₄.push2 (Rd.list (fz_get.mpr ⟨hnew, hDn⟩) rfl rfl ((rdAll_sub fz_in hr hus hsub).keeps z₄)), h ts hp hw⟩

/-- a builtin is called -/
theorem op_bi {b : Bi} {ws : List Value} {es : List V} {own : Bool} {Q : QV} (W : Wd c K) (R : Room f.A n) (S : Sat c f P m g (es ++ ds) (ws ++ vs) s) (hl : ws.length = es.length) (h : vBi b es own g Q) :
    wpAny (mdl c) f.A (call b.val ws) (Gives c f P m ds vs Q) no s := by
  cases es with
  | nil => cases b <;> cases h
  | cons u es =>
    obtain ⟨v, ws, rfl, hl1⟩ := lnS (n := es.length) hl
    clear hl
    cases es with
    | nil =>
      obtain rfl := ln0 hl1
      cases b with
      | len => exact bi_len (k := 0) S h
      | list => exact bi_list S h
      | tuple => exact bi_tuple S h
      | int =>
        obtain ⟨i, t, rfl, rfl, h⟩ := vInt_inv S.top h
        exact call_int_int ⟨_, g, S, h⟩
      | bool =>
        obtain ⟨i, rfl, rfl, h⟩ := vBool_inv S.top h
        exact call_bool_bool ⟨_, g, S, h⟩
      | sorted => exact bi_sorted (n := n) W R S h
      | _ => cases h
    | cons u' es =>
      obtain ⟨v', ws, rfl, hl2⟩ := lnS (n := es.length) hl1
      clear hl1
      cases es with
      | nil =>
        obtain rfl := ln0 hl2
        cases b with
        | max => exact bi_max (n := n) R (S.restack fun r => by cases r with | cons a r => cases r with | cons b r => exact .cons b (.cons a r)) h
        | _ => cases h
      | cons _ _ => cases b <;> cases h

/-! callees -/
noncomputable def KpOf (K : Frag) (v : Value) : Prop := (∃ a, v = .ref a ∧ keepIn K v = true) ∨ (∃ id, v = .builtin id) ∨ ∃ T, v = .type T
theorem keeps_any {M : Model} {v : Value} (h : KpOf K v) : ∀ hp, K.In hp → ∃ k, (k = Keeper.frame ∨ k = Keeper.machine ∨ k = Keeper.boundFrame) ∧ Looks M hp (keeperOf v) k := by
  rcases h with ⟨a, rfl, h⟩ | ⟨id, rfl⟩ | ⟨T, rfl⟩
  · exact keeps_K h
  · exact fun hp _ => ⟨.machine, .inr (.inl rfl), .now⟩
  · exact fun hp _ => ⟨.machine, .inr (.inl rfl), .now⟩

theorem ok_callWith (W : Wd c K) (O : RcOk c N r n) (C : Scp c N sx f) (R : Room f.A (N + n)) {pos : Pos} {fv : Value} {first : List Value} {args : List Expr} {k : List V → G → Prop} {QQ : Value → Shared → Prop} (hk : KpOf K fv) (hok : okEs args = true)
    (h : vEs r sx m args g k) (S : Sat c f P m g ds vs s)
    (fin : ∀ ws es g' s', Sat c f P m g' (es ++ ds) (ws ++ vs) s' → ws.length = es.length → k es g' → wpAny (mdl c) f.A (call fv (first ++ ws)) QQ no s') :
    wpAny (mdl c) f.A (callWith pos fv first (backTo pos (starEach args f.env)) []) QQ no s := by
  refine callWith_of (P := K.In) (by rw [star_any hok]; rfl) (keeps_any hk) ?_
  cases args with
  | nil => exact evalArgs_nil3 ⟨W.X.keeps S.frozen, fin [] [] g s S rfl h⟩
  | cons e rest =>
    have h1 := ok_vEs (pos := pos) O C R h P ds vs s S
    rw [star_hd (okEs_hd hok).1] at h1 ⊢
    refine evalArgs_plain (wpAny_mono h1 (fun ws s' q => ?_) no_imp)
    obtain ⟨es, g', S', hl, q⟩ := q
    exact ⟨W.X.keeps S'.frozen, fin ws es g' s' S' hl q⟩

theorem op_call (W : Wd c K) (C : Scp c N sx f) (R : Room f.A (N + n)) {fv : Value} {u : V} {ws : List Value} {es : List V} {own : Bool} {Q : QV} (hv : RepV c.w.params (fz s.heap (muts f P g)) fv u) (S : Sat c f P m g (es ++ ds) (ws ++ vs) s) (hl : ws.length = es.length) (h : vCall sx u es own g Q) :
    wpAny (mdl c) f.A (call fv ws) (Gives c f P m ds vs Q) no s := by
  cases u with
  | fn a =>
    obtain rfl : fv = .ref a := hv
    obtain ⟨hb, h⟩ := bB_inv h
    obtain ⟨_, hp⟩ := Bool.and_eq_true_iff.mp hb
    refine wpAny_mono (C.sp _ _ _ _ h f P m g.own ds vs ws s (R.le (Nat.le_add_right _ _)) S hl hp) (fun v s' q => ?_) no_imp
    obtain ⟨d, out', S', q⟩ := q
    exact ⟨d, _, S', q⟩
  | bi b =>
    obtain rfl : fv = b.val := hv
    exact op_bi (n := N + n) W R S hl h
  | _ => cases h

/-- what a callee is, from its value -/
theorem call_kp (W : Wd c K) {fv : Value} {u : V} {z : Heap} {Pr : Params} (hv : RepV Pr z fv u) (h : (∃ a, u = .fn a ∧ nmem a callables = true) ∨ ∃ b, u = .bi b) : KpOf K fv := by
  rcases h with ⟨a, rfl, h⟩ | ⟨b, rfl⟩
  · obtain rfl : fv = .ref a := hv
    exact .inl ⟨a, rfl, W.keep a h⟩
  · obtain rfl : fv = b.val := hv
    cases b <;> first | exact .inr (.inl ⟨_, rfl⟩) | exact .inr (.inr ⟨_, rfl⟩)
end
end Mine

set_option maxRecDepth 100000
namespace Mine
open PySem PySem.W PySem.Calls PyProof.Rows PySem.Spec
open PySem.W.Fast (sEq sEq_iff)

section
variable {c : Cx} {K : Frag} {f : Fm} {P : Prt} {m : Mp} {g : G} {ds : List V} {vs : List Value} {s : Shared} {n N : Nat} {r : Rc} {sx : SX}

theorem base_of {o : Expr} {name : Str} {env : Env} {t : Sem Value} (h : isCallE o = false) : attributeBase o name env t = t := by cases o <;> first | rfl | cases h

theorem method_form {env : Env} {o : Expr} {name : Str} {apos pos : Pos} {args : List Expr} {M : Model} {A : Around} {E : Value → Shared → Prop} {Q : Value → Shared → Prop} (ho : isCallE o = false) (hok : okEs args = true) (hline : (apos.endLine == pos.line) = true) (hlen : args.length ≤ 20)
    (h : wpAny M A (eval o env) (fun ov s₁ => ∀ pl, wpAny M A (getMethod ov name pl) (fun z s₂ => wpAny M A (callWith pos z.1 z.2 (backTo pos (starEach args env)) []) Q E s₂) E s₁) E s) :
    wpAny M A (eval (.Call (.Attribute o name apos) args [] pos) env) Q E s := by
  rw [arm_eval_Call, base_of ho]
  refine wpAny_bind (wpAny_mono h (fun ov s₁ h₁ => wpAny_bind (wpAny_standAt ?_)) fun _ _ e => e)
  have hform : methodCallForm (args.length + ([] : List Keyword).length) (backTo pos (starEach args env)) (backToKw pos (keywordEach [] env)) = true := by
    unfold methodCallForm
    rw [star_form hok, show backToKw pos (keywordEach [] env) = [] from rfl]
    simp
    (first | lia | omega)
  have hpos : methodCallPos true o env apos pos = pure pos := by unfold methodCallPos; simp [hline]
  unfold methodCall
  rw [hform]
  refine wpAny_bind (wpAny_holding ?_)
  show wpAny M A (getMethod ov name _) _ E s₁
  refine wpAny_mono (h₁ _) (fun z s₂ h₂ => ?_) fun _ _ e => e
  exact wpAny_bind (wpAny_of_eq hpos h₂)

theorem ents_none {Pr : Params} {z : Heap} {es : List DictEntry} {fs : List (Str × V)} {x : Str} (r : Ents Pr z es fs) (h : slook x fs = none) : getL x es = some none := by
  have nk : es.any (·.refKey) = false := by
    clear h
    induction r with
    | nil => rfl
    | cons a r ih => rw [List.any_cons, ih]; rfl
  have nf : es.find? (fun e => e.key.isStr x) = none := by
    clear nk
    induction r with
    | nil => rfl
    | @cons name t u d es fs a r ih =>
      unfold slook at h
      rw [List.find?_cons]
      have e : (ent Pr name t u).key.isStr x = (name == x) := rfl
      by_cases q : name = x
      · rw [sEq_iff.mpr q] at h; cases h
      · have q2 : sEq name x = false := Bool.eq_false_iff.mpr fun z => q (sEq_iff.mp z)
        simp only [q2] at h
        rw [e, beq_eq_false_iff_ne.mpr q]
        exact ih h
  unfold getL
  rw [nf]
  simp only
  rw [nk]
  rfl
theorem shadow_of {Pr : Params} {z : Heap} {es : List DictEntry} {fs : List (Str × V)} {x : Str} {k : Nat} (r : Ents Pr z es fs) (h : slook x fs = none) : shadowIn (some (dictOf es k)) x = some false := by
  show (lookIn x (dictOf es k)).map _ = _
  rw [lookIn_dict, ents_none r h]
  rfl

theorem cs_names : ∀ p ∈ mCS, slook p.1 [(nmBounds, V.d .none)] = none := by
  intro p hp
  unfold mCS at hp
  simp only [List.mem_cons, List.not_mem_nil, or_false] at hp
  rcases hp with rfl | rfl | rfl | rfl | rfl | rfl <;> decide +kernel
theorem cstr_names : ∀ p ∈ mCStr, slook p.1 [(nmCodes, V.d .none), (nmStrings, V.d .none)] = none := by
  intro p hp
  unfold mCStr at hp
  simp only [List.mem_cons, List.not_mem_nil, or_false] at hp
  rcases hp with rfl | rfl <;> decide +kernel
theorem slook_keys {x : Str} : ∀ {l l' : List (Str × V)}, l.map (·.1) = l'.map (·.1) → slook x l = none → slook x l' = none
  | [], [], _, _ => rfl
  | [], _ :: _, h, _ => by cases h
  | _ :: _, [], h, _ => by cases h
  | p :: l, q :: l', h, e => by
    simp only [List.map_cons, List.cons.injEq] at h
    unfold slook at e ⊢
    rw [← h.1]
    cases hq : sEq p.1 x with
    | true => rw [hq] at e; cases e
    | false => rw [hq] at e; exact slook_keys h.2 e

theorem of_handed : handedIn (.ref 76) = true := rfl

theorem mAll_call : ∀ p ∈ mAll, nmem p.2.2 callables = true := by decide

/-- what must hold of a method that is found -/
structure MethK (c : Cx) (f : Fm) (P : Prt) (m : Mp) (g : G) (ds : List V) (vs : List Value) (u : V) (v : Value) (s : Shared) (k : Me → Prop) (Q : Value × List Value → Shared → Prop) : Prop where
  h1 : ∀ a s', nmem a callables = true → k (.fn a true) → Sat c f P m g (u :: ds) (v :: vs) s' → Q (.ref a, [v]) s'
  h2 : ∀ a s', nmem a callables = true → k (.fn a false) → Sat c f P m g (u :: ds) (v :: vs) s' → Q (.ref a, []) s'
  h3 : k .app → Q (.builtin "list.append", [v]) s
  h4 : k .ext → Q (.builtin "list.extend", [v]) s
  h5 : k .pop → Q (.builtin "list.pop", [v]) s
/-- a method is found -/
theorem ok_getMethod (W : Wd c K) {v : Value} {u : V} {name : Str} {k : Me → Prop} {pl : Sem Bool} {Q : Value × List Value → Shared → Prop} {E : Value → Shared → Prop} (S : Sat c f P m g (u :: ds) (v :: vs) s) (h : vMeth u name g k)
    (H : MethK c f P m g ds vs u v s k Q) : wpAny (mdl c) f.A (getMethod v name pl) Q E s := by
  have r := S.top
  have X := W.X.keeps S.frozen
  have usr : ∀ {C a x dx : Addr} {es : List DictEntry} {fs : List (Str × V)} {n : Nat}, (C, name, a) ∈ mAll → s.heap.get? x = some (instObj C dx) → s.heap.get? dx = some (dictOf es n) → Ents c.w.params (fz s.heap (muts f P g)) es fs → slook name fs = none → v = .ref x → k (.fn a true) →
      wpAny (mdl c) f.A (getMethod v name pl) Q E s := fun {C a x dx es fs n} hm e1 e2 en hs hx hk => by
    subst hx
    obtain ⟨a1, a2, a3⟩ := W.meth _ hm
    exact method_fn X ⟨e1, rfl, rfl, e2⟩ (plainGet_of a1).1 (plainGet_of a1).2 a2 (beq_iff_eq.mp a3) (shadow_of en hs) (H.h1 a s (mAll_call _ hm) hk S)
  cases u with
  | cset b =>
    obtain ⟨x, dx, n, t, u, rfl, e1, e2, e3⟩ := r
    obtain ⟨a, ha, hk⟩ := oB_inv h
    have hm := slook_mem ha
    refine usr (C := 150) (a := a) (List.mem_append_left _ (List.mem_append_left _ (List.mem_map.mpr ⟨_, hm, rfl⟩))) (fz_in _ _ e1) (fz_in _ _ e2) (fs := [(nmBounds, .d (pInts b))]) (.cons e3 .nil) (slook_keys (l := [(nmBounds, V.d .none)]) rfl (cs_names _ hm)) rfl hk
  | cstr b ss =>
    obtain ⟨x, dx, n, t, u, t', u', rfl, e1, e2, e3, e4⟩ := r
    obtain ⟨a, ha, hk⟩ := oB_inv h
    have hm := slook_mem ha
    refine usr (C := 185) (a := a) (List.mem_append_left _ (List.mem_append_right _ (List.mem_map.mpr ⟨_, hm, rfl⟩))) (fz_in _ _ e1) (fz_in _ _ e2) (fs := [(nmCodes, .cset b), (nmStrings, .d (pStrs ss))]) (.cons (show RepV c.w.params _ u (.cset b) from e3) (.cons (show RepV c.w.params _ u' (.d (pStrs ss)) from e4) .nil)) (slook_keys (l := [(nmCodes, V.d .none), (nmStrings, V.d .none)]) rfl (cstr_names _ hm)) rfl hk
  | inst b i C dx =>
    obtain ⟨x, rfl, e1⟩ := r
    obtain ⟨hC, hh⟩ := bB_inv h
    obtain rfl : C = 244 := Nat.eq_of_beq_eq_true hC
    clear h
    split at hh
    · rename_i p hp
      have hA := S.sel b p (lget_mem hp)
      obtain ⟨p1, p2⟩ := p
      dsimp only at hh hA
      split at hh
      · rename_i fs
        obtain ⟨rfl, hh⟩ := hh
        split at hh
        · rename_i hs
          obtain ⟨a, ha, hk⟩ := oB_inv hh
          have hm := slook_mem ha
          obtain ⟨es, n, e2, e3⟩ := hA
          exact usr (C := 244) (a := a) (List.mem_append_right _ (List.mem_map.mpr ⟨_, hm, rfl⟩)) (fz_in _ _ e1) e2 e3 hs rfl hk
        · cases hh
      · cases hh
    · cases hh
  | fn a =>
    obtain rfl : v = .ref a := r
    obtain ⟨hb, hk⟩ := bB_inv h
    obtain ⟨q1, q2⟩ := Bool.and_eq_true_iff.mp hb
    obtain rfl : a = 150 := Nat.eq_of_beq_eq_true q1
    obtain rfl : nmOf = name := (sEq_iff.mp q2).symm
    obtain ⟨mc, rest, b1, b2, b3, b4⟩ := W.stat
    exact method_cls X b1 (cls_bind X b2 b3 (wpAny_call (sm_get (s := { s with toks := s.toks + 1 }) X b4 (handed_on of_handed (H.h2 76 { s with toks := s.toks + 1 } rfl hk S.toks)))))
  | loc b i a =>
    obtain rfl : v = .ref a := r
    unfold vMeth at h
    dsimp only at h
    split at h
    · rename_i p hp
      have hA := S.sel b p (lget_mem hp)
      obtain ⟨p1, p2⟩ := p
      dsimp only at h hA
      split at h
      · obtain ⟨rfl, h⟩ := h
        obtain ⟨ws, n, e1, e2⟩ := hA
        have hd : ∀ a, Value.ref p1 = .ref a → ∃ o, s.heap.get? a = some o ∧ o.dict = none := fun a e => by cases e; exact ⟨_, e1, rfl⟩
        split at h
        · rename_i q
          obtain rfl : nmAppend = name := (sEq_iff.mp q).symm
          exact getMethod_builtin ⟨_, e1, rfl⟩ PySem.F.plainAttrs_list PySem.F.slot_list_append PySem.F.type_list_append hd (H.h3 h)
        · split at h
          · rename_i q
            obtain rfl : nmExtend = name := (sEq_iff.mp q).symm
            exact getMethod_builtin ⟨_, e1, rfl⟩ PySem.F.plainAttrs_list PySem.F.slot_list_extend PySem.F.type_list_extend hd (H.h4 h)
          · split at h
            · rename_i q
              obtain rfl : nmPop = name := (sEq_iff.mp q).symm
              exact getMethod_builtin ⟨_, e1, rfl⟩ PySem.F.plainAttrs_list PySem.F.slot_list_pop PySem.F.type_list_pop hd (H.h5 h)
            · cases h
      · cases h
    · cases h
  | _ => cases h

inductive MutAt (u : V) (g : G) (k : List PyData → (List PyData → G) → Prop) : Prop
  | mk (b : Bool) (i : Nat) (a : Addr) (xs : List PyData) (e : u = .loc b i a) (hl : lget (g.sel b) i = some (a, .list xs)) (q : k xs (fun ys => g.setL b (lset (g.sel b) i (a, .list ys)))) : MutAt u g k
theorem vMut_inv {u : V} {g : G} {k : List PyData → (List PyData → G) → Prop} (h : vMut u g k) : MutAt u g k := by
  cases u with
  | loc b i a =>
    unfold vMut at h
    dsimp only at h
    split at h
    · rename_i p hp
      obtain ⟨p1, p2⟩ := p
      dsimp only at h
      split at h
      · rename_i xs
        obtain ⟨rfl, h⟩ := h
        exact ⟨b, i, p1, xs, rfl, hp, h⟩
      · cases h
    · cases h
  | _ => cases h

theorem sz_le {n : Nat} (h : n ≤ 1000) : n ≤ sizeLine := Nat.le_trans h (by decide)

/-- a list's own methods -/
theorem op_append {v y : Value} {u w : V} {Q : QV} (S : Sat c f P m g (w :: u :: ds) (y :: v :: vs) s) (h : vMut u g fun xs put => (match (generalizing := false) w with | .d z => xs.length ≤ 1000 ∧ Q (.d .none) (put (xs ++ [z])) | _ => False)) :
    wpAny (mdl c) f.A (call (.builtin "list.append") [v, y]) (Gives c f P m ds vs Q) no s := by
  replace h := vMut_inv h
  obtain ⟨b, i, a, xs, rfl, hi, h⟩ := h
  obtain rfl : v = .ref a := S.snd
  have ry := S.top
  have S' := S.pop2
  obtain ⟨ws, k, e1, e2⟩ := S'.sel b _ (lget_mem hi)
  cases w with
  | d z =>
    obtain ⟨hl, h⟩ := h
    refine wpAny_list_append_plain ⟨k, e1⟩ (fun h' hp hs => ?_) (sz_le (by rw [sz e2]; exact hl))
    obtain ⟨k', e'⟩ := hp
    refine ⟨_, _, (S'.setObj (tk := s.toks) (ao' := .list (xs ++ [z])) hi rfl rfl (fun x hx o e => (hs.2 x hx).trans e) (fun zz => ⟨_, k', e', ?_⟩) ⟨_, e'⟩).push2 Rd.none, h⟩
    rw [Array.toList_push]
    exact (e2.keeps zz).append (.cons (Rd.keeps zz ry) .nil)
  | _ => cases h
theorem op_extend {v y : Value} {u w : V} {Q : QV} (S : Sat c f P m g (w :: u :: ds) (y :: v :: vs) s) (h : vMut u g fun xs put => (match (generalizing := false) w with | .d (.list ys) => (ys ≠ [] ∧ xs.length + ys.length ≤ 1000) ∧ Q (.d .none) (put (xs ++ ys)) | _ => False)) :
    wpAny (mdl c) f.A (call (.builtin "list.extend") [v, y]) (Gives c f P m ds vs Q) no s := by
  replace h := vMut_inv h
  obtain ⟨b, i, a, xs, rfl, hi, h⟩ := h
  obtain rfl : v = .ref a := S.snd
  have ry := S.top
  have S' := S.pop2
  obtain ⟨ws, k, e1, e2⟩ := S'.sel b _ (lget_mem hi)
  cases w with
  | d z =>
    cases z with
    | list ys =>
      obtain ⟨⟨hne, hl⟩, hQ⟩ := h
      obtain ⟨l, us, rfl, ⟨⟨cls, dd, data, sl⟩, h1, h2, n', h3⟩, h4⟩ := rd_list ry
      simp only at h2 h3
      subst h2 h3
      have l1 := sz e2
      have l2 := sz h4
      have hz : ws.size + us.size ≤ 1000 := by (first | lia | omega)
      have hb := fz_in _ _ h1
      refine call_meets PySem.F.slot_list_extend ⟨_, e1, rfl⟩ PySem.F.entry_list_extend (PySem.F.args_list_extend_2 _ _) (list_extendW a l ws us k n' dd sl (by simp [Builtin.List.listTooLong, sizeLine]; (first | lia | omega)) (sz_le (by (first | lia | omega))) (Nat.le_succ_of_le (sz_le hz))) ⟨e1, hb, ?_⟩
      obtain ⟨k', ek⟩ := mapSeq_plain (fun x => x ++ us) ws k
      exact ⟨_, _, (S'.setList (tk := s.toks) hi e1 (us := ws.toList ++ us.toList) (k' := k') (by rw [ek]; congr 1; apply Array.ext'; simp) (e2.append h4)).push2 Rd.none, hQ⟩
    | _ => cases h
  | _ => cases h
theorem op_pop {v y : Value} {u w : V} {Q : QV} (S : Sat c f P m g (w :: u :: ds) (y :: v :: vs) s) (h : vMut u g fun xs put => (match (generalizing := false) w with | .d (.int k) => (k = 0 ∧ xs.length ≤ 1000) ∧ (match xs with | y :: r => Q (.d y) (put r) | [] => False) | _ => False)) :
    wpAny (mdl c) f.A (call (.builtin "list.pop") [v, y]) (Gives c f P m ds vs Q) no s := by
  replace h := vMut_inv h
  obtain ⟨b, i, a, xs, rfl, hi, h⟩ := h
  obtain rfl : v = .ref a := S.snd
  have ry := S.top
  have S' := S.pop2
  obtain ⟨ws, k, e1, e2⟩ := S'.sel b _ (lget_mem hi)
  cases w with
  | d z =>
    cases z with
    | int j =>
      obtain ⟨t, rfl⟩ := rd_int ry
      obtain ⟨⟨rfl, hl⟩, hQ⟩ := h
      cases xs with
      | nil => cases hQ
      | cons x rest =>
        have l1 := sz e2
        obtain ⟨w0, us, hw⟩ : ∃ w0 us, ws = (w0 :: us : List Value).toArray := by
          cases hq : ws.toList with
          | nil => rw [hq] at e2; obtain ⟨_, e2⟩ := e2; cases e2
          | cons w0 us => exact ⟨w0, us, by rw [← hq, Array.toArray_toList]⟩
        subst hw
        have e3 : RdAll (fz s.heap (muts f P g)) (w0 :: us) (x :: rest) := by simpa using e2
        refine call_meets PySem.F.slot_list_pop ⟨_, e1, rfl⟩ PySem.F.entry_list_pop (PySem.F.args_list_pop_2 _ _) (PySem.MeetsSeq.list_pop_at a _ k 0 t 0 w0 (by decide) (by simp [seqIndex?]) (by simp) (sz_le (by (first | lia | omega)))) ⟨e1, ?_⟩
        obtain ⟨k', ek⟩ := mapSeq_plain (fun x => x.eraseIdxIfInBounds 0) (w0 :: us).toArray k
        exact ⟨_, _, (S'.push2 e3.inv.1).setList (tk := s.toks) hi e1 (us := us) (k' := k') (by rw [ek]; congr 1; exact kl_erase [] us w0) e3.inv.2, hQ⟩
    | _ => cases h
  | _ => cases h
end
end Mine

set_option maxRecDepth 100000
namespace Mine
open PySem PySem.W PySem.Calls PyProof.Rows PySem.Spec
open PySem.W.Fast (sEq sEq_iff)

section
variable {c : Cx} {K : Frag} {f : Fm} {P : Prt} {m : Mp} {g : G} {ds : List V} {vs : List Value} {s : Shared} {n N : Nat} {r : Rc} {sx : SX}

/-- a new object that a rule holds while more is worked out -/
theorem Sat.protect {o : Obj} {a : Addr} {h' : Heap} {tk : Tok} (S : Sat c f P m g ds vs s) (ha : s.heap.get? a = none) (old : ∀ x o', s.heap.get? x = some o' → h'.get? x = some o') (new : h'.get? a = some o) : Sat c f ((a, o) :: P) m g ds vs { s with heap := h', toks := tk } := by
  have hm : ∀ x, x ∈ muts f ((a, o) :: P) g ↔ x = a ∨ x ∈ muts f P g := by
    intro x
    unfold muts
    simp only [List.map_cons, List.cons_append, List.mem_cons]
  have fr : a ∉ muts f P g := fun q => by obtain ⟨o', e⟩ := S.live a q; rw [ha] at e; cases e
  refine S.change (fun x o' hx e => fun q => ?_) (fun x o' hx e => old x o' e) (fun p hp => ?_) (fun z p hp => (S.own p hp).move z fun o e => old _ _ e) (fun z p hp => (S.out p hp).move z fun o e => old _ _ e)
    (fun z => S.frame.move z (fun o e => old _ _ e) fun _ _ o _ e => old _ _ e) ?_ (fun x hx => ?_) (fun z r => r.keeps z)
  · rcases (hm x).mp q with q | q
    · subst q; rw [ha] at e; cases e
    · exact hx q
  · rcases List.mem_cons.mp hp with rfl | q
    · exact new
    · exact old _ _ (S.prot p q)
  · exact List.nodup_cons.mpr ⟨fr, S.nodup⟩
  · rcases (hm x).mp hx with q | q
    · subst q; exact ⟨_, new⟩
    · obtain ⟨o', e⟩ := S.live x q; exact ⟨o', old _ _ e⟩
/-- it is the frame's own from now on -/
theorem Sat.unprotect {ao : AO} {o : Obj} {a : Addr} {h' : Heap} {tk : Tok} {ds' : List V} {vs' : List Value} (S : Sat c f ((a, o) :: P) m g ds vs s) (hl : ao.live = true) (hs : Heap.SameBut a s.heap h') (new : ∃ o', h'.get? a = some o')
    (hq : (fz s.heap (muts f ((a, o) :: P) g)).StaysIn (fz h' (muts f P { g with own := g.own ++ [(a, ao)] })) → AOIs c (fz h' (muts f P { g with own := g.own ++ [(a, ao)] })) h' a ao)
    (hst : ∀ z : Heap, (fz s.heap (muts f ((a, o) :: P) g)).StaysIn z → Reps c.w.params (fz s.heap (muts f ((a, o) :: P) g)) vs ds → Reps c.w.params z vs' ds') :
    Sat c f P m { g with own := g.own ++ [(a, ao)] } (.loc true g.own.length a :: ds') (.ref a :: vs') { s with heap := h', toks := tk } := by
  have e0 : lv [(a, ao)] = [a] := lv_cons_live (p := (a, ao)) (l := []) hl
  have hp : (muts f P { g with own := g.own ++ [(a, ao)] }).Perm (muts f ((a, o) :: P) g) := by
    rw [muts_own, lv_append, e0]
    unfold muts
    refine List.Perm.trans ?_ List.perm_middle
    refine List.Perm.append_left _ ?_
    rw [List.append_assoc]
    exact List.perm_middle
  have keep : ∀ b, b ≠ a → ∀ o, s.heap.get? b = some o → h'.get? b = some o := fun b hb o e => (hs.2 b hb).trans e
  have nd := S.nodup
  have ndp : a ∉ muts f P g := (List.nodup_cons.mp (show (a :: muts f P g).Nodup from nd)).1
  have ne : ∀ b, b ∈ muts f P g → b ≠ a := fun b hb e => ndp (e ▸ hb)
  refine S.change (fun x o' hx e q => hx (hp.mem_iff.mp q)) (fun x o' hx e => keep x (fun q => hx (q ▸ .head _)) o' e) (fun p hp => keep _ (ne _ (mem_muts_P hp)) _ (S.prot p (.tail _ hp)))
    (fun z p hp => ?_) (fun z p hp => (S.out p hp).at' z fun ql o e => keep _ (ne _ (mem_muts_out hp ql)) o e)
    (fun z => S.frame.move z (fun o e => keep _ (ne _ mem_muts_L) o e) fun _ _ o hc e => keep _ (ne _ (mem_muts_cell hc)) o e) (hp.nodup_iff.mpr nd) (fun x hx => ?_) (fun z r => .cons rfl (hst _ z r))
  · rcases List.mem_append.mp hp with q | q
    · exact (S.own p q).at' z fun ql o e => keep _ (ne _ (mem_muts_own q ql)) o e
    · simp only [List.mem_singleton] at q; subst q; exact hq z
  · by_cases q : x = a
    · subst q; exact new
    · obtain ⟨o', e⟩ := S.live x (hp.mem_iff.mp hx); exact ⟨o', keep x q o' e⟩

theorem ok_Dict {k1 k2 : Str} {q1 q2 : Nat} {p1 p2 pos : Pos} {e1 e2 : Expr} {Q : QV} (O : RcOk c N r n) (C : Scp c N sx f) (R : Room f.A (N + n)) (hk : sEq k1 k2 = false)
    (h : r.E sx m e1 false g fun v1 g => r.E sx m e2 false g fun v2 g => ∀ a, Q (.loc true g.own.length a) { g with own := g.own ++ [(a, .dict [(k1, v1), (k2, v2)])] }) :
    EvP c f m g (eval (.Dict [some (.Constant (.str k1) q1 p1), some (.Constant (.str k2) q2 p2)] [e1, e2] pos) f.env) Q := fun P ds vs s S => by
  have hne : k1 ≠ k2 := fun e => by rw [sEq_iff.mpr e] at hk; cases hk
  refine wpAny_Dict_pairs (knd := strKind c.prog c.w) (pairs := [(eval (.Constant (.str k1) q1 p1) f.env, do let x ← eval e1 f.env; standAt pos; pure x), (eval (.Constant (.str k2) q2 p2) f.env, do let x ← eval e2 f.env; standAt pos; pure x)]) rfl (by simp) (by simp) ?_
  have S₀ := S.protect (h' := s.heap.push { cls := .type "dict", data := .dict #[] }) (tk := s.toks) (o := { cls := .type "dict", data := .dict #[] }) get_none (fun x o' e => Heap.get?_push_of_some _ e) (Heap.get?_push_size _ rfl)
  refine evalPairs_cons (wpAny_Constant_str ?_)
  refine wpAny_bind (wpAny_mono (O.E C R h _ _ _ _ (S₀.toks (tk := s.toks + 1))) (fun v1 s1 q => ?_) no_imp)
  obtain ⟨d1, g1, S1, q⟩ := q
  refine wpAny_bind (wpAny_standAt (wpAny_pure ?_))
  refine evalPairs_cons (wpAny_Constant_str ?_)
  refine wpAny_bind (wpAny_mono (O.E C R q _ _ _ _ (S1.toks (tk := s1.toks + 1))) (fun v2 s2 q => ?_) no_imp)
  obtain ⟨d2, g2, S2, q⟩ := q
  refine wpAny_bind (wpAny_standAt (wpAny_pure (evalPairs_nil ?_)))
  have hd : s2.heap.get? s.heap.objs.size = some { cls := .type "dict", data := .dict #[] } := S2.prot _ (.head _)
  refine ⟨[(k1, v1), (k2, v2)], ⟨strKind_is _ _ k1 _, rfl, strKind_is _ _ k2 _, rfl, trivial⟩, ?_, fun h' hd' hs' => ?_⟩
  · exact (Heap.DictOf.new s.heap).at fun o e => by rw [Heap.get?_push_size _ rfl] at e; cases e; exact hd
  · have hm : merged ([] : List (Str × Value)) [(k1, v1), (k2, v2)] = [(k1, v1), (k2, v2)] := by simp [merged, stored, hne]
    rw [hm] at hd'
    refine ⟨_, _, S2.unprotect (tk := _) (ao := .dict [(k1, d1), (k2, d2)]) (vs' := vs) (ds' := ds) rfl hs' (by obtain ⟨o, _, _, e, _⟩ := hd'; exact ⟨o, e⟩) (fun z => ⟨_, hd', .cons (S2.pop.top.keeps z) (.cons (S2.top.keeps z) .nil)⟩) (fun z hz rr => ?_), q _⟩
    cases rr with
    | cons a rr => cases rr with
      | cons b rr => exact rr.keeps hz

theorem ok_Slice {o : Expr} {n' : Int} {q : Nat} {p p' pos : Pos} {Q : QV} (O : RcOk c N r n) (C : Scp c N sx f) (R : Room f.A (N + n)) {ox : Str} (ho : nameE o = some ox)
    (h : r.E sx m o false g fun u g => (0 ≤ n' ∧ n' < 2 ^ 62) ∧ vView g u fun xs => xs.length ≤ 1000 ∧ Q (dL (xs.take n'.toNat)) g) :
    EvP c f m g (eval (.Subscript o (.Slice none (some (.Constant (.int n') q p)) none p') pos) f.env) Q := fun P ds vs s S => by
  obtain ⟨op, rfl⟩ := nameE_inv ho
  refine wpAny_Subscript_list_slice (wpAny_mono (O.E C R h P ds vs s S) (fun v s1 q => ?_) no_imp) (fun _ _ => rfl)
  obtain ⟨d, g', S', ⟨h0, h1⟩, hv⟩ := q
  obtain ⟨l, ws, xs, rfl, hl, hr, hx, hQ⟩ := vView_inv S' S'.top hv
  show wpAny _ _ (pure Value.none) _ _ s1
  refine wpAny_pure ?_
  show wpAny _ _ (eval (.Constant (.int n') q p) f.env) _ _ s1
  refine wpAny_Constant_int ?_
  have hs := sz hr
  refine ⟨l, ws, none, some n', rfl, hl, sz_le (by (first | lia | omega)), .none, .int _ _, ?_⟩
  have S2 := (S'.pop.toks (tk := s1.toks + 1)).alloc (o := { cls := .type "slice", data := .fields #[.none, .int n' s1.toks, .none] }) (tk := s1.toks + 1) rfl
  obtain ⟨S3, e, k⟩ := S2
  obtain ⟨S4, e4, k4⟩ := S3.alloc (o := { cls := .type "list", data := .seq (slicePick ws none (some n') none) }) (tk := s1.toks + 1) rfl
  have hsz : (s1.heap.push { cls := .type "slice", data := .fields #[.none, .int n' s1.toks, .none] }).objs.size = s1.heap.objs.size + 1 := Heap.size_push ..
  rw [← hsz]
  refine ⟨_, g', S4.push2 (Rd.list e4 rfl rfl ?_), hQ⟩
  have hp : slicePick ws none (some n') none = (ws.toList.take n'.toNat).toArray := by
    by_cases hle : n'.toNat ≤ ws.size
    · have := slicePick_upto ws n'.toNat hle
      rwa [Int.toNat_of_nonneg h0] at this
    · have e : sliceBounds none (some n') none ws.size = sliceBounds none (some ((ws.size : Nat) : Int)) none ws.size := by
        have h2 : ¬ (n' < 0) := by (first | lia | omega)
        have h3 : ¬ ((ws.size : Int) < 0) := by (first | lia | omega)
        simp only [sliceBounds, Option.getD_none, h2, h3, if_false, show (1 : Int) > 0 by decide, if_true]
        congr 2
        rw [Int.min_eq_right (show (ws.size : Int) ≤ n' by (first | lia | omega)), Int.min_self]
      have e2 : slicePick ws none (some n') none = slicePick ws none (some ((ws.size : Nat) : Int)) none := by unfold slicePick; rw [e]
      rw [e2, slicePick_upto ws ws.size (Nat.le_refl _)]
      have l1 : ws.toList.length = ws.size := by simp
      rw [List.take_of_length_le (by (first | lia | omega)), List.take_of_length_le (by (first | lia | omega))]
  rw [hp] at e4 k4 S4 ⊢
  simpa using ((hr.take n'.toNat).keeps k).keeps k4
end
end Mine

set_option maxRecDepth 100000
namespace Mine
open PySem PySem.W PySem.Calls PyProof.Rows PySem.Spec
open PySem.W.Fast (sEq sEq_iff)

section
variable {c : Cx} {K : Frag} {f : Fm} {P : Prt} {m : Mp} {g : G} {ds : List V} {vs : List Value} {s : Shared} {n N : Nat} {r : Rc} {sx : SX}

theorem ok_Const {cc : Const} {k : Nat} {pos : Pos} {Q : QV} (h : stepE r sx m (.Constant cc k pos) own g Q) : EvP c f m g (eval (.Constant cc k pos) f.env) Q := fun P ds vs s S => by
  cases cc with
  | none => exact PyProof.Rows.Constant_none ⟨_, g, S.push2 Rd.none, h⟩
  | bool b => exact PyProof.Rows.Constant_bool ⟨_, g, S.pushB, h⟩
  | int i => exact wpAny_Constant_int ⟨_, g, S.pushI, h⟩
  | str x => exact wpAny_Constant_str ⟨_, g, S.toks.push2 Rd.str, h⟩
  | _ => cases h

theorem ok_Attribute {o : Expr} {name : Str} {pos : Pos} {Q : QV} (W : Wd c K) (O : RcOk c N r n) (C : Scp c N sx f) (R : Room f.A (N + n)) (h : bB (!isCallE o) (r.E sx m o false g fun u g => vAttr u name g Q)) :
    EvP c f m g (eval (.Attribute o name pos) f.env) Q := fun P ds vs s S => by
  obtain ⟨ho, h⟩ := bB_inv h
  refine Attribute_any_ (wpAny_mono (O.E C R h P ds vs s S) (fun w s' q => ?_) no_imp) ?_
  · obtain ⟨d, g', S', q⟩ := q
    exact op_attr W.ok W.X S' q
  · have e := base_of (name := name) (env := f.env) (t := eval o f.env) (by simpa using ho)
    show (do
      let o' ← attributeBase o name f.env (eval o f.env)
      standAt pos.atName
      let r ← holding [o'] (getAttr o' name true)
      letTemporaryGo o o' r
      pure r) = _
    rw [e]

theorem sub_plain {sl : Expr} {o i : Value} (h : ∀ a b c p, sl ≠ .Slice a b c p) : subscripted sl false o i = operate [o, i] (getItem o i) := by
  cases sl <;> first | rfl | exact absurd rfl (h _ _ _ _)

theorem ok_Index {o i : Expr} {pos : Pos} {Q : QV} (O : RcOk c N r n) (C : Scp c N sx f) (R : Room f.A (N + n)) (hi : ∀ a b c p, i ≠ .Slice a b c p) (h : r.E sx m o false g fun u g => r.E sx m i false g fun v g => vItem u v g Q) :
    EvP c f m g (eval (.Subscript o i pos) f.env) Q := fun P ds vs s S => by
  refine Subscript_ (wpAny_mono (O.E C R h P ds vs s S) (fun w s' q => ?_) no_imp)
  obtain ⟨d, g', S', q⟩ := q
  refine wpAny_mono (O.E C R q P _ _ _ S') (fun w' s'' q => ?_) no_imp
  obtain ⟨d', g'', S'', q⟩ := q
  obtain ⟨h1, T, id, hT, hl⟩ := op_item S'' q
  exact tail_any hT hl h1 (sub_plain hi)

theorem ok_Unary {op : UnaryOp} {a : Expr} {pos : Pos} {Q : QV} (O : RcOk c N r n) (C : Scp c N sx f) (R : Room f.A (N + n)) {own : Bool} (h : stepE r sx m (.UnaryOp op a pos) own g Q) :
    EvP c f m g (eval (.UnaryOp op a pos) f.env) Q := fun P ds vs s S => by
  cases op with
  | Not =>
    refine UnaryOp_ (wpAny_mono (O.E C R h P ds vs s S) (fun w s' q => ?_) no_imp)
    obtain ⟨d, g', S', q⟩ := q
    obtain ⟨b, rfl, rfl, q⟩ := vBool_inv S'.top q
    exact not_of (wpAny_truthy_bool ⟨_, g', S'.pop.pushB, q⟩)
  | USub =>
    refine UnaryOp_ (wpAny_mono (O.E C R h P ds vs s S) (fun w s' q => ?_) no_imp)
    obtain ⟨d, g', S', q⟩ := q
    obtain ⟨b, t, rfl, rfl, q⟩ := vInt_inv S'.top q
    exact neg_int ⟨_, g', S'.pop.pushI, q⟩
  | _ => cases h

theorem ok_IfExp {t a b : Expr} {pos : Pos} {Q : QV} (O : RcOk c N r n) (C : Scp c N sx f) (R : Room f.A (N + n)) (h : r.T sx m t g fun c g => br c (r.E sx m a false g Q) (r.E sx m b false g Q)) :
    EvP c f m g (eval (.IfExp t a b pos) f.env) Q := fun P ds vs s S => by
  refine IfExp_ (wpAny_mono (O.T C R h P ds vs s S) (fun w s' q => ?_) no_imp)
  obtain ⟨g', S', q⟩ := q
  cases w with
  | true => exact O.E C R (q) P ds vs _ S'
  | false => exact O.E C R (q) P ds vs _ S'

theorem ok_BinOp {a b : Expr} {op : Operator} {pos : Pos} {Q : QV} (O : RcOk c N r n) (C : Scp c N sx f) (R : Room f.A (N + n)) (h : r.E sx m a false g fun u g => r.E sx m b false g fun v g => vBin op u v g Q) :
    EvP c f m g (eval (.BinOp a op b pos) f.env) Q := fun P ds vs s S => by
  refine wpAny_BinOp (wpAny_mono (O.E C R h P ds vs s S) (fun w s' q => ?_) no_imp)
  obtain ⟨d, g', S', q⟩ := q
  refine wpAny_mono (O.E C R q P _ _ _ S') (fun w' s'' q => ?_) no_imp
  obtain ⟨d', g'', S'', q⟩ := q
  exact op_bin R S'' q
end
end Mine

set_option maxRecDepth 100000
namespace Mine
open PySem PySem.W PySem.Calls PyProof.Rows PySem.Spec
open PySem.W.Fast (sEq sEq_iff)

section
variable {c : Cx} {K : Frag} {f : Fm} {P : Prt} {m : Mp} {g : G} {ds : List V} {vs : List Value} {s : Shared} {n N : Nat} {r : Rc} {sx : SX}

theorem vMut_mk {b : Bool} {i : Nat} {a : Addr} {xs : List PyData} {g : G} {k : List PyData → (List PyData → G) → Prop} (hi : lget (g.sel b) i = some (a, .list xs)) (h : k xs (fun ys => g.setL b (lset (g.sel b) i (a, .list ys)))) : vMut (.loc b i a) g k := by
  unfold vMut
  dsimp only
  rw [hi]
  exact ⟨rfl, h⟩

/-- a method's call -/
theorem oneOf {es : List V} {ws : List Value} (hl : ws.length = es.length) (h0 : es ≠ []) (h2 : ∀ a b r, es ≠ a :: b :: r) : ∃ w y, es = [w] ∧ ws = [y] := by
  cases es with
  | nil => exact absurd rfl h0
  | cons w es => cases es with
    | nil =>
      obtain ⟨y, t, rfl, h⟩ := lnS (n := 0) hl
      obtain rfl := ln0 h
      exact ⟨w, y, rfl, rfl⟩
    | cons b r => exact absurd rfl (h2 w b r)
theorem ok_MethCall {o : Expr} {name : Str} {apos pos : Pos} {args : List Expr} {Q : QV} (W : Wd c K) (O : RcOk c N r n) (C : Scp c N sx f) (R : Room f.A (N + n))
    (h : bB (okEs args && !isCallE o && Nat.beq apos.endLine pos.line && Nat.ble args.length 20) (r.E sx m o false g fun u g => vMeth u name g fun me => vEs r sx m args g fun vs g => vMeCall sx me u vs g Q)) :
    EvP c f m g (eval (.Call (.Attribute o name apos) args [] pos) f.env) Q := fun P ds vs s S => by
  obtain ⟨hb, h⟩ := bB_inv h
  simp only [Bool.and_eq_true, Bool.not_eq_true'] at hb
  obtain ⟨⟨⟨hok, ho⟩, hl⟩, hn⟩ := hb
  refine method_form ho hok (beq_iff_eq.mpr (Nat.eq_of_beq_eq_true hl)) (Nat.le_of_ble_eq_true hn) (wpAny_mono (O.E C R h P ds vs s S) (fun v s₁ q pl => ?_) no_imp)
  obtain ⟨u, g₁, S₁, q⟩ := q
  refine ok_getMethod W S₁ q ⟨fun a s₂ ha hk S₂ => ?_, fun a s₂ ha hk S₂ => ?_, fun hk => ?_, fun hk => ?_, fun hk => ?_⟩
  · refine ok_callWith W O C R (.inl ⟨a, rfl, W.keep a ha⟩) hok hk S₂ fun ws es g' s' S' hl' q => ?_
    exact op_call (own := false) W C R (u := .fn a) (ws := v :: ws) (es := u :: es) rfl (S'.restack (Reps.rot hl')) (by simp [hl']) q
  · refine ok_callWith W O C R (.inl ⟨a, rfl, W.keep a ha⟩) hok hk S₂ fun ws es g' s' S' hl' q => ?_
    exact op_call (own := false) W C R (u := .fn a) (ws := ws) (es := es) (vs := vs) (ds := ds) rfl (S'.restack fun r => by
      obtain ⟨a, b⟩ := Reps.split hl' r
      cases b with | cons _ b => exact a.app b) hl' q
  · refine ok_callWith W O C R (.inr (.inl ⟨_, rfl⟩)) hok hk S₁ fun ws es g' s' S' hl' q => ?_
    unfold vMeCall at q
    obtain ⟨b, i, a, xs, rfl, hi, q'⟩ := vMut_inv q
    obtain ⟨w, y, rfl, rfl⟩ := oneOf hl' (fun e => by rw [e] at q'; exact q') (fun a b r e => by
      rw [e] at q'
      cases a with
      | d z => cases z <;> exact q'.elim
      | _ => exact q'.elim)
    · skip
      refine op_append S' (vMut_mk hi ?_)
      cases w with
      | d z => exact q'
      | _ => cases q'
  · refine ok_callWith W O C R (.inr (.inl ⟨_, rfl⟩)) hok hk S₁ fun ws es g' s' S' hl' q => ?_
    unfold vMeCall at q
    obtain ⟨b, i, a, xs, rfl, hi, q'⟩ := vMut_inv q
    obtain ⟨w, y, rfl, rfl⟩ := oneOf hl' (fun e => by rw [e] at q'; exact q') (fun a b r e => by
      rw [e] at q'
      cases a with
      | d z => cases z <;> exact q'.elim
      | _ => exact q'.elim)
    · skip
      refine op_extend S' (vMut_mk hi ?_)
      cases w with
      | d z => cases z <;> first | exact q' | cases q'
      | _ => cases q'
  · refine ok_callWith W O C R (.inr (.inl ⟨_, rfl⟩)) hok hk S₁ fun ws es g' s' S' hl' q => ?_
    unfold vMeCall at q
    obtain ⟨b, i, a, xs, rfl, hi, q'⟩ := vMut_inv q
    obtain ⟨w, y, rfl, rfl⟩ := oneOf hl' (fun e => by rw [e] at q'; exact q') (fun a b r e => by
      rw [e] at q'
      cases a with
      | d z => cases z <;> exact q'.elim
      | _ => exact q'.elim)
    · skip
      refine op_pop S' (vMut_mk hi ?_)
      cases w with
      | d z => cases z <;> first | exact q' | cases q'
      | _ => cases q'

/-- a call by a name -/
theorem ok_NameCall {x : Str} {np pos : Pos} {args : List Expr} {own : Bool} {Q : QV} (W : Wd c K) (O : RcOk c N r n) (C : Scp c N sx f) (R : Room f.A (N + n))
    (h : bB (okEs args) (vName sx m x g fun u g => bB (vKp u) (vEs r sx m args g fun vs g => vCall sx u vs own g Q))) :
    EvP c f m g (eval (.Call (.Name x np) args [] pos) f.env) Q := fun P ds vs s S => by
  obtain ⟨hok, h⟩ := bB_inv h
  show wpAny _ _ (do callWith pos (← eval (.Name x np) f.env) [] (backTo pos (starEach args f.env)) []) _ _ s
  refine wpAny_bind (wpAny_mono (ok_Name W C h P ds vs s S) (fun v s₁ q => ?_) no_imp)
  obtain ⟨u, g₁, S₁, q⟩ := q
  obtain ⟨hk, q⟩ := bB_inv q
  have hkp : KpOf K v := call_kp W S₁.top (by
    cases u with
    | fn a => exact .inl ⟨a, rfl, hk⟩
    | bi b => exact .inr ⟨b, rfl⟩
    | _ => cases hk)
  refine ok_callWith W O C R hkp hok q S₁ fun ws es g' s' S' hl q => ?_
  obtain ⟨a, b⟩ := Reps.split hl S'.stack
  cases b with
  | cons rv b => exact op_call W C R rv (S'.restack fun _ => a.app b) hl q
end
end Mine

set_option maxRecDepth 100000
namespace Mine
open PySem PySem.W PySem.Calls PyProof.Rows PySem.Spec
open PySem.W.Fast (sEq sEq_iff)

section
variable {c : Cx} {K : Frag} {f : Fm} {P : Prt} {m : Mp} {g : G} {ds : List V} {vs : List Value} {s : Shared} {n N : Nat} {r : Rc} {sx : SX}

theorem msetN_eq (x : Str) (d : V) : ∀ m : Mp, msetN x d m = mset x d m
  | [] => rfl
  | e :: r => by
    unfold msetN
    have ih := msetN_eq x d r
    unfold mset at ih ⊢
    rw [List.map_cons]
    by_cases q : e.1 = x
    · rw [sEq_iff.mpr q, if_pos q, ih]
    · have : sEq e.1 x = false := Bool.eq_false_iff.mpr fun z => q (sEq_iff.mp z)
      rw [this, if_neg q, ih]

theorem FrIs.flag {Pr : Params} {z h : Heap} {env : Env} (F : FrIs Pr z h env m) {x : Str} {b : Bool} {ov : Option V} (hx : (x, b, ov) ∈ m) : env.kindOf x = some (if b then .cell else .local) := by
  cases b with
  | false => obtain ⟨mm, -, h⟩ := F.ns; exact (h _ _ hx).1
  | true => exact (F.cells _ _ hx).1

theorem lookup_inj : ∀ {l : List (Str × Addr)} {x y : Str} {a : Addr}, (l.map (·.2)).Nodup → l.lookup x = some a → l.lookup y = some a → x = y
  | [], _, _, _, _, h, _ => by cases h
  | (k, d) :: r, x, y, a, nd, hx, hy => by
    rw [List.map_cons] at nd
    obtain ⟨n1, n2⟩ := List.nodup_cons.mp nd
    rw [List.lookup_cons] at hx hy
    split at hx
    · rename_i q1
      split at hy
      · rename_i q2; rw [beq_iff_eq.mp q1, beq_iff_eq.mp q2]
      · cases hx; exact absurd (mem_lookup hy) n1
    · split at hy
      · cases hy; exact absurd (mem_lookup hx) n1
      · exact lookup_inj n2 hx hy

/-- what is stored into a captured name -/
theorem Sat.setCell {x : Str} {v : Value} {d : V} {cc : Addr} {h' : Heap} {tk : Tok} (S : Sat c f P m g (d :: ds) (v :: vs) s) (hc : f.env.cells.lookup x = some cc)
    (hn' : h'.IsCell cc (some v)) (hs : Heap.SameBut cc s.heap h') (hx : ∀ b ov, (x, b, ov) ∈ m → b = true) :
    Sat c f P (mset x d m) g ds vs { s with heap := h', toks := tk } := by
  have keep : ∀ b, b ≠ cc → ∀ o, s.heap.get? b = some o → h'.get? b = some o := fun b hb o e => (hs.2 b hb).trans e
  have top := S.top
  have cm : cc ∈ f.env.cells.map (·.2) := mem_lookup hc
  have hL : cc ≠ f.env.locals := S.nL_cell cm
  have ccP : ∀ p ∈ P, p.1 ≠ cc := fun p hp => nodup_ne S.nodup (List.mem_map_of_mem hp) (List.mem_append_right _ (List.mem_append_right _ (.tail _ cm)))
  have n2 := (List.nodup_append.mp S.nodup).2.1
  have n3 := (List.nodup_append.mp n2).2.1
  have ccOwn : ∀ p ∈ g.own, p.2.live = true → p.1 ≠ cc := fun p hp hl => nodup_ne n2 (mem_lv hp hl) (List.mem_append_right _ (.tail _ cm))
  have ccOut : ∀ p ∈ g.out, p.2.live = true → p.1 ≠ cc := fun p hp hl => nodup_ne n3 (mem_lv hp hl) (.tail _ cm)
  have ndc : (f.env.cells.map (·.2)).Nodup := (List.nodup_cons.mp (List.nodup_append.mp n3).2.1).2
  refine S.change (fun _ _ h _ => h) (fun b o n e => keep b (fun q => n (q ▸ mem_muts_cell hc)) o e) (fun p hp => keep _ (ccP p hp) _ (S.prot p hp))
    (fun z p hp => (S.own p hp).at' z fun hl o e => keep _ (ccOwn p hp hl) o e) (fun z p hp => (S.out p hp).at' z fun hl o e => keep _ (ccOut p hp hl) o e) (fun z => ?_) S.nodup
    (fun a ha => ?_) (fun z r => by cases r with | cons _ r => exact r.keeps z)
  · refine ⟨S.frame.fn, S.frame.glob, S.frame.blt, ?_, fun y ov hm => ?_⟩
    · obtain ⟨mm, hn, h₂⟩ := S.frame.ns
      refine ⟨mm, hn.at' fun o e => keep _ hL.symm o e, fun y ov hm => ?_⟩
      obtain ⟨e, he, hq⟩ := List.mem_map.mp hm
      by_cases hxe : e.1 = x
      · rw [if_pos hxe] at hq
        obtain ⟨e1, e2, e3⟩ := e
        cases hq
        subst hxe
        cases hx _ _ he
      · rw [if_neg hxe] at hq
        subst hq
        refine ⟨(h₂ _ _ he).1, fun d' hd => ?_⟩
        obtain ⟨u, h3, h4⟩ := (h₂ _ _ he).2 d' hd
        exact ⟨u, h3, h4.keeps z⟩
    · obtain ⟨e, he, hq⟩ := List.mem_map.mp hm
      by_cases hxe : e.1 = x
      · rw [if_pos hxe] at hq
        obtain ⟨e1, e2, e3⟩ := e
        cases hq
        subst hxe
        obtain ⟨k1, k2⟩ := S.frame.cells _ _ he
        exact ⟨k1, cc, some v, hc, hn', fun d' hd => by cases hd; exact ⟨v, rfl, top.keeps z⟩⟩
      · rw [if_neg hxe] at hq
        subst hq
        obtain ⟨k1, k2⟩ := S.frame.cells _ _ he
        exact ⟨k1, k2.move z fun c' o hc' e => keep _ (fun q => hxe (lookup_inj ndc (q ▸ hc') hc)) o e⟩
  · by_cases hq : a = cc
    · subst hq; obtain ⟨o, a1, _⟩ := hn'; exact ⟨o, a1⟩
    · obtain ⟨o, e⟩ := S.live a ha; exact ⟨o, keep a hq o e⟩

theorem Sat.fnp (S : Sat c f P m g ds vs s) : (f.env.scope.kind == .class || (f.env.scope.kind == .module && f.env.locals != f.env.globals)) = false := by rw [S.frame.fn]; rfl

/-- a value is put into a name -/
theorem op_store {x : Str} {v : Value} {d : V} {k : Mp → Prop} {E : Value → Shared → Prop} (S : Sat c f P m g (d :: ds) (v :: vs) s) (h : vStore x d m k) :
    wpAny (mdl c) f.A (storeName f.env x v) (fun _ => GivesM c f P g ds vs k) E s := by
  obtain ⟨p, hp, h⟩ := oB_inv h
  have hm := slook_mem hp
  obtain ⟨b, ov⟩ := p
  rw [msetN_eq] at h
  have flag : ∀ b' ov', (x, b', ov') ∈ m → b' = b := fun b' ov' hm' => by
    have e := (S.frame.flag hm').symm.trans (S.frame.flag hm)
    cases b <;> cases b' <;> first | rfl | (exfalso; simp at e)
  cases b with
  | false =>
    obtain ⟨mm, hn, hl⟩ := S.frame.ns
    exact wpAny_storeName_local (hl _ _ hm).1 hn (fun h' hn' hs => ⟨_, S.setLocal hn hn' hs flag, h⟩) S.fnp
  | true =>
    obtain ⟨hk, cc, ou, h1, h2, h3⟩ := S.frame.cells _ _ hm
    exact wpAny_storeName_cell S.frame.fn hk h1 h2 fun h' hn' hs => ⟨_, S.setCell (tk := s.toks) h1 hn' hs flag, h⟩

theorem targetNames_inv {t : Expr} {names : List Str} (h : targetNames t = some names) : (∃ x p, t = .Name x p ∧ names = [x]) ∨ ∃ x p x' p' k pos, t = .Tuple [.Name x p, .Name x' p'] k pos ∧ names = [x, x'] := by
  unfold targetNames at h
  split at h
  · rename_i q
    cases h
    obtain ⟨p, rfl⟩ := nameE_inv q
    exact .inl ⟨_, p, rfl, rfl⟩
  · obtain ⟨es, hes, h⟩ := Option.bind_eq_some_iff.mp h
    obtain ⟨pr, hp, h0⟩ := Option.bind_eq_some_iff.mp h
    obtain ⟨x, hx, h1⟩ := Option.bind_eq_some_iff.mp h0
    obtain ⟨y, hy, e⟩ := Option.map_eq_some_iff.mp h1
    obtain ⟨p, hx⟩ := nameE_inv hx
    obtain ⟨p', hy⟩ := nameE_inv hy
    obtain ⟨k, p2, ht⟩ := tupE_inv hes
    exact .inr ⟨x, p, y, p', k, p2, by rw [ht, two_inv hp, hx, hy], e.symm⟩

theorem hold {M : Model} {A : Around} {α : Type} {l : List Value} {t : Sem α} {Q : α → Shared → Prop} {E : Value → Shared → Prop} {s : Shared} (h : wpAny M A t Q E s) : wpAny M A (holding l t) Q E s := wpAny_holding h

/-- an item is put into a loop's target -/
theorem op_target {t : Expr} {names : List Str} {v : Value} {y : PyData} {k : Mp → Prop} {E : Value → Shared → Prop} (R : Room f.A n) (hT : targetNames t = some names) (S : Sat c f P m g (.d y :: ds) (v :: vs) s) (h : vTarget names y m k) :
    wpAny (mdl c) f.A (assign t f.env v) (fun _ => GivesM c f P g ds vs k) E s := by
  rcases targetNames_inv hT with ⟨x, p, rfl, rfl⟩ | ⟨x, p, x', p', kk, pos, rfl, rfl⟩
  · exact wpAny_assign_Name (op_store S h)
  · unfold vTarget at h
    dsimp only at h
    split at h
    · rename_i ys
      split at h
      · rename_i u w
        have top := S.top
        obtain ⟨l, ws, rfl, ⟨o, e1, e2, e3⟩, hr⟩ := rd_tuple top
        have ht : s.heap.IsTuple l ws := ⟨o, fz_in _ _ e1, e2, e3⟩
        have hl := hr.length
        obtain ⟨v1, v2, hws⟩ : ∃ v1 v2, ws = #[v1, v2] := by
          obtain ⟨a, t, e, h1⟩ := lnS (n := 1) hl
          obtain ⟨b, t, rfl, h2⟩ := lnS (n := 0) h1
          obtain rfl := ln0 h2
          exact ⟨a, b, by rw [← Array.toArray_toList (xs := ws), e]⟩
        subst hws
        refine wpAny_assign_Tuple R.h ht rfl rfl fun h' hx => ?_
        have keep : ∀ b o, s.heap.get? b = some o → h'.get? b = some o := fun b o e => hx b o (Nat.ne_of_lt (Heap.lt_size e)) e
        have hr' := RdAll.inv (show RdAll _ (v1 :: [v2]) (u :: [w]) from hr)
        have hz := S.fz_grow keep
        have S1 : Sat c f P m g (.d w :: ds) (v2 :: vs) { s with heap := h' } := (S.pop.grow (tk := s.toks) keep).push2 (Rd.keeps hz hr'.2.inv.1)
        have S2 : Sat c f P m g (.d u :: .d w :: ds) (v1 :: v2 :: vs) { s with heap := h' } := S1.push2 (Rd.keeps hz hr'.1)
        show wpAny _ _ (assignInOrder [assign (.Name x p) f.env, assign (.Name x' p') f.env] [v1, v2]) _ _ _
        unfold assignInOrder
        refine wpAny_bind (hold (wpAny_assign_Name (wpAny_mono (op_store S2 h) (fun _ s1 q => ?_) fun _ _ e => e)))
        obtain ⟨m1, S3, q⟩ := q
        unfold assignInOrder
        refine wpAny_bind (hold (wpAny_assign_Name (wpAny_mono (op_store S3 q) (fun _ s2 q => ?_) fun _ _ e => e)))
        unfold assignInOrder
        exact wpAny_pure q
      · cases h
    · cases h
end
end Mine

set_option maxRecDepth 100000
namespace Mine
open PySem PySem.W PySem.Calls PyProof.Rows PySem.Spec
open PySem.W.Fast (sEq sEq_iff)

section
variable {c : Cx} {K : Frag} {f : Fm} {P PI PI' : Prt} {m : Mp} {g : G} {ds es : List V} {vs ws : List Value} {s : Shared} {n N : Nat} {r : Rc} {sx : SX}

theorem muts_app : muts f (PI ++ P) g = PI.map (·.1) ++ muts f P g := by unfold muts; rw [List.map_append, List.append_assoc]

/-- the protected objects of a loop turn -/
theorem Sat.turnP {h' : Heap} {tk : Tok} (S : Sat c f (PI ++ P) m g ds vs s) (ha : PI'.map (·.1) = PI.map (·.1)) (hk : ∀ b, b ∉ PI.map (·.1) → ∀ o, s.heap.get? b = some o → h'.get? b = some o)
    (hn : ∀ p ∈ PI', h'.get? p.1 = some p.2) : Sat c f (PI' ++ P) m g ds vs { s with heap := h', toks := tk } ∧ (fz s.heap (muts f (PI ++ P) g)).StaysIn (fz h' (muts f (PI' ++ P) g)) := by
  have hm : muts f (PI' ++ P) g = muts f (PI ++ P) g := by rw [muts_app, muts_app, ha]
  have nd := S.nodup
  rw [muts_app] at nd
  have ne : ∀ b ∈ muts f P g, b ∉ PI.map (·.1) := fun b hb hq => nodup_ne nd hq hb rfl
  have z : (fz s.heap (muts f (PI ++ P) g)).StaysIn (fz h' (muts f (PI' ++ P) g)) := fz_stays fun b o n e => ⟨hk b (fun q => n (by rw [muts_app]; exact List.mem_append_left _ q)) o e, by rw [hm]; exact n⟩
  refine ⟨S.change (fun b o n _ => by rw [hm]; exact n) (fun b o n e => hk b (fun q => n (by rw [muts_app]; exact List.mem_append_left _ q)) o e) (fun p hp => ?_)
    (fun z p hp => (S.own p hp).at' z fun hl o e => hk _ (ne _ (mem_muts_own hp hl)) o e) (fun z p hp => (S.out p hp).at' z fun hl o e => hk _ (ne _ (mem_muts_out hp hl)) o e)
    (fun z => S.frame.move z (fun o e => hk _ (ne _ mem_muts_L) o e) fun _ _ o hc e => hk _ (ne _ (mem_muts_cell hc)) o e) (by rw [hm]; exact S.nodup) (fun a q => ?_) (fun z r => r.keeps z), z⟩
  · rcases List.mem_append.mp hp with q | q
    · exact hn p q
    · exact hk _ (ne _ (mem_muts_P q)) _ (S.prot p (List.mem_append_right _ q))
  · rw [hm] at q
    rw [muts_app] at q
    rcases List.mem_append.mp q with q' | q'
    · rw [← ha] at q'
      obtain ⟨p, hp, rfl⟩ := List.mem_map.mp q'
      exact ⟨_, hn p hp⟩
    · obtain ⟨o, e⟩ := S.live a (by rw [muts_app]; exact List.mem_append_right _ q')
      exact ⟨o, hk a (ne _ q') o e⟩
theorem Sat.dropP {h' : Heap} {tk : Tok} (S : Sat c f (PI ++ P) m g ds vs s) (hk : ∀ b, b ∉ PI.map (·.1) → ∀ o, s.heap.get? b = some o → h'.get? b = some o) :
    Sat c f P m g ds vs { s with heap := h', toks := tk } := by
  have nd := S.nodup
  rw [muts_app] at nd
  have ne : ∀ b ∈ muts f P g, b ∉ PI.map (·.1) := fun b hb hq => nodup_ne nd hq hb rfl
  have sub : ∀ b, b ∈ muts f P g → b ∈ muts f (PI ++ P) g := fun b hb => by rw [muts_app]; exact List.mem_append_right _ hb
  refine S.change (fun b o n _ q => n (sub b q)) (fun b o n e => hk b (fun q => n (by rw [muts_app]; exact List.mem_append_left _ q)) o e) (fun p hp => hk _ (ne _ (mem_muts_P hp)) _ (S.prot p (List.mem_append_right _ hp)))
    (fun z p hp => (S.own p hp).at' z fun hl o e => hk _ (ne _ (mem_muts_own hp hl)) o e) (fun z p hp => (S.out p hp).at' z fun hl o e => hk _ (ne _ (mem_muts_out hp hl)) o e)
    (fun z => S.frame.move z (fun o e => hk _ (ne _ mem_muts_L) o e) fun _ _ o hc e => hk _ (ne _ (mem_muts_cell hc)) o e) (List.nodup_append.mp nd).2.1 (fun a q => ?_) (fun z r => r.keeps z)
  obtain ⟨o, e⟩ := S.live a (sub a q)
  exact ⟨o, hk a (ne _ q) o e⟩
theorem Sat.dropP0 (S : Sat c f (PI ++ P) m g ds vs s) : Sat c f P m g ds vs s := S.dropP (h' := s.heap) (tk := s.toks) fun _ _ _ e => e

inductive ItTurn (c : Cx) (f : Fm) (P : Prt) (m : Mp) (g : G) (ds : List V) (vs : List Value) (es : List V) (ws : List Value) (St : Nat → Prt → Prop) (i : Nat) (y : PyData) (v : Value) (s₂ : Shared) : Prop
  | mk (PI' : Prt) (hSt : St i PI') (S : Sat c f (PI' ++ P) m g (.d y :: (es ++ ds)) (v :: (ws ++ vs)) s₂) : ItTurn c f P m g ds vs es ws St i y v s₂
/-- what an iterator gives, turn by turn -/
noncomputable def ItNext (c : Cx) (A : Around) (t : Expr) (I : Addr) (xs : List PyData) (still : G → Prop) (es : List V) (ws : List Value) (St : Nat → Prt → Prop) : Prop :=
  ∀ i f P m g ds vs s PI, f.A = A → St i PI → Sat c f (PI ++ P) m g (es ++ ds) (ws ++ vs) s → still g →
    (∀ y, xs[i]? = some y → wpAny (mdl c) A (pyNext (.ref I)) (fun r s₁ => ∃ v, r = some v ∧ wpAny (mdl c) A (letOwnedTupleGo t (.ref I) v) (fun _ => ItTurn c f P m g ds vs es ws St (i + 1) y v) no s₁) no s) ∧
    (xs[i]? = none → wpAny (mdl c) A (pyNext (.ref I)) (fun r s₁ => r = none ∧ Sat c f P m g (es ++ ds) (ws ++ vs) s₁) no s) ∧
    ∀ (Q : Value → Shared → Prop), Q (.ref I) s → wpAny (mdl c) A (pyIter (.ref I)) Q no s

theorem lot_none {M : Model} {A : Around} {E : Value → Shared → Prop} {t : Expr} {I : Addr} {v : Value} {o : Obj} {Q : Unit → Shared → Prop} (ho : s.heap.get? I = some o) (hc : o.cls = .type "list_iterator" ∨ o.cls = .type "range_iterator") (h : Q () s) :
    wpAny M A (letOwnedTupleGo t (.ref I) v) Q E s := by
  have step : ∀ a, wpAny M A (do
      let o ← load I
      match o.cls, o.data with
      | .type n, .fields vs =>
        if ["enumerate", "zip", "dict_itemiterator", "dict_reverseitemiterator", "odict_iterator", "itertools.zip_longest", "itertools.pairwise"].contains n && vs[0]? == some (rawInt a) then
          rule "for.unpacks-the-owned-tuple"
          updateField I 0 .none
      | _, _ => pure () : Sem Unit) Q E s := fun a => by
    refine wpAny_bind (wpAny_load ho ?_)
    obtain ⟨cls, dd, data, sl⟩ := o
    simp only at hc
    rcases hc with rfl | rfl
    · cases data <;> first | exact wpAny_pure h | (rename_i vs; show wpAny M A (if (false && vs[0]? == some (rawInt a)) = true then _ else _) Q E s; rw [Bool.false_and, if_neg Bool.false_ne_true]; exact wpAny_pure h)
    · cases data <;> first | exact wpAny_pure h | (rename_i vs; show wpAny M A (if (false && vs[0]? == some (rawInt a)) = true then _ else _) Q E s; rw [Bool.false_and, if_neg Bool.false_ne_true]; exact wpAny_pure h)
  unfold letOwnedTupleGo
  cases t <;> first | exact wpAny_pure h | (cases v <;> first | exact wpAny_pure h | exact step _)

noncomputable def StL (I l : Addr) (i : Nat) (PI : Prt) : Prop := ∃ o, PI = [(I, o)] ∧ o.cls = .type "list_iterator" ∧ o.data = .fields #[.ref l, .int i 0]

theorem it_list {A : Around} {t : Expr} {I l : Addr} {u : V} {xs : List PyData} (hh : A.handled = none) : ItNext c A t I xs (fun g' => vView g' u fun ys => ys = xs) [u] [.ref l] (StL I l) := by
  rintro i f P m g ds vs s PI rfl ⟨o, rfl, hc, hd⟩ S hs
  refine hide fun X kk => ?_
  obtain ⟨l', ws, ys, e, hl, hr, rfl⟩ := vView_inv S S.top hs
  cases e
  have hI : s.heap.get? I = some o := S.prot (I, o) (.head _)
  have hit : s.heap.IsListIter I l i := ⟨o, hI, hc, hd⟩
  refine kk ⟨fun y hy => ?_, fun hn => ?_, fun Q hQ => wpAny_pyIter_listiter hit hQ⟩
  · obtain ⟨v, hv, hvy⟩ := hr.get hy
    refine wpAny_pyNext_list_item hit hl (x := v) (by rw [← Array.getElem?_toList]; exact hv) fun h' hit' hs' => ⟨v, rfl, ?_⟩
    obtain ⟨o', ho', hc', hd'⟩ := hit'
    refine lot_none ho' (.inl hc') ⟨[(I, o')], ⟨o', rfl, hc', hd'⟩, ?_⟩
    obtain ⟨S', z⟩ := S.turnP (PI := [(I, o)]) (PI' := [(I, o')]) (h' := h') (tk := s.toks) rfl (fun b hb o e => (hs'.2 b (fun q => hb (by simp [q]))).trans e) (fun p hp => by simp only [List.mem_singleton] at hp; subst hp; exact ho')
    exact S'.push2 (hvy.keeps z)
  · have e1 : ws[i]? = none := by
      have h1 := hr.length
      have h2 : ys.length ≤ i := List.getElem?_eq_none_iff.mp hn
      rw [Array.getElem?_eq_none_iff]
      rw [← Array.length_toList]
      (first | lia | omega)
    refine wpAny_pyNext_list_end hh hit hl e1 fun h' he => ⟨rfl, ?_⟩
    exact S.dropP (PI := [(I, o)]) (tk := s.toks) fun b hb o' e => he b o' (fun q => hb (by simp [q])) e

noncomputable abbrev riObj (x left step : Int) : Obj := { cls := .type "range_iterator", data := .fields #[rawInt x, rawInt left, rawInt step] }
noncomputable def StR (I : Addr) (a cc : Int) (k : Nat) (i : Nat) (PI : Prt) : Prop := i ≤ k ∧ PI = [(I, riObj (a + (i : Nat) * cc) ((k : Int) - (i : Nat)) cc)]

theorem rangeL_get (a cc : Int) : ∀ (k i : Nat), (rangeL a cc k)[i]? = if i < k then some (.int (a + i * cc)) else none
  | 0, i => by simp [rangeL]
  | k + 1, 0 => by simp [rangeL]
  | k + 1, i + 1 => by
    unfold rangeL
    rw [List.getElem?_cons_succ, rangeL_get (a + cc) cc k i]
    by_cases q : i < k
    · rw [if_pos q, if_pos (by (first | lia | omega))]
      congr 2
      push_cast
      rw [Int.add_mul, Int.one_mul]
      (first | lia | omega)
    · rw [if_neg q, if_neg (by (first | lia | omega))]

theorem it_range {A : Around} {t : Expr} {I : Addr} {a cc : Int} {k : Nat} (hh : A.handled = none) : ItNext c A t I (rangeL a cc k) (fun _ => True) [] [] (StR I a cc k) := by
  rintro i f P m g ds vs s PI rfl ⟨hik, rfl⟩ S -
  have hI : IsRangeIter s.heap I (a + (i : Nat) * cc) ((k : Int) - (i : Nat)) cc := S.prot (I, _) (.head _)
  have W := Walks.range (prog := c.prog) (w := c.w) (A := f.A) hh I a cc k
  refine ⟨fun y hy => ?_, fun hn => ?_, fun Q hQ => W.self i _ _ _ hI hQ⟩
  · rw [rangeL_get] at hy
    by_cases q : i < k
    · rw [if_pos q] at hy
      cases hy
      refine W.item i s _ _ q hI fun v h' tk hv hst' hk => ?_
      obtain ⟨t', rfl⟩ := hv
      have ho' : h'.get? I = some (riObj (a + ((i + 1 : Nat)) * cc) ((k : Int) - ((i + 1 : Nat))) cc) := hst'
      refine ⟨_, rfl, lot_none ho' (.inr rfl) ⟨[(I, riObj (a + ((i + 1 : Nat)) * cc) ((k : Int) - ((i + 1 : Nat))) cc)], ⟨q, rfl⟩, ?_⟩⟩
      obtain ⟨S', z⟩ := S.turnP (PI := [(I, riObj (a + (i : Nat) * cc) ((k : Int) - (i : Nat)) cc)]) (PI' := [(I, riObj (a + ((i + 1 : Nat)) * cc) ((k : Int) - ((i + 1 : Nat))) cc)]) (h' := h') (tk := tk) rfl (fun b hb o e => hk b o hb e) (fun p hp => by simp only [List.mem_singleton] at hp; subst hp; exact ho')
      exact S'.push2 Rd.int
    · rw [if_neg q] at hy; cases hy
  · rw [rangeL_get] at hn
    have q : i = k := by
      by_cases q : i < k
      · rw [if_pos q] at hn; cases hn
      · (first | lia | omega)
    subst q
    refine W.done s _ _ hI fun h' tk hk => ⟨rfl, ?_⟩
    exact S.dropP (PI := [(I, _)]) (tk := tk) fun b hb o' e => hk b o' hb e

/-- a zip's five objects -/
noncomputable abbrev zipO (TI TO : Addr) : Obj := { cls := .type "zip", dict := none, data := .fields #[.none, .bool false, .bool false, .ref TI, .ref TO], slots := #[] }
noncomputable abbrev pairO (a b : Value) : Obj := { cls := .type "tuple", data := .seq #[a, b] }
inductive StZ (z l1 l2 : Addr) (i : Nat) (PI : Prt) : Prop
  | mk (TI TO i1 i2 : Addr) (a b : Value) (o1 o2 : Obj) (e : PI = [(z, zipO TI TO), (TI, pairO (.ref i1) (.ref i2)), (TO, pairO a b), (i1, o1), (i2, o2)])
      (h1 : o1.cls = .type "list_iterator" ∧ o1.data = .fields #[.ref l1, .int i 0]) (h2 : o2.cls = .type "list_iterator") (h3 : o2.data = .fields #[.ref l2, .int i 0]) : StZ z l1 l2 i PI

theorem zipD_get : ∀ (xs ys : List PyData) (i : Nat), (zipD xs ys)[i]? = match xs[i]?, ys[i]? with | some x, some y => some (.tuple [x, y]) | _, _ => none
  | [], ys, i => by unfold zipD; simp
  | x :: xs, [], i => by
    unfold zipD
    cases q : (x :: xs)[i]? <;> simp
  | x :: xs, y :: ys, 0 => by unfold zipD; simp
  | x :: xs, y :: ys, i + 1 => by unfold zipD; simpa using zipD_get xs ys i

theorem nodup5 {a b d e g : Addr} (h : [a, b, d, e, g].Nodup) : ((a ≠ b ∧ a ≠ d ∧ a ≠ e ∧ a ≠ g) ∧ (b ≠ d ∧ b ≠ e ∧ b ≠ g) ∧ (d ≠ e ∧ d ≠ g) ∧ e ≠ g) := by
  simp only [List.nodup_cons, List.mem_cons, List.not_mem_nil, or_false, not_or, List.nodup_nil, and_true, not_false_eq_true] at h
  exact h
theorem not_in5 {x a b d e g : Addr} {l : List Addr} (h : x ∉ [a, b, d, e, g] ++ l) : x ≠ a ∧ x ≠ b ∧ x ≠ d ∧ x ≠ e ∧ x ≠ g := by
  simp only [List.mem_append, List.mem_cons, List.not_mem_nil, or_false, not_or] at h
  exact h.1
theorem it_zip {A : Around} {t : Expr} {z l1 l2 : Addr} {xs ys : List PyData} (hh : A.handled = none) {te : List Expr} (ht : tupE t = some te) : ItNext c A t z (zipD xs ys) (fun _ => True) [.d (.list xs), .d (.list ys)] [.ref l1, .ref l2] (StZ z l1 l2) := by
  rintro i f P m g ds vs s PI rfl ⟨TI, TO, i1, i2, a, b, o1, o2, rfl, ⟨c1, d1⟩, c2, d2⟩ S -
  refine hide fun X kk => ?_
  obtain ⟨l1', ws1, e1, ⟨q1, f1, f2, nn1, f3⟩, hr1⟩ := rd_list S.top
  obtain ⟨l2', ws2, e2, ⟨q2, f4, f5, nn2, f6⟩, hr2⟩ := rd_list S.snd
  cases e1
  cases e2
  have nd := S.nodup
  rw [muts_app] at nd
  have nd5 := (List.nodup_append.mp nd).1
  have fr1 : l1 ∉ muts f _ g := (fz_get.mp f1).2
  have fr2 : l2 ∉ muts f _ g := (fz_get.mp f4).2
  rw [muts_app] at fr1 fr2
  obtain ⟨⟨n1, n2, n3, n4⟩, ⟨n5, n6, n7⟩, ⟨n8, n9⟩, n10⟩ := nodup5 nd5
  obtain ⟨a1, a2, a3, a4, a5⟩ := not_in5 fr1
  obtain ⟨b1, b2, b3, b4, b5⟩ := not_in5 fr2
  have D : ZipApart z TI TO i1 i2 l1 l2 := ⟨Ne.symm n1, Ne.symm n2, Ne.symm n3, Ne.symm n4, n5, n6, n7, n8, n9, n10, a1, a3, a4, a5, b1, b3, b4, b5⟩
  have hz : IsZip s.heap z TI TO .none := S.prot (z, _) (.head _)
  have hTI : IsPair s.heap TI (.ref i1) (.ref i2) := S.prot (TI, _) (.tail _ (.head _))
  have hTO : IsPair s.heap TO a b := S.prot (TO, _) (.tail _ (.tail _ (.head _)))
  have h1 : s.heap.IsListIter i1 l1 i := ⟨o1, S.prot (i1, _) (.tail _ (.tail _ (.tail _ (.head _)))), c1, d1⟩
  have h2 : s.heap.IsListIter i2 l2 i := ⟨o2, S.prot (i2, _) (.tail _ (.tail _ (.tail _ (.tail _ (.head _))))), c2, d2⟩
  have hl1 : s.heap.IsList l1 ws1 := ⟨q1, fz_in _ _ f1, f2, nn1, f3⟩
  have hl2 : s.heap.IsList l2 ws2 := ⟨q2, fz_in _ _ f4, f5, nn2, f6⟩
  refine kk ⟨fun y hy => ?_, fun hn => ?_, fun Q hQ => wpAny_pyIter_zip hz hQ⟩
  · rw [zipD_get] at hy
    split at hy
    · rename_i x y' hx hy'
      cases hy
      obtain ⟨v1, hv1, r1⟩ := hr1.get hx
      obtain ⟨v2, hv2, r2⟩ := hr2.get hy'
      refine wpAny_pyNext_zip_item D hz hTI hTO h1 h2 hl1 hl2 (x := v1) (y := v2) (by rw [← Array.getElem?_toList]; exact hv1) (by rw [← Array.getElem?_toList]; exact hv2) fun h' k1 k2 k3 k4 k5 k6 hk => ⟨_, rfl, ?_⟩
      obtain ⟨k, p, rfl⟩ := tupE_inv ht
      refine wpAny_letOwnedTupleGo_zip k1 fun h'' hz'' hs'' => ?_
      obtain ⟨o1', ho1, hc1, hd1⟩ := k3
      obtain ⟨o2', ho2, hc2, hd2⟩ := k4
      have szz : s.heap.objs.size ≠ z := Nat.ne_of_gt (Heap.lt_size hz)
      have keep : ∀ bb : Addr, bb ∉ ([(z, zipO TI TO), (TI, pairO (.ref i1) (.ref i2)), (TO, pairO a b), (i1, o1), (i2, o2)] : Prt).map (·.1) → ∀ o, s.heap.get? bb = some o → h''.get? bb = some o := fun bb hb o e => by
        replace hb := not_in5 (l := []) hb
        exact (hs''.2 bb hb.1).trans (hk bb o hb.1 hb.2.2.1 hb.2.2.2.1 hb.2.2.2.2 e)
      obtain ⟨S', zz⟩ := S.turnP (PI := [(z, zipO TI TO), (TI, pairO (.ref i1) (.ref i2)), (TO, pairO a b), (i1, o1), (i2, o2)]) (PI' := [(z, zipO TI TO), (TI, pairO (.ref i1) (.ref i2)), (TO, pairO v1 v2), (i1, o1'), (i2, o2')]) (h' := h'') (tk := s.toks) rfl keep (fun p hp => by
        simp only [List.mem_cons, List.not_mem_nil, or_false] at hp
        rcases hp with rfl | rfl | rfl | rfl | rfl
        · exact hz''
        · exact (hs''.2 _ (Ne.symm n1)).trans (hk _ _ (Ne.symm n1) n5 n6 n7 hTI)
        · exact (hs''.2 _ (Ne.symm n2)).trans k2
        · exact (hs''.2 _ (Ne.symm n3)).trans ho1
        · exact (hs''.2 _ (Ne.symm n4)).trans ho2)
      have hnew : h''.get? s.heap.objs.size = some (pairO v1 v2) := (hs''.2 _ szz).trans k5
      have fr : s.heap.objs.size ∉ muts f ([(z, zipO TI TO), (TI, pairO (.ref i1) (.ref i2)), (TO, pairO v1 v2), (i1, o1'), (i2, o2')] ++ P) g := fun q => S.fresh (by rw [muts_app] at q ⊢; exact q)
      refine ⟨_, ⟨TI, TO, i1, i2, v1, v2, o1', o2', rfl, ⟨hc1, hd1⟩, hc2, hd2⟩, S'.push2 (Rd.tuple (fz_get.mpr ⟨hnew, fr⟩) rfl rfl ?_)⟩
      exact .cons (r1.keeps zz) (.cons (r2.keeps zz) .nil)
    · cases hy
  · rw [zipD_get] at hn
    have hend : ws1[i]? = none ∨ ws2[i]? = none := by
      have l1 := hr1.length
      have l2 := hr2.length
      have e1 : xs[i]? = none ∨ ys[i]? = none := by
        cases q1 : xs[i]? with
        | none => exact .inl rfl
        | some x => cases q2 : ys[i]? with
          | none => exact .inr rfl
          | some y => rw [q1, q2] at hn; cases hn
      rw [Array.getElem?_eq_none_iff, Array.getElem?_eq_none_iff, ← Array.length_toList, ← Array.length_toList, l1, l2]
      rcases e1 with e1 | e1
      · exact .inl (List.getElem?_eq_none_iff.mp e1)
      · exact .inr (List.getElem?_eq_none_iff.mp e1)
    refine wpAny_pyNext_zip_end hh D hz hTI hTO h1 h2 hl1 hl2 hend fun h' hk => ⟨rfl, ?_⟩
    refine S.dropP (PI := [(z, zipO TI TO), (TI, pairO (.ref i1) (.ref i2)), (TO, pairO a b), (i1, o1), (i2, o2)]) (tk := s.toks) fun bb hb o' e => ?_
    replace hb := not_in5 (l := []) hb
    exact hk bb o' hb.1 hb.2.2.1 hb.2.2.2.1 hb.2.2.2.2 e
end
end Mine

set_option maxRecDepth 100000
namespace Mine
open PySem PySem.W PySem.Calls PyProof.Rows PySem.Spec
open PySem.W.Fast (sEq sEq_iff)

section
variable {c : Cx} {K : Frag} {f : Fm} {P PI PI' : Prt} {m : Mp} {g : G} {ds es : List V} {vs ws : List Value} {s : Shared} {n N : Nat} {r : Rc} {sx : SX}

/-- what a loop goes over, made an iterator -/
inductive IterAt (c : Cx) (f : Fm) (P : Prt) (m : Mp) (ds : List V) (vs : List Value) (t : Expr) (k : List PyData → (G → Prop) → G → Prop) (it : Value) (s₂ : Shared) : Prop
  | mk (I : Addr) (xs : List PyData) (still : G → Prop) (g' : G) (es : List V) (ws : List Value) (PI : Prt) (St : Nat → Prt → Prop) (e : it = .ref I) (hl : ws.length = es.length) (hk : k xs still g') (It : ItNext c f.A t I xs still es ws St) (h0 : St 0 PI) (hx : xs.length ≤ 1000) (S : Sat c f (PI ++ P) m g' (es ++ ds) (ws ++ vs) s₂) :
    IterAt c f P m ds vs t k it s₂

theorem rangeL_len (a cc : Int) : ∀ k, (rangeL a cc k).length = k
  | 0 => rfl
  | k + 1 => by unfold rangeL; rw [List.length_cons, rangeL_len]
theorem zipD_len : ∀ xs ys : List PyData, (zipD xs ys).length ≤ xs.length
  | [], ys => by unfold zipD; simp
  | _ :: _, [] => by unfold zipD; simp
  | _ :: xs, _ :: ys => by unfold zipD; have := zipD_len xs ys; simp; (first | lia | omega)

theorem cdiv_size {i n cc : Int} (h0 : 0 ≤ i) (h1 : i ≤ 1000) (h2 : 0 ≤ n) (h3 : n ≤ 1000) (h4 : 0 < cc) (h5 : cc ≤ 1000) : Builtin.Range.rangeSize i n cc = ((cdiv (n - i) cc : Nat) : Int) ∧ cdiv (n - i) cc ≤ 1000 ∧ Builtin.Range.small i n cc = true := by
  unfold cdiv
  have e1 : Builtin.Range.rangeSize i n cc = ((((n - i) + cc - 1).fdiv cc).toNat : Int) := by
    unfold Builtin.Range.rangeSize
    rw [Int.fdiv_eq_ediv_of_nonneg _ (by (first | lia | omega))]
    simp only [gt_iff_lt, h4, if_true]
    by_cases q : i < n
    · simp only [q, if_true]
      have : 0 ≤ (n - i + cc - 1) / cc := Int.ediv_nonneg (by (first | lia | omega)) (by (first | lia | omega))
      rw [Int.toNat_of_nonneg this]
      have : n - i + cc - 1 = (n - i - 1) + cc := by (first | lia | omega)
      rw [this, Int.add_ediv_of_dvd_right (Int.dvd_refl cc), Int.ediv_self (by (first | lia | omega))]
    · simp only [q, if_false]
      have : (n - i + cc - 1) / cc ≤ 0 := by
        have := Int.ediv_lt_of_lt_mul h4 (show n - i + cc - 1 < 1 * cc by (first | lia | omega))
        (first | lia | omega)
      (first | lia | omega)
  have e2 : ((n - i) + cc - 1).fdiv cc ≤ 1000 := by
    rw [Int.fdiv_eq_ediv_of_nonneg _ (by (first | lia | omega))]
    have := Int.ediv_lt_of_lt_mul h4 (show n - i + cc - 1 < 1001 * cc by (first | lia | omega))
    (first | lia | omega)
  refine ⟨e1, by (first | lia | omega), ?_⟩
  unfold Builtin.Range.small
  rw [e1]
  have e3 : ((((n - i) + cc - 1).fdiv cc).toNat : Int) ≤ 1000 := by (first | lia | omega)
  have e4 : 0 ≤ ((((n - i) + cc - 1).fdiv cc).toNat : Int) := by (first | lia | omega)
  generalize ((((n - i) + cc - 1).fdiv cc).toNat : Int) = d at e3 e4 ⊢
  simp only [Builtin.Range.rangeFitsLong, Bool.and_eq_true, decide_eq_true_eq, gt_iff_lt, h4, if_true, Bool.or_eq_true]
  refine ⟨by (first | lia | omega), .inr (by (first | lia | omega))⟩

/-- new objects that a rule holds while more is worked out -/
theorem Sat.protectAll {h' : Heap} {tk : Tok} (S : Sat c f P m g ds vs s) (ha : ∀ p ∈ PI, s.heap.get? p.1 = none) (hnd : (PI.map (·.1)).Nodup) (old : ∀ x o', s.heap.get? x = some o' → h'.get? x = some o') (new : ∀ p ∈ PI, h'.get? p.1 = some p.2) :
    Sat c f (PI ++ P) m g ds vs { s with heap := h', toks := tk } := by
  have ne : ∀ a ∈ PI.map (·.1), a ∉ muts f P g := fun a hq q => by
    obtain ⟨p, hp, rfl⟩ := List.mem_map.mp hq
    obtain ⟨o', e⟩ := S.live _ q
    rw [ha p hp] at e; cases e
  refine S.change (fun x o' hx e => fun q => ?_) (fun x o' hx e => old x o' e) (fun p hp => ?_) (fun z p hp => (S.own p hp).move z fun o e => old _ _ e) (fun z p hp => (S.out p hp).move z fun o e => old _ _ e)
    (fun z => S.frame.move z (fun o e => old _ _ e) fun _ _ o _ e => old _ _ e) ?_ (fun x hx => ?_) (fun z r => r.keeps z)
  · rw [muts_app] at q
    rcases List.mem_append.mp q with q | q
    · obtain ⟨p, hp, rfl⟩ := List.mem_map.mp q
      rw [ha p hp] at e; cases e
    · exact hx q
  · rcases List.mem_append.mp hp with q | q
    · exact new p q
    · exact old _ _ (S.prot p q)
  · rw [muts_app]
    exact List.nodup_append.mpr ⟨hnd, S.nodup, fun a ha b hb e => ne a ha (e ▸ hb)⟩
  · rw [muts_app] at hx
    rcases List.mem_append.mp hx with q | q
    · obtain ⟨p, hp, rfl⟩ := List.mem_map.mp q
      exact ⟨_, new p hp⟩
    · obtain ⟨o', e⟩ := S.live x q; exact ⟨o', old _ _ e⟩

theorem iterP (O : RcOk c N r n) (C : Scp c N sx f) (R : Room f.A (N + n)) {t e : Expr} {k : List PyData → (G → Prop) → G → Prop} (h : vIterP r sx m e g k) (S : Sat c f P m g ds vs s) :
    (wpAny (mdl c) f.A (eval e f.env) (fun x s₁ => wpAny (mdl c) f.A (pyIter x) (IterAt c f P m ds vs t k) no s₁) no s) ∧ ∀ x, foldedSetIterable e f.env x = pure x := by
  obtain ⟨hp, h⟩ := bB_inv h
  refine ⟨wpAny_mono (O.E C R h P ds vs s S) (fun x s₁ q => ?_) no_imp, fun x => by cases e <;> first | rfl | cases hp⟩
  obtain ⟨u, g', S', q⟩ := q
  obtain ⟨l, ws, xs, rfl, hl, hr, hx, hk⟩ := vView_inv S' S'.top q
  refine wpAny_pyIter_list hl ⟨s₁.heap.objs.size, xs, _, g', [u], [.ref l], _, StL s₁.heap.objs.size l, rfl, rfl, hk, it_list R.h, ⟨{ cls := .type "list_iterator", data := .fields #[.ref l, .int 0 0] }, rfl, rfl, rfl⟩, hx, ?_⟩
  exact S'.protect (tk := s₁.toks) get_none (fun x o' e => Heap.get?_push_of_some _ e) (Heap.get?_push_size _ rfl)

theorem vName_of {x : Str} {l : Gl} (hd : sEq x nmDebug = false) (hm : slook x m = none) (hs : slook x sx.sc = some .globalImplicit) (hl : slook x gtab = some l) {Q : QV} (h : match (generalizing := false) l with
      | .fn a => Q (.fn a) g
      | .strs => Q (.d (pStrs lawStrings)) g
      | .bi b => Q (.bi b) g) : vName sx m x g Q := by
  unfold vName
  rw [hd, hm]
  simp only
  unfold vGlob
  rw [hs]
  simp only
  rw [hl]
  cases l <;> exact h

theorem StR_zero {I : Addr} {a cc : Int} {k : Nat} : StR I a cc k 0 [(I, riObj a k cc)] := ⟨Nat.zero_le _, by
  have e1 : a + ((0 : Nat) : Int) * cc = a := by (first | lia | omega)
  have e2 : (k : Int) - ((0 : Nat) : Int) = k := by (first | lia | omega)
  rw [e1, e2]⟩
theorem iterG (W : Wd c K) (O : RcOk c N r n) (C : Scp c N sx f) (R : Room f.A (N + n)) {t : Expr} {x : Str} {l : Gl} {np pos : Pos} {args : List Expr} {k : List PyData → (G → Prop) → G → Prop} (hd : sEq x nmDebug = false) (hm : slook x m = none)
    (hs : slook x sx.sc = some .globalImplicit) (hl : slook x gtab = some l) (h : vIterG r sx m t l args (.Call (.Name x np) args [] pos) g k) (S : Sat c f P m g ds vs s) :
    (wpAny (mdl c) f.A (eval (.Call (.Name x np) args [] pos) f.env) (fun x s₁ => wpAny (mdl c) f.A (pyIter x) (IterAt c f P m ds vs t k) no s₁) no s) ∧ ∀ x', foldedSetIterable (.Call (.Name x np) args [] pos) f.env x' = pure x' := by
  refine ⟨?_, fun _ => rfl⟩
  have bi : ∀ {b : Bi} {kk : List V → G → Prop}, l = .bi b → okEs args = true → vEs r sx m args g kk →
      (∀ ws es g' s', Sat c f P m g' (es ++ ds) (ws ++ vs) s' → ws.length = es.length → kk es g' → wpAny (mdl c) f.A (call b.val ws) (fun x s₁ => wpAny (mdl c) f.A (pyIter x) (IterAt c f P m ds vs t k) no s₁) no s') →
      wpAny (mdl c) f.A (eval (.Call (.Name x np) args [] pos) f.env) (fun x s₁ => wpAny (mdl c) f.A (pyIter x) (IterAt c f P m ds vs t k) no s₁) no s := fun {b kk} e hok hv fin => by
    subst e
    show wpAny _ _ (do callWith pos (← eval (.Name x np) f.env) [] (backTo pos (starEach args f.env)) []) _ _ s
    have hq : vName sx m x g (fun u g' => u = .bi b ∧ g' = g) := vName_of hd hm hs hl ⟨rfl, rfl⟩
    refine wpAny_bind (wpAny_mono (ok_Name W C hq P ds vs s S) (fun v s₁ q => ?_) no_imp)
    obtain ⟨u, g₁, S₁, rfl, rfl⟩ := q
    have rv : v = b.val := S₁.top
    have hkp : KpOf K v := call_kp W S₁.top (.inr ⟨b, rfl⟩)
    subst rv
    exact ok_callWith W O C R hkp hok hv S₁.pop fin
  unfold vIterG at h
  split at h
  · obtain ⟨hok, h⟩ := bB_inv h
    refine bi rfl hok h fun ws es g' s' S' hlen q => ?_
    unfold vRange at q
    split at q
    · obtain ⟨w, ws, rfl, hl1⟩ := lnS (n := 0) hlen
      obtain rfl := ln0 hl1
      · skip
        obtain ⟨i, tk, -, rfl, hi, hk⟩ := vInt_inv S'.top q
        refine call_range_1 ?_
        have S1 := S'.pop.grow (h' := s'.heap.push { cls := .type "range", data := .fields #[.int 0 s'.toks, .int i tk, .int 1 (s'.toks + 1)] }) (tk := s'.toks + 1 + 1) fun x o' e => Heap.get?_push_of_some _ e
        have hsz : Builtin.Range.rangeSize 0 i 1 = ((i.toNat : Nat) : Int) := by
          unfold Builtin.Range.rangeSize
          simp only [gt_iff_lt, show (0 : Int) < 1 by decide, if_true]
          split <;> (first | lia | omega)
        refine wpAny_pyIter_range (IsRange.new ..) ?_ ?_
        · unfold Builtin.Range.small
          rw [hsz]
          have e3 : (i.toNat : Int) ≤ 1000 := by (first | lia | omega)
          simp only [Builtin.Range.rangeFitsLong, Bool.and_eq_true, decide_eq_true_eq, gt_iff_lt, show (0 : Int) < 1 by decide, if_true, Bool.or_eq_true, beq_iff_eq]
          refine ⟨?_, ?_⟩
          · (first | lia | omega)
          · (first | lia | omega)
        · rw [hsz]
          exact ⟨_, _, _, g', [], [], _, StR _ 0 1 i.toNat, rfl, rfl, hk, it_range R.h, StR_zero, by rw [rangeL_len]; (first | lia | omega),
            S1.protect (tk := s'.toks + 1 + 1) get_none (fun x o' e => Heap.get?_push_of_some _ e) (Heap.get?_push_size _ rfl)⟩
    · obtain ⟨w1, ws, rfl, hl1⟩ := lnS (n := 2) hlen
      obtain ⟨w2, ws, rfl, hl2⟩ := lnS (n := 1) hl1
      obtain ⟨w3, ws, rfl, hl3⟩ := lnS (n := 0) hl2
      obtain rfl := ln0 hl3
      · skip
        obtain ⟨i, t1, -, rfl, q⟩ := vInt_inv S'.top q
        obtain ⟨j, t2, -, rfl, q⟩ := vInt_inv S'.pop.top q
        obtain ⟨cc, t3, -, rfl, ⟨h0, h1, h2, h3, h4, h5⟩, hk⟩ := vInt_inv S'.pop.pop.top q
        refine call_range_3 (by (first | lia | omega)) ?_
        have S1 := S'.pop.pop.pop.grow (h' := s'.heap.push { cls := .type "range", data := .fields #[.int i t1, .int j t2, .int cc t3] }) (tk := s'.toks) fun x o' e => Heap.get?_push_of_some _ e
        obtain ⟨e1, e2, e3⟩ := cdiv_size h0 h1 h2 h3 h4 h5
        refine wpAny_pyIter_range (IsRange.new ..) e3 ?_
        rw [e1]
        exact ⟨_, _, _, g', [], [], _, StR _ i cc (cdiv (j - i) cc), rfl, rfl, hk, it_range R.h, StR_zero, by rw [rangeL_len]; exact e2,
          S1.protect (tk := s'.toks) get_none (fun x o' e => Heap.get?_push_of_some _ e) (Heap.get?_push_size _ rfl)⟩
    · cases q
  · obtain ⟨hok, h⟩ := bB_inv h
    obtain ⟨te, ht, h⟩ := oB_inv h
    refine bi rfl hok h fun ws es g' s' S' hlen q => ?_
    unfold vZip at q
    replace q := oB_inv q
    obtain ⟨pr, hpr, q⟩ := q
    replace q := vLst_inv q
    obtain ⟨xs, ex, q⟩ := q
    replace q := vLst_inv q
    obtain ⟨ys, ey, q⟩ := q
    obtain ⟨p1, p2⟩ := pr
    subst ex
    subst ey
    obtain rfl := two_inv hpr
    clear hpr
    · skip
      obtain ⟨w1, ws, rfl, hk1⟩ := lnS (n := 1) hlen
      obtain ⟨w2, ws, rfl, hk2⟩ := lnS (n := 0) hk1
      obtain rfl := ln0 hk2
      · skip
        obtain ⟨⟨hx, hy⟩, hk⟩ := q
        obtain ⟨l1, ws1, rfl, hl1, hr1⟩ := rd_list S'.top
        obtain ⟨l2, ws2, rfl, hl2, hr2⟩ := rd_list S'.snd
        refine call_zip_2 (hl1.at fun o e => fz_in _ _ e) (hl2.at fun o e => fz_in _ _ e) fun h' a1 a2 a3 a4 a5 a6 a7 => ?_
        refine wpAny_pyIter_zip a1 ?_
        obtain ⟨o1, b1, b2, b3⟩ := a4
        obtain ⟨o2, b4, b5, b6⟩ := a5
        refine ⟨_, _, _, g', [.d (.list xs), .d (.list ys)], [.ref l1, .ref l2], _, StZ _ l1 l2, rfl, rfl, hk, it_zip R.h ht, ⟨s'.heap.objs.size + 2, s'.heap.objs.size + 3, s'.heap.objs.size, s'.heap.objs.size + 1, .none, .none, o1, o2, rfl, ⟨b2, b3⟩, b5, b6⟩, Nat.le_trans (zipD_len _ _) hx, ?_⟩
        have fresh : ∀ j, s'.heap.get? (s'.heap.objs.size + j) = none := fun j => Heap.get?_none_of_le (Nat.le_add_right _ _)
        have nd : ∀ i j, i ≠ j → s'.heap.objs.size + i ≠ s'.heap.objs.size + j := fun i j h e => h (Nat.add_left_cancel e)
        exact S'.protectAll (tk := s'.toks) (fun p hp => by
          simp only [List.mem_cons, List.not_mem_nil, or_false] at hp
          rcases hp with rfl | rfl | rfl | rfl | rfl
          · exact fresh 4
          · exact fresh 2
          · exact fresh 3
          · exact fresh 0
          · exact fresh 1) (by
          simp only [List.map_cons, List.map_nil, List.nodup_cons, List.mem_cons, List.not_mem_nil, or_false, not_or, List.nodup_nil, and_true, not_false_eq_true]
          have d := fun i j h => nd i j h
          exact ⟨⟨d 4 2 (by decide), d 4 3 (by decide), d 4 0 (by decide), d 4 1 (by decide)⟩, ⟨d 2 3 (by decide), d 2 0 (by decide), d 2 1 (by decide)⟩, ⟨d 3 0 (by decide), d 3 1 (by decide)⟩, d 0 1 (by decide)⟩) a7 (fun p hp => by
          simp only [List.mem_cons, List.not_mem_nil, or_false] at hp
          rcases hp with rfl | rfl | rfl | rfl | rfl
          · exact a1
          · exact a2
          · exact a3
          · exact b1
          · exact b4)
  · exact (iterP O C R h S).1

theorem ok_vIter (W : Wd c K) (O : RcOk c N r n) (C : Scp c N sx f) (R : Room f.A (N + n)) {t e : Expr} {k : List PyData → (G → Prop) → G → Prop} (h : vIter r sx m t e g k) (S : Sat c f P m g ds vs s) :
    (wpAny (mdl c) f.A (eval e f.env) (fun x s₁ => wpAny (mdl c) f.A (pyIter x) (IterAt c f P m ds vs t k) no s₁) no s) ∧ ∀ x, foldedSetIterable e f.env x = pure x := by
  unfold vIter at h
  split at h
  · split at h
    · rename_i hx
      obtain ⟨_, rfl⟩ := nameE_inv hx
      split at h
      · split at h
        · cases h
        · rename_i hd
          split at h
          · exact iterP O C R h S
          · rename_i hm
            unfold vGlob at h
            split at h
            · rename_i hs
              obtain ⟨l, hl, hk⟩ := oB_inv h
              exact iterG W O C R hd hm hs hl hk S
            · cases h
      · exact iterP O C R h S
    · exact iterP O C R h S
  · exact iterP O C R h S
end
end Mine

set_option maxRecDepth 100000
namespace Mine
open PySem PySem.W PySem.Calls PyProof.Rows PySem.Spec
open PySem.W.Fast (sEq sEq_iff)

section
variable {c : Cx} {K : Frag} {f : Fm} {P PI PI' : Prt} {m : Mp} {g : G} {ds es : List V} {vs ws : List Value} {s : Shared} {n N : Nat} {r : Rc} {sx : SX}

theorem slook_eq {α : Type} (x : Str) : ∀ l : List (Str × α), slook x l = l.lookup x
  | [] => rfl
  | (y, d) :: r => by
    unfold slook
    rw [List.lookup_cons, slook_eq x r]
    by_cases q : y = x
    · rw [sEq_iff.mpr q, beq_iff_eq.mpr q.symm]
    · have : sEq y x = false := Bool.eq_false_iff.mpr fun z => q (sEq_iff.mp z)
      simp only [this, beq_eq_false_iff_ne.mpr (Ne.symm q)]
theorem noSame {α : Type} {x : Str} {r : List (Str × α)} (h : (!(r.any fun q => sEq x q.1)) = true) : ∀ p ∈ r, p.1 ≠ x := fun p hp e => by
  have : (r.any fun q => sEq x q.1) = true := List.any_eq_true.mpr ⟨p, hp, sEq_iff.mpr e.symm⟩
  rw [this] at h; cases h
theorem nodupM_inv : ∀ {m : Mp}, nodupM m = true → ∀ {x b ov b' ov'}, (x, b, ov) ∈ m → (x, b', ov') ∈ m → b = b' ∧ ov = ov'
  | [], _, _, _, _, _, _, h, _ => by cases h
  | p :: r, h, x, b, ov, b', ov', h1, h2 => by
    unfold nodupM at h
    obtain ⟨e1, e2⟩ := Bool.and_eq_true_iff.mp h
    have ns := noSame e1
    rcases List.mem_cons.mp h1 with q1 | q1
    · rcases List.mem_cons.mp h2 with q2 | q2
      · rw [← q1] at q2; cases q2; exact ⟨rfl, rfl⟩
      · subst q1; exact absurd rfl (ns (x, b', ov') q2)
    · rcases List.mem_cons.mp h2 with q2 | q2
      · subst q2; exact absurd rfl (ns (x, b, ov) q1)
      · exact nodupM_inv e2 q1 q2

/-- the cells that a comprehension captures -/
noncomputable def clGo (cells : List (Str × Addr)) : List (Str × NameKind) → List (Str × Addr) → List (Str × Addr)
  | [], acc => acc
  | (n, k) :: r, acc => if (k == .free) = true then clGo cells r ((n, (cells.lookup n).getD 0) :: acc) else clGo cells r acc
theorem clos_go {M : Type} {env : Env} : ∀ (names : List (Str × NameKind)) (acc : List (Str × Addr)), (∀ x, (x, NameKind.free) ∈ names → ∃ a, env.cells.lookup x = some a) →
    (forIn names acc fun x r => (match x with | (name, kind) => if (kind == NameKind.free) = true then (do let a ← cellOf env name; pure (ForInStep.yield ((name, a) :: r))) else pure (ForInStep.yield r) : Sem (ForInStep (List (Str × Addr))))) = pure (clGo env.cells names acc)
  | [], acc, _ => rfl
  | (n, k) :: r, acc, h => by
    rw [List.forIn_cons]
    unfold clGo
    by_cases q : (k == NameKind.free) = true
    · have : k = .free := by simpa using q
      subst this
      obtain ⟨a, ha⟩ := h n (.head _)
      simp only [if_true, q]
      have e : cellOf env n = pure a := by unfold cellOf; rw [ha]
      rw [e, ha]
      simp only [pure_bind, Option.getD_some]
      exact clos_go (M := M) r _ fun x hx => h x (.tail _ hx)
    · simp only [q, if_false]
      exact clos_go (M := M) r _ fun x hx => h x (.tail _ hx)
theorem clos_eq {scope : Scope} {env : Env} (h : ∀ x, (x, NameKind.free) ∈ scope.names → ∃ a, env.cells.lookup x = some a) : closureFor scope env = pure (clGo env.cells scope.names []) := by
  unfold closureFor
  have := clos_go (M := Unit) (env := env) scope.names [] h
  simp only [bind_pure] at this ⊢
  rw [← this]

/-- what is so of them -/
theorem clGo_mem {cells : List (Str × Addr)} : ∀ {names : List (Str × NameKind)} {acc : List (Str × Addr)} {x : Str} {a : Addr}, (x, a) ∈ clGo cells names acc → (x, a) ∈ acc ∨ ((x, NameKind.free) ∈ names ∧ a = (cells.lookup x).getD 0)
  | [], acc, x, a, h => .inl h
  | (n, k) :: r, acc, x, a, h => by
    unfold clGo at h
    split at h
    · rename_i q
      have : k = .free := by simpa using q
      subst this
      rcases clGo_mem h with h | h
      · rcases List.mem_cons.mp h with h | h
        · cases h; exact .inr ⟨.head _, rfl⟩
        · exact .inl h
      · exact .inr ⟨.tail _ h.1, h.2⟩
    · rcases clGo_mem h with h | h
      · exact .inl h
      · exact .inr ⟨.tail _ h.1, h.2⟩
theorem clGo_has {cells : List (Str × Addr)} : ∀ {names : List (Str × NameKind)} {acc : List (Str × Addr)} {x : Str}, ((x, NameKind.free) ∈ names → (x, (cells.lookup x).getD 0) ∈ clGo cells names acc) ∧ ∀ p ∈ acc, p ∈ clGo cells names acc
  | [], acc, x => ⟨fun h => (nomatch h), fun p hp => hp⟩
  | (n, k) :: r, acc, x => by
    unfold clGo
    split
    · rename_i q
      refine ⟨fun h => ?_, fun p hp => (clGo_has (x := x)).2 p (.tail _ hp)⟩
      rcases List.mem_cons.mp h with h | h
      · cases h; exact (clGo_has (x := n)).2 _ (.head _)
      · exact (clGo_has (x := x)).1 h
    · rename_i q
      refine ⟨fun h => ?_, fun p hp => (clGo_has (x := x)).2 p hp⟩
      rcases List.mem_cons.mp h with h | h
      · cases h; exact absurd rfl q
      · exact (clGo_has (x := x)).1 h
theorem clGo_nodup {cells : List (Str × Addr)} : ∀ {names : List (Str × NameKind)} {acc : List (Str × Addr)}, (names.map (·.1)).Nodup → (acc.map (·.1)).Nodup → (∀ p ∈ acc, ∀ q ∈ names, p.1 ≠ q.1) → ((clGo cells names acc).map (·.1)).Nodup
  | [], acc, _, h, _ => h
  | (n, k) :: r, acc, hn, ha, hd => by
    unfold clGo
    rw [List.map_cons] at hn
    obtain ⟨n1, n2⟩ := List.nodup_cons.mp hn
    split
    · refine clGo_nodup n2 (List.nodup_cons.mpr ⟨fun q => ?_, ha⟩) fun p hp q hq => ?_
      · obtain ⟨p, hp, e⟩ := List.mem_map.mp q
        exact hd p hp _ (.head _) e
      · rcases List.mem_cons.mp hp with rfl | hp
        · exact fun e => n1 (List.mem_map.mpr ⟨q, hq, e.symm⟩)
        · exact hd p hp q (.tail _ hq)
    · exact clGo_nodup n2 ha fun p hp q hq => hd p hp q (.tail _ hq)

theorem lookup_of_mem {α : Type} {x : Str} {a : α} : ∀ {l : List (Str × α)}, (l.map (·.1)).Nodup → (x, a) ∈ l → l.lookup x = some a
  | [], _, h => by cases h
  | (y, d) :: r, nd, h => by
    rw [List.map_cons] at nd
    obtain ⟨n1, n2⟩ := List.nodup_cons.mp nd
    rw [List.lookup_cons]
    rcases List.mem_cons.mp h with h | h
    · cases h; rw [beq_self_eq_true]
    · have : x ≠ y := fun e => n1 (e ▸ List.mem_map.mpr ⟨_, h, rfl⟩)
      rw [beq_eq_false_iff_ne.mpr this]
      exact lookup_of_mem n2 h

/-- what a comprehension's scope must be -/
structure ScOk (m : Mp) (names : List (Str × NameKind)) : Prop where
  nodup : (names.map (·.1)).Nodup
  free : ∀ x, (x, NameKind.free) ∈ names → ∃ ov, (x, true, ov) ∈ m ∧ slook x m = some (true, ov)
  kinds : ∀ p ∈ names, p.2 = .local ∨ p.2 = .globalImplicit ∨ p.2 = .free
theorem scOk_inv : ∀ {names : List (Str × NameKind)}, scOk m names = true → ScOk m names
  | [], _ => ⟨.nil, fun _ h => (nomatch h), fun _ h => (nomatch h)⟩
  | p :: r, h => by
    unfold scOk at h
    obtain ⟨h12, h3⟩ := Bool.and_eq_true_iff.mp h
    obtain ⟨h1, h2⟩ := Bool.and_eq_true_iff.mp h12
    have ih := scOk_inv h3
    have ns := noSame h2
    refine ⟨?_, fun x hx => ?_, fun q hq => ?_⟩
    · rw [List.map_cons]
      refine List.nodup_cons.mpr ⟨fun q => ?_, ih.nodup⟩
      obtain ⟨y, hy, e⟩ := List.mem_map.mp q
      exact ns y hy e
    · rcases List.mem_cons.mp hx with hx | hx
      · subst hx
        dsimp only at h1
        split at h1
        · rename_i q hq
          obtain ⟨b, ov⟩ := q
          have : b = true := h1
          subst this
          exact ⟨ov, slook_mem hq, hq⟩
        · cases h1
      · exact ih.free x hx
    · rcases List.mem_cons.mp hq with rfl | hq
      · obtain ⟨n, k⟩ := q
        cases k <;> first | exact .inl rfl | exact .inr (.inl rfl) | exact .inr (.inr rfl) | cases h1
      · exact ih.kinds q hq
end
end Mine

set_option maxRecDepth 100000
namespace Mine
open PySem PySem.W PySem.Calls PyProof.Rows PySem.Spec
open PySem.W.Fast (sEq sEq_iff)

section
variable {c : Cx} {K : Frag} {f : Fm} {P PI PI' : Prt} {m : Mp} {g : G} {ds es : List V} {vs ws : List Value} {s : Shared} {n N : Nat} {r : Rc} {sx : SX}

/-! a frame's values, kept on the stack while another frame works -/
noncomputable def mv : Mp → List V
  | [] => []
  | (_, _, none) :: m => mv m
  | (_, _, some d) :: m => d :: mv m
noncomputable def EntU (h : Heap) (env : Env) (mm : Str → Option Value) (x : Str) (b : Bool) (u : Value) : Prop := (b = false → mm x = some u) ∧ (b = true → ∃ cc, env.cells.lookup x = some cc ∧ h.IsCell cc (some u))
inductive UsFor (h : Heap) (env : Env) (mm : Str → Option Value) : Mp → List Value → Prop
  | nil : UsFor h env mm [] []
  | no {x b m us} : UsFor h env mm m us → UsFor h env mm ((x, b, none) :: m) us
  | yes {x b d m us u} : EntU h env mm x b u → UsFor h env mm m us → UsFor h env mm ((x, b, some d) :: m) (u :: us)
theorem us_of {Pr : Params} {z h : Heap} {env : Env} {mm : Str → Option Value} : ∀ {m : Mp}, (∀ x ov, (x, false, ov) ∈ m → ∀ d, ov = some d → ∃ u, mm x = some u ∧ RepV Pr z u d) → (∀ x ov, (x, true, ov) ∈ m → CellIs Pr z h env.cells x ov) →
    ∃ us, UsFor h env mm m us ∧ Reps Pr z us (mv m)
  | [], _, _ => ⟨[], .nil, .nil⟩
  | (x, b, ov) :: m, h1, h2 => by
    obtain ⟨us, q1, q2⟩ := us_of (m := m) (fun x ov hm => h1 x ov (.tail _ hm)) (fun x ov hm => h2 x ov (.tail _ hm))
    cases ov with
    | none => exact ⟨us, .no q1, q2⟩
    | some d =>
      cases b with
      | false =>
        obtain ⟨u, hu, hr⟩ := h1 x _ (.head _) d rfl
        exact ⟨u :: us, .yes ⟨fun _ => hu, (fun e => nomatch e)⟩ q1, .cons hr q2⟩
      | true =>
        obtain ⟨cc, ou, a1, a2, a3⟩ := h2 x _ (.head _)
        obtain ⟨u, rfl, hr⟩ := a3 d rfl
        exact ⟨u :: us, .yes ⟨(fun e => nomatch e), fun _ => ⟨cc, a1, a2⟩⟩ q1, .cons hr q2⟩
theorem us_get {Pr : Params} {z h : Heap} {env : Env} {mm : Str → Option Value} {m : Mp} {us : List Value} (q : UsFor h env mm m us) : Reps Pr z us (mv m) → ∀ {x b d}, (x, b, some d) ∈ m → ∃ u, EntU h env mm x b u ∧ RepV Pr z u d := by
  induction q with
  | nil => intro _ x b d hm; cases hm
  | no q ih =>
    intro hr x b d hm
    rcases List.mem_cons.mp hm with hm | hm
    · cases hm
    · exact ih hr hm
  | @yes x0 b0 d0 m0 us0 u0 e q ih =>
    intro hr x b d hm
    cases hr with
    | cons a hr =>
      rcases List.mem_cons.mp hm with hm | hm
      · cases hm; exact ⟨_, e, a⟩
      · exact ih hr hm
theorem us_len {h : Heap} {env : Env} {mm : Str → Option Value} {m : Mp} {us : List Value} (q : UsFor h env mm m us) : us.length = (mv m).length := by
  induction q with
  | nil => rfl
  | no _ ih => exact ih
  | yes _ _ ih => simp [mv, ih]

theorem ns_unique {h : Heap} {L : Addr} {mm mm' : Str → Option Value} (a : h.Ns L mm) (b : h.Ns L mm') : mm = mm' := by
  obtain ⟨o, es, ep, a1, a2, a3, a4⟩ := a
  obtain ⟨o', es', ep', b1, b2, b3, b4⟩ := b
  rw [a1] at b1; cases b1
  rw [a2] at b2; cases b2
  funext n; rw [← a4, ← b4]

/-- the outer frame's own objects that the comprehension does not capture -/
noncomputable def outA (env : Env) (cl : List (Str × Addr)) : List Addr := env.locals :: (env.cells.map (·.2)).filter fun a => decide (a ∉ cl.map (·.2))
noncomputable def outP (h : Heap) (env : Env) (cl : List (Str × Addr)) : Prt := (outA env cl).map fun a => (a, (h.get? a).getD (plainL #[] 0))
theorem outP_fst (h : Heap) (env : Env) (cl : List (Str × Addr)) : (outP h env cl).map (·.1) = outA env cl := by
  unfold outP
  rw [List.map_map]
  conv => rhs; rw [← List.map_id (outA env cl)]
  rfl

theorem map_nodup_of {α : Type} {l : List (Str × α)} (h : (l.map (·.1)).Nodup) (inj : ∀ x y a, (x, a) ∈ l → (y, a) ∈ l → x = y) : (l.map (·.2)).Nodup := by
  induction l with
  | nil => exact .nil
  | cons p r ih =>
    obtain ⟨x, a⟩ := p
    rw [List.map_cons] at h ⊢
    obtain ⟨n1, n2⟩ := List.nodup_cons.mp h
    refine List.nodup_cons.mpr ⟨fun q => ?_, ih n2 fun x y a hx hy => inj x y a (.tail _ hx) (.tail _ hy)⟩
    obtain ⟨⟨y, b⟩, hy, e⟩ := List.mem_map.mp q
    simp only at e
    subst e
    have := inj x y b (.head _) (.tail _ hy)
    subst this
    exact n1 (List.mem_map.mpr ⟨_, hy, rfl⟩)

/-- what the captured cells are to the frame's -/
structure ClOk (env : Env) (names : List (Str × NameKind)) (cl : List (Str × Addr)) : Prop where
  mem : ∀ x a, (x, a) ∈ cl → env.cells.lookup x = some a ∧ (x, NameKind.free) ∈ names
  has : ∀ x, (x, NameKind.free) ∈ names → ∃ a, cl.lookup x = some a ∧ env.cells.lookup x = some a
  perm : (env.cells.map (·.2)).Perm (cl.map (·.2) ++ (env.cells.map (·.2)).filter fun a => decide (a ∉ cl.map (·.2)))
theorem clOk {env : Env} {names : List (Str × NameKind)} (nd : (env.cells.map (·.2)).Nodup) (hn : (names.map (·.1)).Nodup) (hf : ∀ x, (x, NameKind.free) ∈ names → ∃ a, env.cells.lookup x = some a) : ClOk env names (clGo env.cells names []) := by
  have mem : ∀ x a, (x, a) ∈ clGo env.cells names [] → env.cells.lookup x = some a ∧ (x, NameKind.free) ∈ names := fun x a h => by
    rcases clGo_mem h with h | ⟨h1, h2⟩
    · cases h
    · obtain ⟨b, hb⟩ := hf x h1
      rw [hb] at h2
      exact ⟨by rw [hb, h2]; rfl, h1⟩
  have nd1 : ((clGo env.cells names []).map (·.1)).Nodup := clGo_nodup hn .nil fun _ h => nomatch h
  have nd2 : ((clGo env.cells names []).map (·.2)).Nodup := map_nodup_of nd1 fun x y a hx hy => lookup_inj nd (mem _ _ hx).1 (mem _ _ hy).1
  refine ⟨mem, fun x hx => ?_, ?_⟩
  · obtain ⟨a, ha⟩ := hf x hx
    have := (clGo_has (cells := env.cells) (names := names) (acc := []) (x := x)).1 hx
    rw [ha] at this
    exact ⟨a, lookup_of_mem nd1 this, ha⟩
  · refine (List.perm_ext_iff_of_nodup nd (List.nodup_append.mpr ⟨nd2, nd.filter _, fun a ha b hb e => ?_⟩)).mpr fun a => ?_
    · have := (List.mem_filter.mp hb).2
      rw [← e] at this
      exact (of_decide_eq_true this) ha
    · constructor
      · intro h
        by_cases q : a ∈ (clGo env.cells names []).map (·.2)
        · exact List.mem_append_left _ q
        · exact List.mem_append_right _ (List.mem_filter.mpr ⟨h, decide_eq_true q⟩)
      · intro h
        rcases List.mem_append.mp h with h | h
        · obtain ⟨⟨x, b⟩, hb, e⟩ := List.mem_map.mp h
          simp only at e
          subst e
          exact mem_lookup (mem _ _ hb).1
        · exact (List.mem_filter.mp h).1

noncomputable abbrev fC (f : Fm) (scope : Scope) (cl : List (Str × Addr)) (C : Addr) : Fm := ⟨compEnvC scope cl C f.env, f.A⟩

theorem perm_switch {names : List (Str × NameKind)} {cl : List (Str × Addr)} {scope : Scope} {C : Addr} {oC : Obj} {h : Heap} (ok : ClOk f.env names cl) :
    (muts (fC f scope cl C) (outP h f.env cl ++ P) g).Perm (muts f ((C, oC) :: P) g) := by
  have e1 : muts (fC f scope cl C) (outP h f.env cl ++ P) g = (outA f.env cl ++ P.map (·.1)) ++ (lv g.own ++ (lv g.out ++ (C :: cl.map (·.2)))) := by
    unfold muts
    rw [List.map_append, outP_fst]
    rfl
  have e2 : muts f ((C, oC) :: P) g = C :: (P.map (·.1) ++ (lv g.own ++ (lv g.out ++ (f.env.locals :: f.env.cells.map (·.2))))) := rfl
  rw [e1, e2, List.perm_iff_count]
  intro a
  have := ok.perm.count_eq a
  unfold outA
  simp only [List.count_append, List.count_cons, List.cons_append] at this ⊢
  (first | lia | omega)
end
end Mine

set_option maxRecDepth 100000
namespace Mine
open PySem PySem.W PySem.Calls PyProof.Rows PySem.Spec
open PySem.W.Fast (sEq sEq_iff)

section
variable {c : Cx} {K : Frag} {f : Fm} {P P' PI PI' : Prt} {m m' : Mp} {g g' : G} {ds ds' es : List V} {vs vs' ws : List Value} {s s' : Shared} {n N : Nat} {r : Rc} {sx : SX}

theorem compMp_mem : ∀ {names : List (Str × NameKind)} {x : Str} {b : Bool} {ov : Option V}, (x, b, ov) ∈ compMp m names → (b = false ∧ (x, NameKind.local) ∈ names ∧ ov = none) ∨ (b = true ∧ (x, NameKind.free) ∈ names ∧ ov = (slook x m).bind (·.2))
  | [], _, _, _, h => by cases h
  | (n, k) :: r, x, b, ov, h => by
    unfold compMp at h
    have tl : ∀ {x b ov}, (x, b, ov) ∈ compMp m r → (b = false ∧ (x, NameKind.local) ∈ (n, k) :: r ∧ ov = none) ∨ (b = true ∧ (x, NameKind.free) ∈ (n, k) :: r ∧ ov = (slook x m).bind (·.2)) := fun {x b ov} h => by
      rcases compMp_mem h with ⟨a, b, c⟩ | ⟨a, b, c⟩
      · exact .inl ⟨a, .tail _ b, c⟩
      · exact .inr ⟨a, .tail _ b, c⟩
    cases k <;> first
      | exact tl h
      | (rcases List.mem_cons.mp h with h | h
         · cases h; first | exact .inl ⟨rfl, .head _, rfl⟩ | exact .inr ⟨rfl, .head _, rfl⟩
         · exact tl h)
theorem compSc_eq {scope : Scope} {env : Env} (hf : env.scope.kind = .function) (h : ∀ x, (x, NameKind.free) ∈ scope.names → env.kindOf x = some .cell) : (relabel scope env).names = compSc scope.names := by
  unfold relabel compSc
  refine List.map_congr_left fun p hp => ?_
  obtain ⟨x, k⟩ := p
  dsimp only
  cases k <;> first
    | (rw [hf, h x hp]; rfl)
    | rfl
theorem compSc_fst (names : List (Str × NameKind)) : (compSc names).map (·.1) = names.map (·.1) := by
  unfold compSc
  rw [List.map_map]
  refine List.map_congr_left fun p _ => ?_
  obtain ⟨x, k⟩ := p
  cases k <;> rfl
noncomputable def kMap : NameKind → NameKind
  | .free => .cell
  | k => k
theorem compSc_mem {names : List (Str × NameKind)} {x : Str} {k : NameKind} (h : (x, k) ∈ names) : (x, kMap k) ∈ compSc names := by
  unfold compSc
  refine List.mem_map.mpr ⟨_, h, ?_⟩
  cases k <;> rfl

theorem Sat.cellsNd (S : Sat c f P m g ds vs s) : (f.env.cells.map (·.2)).Nodup := by
  have n2 := (List.nodup_append.mp S.nodup).2.1
  have n3 := (List.nodup_append.mp n2).2.1
  exact (List.nodup_cons.mp (List.nodup_append.mp n3).2.1).2
theorem ScOk.cells (ok : ScOk m scope_names) (S : Sat c f P m g ds vs s) : ∀ x, (x, NameKind.free) ∈ scope_names → f.env.kindOf x = some .cell ∧ ∃ a, f.env.cells.lookup x = some a := fun x hx => by
  obtain ⟨ov, h1, h2⟩ := ok.free x hx
  obtain ⟨k1, cc, ou, k2, -⟩ := S.frame.cells _ _ h1
  exact ⟨k1, cc, k2⟩

theorem outA_muts {cl : List (Str × Addr)} {a : Addr} (h : a ∈ outA f.env cl) : a ∈ muts f P g := by
  rcases List.mem_cons.mp h with rfl | h
  · exact mem_muts_L
  · exact List.mem_append_right _ (List.mem_append_right _ (List.mem_append_right _ (.tail _ (List.mem_filter.mp h).1)))

/-- into a comprehension's frame -/
theorem comp_in {scope : Scope} {C : Addr} {oC : Obj} {h' : Heap} {tk : Tok} {mm : Str → Option Value} {uv : List Value} (S : Sat c f P m g ds vs s) (hk : scope.kind = .function) (ok : ScOk m scope.names)
    (hr : Reps c.w.params (fz s.heap (muts f P g)) uv (mv m)) (old : ∀ x o', s.heap.get? x = some o' → h'.get? x = some o') (hC : s.heap.get? C = none) (hC' : h'.get? C = some oC) (hN : h'.Ns C (fun _ => none)) :
    Sat c (fC f scope (clGo f.env.cells scope.names []) C) (outP s.heap f.env (clGo f.env.cells scope.names []) ++ P) (compMp m scope.names) g (mv m ++ ds) (uv ++ vs) { s with heap := h', toks := tk } := by
  have hcl := clOk S.cellsNd ok.nodup fun x hx => (ok.cells S x hx).2
  have pm : ∀ b, b ∈ muts (fC f scope (clGo f.env.cells scope.names []) C) (outP s.heap f.env (clGo f.env.cells scope.names []) ++ P) g ↔ b = C ∨ b ∈ muts f P g := fun b => by
    rw [(perm_switch (oC := oC) hcl).mem_iff]
    show b ∈ muts f ([(C, oC)] ++ P) g ↔ _
    rw [muts_app]
    simp
  have fr : C ∉ muts f P g := fun q => by obtain ⟨o, e⟩ := S.live C q; rw [hC] at e; cases e
  refine S.change (fun b o n e q => ?_) (fun b o n e => old _ _ e) (fun p hp => ?_) (fun z p hp => (S.own p hp).move z fun o e => old _ _ e) (fun z p hp => (S.out p hp).move z fun o e => old _ _ e) (fun z => ?_) ?_ (fun a ha => ?_)
    (fun z rr => (hr.keeps z).app (rr.keeps z))
  · rcases (pm b).mp q with rfl | q
    · rw [hC] at e; cases e
    · exact n q
  · rcases List.mem_append.mp hp with q | q
    · obtain ⟨a, ha, rfl⟩ := List.mem_map.mp q
      obtain ⟨o, e⟩ := S.live a (outA_muts ha)
      show h'.get? a = some ((s.heap.get? a).getD _)
      rw [e]
      exact old _ _ e
    · exact old _ _ (S.prot p q)
  · have hsc : (compEnvC scope (clGo f.env.cells scope.names []) C f.env).scope.names = compSc scope.names := compSc_eq S.frame.fn fun x hx => (ok.cells S x hx).1
    have kd : ∀ {x k}, (x, k) ∈ scope.names → (compEnvC scope (clGo f.env.cells scope.names []) C f.env).kindOf x = some (kMap k) := fun {x k} hx => by
      unfold Env.kindOf
      rw [hsc]
      exact lookup_of_mem (by rw [compSc_fst]; exact ok.nodup) (compSc_mem hx)
    refine ⟨by simp [compEnvC, relabel, hk], S.frame.glob, S.frame.blt, ⟨_, hN, fun x ov hm => ?_⟩, fun x ov hm => ?_⟩
    · rcases compMp_mem hm with ⟨-, h2, rfl⟩ | ⟨h1, -⟩
      · exact ⟨kd h2, fun d hd => nomatch hd⟩
      · cases h1
    · rcases compMp_mem hm with ⟨h1, -⟩ | ⟨-, h2, h3⟩
      · cases h1
      · obtain ⟨ov0, k1, k2⟩ := ok.free x h2
        rw [k2] at h3
        have : ov = ov0 := h3
        subst this
        obtain ⟨cc, ou, q1, q2, q3⟩ := (S.frame.cells _ _ k1).2
        obtain ⟨a, e1, e2⟩ := hcl.has x h2
        rw [q1] at e2
        cases e2
        obtain ⟨o, e, hd⟩ := q2
        exact ⟨kd h2, cc, ou, e1, ⟨o, old _ _ e, hd⟩, fun d hd => let ⟨u, a, b⟩ := q3 d hd; ⟨u, a, b.keeps z⟩⟩
  · exact (perm_switch (oC := oC) hcl).nodup_iff.mpr (by
      show (muts f ([(C, oC)] ++ P) g).Nodup
      rw [muts_app]
      exact List.nodup_cons.mpr ⟨fr, S.nodup⟩)
  · rcases (pm a).mp ha with rfl | q
    · exact ⟨_, hC'⟩
    · obtain ⟨o, e⟩ := S.live a q; exact ⟨o, old _ _ e⟩

/-- out of it -/
theorem comp_out {scope : Scope} {C : Addr} {cl : List (Str × Addr)} {h₀ : Heap} {Pr : Params} {z₀ : Heap} {mm : Str → Option Value} {uv : List Value} (hcl : ClOk f.env scope.names cl) (hu : UsFor h₀ f.env mm m uv) (hns : h₀.Ns f.env.locals mm)
    (F0 : FrIs Pr z₀ h₀ f.env m) (hlive : ∀ a ∈ outA f.env cl, ∃ o, h₀.get? a = some o) (ndc : (f.env.cells.map (·.2)).Nodup)
    (S : Sat c (fC f scope cl C) (outP h₀ f.env cl ++ P) m' g (mv m ++ ds) (uv ++ vs) s) (keep : ∀ x ov, (x, NameKind.free) ∈ scope.names → (x, true, ov) ∈ m → (x, true, ov) ∈ m') :
    ∃ oC mC, s.heap.get? C = some oC ∧ s.heap.Ns C mC ∧ Sat c f ((C, oC) :: P) m g ds vs s := by
  obtain ⟨mC, nC, -⟩ := S.frame.ns
  obtain ⟨oC, eC⟩ := S.live C mem_muts_L
  have pm := perm_switch (P := P) (g := g) (scope := scope) (C := C) (oC := oC) (h := h₀) hcl
  refine ⟨oC, mC, eC, nC, ?_⟩
  have S' : Sat c f ((C, oC) :: P) m g ds vs { s with heap := s.heap, toks := s.toks } := by
    refine S.change (fun b o n e q => n (pm.mem_iff.mpr q)) (fun b o n e => e) (fun p hp => ?_) (fun z p hp => (S.own p hp).move z fun o e => e) (fun z p hp => (S.out p hp).move z fun o e => e) (fun z => ?_) (pm.nodup_iff.mp S.nodup)
      (fun a ha => S.live a (pm.mem_iff.mpr ha)) (fun z rr => ((Reps.split (us_len hu) rr).2).keeps z)
    · rcases List.mem_cons.mp hp with rfl | hp
      · exact eC
      · exact S.prot p (List.mem_append_right _ hp)
    · have rm := (Reps.split (us_len hu) S.stack).1.keeps z
      have out : ∀ a ∈ outA f.env cl, ∀ o, h₀.get? a = some o → s.heap.get? a = some o := fun a ha o e => by
        have := S.prot (a, (h₀.get? a).getD (plainL #[] 0)) (List.mem_append_left _ (List.mem_map.mpr ⟨a, ha, rfl⟩))
        rw [e] at this
        exact this
      refine ⟨F0.fn, F0.glob, F0.blt, ⟨mm, hns.at' fun o e => out _ (.head _) o e, fun x ov hm => ⟨F0.flag hm, fun d hd => ?_⟩⟩, fun x ov hm => ⟨F0.flag hm, ?_⟩⟩
      · subst hd
        obtain ⟨u, e, hr⟩ := us_get hu rm hm
        exact ⟨u, e.1 rfl, hr⟩
      · obtain ⟨cc, ou, q1, q2, -⟩ := (F0.cells _ _ hm).2
        by_cases hin : cc ∈ cl.map (·.2)
        · obtain ⟨⟨y, b⟩, hb, e⟩ := List.mem_map.mp hin
          simp only at e
          subst e
          obtain ⟨k1, k2⟩ := hcl.mem _ _ hb
          have : y = x := lookup_inj ndc k1 q1
          subst this
          obtain ⟨-, cc', ou', e1, e2, e3⟩ := S.frame.cells _ _ (keep y ov k2 hm)
          obtain ⟨a', e4, e5⟩ := hcl.has y k2
          have e1' : cl.lookup y = some cc' := e1
          rw [e4] at e1'
          rw [q1] at e5
          cases e1'
          cases e5
          exact ⟨_, ou', q1, e2, fun d hd => let ⟨u, a, b⟩ := e3 d hd; ⟨u, a, b.keeps z⟩⟩
        · have ho : cc ∈ outA f.env cl := .tail _ (List.mem_filter.mpr ⟨mem_lookup q1, decide_eq_true hin⟩)
          obtain ⟨o, e, hd⟩ := q2
          refine ⟨cc, ou, q1, ⟨o, out _ ho o e, hd⟩, fun d hd' => ?_⟩
          subst hd'
          obtain ⟨u, e', hr⟩ := us_get hu rm hm
          obtain ⟨cc', k1, o', k2, k3⟩ := e'.2 rfl
          rw [q1] at k1
          cases k1
          rw [e] at k2
          cases k2
          rw [hd] at k3
          cases k3
          exact ⟨u, rfl, hr⟩
  exact S'
end
end Mine

set_option maxRecDepth 100000
namespace Mine
open PySem PySem.W PySem.Calls PyProof.Rows PySem.Spec
open PySem.W.Fast (sEq sEq_iff)

section
variable {c : Cx} {K : Frag} {f : Fm} {P P' PI PI' : Prt} {m m' : Mp} {g g' : G} {ds ds' es : List V} {vs vs' ws : List Value} {s s' : Shared} {n N : Nat} {r : Rc} {sx : SX}

theorem compLoop_any {prog : Program} {w : World} {A : Around} {R : Result → Shared → Prop} {elt iter t : Expr} {ifs : List Expr} {scope : Scope} {pos : Pos} {it acc : Value} {env : Env} (I : Nat → Shared → Prop)
    (turn : ∀ n s, I n s → wpAny (model prog w) A (pyNext it) (fun r s₁ => match r with
      | none => R (.ok .next) s₁
      | some v => wpAny (model prog w) A (letOwnedTupleGo t it v) (fun _ s₁' => wpAny (model prog w) A (assign t env v) (fun _ s₂ =>
          wpAny (model prog w) A (forIn ifs true fun c r => if r = true then do let ok ← isTrue c env (eval c env); pure (ForInStep.yield ok) else pure (ForInStep.yield r)) (fun ok s₃ =>
            if ok = true then wpAny (model prog w) A (eval elt env) (fun x s₄ =>
              wpAny (model prog w) A (call (.builtin "list.append") [acc, x]) (fun _ s₅ => ∃ m, m < n ∧ I m s₅) no s₄) no s₃
            else ∃ m, m < n ∧ I m s₃) no s₂) no s₁') no s₁) no s)
    (n : Nat) (h : I n s) : codeAny (model prog w) A (.compLoop (.ListComp elt [⟨t, iter, ifs, 0⟩] scope pos) 0 it acc env) R s := by
  refine codeAny_loop rfl I (fun n s hI => ?_) n h
  show wpAny _ A ((compTurn (.ListComp elt [⟨t, iter, ifs, 0⟩] scope pos) 0 it acc env).onRaise (fun x => do noteFrame x env; theTreesLotGoes x)) _ _ s
  refine wpAny_noted ?_
  rw [compTurn_list]
  refine wpAny_bind (wpAny_standAt (wpAny_bind (wpAny_mono (turn n s hI) (fun r s₁ h₁ => ?_) no_imp)))
  cases r with
  | none => exact wpAny_pure h₁
  | some v =>
    refine wpAny_bind (wpAny_mono h₁ (fun _ s₁' h₁' => ?_) no_imp)
    refine wpAny_bind (wpAny_mono h₁' (fun _ s₂ h₂ => wpAny_bind (wpAny_mono h₂ (fun ok s₃ h₃ => ?_) no_imp)) no_imp)
    cases ok with
    | false => exact wpAny_pure ⟨rfl, h₃⟩
    | true =>
      exact wpAny_bind (wpAny_bind (wpAny_mono h₃ (fun x s₄ h₄ => wpAny_bind (wpAny_mono h₄ (fun _ s₅ h₅ => wpAny_pure (wpAny_pure ⟨rfl, h₅⟩)) no_imp)) no_imp))

/-- what a target's store leaves -/
noncomputable def Kp (names : List Str) (m m' : Mp) : Prop := ∀ z b ov, (z, b, ov) ∈ m → ∃ ov', (z, b, ov') ∈ m' ∧ (z ∉ names → ov' = ov)
theorem Kp.mset {x : Str} {d : V} {names : List Str} (hx : x ∈ names) {m : Mp} : Kp names m (mset x d m) := fun z b ov hm => by
  by_cases q : z = x
  · subst q
    refine ⟨some d, List.mem_map.mpr ⟨_, hm, ?_⟩, fun h => absurd hx h⟩
    simp
  · refine ⟨ov, List.mem_map.mpr ⟨_, hm, ?_⟩, fun _ => rfl⟩
    simp [q]
theorem Kp.trans {names : List Str} {m m' m'' : Mp} (a : Kp names m m') (b : Kp names m' m'') : Kp names m m'' := fun z b' ov hm => by
  obtain ⟨o1, h1, e1⟩ := a z b' ov hm
  obtain ⟨o2, h2, e2⟩ := b z b' o1 h1
  exact ⟨o2, h2, fun h => (e2 h).trans (e1 h)⟩
theorem vStore_keep {x : Str} {d : V} {names : List Str} (hx : x ∈ names) {k : Mp → Prop} (h : vStore x d m k) : vStore x d m (fun m' => Kp names m m' ∧ k m') := by
  obtain ⟨p, hp, h⟩ := oB_inv h
  unfold vStore
  rw [hp]
  exact ⟨by rw [msetN_eq]; exact Kp.mset hx, h⟩
theorem vStore_mono {x : Str} {d : V} {k k' : Mp → Prop} (h : vStore x d m k) (e : ∀ m', k m' → k' m') : vStore x d m k' := by
  obtain ⟨p, hp, h⟩ := oB_inv h
  unfold vStore
  rw [hp]
  exact e _ h
theorem vTarget_keep {names : List Str} {y : PyData} {k : Mp → Prop} (h : vTarget names y m k) : vTarget names y m (fun m' => Kp names m m' ∧ k m') := by
  unfold vTarget at h ⊢
  split at h
  · exact vStore_keep (.head _) h
  · split at h
    · split at h
      · refine vStore_mono (vStore_keep (.head _) h) fun m' q => vStore_mono (vStore_keep (.tail _ (.head _)) q.2) fun m'' q' => ⟨q.1.trans q'.1, q'.2⟩
      · cases h
    · cases h
  · cases h

theorem Sat.weaken (S : Sat c f P m' g ds vs s) (h : ∀ z b ov, (z, b, ov) ∈ m → ∃ ov', (z, b, ov') ∈ m' ∧ (ov = ov' ∨ ov = none)) : Sat c f P m g ds vs s := by
  refine { S with frame := ⟨S.frame.fn, S.frame.glob, S.frame.blt, ?_, fun x ov hm => ?_⟩ }
  · obtain ⟨mm, hn, hl⟩ := S.frame.ns
    refine ⟨mm, hn, fun x ov hm => ?_⟩
    obtain ⟨ov', h1, h2⟩ := h x false ov hm
    refine ⟨(hl x ov' h1).1, fun d hd => (hl x ov' h1).2 d ?_⟩
    rcases h2 with rfl | rfl
    · exact hd
    · cases hd
  · obtain ⟨ov', h1, h2⟩ := h x true ov hm
    obtain ⟨k1, cc, ou, q1, q2, q3⟩ := S.frame.cells x ov' h1
    refine ⟨k1, cc, ou, q1, q2, fun d hd => q3 d ?_⟩
    rcases h2 with rfl | rfl
    · exact hd
    · cases hd
theorem Sat.permP (S : Sat c f P m g ds vs s) (h : P.Perm P') : Sat c f P' m g ds vs s := by
  have pm : (muts f P g).Perm (muts f P' g) := (h.map _).append_right _
  have S' : Sat c f P' m g ds vs { s with heap := s.heap, toks := s.toks } :=
    S.change (fun b o n e q => n (pm.mem_iff.mpr q)) (fun b o n e => e) (fun p hp => S.prot p (h.mem_iff.mpr hp)) (fun z p hp => (S.own p hp).move z fun o e => e) (fun z p hp => (S.out p hp).move z fun o e => e)
      (fun z => S.frame.move z (fun o e => e) fun _ _ o _ e => e) (pm.nodup_iff.mp S.nodup) (fun a ha => S.live a (pm.mem_iff.mpr ha)) (fun z rr => rr.keeps z)
  exact S'

theorem reps_d {Pr : Params} {z : Heap} : ∀ {us : List Value} {acc : List PyData}, Reps Pr z us (acc.map V.d) ↔ RdAll z us acc
  | [], [] => ⟨fun _ => .nil, fun _ => .nil⟩
  | [], _ :: _ => ⟨fun h => (nomatch h), fun h => by have := h.length; cases this⟩
  | _ :: _, [] => ⟨fun h => (nomatch h), fun h => by have := h.length; cases this⟩
  | u :: us, a :: acc => ⟨fun h => by cases h with | cons x h => exact .cons x (reps_d.mp h), fun h => .cons h.inv.1 (reps_d.mpr h.inv.2)⟩

/-- a comprehension's tests -/
theorem ok_vIfs (O : RcOk c N r n) (C : Scp c N sx f) (R : Room f.A (N + n)) {ifs : List Expr} {k : Bool → G → Prop} (h : vIfs r sx m ifs g k) (S : Sat c f P m g ds vs s) :
    wpAny (mdl c) f.A (forIn ifs true fun c r => if r = true then do let ok ← isTrue c f.env (eval c f.env); pure (ForInStep.yield ok) else pure (ForInStep.yield r)) (GivesT c f P m ds vs k) no s := by
  match ifs, h with
  | [], h => exact wpAny_tests_nil ⟨g, S, h⟩
  | [e], h => exact wpAny_tests_one (O.T C R h P ds vs s S)
end
end Mine

set_option maxRecDepth 100000
namespace Mine
open PySem PySem.W PySem.Calls PyProof.Rows PySem.Spec
open PySem.W.Fast (sEq sEq_iff)

section
variable {c : Cx} {K : Frag} {f : Fm} {P P' PI PI' : Prt} {m m' : Mp} {g g' : G} {ds ds' es : List V} {vs vs' ws : List Value} {s s' : Shared} {n N : Nat} {r : Rc} {sx : SX}

theorem isLoc_inv {sc : List (Str × NameKind)} {x : Str} (h : isLoc sc x = true) : (x, NameKind.local) ∈ sc := by
  unfold isLoc at h
  split at h
  · rename_i e; exact slook_mem e
  · cases h
theorem eq_of_nodup {α : Type} {l : List (Str × α)} (h : (l.map (·.1)).Nodup) {x : Str} {a b : α} (ha : (x, a) ∈ l) (hb : (x, b) ∈ l) : a = b := by
  have h1 := lookup_of_mem h ha
  rw [lookup_of_mem h hb] at h1
  exact (Option.some.inj h1).symm

theorem compMp_has {x : Str} {ov : Option V} (h2 : slook x m = some (true, ov)) : ∀ {nm : List (Str × NameKind)}, (x, NameKind.free) ∈ nm → (x, true, ov) ∈ compMp m nm
  | [], h => by cases h
  | (y, k) :: r, h => by
    unfold compMp
    rcases List.mem_cons.mp h with q | q
    · cases q
      dsimp only
      rw [h2]
      exact .head _
    · have ih := compMp_has h2 q
      cases k <;> first | exact .tail _ ih | exact ih

theorem perm_x {α : Type} {a b c : List α} {d : α} : (a ++ (d :: (b ++ c))).Perm (b ++ (d :: (a ++ c))) := by
  refine List.Perm.trans List.perm_middle (List.Perm.trans (List.Perm.cons _ ?_) List.perm_middle.symm)
  rw [← List.append_assoc, ← List.append_assoc]
  exact List.Perm.append_right _ List.perm_append_comm

/-- the state at the head of a comprehension's turn -/
inductive CompInv (c : Cx) (f' : Fm) (J : CInv) (xs : List PyData) (St : Nat → Prt → Prop) (D : Addr) (P : Prt) (m : Mp) (es ds : List V) (ws vs : List Value) (n : Nat) (s : Shared) : Prop
  | mk (i : Nat) (acc : List PyData) (us : List Value) (k : Nat) (PI : Prt) (a : J.α) (e : n = xs.length + 1 - i) (hi : i ≤ xs.length) (hI : J.I a acc (xs.drop i)) (hSt : St i PI) (hu : us.length = acc.length) (ha : acc.length ≤ i)
    (S : Sat c f' (PI ++ ((D, plainL us.toArray k) :: P)) m (J.st a) (es ++ (acc.map V.d ++ ds)) (ws ++ (us ++ vs)) s) : CompInv c f' J xs St D P m es ds ws vs n s

theorem ok_comp (W : Wd c K) (O : RcOk c N r n) (C : Scp c N sx f) (R : Room f.A (N + n)) {elt t iter : Expr} {ifs : List Expr} {scope : Scope} {pos p : Pos} {names : List Str} {line : Nat} {Q : List PyData → G → Prop} {use : Option (Value → Sem Unit)} {QQ : Value → Shared → Prop}
    (hk : compOk m scope = true) (hT : targetNames t = some names) (h : vComp r sx m elt t names iter ifs scope.names line g Q) (S : Sat c f P m g ds vs s)
    (fin : ∀ D C' oC mC us k acc g' s', s'.heap.get? C' = some oC → s'.heap.Ns C' mC → Sat c f ((C', oC) :: (D, plainL us.toArray k) :: P) m g' (acc.map V.d ++ ds) (us ++ vs) s' → us.length = acc.length → Q acc g' → compPost (mdl c) f.A no use QQ (.ref D) C' (.ok .next) s') :
    wpAny (mdl c) f.A (comprehension (.ListComp elt [⟨t, iter, ifs, 0⟩] scope pos) scope f.env p (newList []) false (eval iter f.env) use) QQ no s := by
  unfold compOk at hk
  obtain ⟨hk12, hndm⟩ := Bool.and_eq_true_iff.mp hk
  obtain ⟨hk1, hk2⟩ := Bool.and_eq_true_iff.mp hk12
  have hfn : scope.kind = .function := by cases q : scope.kind <;> rw [q] at hk1 <;> first | rfl | cases hk1
  have ok := scOk_inv hk2
  obtain ⟨hloc, h⟩ := bB_inv h
  obtain ⟨hit, hfold⟩ := ok_vIter W O C R h S
  have hclos := clos_eq (scope := scope) (env := f.env) fun x hx => (ok.cells S x hx).2
  have hnames : ∀ x ∈ scope.names, x.2 = .local → scope.names.lookup x.1 = some .local := fun x hx e => lookup_of_mem ok.nodup (by rw [← e]; exact hx)
  have hcell : ∀ y ∈ scope.names, y.2 ≠ .cell := fun y hy e => by rcases ok.kinds y hy with q | q | q <;> rw [e] at q <;> cases q
  refine wpAny_comprehension_free rfl hfold hclos hfn hnames (wpAny_mono hit (fun x s₁ h₁ => wpAny_mono h₁ (fun it s₂ h₂ => ?_) no_imp) no_imp)
  obtain ⟨I, xs, still, g₂, es, ws, PI, St, rfl, hl, q, It, hSt, hx, S₂⟩ := h₂
  refine wpAny_newObj_type (wpAny_newFunctionEnv hcell (by intro y hy; simp at hy) (fun h₁ hns₁ hsb₁ => ?_) hfn)
  dsimp only at hns₁ hsb₁ ⊢
  have S₃ := S₂.protect (tk := s₂.toks) (a := s₂.heap.objs.size) (o := plainL #[] 0) get_none (fun x o' e => Heap.get?_push_of_some _ e) (Heap.get?_push_size _ rfl)
  have cells₃ := ok.cells S₃
  refine hide fun X kk => ?_
  obtain ⟨mm, hnsL, -⟩ := id S₃.frame.ns
  obtain ⟨uv, hu, hur⟩ := us_of (Pr := c.w.params) (z := fz (s₂.heap.push (plainL #[] 0)) (muts f ((s₂.heap.objs.size, plainL #[] 0) :: (PI ++ P)) g₂)) (h := s₂.heap.push (plainL #[] 0)) (env := f.env) (mm := mm) (m := m) (fun x ov hm d hd => by
      obtain ⟨mm', h1, h2⟩ := S₃.frame.ns
      rw [← ns_unique hnsL h1] at h2
      exact (h2 x ov hm).2 d hd) (fun x ov hm => (S₃.frame.cells x ov hm).2)
  have hns₁' : h₁.Ns (s₂.heap.push (plainL #[] 0)).objs.size (fun _ => none) := by simpa using hns₁
  obtain ⟨oC, -, -, hC', -⟩ := id hns₁'
  have hnew : ∀ x o', (s₂.heap.push (plainL #[] 0)).get? x = some o' → h₁.get? x = some o' := fun x o' e =>
    hsb₁.extBut x o' (Nat.ne_of_lt (Heap.lt_size e)) (Heap.get?_push_of_some _ e)
  have SC := comp_in (C := (s₂.heap.push (plainL #[] 0)).objs.size) (oC := oC) (h' := h₁) (tk := s₂.toks + ([] : List (Str × Value)).length) (mm := mm) S₃ hfn ok hur hnew get_none hC' hns₁'
  have hcl := clOk S₃.cellsNd ok.nodup fun x hx => (cells₃ x hx).2
  obtain ⟨p₀, a₀, ha₀, hI₀, turn, done⟩ := q
  refine kk ?_
  clear kk
  generalize hCl : clGo f.env.cells scope.names [] = cl at SC hcl ⊢
  generalize hCa : (s₂.heap.push (plainL #[] 0)).objs.size = Ca at SC hns₁ hsb₁ ⊢
  generalize hD : s₂.heap.objs.size = D at SC S₃ ⊢
  have F0 := S₃.frame
  have hlive : ∀ a ∈ outA f.env cl, ∃ o, (s₂.heap.push (plainL #[] 0)).get? a = some o := fun a ha => S₃.live a (outA_muts ha)
  have ndc := S₃.cellsNd
  generalize hH : s₂.heap.push (plainL #[] 0) = H₂ at SC F0 hlive hu hnsL hsb₁ hns₁ ⊢
  dsimp only at SC F0 hlive hu hnsL
  clear hnew hC' hns₁'
  have kp : ∀ {m₁ : Mp}, Kp names (compMp m scope.names) m₁ → ∀ z b ov, (z, b, ov) ∈ compMp m scope.names → ∃ ov', (z, b, ov') ∈ m₁ ∧ (ov = ov' ∨ ov = none) := fun {m₁} hkp z b ov hm => by
    obtain ⟨ov', h1, h2⟩ := hkp z b ov hm
    refine ⟨ov', h1, ?_⟩
    by_cases q : z ∈ names
    · rcases compMp_mem hm with ⟨-, -, h3⟩ | ⟨-, h3, -⟩
      · exact .inr h3
      · have := eq_of_nodup ok.nodup h3 (isLoc_inv (List.all_eq_true.mp hloc z q))
        cases this
    · exact .inl (h2 q).symm
  -- the frame of the comprehension
  have C' : Scp c N { sx with sc := compSc scope.names } (fC f scope cl Ca) := ⟨C.sp, fun x k hx => by
    show (relabel scope f.env).names.lookup x = some k
    rw [compSc_eq F0.fn fun x hx => (cells₃ x hx).1, ← slook_eq]
    exact hx⟩
  have R' : Room (fC f scope cl Ca).A (N + n) := R
  have loop : ∀ s₄, s₄ = { s₂ with heap := h₁, toks := s₂.toks + ([] : List (Str × Value)).length } → codeAny (mdl c) f.A (.compLoop (.ListComp elt [⟨t, iter, ifs, 0⟩] scope pos) 0 (.ref I) (.ref D) (compEnvC scope cl Ca f.env)) (compPost (mdl c) f.A no use QQ (.ref D) Ca) s₄ := by
    rintro s₄ rfl
    refine compLoop_any (CompInv c (fC f scope cl Ca) ((sx.cinv line).J p₀) xs St D (outP H₂ f.env cl ++ P) (compMp m scope.names) es (mv m ++ ds) ws (uv ++ vs)) ?_ (xs.length + 1)
      ⟨0, [], [], 0, PI, a₀, rfl, Nat.zero_le _, hI₀, hSt, rfl, Nat.le_refl _, ?_⟩
    · rintro n' s' ⟨i, acc, us, k, PI', a, rfl, hi, hJ, hSt', hlen, hai, S'⟩
      cases hy : xs[i]? with
      | none =>
        have hle : xs.length ≤ i := List.getElem?_eq_none_iff.mp hy
        have hd : xs.drop i = [] := List.drop_eq_nil_of_le hle
        rw [hd] at hJ
        obtain ⟨st, hQ⟩ := done a acc hJ
        refine wpAny_mono ((It i (fC f scope cl Ca) _ _ _ _ _ _ _ rfl hSt' S' st).2.1 hy) (fun r s₁ q => ?_) no_imp
        obtain ⟨rfl, S₁⟩ := q
        have S₂' := (S₁.permP (P' := outP H₂ f.env cl ++ ((D, plainL us.toArray k) :: P)) List.perm_middle.symm).restack (ds' := mv m ++ (acc.map V.d ++ ds)) (vs' := uv ++ (us ++ vs)) fun rr => by
          obtain ⟨-, r2⟩ := Reps.split hl rr
          obtain ⟨r3, r4⟩ := Reps.split (by simpa using hlen) r2
          obtain ⟨r5, r6⟩ := Reps.split (us_len hu) r4
          exact r5.app (r3.app r6)
        obtain ⟨oC', mC, e1, e2, S₃'⟩ := comp_out (cl := cl) hcl hu hnsL F0 hlive ndc S₂' fun x ov hfx hm => by
          obtain ⟨ov1, h1, h2⟩ := ok.free x hfx
          obtain ⟨-, rfl⟩ := nodupM_inv hndm h1 hm
          exact compMp_has h2 hfx
        exact fin D Ca oC' mC us k acc _ s₁ e1 e2 S₃' hlen hQ
      | some y =>
        have hlt : i < xs.length := by
          rw [List.getElem?_eq_some_iff] at hy
          exact hy.1
        have hd : xs.drop i = y :: xs.drop (i + 1) := by
          rw [List.getElem?_eq_some_iff] at hy
          rw [← hy.2]
          exact List.drop_eq_getElem_cons hlt
        rw [hd] at hJ
        obtain ⟨st, hv⟩ := turn a acc y _ hJ
        refine wpAny_mono ((It i (fC f scope cl Ca) _ _ _ _ _ _ _ rfl hSt' S' st).1 y hy) (fun r s₁ q => ?_) no_imp
        obtain ⟨v, rfl, q⟩ := q
        refine wpAny_mono q (fun _ s₂' q => ?_) no_imp
        obtain ⟨PI'', hSt'', S₁⟩ := q
        refine wpAny_mono (op_target R' hT S₁ (vTarget_keep hv)) (fun _ s₃' q => ?_) no_imp
        obtain ⟨m₁, S₂', hkp, q⟩ := q
        refine wpAny_mono (ok_vIfs O C' R' q S₂') (fun b s₄' q => ?_) no_imp
        obtain ⟨g₁, S₃', q⟩ := q
        cases b with
        | false =>
          rw [if_neg Bool.false_ne_true]
          obtain ⟨a', rfl, hJ'⟩ := q
          exact ⟨_, Nat.sub_lt_sub_left (Nat.lt_succ_of_lt hlt) (Nat.lt_succ_self i), i + 1, acc, us, k, PI'', a', rfl, hlt, hJ', hSt'', hlen, by (first | lia | omega), S₃'.weaken (kp hkp)⟩
        | true =>
          rw [if_pos rfl]
          refine wpAny_mono (O.E C' R' (q) _ _ _ _ S₃') (fun x s₅' q => ?_) no_imp
          obtain ⟨d, g₂', S₄', q⟩ := q
          cases d with
          | d z =>
            obtain ⟨a', rfl, hJ'⟩ := q
            have S₅ := S₄'.permP (P' := (D, plainL us.toArray k) :: (PI'' ++ (outP H₂ f.env cl ++ P))) List.perm_middle
            have e1 : s₅'.heap.get? D = some (plainL us.toArray k) := S₅.prot _ (.head _)
            refine wpAny_list_append_plain ⟨k, e1⟩ (fun h' hp hs => ?_) (sz_le (by simp; (first | lia | omega)))
            obtain ⟨k', e'⟩ := hp
            obtain ⟨S₆, zz⟩ := Sat.turnP (PI := [(D, plainL us.toArray k)]) (PI' := [(D, plainL (us ++ [x]).toArray k')]) (P := PI'' ++ (outP H₂ f.env cl ++ P)) (h' := h') (tk := s₅'.toks) S₅ rfl (fun b hb o e => (hs.2 b (fun q => hb (by simp [q]))).trans e) (fun p hp => by
              simp only [List.mem_singleton] at hp
              subst hp
              simpa using e')
            refine ⟨_, Nat.sub_lt_sub_left (Nat.lt_succ_of_lt hlt) (Nat.lt_succ_self i), i + 1, acc ++ [z], us ++ [x], k', PI'', a', rfl, hlt, hJ', hSt'', by simp [hlen], by simp; (first | lia | omega), ?_⟩
            refine ((S₆.permP (P' := PI'' ++ ((D, plainL (us ++ [x]).toArray k') :: (outP H₂ f.env cl ++ P))) (show ((D, plainL (us ++ [x]).toArray k') :: (PI'' ++ (outP H₂ f.env cl ++ P))).Perm _ from List.perm_middle.symm)).weaken (kp hkp)).restack fun rr => ?_
            cases rr with
            | cons r1 rr =>
              obtain ⟨r2, r3⟩ := Reps.split hl rr
              obtain ⟨r4, r5⟩ := Reps.split (by simpa using hlen) r3
              refine r2.app (Reps.app ?_ r5)
              exact reps_d.mpr ((reps_d.mp r4).append (.cons r1 .nil))
          | _ => cases q
    · have e := (SC.permP (P' := PI ++ ((D, plainL #[] 0) :: (outP H₂ f.env cl ++ P))) perm_x).restack (ds' := es ++ (([] : List PyData).map V.d ++ (mv m ++ ds))) (vs' := ws ++ ([] ++ (uv ++ vs))) fun rr => by
          obtain ⟨r1, r2⟩ := Reps.split (us_len hu) rr
          obtain ⟨r3, r4⟩ := Reps.split hl r2
          exact r3.app (r1.app r4)
      rw [ha₀]
      exact e
  refine codeAny_compStart_list (loop _ rfl) ?_
  have S₆ := (SC.permP (P' := PI ++ ((D, plainL #[] 0) :: (outP H₂ f.env cl ++ P))) perm_x).restack (ds' := es ++ (mv m ++ ds)) (vs' := ws ++ (uv ++ vs)) fun rr => by
          obtain ⟨r1, r2⟩ := Reps.split (us_len hu) rr
          obtain ⟨r3, r4⟩ := Reps.split hl r2
          exact r3.app (r1.app r4)
  have st0 : still g₂ := by
    cases hxs : xs with
    | nil => rw [hxs] at hI₀; have := (done a₀ [] hI₀).1; rwa [ha₀] at this
    | cons y rest => rw [hxs] at hI₀; have := (turn a₀ [] y rest hI₀).1; rwa [ha₀] at this
  exact wpAny_mono ((It 0 (fC f scope cl Ca) _ _ _ _ _ _ _ rfl hSt S₆ st0).2.2 (fun v s' => v = .ref I ∧ s' = { s₂ with heap := h₁, toks := s₂.toks + ([] : List (Str × Value)).length }) ⟨rfl, rfl⟩) (fun v s' q => by
    obtain ⟨rfl, rfl⟩ := q
    exact loop _ rfl) no_imp
end
end Mine

set_option maxRecDepth 100000
namespace Mine
open PySem PySem.W PySem.Calls PyProof.Rows PySem.Spec
open PySem.W.Fast (sEq sEq_iff)

section
variable {c : Cx} {K : Frag} {f : Fm} {P P' PI PI' : Prt} {m m' : Mp} {g g' : G} {ds ds' es : List V} {vs vs' ws : List Value} {s s' : Shared} {n N : Nat} {r : Rc} {sx : SX}

/-- a list that stood apart is the frame's own, or frozen -/
theorem give_prot {own : Bool} {D : Addr} {us : List Value} {k : Nat} {acc : List PyData} {Q : QV} (S : Sat c f ((D, plainL us.toArray k) :: P) m g (acc.map V.d ++ ds) (us ++ vs) s) (hlen : us.length = acc.length) (h : vNewList own acc g Q) : Gives c f P m ds vs Q (.ref D) s := by
  have hD := S.prot _ (.head _)
  have hl : us.length = (acc.map V.d).length := by simpa using hlen
  cases own with
  | true =>
    have S' := S.unprotect (ao := .list acc) (ds' := ds) (vs' := vs) (h' := s.heap) (tk := s.toks) rfl (Heap.SameBut.refl ..) ⟨_, hD⟩ (fun z => ⟨us.toArray, k, hD, by
      have := (reps_d.mp (Reps.split hl S.stack).1).keeps z
      simpa using this⟩) fun z hz rr => ((Reps.split hl rr).2).keeps hz
    exact ⟨_, _, S', h D⟩
  | false =>
    have nd : D ∉ muts f P g := by
      have := S.nodup
      exact (List.nodup_cons.mp (show (D :: muts f P g).Nodup from this)).1
    have S₁ : Sat c f P m g (acc.map V.d ++ ds) (us ++ vs) s := Sat.dropP0 (PI := [(D, plainL us.toArray k)]) S
    have r1 := reps_d.mp (Reps.split hl S₁.stack).1
    refine ⟨_, _, (S₁.restack fun rr => (Reps.split hl rr).2).push2 (Rd.list (fz_get.mpr ⟨hD, nd⟩) rfl rfl (by simpa using r1)), h⟩

inductive LcAt (r : Rc) (sx : SX) (m : Mp) (elt : Expr) (gens : List Comprehension) (scope : Scope) (g : G) (Q : List PyData → G → Prop) : Prop
  | mk (t iter : Expr) (ifs : List Expr) (names : List Str) (line : Nat) (e : gens = [⟨t, iter, ifs, 0⟩]) (hk : compOk m scope = true) (hT : targetNames t = some names) (h : vComp r sx m elt t names iter ifs scope.names line g Q) : LcAt r sx m elt gens scope g Q
theorem listComp_inv {elt : Expr} {gens : List Comprehension} {scope : Scope} {pos : Pos} {own : Bool} {Q : QV} (h : stepE r sx m (.ListComp elt gens scope pos) own g Q) :
    LcAt r sx m elt gens scope g fun xs g => vNewList own xs g Q := by
  unfold stepE at h
  dsimp only at h
  obtain ⟨gn, hg, hA⟩ := oB_inv h
  obtain ⟨h0, hB⟩ := bB_inv hA
  obtain ⟨h1, hC⟩ := bB_inv hB
  obtain ⟨names, h2, hD⟩ := oB_inv hC
  obtain ⟨t, iter, ifs, ia⟩ := gn
  obtain rfl := of_decide_eq_true h0
  exact ⟨_, _, _, names, _, one_inv hg, h1, h2, hD⟩

theorem ok_ListComp (W : Wd c K) (O : RcOk c N r n) (C : Scp c N sx f) (R : Room f.A (N + n)) {elt : Expr} {gens : List Comprehension} {scope : Scope} {pos : Pos} {own : Bool} {Q : QV} (h : stepE r sx m (.ListComp elt gens scope pos) own g Q) :
    EvP c f m g (eval (.ListComp elt gens scope pos) f.env) Q := fun P ds vs s S => by
  obtain ⟨t, iter, ifs, names, line, rfl, hk, hT, h'⟩ := listComp_inv h
  clear h
  rw [eval_ListComp]
  refine ok_comp (use := none) W O C R hk hT h' S fun D C' oC mC us k acc g' s' e1 e2 S' hlen hQ => ⟨mC, e2, fun h' hs => ?_⟩
  have S₁ := Sat.dropP (PI := [(C', oC)]) (P := (D, plainL us.toArray k) :: P) (h' := h') (tk := s'.toks) S' fun b hb o e => (hs.2 b (fun q => hb (by simp [q]))).trans e
  exact give_prot S₁ hlen hQ

theorem ok_UseComp (W : Wd c K) (O : RcOk c N r n) (C : Scp c N sx f) (R : Room f.A (N + n)) {elt : Expr} {gens : List Comprehension} {scope : Scope} {pos : Pos} {own : Bool} {Q : QV} {u : Value → Sem Unit} {T : Mp → G → Prop} (h : stepE r sx m (.ListComp elt gens scope pos) own g Q) (S : Sat c f P m g ds vs s)
    (hu : ∀ P' v d g' s', Sat c f P' m g' (d :: ds) (v :: vs) s' → Q d g' → wpAny (mdl c) f.A (u v) (fun _ => Gives2 c f P' ds vs T) no s') :
    wpAny (mdl c) f.A (evalThenUse (.ListComp elt gens scope pos) f.env u) (fun _ => Gives2 c f P ds vs T) no s := by
  obtain ⟨t, iter, ifs, names, line, rfl, hk, hT, h'⟩ := listComp_inv h
  clear h
  show wpAny _ _ (do let _ ← comprehension (.ListComp elt [⟨t, iter, ifs, 0⟩] scope pos) scope f.env _ (newList []) false (eval iter f.env) (some u)) _ _ s
  refine wpAny_bind (wpAny_mono (ok_comp (use := some u) (QQ := fun _ => Gives2 c f P ds vs T) W O C R hk hT h' S fun D C' oC mC us k acc g' s' e1 e2 S' hlen hQ => ?_) (fun _ _ q => wpAny_pure q) no_imp)
  show wpAny _ _ (u (.ref D)) _ _ _
  have S₁ := S'.permP (P' := (D, plainL us.toArray k) :: (C', oC) :: P) (List.Perm.swap ..)
  obtain ⟨d, g₁, S₂, q⟩ := give_prot S₁ hlen hQ
  refine wpAny_mono (hu _ _ _ _ _ S₂ q) (fun _ s'' q => ?_) no_imp
  obtain ⟨m'', g'', S₃, q⟩ := q
  obtain ⟨o0, es0, ep0, b1, b2⟩ := e2
  have b3 : s''.heap.get? C' = some oC := S₃.prot _ (.head _)
  rw [e1] at b1
  cases b1
  refine ⟨mC, ⟨oC, es0, ep0, b3, b2⟩, fun h' hs => ⟨m'', g'', ?_, q⟩⟩
  exact Sat.dropP (PI := [(C', oC)]) (P := P) (h' := h') (tk := s''.toks) S₃ fun b hb o e => (hs.2 b (fun q => hb (by simp [q]))).trans e
end
end Mine

set_option maxRecDepth 100000
namespace Mine
open PySem PySem.W PySem.Calls PyProof.Rows PySem.Spec
open PySem.W.Fast (sEq sEq_iff)

section
variable {c : Cx} {K : Frag} {f : Fm} {P P' PI PI' : Prt} {m m' : Mp} {g g' : G} {ds ds' es : List V} {vs vs' ws : List Value} {s s' : Shared} {n N : Nat} {r : Rc} {sx : SX}

theorem isSorted_inv {u : V} (h : isSorted u = true) : u = .bi .sorted := by
  unfold isSorted at h
  split at h
  · rfl
  · cases h

/-- sorted by a key -/
theorem ok_SortK (W : Wd c K) (O : RcOk c N r n) (C : Scp c N sx f) (R : Room f.A (N + n)) {x k y : Str} {np yp kp pos : Pos} {args : List Expr} {Q : QV}
    (h : bB (okEs args && sEq k nmKey && !args.isEmpty) (vName sx m x g fun u g => bB (isSorted u) (vEs r sx m args g fun vs g => vName sx m y g fun w g => vSortK vs w g Q))) :
    EvP c f m g (eval (.Call (.Name x np) args [⟨some k, .Name y yp, kp⟩] pos) f.env) Q := fun P ds vs s S => by
  have hb := (bB_inv h).1
  replace h := (bB_inv h).2
  simp only [Bool.and_eq_true, Bool.not_eq_true'] at hb
  obtain ⟨⟨hok, hk⟩, hne⟩ := hb
  obtain rfl := sEq_iff.mp hk
  obtain ⟨e, rest, rfl⟩ : ∃ e rest, args = e :: rest := by
    cases args with
    | nil => cases hne
    | cons e rest => exact ⟨e, rest, rfl⟩
  show wpAny _ _ (do callWith pos (← eval (.Name x np) f.env) [] (backTo pos (starEach (e :: rest) f.env)) (backToKw pos (keywordEach [⟨some nmKey, .Name y yp, kp⟩] f.env))) _ _ s
  refine wpAny_bind (wpAny_mono (ok_Name W C h P ds vs s S) (fun v s₁ q => ?_) no_imp)
  obtain ⟨u, g₁, S₁, q⟩ := q
  obtain ⟨hs, q⟩ := bB_inv q
  obtain rfl := isSorted_inv hs
  obtain rfl : v = .builtin "sorted" := S₁.top
  refine callWith_kw (wpAny_mono (ok_vEs O C R q P ds vs s₁ S₁.pop) (fun ws s₂ q => ?_) no_imp) (by rw [star_hd (okEs_hd hok).1]; rfl) (star_any hok) rfl rfl
  obtain ⟨es, g₂, S₂, hl, q⟩ := q
  show wpAny _ _ (evalAll [do let v ← eval (.Name y yp) f.env; standAt pos; pure v]) _ _ s₂
  unfold evalAll
  refine wpAny_bind (wpAny_bind (wpAny_mono (ok_Name W C q P _ _ s₂ S₂) (fun w s₃ q => wpAny_bind (wpAny_standAt (wpAny_pure ?_))) no_imp))
  obtain ⟨d, g₃, S₃, q⟩ := q
  unfold evalAll
  refine wpAny_bind (hold (wpAny_pure (wpAny_pure ?_)))
  unfold vSortK at q
  replace q := oB_inv q
  obtain ⟨u0, hu0, q⟩ := q
  replace q := vLst_inv q
  obtain ⟨xs, e0, q⟩ := q
  replace q := bB_inv q
  obtain ⟨h35, q⟩ := q
  obtain ⟨ps, rfl, h64, hQ⟩ := q
  obtain rfl := one_inv hu0
  subst e0
  clear hu0
  · skip
    obtain ⟨w0, ws, rfl, hl1⟩ := lnS (n := 0) hl
    obtain rfl := ln0 hl1
    · skip
      obtain rfl : w = .ref 35 := by
        cases d with
        | fn a => rw [← Nat.eq_of_beq_eq_true h35]; exact S₃.top
        | _ => cases h35
      obtain ⟨l, ws', rfl, hl', hr⟩ := rd_list S₃.snd
      have S' := S₃.pop2
      obtain ⟨mm, hn, -⟩ := S'.frame.ns
      have hL0 : c.h₀.get? f.env.locals = none := by
        cases e : c.h₀.get? f.env.locals with
        | none => rfl
        | some o => exact absurd (by unfold muts; simp) (fz_get.mp (S'.base _ o e)).2
      refine W.sortP (R.le (Nat.le_refl _)) S'.frozen hn hL0 (hl'.at fun o e => fz_in _ _ e) (hr.keeps fz_in) h64 fun D h' tk us k qs ke hD hnew hus hsub hp hw => ?_
      obtain ⟨S₄, z₄⟩ := S'.growN (tk := tk) ke.keep ke.ns
      have hDn : D ∉ muts f P g₃ := fun q => by obtain ⟨o, ho⟩ := S'.live _ q; rw [hD] at ho; cases ho
      exact ⟨_, g₃, S₄.push2 (Rd.list (fz_get.mpr ⟨hnew, hDn⟩) rfl rfl ((rdAll_sub fz_in hr hus hsub).keeps z₄)), hQ qs hp hw⟩

theorem key_of {h : Heap} {v : Value} {l : List Int} (r : Rd h v (pTup l)) : ∃ a, v = .ref a ∧ IsTupleKey (intKind c.prog c.w) h l a := by
  obtain ⟨t, ws, rfl, ⟨o, e1, e2, n, e3⟩, hr⟩ := rd_tuple r
  refine ⟨t, rfl, o, ws, n, e1, e2, e3, ?_⟩
  have : IntsAre ws.toList l := pStr_inv hr
  generalize ws.toList = us at this
  clear hr e1 e2 e3 r
  induction this with
  | nil => exact .nil
  | cons n t _ ih => exact .cons (intKind_is _ _ _ _) ih

theorem mem_dedup {x : List Int} : ∀ {l : List (List Int)}, x ∈ dedup l ↔ x ∈ l
  | [] => by unfold dedup; simp
  | y :: r => by
    unfold dedup
    rw [List.mem_cons, List.mem_cons, List.mem_filter, mem_dedup]
    by_cases q : x = y
    · simp [q]
    · simp [q]
theorem dedup_nodup : ∀ {l : List (List Int)}, (dedup l).Nodup
  | [] => .nil
  | y :: r => by
    unfold dedup
    refine List.nodup_cons.mpr ⟨fun h => ?_, dedup_nodup.filter _⟩
    have := (List.mem_filter.mp h).2
    simp at this
end
end Mine

set_option maxRecDepth 100000
namespace Mine
open PySem PySem.W PySem.Calls PyProof.Rows PySem.Spec
open PySem.W.Fast (sEq sEq_iff)

section
variable {c : Cx} {K : Frag} {f : Fm} {P P' PI PI' : Prt} {m m' : Mp} {g g' : G} {ds ds' es : List V} {vs vs' ws : List Value} {s s' : Shared} {n N : Nat} {r : Rc} {sx : SX}

/-- a dict's entries while it is filled with texts -/
structure DcEnts (z : Heap) (ws : List Value) (pre : List (List Int)) (es : List (List Int × Addr × Value)) : Prop where
  keys : ∀ x, x ∈ es.map (·.1) ↔ x ∈ pre
  vals : ∀ e ∈ es, Rd z (.ref e.2.1) (pTup e.1) ∧ Value.ref e.2.1 ∈ ws

theorem storedH_mem {k : List Int} {a : Addr} {v : Value} {xs : List (List Int × Addr × Value)} : (∀ x, x ∈ (storedH xs k a v).map (·.1) ↔ x ∈ xs.map (·.1) ∨ x = k) ∧ ∀ e ∈ storedH xs k a v, (∃ e' ∈ xs, e.1 = e'.1 ∧ e.2.1 = e'.2.1) ∨ (e.1 = k ∧ e.2.1 = a) := by
  cases q : atKey xs k with
  | some p =>
    rw [storedH_old q]
    refine ⟨fun x => ?_, fun e he => ?_⟩
    · rw [keys_map_putAt]
      constructor
      · exact .inl
      · rintro (h | rfl)
        · exact h
        · unfold atKey at q
          obtain ⟨y, hy, _⟩ := Option.map_eq_some_iff.mp q
          have := List.find?_some hy
          exact List.mem_map.mpr ⟨y, List.mem_of_find?_eq_some hy, of_decide_eq_true this⟩
    · obtain ⟨e', he', rfl⟩ := List.mem_map.mp he
      refine .inl ⟨e', he', ?_⟩
      unfold putAt
      split <;> exact ⟨rfl, rfl⟩
  | none =>
    rw [storedH_new q]
    refine ⟨fun x => by simp, fun e he => ?_⟩
    rcases List.mem_append.mp he with h | h
    · exact .inl ⟨e, h, rfl, rfl⟩
    · simp only [List.mem_singleton] at h
      subst h
      exact .inr ⟨rfl, rfl⟩

theorem low_ne {h : Heap} {D : Addr} (h1 : sysModules < h.objs.size) (h2 : h.objs.size ≤ D) : (D == sysModules) = false := by
  refine beq_eq_false_iff_ne.mpr fun e => ?_
  rw [e] at h2
  exact Nat.lt_irrefl _ (Nat.lt_of_lt_of_le h1 h2)
theorem Sat.size_le (S : Sat c f P m g ds vs s) {a : Addr} (ha : ∃ o, c.h₀.get? a = some o) : a < s.heap.objs.size := let ⟨o, e⟩ := ha; Heap.lt_size (S.frozen _ _ e)

theorem DcEnts.keeps {z z' : Heap} (k : z.StaysIn z') {ws : List Value} {pre : List (List Int)} {es : List (List Int × Addr × Value)} (h : DcEnts z ws pre es) : DcEnts z' ws pre es := ⟨h.keys, fun e he => ⟨(h.vals e he).1.keeps k, (h.vals e he).2⟩⟩

theorem rdAll_of {z : Heap} {ws : List Value} : ∀ {es : List (List Int × Addr × Value)}, (∀ e ∈ es, Rd z (.ref e.2.1) (pTup e.1) ∧ Value.ref e.2.1 ∈ ws) → RdAll z (es.map fun e => .ref e.2.1) ((es.map (·.1)).map pTup)
  | [], _ => .nil
  | e :: es, hv => .cons (hv e (.head _)).1 (rdAll_of fun e he => hv e (.tail _ he))

/-- what the dict's display leaves -/
inductive ResD (c : Cx) (f : Fm) (P : Prt) (m : Mp) (ds : List V) (vs : List Value) (Q : QV) (v : Value) (s' : Shared) : Prop
  | mk (g : G) (D : Addr) (es : List (List Int × Addr × Value)) (ws : List Value) (ss : List (List Int)) (e : v = .ref D) (S : Sat c f P m g ds vs s') (hD : s'.heap.DictOfH (tkd c) D es) (hs : (D == sysModules) = false) (hd : DcEnts (fz s'.heap (muts f P g)) ws ss es) (h5 : (dedup ss).length ≤ 5)
    (q : ∀ ts : List (List Int), ts.Perm (dedup ss) → ts.Pairwise (fun a b => ltL a b = true) → Q (.d (pStrs ts)) g) : ResD c f P m ds vs Q v s'

inductive DInv (c : Cx) (s₂ : Shared) (z : Heap) (ws : Array Value) (ss : List (List Int)) (I l D Ca : Addr) (k : Nat) (s' : Shared) : Prop
  | mk (h' : Heap) (tk : Tok) (i : Nat) (mC : Str → Option Value) (es : List (List Int × Addr × Value)) (e : s' = { s₂ with heap := h', toks := tk }) (ek : k = ss.length + 1 - i) (hi : i ≤ ss.length) (hit : h'.IsListIter I l i) (hd : h'.DictOfH (tkd c) D es) (hn : h'.Ns Ca mC)
    (ho : ∀ b o, s₂.heap.get? b = some o → h'.get? b = some o) (he : DcEnts z ws.toList (ss.take i) es) (hle : es.length ≤ i) : DInv c s₂ z ws ss I l D Ca k s'

theorem dict_disp (W : Wd c K) (C : Scp c N sx f) (R : Room f.A N) {kpos : Pos} {k v : Expr} {gens : List Comprehension} {dsc : Scope} {Q : QV} (hsys : ∃ o, c.h₀.get? sysModules = some o) (S₁ : Sat c f P m g ds vs s) (q : vSortD sx m k v gens dsc g Q) :
    wpAny (mdl c) f.A (eval (.DictComp k v gens dsc kpos) f.env) (ResD c f P m ds vs Q) no s := by
  unfold vSortD at q
  replace q := oB_inv q
  obtain ⟨y, hk, q⟩ := q
  replace q := bB_inv q
  obtain ⟨hv, q⟩ := q
  replace q := oB_inv q
  obtain ⟨gn, hgn, q⟩ := q
  obtain rfl := one_inv hgn
  clear hgn
  · skip
    replace q := oB_inv q
    obtain ⟨z, hz, q⟩ := q
    replace q := oB_inv q
    obtain ⟨src, hsrc, q⟩ := q
    replace q := bB_inv q
    obtain ⟨hg, q⟩ := q
    obtain ⟨hg1, hg2⟩ := Bool.and_eq_true_iff.mp hg
    clear hg
    obtain ⟨yp, rfl⟩ := nameE_inv hk
    obtain ⟨bn, bp, rfl⟩ := trueE_inv hv
    obtain ⟨tg, it, ifs, ia⟩ := gn
    dsimp only at hz hsrc hg1 hg2
    obtain ⟨zp, rfl⟩ := nameE_inv hz
    obtain ⟨srcp, rfl⟩ := nameE_inv hsrc
    obtain rfl := List.isEmpty_iff.mp hg1
    obtain rfl := of_decide_eq_true hg2
    clear hk hv hz hsrc hg1 hg2
    have hb := (bB_inv q).1
    replace q := (bB_inv q).2
    simp only [Bool.and_eq_true, Bool.not_eq_true'] at hb
    obtain ⟨⟨⟨hk, hyz⟩, hloc⟩, hdb⟩ := hb
    obtain rfl := sEq_iff.mp hyz
    unfold compOk at hk
    obtain ⟨hk12, hndm⟩ := Bool.and_eq_true_iff.mp hk
    obtain ⟨hk1, hk2⟩ := Bool.and_eq_true_iff.mp hk12
    have hfn : dsc.kind = .function := by cases q : dsc.kind <;> rw [q] at hk1 <;> first | rfl | cases hk1
    have ok := scOk_inv hk2
    have hclos := clos_eq (scope := dsc) (env := f.env) fun x hx => (ok.cells S₁ x hx).2
    have hnames : ∀ x ∈ dsc.names, x.2 = .local → dsc.names.lookup x.1 = some .local := fun x hx e => lookup_of_mem ok.nodup (by rw [← e]; exact hx)
    have hcell : ∀ y ∈ dsc.names, y.2 ≠ .cell := fun y hy e => by rcases ok.kinds y hy with q | q | q <;> rw [e] at q <;> cases q
    have hyl : dsc.names.lookup y = some .local := lookup_of_mem ok.nodup (isLoc_inv hloc)
    rw [arm_eval_DictComp]
    refine wpAny_comprehension_free (use := none) rfl (fun _ => rfl) hclos hfn hnames (wpAny_mono (ok_Name W C q P ds vs s S₁) (fun lv s₂ q => ?_) no_imp)
    obtain ⟨u, g₂, S₂, q⟩ := q
    obtain ⟨l, ws, xs, rfl, hl, hr, ss, rfl, ⟨h5, h60⟩, hQ⟩ := vView_inv S₂ S₂.top q
    have S₂' := S₂.pop
    clear S₂
    have hlen := hr.length
    rw [List.length_map] at hlen
    have hlen' : ws.size = ss.length := by rw [← hlen]; simp
    refine wpAny_pyIter_list hl ?_
    refine wpAny_newObj_type (wpAny_newFunctionEnv hcell (by intro y hy; simp at hy) (fun h₁ hns₁ hsb₁ => ?_) hfn)
    dsimp only at hns₁ hsb₁ ⊢
    have z1 : (s₂.heap.push { cls := .type "list_iterator", data := .fields #[.ref l, .int 0 0] }).objs.size = s₂.heap.objs.size + 1 := Heap.size_push ..
    have z2 : ((s₂.heap.push { cls := .type "list_iterator", data := .fields #[.ref l, .int 0 0] }).push { cls := .type "dict", data := .dict #[] }).objs.size = s₂.heap.objs.size + 2 := by rw [Heap.size_push, z1]
    have hD₀ : ((s₂.heap.push { cls := .type "list_iterator", data := .fields #[.ref l, .int 0 0] }).push { cls := .type "dict", data := .dict #[] }).DictOfH (tkd c) (s₂.heap.objs.size + 1) [] := by
      have := Heap.DictOfH.new (knd := tkd c) (s₂.heap.push { cls := .type "list_iterator", data := .fields #[.ref l, .int 0 0] })
      rwa [z1] at this
    have hI₀ : ((s₂.heap.push { cls := .type "list_iterator", data := .fields #[.ref l, .int 0 0] }).push { cls := .type "dict", data := .dict #[] }).IsListIter s₂.heap.objs.size l 0 := ⟨_, Heap.get?_push_of_some _ (Heap.get?_push_size _ rfl), rfl, rfl⟩
    have old₀ : ∀ b o, s₂.heap.get? b = some o → ((s₂.heap.push { cls := .type "list_iterator", data := .fields #[.ref l, .int 0 0] }).push { cls := .type "dict", data := .dict #[] }).get? b = some o := fun b o e => Heap.get?_push_of_some _ (Heap.get?_push_of_some _ e)
    rw [z2] at hns₁ hsb₁ ⊢
    rw [z1]
    generalize hH : (s₂.heap.push { cls := .type "list_iterator", data := .fields #[.ref l, .int 0 0] }).push { cls := .type "dict", data := .dict #[] } = H at hD₀ hI₀ old₀ hsb₁
    have bel : ∀ b o, s₂.heap.get? b = some o → b ≠ s₂.heap.objs.size ∧ b ≠ s₂.heap.objs.size + 1 ∧ b ≠ s₂.heap.objs.size + 2 := fun b o e => by
      have hb : @LT.lt Nat _ b s₂.heap.objs.size := Heap.lt_size e
      exact ⟨Nat.ne_of_lt hb, Nat.ne_of_lt (Nat.lt_succ_of_lt hb), Nat.ne_of_lt (Nat.lt_succ_of_lt (Nat.lt_succ_of_lt hb))⟩
    have nsys : (s₂.heap.objs.size + 1 == sysModules) = false := low_ne (S₂'.size_le hsys) (Nat.le_succ _)
    generalize hIe : s₂.heap.objs.size = I at hns₁ hsb₁ hD₀ hI₀ bel nsys ⊢
    have hDC : I + 1 ≠ I + 2 := by (first | lia | omega)
    have hIC : I ≠ I + 2 := by (first | lia | omega)
    have hID : I ≠ I + 1 := by (first | lia | omega)
    generalize hDe : I + 1 = D at hns₁ hsb₁ hD₀ bel nsys hDC hID ⊢
    generalize hCe : I + 2 = Ca at hns₁ hsb₁ bel hDC hIC ⊢
    have vold : ∀ {es : List (List Int × Addr × Value)} {pre : List (List Int)}, DcEnts (fz s₂.heap (muts f P g₂)) ws.toList pre es → ∀ e ∈ es, ∃ o, s₂.heap.get? e.2.1 = some o := fun {es pre} he e he' => by
      obtain ⟨t, ws', e1, ⟨o, e2, _⟩, _⟩ := rd_tuple (he.vals e he').1
      cases e1
      exact ⟨o, (fz_get.mp e2).1⟩
    -- a dict that stands while another new object turns
    have dmove : ∀ {h h' : Heap} {es : List (List Int × Addr × Value)} {a : Addr}, h.DictOfH (tkd c) D es → (∀ e ∈ es, ∃ o, s₂.heap.get? e.2.1 = some o) → (∀ b o, b ≠ a → h.get? b = some o → h'.get? b = some o) → D ≠ a → (∀ b o, s₂.heap.get? b = some o → b ≠ a) → h'.DictOfH (tkd c) D es := fun {h h' es a} hd hv keep ha hn => by
      obtain ⟨o, es', ep, e1, e2, e3, e4, e5, e6⟩ := hd
      refine ⟨o, es', ep, keep _ _ ha e1, e2, e3, e4, fun x hx => ?_, e6⟩
      obtain ⟨o', its, nn, k1, k2, k3, k4⟩ := e5 x hx
      obtain ⟨oo, hoo⟩ := hv x hx
      exact ⟨o', its, nn, keep _ _ (hn _ _ hoo) k1, k2, k3, k4⟩
    have fin : ∀ {h' : Heap} {tk : Tok} {mC : Str → Option Value} {es : List (List Int × Addr × Value)}, h'.Ns Ca mC → h'.DictOfH (tkd c) D es → (∀ b o, s₂.heap.get? b = some o → h'.get? b = some o) → DcEnts (fz s₂.heap (muts f P g₂)) ws.toList ss es →
        compPost (mdl c) f.A no none (ResD c f P m ds vs Q) (.ref D) Ca (.ok .next) { s₂ with heap := h', toks := tk } := fun {h' tk mC es} hn hd ho he => by
      refine ⟨mC, hn, fun h'' hs => ?_⟩
      have ho'' : ∀ b o, s₂.heap.get? b = some o → h''.get? b = some o := fun b o e => (hs.2 b (bel b o e).2.2).trans (ho b o e)
      exact ⟨g₂, D, es, ws.toList, ss, rfl, S₂'.grow (tk := tk) ho'', dmove (a := Ca) hd (vold he) (fun b o hb e => (hs.2 b hb).trans e) hDC fun b o e => (bel b o e).2.2, nsys, he.keeps (S₂'.fz_grow ho''), h5, hQ⟩
    have loop : ∀ s₄, s₄ = { s₂ with heap := h₁, toks := s₂.toks + ([] : List (Str × Value)).length } → codeAny (mdl c) f.A (.compLoop (.DictComp (.Name y yp) (.Constant (.bool true) bn bp) [⟨.Name y zp, .Name src srcp, [], 0⟩] dsc kpos) 0 (.ref I) (.ref D) (compEnvC dsc (clGo f.env.cells dsc.names []) Ca f.env)) (compPost (mdl c) f.A no none (ResD c f P m ds vs Q) (.ref D) Ca) s₄ := by
      rintro s₄ rfl
      refine codeAny_compLoop_testsD (DInv c s₂ (fz s₂.heap (muts f P g₂)) ws ss I l D Ca) ?_ (ss.length + 1)
        ⟨h₁, _, 0, _, [], rfl, rfl, Nat.zero_le _, (hI₀.at fun o e => (hsb₁.2 _ hIC).trans (Heap.get?_push_of_some _ e)), dmove (a := Ca) hD₀ (fun _ h => nomatch h) (fun b o hb e => (hsb₁.2 b hb).trans (Heap.get?_push_of_some _ e)) hDC (fun b o e => (bel b o e).2.2), hns₁, fun b o e => (hsb₁.2 b (bel b o e).2.2).trans (Heap.get?_push_of_some _ (old₀ b o e)), ⟨fun x => by simp, fun _ h => nomatch h⟩, Nat.le_refl _⟩
      rintro k' s' ⟨h', tk, i, mC, es, rfl, rfl, hi, hit, hd, hn, ho, he, hle⟩
      have hl' : h'.IsList l ws := hl.at fun o e => ho _ _ e
      cases hy : ws[i]? with
      | none =>
        have hge : ss.length ≤ i := by
          have := Array.getElem?_eq_none_iff.mp hy
          (first | lia | omega)
        refine wpAny_pyNext_list_end R.h hit hl' hy fun h'' hx => ?_
        rw [List.take_of_length_le hge] at he
        exact fin (hn.extBut hx (Ne.symm hIC)) (dmove (a := I) hd (vold he) (fun b o hb e => hx b o hb e) (Ne.symm hID) fun b o e => (bel b o e).1) (fun b o e => hx b o (bel b o e).1 (ho b o e)) he
      | some vv =>
        have hlt : i < ss.length := by
          have := Array.getElem?_eq_some_iff.mp hy
          obtain ⟨q, _⟩ := this
          (first | lia | omega)
        refine wpAny_pyNext_list_item hit hl' hy fun h₂ hit₂ hs₂ => ?_
        refine wpAny_assign_Name (wpAny_storeName_local (lookup_relabel_local hyl) (hn.sameBut hs₂ (Ne.symm hIC)) (fun h₃ hn₃ hs₃ => ?_) (by simp [compEnvC, relabel, hfn]))
        refine wpAny_tests_nil ?_
        rw [if_pos rfl]
        refine wpAny_Name (wpAny_loadName_local (by simp [compEnvC, relabel, hfn]) (lookup_relabel_local hyl) hn₃ (v := vv) (by simp) ?_) (nmDebug_ne hdb)
        refine PyProof.Rows.Constant_bool ?_
        obtain ⟨xx, hxx, rv⟩ := hr.get' (show ws.toList[i]? = some vv from by rw [Array.getElem?_toList]; exact hy)
        rw [List.getElem?_map] at hxx
        obtain ⟨tx, htx, rfl⟩ := Option.map_eq_some_iff.mp hxx
        have ho₃ : ∀ b o, s₂.heap.get? b = some o → h₃.get? b = some o := fun b o e => (hs₃.2 b (bel b o e).2.2).trans ((hs₂.2 b (bel b o e).1).trans (ho b o e))
        obtain ⟨ka, rfl, hkey⟩ := key_of (c := c) (rv.keeps fun b o e => ho₃ b o (fz_in b o e))
        have hd₃ : h₃.DictOfH (tkd c) D es := dmove (a := Ca) (dmove (a := I) hd (vold he) (fun b o hb e => (hs₂.2 b hb).trans e) (Ne.symm hID) fun b o e => (bel b o e).1) (vold he) (fun b o hb e => (hs₃.2 b hb).trans e) hDC fun b o e => (bel b o e).2.2
        refine wpAny_dictSet_heap (knd := tkd c) R.units0 hkey hd₃ (fun h₄ hd₄ hs₄ => ?_) (sz_le (by (first | lia | omega)))
        obtain ⟨sm1, sm2⟩ := storedH_mem (k := tx) (a := ka) (v := Value.bool true) (xs := es)
        have htk : ss.take (i + 1) = ss.take i ++ [tx] := by rw [List.take_succ, htx]; rfl
        refine ⟨_, Nat.sub_lt_sub_left (Nat.lt_succ_of_lt hlt) (Nat.lt_succ_self i), h₄, _, i + 1, _, storedH es tx ka (.bool true), rfl, rfl, hlt, (hit₂.extBut hs₃.extBut hIC).extBut hs₄.extBut hID, hd₄, hn₃.sameBut hs₄ (Ne.symm hDC), fun b o e => (hs₄.2 b (bel b o e).2.1).trans (ho₃ b o e), ⟨fun x => ?_, fun e he' => ?_⟩, ?_⟩
        · rw [sm1, htk, he.keys]; simp
        · rcases sm2 e he' with ⟨e', h1, h2, h3⟩ | ⟨h2, h3⟩
          · rw [h2, h3]; exact he.vals e' h1
          · rw [h2, h3]; exact ⟨rv, List.mem_of_getElem? (show ws.toList[i]? = some (.ref ka) from by rw [Array.getElem?_toList]; exact hy)⟩
        · cases q : atKey es tx with
          | some p => rw [storedH_old q, List.length_map]; (first | lia | omega)
          | none => rw [storedH_new q, List.length_append]; simp; (first | lia | omega)
    refine codeAny_compStart_dict (loop _ rfl) ?_
    exact wpAny_pyIter_listiter (hI₀.at fun o e => (hsb₁.2 _ hIC).trans (Heap.get?_push_of_some _ e)) (loop _ rfl)

theorem ok_SortD (W : Wd c K) (C : Scp c N sx f) (R : Room f.A N) {x : Str} {np pos kpos : Pos} {k v : Expr} {gens : List Comprehension} {dsc : Scope} {Q : QV} (hsys : ∃ o, c.h₀.get? sysModules = some o)
    (h : vName sx m x g fun u g => bB (isSorted u) (vSortD sx m k v gens dsc g Q)) : EvP c f m g (eval (.Call (.Name x np) [.DictComp k v gens dsc kpos] [] pos) f.env) Q := fun P ds vs s S => by
  show wpAny _ _ (do callWith pos (← eval (.Name x np) f.env) [] (backTo pos (starEach [.DictComp k v gens dsc kpos] f.env)) []) _ _ s
  refine wpAny_bind (wpAny_mono (ok_Name W C h P ds vs s S) (fun fv s₁ q => ?_) no_imp)
  obtain ⟨u, g₁, S₁, q⟩ := q
  have hs := (bB_inv q).1
  replace q := (bB_inv q).2
  obtain rfl := isSorted_inv hs
  obtain rfl : fv = .builtin "sorted" := S₁.top
  refine callWith_of (P := fun _ => True) rfl (fun hp _ => ⟨.machine, .inr (.inl rfl), .now⟩) ?_
  refine evalArgs_plain (wpAny_items_cons (wpAny_mono (dict_disp W C R hsys S₁.pop q) (fun dv s₂ q => wpAny_items_nil ?_) no_imp) rfl)
  refine ⟨trivial, ?_⟩
  obtain ⟨g₂, D, es, ws, ss, rfl, S₂, hd, hsy, he, h5, hQ⟩ := q
  have nd : (es.map (·.1)).Nodup := let ⟨_, _, _, _, _, _, _, _, q⟩ := hd; q
  have pm : (es.map (·.1)).Perm (dedup ss) := (List.perm_ext_iff_of_nodup nd dedup_nodup).mpr fun x => by rw [he.keys, mem_dedup]
  obtain ⟨mm, hn, -⟩ := S₂.frame.ns
  have hr : RdAll (fz s₂.heap (muts f P g₂)) (es.map fun e => .ref e.2.1) ((es.map (·.1)).map pTup) := by
    exact rdAll_of he.vals
  have hl5 : es.length ≤ 5 := by have := pm.length_eq; rw [List.length_map] at this; (first | lia | omega)
  refine W.sortD R S₂.frozen hn hd hsy (hr.keeps fz_in) hl5 fun B h' tk us k ts ke hB hnew hus hsub hp hw => ?_
  obtain ⟨S₄, z₄⟩ := S₂.growN (tk := tk) ke.keep ke.ns
  have hDn : B ∉ muts f P g₂ := fun q => by obtain ⟨o, ho⟩ := S₂.live _ q; rw [hB] at ho; cases ho
  exact ⟨_, g₂, S₄.push2 (Rd.list (fz_get.mpr ⟨hnew, hDn⟩) rfl rfl ((rdAll_sub fz_in hr hus hsub).keeps z₄)), hQ ts (hp.trans pm) hw⟩
end
end Mine

set_option maxRecDepth 100000
namespace Mine
open PySem PySem.W PySem.Calls PyProof.Rows PySem.Spec
open PySem.W.Fast (sEq sEq_iff)

section
variable {c : Cx} {K : Frag} {f : Fm} {P P' PI PI' : Prt} {m m' : Mp} {g g' : G} {ds ds' es : List V} {vs vs' ws : List Value} {s s' : Shared} {n N : Nat} {r : Rc} {sx : SX}

theorem ok_stepE (W : Wd c K) (O : RcOk c N r n) (C : Scp c N sx f) (R : Room f.A (N + n)) {e : Expr} {own : Bool} {Q : QV} (h : stepE r sx m e own g Q) : EvP c f m g (eval e f.env) Q := by
  cases e with
  | Constant cc k pos => exact ok_Const h
  | Name x pos => exact ok_Name W C h
  | BoolOp op es pos => exact ok_BoolOp O C R h
  | BinOp a op b pos =>
    unfold stepE at h
    dsimp only at h
    split at h
    · replace h := bB_inv h
      obtain ⟨ho, h⟩ := h
      obtain ⟨i, hi, hA⟩ := oB_inv h
      clear h
      obtain ⟨_, _, rfl⟩ := intE_inv hi
      cases op with
      | Mult => exact ok_ListMul O C R hA
      | _ => cases ho
    · exact ok_BinOp O C R h
  | UnaryOp op a pos => exact ok_Unary O C R h
  | IfExp t a b pos => exact ok_IfExp O C R h
  | List es pos => exact ok_List O C R h
  | Tuple es k pos => exact ok_Tuple O C R h
  | Dict ks es pos =>
    unfold stepE at h
    dsimp only at h
    obtain ⟨ab, hk, hX⟩ := oB_inv h
    obtain ⟨ee, he, hY⟩ := oB_inv hX
    obtain ⟨k1, h1, hA⟩ := oB_inv hY
    obtain ⟨k2, h2, hB⟩ := oB_inv hA
    clear h hA hX hY
    obtain ⟨a, h3, h4⟩ := Option.bind_eq_some_iff.mp h1
    obtain ⟨b, h5, h6⟩ := Option.bind_eq_some_iff.mp h2
    obtain ⟨_, _, h7⟩ := strE_inv h4
    obtain ⟨_, _, h8⟩ := strE_inv h6
    rw [two_inv hk, two_inv he, h3, h5, h7, h8]
    exact ok_Dict O C R hB.1 hB.2
  | Compare a ops es pos =>
    refine EvP.mono (ok_Compare (k := fun c g => Q (dB c) g) O C R h).1 fun v g q => ?_
    obtain ⟨b, rfl, q⟩ := q
    exact q
  | Attribute o name pos => exact ok_Attribute W O C R h
  | Subscript o i pos =>
    unfold stepE at h
    dsimp only at h
    split at h
    · obtain ⟨hn, hA⟩ := bB_inv h
      obtain ⟨n1, n2⟩ := Bool.and_eq_true_iff.mp hn
      obtain ⟨i, hi, hB⟩ := oB_inv hA
      obtain ⟨ox, ho, hC⟩ := oB_inv hB
      clear h hA hB hn
      obtain rfl := Option.isNone_iff_eq_none.mp n1
      obtain rfl := Option.isNone_iff_eq_none.mp n2
      obtain ⟨e, rfl, hj⟩ := Option.bind_eq_some_iff.mp hi
      clear hi n1 n2
      obtain ⟨_, _, rfl⟩ := intE_inv hj
      exact ok_Slice O C R ho hC
    · rename_i hne
      exact ok_Index O C R (fun a b c p e => hne a b c p e) h
  | ListComp elt gens sc p => exact ok_ListComp W O C R h
  | Call fe args kw pos =>
    unfold stepE at h
    dsimp only at h
    split at h
    · split at h
      · exact ok_MethCall W O C R h
      · split at h
        · exact ok_SortD W C (R.le (Nat.le_add_right _ _)) W.sys h
        · exact ok_NameCall W O C R h
      · cases h
    · rename_i kwd kws
      replace h := bB_inv h
      obtain ⟨h0, h⟩ := h
      obtain rfl := List.isEmpty_iff.mp h0
      obtain ⟨x, h1, hA⟩ := oB_inv h
      obtain ⟨k, h2, hB⟩ := oB_inv hA
      obtain ⟨y, h3, hC⟩ := oB_inv hB
      clear h hA hB
      obtain ⟨ka, kv, kp⟩ := kwd
      dsimp only at h2 h3
      subst h2
      obtain ⟨_, rfl⟩ := nameE_inv h1
      obtain ⟨_, rfl⟩ := nameE_inv h3
      exact ok_SortK W O C R hC
  | _ => cases h
end
end Mine

set_option maxRecDepth 100000
namespace Mine
open PySem PySem.W PySem.Calls PyProof.Rows PySem.Spec
open PySem.W.Fast (sEq sEq_iff)

section
variable {c : Cx} {K : Frag} {f : Fm} {P P' PI PI' : Prt} {m m' : Mp} {g g' : G} {ds ds' es : List V} {vs vs' ws : List Value} {s s' : Shared} {n N : Nat} {r : Rc} {sx : SX}

/-! a written tuple is taken apart -/
noncomputable def msetAll : List Str → List V → Mp → Mp
  | x :: xs, v :: vs, m => msetAll xs vs (mset x v m)
  | _, _, m => m
theorem slook_mset {x y : Str} {d : V} : ∀ {m : Mp}, (slook y (mset x d m)).isSome = (slook y m).isSome
  | [] => rfl
  | e :: r => by
    have ih := slook_mset (x := x) (y := y) (d := d) (m := r)
    unfold mset at ih ⊢
    rw [List.map_cons]
    unfold slook
    by_cases q : e.1 = x
    · rw [if_pos q]
      cases h : sEq e.1 y with
      | true => rfl
      | false => simpa using ih
    · rw [if_neg q]
      cases h : sEq e.1 y with
      | true => rfl
      | false => simpa using ih
theorem mset_comm {x y : Str} (h : x ≠ y) (d e : V) (m : Mp) : mset x d (mset y e m) = mset y e (mset x d m) := by
  unfold mset
  rw [List.map_map, List.map_map]
  refine List.map_congr_left fun a _ => ?_
  simp only [Function.comp]
  by_cases q1 : a.1 = x <;> by_cases q2 : a.1 = y
  · exact absurd (q1.symm.trans q2) h
  · simp [q1, h]
  · simp [q2, Ne.symm h]
  · simp [q1, q2]
theorem vStore_iff {x : Str} {v : V} {k : Mp → Prop} : vStore x v m k ↔ (slook x m).isSome = true ∧ k (mset x v m) := by
  unfold vStore
  cases h : slook x m with
  | none => exact ⟨fun q => q.elim, fun q => by simp at q⟩
  | some p => exact ⟨fun q => ⟨rfl, by rw [← msetN_eq]; exact q⟩, fun q => by rw [← msetN_eq] at q; exact q.2⟩
theorem vStoreAll_iff : ∀ {xs : List Str} {vs : List V} {m : Mp} {k : Mp → Prop}, vStoreAll xs vs m k ↔ xs.length = vs.length ∧ (∀ x ∈ xs, (slook x m).isSome = true) ∧ k (msetAll xs vs m)
  | [], [], m, k => ⟨fun h => ⟨rfl, (fun _ h => nomatch h), h⟩, fun h => h.2.2⟩
  | [], _ :: _, m, k => ⟨fun h => h.elim, fun h => nomatch h.1⟩
  | _ :: _, [], m, k => ⟨fun h => h.elim, fun h => nomatch h.1⟩
  | x :: xs, v :: vs, m, k => by
    unfold vStoreAll
    rw [vStore_iff, vStoreAll_iff]
    show _ ↔ _ ∧ _ ∧ k (msetAll xs vs (mset x v m))
    constructor
    · rintro ⟨h1, h2, h3, h4⟩
      refine ⟨by simp [h2], fun y hy => ?_, h4⟩
      rcases List.mem_cons.mp hy with rfl | hy
      · exact h1
      · rw [← slook_mset (x := x) (d := v)]; exact h3 y hy
    · rintro ⟨h1, h2, h3⟩
      exact ⟨h2 x (.head _), by simpa using h1, fun y hy => by rw [slook_mset]; exact h2 y (.tail _ hy), h3⟩
theorem msetAll_snoc {x : Str} {v : V} : ∀ {xs : List Str} {vs : List V} {m : Mp}, xs.length = vs.length → msetAll (xs ++ [x]) (vs ++ [v]) m = mset x v (msetAll xs vs m)
  | [], [], m, _ => rfl
  | [], _ :: _, _, h => nomatch h
  | _ :: _, [], _, h => nomatch h
  | y :: xs, w :: vs, m, h => by
    show msetAll (xs ++ [x]) (vs ++ [v]) (mset y w m) = mset x v (msetAll xs vs (mset y w m))
    exact msetAll_snoc (Nat.succ.inj h)
theorem msetAll_in {x : Str} {v : V} : ∀ {xs : List Str} {vs : List V} {m : Mp}, x ∉ xs → mset x v (msetAll xs vs m) = msetAll xs vs (mset x v m)
  | [], [], m, _ => rfl
  | [], _ :: _, _, _ => rfl
  | _ :: _, [], _, _ => rfl
  | y :: xs, w :: vs, m, h => by
    show mset x v (msetAll xs vs (mset y w m)) = msetAll xs vs (mset y w (mset x v m))
    rw [msetAll_in fun q => h (.tail _ q), mset_comm fun e : x = y => h (by rw [e]; exact .head _)]
theorem msetAll_rev : ∀ {xs : List Str} {vs : List V} {m : Mp}, xs.length = vs.length → xs.Nodup → msetAll xs.reverse vs.reverse m = msetAll xs vs m
  | [], [], m, _, _ => rfl
  | [], _ :: _, _, h, _ => nomatch h
  | _ :: _, [], _, h, _ => nomatch h
  | y :: xs, w :: vs, m, h, nd => by
    obtain ⟨n1, n2⟩ := List.nodup_cons.mp nd
    rw [List.reverse_cons, List.reverse_cons, msetAll_snoc (by simpa using Nat.succ.inj h), msetAll_rev (Nat.succ.inj h) n2]
    show mset y w (msetAll xs vs m) = msetAll xs vs (mset y w m)
    exact msetAll_in n1
theorem vStoreAll_rev {xs : List Str} {vs : List V} {k : Mp → Prop} (nd : xs.Nodup) (h : vStoreAll xs vs m k) : vStoreAll xs.reverse vs.reverse m k := by
  rw [vStoreAll_iff] at h ⊢
  obtain ⟨h1, h2, h3⟩ := h
  exact ⟨by simpa using h1, fun x hx => h2 x (List.mem_reverse.mp hx), by rw [msetAll_rev h1 nd]; exact h3⟩

theorem storeAll_go {α : Type} {tr : α → Value → Sem Unit} {nm : α → Str} (htr : ∀ a v s (Q : Unit → Shared → Prop), wpAny (mdl c) f.A (storeName f.env (nm a) v) Q no s → wpAny (mdl c) f.A (tr a v) Q no s) : ∀ {as : List α} {es : List V} {ws : List Value} {m : Mp} {s : Shared} {k : Mp → Prop}, vStoreAll (as.map nm) es m k →
    ws.length = es.length → Sat c f P m g (es ++ ds) (ws ++ vs) s → wpAny (mdl c) f.A (assignInOrder (as.map tr) ws) (fun _ => GivesM c f P g ds vs k) no s
  | [], [], [], m, s, k, h, _, S => by unfold assignInOrder; exact wpAny_pure ⟨m, S, h⟩
  | [], _ :: _, _, _, _, _, h, _, _ => h.elim
  | _ :: _, [], _, _, _, _, h, _, _ => h.elim
  | [], [], _ :: _, _, _, _, _, h, _ => nomatch h
  | _ :: _, _ :: _, [], _, _, _, _, h, _ => nomatch h
  | a :: as, e :: es, w :: ws, m, s, k, h, hl, S => by
    rw [List.map_cons]
    unfold assignInOrder
    refine wpAny_bind (hold (htr a w s _ (wpAny_mono (op_store (d := e) S h) (fun _ s₁ q => ?_) no_imp)))
    obtain ⟨m₁, S₁, q⟩ := q
    exact storeAll_go htr q (Nat.succ.inj hl) S₁

theorem namesOf_inv : ∀ {ts : List Expr} {xs : List Str}, namesOf ts = some xs → ∃ as : List (Str × Pos), ts = as.map (fun a => Expr.Name a.1 a.2) ∧ xs = as.map (·.1)
  | [], xs, h => ⟨[], rfl, (Option.some.inj h).symm⟩
  | t :: ts, xs, h => by
    obtain ⟨x, hx, h1⟩ := Option.bind_eq_some_iff.mp (show ((nameE t).bind fun x => (namesOf ts).map (x :: ·)) = some xs from h)
    obtain ⟨ys, hy, e⟩ := Option.map_eq_some_iff.mp h1
    obtain ⟨p, rfl⟩ := nameE_inv hx
    obtain ⟨as, ha, hb⟩ := namesOf_inv hy
    exact ⟨(x, p) :: as, by rw [ha]; rfl, by rw [← e, hb]; rfl⟩
theorem assignEach_names {env : Env} : ∀ as : List (Str × Pos), (assignEach (as.map fun a => Expr.Name a.1 a.2) env).map (·.2) = as.map (fun a => assign (.Name a.1 a.2) env) ∧ (assignEach (as.map fun a => Expr.Name a.1 a.2) env).length = as.length ∧ (assignEach (as.map fun a => Expr.Name a.1 a.2) env).findIdx? (·.1) = none
  | [] => ⟨rfl, rfl, rfl⟩
  | a :: as => by
    obtain ⟨h1, h2, h3⟩ := assignEach_names (env := env) as
    have e : assignEach ((a :: as).map fun a => Expr.Name a.1 a.2) env = (false, assign (.Name a.1 a.2) env) :: assignEach (as.map fun a => Expr.Name a.1 a.2) env := rfl
    rw [e]
    refine ⟨by rw [List.map_cons, h1]; rfl, by simp [h2], ?_⟩
    rw [List.findIdx?_cons]
    simp [h3]

/-- the items of a written tuple, each for its name -/
theorem ok_vEsM (O : RcOk c N r n) (C : Scp c N sx f) (R : Room f.A (N + n)) {pos : Pos} : ∀ {xs : List Str} {es : List Expr} {g : G} {k : List V → G → Prop}, okEs es = true → vEsM r sx m xs es g k → EvsP c f m g (spliced (backTo pos (starEach es f.env))) k
  | [], [], g, k, _, h => fun P ds vs s S => wpAny_items_nil ⟨[], g, S, rfl, h⟩
  | [], _ :: _, _, _, _, h => h.elim
  | _ :: _, [], _, _, _, h => h.elim
  | x :: xs, e :: es, g, k, hok, h => fun P ds vs s S => by
    refine wpAny_items_cons (wpAny_mono (O.E C R h P ds vs s S) (fun w s' q => ?_) no_imp) (star_hd (okEs_hd hok).1)
    obtain ⟨d, g', S', q⟩ := q
    refine wpAny_mono (ok_vEsM O C R (okEs_hd hok).2 q P _ _ _ S') (fun ws s'' q => ?_) no_imp
    obtain ⟨es', g'', S'', hl, q⟩ := q
    exact ⟨d :: es', g'', S''.restack (Reps.rot hl), by simp [hl], q⟩

theorem dups_le : ∀ (n : Nat) (l : List Str), l.length ≤ n → l.eraseDups.length ≤ l.length ∧ (l.eraseDups.length = l.length → l.Nodup)
  | _, [], _ => ⟨by simp, fun _ => .nil⟩
  | 0, _ :: _, h => by simp at h
  | n + 1, a :: l, h => by
    rw [List.eraseDups_cons]
    have hf : (l.filter fun b => !b == a).length ≤ l.length := List.length_filter_le _ _
    simp only [List.length_cons] at h
    obtain ⟨h1, h2⟩ := dups_le n (l.filter fun b => !b == a) (by (first | lia | omega))
    refine ⟨by simp only [List.length_cons]; (first | lia | omega), fun e => ?_⟩
    simp only [List.length_cons] at e
    have e1 : (l.filter fun b => !b == a).length = l.length := by (first | lia | omega)
    have e2 : ∀ b ∈ l, (!b == a) = true := fun b hb => by
      have := List.length_filter_eq_length_iff.mp e1 b hb
      exact this
    have e3 : l.filter (fun b => !b == a) = l := List.filter_eq_self.mpr e2
    rw [e3] at h2
    refine List.nodup_cons.mpr ⟨fun q => ?_, h2 (by rw [e3] at e; (first | lia | omega))⟩
    have := e2 a q
    simp at this
theorem pick_names {env : Env} (L : Nat) : ∀ as : List (Str × Pos), ((as.map fun a => Expr.Name a.1 a.2).filterMap (fun x => match x with
      | Expr.Name id pos => if (env.kindOf id == some NameKind.local && pos.line == L) = true then some id else none
      | _ => none)).length ≤ as.length ∧ (((as.map fun a => Expr.Name a.1 a.2).filterMap (fun x => match x with
      | Expr.Name id pos => if (env.kindOf id == some NameKind.local && pos.line == L) = true then some id else none
      | _ => none)).length = as.length → (as.map fun a => Expr.Name a.1 a.2).filterMap (fun x => match x with
      | Expr.Name id pos => if (env.kindOf id == some NameKind.local && pos.line == L) = true then some id else none
      | _ => none) = as.map (·.1))
  | [] => ⟨by simp, fun _ => rfl⟩
  | a :: as => by
    obtain ⟨h1, h2⟩ := pick_names (env := env) L as
    rw [List.map_cons, List.filterMap_cons]
    dsimp only
    by_cases q : (env.kindOf a.1 == some NameKind.local && a.2.line == L) = true
    · rw [if_pos q]
      simp only [List.length_cons, List.map_cons]
      refine ⟨by (first | lia | omega), fun e => ?_⟩
      rw [h2 (by (first | lia | omega))]
    · rw [if_neg q]
      simp only [List.length_cons]
      exact ⟨by (first | lia | omega), fun e => by (first | lia | omega)⟩

theorem notAlone {es : List Expr} (h : es.any notConst = true) : es.all (constantsAlone 8) = false := by
  obtain ⟨e, he, h⟩ := List.any_eq_true.mp h
  refine Bool.eq_false_iff.mpr fun q => ?_
  have := List.all_eq_true.mp q e he
  cases e <;> first | exact Bool.noConfusion h | exact Bool.noConfusion this | (simp [constantsAlone] at this)
/-- whether the stores of a written tuple are turned about -/
theorem swap_case {env : Env} {as : List (Str × Pos)} {es : List Expr} {k k' : Nat} {p p' : Pos} (hok : okEs es = true) (hnc : es.any notConst = true) :
    swappedStores [.Tuple (as.map fun a => Expr.Name a.1 a.2) k p] (.Tuple es k' p') env = pure none ∨ ((as.map (·.1)).Nodup ∧ swappedStores [.Tuple (as.map fun a => Expr.Name a.1 a.2) k p] (.Tuple es k' p') env = pure (some (as.map (·.1)))) := by
  unfold swappedStores
  dsimp only
  split
  · exact .inl rfl
  split
  · exact .inl rfl
  split
  · exact .inl rfl
  rename_i hn
  split
  · exact .inl rfl
  rw [notAlone hnc]
  simp only [Bool.or_eq_true, bne_iff_ne, ne_eq, not_or, Decidable.not_not] at hn
  obtain ⟨h1, h2⟩ := hn
  have e := (pick_names (env := env) _ as).2 (by rw [List.length_map] at h1; exact h1)
  refine .inr ?_
  rw [if_neg Bool.false_ne_true]
  have e' := e
  rw [← e']
  exact ⟨(dups_le _ _ (Nat.le_refl _)).2 h2, rfl⟩
end
end Mine

set_option maxRecDepth 100000
namespace Mine
open PySem PySem.W PySem.Calls PyProof.Rows PySem.Spec
open PySem.W.Fast (sEq sEq_iff)

section
variable {c : Cx} {K : Frag} {f : Fm} {P P' PI PI' : Prt} {m m' : Mp} {g g' : G} {ds ds' es : List V} {vs vs' ws : List Value} {s s' : Shared} {n N : Nat} {r : Rc} {sx : SX}

theorem Reps.rev {Pr : Params} {z : Heap} {ws : List Value} {es : List V} (h : Reps Pr z ws es) : Reps Pr z ws.reverse es.reverse := by
  induction h with
  | nil => exact .nil
  | cons a _ ih => rw [List.reverse_cons, List.reverse_cons]; exact ih.app (.cons a .nil)

theorem flow_next {Q : QX} : GivesM c f P g ds vs (fun m' => Q .next m' g) s → flowIs c f P ds vs Q .next s := fun ⟨m', S, q⟩ => ⟨m', g, S, q⟩

theorem ok_AssignTup (O : RcOk c N r n) (C : Scp c N sx f) (R : Room f.A (N + n)) {ts es' : List Expr} {xs : List Str} {k k' : Nat} {p p' pos : Pos} {Q : QX} (hn : namesOf ts = some xs)
    (h : bB (es'.any notConst && okEs es' && Nat.ble xs.length 20) (vEsM r sx m xs es' g fun vs g => vStoreAll xs vs m fun m => Q .next m g)) : ExP c f m g (exec (.Assign [.Tuple ts k p] (.Tuple es' k' p') pos) f.env) Q := fun P ds vs s S => by
  obtain ⟨hb, h⟩ := bB_inv h
  obtain ⟨hb, hsz⟩ := Bool.and_eq_true_iff.mp hb
  obtain ⟨hnc, hok⟩ := Bool.and_eq_true_iff.mp hb
  replace hsz := Nat.le_of_ble_eq_true hsz
  obtain ⟨as, rfl, rfl⟩ := namesOf_inv hn
  have ev : ∀ {Q' : Value → Shared → Prop}, (∀ ws es g' s' T, ws.length = es.length → Sat c f P m g' (es ++ ds) (ws ++ vs) s' → s'.heap.IsTuple T ws.toArray → vStoreAll (as.map (·.1)) es m (fun m => Q .next m g') → Q' (.ref T) s') →
      wpAny (mdl c) f.A (eval (.Tuple es' k' p') f.env) Q' no s := fun {Q'} fin => by
    refine Tuple_ (wpAny_mono (ok_vEsM O C R hok h P ds vs s S) (fun ws s' q => ?_) no_imp)
    obtain ⟨es, g', S', hl, q⟩ := q
    refine wpAny_newTuple ?_ ?_
    · exact fin ws es g' _ _ hl (S'.grow (tk := s'.toks) fun b o e => Heap.get?_push_of_some _ e) ⟨_, Heap.get?_push_size _ rfl, rfl, 0, rfl⟩ q
    · have := (vStoreAll_iff.mp q).1
      exact sz_le (by (first | lia | omega))
  rcases swap_case (env := f.env) (as := as) (es := es') (k := k) (k' := k') (p := p) (p' := p') hok hnc with hw | ⟨nd, hw⟩
  · refine Assign_Tuple (ev fun ws es g' s' T hl S' ht q => ?_) rfl hw
    obtain ⟨a1, a2, a3⟩ := assignEach_names (env := f.env) as
    have hlen := (vStoreAll_iff.mp q).1
    refine wpAny_assign_Tuple R.h ht (by rw [a2]; simp at hlen ⊢; (first | lia | omega)) a3 fun h' hx => ?_
    rw [a1]
    refine wpAny_mono (storeAll_go (tr := fun (a : Str × Pos) v => assign (.Name a.1 a.2) f.env v) (nm := fun a : Str × Pos => a.1) (fun a v s Q' hq => wpAny_assign_Name hq) q hl (S'.grow (h' := h') (tk := s'.toks) fun b o e => hx b o (Nat.ne_of_lt (Heap.lt_size e)) e)) (fun _ s'' q => flow_next q) no_imp
  · refine Assign_Tuple_swapped (ev fun ws es g' s' T hl S' ht q => ?_) rfl hw
    have hlen := (vStoreAll_iff.mp q).1
    have e : (as.map (·.1)).length = ws.toArray.size := by simp at hlen ⊢; (first | lia | omega)
    rw [e]
    refine wpAny_unpackItems_tuple R.h ht fun h' hx => ?_
    have S'' := S'.grow (h' := h') (tk := s'.toks) fun b o e => hx b o (Nat.ne_of_lt (Heap.lt_size e)) e
    have q' := vStoreAll_rev nd q
    refine wpAny_mono (storeAll_go (tr := fun n v => bindName f.env n v) (nm := id) (as := (as.map (·.1)).reverse) (es := es.reverse) (ws := ws.reverse) (fun a v s Q' hq => wpAny_bindName hq) (by simpa using q') (by simp [hl]) (S''.restack fun rr => ?_)) (fun _ s'' q => flow_next q) no_imp
    obtain ⟨r1, r2⟩ := Reps.split hl rr
    exact r1.rev.app r2

theorem kinds_sole {t v : Expr} {line : Nat} {env : Env} : swapsWithSole [t] v line env = swapsWith v (some t) line env := rfl

/-- what a call gives is taken apart -/
theorem ok_AssignCall (O : RcOk c N r n) (C : Scp c N sx f) (R : Room f.A (N + n)) {ts args : List Expr} {fe : Expr} {kw : List Keyword} {cp : Pos} {xs : List Str} {k : Nat} {p pos : Pos} {Q : QX} (hn : namesOf ts = some xs)
    (h : r.E sx m (.Call fe args kw cp) false g fun v g => (match v with
          | .d (.tuple ys) => vStoreAll xs (ys.map .d) m fun m => Q .next m g
          | .d (.list ys) => vStoreAll xs (ys.map .d) m fun m => Q .next m g
          | _ => False)) : ExP c f m g (exec (.Assign [.Tuple ts k p] (.Call fe args kw cp) pos) f.env) Q := fun P ds vs s S => by
  obtain ⟨as, rfl, rfl⟩ := namesOf_inv hn
  refine Assign_Tuple (wpAny_mono (O.E C R h P ds vs s S) (fun v s₁ q => ?_) no_imp) rfl rfl
  obtain ⟨d, g', S', q⟩ := q
  obtain ⟨a1, a2, a3⟩ := assignEach_names (env := f.env) as
  have fin : ∀ {ws : Array Value} {ys : List PyData} {h' : Heap}, RdAll (fz s₁.heap (muts f P g')) ws.toList ys → (∀ b o, s₁.heap.get? b = some o → h'.get? b = some o) → vStoreAll (as.map (·.1)) (ys.map .d) m (fun m => Q .next m g') →
      wpAny (mdl c) f.A (assignInOrder ((assignEach (as.map fun a => Expr.Name a.1 a.2) f.env).map (·.2)) ws.toList) (fun _ => flowIs c f P ds vs Q .next) no { s₁ with heap := h' } := fun {ws ys h'} hr hx q => by
    rw [a1]
    have hl := hr.length
    have S1 := S'.pop.grow (tk := s₁.toks) hx
    have z := S'.pop.fz_grow hx
    refine wpAny_mono (storeAll_go (tr := fun (a : Str × Pos) v => assign (.Name a.1 a.2) f.env v) (nm := fun a : Str × Pos => a.1) (fun a v s Q' hq => wpAny_assign_Name hq) q (by simpa using hl) (S1.restack fun rr => (reps_d.mpr (hr.keeps z)).app rr)) (fun _ s'' q => flow_next q) no_imp
  cases d with
  | d x =>
    cases x with
    | tuple ys =>
      obtain ⟨l, ws, rfl, ⟨o, e1, e2, e3⟩, hr⟩ := rd_tuple S'.top
      have ht : s₁.heap.IsTuple l ws := ⟨o, fz_in _ _ e1, e2, e3⟩
      have hlen := (vStoreAll_iff.mp q).1
      have hl := hr.length
      refine wpAny_assign_Tuple R.h ht (by rw [a2]; simp at hlen hl ⊢; (first | lia | omega)) a3 fun h' hx => ?_
      exact fin hr (fun b o e => hx b o (Nat.ne_of_lt (Heap.lt_size e)) e) q
    | list ys =>
      obtain ⟨l, ws, rfl, ⟨o, e1, e2, e3⟩, hr⟩ := rd_list S'.top
      have ht : s₁.heap.IsList l ws := ⟨o, fz_in _ _ e1, e2, e3⟩
      have hlen := (vStoreAll_iff.mp q).1
      have hl := hr.length
      rw [PyProof.Rows.assign_Tuple]
      refine wpAny_bind (wpAny_standAt ?_)
      unfold unpack
      have e : (assignEach (as.map fun a => Expr.Name a.1 a.2) f.env).length = ws.size := by rw [a2]; simp at hlen hl ⊢; (first | lia | omega)
      rw [e, a3]
      refine wpAny_bind (hold (kun_itemsOf R.h ht fun h' hx => ?_))
      exact fin hr (fun b o e => hx b o (Nat.ne_of_lt (Heap.lt_size e)) e) q
    | _ => cases q
  | _ => cases q

theorem ok_vFreeze {v : Value} {u : V} {k : V → G → Prop} (S : Sat c f P m g (u :: ds) (v :: vs) s) (h : vFreeze g u k) : ∃ u' g', Sat c f P m g' (u' :: ds) (v :: vs) s ∧ k u' g' := by
  cases u with
  | loc o i a =>
    cases o with
    | false => cases h
    | true =>
      unfold vFreeze at h
      dsimp only at h
      split at h
      · rename_i p hp
        obtain ⟨p1, p2⟩ := p
        dsimp only at h
        split at h
        · rename_i xs
          obtain ⟨rfl, h⟩ := h
          obtain ⟨S', q⟩ := S.freeze hp
          obtain rfl : v = .ref p1 := S.top
          exact ⟨_, _, S'.pop.push2 q, h⟩
        · exact ⟨_, _, S, h⟩
        · cases h
      · cases h
  | d x => exact ⟨_, _, S, h⟩
  | inst o i C dx => exact ⟨_, _, S, h⟩
  | cset b => exact ⟨_, _, S, h⟩
  | cstr b ss => exact ⟨_, _, S, h⟩
  | fn a => exact ⟨_, _, S, h⟩
  | bi b => exact ⟨_, _, S, h⟩
end
end Mine

set_option maxRecDepth 100000
namespace Mine
open PySem PySem.W PySem.Calls PyProof.Rows PySem.Spec
open PySem.W.Fast (sEq sEq_iff)
section
variable {c : Cx} {K : Frag} {f : Fm} {P P' PI PI' : Prt} {m m' : Mp} {g g' : G} {ds ds' es : List V} {vs vs' ws : List Value} {s s' : Shared} {n N : Nat} {r : Rc} {sx : SX}

/-- a new list takes an elder one's place in a ledger -/
theorem Sat.swapIn {b : Bool} {i : Nat} {a a' : Addr} {ao : AO} {k : Nat} (S : Sat c f ((a', plainL #[] k) :: P) m g ds vs s) (hi : lget (g.sel b) i = some (a, ao)) : Sat c f P m (g.setL b (lset (g.sel b) i (a', .list []))) ds vs s := by
  obtain ⟨pre, post, e, kk⟩ := list_split hi
  have hp := S.prot _ (.head _)
  have el : lset (g.sel b) i (a', .list []) = pre ++ (a', AO.list []) :: post := kk _
  have cnt : ∀ x, (muts f P (g.setL b (lset (g.sel b) i (a', .list [])))).count x ≤ (muts f ((a', plainL #[] k) :: P) g).count x := fun x => by
    have e1 : lv (lset (g.sel b) i (a', .list [])) = lv pre ++ a' :: lv post := by rw [el, lv_append, lv_cons_live rfl]
    have e2 : (lv (g.sel b)).count x ≥ (lv pre ++ lv post).count x := by
      rw [e, lv_append]
      cases h : ao.live with
      | true => rw [lv_cons_live h]; simp only [List.count_append, List.count_cons]; (first | lia | omega)
      | false => rw [lv_cons_gone h]; exact Nat.le_refl _
    cases b with
    | true =>
      have e3 : (g.setL true (lset (g.sel true) i (a', .list []))).own = lset (g.sel true) i (a', .list []) := rfl
      have e4 : (g.setL true (lset (g.sel true) i (a', .list []))).out = g.out := rfl
      unfold muts
      rw [e3, e4, e1]
      have e5 : g.sel true = g.own := rfl
      rw [e5] at e2
      simp only [List.count_append, List.count_cons, List.map_cons, List.cons_append] at e2 ⊢
      (first | lia | omega)
    | false =>
      have e3 : (g.setL false (lset (g.sel false) i (a', .list []))).out = lset (g.sel false) i (a', .list []) := rfl
      have e4 : (g.setL false (lset (g.sel false) i (a', .list []))).own = g.own := rfl
      unfold muts
      rw [e3, e4, e1]
      have e5 : g.sel false = g.out := rfl
      rw [e5] at e2
      simp only [List.count_append, List.count_cons, List.map_cons, List.cons_append] at e2 ⊢
      (first | lia | omega)
  have sub : ∀ x, x ∈ muts f P (g.setL b (lset (g.sel b) i (a', .list []))) → x ∈ muts f ((a', plainL #[] k) :: P) g := fun x hx => by
    rw [← List.count_pos_iff] at hx ⊢
    exact Nat.lt_of_lt_of_le hx (cnt x)
  have new : ∀ z h, h.get? a' = some (plainL #[] k) → AOIs c z h a' (.list []) := fun z h e => ⟨#[], k, e, .nil⟩
  have mem : ∀ (z : Heap) (q : ∀ p ∈ g.sel b, AOIs c z s.heap p.1 p.2), ∀ p ∈ lset (g.sel b) i (a', .list []), AOIs c z s.heap p.1 p.2 := fun z q p hq => by
    rw [el] at hq
    rcases List.mem_append.mp hq with hq | hq
    · exact q p (by rw [e]; exact List.mem_append_left _ hq)
    · rcases List.mem_cons.mp hq with rfl | hq
      · exact new _ _ hp
      · exact q p (by rw [e]; exact List.mem_append_right _ (.tail _ hq))
  have S' : Sat c f P m (g.setL b (lset (g.sel b) i (a', .list []))) ds vs { s with heap := s.heap, toks := s.toks } := by
    refine S.change (fun x o hx _ q => hx (sub x q)) (fun x o hx e => e) (fun p hp => S.prot p (.tail _ hp)) (fun z => ?_) (fun z => ?_) (fun z => S.frame.move z (fun o e => e) fun _ _ o _ e => e)
      (List.nodup_iff_count.mpr fun x => Nat.le_trans (cnt x) (List.nodup_iff_count.mp S.nodup x)) (fun x hx => S.live x (sub x hx)) (fun z rr => rr.keeps z)
    · cases b with
      | true => exact mem _ fun p hp => (S.own p hp).move z fun o e => e
      | false => exact fun p hp => (S.own p hp).move z fun o e => e
    · cases b with
      | true => exact fun p hp => (S.out p hp).move z fun o e => e
      | false => exact mem _ fun p hp => (S.out p hp).move z fun o e => e
  exact S'

theorem lset_some {l : Led} {i j : Nat} {p : Addr × AO} (h : (lget l i).isSome = true) : (lget (lset l j p) i).isSome = true := by
  unfold lget lset at *
  rw [List.getElem?_set]
  split
  · rename_i e
    subst e
    obtain ⟨q, hq⟩ := Option.isSome_iff_exists.mp h
    have := (List.getElem?_eq_some_iff.mp hq).1
    simp [this]
  · exact h
theorem setAttr_keep {b : Bool} {i n : Nat} {C dx : Addr} {name : Str} {x : V} {Q : G → Prop} (hs : (lget (g.sel b) i).isSome = true) (h : vSetAttr (.inst b n C dx) name x g Q) : vSetAttr (.inst b n C dx) name x g (fun g' => (lget (g'.sel b) i).isSome = true ∧ Q g') := by
  unfold vSetAttr at h ⊢
  dsimp only at h ⊢
  split at h
  · split at h
    · refine ⟨h.1, ?_, h.2⟩
      cases b with
      | true => exact lset_some (l := g.own) hs
      | false => exact lset_some (l := g.out) hs
    · cases h
  · cases h

theorem ok_AssignList (W : Wd c K) (C : Scp c N sx f) {y name : Str} {yp lp ap pos : Pos} {Q : QX} (h : vName sx m y g fun u g => vListField u name g fun g => Q .next m g) :
    ExP c f m g (exec (.Assign [.Attribute (.Name y yp) name ap] (.List [] lp) pos) f.env) Q := fun P ds vs s S => by
  refine plainObj_wpAny_Assign_Attribute (List_ (wpAny_items_nil (wpAny_newList ?_ (Nat.zero_le _))))
  have S₁ := S.protect (tk := s.toks) (a := s.heap.objs.size) (o := plainL #[] 0) get_none (fun x o' e => Heap.get?_push_of_some _ e) (Heap.get?_push_size _ rfl)
  refine wpAny_mono (ok_Name W C h _ _ _ _ S₁) (fun ov s₂ q => ?_) no_imp
  obtain ⟨u, g₁, S₂, q⟩ := q
  generalize s.heap.objs.size = a' at S₂ ⊢
  have push : ∀ x : V, (∀ z, RepV c.w.params z (.ref a') x) → Sat c f ((a', plainL #[] 0) :: P) m g₁ (u :: x :: ds) (ov :: .ref a' :: vs) s₂ := fun x hx => S₂.restack fun rr => by
    cases rr with
    | cons r1 rr => exact .cons r1 (.cons (hx _) rr)
  unfold vListField at q
  split at q
  · rename_i b n' Cc dx
    split at q
    · rename_i p hp
      split at q
      · rename_i fs hfs
        split at q
        · rename_i old hold
          split at q
          · rename_i b' i a
            obtain ⟨⟨rfl, hne, hsome⟩, q⟩ := q
            refine wpAny_mono (op_setAttr W.ok W.X (push (.loc b i a') fun z => rfl) (setAttr_keep hsome (q a'))) (fun _ s₃ q => ?_) no_imp
            obtain ⟨g₂, S₃, hs, q⟩ := q
            obtain ⟨⟨a2, ao2⟩, hi2⟩ := Option.isSome_iff_exists.mp hs
            exact ⟨m, _, S₃.swapIn hi2, q⟩
          · cases q
        · obtain ⟨rfl, q⟩ := bB_inv q
          refine wpAny_mono (op_setAttr W.ok W.X (push (.loc true g₁.own.length a') fun z => rfl) (q a')) (fun _ s₃ q => ?_) no_imp
          obtain ⟨g₂, S₃, q⟩ := q
          have hp' := S₃.prot _ (.head _)
          have S₄ := S₃.unprotect (ao := .list []) (ds' := ds) (vs' := vs) (h' := s₃.heap) (tk := s₃.toks) rfl (Heap.SameBut.refl ..) ⟨_, hp'⟩ (fun z => ⟨#[], 0, hp', .nil⟩) fun z hz rr => rr.keeps hz
          exact ⟨m, _, S₄.pop, q⟩
      · cases q
    · cases q
  · cases q
end
end Mine

set_option maxRecDepth 100000
namespace Mine
open PySem PySem.W PySem.Calls PyProof.Rows PySem.Spec
open PySem.W.Fast (sEq sEq_iff)
section
variable {c : Cx} {K : Frag} {f : Fm} {P P' PI PI' : Prt} {m m' : Mp} {g g' : G} {ds ds' es : List V} {vs vs' ws : List Value} {s s' : Shared} {n N : Nat} {r : Rc} {sx : SX}

theorem flow_mono {Q Q' : QX} (h : ∀ fl m g, Q fl m g → Q' fl m g) {fl : Flow} (x : flowIs c f P ds vs Q fl s) : flowIs c f P ds vs Q' fl s := by
  cases fl with
  | next => obtain ⟨m, g, S, q⟩ := x; exact ⟨m, g, S, h _ _ _ q⟩
  | ret v => obtain ⟨d, m, g, S, q⟩ := x; exact ⟨d, m, g, S, h _ _ _ q⟩
  | _ => cases x

theorem ok_vXs (O : RcOk c N r n) (C : Scp c N sx f) (R : Room f.A (N + n)) : ∀ {sts : List Stmt} {m : Mp} {g : G} {Q : QX}, vXs r sx sts m g Q → ExP c f m g (execs sts f.env) Q
  | [], m, g, Q, h => fun P ds vs s S => wpAny_execs_nil ⟨m, g, S, h⟩
  | st :: rest, m, g, Q, h => fun P ds vs s S => by
    refine wpAny_execs_cons (wpAny_mono (O.X C R h P ds vs s S) (fun fl s' q => ?_) no_imp)
    cases fl with
    | next => obtain ⟨m', g', S', q⟩ := q; exact ok_vXs O C R q P ds vs s' S'
    | ret v => obtain ⟨d, m', g', S', q⟩ := q; exact ⟨d, m', g', S', q⟩
    | _ => cases q

theorem vJoin_inv : ∀ {xs : List Str} {m : Mp} {k : Mp → Prop}, vJoin xs m k → ∃ m', k m'
  | [], m, k, h => ⟨m, h⟩
  | x :: xs, m, k, h => by
    obtain ⟨i, h⟩ := h
    exact vJoin_inv h

theorem ok_If (O : RcOk c N r n) (C : Scp c N sx f) (R : Room f.A (N + n)) {t : Expr} {a b : List Stmt} {p : Pos} {Q : QX} (h : stepX r sx (.If t a b p) m g Q) : ExP c f m g (exec (.If t a b p) f.env) Q := fun P ds vs s S => by
  refine wpAny_If (wpAny_mono (O.T C R h P ds vs s S) (fun c' s₁ q => ?_) no_imp)
  obtain ⟨g₁, S₁, q⟩ := q
  split at q
  · cases c' with
    | true => rw [if_pos rfl]; exact ok_vXs O C R (q) P ds vs s₁ S₁
    | false => rw [if_neg Bool.false_ne_true]; exact ok_vXs O C R (q) P ds vs s₁ S₁
  · obtain ⟨m', q, hQ⟩ := vJoin_inv q
    have fin : ∀ {fl : Fl} {m₁ : Mp} {g₂ : G}, (isNext fl ∧ m₁ = m' ∧ g₂ = g₁) → Q fl m₁ g₂ := fun {fl m₁ g₂} h => by
      obtain ⟨h1, rfl, rfl⟩ := h
      cases fl with
      | next => exact hQ
      | ret v => cases h1
    cases c' with
    | true => rw [if_pos rfl]; exact wpAny_mono (ok_vXs O C R (q) P ds vs s₁ S₁) (fun fl s' x => flow_mono (fun _ _ _ => fin) x) no_imp
    | false => rw [if_neg Bool.false_ne_true]; exact wpAny_mono (ok_vXs O C R (q) P ds vs s₁ S₁) (fun fl s' x => flow_mono (fun _ _ _ => fin) x) no_imp

theorem ok_While (O : RcOk c N r n) (C : Scp c N sx f) (R : Room f.A (N + n)) {t : Expr} {b o : List Stmt} {p : Pos} {Q : QX} (h : stepX r sx (.While t b o p) m g Q) : ExP c f m g (exec (.While t b o p) f.env) Q := fun P ds vs s S => by
  unfold stepX at h
  dsimp only at h
  split at h
  · obtain ⟨a, k, e, hI, turn⟩ := h
    refine wpAny_While (codeAny_whileLoop (fun k s' => ∃ a, (sx.winv p.line).I a k ∧ Sat c f P ((sx.winv p.line).st a).1 ((sx.winv p.line).st a).2 ds vs s') ?_ k ⟨a, hI, by rw [e]; exact S⟩)
    rintro k s' ⟨a, hI, S'⟩
    refine wpAny_mono (O.T C R (turn a k hI) P ds vs s' S') (fun c' s₁ q => ?_) no_imp
    obtain ⟨g₁, S₁, q⟩ := q
    cases c' with
    | true =>
      rw [if_pos rfl]
      refine wpAny_mono (ok_vXs O C R (q) P ds vs s₁ S₁) (fun fl s₂ x => ?_) no_imp
      cases fl with
      | next =>
        obtain ⟨m₂, g₂, S₂, a', k', e', hlt, hI'⟩ := x
        exact ⟨k', hlt, a', hI', by rw [e']; exact S₂⟩
      | ret v => obtain ⟨d, m₂, g₂, S₂, q⟩ := x; exact ⟨d, m₂, g₂, S₂, q⟩
      | _ => cases x
    | false =>
      rw [if_neg Bool.false_ne_true]
      exact wpAny_execs_nil ⟨_, _, S₁, q⟩
  · cases h

inductive ForInv (c : Cx) (f : Fm) (J : Inv) (xs : List PyData) (St : Nat → Prt → Prop) (P : Prt) (es ds : List V) (ws vs : List Value) (k : Nat) (s' : Shared) : Prop
  | mk (i : Nat) (PI : Prt) (a : J.α) (e : k = xs.length + 1 - i) (hi : i ≤ xs.length) (hI : J.I a (xs.drop i)) (hSt : St i PI) (S : Sat c f (PI ++ P) (J.st a).1 (J.st a).2 (es ++ ds) (ws ++ vs) s') : ForInv c f J xs St P es ds ws vs k s'
theorem ok_For (W : Wd c K) (O : RcOk c N r n) (C : Scp c N sx f) (R : Room f.A (N + n)) {t it : Expr} {b o : List Stmt} {p : Pos} {Q : QX} (h : stepX r sx (.For t it b o p) m g Q) : ExP c f m g (exec (.For t it b o p) f.env) Q := fun P ds vs s S => by
  unfold stepX at h
  dsimp only at h
  split at h
  · obtain ⟨names, hT, h⟩ := oB_inv h
    obtain ⟨hit, hfold⟩ := ok_vIter W O C R h S
    refine wpAny_For (wpAny_mono hit (fun x s₁ h₁ => wpAny_mono h₁ (fun iv s₂ h₂ => ?_) no_imp) no_imp) hfold
    obtain ⟨I, xs, still, g₂, es, ws, PI, St, rfl, hl, q, It, hSt, hx, S₂⟩ := h₂
    refine hide fun X kk => ?_
    obtain ⟨p₀, a, e, hI, turn, done⟩ := q
    refine kk ?_
    clear kk
    refine codeAny_forLoop_any (ForInv c f ((sx.inv p.line).J p₀) xs St P es ds ws vs) ?_ (xs.length + 1)
      ⟨0, PI, a, rfl, Nat.zero_le _, hI, hSt, by rw [e]; exact S₂⟩
    rintro k s' ⟨i, PI', a, rfl, hi, hI, hSt', S'⟩
    cases hy : xs[i]? with
    | none =>
      have hle : xs.length ≤ i := List.getElem?_eq_none_iff.mp hy
      have hd : xs.drop i = [] := List.drop_eq_nil_of_le hle
      rw [hd] at hI
      obtain ⟨st, hQ⟩ := done a hI
      refine wpAny_mono ((It i f _ _ _ _ _ _ _ rfl hSt' S' st).2.1 hy) (fun r s₁ q => ?_) no_imp
      obtain ⟨rfl, S₁⟩ := q
      exact wpAny_execs_nil ⟨_, _, S₁.restack fun rr => (Reps.split hl rr).2, hQ⟩
    | some y =>
      have hlt : i < xs.length := (List.getElem?_eq_some_iff.mp hy).1
      have hd : xs.drop i = y :: xs.drop (i + 1) := by
        rw [List.getElem?_eq_some_iff] at hy
        rw [← hy.2]
        exact List.drop_eq_getElem_cons hlt
      rw [hd] at hI
      obtain ⟨st, hv⟩ := turn a y _ hI
      refine wpAny_mono ((It i f _ _ _ _ _ _ _ rfl hSt' S' st).1 y hy) (fun r s₁ q => ?_) no_imp
      obtain ⟨v, rfl, q⟩ := q
      refine wpAny_mono q (fun _ s₂' q => ?_) no_imp
      obtain ⟨PI'', hSt'', S₁⟩ := q
      refine wpAny_mono (op_target R hT S₁ hv) (fun _ s₃' q => ?_) no_imp
      obtain ⟨m₁, S₂', q⟩ := q
      refine wpAny_mono (ok_vXs O C R q _ _ _ _ S₂') (fun fl s₄ x => ?_) no_imp
      cases fl with
      | next =>
        obtain ⟨m₂, g₂', S₃, a', e', hI'⟩ := x
        exact ⟨_, Nat.sub_lt_sub_left (Nat.lt_succ_of_lt hlt) (Nat.lt_succ_self i), i + 1, PI'', a', rfl, hlt, hI', hSt'', by rw [e']; exact S₃⟩
      | ret v' =>
        obtain ⟨d, m₂, g₂', S₃, q⟩ := x
        exact ⟨d, m₂, g₂', S₃.dropP0.restack fun rr => by
          cases rr with
          | cons r1 rr => exact .cons r1 (Reps.split hl rr).2, q⟩
      | _ => cases x
  · cases h

theorem swaps_not {e t : Expr} {line : Nat} {env : Env} (h : isComp e = false) : swapsWith e (some t) line env = pure false := by cases e <;> first | rfl | cases h
theorem swaps_plain {e t : Expr} {line : Nat} {env : Env} (h : okAsg e = true) (hn : ∀ a b d p, e ≠ .ListComp a b d p) : swapsWith e (some t) line env = pure false := by cases e <;> first | rfl | exact absurd rfl (hn _ _ _ _) | cases h
theorem ok_Assign1 (W : Wd c K) (O : RcOk c N r n) (C : Scp c N sx f) (R : Room f.A (N + n)) {x : Str} {xp pos : Pos} {e : Expr} {own : Bool} {Q : QX} (h : bB (okAsg e) (r.E sx m e own g fun v g => vStore x v m fun m => Q .next m g)) :
    ExP c f m g (exec (.Assign [.Name x xp] e pos) f.env) Q := fun P ds vs s S => by
  have hok := (bB_inv h).1
  replace h := (bB_inv h).2
  have plain : swapsWith e (some (.Name x xp)) pos.line f.env = pure false → wpAny (mdl c) f.A (exec (.Assign [.Name x xp] e pos) f.env) (flowIs c f P ds vs Q) no s := fun hs => by
    refine wpAny_Assign_Name (wpAny_mono (O.E C R h P ds vs s S) (fun v s₁ q => ?_) no_imp) hs
    obtain ⟨d, g₁, S₁, q⟩ := q
    exact wpAny_mono (op_store S₁ q) (fun _ s₂ q => flow_next q) no_imp
  by_cases hE : ∃ elt gens scope lp, e = .ListComp elt gens scope lp
  · obtain ⟨elt, gens, scope, lp, rfl⟩ := hE
    have hb : ∃ b, swapsWith (.ListComp elt gens scope lp) (some (.Name x xp)) pos.line f.env = pure b := ⟨_, rfl⟩
    obtain ⟨b, hb⟩ := hb
    cases b with
    | false => exact plain hb
    | true =>
      rw [exec_Assign_Name_used _ _ _ _ hb]
      refine wpAny_bind (wpAny_standAt (wpAny_bind (wpAny_mono (O.U C R h P ds vs s (assign (.Name x xp) f.env) (fun m g => Q .next m g) S fun P' v d g' s' S' q => ?_) (fun _ s' q => wpAny_pure ?_) no_imp)))
      · refine wpAny_assign_Name (wpAny_mono (op_store S' q) (fun _ s₂ q => ?_) no_imp)
        obtain ⟨m', S₂, q⟩ := q
        exact ⟨m', g', S₂, q⟩
      · obtain ⟨m', g', S', q⟩ := q
        exact ⟨m', g', S', q⟩
  · exact plain (swaps_plain hok fun a b d p q => hE ⟨a, b, d, p, q⟩)

theorem ok_stepX (W : Wd c K) (O : RcOk c N r n) (C : Scp c N sx f) (R : Room f.A (N + n)) {st : Stmt} {Q : QX} (h : stepX r sx st m g Q) : ExP c f m g (exec st f.env) Q := by
  cases st with
  | Expr e pos =>
    cases e with
    | Call fe args kw cp =>
      intro P ds vs s S
      refine wpAny_Expr_any (wpAny_mono (O.E C R h P ds vs s S) (fun v s₁ q => ?_) no_imp) (by unfold interactive; rw [S.frame.fn]; rfl) rfl
      obtain ⟨d, g₁, S₁, q⟩ := q
      exact ⟨m, g₁, S₁.pop, q⟩
    | _ => cases h
  | Return e pos =>
    cases e with
    | some e =>
      intro P ds vs s S
      refine wpAny_Return_some (wpAny_mono (O.E C R h P ds vs s S) (fun v s₁ q => ?_) no_imp)
      obtain ⟨d, g₁, S₁, q⟩ := q
      obtain ⟨d', g₂, S₂, q⟩ := ok_vFreeze S₁ q
      exact ⟨d', m, g₂, S₂, q⟩
    | none => cases h
  | Assign ts e pos =>
    cases ts with
    | nil => cases h
    | cons t ts =>
    cases ts with
    | cons _ _ => cases h
    | nil =>
    cases t with
    | Name x xp => exact ok_Assign1 W O C R h
    | Tuple ts k tp =>
      obtain ⟨xs, hn, h⟩ := oB_inv h
      split at h
      · exact ok_AssignTup O C R hn h
      · exact ok_AssignCall O C R hn h
      · cases h
    | Subscript o i sp =>
      replace h : isComp e = false ∧ r.E sx m e false g fun v g => r.E sx m o false g fun u g => r.E sx m i false g fun w g => vSetItem u w v g fun g => Q .next m g := h
      intro P ds vs s S
      refine wpAny_Assign_Subscript (wpAny_mono (O.E C R h.2 P ds vs s S) (fun v s₁ q => ?_) no_imp) (swaps_not h.1)
      obtain ⟨d, g₁, S₁, q⟩ := q
      refine wpAny_mono (O.E C R q P _ _ s₁ S₁) (fun v' s₂ q => ?_) no_imp
      obtain ⟨d', g₂, S₂, q⟩ := q
      refine wpAny_mono (O.E C R q P _ _ s₂ S₂) (fun v'' s₃ q => ?_) no_imp
      obtain ⟨d'', g₃, S₃, q⟩ := q
      refine wpAny_mono (op_setItem S₃ q) (fun _ s₄ q => ?_) no_imp
      obtain ⟨g₄, S₄, q⟩ := q
      exact ⟨m, g₄, S₄, q⟩
    | Attribute o name ap =>
      obtain ⟨hc, h⟩ := h
      split at h
      · split at h
        · exact ok_AssignList W C h
        · cases h
      · intro P ds vs s S
        refine plainObj_wpAny_Assign_Attribute (wpAny_mono (O.E C R h P ds vs s S) (fun v s₁ q => ?_) no_imp) (swaps_not hc)
        obtain ⟨d, g₁, S₁, q⟩ := q
        refine wpAny_mono (O.E C R q P _ _ s₁ S₁) (fun v' s₂ q => ?_) no_imp
        obtain ⟨d', g₂, S₂, q⟩ := q
        refine wpAny_mono (op_setAttr W.ok W.X S₂ q) (fun _ s₃ q => ?_) no_imp
        obtain ⟨g₃, S₃, q⟩ := q
        exact ⟨m, g₃, S₃, q⟩
    | _ => cases h
  | AugAssign t op e pos =>
    unfold stepX at h
    dsimp only at h
    split at h
    · intro P ds vs s S
      refine wpAny_AugAssign_Name (wpAny_mono ((ok_load W C h).1 P ds vs s S) (fun v s₁ q => ?_) no_imp)
      obtain ⟨d, g₁, S₁, q⟩ := q
      refine wpAny_mono (O.E C R q P _ _ s₁ S₁) (fun v' s₂ q => ?_) no_imp
      obtain ⟨d', g₂, S₂, q⟩ := q
      obtain ⟨i, t1, rfl, rfl, q1⟩ := vInt_inv S₂.snd q
      obtain ⟨j, t2, rfl, rfl, q2⟩ := vInt_inv S₂.top q1
      refine wpAny_iadd_int ?_
      exact wpAny_mono (op_store (d := dI (i + j)) S₂.pop2.pushI q2) (fun _ s₃ q => flow_next q) no_imp
    · cases h
  | If t a b p => exact ok_If O C R h
  | While t b o p => exact ok_While O C R h
  | For t it b o p => exact ok_For W O C R h
  | _ => cases h

/-- the checker is right -/
theorem ok_vc (W : Wd c K) (N : Nat) : ∀ n, RcOk c N (vc n) n
  | 0 => ⟨fun _ _ h => h.elim, fun _ _ h => h.elim, fun _ _ h => h.elim, fun _ _ h => h.elim⟩
  | n + 1 => by
    have O := ok_vc W N n
    have le : ∀ {A : Around}, Room A (N + (n + 1)) → Room A (N + n) := fun R => R.le (by (first | lia | omega))
    refine ⟨fun C R h => ok_stepE W O C (le R) h, fun C R h => ok_stepT W O C (le R) h, fun C R h => ok_stepX W O C (le R) h, fun C R h P ds vs s u T S hu => ok_UseComp W O C (le R) h S hu⟩
end
end Mine

set_option maxRecDepth 100000
namespace Mine
open PySem PySem.W PySem.Calls PyProof.Rows PySem.Spec
open PySem.W.Fast (sEq sEq_iff)
section
variable {c : Cx} {K : Frag} {f : Fm} {P P' PI PI' : Prt} {m m' : Mp} {g g' : G} {ds ds' es : List V} {vs vs' ws : List Value} {s s' : Shared} {n N : Nat} {r : Rc} {sx : SX}

/-! what a frame holds, saved on the stack while a callee works -/
noncomputable def aoV : AO → List V
  | .list xs => xs.map V.d
  | .dict fs => fs.map (·.2)
  | .idict fs => fs.map (·.2)
  | .gone => []
theorem kv_save {Pr : Params} {z : Heap} {kvs : List (Str × Value)} {fs : List (Str × V)} (r : KvR Pr z kvs fs) : Reps Pr z (kvs.map (·.2)) (fs.map (·.2)) ∧ ∀ z', Reps Pr z' (kvs.map (·.2)) (fs.map (·.2)) → KvR Pr z' kvs fs := by
  induction r with
  | nil => exact ⟨.nil, fun _ _ => .nil⟩
  | cons a r ih => exact ⟨.cons a ih.1, fun z' h => by cases h with | cons b h => exact .cons b (ih.2 z' h)⟩
theorem ents_save {Pr : Params} {z : Heap} {es : List DictEntry} {fs : List (Str × V)} (r : Ents Pr z es fs) : Reps Pr z (es.map (·.val)) (fs.map (·.2)) ∧ ∀ z', Reps Pr z' (es.map (·.val)) (fs.map (·.2)) → Ents Pr z' es fs := by
  induction r with
  | nil => exact ⟨.nil, fun _ _ => .nil⟩
  | cons a r ih => exact ⟨.cons a ih.1, fun z' h => by cases h with | cons b h => exact .cons b (ih.2 z' h)⟩
theorem ao_save {z h : Heap} {a : Addr} {ao : AO} (q : AOIs c z h a ao) : ∃ us, Reps c.w.params z us (aoV ao) ∧ ∀ z' h', (ao.live = true → ∀ o, h.get? a = some o → h'.get? a = some o) → Reps c.w.params z' us (aoV ao) → AOIs c z' h' a ao := by
  cases ao with
  | list xs =>
    obtain ⟨vs, n, h1, h2⟩ := q
    exact ⟨vs.toList, reps_d.mpr h2, fun z' h' k r => ⟨vs, n, k rfl _ h1, reps_d.mp r⟩⟩
  | dict fs =>
    obtain ⟨kvs, h1, h2⟩ := q
    exact ⟨_, (kv_save h2).1, fun z' h' k r => ⟨kvs, h1.at (k rfl), (kv_save h2).2 z' r⟩⟩
  | idict fs =>
    obtain ⟨es, n, h1, h2⟩ := q
    exact ⟨_, (ents_save h2).1, fun z' h' k r => ⟨es, n, k rfl _ h1, (ents_save h2).2 z' r⟩⟩
  | gone => exact ⟨[], .nil, fun _ _ _ _ => trivial⟩
noncomputable def ledV : Led → List V
  | [] => []
  | p :: l => aoV p.2 ++ ledV l
theorem Reps.len {Pr : Params} {z : Heap} {us : List Value} {es : List V} (h : Reps Pr z us es) : us.length = es.length := by
  induction h with
  | nil => rfl
  | cons _ _ ih => simp [ih]
theorem led_save {z h : Heap} : ∀ {l : Led}, (∀ p ∈ l, AOIs c z h p.1 p.2) → ∃ us, Reps c.w.params z us (ledV l) ∧ ∀ z' h', (∀ p ∈ l, p.2.live = true → ∀ o, h.get? p.1 = some o → h'.get? p.1 = some o) → Reps c.w.params z' us (ledV l) → ∀ p ∈ l, AOIs c z' h' p.1 p.2
  | [], _ => ⟨[], .nil, fun _ _ _ _ p hp => nomatch hp⟩
  | p :: l, hq => by
    obtain ⟨us, r1, k1⟩ := ao_save (hq p (.head _))
    obtain ⟨us', r2, k2⟩ := led_save (l := l) fun p hp => hq p (.tail _ hp)
    refine ⟨us ++ us', r1.app r2, fun z' h' hk r q hq' => ?_⟩
    obtain ⟨a, b⟩ := Reps.split r1.len r
    rcases List.mem_cons.mp hq' with rfl | hq'
    · exact k1 z' h' (hk _ (.head _)) a
    · exact k2 z' h' (fun p hp => hk p (.tail _ hp)) b q hq'
theorem fr_save {Pr : Params} {z h : Heap} {env : Env} (F : FrIs Pr z h env m) : ∃ us, Reps Pr z us (mv m) ∧ ∀ z' h', (∀ o, h.get? env.locals = some o → h'.get? env.locals = some o) → (∀ x cc o, env.cells.lookup x = some cc → h.get? cc = some o → h'.get? cc = some o) → Reps Pr z' us (mv m) → FrIs Pr z' h' env m := by
  obtain ⟨mm, hn, hl⟩ := F.ns
  obtain ⟨us, hu, hr⟩ := us_of (Pr := Pr) (z := z) (h := h) (env := env) (mm := mm) (m := m) (fun x ov hm => (hl x ov hm).2) (fun x ov hm => (F.cells x ov hm).2)
  refine ⟨us, hr, fun z' h' k1 k2 r => ⟨F.fn, F.glob, F.blt, ⟨mm, hn.at' k1, fun x ov hm => ⟨(hl x ov hm).1, fun d hd => ?_⟩⟩, fun x ov hm => ⟨(F.cells x ov hm).1, ?_⟩⟩⟩
  · subst hd
    obtain ⟨u, e, rr⟩ := us_get hu r hm
    exact ⟨u, e.1 rfl, rr⟩
  · obtain ⟨cc, ou, q1, ⟨o, q2, q3⟩, -⟩ := (F.cells x ov hm).2
    refine ⟨cc, ou, q1, ⟨o, k2 _ _ _ q1 q2, q3⟩, fun d hd => ?_⟩
    subst hd
    obtain ⟨u, e, rr⟩ := us_get hu r hm
    obtain ⟨cc', e1, o', e2, e3⟩ := e.2 rfl
    rw [q1] at e1; cases e1
    rw [q2] at e2; cases e2
    rw [q3] at e3; cases e3
    exact ⟨u, rfl, rr⟩

/-- what of a frame stands apart while a callee works -/
noncomputable def frA (f : Fm) (own : Led) : List Addr := lv own ++ (f.env.locals :: f.env.cells.map (·.2))
noncomputable def frP (h : Heap) (f : Fm) (own : Led) : Prt := (frA f own).map fun a => (a, (h.get? a).getD (plainL #[] 0))
theorem frP_fst (h : Heap) (f : Fm) (own : Led) : (frP h f own).map (·.1) = frA f own := by
  unfold frP
  rw [List.map_map]
  conv => rhs; rw [← List.map_id (frA f own)]
  rfl
theorem frA_muts {own : Led} {out : Led} {a : Addr} (h : a ∈ frA f own) : a ∈ muts f P ⟨own, out⟩ := by
  rcases List.mem_append.mp h with h | h
  · exact List.mem_append_right _ (List.mem_append_left _ h)
  · exact List.mem_append_right _ (List.mem_append_right _ (List.mem_append_right _ h))

theorem cnt_callee {f' : Fm} {own out own' : Led} {h : Heap} (x : Addr) : (muts f' (frP h f own ++ P) ⟨own', out⟩).count x = (muts f P ⟨own, out⟩).count x + (lv own').count x + (f'.env.locals :: f'.env.cells.map (·.2)).count x := by
  unfold muts
  rw [List.map_append, frP_fst]
  unfold frA
  simp only [List.count_append, List.count_cons, List.append_assoc]
  (first | lia | omega)

/-- into a callee's frame -/
theorem call_in {f' : Fm} {own out : Led} {h' : Heap} {tk : Tok} {sv : List V} {uv : List Value} (S : Sat c f P m ⟨own, out⟩ ds vs s)
    (hr : Reps c.w.params (fz s.heap (muts f P ⟨own, out⟩)) uv sv) (old : ∀ x o', s.heap.get? x = some o' → h'.get? x = some o')
    (hnew : ∀ a ∈ f'.env.locals :: f'.env.cells.map (·.2), s.heap.get? a = none ∧ ∃ o, h'.get? a = some o) (hnd : (f'.env.locals :: f'.env.cells.map (·.2)).Nodup)
    (hF : (fz s.heap (muts f P ⟨own, out⟩)).StaysIn (fz h' (muts f' (frP s.heap f own ++ P) ⟨[], out⟩)) → FrIs c.w.params (fz h' (muts f' (frP s.heap f own ++ P) ⟨[], out⟩)) h' f'.env m') :
    Sat c f' (frP s.heap f own ++ P) m' ⟨[], out⟩ (sv ++ ds) (uv ++ vs) { s with heap := h', toks := tk } := by
  have pm : ∀ b, b ∈ muts f' (frP s.heap f own ++ P) ⟨[], out⟩ → b ∈ muts f P ⟨own, out⟩ ∨ b ∈ f'.env.locals :: f'.env.cells.map (·.2) := fun b hb => by
    rw [← List.count_pos_iff, cnt_callee] at hb
    have e0 : (lv []).count b = 0 := rfl
    rw [e0] at hb
    rw [← List.count_pos_iff, ← List.count_pos_iff]
    (first | lia | omega)
  refine S.change (fun b o n e q => ?_) (fun b o n e => old _ _ e) (fun p hp => ?_) (fun z p hp => (nomatch hp)) (fun z p hp => (S.out p hp).move z fun o e => old _ _ e) (fun z => hF z) ?_ (fun a ha => ?_) (fun z rr => (hr.keeps z).app (rr.keeps z))
  · rcases pm b q with q | q
    · exact n q
    · rw [(hnew b q).1] at e; cases e
  · rcases List.mem_append.mp hp with q | q
    · obtain ⟨a, ha, rfl⟩ := List.mem_map.mp q
      obtain ⟨o, e⟩ := S.live a (frA_muts ha)
      show h'.get? a = some ((s.heap.get? a).getD _)
      rw [e]
      exact old _ _ e
    · exact old _ _ (S.prot p q)
  · rw [List.nodup_iff_count]
    intro x
    rw [cnt_callee]
    have e0 : (lv []).count x = 0 := rfl
    rw [e0]
    have h1 := List.nodup_iff_count.mp S.nodup x
    have h2 := List.nodup_iff_count.mp hnd x
    by_cases q : x ∈ f'.env.locals :: f'.env.cells.map (·.2)
    · have : x ∉ muts f P ⟨own, out⟩ := fun hx => by obtain ⟨o, e⟩ := S.live x hx; rw [(hnew x q).1] at e; cases e
      rw [List.count_eq_zero.mpr this]; (first | lia | omega)
    · rw [List.count_eq_zero.mpr q]; (first | lia | omega)
  · rcases pm a ha with q | q
    · obtain ⟨o, e⟩ := S.live a q; exact ⟨o, old _ _ e⟩
    · exact (hnew a q).2

theorem shift_rep {Pr : Params} {z : Heap} {v : Value} {k : Nat} : ∀ {d : V}, RepV Pr z v d → RepV Pr z v (d.shift k)
  | .d _, r => r
  | .loc o _ _, r => by cases o <;> exact r
  | .inst o _ _ _, r => by cases o <;> exact r
  | .cset _, r => r
  | .cstr _ _, r => r
  | .fn _, r => r
  | .bi _, r => r
theorem ao_shift {z h : Heap} {a : Addr} {k : Nat} : ∀ {ao : AO}, AOIs c z h a ao → AOIs c z h a (ao.shift k)
  | .list _, q => q
  | .gone, q => q
  | .dict fs, ⟨kvs, h1, h2⟩ => ⟨kvs, h1, by
      clear h1
      induction h2 with
      | nil => exact .nil
      | cons a _ ih => exact .cons (shift_rep a) ih⟩
  | .idict fs, ⟨es, n, h1, h2⟩ => ⟨es, n, h1, by
      clear h1
      induction h2 with
      | nil => exact .nil
      | cons a _ ih => exact .cons (shift_rep a) ih⟩
theorem live_shift {k : Nat} {ao : AO} : (ao.shift k).live = ao.live := by cases ao <;> rfl

theorem lv_shift (k : Nat) : ∀ l : Led, lv (l.map fun p => (p.1, p.2.shift k)) = lv l
  | [] => rfl
  | p :: l => by
    rw [List.map_cons]
    cases h : p.2.live with
    | true => rw [lv_cons_live h, lv_cons_live (p := (p.1, p.2.shift k)) (by rw [live_shift]; exact h), lv_shift k l]
    | false => rw [lv_cons_gone h, lv_cons_gone (p := (p.1, p.2.shift k)) (by rw [live_shift]; exact h), lv_shift k l]

/-- out of it: what it made is handed on, or let go -/
theorem call_out {f' : Fm} {own own' out' ext : Led} {h₀ : Heap} {sv : List V} {uv : List Value} {d d' : V} {v : Value} (hlen : uv.length = sv.length) (hlive : ∀ a ∈ frA f own, ∃ o, h₀.get? a = some o)
    (hown : ∀ z h', (∀ p ∈ own, p.2.live = true → ∀ o, h₀.get? p.1 = some o → h'.get? p.1 = some o) → Reps c.w.params z uv sv → ∀ p ∈ own, AOIs c z h' p.1 p.2)
    (hfr : ∀ z h', (∀ o, h₀.get? f.env.locals = some o → h'.get? f.env.locals = some o) → (∀ x cc o, f.env.cells.lookup x = some cc → h₀.get? cc = some o → h'.get? cc = some o) → Reps c.w.params z uv sv → FrIs c.w.params z h' f.env m)
    (S : Sat c f' (frP h₀ f own ++ P) m' ⟨own', out'⟩ (d :: (sv ++ ds)) (v :: (uv ++ vs)) s) (hd : ∀ z, RepV c.w.params z v d → RepV c.w.params z v d') (hext : ext = [] ∨ ext = own'.map fun p => (p.1, p.2.shift out'.length)) :
    Sat c f P m ⟨own, out' ++ ext⟩ (d' :: ds) (v :: vs) s := by
  have cntx : ∀ x, (lv ext).count x ≤ (lv own').count x := fun x => by
    rcases hext with rfl | rfl
    · exact Nat.zero_le _
    · have := lv_shift out'.length own'
      rw [this]; exact Nat.le_refl _
  have cnt : ∀ x, (muts f P ⟨own, out' ++ ext⟩).count x ≤ (muts f' (frP h₀ f own ++ P) ⟨own', out'⟩).count x := fun x => by
    rw [cnt_callee]
    have := cntx x
    unfold muts
    simp only [lv_append, List.count_append, List.count_cons]
    (first | lia | omega)
  have sub : ∀ x, x ∈ muts f P ⟨own, out' ++ ext⟩ → x ∈ muts f' (frP h₀ f own ++ P) ⟨own', out'⟩ := fun x hx => by
    rw [← List.count_pos_iff] at hx ⊢
    exact Nat.lt_of_lt_of_le hx (cnt x)
  have back : ∀ a ∈ frA f own, ∀ o, h₀.get? a = some o → s.heap.get? a = some o := fun a ha o e => by
    have := S.prot (a, (h₀.get? a).getD (plainL #[] 0)) (List.mem_append_left _ (List.mem_map.mpr ⟨a, ha, rfl⟩))
    rw [e] at this
    exact this
  have st := S.pop.stack
  have S' : Sat c f P m ⟨own, out' ++ ext⟩ (d' :: ds) (v :: vs) { s with heap := s.heap, toks := s.toks } := by
    refine S.change (fun b o n e q => n (sub b q)) (fun b o n e => e) (fun p hp => S.prot p (List.mem_append_right _ hp)) (fun z => ?_) (fun z p hp => ?_) (fun z => ?_) (List.nodup_iff_count.mpr fun x => Nat.le_trans (cnt x) (List.nodup_iff_count.mp S.nodup x)) (fun a ha => S.live a (sub a ha)) (fun z rr => ?_)
    · exact hown _ _ (fun p hp hl o e => back _ (List.mem_append_left _ (mem_lv hp hl)) o e) (((Reps.split hlen st).1).keeps z)
    · rcases List.mem_append.mp hp with q | q
      · exact (S.out p q).move z fun o e => e
      · rcases hext with rfl | rfl
        · cases q
        · obtain ⟨p', hp', rfl⟩ := List.mem_map.mp q
          exact ao_shift ((S.own p' hp').move z fun o e => e)
    · exact hfr _ _ (fun o e => back _ (List.mem_append_right _ (.head _)) o e) (fun x cc o hc e => back _ (List.mem_append_right _ (.tail _ (mem_lookup hc))) o e) (((Reps.split hlen st).1).keeps z)
    · cases rr with
      | cons a rr => exact .cons (hd _ (a.keeps z)) ((Reps.split hlen rr).2.keeps z)
  exact S'
end
end Mine

set_option maxRecDepth 100000
namespace Mine
open PySem PySem.W PySem.Calls PyProof.Rows PySem.Spec
open PySem.W.Fast (sEq sEq_iff)
section
variable {c : Cx} {K : Frag} {f : Fm} {P P' PI PI' : Prt} {m m' : Mp} {g g' : G} {ds ds' es : List V} {vs vs' ws : List Value} {s s' : Shared} {n N : Nat} {r : Rc} {sx : SX}

/-- the checker is right, whatever its fuel -/
theorem ok_vc0 (W : Wd c K) (N : Nat) : ∀ n, RcOk c N (vc n) 0
  | 0 => ⟨fun _ _ h => h.elim, fun _ _ h => h.elim, fun _ _ h => h.elim, fun _ _ h => h.elim⟩
  | n + 1 => by
    have O := ok_vc0 W N n
    refine ⟨fun C R h => ok_stepE W O C R h, fun C R h => ok_stepT W O C R h, fun C R h => ok_stepX W O C R h, fun C R h P ds vs s u T S hu => ok_UseComp W O C R h S hu⟩

inductive FnEx (K : Frag) (a : Addr) (ps : List Str) (dfl : List Value) (body : List Stmt) (scope : Scope) : Prop
  | mk (oc : Value) (od : Option Addr) (osl : Array (Option Value)) (name qual : Str) (params : Arguments) (dV kV doc pm : Value) (an : Option Addr) (cdv ct : Value)
    (ho : K.lookup a = some ⟨oc, od, .func (fnOf name qual params body scope dV kV doc pm an cdv ct), osl⟩) (hcd : codeIn K cdv qual = true)
    (hb : ∀ (ws : List Value) (s : Shared), (ws ++ dfl).length = ps.length → K.In s.heap → BindsTo s (fnOf name qual params body scope dV kV doc pm an cdv ct) ⟨ws, []⟩ (ps.zip (ws ++ dfl))) : FnEx K a ps dfl body scope
/-- a function of the text's -/
structure FnAt (K : Frag) (a : Addr) (ps : List Str) (dfl : List Value) (body : List Stmt) (scope : Scope) : Prop where
  ex : FnEx K a ps dfl body scope
  co : scope.isCoroutine = false
  gen : scope.isGenerator = false
  kind : scope.kind = .function
  nodup : (scope.names.map (·.1)).Nodup
  pk : ∀ x ∈ ps, scope.names.lookup x = some .local ∨ scope.names.lookup x = some .cell
  pn : ps.Nodup

theorem bindL_other {kindOf : Str → Option NameKind} {x : Str} : ∀ {binds : List (Str × Value)} {m : Str → Option Value}, x ∉ binds.map (·.1) → bindL kindOf binds m x = m x
  | [], m, _ => rfl
  | (n, v) :: r, m, h => by
    rw [List.map_cons, List.mem_cons, not_or] at h
    unfold bindL
    rw [bindL_other h.2]
    split
    · simp [h.1]
    · rfl
theorem bindL_in {kindOf : Str → Option NameKind} {x : Str} {v : Value} (hk : kindOf x = some .local) : ∀ {binds : List (Str × Value)} {m : Str → Option Value}, (binds.map (·.1)).Nodup → (x, v) ∈ binds → bindL kindOf binds m x = some v
  | [], m, _, h => nomatch h
  | (n, u) :: r, m, nd, h => by
    rw [List.map_cons] at nd
    obtain ⟨n1, n2⟩ := List.nodup_cons.mp nd
    unfold bindL
    rcases List.mem_cons.mp h with h | h
    · cases h
      rw [bindL_other n1, if_pos hk]
      simp
    · exact bindL_in hk n2 h
theorem bindC_other {kindOf : Str → Option NameKind} {x : Str} : ∀ {binds : List (Str × Value)} {m : Str → Option Value}, x ∉ binds.map (·.1) → bindC kindOf binds m x = m x
  | [], m, _ => rfl
  | (n, v) :: r, m, h => by
    rw [List.map_cons, List.mem_cons, not_or] at h
    unfold bindC
    rw [bindC_other h.2]
    split
    · rfl
    · simp [h.1]
theorem bindC_in {kindOf : Str → Option NameKind} {x : Str} {v : Value} (hk : kindOf x = some .cell) : ∀ {binds : List (Str × Value)} {m : Str → Option Value}, (binds.map (·.1)).Nodup → (x, v) ∈ binds → bindC kindOf binds m x = some v
  | [], m, _, h => nomatch h
  | (n, u) :: r, m, nd, h => by
    rw [List.map_cons] at nd
    obtain ⟨n1, n2⟩ := List.nodup_cons.mp nd
    unfold bindC
    rcases List.mem_cons.mp h with h | h
    · cases h
      rw [bindC_other n1, if_neg (by rw [hk]; decide)]
      simp
    · exact bindC_in hk n2 h
theorem zip_fst {α : Type} : ∀ {ps : List Str} {ws : List α}, ws.length = ps.length → (ps.zip ws).map (·.1) = ps
  | [], _, _ => by simp
  | _ :: _, [], h => nomatch h
  | p :: ps, w :: ws, h => by
    rw [List.zip_cons_cons, List.map_cons, zip_fst (Nat.succ.inj h)]
theorem zip_rep {Pr : Params} {z : Heap} : ∀ {ps : List Str} {ws : List Value} {es : List V}, Reps Pr z ws es → ∀ {x : Str} {d : V}, (x, d) ∈ ps.zip es → ∃ w, (x, w) ∈ ps.zip ws ∧ RepV Pr z w d
  | [], _, _, _, _, _, h => by simp at h
  | _ :: _, _, _, .nil, _, _, h => by simp at h
  | p :: ps, _, _, .cons a r, x, d, h => by
    rw [List.zip_cons_cons] at h ⊢
    rcases List.mem_cons.mp h with h | h
    · cases h; exact ⟨_, .head _, a⟩
    · obtain ⟨w, h1, h2⟩ := zip_rep r h; exact ⟨w, .tail _ h1, h2⟩
theorem initM_mem {args : List (Str × V)} : ∀ {names : List (Str × NameKind)} {x : Str} {b : Bool} {ov : Option V}, (x, b, ov) ∈ initM args names → (b = false ∧ (x, NameKind.local) ∈ names ∨ b = true ∧ (x, NameKind.cell) ∈ names) ∧ ov = slook x args
  | [], _, _, _, h => nomatch h
  | (n, k) :: r, x, b, ov, h => by
    unfold initM at h
    have tl : ∀ {x b ov}, (x, b, ov) ∈ initM args r → (b = false ∧ (x, NameKind.local) ∈ (n, k) :: r ∨ b = true ∧ (x, NameKind.cell) ∈ (n, k) :: r) ∧ ov = slook x args := fun {x b ov} h => by
      obtain ⟨h1, h2⟩ := initM_mem h
      refine ⟨?_, h2⟩
      rcases h1 with ⟨a, b⟩ | ⟨a, b⟩
      · exact .inl ⟨a, .tail _ b⟩
      · exact .inr ⟨a, .tail _ b⟩
    cases k <;> first
      | exact tl h
      | (rcases List.mem_cons.mp h with h | h
         · cases h; first | exact ⟨.inl ⟨rfl, .head _⟩, rfl⟩ | exact ⟨.inr ⟨rfl, .head _⟩, rfl⟩
         · exact tl h)

theorem Room.deep {A : Around} {env : Env} {N : Nat} (R : Room A (N + 1)) : Room (A.deeper env) N := ⟨R.h, by have := R.d; rw [PyProof.Rows.depth_deeper]; (first | lia | omega), by have := R.u; rw [PyProof.Rows.units_deeper]; (first | lia | omega)⟩

theorem cellsFrom_nodup : ∀ (names : List (Str × NameKind)) (n : Nat) (acc : List (Str × Addr)), (names.map (·.1)).Nodup → (acc.map (·.1)).Nodup → (∀ x ∈ names.map (·.1), x ∉ acc.map (·.1)) → ((cellsFrom n names acc).map (·.1)).Nodup
  | [], _, _, _, h, _ => h
  | (x, k) :: r, n, acc, h1, h2, h3 => by
    rw [List.map_cons] at h1
    obtain ⟨a, b⟩ := List.nodup_cons.mp h1
    unfold cellsFrom
    split
    · refine cellsFrom_nodup r _ _ b (List.nodup_cons.mpr ⟨h3 x (.head _), h2⟩) fun y hy q => ?_
      rcases List.mem_cons.mp q with rfl | q
      · exact a hy
      · exact h3 y (.tail _ hy) q
    · exact cellsFrom_nodup r _ _ b h2 fun y hy => h3 y (.tail _ hy)
theorem lookup_some_of_mem {α : Type} {x : Str} {a : α} {l : List (Str × α)} (nd : (l.map (·.1)).Nodup) (h : (x, a) ∈ l) : l.lookup x = some a := lookup_of_mem nd h

/-- what a caller holds while its callee works -/
structure Held (c : Cx) (f : Fm) (m : Mp) (own : Led) (h₀ : Heap) (sv : List V) (uv : List Value) : Prop where
  len : uv.length = sv.length
  live : ∀ a ∈ frA f own, ∃ o, h₀.get? a = some o
  own : ∀ z h', (∀ p ∈ own, p.2.live = true → ∀ o, h₀.get? p.1 = some o → h'.get? p.1 = some o) → Reps c.w.params z uv sv → ∀ p ∈ own, AOIs c z h' p.1 p.2
  fr : ∀ z h', (∀ o, h₀.get? f.env.locals = some o → h'.get? f.env.locals = some o) → (∀ x cc o, f.env.cells.lookup x = some cc → h₀.get? cc = some o → h'.get? cc = some o) → Reps c.w.params z uv sv → FrIs c.w.params z h' f.env m

theorem Sat.under {A' : Around} (S : Sat c f P m g ds vs s) : Sat c ⟨f.env, A'⟩ P m g ds vs s := ⟨S.base, S.prot, S.own, S.out, S.frame, S.nodup, S.stack, S.rest, S.live⟩

/-- the frame of a callee, new made -/
structure CalleeAt (c : Cx) (ps : List Str) (names : List (Str × NameKind)) (ws : List Value) (h₁ h' : Heap) (env' : Env) : Prop where
  fresh : ∀ a ∈ env'.locals :: env'.cells.map (·.2), h₁.get? a = none ∧ ∃ o, h'.get? a = some o
  nd : (env'.locals :: env'.cells.map (·.2)).Nodup
  fr : ∀ z es, Reps c.w.params z ws es → FrIs c.w.params z h' env' (initM (ps.zip es) names)
theorem callee_at {a : Addr} {ps : List Str} {dfl : List Value} {body : List Stmt} {scope : Scope} (F : FnAt K a ps dfl body scope) {env' : Env} {s₁ s' : Shared} {n : Nat} (hsn : env'.scope = scope) (hg : env'.globals = mainGlobals) (hb : env'.builtins = builtinsNs)
    (hloc : env'.locals = s₁.heap.objs.size) (hc : env'.cells = cellsFrom n scope.names []) (hwl : ws.length = ps.length) (x : InCallC s₁ env'.locals (bindL env'.kindOf (ps.zip ws) fun _ => none) env'.cells (bindC env'.kindOf (ps.zip ws) fun _ => none) s') :
    CalleeAt c ps scope.names ws s₁.heap s'.heap env' := by
  have hcn : (env'.cells.map (·.1)).Nodup := by
    rw [hc]
    exact cellsFrom_nodup _ _ [] F.nodup .nil fun _ _ h => nomatch h
  have hzn : ((ps.zip ws).map (·.1)).Nodup := by rw [zip_fst hwl]; exact F.pn
  refine ⟨fun a ha => ?_, ?_, fun z es r => ?_⟩
  · rcases List.mem_cons.mp ha with rfl | ha
    · obtain ⟨o, _, _, e, _⟩ := x.toInCall.ns
      exact ⟨by rw [hloc]; exact get_none, o, e⟩
    · obtain ⟨⟨y, b⟩, hb, e⟩ := List.mem_map.mp ha
      simp only at e
      subst e
      have hlt := x.above y b hb
      obtain ⟨o, e, _⟩ := x.cell y b (lookup_of_mem hcn hb)
      exact ⟨Heap.get?_none_of_le (by rw [hloc] at hlt; exact Nat.le_of_lt hlt), o, e⟩
  · refine List.nodup_cons.mpr ⟨fun hm => ?_, List.pairwise_map.mpr x.apart⟩
    obtain ⟨⟨y, b⟩, hb, e⟩ := List.mem_map.mp hm
    have hlt := x.above y b hb
    simp only at e
    rw [e] at hlt
    exact Nat.lt_irrefl _ hlt
  · have kd : ∀ {y : Str} {k : NameKind}, (y, k) ∈ scope.names → env'.kindOf y = some k := fun {y k} q => by unfold Env.kindOf; rw [hsn]; exact lookup_of_mem F.nodup q
    refine ⟨by rw [hsn]; exact F.kind, hg, hb, ⟨_, x.toInCall.ns, fun y ov hm => ?_⟩, fun y ov hm => ?_⟩
    · obtain ⟨q, hov⟩ := initM_mem hm
      rcases q with ⟨-, q⟩ | ⟨q, -⟩
      · refine ⟨kd q, fun d hd => ?_⟩
        obtain ⟨w, h1, h2⟩ := zip_rep r (slook_mem (hov ▸ hd))
        exact ⟨w, bindL_in (kd q) hzn h1, h2⟩
      · cases q
    · obtain ⟨q, hov⟩ := initM_mem hm
      rcases q with ⟨q, -⟩ | ⟨-, q⟩
      · cases q
      · have ⟨b, hb⟩ : ∃ b, env'.cells.lookup y = some b := by
          rw [hc]
          exact Option.isSome_iff_exists.mp (cellsFrom_some _ _ _ (.inl (lookup_of_mem F.nodup q)))
        refine ⟨kd q, b, _, hb, x.cell y b hb, fun d hd => ?_⟩
        obtain ⟨w, h1, h2⟩ := zip_rep r (slook_mem (hov ▸ hd))
        exact ⟨w, bindC_in (kd q) hzn h1, h2⟩
theorem kinds_at {a : Addr} {ps : List Str} {dfl : List Value} {body : List Stmt} {scope : Scope} (F : FnAt K a ps dfl body scope) (hwl : ws.length = ps.length) (n : Nat) : ∀ x ∈ ps.zip ws, scope.names.lookup x.1 = some .local ∨ (scope.names.lookup x.1 = some .cell ∧ ((cellsFrom n scope.names []).lookup x.1).isSome = true) := fun x hx => by
  have hx' : x.1 ∈ ps := by rw [← zip_fst hwl]; exact List.mem_map_of_mem hx
  rcases F.pk _ hx' with q | q
  · exact .inl q
  · exact .inr ⟨q, cellsFrom_some _ _ _ (.inl q)⟩

/-- a function's body, entered -/
theorem fn_code (W : Wd c K) (hlim : c.h₀.NoLimit) {a : Addr} {ps : List Str} {dfl wc : List Value} {body : List Stmt} {scope : Scope} (F : FnAt K a ps dfl body scope) (hwc : ws = wc ++ dfl) {fuel : Nat} (hsp : ∀ a vs out Q, sx.sp a vs out Q → CallOk c N a vs out Q) (hsc : sx.sc = scope.names)
    {own out own0 : Led} {us : List Value} {A' : Around} {h₁ : Heap} {tk₁ : Tok} {R : Result → Shared → Prop} {Q : QX}
    (RA : Room A' (N + 1)) (S : Sat c f P m ⟨own, out⟩ ds us s) (old₁ : ∀ x o, s.heap.get? x = some o → h₁.get? x = some o) (h0 : ∀ a ∈ lv own0, s.heap.get? a = none ∧ ∃ o, h₁.get? a = some o) (nd0 : (lv own0).Nodup)
    (hrep : ∀ h' M', (∀ x o, h₁.get? x = some o → h'.get? x = some o) → (∀ a ∈ M', a ∈ muts f P ⟨own, out⟩ ∨ a ∈ lv own0 ∨ h₁.get? a = none) → (fz s.heap (muts f P ⟨own, out⟩)).StaysIn (fz h' M') → Reps c.w.params (fz h' M') ws es ∧ ∀ p ∈ own0, AOIs c (fz h' M') h' p.1 p.2)
    (hl : es.length = ps.length) (h : vXs (vc fuel) sx body (initM (ps.zip es) scope.names) ⟨own0, out⟩ Q)
    (hret : ∀ f' sv uv, Held c f m own s.heap sv uv → (∀ m₂ g₂ s₂, Sat c f' (frP s.heap f own ++ P) m₂ g₂ (es ++ (sv ++ ds)) (ws ++ (uv ++ us)) s₂ → Q .next m₂ g₂ → R (.ok (.ret .none)) s₂) ∧
      ∀ d v m₂ g₂ s₂, Sat c f' (frP s.heap f own ++ P) m₂ g₂ (d :: (es ++ (sv ++ ds))) (v :: (ws ++ (uv ++ us))) s₂ → Q (.ret d) m₂ g₂ → R (.ok (.ret v)) s₂) :
    codeAny (mdl c) A' (.call (.ref a) ⟨wc, []⟩) R { s with heap := h₁, toks := tk₁ } := by
  obtain ⟨oc, od, osl, name, qual, params, dV, kV, doc, pm, an, cdv, ct, ho, hcd, hbind⟩ := F.ex
  have X₀ := W.X.keeps S.frozen
  have X : K.In h₁ := X₀.keeps old₁
  have hwl : ws.length = ps.length := by
    refine Eq.trans ?_ hl
    exact (hrep h₁ (muts f P ⟨own, out⟩) (fun _ _ e => e) (fun a ha => .inl ha) (fz_stays fun b o n e => ⟨old₁ _ _ e, n⟩)).1.len
  have hkind := kinds_at F hwl
  refine codeAny_call_function (by have := RA.d; show A'.depth < 1000; (first | lia | omega)) (X _ _ ho) rfl F.co F.gen rfl (codeRec_of X hcd) (hbind wc _ (hwc ▸ hwl) X _ _ _ _ (hwc ▸ wpAny_newFunctionEnv_cells F.kind (hkind _) fun env' he s' x => ?_))
  obtain ⟨h', tk, rfl, old₂⟩ := x.done
  have old : ∀ x o, s.heap.get? x = some o → h'.get? x = some o := fun x o e => old₂ _ _ (old₁ _ _ e)
  refine ⟨(hlim.keeps S.frozen).keeps old, codeAny_func ?_⟩
  -- what the caller holds
  obtain ⟨uo, ro, ko⟩ := led_save (c := c) (z := fz s.heap (muts f P ⟨own, out⟩)) (h := s.heap) (l := own) fun p hp => S.own p hp
  obtain ⟨uf, rf, kf⟩ := fr_save S.frame
  have CA : CalleeAt c ps scope.names ws h₁ h' env' := callee_at (s₁ := { s with heap := h₁, toks := tk₁ }) F (by subst he; rfl) (by subst he; rfl) (by subst he; rfl) (by subst he; rfl) (by subst he; rfl) hwl x
  have hsn : env'.scope = scope := by subst he; rfl
  have hfresh := CA.fresh
  have hnd := CA.nd
  have hold0 : ∀ a, h₁.get? a = none → s.heap.get? a = none := fun a e => by
    cases q : s.heap.get? a with
    | none => rfl
    | some o => rw [old₁ _ _ q] at e; cases e
  have cnt : ∀ b, (muts ⟨env', A'.deeper env'⟩ (frP s.heap f own ++ P) ⟨own0, out⟩).count b = (muts f P ⟨own, out⟩).count b + (lv own0).count b + (env'.locals :: env'.cells.map (·.2)).count b := fun b => cnt_callee b
  have pm : ∀ b, b ∈ muts ⟨env', A'.deeper env'⟩ (frP s.heap f own ++ P) ⟨own0, out⟩ → b ∈ muts f P ⟨own, out⟩ ∨ b ∈ lv own0 ∨ b ∈ env'.locals :: env'.cells.map (·.2) := fun b hb => by
    rw [← List.count_pos_iff, cnt b] at hb
    rw [← List.count_pos_iff, ← List.count_pos_iff, ← List.count_pos_iff]
    (first | lia | omega)
  have hrep' := hrep h' (muts ⟨env', A'.deeper env'⟩ (frP s.heap f own ++ P) ⟨own0, out⟩) old₂ fun a ha => (pm a ha).imp id (Or.imp id fun q => (hfresh a q).1)
  have S₁ : Sat c ⟨env', A'.deeper env'⟩ (frP s.heap f own ++ P) (initM (ps.zip es) scope.names) ⟨own0, out⟩ (es ++ ((ledV own ++ mv m) ++ ds)) (ws ++ ((uo ++ uf) ++ us)) { s with heap := h', toks := tk } := by
    refine S.change (fun b o n e q => ?_) (fun b o n e => old _ _ e) (fun p hp => ?_) (fun z => (hrep' z).2) (fun z p hp => (S.out p hp).move z fun o e => old _ _ e) (fun z => ?_) ?_ (fun a ha => ?_) (fun z rr => (hrep' z).1.app (((ro.app rf).keeps z).app (rr.keeps z)))
    · rcases pm b q with q | q | q
      · exact n q
      · rw [(h0 b q).1] at e; cases e
      · rw [hold0 _ (hfresh b q).1] at e; cases e
    · rcases List.mem_append.mp hp with q | q
      · obtain ⟨a, ha, rfl⟩ := List.mem_map.mp q
        obtain ⟨o, e⟩ := S.live a (frA_muts ha)
        show h'.get? a = some ((s.heap.get? a).getD _)
        rw [e]
        exact old _ _ e
      · exact old _ _ (S.prot p q)
    · exact CA.fr _ _ (hrep' z).1
    · rw [List.nodup_iff_count]
      intro b
      rw [cnt b]
      have h1 := List.nodup_iff_count.mp S.nodup b
      have h2 := List.nodup_iff_count.mp hnd b
      have h3 := List.nodup_iff_count.mp nd0 b
      by_cases q : b ∈ muts f P ⟨own, out⟩
      · obtain ⟨o, e⟩ := S.live b q
        have q1 : b ∉ lv own0 := fun hx => by rw [(h0 b hx).1] at e; cases e
        have q2 : b ∉ env'.locals :: env'.cells.map (·.2) := fun hx => by rw [hold0 _ (hfresh b hx).1] at e; cases e
        rw [List.count_eq_zero.mpr q1, List.count_eq_zero.mpr q2]; (first | lia | omega)
      · by_cases q1 : b ∈ lv own0
        · have q2 : b ∉ env'.locals :: env'.cells.map (·.2) := fun hx => by
            obtain ⟨o, e⟩ := (h0 b q1).2
            rw [(hfresh b hx).1] at e; cases e
          rw [List.count_eq_zero.mpr q, List.count_eq_zero.mpr q2]; (first | lia | omega)
        · rw [List.count_eq_zero.mpr q, List.count_eq_zero.mpr q1]; (first | lia | omega)
    · rcases pm a ha with q | q | q
      · obtain ⟨o, e⟩ := S.live a q; exact ⟨o, old _ _ e⟩
      · obtain ⟨o, e⟩ := (h0 a q).2; exact ⟨o, old₂ _ _ e⟩
      · exact (hfresh a q).2
  have H : Held c f m own s.heap (ledV own ++ mv m) (uo ++ uf) := ⟨(ro.app rf).len, fun a ha => S.live a (frA_muts ha), fun z h'' k r => ko z h'' k (Reps.split ro.len r).1, fun z h'' k1 k2 r => kf z h'' k1 k2 (Reps.split ro.len r).2⟩
  have C : Scp c N sx ⟨env', A'.deeper env'⟩ := ⟨hsp, fun y k hy => by
    unfold Env.kindOf; rw [show (Fm.env ⟨env', A'.deeper env'⟩).scope = scope from hsn]
    exact lookup_of_mem F.nodup (slook_mem (hsc ▸ hy))⟩
  obtain ⟨k1, k2⟩ := hret _ _ _ H
  refine wpAny_mono (ok_vXs (ok_vc0 W N fuel) C (Room.deep RA) h _ _ _ _ S₁) (fun fl s₂ q => ?_) no_imp
  cases fl with
  | next =>
    obtain ⟨m₂, g₂, S₂, q⟩ := q
    exact k1 _ _ _ S₂ q
  | ret v =>
    obtain ⟨d, m₂, g₂, S₂, q⟩ := q
    exact k2 _ _ _ _ _ S₂ q
  | _ => exact q.elim

theorem Sat.drop {f' : Fm} (hl : ws.length = es.length) (S : Sat c f' P m g (es ++ ds) (ws ++ vs) s) : Sat c f' P m g ds vs s := { S with stack := (Reps.split hl S.stack).2 }
theorem Sat.drop1 {f' : Fm} {d : V} {v : Value} (hl : ws.length = es.length) (S : Sat c f' P m g (d :: (es ++ ds)) (v :: (ws ++ vs)) s) : Sat c f' P m g (d :: ds) (v :: vs) s := { S with stack := .cons S.top (Reps.split hl S.pop.stack).2 }

/-- out of a callee -/
theorem Held.back {f' : Fm} {own own' out' ext : Led} {h₀ : Heap} {sv : List V} {uv : List Value} {d d' : V} {v : Value} (H : Held c f m own h₀ sv uv)
    (S : Sat c f' (frP h₀ f own ++ P) m' ⟨own', out'⟩ (d :: (sv ++ ds)) (v :: (uv ++ vs)) s) (hd : ∀ z, RepV c.w.params z v d → RepV c.w.params z v d') (hext : ext = [] ∨ ext = own'.map fun p => (p.1, p.2.shift out'.length)) :
    Sat c f P m ⟨own, out' ++ ext⟩ (d' :: ds) (v :: vs) s := call_out H.len H.live H.own H.fr S hd hext

/-- a call of a function of the text's, by its body -/
theorem fn_call (W : Wd c K) (hlim : c.h₀.NoLimit) {a : Addr} {ps : List Str} {body : List Stmt} {scope : Scope} (F : FnAt K a ps [] body scope) {fuel : Nat} (hsp : ∀ a vs out Q, sx.sp a vs out Q → CallOk c N a vs out Q) (hsc : sx.sc = scope.names) {as : List V} {out : Led} {Q : V → Led → Prop}
    (hl : as.length = ps.length) (h : vXs (vc fuel) sx body (initM (ps.zip as) scope.names) ⟨[], out⟩ (exitQ Q)) : CallOk c (N + 1) a as out Q := fun f P m own ds us ws s R S hlen _ => by
  obtain ⟨rargs, rrest⟩ := Reps.split hlen S.stack
  have S₀ : Sat c f P m ⟨own, out⟩ ds us s := { S with stack := rrest }
  refine wpAny_call (fn_code W hlim F (List.append_nil ws).symm hsp hsc (own0 := []) (h₁ := s.heap) (tk₁ := s.toks) R S₀ (fun _ _ e => e) (fun a ha => nomatch ha) .nil (fun h' M' k1 k2 k3 => ⟨rargs.keeps k3, fun p hp => nomatch hp⟩) hl h fun f' sv uv H => ⟨fun m₂ g₂ s₂ S₂ q => ?_, fun d v m₂ g₂ s₂ S₂ q => ?_⟩)
  · have := H.back (ext := []) (d' := .d .none) ((S₂.drop hlen).push2 (x := .none) Rd.none) (fun z r => r) (.inl rfl)
    rw [List.append_nil] at this
    exact ⟨_, _, this, q⟩
  · have S₃ := S₂.drop1 hlen
    replace q : vExit d g₂ Q := q
    unfold vExit at q
    split at q
    · have := H.back (ext := []) (d' := d) S₃ (fun z r => r) (.inl rfl)
      rw [List.append_nil] at this
      exact ⟨_, _, this, q⟩
    · exact ⟨_, _, H.back S₃ (fun z r => shift_rep r) (.inr rfl), q⟩
end
end Mine

set_option maxRecDepth 100000
namespace Mine
open PySem PySem.W PySem.Calls PyProof.Rows PySem.Spec
open PySem.W.Fast (sEq sEq_iff)
section
variable {c : Cx} {K : Frag} {f : Fm} {P P' PI PI' : Prt} {m m' : Mp} {g g' : G} {ds ds' es : List V} {vs vs' ws : List Value} {s s' : Shared} {n N : Nat} {r : Rc} {sx : SX}

/-- what a new object is for its maker -/
noncomputable def instQ (C dx : Addr) (g : G) (Q : V → Led → Prop) : Prop :=
  Q ((V.inst true 0 C dx).shift g.out.length) (g.out ++ g.own.map fun p => (p.1, p.2.shift g.out.length)) ∨
  (∃ b, C = cCS ∧ g.own = [(dx, .idict [("bounds", .d (pInts b))])] ∧ Q (.cset b) g.out) ∨
  ∃ b ss, C = cCStr ∧ g.own = [(dx, .idict [("codes", .cset b), ("strings", .d (pStrs ss))])] ∧ Q (.cstr b ss) g.out
noncomputable def madeQ (C dx : Addr) (Q : V → Led → Prop) : QX := fun fl _ g => match fl with
  | .next => instQ C dx g Q
  | .ret _ => False

theorem Room.under {A : Around} {N : Nat} {C : Addr} {ws : List Value} (R : Room A (N + 2)) : Room (A.under (.builtin "type.__call__" ⟨.ref C :: ws, []⟩)) (N + 1) := by
  refine ⟨R.h, ?_, ?_⟩
  · have := R.d
    rw [depth_under_make]
    (first | lia | omega)
  · have := R.u
    rw [units_under_make]
    (first | lia | omega)

/-- an object that only its maker holds is frozen -/
theorem Sat.freeze1 {dx : Addr} {fs : List (Str × V)} {out : Led} (S : Sat c f P m ⟨[(dx, .idict fs)], out⟩ ds vs s) :
    Sat c f P m ⟨[], out⟩ ds vs s ∧ ∃ es n, (fz s.heap (muts f P ⟨[], out⟩)).get? dx = some (dictOf es n) ∧ Ents c.w.params (fz s.heap (muts f P ⟨[], out⟩)) es fs := by
  have cnt : ∀ x, (muts f P ⟨[(dx, .idict fs)], out⟩).count x = (muts f P ⟨[], out⟩).count x + [dx].count x := fun x => by
    unfold muts
    simp only [List.count_append, List.count_cons, show lv [(dx, AO.idict fs)] = [dx] from rfl, show lv [] = [] from rfl, List.count_nil]
    (first | lia | omega)
  have sub : ∀ x, x ∈ muts f P ⟨[], out⟩ → x ∈ muts f P ⟨[(dx, .idict fs)], out⟩ := fun x hx => by
    rw [← List.count_pos_iff] at hx ⊢
    rw [cnt]; (first | lia | omega)
  have nd := List.nodup_iff_count.mp S.nodup
  have nda : dx ∉ muts f P ⟨[], out⟩ := fun hx => by
    rw [← List.count_pos_iff] at hx
    have := nd dx
    rw [cnt, List.count_singleton_self] at this
    (first | lia | omega)
  have S' : Sat c f P m ⟨[], out⟩ ds vs { s with heap := s.heap, toks := s.toks } := S.change (fun x o hx e q => hx (sub x q)) (fun x o hx e => e) S.prot (fun z p hp => nomatch hp) (fun z p hp => (S.out p hp).move z fun _ e => e)
    (fun z => S.frame.move z (fun _ e => e) fun _ _ _ _ e => e) (List.nodup_iff_count.mpr fun x => Nat.le_trans (by rw [cnt]; (first | lia | omega)) (nd x)) (fun x hx => S.live x (sub x hx)) (fun z r => r.keeps z)
  refine ⟨S', ?_⟩
  obtain ⟨es, n, h1, h2⟩ := S.own _ (.head _)
  exact ⟨es, n, fz_get.mpr ⟨h1, nda⟩, h2.keeps (fz_stays fun b o hb e => ⟨e, fun q => hb (sub b q)⟩)⟩

theorem Sat.swapTop {d d' : V} {v : Value} (S : Sat c f P m g (d :: ds) (v :: vs) s) (h : RepV c.w.params (fz s.heap (muts f P g)) v d') : Sat c f P m g (d' :: ds) (v :: vs) s := S.pop.push h

theorem Sat.frz1 {C dx : Addr} {v : Value} {b : List Int} (hC : C = cCS) (ho : g.own = [(dx, .idict [("bounds", .d (pInts b))])]) (S : Sat c f P m g (.inst true 0 C dx :: ds) (v :: vs) s) : Sat c f P m ⟨[], g.out⟩ (.cset b :: ds) (v :: vs) s := by
  subst hC
  obtain ⟨go, gu⟩ := g
  dsimp only at ho
  subst ho
  obtain ⟨S₄, es', n, e1, e2⟩ := S.freeze1
  obtain ⟨x, hx, e3⟩ := S₄.top
  cases e2 with
  | cons a e2 =>
    cases e2
    exact S₄.swapTop (d' := .cset b) ⟨x, _, _, _, _, hx, e3, e1, a⟩
theorem Sat.frz2 {C dx : Addr} {v : Value} {b : List Int} {ss : List (List Int)} (hC : C = cCStr) (ho : g.own = [(dx, .idict [("codes", .cset b), ("strings", .d (pStrs ss))])]) (S : Sat c f P m g (.inst true 0 C dx :: ds) (v :: vs) s) : Sat c f P m ⟨[], g.out⟩ (.cstr b ss :: ds) (v :: vs) s := by
  subst hC
  obtain ⟨go, gu⟩ := g
  dsimp only at ho
  subst ho
  obtain ⟨S₄, es', n, e1, e2⟩ := S.freeze1
  obtain ⟨x, hx, e3⟩ := S₄.top
  cases e2 with
  | cons a e2 =>
    cases e2 with
    | cons a' e2 =>
      cases e2
      exact S₄.swapTop (d' := .cstr b ss) ⟨x, _, _, _, _, _, _, hx, e3, e1, a, a'⟩

/-- a new object of a class of the text's -/
theorem cls_call (W : Wd c K) (hlim : c.h₀.NoLimit) {C fI : Addr} {ps : List Str} {dfl : List Value} {dd : List V} {body : List Stmt} {scope : Scope} (F : FnAt K fI ps dfl body scope) (hdd : ∀ z, Reps c.w.params z dfl dd) (hm : makesIn K C = true) (hi : findIn K (.ref C) "__init__" = some (some (.ref fI))) (hf : typeIn K (.ref fI) = some (.type "function"))
    {fuel : Nat} (hsp : ∀ a vs out Q, sx.sp a vs out Q → CallOk c N a vs out Q) (hsc : sx.sc = scope.names) {as : List V} {out : Led} {Q : V → Led → Prop}
    (hl : (as ++ dd).length + 1 = ps.length) (h : ∀ dx, vXs (vc fuel) sx body (initM (ps.zip (.inst true 0 C dx :: (as ++ dd))) scope.names) ⟨[(dx, .idict [])], out⟩ (madeQ C dx Q)) : CallOk c (N + 2) C as out Q := fun f P m own ds us ws s RR S hlen hport => by
  have X := W.X.keeps S.frozen
  obtain ⟨rargs, rrest⟩ := Reps.split hlen S.stack
  have S₀ : Sat c f P m ⟨own, out⟩ ds us s := { S with stack := rrest }
  have S₀' : Sat c ⟨f.env, f.A.under (.builtin "type.__call__" ⟨.ref C :: ws, []⟩)⟩ P m ⟨own, out⟩ ds us s := S₀.under
  have fin : ∀ {v : Value} {d : V} {s' : Shared} {out' : Led}, Sat c ⟨f.env, f.A.under (.builtin "type.__call__" ⟨.ref C :: ws, []⟩)⟩ P m ⟨own, out'⟩ (d :: ds) (v :: us) s' → Sat c f P m ⟨own, out'⟩ (d :: ds) (v :: us) s' := fun S => S.under (A' := f.A)
  refine wpAny_call (make_core (makes_of X hm) (looks_findIn X hi) (fun self => bind_fn X self hf) (.inl rfl) ?_)
  have h1 : s.heap.get? s.heap.objs.size = none := get_none
  have hg : ((s.heap.push emptyDict).push (instObj C s.heap.objs.size)).get? s.heap.objs.size = some emptyDict := by heap_get
  have hx : ((s.heap.push emptyDict).push (instObj C s.heap.objs.size)).get? (s.heap.objs.size + 1) = some (instObj C s.heap.objs.size) := by heap_get
  have hx0 : s.heap.get? (s.heap.objs.size + 1) = none := Heap.get?_none_of_le (Nat.le_succ _)
  refine fn_code (f := ⟨f.env, f.A.under (.builtin "type.__call__" ⟨.ref C :: ws, []⟩)⟩) W hlim F (wc := .ref (s.heap.objs.size + 1) :: ws) rfl hsp hsc (own0 := [(s.heap.objs.size, .idict [])]) (es := .inst true 0 C s.heap.objs.size :: (as ++ dd)) (ws := .ref (s.heap.objs.size + 1) :: (ws ++ dfl)) RR.under S₀' (fun b o e => Heap.get?_push_of_some _ (Heap.get?_push_of_some _ e)) (fun a ha => ?_) (show [s.heap.objs.size].Nodup by simp) (fun h' M' k1 k2 k3 => ⟨.cons ⟨_, rfl, ?_⟩ ((rargs.keeps k3).app (hdd _)), fun p hp => ?_⟩) hl (h _) fun f' sv uv H => ⟨fun m₂ g₂ s₂ S₂ q => ?_, fun d v m₂ g₂ s₂ S₂ q => q.elim⟩
  · obtain rfl := List.mem_singleton.mp ha
    exact ⟨h1, _, hg⟩
  · refine fz_get.mpr ⟨k1 _ _ hx, fun hm => ?_⟩
    rcases k2 _ hm with q | q | q
    · obtain ⟨o, e⟩ := S₀'.live _ q
      rw [hx0] at e; cases e
    · have : s.heap.objs.size + 1 = s.heap.objs.size := List.mem_singleton.mp q
      (first | lia | omega)
    · rw [hx] at q; cases q
  · obtain rfl := List.mem_singleton.mp hp
    exact ⟨[], 0, k1 _ _ hg, .nil⟩
  · refine ⟨rfl, ?_⟩
    have hlen' : us.length = us.length := rfl
    have S₃ : Sat c f' (frP s.heap ⟨f.env, f.A.under (.builtin "type.__call__" ⟨.ref C :: ws, []⟩)⟩ own ++ P) m₂ g₂ (.inst true 0 C s.heap.objs.size :: (sv ++ ds)) (.ref (s.heap.objs.size + 1) :: (uv ++ us)) s₂ := S₂.drop1 (by rw [List.length_append, List.length_append, hlen, (hdd s.heap).len])
    rcases q with q | ⟨b, hC, ho, q⟩ | ⟨b, ss, hC, ho, q⟩
    · exact ⟨_, _, fin (H.back S₃ (fun z r => shift_rep r) (.inr rfl)), q⟩
    · have := H.back (ext := []) (d' := .cset b) (S₃.frz1 hC ho) (fun z r => r) (.inl rfl)
      rw [List.append_nil] at this
      exact ⟨_, _, fin this, q⟩
    · have := H.back (ext := []) (d' := .cstr b ss) (S₃.frz2 hC ho) (fun z r => r) (.inl rfl)
      rw [List.append_nil] at this
      exact ⟨_, _, fin this, q⟩
end
end Mine

set_option maxRecDepth 100000
namespace Mine
open PySem PySem.W PySem.Calls PyProof.Rows PySem.Spec
open PySem.W.Fast (sEq sEq_iff)

/-! the program's parts -/
noncomputable def pw : Program := PySem.Challenge.pw_on0363_01
noncomputable def nth {α : Type} (d : α) : List α → Nat → α
  | [], _ => d
  | x :: _, 0 => x
  | _ :: r, n + 1 => nth d r n
noncomputable def stmtAt (i : Nat) : Stmt := nth (.Pass default) pw.main.body i
noncomputable def fBody : Stmt → List Stmt
  | .FunctionDef _ _ b _ _ _ _ _ _ _ => b
  | _ => []
noncomputable def fParams : Stmt → Arguments
  | .FunctionDef _ p _ _ _ _ _ _ _ _ => p
  | _ => default
noncomputable def fScope : Stmt → Scope
  | .FunctionDef _ _ _ _ _ _ sc _ _ _ => sc
  | _ => default
noncomputable abbrev fNames (st : Stmt) : List (Str × NameKind) := (fScope st).names
noncomputable def cBody : Stmt → List Stmt
  | .ClassDef _ _ _ b _ _ _ _ _ _ _ => b
  | _ => []
noncomputable def methAt (i j : Nat) : Stmt := nth (.Pass default) (cBody (stmtAt i)) j

/-- the functions: where each lies, and its def -/
noncomputable def fnTab : List (Addr × Stmt) := [(28, stmtAt 2), (35, stmtAt 4), (40, stmtAt 5), (47, stmtAt 6), (54, stmtAt 7), (69, methAt 8 0), (76, methAt 8 1), (86, methAt 8 2), (91, methAt 8 3), (105, methAt 8 5), (112, methAt 8 6), (119, methAt 8 7), (140, methAt 8 10),
  (168, methAt 10 0), (175, methAt 10 1), (182, methAt 10 2), (194, stmtAt 11), (199, stmtAt 12), (213, methAt 13 0), (220, methAt 13 1), (227, methAt 13 2), (234, methAt 13 3), (241, methAt 13 4),
  (255, stmtAt 15), (262, stmtAt 16), (276, stmtAt 18), (283, stmtAt 19), (288, stmtAt 20), (295, stmtAt 21), (302, stmtAt 22), (309, stmtAt 23), (314, stmtAt 24), (319, stmtAt 25), (324, stmtAt 26), (331, stmtAt 27), (336, stmtAt 28)]
noncomputable def kAddrs : List Addr := [2, 62, 78, 150, 149, 185, 184, 244, 243, 28, 27, 35, 34, 40, 39, 47, 46, 54, 53, 69, 68, 76, 75, 86, 85, 91, 90, 105, 104, 112, 111, 119, 118, 140, 139, 168, 167, 175, 174, 182, 181, 194, 193, 199, 198, 213, 212, 220, 219, 227, 226, 234, 233, 241, 240,
  255, 254, 262, 261, 263, 264, 265, 266, 267, 268, 269, 270, 271, 276, 275, 283, 282, 288, 287, 295, 294, 302, 301, 309, 308, 314, 313, 319, 318, 324, 323, 331, 330, 336, 335]
noncomputable def kOfL (h : Heap) : List Addr → Frag
  | [] => []
  | a :: r => match h.get? a with
    | some o => (a, o) :: kOfL h r
    | none => kOfL h r
noncomputable def kOf (h : Heap) : Frag := kOfL h kAddrs

theorem kOfL_in {h : Heap} {a : Addr} {o : Obj} : ∀ {l : List Addr}, (kOfL h l).lookup a = some o → h.get? a = some o
  | [], e => by cases e
  | b :: r, e => by
    unfold kOfL at e
    split at e
    · rename_i o' ho
      rw [List.lookup_cons] at e
      split at e
      · rename_i q
        cases e
        rw [beq_iff_eq.mp q]; exact ho
      · exact kOfL_in e
    · exact kOfL_in e
theorem kOf_in (h : Heap) : (kOf h).In h := fun a o e => kOfL_in e

/-- a function, as it is seen -/
noncomputable def fnSee (K : Frag) (a : Addr) : Option (Arguments × FuncBody × Scope × Value) := match K.lookup a with
  | some ⟨_, _, .func fd, _⟩ => (match Nat.beq fd.globals mainGlobals && Nat.beq fd.builtins builtinsNs && fd.closure.isEmpty && codeIn K fd.code fd.qualname with
    | true => some (fd.params, fd.body, fd.scope, fd.defaults)
    | false => none)
  | _ => none
noncomputable def fnDfl (a : Addr) : Value := match Nat.beq a 69 with
  | true => .ref 62
  | false => .none
noncomputable def fnExp (a : Addr) (st : Stmt) : Option (Arguments × FuncBody × Scope × Value) := some (fParams st, .stmts (fBody st), fScope st, fnDfl a)

noncomputable def isRefTo (o : Option Value) (a : Addr) : Bool := match o with
  | some (.ref b) => Nat.beq b a
  | _ => false
noncomputable def isBi (o : Option Value) (b : Bi) : Bool := o == some b.val
noncomputable def glGood (h : Heap) (p : Str × Gl) : Bool := match p.2 with
  | .fn a => isRefTo (h.nsMap mainGlobals p.1) a
  | .strs => isRefTo (h.nsMap mainGlobals p.1) 271
  | .bi b => (h.nsMap mainGlobals p.1).isNone && isBi (h.nsMap builtinsNs p.1) b
noncomputable def intsAt : List Value → List Int → Bool
  | [], [] => true
  | .int i _ :: r, j :: s => decide (i = j) && intsAt r s
  | _, _ => false
noncomputable def seqAt (K : Frag) (a : Addr) (k : String → List Value → Bool) : Bool := match K.lookup a with
  | some ⟨.type n, _, .seq vs _, _⟩ => k n vs.toList
  | _ => false
theorem seqAt_inv {K : Frag} {a : Addr} {k : String → List Value → Bool} (h : seqAt K a k = true) : ∃ n od vs kk osl, K.lookup a = some ⟨.type n, od, .seq vs kk, osl⟩ ∧ k n vs.toList = true := by
  unfold seqAt at h
  split at h
  · rename_i q
    exact ⟨_, _, _, _, _, q, h⟩
  · cases h
noncomputable def tupGood (K : Frag) (v : Value) (l : List Int) : Bool := match v with
  | .ref a => seqAt K a fun n vs => n == "tuple" && intsAt vs l
  | _ => false
noncomputable def tupsGood (K : Frag) : List Value → List (List Int) → Bool
  | [], [] => true
  | v :: r, l :: s => tupGood K v l && tupsGood K r s
  | _, _ => false
noncomputable def strsGood (K : Frag) : Bool := seqAt K 271 fun n vs => n == "list" && tupsGood K vs lawStrings
noncomputable def attrGood (K : Frag) (p : Addr × Str) : Bool := plainGet K p.1 p.2 && (hasDictIn K p.1 && (findIn K (.ref p.1) p.2 == some none && (findIn K (.ref p.1) "__setattr__" == some (some (.builtin "object.__setattr__")) && (plainOver K p.1 && takerIn K p.1 p.2 == some none))))
noncomputable def methGood (K : Frag) (p : Addr × Str × Addr) : Bool := plainGet K p.1 p.2.1 && (findIn K (.ref p.1) p.2.1 == some (some (.ref p.2.2)) && isFn K (.ref p.2.2))
noncomputable def isStat (o : Option CFound) : Bool := match o with
  | some (.get a b d e) => a == .builtin "staticmethod.__get__" && (b == .ref 78 && (d == .none && e == .ref 150))
  | _ => false
noncomputable def isStat2 (o : Option (List Value)) : Bool := match o with
  | some (v :: _) => v == .ref 76
  | _ => false
noncomputable def statGood (K : Frag) : Bool := specialIn K (.ref 150) "__getattribute__" == some (some (.builtin "type.__getattribute__")) && (readsIn K 150 (.type "type") && (isStat (findCls K (.ref 150) (.type "type") nmOf) && isStat2 (recIn K 78 "staticmethod")))
noncomputable def makeGood (K : Frag) (C fI : Addr) : Bool := makesIn K C && (findIn K (.ref C) "__init__" == some (some (.ref fI)) && typeIn K (.ref fI) == some (.type "function"))
noncomputable def dflGood (K : Frag) : Bool := seqAt K 62 fun _ vs => vs == [.none]

noncomputable def kGood (K : Frag) : Bool := aTab.all (attrGood K) && (callables.all (fun a => keepIn K (.ref a)) && (mAll.all (methGood K) && (statGood K && (makeGood K 150 69 && (makeGood K 185 168 && (makeGood K 244 213 && (strsGood K && dflGood K)))))))
noncomputable def hGood (h : Heap) : Bool := h.isNs mainGlobals && (h.isNs builtinsNs && (gtab.all (glGood h) && ((h.get? sysModules).isSome && isRefTo (h.nsMap mainGlobals "law") 336)))
noncomputable def obs (s : Shared) : List (Option (Arguments × FuncBody × Scope × Value)) × Bool := (fnTab.map fun p => fnSee (kOf s.heap) p.1, kGood (kOf s.heap) && hGood s.heap)
noncomputable def obsGood : List (Option (Arguments × FuncBody × Scope × Value)) × Bool := (fnTab.map fun p => fnExp p.1 p.2, true)
end Mine

set_option maxRecDepth 100000
namespace Mine
open PySem PySem.W PySem.Calls PyProof.Rows PySem.Spec
open PySem.W.Fast (sEq sEq_iff)

/-! what the functions do -/
noncomputable def cnt (l : List Int) (x : Int) : Nat := l.countP fun b => decide (b ≤ x)
noncomputable def inB (l : List Int) (x : Int) : Bool := cnt l x % 2 == 1
noncomputable abbrev Asc (l : List Int) : Prop := l.Pairwise (· < ·)
structure IsB (l : List Int) (S : Int → Bool) : Prop where
  asc : Asc l
  ev : l.length % 2 = 0
  is : ∀ x, inB l x = S x
noncomputable def anyR (ps : List (Int × Int)) (x : Int) : Bool := ps.any fun p => decide (p.1 ≤ x) && decide (x ≤ p.2)
noncomputable def nmUnion : Str := "union"
noncomputable def nmBoth : Str := "both"
noncomputable def nmWithout : Str := "without"
noncomputable def wanted (w : Str) (a b : Bool) : Bool := match sEq w nmUnion with
  | true => a || b
  | false => (match sEq w nmBoth with
    | true => a && b
    | false => (match sEq w nmWithout with
      | true => a && !b
      | false => a != b))
noncomputable abbrev Mg (B near far : List Int) (w : Str) : Prop := IsB B (fun x => wanted w (inB near x) (inB far x)) ∧ B.length ≤ near.length + far.length
noncomputable abbrev Bnd (B : List Int) (ps : List (Int × Int)) : Prop := IsB B (anyR ps) ∧ B.length ≤ 2 * ps.length
structure Okb (l : List Int) : Prop where
  asc : Asc l
  ev : l.length % 2 = 0
  le : l.length ≤ 200
noncomputable def pairsOf : List Int → List (Int × Int)
  | a :: b :: r => (a, b - 1) :: pairsOf r
  | _ => []
noncomputable def PutS (ts ss ss' : List (List Int)) (w : Str) : Prop := match sEq w nmUnion with
  | true => ts.Perm (dedup (ss ++ ss')) ∧ ts.Pairwise (fun a b => ltL a b = true)
  | false => (match sEq w nmBoth with
    | true => ts = ss.filter fun x => ss'.contains x
    | false => ts = ss.filter fun x => !ss'.contains x)
structure Oks (ss ss' : List (List Int)) : Prop where
  five : (dedup (ss ++ ss')).length ≤ 5
  le : ss.length ≤ 20
  le' : ss'.length ≤ 20
  one : ∀ x ∈ ss, x.length ≤ 5
  one' : ∀ x ∈ ss', x.length ≤ 5

noncomputable abbrev SP := List V → Led → (V → Led → Prop) → Prop
noncomputable def spOn (n : Nat) (k : SP) (rest : Nat → SP) : Nat → SP := fun a vs out Q => match Nat.beq a n with
  | true => k vs out Q
  | false => rest a vs out Q
noncomputable def spNo : Nat → SP := fun _ _ _ _ => False

noncomputable def S28 : SP := fun vs out Q => ∃ l x, vs = [.d (pInts l), dI x] ∧ (l.length ≤ 1000 ∧ Asc l) ∧ Q (dI ((cnt l x : Int) - 1)) out
noncomputable def S40 : SP := fun vs out Q => ∃ u ps, vs = [u] ∧ (ps.length ≤ 60 ∧ ∀ own k, k (pPairs ps) → vView ⟨own, out⟩ u k) ∧ ∀ B, Bnd B ps → Q (.d (pInts B)) out
noncomputable def S47 : SP := fun vs out Q => ∃ w a b, vs = [.d (.str w), dB a, dB b] ∧ Q (dB (wanted w a b)) out
noncomputable def S54 : SP := fun vs out Q => ∃ near far w, vs = [.d (pInts near), .d (pInts far), .d (.str w)] ∧ (Okb near ∧ Okb far) ∧ ∀ B, Mg B near far w → Q (.d (pInts B)) out
noncomputable def S150 : SP := fun vs out Q => match vs with
  | [] => Q (.cset []) out
  | _ => ∃ b, vs = [.d (pInts b)] ∧ Q (.cset b) out
noncomputable def S185 : SP := fun vs out Q => ∃ b ss, vs = [.cset b, .d (pStrs ss)] ∧ Q (.cstr b ss) out
noncomputable def S76 : SP := fun vs out Q => ∃ u ps, vs = [u] ∧ (ps.length ≤ 60 ∧ u.port = true ∧ ∀ own k, k (pPairs ps) → vView ⟨own, out⟩ u k) ∧ ∀ B, Bnd B ps → Q (.cset B) out
noncomputable def S86 : SP := fun vs out Q => ∃ b x, vs = [.cset b, dI x] ∧ Okb b ∧ Q (dB (inB b x)) out
noncomputable def S91 : SP := fun vs out Q => ∃ b, vs = [.cset b] ∧ Okb b ∧ Q (.d (.list (pPairs (pairsOf b)))) out
noncomputable def S105 : SP := fun vs out Q => ∃ b b', vs = [.cset b, .cset b'] ∧ (Okb b ∧ Okb b') ∧ ∀ B, Mg B b b' nmUnion → Q (.cset B) out
noncomputable def S112 : SP := fun vs out Q => ∃ b b', vs = [.cset b, .cset b'] ∧ (Okb b ∧ Okb b') ∧ ∀ B, Mg B b b' nmBoth → Q (.cset B) out
noncomputable def S119 : SP := fun vs out Q => ∃ b b', vs = [.cset b, .cset b'] ∧ (Okb b ∧ Okb b') ∧ ∀ B, Mg B b b' nmWithout → Q (.cset B) out
noncomputable def S140 : SP := fun vs out Q => ∃ b b', vs = [.cset b, .cset b'] ∧ (b.length ≤ 1000 ∧ b'.length ≤ 1000) ∧ Q (dB (decide (b = b'))) out
noncomputable def S175 : SP := fun vs out Q => ∃ b ss l, vs = [.cstr b ss, .d (pInts l)] ∧ (Okb b ∧ ss.length ≤ 100 ∧ l.length ≤ 100) ∧ Q (dB (match l with
  | [x] => inB b x
  | _ => ss.contains l)) out
noncomputable def S182 : SP := fun vs out Q => ∃ b ss b' ss', vs = [.cstr b ss, .cstr b' ss'] ∧ (b.length ≤ 1000 ∧ b'.length ≤ 1000 ∧ Oks ss ss') ∧ Q (dB (decide (b = b') && decide (ss = ss'))) out
noncomputable def S194 : SP := fun vs out Q => ∃ ss, vs = [.d (pStrs ss)] ∧ ((dedup ss).length ≤ 5 ∧ ss.length ≤ 60) ∧ ∀ ts : List (List Int), ts.Perm (dedup ss) → ts.Pairwise (fun a b => ltL a b = true) → Q (.d (pStrs ts)) out
noncomputable def S199 : SP := fun vs out Q => ∃ b ss b' ss' w, vs = [.cstr b ss, .cstr b' ss', .d (.str w)] ∧ (Okb b ∧ Okb b' ∧ Oks ss ss' ∧ (sEq w nmUnion = true ∨ sEq w nmBoth = true ∨ sEq w nmWithout = true)) ∧ ∀ B ts, Mg B b b' w → PutS ts ss ss' w → Q (.cstr B ts) out

/-- a set that is being built: the ledger at its maker's -/
noncomputable def sofD (aR : Addr) (b : List Int) (ss : List (List Int)) (k : Bool) : AO := .idict [("ranges", .loc false 3 aR), ("whole", .cstr b ss), ("is_behind_set", dB k)]
noncomputable def sofOut (e0 e1 : Addr × AO) (dx aR : Addr) (ps : List (Int × Int)) (b : List Int) (ss : List (List Int)) (k : Bool) : Led := [e0, e1, (dx, .idict [("ranges", .loc false 3 aR), ("whole", .cstr b ss), ("is_behind_set", dB k)]), (aR, .list (pPairs ps))]
noncomputable def S244 : SP := fun vs out Q => match vs, out with
  | [], [e0, e1] => ∀ dx aR, Q (.inst false 2 244 dx) (sofOut e0 e1 dx aR [] [] [] false)
  | _, _ => False
noncomputable def S220 : SP := fun vs out Q => ∃ e0 e1 dx aR ps b ss k f l, vs = [.inst false 2 244 dx, dI f, dI l] ∧ out = sofOut e0 e1 dx aR ps b ss k ∧ ps.length ≤ 60 ∧ Q (.d .none) (sofOut e0 e1 dx aR (ps ++ [(f, l)]) b ss false)
noncomputable def S227 : SP := fun vs out Q => ∃ e0 e1 dx aR ps b ss k l, vs = [.inst false 2 244 dx, .d (pInts l)] ∧ out = sofOut e0 e1 dx aR ps b ss k ∧ (ps.length ≤ 60 ∧ Okb b ∧ (l.length ≠ 1 → Oks ss [l]) ∧ l.length ≤ 5) ∧
  (∀ x, l = [x] → Q (.d .none) (sofOut e0 e1 dx aR (ps ++ [(x, x)]) b ss false)) ∧ (l.length ≠ 1 → ∀ B ts, Mg B b [] nmUnion → PutS ts ss [l] nmUnion → Q (.d .none) (sofOut e0 e1 dx aR ps B ts false))
/-- what the set holds with its ranges put to it -/
structure Told (B b : List Int) (ps : List (Int × Int)) : Prop where
  no : ps = [] → B = b
  yes : ps ≠ [] → ∃ R, Bnd R ps ∧ Mg B b R nmUnion
noncomputable def S241 : SP := fun vs out Q => ∃ e0 e1 dx aR ps b ss k, vs = [.inst false 2 244 dx] ∧ out = sofOut e0 e1 dx aR ps b ss k ∧ (ps.length ≤ 60 ∧ Okb b) ∧ ∀ B, Told B b ps → Q (.cstr B ss) out
noncomputable def S234 : SP := fun vs out Q => ∃ e0 e1 dx aR ps b ss k b' ss' w, vs = [.inst false 2 244 dx, .cstr b' ss', .d (.str w)] ∧ out = sofOut e0 e1 dx aR ps b ss k ∧
  (ps.length ≤ 60 ∧ Okb b ∧ Okb b' ∧ Oks ss ss' ∧ (sEq w nmUnion = true ∨ sEq w nmBoth = true ∨ sEq w nmWithout = true)) ∧
  ((∀ R, Told R b ps → Okb R) ∧ ∀ aR' B R ts, Told R b ps → Mg B R b' w → PutS ts ss ss' w → Q (.d .none) (sofOut e0 e1 dx aR' [] B ts true))
noncomputable def begins : List Int := [0, 1, 97, 98, 99, 100, 102, 103, 1114111]
noncomputable def ends : List Int := [0, 96, 97, 98, 99, 101, 102, 1114110, 1114111]
noncomputable def S255 : SP := fun vs out Q => match vs with
  | [] => Q (.d (pInts begins)) out
  | _ => False
noncomputable def S262 : SP := fun vs out Q => match vs with
  | [] => Q (.d (pInts ends)) out
  | _ => False

/-- the deck: the ledger at its users' -/
structure Dk (ls : List Int) (m : Int) : Prop where
  le : ls.length ≤ 63
  all : ∀ x ∈ ls, 0 ≤ x ∧ x < 1000003
  lo : 0 ≤ m
  hi : m < 1000003
noncomputable def dkOut (aL aD : Addr) (ls : List Int) (m : Int) (rest : Led) : Led := (aL, .list (ls.map .int)) :: (aD, .dict [("left", .loc false 0 aL), ("mixed", dI m)]) :: rest
noncomputable def S276 : SP := fun vs out Q => match out with
  | [] => ∃ l, vs = [.d (pInts l)] ∧ l.length ≤ 63 ∧ ∀ aL aD ls m, Dk ls m → Q (.loc false 1 aD) (dkOut aL aD ls m [])
  | _ => False
noncomputable def dkE (aL aD : Addr) (ls : List Int) (m : Int) (e0 e1 : Addr × AO) : Prop := e0 = (aL, .list (ls.map .int)) ∧ e1 = (aD, .dict [("left", .loc false 0 aL), ("mixed", dI m)])
noncomputable def S283 : SP := fun vs out Q => match out with
  | e0 :: e1 :: rest => ∃ aL aD ls m n, vs = [.loc false 1 aD, dI n] ∧ dkE aL aD ls m e0 e1 ∧ (Dk ls m ∧ 0 < n ∧ n < 1000) ∧ ∀ r ls' m', Dk ls' m' → 0 ≤ r → r < n → Q (dI r) (dkOut aL aD ls' m' rest)
  | _ => False
noncomputable def vD (t : List Bool) (ss : List (List Int)) : V := .d (.tuple [.list (t.map .bool), pStrs ss])
noncomputable def isOne : List Int → Bool
  | [_] => true
  | _ => false
noncomputable def idxOf (x : Int) : Nat := (List.range 9).findIdx fun k => decide ((begins[k]?).getD 0 ≤ x) && decide (x ≤ (ends[k]?).getD 0)
noncomputable def putT : List Bool → List (List Int) → List Bool
  | t, [] => t
  | t, [x] :: r => putT (t.set (idxOf x) true) r
  | t, _ :: r => putT t r
noncomputable def addS : List (List Int) → List (List Int) → List (List Int)
  | ss, [] => ss
  | ss, c :: r => if isOne c || ss.contains c then addS ss r else addS (ss ++ [c]) r
noncomputable def multi : List (List Int) := [[], [97, 97], [97, 98], [98, 97], [99, 97, 98]]
/-- strings as the law keeps them -/
structure Str5 (ss : List (List Int)) : Prop where
  sub : ∀ x ∈ ss, x ∈ multi
  srt : ss.Pairwise (fun a b => ltL a b = true)
noncomputable def S288 : SP := fun vs out Q => ∃ t ss cs, vs = [vD t ss, .d (pStrs cs)] ∧ (t.length = 9 ∧ Str5 ss ∧ (∀ c ∈ cs, c ∈ lawStrings) ∧ cs.length ≤ 20) ∧ ∀ ts, Str5 ts → (∀ x, x ∈ ts ↔ x ∈ ss ∨ (x ∈ cs ∧ isOne x = false)) → Q (vD (putT t cs) ts) out
/-- the ranges of nine truths, as the law makes them -/
noncomputable def lawR (t : List Bool) : List (Int × Int) := go 0 t false []
where
  go (k : Nat) : List Bool → Bool → List (Int × Int) → List (Int × Int)
    | [], _, acc => acc
    | b :: r, prev, acc => go (k + 1) r b (match b, prev with
      | true, true => acc.dropLast ++ [((acc.getLast?.getD (0, 0)).1, (ends[k]?).getD 0)]
      | true, false => acc ++ [((begins[k]?).getD 0, (ends[k]?).getD 0)]
      | false, _ => acc)
noncomputable def S295 : SP := fun vs out Q => ∃ t : List Bool, vs = [.d (.list (t.map .bool))] ∧ t.length = 9 ∧ Q (.d (.list (pPairs (lawR t)))) out
noncomputable def S302 : SP := fun vs out Q => ∃ t ss, vs = [vD t ss] ∧ (t.length = 9 ∧ ss.length ≤ 100) ∧ ∀ B, Bnd B (lawR t) → Q (.cstr B ss) out
noncomputable def S309 : SP := fun vs out Q => match out with
  | e0 :: e1 :: rest => ∃ aL aD ls m, vs = [.loc false 1 aD] ∧ dkE aL aD ls m e0 e1 ∧ Dk ls m ∧ ∀ ls' m' (lo hi : Int), Dk ls' m' → 0 ≤ lo → lo ≤ hi → hi < 9 → Q (.d (pInts [lo, hi])) (dkOut aL aD ls' m' rest)
  | _ => False
noncomputable def S314 : SP := fun vs out Q => match out with
  | e0 :: e1 :: rest => ∃ aL aD ls m, vs = [.loc false 1 aD] ∧ dkE aL aD ls m e0 e1 ∧ Dk ls m ∧ ∀ ls' m' t ss, Dk ls' m' → t.length = 9 → Str5 ss → Q (vD t ss) (dkOut aL aD ls' m' rest)
  | _ => False
noncomputable def bothT (w : Str) (t t' : List Bool) : List Bool := List.zipWith (wanted w) t t'
noncomputable def bothS (w : Str) (ts ss ss' : List (List Int)) : Prop := match sEq w nmUnion with
  | true => Str5 ts ∧ ∀ x, x ∈ ts ↔ x ∈ ss ∨ x ∈ ss'
  | false => (match sEq w nmBoth with
    | true => ts = ss.filter fun x => ss'.contains x
    | false => ts = ss.filter fun x => !ss'.contains x)
noncomputable def S319 : SP := fun vs out Q => ∃ t ss t' ss' w, vs = [vD t ss, vD t' ss', .d (.str w)] ∧ (t.length = 9 ∧ t'.length = 9 ∧ Str5 ss ∧ Str5 ss' ∧ (sEq w nmUnion = true ∨ sEq w nmBoth = true ∨ sEq w nmWithout = true)) ∧ ∀ ts, bothS w ts ss ss' → Q (vD (bothT w t t') ts) out
noncomputable def S324 : SP := fun vs out Q => ∃ b ss t ss', vs = [.cstr b ss, vD t ss'] ∧ (Okb b ∧ t.length = 9 ∧ Oks ss ss') ∧ Q (dB (decide (pairsOf b = lawR t) && decide (ss = ss'))) out

/-- the set that is built is the law's -/
structure Agree (ps : List (Int × Int)) (b : List Int) (ss : List (List Int)) (t : List Bool) (us : List (List Int)) : Prop where
  len : t.length = 9
  few : ps.length ≤ 60
  okb : Okb b
  str : Str5 us
  same : ss = us
  told : ∀ B, Told B b ps → Bnd B (lawR t) ∧ Okb B
noncomputable def S331 : SP := fun vs out Q => ∃ aL aD ls m dx aR ps b ss k t us, vs = [.loc false 1 aD, .inst false 2 244 dx, vD t us, dB k] ∧ out = sofOut (aL, .list (ls.map .int)) (aD, .dict [("left", .loc false 0 aL), ("mixed", dI m)]) dx aR ps b ss k ∧ (Dk ls m ∧ Agree ps b ss t us) ∧
  ∀ ls' m', Dk ls' m' → Q (dB true) (sofOut (aL, .list (ls'.map .int)) (aD, .dict [("left", .loc false 0 aL), ("mixed", dI m')]) dx aR ps b ss k)
set_option genInjectivity false in
/-- where the law's loop stands -/
structure LS where
  aL : Addr
  aD : Addr
  dx : Addr
  aR : Addr
  ls : List Int
  m : Int
  ps : List (Int × Int)
  b : List Int
  ss : List (List Int)
  k : Bool
  t : List Bool
  us : List (List Int)
  turn : Option V
  way : Option V
  low : Option V
  high : Option V
  codes : Option V
  other : Option V
  word : Option V
  lo : Int
  hi : Int
section
variable {c : Cx} {N : Nat}
theorem spOn_ok {n : Nat} {k : SP} {rest : Nat → SP} (h : ∀ vs out Q, k vs out Q → CallOk c N n vs out Q) (hr : ∀ a vs out Q, rest a vs out Q → CallOk c N a vs out Q) : ∀ a vs out Q, spOn n k rest a vs out Q → CallOk c N a vs out Q := fun a vs out Q x => by
  unfold spOn at x
  split at x
  · rename_i q
    obtain rfl := Nat.eq_of_beq_eq_true q
    exact h _ _ _ x
  · exact hr _ _ _ _ x
theorem spNo_ok : ∀ a vs out Q, spNo a vs out Q → CallOk c N a vs out Q := fun a vs out Q x => x.elim
theorem CallOk.up {N' : Nat} (h : N ≤ N') {a : Addr} {vs : List V} {out : Led} {Q : V → Led → Prop} (x : CallOk c N a vs out Q) : CallOk c N' a vs out Q := fun f P m own ds us ws s R => x f P m own ds us ws s (R.le h)
end
end Mine

namespace Mine
open PySem PySem.W PySem.Calls PyProof.Rows PySem.Spec
open PySem.W.Fast (sEq sEq_iff)
set_option maxRecDepth 100000
set_option maxHeartbeats 0
theorem e28 (firsts : List Int) (number : Int) (I : Int × Int × Option V → Nat → Prop) (out : Led) (Q : V → Led → Prop) : vXs (vc 20) ⟨fNames (stmtAt 2), [], spNo, fun _ => ⟨Unit, fun _ => ⟨Unit, fun _ => ([], ⟨[], []⟩), fun _ _ => False⟩⟩, fun _ => ⟨Unit, fun _ => ⟨Unit, fun _ => ⟨[], []⟩, fun _ _ _ => False⟩⟩, fun _ => ⟨Int × Int × Option V, fun x => ([("firsts", false, some (.d (pInts firsts))), ("number", false, some (dI number)), ("low", false, some (dI x.1)), ("high", false, some (dI x.2.1)), ("middle", false, x.2.2)], ⟨[], out⟩), I⟩, [], []⟩ (fBody (stmtAt 2)) (initM (List.zip ["firsts", "number"] [.d (pInts firsts), dI number]) (fNames (stmtAt 2))) ⟨[], out⟩ (exitQ Q) =
  ((List.map PyData.int firsts).length ≤ (1000 : Nat) ∧ ∃ (a : Int × Int × Option V), ∃ (n : Nat), ([(Str.ofString "firsts", false, some (V.d (pInts firsts))), (Str.ofString "number", false, some (V.d (PyData.int number))), (Str.ofString "low", false, some (V.d (PyData.int a.fst))), (Str.ofString "high", false, some (V.d (PyData.int a.snd.fst))), (Str.ofString "middle", false, a.snd.snd)], G.mk [] out) = ([(Str.ofString "firsts", false, some (V.d (pInts firsts))), (Str.ofString "number", false, some (V.d (PyData.int number))), (Str.ofString "low", false, some (V.d (PyData.int (0 : Int)))), (Str.ofString "high", false, some (V.d (PyData.int (Int.ofNat (List.map PyData.int firsts).length)))), (Str.ofString "middle", false, none)], G.mk [] out) ∧ I a n ∧ ∀ (a : Int × Int × Option V) (n : Nat), I a n → br (decide (a.fst < a.snd.fst)) (((2 : Int) ≠ (0 : Int) ∧ Int.natAbs (2 : Int) < (1073741824 : Nat)) ∧ (-(2 : Int) ^ (62 : Nat) < (a.fst + a.snd.fst).fdiv (2 : Int) ∧ (a.fst + a.snd.fst).fdiv (2 : Int) < (2 : Int) ^ (62 : Nat)) ∧ oB (seqIndex? ((a.fst + a.snd.fst).fdiv (2 : Int)) (List.map PyData.int firsts).length) fun (j : Nat) => oB (List.map PyData.int firsts)[j]? fun (y : PyData) => vInt (V.d y) fun (x : Int) => br (decide (x ≤ number)) (∃ (a_2 : Int × Int × Option V), ∃ (n' : Nat), ([(Str.ofString "firsts", false, some (V.d (pInts firsts))), (Str.ofString "number", false, some (V.d (PyData.int number))), (Str.ofString "low", false, some (V.d (PyData.int a_2.fst))), (Str.ofString "high", false, some (V.d (PyData.int a_2.snd.fst))), (Str.ofString "middle", false, a_2.snd.snd)], G.mk [] out) = ([(Str.ofString "firsts", false, some (V.d (pInts firsts))), (Str.ofString "number", false, some (V.d (PyData.int number))), (Str.ofString "low", false, some (V.d (PyData.int ((a.fst + a.snd.fst).fdiv (2 : Int) + (1 : Int))))), (Str.ofString "high", false, some (V.d (PyData.int a.snd.fst))), (Str.ofString "middle", false, some (V.d (PyData.int ((a.fst + a.snd.fst).fdiv (2 : Int)))))], G.mk [] out) ∧ n' < n ∧ I a_2 n') (∃ (a_2 : Int × Int × Option V), ∃ (n' : Nat), ([(Str.ofString "firsts", false, some (V.d (pInts firsts))), (Str.ofString "number", false, some (V.d (PyData.int number))), (Str.ofString "low", false, some (V.d (PyData.int a_2.fst))), (Str.ofString "high", false, some (V.d (PyData.int a_2.snd.fst))), (Str.ofString "middle", false, a_2.snd.snd)], G.mk [] out) = ([(Str.ofString "firsts", false, some (V.d (pInts firsts))), (Str.ofString "number", false, some (V.d (PyData.int number))), (Str.ofString "low", false, some (V.d (PyData.int a.fst))), (Str.ofString "high", false, some (V.d (PyData.int ((a.fst + a.snd.fst).fdiv (2 : Int))))), (Str.ofString "middle", false, some (V.d (PyData.int ((a.fst + a.snd.fst).fdiv (2 : Int)))))], G.mk [] out) ∧ n' < n ∧ I a_2 n')) (Q (V.d (PyData.int (a.fst - (1 : Int)))) out)) := by kernel_rfl
theorem e40 (u : V) (IC : List PyData → List PyData → Prop) (IF : Addr × List Int × Option V × Option V → List PyData → Prop) (out : Led) (Q : V → Led → Prop) : vXs (vc 20) ⟨fNames (stmtAt 5), ["found"], spNo, fun _ => ⟨Unit, fun _ => ⟨Addr × List Int × Option V × Option V, fun x => ([("ranges", false, some (u)), ("found", false, some (.loc true 0 x.1)), ("first", false, x.2.2.1), ("last", false, x.2.2.2)], ⟨[(x.1, .list (x.2.1.map .int))], out⟩), IF⟩⟩, fun _ => ⟨Addr, fun a => ⟨Unit, fun _ => ⟨[(a, .list [])], out⟩, fun _ => IC⟩⟩, fun _ => ⟨Unit, fun _ => ([], ⟨[], []⟩), fun _ _ => False⟩, [], [21]⟩ (fBody (stmtAt 5)) (initM (List.zip ["ranges"] [u]) (fNames (stmtAt 5))) ⟨[], out⟩ (exitQ Q) =
  (  (0 : Nat) ≤ (1000 : Nat) ∧
   ∀ (a : Addr),
    vView (G.mk [(a, AO.list [])] out) u fun (xs : List PyData) =>
     xs.length ≤ (1000 : Nat) ∧
      ∃ (p : Addr),
       ∃ (a_1 : Unit),
        G.mk [(p, AO.list [])] out = G.mk [(a, AO.list [])] out ∧
         IC [] xs ∧
          (∀ (a : Unit) (acc : List PyData) (y : PyData) (rest : List PyData),
            IC acc (y :: rest) →
             (vView (G.mk [(p, AO.list [])] out) u fun (ys : List PyData) => ys = xs) ∧
              vItem (V.d y) (V.d (PyData.int (0 : Int))) (G.mk [(p, AO.list [])] out) fun (u : V) (g : G) =>
               vItem (V.d y) (V.d (PyData.int (1 : Int))) g fun (b : V) (g : G) =>
                vInt u fun (x : Int) =>
                 vInt b fun (y_1 : Int) =>
                  br (decide (x ≤ y_1)) (∃ (a : Unit), G.mk [(p, AO.list [])] out = g ∧ IC (acc ++ [y]) rest)
                   (∃ (a : Unit), G.mk [(p, AO.list [])] out = g ∧ IC acc rest)) ∧
           ∀ (a_2 : Unit) (acc : List PyData),
            IC acc [] →
             (vView (G.mk [(p, AO.list [])] out) u fun (ys : List PyData) => ys = xs) ∧
              ∃ (ps : List (Int × Int)),
               acc = pPairs ps ∧
                ps.length < (64 : Nat) ∧
                 ∀ (qs : List (Int × Int)),
                  qs.Perm ps →
                   List.Pairwise (fun (a b : Int × Int) => a.fst ≤ b.fst) qs →
                    (pPairs qs).length ≤ (1000 : Nat) ∧
                     ∃ (q : Unit),
                      ∃ (a_6 : Addr × List Int × Option V × Option V),
                       ([(Str.ofString "ranges", false, some u), (Str.ofString "found", false, some (V.loc true (0 : Nat) a_6.fst)),
                           (Str.ofString "first", false, a_6.snd.snd.fst), (Str.ofString "last", false, a_6.snd.snd.snd)],
                          G.mk [(a_6.fst, AO.list (List.map PyData.int a_6.snd.fst))] out) =
                         ([(Str.ofString "ranges", false, some u), (Str.ofString "found", false, some (V.loc true (0 : Nat) a)),
                           (Str.ofString "first", false, none), (Str.ofString "last", false, none)],
                          G.mk [(p, AO.list [])] out) ∧
                        IF a_6 (pPairs qs) ∧
                         (∀ (a : Addr × List Int × Option V × Option V) (y : PyData) (rest : List PyData),
                           IF a (y :: rest) →
                            pPairs qs = pPairs qs ∧
                             match y with
                             | PyData.tuple ys =>
                              match ys with
                              | [u_1, v] =>
                               (0 : Nat) ≤ (1000 : Nat) ∧
                                a.fst = a.fst ∧
                                 (SeqAt.shaped (PyData.list (List.map PyData.int a.snd.fst)) = true ∧
                                   SeqAt.shaped (PyData.list []) = true) ∧
                                  ∃ (b : Bool),
                                   ((!PyData.eqvAll (List.map PyData.int a.snd.fst) []) = true →
                                     a.fst = a.fst ∧
                                      (-(2 : Int) ^ (62 : Nat) < (-1 : Int) ∧ (-1 : Int) < (2 : Int) ^ (62 : Nat)) ∧
                                       oB (seqIndex? (-1 : Int) (List.map PyData.int a.snd.fst).length) fun (j : Nat) =>
                                        oB (List.map PyData.int a.snd.fst)[j]? fun (y : PyData) =>
                                         vInt (V.d u_1) fun (x : Int) =>
                                          vInt (V.d y) fun (y : Int) =>
                                           decide (x ≤ y) = b ∧
                                            G.mk [(a.fst, AO.list (List.map PyData.int a.snd.fst))] out =
                                             G.mk [(a.fst, AO.list (List.map PyData.int a.snd.fst))] out) ∧
                                    br (!PyData.eqvAll (List.map PyData.int a.snd.fst) [] && b)
                                     (false = false ∧
                                      a.fst = a.fst ∧
                                       (-(2 : Int) ^ (62 : Nat) < (-1 : Int) ∧ (-1 : Int) < (2 : Int) ^ (62 : Nat)) ∧
                                        oB (seqIndex? (-1 : Int) (List.map PyData.int a.snd.fst).length) fun (j : Nat) =>
                                         oB (List.map PyData.int a.snd.fst)[j]? fun (y : PyData) =>
                                          vBin Operator.Add (V.d v) (V.d (PyData.int (1 : Int)))
                                           (G.mk [(a.fst, AO.list (List.map PyData.int a.snd.fst))] out)
                                           fun (v_1 : V) (g : G) =>
                                           vInt (V.d y) fun (i : Int) =>
                                            vInt v_1 fun (j : Int) =>
                                             vSetItem (V.loc true (0 : Nat) a.fst) (V.d (PyData.int (-1 : Int)))
                                              (V.d (PyData.int (if i < j then j else i))) g fun (g : G) =>
                                              ∃ (a_8 : Addr × List Int × Option V × Option V),
                                               ([(Str.ofString "ranges", false, some u),
                                                   (Str.ofString "found", false,
                                                    some (V.loc true (0 : Nat) a_8.fst)),
                                                   (Str.ofString "first", false, a_8.snd.snd.fst),
                                                   (Str.ofString "last", false, a_8.snd.snd.snd)],
                                                  G.mk [(a_8.fst, AO.list (List.map PyData.int a_8.snd.fst))]
                                                   out) =
                                                 ([(Str.ofString "ranges", false, some u),
                                                   (Str.ofString "found", false,
                                                    some (V.loc true (0 : Nat) a.fst)),
                                                   (Str.ofString "first", false, some (V.d u_1)),
                                                   (Str.ofString "last", false, some (V.d v))],
                                                  g) ∧
                                                IF a_8 rest)
                                     (a.fst = a.fst ∧
                                      vBin Operator.Add (V.d v) (V.d (PyData.int (1 : Int)))
                                       (G.mk [(a.fst, AO.list (List.map PyData.int a.snd.fst))] out) fun (v_1 : V) (g : G) =>
                                       vData g v_1 fun (x : PyData) (g : G) =>
                                        (0 : Nat) + (1 : Nat) + (1 : Nat) ≤ (1000 : Nat) ∧
                                         vMut (V.loc true (0 : Nat) a.fst) g
                                          fun (xs : List PyData) (put : List PyData → G) =>
                                          ([u_1, x] ≠ [] ∧
                                            xs.length + ((0 : Nat) + (1 : Nat) + (1 : Nat)) ≤ (1000 : Nat)) ∧
                                           ∃ (a_8 : Addr × List Int × Option V × Option V),
                                            ([(Str.ofString "ranges", false, some u),
                                                (Str.ofString "found", false, some (V.loc true (0 : Nat) a_8.fst)),
                                                (Str.ofString "first", false, a_8.snd.snd.fst),
                                                (Str.ofString "last", false, a_8.snd.snd.snd)],
                                               G.mk [(a_8.fst, AO.list (List.map PyData.int a_8.snd.fst))] out) =
                                              ([(Str.ofString "ranges", false, some u),
                                                (Str.ofString "found", false, some (V.loc true (0 : Nat) a.fst)),
                                                (Str.ofString "first", false, some (V.d u_1)),
                                                (Str.ofString "last", false, some (V.d v))],
                                               put (xs ++ [u_1, x])) ∧
                                             IF a_8 rest)
                              | x => False
                             | x => False) ∧
                          ∀ (a : Addr × List Int × Option V × Option V),
                           IF a [] → pPairs qs = pPairs qs ∧ a.fst = a.fst ∧ Q (V.d (PyData.list (List.map PyData.int a.snd.fst))) out) := by kernel_rfl
theorem e47 (w : Str) (a b : Bool) (out : Led) (Q : V → Led → Prop) : vXs (vc 20) ⟨fNames (stmtAt 6), [], spNo, fun _ => ⟨Unit, fun _ => ⟨Unit, fun _ => ([], ⟨[], []⟩), fun _ _ => False⟩⟩, fun _ => ⟨Unit, fun _ => ⟨Unit, fun _ => ⟨[], []⟩, fun _ _ _ => False⟩⟩, fun _ => ⟨Unit, fun _ => ([], ⟨[], []⟩), fun _ _ => False⟩, [], []⟩ (fBody (stmtAt 6)) (initM (List.zip ["way", "is_near", "is_far"] [.d (.str w), dB a, dB b]) (fNames (stmtAt 6))) ⟨[], out⟩ (exitQ Q) =
  (br (sEq w (Str.ofString "union")) (br a (Q (V.d (PyData.bool true)) out) (Q (V.d (PyData.bool b)) out)) (br (sEq w (Str.ofString "both")) (br a (Q (V.d (PyData.bool b)) out) (Q (V.d (PyData.bool false)) out)) (br (sEq w (Str.ofString "without")) (br a (Q (V.d (PyData.bool !b)) out) (Q (V.d (PyData.bool false)) out)) (Q (V.d (PyData.bool !a == b)) out)))) := by kernel_rfl
theorem e54 (near far : List Int) (w : Str) (I : Addr × List Int × Int × Int × Bool × Option V × Option V → Nat → Prop) (out : Led) (Q : V → Led → Prop) : vXs (vc 20) ⟨fNames (stmtAt 7), ["found"], spOn 47 S47 spNo, fun _ => ⟨Unit, fun _ => ⟨Unit, fun _ => ([], ⟨[], []⟩), fun _ _ => False⟩⟩, fun _ => ⟨Unit, fun _ => ⟨Unit, fun _ => ⟨[], []⟩, fun _ _ _ => False⟩⟩, fun _ => ⟨Addr × List Int × Int × Int × Bool × Option V × Option V, fun x => ([("near", false, some (.d (pInts near))), ("far", false, some (.d (pInts far))), ("way", false, some (.d (.str w))), ("found", false, some (.loc true 0 x.1)), ("at", false, some (dI x.2.2.1)), ("beside", false, some (dI x.2.2.2.1)), ("is_in", false, some (dB x.2.2.2.2.1)), ("bound", false, x.2.2.2.2.2.1), ("is_next", false, x.2.2.2.2.2.2)], ⟨[(x.1, .list (x.2.1.map .int))], out⟩), I⟩, [(37, ["bound"]), (41, ["at"]), (43, ["beside"])], [36, 37, 41, 43]⟩ (fBody (stmtAt 7)) (initM (List.zip ["near", "far", "way"] [.d (pInts near), .d (pInts far), .d (.str w)]) (fNames (stmtAt 7))) ⟨[], out⟩ (exitQ Q) =
  ((0 : Nat) ≤ (1000 : Nat) ∧ ∀ (a : Addr), ∃ (a_1 : Addr × List Int × Int × Int × Bool × Option V × Option V), ∃ (n : Nat), ([(Str.ofString "near", false, some (V.d (pInts near))), (Str.ofString "far", false, some (V.d (pInts far))), (Str.ofString "way", false, some (V.d (PyData.str w))), (Str.ofString "found", false, some (V.loc true (0 : Nat) a_1.fst)), (Str.ofString "at", false, some (V.d (PyData.int a_1.snd.snd.fst))), (Str.ofString "beside", false, some (V.d (PyData.int a_1.snd.snd.snd.fst))), (Str.ofString "is_in", false, some (V.d (PyData.bool a_1.snd.snd.snd.snd.fst))), (Str.ofString "bound", false, a_1.snd.snd.snd.snd.snd.fst), (Str.ofString "is_next", false, a_1.snd.snd.snd.snd.snd.snd)], G.mk [(a_1.fst, AO.list (List.map PyData.int a_1.snd.fst))] out) = ([(Str.ofString "near", false, some (V.d (pInts near))), (Str.ofString "far", false, some (V.d (pInts far))), (Str.ofString "way", false, some (V.d (PyData.str w))), (Str.ofString "found", false, some (V.loc true (0 : Nat) a)), (Str.ofString "at", false, some (V.d (PyData.int (0 : Int)))), (Str.ofString "beside", false, some (V.d (PyData.int (0 : Int)))), (Str.ofString "is_in", false, some (V.d (PyData.bool false))), (Str.ofString "bound", false, none), (Str.ofString "is_next", false, none)], G.mk [(a, AO.list [])] out) ∧ I a_1 n ∧ ∀ (a : Addr × List Int × Int × Int × Bool × Option V × Option V) (n : Nat), I a n → (List.map PyData.int near).length ≤ (1000 : Nat) ∧ ∃ (b : Bool), (decide (a.snd.snd.fst < Int.ofNat (List.map PyData.int near).length) = false → (List.map PyData.int far).length ≤ (1000 : Nat) ∧ decide (a.snd.snd.snd.fst < Int.ofNat (List.map PyData.int far).length) = b ∧ G.mk [(a.fst, AO.list (List.map PyData.int a.snd.fst))] out = G.mk [(a.fst, AO.list (List.map PyData.int a.snd.fst))] out) ∧ br (decide (a.snd.snd.fst < Int.ofNat (List.map PyData.int near).length) || b) ((List.map PyData.int far).length ≤ (1000 : Nat) ∧ ∃ (b : Bool), (decide (Int.ofNat (List.map PyData.int far).length ≤ a.snd.snd.snd.fst) = false → (List.map PyData.int near).length ≤ (1000 : Nat) ∧ ∃ (b_1 : Bool), (decide (a.snd.snd.fst < Int.ofNat (List.map PyData.int near).length) = true → (-(2 : Int) ^ (62 : Nat) < a.snd.snd.fst ∧ a.snd.snd.fst < (2 : Int) ^ (62 : Nat)) ∧ oB (seqIndex? a.snd.snd.fst (List.map PyData.int near).length) fun (j : Nat) => oB (List.map PyData.int near)[j]? fun (y : PyData) => (-(2 : Int) ^ (62 : Nat) < a.snd.snd.snd.fst ∧ a.snd.snd.snd.fst < (2 : Int) ^ (62 : Nat)) ∧ oB (seqIndex? a.snd.snd.snd.fst (List.map PyData.int far).length) fun (j : Nat) => oB (List.map PyData.int far)[j]? fun (y_1 : PyData) => vInt (V.d y) fun (x : Int) => vInt (V.d y_1) fun (y : Int) => decide (x ≤ y) = b_1 ∧ G.mk [(a.fst, AO.list (List.map PyData.int a.snd.fst))] out = G.mk [(a.fst, AO.list (List.map PyData.int a.snd.fst))] out) ∧ (decide (a.snd.snd.fst < Int.ofNat (List.map PyData.int near).length) && b_1) = b ∧ G.mk [(a.fst, AO.list (List.map PyData.int a.snd.fst))] out = G.mk [(a.fst, AO.list (List.map PyData.int a.snd.fst))] out) ∧ ∃ (i : Int), br (decide (Int.ofNat (List.map PyData.int far).length ≤ a.snd.snd.snd.fst) || b) ((-(2 : Int) ^ (62 : Nat) < a.snd.snd.fst ∧ a.snd.snd.fst < (2 : Int) ^ (62 : Nat)) ∧ oB (seqIndex? a.snd.snd.fst (List.map PyData.int near).length) fun (j : Nat) => oB (List.map PyData.int near)[j]? fun (y : PyData) => True ∧ [(Str.ofString "near", false, some (V.d (pInts near))), (Str.ofString "far", false, some (V.d (pInts far))), (Str.ofString "way", false, some (V.d (PyData.str w))), (Str.ofString "found", false, some (V.loc true (0 : Nat) a.fst)), (Str.ofString "at", false, some (V.d (PyData.int a.snd.snd.fst))), (Str.ofString "beside", false, some (V.d (PyData.int a.snd.snd.snd.fst))), (Str.ofString "is_in", false, some (V.d (PyData.bool a.snd.snd.snd.snd.fst))), (Str.ofString "bound", false, some (V.d y)), (Str.ofString "is_next", false, a.snd.snd.snd.snd.snd.snd)] = [(Str.ofString "near", false, some (V.d (pInts near))), (Str.ofString "far", false, some (V.d (pInts far))), (Str.ofString "way", false, some (V.d (PyData.str w))), (Str.ofString "found", false, some (V.loc true (0 : Nat) a.fst)), (Str.ofString "at", false, some (V.d (PyData.int a.snd.snd.fst))), (Str.ofString "beside", false, some (V.d (PyData.int a.snd.snd.snd.fst))), (Str.ofString "is_in", false, some (V.d (PyData.bool a.snd.snd.snd.snd.fst))), (Str.ofString "bound", false, some (V.d (PyData.int i))), (Str.ofString "is_next", false, a.snd.snd.snd.snd.snd.snd)] ∧ G.mk [(a.fst, AO.list (List.map PyData.int a.snd.fst))] out = G.mk [(a.fst, AO.list (List.map PyData.int a.snd.fst))] out) ((-(2 : Int) ^ (62 : Nat) < a.snd.snd.snd.fst ∧ a.snd.snd.snd.fst < (2 : Int) ^ (62 : Nat)) ∧ oB (seqIndex? a.snd.snd.snd.fst (List.map PyData.int far).length) fun (j : Nat) => oB (List.map PyData.int far)[j]? fun (y : PyData) => True ∧ [(Str.ofString "near", false, some (V.d (pInts near))), (Str.ofString "far", false, some (V.d (pInts far))), (Str.ofString "way", false, some (V.d (PyData.str w))), (Str.ofString "found", false, some (V.loc true (0 : Nat) a.fst)), (Str.ofString "at", false, some (V.d (PyData.int a.snd.snd.fst))), (Str.ofString "beside", false, some (V.d (PyData.int a.snd.snd.snd.fst))), (Str.ofString "is_in", false, some (V.d (PyData.bool a.snd.snd.snd.snd.fst))), (Str.ofString "bound", false, some (V.d y)), (Str.ofString "is_next", false, a.snd.snd.snd.snd.snd.snd)] = [(Str.ofString "near", false, some (V.d (pInts near))), (Str.ofString "far", false, some (V.d (pInts far))), (Str.ofString "way", false, some (V.d (PyData.str w))), (Str.ofString "found", false, some (V.loc true (0 : Nat) a.fst)), (Str.ofString "at", false, some (V.d (PyData.int a.snd.snd.fst))), (Str.ofString "beside", false, some (V.d (PyData.int a.snd.snd.snd.fst))), (Str.ofString "is_in", false, some (V.d (PyData.bool a.snd.snd.snd.snd.fst))), (Str.ofString "bound", false, some (V.d (PyData.int i))), (Str.ofString "is_next", false, a.snd.snd.snd.snd.snd.snd)] ∧ G.mk [(a.fst, AO.list (List.map PyData.int a.snd.fst))] out = G.mk [(a.fst, AO.list (List.map PyData.int a.snd.fst))] out) ∧ (List.map PyData.int near).length ≤ (1000 : Nat) ∧ ∃ (b : Bool), (decide (a.snd.snd.fst < Int.ofNat (List.map PyData.int near).length) = true → (-(2 : Int) ^ (62 : Nat) < a.snd.snd.fst ∧ a.snd.snd.fst < (2 : Int) ^ (62 : Nat)) ∧ oB (seqIndex? a.snd.snd.fst (List.map PyData.int near).length) fun (j : Nat) => oB (List.map PyData.int near)[j]? fun (y : PyData) => vEq (V.d y) (V.d (PyData.int i)) (G.mk [(a.fst, AO.list (List.map PyData.int a.snd.fst))] out) fun (c : Bool) => c = b ∧ G.mk [(a.fst, AO.list (List.map PyData.int a.snd.fst))] out = G.mk [(a.fst, AO.list (List.map PyData.int a.snd.fst))] out) ∧ ∃ (i_1 : Int), br (decide (a.snd.snd.fst < Int.ofNat (List.map PyData.int near).length) && b) (True ∧ [(Str.ofString "near", false, some (V.d (pInts near))), (Str.ofString "far", false, some (V.d (pInts far))), (Str.ofString "way", false, some (V.d (PyData.str w))), (Str.ofString "found", false, some (V.loc true (0 : Nat) a.fst)), (Str.ofString "at", false, some (V.d (PyData.int (a.snd.snd.fst + (1 : Int))))), (Str.ofString "beside", false, some (V.d (PyData.int a.snd.snd.snd.fst))), (Str.ofString "is_in", false, some (V.d (PyData.bool a.snd.snd.snd.snd.fst))), (Str.ofString "bound", false, some (V.d (PyData.int i))), (Str.ofString "is_next", false, a.snd.snd.snd.snd.snd.snd)] = [(Str.ofString "near", false, some (V.d (pInts near))), (Str.ofString "far", false, some (V.d (pInts far))), (Str.ofString "way", false, some (V.d (PyData.str w))), (Str.ofString "found", false, some (V.loc true (0 : Nat) a.fst)), (Str.ofString "at", false, some (V.d (PyData.int i_1))), (Str.ofString "beside", false, some (V.d (PyData.int a.snd.snd.snd.fst))), (Str.ofString "is_in", false, some (V.d (PyData.bool a.snd.snd.snd.snd.fst))), (Str.ofString "bound", false, some (V.d (PyData.int i))), (Str.ofString "is_next", false, a.snd.snd.snd.snd.snd.snd)] ∧ G.mk [(a.fst, AO.list (List.map PyData.int a.snd.fst))] out = G.mk [(a.fst, AO.list (List.map PyData.int a.snd.fst))] out) (True ∧ [(Str.ofString "near", false, some (V.d (pInts near))), (Str.ofString "far", false, some (V.d (pInts far))), (Str.ofString "way", false, some (V.d (PyData.str w))), (Str.ofString "found", false, some (V.loc true (0 : Nat) a.fst)), (Str.ofString "at", false, some (V.d (PyData.int a.snd.snd.fst))), (Str.ofString "beside", false, some (V.d (PyData.int a.snd.snd.snd.fst))), (Str.ofString "is_in", false, some (V.d (PyData.bool a.snd.snd.snd.snd.fst))), (Str.ofString "bound", false, some (V.d (PyData.int i))), (Str.ofString "is_next", false, a.snd.snd.snd.snd.snd.snd)] = [(Str.ofString "near", false, some (V.d (pInts near))), (Str.ofString "far", false, some (V.d (pInts far))), (Str.ofString "way", false, some (V.d (PyData.str w))), (Str.ofString "found", false, some (V.loc true (0 : Nat) a.fst)), (Str.ofString "at", false, some (V.d (PyData.int i_1))), (Str.ofString "beside", false, some (V.d (PyData.int a.snd.snd.snd.fst))), (Str.ofString "is_in", false, some (V.d (PyData.bool a.snd.snd.snd.snd.fst))), (Str.ofString "bound", false, some (V.d (PyData.int i))), (Str.ofString "is_next", false, a.snd.snd.snd.snd.snd.snd)] ∧ G.mk [(a.fst, AO.list (List.map PyData.int a.snd.fst))] out = G.mk [(a.fst, AO.list (List.map PyData.int a.snd.fst))] out) ∧ (List.map PyData.int far).length ≤ (1000 : Nat) ∧ ∃ (b : Bool), (decide (a.snd.snd.snd.fst < Int.ofNat (List.map PyData.int far).length) = true → (-(2 : Int) ^ (62 : Nat) < a.snd.snd.snd.fst ∧ a.snd.snd.snd.fst < (2 : Int) ^ (62 : Nat)) ∧ oB (seqIndex? a.snd.snd.snd.fst (List.map PyData.int far).length) fun (j : Nat) => oB (List.map PyData.int far)[j]? fun (y : PyData) => vEq (V.d y) (V.d (PyData.int i)) (G.mk [(a.fst, AO.list (List.map PyData.int a.snd.fst))] out) fun (c : Bool) => c = b ∧ G.mk [(a.fst, AO.list (List.map PyData.int a.snd.fst))] out = G.mk [(a.fst, AO.list (List.map PyData.int a.snd.fst))] out) ∧ ∃ (i_2 : Int), br (decide (a.snd.snd.snd.fst < Int.ofNat (List.map PyData.int far).length) && b) (True ∧ [(Str.ofString "near", false, some (V.d (pInts near))), (Str.ofString "far", false, some (V.d (pInts far))), (Str.ofString "way", false, some (V.d (PyData.str w))), (Str.ofString "found", false, some (V.loc true (0 : Nat) a.fst)), (Str.ofString "at", false, some (V.d (PyData.int i_1))), (Str.ofString "beside", false, some (V.d (PyData.int (a.snd.snd.snd.fst + (1 : Int))))), (Str.ofString "is_in", false, some (V.d (PyData.bool a.snd.snd.snd.snd.fst))), (Str.ofString "bound", false, some (V.d (PyData.int i))), (Str.ofString "is_next", false, a.snd.snd.snd.snd.snd.snd)] = [(Str.ofString "near", false, some (V.d (pInts near))), (Str.ofString "far", false, some (V.d (pInts far))), (Str.ofString "way", false, some (V.d (PyData.str w))), (Str.ofString "found", false, some (V.loc true (0 : Nat) a.fst)), (Str.ofString "at", false, some (V.d (PyData.int i_1))), (Str.ofString "beside", false, some (V.d (PyData.int i_2))), (Str.ofString "is_in", false, some (V.d (PyData.bool a.snd.snd.snd.snd.fst))), (Str.ofString "bound", false, some (V.d (PyData.int i))), (Str.ofString "is_next", false, a.snd.snd.snd.snd.snd.snd)] ∧ G.mk [(a.fst, AO.list (List.map PyData.int a.snd.fst))] out = G.mk [(a.fst, AO.list (List.map PyData.int a.snd.fst))] out) (True ∧ [(Str.ofString "near", false, some (V.d (pInts near))), (Str.ofString "far", false, some (V.d (pInts far))), (Str.ofString "way", false, some (V.d (PyData.str w))), (Str.ofString "found", false, some (V.loc true (0 : Nat) a.fst)), (Str.ofString "at", false, some (V.d (PyData.int i_1))), (Str.ofString "beside", false, some (V.d (PyData.int a.snd.snd.snd.fst))), (Str.ofString "is_in", false, some (V.d (PyData.bool a.snd.snd.snd.snd.fst))), (Str.ofString "bound", false, some (V.d (PyData.int i))), (Str.ofString "is_next", false, a.snd.snd.snd.snd.snd.snd)] = [(Str.ofString "near", false, some (V.d (pInts near))), (Str.ofString "far", false, some (V.d (pInts far))), (Str.ofString "way", false, some (V.d (PyData.str w))), (Str.ofString "found", false, some (V.loc true (0 : Nat) a.fst)), (Str.ofString "at", false, some (V.d (PyData.int i_1))), (Str.ofString "beside", false, some (V.d (PyData.int i_2))), (Str.ofString "is_in", false, some (V.d (PyData.bool a.snd.snd.snd.snd.fst))), (Str.ofString "bound", false, some (V.d (PyData.int i))), (Str.ofString "is_next", false, a.snd.snd.snd.snd.snd.snd)] ∧ G.mk [(a.fst, AO.list (List.map PyData.int a.snd.fst))] out = G.mk [(a.fst, AO.list (List.map PyData.int a.snd.fst))] out) ∧ (2 : Int) ≠ (0 : Int) ∧ (2 : Int) ≠ (0 : Int) ∧ ∃ (w_1 : Str), ∃ (a_3 : Bool), ∃ (b : Bool), [V.d (PyData.str w), V.d (PyData.bool (i_1.fmod (2 : Int) == (1 : Int))), V.d (PyData.bool (i_2.fmod (2 : Int) == (1 : Int)))] = [V.d (PyData.str w_1), V.d (PyData.bool a_3), V.d (PyData.bool b)] ∧ br (!wanted w_1 a_3 b == a.snd.snd.snd.snd.fst) (a.fst = a.fst ∧ a.fst = a.fst ∧ (List.map PyData.int a.snd.fst).length ≤ (1000 : Nat) ∧ ∃ (a_4 : Addr × List Int × Int × Int × Bool × Option V × Option V), ∃ (n' : Nat), ([(Str.ofString "near", false, some (V.d (pInts near))), (Str.ofString "far", false, some (V.d (pInts far))), (Str.ofString "way", false, some (V.d (PyData.str w))), (Str.ofString "found", false, some (V.loc true (0 : Nat) a_4.fst)), (Str.ofString "at", false, some (V.d (PyData.int a_4.snd.snd.fst))), (Str.ofString "beside", false, some (V.d (PyData.int a_4.snd.snd.snd.fst))), (Str.ofString "is_in", false, some (V.d (PyData.bool a_4.snd.snd.snd.snd.fst))), (Str.ofString "bound", false, a_4.snd.snd.snd.snd.snd.fst), (Str.ofString "is_next", false, a_4.snd.snd.snd.snd.snd.snd)], G.mk [(a_4.fst, AO.list (List.map PyData.int a_4.snd.fst))] out) = ([(Str.ofString "near", false, some (V.d (pInts near))), (Str.ofString "far", false, some (V.d (pInts far))), (Str.ofString "way", false, some (V.d (PyData.str w))), (Str.ofString "found", false, some (V.loc true (0 : Nat) a.fst)), (Str.ofString "at", false, some (V.d (PyData.int i_1))), (Str.ofString "beside", false, some (V.d (PyData.int i_2))), (Str.ofString "is_in", false, some (V.d (PyData.bool (wanted w_1 a_3 b)))), (Str.ofString "bound", false, some (V.d (PyData.int i))), (Str.ofString "is_next", false, some (V.d (PyData.bool (wanted w_1 a_3 b))))], G.mk [(a.fst, AO.list (List.map PyData.int a.snd.fst ++ [PyData.int i]))] out) ∧ n' < n ∧ I a_4 n') (∃ (a_4 : Addr × List Int × Int × Int × Bool × Option V × Option V), ∃ (n' : Nat), ([(Str.ofString "near", false, some (V.d (pInts near))), (Str.ofString "far", false, some (V.d (pInts far))), (Str.ofString "way", false, some (V.d (PyData.str w))), (Str.ofString "found", false, some (V.loc true (0 : Nat) a_4.fst)), (Str.ofString "at", false, some (V.d (PyData.int a_4.snd.snd.fst))), (Str.ofString "beside", false, some (V.d (PyData.int a_4.snd.snd.snd.fst))), (Str.ofString "is_in", false, some (V.d (PyData.bool a_4.snd.snd.snd.snd.fst))), (Str.ofString "bound", false, a_4.snd.snd.snd.snd.snd.fst), (Str.ofString "is_next", false, a_4.snd.snd.snd.snd.snd.snd)], G.mk [(a_4.fst, AO.list (List.map PyData.int a_4.snd.fst))] out) = ([(Str.ofString "near", false, some (V.d (pInts near))), (Str.ofString "far", false, some (V.d (pInts far))), (Str.ofString "way", false, some (V.d (PyData.str w))), (Str.ofString "found", false, some (V.loc true (0 : Nat) a.fst)), (Str.ofString "at", false, some (V.d (PyData.int i_1))), (Str.ofString "beside", false, some (V.d (PyData.int i_2))), (Str.ofString "is_in", false, some (V.d (PyData.bool a.snd.snd.snd.snd.fst))), (Str.ofString "bound", false, some (V.d (PyData.int i))), (Str.ofString "is_next", false, some (V.d (PyData.bool (wanted w_1 a_3 b))))], G.mk [(a.fst, AO.list (List.map PyData.int a.snd.fst))] out) ∧ n' < n ∧ I a_4 n')) (a.fst = a.fst ∧ Q (V.d (PyData.list (List.map PyData.int a.snd.fst))) out)) := by kernel_rfl
theorem e69a (dx : Addr) (b : List Int) (out : Led) (Q : V → Led → Prop) : vXs (vc 20) ⟨fNames (methAt 8 0), [], spNo, fun _ => ⟨Unit, fun _ => ⟨Unit, fun _ => ([], ⟨[], []⟩), fun _ _ => False⟩⟩, fun _ => ⟨Unit, fun _ => ⟨Unit, fun _ => ⟨[], []⟩, fun _ _ _ => False⟩⟩, fun _ => ⟨Unit, fun _ => ([], ⟨[], []⟩), fun _ _ => False⟩, [], []⟩ (fBody (methAt 8 0)) (initM (List.zip ["self", "bounds"] [.inst true 0 150 dx, .d (pInts b)]) (fNames (methAt 8 0))) ⟨[(dx, .idict [])], out⟩ (madeQ 150 dx Q) =
  (false = false ∧ (dx = dx ∧ (Nat.beq (150 : Addr) (150 : Addr) && true || (Nat.beq (185 : Addr) (150 : Addr) && false || (Nat.beq (185 : Addr) (150 : Addr) && false || (Nat.beq (244 : Addr) (150 : Addr) && false || (Nat.beq (244 : Addr) (150 : Addr) && false || (Nat.beq (244 : Addr) (150 : Addr) && false || false)))))) = true ∧ (0 : Nat) ≤ (8 : Nat)) ∧ (Q (V.inst false (List.length out + (0 : Nat)) (150 : Addr) dx) (out ++ [(dx, AO.idict [(Str.ofString "bounds", V.d (pInts b))])]) ∨ (∃ (b_1 : List Int), (150 : Addr) = (150 : Addr) ∧ [(dx, AO.idict [(Str.ofString "bounds", V.d (pInts b))])] = [(dx, AO.idict [(Str.ofString "bounds", V.d (pInts b_1))])] ∧ Q (V.cset b_1) out) ∨ ∃ (b_1 : List Int), ∃ (ss : List (List Int)), (150 : Addr) = (185 : Addr) ∧ [(dx, AO.idict [(Str.ofString "bounds", V.d (pInts b))])] = [(dx, AO.idict [(Str.ofString "codes", V.cset b_1), (Str.ofString "strings", V.d (pStrs ss))])] ∧ Q (V.cstr b_1 ss) out)) := by kernel_rfl
theorem e69b (dx : Addr) (b : List Int) (out : Led) (Q : V → Led → Prop) : vXs (vc 20) ⟨fNames (methAt 8 0), [], spNo, fun _ => ⟨Unit, fun _ => ⟨Unit, fun _ => ([], ⟨[], []⟩), fun _ _ => False⟩⟩, fun _ => ⟨Unit, fun _ => ⟨Unit, fun _ => ⟨[], []⟩, fun _ _ _ => False⟩⟩, fun _ => ⟨Unit, fun _ => ([], ⟨[], []⟩), fun _ _ => False⟩, [], []⟩ (fBody (methAt 8 0)) (initM (List.zip ["self", "bounds"] [.inst true 0 150 dx, .d .none]) (fNames (methAt 8 0))) ⟨[(dx, .idict [])], out⟩ (madeQ 150 dx Q) =
  (false = false ∧ (0 : Nat) ≤ (1000 : Nat) ∧ (dx = dx ∧ (Nat.beq (150 : Addr) (150 : Addr) && true || (Nat.beq (185 : Addr) (150 : Addr) && false || (Nat.beq (185 : Addr) (150 : Addr) && false || (Nat.beq (244 : Addr) (150 : Addr) && false || (Nat.beq (244 : Addr) (150 : Addr) && false || (Nat.beq (244 : Addr) (150 : Addr) && false || false)))))) = true ∧ (0 : Nat) ≤ (8 : Nat)) ∧ (Q (V.inst false (List.length out + (0 : Nat)) (150 : Addr) dx) (out ++ [(dx, AO.idict [(Str.ofString "bounds", V.d (PyData.list []))])]) ∨ (∃ (b : List Int), (150 : Addr) = (150 : Addr) ∧ [(dx, AO.idict [(Str.ofString "bounds", V.d (PyData.list []))])] = [(dx, AO.idict [(Str.ofString "bounds", V.d (pInts b))])] ∧ Q (V.cset b) out) ∨ ∃ (b : List Int), ∃ (ss : List (List Int)), (150 : Addr) = (185 : Addr) ∧ [(dx, AO.idict [(Str.ofString "bounds", V.d (PyData.list []))])] = [(dx, AO.idict [(Str.ofString "codes", V.cset b), (Str.ofString "strings", V.d (pStrs ss))])] ∧ Q (V.cstr b ss) out)) := by kernel_rfl
theorem e76 (u : V) (out : Led) (Q : V → Led → Prop) : vXs (vc 20) ⟨fNames (methAt 8 1), [], spOn 40 S40 (spOn 150 S150 spNo), fun _ => ⟨Unit, fun _ => ⟨Unit, fun _ => ([], ⟨[], []⟩), fun _ _ => False⟩⟩, fun _ => ⟨Unit, fun _ => ⟨Unit, fun _ => ⟨[], []⟩, fun _ _ _ => False⟩⟩, fun _ => ⟨Unit, fun _ => ([], ⟨[], []⟩), fun _ _ => False⟩, [], []⟩ (fBody (methAt 8 1)) (initM (List.zip ["ranges"] [u]) (fNames (methAt 8 1))) ⟨[], out⟩ (exitQ Q) =
  (bB (true && (u.port && true)) (∃ (u_1 : V), ∃ (ps : List (Int × Int)), [u] = [u_1] ∧ (ps.length ≤ (60 : Nat) ∧ ∀ (own : List (Addr × AO)) (k : List PyData → Prop), k (pPairs ps) → vView (G.mk own out) u_1 k) ∧ ∀ (B : List Int), Bnd B ps → ∃ (b : List Int), [V.d (pInts B)] = [V.d (pInts b)] ∧ Q (V.cset b) out)) := by kernel_rfl
theorem e86 (b : List Int) (x : Int) (out : Led) (Q : V → Led → Prop) : vXs (vc 20) ⟨fNames (methAt 8 2), [], spOn 28 S28 spNo, fun _ => ⟨Unit, fun _ => ⟨Unit, fun _ => ([], ⟨[], []⟩), fun _ _ => False⟩⟩, fun _ => ⟨Unit, fun _ => ⟨Unit, fun _ => ⟨[], []⟩, fun _ _ _ => False⟩⟩, fun _ => ⟨Unit, fun _ => ([], ⟨[], []⟩), fun _ _ => False⟩, [], []⟩ (fBody (methAt 8 2)) (initM (List.zip ["self", "code"] [.cset b, dI x]) (fNames (methAt 8 2))) ⟨[], out⟩ (exitQ Q) =
  (∃ (l : List Int), ∃ (x_1 : Int), [V.d (pInts b), V.d (PyData.int x)] = [V.d (pInts l), V.d (PyData.int x_1)] ∧ (l.length ≤ (1000 : Nat) ∧ Asc l) ∧ (2 : Int) ≠ (0 : Int) ∧ Q (V.d (PyData.bool ((Int.ofNat (cnt l x_1) - (1 : Int)).fmod (2 : Int) == (0 : Int)))) out) := by kernel_rfl
theorem e91 (b : List Int) (IC : List PyData → List PyData → Prop) (out : Led) (Q : V → Led → Prop) : vXs (vc 20) ⟨fNames (methAt 8 3), [], spNo, fun _ => ⟨Unit, fun _ => ⟨Unit, fun _ => ([], ⟨[], []⟩), fun _ _ => False⟩⟩, fun _ => ⟨Unit, fun _ => ⟨Unit, fun _ => ⟨[], out⟩, fun _ => IC⟩⟩, fun _ => ⟨Unit, fun _ => ([], ⟨[], []⟩), fun _ _ => False⟩, [], []⟩ (fBody (methAt 8 3)) (initM (List.zip ["self"] [.cset b]) (fNames (methAt 8 3))) ⟨[], out⟩ (exitQ Q) =
  ((List.map PyData.int b).length ≤ (1000 : Nat) ∧ ((0 : Int) ≤ (0 : Int) ∧ (0 : Int) ≤ (1000 : Int) ∧ (0 : Int) ≤ Int.ofNat (List.map PyData.int b).length ∧ Int.ofNat (List.map PyData.int b).length ≤ (1000 : Int) ∧ (0 : Int) < (2 : Int) ∧ (2 : Int) ≤ (1000 : Int)) ∧ ∃ (p : Unit), ∃ (a : Unit), G.mk [] out = G.mk [] out ∧ IC [] (rangeL (0 : Int) (2 : Int) (cdiv (Int.ofNat (List.map PyData.int b).length - (0 : Int)) (2 : Int))) ∧ (∀ (a : Unit) (acc : List PyData) (y : PyData) (rest : List PyData), IC acc (y :: rest) → True ∧ vInt (V.d y) fun (k : Int) => (-(2 : Int) ^ (62 : Nat) < k ∧ k < (2 : Int) ^ (62 : Nat)) ∧ oB (seqIndex? k (List.map PyData.int b).length) fun (j : Nat) => oB (List.map PyData.int b)[j]? fun (y_1 : PyData) => vBin Operator.Add (V.d y) (V.d (PyData.int (1 : Int))) (G.mk [] out) fun (v : V) (g : G) => vInt v fun (k : Int) => (-(2 : Int) ^ (62 : Nat) < k ∧ k < (2 : Int) ^ (62 : Nat)) ∧ oB (seqIndex? k (List.map PyData.int b).length) fun (j : Nat) => oB (List.map PyData.int b)[j]? fun (y : PyData) => vInt (V.d y) fun (x : Int) => (0 : Nat) + (1 : Nat) + (1 : Nat) ≤ (1000 : Nat) ∧ ∃ (a : Unit), G.mk [] out = g ∧ IC (acc ++ [PyData.tuple [y_1, PyData.int (x - (1 : Int))]]) rest) ∧ ∀ (a : Unit) (acc : List PyData), IC acc [] → True ∧ Q (V.d (PyData.list acc)) out) := by kernel_rfl
theorem e105 (b b' : List Int) (out : Led) (Q : V → Led → Prop) : vXs (vc 20) ⟨fNames (methAt 8 5), [], spOn 54 S54 (spOn 150 S150 spNo), fun _ => ⟨Unit, fun _ => ⟨Unit, fun _ => ([], ⟨[], []⟩), fun _ _ => False⟩⟩, fun _ => ⟨Unit, fun _ => ⟨Unit, fun _ => ⟨[], []⟩, fun _ _ _ => False⟩⟩, fun _ => ⟨Unit, fun _ => ([], ⟨[], []⟩), fun _ _ => False⟩, [], []⟩ (fBody (methAt 8 5)) (initM (List.zip ["self", "other"] [.cset b, .cset b']) (fNames (methAt 8 5))) ⟨[], out⟩ (exitQ Q) =
  (∃ (near : List Int), ∃ (far : List Int), ∃ (w : Str), [V.d (pInts b), V.d (pInts b'), V.d (PyData.str (Str.ofString "union"))] = [V.d (pInts near), V.d (pInts far), V.d (PyData.str w)] ∧ (Okb near ∧ Okb far) ∧ ∀ (B : List Int), Mg B near far w → ∃ (b : List Int), [V.d (pInts B)] = [V.d (pInts b)] ∧ Q (V.cset b) out) := by kernel_rfl
theorem e112 (b b' : List Int) (out : Led) (Q : V → Led → Prop) : vXs (vc 20) ⟨fNames (methAt 8 6), [], spOn 54 S54 (spOn 150 S150 spNo), fun _ => ⟨Unit, fun _ => ⟨Unit, fun _ => ([], ⟨[], []⟩), fun _ _ => False⟩⟩, fun _ => ⟨Unit, fun _ => ⟨Unit, fun _ => ⟨[], []⟩, fun _ _ _ => False⟩⟩, fun _ => ⟨Unit, fun _ => ([], ⟨[], []⟩), fun _ _ => False⟩, [], []⟩ (fBody (methAt 8 6)) (initM (List.zip ["self", "other"] [.cset b, .cset b']) (fNames (methAt 8 6))) ⟨[], out⟩ (exitQ Q) =
  (∃ (near : List Int), ∃ (far : List Int), ∃ (w : Str), [V.d (pInts b), V.d (pInts b'), V.d (PyData.str (Str.ofString "both"))] = [V.d (pInts near), V.d (pInts far), V.d (PyData.str w)] ∧ (Okb near ∧ Okb far) ∧ ∀ (B : List Int), Mg B near far w → ∃ (b : List Int), [V.d (pInts B)] = [V.d (pInts b)] ∧ Q (V.cset b) out) := by kernel_rfl
theorem e119 (b b' : List Int) (out : Led) (Q : V → Led → Prop) : vXs (vc 20) ⟨fNames (methAt 8 7), [], spOn 54 S54 (spOn 150 S150 spNo), fun _ => ⟨Unit, fun _ => ⟨Unit, fun _ => ([], ⟨[], []⟩), fun _ _ => False⟩⟩, fun _ => ⟨Unit, fun _ => ⟨Unit, fun _ => ⟨[], []⟩, fun _ _ _ => False⟩⟩, fun _ => ⟨Unit, fun _ => ([], ⟨[], []⟩), fun _ _ => False⟩, [], []⟩ (fBody (methAt 8 7)) (initM (List.zip ["self", "other"] [.cset b, .cset b']) (fNames (methAt 8 7))) ⟨[], out⟩ (exitQ Q) =
  (∃ (near : List Int), ∃ (far : List Int), ∃ (w : Str), [V.d (pInts b), V.d (pInts b'), V.d (PyData.str (Str.ofString "without"))] = [V.d (pInts near), V.d (pInts far), V.d (PyData.str w)] ∧ (Okb near ∧ Okb far) ∧ ∀ (B : List Int), Mg B near far w → ∃ (b : List Int), [V.d (pInts B)] = [V.d (pInts b)] ∧ Q (V.cset b) out) := by kernel_rfl
theorem e140 (b b' : List Int) (out : Led) (Q : V → Led → Prop) : vXs (vc 20) ⟨fNames (methAt 8 10), [], spNo, fun _ => ⟨Unit, fun _ => ⟨Unit, fun _ => ([], ⟨[], []⟩), fun _ _ => False⟩⟩, fun _ => ⟨Unit, fun _ => ⟨Unit, fun _ => ⟨[], []⟩, fun _ _ _ => False⟩⟩, fun _ => ⟨Unit, fun _ => ([], ⟨[], []⟩), fun _ _ => False⟩, [], []⟩ (fBody (methAt 8 10)) (initM (List.zip ["self", "other"] [.cset b, .cset b']) (fNames (methAt 8 10))) ⟨[], out⟩ (exitQ Q) =
  ((SeqAt.shaped (PyData.list (List.map PyData.int b)) = true ∧ SeqAt.shaped (PyData.list (List.map PyData.int b')) = true) ∧ Q (V.d (PyData.bool (PyData.eqvAll (List.map PyData.int b) (List.map PyData.int b')))) out) := by kernel_rfl
theorem e168 (dx : Addr) (b : List Int) (ss : List (List Int)) (out : Led) (Q : V → Led → Prop) : vXs (vc 20) ⟨fNames (methAt 10 0), [], spNo, fun _ => ⟨Unit, fun _ => ⟨Unit, fun _ => ([], ⟨[], []⟩), fun _ _ => False⟩⟩, fun _ => ⟨Unit, fun _ => ⟨Unit, fun _ => ⟨[], []⟩, fun _ _ _ => False⟩⟩, fun _ => ⟨Unit, fun _ => ([], ⟨[], []⟩), fun _ _ => False⟩, [], []⟩ (fBody (methAt 10 0)) (initM (List.zip ["self", "codes", "strings"] [.inst true 0 185 dx, .cset b, .d (pStrs ss)]) (fNames (methAt 10 0))) ⟨[(dx, .idict [])], out⟩ (madeQ 185 dx Q) =
  (false = false ∧ (dx = dx ∧ (Nat.beq (150 : Addr) (185 : Addr) && false || (Nat.beq (185 : Addr) (185 : Addr) && true || (Nat.beq (185 : Addr) (185 : Addr) && false || (Nat.beq (244 : Addr) (185 : Addr) && false || (Nat.beq (244 : Addr) (185 : Addr) && false || (Nat.beq (244 : Addr) (185 : Addr) && false || false)))))) = true ∧ (0 : Nat) ≤ (8 : Nat)) ∧ false = false ∧ (dx = dx ∧ (Nat.beq (150 : Addr) (185 : Addr) && false || (Nat.beq (185 : Addr) (185 : Addr) && false || (Nat.beq (185 : Addr) (185 : Addr) && true || (Nat.beq (244 : Addr) (185 : Addr) && false || (Nat.beq (244 : Addr) (185 : Addr) && false || (Nat.beq (244 : Addr) (185 : Addr) && false || false)))))) = true ∧ (0 : Nat) + (1 : Nat) ≤ (8 : Nat)) ∧ (Q (V.inst false (List.length out + (0 : Nat)) (185 : Addr) dx) (out ++ [(dx, AO.idict [(Str.ofString "codes", V.cset b), (Str.ofString "strings", V.d (pStrs ss))])]) ∨ (∃ (b_1 : List Int), (185 : Addr) = (150 : Addr) ∧ [(dx, AO.idict [(Str.ofString "codes", V.cset b), (Str.ofString "strings", V.d (pStrs ss))])] = [(dx, AO.idict [(Str.ofString "bounds", V.d (pInts b_1))])] ∧ Q (V.cset b_1) out) ∨ ∃ (b_1 : List Int), ∃ (ss_1 : List (List Int)), (185 : Addr) = (185 : Addr) ∧ [(dx, AO.idict [(Str.ofString "codes", V.cset b), (Str.ofString "strings", V.d (pStrs ss))])] = [(dx, AO.idict [(Str.ofString "codes", V.cset b_1), (Str.ofString "strings", V.d (pStrs ss_1))])] ∧ Q (V.cstr b_1 ss_1) out)) := by kernel_rfl
theorem e175 (b : List Int) (ss : List (List Int)) (l : List Int) (out : Led) (Q : V → Led → Prop) : vXs (vc 20) ⟨fNames (methAt 10 1), [], spOn 86 S86 spNo, fun _ => ⟨Unit, fun _ => ⟨Unit, fun _ => ([], ⟨[], []⟩), fun _ _ => False⟩⟩, fun _ => ⟨Unit, fun _ => ⟨Unit, fun _ => ⟨[], []⟩, fun _ _ _ => False⟩⟩, fun _ => ⟨Unit, fun _ => ([], ⟨[], []⟩), fun _ _ => False⟩, [], []⟩ (fBody (methAt 10 1)) (initM (List.zip ["self", "text"] [.cstr b ss, .d (pInts l)]) (fNames (methAt 10 1))) ⟨[], out⟩ (exitQ Q) =
  ((List.map PyData.int l).length ≤ (1000 : Nat) ∧ br (Int.ofNat (List.map PyData.int l).length == (1 : Int)) ((-(2 : Int) ^ (62 : Nat) < (0 : Int) ∧ (0 : Int) < (2 : Int) ^ (62 : Nat)) ∧ oB (seqIndex? (0 : Int) (List.map PyData.int l).length) fun (j : Nat) => oB (List.map PyData.int l)[j]? fun (y : PyData) => ∃ (b_1 : List Int), ∃ (x : Int), [V.cset b, V.d y] = [V.cset b_1, V.d (PyData.int x)] ∧ Okb b_1 ∧ Q (V.d (PyData.bool (inB b_1 x))) out) ((List.map PyData.int l).length ≤ (1000 : Nat) ∧ (PyData.canLayAll0 (List.map pTup ss) = true ∧ (PyData.tuple (List.map PyData.int l)).canLay0 = true ∧ (PyData.tuple (List.map PyData.int l)).depth ≤ (8 : Nat)) ∧ Q (V.d (PyData.bool ((List.map pTup ss).any fun (y : PyData) => y.eqv (PyData.tuple (List.map PyData.int l))))) out)) := by kernel_rfl
theorem e182 (b b' : List Int) (ss ss' : List (List Int)) (out : Led) (Q : V → Led → Prop) : vXs (vc 20) ⟨fNames (methAt 10 2), [], spOn 140 S140 spNo, fun _ => ⟨Unit, fun _ => ⟨Unit, fun _ => ([], ⟨[], []⟩), fun _ _ => False⟩⟩, fun _ => ⟨Unit, fun _ => ⟨Unit, fun _ => ⟨[], []⟩, fun _ _ _ => False⟩⟩, fun _ => ⟨Unit, fun _ => ([], ⟨[], []⟩), fun _ _ => False⟩, [], []⟩ (fBody (methAt 10 2)) (initM (List.zip ["self", "other"] [.cstr b ss, .cstr b' ss']) (fNames (methAt 10 2))) ⟨[], out⟩ (exitQ Q) =
  (∃ (b_1 : List Int), ∃ (b'_1 : List Int), [V.cset b, V.cset b'] = [V.cset b_1, V.cset b'_1] ∧ (b_1.length ≤ (1000 : Nat) ∧ b'_1.length ≤ (1000 : Nat)) ∧ br (decide (b_1 = b'_1)) ((SeqAt.shaped (PyData.list (List.map pTup ss)) = true ∧ SeqAt.shaped (PyData.list (List.map pTup ss')) = true) ∧ Q (V.d (PyData.bool (PyData.eqvAll (List.map pTup ss) (List.map pTup ss')))) out) (Q (V.d (PyData.bool false)) out)) := by kernel_rfl
theorem e194 (ss : List (List Int)) (out : Led) (Q : V → Led → Prop) : vXs (vc 20) ⟨fNames (stmtAt 11), [], spNo, fun _ => ⟨Unit, fun _ => ⟨Unit, fun _ => ([], ⟨[], []⟩), fun _ _ => False⟩⟩, fun _ => ⟨Unit, fun _ => ⟨Unit, fun _ => ⟨[], []⟩, fun _ _ _ => False⟩⟩, fun _ => ⟨Unit, fun _ => ([], ⟨[], []⟩), fun _ _ => False⟩, [], []⟩ (fBody (stmtAt 11)) (initM (List.zip ["strings"] [.d (pStrs ss)]) (fNames (stmtAt 11))) ⟨[], out⟩ (exitQ Q) =
  (∃ (ss_1 : List (List Int)), List.map pTup ss = List.map pTup ss_1 ∧ ((dedup ss_1).length ≤ (5 : Nat) ∧ ss_1.length ≤ (60 : Nat)) ∧ ∀ (ts : List (List Int)), ts.Perm (dedup ss_1) → List.Pairwise (fun (a b : List Int) => ltL a b = true) ts → Q (V.d (pStrs ts)) out) := by kernel_rfl
theorem e199 (b b' : List Int) (ss ss' : List (List Int)) (w : Str) (IC : Nat → List PyData → List PyData → Prop) (out : Led) (Q : V → Led → Prop) : vXs (vc 20) ⟨fNames (stmtAt 12), [], spOn 105 S105 (spOn 112 S112 (spOn 119 S119 (spOn 194 S194 (spOn 185 S185 spNo)))), fun _ => ⟨Unit, fun _ => ⟨Unit, fun _ => ([], ⟨[], []⟩), fun _ _ => False⟩⟩, fun n => ⟨Unit, fun _ => ⟨Unit, fun _ => ⟨[], out⟩, fun _ => IC n⟩⟩, fun _ => ⟨Unit, fun _ => ([], ⟨[], []⟩), fun _ _ => False⟩, [], []⟩ (fBody (stmtAt 12)) (initM (List.zip ["one", "other", "way"] [.cstr b ss, .cstr b' ss', .d (.str w)]) (fNames (stmtAt 12))) ⟨[], out⟩ (exitQ Q) =
  (br (sEq w (Str.ofString "union")) (∃ (b_1 : List Int), ∃ (b'_1 : List Int), [V.cset b, V.cset b'] = [V.cset b_1, V.cset b'_1] ∧ (Okb b_1 ∧ Okb b'_1) ∧ ∀ (B : List Int), Mg B b_1 b'_1 nmUnion → (List.map pTup ss).length + (List.map pTup ss').length ≤ (1000 : Nat) ∧ ∃ (ss_1 : List (List Int)), [V.d (PyData.list (List.map pTup ss ++ List.map pTup ss'))] = [V.d (pStrs ss_1)] ∧ ((dedup ss_1).length ≤ (5 : Nat) ∧ ss_1.length ≤ (60 : Nat)) ∧ ∀ (ts : List (List Int)), ts.Perm (dedup ss_1) → List.Pairwise (fun (a b : List Int) => ltL a b = true) ts → ∃ (b : List Int), ∃ (ss : List (List Int)), [V.cset B, V.d (pStrs ts)] = [V.cset b, V.d (pStrs ss)] ∧ Q (V.cstr b ss) out) (br (sEq w (Str.ofString "both")) ((List.map pTup ss).length ≤ (1000 : Nat) ∧ ∃ (p : Unit), ∃ (a : Unit), G.mk [] out = G.mk [] out ∧ IC ((108 : Nat) * (1000 : Nat) + (15 : Nat)) [] (List.map pTup ss) ∧ (∀ (a : Unit) (acc : List PyData) (y : PyData) (rest : List PyData), IC ((108 : Nat) * (1000 : Nat) + (15 : Nat)) acc (y :: rest) → List.map pTup ss = List.map pTup ss ∧ (PyData.canLayAll0 (List.map pTup ss') = true ∧ y.canLay0 = true ∧ y.depth ≤ (8 : Nat)) ∧ br ((List.map pTup ss').any fun (y_1 : PyData) => y_1.eqv y) (∃ (a : Unit), G.mk [] out = G.mk [] out ∧ IC ((108 : Nat) * (1000 : Nat) + (15 : Nat)) (acc ++ [y]) rest) (∃ (a : Unit), G.mk [] out = G.mk [] out ∧ IC ((108 : Nat) * (1000 : Nat) + (15 : Nat)) acc rest)) ∧ ∀ (a : Unit) (acc : List PyData), IC ((108 : Nat) * (1000 : Nat) + (15 : Nat)) acc [] → List.map pTup ss = List.map pTup ss ∧ ∃ (b_1 : List Int), ∃ (b'_1 : List Int), [V.cset b, V.cset b'] = [V.cset b_1, V.cset b'_1] ∧ (Okb b_1 ∧ Okb b'_1) ∧ ∀ (B : List Int), Mg B b_1 b'_1 nmBoth → ∃ (b : List Int), ∃ (ss : List (List Int)), [V.cset B, V.d (PyData.list acc)] = [V.cset b, V.d (pStrs ss)] ∧ Q (V.cstr b ss) out) ((List.map pTup ss).length ≤ (1000 : Nat) ∧ ∃ (p : Unit), ∃ (a : Unit), G.mk [] out = G.mk [] out ∧ IC ((110 : Nat) * (1000 : Nat) + (11 : Nat)) [] (List.map pTup ss) ∧ (∀ (a : Unit) (acc : List PyData) (y : PyData) (rest : List PyData), IC ((110 : Nat) * (1000 : Nat) + (11 : Nat)) acc (y :: rest) → List.map pTup ss = List.map pTup ss ∧ (PyData.canLayAll0 (List.map pTup ss') = true ∧ y.canLay0 = true ∧ y.depth ≤ (8 : Nat)) ∧ br (!(List.map pTup ss').any fun (y_1 : PyData) => y_1.eqv y) (∃ (a : Unit), G.mk [] out = G.mk [] out ∧ IC ((110 : Nat) * (1000 : Nat) + (11 : Nat)) (acc ++ [y]) rest) (∃ (a : Unit), G.mk [] out = G.mk [] out ∧ IC ((110 : Nat) * (1000 : Nat) + (11 : Nat)) acc rest)) ∧ ∀ (a : Unit) (acc : List PyData), IC ((110 : Nat) * (1000 : Nat) + (11 : Nat)) acc [] → List.map pTup ss = List.map pTup ss ∧ ∃ (b_1 : List Int), ∃ (b'_1 : List Int), [V.cset b, V.cset b'] = [V.cset b_1, V.cset b'_1] ∧ (Okb b_1 ∧ Okb b'_1) ∧ ∀ (B : List Int), Mg B b_1 b'_1 nmWithout → ∃ (b : List Int), ∃ (ss : List (List Int)), [V.cset B, V.d (PyData.list acc)] = [V.cset b, V.d (pStrs ss)] ∧ Q (V.cstr b ss) out))) := by kernel_rfl
theorem e213 (dx : Addr) (out : Led) (Q : V → Led → Prop) : vXs (vc 20) ⟨fNames (methAt 13 0), [], spOn 150 S150 (spOn 185 S185 spNo), fun _ => ⟨Unit, fun _ => ⟨Unit, fun _ => ([], ⟨[], []⟩), fun _ _ => False⟩⟩, fun _ => ⟨Unit, fun _ => ⟨Unit, fun _ => ⟨[], []⟩, fun _ _ _ => False⟩⟩, fun _ => ⟨Unit, fun _ => ([], ⟨[], []⟩), fun _ _ => False⟩, [], []⟩ (fBody (methAt 13 0)) (initM (List.zip ["self"] [.inst true 0 244 dx]) (fNames (methAt 13 0))) ⟨[(dx, .idict [])], out⟩ (madeQ 244 dx Q) =
  (false = false ∧ ∀ (a' : Addr), (dx = dx ∧ (Nat.beq (150 : Addr) (244 : Addr) && false || (Nat.beq (185 : Addr) (244 : Addr) && false || (Nat.beq (185 : Addr) (244 : Addr) && false || (Nat.beq (244 : Addr) (244 : Addr) && true || (Nat.beq (244 : Addr) (244 : Addr) && false || (Nat.beq (244 : Addr) (244 : Addr) && false || false)))))) = true ∧ (0 : Nat) ≤ (8 : Nat)) ∧ false = false ∧ (0 : Nat) ≤ (1000 : Nat) ∧ ∃ (b : List Int), ∃ (ss : List (List Int)), [V.cset [], V.d (PyData.list [])] = [V.cset b, V.d (pStrs ss)] ∧ (dx = dx ∧ (Nat.beq (150 : Addr) (244 : Addr) && false || (Nat.beq (185 : Addr) (244 : Addr) && false || (Nat.beq (185 : Addr) (244 : Addr) && false || (Nat.beq (244 : Addr) (244 : Addr) && false || (Nat.beq (244 : Addr) (244 : Addr) && true || (Nat.beq (244 : Addr) (244 : Addr) && false || false)))))) = true ∧ (0 : Nat) + (1 : Nat) ≤ (8 : Nat)) ∧ false = false ∧ (dx = dx ∧ (Nat.beq (150 : Addr) (244 : Addr) && false || (Nat.beq (185 : Addr) (244 : Addr) && false || (Nat.beq (185 : Addr) (244 : Addr) && false || (Nat.beq (244 : Addr) (244 : Addr) && false || (Nat.beq (244 : Addr) (244 : Addr) && false || (Nat.beq (244 : Addr) (244 : Addr) && true || false)))))) = true ∧ (0 : Nat) + (1 : Nat) + (1 : Nat) ≤ (8 : Nat)) ∧ (Q (V.inst false (List.length out + (0 : Nat)) (244 : Addr) dx) (out ++ [(dx, AO.idict [(Str.ofString "ranges", V.loc false (List.length out + ((0 : Nat) + (1 : Nat))) a'), (Str.ofString "whole", V.cstr b ss), (Str.ofString "is_behind_set", V.d (PyData.bool false))]), (a', AO.list [])]) ∨ (∃ (b_1 : List Int), (244 : Addr) = (150 : Addr) ∧ [(dx, AO.idict [(Str.ofString "ranges", V.loc true ((0 : Nat) + (1 : Nat)) a'), (Str.ofString "whole", V.cstr b ss), (Str.ofString "is_behind_set", V.d (PyData.bool false))]), (a', AO.list [])] = [(dx, AO.idict [(Str.ofString "bounds", V.d (pInts b_1))])] ∧ Q (V.cset b_1) out) ∨ ∃ (b_1 : List Int), ∃ (ss_1 : List (List Int)), (244 : Addr) = (185 : Addr) ∧ [(dx, AO.idict [(Str.ofString "ranges", V.loc true ((0 : Nat) + (1 : Nat)) a'), (Str.ofString "whole", V.cstr b ss), (Str.ofString "is_behind_set", V.d (PyData.bool false))]), (a', AO.list [])] = [(dx, AO.idict [(Str.ofString "codes", V.cset b_1), (Str.ofString "strings", V.d (pStrs ss_1))])] ∧ Q (V.cstr b_1 ss_1) out)) := by kernel_rfl
theorem e220 (e0 e1 : Addr × AO) (dx aR : Addr) (ps : List (Int × Int)) (b : List Int) (ss : List (List Int)) (k : Bool) (f l : Int) (out : Led) (Q : V → Led → Prop) : vXs (vc 20) ⟨fNames (methAt 13 1), [], spNo, fun _ => ⟨Unit, fun _ => ⟨Unit, fun _ => ([], ⟨[], []⟩), fun _ _ => False⟩⟩, fun _ => ⟨Unit, fun _ => ⟨Unit, fun _ => ⟨[], []⟩, fun _ _ _ => False⟩⟩, fun _ => ⟨Unit, fun _ => ([], ⟨[], []⟩), fun _ _ => False⟩, [], []⟩ (fBody (methAt 13 1)) (initM (List.zip ["self", "first", "last"] [.inst false 2 244 dx, dI f, dI l]) (fNames (methAt 13 1))) ⟨[], sofOut e0 e1 dx aR ps b ss k⟩ (exitQ Q) =
  ((dx = dx ∧ (Nat.beq (150 : Addr) (244 : Addr) && false || (Nat.beq (185 : Addr) (244 : Addr) && false || (Nat.beq (185 : Addr) (244 : Addr) && false || (Nat.beq (244 : Addr) (244 : Addr) && true || (Nat.beq (244 : Addr) (244 : Addr) && false || (Nat.beq (244 : Addr) (244 : Addr) && false || false)))))) = true) ∧ aR = aR ∧ (0 : Nat) + (1 : Nat) + (1 : Nat) ≤ (1000 : Nat) ∧ aR = aR ∧ (pPairs ps).length ≤ (1000 : Nat) ∧ false = false ∧ (dx = dx ∧ (Nat.beq (150 : Addr) (244 : Addr) && false || (Nat.beq (185 : Addr) (244 : Addr) && false || (Nat.beq (185 : Addr) (244 : Addr) && false || (Nat.beq (244 : Addr) (244 : Addr) && false || (Nat.beq (244 : Addr) (244 : Addr) && false || (Nat.beq (244 : Addr) (244 : Addr) && true || false)))))) = true ∧ (0 : Nat) + (1 : Nat) + (1 : Nat) + (1 : Nat) ≤ (8 : Nat)) ∧ Q (V.d PyData.none) [e0, e1, (dx, AO.idict [(Str.ofString "ranges", V.loc false (3 : Nat) aR), (Str.ofString "whole", V.cstr b ss), (Str.ofString "is_behind_set", V.d (PyData.bool false))]), (aR, AO.list (pPairs ps ++ [PyData.tuple [PyData.int f, PyData.int l]]))]) := by kernel_rfl
theorem e227 (e0 e1 : Addr × AO) (dx aR : Addr) (ps : List (Int × Int)) (b : List Int) (ss : List (List Int)) (k : Bool) (l : List Int) (out : Led) (Q : V → Led → Prop) : vXs (vc 20) ⟨fNames (methAt 13 2), [], spOn 150 S150 (spOn 185 S185 (spOn 199 S199 spNo)), fun _ => ⟨Unit, fun _ => ⟨Unit, fun _ => ([], ⟨[], []⟩), fun _ _ => False⟩⟩, fun _ => ⟨Unit, fun _ => ⟨Unit, fun _ => ⟨[], []⟩, fun _ _ _ => False⟩⟩, fun _ => ⟨Unit, fun _ => ([], ⟨[], []⟩), fun _ _ => False⟩, [], []⟩ (fBody (methAt 13 2)) (initM (List.zip ["self", "codes"] [.inst false 2 244 dx, .d (pInts l)]) (fNames (methAt 13 2))) ⟨[], sofOut e0 e1 dx aR ps b ss k⟩ (exitQ Q) =
  ((List.map PyData.int l).length ≤ (1000 : Nat) ∧ br (Int.ofNat (List.map PyData.int l).length == (1 : Int)) ((dx = dx ∧ (Nat.beq (150 : Addr) (244 : Addr) && false || (Nat.beq (185 : Addr) (244 : Addr) && false || (Nat.beq (185 : Addr) (244 : Addr) && false || (Nat.beq (244 : Addr) (244 : Addr) && true || (Nat.beq (244 : Addr) (244 : Addr) && false || (Nat.beq (244 : Addr) (244 : Addr) && false || false)))))) = true) ∧ aR = aR ∧ (-(2 : Int) ^ (62 : Nat) < (0 : Int) ∧ (0 : Int) < (2 : Int) ^ (62 : Nat)) ∧ oB (seqIndex? (0 : Int) (List.map PyData.int l).length) fun (j : Nat) => oB (List.map PyData.int l)[j]? fun (y : PyData) => (-(2 : Int) ^ (62 : Nat) < (0 : Int) ∧ (0 : Int) < (2 : Int) ^ (62 : Nat)) ∧ oB (seqIndex? (0 : Int) (List.map PyData.int l).length) fun (j : Nat) => oB (List.map PyData.int l)[j]? fun (y_1 : PyData) => (0 : Nat) + (1 : Nat) + (1 : Nat) ≤ (1000 : Nat) ∧ aR = aR ∧ (pPairs ps).length ≤ (1000 : Nat) ∧ false = false ∧ (dx = dx ∧ (Nat.beq (150 : Addr) (244 : Addr) && false || (Nat.beq (185 : Addr) (244 : Addr) && false || (Nat.beq (185 : Addr) (244 : Addr) && false || (Nat.beq (244 : Addr) (244 : Addr) && false || (Nat.beq (244 : Addr) (244 : Addr) && false || (Nat.beq (244 : Addr) (244 : Addr) && true || false)))))) = true ∧ (0 : Nat) + (1 : Nat) + (1 : Nat) + (1 : Nat) ≤ (8 : Nat)) ∧ Q (V.d PyData.none) [e0, e1, (dx, AO.idict [(Str.ofString "ranges", V.loc false (3 : Nat) aR), (Str.ofString "whole", V.cstr b ss), (Str.ofString "is_behind_set", V.d (PyData.bool false))]), (aR, AO.list (pPairs ps ++ [PyData.tuple [y, y_1]]))]) (false = false ∧ (dx = dx ∧ (Nat.beq (150 : Addr) (244 : Addr) && false || (Nat.beq (185 : Addr) (244 : Addr) && false || (Nat.beq (185 : Addr) (244 : Addr) && false || (Nat.beq (244 : Addr) (244 : Addr) && false || (Nat.beq (244 : Addr) (244 : Addr) && true || (Nat.beq (244 : Addr) (244 : Addr) && false || false)))))) = true) ∧ (List.map PyData.int l).length ≤ (1000 : Nat) ∧ (0 : Nat) + (1 : Nat) ≤ (1000 : Nat) ∧ ∃ (b_1 : List Int), ∃ (ss_1 : List (List Int)), [V.cset [], V.d (PyData.list [PyData.tuple (List.map PyData.int l)])] = [V.cset b_1, V.d (pStrs ss_1)] ∧ ∃ (b_2 : List Int), ∃ (ss_2 : List (List Int)), ∃ (b' : List Int), ∃ (ss' : List (List Int)), ∃ (w : Str), [V.cstr b ss, V.cstr b_1 ss_1, V.d (PyData.str (Str.ofString "union"))] = [V.cstr b_2 ss_2, V.cstr b' ss', V.d (PyData.str w)] ∧ (Okb b_2 ∧ Okb b' ∧ Oks ss_2 ss' ∧ (sEq w nmUnion = true ∨ sEq w nmBoth = true ∨ sEq w nmWithout = true)) ∧ ∀ (B : List Int) (ts : List (List Int)), Mg B b_2 b' w → PutS ts ss_2 ss' w → (dx = dx ∧ (Nat.beq (150 : Addr) (244 : Addr) && false || (Nat.beq (185 : Addr) (244 : Addr) && false || (Nat.beq (185 : Addr) (244 : Addr) && false || (Nat.beq (244 : Addr) (244 : Addr) && false || (Nat.beq (244 : Addr) (244 : Addr) && true || (Nat.beq (244 : Addr) (244 : Addr) && false || false)))))) = true ∧ (0 : Nat) + (1 : Nat) + (1 : Nat) + (1 : Nat) ≤ (8 : Nat)) ∧ false = false ∧ (dx = dx ∧ (Nat.beq (150 : Addr) (244 : Addr) && false || (Nat.beq (185 : Addr) (244 : Addr) && false || (Nat.beq (185 : Addr) (244 : Addr) && false || (Nat.beq (244 : Addr) (244 : Addr) && false || (Nat.beq (244 : Addr) (244 : Addr) && false || (Nat.beq (244 : Addr) (244 : Addr) && true || false)))))) = true ∧ (0 : Nat) + (1 : Nat) + (1 : Nat) + (1 : Nat) ≤ (8 : Nat)) ∧ Q (V.d PyData.none) [e0, e1, (dx, AO.idict [(Str.ofString "ranges", V.loc false (3 : Nat) aR), (Str.ofString "whole", V.cstr B ts), (Str.ofString "is_behind_set", V.d (PyData.bool false))]), (aR, AO.list (pPairs ps))])) := by kernel_rfl
theorem e234 (e0 e1 : Addr × AO) (dx aR : Addr) (ps : List (Int × Int)) (b : List Int) (ss : List (List Int)) (k : Bool) (b' : List Int) (ss' : List (List Int)) (w : Str) (out : Led) (Q : V → Led → Prop) : vXs (vc 20) ⟨fNames (methAt 13 3), [], spOn 241 S241 (spOn 199 S199 spNo), fun _ => ⟨Unit, fun _ => ⟨Unit, fun _ => ([], ⟨[], []⟩), fun _ _ => False⟩⟩, fun _ => ⟨Unit, fun _ => ⟨Unit, fun _ => ⟨[], []⟩, fun _ _ _ => False⟩⟩, fun _ => ⟨Unit, fun _ => ([], ⟨[], []⟩), fun _ _ => False⟩, [], []⟩ (fBody (methAt 13 3)) (initM (List.zip ["self", "other", "way"] [.inst false 2 244 dx, .cstr b' ss', .d (.str w)]) (fNames (methAt 13 3))) ⟨[], sofOut e0 e1 dx aR ps b ss k⟩ (exitQ Q) =
  (false = false ∧ dx = dx ∧ ∃ (e0_1 : Addr × AO), ∃ (e1_1 : Addr × AO), ∃ (dx_1 : Addr), ∃ (aR_1 : Addr), ∃ (ps_1 : List (Int × Int)), ∃ (b_1 : List Int), ∃ (ss_1 : List (List Int)), ∃ (k_1 : Bool), [V.inst false (2 : Nat) (244 : Addr) dx] = [V.inst false (2 : Nat) (244 : Addr) dx_1] ∧ [e0, e1, (dx, AO.idict [(Str.ofString "ranges", V.loc false (3 : Nat) aR), (Str.ofString "whole", V.cstr b ss), (Str.ofString "is_behind_set", V.d (PyData.bool k))]), (aR, AO.list (pPairs ps))] = [e0_1, e1_1, (dx_1, AO.idict [(Str.ofString "ranges", V.loc false (3 : Nat) aR_1), (Str.ofString "whole", V.cstr b_1 ss_1), (Str.ofString "is_behind_set", V.d (PyData.bool k_1))]), (aR_1, AO.list (pPairs ps_1))] ∧ (ps_1.length ≤ (60 : Nat) ∧ Okb b_1) ∧ ∀ (B : List Int), Told B b_1 ps_1 → ∃ (b : List Int), ∃ (ss : List (List Int)), ∃ (b'_1 : List Int), ∃ (ss'_1 : List (List Int)), ∃ (w_1 : Str), [V.cstr B ss_1, V.cstr b' ss', V.d (PyData.str w)] = [V.cstr b ss, V.cstr b'_1 ss'_1, V.d (PyData.str w_1)] ∧ (Okb b ∧ Okb b'_1 ∧ Oks ss ss'_1 ∧ (sEq w_1 nmUnion = true ∨ sEq w_1 nmBoth = true ∨ sEq w_1 nmWithout = true)) ∧ ∀ (B : List Int) (ts : List (List Int)), Mg B b b'_1 w_1 → PutS ts ss ss'_1 w_1 → (dx = dx ∧ (Nat.beq (150 : Addr) (244 : Addr) && false || (Nat.beq (185 : Addr) (244 : Addr) && false || (Nat.beq (185 : Addr) (244 : Addr) && false || (Nat.beq (244 : Addr) (244 : Addr) && false || (Nat.beq (244 : Addr) (244 : Addr) && true || (Nat.beq (244 : Addr) (244 : Addr) && false || false)))))) = true ∧ (0 : Nat) + (1 : Nat) + (1 : Nat) + (1 : Nat) ≤ (8 : Nat)) ∧ false = false ∧ (false = false ∧ (3 : Nat) ≠ (2 : Nat) ∧ (some (aR, AO.list (pPairs ps))).isSome = true) ∧ ∀ (a' : Addr), (dx = dx ∧ (Nat.beq (150 : Addr) (244 : Addr) && false || (Nat.beq (185 : Addr) (244 : Addr) && false || (Nat.beq (185 : Addr) (244 : Addr) && false || (Nat.beq (244 : Addr) (244 : Addr) && true || (Nat.beq (244 : Addr) (244 : Addr) && false || (Nat.beq (244 : Addr) (244 : Addr) && false || false)))))) = true ∧ (0 : Nat) + (1 : Nat) + (1 : Nat) + (1 : Nat) ≤ (8 : Nat)) ∧ false = false ∧ (dx = dx ∧ (Nat.beq (150 : Addr) (244 : Addr) && false || (Nat.beq (185 : Addr) (244 : Addr) && false || (Nat.beq (185 : Addr) (244 : Addr) && false || (Nat.beq (244 : Addr) (244 : Addr) && false || (Nat.beq (244 : Addr) (244 : Addr) && false || (Nat.beq (244 : Addr) (244 : Addr) && true || false)))))) = true ∧ (0 : Nat) + (1 : Nat) + (1 : Nat) + (1 : Nat) ≤ (8 : Nat)) ∧ Q (V.d PyData.none) [e0, e1, (dx, AO.idict [(Str.ofString "ranges", V.loc false (3 : Nat) a'), (Str.ofString "whole", V.cstr B ts), (Str.ofString "is_behind_set", V.d (PyData.bool true))]), (a', AO.list [])]) := by kernel_rfl
theorem e241 (e0 e1 : Addr × AO) (dx aR : Addr) (ps : List (Int × Int)) (b : List Int) (ss : List (List Int)) (k : Bool) (out : Led) (Q : V → Led → Prop) : vXs (vc 20) ⟨fNames (methAt 13 4), [], spOn 76 S76 (spOn 105 S105 (spOn 185 S185 spNo)), fun _ => ⟨Unit, fun _ => ⟨Unit, fun _ => ([], ⟨[], []⟩), fun _ _ => False⟩⟩, fun _ => ⟨Unit, fun _ => ⟨Unit, fun _ => ⟨[], []⟩, fun _ _ _ => False⟩⟩, fun _ => ⟨Unit, fun _ => ([], ⟨[], []⟩), fun _ _ => False⟩, [], []⟩ (fBody (methAt 13 4)) (initM (List.zip ["self"] [.inst false 2 244 dx]) (fNames (methAt 13 4))) ⟨[], sofOut e0 e1 dx aR ps b ss k⟩ (exitQ Q) =
  ((dx = dx ∧ (Nat.beq (150 : Addr) (244 : Addr) && false || (Nat.beq (185 : Addr) (244 : Addr) && false || (Nat.beq (185 : Addr) (244 : Addr) && false || (Nat.beq (244 : Addr) (244 : Addr) && true || (Nat.beq (244 : Addr) (244 : Addr) && false || (Nat.beq (244 : Addr) (244 : Addr) && false || false)))))) = true) ∧ (0 : Nat) ≤ (1000 : Nat) ∧ aR = aR ∧ (SeqAt.shaped (PyData.list (pPairs ps)) = true ∧ SeqAt.shaped (PyData.list []) = true) ∧ br (PyData.eqvAll (pPairs ps) []) ((dx = dx ∧ (Nat.beq (150 : Addr) (244 : Addr) && false || (Nat.beq (185 : Addr) (244 : Addr) && false || (Nat.beq (185 : Addr) (244 : Addr) && false || (Nat.beq (244 : Addr) (244 : Addr) && false || (Nat.beq (244 : Addr) (244 : Addr) && true || (Nat.beq (244 : Addr) (244 : Addr) && false || false)))))) = true) ∧ Q (V.cstr b ss) [e0, e1, (dx, AO.idict [(Str.ofString "ranges", V.loc false (3 : Nat) aR), (Str.ofString "whole", V.cstr b ss), (Str.ofString "is_behind_set", V.d (PyData.bool k))]), (aR, AO.list (pPairs ps))]) ((dx = dx ∧ (Nat.beq (150 : Addr) (244 : Addr) && false || (Nat.beq (185 : Addr) (244 : Addr) && false || (Nat.beq (185 : Addr) (244 : Addr) && false || (Nat.beq (244 : Addr) (244 : Addr) && false || (Nat.beq (244 : Addr) (244 : Addr) && true || (Nat.beq (244 : Addr) (244 : Addr) && false || false)))))) = true) ∧ (dx = dx ∧ (Nat.beq (150 : Addr) (244 : Addr) && false || (Nat.beq (185 : Addr) (244 : Addr) && false || (Nat.beq (185 : Addr) (244 : Addr) && false || (Nat.beq (244 : Addr) (244 : Addr) && true || (Nat.beq (244 : Addr) (244 : Addr) && false || (Nat.beq (244 : Addr) (244 : Addr) && false || false)))))) = true) ∧ ∃ (u : V), ∃ (ps_1 : List (Int × Int)), [V.loc false (3 : Nat) aR] = [u] ∧ (ps_1.length ≤ (60 : Nat) ∧ u.port = true ∧ ∀ (own : List (Addr × AO)) (k_1 : List PyData → Prop), k_1 (pPairs ps_1) → vView (G.mk own [e0, e1, (dx, AO.idict [(Str.ofString "ranges", V.loc false (3 : Nat) aR), (Str.ofString "whole", V.cstr b ss), (Str.ofString "is_behind_set", V.d (PyData.bool k))]), (aR, AO.list (pPairs ps))]) u k_1) ∧ ∀ (B : List Int), Bnd B ps_1 → ∃ (b_1 : List Int), ∃ (b' : List Int), [V.cset b, V.cset B] = [V.cset b_1, V.cset b'] ∧ (Okb b_1 ∧ Okb b') ∧ ∀ (B : List Int), Mg B b_1 b' nmUnion → (dx = dx ∧ (Nat.beq (150 : Addr) (244 : Addr) && false || (Nat.beq (185 : Addr) (244 : Addr) && false || (Nat.beq (185 : Addr) (244 : Addr) && false || (Nat.beq (244 : Addr) (244 : Addr) && false || (Nat.beq (244 : Addr) (244 : Addr) && true || (Nat.beq (244 : Addr) (244 : Addr) && false || false)))))) = true) ∧ ∃ (b_2 : List Int), ∃ (ss_1 : List (List Int)), [V.cset B, V.d (pStrs ss)] = [V.cset b_2, V.d (pStrs ss_1)] ∧ Q (V.cstr b_2 ss_1) [e0, e1, (dx, AO.idict [(Str.ofString "ranges", V.loc false (3 : Nat) aR), (Str.ofString "whole", V.cstr b ss), (Str.ofString "is_behind_set", V.d (PyData.bool k))]), (aR, AO.list (pPairs ps))])) := by kernel_rfl
theorem e255 (out : Led) (Q : V → Led → Prop) : vXs (vc 20) ⟨fNames (stmtAt 15), [], spNo, fun _ => ⟨Unit, fun _ => ⟨Unit, fun _ => ([], ⟨[], []⟩), fun _ _ => False⟩⟩, fun _ => ⟨Unit, fun _ => ⟨Unit, fun _ => ⟨[], []⟩, fun _ _ _ => False⟩⟩, fun _ => ⟨Unit, fun _ => ([], ⟨[], []⟩), fun _ _ => False⟩, [], []⟩ (fBody (stmtAt 15)) (initM (List.zip [] []) (fNames (stmtAt 15))) ⟨[], out⟩ (exitQ Q) =
  ((0 : Nat) + (1 : Nat) + (1 : Nat) + (1 : Nat) + (1 : Nat) + (1 : Nat) + (1 : Nat) + (1 : Nat) + (1 : Nat) + (1 : Nat) ≤ (1000 : Nat) ∧ Q (V.d (PyData.list [PyData.int (0 : Int), PyData.int (1 : Int), PyData.int (97 : Int), PyData.int (98 : Int), PyData.int (99 : Int), PyData.int (100 : Int), PyData.int (102 : Int), PyData.int (103 : Int), PyData.int (1114111 : Int)])) out) := by kernel_rfl
theorem e262 (out : Led) (Q : V → Led → Prop) : vXs (vc 20) ⟨fNames (stmtAt 16), [], spNo, fun _ => ⟨Unit, fun _ => ⟨Unit, fun _ => ([], ⟨[], []⟩), fun _ _ => False⟩⟩, fun _ => ⟨Unit, fun _ => ⟨Unit, fun _ => ⟨[], []⟩, fun _ _ _ => False⟩⟩, fun _ => ⟨Unit, fun _ => ([], ⟨[], []⟩), fun _ _ => False⟩, [], []⟩ (fBody (stmtAt 16)) (initM (List.zip [] []) (fNames (stmtAt 16))) ⟨[], out⟩ (exitQ Q) =
  ((0 : Nat) + (1 : Nat) + (1 : Nat) + (1 : Nat) + (1 : Nat) + (1 : Nat) + (1 : Nat) + (1 : Nat) + (1 : Nat) + (1 : Nat) ≤ (1000 : Nat) ∧ Q (V.d (PyData.list [PyData.int (0 : Int), PyData.int (96 : Int), PyData.int (97 : Int), PyData.int (98 : Int), PyData.int (99 : Int), PyData.int (101 : Int), PyData.int (102 : Int), PyData.int (1114110 : Int), PyData.int (1114111 : Int)])) out) := by kernel_rfl
theorem e35 (a b : Int) (out : Led) (Q : V → Led → Prop) : vXs (vc 20) ⟨fNames (stmtAt 4), [], spNo, fun _ => ⟨Unit, fun _ => ⟨Unit, fun _ => ([], ⟨[], []⟩), fun _ _ => False⟩⟩, fun _ => ⟨Unit, fun _ => ⟨Unit, fun _ => ⟨[], []⟩, fun _ _ _ => False⟩⟩, fun _ => ⟨Unit, fun _ => ([], ⟨[], []⟩), fun _ _ => False⟩, [], []⟩ (fBody (stmtAt 4)) (initM (List.zip ["pair"] [.d (.tuple [.int a, .int b])]) (fNames (stmtAt 4))) ⟨[], out⟩ (exitQ Q) =
  ((-(2 : Int) ^ (62 : Nat) < (0 : Int) ∧ (0 : Int) < (2 : Int) ^ (62 : Nat)) ∧ Q (V.d (PyData.int a)) out) := by kernel_rfl
theorem e276 (l : List Int) (IC : List PyData → List PyData → Prop) (IF : List Int → Int → List PyData → Prop) (out : Led) (Q : V → Led → Prop) : vXs (vc 20) ⟨fNames (stmtAt 18), ["left"], spNo, fun _ => ⟨Addr × List Int, fun p => ⟨Int × Option V, fun x => ([("script", false, some (.d (pInts l))), ("cell", false, x.2), ("left", false, some (.loc true 0 p.1)), ("mixed", false, some (dI x.1))], ⟨[(p.1, .list (p.2.map .int))], []⟩), fun x => IF p.2 x.1⟩⟩, fun _ => ⟨Unit, fun _ => ⟨Unit, fun _ => ⟨[], []⟩, fun _ => IC⟩⟩, fun _ => ⟨Unit, fun _ => ([], ⟨[], []⟩), fun _ _ => False⟩, [], []⟩ (fBody (stmtAt 18)) (initM (List.zip ["script"] [.d (pInts l)]) (fNames (stmtAt 18))) ⟨[], []⟩ (exitQ Q) =
  (((0 : Int) ≤ (40 : Int) ∧ (40 : Int) < (2 : Int) ^ (62 : Nat)) ∧ (List.map PyData.int l).length ≤ (1000 : Nat) ∧ (List.take (Int.toNat (40 : Int)) (List.map PyData.int l)).length ≤ (1000 : Nat) ∧ ∃ (p : Unit), ∃ (a : Unit), G.mk [] [] = G.mk [] [] ∧ IC [] (List.take (Int.toNat (40 : Int)) (List.map PyData.int l)) ∧ (∀ (a : Unit) (acc : List PyData) (y : PyData) (rest : List PyData), IC acc (y :: rest) → List.take (Int.toNat (40 : Int)) (List.map PyData.int l) = List.take (Int.toNat (40 : Int)) (List.map PyData.int l) ∧ vInt (V.d y) fun (i : Int) => (1000003 : Int) ≠ (0 : Int) ∧ ∃ (a : Unit), G.mk [] [] = G.mk [] [] ∧ IC (acc ++ [PyData.int (i.fmod (1000003 : Int))]) rest) ∧ ∀ (a : Unit) (acc : List PyData), IC acc [] → List.take (Int.toNat (40 : Int)) (List.map PyData.int l) = List.take (Int.toNat (40 : Int)) (List.map PyData.int l) ∧ ∀ (a : Addr), a = a ∧ acc.length ≤ (1000 : Nat) ∧ ∃ (q : Addr × List Int), ∃ (a_1 : Int × Option V), ([(Str.ofString "script", false, some (V.d (pInts l))), (Str.ofString "cell", false, a_1.snd), (Str.ofString "left", false, some (V.loc true (0 : Nat) q.fst)), (Str.ofString "mixed", false, some (V.d (PyData.int a_1.fst)))], G.mk [(q.fst, AO.list (List.map PyData.int q.snd))] []) = ([(Str.ofString "script", false, some (V.d (pInts l))), (Str.ofString "cell", false, none), (Str.ofString "left", false, some (V.loc true (0 : Nat) a)), (Str.ofString "mixed", false, some (V.d (PyData.int (1312 : Int))))], G.mk [(a, AO.list acc)] []) ∧ IF q.snd a_1.fst acc ∧ (∀ (a_2 : Int × Option V) (y : PyData) (rest : List PyData), IF q.snd a_2.fst (y :: rest) → (q.fst = a ∧ List.map PyData.int q.snd = acc) ∧ IntMulOk a_2.fst (31 : Int) ∧ vInt (V.d y) fun (y_1 : Int) => (1000003 : Int) ≠ (0 : Int) ∧ ∃ (a : Int × Option V), ([(Str.ofString "script", false, some (V.d (pInts l))), (Str.ofString "cell", false, a.snd), (Str.ofString "left", false, some (V.loc true (0 : Nat) q.fst)), (Str.ofString "mixed", false, some (V.d (PyData.int a.fst)))], G.mk [(q.fst, AO.list (List.map PyData.int q.snd))] []) = ([(Str.ofString "script", false, some (V.d (pInts l))), (Str.ofString "cell", false, some (V.d y)), (Str.ofString "left", false, some (V.loc true (0 : Nat) q.fst)), (Str.ofString "mixed", false, some (V.d (PyData.int ((a_2.fst * (31 : Int) + y_1 + (61 : Int)).fmod (1000003 : Int)))))], G.mk [(q.fst, AO.list (List.map PyData.int q.snd))] []) ∧ IF q.snd a.fst rest) ∧ ∀ (a_2 : Int × Option V), IF q.snd a_2.fst [] → (q.fst = a ∧ List.map PyData.int q.snd = acc) ∧ false = false ∧ ∀ (a : Addr), Q (V.loc false ((0 : Nat) + ((0 : Nat) + (1 : Nat))) a) [(q.fst, AO.list (List.map PyData.int q.snd)), (a, AO.dict [(Str.ofString "left", V.loc false ((0 : Nat) + (0 : Nat)) q.fst), (Str.ofString "mixed", V.d (PyData.int a_2.fst))])]) := by kernel_rfl
theorem e283 (aL aD : Addr) (ls : List Int) (m : Int) (rest : Led) (n : Int) (out : Led) (Q : V → Led → Prop) : vXs (vc 20) ⟨fNames (stmtAt 19), [], spNo, fun _ => ⟨Unit, fun _ => ⟨Unit, fun _ => ([], ⟨[], []⟩), fun _ _ => False⟩⟩, fun _ => ⟨Unit, fun _ => ⟨Unit, fun _ => ⟨[], []⟩, fun _ _ _ => False⟩⟩, fun _ => ⟨Unit, fun _ => ([], ⟨[], []⟩), fun _ _ => False⟩, [], []⟩ (fBody (stmtAt 19)) (initM (List.zip ["deck", "many"] [.loc false 1 aD, dI n]) (fNames (stmtAt 19))) ⟨[], dkOut aL aD ls m rest⟩ (exitQ Q) =
  (  aD = aD ∧
   (0 : Nat) ≤ (1000 : Nat) ∧
    aL = aL ∧
     (SeqAt.shaped (PyData.list (List.map PyData.int ls)) = true ∧ SeqAt.shaped (PyData.list []) = true) ∧
      br (!PyData.eqvAll (List.map PyData.int ls) [])
       (aD = aD ∧
        aL = aL ∧
         aL = aL ∧
          ((0 : Int) = (0 : Int) ∧ (List.map PyData.int ls).length ≤ (1000 : Nat)) ∧
           match List.map PyData.int ls with
           | y :: r =>
            vInt (V.d y) fun (x : Int) =>
             n ≠ (0 : Int) ∧
              Q (V.d (PyData.int (x.fmod n)))
               ((aL, AO.list r) ::
                (aD, AO.dict [(Str.ofString "left", V.loc false (0 : Nat) aL), (Str.ofString "mixed", V.d (PyData.int m))]) :: rest)
           | [] => False)
       (false = false ∧
        aD = aD ∧
         IntMulOk m (4801 : Int) ∧
          (1000003 : Int) ≠ (0 : Int) ∧
           aD = aD ∧
            (0 : Nat) + (1 : Nat) + (1 : Nat) ≤ (8 : Nat) ∧
             aD = aD ∧
              ((7 : Int) ≠ (0 : Int) ∧ Int.natAbs (7 : Int) < (1073741824 : Nat)) ∧
               n ≠ (0 : Int) ∧
                Q (V.d (PyData.int ((((m * (4801 : Int) + (173 : Int)).fmod (1000003 : Int)).fdiv (7 : Int)).fmod n)))
                 ((aL, AO.list (List.map PyData.int ls)) ::
                  (aD,
                    AO.dict
                     [(Str.ofString "left", V.loc false (0 : Nat) aL),
                      (Str.ofString "mixed", V.d (PyData.int ((m * (4801 : Int) + (173 : Int)).fmod (1000003 : Int))))]) ::
                   rest))) := by kernel_rfl
theorem e288 (t : List Bool) (ss cs : List (List Int)) (IC : Int → List PyData → List PyData → Prop) (IF : Addr × Addr × List Bool × List (List Int) × Option V × Option V → List PyData → Prop) (out : Led) (Q : V → Led → Prop) : vXs (vc 20) ⟨fNames (stmtAt 20), ["truths", "kept"], spOn 255 S255 (spOn 262 S262 spNo), fun _ => ⟨Unit, fun _ => ⟨Addr × Addr × List Bool × List (List Int) × Option V × Option V, fun x => ([("v", false, some (vD t ss)), ("strings", false, some (.d (pStrs cs))), ("truths", false, some (.loc true 0 x.1)), ("kept", false, some (.loc true 1 x.2.1)), ("codes", true, x.2.2.2.2.1), ("at", false, x.2.2.2.2.2)], ⟨[(x.1, .list (x.2.2.1.map .bool)), (x.2.1, .list (x.2.2.2.1.map pTup))], out⟩), IF⟩⟩, fun _ => ⟨Addr × Addr × List Bool × List (List Int) × Int, fun x => ⟨Unit, fun _ => ⟨[(x.1, .list (x.2.2.1.map .bool)), (x.2.1, .list (x.2.2.2.1.map pTup))], out⟩, fun _ => IC x.2.2.2.2⟩⟩, fun _ => ⟨Unit, fun _ => ([], ⟨[], []⟩), fun _ _ => False⟩, [], []⟩ (fBody (stmtAt 20)) (initM (List.zip ["v", "strings"] [vD t ss, .d (pStrs cs)]) (fNames (stmtAt 20))) ⟨[], out⟩ (exitQ Q) =
  ((-(2 : Int) ^ (62 : Nat) < (0 : Int) ∧ (0 : Int) < (2 : Int) ^ (62 : Nat)) ∧ (List.map PyData.bool t).length ≤ (1000 : Nat) ∧ ∀ (a : Addr), (-(2 : Int) ^ (62 : Nat) < (1 : Int) ∧ (1 : Int) < (2 : Int) ^ (62 : Nat)) ∧ (List.map pTup ss).length ≤ (1000 : Nat) ∧ ∀ (a_1 : Addr), (List.map pTup cs).length ≤ (1000 : Nat) ∧ ∃ (q : Unit), ∃ (a_2 : Addr × Addr × List Bool × List (List Int) × Option V × Option V), ([(Str.ofString "v", false, some (V.d (PyData.tuple [PyData.list (List.map PyData.bool t), pStrs ss]))), (Str.ofString "strings", false, some (V.d (pStrs cs))), (Str.ofString "truths", false, some (V.loc true (0 : Nat) a_2.fst)), (Str.ofString "kept", false, some (V.loc true (1 : Nat) a_2.snd.fst)), (Str.ofString "codes", true, a_2.snd.snd.snd.snd.fst), (Str.ofString "at", false, a_2.snd.snd.snd.snd.snd)], G.mk [(a_2.fst, AO.list (List.map PyData.bool a_2.snd.snd.fst)), (a_2.snd.fst, AO.list (List.map pTup a_2.snd.snd.snd.fst))] out) = ([(Str.ofString "v", false, some (V.d (PyData.tuple [PyData.list (List.map PyData.bool t), pStrs ss]))), (Str.ofString "strings", false, some (V.d (pStrs cs))), (Str.ofString "truths", false, some (V.loc true (0 : Nat) a)), (Str.ofString "kept", false, some (V.loc true ((0 : Nat) + (1 : Nat)) a_1)), (Str.ofString "codes", true, none), (Str.ofString "at", false, none)], G.mk [(a, AO.list (List.map PyData.bool t)), (a_1, AO.list (List.map pTup ss))] out) ∧ IF a_2 (List.map pTup cs) ∧ (∀ (a : Addr × Addr × List Bool × List (List Int) × Option V × Option V) (y : PyData) (rest : List PyData), IF a (y :: rest) → List.map pTup cs = List.map pTup cs ∧ vSeq (G.mk [(a.fst, AO.list (List.map PyData.bool a.snd.snd.fst)), (a.snd.fst, AO.list (List.map pTup a.snd.snd.snd.fst))] out) (V.d y) fun (xs : List PyData) => xs.length ≤ (1000 : Nat) ∧ br (Int.ofNat xs.length == (1 : Int)) (((-1000 : Int) ≤ (9 : Int) ∧ (9 : Int) ≤ (1000 : Int)) ∧ ∃ (p : Addr × Addr × List Bool × List (List Int) × Int), ∃ (a_4 : Unit), G.mk [(p.fst, AO.list (List.map PyData.bool p.snd.snd.fst)), (p.snd.fst, AO.list (List.map pTup p.snd.snd.snd.fst))] out = G.mk [(a.fst, AO.list (List.map PyData.bool a.snd.snd.fst)), (a.snd.fst, AO.list (List.map pTup a.snd.snd.snd.fst))] out ∧ IC p.snd.snd.snd.snd [] (rangeL (0 : Int) (1 : Int) (Int.toNat (9 : Int))) ∧ (∀ (a : Unit) (acc : List PyData) (y_1 : PyData) (rest : List PyData), IC p.snd.snd.snd.snd acc (y_1 :: rest) → True ∧ vInt (V.d y_1) fun (k : Int) => (-(2 : Int) ^ (62 : Nat) < k ∧ k < (2 : Int) ^ (62 : Nat)) ∧ oB (seqIndex? k ((0 : Nat) + (1 : Nat) + (1 : Nat) + (1 : Nat) + (1 : Nat) + (1 : Nat) + (1 : Nat) + (1 : Nat) + (1 : Nat) + (1 : Nat))) fun (j : Nat) => oB [PyData.int (0 : Int), PyData.int (1 : Int), PyData.int (97 : Int), PyData.int (98 : Int), PyData.int (99 : Int), PyData.int (100 : Int), PyData.int (102 : Int), PyData.int (103 : Int), PyData.int (1114111 : Int)][j]? fun (y_2 : PyData) => vItem (V.d y) (V.d (PyData.int (0 : Int))) (G.mk [(p.fst, AO.list (List.map PyData.bool p.snd.snd.fst)), (p.snd.fst, AO.list (List.map pTup p.snd.snd.snd.fst))] out) fun (b : V) (g : G) => vInt (V.d y_2) fun (x : Int) => vInt b fun (y : Int) => br (decide (x ≤ y)) (vInt (V.d y_1) fun (k : Int) => (-(2 : Int) ^ (62 : Nat) < k ∧ k < (2 : Int) ^ (62 : Nat)) ∧ oB (seqIndex? k ((0 : Nat) + (1 : Nat) + (1 : Nat) + (1 : Nat) + (1 : Nat) + (1 : Nat) + (1 : Nat) + (1 : Nat) + (1 : Nat) + (1 : Nat))) fun (j : Nat) => oB [PyData.int (0 : Int), PyData.int (96 : Int), PyData.int (97 : Int), PyData.int (98 : Int), PyData.int (99 : Int), PyData.int (101 : Int), PyData.int (102 : Int), PyData.int (1114110 : Int), PyData.int (1114111 : Int)][j]? fun (y : PyData) => vInt b fun (x : Int) => vInt (V.d y) fun (y : Int) => br (decide (x ≤ y)) (∃ (a : Unit), G.mk [(p.fst, AO.list (List.map PyData.bool p.snd.snd.fst)), (p.snd.fst, AO.list (List.map pTup p.snd.snd.snd.fst))] out = G.mk g.own g.out ∧ IC p.snd.snd.snd.snd (acc ++ [y_1]) rest) (∃ (a : Unit), G.mk [(p.fst, AO.list (List.map PyData.bool p.snd.snd.fst)), (p.snd.fst, AO.list (List.map pTup p.snd.snd.snd.fst))] out = G.mk g.own g.out ∧ IC p.snd.snd.snd.snd acc rest)) (∃ (a : Unit), G.mk [(p.fst, AO.list (List.map PyData.bool p.snd.snd.fst)), (p.snd.fst, AO.list (List.map pTup p.snd.snd.snd.fst))] out = g ∧ IC p.snd.snd.snd.snd acc rest)) ∧ ∀ (a_5 : Unit) (acc : List PyData), IC p.snd.snd.snd.snd acc [] → True ∧ (-(2 : Int) ^ (62 : Nat) < (0 : Int) ∧ (0 : Int) < (2 : Int) ^ (62 : Nat)) ∧ oB (seqIndex? (0 : Int) acc.length) fun (j : Nat) => oB acc[j]? fun (y_1 : PyData) => false = false ∧ p.fst = a.fst ∧ vInt (V.d y_1) fun (k : Int) => (-(2 : Int) ^ (62 : Nat) < k ∧ k < (2 : Int) ^ (62 : Nat)) ∧ oB (seqIndex? k (List.map PyData.bool p.snd.snd.fst).length) fun (j : Nat) => ∃ (a_7 : Addr × Addr × List Bool × List (List Int) × Option V × Option V), ([(Str.ofString "v", false, some (V.d (PyData.tuple [PyData.list (List.map PyData.bool t), pStrs ss]))), (Str.ofString "strings", false, some (V.d (pStrs cs))), (Str.ofString "truths", false, some (V.loc true (0 : Nat) a_7.fst)), (Str.ofString "kept", false, some (V.loc true (1 : Nat) a_7.snd.fst)), (Str.ofString "codes", true, a_7.snd.snd.snd.snd.fst), (Str.ofString "at", false, a_7.snd.snd.snd.snd.snd)], G.mk [(a_7.fst, AO.list (List.map PyData.bool a_7.snd.snd.fst)), (a_7.snd.fst, AO.list (List.map pTup a_7.snd.snd.snd.fst))] out) = ([(Str.ofString "v", false, some (V.d (PyData.tuple [PyData.list (List.map PyData.bool t), pStrs ss]))), (Str.ofString "strings", false, some (V.d (pStrs cs))), (Str.ofString "truths", false, some (V.loc true (0 : Nat) a.fst)), (Str.ofString "kept", false, some (V.loc true (1 : Nat) a.snd.fst)), (Str.ofString "codes", true, some (V.d y)), (Str.ofString "at", false, some (V.d y_1))], G.mk [(a.fst, AO.list ((List.map PyData.bool p.snd.snd.fst).set j (PyData.bool true))), (p.snd.fst, AO.list (List.map pTup p.snd.snd.snd.fst))] out) ∧ IF a_7 rest) (a.snd.fst = a.snd.fst ∧ (PyData.canLayAll0 (List.map pTup a.snd.snd.snd.fst) = true ∧ y.canLay0 = true ∧ y.depth ≤ (8 : Nat)) ∧ br (!(List.map pTup a.snd.snd.snd.fst).any fun (y_1 : PyData) => y_1.eqv y) (a.snd.fst = a.snd.fst ∧ a.snd.fst = a.snd.fst ∧ (List.map pTup a.snd.snd.snd.fst).length ≤ (1000 : Nat) ∧ ∃ (a_4 : Addr × Addr × List Bool × List (List Int) × Option V × Option V), ([(Str.ofString "v", false, some (V.d (PyData.tuple [PyData.list (List.map PyData.bool t), pStrs ss]))), (Str.ofString "strings", false, some (V.d (pStrs cs))), (Str.ofString "truths", false, some (V.loc true (0 : Nat) a_4.fst)), (Str.ofString "kept", false, some (V.loc true (1 : Nat) a_4.snd.fst)), (Str.ofString "codes", true, a_4.snd.snd.snd.snd.fst), (Str.ofString "at", false, a_4.snd.snd.snd.snd.snd)], G.mk [(a_4.fst, AO.list (List.map PyData.bool a_4.snd.snd.fst)), (a_4.snd.fst, AO.list (List.map pTup a_4.snd.snd.snd.fst))] out) = ([(Str.ofString "v", false, some (V.d (PyData.tuple [PyData.list (List.map PyData.bool t), pStrs ss]))), (Str.ofString "strings", false, some (V.d (pStrs cs))), (Str.ofString "truths", false, some (V.loc true (0 : Nat) a.fst)), (Str.ofString "kept", false, some (V.loc true (1 : Nat) a.snd.fst)), (Str.ofString "codes", true, some (V.d y)), (Str.ofString "at", false, a.snd.snd.snd.snd.snd)], G.mk [(a.fst, AO.list (List.map PyData.bool a.snd.snd.fst)), (a.snd.fst, AO.list (List.map pTup a.snd.snd.snd.fst ++ [y]))] out) ∧ IF a_4 rest) (∃ (a_4 : Addr × Addr × List Bool × List (List Int) × Option V × Option V), ([(Str.ofString "v", false, some (V.d (PyData.tuple [PyData.list (List.map PyData.bool t), pStrs ss]))), (Str.ofString "strings", false, some (V.d (pStrs cs))), (Str.ofString "truths", false, some (V.loc true (0 : Nat) a_4.fst)), (Str.ofString "kept", false, some (V.loc true (1 : Nat) a_4.snd.fst)), (Str.ofString "codes", true, a_4.snd.snd.snd.snd.fst), (Str.ofString "at", false, a_4.snd.snd.snd.snd.snd)], G.mk [(a_4.fst, AO.list (List.map PyData.bool a_4.snd.snd.fst)), (a_4.snd.fst, AO.list (List.map pTup a_4.snd.snd.snd.fst))] out) = ([(Str.ofString "v", false, some (V.d (PyData.tuple [PyData.list (List.map PyData.bool t), pStrs ss]))), (Str.ofString "strings", false, some (V.d (pStrs cs))), (Str.ofString "truths", false, some (V.loc true (0 : Nat) a.fst)), (Str.ofString "kept", false, some (V.loc true (1 : Nat) a.snd.fst)), (Str.ofString "codes", true, some (V.d y)), (Str.ofString "at", false, a.snd.snd.snd.snd.snd)], G.mk [(a.fst, AO.list (List.map PyData.bool a.snd.snd.fst)), (a.snd.fst, AO.list (List.map pTup a.snd.snd.snd.fst))] out) ∧ IF a_4 rest))) ∧ ∀ (a : Addr × Addr × List Bool × List (List Int) × Option V × Option V), IF a [] → List.map pTup cs = List.map pTup cs ∧ a.snd.fst = a.snd.fst ∧ ((∃ (is : List Int), List.map pTup a.snd.snd.snd.fst = List.map PyData.int is ∧ is.length < (64 : Nat) ∧ ∀ (js : List Int), js.Perm is → List.Pairwise (fun (x1 x2 : Int) => x1 ≤ x2) js → a.fst = a.fst ∧ (0 : Nat) + (1 : Nat) + (1 : Nat) ≤ (1000 : Nat) ∧ Q (V.d (PyData.tuple [PyData.list (List.map PyData.bool a.snd.snd.fst), pInts js])) out) ∨ ∃ (ss : List (List Int)), List.map pTup a.snd.snd.snd.fst = List.map pTup ss ∧ (ss.Nodup ∧ ss.length ≤ (5 : Nat)) ∧ ∀ (ts : List (List Int)), ts.Perm ss → List.Pairwise (fun (a b : List Int) => ltL a b = true) ts → a.fst = a.fst ∧ (0 : Nat) + (1 : Nat) + (1 : Nat) ≤ (1000 : Nat) ∧ Q (V.d (PyData.tuple [PyData.list (List.map PyData.bool a.snd.snd.fst), pStrs ts])) out)) := by kernel_rfl
theorem e295 (t : List Bool) (IF : Addr × List (Int × Int) × Option V → List PyData → Prop) (out : Led) (Q : V → Led → Prop) : vXs (vc 20) ⟨fNames (stmtAt 21), ["found"], spOn 255 S255 (spOn 262 S262 spNo), fun _ => ⟨Unit, fun _ => ⟨Addr × List (Int × Int) × Option V, fun x => ([("truths", false, some (.d (.list (t.map .bool)))), ("found", false, some (.loc true 0 x.1)), ("k", false, x.2.2)], ⟨[(x.1, .list (pPairs x.2.1))], out⟩), IF⟩⟩, fun _ => ⟨Unit, fun _ => ⟨Unit, fun _ => ⟨[], []⟩, fun _ _ _ => False⟩⟩, fun _ => ⟨Unit, fun _ => ([], ⟨[], []⟩), fun _ _ => False⟩, [], [167]⟩ (fBody (stmtAt 21)) (initM (List.zip ["truths"] [.d (.list (t.map .bool))]) (fNames (stmtAt 21))) ⟨[], out⟩ (exitQ Q) =
  ((0 : Nat) ≤ (1000 : Nat) ∧ ∀ (a : Addr), ((-1000 : Int) ≤ (9 : Int) ∧ (9 : Int) ≤ (1000 : Int)) ∧ ∃ (q : Unit), ∃ (a_1 : Addr × List (Int × Int) × Option V), ([(Str.ofString "truths", false, some (V.d (PyData.list (List.map PyData.bool t)))), (Str.ofString "found", false, some (V.loc true (0 : Nat) a_1.fst)), (Str.ofString "k", false, a_1.snd.snd)], G.mk [(a_1.fst, AO.list (pPairs a_1.snd.fst))] out) = ([(Str.ofString "truths", false, some (V.d (PyData.list (List.map PyData.bool t)))), (Str.ofString "found", false, some (V.loc true (0 : Nat) a)), (Str.ofString "k", false, none)], G.mk [(a, AO.list [])] out) ∧ IF a_1 (rangeL (0 : Int) (1 : Int) (Int.toNat (9 : Int))) ∧ (∀ (a : Addr × List (Int × Int) × Option V) (y : PyData) (rest : List PyData), IF a (y :: rest) → True ∧ vInt (V.d y) fun (k : Int) => (-(2 : Int) ^ (62 : Nat) < k ∧ k < (2 : Int) ^ (62 : Nat)) ∧ oB (seqIndex? k (List.map PyData.bool t).length) fun (j : Nat) => oB (List.map PyData.bool t)[j]? fun (y_1 : PyData) => vBool (V.d y_1) fun (b : Bool) => ∃ (b_1 : Bool), (b = true → vInt (V.d y) fun (x : Int) => ∃ (b : Bool), (decide ((0 : Int) < x) = true → vInt (V.d y) fun (x : Int) => (-(2 : Int) ^ (62 : Nat) < x - (1 : Int) ∧ x - (1 : Int) < (2 : Int) ^ (62 : Nat)) ∧ oB (seqIndex? (x - (1 : Int)) (List.map PyData.bool t).length) fun (j : Nat) => oB (List.map PyData.bool t)[j]? fun (y : PyData) => vBool (V.d y) fun (b_2 : Bool) => b_2 = b ∧ G.mk [(a.fst, AO.list (pPairs a.snd.fst))] out = G.mk [(a.fst, AO.list (pPairs a.snd.fst))] out) ∧ (decide ((0 : Int) < x) && b) = b_1 ∧ G.mk [(a.fst, AO.list (pPairs a.snd.fst))] out = G.mk [(a.fst, AO.list (pPairs a.snd.fst))] out) ∧ br (b && b_1) (false = false ∧ a.fst = a.fst ∧ (-(2 : Int) ^ (62 : Nat) < (-1 : Int) ∧ (-1 : Int) < (2 : Int) ^ (62 : Nat)) ∧ oB (seqIndex? (-1 : Int) (pPairs a.snd.fst).length) fun (j : Nat) => oB (pPairs a.snd.fst)[j]? fun (y_2 : PyData) => vItem (V.d y_2) (V.d (PyData.int (0 : Int))) (G.mk [(a.fst, AO.list (pPairs a.snd.fst))] out) fun (v : V) (g : G) => vInt (V.d y) fun (k : Int) => (-(2 : Int) ^ (62 : Nat) < k ∧ k < (2 : Int) ^ (62 : Nat)) ∧ oB (seqIndex? k ((0 : Nat) + (1 : Nat) + (1 : Nat) + (1 : Nat) + (1 : Nat) + (1 : Nat) + (1 : Nat) + (1 : Nat) + (1 : Nat) + (1 : Nat))) fun (j : Nat) => oB [PyData.int (0 : Int), PyData.int (96 : Int), PyData.int (97 : Int), PyData.int (98 : Int), PyData.int (99 : Int), PyData.int (101 : Int), PyData.int (102 : Int), PyData.int (1114110 : Int), PyData.int (1114111 : Int)][j]? fun (y_3 : PyData) => vData (G.mk g.own g.out) v fun (x : PyData) (g : G) => (0 : Nat) + (1 : Nat) + (1 : Nat) ≤ (1000 : Nat) ∧ vSetItem (V.loc true (0 : Nat) a.fst) (V.d (PyData.int (-1 : Int))) (V.d (PyData.tuple [x, y_3])) g fun (g : G) => ∃ (a_3 : Addr × List (Int × Int) × Option V), ([(Str.ofString "truths", false, some (V.d (PyData.list (List.map PyData.bool t)))), (Str.ofString "found", false, some (V.loc true (0 : Nat) a_3.fst)), (Str.ofString "k", false, a_3.snd.snd)], G.mk [(a_3.fst, AO.list (pPairs a_3.snd.fst))] out) = ([(Str.ofString "truths", false, some (V.d (PyData.list (List.map PyData.bool t)))), (Str.ofString "found", false, some (V.loc true (0 : Nat) a.fst)), (Str.ofString "k", false, some (V.d y))], g) ∧ IF a_3 rest) (vInt (V.d y) fun (k : Int) => (-(2 : Int) ^ (62 : Nat) < k ∧ k < (2 : Int) ^ (62 : Nat)) ∧ oB (seqIndex? k (List.map PyData.bool t).length) fun (j : Nat) => oB (List.map PyData.bool t)[j]? fun (y_2 : PyData) => vBool (V.d y_2) fun (b : Bool) => br b (a.fst = a.fst ∧ vInt (V.d y) fun (k : Int) => (-(2 : Int) ^ (62 : Nat) < k ∧ k < (2 : Int) ^ (62 : Nat)) ∧ oB (seqIndex? k ((0 : Nat) + (1 : Nat) + (1 : Nat) + (1 : Nat) + (1 : Nat) + (1 : Nat) + (1 : Nat) + (1 : Nat) + (1 : Nat) + (1 : Nat))) fun (j : Nat) => oB [PyData.int (0 : Int), PyData.int (1 : Int), PyData.int (97 : Int), PyData.int (98 : Int), PyData.int (99 : Int), PyData.int (100 : Int), PyData.int (102 : Int), PyData.int (103 : Int), PyData.int (1114111 : Int)][j]? fun (y_3 : PyData) => vInt (V.d y) fun (k : Int) => (-(2 : Int) ^ (62 : Nat) < k ∧ k < (2 : Int) ^ (62 : Nat)) ∧ oB (seqIndex? k ((0 : Nat) + (1 : Nat) + (1 : Nat) + (1 : Nat) + (1 : Nat) + (1 : Nat) + (1 : Nat) + (1 : Nat) + (1 : Nat) + (1 : Nat))) fun (j : Nat) => oB [PyData.int (0 : Int), PyData.int (96 : Int), PyData.int (97 : Int), PyData.int (98 : Int), PyData.int (99 : Int), PyData.int (101 : Int), PyData.int (102 : Int), PyData.int (1114110 : Int), PyData.int (1114111 : Int)][j]? fun (y_4 : PyData) => (0 : Nat) + (1 : Nat) + (1 : Nat) ≤ (1000 : Nat) ∧ a.fst = a.fst ∧ (pPairs a.snd.fst).length ≤ (1000 : Nat) ∧ ∃ (a_3 : Addr × List (Int × Int) × Option V), ([(Str.ofString "truths", false, some (V.d (PyData.list (List.map PyData.bool t)))), (Str.ofString "found", false, some (V.loc true (0 : Nat) a_3.fst)), (Str.ofString "k", false, a_3.snd.snd)], G.mk [(a_3.fst, AO.list (pPairs a_3.snd.fst))] out) = ([(Str.ofString "truths", false, some (V.d (PyData.list (List.map PyData.bool t)))), (Str.ofString "found", false, some (V.loc true (0 : Nat) a.fst)), (Str.ofString "k", false, some (V.d y))], G.mk [(a.fst, AO.list (pPairs a.snd.fst ++ [PyData.tuple [y_3, y_4]]))] out) ∧ IF a_3 rest) (∃ (a_3 : Addr × List (Int × Int) × Option V), ([(Str.ofString "truths", false, some (V.d (PyData.list (List.map PyData.bool t)))), (Str.ofString "found", false, some (V.loc true (0 : Nat) a_3.fst)), (Str.ofString "k", false, a_3.snd.snd)], G.mk [(a_3.fst, AO.list (pPairs a_3.snd.fst))] out) = ([(Str.ofString "truths", false, some (V.d (PyData.list (List.map PyData.bool t)))), (Str.ofString "found", false, some (V.loc true (0 : Nat) a.fst)), (Str.ofString "k", false, some (V.d y))], G.mk [(a.fst, AO.list (pPairs a.snd.fst))] out) ∧ IF a_3 rest))) ∧ ∀ (a : Addr × List (Int × Int) × Option V), IF a [] → True ∧ a.fst = a.fst ∧ Q (V.d (PyData.list (pPairs a.snd.fst))) out) := by kernel_rfl
theorem e302 (t : List Bool) (ss : List (List Int)) (out : Led) (Q : V → Led → Prop) : vXs (vc 20) ⟨fNames (stmtAt 22), [], spOn 295 S295 (spOn 76 S76 (spOn 185 S185 spNo)), fun _ => ⟨Unit, fun _ => ⟨Unit, fun _ => ([], ⟨[], []⟩), fun _ _ => False⟩⟩, fun _ => ⟨Unit, fun _ => ⟨Unit, fun _ => ⟨[], []⟩, fun _ _ _ => False⟩⟩, fun _ => ⟨Unit, fun _ => ([], ⟨[], []⟩), fun _ _ => False⟩, [], []⟩ (fBody (stmtAt 22)) (initM (List.zip ["v"] [vD t ss]) (fNames (stmtAt 22))) ⟨[], out⟩ (exitQ Q) =
  ((-(2 : Int) ^ (62 : Nat) < (0 : Int) ∧ (0 : Int) < (2 : Int) ^ (62 : Nat)) ∧ ∃ (t_1 : List Bool), [V.d (PyData.list (List.map PyData.bool t))] = [V.d (PyData.list (List.map PyData.bool t_1))] ∧ t_1.length = (9 : Nat) ∧ ∃ (u : V), ∃ (ps : List (Int × Int)), [V.d (PyData.list (pPairs (lawR t_1)))] = [u] ∧ (ps.length ≤ (60 : Nat) ∧ u.port = true ∧ ∀ (own : List (Addr × AO)) (k : List PyData → Prop), k (pPairs ps) → vView (G.mk own out) u k) ∧ ∀ (B : List Int), Bnd B ps → (-(2 : Int) ^ (62 : Nat) < (1 : Int) ∧ (1 : Int) < (2 : Int) ^ (62 : Nat)) ∧ (List.map pTup ss).length ≤ (1000 : Nat) ∧ ∃ (b : List Int), ∃ (ss_1 : List (List Int)), [V.cset B, V.d (PyData.list (List.map pTup ss))] = [V.cset b, V.d (pStrs ss_1)] ∧ Q (V.cstr b ss_1) out) := by kernel_rfl
theorem e309 (aL aD : Addr) (ls : List Int) (m : Int) (rest : Led) (out : Led) (Q : V → Led → Prop) : vXs (vc 20) ⟨fNames (stmtAt 23), [], spOn 283 S283 spNo, fun _ => ⟨Unit, fun _ => ⟨Unit, fun _ => ([], ⟨[], []⟩), fun _ _ => False⟩⟩, fun _ => ⟨Unit, fun _ => ⟨Unit, fun _ => ⟨[], []⟩, fun _ _ _ => False⟩⟩, fun _ => ⟨Unit, fun _ => ([], ⟨[], []⟩), fun _ _ => False⟩, [], []⟩ (fBody (stmtAt 23)) (initM (List.zip ["deck"] [.loc false 1 aD]) (fNames (stmtAt 23))) ⟨[], dkOut aL aD ls m rest⟩ (exitQ Q) =
  (∃ (aL_1 : Addr), ∃ (aD_1 : Addr), ∃ (ls_1 : List Int), ∃ (m_1 : Int), ∃ (n : Int), [V.loc false (1 : Nat) aD, V.d (PyData.int (9 : Int))] = [V.loc false (1 : Nat) aD_1, V.d (PyData.int n)] ∧ dkE aL_1 aD_1 ls_1 m_1 (aL, AO.list (List.map PyData.int ls)) (aD, AO.dict [(Str.ofString "left", V.loc false (0 : Nat) aL), (Str.ofString "mixed", V.d (PyData.int m))]) ∧ (Dk ls_1 m_1 ∧ (0 : Int) < n ∧ n < (1000 : Int)) ∧ ∀ (r : Int) (ls' : List Int) (m' : Int), Dk ls' m' → (0 : Int) ≤ r → r < n → ∃ (aL : Addr), ∃ (aD_2 : Addr), ∃ (ls : List Int), ∃ (m : Int), ∃ (n : Int), [V.loc false (1 : Nat) aD, V.d (PyData.int (9 : Int))] = [V.loc false (1 : Nat) aD_2, V.d (PyData.int n)] ∧ dkE aL aD_2 ls m (aL_1, AO.list (List.map PyData.int ls')) (aD_1, AO.dict [(Str.ofString "left", V.loc false (0 : Nat) aL_1), (Str.ofString "mixed", V.d (PyData.int m'))]) ∧ (Dk ls m ∧ (0 : Int) < n ∧ n < (1000 : Int)) ∧ ∀ (r_1 : Int) (ls' : List Int) (m' : Int), Dk ls' m' → (0 : Int) ≤ r_1 → r_1 < n → (0 : Nat) + (1 : Nat) + (1 : Nat) ≤ (1000 : Nat) ∧ ((∃ (is : List Int), [PyData.int r, PyData.int r_1] = List.map PyData.int is ∧ is.length < (64 : Nat) ∧ ∀ (js : List Int), js.Perm is → List.Pairwise (fun (x1 x2 : Int) => x1 ≤ x2) js → Q (V.d (pInts js)) ((aL, AO.list (List.map PyData.int ls')) :: (aD_2, AO.dict [(Str.ofString "left", V.loc false (0 : Nat) aL), (Str.ofString "mixed", V.d (PyData.int m'))]) :: rest)) ∨ ∃ (ss : List (List Int)), [PyData.int r, PyData.int r_1] = List.map pTup ss ∧ (ss.Nodup ∧ ss.length ≤ (5 : Nat)) ∧ ∀ (ts : List (List Int)), ts.Perm ss → List.Pairwise (fun (a b : List Int) => ltL a b = true) ts → Q (V.d (pStrs ts)) ((aL, AO.list (List.map PyData.int ls')) :: (aD_2, AO.dict [(Str.ofString "left", V.loc false (0 : Nat) aL), (Str.ofString "mixed", V.d (PyData.int m'))]) :: rest))) := by kernel_rfl
theorem e314 (aL aD : Addr) (ls : List Int) (m : Int) (rest : Led) (IC : Nat → (List Bool × Int × Int) → List Int × Int → List PyData → List PyData → Prop) (IF : List Int × Int × List Bool × Option V × Option V × Option V → List PyData → Prop) (out : Led) (Q : V → Led → Prop) : vXs (vc 20) ⟨fNames (stmtAt 24), [], spOn 283 S283 (spOn 309 S309 (spOn 288 S288 spNo)), fun _ => ⟨Unit, fun _ => ⟨List Int × Int × List Bool × Option V × Option V × Option V, fun x => ([("deck", true, some (.loc false 1 aD)), ("v", true, some (vD x.2.2.1 [])), ("turn", false, x.2.2.2.1), ("low", true, x.2.2.2.2.1), ("high", true, x.2.2.2.2.2)], ⟨[], dkOut aL aD x.1 x.2.1 rest⟩), IF⟩⟩, fun n => ⟨List Bool × Int × Int, fun p => ⟨List Int × Int, fun x => ⟨[], dkOut aL aD x.1 x.2 rest⟩, IC n p⟩⟩, fun _ => ⟨Unit, fun _ => ([], ⟨[], []⟩), fun _ _ => False⟩, [], []⟩ (fBody (stmtAt 24)) (initM (List.zip ["deck"] [.loc false 1 aD]) (fNames (stmtAt 24))) ⟨[], dkOut aL aD ls m rest⟩ (exitQ Q) =
  (((0 : Int) ≤ (9 : Int) ∧ (9 : Int) ≤ (100 : Int) ∧ (0 : Nat) + (1 : Nat) ≤ (100 : Nat) ∧ [PyData.bool false] ≠ []) ∧ (0 : Nat) ≤ (1000 : Nat) ∧ (0 : Nat) + (1 : Nat) + (1 : Nat) ≤ (1000 : Nat) ∧ ∃ (aL_1 : Addr), ∃ (aD_1 : Addr), ∃ (ls_1 : List Int), ∃ (m_1 : Int), ∃ (n : Int), [V.loc false (1 : Nat) aD, V.d (PyData.int (3 : Int))] = [V.loc false (1 : Nat) aD_1, V.d (PyData.int n)] ∧ dkE aL_1 aD_1 ls_1 m_1 (aL, AO.list (List.map PyData.int ls)) (aD, AO.dict [(Str.ofString "left", V.loc false (0 : Nat) aL), (Str.ofString "mixed", V.d (PyData.int m))]) ∧ (Dk ls_1 m_1 ∧ (0 : Int) < n ∧ n < (1000 : Int)) ∧ ∀ (r : Int) (ls' : List Int) (m' : Int), Dk ls' m' → (0 : Int) ≤ r → r < n → ((-1000 : Int) ≤ r ∧ r ≤ (1000 : Int)) ∧ ∃ (q : Unit), ∃ (a : List Int × Int × List Bool × Option V × Option V × Option V), ([(Str.ofString "deck", true, some (V.loc false (1 : Nat) aD)), (Str.ofString "v", true, some (V.d (PyData.tuple [PyData.list (List.map PyData.bool a.snd.snd.fst), pStrs []]))), (Str.ofString "turn", false, a.snd.snd.snd.fst), (Str.ofString "low", true, a.snd.snd.snd.snd.fst), (Str.ofString "high", true, a.snd.snd.snd.snd.snd)], G.mk [] ((aL, AO.list (List.map PyData.int a.fst)) :: (aD, AO.dict [(Str.ofString "left", V.loc false (0 : Nat) aL), (Str.ofString "mixed", V.d (PyData.int a.snd.fst))]) :: rest)) = ([(Str.ofString "deck", true, some (V.loc false (1 : Nat) aD)), (Str.ofString "v", true, some (V.d (PyData.tuple [PyData.list (List.replicate (Int.toNat (9 : Int)) [PyData.bool false]).flatten, PyData.list []]))), (Str.ofString "turn", false, none), (Str.ofString "low", true, none), (Str.ofString "high", true, none)], G.mk [] ((aL_1, AO.list (List.map PyData.int ls')) :: (aD_1, AO.dict [(Str.ofString "left", V.loc false (0 : Nat) aL_1), (Str.ofString "mixed", V.d (PyData.int m'))]) :: rest)) ∧ IF a (rangeL (0 : Int) (1 : Int) r.toNat) ∧ (∀ (a : List Int × Int × List Bool × Option V × Option V × Option V) (y : PyData) (rest_1 : List PyData), IF a (y :: rest_1) → True ∧ ∃ (aL_2 : Addr), ∃ (aD_2 : Addr), ∃ (ls : List Int), ∃ (m : Int), [V.loc false (1 : Nat) aD] = [V.loc false (1 : Nat) aD_2] ∧ dkE aL_2 aD_2 ls m (aL, AO.list (List.map PyData.int a.fst)) (aD, AO.dict [(Str.ofString "left", V.loc false (0 : Nat) aL), (Str.ofString "mixed", V.d (PyData.int a.snd.fst))]) ∧ Dk ls m ∧ ∀ (ls' : List Int) (m' lo hi : Int), Dk ls' m' → (0 : Int) ≤ lo → lo ≤ hi → hi < (9 : Int) → ((-1000 : Int) ≤ (9 : Int) ∧ (9 : Int) ≤ (1000 : Int)) ∧ ∃ (p : List Bool × Int × Int), ∃ (a_6 : List Int × Int), G.mk [] ((aL, AO.list (List.map PyData.int a_6.fst)) :: (aD, AO.dict [(Str.ofString "left", V.loc false (0 : Nat) aL), (Str.ofString "mixed", V.d (PyData.int a_6.snd))]) :: rest) = G.mk [] ((aL_2, AO.list (List.map PyData.int ls')) :: (aD_2, AO.dict [(Str.ofString "left", V.loc false (0 : Nat) aL_2), (Str.ofString "mixed", V.d (PyData.int m'))]) :: rest) ∧ IC ((180 : Nat) * (1000 : Nat) + (13 : Nat)) p a_6 [] (rangeL (0 : Int) (1 : Int) (Int.toNat (9 : Int))) ∧ (∀ (a_7 : List Int × Int) (acc : List PyData) (y : PyData) (rest_2 : List PyData), IC ((180 : Nat) * (1000 : Nat) + (13 : Nat)) p a_7 acc (y :: rest_2) → True ∧ (-(2 : Int) ^ (62 : Nat) < (0 : Int) ∧ (0 : Int) < (2 : Int) ^ (62 : Nat)) ∧ vInt (V.d y) fun (k : Int) => (-(2 : Int) ^ (62 : Nat) < k ∧ k < (2 : Int) ^ (62 : Nat)) ∧ oB (seqIndex? k (List.map PyData.bool a.snd.snd.fst).length) fun (j : Nat) => oB (List.map PyData.bool a.snd.snd.fst)[j]? fun (y_1 : PyData) => vBool (V.d y_1) fun (b : Bool) => br b (∃ (a : List Int × Int), G.mk [] ((aL, AO.list (List.map PyData.int a.fst)) :: (aD, AO.dict [(Str.ofString "left", V.loc false (0 : Nat) aL), (Str.ofString "mixed", V.d (PyData.int a.snd))]) :: rest) = G.mk [] ((aL, AO.list (List.map PyData.int a_7.fst)) :: (aD, AO.dict [(Str.ofString "left", V.loc false (0 : Nat) aL), (Str.ofString "mixed", V.d (PyData.int a_7.snd))]) :: rest) ∧ IC ((180 : Nat) * (1000 : Nat) + (13 : Nat)) p a (acc ++ [PyData.bool true]) rest_2) (vInt (V.d y) fun (y_2 : Int) => br (decide (lo ≤ y_2)) (vInt (V.d y) fun (x : Int) => ∃ (a : List Int × Int), G.mk [] ((aL, AO.list (List.map PyData.int a.fst)) :: (aD, AO.dict [(Str.ofString "left", V.loc false (0 : Nat) aL), (Str.ofString "mixed", V.d (PyData.int a.snd))]) :: rest) = G.mk [] ((aL, AO.list (List.map PyData.int a_7.fst)) :: (aD, AO.dict [(Str.ofString "left", V.loc false (0 : Nat) aL), (Str.ofString "mixed", V.d (PyData.int a_7.snd))]) :: rest) ∧ IC ((180 : Nat) * (1000 : Nat) + (13 : Nat)) p a (acc ++ [PyData.bool (decide (x ≤ hi))]) rest_2) (∃ (a : List Int × Int), G.mk [] ((aL, AO.list (List.map PyData.int a.fst)) :: (aD, AO.dict [(Str.ofString "left", V.loc false (0 : Nat) aL), (Str.ofString "mixed", V.d (PyData.int a.snd))]) :: rest) = G.mk [] ((aL, AO.list (List.map PyData.int a_7.fst)) :: (aD, AO.dict [(Str.ofString "left", V.loc false (0 : Nat) aL), (Str.ofString "mixed", V.d (PyData.int a_7.snd))]) :: rest) ∧ IC ((180 : Nat) * (1000 : Nat) + (13 : Nat)) p a (acc ++ [PyData.bool false]) rest_2))) ∧ ∀ (a : List Int × Int) (acc : List PyData), IC ((180 : Nat) * (1000 : Nat) + (13 : Nat)) p a acc [] → True ∧ (-(2 : Int) ^ (62 : Nat) < (1 : Int) ∧ (1 : Int) < (2 : Int) ^ (62 : Nat)) ∧ (0 : Nat) + (1 : Nat) + (1 : Nat) ≤ (1000 : Nat) ∧ ∃ (a_8 : List Int × Int × List Bool × Option V × Option V × Option V), ([(Str.ofString "deck", true, some (V.loc false (1 : Nat) aD)), (Str.ofString "v", true, some (V.d (PyData.tuple [PyData.list (List.map PyData.bool a_8.snd.snd.fst), pStrs []]))), (Str.ofString "turn", false, a_8.snd.snd.snd.fst), (Str.ofString "low", true, a_8.snd.snd.snd.snd.fst), (Str.ofString "high", true, a_8.snd.snd.snd.snd.snd)], G.mk [] ((aL, AO.list (List.map PyData.int a_8.fst)) :: (aD, AO.dict [(Str.ofString "left", V.loc false (0 : Nat) aL), (Str.ofString "mixed", V.d (PyData.int a_8.snd.fst))]) :: rest)) = ([(Str.ofString "deck", true, some (V.loc false (1 : Nat) aD)), (Str.ofString "v", true, some (V.d (PyData.tuple [PyData.list acc, pStrs []]))), (Str.ofString "turn", false, some (V.d y)), (Str.ofString "low", true, some (V.d (PyData.int lo))), (Str.ofString "high", true, some (V.d (PyData.int hi)))], G.mk [] ((aL, AO.list (List.map PyData.int a.fst)) :: (aD, AO.dict [(Str.ofString "left", V.loc false (0 : Nat) aL), (Str.ofString "mixed", V.d (PyData.int a.snd))]) :: rest)) ∧ IF a_8 rest_1) ∧ ∀ (a : List Int × Int × List Bool × Option V × Option V × Option V), IF a [] → True ∧ ∃ (aL_2 : Addr), ∃ (aD_2 : Addr), ∃ (ls : List Int), ∃ (m : Int), ∃ (n : Int), [V.loc false (1 : Nat) aD, V.d (PyData.int (3 : Int))] = [V.loc false (1 : Nat) aD_2, V.d (PyData.int n)] ∧ dkE aL_2 aD_2 ls m (aL, AO.list (List.map PyData.int a.fst)) (aD, AO.dict [(Str.ofString "left", V.loc false (0 : Nat) aL), (Str.ofString "mixed", V.d (PyData.int a.snd.fst))]) ∧ (Dk ls m ∧ (0 : Int) < n ∧ n < (1000 : Int)) ∧ ∀ (r : Int) (ls' : List Int) (m' : Int), Dk ls' m' → (0 : Int) ≤ r → r < n → ((-1000 : Int) ≤ r ∧ r ≤ (1000 : Int)) ∧ ∃ (p : List Bool × Int × Int), ∃ (a_5 : List Int × Int), G.mk [] ((aL, AO.list (List.map PyData.int a_5.fst)) :: (aD, AO.dict [(Str.ofString "left", V.loc false (0 : Nat) aL), (Str.ofString "mixed", V.d (PyData.int a_5.snd))]) :: rest) = G.mk [] ((aL_2, AO.list (List.map PyData.int ls')) :: (aD_2, AO.dict [(Str.ofString "left", V.loc false (0 : Nat) aL_2), (Str.ofString "mixed", V.d (PyData.int m'))]) :: rest) ∧ IC ((181 : Nat) * (1000 : Nat) + (23 : Nat)) p a_5 [] (rangeL (0 : Int) (1 : Int) r.toNat) ∧ (∀ (a : List Int × Int) (acc : List PyData) (y : PyData) (rest_1 : List PyData), IC ((181 : Nat) * (1000 : Nat) + (23 : Nat)) p a acc (y :: rest_1) → True ∧ (0 : Nat) + (1 : Nat) + (1 : Nat) + (1 : Nat) + (1 : Nat) + (1 : Nat) ≤ (1000 : Nat) ∧ ∃ (aL_3 : Addr), ∃ (aD_3 : Addr), ∃ (ls : List Int), ∃ (m : Int), ∃ (n : Int), [V.loc false (1 : Nat) aD, V.d (PyData.int (5 : Int))] = [V.loc false (1 : Nat) aD_3, V.d (PyData.int n)] ∧ dkE aL_3 aD_3 ls m (aL, AO.list (List.map PyData.int a.fst)) (aD, AO.dict [(Str.ofString "left", V.loc false (0 : Nat) aL), (Str.ofString "mixed", V.d (PyData.int a.snd))]) ∧ (Dk ls m ∧ (0 : Int) < n ∧ n < (1000 : Int)) ∧ ∀ (r : Int) (ls' : List Int) (m' : Int), Dk ls' m' → (0 : Int) ≤ r → r < n → (-(2 : Int) ^ (62 : Nat) < r ∧ r < (2 : Int) ^ (62 : Nat)) ∧ oB (seqIndex? r ((0 : Nat) + (1 : Nat) + (1 : Nat) + (1 : Nat) + (1 : Nat) + (1 : Nat))) fun (j : Nat) => oB [PyData.int (0 : Int), PyData.int (2 : Int), PyData.int (3 : Int), PyData.int (4 : Int), PyData.int (6 : Int)][j]? fun (y : PyData) => vInt (V.d y) fun (k : Int) => (-(2 : Int) ^ (62 : Nat) < k ∧ k < (2 : Int) ^ (62 : Nat)) ∧ oB (seqIndex? k ((0 : Nat) + (1 : Nat) + (1 : Nat) + (1 : Nat) + (1 : Nat) + (1 : Nat) + (1 : Nat) + (1 : Nat) + (1 : Nat))) fun (j : Nat) => oB [pTup [], pTup [(97 : Int)], pTup [(97 : Int), (98 : Int)], pTup [(98 : Int), (97 : Int)], pTup [(97 : Int), (97 : Int)], pTup [(102 : Int)], pTup [(99 : Int), (97 : Int), (98 : Int)], pTup [(98 : Int)]][j]? fun (y : PyData) => ∃ (a : List Int × Int), G.mk [] ((aL, AO.list (List.map PyData.int a.fst)) :: (aD, AO.dict [(Str.ofString "left", V.loc false (0 : Nat) aL), (Str.ofString "mixed", V.d (PyData.int a.snd))]) :: rest) = G.mk [] ((aL_3, AO.list (List.map PyData.int ls')) :: (aD_3, AO.dict [(Str.ofString "left", V.loc false (0 : Nat) aL_3), (Str.ofString "mixed", V.d (PyData.int m'))]) :: rest) ∧ IC ((181 : Nat) * (1000 : Nat) + (23 : Nat)) p a (acc ++ [y]) rest_1) ∧ ∀ (a_6 : List Int × Int) (acc : List PyData), IC ((181 : Nat) * (1000 : Nat) + (23 : Nat)) p a_6 acc [] → True ∧ ∃ (t : List Bool), ∃ (ss : List (List Int)), ∃ (cs : List (List Int)), [V.d (PyData.tuple [PyData.list (List.map PyData.bool a.snd.snd.fst), pStrs []]), V.d (PyData.list acc)] = [V.d (PyData.tuple [PyData.list (List.map PyData.bool t), pStrs ss]), V.d (pStrs cs)] ∧ (t.length = (9 : Nat) ∧ Str5 ss ∧ (∀ (c : List Int), c ∈ cs → c ∈ lawStrings) ∧ cs.length ≤ (20 : Nat)) ∧ ∀ (ts : List (List Int)), Str5 ts → (∀ (x : List Int), x ∈ ts ↔ x ∈ ss ∨ x ∈ cs ∧ isOne x = false) → Q (V.d (PyData.tuple [PyData.list (List.map PyData.bool (putT t cs)), pStrs ts])) ((aL, AO.list (List.map PyData.int a_6.fst)) :: (aD, AO.dict [(Str.ofString "left", V.loc false (0 : Nat) aL), (Str.ofString "mixed", V.d (PyData.int a_6.snd))]) :: rest)) := by kernel_rfl
theorem e319 (t t' : List Bool) (ss ss' : List (List Int)) (w : Str) (IC : Nat → List PyData → List PyData → Prop) (out : Led) (Q : V → Led → Prop) : vXs (vc 20) ⟨fNames (stmtAt 25), [], spOn 288 S288 spNo, fun _ => ⟨Unit, fun _ => ⟨Unit, fun _ => ([], ⟨[], []⟩), fun _ _ => False⟩⟩, fun n => ⟨Unit, fun _ => ⟨Unit, fun _ => ⟨[], out⟩, fun _ => IC n⟩⟩, fun _ => ⟨Unit, fun _ => ([], ⟨[], []⟩), fun _ _ => False⟩, [], []⟩ (fBody (stmtAt 25)) (initM (List.zip ["v", "other", "way"] [vD t ss, vD t' ss', .d (.str w)]) (fNames (stmtAt 25))) ⟨[], out⟩ (exitQ Q) =
  (  br (sEq w (Str.ofString "union"))
   ((-(2 : Int) ^ (62 : Nat) < (0 : Int) ∧ (0 : Int) < (2 : Int) ^ (62 : Nat)) ∧
    (-(2 : Int) ^ (62 : Nat) < (0 : Int) ∧ (0 : Int) < (2 : Int) ^ (62 : Nat)) ∧
     ((List.map PyData.bool t).length ≤ (1000 : Nat) ∧ (List.map PyData.bool t').length ≤ (1000 : Nat)) ∧
      ∃ (p : Unit),
       ∃ (a : Unit),
        G.mk [] out = G.mk [] out ∧
         IC ((184 : Nat) * (1000 : Nat) + (25 : Nat)) [] (zipD (List.map PyData.bool t) (List.map PyData.bool t')) ∧
          (∀ (a : Unit) (acc : List PyData) (y : PyData) (rest : List PyData),
            IC ((184 : Nat) * (1000 : Nat) + (25 : Nat)) acc (y :: rest) →
             True ∧
              match y with
              | PyData.tuple ys =>
               match ys with
               | [u, v] =>
                vBool (V.d u) fun (b : Bool) =>
                 br b (∃ (a : Unit), G.mk [] out = G.mk [] out ∧ IC ((184 : Nat) * (1000 : Nat) + (25 : Nat)) (acc ++ [PyData.bool true]) rest)
                  (∃ (a : Unit), G.mk [] out = G.mk [] out ∧ IC ((184 : Nat) * (1000 : Nat) + (25 : Nat)) (acc ++ [v]) rest)
               | x => False
              | x => False) ∧
           ∀ (a : Unit) (acc : List PyData),
            IC ((184 : Nat) * (1000 : Nat) + (25 : Nat)) acc [] →
             True ∧
              (-(2 : Int) ^ (62 : Nat) < (1 : Int) ∧ (1 : Int) < (2 : Int) ^ (62 : Nat)) ∧
               (0 : Nat) + (1 : Nat) + (1 : Nat) ≤ (1000 : Nat) ∧
                (-(2 : Int) ^ (62 : Nat) < (1 : Int) ∧ (1 : Int) < (2 : Int) ^ (62 : Nat)) ∧
                 ∃ (t : List Bool),
                  ∃ (ss_1 : List (List Int)),
                   ∃ (cs : List (List Int)),
                    [V.d (PyData.tuple [PyData.list acc, pStrs ss]), V.d (pStrs ss')] =
                      [V.d (PyData.tuple [PyData.list (List.map PyData.bool t), pStrs ss_1]), V.d (pStrs cs)] ∧
                     (t.length = (9 : Nat) ∧ Str5 ss_1 ∧ (∀ (c : List Int), c ∈ cs → c ∈ lawStrings) ∧ cs.length ≤ (20 : Nat)) ∧
                      ∀ (ts : List (List Int)),
                       Str5 ts →
                        (∀ (x : List Int), x ∈ ts ↔ x ∈ ss_1 ∨ x ∈ cs ∧ isOne x = false) →
                         Q (V.d (PyData.tuple [PyData.list (List.map PyData.bool (putT t cs)), pStrs ts])) out)
   ((-(2 : Int) ^ (62 : Nat) < (0 : Int) ∧ (0 : Int) < (2 : Int) ^ (62 : Nat)) ∧
    (-(2 : Int) ^ (62 : Nat) < (0 : Int) ∧ (0 : Int) < (2 : Int) ^ (62 : Nat)) ∧
     ((List.map PyData.bool t).length ≤ (1000 : Nat) ∧ (List.map PyData.bool t').length ≤ (1000 : Nat)) ∧
      ∃ (p : Unit),
       ∃ (a : Unit),
        G.mk [] out = G.mk [] out ∧
         IC ((186 : Nat) * (1000 : Nat) + (13 : Nat)) [] (zipD (List.map PyData.bool t) (List.map PyData.bool t')) ∧
          (∀ (a : Unit) (acc : List PyData) (y : PyData) (rest : List PyData),
            IC ((186 : Nat) * (1000 : Nat) + (13 : Nat)) acc (y :: rest) →
             True ∧
              match y with
              | PyData.tuple ys =>
               match ys with
               | [u, v] =>
                vBool (V.d u) fun (b : Bool) =>
                 br b
                  (vEq (V.d v) (V.d (PyData.bool (sEq w (Str.ofString "both")))) (G.mk [] out) fun (c : Bool) =>
                   ∃ (a : Unit), G.mk [] out = G.mk [] out ∧ IC ((186 : Nat) * (1000 : Nat) + (13 : Nat)) (acc ++ [PyData.bool c]) rest)
                  (∃ (a : Unit), G.mk [] out = G.mk [] out ∧ IC ((186 : Nat) * (1000 : Nat) + (13 : Nat)) (acc ++ [PyData.bool false]) rest)
               | x => False
              | x => False) ∧
           ∀ (a : Unit) (acc : List PyData),
            IC ((186 : Nat) * (1000 : Nat) + (13 : Nat)) acc [] →
             True ∧
              (-(2 : Int) ^ (62 : Nat) < (1 : Int) ∧ (1 : Int) < (2 : Int) ^ (62 : Nat)) ∧
               (List.map pTup ss).length ≤ (1000 : Nat) ∧
                ∃ (p : Unit),
                 ∃ (a : Unit),
                  G.mk [] out = G.mk [] out ∧
                   IC ((187 : Nat) * (1000 : Nat) + (20 : Nat)) [] (List.map pTup ss) ∧
                    (∀ (a : Unit) (acc : List PyData) (y : PyData) (rest : List PyData),
                      IC ((187 : Nat) * (1000 : Nat) + (20 : Nat)) acc (y :: rest) →
                       List.map pTup ss = List.map pTup ss ∧
                        (-(2 : Int) ^ (62 : Nat) < (1 : Int) ∧ (1 : Int) < (2 : Int) ^ (62 : Nat)) ∧
                         (PyData.canLayAll0 (List.map pTup ss') = true ∧ y.canLay0 = true ∧ y.depth ≤ (8 : Nat)) ∧
                          br (((List.map pTup ss').any fun (y_1 : PyData) => y_1.eqv y) == sEq w (Str.ofString "both"))
                           (∃ (a : Unit), G.mk [] out = G.mk [] out ∧ IC ((187 : Nat) * (1000 : Nat) + (20 : Nat)) (acc ++ [y]) rest)
                           (∃ (a : Unit), G.mk [] out = G.mk [] out ∧ IC ((187 : Nat) * (1000 : Nat) + (20 : Nat)) acc rest)) ∧
                     ∀ (a : Unit) (acc_1 : List PyData),
                      IC ((187 : Nat) * (1000 : Nat) + (20 : Nat)) acc_1 [] →
                       List.map pTup ss = List.map pTup ss ∧
                        (0 : Nat) + (1 : Nat) + (1 : Nat) ≤ (1000 : Nat) ∧ Q (V.d (PyData.tuple [PyData.list acc, PyData.list acc_1])) out)) := by kernel_rfl
theorem e324 (b : List Int) (ss : List (List Int)) (t : List Bool) (ss' : List (List Int)) (IC : List PyData → List PyData → Prop) (out : Led) (Q : V → Led → Prop) : vXs (vc 20) ⟨fNames (stmtAt 26), [], spOn 91 S91 (spOn 295 S295 spNo), fun _ => ⟨Unit, fun _ => ⟨Unit, fun _ => ([], ⟨[], []⟩), fun _ _ => False⟩⟩, fun n => ⟨Unit, fun _ => ⟨Unit, fun _ => ⟨[], out⟩, fun _ => IC⟩⟩, fun _ => ⟨Unit, fun _ => ([], ⟨[], []⟩), fun _ _ => False⟩, [], []⟩ (fBody (stmtAt 26)) (initM (List.zip ["told", "v"] [.cstr b ss, vD t ss']) (fNames (stmtAt 26))) ⟨[], out⟩ (exitQ Q) =
  (∃ (b_1 : List Int), [V.cset b] = [V.cset b_1] ∧ Okb b_1 ∧ (pPairs (pairsOf b_1)).length ≤ (1000 : Nat) ∧ ∃ (p : Unit), ∃ (a : Unit), G.mk [] out = G.mk [] out ∧ IC [] (pPairs (pairsOf b_1)) ∧ (∀ (a : Unit) (acc : List PyData) (y : PyData) (rest : List PyData), IC acc (y :: rest) → pPairs (pairsOf b_1) = pPairs (pairsOf b_1) ∧ vSeq (G.mk [] out) (V.d y) fun (xs : List PyData) => xs.length ≤ (1000 : Nat) ∧ ∃ (a : Unit), G.mk [] out = G.mk [] out ∧ IC (acc ++ [PyData.tuple xs]) rest) ∧ ∀ (a : Unit) (acc : List PyData), IC acc [] → pPairs (pairsOf b_1) = pPairs (pairsOf b_1) ∧ (-(2 : Int) ^ (62 : Nat) < (0 : Int) ∧ (0 : Int) < (2 : Int) ^ (62 : Nat)) ∧ ∃ (t_1 : List Bool), [V.d (PyData.list (List.map PyData.bool t))] = [V.d (PyData.list (List.map PyData.bool t_1))] ∧ t_1.length = (9 : Nat) ∧ (SeqAt.shaped (PyData.list acc) = true ∧ SeqAt.shaped (PyData.list (pPairs (lawR t_1))) = true) ∧ br (PyData.eqvAll acc (pPairs (lawR t_1))) ((List.map pTup ss).length ≤ (1000 : Nat) ∧ (-(2 : Int) ^ (62 : Nat) < (1 : Int) ∧ (1 : Int) < (2 : Int) ^ (62 : Nat)) ∧ (SeqAt.shaped (PyData.list (List.map pTup ss)) = true ∧ SeqAt.shaped (PyData.list (List.map pTup ss')) = true) ∧ Q (V.d (PyData.bool (PyData.eqvAll (List.map pTup ss) (List.map pTup ss')))) out) (Q (V.d (PyData.bool false)) out)) := by kernel_rfl
theorem e331 (aL aD : Addr) (ls : List Int) (m : Int) (dx aR : Addr) (ps : List (Int × Int)) (b : List Int) (ss : List (List Int)) (k : Bool) (t : List Bool) (us : List (List Int)) (beh : Bool) (out : Led) (Q : V → Led → Prop) : vXs (vc 20) ⟨fNames (stmtAt 27), [], spOn 241 S241 (spOn 283 S283 (spOn 324 S324 (spOn 302 S302 (spOn 182 S182 (spOn 288 S288 (spOn 175 S175 spNo)))))), fun _ => ⟨Unit, fun _ => ⟨Unit, fun _ => ([], ⟨[], []⟩), fun _ _ => False⟩⟩, fun _ => ⟨Unit, fun _ => ⟨Unit, fun _ => ⟨[], []⟩, fun _ _ _ => False⟩⟩, fun _ => ⟨Unit, fun _ => ([], ⟨[], []⟩), fun _ _ => False⟩, [], []⟩ (fBody (stmtAt 27)) (initM (List.zip ["deck", "so_far", "v", "is_behind"] [.loc false 1 aD, .inst false 2 244 dx, vD t us, dB beh]) (fNames (stmtAt 27))) ⟨[], sofOut (aL, .list (ls.map .int)) (aD, .dict [("left", .loc false 0 aL), ("mixed", dI m)]) dx aR ps b ss k⟩ (exitQ Q) =
  (dx = dx ∧ ∃ (e0 : Addr × AO), ∃ (e1 : Addr × AO), ∃ (dx_1 : Addr), ∃ (aR_1 : Addr), ∃ (ps_1 : List (Int × Int)), ∃ (b_1 : List Int), ∃ (ss_1 : List (List Int)), ∃ (k_1 : Bool), [V.inst false (2 : Nat) (244 : Addr) dx] = [V.inst false (2 : Nat) (244 : Addr) dx_1] ∧ [(aL, AO.list (List.map PyData.int ls)), (aD, AO.dict [(Str.ofString "left", V.loc false (0 : Nat) aL), (Str.ofString "mixed", V.d (PyData.int m))]), (dx, AO.idict [(Str.ofString "ranges", V.loc false (3 : Nat) aR), (Str.ofString "whole", V.cstr b ss), (Str.ofString "is_behind_set", V.d (PyData.bool k))]), (aR, AO.list (pPairs ps))] = [e0, e1, (dx_1, AO.idict [(Str.ofString "ranges", V.loc false (3 : Nat) aR_1), (Str.ofString "whole", V.cstr b_1 ss_1), (Str.ofString "is_behind_set", V.d (PyData.bool k_1))]), (aR_1, AO.list (pPairs ps_1))] ∧ (ps_1.length ≤ (60 : Nat) ∧ Okb b_1) ∧ ∀ (B : List Int), Told B b_1 ps_1 → ∃ (aL_1 : Addr), ∃ (aD_1 : Addr), ∃ (ls_1 : List Int), ∃ (m_1 : Int), ∃ (n : Int), [V.loc false (1 : Nat) aD, V.d (PyData.int (8 : Int))] = [V.loc false (1 : Nat) aD_1, V.d (PyData.int n)] ∧ dkE aL_1 aD_1 ls_1 m_1 (aL, AO.list (List.map PyData.int ls)) (aD, AO.dict [(Str.ofString "left", V.loc false (0 : Nat) aL), (Str.ofString "mixed", V.d (PyData.int m))]) ∧ (Dk ls_1 m_1 ∧ (0 : Int) < n ∧ n < (1000 : Int)) ∧ ∀ (r : Int) (ls' : List Int) (m' : Int), Dk ls' m' → (0 : Int) ≤ r → r < n → (-(2 : Int) ^ (62 : Nat) < r ∧ r < (2 : Int) ^ (62 : Nat)) ∧ oB (seqIndex? r ((0 : Nat) + (1 : Nat) + (1 : Nat) + (1 : Nat) + (1 : Nat) + (1 : Nat) + (1 : Nat) + (1 : Nat) + (1 : Nat))) fun (j : Nat) => oB [pTup [], pTup [(97 : Int)], pTup [(97 : Int), (98 : Int)], pTup [(98 : Int), (97 : Int)], pTup [(97 : Int), (97 : Int)], pTup [(102 : Int)], pTup [(99 : Int), (97 : Int), (98 : Int)], pTup [(98 : Int)]][j]? fun (y : PyData) => ∃ (b_2 : List Int), ∃ (ss_2 : List (List Int)), ∃ (t_1 : List Bool), ∃ (ss' : List (List Int)), [V.cstr B ss_1, V.d (PyData.tuple [PyData.list (List.map PyData.bool t), pStrs us])] = [V.cstr b_2 ss_2, V.d (PyData.tuple [PyData.list (List.map PyData.bool t_1), pStrs ss'])] ∧ (Okb b_2 ∧ t_1.length = (9 : Nat) ∧ Oks ss_2 ss') ∧ br (!(decide (pairsOf b_2 = lawR t_1) && decide (ss_2 = ss'))) (Q (V.d (PyData.bool false)) [(aL_1, AO.list (List.map PyData.int ls')), (aD_1, AO.dict [(Str.ofString "left", V.loc false (0 : Nat) aL_1), (Str.ofString "mixed", V.d (PyData.int m'))]), (dx, AO.idict [(Str.ofString "ranges", V.loc false (3 : Nat) aR), (Str.ofString "whole", V.cstr b ss), (Str.ofString "is_behind_set", V.d (PyData.bool k))]), (aR, AO.list (pPairs ps))]) ((dx = dx ∧ (Nat.beq (150 : Addr) (244 : Addr) && false || (Nat.beq (185 : Addr) (244 : Addr) && false || (Nat.beq (185 : Addr) (244 : Addr) && false || (Nat.beq (244 : Addr) (244 : Addr) && false || (Nat.beq (244 : Addr) (244 : Addr) && false || (Nat.beq (244 : Addr) (244 : Addr) && true || false)))))) = true) ∧ br (!k == beh) (Q (V.d (PyData.bool false)) [(aL_1, AO.list (List.map PyData.int ls')), (aD_1, AO.dict [(Str.ofString "left", V.loc false (0 : Nat) aL_1), (Str.ofString "mixed", V.d (PyData.int m'))]), (dx, AO.idict [(Str.ofString "ranges", V.loc false (3 : Nat) aR), (Str.ofString "whole", V.cstr b ss), (Str.ofString "is_behind_set", V.d (PyData.bool k))]), (aR, AO.list (pPairs ps))]) (∃ (t_2 : List Bool), ∃ (ss_3 : List (List Int)), [V.d (PyData.tuple [PyData.list (List.map PyData.bool t), pStrs us])] = [V.d (PyData.tuple [PyData.list (List.map PyData.bool t_2), pStrs ss_3])] ∧ (t_2.length = (9 : Nat) ∧ ss_3.length ≤ (100 : Nat)) ∧ ∀ (B_1 : List Int), Bnd B_1 (lawR t_2) → ∃ (b_3 : List Int), ∃ (ss_4 : List (List Int)), ∃ (b' : List Int), ∃ (ss' : List (List Int)), [V.cstr B ss_1, V.cstr B_1 ss_3] = [V.cstr b_3 ss_4, V.cstr b' ss'] ∧ (b_3.length ≤ (1000 : Nat) ∧ b'.length ≤ (1000 : Nat) ∧ Oks ss_4 ss') ∧ br (!(decide (b_3 = b') && decide (ss_4 = ss'))) (Q (V.d (PyData.bool false)) [(aL_1, AO.list (List.map PyData.int ls')), (aD_1, AO.dict [(Str.ofString "left", V.loc false (0 : Nat) aL_1), (Str.ofString "mixed", V.d (PyData.int m'))]), (dx, AO.idict [(Str.ofString "ranges", V.loc false (3 : Nat) aR), (Str.ofString "whole", V.cstr b ss), (Str.ofString "is_behind_set", V.d (PyData.bool k))]), (aR, AO.list (pPairs ps))]) ((0 : Nat) + (1 : Nat) ≤ (1000 : Nat) ∧ ∃ (t_3 : List Bool), ∃ (ss_5 : List (List Int)), ∃ (cs : List (List Int)), [V.d (PyData.tuple [PyData.list (List.map PyData.bool t), pStrs us]), V.d (PyData.list [y])] = [V.d (PyData.tuple [PyData.list (List.map PyData.bool t_3), pStrs ss_5]), V.d (pStrs cs)] ∧ (t_3.length = (9 : Nat) ∧ Str5 ss_5 ∧ (∀ (c : List Int), c ∈ cs → c ∈ lawStrings) ∧ cs.length ≤ (20 : Nat)) ∧ ∀ (ts : List (List Int)), Str5 ts → (∀ (x : List Int), x ∈ ts ↔ x ∈ ss_5 ∨ x ∈ cs ∧ isOne x = false) → (-(2 : Int) ^ (62 : Nat) < (0 : Int) ∧ (0 : Int) < (2 : Int) ^ (62 : Nat)) ∧ (List.map PyData.bool t).length ≤ (1000 : Nat) ∧ (-(2 : Int) ^ (62 : Nat) < (1 : Int) ∧ (1 : Int) < (2 : Int) ^ (62 : Nat)) ∧ (List.map pTup us).length ≤ (1000 : Nat) ∧ (0 : Nat) + (1 : Nat) + (1 : Nat) ≤ (1000 : Nat) ∧ (SeqAt.shaped (PyData.tuple [PyData.list (List.map PyData.bool (putT t_3 cs)), pStrs ts]) = true ∧ SeqAt.shaped (PyData.tuple [PyData.list (List.map PyData.bool t), PyData.list (List.map pTup us)]) = true) ∧ vSeq (G.mk [] [(aL_1, AO.list (List.map PyData.int ls')), (aD_1, AO.dict [(Str.ofString "left", V.loc false (0 : Nat) aL_1), (Str.ofString "mixed", V.d (PyData.int m'))]), (dx, AO.idict [(Str.ofString "ranges", V.loc false (3 : Nat) aR), (Str.ofString "whole", V.cstr b ss), (Str.ofString "is_behind_set", V.d (PyData.bool k))]), (aR, AO.list (pPairs ps))]) (V.d y) fun (xs : List PyData) => xs.length ≤ (1000 : Nat) ∧ ∃ (b_4 : List Int), ∃ (ss_6 : List (List Int)), ∃ (l : List Int), [V.cstr B ss_1, V.d (PyData.list xs)] = [V.cstr b_4 ss_6, V.d (pInts l)] ∧ (Okb b_4 ∧ ss_6.length ≤ (100 : Nat) ∧ l.length ≤ (100 : Nat)) ∧ br ((match l with | [x] => inB b_4 x | x => ss_6.contains l) == PyData.eqvAll [PyData.list (List.map PyData.bool (putT t_3 cs)), pStrs ts] [PyData.list (List.map PyData.bool t), PyData.list (List.map pTup us)]) (∃ (t_4 : List Bool), ∃ (ss_7 : List (List Int)), [V.d (PyData.tuple [PyData.list (List.map PyData.bool (putT t_3 cs)), pStrs ts])] = [V.d (PyData.tuple [PyData.list (List.map PyData.bool t_4), pStrs ss_7])] ∧ (t_4.length = (9 : Nat) ∧ ss_7.length ≤ (100 : Nat)) ∧ ∀ (B_2 : List Int), Bnd B_2 (lawR t_4) → ∃ (b_5 : List Int), ∃ (ss_8 : List (List Int)), ∃ (b' : List Int), ∃ (ss' : List (List Int)), [V.cstr B ss_1, V.cstr B_2 ss_7] = [V.cstr b_5 ss_8, V.cstr b' ss'] ∧ (b_5.length ≤ (1000 : Nat) ∧ b'.length ≤ (1000 : Nat) ∧ Oks ss_8 ss') ∧ Q (V.d (PyData.bool ((decide (b_5 = b') && decide (ss_8 = ss')) == PyData.eqvAll [PyData.list (List.map PyData.bool (putT t_3 cs)), pStrs ts] [PyData.list (List.map PyData.bool t), PyData.list (List.map pTup us)]))) [(aL_1, AO.list (List.map PyData.int ls')), (aD_1, AO.dict [(Str.ofString "left", V.loc false (0 : Nat) aL_1), (Str.ofString "mixed", V.d (PyData.int m'))]), (dx, AO.idict [(Str.ofString "ranges", V.loc false (3 : Nat) aR), (Str.ofString "whole", V.cstr b ss), (Str.ofString "is_behind_set", V.d (PyData.bool k))]), (aR, AO.list (pPairs ps))]) (Q (V.d (PyData.bool false)) [(aL_1, AO.list (List.map PyData.int ls')), (aD_1, AO.dict [(Str.ofString "left", V.loc false (0 : Nat) aL_1), (Str.ofString "mixed", V.d (PyData.int m'))]), (dx, AO.idict [(Str.ofString "ranges", V.loc false (3 : Nat) aR), (Str.ofString "whole", V.cstr b ss), (Str.ofString "is_behind_set", V.d (PyData.bool k))]), (aR, AO.list (pPairs ps))]))))) := by kernel_rfl
theorem e336 (l : List Int) (IC : LS → List PyData → List PyData → Prop) (IF : LS → List PyData → Prop) (out : Led) (Q : V → Led → Prop) : vXs (vc 20) ⟨fNames (stmtAt 28), [], spOn 276 S276 (spOn 244 S244 (spOn 283 S283 (spOn 309 S309 (spOn 220 S220 (spOn 255 S255 (spOn 262 S262 (spOn 227 S227 (spOn 288 S288 (spOn 314 S314 (spOn 302 S302 (spOn 234 S234 (spOn 319 S319 (spOn 331 S331 (spOn 324 S324 (spOn 199 S199 spNo))))))))))))))), fun _ => ⟨Unit, fun _ => ⟨LS, fun x => ([("script", false, some (.d (pInts l))), ("deck", false, some (.loc false 1 x.aD)), ("so_far", false, some (.inst false 2 244 x.dx)), ("v", true, some (vD x.t x.us)), ("turn", false, x.turn), ("way", false, x.way), ("low", true, x.low), ("high", true, x.high), ("codes", false, x.codes), ("other", false, x.other), ("word", false, x.word), ("one", false, none), ("near", false, none), ("far", false, none)], ⟨[], sofOut (x.aL, .list (x.ls.map .int)) (x.aD, .dict [("left", .loc false 0 x.aL), ("mixed", dI x.m)]) x.dx x.aR x.ps x.b x.ss x.k⟩), IF⟩⟩, fun _ => ⟨LS, fun x => ⟨Unit, fun _ => ⟨[], sofOut (x.aL, .list (x.ls.map .int)) (x.aD, .dict [("left", .loc false 0 x.aL), ("mixed", dI x.m)]) x.dx x.aR x.ps x.b x.ss x.k⟩, fun _ => IC x⟩⟩, fun _ => ⟨Unit, fun _ => ([], ⟨[], []⟩), fun _ _ => False⟩, [], []⟩ (fBody (stmtAt 28)) (initM (List.zip ["script"] [.d (pInts l)]) (fNames (stmtAt 28))) ⟨[], []⟩ (exitQ Q) =
  (∃ (l_1 : List Int), [V.d (pInts l)] = [V.d (pInts l_1)] ∧ l_1.length ≤ (63 : Nat) ∧ ∀ (aL aD : Addr) (ls : List Int) (m : Int), Dk ls m → ∀ (dx aR : Addr), ((0 : Int) ≤ (9 : Int) ∧ (9 : Int) ≤ (100 : Int) ∧ (0 : Nat) + (1 : Nat) ≤ (100 : Nat) ∧ [PyData.bool false] ≠ []) ∧ (0 : Nat) ≤ (1000 : Nat) ∧ (0 : Nat) + (1 : Nat) + (1 : Nat) ≤ (1000 : Nat) ∧ ∃ (aL_1 : Addr), ∃ (aD_1 : Addr), ∃ (ls_1 : List Int), ∃ (m_1 : Int), ∃ (n : Int), [V.loc false (1 : Nat) aD, V.d (PyData.int (8 : Int))] = [V.loc false (1 : Nat) aD_1, V.d (PyData.int n)] ∧ dkE aL_1 aD_1 ls_1 m_1 (aL, AO.list (List.map PyData.int ls)) (aD, AO.dict [(Str.ofString "left", V.loc false (0 : Nat) aL), (Str.ofString "mixed", V.d (PyData.int m))]) ∧ (Dk ls_1 m_1 ∧ (0 : Int) < n ∧ n < (1000 : Int)) ∧ ∀ (r : Int) (ls' : List Int) (m' : Int), Dk ls' m' → (0 : Int) ≤ r → r < n → ((-1000 : Int) ≤ (1 : Int) + r ∧ (1 : Int) + r ≤ (1000 : Int)) ∧ ∃ (q : Unit), ∃ (a : LS), ([(Str.ofString "script", false, some (V.d (pInts l))), (Str.ofString "deck", false, some (V.loc false (1 : Nat) a.aD)), (Str.ofString "so_far", false, some (V.inst false (2 : Nat) (244 : Addr) a.dx)), (Str.ofString "v", true, some (V.d (PyData.tuple [PyData.list (List.map PyData.bool a.t), pStrs a.us]))), (Str.ofString "turn", false, a.turn), (Str.ofString "way", false, a.way), (Str.ofString "low", true, a.low), (Str.ofString "high", true, a.high), (Str.ofString "codes", false, a.codes), (Str.ofString "other", false, a.other), (Str.ofString "word", false, a.word), (Str.ofString "one", false, none), (Str.ofString "near", false, none), (Str.ofString "far", false, none)], G.mk [] [(a.aL, AO.list (List.map PyData.int a.ls)), (a.aD, AO.dict [(Str.ofString "left", V.loc false (0 : Nat) a.aL), (Str.ofString "mixed", V.d (PyData.int a.m))]), (a.dx, AO.idict [(Str.ofString "ranges", V.loc false (3 : Nat) a.aR), (Str.ofString "whole", V.cstr a.b a.ss), (Str.ofString "is_behind_set", V.d (PyData.bool a.k))]), (a.aR, AO.list (pPairs a.ps))]) = ([(Str.ofString "script", false, some (V.d (pInts l))), (Str.ofString "deck", false, some (V.loc false (1 : Nat) aD)), (Str.ofString "so_far", false, some (V.inst false (2 : Nat) (244 : Addr) dx)), (Str.ofString "v", true, some (V.d (PyData.tuple [PyData.list (List.replicate (Int.toNat (9 : Int)) [PyData.bool false]).flatten, PyData.list []]))), (Str.ofString "turn", false, none), (Str.ofString "way", false, none), (Str.ofString "low", true, none), (Str.ofString "high", true, none), (Str.ofString "codes", false, none), (Str.ofString "other", false, none), (Str.ofString "word", false, none), (Str.ofString "one", false, none), (Str.ofString "near", false, none), (Str.ofString "far", false, none)], G.mk [] [(aL_1, AO.list (List.map PyData.int ls')), (aD_1, AO.dict [(Str.ofString "left", V.loc false (0 : Nat) aL_1), (Str.ofString "mixed", V.d (PyData.int m'))]), (dx, AO.idict [(Str.ofString "ranges", V.loc false (3 : Nat) aR), (Str.ofString "whole", V.cstr [] []), (Str.ofString "is_behind_set", V.d (PyData.bool false))]), (aR, AO.list (pPairs []))]) ∧ IF a (rangeL (0 : Int) (1 : Int) ((1 : Int) + r).toNat) ∧ (∀ (a : LS) (y : PyData) (rest : List PyData), IF a (y :: rest) → True ∧ ∃ (aL : Addr), ∃ (aD : Addr), ∃ (ls : List Int), ∃ (m : Int), ∃ (n : Int), [V.loc false (1 : Nat) a.aD, V.d (PyData.int (6 : Int))] = [V.loc false (1 : Nat) aD, V.d (PyData.int n)] ∧ dkE aL aD ls m (a.aL, AO.list (List.map PyData.int a.ls)) (a.aD, AO.dict [(Str.ofString "left", V.loc false (0 : Nat) a.aL), (Str.ofString "mixed", V.d (PyData.int a.m))]) ∧ (Dk ls m ∧ (0 : Int) < n ∧ n < (1000 : Int)) ∧ ∀ (r : Int) (ls' : List Int) (m' : Int), Dk ls' m' → (0 : Int) ≤ r → r < n → br (decide (r < (2 : Int))) (∃ (aL_2 : Addr), ∃ (aD_2 : Addr), ∃ (ls : List Int), ∃ (m : Int), [V.loc false (1 : Nat) a.aD] = [V.loc false (1 : Nat) aD_2] ∧ dkE aL_2 aD_2 ls m (aL, AO.list (List.map PyData.int ls')) (aD, AO.dict [(Str.ofString "left", V.loc false (0 : Nat) aL), (Str.ofString "mixed", V.d (PyData.int m'))]) ∧ Dk ls m ∧ ∀ (ls' : List Int) (m' lo hi : Int), Dk ls' m' → (0 : Int) ≤ lo → lo ≤ hi → hi < (9 : Int) → a.dx = a.dx ∧ (-(2 : Int) ^ (62 : Nat) < lo ∧ lo < (2 : Int) ^ (62 : Nat)) ∧ oB (seqIndex? lo ((0 : Nat) + (1 : Nat) + (1 : Nat) + (1 : Nat) + (1 : Nat) + (1 : Nat) + (1 : Nat) + (1 : Nat) + (1 : Nat) + (1 : Nat))) fun (j : Nat) => oB [PyData.int (0 : Int), PyData.int (1 : Int), PyData.int (97 : Int), PyData.int (98 : Int), PyData.int (99 : Int), PyData.int (100 : Int), PyData.int (102 : Int), PyData.int (103 : Int), PyData.int (1114111 : Int)][j]? fun (y_1 : PyData) => (-(2 : Int) ^ (62 : Nat) < hi ∧ hi < (2 : Int) ^ (62 : Nat)) ∧ oB (seqIndex? hi ((0 : Nat) + (1 : Nat) + (1 : Nat) + (1 : Nat) + (1 : Nat) + (1 : Nat) + (1 : Nat) + (1 : Nat) + (1 : Nat) + (1 : Nat))) fun (j : Nat) => oB [PyData.int (0 : Int), PyData.int (96 : Int), PyData.int (97 : Int), PyData.int (98 : Int), PyData.int (99 : Int), PyData.int (101 : Int), PyData.int (102 : Int), PyData.int (1114110 : Int), PyData.int (1114111 : Int)][j]? fun (y_2 : PyData) => ∃ (e0 : Addr × AO), ∃ (e1 : Addr × AO), ∃ (dx : Addr), ∃ (aR : Addr), ∃ (ps : List (Int × Int)), ∃ (b : List Int), ∃ (ss : List (List Int)), ∃ (k : Bool), ∃ (f : Int), ∃ (l_2 : Int), [V.inst false (2 : Nat) (244 : Addr) a.dx, V.d y_1, V.d y_2] = [V.inst false (2 : Nat) (244 : Addr) dx, V.d (PyData.int f), V.d (PyData.int l_2)] ∧ [(aL_2, AO.list (List.map PyData.int ls')), (aD_2, AO.dict [(Str.ofString "left", V.loc false (0 : Nat) aL_2), (Str.ofString "mixed", V.d (PyData.int m'))]), (a.dx, AO.idict [(Str.ofString "ranges", V.loc false (3 : Nat) a.aR), (Str.ofString "whole", V.cstr a.b a.ss), (Str.ofString "is_behind_set", V.d (PyData.bool a.k))]), (a.aR, AO.list (pPairs a.ps))] = [e0, e1, (dx, AO.idict [(Str.ofString "ranges", V.loc false (3 : Nat) aR), (Str.ofString "whole", V.cstr b ss), (Str.ofString "is_behind_set", V.d (PyData.bool k))]), (aR, AO.list (pPairs ps))] ∧ ps.length ≤ (60 : Nat) ∧ ((-1000 : Int) ≤ (9 : Int) ∧ (9 : Int) ≤ (1000 : Int)) ∧ ∃ (p : LS), ∃ (a_9 : Unit), G.mk [] [(p.aL, AO.list (List.map PyData.int p.ls)), (p.aD, AO.dict [(Str.ofString "left", V.loc false (0 : Nat) p.aL), (Str.ofString "mixed", V.d (PyData.int p.m))]), (p.dx, AO.idict [(Str.ofString "ranges", V.loc false (3 : Nat) p.aR), (Str.ofString "whole", V.cstr p.b p.ss), (Str.ofString "is_behind_set", V.d (PyData.bool p.k))]), (p.aR, AO.list (pPairs p.ps))] = G.mk [] [e0, e1, (dx, AO.idict [(Str.ofString "ranges", V.loc false (3 : Nat) aR), (Str.ofString "whole", V.cstr b ss), (Str.ofString "is_behind_set", V.d (PyData.bool false))]), (aR, AO.list (pPairs (ps ++ [(f, l_2)])))] ∧ IC p [] (rangeL (0 : Int) (1 : Int) (Int.toNat (9 : Int))) ∧ (∀ (a_10 : Unit) (acc : List PyData) (y : PyData) (rest : List PyData), IC p acc (y :: rest) → True ∧ (-(2 : Int) ^ (62 : Nat) < (0 : Int) ∧ (0 : Int) < (2 : Int) ^ (62 : Nat)) ∧ vInt (V.d y) fun (k : Int) => (-(2 : Int) ^ (62 : Nat) < k ∧ k < (2 : Int) ^ (62 : Nat)) ∧ oB (seqIndex? k (List.map PyData.bool a.t).length) fun (j : Nat) => oB (List.map PyData.bool a.t)[j]? fun (y_3 : PyData) => vBool (V.d y_3) fun (b : Bool) => br b (∃ (a : Unit), G.mk [] [(p.aL, AO.list (List.map PyData.int p.ls)), (p.aD, AO.dict [(Str.ofString "left", V.loc false (0 : Nat) p.aL), (Str.ofString "mixed", V.d (PyData.int p.m))]), (p.dx, AO.idict [(Str.ofString "ranges", V.loc false (3 : Nat) p.aR), (Str.ofString "whole", V.cstr p.b p.ss), (Str.ofString "is_behind_set", V.d (PyData.bool p.k))]), (p.aR, AO.list (pPairs p.ps))] = G.mk [] [(p.aL, AO.list (List.map PyData.int p.ls)), (p.aD, AO.dict [(Str.ofString "left", V.loc false (0 : Nat) p.aL), (Str.ofString "mixed", V.d (PyData.int p.m))]), (p.dx, AO.idict [(Str.ofString "ranges", V.loc false (3 : Nat) p.aR), (Str.ofString "whole", V.cstr p.b p.ss), (Str.ofString "is_behind_set", V.d (PyData.bool p.k))]), (p.aR, AO.list (pPairs p.ps))] ∧ IC p (acc ++ [PyData.bool true]) rest) (vInt (V.d y) fun (y_4 : Int) => br (decide (lo ≤ y_4)) (vInt (V.d y) fun (x : Int) => ∃ (a : Unit), G.mk [] [(p.aL, AO.list (List.map PyData.int p.ls)), (p.aD, AO.dict [(Str.ofString "left", V.loc false (0 : Nat) p.aL), (Str.ofString "mixed", V.d (PyData.int p.m))]), (p.dx, AO.idict [(Str.ofString "ranges", V.loc false (3 : Nat) p.aR), (Str.ofString "whole", V.cstr p.b p.ss), (Str.ofString "is_behind_set", V.d (PyData.bool p.k))]), (p.aR, AO.list (pPairs p.ps))] = G.mk [] [(p.aL, AO.list (List.map PyData.int p.ls)), (p.aD, AO.dict [(Str.ofString "left", V.loc false (0 : Nat) p.aL), (Str.ofString "mixed", V.d (PyData.int p.m))]), (p.dx, AO.idict [(Str.ofString "ranges", V.loc false (3 : Nat) p.aR), (Str.ofString "whole", V.cstr p.b p.ss), (Str.ofString "is_behind_set", V.d (PyData.bool p.k))]), (p.aR, AO.list (pPairs p.ps))] ∧ IC p (acc ++ [PyData.bool (decide (x ≤ hi))]) rest) (∃ (a : Unit), G.mk [] [(p.aL, AO.list (List.map PyData.int p.ls)), (p.aD, AO.dict [(Str.ofString "left", V.loc false (0 : Nat) p.aL), (Str.ofString "mixed", V.d (PyData.int p.m))]), (p.dx, AO.idict [(Str.ofString "ranges", V.loc false (3 : Nat) p.aR), (Str.ofString "whole", V.cstr p.b p.ss), (Str.ofString "is_behind_set", V.d (PyData.bool p.k))]), (p.aR, AO.list (pPairs p.ps))] = G.mk [] [(p.aL, AO.list (List.map PyData.int p.ls)), (p.aD, AO.dict [(Str.ofString "left", V.loc false (0 : Nat) p.aL), (Str.ofString "mixed", V.d (PyData.int p.m))]), (p.dx, AO.idict [(Str.ofString "ranges", V.loc false (3 : Nat) p.aR), (Str.ofString "whole", V.cstr p.b p.ss), (Str.ofString "is_behind_set", V.d (PyData.bool p.k))]), (p.aR, AO.list (pPairs p.ps))] ∧ IC p (acc ++ [PyData.bool false]) rest))) ∧ ∀ (a_10 : Unit) (acc : List PyData), IC p acc [] → True ∧ (-(2 : Int) ^ (62 : Nat) < (1 : Int) ∧ (1 : Int) < (2 : Int) ^ (62 : Nat)) ∧ (0 : Nat) + (1 : Nat) + (1 : Nat) ≤ (1000 : Nat) ∧ ∃ (aL : Addr), ∃ (aD : Addr), ∃ (ls : List Int), ∃ (m : Int), ∃ (dx : Addr), ∃ (aR : Addr), ∃ (ps : List (Int × Int)), ∃ (b : List Int), ∃ (ss : List (List Int)), ∃ (k : Bool), ∃ (t : List Bool), ∃ (us : List (List Int)), [V.loc false (1 : Nat) a.aD, V.inst false (2 : Nat) (244 : Addr) a.dx, V.d (PyData.tuple [PyData.list acc, pStrs a.us]), V.d (PyData.bool (decide ((2 : Int) < r)))] = [V.loc false (1 : Nat) aD, V.inst false (2 : Nat) (244 : Addr) dx, V.d (PyData.tuple [PyData.list (List.map PyData.bool t), pStrs us]), V.d (PyData.bool k)] ∧ [(p.aL, AO.list (List.map PyData.int p.ls)), (p.aD, AO.dict [(Str.ofString "left", V.loc false (0 : Nat) p.aL), (Str.ofString "mixed", V.d (PyData.int p.m))]), (p.dx, AO.idict [(Str.ofString "ranges", V.loc false (3 : Nat) p.aR), (Str.ofString "whole", V.cstr p.b p.ss), (Str.ofString "is_behind_set", V.d (PyData.bool p.k))]), (p.aR, AO.list (pPairs p.ps))] = [(aL, AO.list (List.map PyData.int ls)), (aD, AO.dict [(Str.ofString "left", V.loc false (0 : Nat) aL), (Str.ofString "mixed", V.d (PyData.int m))]), (dx, AO.idict [(Str.ofString "ranges", V.loc false (3 : Nat) aR), (Str.ofString "whole", V.cstr b ss), (Str.ofString "is_behind_set", V.d (PyData.bool k))]), (aR, AO.list (pPairs ps))] ∧ (Dk ls m ∧ Agree ps b ss t us) ∧ ∀ (ls' : List Int) (m' : Int), Dk ls' m' → ∃ (a_13 : LS), ([(Str.ofString "script", false, some (V.d (pInts l))), (Str.ofString "deck", false, some (V.loc false (1 : Nat) a_13.aD)), (Str.ofString "so_far", false, some (V.inst false (2 : Nat) (244 : Addr) a_13.dx)), (Str.ofString "v", true, some (V.d (PyData.tuple [PyData.list (List.map PyData.bool a_13.t), pStrs a_13.us]))), (Str.ofString "turn", false, a_13.turn), (Str.ofString "way", false, a_13.way), (Str.ofString "low", true, a_13.low), (Str.ofString "high", true, a_13.high), (Str.ofString "codes", false, a_13.codes), (Str.ofString "other", false, a_13.other), (Str.ofString "word", false, a_13.word), (Str.ofString "one", false, none), (Str.ofString "near", false, none), (Str.ofString "far", false, none)], G.mk [] [(a_13.aL, AO.list (List.map PyData.int a_13.ls)), (a_13.aD, AO.dict [(Str.ofString "left", V.loc false (0 : Nat) a_13.aL), (Str.ofString "mixed", V.d (PyData.int a_13.m))]), (a_13.dx, AO.idict [(Str.ofString "ranges", V.loc false (3 : Nat) a_13.aR), (Str.ofString "whole", V.cstr a_13.b a_13.ss), (Str.ofString "is_behind_set", V.d (PyData.bool a_13.k))]), (a_13.aR, AO.list (pPairs a_13.ps))]) = ([(Str.ofString "script", false, some (V.d (pInts l))), (Str.ofString "deck", false, some (V.loc false (1 : Nat) a.aD)), (Str.ofString "so_far", false, some (V.inst false (2 : Nat) (244 : Addr) a.dx)), (Str.ofString "v", true, some (V.d (PyData.tuple [PyData.list acc, pStrs a.us]))), (Str.ofString "turn", false, some (V.d y)), (Str.ofString "way", false, some (V.d (PyData.int r))), (Str.ofString "low", true, some (V.d (PyData.int lo))), (Str.ofString "high", true, some (V.d (PyData.int hi))), (Str.ofString "codes", false, a.codes), (Str.ofString "other", false, a.other), (Str.ofString "word", false, a.word), (Str.ofString "one", false, none), (Str.ofString "near", false, none), (Str.ofString "far", false, none)], G.mk [] [(aL, AO.list (List.map PyData.int ls')), (aD, AO.dict [(Str.ofString "left", V.loc false (0 : Nat) aL), (Str.ofString "mixed", V.d (PyData.int m'))]), (dx, AO.idict [(Str.ofString "ranges", V.loc false (3 : Nat) aR), (Str.ofString "whole", V.cstr b ss), (Str.ofString "is_behind_set", V.d (PyData.bool k))]), (aR, AO.list (pPairs ps))]) ∧ IF a_13 rest) (br (r == (2 : Int)) (∃ (aL_2 : Addr), ∃ (aD_2 : Addr), ∃ (ls : List Int), ∃ (m : Int), ∃ (n : Int), [V.loc false (1 : Nat) a.aD, V.d (PyData.int (8 : Int))] = [V.loc false (1 : Nat) aD_2, V.d (PyData.int n)] ∧ dkE aL_2 aD_2 ls m (aL, AO.list (List.map PyData.int ls')) (aD, AO.dict [(Str.ofString "left", V.loc false (0 : Nat) aL), (Str.ofString "mixed", V.d (PyData.int m'))]) ∧ (Dk ls m ∧ (0 : Int) < n ∧ n < (1000 : Int)) ∧ ∀ (r_1 : Int) (ls' : List Int) (m' : Int), Dk ls' m' → (0 : Int) ≤ r_1 → r_1 < n → (-(2 : Int) ^ (62 : Nat) < r_1 ∧ r_1 < (2 : Int) ^ (62 : Nat)) ∧ oB (seqIndex? r_1 ((0 : Nat) + (1 : Nat) + (1 : Nat) + (1 : Nat) + (1 : Nat) + (1 : Nat) + (1 : Nat) + (1 : Nat) + (1 : Nat))) fun (j : Nat) => oB [pTup [], pTup [(97 : Int)], pTup [(97 : Int), (98 : Int)], pTup [(98 : Int), (97 : Int)], pTup [(97 : Int), (97 : Int)], pTup [(102 : Int)], pTup [(99 : Int), (97 : Int), (98 : Int)], pTup [(98 : Int)]][j]? fun (y_1 : PyData) => a.dx = a.dx ∧ vSeq (G.mk [] [(aL_2, AO.list (List.map PyData.int ls')), (aD_2, AO.dict [(Str.ofString "left", V.loc false (0 : Nat) aL_2), (Str.ofString "mixed", V.d (PyData.int m'))]), (a.dx, AO.idict [(Str.ofString "ranges", V.loc false (3 : Nat) a.aR), (Str.ofString "whole", V.cstr a.b a.ss), (Str.ofString "is_behind_set", V.d (PyData.bool a.k))]), (a.aR, AO.list (pPairs a.ps))]) (V.d y_1) fun (xs : List PyData) => xs.length ≤ (1000 : Nat) ∧ ∃ (e0 : Addr × AO), ∃ (e1 : Addr × AO), ∃ (dx : Addr), ∃ (aR : Addr), ∃ (ps : List (Int × Int)), ∃ (b : List Int), ∃ (ss : List (List Int)), ∃ (k : Bool), ∃ (l_2 : List Int), [V.inst false (2 : Nat) (244 : Addr) a.dx, V.d (PyData.list xs)] = [V.inst false (2 : Nat) (244 : Addr) dx, V.d (pInts l_2)] ∧ [(aL_2, AO.list (List.map PyData.int ls')), (aD_2, AO.dict [(Str.ofString "left", V.loc false (0 : Nat) aL_2), (Str.ofString "mixed", V.d (PyData.int m'))]), (a.dx, AO.idict [(Str.ofString "ranges", V.loc false (3 : Nat) a.aR), (Str.ofString "whole", V.cstr a.b a.ss), (Str.ofString "is_behind_set", V.d (PyData.bool a.k))]), (a.aR, AO.list (pPairs a.ps))] = [e0, e1, (dx, AO.idict [(Str.ofString "ranges", V.loc false (3 : Nat) aR), (Str.ofString "whole", V.cstr b ss), (Str.ofString "is_behind_set", V.d (PyData.bool k))]), (aR, AO.list (pPairs ps))] ∧ (ps.length ≤ (60 : Nat) ∧ Okb b ∧ (l_2.length ≠ (1 : Nat) → Oks ss [l_2]) ∧ l_2.length ≤ (5 : Nat)) ∧ (∀ (x : Int), l_2 = [x] → (0 : Nat) + (1 : Nat) ≤ (1000 : Nat) ∧ ∃ (t : List Bool), ∃ (ss_1 : List (List Int)), ∃ (cs : List (List Int)), [V.d (PyData.tuple [PyData.list (List.map PyData.bool a.t), pStrs a.us]), V.d (PyData.list [y_1])] = [V.d (PyData.tuple [PyData.list (List.map PyData.bool t), pStrs ss_1]), V.d (pStrs cs)] ∧ (t.length = (9 : Nat) ∧ Str5 ss_1 ∧ (∀ (c : List Int), c ∈ cs → c ∈ lawStrings) ∧ cs.length ≤ (20 : Nat)) ∧ ∀ (ts : List (List Int)), Str5 ts → (∀ (x : List Int), x ∈ ts ↔ x ∈ ss_1 ∨ x ∈ cs ∧ isOne x = false) → ∃ (aL : Addr), ∃ (aD : Addr), ∃ (ls : List Int), ∃ (m : Int), ∃ (dx_1 : Addr), ∃ (aR_1 : Addr), ∃ (ps_1 : List (Int × Int)), ∃ (b_1 : List Int), ∃ (ss_2 : List (List Int)), ∃ (k : Bool), ∃ (t_1 : List Bool), ∃ (us : List (List Int)), [V.loc false (1 : Nat) a.aD, V.inst false (2 : Nat) (244 : Addr) a.dx, V.d (PyData.tuple [PyData.list (List.map PyData.bool (putT t cs)), pStrs ts]), V.d (PyData.bool (decide ((2 : Int) < r)))] = [V.loc false (1 : Nat) aD, V.inst false (2 : Nat) (244 : Addr) dx_1, V.d (PyData.tuple [PyData.list (List.map PyData.bool t_1), pStrs us]), V.d (PyData.bool k)] ∧ [e0, e1, (dx, AO.idict [(Str.ofString "ranges", V.loc false (3 : Nat) aR), (Str.ofString "whole", V.cstr b ss), (Str.ofString "is_behind_set", V.d (PyData.bool false))]), (aR, AO.list (pPairs (ps ++ [(x, x)])))] = [(aL, AO.list (List.map PyData.int ls)), (aD, AO.dict [(Str.ofString "left", V.loc false (0 : Nat) aL), (Str.ofString "mixed", V.d (PyData.int m))]), (dx_1, AO.idict [(Str.ofString "ranges", V.loc false (3 : Nat) aR_1), (Str.ofString "whole", V.cstr b_1 ss_2), (Str.ofString "is_behind_set", V.d (PyData.bool k))]), (aR_1, AO.list (pPairs ps_1))] ∧ (Dk ls m ∧ Agree ps_1 b_1 ss_2 t_1 us) ∧ ∀ (ls' : List Int) (m' : Int), Dk ls' m' → ∃ (a_12 : LS), ([(Str.ofString "script", false, some (V.d (pInts l))), (Str.ofString "deck", false, some (V.loc false (1 : Nat) a_12.aD)), (Str.ofString "so_far", false, some (V.inst false (2 : Nat) (244 : Addr) a_12.dx)), (Str.ofString "v", true, some (V.d (PyData.tuple [PyData.list (List.map PyData.bool a_12.t), pStrs a_12.us]))), (Str.ofString "turn", false, a_12.turn), (Str.ofString "way", false, a_12.way), (Str.ofString "low", true, a_12.low), (Str.ofString "high", true, a_12.high), (Str.ofString "codes", false, a_12.codes), (Str.ofString "other", false, a_12.other), (Str.ofString "word", false, a_12.word), (Str.ofString "one", false, none), (Str.ofString "near", false, none), (Str.ofString "far", false, none)], G.mk [] [(a_12.aL, AO.list (List.map PyData.int a_12.ls)), (a_12.aD, AO.dict [(Str.ofString "left", V.loc false (0 : Nat) a_12.aL), (Str.ofString "mixed", V.d (PyData.int a_12.m))]), (a_12.dx, AO.idict [(Str.ofString "ranges", V.loc false (3 : Nat) a_12.aR), (Str.ofString "whole", V.cstr a_12.b a_12.ss), (Str.ofString "is_behind_set", V.d (PyData.bool a_12.k))]), (a_12.aR, AO.list (pPairs a_12.ps))]) = ([(Str.ofString "script", false, some (V.d (pInts l))), (Str.ofString "deck", false, some (V.loc false (1 : Nat) a.aD)), (Str.ofString "so_far", false, some (V.inst false (2 : Nat) (244 : Addr) a.dx)), (Str.ofString "v", true, some (V.d (PyData.tuple [PyData.list (List.map PyData.bool (putT t cs)), pStrs ts]))), (Str.ofString "turn", false, some (V.d y)), (Str.ofString "way", false, some (V.d (PyData.int r))), (Str.ofString "low", true, a.low), (Str.ofString "high", true, a.high), (Str.ofString "codes", false, some (V.d y_1)), (Str.ofString "other", false, a.other), (Str.ofString "word", false, a.word), (Str.ofString "one", false, none), (Str.ofString "near", false, none), (Str.ofString "far", false, none)], G.mk [] [(aL, AO.list (List.map PyData.int ls')), (aD, AO.dict [(Str.ofString "left", V.loc false (0 : Nat) aL), (Str.ofString "mixed", V.d (PyData.int m'))]), (dx_1, AO.idict [(Str.ofString "ranges", V.loc false (3 : Nat) aR_1), (Str.ofString "whole", V.cstr b_1 ss_2), (Str.ofString "is_behind_set", V.d (PyData.bool k))]), (aR_1, AO.list (pPairs ps_1))]) ∧ IF a_12 rest) ∧ (l_2.length ≠ (1 : Nat) → ∀ (B : List Int) (ts : List (List Int)), Mg B b [] nmUnion → PutS ts ss [l_2] nmUnion → (0 : Nat) + (1 : Nat) ≤ (1000 : Nat) ∧ ∃ (t : List Bool), ∃ (ss : List (List Int)), ∃ (cs : List (List Int)), [V.d (PyData.tuple [PyData.list (List.map PyData.bool a.t), pStrs a.us]), V.d (PyData.list [y_1])] = [V.d (PyData.tuple [PyData.list (List.map PyData.bool t), pStrs ss]), V.d (pStrs cs)] ∧ (t.length = (9 : Nat) ∧ Str5 ss ∧ (∀ (c : List Int), c ∈ cs → c ∈ lawStrings) ∧ cs.length ≤ (20 : Nat)) ∧ ∀ (ts_1 : List (List Int)), Str5 ts_1 → (∀ (x : List Int), x ∈ ts_1 ↔ x ∈ ss ∨ x ∈ cs ∧ isOne x = false) → ∃ (aL : Addr), ∃ (aD : Addr), ∃ (ls : List Int), ∃ (m : Int), ∃ (dx_1 : Addr), ∃ (aR_1 : Addr), ∃ (ps_1 : List (Int × Int)), ∃ (b : List Int), ∃ (ss : List (List Int)), ∃ (k : Bool), ∃ (t_1 : List Bool), ∃ (us : List (List Int)), [V.loc false (1 : Nat) a.aD, V.inst false (2 : Nat) (244 : Addr) a.dx, V.d (PyData.tuple [PyData.list (List.map PyData.bool (putT t cs)), pStrs ts_1]), V.d (PyData.bool (decide ((2 : Int) < r)))] = [V.loc false (1 : Nat) aD, V.inst false (2 : Nat) (244 : Addr) dx_1, V.d (PyData.tuple [PyData.list (List.map PyData.bool t_1), pStrs us]), V.d (PyData.bool k)] ∧ [e0, e1, (dx, AO.idict [(Str.ofString "ranges", V.loc false (3 : Nat) aR), (Str.ofString "whole", V.cstr B ts), (Str.ofString "is_behind_set", V.d (PyData.bool false))]), (aR, AO.list (pPairs ps))] = [(aL, AO.list (List.map PyData.int ls)), (aD, AO.dict [(Str.ofString "left", V.loc false (0 : Nat) aL), (Str.ofString "mixed", V.d (PyData.int m))]), (dx_1, AO.idict [(Str.ofString "ranges", V.loc false (3 : Nat) aR_1), (Str.ofString "whole", V.cstr b ss), (Str.ofString "is_behind_set", V.d (PyData.bool k))]), (aR_1, AO.list (pPairs ps_1))] ∧ (Dk ls m ∧ Agree ps_1 b ss t_1 us) ∧ ∀ (ls' : List Int) (m' : Int), Dk ls' m' → ∃ (a_14 : LS), ([(Str.ofString "script", false, some (V.d (pInts l))), (Str.ofString "deck", false, some (V.loc false (1 : Nat) a_14.aD)), (Str.ofString "so_far", false, some (V.inst false (2 : Nat) (244 : Addr) a_14.dx)), (Str.ofString "v", true, some (V.d (PyData.tuple [PyData.list (List.map PyData.bool a_14.t), pStrs a_14.us]))), (Str.ofString "turn", false, a_14.turn), (Str.ofString "way", false, a_14.way), (Str.ofString "low", true, a_14.low), (Str.ofString "high", true, a_14.high), (Str.ofString "codes", false, a_14.codes), (Str.ofString "other", false, a_14.other), (Str.ofString "word", false, a_14.word), (Str.ofString "one", false, none), (Str.ofString "near", false, none), (Str.ofString "far", false, none)], G.mk [] [(a_14.aL, AO.list (List.map PyData.int a_14.ls)), (a_14.aD, AO.dict [(Str.ofString "left", V.loc false (0 : Nat) a_14.aL), (Str.ofString "mixed", V.d (PyData.int a_14.m))]), (a_14.dx, AO.idict [(Str.ofString "ranges", V.loc false (3 : Nat) a_14.aR), (Str.ofString "whole", V.cstr a_14.b a_14.ss), (Str.ofString "is_behind_set", V.d (PyData.bool a_14.k))]), (a_14.aR, AO.list (pPairs a_14.ps))]) = ([(Str.ofString "script", false, some (V.d (pInts l))), (Str.ofString "deck", false, some (V.loc false (1 : Nat) a.aD)), (Str.ofString "so_far", false, some (V.inst false (2 : Nat) (244 : Addr) a.dx)), (Str.ofString "v", true, some (V.d (PyData.tuple [PyData.list (List.map PyData.bool (putT t cs)), pStrs ts_1]))), (Str.ofString "turn", false, some (V.d y)), (Str.ofString "way", false, some (V.d (PyData.int r))), (Str.ofString "low", true, a.low), (Str.ofString "high", true, a.high), (Str.ofString "codes", false, some (V.d y_1)), (Str.ofString "other", false, a.other), (Str.ofString "word", false, a.word), (Str.ofString "one", false, none), (Str.ofString "near", false, none), (Str.ofString "far", false, none)], G.mk [] [(aL, AO.list (List.map PyData.int ls')), (aD, AO.dict [(Str.ofString "left", V.loc false (0 : Nat) aL), (Str.ofString "mixed", V.d (PyData.int m'))]), (dx_1, AO.idict [(Str.ofString "ranges", V.loc false (3 : Nat) aR_1), (Str.ofString "whole", V.cstr b ss), (Str.ofString "is_behind_set", V.d (PyData.bool k))]), (aR_1, AO.list (pPairs ps_1))]) ∧ IF a_14 rest)) (∃ (aL_2 : Addr), ∃ (aD_2 : Addr), ∃ (ls : List Int), ∃ (m : Int), [V.loc false (1 : Nat) a.aD] = [V.loc false (1 : Nat) aD_2] ∧ dkE aL_2 aD_2 ls m (aL, AO.list (List.map PyData.int ls')) (aD, AO.dict [(Str.ofString "left", V.loc false (0 : Nat) aL), (Str.ofString "mixed", V.d (PyData.int m'))]) ∧ Dk ls m ∧ ∀ (ls' : List Int) (m' : Int) (t : List Bool) (ss : List (List Int)), Dk ls' m' → t.length = (9 : Nat) → Str5 ss → (0 : Nat) + (1 : Nat) + (1 : Nat) + (1 : Nat) ≤ (1000 : Nat) ∧ (-(2 : Int) ^ (62 : Nat) < r - (3 : Int) ∧ r - (3 : Int) < (2 : Int) ^ (62 : Nat)) ∧ oB (seqIndex? (r - (3 : Int)) ((0 : Nat) + (1 : Nat) + (1 : Nat) + (1 : Nat))) fun (j : Nat) => oB [PyData.str (Str.ofString "union"), PyData.str (Str.ofString "both"), PyData.str (Str.ofString "without")][j]? fun (y_1 : PyData) => a.dx = a.dx ∧ ∃ (t_1 : List Bool), ∃ (ss_1 : List (List Int)), [V.d (PyData.tuple [PyData.list (List.map PyData.bool t), pStrs ss])] = [V.d (PyData.tuple [PyData.list (List.map PyData.bool t_1), pStrs ss_1])] ∧ (t_1.length = (9 : Nat) ∧ ss_1.length ≤ (100 : Nat)) ∧ ∀ (B : List Int), Bnd B (lawR t_1) → ∃ (e0 : Addr × AO), ∃ (e1 : Addr × AO), ∃ (dx : Addr), ∃ (aR : Addr), ∃ (ps : List (Int × Int)), ∃ (b : List Int), ∃ (ss_2 : List (List Int)), ∃ (k : Bool), ∃ (b' : List Int), ∃ (ss' : List (List Int)), ∃ (w : Str), [V.inst false (2 : Nat) (244 : Addr) a.dx, V.cstr B ss_1, V.d y_1] = [V.inst false (2 : Nat) (244 : Addr) dx, V.cstr b' ss', V.d (PyData.str w)] ∧ [(aL_2, AO.list (List.map PyData.int ls')), (aD_2, AO.dict [(Str.ofString "left", V.loc false (0 : Nat) aL_2), (Str.ofString "mixed", V.d (PyData.int m'))]), (a.dx, AO.idict [(Str.ofString "ranges", V.loc false (3 : Nat) a.aR), (Str.ofString "whole", V.cstr a.b a.ss), (Str.ofString "is_behind_set", V.d (PyData.bool a.k))]), (a.aR, AO.list (pPairs a.ps))] = [e0, e1, (dx, AO.idict [(Str.ofString "ranges", V.loc false (3 : Nat) aR), (Str.ofString "whole", V.cstr b ss_2), (Str.ofString "is_behind_set", V.d (PyData.bool k))]), (aR, AO.list (pPairs ps))] ∧ (ps.length ≤ (60 : Nat) ∧ Okb b ∧ Okb b' ∧ Oks ss_2 ss' ∧ (sEq w nmUnion = true ∨ sEq w nmBoth = true ∨ sEq w nmWithout = true)) ∧ (∀ (R : List Int), Told R b ps → Okb R) ∧ ∀ (aR' : Addr) (B R : List Int) (ts : List (List Int)), Told R b ps → Mg B R b' w → PutS ts ss_2 ss' w → ∃ (t_2 : List Bool), ∃ (ss_3 : List (List Int)), ∃ (t' : List Bool), ∃ (ss' : List (List Int)), ∃ (w : Str), [V.d (PyData.tuple [PyData.list (List.map PyData.bool a.t), pStrs a.us]), V.d (PyData.tuple [PyData.list (List.map PyData.bool t), pStrs ss]), V.d y_1] = [V.d (PyData.tuple [PyData.list (List.map PyData.bool t_2), pStrs ss_3]), V.d (PyData.tuple [PyData.list (List.map PyData.bool t'), pStrs ss']), V.d (PyData.str w)] ∧ (t_2.length = (9 : Nat) ∧ t'.length = (9 : Nat) ∧ Str5 ss_3 ∧ Str5 ss' ∧ (sEq w nmUnion = true ∨ sEq w nmBoth = true ∨ sEq w nmWithout = true)) ∧ ∀ (ts_1 : List (List Int)), bothS w ts_1 ss_3 ss' → ∃ (aL : Addr), ∃ (aD : Addr), ∃ (ls : List Int), ∃ (m : Int), ∃ (dx_1 : Addr), ∃ (aR : Addr), ∃ (ps : List (Int × Int)), ∃ (b : List Int), ∃ (ss_4 : List (List Int)), ∃ (k : Bool), ∃ (t_3 : List Bool), ∃ (us : List (List Int)), [V.loc false (1 : Nat) a.aD, V.inst false (2 : Nat) (244 : Addr) a.dx, V.d (PyData.tuple [PyData.list (List.map PyData.bool (bothT w t_2 t')), pStrs ts_1]), V.d (PyData.bool (decide ((2 : Int) < r)))] = [V.loc false (1 : Nat) aD, V.inst false (2 : Nat) (244 : Addr) dx_1, V.d (PyData.tuple [PyData.list (List.map PyData.bool t_3), pStrs us]), V.d (PyData.bool k)] ∧ [e0, e1, (dx, AO.idict [(Str.ofString "ranges", V.loc false (3 : Nat) aR'), (Str.ofString "whole", V.cstr B ts), (Str.ofString "is_behind_set", V.d (PyData.bool true))]), (aR', AO.list (pPairs []))] = [(aL, AO.list (List.map PyData.int ls)), (aD, AO.dict [(Str.ofString "left", V.loc false (0 : Nat) aL), (Str.ofString "mixed", V.d (PyData.int m))]), (dx_1, AO.idict [(Str.ofString "ranges", V.loc false (3 : Nat) aR), (Str.ofString "whole", V.cstr b ss_4), (Str.ofString "is_behind_set", V.d (PyData.bool k))]), (aR, AO.list (pPairs ps))] ∧ (Dk ls m ∧ Agree ps b ss_4 t_3 us) ∧ ∀ (ls' : List Int) (m' : Int), Dk ls' m' → ∃ (a_14 : LS), ([(Str.ofString "script", false, some (V.d (pInts l))), (Str.ofString "deck", false, some (V.loc false (1 : Nat) a_14.aD)), (Str.ofString "so_far", false, some (V.inst false (2 : Nat) (244 : Addr) a_14.dx)), (Str.ofString "v", true, some (V.d (PyData.tuple [PyData.list (List.map PyData.bool a_14.t), pStrs a_14.us]))), (Str.ofString "turn", false, a_14.turn), (Str.ofString "way", false, a_14.way), (Str.ofString "low", true, a_14.low), (Str.ofString "high", true, a_14.high), (Str.ofString "codes", false, a_14.codes), (Str.ofString "other", false, a_14.other), (Str.ofString "word", false, a_14.word), (Str.ofString "one", false, none), (Str.ofString "near", false, none), (Str.ofString "far", false, none)], G.mk [] [(a_14.aL, AO.list (List.map PyData.int a_14.ls)), (a_14.aD, AO.dict [(Str.ofString "left", V.loc false (0 : Nat) a_14.aL), (Str.ofString "mixed", V.d (PyData.int a_14.m))]), (a_14.dx, AO.idict [(Str.ofString "ranges", V.loc false (3 : Nat) a_14.aR), (Str.ofString "whole", V.cstr a_14.b a_14.ss), (Str.ofString "is_behind_set", V.d (PyData.bool a_14.k))]), (a_14.aR, AO.list (pPairs a_14.ps))]) = ([(Str.ofString "script", false, some (V.d (pInts l))), (Str.ofString "deck", false, some (V.loc false (1 : Nat) a.aD)), (Str.ofString "so_far", false, some (V.inst false (2 : Nat) (244 : Addr) a.dx)), (Str.ofString "v", true, some (V.d (PyData.tuple [PyData.list (List.map PyData.bool (bothT w t_2 t')), pStrs ts_1]))), (Str.ofString "turn", false, some (V.d y)), (Str.ofString "way", false, some (V.d (PyData.int r))), (Str.ofString "low", true, a.low), (Str.ofString "high", true, a.high), (Str.ofString "codes", false, a.codes), (Str.ofString "other", false, some (V.d (PyData.tuple [PyData.list (List.map PyData.bool t), pStrs ss]))), (Str.ofString "word", false, some (V.d y_1)), (Str.ofString "one", false, none), (Str.ofString "near", false, none), (Str.ofString "far", false, none)], G.mk [] [(aL, AO.list (List.map PyData.int ls')), (aD, AO.dict [(Str.ofString "left", V.loc false (0 : Nat) aL), (Str.ofString "mixed", V.d (PyData.int m'))]), (dx_1, AO.idict [(Str.ofString "ranges", V.loc false (3 : Nat) aR), (Str.ofString "whole", V.cstr b ss_4), (Str.ofString "is_behind_set", V.d (PyData.bool k))]), (aR, AO.list (pPairs ps))]) ∧ IF a_14 rest))) ∧ ∀ (a : LS), IF a [] → True ∧ ∃ (aL : Addr), ∃ (aD : Addr), ∃ (ls : List Int), ∃ (m : Int), [V.loc false (1 : Nat) a.aD] = [V.loc false (1 : Nat) aD] ∧ dkE aL aD ls m (a.aL, AO.list (List.map PyData.int a.ls)) (a.aD, AO.dict [(Str.ofString "left", V.loc false (0 : Nat) a.aL), (Str.ofString "mixed", V.d (PyData.int a.m))]) ∧ Dk ls m ∧ ∀ (ls' : List Int) (m' : Int) (t : List Bool) (ss : List (List Int)), Dk ls' m' → t.length = (9 : Nat) → Str5 ss → ∃ (aL_2 : Addr), ∃ (aD_2 : Addr), ∃ (ls : List Int), ∃ (m : Int), [V.loc false (1 : Nat) a.aD] = [V.loc false (1 : Nat) aD_2] ∧ dkE aL_2 aD_2 ls m (aL, AO.list (List.map PyData.int ls')) (aD, AO.dict [(Str.ofString "left", V.loc false (0 : Nat) aL), (Str.ofString "mixed", V.d (PyData.int m'))]) ∧ Dk ls m ∧ ∀ (ls' : List Int) (m' : Int) (t_1 : List Bool) (ss_1 : List (List Int)), Dk ls' m' → t_1.length = (9 : Nat) → Str5 ss_1 → (0 : Nat) + (1 : Nat) + (1 : Nat) + (1 : Nat) ≤ (1000 : Nat) ∧ ∃ (aL : Addr), ∃ (aD : Addr), ∃ (ls : List Int), ∃ (m : Int), ∃ (n : Int), [V.loc false (1 : Nat) a.aD, V.d (PyData.int (3 : Int))] = [V.loc false (1 : Nat) aD, V.d (PyData.int n)] ∧ dkE aL aD ls m (aL_2, AO.list (List.map PyData.int ls')) (aD_2, AO.dict [(Str.ofString "left", V.loc false (0 : Nat) aL_2), (Str.ofString "mixed", V.d (PyData.int m'))]) ∧ (Dk ls m ∧ (0 : Int) < n ∧ n < (1000 : Int)) ∧ ∀ (r : Int) (ls' : List Int) (m' : Int), Dk ls' m' → (0 : Int) ≤ r → r < n → (-(2 : Int) ^ (62 : Nat) < r ∧ r < (2 : Int) ^ (62 : Nat)) ∧ oB (seqIndex? r ((0 : Nat) + (1 : Nat) + (1 : Nat) + (1 : Nat))) fun (j : Nat) => oB [PyData.str (Str.ofString "union"), PyData.str (Str.ofString "both"), PyData.str (Str.ofString "without")][j]? fun (y : PyData) => ∃ (t_2 : List Bool), ∃ (ss_2 : List (List Int)), [V.d (PyData.tuple [PyData.list (List.map PyData.bool t), pStrs ss])] = [V.d (PyData.tuple [PyData.list (List.map PyData.bool t_2), pStrs ss_2])] ∧ (t_2.length = (9 : Nat) ∧ ss_2.length ≤ (100 : Nat)) ∧ ∀ (B : List Int), Bnd B (lawR t_2) → ∃ (t_3 : List Bool), ∃ (ss_3 : List (List Int)), [V.d (PyData.tuple [PyData.list (List.map PyData.bool t_1), pStrs ss_1])] = [V.d (PyData.tuple [PyData.list (List.map PyData.bool t_3), pStrs ss_3])] ∧ (t_3.length = (9 : Nat) ∧ ss_3.length ≤ (100 : Nat)) ∧ ∀ (B_1 : List Int), Bnd B_1 (lawR t_3) → ∃ (b : List Int), ∃ (ss_4 : List (List Int)), ∃ (b' : List Int), ∃ (ss' : List (List Int)), ∃ (w : Str), [V.cstr B ss_2, V.cstr B_1 ss_3, V.d y] = [V.cstr b ss_4, V.cstr b' ss', V.d (PyData.str w)] ∧ (Okb b ∧ Okb b' ∧ Oks ss_4 ss' ∧ (sEq w nmUnion = true ∨ sEq w nmBoth = true ∨ sEq w nmWithout = true)) ∧ ∀ (B_2 : List Int) (ts : List (List Int)), Mg B_2 b b' w → PutS ts ss_4 ss' w → ∃ (t_4 : List Bool), ∃ (ss_5 : List (List Int)), ∃ (t' : List Bool), ∃ (ss' : List (List Int)), ∃ (w : Str), [V.d (PyData.tuple [PyData.list (List.map PyData.bool t), pStrs ss]), V.d (PyData.tuple [PyData.list (List.map PyData.bool t_1), pStrs ss_1]), V.d y] = [V.d (PyData.tuple [PyData.list (List.map PyData.bool t_4), pStrs ss_5]), V.d (PyData.tuple [PyData.list (List.map PyData.bool t'), pStrs ss']), V.d (PyData.str w)] ∧ (t_4.length = (9 : Nat) ∧ t'.length = (9 : Nat) ∧ Str5 ss_5 ∧ Str5 ss' ∧ (sEq w nmUnion = true ∨ sEq w nmBoth = true ∨ sEq w nmWithout = true)) ∧ ∀ (ts_1 : List (List Int)), bothS w ts_1 ss_5 ss' → ∃ (b : List Int), ∃ (ss_6 : List (List Int)), ∃ (t_5 : List Bool), ∃ (ss' : List (List Int)), [V.cstr B_2 ts, V.d (PyData.tuple [PyData.list (List.map PyData.bool (bothT w t_4 t')), pStrs ts_1])] = [V.cstr b ss_6, V.d (PyData.tuple [PyData.list (List.map PyData.bool t_5), pStrs ss'])] ∧ (Okb b ∧ t_5.length = (9 : Nat) ∧ Oks ss_6 ss') ∧ br (decide (pairsOf b = lawR t_5) && decide (ss_6 = ss')) (∃ (b : List Int), ∃ (ss_7 : List (List Int)), ∃ (t_6 : List Bool), ∃ (ss' : List (List Int)), [V.cstr B ss_2, V.d (PyData.tuple [PyData.list (List.map PyData.bool t), pStrs ss])] = [V.cstr b ss_7, V.d (PyData.tuple [PyData.list (List.map PyData.bool t_6), pStrs ss'])] ∧ (Okb b ∧ t_6.length = (9 : Nat) ∧ Oks ss_7 ss') ∧ br (decide (pairsOf b = lawR t_6) && decide (ss_7 = ss')) (∃ (b : List Int), ∃ (ss : List (List Int)), ∃ (t : List Bool), ∃ (ss' : List (List Int)), [V.cstr B_1 ss_3, V.d (PyData.tuple [PyData.list (List.map PyData.bool t_1), pStrs ss_1])] = [V.cstr b ss, V.d (PyData.tuple [PyData.list (List.map PyData.bool t), pStrs ss'])] ∧ (Okb b ∧ t.length = (9 : Nat) ∧ Oks ss ss') ∧ Q (V.d (PyData.bool (decide (pairsOf b = lawR t) && decide (ss = ss')))) [(aL, AO.list (List.map PyData.int ls')), (aD, AO.dict [(Str.ofString "left", V.loc false (0 : Nat) aL), (Str.ofString "mixed", V.d (PyData.int m'))]), (a.dx, AO.idict [(Str.ofString "ranges", V.loc false (3 : Nat) a.aR), (Str.ofString "whole", V.cstr a.b a.ss), (Str.ofString "is_behind_set", V.d (PyData.bool a.k))]), (a.aR, AO.list (pPairs a.ps))]) (Q (V.d (PyData.bool false)) [(aL, AO.list (List.map PyData.int ls')), (aD, AO.dict [(Str.ofString "left", V.loc false (0 : Nat) aL), (Str.ofString "mixed", V.d (PyData.int m'))]), (a.dx, AO.idict [(Str.ofString "ranges", V.loc false (3 : Nat) a.aR), (Str.ofString "whole", V.cstr a.b a.ss), (Str.ofString "is_behind_set", V.d (PyData.bool a.k))]), (a.aR, AO.list (pPairs a.ps))])) (Q (V.d (PyData.bool false)) [(aL, AO.list (List.map PyData.int ls')), (aD, AO.dict [(Str.ofString "left", V.loc false (0 : Nat) aL), (Str.ofString "mixed", V.d (PyData.int m'))]), (a.dx, AO.idict [(Str.ofString "ranges", V.loc false (3 : Nat) a.aR), (Str.ofString "whole", V.cstr a.b a.ss), (Str.ofString "is_behind_set", V.d (PyData.bool a.k))]), (a.aR, AO.list (pPairs a.ps))])) := by kernel_rfl
end Mine

set_option maxRecDepth 100000
namespace Mine
open PySem PySem.W PySem.Calls PyProof.Rows PySem.Spec
open PySem.W.Fast (sEq sEq_iff)

theorem fnAt_of {K : Frag} {a : Addr} {st : Stmt} {ps : List Str} {dfl : List Value} (h : fnSee K a = fnExp a st) (hs : (fScope st).isCoroutine = false ∧ (fScope st).isGenerator = false ∧ (fScope st).kind = .function ∧ ((fNames st).map (·.1)).Nodup ∧ ps.Nodup ∧ ∀ x ∈ ps, (fNames st).lookup x = some .local ∨ (fNames st).lookup x = some .cell)
    (hb : ∀ (name qual : Str) (kV doc pm : Value) (an : Option Addr) (cdv ct : Value) (ws : List Value) (s : Shared), (ws ++ dfl).length = ps.length → K.In s.heap → BindsTo s (fnOf name qual (fParams st) (fBody st) (fScope st) (fnDfl a) kV doc pm an cdv ct) ⟨ws, []⟩ (ps.zip (ws ++ dfl))) :
    FnAt K a ps dfl (fBody st) (fScope st) := by
  obtain ⟨h1, h2, h3, h4, h5, h6⟩ := hs
  refine ⟨?_, h1, h2, h3, h4, h6, h5⟩
  unfold fnSee fnExp at h
  split at h
  · rename_i oc od fd osl ho
    split at h
    · rename_i q
      obtain ⟨e1, e2, e3, e4⟩ : fd.params = fParams st ∧ fd.body = .stmts (fBody st) ∧ fd.scope = fScope st ∧ fd.defaults = fnDfl a := by
        have := Option.some.inj h
        exact ⟨congrArg Prod.fst this, congrArg (fun x => x.2.1) this, congrArg (fun x => x.2.2.1) this, congrArg (fun x => x.2.2.2) this⟩
      simp only [Bool.and_eq_true] at q
      obtain ⟨⟨⟨q1, q2⟩, q3⟩, q4⟩ := q
      obtain ⟨name, qual, params, body, scope, globals, closure, dV, kV, doc, pm, an, cdv, ct, blt⟩ := fd
      dsimp only at e1 e2 e3 e4 q1 q2 q3 q4
      have q1' := Nat.eq_of_beq_eq_true q1
      have q2' := Nat.eq_of_beq_eq_true q2
      have q3' := List.isEmpty_iff.mp q3
      subst e1; subst e2; subst e3; subst e4; subst q1'; subst q2'; subst q3'
      exact ⟨oc, od, osl, name, qual, _, _, kV, doc, pm, an, cdv, ct, ho, q4, fun ws s hl X => hb _ _ _ _ _ _ _ _ ws s hl X⟩
    · cases h
  · cases h

theorem len0 {α : Type} {l : List α} (h : (l ++ []).length = 0) : l = [] := ln0 (by rw [List.append_nil] at h; exact h)
theorem len1 {α : Type} {l : List α} (h : (l ++ []).length = 1) : ∃ a, l = [a] := by
  rw [List.append_nil] at h
  obtain ⟨a, t, rfl, h1⟩ := lnS (n := 0) h
  rw [ln0 h1]
  exact ⟨a, rfl⟩
theorem len2 {α : Type} {l : List α} (h : (l ++ []).length = 2) : ∃ a b, l = [a, b] := by
  rw [List.append_nil] at h
  obtain ⟨a, t, rfl, h1⟩ := lnS (n := 1) h
  obtain ⟨b, t, rfl, h2⟩ := lnS (n := 0) h1
  rw [ln0 h2]
  exact ⟨a, b, rfl⟩
theorem len3 {α : Type} {l : List α} (h : (l ++ []).length = 3) : ∃ a b c, l = [a, b, c] := by
  rw [List.append_nil] at h
  obtain ⟨a, t, rfl, h1⟩ := lnS (n := 2) h
  obtain ⟨b, c, rfl⟩ := len2 (l := t) (by rw [List.append_nil]; exact h1)
  exact ⟨a, b, c, rfl⟩
theorem len4 {α : Type} {l : List α} (h : (l ++ []).length = 4) : ∃ a b c d, l = [a, b, c, d] := by
  rw [List.append_nil] at h
  obtain ⟨a, t, rfl, h1⟩ := lnS (n := 3) h
  obtain ⟨b, c, d, rfl⟩ := len3 (l := t) (by rw [List.append_nil]; exact h1)
  exact ⟨a, b, c, d, rfl⟩
theorem f28 {K : Frag} (h : fnSee K 28 = fnExp 28 (stmtAt 2)) : FnAt K 28 ["firsts", "number"] [] (fBody (stmtAt 2)) (fScope (stmtAt 2)) := fnAt_of h (by decide +kernel) fun name qual kV doc pm an cdv ct ws s hl _ => by
  obtain ⟨a, b, rfl⟩ := len2 hl
  exact BindsTo.of_eq (by kernel_rfl)
theorem f35 {K : Frag} (h : fnSee K 35 = fnExp 35 (stmtAt 4)) : FnAt K 35 ["pair"] [] (fBody (stmtAt 4)) (fScope (stmtAt 4)) := fnAt_of h (by decide +kernel) fun name qual kV doc pm an cdv ct ws s hl _ => by
  obtain ⟨a, rfl⟩ := len1 hl
  exact BindsTo.of_eq (by kernel_rfl)
theorem f40 {K : Frag} (h : fnSee K 40 = fnExp 40 (stmtAt 5)) : FnAt K 40 ["ranges"] [] (fBody (stmtAt 5)) (fScope (stmtAt 5)) := fnAt_of h (by decide +kernel) fun name qual kV doc pm an cdv ct ws s hl _ => by
  obtain ⟨a, rfl⟩ := len1 hl
  exact BindsTo.of_eq (by kernel_rfl)
theorem f47 {K : Frag} (h : fnSee K 47 = fnExp 47 (stmtAt 6)) : FnAt K 47 ["way", "is_near", "is_far"] [] (fBody (stmtAt 6)) (fScope (stmtAt 6)) := fnAt_of h (by decide +kernel) fun name qual kV doc pm an cdv ct ws s hl _ => by
  obtain ⟨a, b, c, rfl⟩ := len3 hl
  exact BindsTo.of_eq (by kernel_rfl)
theorem f54 {K : Frag} (h : fnSee K 54 = fnExp 54 (stmtAt 7)) : FnAt K 54 ["near", "far", "way"] [] (fBody (stmtAt 7)) (fScope (stmtAt 7)) := fnAt_of h (by decide +kernel) fun name qual kV doc pm an cdv ct ws s hl _ => by
  obtain ⟨a, b, c, rfl⟩ := len3 hl
  exact BindsTo.of_eq (by kernel_rfl)
theorem f76 {K : Frag} (h : fnSee K 76 = fnExp 76 (methAt 8 1)) : FnAt K 76 ["ranges"] [] (fBody (methAt 8 1)) (fScope (methAt 8 1)) := fnAt_of h (by decide +kernel) fun name qual kV doc pm an cdv ct ws s hl _ => by
  obtain ⟨a, rfl⟩ := len1 hl
  exact BindsTo.of_eq (by kernel_rfl)
theorem f86 {K : Frag} (h : fnSee K 86 = fnExp 86 (methAt 8 2)) : FnAt K 86 ["self", "code"] [] (fBody (methAt 8 2)) (fScope (methAt 8 2)) := fnAt_of h (by decide +kernel) fun name qual kV doc pm an cdv ct ws s hl _ => by
  obtain ⟨a, b, rfl⟩ := len2 hl
  exact BindsTo.of_eq (by kernel_rfl)
theorem f91 {K : Frag} (h : fnSee K 91 = fnExp 91 (methAt 8 3)) : FnAt K 91 ["self"] [] (fBody (methAt 8 3)) (fScope (methAt 8 3)) := fnAt_of h (by decide +kernel) fun name qual kV doc pm an cdv ct ws s hl _ => by
  obtain ⟨a, rfl⟩ := len1 hl
  exact BindsTo.of_eq (by kernel_rfl)
theorem f105 {K : Frag} (h : fnSee K 105 = fnExp 105 (methAt 8 5)) : FnAt K 105 ["self", "other"] [] (fBody (methAt 8 5)) (fScope (methAt 8 5)) := fnAt_of h (by decide +kernel) fun name qual kV doc pm an cdv ct ws s hl _ => by
  obtain ⟨a, b, rfl⟩ := len2 hl
  exact BindsTo.of_eq (by kernel_rfl)
theorem f112 {K : Frag} (h : fnSee K 112 = fnExp 112 (methAt 8 6)) : FnAt K 112 ["self", "other"] [] (fBody (methAt 8 6)) (fScope (methAt 8 6)) := fnAt_of h (by decide +kernel) fun name qual kV doc pm an cdv ct ws s hl _ => by
  obtain ⟨a, b, rfl⟩ := len2 hl
  exact BindsTo.of_eq (by kernel_rfl)
theorem f119 {K : Frag} (h : fnSee K 119 = fnExp 119 (methAt 8 7)) : FnAt K 119 ["self", "other"] [] (fBody (methAt 8 7)) (fScope (methAt 8 7)) := fnAt_of h (by decide +kernel) fun name qual kV doc pm an cdv ct ws s hl _ => by
  obtain ⟨a, b, rfl⟩ := len2 hl
  exact BindsTo.of_eq (by kernel_rfl)
theorem f140 {K : Frag} (h : fnSee K 140 = fnExp 140 (methAt 8 10)) : FnAt K 140 ["self", "other"] [] (fBody (methAt 8 10)) (fScope (methAt 8 10)) := fnAt_of h (by decide +kernel) fun name qual kV doc pm an cdv ct ws s hl _ => by
  obtain ⟨a, b, rfl⟩ := len2 hl
  exact BindsTo.of_eq (by kernel_rfl)
theorem f168 {K : Frag} (h : fnSee K 168 = fnExp 168 (methAt 10 0)) : FnAt K 168 ["self", "codes", "strings"] [] (fBody (methAt 10 0)) (fScope (methAt 10 0)) := fnAt_of h (by decide +kernel) fun name qual kV doc pm an cdv ct ws s hl _ => by
  obtain ⟨a, b, c, rfl⟩ := len3 hl
  exact BindsTo.of_eq (by kernel_rfl)
theorem f175 {K : Frag} (h : fnSee K 175 = fnExp 175 (methAt 10 1)) : FnAt K 175 ["self", "text"] [] (fBody (methAt 10 1)) (fScope (methAt 10 1)) := fnAt_of h (by decide +kernel) fun name qual kV doc pm an cdv ct ws s hl _ => by
  obtain ⟨a, b, rfl⟩ := len2 hl
  exact BindsTo.of_eq (by kernel_rfl)
theorem f182 {K : Frag} (h : fnSee K 182 = fnExp 182 (methAt 10 2)) : FnAt K 182 ["self", "other"] [] (fBody (methAt 10 2)) (fScope (methAt 10 2)) := fnAt_of h (by decide +kernel) fun name qual kV doc pm an cdv ct ws s hl _ => by
  obtain ⟨a, b, rfl⟩ := len2 hl
  exact BindsTo.of_eq (by kernel_rfl)
theorem f194 {K : Frag} (h : fnSee K 194 = fnExp 194 (stmtAt 11)) : FnAt K 194 ["strings"] [] (fBody (stmtAt 11)) (fScope (stmtAt 11)) := fnAt_of h (by decide +kernel) fun name qual kV doc pm an cdv ct ws s hl _ => by
  obtain ⟨a, rfl⟩ := len1 hl
  exact BindsTo.of_eq (by kernel_rfl)
theorem f199 {K : Frag} (h : fnSee K 199 = fnExp 199 (stmtAt 12)) : FnAt K 199 ["one", "other", "way"] [] (fBody (stmtAt 12)) (fScope (stmtAt 12)) := fnAt_of h (by decide +kernel) fun name qual kV doc pm an cdv ct ws s hl _ => by
  obtain ⟨a, b, c, rfl⟩ := len3 hl
  exact BindsTo.of_eq (by kernel_rfl)
theorem f213 {K : Frag} (h : fnSee K 213 = fnExp 213 (methAt 13 0)) : FnAt K 213 ["self"] [] (fBody (methAt 13 0)) (fScope (methAt 13 0)) := fnAt_of h (by decide +kernel) fun name qual kV doc pm an cdv ct ws s hl _ => by
  obtain ⟨a, rfl⟩ := len1 hl
  exact BindsTo.of_eq (by kernel_rfl)
theorem f220 {K : Frag} (h : fnSee K 220 = fnExp 220 (methAt 13 1)) : FnAt K 220 ["self", "first", "last"] [] (fBody (methAt 13 1)) (fScope (methAt 13 1)) := fnAt_of h (by decide +kernel) fun name qual kV doc pm an cdv ct ws s hl _ => by
  obtain ⟨a, b, c, rfl⟩ := len3 hl
  exact BindsTo.of_eq (by kernel_rfl)
theorem f227 {K : Frag} (h : fnSee K 227 = fnExp 227 (methAt 13 2)) : FnAt K 227 ["self", "codes"] [] (fBody (methAt 13 2)) (fScope (methAt 13 2)) := fnAt_of h (by decide +kernel) fun name qual kV doc pm an cdv ct ws s hl _ => by
  obtain ⟨a, b, rfl⟩ := len2 hl
  exact BindsTo.of_eq (by kernel_rfl)
theorem f234 {K : Frag} (h : fnSee K 234 = fnExp 234 (methAt 13 3)) : FnAt K 234 ["self", "other", "way"] [] (fBody (methAt 13 3)) (fScope (methAt 13 3)) := fnAt_of h (by decide +kernel) fun name qual kV doc pm an cdv ct ws s hl _ => by
  obtain ⟨a, b, c, rfl⟩ := len3 hl
  exact BindsTo.of_eq (by kernel_rfl)
theorem f241 {K : Frag} (h : fnSee K 241 = fnExp 241 (methAt 13 4)) : FnAt K 241 ["self"] [] (fBody (methAt 13 4)) (fScope (methAt 13 4)) := fnAt_of h (by decide +kernel) fun name qual kV doc pm an cdv ct ws s hl _ => by
  obtain ⟨a, rfl⟩ := len1 hl
  exact BindsTo.of_eq (by kernel_rfl)
theorem f255 {K : Frag} (h : fnSee K 255 = fnExp 255 (stmtAt 15)) : FnAt K 255 [] [] (fBody (stmtAt 15)) (fScope (stmtAt 15)) := fnAt_of h (by decide +kernel) fun name qual kV doc pm an cdv ct ws s hl _ => by
  obtain rfl := len0 hl
  exact BindsTo.of_eq (by kernel_rfl)
theorem f262 {K : Frag} (h : fnSee K 262 = fnExp 262 (stmtAt 16)) : FnAt K 262 [] [] (fBody (stmtAt 16)) (fScope (stmtAt 16)) := fnAt_of h (by decide +kernel) fun name qual kV doc pm an cdv ct ws s hl _ => by
  obtain rfl := len0 hl
  exact BindsTo.of_eq (by kernel_rfl)
theorem f276 {K : Frag} (h : fnSee K 276 = fnExp 276 (stmtAt 18)) : FnAt K 276 ["script"] [] (fBody (stmtAt 18)) (fScope (stmtAt 18)) := fnAt_of h (by decide +kernel) fun name qual kV doc pm an cdv ct ws s hl _ => by
  obtain ⟨a, rfl⟩ := len1 hl
  exact BindsTo.of_eq (by kernel_rfl)
theorem f283 {K : Frag} (h : fnSee K 283 = fnExp 283 (stmtAt 19)) : FnAt K 283 ["deck", "many"] [] (fBody (stmtAt 19)) (fScope (stmtAt 19)) := fnAt_of h (by decide +kernel) fun name qual kV doc pm an cdv ct ws s hl _ => by
  obtain ⟨a, b, rfl⟩ := len2 hl
  exact BindsTo.of_eq (by kernel_rfl)
theorem f288 {K : Frag} (h : fnSee K 288 = fnExp 288 (stmtAt 20)) : FnAt K 288 ["v", "strings"] [] (fBody (stmtAt 20)) (fScope (stmtAt 20)) := fnAt_of h (by decide +kernel) fun name qual kV doc pm an cdv ct ws s hl _ => by
  obtain ⟨a, b, rfl⟩ := len2 hl
  exact BindsTo.of_eq (by kernel_rfl)
theorem f295 {K : Frag} (h : fnSee K 295 = fnExp 295 (stmtAt 21)) : FnAt K 295 ["truths"] [] (fBody (stmtAt 21)) (fScope (stmtAt 21)) := fnAt_of h (by decide +kernel) fun name qual kV doc pm an cdv ct ws s hl _ => by
  obtain ⟨a, rfl⟩ := len1 hl
  exact BindsTo.of_eq (by kernel_rfl)
theorem f302 {K : Frag} (h : fnSee K 302 = fnExp 302 (stmtAt 22)) : FnAt K 302 ["v"] [] (fBody (stmtAt 22)) (fScope (stmtAt 22)) := fnAt_of h (by decide +kernel) fun name qual kV doc pm an cdv ct ws s hl _ => by
  obtain ⟨a, rfl⟩ := len1 hl
  exact BindsTo.of_eq (by kernel_rfl)
theorem f309 {K : Frag} (h : fnSee K 309 = fnExp 309 (stmtAt 23)) : FnAt K 309 ["deck"] [] (fBody (stmtAt 23)) (fScope (stmtAt 23)) := fnAt_of h (by decide +kernel) fun name qual kV doc pm an cdv ct ws s hl _ => by
  obtain ⟨a, rfl⟩ := len1 hl
  exact BindsTo.of_eq (by kernel_rfl)
theorem f314 {K : Frag} (h : fnSee K 314 = fnExp 314 (stmtAt 24)) : FnAt K 314 ["deck"] [] (fBody (stmtAt 24)) (fScope (stmtAt 24)) := fnAt_of h (by decide +kernel) fun name qual kV doc pm an cdv ct ws s hl _ => by
  obtain ⟨a, rfl⟩ := len1 hl
  exact BindsTo.of_eq (by kernel_rfl)
theorem f319 {K : Frag} (h : fnSee K 319 = fnExp 319 (stmtAt 25)) : FnAt K 319 ["v", "other", "way"] [] (fBody (stmtAt 25)) (fScope (stmtAt 25)) := fnAt_of h (by decide +kernel) fun name qual kV doc pm an cdv ct ws s hl _ => by
  obtain ⟨a, b, c, rfl⟩ := len3 hl
  exact BindsTo.of_eq (by kernel_rfl)
theorem f324 {K : Frag} (h : fnSee K 324 = fnExp 324 (stmtAt 26)) : FnAt K 324 ["told", "v"] [] (fBody (stmtAt 26)) (fScope (stmtAt 26)) := fnAt_of h (by decide +kernel) fun name qual kV doc pm an cdv ct ws s hl _ => by
  obtain ⟨a, b, rfl⟩ := len2 hl
  exact BindsTo.of_eq (by kernel_rfl)
theorem f331 {K : Frag} (h : fnSee K 331 = fnExp 331 (stmtAt 27)) : FnAt K 331 ["deck", "so_far", "v", "is_behind"] [] (fBody (stmtAt 27)) (fScope (stmtAt 27)) := fnAt_of h (by decide +kernel) fun name qual kV doc pm an cdv ct ws s hl _ => by
  obtain ⟨a, b, c, d, rfl⟩ := len4 hl
  exact BindsTo.of_eq (by kernel_rfl)
theorem f336 {K : Frag} (h : fnSee K 336 = fnExp 336 (stmtAt 28)) : FnAt K 336 ["script"] [] (fBody (stmtAt 28)) (fScope (stmtAt 28)) := fnAt_of h (by decide +kernel) fun name qual kV doc pm an cdv ct ws s hl _ => by
  obtain ⟨a, rfl⟩ := len1 hl
  exact BindsTo.of_eq (by kernel_rfl)

theorem f69 {K : Frag} (h : fnSee K 69 = fnExp 69 (methAt 8 0)) (hd : dflGood K = true) : FnAt K 69 ["self", "bounds"] [] (fBody (methAt 8 0)) (fScope (methAt 8 0)) ∧ FnAt K 69 ["self", "bounds"] [.none] (fBody (methAt 8 0)) (fScope (methAt 8 0)) := by
  obtain ⟨oc, od, vs, n, sl, ho, hv⟩ : ∃ oc od vs n sl, K.lookup 62 = some ⟨oc, od, .seq vs n, sl⟩ ∧ vs = #[.none] := by
    obtain ⟨n, od, vs, k, sl, ho, q⟩ := seqAt_inv hd
    exact ⟨_, _, _, _, _, ho, Array.toList_inj.mp (beq_iff_eq.mp q)⟩
  subst hv
  refine ⟨fnAt_of h (by decide +kernel) fun name qual kV doc pm an cdv ct ws s hl X => ?_, fnAt_of h (by decide +kernel) fun name qual kV doc pm an cdv ct ws s hl X => ?_⟩
  · obtain ⟨a, b, rfl⟩ := len2 hl
    exact BindsTo.of_defaults rfl (X _ _ ho) rfl rfl rfl
  · obtain ⟨a, rfl⟩ : ∃ a, ws = [a] := by
      have hl' : (ws ++ []).length = 1 := by simpa using hl
      exact len1 hl'
    exact BindsTo.of_defaults rfl (X _ _ ho) rfl rfl rfl

structure Wx (c : Cx) (K : Frag) : Prop where
  W : Wd c K
  lim : c.h₀.NoLimit
  fns : ∀ p ∈ fnTab, fnSee K p.1 = fnExp p.1 p.2
  dfl : dflGood K = true
  m150 : makeGood K 150 69 = true
  m185 : makeGood K 185 168 = true
  m244 : makeGood K 244 213 = true
end Mine

set_option maxRecDepth 100000
namespace Mine
open PySem PySem.W PySem.Calls PyProof.Rows PySem.Spec
open PySem.W.Fast (sEq sEq_iff)

/-! data: their shapes, their equality -/
structure Sh (n : Nat) (d : PyData) : Prop where
  c : d.canLay0 = true
  d : d.depth ≤ n
theorem Sh.int {i : Int} : Sh 0 (.int i) := ⟨by simp only [PyData.canLay0], by simp only [PyData.depth]; exact Nat.le_refl _⟩
theorem Sh.bool {i : Bool} : Sh 0 (.bool i) := ⟨by simp only [PyData.canLay0], by simp only [PyData.depth]; exact Nat.le_refl _⟩
theorem Sh.le {n m : Nat} {d : PyData} (h : Sh n d) (k : n ≤ m) : Sh m d := ⟨h.c, Nat.le_trans h.d k⟩
theorem shAll {n : Nat} : ∀ {xs : List PyData}, (∀ x ∈ xs, Sh n x) → PyData.canLayAll0 xs = true ∧ PyData.depthAll xs ≤ n
  | [], _ => ⟨by simp only [PyData.canLayAll0], by simp only [PyData.depthAll]; exact Nat.zero_le _⟩
  | x :: xs, h => by
    obtain ⟨a, b⟩ := shAll (xs := xs) fun y hy => h y (.tail _ hy)
    have k := h x (.head _)
    exact ⟨by simp only [PyData.canLayAll0, k.c, a, Bool.and_true], by simp only [PyData.depthAll]; exact Nat.max_le.mpr ⟨k.d, b⟩⟩
theorem Sh.list {n : Nat} {xs : List PyData} (h : ∀ x ∈ xs, Sh n x) : Sh (n + 1) (.list xs) := ⟨by simp only [PyData.canLay0]; exact (shAll h).1, by simp only [PyData.depth]; exact Nat.succ_le_succ (shAll h).2⟩
theorem Sh.tuple {n : Nat} {xs : List PyData} (h : ∀ x ∈ xs, Sh n x) : Sh (n + 1) (.tuple xs) := ⟨by simp only [PyData.canLay0]; exact (shAll h).1, by simp only [PyData.depth]; exact Nat.succ_le_succ (shAll h).2⟩
theorem Sh.shaped {n : Nat} {d : PyData} (h : Sh n d) (k : n ≤ 64 := by decide) : SeqAt.shaped d = true := by
  unfold SeqAt.shaped
  rw [h.c, Bool.true_and]
  exact decide_eq_true (Nat.le_trans h.d k)
theorem sh_ints {l : List Int} : ∀ x ∈ l.map PyData.int, Sh 0 x := fun x hx => by
  obtain ⟨i, _, rfl⟩ := List.mem_map.mp hx
  exact .int
theorem sh_bools {l : List Bool} : ∀ x ∈ l.map PyData.bool, Sh 0 x := fun x hx => by
  obtain ⟨i, _, rfl⟩ := List.mem_map.mp hx
  exact .bool
theorem sh_pTup {l : List Int} : Sh 1 (pTup l) := .tuple sh_ints
theorem sh_tups {ss : List (List Int)} : ∀ x ∈ ss.map pTup, Sh 1 x := fun x hx => by
  obtain ⟨i, _, rfl⟩ := List.mem_map.mp hx
  exact sh_pTup
theorem sh_pairs {ps : List (Int × Int)} : ∀ x ∈ pPairs ps, Sh 1 x := fun x hx => by
  obtain ⟨i, _, rfl⟩ := List.mem_map.mp hx
  exact .tuple fun y hy => by
    rcases List.mem_cons.mp hy with rfl | hy
    · exact .int
    · rcases List.mem_cons.mp hy with rfl | hy
      · exact .int
      · cases hy
theorem sh_pInts {l : List Int} : Sh 1 (.list (l.map .int)) := .list sh_ints
theorem sh_pStrs {ss : List (List Int)} : Sh 2 (.list (ss.map pTup)) := .list sh_tups
theorem sh_pPairs {ps : List (Int × Int)} : Sh 2 (.list (pPairs ps)) := .list sh_pairs

theorem dec_cons {α : Type} [DecidableEq α] (a b : α) (x y : List α) : decide (a :: x = b :: y) = (decide (a = b) && decide (x = y)) := by
  by_cases h : a = b <;> by_cases k : x = y <;> simp [h, k]
theorem eqvAll_map {α : Type} [DecidableEq α] {f : α → PyData} (hf : ∀ a b, PyData.eqv (f a) (f b) = decide (a = b)) : ∀ x y : List α, PyData.eqvAll (x.map f) (y.map f) = decide (x = y)
  | [], [] => by simp [PyData.eqvAll]
  | [], b :: y => by simp [PyData.eqvAll]
  | a :: x, [] => by simp [PyData.eqvAll]
  | a :: x, b :: y => by
    rw [List.map_cons, List.map_cons, dec_cons]
    simp only [PyData.eqvAll]
    rw [hf, eqvAll_map hf x y]
theorem eqv_int (a b : Int) : PyData.eqv (.int a) (.int b) = decide (a = b) := by
  simp only [PyData.eqv]
  by_cases h : a = b <;> simp [h]
theorem eqv_bool (a b : Bool) : PyData.eqv (.bool a) (.bool b) = decide (a = b) := by
  simp only [PyData.eqv]
  cases a <;> cases b <;> rfl
theorem eqvAll_ints (x y : List Int) : PyData.eqvAll (x.map .int) (y.map .int) = decide (x = y) := eqvAll_map eqv_int x y
theorem eqvAll_bools (x y : List Bool) : PyData.eqvAll (x.map .bool) (y.map .bool) = decide (x = y) := eqvAll_map eqv_bool x y
theorem eqv_pTup (x y : List Int) : PyData.eqv (pTup x) (pTup y) = decide (x = y) := by
  unfold pTup
  simp only [PyData.eqv]
  exact eqvAll_ints x y
theorem eqvAll_strs (x y : List (List Int)) : PyData.eqvAll (x.map pTup) (y.map pTup) = decide (x = y) := eqvAll_map eqv_pTup x y
theorem eqv_pair (a b : Int × Int) : PyData.eqv (.tuple [.int a.1, .int a.2]) (.tuple [.int b.1, .int b.2]) = decide (a = b) := by
  simp only [PyData.eqv, PyData.eqvAll, Bool.and_true]
  obtain ⟨a1, a2⟩ := a
  obtain ⟨b1, b2⟩ := b
  by_cases h : a1 = b1 <;> by_cases k : a2 = b2 <;> simp [h, k]
theorem eqvAll_pairs (x y : List (Int × Int)) : PyData.eqvAll (pPairs x) (pPairs y) = decide (x = y) := eqvAll_map (f := fun p : Int × Int => .tuple [.int p.1, .int p.2]) eqv_pair x y
theorem any_strs (ss : List (List Int)) (l : List Int) : ((ss.map pTup).any fun y => PyData.eqv y (pTup l)) = ss.contains l := by
  induction ss with
  | nil => rfl
  | cons a ss ih =>
    rw [List.map_cons, List.any_cons, ih, eqv_pTup, List.contains_cons]
    congr 1
    by_cases h : a = l
    · subst h; simp
    · rw [decide_eq_false h]
      exact (beq_eq_false_iff_ne.mpr fun e => h e.symm).symm

/-! branches -/
theorem br_t {x y : Prop} : br true x y = x := rfl
theorem br_f {x y : Prop} : br false x y = y := rfl
theorem br_i {b : Bool} {x y : Prop} (h : b = true → x) (k : b = false → y) : br b x y := by
  cases b
  · exact k rfl
  · exact h rfl
theorem oB_s {α : Type} {y : α} {k : α → Prop} : oB (some y) k = k y := rfl
theorem oB_i {α : Type} {o : Option α} {y : α} {k : α → Prop} (h : o = some y) (q : k y) : oB o k := by rw [h]; exact q
theorem seq_at {i : Int} {n : Nat} (h0 : 0 ≤ i) (h1 : i < n) : seqIndex? i n = some i.toNat := by
  unfold seqIndex?
  have e : (if i < 0 then i + (n : Int) else i) = i := if_neg (by (first | lia | omega))
  simp only [e]
  rw [if_pos (by simp [h0, h1])]
theorem seq_neg {n : Nat} (h1 : 0 < n) : seqIndex? (-1) n = some (n - 1) := by
  unfold seqIndex?
  have e : (if (-1 : Int) < 0 then -1 + (n : Int) else -1) = -1 + n := if_pos (by (first | lia | omega))
  simp only [e]
  rw [if_pos (by simp; (first | lia | omega))]
  congr 1
  (first | lia | omega)
theorem small {i : Int} (h0 : -1000 ≤ i) (h1 : i ≤ 2000000) : -(2 : Int) ^ 62 < i ∧ i < (2 : Int) ^ 62 := by
  constructor <;> (first | lia | omega)
theorem pInts_inj {a b : List Int} (h : pInts a = pInts b) : a = b := by
  have : a.map PyData.int = b.map PyData.int := PyData.list.inj h
  exact List.map_inj_right (fun x y e => PyData.int.inj e) |>.mp this
end Mine

set_option maxRecDepth 100000
namespace Mine
open PySem PySem.W PySem.Calls PyProof.Rows PySem.Spec
open PySem.W.Fast (sEq sEq_iff)

/-! ascending lists of bounds -/
theorem cnt_nil (x : Int) : cnt [] x = 0 := rfl
theorem cnt_cons (a : Int) (l : List Int) (x : Int) : cnt (a :: l) x = cnt l x + if a ≤ x then 1 else 0 := by
  unfold cnt
  rw [List.countP_cons]
  by_cases h : a ≤ x <;> simp [h]
theorem cnt_append (l k : List Int) (x : Int) : cnt (l ++ k) x = cnt l x + cnt k x := List.countP_append
theorem cnt_le (l : List Int) (x : Int) : cnt l x ≤ l.length := List.countP_le_length
theorem cnt_zero {l : List Int} {x : Int} (h : ∀ b ∈ l, x < b) : cnt l x = 0 := by
  unfold cnt
  refine List.countP_eq_zero.mpr fun b hb => ?_
  have := h b hb
  simp; (first | lia | omega)
theorem cnt_all {l : List Int} {x : Int} (h : ∀ b ∈ l, b ≤ x) : cnt l x = l.length := by
  unfold cnt
  refine List.countP_eq_length.mpr fun b hb => ?_
  have := h b hb
  simp; (first | lia | omega)
theorem asc_cons {a : Int} {l : List Int} (h : Asc (a :: l)) : (∀ b ∈ l, a < b) ∧ Asc l := List.pairwise_cons.mp h
/-- the count tells which of an ascending list's items lie below -/
theorem cnt_at : ∀ {l : List Int} {x : Int}, Asc l → ∀ {j : Nat} {b : Int}, l[j]? = some b → (b ≤ x ↔ j < cnt l x)
  | [], x, _, j, b, h => by simp at h
  | a :: l, x, ha, j, b, h => by
    obtain ⟨h1, h2⟩ := asc_cons ha
    rw [cnt_cons]
    cases j with
    | zero =>
      simp at h
      subst h
      by_cases k : a ≤ x
      · simp [k]
      · rw [cnt_zero fun b hb => by have := h1 b hb; (first | lia | omega)]
        simp [k]
    | succ j =>
      rw [List.getElem?_cons_succ] at h
      have ih := cnt_at (x := x) h2 h
      have hb := h1 b (List.mem_of_getElem? h)
      by_cases k : a ≤ x
      · rw [if_pos k]; (first | lia | omega)
      · rw [if_neg k, cnt_zero fun b hb => by have := h1 b hb; (first | lia | omega)]
        (first | lia | omega)
theorem cnt_get {l : List Int} {x : Int} {j : Nat} (h : j < l.length) : l[j]? = some l[j] := List.getElem?_eq_getElem h
/-- between two items the count stands still -/
theorem cnt_mid {l : List Int} {x y : Int} (ha : Asc l) (hxy : x ≤ y) (h : ∀ b, l[cnt l x]? = some b → y < b) : cnt l y = cnt l x := by
  have h1 : cnt l x ≤ cnt l y := List.countP_mono_left fun b _ hb => by simp at hb ⊢; (first | lia | omega)
  rcases Nat.lt_or_ge (cnt l x) (cnt l y) with k | k
  · have hl : cnt l x < l.length := Nat.lt_of_lt_of_le k (cnt_le l y)
    have e := cnt_get (x := x) hl
    have := h _ e
    have := (cnt_at (x := y) ha e).mpr k
    (first | lia | omega)
  · (first | lia | omega)
/-- at an item the count takes one step -/
theorem cnt_step {l : List Int} {x d : Int} (ha : Asc l) (hx : x < d) (h : l[cnt l x]? = some d) : cnt l d = cnt l x + 1 := by
  have hd : cnt l x < cnt l d := (cnt_at (x := d) ha h).mp (Int.le_refl _)
  rcases Nat.lt_or_ge (cnt l x + 1) (cnt l d) with k | k
  · have hl : cnt l x + 1 < l.length := Nat.lt_of_lt_of_le k (cnt_le l d)
    have e := cnt_get (x := x) hl
    have h1 := (cnt_at (x := d) ha e).mpr k
    have hl' : cnt l x < l.length := by (first | lia | omega)
    have e' : l[cnt l x] = d := by rw [List.getElem?_eq_getElem hl'] at h; exact Option.some.inj h
    have := List.pairwise_iff_getElem.mp ha (cnt l x) (cnt l x + 1) hl' hl (Nat.lt_succ_self _)
    (first | lia | omega)
  · (first | lia | omega)

theorem inB_nil (x : Int) : inB [] x = false := rfl
theorem parity (n : Nat) : ((n + 1) % 2 == 1) = !(n % 2 == 1) := by
  have : n % 2 = 0 ∨ n % 2 = 1 := by (first | lia | omega)
  rcases this with h | h
  · rw [h, show (n + 1) % 2 = 1 by (first | lia | omega)]; rfl
  · rw [h, show (n + 1) % 2 = 0 by (first | lia | omega)]; rfl
theorem asc_snoc {l : List Int} {d : Int} (h : Asc l) (k : ∀ b ∈ l, b < d) : Asc (l ++ [d]) := List.pairwise_append.mpr ⟨h, List.pairwise_singleton _ _, fun a ha b hb => by obtain rfl := List.mem_singleton.mp hb; exact k a ha⟩

/-- ascending lists that hold the same are the same -/
theorem inB_inj : ∀ {l k : List Int}, Asc l → Asc k → (∀ x, inB l x = inB k x) → l = k
  | [], [], _, _, _ => rfl
  | [], b :: k, _, hk, h => by
    obtain ⟨h1, h2⟩ := asc_cons hk
    have := h b
    unfold inB at this
    rw [cnt_nil, cnt_cons, cnt_zero h1, if_pos (Int.le_refl _)] at this
    cases this
  | a :: l, [], hl, _, h => by
    obtain ⟨h1, h2⟩ := asc_cons hl
    have := h a
    unfold inB at this
    rw [cnt_nil, cnt_cons, cnt_zero h1, if_pos (Int.le_refl _)] at this
    cases this
  | a :: l, b :: k, hl, hk, h => by
    obtain ⟨h1, h2⟩ := asc_cons hl
    obtain ⟨k1, k2⟩ := asc_cons hk
    have e : a = b := by
      rcases Int.lt_trichotomy a b with q | q | q
      · have := h a
        unfold inB at this
        rw [cnt_cons, cnt_cons, cnt_zero h1, if_pos (Int.le_refl _), cnt_zero (fun c hc => by have := k1 c hc; (first | lia | omega)), if_neg (by (first | lia | omega))] at this
        cases this
      · exact q
      · have := h b
        unfold inB at this
        rw [cnt_cons, cnt_cons, cnt_zero k1, if_pos (Int.le_refl _), cnt_zero (fun c hc => by have := h1 c hc; (first | lia | omega)), if_neg (by (first | lia | omega))] at this
        cases this
    subst e
    congr 1
    refine inB_inj h2 k2 fun x => ?_
    by_cases q : a ≤ x
    · have := h x
      unfold inB at this ⊢
      rw [cnt_cons, cnt_cons, if_pos q, parity, parity] at this
      exact Bool.not_inj this
    · unfold inB
      rw [cnt_zero (fun c hc => by have := h1 c hc; (first | lia | omega)), cnt_zero (fun c hc => by have := k1 c hc; (first | lia | omega))]
theorem IsB.inj {l k : List Int} {S T : Int → Bool} (a : IsB l S) (b : IsB k T) (h : ∀ x, S x = T x) : l = k := inB_inj a.asc b.asc fun x => by rw [a.is, b.is, h]

theorem wanted_ff (w : Str) : wanted w false false = false := by
  unfold wanted
  split
  · rfl
  · split
    · rfl
    · split <;> rfl

/-- the last stretch -/
theorem inB_last {F : List Int} {s e x : Int} (ha : Asc (F ++ [s, e])) (hev : F.length % 2 = 0) : inB (F ++ [s, e]) x = if x < s then inB F x else decide (x < e) := by
  obtain ⟨h1, h2, h3⟩ := List.pairwise_append.mp ha
  have hse : s < e := by have := asc_cons h2; exact this.1 e (.head _)
  unfold inB
  rw [cnt_append, cnt_cons, cnt_cons, cnt_nil]
  by_cases k : x < s
  · rw [if_pos k, if_neg (show ¬ s ≤ x by (first | lia | omega)), if_neg (show ¬ e ≤ x by (first | lia | omega))]
    rfl
  · rw [if_neg k, if_pos (show s ≤ x by (first | lia | omega)), cnt_all fun b hb => by have := h3 b hb s (.head _); (first | lia | omega)]
    by_cases q : x < e
    · rw [if_neg (show ¬ e ≤ x by (first | lia | omega)), decide_eq_true q]
      have : (F.length + (0 + 0 + 1)) % 2 = 1 := by (first | lia | omega)
      rw [this]; rfl
    · rw [if_pos (show e ≤ x by (first | lia | omega)), decide_eq_false q]
      have : (F.length + (0 + 1 + 1)) % 2 = 0 := by (first | lia | omega)
      rw [this]; rfl

theorem anyR_append (a b : List (Int × Int)) (x : Int) : anyR (a ++ b) x = (anyR a x || anyR b x) := List.any_append
theorem anyR_perm {a b : List (Int × Int)} (h : a.Perm b) (x : Int) : anyR a x = anyR b x := by
  unfold anyR
  rw [Bool.eq_iff_iff, List.any_eq_true, List.any_eq_true]
  exact ⟨fun ⟨p, hp, q⟩ => ⟨p, h.mem_iff.mp hp, q⟩, fun ⟨p, hp, q⟩ => ⟨p, h.mem_iff.mpr hp, q⟩⟩
theorem anyR_filter (a : List (Int × Int)) (x : Int) : anyR (a.filter fun p => decide (p.1 ≤ p.2)) x = anyR a x := by
  unfold anyR
  rw [Bool.eq_iff_iff, List.any_eq_true, List.any_eq_true]
  refine ⟨fun ⟨p, hp, q⟩ => ⟨p, (List.mem_filter.mp hp).1, q⟩, fun ⟨p, hp, q⟩ => ⟨p, List.mem_filter.mpr ⟨hp, ?_⟩, q⟩⟩
  simp only [Bool.and_eq_true, decide_eq_true_eq] at q ⊢
  (first | lia | omega)
end Mine

set_option maxRecDepth 100000
namespace Mine
open PySem PySem.W PySem.Calls PyProof.Rows PySem.Spec
open PySem.W.Fast (sEq sEq_iff)
section
variable {c : Cx} {K : Frag} {N : Nat}

theorem Wx.fn (X : Wx c K) (i : Nat) {a : Addr} {st : Stmt} (h : fnTab[i]? = some (a, st)) : fnSee K a = fnExp a st := X.fns _ (List.mem_of_getElem? h)

theorem k47 (X : Wx c K) : ∀ vs out Q, S47 vs out Q → CallOk c 1 47 vs out Q := by
  rintro vs out Q ⟨w, a, b, rfl, h⟩
  refine fn_call X.W X.lim (f47 (X.fn 3 rfl)) spNo_ok rfl rfl ((e47 w a b out Q).mpr ?_)
  unfold wanted at h
  change br (sEq w nmUnion) _ (br (sEq w nmBoth) _ (br (sEq w nmWithout) _ _))
  generalize sEq w nmUnion = u at h ⊢
  generalize sEq w nmBoth = u' at h ⊢
  generalize sEq w nmWithout = u'' at h ⊢
  cases u <;> cases u' <;> cases u'' <;> cases a <;> cases b <;> exact h

theorem k255 (X : Wx c K) : ∀ vs out Q, S255 vs out Q → CallOk c 1 255 vs out Q := by
  intro vs out Q h
  unfold S255 at h
  split at h
  · exact fn_call X.W X.lim (f255 (X.fn 23 rfl)) spNo_ok rfl rfl ((e255 out Q).mpr ⟨by decide, h⟩)
  · cases h
theorem k262 (X : Wx c K) : ∀ vs out Q, S262 vs out Q → CallOk c 1 262 vs out Q := by
  intro vs out Q h
  unfold S262 at h
  split at h
  · exact fn_call X.W X.lim (f262 (X.fn 24 rfl)) spNo_ok rfl rfl ((e262 out Q).mpr ⟨by decide, h⟩)
  · cases h

theorem k150 (X : Wx c K) : ∀ vs out Q, S150 vs out Q → CallOk c 2 150 vs out Q := by
  intro vs out Q h
  obtain ⟨m1, m2⟩ := Bool.and_eq_true_iff.mp X.m150
  obtain ⟨m2, m3⟩ := Bool.and_eq_true_iff.mp m2
  have F := f69 (X.fn 5 rfl) X.dfl
  unfold S150 at h
  split at h
  · exact cls_call X.W X.lim (N := 0) (dd := [.d .none]) F.2 (fun z => .cons Rd.none .nil) m1 (beq_iff_eq.mp m2) (beq_iff_eq.mp m3) spNo_ok rfl rfl fun dx => (e69b dx [] out Q).mpr ⟨rfl, Nat.zero_le _, ⟨rfl, by decide, by decide⟩, .inr (.inl ⟨[], rfl, rfl, h⟩)⟩
  · obtain ⟨b, rfl, h⟩ := h
    exact cls_call X.W X.lim (N := 0) (dd := []) F.1 (fun z => .nil) m1 (beq_iff_eq.mp m2) (beq_iff_eq.mp m3) spNo_ok rfl rfl fun dx => (e69a dx b out Q).mpr ⟨rfl, ⟨rfl, by decide, by decide⟩, .inr (.inl ⟨b, rfl, rfl, h⟩)⟩
theorem k185 (X : Wx c K) : ∀ vs out Q, S185 vs out Q → CallOk c 2 185 vs out Q := by
  rintro vs out Q ⟨b, ss, rfl, h⟩
  obtain ⟨m1, m2⟩ := Bool.and_eq_true_iff.mp X.m185
  obtain ⟨m2, m3⟩ := Bool.and_eq_true_iff.mp m2
  exact cls_call X.W X.lim (N := 0) (dd := []) (f168 (X.fn 13 rfl)) (fun z => .nil) m1 (beq_iff_eq.mp m2) (beq_iff_eq.mp m3) spNo_ok rfl rfl fun dx => (e168 dx b ss out Q).mpr ⟨rfl, ⟨rfl, by decide, by decide⟩, rfl, ⟨rfl, by decide, by decide⟩, .inr (.inr ⟨b, ss, rfl, rfl, h⟩)⟩
theorem k140 (X : Wx c K) : ∀ vs out Q, S140 vs out Q → CallOk c 1 140 vs out Q := by
  rintro vs out Q ⟨b, b', rfl, hp, h⟩
  refine fn_call X.W X.lim (f140 (X.fn 12 rfl)) spNo_ok rfl rfl ((e140 b b' out Q).mpr ⟨⟨sh_pInts.shaped, sh_pInts.shaped⟩, ?_⟩)
  rw [eqvAll_ints]; exact h
theorem k28 (X : Wx c K) : ∀ vs out Q, S28 vs out Q → CallOk c 1 28 vs out Q := by
  rintro vs out Q ⟨l, x, rfl, ⟨hl, ha⟩, h⟩
  have hc := cnt_le l x
  refine fn_call X.W X.lim (f28 (X.fn 0 rfl)) spNo_ok rfl rfl ((e28 l x (fun a n => ∃ lo hi : Nat, a.1 = lo ∧ a.2.1 = hi ∧ lo ≤ cnt l x ∧ cnt l x ≤ hi ∧ hi ≤ l.length ∧ n = hi - lo) out Q).mpr ⟨by simpa using hl, (0, l.length, none), l.length, by simp, ⟨0, l.length, rfl, rfl, Nat.zero_le _, hc, Nat.le_refl _, rfl⟩, ?_⟩)
  refine pe3 fun a1 a2 a3 n z1 => xe2 z1 fun lo hi z2 => ae6 z2 fun e1 e2 h1 h2 h3 en => ?_
  clear z1 z2
  dsimp only at e1 e2
  subst e1; subst e2; subst en
  refine br_i (fun q => ?_) fun q => ?_
  · have q : (lo : Int) < hi := of_decide_eq_true q
    have e : ((lo : Int) + hi).fdiv 2 = ((lo + hi) / 2 : Nat) := by
      rw [Int.fdiv_eq_ediv_of_nonneg _ (by decide)]; (first | lia | omega)
    have k1 : (lo + hi) / 2 < l.length := by (first | lia | omega)
    dsimp only
    rw [e]
    refine ⟨⟨by decide, by decide⟩, small (by (first | lia | omega)) (by (first | lia | omega)), oB_i (seq_at (by (first | lia | omega)) (by simp; (first | lia | omega))) (oB_i (y := .int l[(lo + hi) / 2]) (by rw [Int.toNat_natCast, List.getElem?_map, List.getElem?_eq_getElem k1]; rfl) ?_)⟩
    have hk := cnt_at (x := x) ha (List.getElem?_eq_getElem k1)
    refine br_i (fun r => ?_) fun r => ?_
    · have r := hk.mp (of_decide_eq_true r)
      exact ⟨((((lo + hi) / 2 : Nat) : Int) + 1, hi, _), hi - ((lo + hi) / 2 + 1), rfl, by (first | lia | omega), (lo + hi) / 2 + 1, hi, by simp, rfl, by (first | lia | omega), h2, h3, rfl⟩
    · have r : ¬ _ := fun z => of_decide_eq_false r (hk.mpr z)
      exact ⟨(lo, (((lo + hi) / 2 : Nat) : Int), _), (lo + hi) / 2 - lo, rfl, by (first | lia | omega), lo, (lo + hi) / 2, rfl, rfl, h1, by (first | lia | omega), by (first | lia | omega), rfl⟩
  · have q : ¬ (lo : Int) < hi := of_decide_eq_false q
    have : lo = cnt l x := by (first | lia | omega)
    subst this
    exact h
theorem k86 (X : Wx c K) : ∀ vs out Q, S86 vs out Q → CallOk c 2 86 vs out Q := by
  rintro vs out Q ⟨b, x, rfl, hb, h⟩
  refine fn_call X.W X.lim (f86 (X.fn 7 rfl)) (spOn_ok (k28 X) spNo_ok) rfl rfl ((e86 b x out Q).mpr ⟨b, x, rfl, ⟨by have := hb.le; (first | lia | omega), hb.asc⟩, by decide, ?_⟩)
  have e : (((cnt b x : Int) - 1).fmod 2 == 0) = inB b x := by
    unfold inB
    rw [Int.fmod_eq_emod_of_nonneg _ (by decide)]
    have : cnt b x % 2 = 0 ∨ cnt b x % 2 = 1 := by (first | lia | omega)
    rcases this with q | q
    · rw [q, show ((cnt b x : Int) - 1) % 2 = 1 by (first | lia | omega)]; rfl
    · rw [q, show ((cnt b x : Int) - 1) % 2 = 0 by (first | lia | omega)]; rfl
  rw [← e] at h
  exact h
end
end Mine

set_option maxRecDepth 100000
namespace Mine
open PySem PySem.W PySem.Calls PyProof.Rows PySem.Spec
open PySem.W.Fast (sEq sEq_iff)
section
variable {c : Cx} {K : Frag} {N : Nat}

theorem get_f {α : Type} {f : α → PyData} {A : List α} {i : Nat} {x : α} {k : PyData → Prop} (h : A[i]? = some x) (hl : A.length ≤ 1000) (q : k (f x)) : (-(2 : Int) ^ 62 < (i : Int) ∧ (i : Int) < (2 : Int) ^ 62) ∧ oB (seqIndex? (i : Int) (A.map f).length) fun j => oB (A.map f)[j]? k := by
  have hi : i < A.length := (List.getElem?_eq_some_iff.mp h).1
  exact ⟨small (by (first | lia | omega)) (by (first | lia | omega)), oB_i (seq_at (by (first | lia | omega)) (by rw [List.length_map]; (first | lia | omega))) (oB_i (by rw [Int.toNat_natCast, List.getElem?_map, h]; rfl) q)⟩
theorem get_ok {A : List Int} {i : Nat} {x : Int} {k : PyData → Prop} (h : A[i]? = some x) (hl : A.length ≤ 1000) (q : k (.int x)) : (-(2 : Int) ^ 62 < (i : Int) ∧ (i : Int) < (2 : Int) ^ 62) ∧ oB (seqIndex? (i : Int) (A.map PyData.int).length) fun j => oB (A.map PyData.int)[j]? k := get_f h hl q
theorem fmod_par (n : Nat) : ((n : Int).fmod 2 == 1) = (n % 2 == 1) := by
  rw [Int.fmod_eq_emod_of_nonneg _ (by decide)]
  have : n % 2 = 0 ∨ n % 2 = 1 := by (first | lia | omega)
  rcases this with q | q
  · rw [q, show (n : Int) % 2 = 0 by (first | lia | omega)]; rfl
  · rw [q, show (n : Int) % 2 = 1 by (first | lia | omega)]; rfl
theorem below : ∀ l : List Int, ∃ c, ∀ b ∈ l, c < b
  | [] => ⟨0, fun _ h => nomatch h⟩
  | a :: l => by
    obtain ⟨c, h⟩ := below l
    refine ⟨min c (a - 1), fun b hb => ?_⟩
    rcases List.mem_cons.mp hb with rfl | hb
    · (first | lia | omega)
    · have := h b hb; (first | lia | omega)
theorem cnt_mono (l : List Int) {x y : Int} (h : x ≤ y) : cnt l x ≤ cnt l y := List.countP_mono_left fun b _ hb => by simp at hb ⊢; (first | lia | omega)
theorem cnt_past {l : List Int} {x d : Int} (ha : Asc l) (hx : x < d) (h : ∀ b, l[cnt l x]? = some b → d ≤ b) : cnt l d = cnt l x + if l[cnt l x]? = some d then 1 else 0 := by
  by_cases q : l[cnt l x]? = some d
  · rw [if_pos q, cnt_step ha hx q]
  · rw [if_neg q]
    exact cnt_mid ha (by (first | lia | omega)) fun b hb => by
      have := h b hb
      rcases Int.lt_or_eq_of_le this with k | k
      · exact k
      · subst k; exact absurd hb q
theorem cnt_btw {l : List Int} {x y d : Int} (ha : Asc l) (hxy : x ≤ y) (hy : y < d) (h : ∀ b, l[cnt l x]? = some b → d ≤ b) : cnt l y = cnt l x := cnt_mid ha hxy fun b hb => by have := h b hb; (first | lia | omega)

/-- where the merging stands: all bounds up to `c` are worked in -/
structure MgI (A B : List Int) (w : Str) (F : List Int) (i j : Nat) (isin : Bool) (c : Int) : Prop where
  ei : i = cnt A c
  ej : j = cnt B c
  isin : isin = wanted w (inB A c) (inB B c)
  asc : Asc F
  le : ∀ b ∈ F, b ≤ c
  is : ∀ x, x ≤ c → inB F x = wanted w (inB A x) (inB B x)
  len : F.length ≤ i + j

theorem MgI.step {A B F : List Int} {w : Str} {i j : Nat} {isin : Bool} {c d : Int} (I : MgI A B w F i j isin c) (hA : Asc A) (hB : Asc B) (hcd : c < d) (qA : ∀ b, A[i]? = some b → d ≤ b) (qB : ∀ b, B[j]? = some b → d ≤ b) (hor : A[i]? = some d ∨ B[j]? = some d) :
    (wanted w (inB A d) (inB B d) = isin → MgI A B w F (cnt A d) (cnt B d) isin d) ∧ (wanted w (inB A d) (inB B d) ≠ isin → MgI A B w (F ++ [d]) (cnt A d) (cnt B d) (wanted w (inB A d) (inB B d)) d) ∧
    A.length - cnt A d + (B.length - cnt B d) < A.length - i + (B.length - j) := by
  obtain ⟨hi, hj, hs, asc, le, is, len⟩ := I
  have eA := cnt_past hA hcd (hi ▸ qA)
  have eB := cnt_past hB hcd (hj ▸ qB)
  rw [← hi] at eA
  rw [← hj] at eB
  have inF : ∀ x, c ≤ x → inB F x = isin := fun x hx => by
    have e : cnt F x = cnt F c := by rw [cnt_all fun b hb => by have := le b hb; (first | lia | omega), cnt_all le]
    unfold inB
    rw [e]
    have := is c (Int.le_refl _)
    rw [← hs] at this
    exact this
  have mid : ∀ x, c ≤ x → x < d → wanted w (inB A x) (inB B x) = isin := fun x h1 h2 => by
    have e1 : inB A x = inB A c := by unfold inB; rw [cnt_btw hA h1 h2 (hi ▸ qA)]
    have e2 : inB B x = inB B c := by unfold inB; rw [cnt_btw hB h1 h2 (hj ▸ qB)]
    rw [e1, e2, hs]
  have lt : 1 ≤ (if A[i]? = some d then 1 else 0) + (if B[j]? = some d then 1 else 0) := by
    rcases hor with q | q
    · rw [if_pos q]; (first | lia | omega)
    · rw [if_pos q]; (first | lia | omega)
  have one : ∀ {p : Prop} [Decidable p], (if p then 1 else 0) ≤ 1 := fun {p} _ => by split <;> decide
  have oA := one (p := A[i]? = some d)
  have oB := one (p := B[j]? = some d)
  generalize (if A[i]? = some d then 1 else 0) = pa at eA lt oA
  generalize (if B[j]? = some d then 1 else 0) = pb at eB lt oB
  refine ⟨fun q => ⟨rfl, rfl, q.symm, asc, fun b hb => by have := le b hb; (first | lia | omega), fun x hx => ?_, by (first | lia | omega)⟩, fun q => ⟨rfl, rfl, rfl, asc_snoc asc fun b hb => by have := le b hb; (first | lia | omega), fun b hb => ?_, fun x hx => ?_, ?_⟩, ?_⟩
  · rcases Int.lt_or_le c x with k | k
    · rw [inF x (by (first | lia | omega))]
      rcases Int.lt_or_eq_of_le hx with r | r
      · exact (mid x (by (first | lia | omega)) r).symm
      · subst r; exact q.symm
    · exact is x k
  · rcases List.mem_append.mp hb with r | r
    · have := le b r; (first | lia | omega)
    · obtain rfl := List.mem_singleton.mp r; exact Int.le_refl _
  · have e : inB (F ++ [d]) x = if d ≤ x then !inB F x else inB F x := by
      unfold inB
      rw [cnt_append, cnt_cons, cnt_nil]
      by_cases r : d ≤ x
      · rw [if_pos r, if_pos r, Nat.zero_add, parity]
      · rw [if_neg r, if_neg r]; rfl
    rw [e]
    rcases Int.lt_or_le c x with k | k
    · rcases Int.lt_or_eq_of_le hx with r | r
      · rw [if_neg (by (first | lia | omega)), inF x (by (first | lia | omega))]
        exact (mid x (by (first | lia | omega)) r).symm
      · subst r
        rw [if_pos (Int.le_refl _), inF x (by (first | lia | omega))]
        revert q
        cases wanted w (inB A x) (inB B x) <;> cases isin <;> simp
    · rw [if_neg (by (first | lia | omega))]
      exact is x k
  · rw [List.length_append, List.length_singleton]; (first | lia | omega)
  · have h1 := cnt_le A d
    have h2 := cnt_le B d
    (first | lia | omega)

noncomputable def leAt (A B : List Int) (i j : Nat) : Bool := match A[i]?, B[j]? with
  | some x, some y => decide (x ≤ y)
  | _, _ => false
/-- the next bound of two lists -/
inductive NextB (A B : List Int) (i j : Nat) (c : Int) (t : Bool) : Prop
  | mk (d : Int) (h1 : c < d) (h2 : ∀ b, A[i]? = some b → d ≤ b) (h3 : ∀ b, B[j]? = some b → d ≤ b) (h4 : A[i]? = some d ∨ B[j]? = some d) (h5 : t = true → A[i]? = some d) (h6 : t = false → B[j]? = some d) : NextB A B i j c t
theorem next_b {A B : List Int} {i j : Nat} {c : Int} (hlt : i < A.length ∨ j < B.length) (gA : ∀ {x}, A[i]? = some x → c < x) (gB : ∀ {x}, B[j]? = some x → c < x) :
    NextB A B i j c (decide (Int.ofNat B.length ≤ (j : Int)) || (decide ((i : Int) < Int.ofNat A.length) && leAt A B i j)) := by
  by_cases q1 : j < B.length
  · have v1 := List.getElem?_eq_getElem q1
    have n1 : decide (Int.ofNat B.length ≤ (j : Int)) = false := decide_eq_false (by show ¬ ((B.length : Int) ≤ j); (first | lia | omega))
    by_cases q2 : i < A.length
    · have v2 := List.getElem?_eq_getElem q2
      have n2 : decide ((i : Int) < Int.ofNat A.length) = true := decide_eq_true (by show (i : Int) < (A.length : Int); (first | lia | omega))
      have eb : leAt A B i j = decide (A[i] ≤ B[j]) := by unfold leAt; rw [v1, v2]
      rw [n1, n2, eb]
      by_cases q3 : A[i] ≤ B[j]
      · exact ⟨A[i], gA v2, fun b hb => by rw [v2] at hb; cases hb; exact Int.le_refl _, fun b hb => by rw [v1] at hb; cases hb; exact q3, .inl v2, fun _ => v2, fun z => by simp [q3] at z⟩
      · exact ⟨B[j], gB v1, fun b hb => by rw [v2] at hb; cases hb; (first | lia | omega), fun b hb => by rw [v1] at hb; cases hb; exact Int.le_refl _, .inr v1, fun z => by simp [q3] at z, fun _ => v1⟩
    · have v2 : A[i]? = none := List.getElem?_eq_none (by (first | lia | omega))
      have n2 : decide ((i : Int) < Int.ofNat A.length) = false := decide_eq_false (by show ¬ ((i : Int) < (A.length : Int)); (first | lia | omega))
      rw [n1, n2]
      exact ⟨B[j], gB v1, fun b hb => (by rw [v2] at hb; cases hb), fun b hb => by rw [v1] at hb; cases hb; exact Int.le_refl _, .inr v1, fun z => by simp at z, fun _ => v1⟩
  · have v1 : B[j]? = none := List.getElem?_eq_none (by (first | lia | omega))
    have n1 : decide (Int.ofNat B.length ≤ (j : Int)) = true := decide_eq_true (by show (B.length : Int) ≤ j; (first | lia | omega))
    have q2 : i < A.length := by (first | lia | omega)
    have v2 := List.getElem?_eq_getElem q2
    rw [n1]
    exact ⟨A[i], gA v2, fun b hb => by rw [v2] at hb; cases hb; exact Int.le_refl _, fun b hb => (by rw [v1] at hb; cases hb), .inl v2, fun _ => v2, fun z => by simp at z⟩
theorem k54 (X : Wx c K) : ∀ vs out Q, S54 vs out Q → CallOk c 2 54 vs out Q := by
  rintro vs out Q ⟨A, B, w, rfl, ⟨okA, okB⟩, h⟩
  have lA : A.length ≤ 1000 := by have := okA.le; (first | lia | omega)
  have lB : B.length ≤ 1000 := by have := okB.le; (first | lia | omega)
  have mA : (A.map PyData.int).length = A.length := List.length_map ..
  have mB : (B.map PyData.int).length = B.length := List.length_map ..
  refine fn_call X.W X.lim (f54 (X.fn 4 rfl)) (spOn_ok (k47 X) spNo_ok) rfl rfl ((e54 A B w (fun a n => ∃ (i j : Nat) (c : Int), a.2.2.1 = i ∧ a.2.2.2.1 = j ∧ MgI A B w a.2.1 i j a.2.2.2.2.1 c ∧ n = A.length - i + (B.length - j)) out Q).mpr ⟨Nat.zero_le _, fun ad => ?_⟩)
  obtain ⟨c₀, hc₀⟩ := below (A ++ B)
  have zA : cnt A c₀ = 0 := cnt_zero fun b hb => hc₀ b (List.mem_append_left _ hb)
  have zB : cnt B c₀ = 0 := cnt_zero fun b hb => hc₀ b (List.mem_append_right _ hb)
  have z : ∀ x, x ≤ c₀ → wanted w (inB A x) (inB B x) = false := fun x hx => by
    have z1 := cnt_mono A hx
    have z2 := cnt_mono B hx
    have e1 : inB A x = false := by unfold inB; rw [show cnt A x = 0 by (first | lia | omega)]; rfl
    have e2 : inB B x = false := by unfold inB; rw [show cnt B x = 0 by (first | lia | omega)]; rfl
    rw [e1, e2, wanted_ff]
  refine ⟨(ad, [], 0, 0, false, none, none), A.length + B.length, rfl, ⟨0, 0, c₀, rfl, rfl, ⟨zA.symm, zB.symm, (z _ (Int.le_refl _)).symm, .nil, fun _ h => (nomatch h), fun x hx => (z x hx).symm, Nat.zero_le _⟩, rfl⟩, ?_⟩
  refine pe7 fun ad F i' j' isin bd nx n z1 => xe3 z1 fun i j c z2 => ae4 z2 fun e1 e2 I en => ?_
  clear z1 z2
  dsimp only at e1 e2 I ⊢
  subst e1; subst e2; subst en
  rw [mA, mB]
  have lF : F.length ≤ 1000 := by have := I.len; have := cnt_le A c; have := cnt_le B c; have := I.ei; have := I.ej; have := okA.le; have := okB.le; (first | lia | omega)
  refine ⟨lA, decide ((j : Int) < Int.ofNat B.length), fun _ => ⟨lB, rfl, rfl⟩, br_i (fun t => ?_) fun t => ?_⟩
  · skip
    have hlt : i < A.length ∨ j < B.length := by
      rcases Bool.or_eq_true_iff.mp t with q | q
      · have : (i : Int) < (A.length : Int) := of_decide_eq_true q
        left; (first | lia | omega)
      · have : (j : Int) < (B.length : Int) := of_decide_eq_true q
        right; (first | lia | omega)
    have gA : ∀ {x}, A[i]? = some x → c < x := fun {x} hx => by
      rcases Int.lt_or_le c x with k | k
      · exact k
      · have := (cnt_at okA.asc hx).mp k; have := I.ei; (first | lia | omega)
    have gB : ∀ {x}, B[j]? = some x → c < x := fun {x} hx => by
      rcases Int.lt_or_le c x with k | k
      · exact k
      · have := (cnt_at okB.asc hx).mp k; have := I.ej; (first | lia | omega)
    obtain ⟨d, hcd, qA, qB, hor, tt, tf⟩ := next_b hlt gA gB
    have S := I.step okA.asc okB.asc hcd qA qB hor
    have eA := cnt_past okA.asc hcd (I.ei ▸ qA)
    have eB := cnt_past okB.asc hcd (I.ej ▸ qB)
    rw [← I.ei] at eA
    rw [← I.ej] at eB
    refine ⟨lB, xa (decide ((i : Int) < Int.ofNat A.length) && leAt A B i j) (fun hb => ⟨lA, leAt A B i j, fun ha => ?_, rfl, rfl⟩) (xa d (br_i (fun t => ?_) (fun t => ?_)) ⟨lA, xa (decide (A[i]? = some d)) (fun ha => ?_) (xa (cnt A d : Int) (br_i (fun t => ⟨trivial, ?_, rfl⟩) (fun t => ⟨trivial, ?_, rfl⟩)) ⟨lB, xa (decide (B[j]? = some d)) (fun ha => ?_) (xa (cnt B d : Int) (br_i (fun t => ⟨trivial, ?_, rfl⟩) (fun t => ⟨trivial, ?_, rfl⟩)) ⟨by decide, by decide, xi3 w _ _ ⟨rfl, ?_⟩⟩)⟩)⟩)⟩
    · have q1 : i < A.length := by have : (i : Int) < (A.length : Int) := of_decide_eq_true ha; (first | lia | omega)
      have q2 : j < B.length := by have : ¬ ((B.length : Int) ≤ j) := of_decide_eq_false hb; (first | lia | omega)
      have v1 := List.getElem?_eq_getElem q1
      have v2 := List.getElem?_eq_getElem q2
      have g1 := get_ok (k := fun y => (-(2 : Int) ^ 62 < (j : Int) ∧ (j : Int) < (2 : Int) ^ 62) ∧ oB (seqIndex? (j : Int) (B.map PyData.int).length) fun jj => oB (B.map PyData.int)[jj]? fun y_1 => vInt (V.d y) fun x => vInt (V.d y_1) fun y => decide (x ≤ y) = leAt A B i j ∧ G.mk [(ad, AO.list (List.map PyData.int F))] out = G.mk [(ad, AO.list (List.map PyData.int F))] out) v1 lA (get_ok v2 lB ⟨by unfold leAt; rw [v1, v2], rfl⟩)
      rw [mA, mB] at g1
      exact g1
    · have g1 := get_ok (k := fun y => True ∧ [(Str.ofString "near", false, some (V.d (pInts A))), (Str.ofString "far", false, some (V.d (pInts B))), (Str.ofString "way", false, some (V.d (PyData.str w))), (Str.ofString "found", false, some (V.loc true 0 ad)), (Str.ofString "at", false, some (V.d (PyData.int i))), (Str.ofString "beside", false, some (V.d (PyData.int j))), (Str.ofString "is_in", false, some (V.d (PyData.bool isin))), (Str.ofString "bound", false, some (V.d y)), (Str.ofString "is_next", false, nx)] = [(Str.ofString "near", false, some (V.d (pInts A))), (Str.ofString "far", false, some (V.d (pInts B))), (Str.ofString "way", false, some (V.d (PyData.str w))), (Str.ofString "found", false, some (V.loc true 0 ad)), (Str.ofString "at", false, some (V.d (PyData.int i))), (Str.ofString "beside", false, some (V.d (PyData.int j))), (Str.ofString "is_in", false, some (V.d (PyData.bool isin))), (Str.ofString "bound", false, some (V.d (PyData.int d))), (Str.ofString "is_next", false, nx)] ∧ G.mk [(ad, AO.list (List.map PyData.int F))] out = G.mk [(ad, AO.list (List.map PyData.int F))] out) (tt t) lA ⟨trivial, rfl, rfl⟩
      rw [mA] at g1
      exact g1
    · have g1 := get_ok (k := fun y => True ∧ [(Str.ofString "near", false, some (V.d (pInts A))), (Str.ofString "far", false, some (V.d (pInts B))), (Str.ofString "way", false, some (V.d (PyData.str w))), (Str.ofString "found", false, some (V.loc true 0 ad)), (Str.ofString "at", false, some (V.d (PyData.int i))), (Str.ofString "beside", false, some (V.d (PyData.int j))), (Str.ofString "is_in", false, some (V.d (PyData.bool isin))), (Str.ofString "bound", false, some (V.d y)), (Str.ofString "is_next", false, nx)] = [(Str.ofString "near", false, some (V.d (pInts A))), (Str.ofString "far", false, some (V.d (pInts B))), (Str.ofString "way", false, some (V.d (PyData.str w))), (Str.ofString "found", false, some (V.loc true 0 ad)), (Str.ofString "at", false, some (V.d (PyData.int i))), (Str.ofString "beside", false, some (V.d (PyData.int j))), (Str.ofString "is_in", false, some (V.d (PyData.bool isin))), (Str.ofString "bound", false, some (V.d (PyData.int d))), (Str.ofString "is_next", false, nx)] ∧ G.mk [(ad, AO.list (List.map PyData.int F))] out = G.mk [(ad, AO.list (List.map PyData.int F))] out) (tf t) lB ⟨trivial, rfl, rfl⟩
      rw [mB] at g1
      exact g1
    · have q1 : i < A.length := by have : (i : Int) < (A.length : Int) := of_decide_eq_true ha; (first | lia | omega)
      have v1 := List.getElem?_eq_getElem q1
      have g1 := get_ok (k := fun y => vEq (V.d y) (V.d (PyData.int d)) (G.mk [(ad, AO.list (List.map PyData.int F))] out) fun c => c = decide (A[i]? = some d) ∧ G.mk [(ad, AO.list (List.map PyData.int F))] out = G.mk [(ad, AO.list (List.map PyData.int F))] out) v1 lA ⟨by rw [v1, Bool.eq_iff_iff]; simp, rfl⟩
      rw [mA] at g1
      exact g1
    · obtain ⟨_, q⟩ := Bool.and_eq_true_iff.mp t
      rw [if_pos (of_decide_eq_true q)] at eA
      rw [show (cnt A d : Int) = i + 1 by (first | lia | omega)]
    · have q : ¬ A[i]? = some d := fun q => by
        have q1 : i < A.length := (List.getElem?_eq_some_iff.mp q).1
        rw [decide_eq_true q, decide_eq_true (show (i : Int) < Int.ofNat A.length by show (i : Int) < (A.length : Int); (first | lia | omega))] at t
        cases t
      rw [if_neg q] at eA
      rw [show (cnt A d : Int) = i by (first | lia | omega)]
    · have q1 : j < B.length := by have : (j : Int) < (B.length : Int) := of_decide_eq_true ha; (first | lia | omega)
      have v1 := List.getElem?_eq_getElem q1
      have g1 := get_ok (k := fun y => vEq (V.d y) (V.d (PyData.int d)) (G.mk [(ad, AO.list (List.map PyData.int F))] out) fun c => c = decide (B[j]? = some d) ∧ G.mk [(ad, AO.list (List.map PyData.int F))] out = G.mk [(ad, AO.list (List.map PyData.int F))] out) v1 lB ⟨by rw [v1, Bool.eq_iff_iff]; simp, rfl⟩
      rw [mB] at g1
      exact g1
    · obtain ⟨_, q⟩ := Bool.and_eq_true_iff.mp t
      rw [if_pos (of_decide_eq_true q)] at eB
      rw [show (cnt B d : Int) = j + 1 by (first | lia | omega)]
    · have q : ¬ B[j]? = some d := fun q => by
        have q1 : j < B.length := (List.getElem?_eq_some_iff.mp q).1
        rw [decide_eq_true q, decide_eq_true (show (j : Int) < Int.ofNat B.length by show (j : Int) < (B.length : Int); (first | lia | omega))] at t
        cases t
      rw [if_neg q] at eB
      rw [show (cnt B d : Int) = j by (first | lia | omega)]
    · rw [fmod_par, fmod_par]
      refine br_i (fun t => ⟨rfl, rfl, by rw [List.length_map]; exact lF, (ad, F ++ [d], _, _, _, _, _), _, by rw [List.map_append]; rfl, S.2.2, _, _, d, rfl, rfl, S.2.1 ?_, rfl⟩) fun t => ⟨(ad, F, _, _, _, _, _), _, rfl, S.2.2, _, _, d, rfl, rfl, S.1 ?_, rfl⟩
      · intro q
        have q' : wanted w (cnt A d % 2 == 1) (cnt B d % 2 == 1) = isin := q
        rw [q'] at t
        simp at t
      · have t0 : (!(wanted w (inB A d) (inB B d) == isin)) = false := t
        simpa using t0
  · have q1 : ¬ i < A.length := fun q => by
      rw [decide_eq_true (show (i : Int) < Int.ofNat A.length by show (i : Int) < (A.length : Int); (first | lia | omega))] at t
      cases t
    have q2 : ¬ j < B.length := fun q => by
      rw [decide_eq_true (show (j : Int) < Int.ofNat B.length by show (j : Int) < (B.length : Int); (first | lia | omega)), Bool.or_true] at t
      cases t
    have e1 : cnt A c = A.length := by have := cnt_le A c; have := I.ei; (first | lia | omega)
    have e2 : cnt B c = B.length := by have := cnt_le B c; have := I.ej; (first | lia | omega)
    have p1 : inB A c = false := by unfold inB; rw [e1, okA.ev]; rfl
    have p2 : inB B c = false := by unfold inB; rw [e2, okB.ev]; rfl
    have hs := I.isin
    rw [p1, p2, wanted_ff] at hs
    have hF : inB F c = false := by rw [I.is c (Int.le_refl _), p1, p2, wanted_ff]
    have hev : F.length % 2 = 0 := by
      unfold inB at hF
      rw [cnt_all I.le] at hF
      rcases Nat.mod_two_eq_zero_or_one F.length with r | r
      · exact r
      · rw [r] at hF; cases hF
    refine ⟨rfl, h F ⟨⟨I.asc, hev, fun x => ?_⟩, ?_⟩⟩
    · rcases Int.lt_or_le c x with k | k
      · have r1 : inB F x = false := by
          unfold inB
          rw [cnt_all fun b hb => by have := I.le b hb; (first | lia | omega), hev]; rfl
        have m1 := cnt_mono A (Int.le_of_lt k)
        have m2 := cnt_le A x
        have m3 := cnt_mono B (Int.le_of_lt k)
        have m4 := cnt_le B x
        have r2 : inB A x = false := by unfold inB; rw [show cnt A x = A.length by (first | lia | omega), okA.ev]; rfl
        have r3 : inB B x = false := by unfold inB; rw [show cnt B x = B.length by (first | lia | omega), okB.ev]; rfl
        rw [r1, r2, r3, wanted_ff]
      · exact I.is x k
    · have := I.len; have := I.ei; have := I.ej; have := cnt_le A c; have := cnt_le B c; (first | lia | omega)
end
end Mine

set_option maxRecDepth 100000
namespace Mine
open PySem PySem.W PySem.Calls PyProof.Rows PySem.Spec
open PySem.W.Fast (sEq sEq_iff)
section
variable {c : Cx} {K : Frag} {N : Nat}

theorem snoc2 : ∀ F : List Int, F.length % 2 = 0 → F = [] ∨ ∃ F0 s e, F = F0 ++ [s, e] ∧ F0.length % 2 = 0
  | [], _ => .inl rfl
  | [a], h => by simp at h
  | a :: b :: r, h => by
    rcases snoc2 r (by simp at h; (first | lia | omega)) with rfl | ⟨F0, s, e, rfl, h0⟩
    · exact .inr ⟨[], a, b, rfl, rfl⟩
    · exact .inr ⟨a :: b :: F0, s, e, rfl, by simp; (first | lia | omega)⟩

/-- where the making of bounds stands -/
structure RbI (dn : List (Int × Int)) (F : List Int) : Prop where
  asc : Asc F
  ev : F.length % 2 = 0
  is : ∀ x, inB F x = anyR dn x
  len : F.length ≤ 2 * dn.length
  st : ∀ F0 s e, F = F0 ++ [s, e] → ∃ p ∈ dn, p.1 = s

theorem anyR_one (p : Int × Int) (x : Int) : anyR [p] x = (decide (p.1 ≤ x) && decide (x ≤ p.2)) := by
  unfold anyR; rw [List.any_cons, List.any_nil, Bool.or_false]
theorem app2_inj {F0 G0 : List Int} {s e s' e' : Int} (h : F0 ++ [s, e] = G0 ++ [s', e']) : F0 = G0 ∧ s = s' ∧ e = e' := by
  have := List.append_inj_left' h rfl
  subst this
  have := List.append_cancel_left h
  cases this
  exact ⟨rfl, rfl, rfl⟩

theorem RbI.more {dn : List (Int × Int)} {F : List Int} {p : Int × Int} (I : RbI dn F) (hp : p.1 ≤ p.2) (h : ∀ b ∈ F, b < p.1) : RbI (dn ++ [p]) (F ++ [p.1, p.2 + 1]) := by
  have ha : Asc (F ++ [p.1, p.2 + 1]) := List.pairwise_append.mpr ⟨I.asc, List.pairwise_cons.mpr ⟨fun b hb => by obtain rfl := List.mem_singleton.mp hb; (first | lia | omega), List.pairwise_singleton _ _⟩, fun a ha b hb => by
    have := h a ha
    rcases List.mem_cons.mp hb with rfl | hb
    · exact this
    · obtain rfl := List.mem_singleton.mp hb; (first | lia | omega)⟩
  refine ⟨ha, by simp; have := I.ev; (first | lia | omega), fun x => ?_, by simp; have := I.len; (first | lia | omega), fun F0 s e q => ⟨p, by simp, ?_⟩⟩
  · rw [inB_last ha I.ev, anyR_append, ← I.is, anyR_one]
    by_cases k : x < p.1
    · rw [if_pos k, decide_eq_false (show ¬ p.1 ≤ x by (first | lia | omega)), Bool.false_and, Bool.or_false]
    · rw [if_neg k, decide_eq_true (show p.1 ≤ x by (first | lia | omega)), Bool.true_and]
      have : inB F x = false := by
        unfold inB
        rw [cnt_all fun b hb => by have := h b hb; (first | lia | omega), I.ev]; rfl
      rw [this, Bool.false_or, Bool.eq_iff_iff, decide_eq_true_iff, decide_eq_true_iff]
      (first | lia | omega)
  · exact (app2_inj q).2.1
theorem RbI.grow {dn : List (Int × Int)} {F0 : List Int} {s e : Int} {p : Int × Int} (I : RbI dn (F0 ++ [s, e])) (h0 : F0.length % 2 = 0) (hp : p.1 ≤ p.2) (hs : s ≤ p.1) (he : p.1 ≤ e) : RbI (dn ++ [p]) (F0 ++ [s, if e < p.2 + 1 then p.2 + 1 else e]) := by
  obtain ⟨h1, h2, h3⟩ := List.pairwise_append.mp I.asc
  have hse : s < e := (asc_cons h2).1 e (.head _)
  generalize hm : (if e < p.2 + 1 then p.2 + 1 else e) = m
  have m1 : e ≤ m := by subst hm; split <;> omega
  have m2 : p.2 + 1 ≤ m := by subst hm; split <;> omega
  have m3 : m = e ∨ m = p.2 + 1 := by subst hm; split <;> simp
  have ha : Asc (F0 ++ [s, m]) := List.pairwise_append.mpr ⟨h1, List.pairwise_cons.mpr ⟨fun b hb => by obtain rfl := List.mem_singleton.mp hb; omega, List.pairwise_singleton _ _⟩, fun a ha b hb => by
    have := h3 a ha s (.head _)
    rcases List.mem_cons.mp hb with rfl | hb
    · exact this
    · obtain rfl := List.mem_singleton.mp hb; omega⟩
  refine ⟨ha, by simp; omega, fun x => ?_, by simp; have := I.len; simp at this; omega, fun G0 s' e' q => ?_⟩
  · rw [inB_last ha h0, anyR_append, ← I.is, anyR_one, inB_last I.asc h0]
    by_cases k : x < s
    · rw [if_pos k, if_pos k, decide_eq_false (show ¬ p.1 ≤ x by omega), Bool.false_and, Bool.or_false]
    · rw [if_neg k, if_neg k, Bool.eq_iff_iff]
      simp only [Bool.or_eq_true, Bool.and_eq_true, decide_eq_true_eq]
      rcases m3 with q | q <;> omega
  · obtain ⟨-, rfl, -⟩ := app2_inj q
    obtain ⟨p', hp', e'⟩ := I.st F0 s e rfl
    exact ⟨p', List.mem_append_left _ hp', e'⟩

inductive ConsAt {α : Type} (f : α → PyData) (r : List α) (y : PyData) (rest : List PyData) : Prop
  | mk (q : α) (r' : List α) (e : r = q :: r') (ey : y = f q) (er : rest = r'.map f) : ConsAt f r y rest
theorem map_cons_inv {α : Type} {f : α → PyData} {r : List α} {y : PyData} {rest : List PyData} (h : y :: rest = r.map f) : ConsAt f r y rest := by
  cases r with
  | nil => cases h
  | cons q r' =>
    have h' : y :: rest = f q :: r'.map f := h
    cases h'
    exact ⟨q, r', rfl, rfl, rfl⟩
theorem map_nil_inv {α : Type} {f : α → PyData} {r : List α} (h : [] = r.map f) : r = [] := by
  cases r with
  | nil => rfl
  | cons q r' => cases h
/-- how far a loop over a list has come -/
inductive PartI {α : Type} (xs : List α) (A : List α → List PyData) (F : α → PyData) (acc rest : List PyData) : Prop
  | mk (p r : List α) (e : xs = p ++ r) (ea : acc = A p) (er : rest = r.map F) : PartI xs A F acc rest
/-- how far a loop over a range has come -/
inductive RangeI (A : Nat → List PyData) (acc rest : List PyData) : Prop
  | mk (i n : Nat) (e : i + n = 9) (ea : acc = A i) (er : rest = rangeL i 1 n) : RangeI A acc rest
noncomputable def fPair (q : Int × Int) : PyData := .tuple [.int q.1, .int q.2]
theorem pPairs_cons {r : List (Int × Int)} {y : PyData} {rest : List PyData} (h : y :: rest = pPairs r) : ConsAt fPair r y rest := map_cons_inv (f := fPair) h
theorem pPairs_nil {r : List (Int × Int)} (h : [] = pPairs r) : r = [] := map_nil_inv (f := fPair) h
theorem pPairs_len (r : List (Int × Int)) : (pPairs r).length = r.length := List.length_map ..
theorem pPairs_app (a b : List (Int × Int)) : pPairs (a ++ b) = pPairs a ++ pPairs b := List.map_append ..

theorem map_set_last (F0 : List Int) (s e m : Int) : ((F0 ++ [s, e]).map PyData.int).set ((F0 ++ [s, e]).length - 1) (.int m) = (F0 ++ [s, m]).map PyData.int := by
  rw [List.map_append, List.map_append]
  have e1 : (F0 ++ [s, e]).length - 1 = (F0.map PyData.int).length + 1 := by simp
  rw [e1, List.set_append_right _ _ (by (first | lia | omega))]
  simp
theorem map_get_last (F0 : List Int) (s e : Int) : ((F0 ++ [s, e]).map PyData.int)[(F0 ++ [s, e]).length - 1]? = some (.int e) := by
  rw [List.getElem?_map]
  have e1 : (F0 ++ [s, e]).length - 1 = F0.length + 1 := by simp
  rw [e1, List.getElem?_append_right (by (first | lia | omega))]
  simp

theorem k40 (X : Wx c K) : ∀ vs out Q, S40 vs out Q → CallOk c 1 40 vs out Q := by
  rintro vs out Q ⟨u, ps, rfl, ⟨hl, hu⟩, h⟩
  let Pr : Int × Int → Bool := fun p => decide (p.1 ≤ p.2)
  have hl' : (ps.filter Pr).length ≤ 60 := Nat.le_trans (List.length_filter_le ..) hl
  refine fn_call X.W X.lim (f40 (X.fn 2 rfl)) spNo_ok rfl rfl ((e40 u (PartI ps (fun p => pPairs (p.filter Pr)) fPair)
    (fun a rest => ∃ dn r, (dn ++ r).Perm (ps.filter Pr) ∧ (dn ++ r).Pairwise (fun a b => a.1 ≤ b.1) ∧ rest = pPairs r ∧ RbI dn a.2.1) out Q).mpr
    ⟨Nat.zero_le _, fun ad => hu _ _ ⟨by rw [pPairs_len]; (first | lia | omega), ad, (), rfl, ⟨[], ps, rfl, rfl, rfl⟩, ?_, ?_⟩⟩)
  · rintro _ acc y rest ⟨p, r, rfl, rfl, hr⟩
    obtain ⟨q, r', rfl, rfl, rfl⟩ := map_cons_inv hr
    refine ⟨hu _ _ rfl, ⟨by decide, by decide⟩, ⟨by decide, by decide⟩, br_i (fun t => ⟨(), rfl, p ++ [q], r', by simp, ?_, rfl⟩) fun t => ⟨(), rfl, p ++ [q], r', by simp, ?_, rfl⟩⟩
    · rw [List.filter_append, pPairs_app, List.filter_cons_of_pos (show Pr q = true from t)]; rfl
    · rw [List.filter_append, List.filter_cons_of_neg (show ¬ Pr q = true by rw [show Pr q = false from t]; decide)]; simp
  · rintro _ acc ⟨p, r, e, rfl, hr⟩
    obtain rfl := map_nil_inv hr
    rw [List.append_nil] at e
    subst e
    refine ⟨hu _ _ rfl, xa _ rfl ⟨by (first | lia | omega), fun qs hq hs => ⟨by rw [pPairs_len, hq.length_eq]; (first | lia | omega), xi2 () (ad, [], none, none) ⟨rfl, ⟨[], qs, hq, hs, rfl, .nil, rfl, fun x => rfl, Nat.zero_le _, fun F0 s e q => by simp at q⟩, ?_, ?_⟩⟩⟩⟩
    · refine pe4 fun ad' F o1 o2 y rest z1 => xe2 z1 fun dn r z2 => ae4 z2 fun hpm hso hr I => ?_
      clear z1 z2
      obtain ⟨q, r', rfl, rfl, rfl⟩ := pPairs_cons hr
      dsimp only at I ⊢
      have hq : q.1 ≤ q.2 := by
        have := (List.mem_filter.mp (hpm.mem_iff.mp (List.mem_append_right dn (.head _)))).2
        exact of_decide_eq_true this
      have hdn : ∀ p' ∈ dn, p'.1 ≤ q.1 := fun p' hp' => (List.pairwise_append.mp hso).2.2 p' hp' q (.head _)
      have hlen : dn.length ≤ 60 := by have := hpm.length_eq; simp at this; (first | lia | omega)
      have hF : F.length ≤ 120 := by have := I.len; (first | lia | omega)
      have again : ∀ F', RbI (dn ++ [q]) F' → ∃ dn r, (dn ++ r).Perm (ps.filter Pr) ∧ (dn ++ r).Pairwise (fun a b => a.1 ≤ b.1) ∧ pPairs r' = pPairs r ∧ RbI dn F' := fun F' hF' => ⟨dn ++ [q], r', by simpa using hpm, by simpa using hso, rfl, hF'⟩
      refine ⟨rfl, by decide, rfl, ⟨sh_pInts.shaped, by decide⟩, ?_⟩
      rcases snoc2 F I.ev with rfl | ⟨F0, s, e, rfl, h0⟩
      · refine ⟨false, fun t => by simp [PyData.eqvAll] at t, ?_⟩
        exact ⟨rfl, by decide, rfl, ⟨by simp, by decide⟩, (ad', [q.1, q.2 + 1], _, _), rfl, again _ (I.more hq fun b hb => nomatch hb)⟩
      · have ne : PyData.eqvAll ((F0 ++ [s, e]).map .int) [] = false := by
          cases F0 <;> simp [PyData.eqvAll]
        have gl : ∀ {k : PyData → Prop}, k (.int e) → (-(2 : Int) ^ 62 < (-1 : Int) ∧ (-1 : Int) < (2 : Int) ^ 62) ∧ oB (seqIndex? (-1) ((F0 ++ [s, e]).map PyData.int).length) fun j => oB ((F0 ++ [s, e]).map PyData.int)[j]? k := fun {k} hk => by
          refine ⟨⟨by decide, by decide⟩, oB_i (seq_neg (by simp)) (oB_i (y := .int e) ?_ hk)⟩
          rw [List.length_map]
          exact map_get_last F0 s e
        refine ⟨decide (q.1 ≤ e), fun _ => ⟨rfl, gl ⟨rfl, rfl⟩⟩, ?_⟩
        rw [ne]
        refine br_i (fun t => ?_) fun t => ?_
        · have t' : q.1 ≤ e := of_decide_eq_true (by simpa using t)
          obtain ⟨p', hp', e'⟩ := I.st F0 s e rfl
          refine ⟨rfl, rfl, gl ⟨rfl, ⟨by decide, by decide⟩, oB_i (seq_neg (by simp)) ⟨(ad', F0 ++ [s, if e < q.2 + 1 then q.2 + 1 else e], some (.d (.int q.1)), some (.d (.int q.2))), ?_, again _ (I.grow h0 hq (e' ▸ hdn p' hp') t')⟩⟩⟩
          rw [← map_set_last F0 s e, List.length_map]
          rfl
        · have t' : ¬ q.1 ≤ e := of_decide_eq_false (by simpa using t)
          refine ⟨rfl, by decide, rfl, ⟨by simp, by simp at hF ⊢; (first | lia | omega)⟩, (ad', F0 ++ [s, e] ++ [q.1, q.2 + 1], some (.d (.int q.1)), some (.d (.int q.2))), ?_, again _ (I.more hq fun b hb => ?_)⟩
          · rw [List.map_append (l₁ := F0 ++ [s, e])]; rfl
          · obtain ⟨h1, h2, h3⟩ := List.pairwise_append.mp I.asc
            have hse : s < e := (asc_cons h2).1 e (.head _)
            rcases List.mem_append.mp hb with hb | hb
            · have := h3 b hb e (.tail _ (.head _)); (first | lia | omega)
            · rcases List.mem_cons.mp hb with rfl | hb
              · (first | lia | omega)
              · obtain rfl := List.mem_singleton.mp hb; (first | lia | omega)
    · refine pe4 fun ad' F o1 o2 z1 => xe2 z1 fun dn r z2 => ae4 z2 fun hpm hso hr I => ?_
      clear z1 z2
      obtain rfl := pPairs_nil hr
      rw [List.append_nil] at hpm
      refine ⟨rfl, rfl, h F ⟨⟨I.asc, I.ev, fun x => ?_⟩, ?_⟩⟩
      · rw [I.is, anyR_perm hpm, anyR_filter]
      · have : F.length ≤ 2 * dn.length := I.len; have := hpm.length_eq; have := List.length_filter_le Pr ps; (first | lia | omega)
end
end Mine

set_option maxRecDepth 100000
namespace Mine
open PySem PySem.W PySem.Calls PyProof.Rows PySem.Spec
open PySem.W.Fast (sEq sEq_iff)
section
variable {c : Cx} {K : Frag} {N : Nat}

theorem upS {S : SP} {a : Addr} {n m : Nat} (h : ∀ vs out Q, S vs out Q → CallOk c n a vs out Q) (k : n ≤ m := by decide) : ∀ vs out Q, S vs out Q → CallOk c m a vs out Q := fun vs out Q x => (h vs out Q x).up k

theorem k76 (X : Wx c K) : ∀ vs out Q, S76 vs out Q → CallOk c 3 76 vs out Q := by
  rintro vs out Q ⟨u, ps, rfl, ⟨hl, hp, hu⟩, h⟩
  refine fn_call X.W X.lim (f76 (X.fn 6 rfl)) (spOn_ok (upS (k40 X)) (spOn_ok (k150 X) spNo_ok)) rfl rfl ((e76 u out Q).mpr ?_)
  rw [hp]
  exact ⟨u, ps, rfl, ⟨hl, hu⟩, fun B hB => ⟨B, rfl, h B hB⟩⟩

theorem mg3 (X : Wx c K) : ∀ a vs out Q, spOn 54 S54 (spOn 150 S150 spNo) a vs out Q → CallOk c 2 a vs out Q := spOn_ok (k54 X) (spOn_ok (k150 X) spNo_ok)
theorem k105 (X : Wx c K) : ∀ vs out Q, S105 vs out Q → CallOk c 3 105 vs out Q := by
  rintro vs out Q ⟨b, b', rfl, hb, h⟩
  exact fn_call X.W X.lim (f105 (X.fn 9 rfl)) (mg3 X) rfl rfl ((e105 b b' out Q).mpr ⟨b, b', _, rfl, hb, fun B hB => ⟨B, rfl, h B hB⟩⟩)
theorem k112 (X : Wx c K) : ∀ vs out Q, S112 vs out Q → CallOk c 3 112 vs out Q := by
  rintro vs out Q ⟨b, b', rfl, hb, h⟩
  exact fn_call X.W X.lim (f112 (X.fn 10 rfl)) (mg3 X) rfl rfl ((e112 b b' out Q).mpr ⟨b, b', _, rfl, hb, fun B hB => ⟨B, rfl, h B hB⟩⟩)
theorem k119 (X : Wx c K) : ∀ vs out Q, S119 vs out Q → CallOk c 3 119 vs out Q := by
  rintro vs out Q ⟨b, b', rfl, hb, h⟩
  exact fn_call X.W X.lim (f119 (X.fn 11 rfl)) (mg3 X) rfl rfl ((e119 b b' out Q).mpr ⟨b, b', _, rfl, hb, fun B hB => ⟨B, rfl, h B hB⟩⟩)

theorem pairsOf_get : ∀ (l : List Int) (i : Nat) (a b : Int), l[2 * i]? = some a → l[2 * i + 1]? = some b → (pairsOf l).take (i + 1) = (pairsOf l).take i ++ [(a, b - 1)]
  | a' :: b' :: r, 0, a, b, h1, h2 => by
    cases h1; cases h2
    unfold pairsOf
    rfl
  | a' :: b' :: r, i + 1, a, b, h1, h2 => by
    unfold pairsOf
    rw [List.take_succ_cons, List.take_succ_cons, pairsOf_get r i a b (by simpa [show 2 * (i + 1) = 2 * i + 1 + 1 by (first | lia | omega)] using h1) (by simpa [show 2 * (i + 1) = 2 * i + 1 + 1 by (first | lia | omega)] using h2)]
    rfl
  | [], i, a, b, h1, _ => by simp at h1
  | [x], i, a, b, h1, h2 => by simp at h2
theorem pairsOf_len : ∀ l : List Int, l.length % 2 = 0 → 2 * (pairsOf l).length = l.length
  | [], _ => rfl
  | [a], h => by simp at h
  | a :: b :: r, h => by
    unfold pairsOf
    have := pairsOf_len r (by simp at h; (first | lia | omega))
    simp; (first | lia | omega)
theorem rangeL_app (a c : Int) : ∀ n : Nat, rangeL a c (n + 1) = .int a :: rangeL (a + c) c n := fun _ => rfl

theorem k91 (X : Wx c K) : ∀ vs out Q, S91 vs out Q → CallOk c 1 91 vs out Q := by
  rintro vs out Q ⟨b, rfl, hb, h⟩
  have hl := hb.le
  have hev := hb.ev
  have mb : (b.map PyData.int).length = b.length := List.length_map ..
  refine fn_call X.W X.lim (f91 (X.fn 8 rfl)) spNo_ok rfl rfl ((e91 b (fun acc rest => ∃ i n : Nat, i + n = b.length / 2 ∧ acc = pPairs ((pairsOf b).take i) ∧ rest = rangeL ((2 * i : Nat) : Int) 2 n) out Q).mpr
    ⟨by rw [mb]; (first | lia | omega), ⟨by decide, by decide, by rw [mb]; show (0 : Int) ≤ (b.length : Int); (first | lia | omega), by rw [mb]; show (b.length : Int) ≤ 1000; (first | lia | omega), by decide, by decide⟩, (), (), rfl, ⟨0, b.length / 2, by (first | lia | omega), rfl, ?_⟩, ?_, ?_⟩)
  · rw [mb]
    have : cdiv (Int.ofNat b.length - 0) 2 = b.length / 2 := by
      unfold cdiv
      rw [Int.fdiv_eq_ediv_of_nonneg _ (by decide)]
      show (((b.length : Int) - 0 + 2 - 1) / 2).toNat = b.length / 2
      (first | lia | omega)
    rw [this]; rfl
  · rintro _ acc y rest ⟨i, n, hn, rfl, hr⟩
    cases n with
    | zero => cases hr
    | succ n =>
      rw [rangeL_app] at hr
      cases hr
      have i1 : 2 * i < b.length := by (first | lia | omega)
      have i2 : 2 * i + 1 < b.length := by (first | lia | omega)
      have v1 := List.getElem?_eq_getElem i1
      have v2 := List.getElem?_eq_getElem i2
      refine ⟨trivial, ?_⟩
      have g2 := get_ok (k := fun y => vInt (V.d y) fun x => (0 : Nat) + 1 + 1 ≤ 1000 ∧ ∃ a : Unit, G.mk [] out = G.mk [] out ∧ ∃ i' n' : Nat, i' + n' = b.length / 2 ∧ pPairs ((pairsOf b).take i) ++ [PyData.tuple [PyData.int b[2 * i], PyData.int (x - 1)]] = pPairs ((pairsOf b).take i') ∧ rangeL (((2 * i : Nat) : Int) + 2) 2 n = rangeL ((2 * i' : Nat) : Int) 2 n') v2 (by (first | lia | omega))
        ⟨by decide, (), rfl, i + 1, n, by (first | lia | omega), by rw [pairsOf_get b i _ _ v1 v2, pPairs_app]; rfl, by rw [show ((2 * i : Nat) : Int) + 2 = ((2 * (i + 1) : Nat) : Int) by (first | lia | omega)]⟩
      have g1 := get_ok (k := fun y_1 => vBin Operator.Add (V.d (.int ((2 * i : Nat) : Int))) (V.d (PyData.int 1)) (G.mk [] out) fun v g => vInt v fun k => (-(2 : Int) ^ 62 < k ∧ k < (2 : Int) ^ 62) ∧ oB (seqIndex? k (b.map PyData.int).length) fun j => oB (b.map PyData.int)[j]? fun y => vInt (V.d y) fun x => (0 : Nat) + 1 + 1 ≤ 1000 ∧ ∃ a : Unit, G.mk [] out = g ∧ ∃ i' n' : Nat, i' + n' = b.length / 2 ∧ pPairs ((pairsOf b).take i) ++ [PyData.tuple [y_1, PyData.int (x - 1)]] = pPairs ((pairsOf b).take i') ∧ rangeL (((2 * i : Nat) : Int) + 2) 2 n = rangeL ((2 * i' : Nat) : Int) 2 n') v1 (by (first | lia | omega)) g2
      exact g1
  · rintro _ acc ⟨i, n, hn, rfl, hr⟩
    cases n with
    | succ n => cases hr
    | zero =>
      have := pairsOf_len b hev
      rw [List.take_of_length_le (by (first | lia | omega))]
      exact ⟨trivial, h⟩

theorem k175 (X : Wx c K) : ∀ vs out Q, S175 vs out Q → CallOk c 3 175 vs out Q := by
  rintro vs out Q ⟨b, ss, l, rfl, ⟨hb, h1, h2⟩, h⟩
  have ml : (l.map PyData.int).length = l.length := List.length_map ..
  refine fn_call X.W X.lim (f175 (X.fn 14 rfl)) (spOn_ok (k86 X) spNo_ok) rfl rfl ((e175 b ss l out Q).mpr ⟨by rw [ml]; (first | lia | omega), br_i (fun t => ?_) fun t => ?_⟩)
  · have t' : l.length = 1 := by
      rw [ml] at t
      have := beq_iff_eq.mp t
      have : (l.length : Int) = 1 := this
      (first | lia | omega)
    obtain ⟨x, rfl⟩ := List.length_eq_one_iff.mp t'
    exact ⟨⟨by decide, by decide⟩, b, x, rfl, hb, h⟩
  · refine ⟨by rw [ml]; (first | lia | omega), ⟨(shAll sh_tups).1, sh_pTup.c, Nat.le_trans sh_pTup.d (by decide)⟩, ?_⟩
    rw [show PyData.tuple (l.map PyData.int) = pTup l from rfl, any_strs]
    match l, h, t with
    | [], h, _ => exact h
    | [x], _, t => cases t
    | _ :: _ :: _, h, _ => exact h
theorem k182 (X : Wx c K) : ∀ vs out Q, S182 vs out Q → CallOk c 2 182 vs out Q := by
  rintro vs out Q ⟨b, ss, b', ss', rfl, ⟨h1, h2, h3⟩, h⟩
  refine fn_call X.W X.lim (f182 (X.fn 15 rfl)) (spOn_ok (k140 X) spNo_ok) rfl rfl ((e182 b b' ss ss' out Q).mpr ⟨b, b', rfl, ⟨h1, h2⟩, br_i (fun t => ⟨⟨sh_pStrs.shaped, sh_pStrs.shaped⟩, ?_⟩) fun t => ?_⟩)
  · rw [eqvAll_strs]
    rw [t] at h
    exact h
  · rw [t] at h
    exact h
theorem k194 (X : Wx c K) : ∀ vs out Q, S194 vs out Q → CallOk c 1 194 vs out Q := by
  rintro vs out Q ⟨ss, rfl, h1, h⟩
  exact fn_call X.W X.lim (f194 (X.fn 16 rfl)) spNo_ok rfl rfl ((e194 ss out Q).mpr ⟨ss, rfl, h1, h⟩)

theorem k199 (X : Wx c K) : ∀ vs out Q, S199 vs out Q → CallOk c 4 199 vs out Q := by
  rintro vs out Q ⟨b, ss, b', ss', w, rfl, ⟨hb, hb', hs, hw⟩, h⟩
  let P : Nat → List Int → Bool := fun n x => match Nat.beq n 108015 with
    | true => ss'.contains x
    | false => !ss'.contains x
  have l1 := hs.le
  have l2 := hs.le'
  refine fn_call X.W X.lim (f199 (X.fn 17 rfl)) (spOn_ok (k105 X) (spOn_ok (k112 X) (spOn_ok (k119 X) (spOn_ok (upS (k194 X)) (spOn_ok (upS (k185 X)) spNo_ok))))) rfl rfl
    ((e199 b b' ss ss' w (fun n => PartI ss (fun p => (p.filter (P n)).map pTup) pTup) out Q).mpr ?_)
  have mg : ∀ {B n}, sEq w n = true → Mg B b b' n → Mg B b b' w := fun {B n} q hB => by rw [sEq_iff.mp q]; exact hB
  have step : ∀ (n : Nat) (_ : Unit) (acc : List PyData) (y : PyData) (rest : List PyData), PartI ss (fun p => (p.filter (P n)).map pTup) pTup acc (y :: rest) →
      ∃ q, y = pTup q ∧ (∀ v : Bool, v = P n q → br v (∃ a : Unit, G.mk [] out = G.mk [] out ∧ PartI ss (fun p => (p.filter (P n)).map pTup) pTup (acc ++ [y]) rest) (∃ a : Unit, G.mk [] out = G.mk [] out ∧ PartI ss (fun p => (p.filter (P n)).map pTup) pTup acc rest)) := by
    rintro n _ acc y rest ⟨p, r, e, rfl, hr⟩
    obtain ⟨q, r', rfl, rfl, rfl⟩ := map_cons_inv hr
    refine ⟨q, rfl, fun v hv => br_i (fun t => ⟨(), rfl, p ++ [q], r', by simp [e], ?_, rfl⟩) fun t => ⟨(), rfl, p ++ [q], r', by simp [e], ?_, rfl⟩⟩
    · rw [List.filter_append, List.filter_cons_of_pos (by rw [← hv, t]), List.map_append]; rfl
    · rw [List.filter_append, List.filter_cons_of_neg (by rw [← hv, t]; decide), List.map_append]; simp
  refine br_i (fun t => ?_) fun t => br_i (fun t' => ?_) fun t' => ?_
  · refine ⟨b, b', rfl, ⟨hb, hb'⟩, fun B hB => ⟨by rw [List.length_map, List.length_map]; (first | lia | omega), ss ++ ss', by rw [← List.map_append]; rfl, ⟨hs.five, by simp; (first | lia | omega)⟩, fun ts h1 h2 => ⟨B, ts, rfl, h B ts (mg t hB) ?_⟩⟩⟩
    unfold PutS
    rw [show sEq w nmUnion = true from t]
    exact ⟨h1, h2⟩
  · refine ⟨by rw [List.length_map]; (first | lia | omega), (), (), rfl, ⟨[], ss, rfl, rfl, rfl⟩, fun u acc y rest hI => ?_, fun u acc hI => ?_⟩
    · obtain ⟨q, rfl, hv⟩ := step (108 * 1000 + 15) u acc y rest hI
      exact ⟨rfl, ⟨(shAll sh_tups).1, sh_pTup.c, Nat.le_trans sh_pTup.d (by decide)⟩, hv _ (by rw [any_strs])⟩
    · obtain ⟨p, r, e, rfl, hr⟩ := hI
      obtain rfl := map_nil_inv hr
      rw [List.append_nil] at e
      subst e
      refine ⟨rfl, b, b', rfl, ⟨hb, hb'⟩, fun B hB => ⟨B, _, rfl, h B _ (mg t' hB) ?_⟩⟩
      unfold PutS
      rw [show sEq w nmUnion = false from t, show sEq w nmBoth = true from t']
  · have t'' : sEq w nmWithout = true := by
      rcases hw with q | q | q
      · rw [show sEq w nmUnion = false from t] at q; cases q
      · rw [show sEq w nmBoth = false from t'] at q; cases q
      · exact q
    refine ⟨by rw [List.length_map]; (first | lia | omega), (), (), rfl, ⟨[], ss, rfl, rfl, rfl⟩, fun u acc y rest hI => ?_, fun u acc hI => ?_⟩
    · obtain ⟨q, rfl, hv⟩ := step (110 * 1000 + 11) u acc y rest hI
      exact ⟨rfl, ⟨(shAll sh_tups).1, sh_pTup.c, Nat.le_trans sh_pTup.d (by decide)⟩, hv _ (by rw [any_strs])⟩
    · obtain ⟨p, r, e, rfl, hr⟩ := hI
      obtain rfl := map_nil_inv hr
      rw [List.append_nil] at e
      subst e
      refine ⟨rfl, b, b', rfl, ⟨hb, hb'⟩, fun B hB => ⟨B, _, rfl, h B _ (mg t'' hB) ?_⟩⟩
      unfold PutS
      rw [show sEq w nmUnion = false from t, show sEq w nmBoth = false from t']
end
end Mine

set_option maxRecDepth 100000
namespace Mine
open PySem PySem.W PySem.Calls PyProof.Rows PySem.Spec
open PySem.W.Fast (sEq sEq_iff)
section
variable {c : Cx} {K : Frag} {N : Nat}

theorem k244 (X : Wx c K) : ∀ vs out Q, S244 vs out Q → CallOk c 4 244 vs out Q := by
  intro vs out Q h
  obtain ⟨m1, m2⟩ := Bool.and_eq_true_iff.mp X.m244
  obtain ⟨m2, m3⟩ := Bool.and_eq_true_iff.mp m2
  unfold S244 at h
  split at h
  · rename_i e0 e1
    exact cls_call X.W X.lim (N := 2) (dd := []) (f213 (X.fn 18 rfl)) (fun z => .nil) m1 (beq_iff_eq.mp m2) (beq_iff_eq.mp m3) (spOn_ok (k150 X) (spOn_ok (k185 X) spNo_ok)) rfl rfl fun dx =>
      (e213 dx [e0, e1] Q).mpr ⟨rfl, fun a' => ⟨⟨rfl, by decide, by decide⟩, rfl, by decide, [], [], rfl, ⟨rfl, by decide, by decide⟩, rfl, ⟨rfl, by decide, by decide⟩, .inl (h dx a')⟩⟩
  · cases h
theorem k220 (X : Wx c K) : ∀ vs out Q, S220 vs out Q → CallOk c 1 220 vs out Q := by
  rintro vs out Q ⟨e0, e1, dx, aR, ps, b, ss, k, f, l, rfl, rfl, hl, h⟩
  refine fn_call X.W X.lim (f220 (X.fn 19 rfl)) spNo_ok rfl rfl ((e220 e0 e1 dx aR ps b ss k f l [] Q).mpr ⟨⟨rfl, by decide⟩, rfl, by decide, rfl, by rw [pPairs_len]; (first | lia | omega), rfl, ⟨rfl, by decide, by decide⟩, ?_⟩)
  rw [sofOut, pPairs_app] at h
  exact h
theorem sEq_self (w : Str) : sEq w w = true := sEq_iff.mpr rfl
theorem okb_nil : Okb [] := ⟨.nil, rfl, Nat.zero_le _⟩
theorem k227 (X : Wx c K) : ∀ vs out Q, S227 vs out Q → CallOk c 5 227 vs out Q := by
  rintro vs out Q ⟨e0, e1, dx, aR, ps, b, ss, k, l, rfl, rfl, ⟨hl, hb, hs, h5⟩, h1, h2⟩
  have ml : (l.map PyData.int).length = l.length := List.length_map ..
  refine fn_call X.W X.lim (f227 (X.fn 20 rfl)) (spOn_ok (upS (k150 X)) (spOn_ok (upS (k185 X)) (spOn_ok (k199 X) spNo_ok))) rfl rfl ((e227 e0 e1 dx aR ps b ss k l [] Q).mpr ⟨by rw [ml]; (first | lia | omega), br_i (fun t => ?_) fun t => ?_⟩)
  · have t' : l.length = 1 := by
      rw [ml] at t
      have : (l.length : Int) = 1 := beq_iff_eq.mp t
      (first | lia | omega)
    obtain ⟨x, rfl⟩ := List.length_eq_one_iff.mp t'
    refine ⟨⟨rfl, by decide⟩, rfl, ⟨by decide, by decide⟩, ⟨by decide, by decide⟩, by decide, rfl, by rw [pPairs_len]; (first | lia | omega), rfl, ⟨rfl, by decide, by decide⟩, ?_⟩
    have := h1 x rfl
    rw [sofOut, pPairs_app] at this
    exact this
  · have t' : l.length ≠ 1 := fun q => by
      rw [ml, q] at t
      cases t
    exact ⟨rfl, ⟨rfl, by decide⟩, by rw [ml]; (first | lia | omega), by decide, [], [l], rfl, b, ss, [], [l], _, rfl, ⟨hb, okb_nil, hs t', .inl (sEq_self _)⟩, fun B ts hB hT => ⟨⟨rfl, by decide, by decide⟩, rfl, ⟨rfl, by decide, by decide⟩, h2 t' B ts hB hT⟩⟩
theorem Bnd.okb {R : List Int} {ps : List (Int × Int)} (h : Bnd R ps) (hl : ps.length ≤ 60) : Okb R := ⟨h.1.asc, h.1.ev, by have := h.2; (first | lia | omega)⟩
theorem k241 (X : Wx c K) : ∀ vs out Q, S241 vs out Q → CallOk c 4 241 vs out Q := by
  rintro vs out Q ⟨e0, e1, dx, aR, ps, b, ss, k, rfl, rfl, ⟨hl, hb⟩, h⟩
  refine fn_call X.W X.lim (f241 (X.fn 22 rfl)) (spOn_ok (k76 X) (spOn_ok (k105 X) (spOn_ok (upS (k185 X)) spNo_ok))) rfl rfl ((e241 e0 e1 dx aR ps b ss k [] Q).mpr ⟨⟨rfl, by decide⟩, by decide, rfl, ⟨sh_pPairs.shaped, by decide⟩, ?_⟩)
  cases ps with
  | nil => exact br_i (fun _ => ⟨⟨rfl, by decide⟩, h b ⟨fun _ => rfl, fun q => absurd rfl q⟩⟩) fun t => by cases t
  | cons p ps =>
    refine br_i (fun t => by cases t) fun _ => ⟨⟨rfl, by decide⟩, ⟨rfl, by decide⟩, _, p :: ps, rfl, ⟨hl, rfl, fun own k hk => ⟨rfl, hk⟩⟩, fun R hR => ⟨b, R, rfl, ⟨hb, hR.okb hl⟩, fun B hB => ⟨⟨rfl, by decide⟩, B, ss, rfl, h B ⟨fun q => (by cases q), fun _ => ⟨R, hR, hB⟩⟩⟩⟩⟩
theorem k234 (X : Wx c K) : ∀ vs out Q, S234 vs out Q → CallOk c 5 234 vs out Q := by
  rintro vs out Q ⟨e0, e1, dx, aR, ps, b, ss, k, b', ss', w, rfl, rfl, ⟨hl, hb, hb', hs, hw⟩, hR, h⟩
  exact fn_call X.W X.lim (f234 (X.fn 21 rfl)) (spOn_ok (k241 X) (spOn_ok (k199 X) spNo_ok)) rfl rfl ((e234 e0 e1 dx aR ps b ss k b' ss' w [] Q).mpr ⟨rfl, rfl, e0, e1, dx, aR, ps, b, ss, k, rfl, rfl, ⟨hl, hb⟩, fun B hB =>
    ⟨B, ss, b', ss', w, rfl, ⟨hR B hB, hb', hs, hw⟩, fun B' ts h1 h2 => ⟨⟨rfl, by decide, by decide⟩, rfl, ⟨rfl, by decide, rfl⟩, fun a' => ⟨⟨rfl, by decide, by decide⟩, rfl, ⟨rfl, by decide, by decide⟩, h a' B' B ts hB h1 h2⟩⟩⟩⟩)

theorem mulOk {m k : Int} (h0 : 0 ≤ m) (h1 : m < 1000003) : IntMulOk m k := IntMulOk.of_left (intBits_le_64 (by (first | lia | omega)) (by (first | lia | omega)))
theorem fmod_lo (x : Int) : 0 ≤ x.fmod 1000003 := Int.fmod_nonneg_of_pos _ (by decide)
theorem fmod_hi (x : Int) : x.fmod 1000003 < 1000003 := Int.fmod_lt_of_pos _ (by decide)
theorem k276 (X : Wx c K) : ∀ vs out Q, S276 vs out Q → CallOk c 1 276 vs out Q := by
  intro vs out Q h
  unfold S276 at h
  split at h
  · obtain ⟨l, rfl, hl, h⟩ := h
    have ml : (l.map PyData.int).length = l.length := List.length_map ..
    have tk : (List.map PyData.int l).take (Int.toNat 40) = (l.take 40).map .int := (List.map_take ..).symm
    refine fn_call X.W X.lim (f276 (X.fn 25 rfl)) spNo_ok rfl rfl ((e276 l (fun acc rest => ∃ p r : List Int, p.length + r.length ≤ 63 ∧ (∀ x ∈ p, 0 ≤ x ∧ x < 1000003) ∧ acc = p.map .int ∧ rest = r.map .int)
      (fun ls m rest => Dk ls m ∧ ∃ r : List Int, rest = r.map .int) [] Q).mpr ⟨⟨by decide, by decide⟩, by rw [ml]; (first | lia | omega), by rw [List.length_take, ml]; (first | lia | omega), (), (), rfl, ⟨[], l.take 40, by rw [List.length_take]; simp; (first | lia | omega), fun _ h => (nomatch h), rfl, tk⟩, ?_, ?_⟩)
    · rintro _ acc y rest ⟨p, r, hpr, hp, rfl, hr⟩
      obtain ⟨q, r', rfl, rfl, rfl⟩ := map_cons_inv hr
      refine ⟨rfl, by decide, (), rfl, p ++ [q.fmod 1000003], r', by simp at hpr ⊢; (first | lia | omega), fun x hx => ?_, by rw [List.map_append]; rfl, rfl⟩
      rcases List.mem_append.mp hx with hx | hx
      · exact hp x hx
      · obtain rfl := List.mem_singleton.mp hx
        exact ⟨fmod_lo q, fmod_hi q⟩
    · rintro _ acc ⟨p, r, hpr, hp, rfl, hr⟩
      obtain rfl := map_nil_inv hr
      refine ⟨rfl, fun a => ⟨rfl, by rw [List.length_map]; simp at hpr; (first | lia | omega), (a, p), (1312, none), rfl, ⟨⟨by simp at hpr; (first | lia | omega), hp, by decide, by decide⟩, p, rfl⟩, ?_, ?_⟩⟩
      · rintro ⟨m, o⟩ y rest ⟨hD, r, hr⟩
        obtain ⟨q, r', rfl, rfl, rfl⟩ := map_cons_inv hr
        exact ⟨⟨rfl, rfl⟩, mulOk hD.lo hD.hi, by decide, ((m * 31 + q + 61).fmod 1000003, some (.d (.int q))), rfl, ⟨hD.le, hD.all, fmod_lo _, fmod_hi _⟩, r', rfl⟩
      · rintro ⟨m, o⟩ ⟨hD, r, hr⟩
        exact ⟨⟨rfl, rfl⟩, rfl, fun a' => h a a' p m hD⟩
  · cases h

theorem k283 (X : Wx c K) : ∀ vs out Q, S283 vs out Q → CallOk c 1 283 vs out Q := by
  intro vs out Q h
  unfold S283 at h
  split at h
  · rename_i e0 e1 rest
    obtain ⟨aL, aD, ls, m, n, rfl, ⟨rfl, rfl⟩, ⟨hD, h0, h1⟩, h⟩ := h
    refine fn_call X.W X.lim (f283 (X.fn 26 rfl)) spNo_ok rfl rfl ((e283 aL aD ls m rest n [] Q).mpr ⟨rfl, by decide, rfl, ⟨sh_pInts.shaped, by decide⟩, ?_⟩)
    cases ls with
    | nil =>
      refine br_i (fun t => by simp [PyData.eqvAll] at t) fun t => ⟨rfl, rfl, mulOk hD.lo hD.hi, by decide, rfl, by decide, rfl, ⟨by decide, by decide⟩, by (first | lia | omega), ?_⟩
      exact h _ [] _ ⟨hD.le, hD.all, fmod_lo _, fmod_hi _⟩ (Int.fmod_nonneg_of_pos _ h0) (Int.fmod_lt_of_pos _ h0)
    | cons x ls =>
      refine br_i (fun t => ⟨rfl, rfl, rfl, ⟨rfl, ?_⟩, ?_⟩) fun t => by simp [PyData.eqvAll] at t
      · have := hD.le; rw [List.length_map]; (first | lia | omega)
      · exact ⟨by (first | lia | omega), h _ ls m ⟨by have := hD.le; simp at this; (first | lia | omega), fun y hy => hD.all y (.tail _ hy), hD.lo, hD.hi⟩ (Int.fmod_nonneg_of_pos _ h0) (Int.fmod_lt_of_pos _ h0)⟩
  · cases h
theorem k309 (X : Wx c K) : ∀ vs out Q, S309 vs out Q → CallOk c 2 309 vs out Q := by
  intro vs out Q h
  unfold S309 at h
  split at h
  · rename_i e0 e1 rest
    obtain ⟨aL, aD, ls, m, rfl, ⟨rfl, rfl⟩, hD, h⟩ := h
    refine fn_call X.W X.lim (f309 (X.fn 30 rfl)) (spOn_ok (k283 X) spNo_ok) rfl rfl ((e309 aL aD ls m rest [] Q).mpr ⟨aL, aD, ls, m, 9, rfl, ⟨rfl, rfl⟩, ⟨hD, by decide, by decide⟩, fun r ls' m' hD' r0 r1 => ⟨aL, aD, ls', m', 9, rfl, ⟨rfl, rfl⟩, ⟨hD', by decide, by decide⟩, fun s ls'' m'' hD'' s0 s1 => ⟨by decide,   .inl ⟨[r, s], rfl, (show 2 < 64 by decide), fun js hj hs => ?_⟩⟩⟩⟩)
    match js, hj, hs with
    | [], hj, _ => exact absurd hj.length_eq (by simp)
    | [x], hj, _ => exact absurd hj.length_eq (by simp)
    | [x, y], hj, hs =>
      have hx : x ∈ [r, s] := hj.mem_iff.mp (.head _)
      have hy : y ∈ [r, s] := hj.mem_iff.mp (.tail _ (.head _))
      simp only [List.mem_cons, List.not_mem_nil, or_false] at hx hy
      have hxy : x ≤ y := (List.pairwise_cons.mp hs).1 y (.head _)
      exact h ls'' m'' x y hD'' (by rcases hx with rfl | rfl <;> assumption) hxy (by rcases hy with rfl | rfl <;> assumption)
    | _ :: _ :: _ :: _, hj, _ => exact absurd hj.length_eq (by simp)
  · cases h
theorem k302' (X : Wx c K) (h295 : ∀ vs out Q, S295 vs out Q → CallOk c 2 295 vs out Q) (hl : ∀ t : List Bool, t.length = 9 → (lawR t).length ≤ 60) : ∀ vs out Q, S302 vs out Q → CallOk c 4 302 vs out Q := by
  rintro vs out Q ⟨t, ss, rfl, ⟨h1, h2⟩, h⟩
  exact fn_call X.W X.lim (f302 (X.fn 29 rfl)) (spOn_ok (upS h295) (spOn_ok (k76 X) (spOn_ok (upS (k185 X)) spNo_ok))) rfl rfl ((e302 t ss out Q).mpr ⟨⟨by decide, by decide⟩, t, rfl, h1, _, lawR t, rfl, ⟨hl t h1, rfl, fun own k hk => hk⟩, fun B hB => ⟨⟨by decide, by decide⟩, by rw [List.length_map]; (first | lia | omega), B, ss, rfl, h B hB⟩⟩)
end
end Mine

set_option maxRecDepth 100000
namespace Mine
open PySem PySem.W PySem.Calls PyProof.Rows PySem.Spec
open PySem.W.Fast (sEq sEq_iff)
section
variable {c : Cx} {K : Frag} {N : Nat}

theorem nodup_len {α : Type} [BEq α] [LawfulBEq α] : ∀ {S L : List α}, S.Nodup → (∀ x ∈ S, x ∈ L) → S.length ≤ L.length
  | [], L, _, _ => Nat.zero_le _
  | x :: S, L, nd, h => by
    obtain ⟨a, b⟩ := List.nodup_cons.mp nd
    have hx := h x (.head _)
    have : S.length ≤ (L.erase x).length := nodup_len b fun y hy => (List.mem_erase_of_ne (fun e : y = x => a (by rw [← e]; exact hy))).mpr (h y (.tail _ hy))
    have e := List.length_erase_of_mem hx
    have : 0 < L.length := List.length_pos_of_mem hx
    rw [List.length_cons]
    (first | lia | omega)
noncomputable def inside (x : Int) (k : Nat) : Bool := decide ((begins[k]?).getD 0 ≤ x) && decide (x ≤ (ends[k]?).getD 0)
theorem putT_app : ∀ (t : List Bool) (p q : List (List Int)), putT t (p ++ q) = putT (putT t p) q
  | t, [], q => rfl
  | t, [] :: p, q => putT_app t p q
  | t, [x] :: p, q => putT_app _ p q
  | t, (_ :: _ :: _) :: p, q => putT_app t p q
theorem putT_len : ∀ (t : List Bool) (p : List (List Int)), (putT t p).length = t.length
  | t, [] => rfl
  | t, [] :: p => putT_len t p
  | t, [x] :: p => by
    show (putT (t.set (idxOf x) true) p).length = _
    rw [putT_len, List.length_set]
  | t, (_ :: _ :: _) :: p => putT_len t p
theorem law_one : ∀ c ∈ lawStrings, isOne c = true → ∃ x, c = [x] ∧ (List.range 9).filter (inside x) = [idxOf x] ∧ idxOf x < 9 := by
  intro c hc h1
  simp only [lawStrings, List.mem_cons, List.not_mem_nil, or_false] at hc
  rcases hc with rfl | rfl | rfl | rfl | rfl | rfl | rfl | rfl <;> first
    | exact ⟨_, rfl, by decide +kernel, by decide +kernel⟩
    | cases h1
theorem law_multi : ∀ c ∈ lawStrings, isOne c = false → c ∈ multi := by decide
theorem law_len : ∀ c ∈ lawStrings, c.length ≤ 5 := by decide
theorem isOne_len (c : List Int) : isOne c = (c.length == 1) := by
  match c with
  | [] => rfl
  | [x] => rfl
  | _ :: _ :: _ => rfl
theorem dedup_id {ss : List (List Int)} : ss.Nodup → dedup ss = ss := by
  induction ss with
  | nil => exact fun _ => rfl
  | cons a ss ih =>
    intro h
    obtain ⟨h1, h2⟩ := List.nodup_cons.mp h
    unfold dedup
    rw [ih h2]
    congr 1
    refine List.filter_eq_self.mpr fun y hy => ?_
    simp only [bne_iff_ne, ne_eq]
    exact fun e => h1 (e ▸ hy)
theorem ltL_irrefl : ∀ x : List Int, ltL x x = false
  | [] => rfl
  | a :: x => by unfold ltL; simp [ltL_irrefl x]
theorem srt_nodup {ss : List (List Int)} (h : ss.Pairwise (fun a b => ltL a b = true)) : ss.Nodup := h.imp fun {a b} q e => by
  subst e
  rw [ltL_irrefl] at q
  cases q

theorem k288 (X : Wx c K) : ∀ vs out Q, S288 vs out Q → CallOk c 2 288 vs out Q := by
  rintro vs out Q ⟨t, ss, cs, rfl, ⟨h9, hs, hc, hl⟩, h⟩
  have ss5 : ss.length ≤ 5 := nodup_len (srt_nodup hs.srt) hs.sub
  refine fn_call X.W X.lim (f288 (X.fn 27 rfl)) (spOn_ok (k255 X) (spOn_ok (k262 X) spNo_ok)) rfl rfl ((e288 t ss cs (fun x => RangeI fun i => ((List.range i).filter (inside x)).map (fun k : Nat => PyData.int k))
    (fun a rest => ∃ p r, cs = p ++ r ∧ rest = r.map pTup ∧ a.2.2.1 = putT t p ∧ (∀ x, x ∈ a.2.2.2.1 ↔ x ∈ ss ∨ (x ∈ p ∧ isOne x = false)) ∧ a.2.2.2.1.Nodup) out Q).mpr
    ⟨⟨by decide, by decide⟩, by rw [List.length_map]; (first | lia | omega), fun a1 => ⟨⟨by decide, by decide⟩, by rw [List.length_map]; (first | lia | omega), fun a2 => ⟨by rw [List.length_map]; (first | lia | omega), (), (a1, a2, t, ss, none, none), rfl, ⟨[], cs, rfl, rfl, rfl, fun x => by simp, srt_nodup hs.srt⟩, ?_, ?_⟩⟩⟩)
  · refine pe6 fun a1 a2 T S o1 o2 y rest z1 => xe2 z1 fun p r z2 => ae5 z2 fun hcs hr hT hS hnd => ?_
    clear z1 z2
    obtain ⟨q, r', rfl, rfl, rfl⟩ := map_cons_inv hr
    dsimp only at hT hS hnd ⊢
    have hq : q ∈ lawStrings := hc q (by rw [hcs]; exact List.mem_append_right _ (.head _))
    have hql := law_len q hq
    have hT9 : T.length = 9 := by rw [hT, putT_len, h9]
    have hmul : ∀ x ∈ S, x ∈ multi := fun x hx => by
      rcases (hS x).mp hx with k | ⟨k, k'⟩
      · exact hs.sub x k
      · exact law_multi x (hc x (by rw [hcs]; exact List.mem_append_left _ k)) k'
    have hS5 : S.length ≤ 5 := nodup_len hnd hmul
    have mq : (q.map PyData.int).length = q.length := List.length_map ..
    refine ⟨rfl, (?_ : (q.map PyData.int).length ≤ 1000 ∧ _)⟩
    refine ⟨by rw [mq]; (first | lia | omega), br_i (fun tt => ?_) fun tt => ?_⟩
    · have hone : isOne q = true := by
        rw [isOne_len]
        rw [mq] at tt
        have : (q.length : Int) = 1 := beq_iff_eq.mp tt
        rw [show q.length = 1 by (first | lia | omega)]; rfl
      obtain ⟨x, rfl, hf, hi⟩ := law_one q hq hone
      refine ⟨⟨by decide, by decide⟩, xi2 (a1, a2, T, S, x) () ⟨rfl, ⟨0, 9, rfl, rfl, rfl⟩, ?_, ?_⟩⟩
      · rintro _ acc y rest ⟨i, n, hin, rfl, hr⟩
        cases n with
        | zero => cases hr
        | succ n =>
          rw [rangeL_app] at hr
          cases hr
          have hi9 : i < 9 := by (first | lia | omega)
          have v1 : begins[i]? = some ((begins[i]?).getD 0) := by rw [List.getElem?_eq_getElem (show i < begins.length from hi9)]; rfl
          have v2 : ends[i]? = some ((ends[i]?).getD 0) := by rw [List.getElem?_eq_getElem (show i < ends.length from hi9)]; rfl
          have skip : inside x i = false → ∃ a : Unit, G.mk [(a1, AO.list (List.map PyData.bool T)), (a2, AO.list (List.map pTup S))] out = G.mk [(a1, AO.list (List.map PyData.bool T)), (a2, AO.list (List.map pTup S))] out ∧ RangeI (fun i => ((List.range i).filter (inside x)).map (fun k : Nat => PyData.int k)) (((List.range i).filter (inside x)).map (fun k : Nat => PyData.int k)) (rangeL (↑i + 1) 1 n) := fun hf => ⟨(), rfl, i + 1, n, by (first | lia | omega), by rw [List.range_succ, List.filter_append, List.filter_cons_of_neg (by rw [hf]; decide)]; simp, rfl⟩
          have take : inside x i = true → ∃ a : Unit, G.mk [(a1, AO.list (List.map PyData.bool T)), (a2, AO.list (List.map pTup S))] out = G.mk [(a1, AO.list (List.map PyData.bool T)), (a2, AO.list (List.map pTup S))] out ∧ RangeI (fun i => ((List.range i).filter (inside x)).map (fun k : Nat => PyData.int k)) (((List.range i).filter (inside x)).map (fun k : Nat => PyData.int k) ++ [PyData.int i]) (rangeL (↑i + 1) 1 n) := fun hf => ⟨(), rfl, i + 1, n, by (first | lia | omega), by rw [List.range_succ, List.filter_append, List.filter_cons_of_pos hf, List.map_append]; rfl, rfl⟩
          refine ⟨trivial, ?_⟩
          refine get_ok v1 (by decide) ⟨⟨by decide, by decide⟩, br_i (fun b1 => ?_) fun b1 => ?_⟩
          · refine get_ok v2 (by decide) (br_i (fun b2 => ?_) fun b2 => ?_)
            · exact take (by unfold inside; rw [b1, b2]; rfl)
            · exact skip (by unfold inside; rw [b1, b2]; rfl)
          · exact skip (by unfold inside; rw [b1]; rfl)
      · rintro _ acc ⟨i, n, hin, rfl, hr⟩
        cases n with
        | succ n => cases hr
        | zero =>
          obtain rfl : i = 9 := by (first | lia | omega)
          rw [hf]
          refine ⟨trivial, ⟨by decide, by decide⟩, rfl, rfl, ?_⟩
          have hi' : idxOf x < T.length := by (first | lia | omega)
          refine ⟨small (by (first | lia | omega)) (by (first | lia | omega)), oB_i (seq_at (by (first | lia | omega)) (by rw [List.length_map]; show (idxOf x : Int) < (T.length : Int); (first | lia | omega))) ⟨(a1, a2, T.set (idxOf x) true, S, some (.d (pTup [x])), some (.d (.int (idxOf x)))), ?_, p ++ [[x]], r', by rw [hcs]; simp, rfl, ?_, fun z => ?_, hnd⟩⟩
          · rw [Int.toNat_natCast, List.map_set]
          · show T.set (idxOf x) true = _
            rw [putT_app, hT]; rfl
          · rw [show (z ∈ (a1, a2, T.set (idxOf x) true, S, some (V.d (pTup [x])), some (V.d (PyData.int (idxOf x)))).2.2.2.1) = (z ∈ S) from rfl, hS z]
            constructor
            · rintro (k | ⟨k, k'⟩)
              · exact .inl k
              · exact .inr ⟨List.mem_append_left _ k, k'⟩
            · rintro (k | ⟨k, k'⟩)
              · exact .inl k
              · rcases List.mem_append.mp k with k | k
                · exact .inr ⟨k, k'⟩
                · obtain rfl := List.mem_singleton.mp k; cases k'
    · have hone : isOne q = false := by
        rw [isOne_len]
        rw [mq] at tt
        refine beq_eq_false_iff_ne.mpr fun e => ?_
        rw [e] at tt
        cases tt
      have pT : putT t (p ++ [q]) = putT t p := by
        rw [putT_app]
        match q, hone with
        | [], _ => rfl
        | [x], h => cases h
        | _ :: _ :: _, _ => rfl
      refine ⟨rfl, ⟨(shAll sh_tups).1, sh_pTup.c, Nat.le_trans sh_pTup.d (by decide)⟩, ?_⟩
      rw [any_strs]
      refine br_i (fun b => ⟨rfl, rfl, by rw [List.length_map]; (first | lia | omega), (a1, a2, T, S ++ [q], some (.d (pTup q)), o2), by rw [List.map_append]; rfl, p ++ [q], r', by rw [hcs]; simp, rfl, hT.trans pT.symm, fun z => ?_, ?_⟩) fun b => ⟨(a1, a2, T, S, some (.d (pTup q)), o2), rfl, p ++ [q], r', by rw [hcs]; simp, rfl, hT.trans pT.symm, fun z => ?_, hnd⟩
      · show z ∈ S ++ [q] ↔ _
        rw [List.mem_append, List.mem_append, hS z, List.mem_singleton]
        constructor
        · rintro ((k | ⟨k, k'⟩) | k)
          · exact .inl k
          · exact .inr ⟨.inl k, k'⟩
          · subst k; exact .inr ⟨.inr rfl, hone⟩
        · rintro (k | ⟨k | k, k'⟩)
          · exact .inl (.inl k)
          · exact .inl (.inr ⟨k, k'⟩)
          · exact .inr k
      · show (S ++ [q]).Nodup
        have hn : q ∉ S := fun hq => by
          rw [show S.contains q = true from List.contains_iff_mem.mpr hq] at b
          cases b
        exact List.nodup_append.mpr ⟨hnd, by simp, fun x hx y hy e => by obtain rfl := List.mem_singleton.mp hy; exact hn (e ▸ hx)⟩
      · show z ∈ S ↔ _
        have hq' : q ∈ S := List.contains_iff_mem.mp (by simpa using b)
        rw [List.mem_append, hS z, List.mem_singleton]
        constructor
        · rintro (k | ⟨k, k'⟩)
          · exact .inl k
          · exact .inr ⟨.inl k, k'⟩
        · rintro (k | ⟨k | k, k'⟩)
          · exact .inl k
          · exact .inr ⟨k, k'⟩
          · subst k; exact (hS z).mp hq'
  · refine pe6 fun a1 a2 T S o1 o2 z1 => xe2 z1 fun p r z2 => ae5 z2 fun hcs hr hT hS hnd => ?_
    clear z1 z2
    obtain rfl := map_nil_inv hr
    rw [List.append_nil] at hcs
    subst hcs
    dsimp only at hT hS hnd ⊢
    have hmul : ∀ x ∈ S, x ∈ multi := fun x hx => by
      rcases (hS x).mp hx with k | ⟨k, k'⟩
      · exact hs.sub x k
      · exact law_multi x (hc x k) k'
    refine ⟨rfl, rfl, .inr ⟨S, rfl, ⟨hnd, nodup_len hnd hmul⟩, fun ts h1 h2 => ⟨rfl, by decide, ?_⟩⟩⟩
    rw [hT]
    exact h ts ⟨fun x hx => hmul x (h1.mem_iff.mp hx), h2⟩ fun x => by rw [h1.mem_iff, hS]
end
end Mine

set_option maxRecDepth 100000
namespace Mine
open PySem PySem.W PySem.Calls PyProof.Rows PySem.Spec
open PySem.W.Fast (sEq sEq_iff)
section
variable {c : Cx} {K : Frag} {N : Nat}

theorem pp_get_last (F0 : List (Int × Int)) (p : Int × Int) : (pPairs (F0 ++ [p]))[(pPairs (F0 ++ [p])).length - 1]? = some (.tuple [.int p.1, .int p.2]) := by
  rw [pPairs_app, List.length_append]
  have : (pPairs [p]).length = 1 := rfl
  rw [this, Nat.add_sub_cancel, List.getElem?_append_right (Nat.le_refl _), Nat.sub_self]
  rfl
theorem pp_set_last (F0 : List (Int × Int)) (p q : Int × Int) : (pPairs (F0 ++ [p])).set ((pPairs (F0 ++ [p])).length - 1) (.tuple [.int q.1, .int q.2]) = pPairs (F0 ++ [q]) := by
  rw [pPairs_app, pPairs_app, List.length_append]
  have : (pPairs [p]).length = 1 := rfl
  rw [this, Nat.add_sub_cancel, List.set_append_right _ _ (Nat.le_refl _), Nat.sub_self]
  rfl
theorem snoc1 {α : Type} : ∀ F : List α, F ≠ [] → ∃ F0 p, F = F0 ++ [p]
  | [], h => absurd rfl h
  | a :: r, _ => by
    by_cases h : r = []
    · subst h; exact ⟨[], a, rfl⟩
    · obtain ⟨F0, p, rfl⟩ := snoc1 r h
      exact ⟨a :: F0, p, rfl⟩

noncomputable def prevOf (t : List Bool) : Nat → Bool
  | 0 => false
  | i + 1 => (t[i]?).getD false

theorem k295 (X : Wx c K) : ∀ vs out Q, S295 vs out Q → CallOk c 2 295 vs out Q := by
  rintro vs out Q ⟨t, rfl, h9, h⟩
  have lt1 : t.length ≤ 1000 := by (first | lia | omega)
  refine fn_call X.W X.lim (f295 (X.fn 28 rfl)) (spOn_ok (k255 X) (spOn_ok (k262 X) spNo_ok)) rfl rfl ((e295 t (fun a rest => ∃ i n : Nat, i + n = 9 ∧ rest = rangeL i 1 n ∧ lawR t = lawR.go i (t.drop i) (prevOf t i) a.2.1 ∧ (prevOf t i = true → a.2.1 ≠ []) ∧ a.2.1.length ≤ i) out Q).mpr
    ⟨Nat.zero_le _, fun ad => ⟨⟨by decide, by decide⟩, (), (ad, [], none), rfl, ⟨0, 9, rfl, rfl, rfl, fun q => (by cases q), Nat.le_refl _⟩, ?_, ?_⟩⟩)
  · refine pe3 fun ad' F o y rest z1 => xe2 z1 fun i n z2 => ae5 z2 fun hin hr hR hF hFl => ?_
    clear z1 z2
    cases n with
    | zero => cases hr
    | succ n =>
      rw [rangeL_app] at hr
      cases hr
      dsimp only at hR hF hFl ⊢
      have hi : i < t.length := by (first | lia | omega)
      have v0 := List.getElem?_eq_getElem hi
      have v1 : begins[i]? = some ((begins[i]?).getD 0) := by rw [List.getElem?_eq_getElem (show i < begins.length by show i < 9; (first | lia | omega))]; rfl
      have v2 : ends[i]? = some ((ends[i]?).getD 0) := by rw [List.getElem?_eq_getElem (show i < ends.length by show i < 9; (first | lia | omega))]; rfl
      have hd : t.drop i = t[i] :: t.drop (i + 1) := List.drop_eq_getElem_cons hi
      have pv : prevOf t (i + 1) = t[i] := by show (t[i]?).getD false = _; rw [v0]; rfl
      rw [hd] at hR
      have go : lawR t = lawR.go (i + 1) (t.drop (i + 1)) t[i] (match t[i], prevOf t i with
        | true, true => F.dropLast ++ [((F.getLast?.getD (0, 0)).1, (ends[i]?).getD 0)]
        | true, false => F ++ [((begins[i]?).getD 0, (ends[i]?).getD 0)]
        | false, _ => F) := hR
      have e1 : ((i : Int) + 1) = ((i + 1 : Nat) : Int) := by (first | lia | omega)
      have fin : ∀ F', F'.length ≤ i + 1 → (t[i] = true → F' ≠ []) → (match t[i], prevOf t i with
        | true, true => F.dropLast ++ [((F.getLast?.getD (0, 0)).1, (ends[i]?).getD 0)]
        | true, false => F ++ [((begins[i]?).getD 0, (ends[i]?).getD 0)]
        | false, _ => F) = F' → ∃ i' n' : Nat, i' + n' = 9 ∧ rangeL ((i : Int) + 1) 1 n = rangeL i' 1 n' ∧ lawR t = lawR.go i' (t.drop i') (prevOf t i') F' ∧ (prevOf t i' = true → F' ≠ []) ∧ F'.length ≤ i' := fun F' hl hne hm => ⟨i + 1, n, by (first | lia | omega), by rw [e1], by rw [pv, go, hm], by rw [pv]; exact hne, hl⟩
      refine ⟨trivial, get_f (f := PyData.bool) v0 lt1 ?_⟩
      refine ⟨decide ((0 : Int) < i) && prevOf t i, fun hb => ⟨prevOf t i, fun h0 => ?_, rfl, rfl⟩, br_i (fun tt => ?_) fun tt => ?_⟩
      · have h0 : (0 : Int) < i := of_decide_eq_true h0
        obtain ⟨j, rfl⟩ : ∃ j, i = j + 1 := ⟨i - 1, by (first | lia | omega)⟩
        have vj := List.getElem?_eq_getElem (show j < t.length by (first | lia | omega))
        have e2 : (((j + 1 : Nat) : Int) - 1) = (j : Int) := by (first | lia | omega)
        show (-(2 : Int) ^ 62 < ((j + 1 : Nat) : Int) - 1 ∧ ((j + 1 : Nat) : Int) - 1 < (2 : Int) ^ 62) ∧ _
        rw [e2]
        refine get_f (f := PyData.bool) vj lt1 ⟨?_, rfl⟩
        show t[j] = (t[j]?).getD false
        rw [vj]; rfl
      · obtain ⟨b1, b2⟩ := Bool.and_eq_true_iff.mp tt
        obtain ⟨b2, b3⟩ := Bool.and_eq_true_iff.mp b2
        obtain ⟨F0, p, rfl⟩ := snoc1 F (hF b3)
        have hl0 : (pPairs (F0 ++ [p])).length = F0.length + 1 := by rw [pPairs_len]; simp
        refine ⟨rfl, rfl, ⟨by decide, by decide⟩, oB_i (seq_neg (by (first | lia | omega))) (oB_i (pp_get_last F0 p) ⟨⟨by decide, by decide⟩, get_ok v2 (by decide) ?_⟩)⟩
        refine ⟨by decide, rfl, ⟨by decide, by decide⟩, oB_i (seq_neg (by (first | lia | omega))) ⟨(ad', F0 ++ [(p.1, (ends[i]?).getD 0)], some (.d (.int i))), ?_, fin _ (by simp at hFl ⊢; (first | lia | omega)) (fun _ => by simp) ?_⟩⟩
        · rw [← pp_set_last F0 p (p.1, (ends[i]?).getD 0)]
          rfl
        · rw [b1, b3]; simp
      · refine get_f (f := PyData.bool) v0 lt1 (br_i (fun b1 => ?_) fun b1 => ?_)
        · have b3 : prevOf t i = false := by
            rw [b1, Bool.true_and] at tt
            cases i with
            | zero => rfl
            | succ j =>
              rw [decide_eq_true (by (first | lia | omega)), Bool.true_and] at tt
              exact tt
          refine ⟨rfl, get_ok v1 (by decide) (get_ok v2 (by decide) ⟨by decide, rfl, by rw [pPairs_len]; (first | lia | omega), (ad', F ++ [((begins[i]?).getD 0, (ends[i]?).getD 0)], some (.d (.int i))), by rw [pPairs_app]; rfl, fin _ (by simp; (first | lia | omega)) (fun _ => by simp) ?_⟩)⟩
          rw [b1, b3]
        · refine ⟨(ad', F, some (.d (.int i))), rfl, fin F (by (first | lia | omega)) (fun q => by rw [b1] at q; cases q) ?_⟩
          rw [b1]
  · rintro ⟨ad', F, o⟩ ⟨i, n, hin, hr, hR, hF, hFl⟩
    cases n with
    | succ n => cases hr
    | zero =>
      obtain rfl : i = 9 := by (first | lia | omega)
      dsimp only at hR ⊢
      rw [show t.drop 9 = [] from List.drop_eq_nil_of_le (by (first | lia | omega))] at hR
      have : lawR t = F := hR
      rw [← this]
      exact ⟨trivial, rfl, h⟩
end
end Mine

set_option maxRecDepth 100000
namespace Mine
open PySem PySem.W PySem.Calls PyProof.Rows PySem.Spec
open PySem.W.Fast (sEq sEq_iff)
section
variable {c : Cx} {K : Frag} {N : Nat}

theorem k324 (X : Wx c K) : ∀ vs out Q, S324 vs out Q → CallOk c 3 324 vs out Q := by
  rintro vs out Q ⟨b, ss, t, ss', rfl, ⟨hb, h9, hs⟩, h⟩
  have hpl := pairsOf_len b hb.ev
  have hbl := hb.le
  refine fn_call X.W X.lim (f324 (X.fn 33 rfl)) (spOn_ok (upS (k91 X)) (spOn_ok (k295 X) spNo_ok)) rfl rfl ((e324 b ss t ss' (PartI (pairsOf b) pPairs fPair) out Q).mpr ⟨b, rfl, hb, by rw [pPairs_len]; (first | lia | omega), (), (), rfl, ⟨[], pairsOf b, rfl, rfl, rfl⟩, ?_, ?_⟩)
  · rintro _ acc y rest ⟨p, r, e, rfl, hr⟩
    obtain ⟨q, r', rfl, rfl, rfl⟩ := map_cons_inv hr
    exact ⟨rfl, (show 2 ≤ 1000 by decide), (), rfl, p ++ [q], r', by rw [e]; simp, by rw [pPairs_app]; rfl, rfl⟩
  · rintro _ acc ⟨p, r, e, rfl, hr⟩
    obtain rfl := pPairs_nil hr
    rw [List.append_nil] at e
    subst e
    refine ⟨rfl, ⟨by decide, by decide⟩, t, rfl, h9, ⟨sh_pPairs.shaped, sh_pPairs.shaped⟩, ?_⟩
    rw [eqvAll_pairs]
    refine br_i (fun q => ⟨by rw [List.length_map]; have := hs.le; (first | lia | omega), ⟨by decide, by decide⟩, ⟨sh_pStrs.shaped, sh_pStrs.shaped⟩, ?_⟩) fun q => ?_
    · rw [eqvAll_strs]
      rw [q] at h
      exact h
    · rw [q] at h
      exact h

inductive BoolsI (acc rest : List PyData) : Prop
  | mk (bs : List Bool) (i k : Nat) (e : i + k = 9) (hl : bs.length = i) (ea : acc = bs.map .bool) (er : rest = rangeL i 1 k) : BoolsI acc rest
theorem str5_nil : Str5 [] := ⟨fun _ h => (nomatch h), .nil⟩

theorem k314 (X : Wx c K) : ∀ vs out Q, S314 vs out Q → CallOk c 3 314 vs out Q := by
  intro vs out Q h
  unfold S314 at h
  split at h
  · rename_i e0 e1 rest
    obtain ⟨aL, aD, ls, m, rfl, ⟨rfl, rfl⟩, hD, h⟩ := h
    refine fn_call X.W X.lim (f314 (X.fn 31 rfl)) (spOn_ok (upS (k283 X)) (spOn_ok (k309 X) (spOn_ok (k288 X) spNo_ok))) rfl rfl ((e314 aL aD ls m rest
      (fun n p a acc rest => Dk a.1 a.2 ∧ match Nat.beq n 180013 with
        | true => BoolsI acc rest
        | false => ∃ cs : List (List Int), (∀ x ∈ cs, x ∈ lawStrings) ∧ acc = cs.map pTup ∧ cs.length + rest.length ≤ 3)
      (fun a rest => Dk a.1 a.2.1 ∧ a.2.2.1.length = 9) [] Q).mpr
      ⟨⟨by decide, by decide, by decide, by decide⟩, by decide, by decide, xd5 aL aD ls m 3 rfl ⟨rfl, rfl⟩ ⟨hD, by decide, by decide⟩ (fun r ls' m' hD' r0 r1 => ⟨⟨by (first | lia | omega), by (first | lia | omega)⟩, xi2 () (ls', m', List.replicate 9 false, none, none, none) ⟨rfl, ⟨hD', rfl⟩, ?_, ?_⟩⟩)⟩)
    · refine pe6 fun la ma t o1 o2 o3 y rest_1 z1 => z1.elim fun hDa ht => ?_
      clear z1
      dsimp only at hDa ht ⊢
      refine ⟨trivial, xd4 aL aD la ma rfl ⟨rfl, rfl⟩ hDa (fun lb mb lo hi hDb h0 h1 h2 => ⟨⟨by decide, by decide⟩, xi2 (t, lo, hi) (lb, mb) ⟨rfl, ⟨hDb, [], 0, 9, rfl, rfl, rfl, rfl⟩, ?_, ?_⟩⟩)⟩
      · refine pe2 fun lc mc acc y rest_2 z1 => z1.elim fun hDc z2 => ?_
        clear z1
        obtain ⟨bs, i, k, hik, hbs, rfl, hr⟩ := z2
        cases k with
        | zero => cases hr
        | succ k =>
          rw [rangeL_app] at hr
          cases hr
          have hi9 : i < t.length := by (first | lia | omega)
          have v := List.getElem?_eq_getElem hi9
          have go : ∀ z : Bool, ∃ a : List Int × Int, G.mk [] ((aL, AO.list (List.map PyData.int a.fst)) :: (aD, AO.dict [(Str.ofString "left", V.loc false 0 aL), (Str.ofString "mixed", V.d (PyData.int a.snd))]) :: rest) = G.mk [] ((aL, AO.list (List.map PyData.int lc)) :: (aD, AO.dict [(Str.ofString "left", V.loc false 0 aL), (Str.ofString "mixed", V.d (PyData.int mc))]) :: rest) ∧
              (Dk a.1 a.2 ∧ BoolsI (bs.map PyData.bool ++ [PyData.bool z]) (rangeL (↑i + 1) 1 k)) := fun z => ⟨(lc, mc), rfl, hDc, bs ++ [z], i + 1, k, by (first | lia | omega), by simp; (first | lia | omega), by rw [List.map_append]; rfl, rfl⟩
          refine ⟨trivial, ⟨by decide, by decide⟩, get_f (f := PyData.bool) v (by (first | lia | omega)) (br_i (fun _ => go true) fun _ => br_i (fun _ => go _) fun _ => go false)⟩
      · refine pe2 fun lc mc acc z1 => z1.elim fun hDc z2 => ?_
        clear z1
        obtain ⟨bs, i, k, hik, hbs, rfl, hr⟩ := z2
        cases k with
        | succ k => cases hr
        | zero =>
          exact ⟨trivial, ⟨by decide, by decide⟩, by decide, (lc, mc, bs, some (.d y), some (.d (.int lo)), some (.d (.int hi))), rfl, hDc, by show bs.length = 9; (first | lia | omega)⟩
    · refine pe6 fun la ma t o1 o2 o3 z1 => z1.elim fun hDa ht => ?_
      clear z1
      dsimp only at hDa ht ⊢
      refine ⟨trivial, xd5 aL aD la ma 3 rfl ⟨rfl, rfl⟩ ⟨hDa, by decide, by decide⟩ (fun r lb mb hDb r0 r1 => ⟨⟨by (first | lia | omega), by (first | lia | omega)⟩, xi2 (t, 0, 0) (lb, mb) ⟨rfl, ⟨hDb, [], fun _ h => (nomatch h), rfl, by rw [rangeL_len]; simp; (first | lia | omega)⟩, ?_, ?_⟩⟩)⟩
      · refine pe2 fun lc mc acc y rest_2 z1 => z1.elim fun hDc z2 => z2.elim fun cs z3 => ae3 z3 fun hcs ea hl => ?_
        clear z1 z2 z3
        subst ea
        refine ⟨trivial, by decide, xd5 aL aD lc mc 5 rfl ⟨rfl, rfl⟩ ⟨hDc, by decide, by decide⟩ (fun r ld md hDd r0 r1 => ?_)⟩
        obtain ⟨j, rfl⟩ : ∃ j : Nat, r = j := ⟨r.toNat, by (first | lia | omega)⟩
        have hj : j < ([0, 2, 3, 4, 6] : List Nat).length := by show j < 5; (first | lia | omega)
        have v := List.getElem?_eq_getElem hj
        refine get_f (f := fun k : Nat => PyData.int k) v (by decide) ?_
        have hx : ([0, 2, 3, 4, 6] : List Nat)[j] < lawStrings.length := by
          have : ∀ x ∈ ([0, 2, 3, 4, 6] : List Nat), x < lawStrings.length := by decide
          exact this _ (List.getElem_mem hj)
        have w := List.getElem?_eq_getElem hx
        refine get_f (f := pTup) w (by decide) ⟨(ld, md), rfl, hDd, cs ++ [lawStrings[([0, 2, 3, 4, 6] : List Nat)[j]]], fun x hx' => ?_, by rw [List.map_append]; rfl, by simp at hl ⊢; (first | lia | omega)⟩
        rcases List.mem_append.mp hx' with q | q
        · exact hcs x q
        · rw [List.mem_singleton.mp q]; exact List.getElem_mem hx
      · refine pe2 fun lc mc acc z1 => z1.elim fun hDc z2 => z2.elim fun cs z3 => ae3 z3 fun hcs ea hl => ?_
        clear z1 z2 z3
        subst ea
        exact ⟨trivial, xi3 t [] cs ⟨rfl, ⟨ht, str5_nil, hcs, by simp at hl; (first | lia | omega)⟩, fun ts h1 h2 => h lc mc (putT t cs) ts hDc (by rw [putT_len, ht]) h1⟩⟩
  · cases h

theorem multi_law : ∀ x ∈ multi, x ∈ lawStrings ∧ isOne x = false := by decide
theorem putT_multi : ∀ (cs : List (List Int)) (t : List Bool), (∀ x ∈ cs, isOne x = false) → putT t cs = t
  | [], t, _ => rfl
  | [] :: p, t, h => putT_multi p t fun x hx => h x (.tail _ hx)
  | [x] :: p, t, h => by have := h [x] (.head _); cases this
  | (_ :: _ :: _) :: p, t, h => putT_multi p t fun x hx => h x (.tail _ hx)
noncomputable def twoB (q : Bool × Bool) : PyData := .tuple [.bool q.1, .bool q.2]
theorem zipD_eq : ∀ t t' : List Bool, zipD (t.map .bool) (t'.map .bool) = (List.zip t t').map twoB
  | [], _ => rfl
  | _ :: _, [] => rfl
  | a :: t, b :: t' => by
    show PyData.tuple [.bool a, .bool b] :: zipD (t.map .bool) (t'.map .bool) = _
    rw [zipD_eq t t']; rfl
theorem zipW_eq {f : Bool → Bool → Bool} : ∀ t t' : List Bool, List.zipWith f t t' = (List.zip t t').map fun q => f q.1 q.2
  | [], _ => rfl
  | _ :: _, [] => rfl
  | a :: t, b :: t' => by
    rw [List.zipWith_cons_cons, List.zip_cons_cons, List.map_cons, zipW_eq t t']

theorem k319 (X : Wx c K) : ∀ vs out Q, S319 vs out Q → CallOk c 3 319 vs out Q := by
  rintro vs out Q ⟨t, ss, t', ss', w, rfl, ⟨h9, h9', hs, hs', hw⟩, h⟩
  have ss5 : ss.length ≤ 5 := nodup_len (srt_nodup hs.srt) hs.sub
  have ss5' : ss'.length ≤ 5 := nodup_len (srt_nodup hs'.srt) hs'.sub
  let F : Nat → Bool × Bool → Bool := fun n q => match Nat.beq n 184025 with
    | true => q.1 || q.2
    | false => q.1 && (q.2 == sEq w nmBoth)
  let P : List Int → Bool := fun x => ss'.contains x == sEq w nmBoth
  have lz : (List.zip t t').length = 9 := by rw [List.length_zip]; (first | lia | omega)
  have bl : ∀ n, ((List.zip t t').map (F n)).length = 9 := fun n => by rw [List.length_map, lz]
  refine fn_call X.W X.lim (f319 (X.fn 32 rfl)) (spOn_ok (k288 X) spNo_ok) rfl rfl ((e319 t t' ss ss' w (fun n acc rest => match Nat.beq n 187020 with
    | true => PartI ss (fun p => (p.filter P).map pTup) pTup acc rest
    | false => PartI (List.zip t t') (fun p => (p.map (F n)).map .bool) twoB acc rest) out Q).mpr ?_)
  unfold bothS at h
  have lt1 : (t.map PyData.bool).length ≤ 1000 ∧ (t'.map PyData.bool).length ≤ 1000 := ⟨by rw [List.length_map]; (first | lia | omega), by rw [List.length_map]; (first | lia | omega)⟩
  refine br_i (fun q => ?_) fun q => ?_
  · have q' : sEq w nmUnion = true := q
    refine ⟨⟨by decide, by decide⟩, ⟨by decide, by decide⟩, lt1, (), (), rfl, ⟨[], List.zip t t', rfl, rfl, zipD_eq t t'⟩, ?_, ?_⟩
    · rintro _ acc y rest ⟨p, r, e, rfl, hr⟩
      obtain ⟨x, r', rfl, rfl, rfl⟩ := map_cons_inv hr
      have go : ∀ z : Bool, z = (x.1 || x.2) → ∃ a : Unit, G.mk [] out = G.mk [] out ∧ PartI (List.zip t t') (fun p => (p.map (F 184025)).map .bool) twoB ((p.map (F 184025)).map PyData.bool ++ [.bool z]) (r'.map twoB) := fun z hz => ⟨(), rfl, p ++ [x], r', by rw [e]; simp, by rw [List.map_append, List.map_append, hz]; rfl, rfl⟩
      exact ⟨trivial, br_i (fun b => go true (by rw [b]; rfl)) fun b => go x.2 (by rw [b]; rfl)⟩
    · rintro _ acc ⟨p, r, e, rfl, hr⟩
      obtain rfl := map_nil_inv hr
      rw [List.append_nil] at e
      subst e
      refine ⟨trivial, ⟨by decide, by decide⟩, by decide, ⟨by decide, by decide⟩, _, ss, ss', rfl, ⟨bl (184 * 1000 + 25), hs, fun x hx => (multi_law x (hs'.sub x hx)).1, by (first | lia | omega)⟩, fun ts h1 h2 => ?_⟩
      rw [putT_multi ss' _ fun x hx => (multi_law x (hs'.sub x hx)).2]
      have := h ts (by
        rw [q']
        refine ⟨h1, fun x => ?_⟩
        rw [h2]
        constructor
        · rintro (k | ⟨k, k'⟩)
          · exact .inl k
          · exact .inr k
        · rintro (k | k)
          · exact .inl k
          · exact .inr ⟨k, (multi_law x (hs'.sub x k)).2⟩)
      have e : bothT w t t' = (List.zip t t').map (F (184 * 1000 + 25)) := by
        unfold bothT
        rw [zipW_eq]
        refine List.map_congr_left fun x _ => ?_
        unfold wanted
        rw [q']
        try rfl
      rw [e] at this
      exact this
  · have q' : sEq w nmUnion = false := q
    have hw' : wanted w = fun a b => a && (b == sEq w nmBoth) := by
      funext a b
      unfold wanted
      rw [q']
      rcases hw with k | k | k
      · rw [q'] at k; cases k
      · rw [k]
        try (cases a <;> cases b <;> rfl)
      · cases k' : sEq w nmBoth
        · rw [k]; cases a <;> cases b <;> rfl
        · cases a <;> cases b <;> rfl
    refine ⟨⟨by decide, by decide⟩, ⟨by decide, by decide⟩, lt1, (), (), rfl, ⟨[], List.zip t t', rfl, rfl, zipD_eq t t'⟩, ?_, ?_⟩
    · rintro _ acc y rest ⟨p, r, e, rfl, hr⟩
      obtain ⟨x, r', rfl, rfl, rfl⟩ := map_cons_inv hr
      have go : ∀ z : Bool, z = (x.1 && (x.2 == sEq w nmBoth)) → ∃ a : Unit, G.mk [] out = G.mk [] out ∧ PartI (List.zip t t') (fun p => (p.map (F 186013)).map .bool) twoB ((p.map (F 186013)).map PyData.bool ++ [.bool z]) (r'.map twoB) := fun z hz => ⟨(), rfl, p ++ [x], r', by rw [e]; simp, by rw [List.map_append, List.map_append, hz]; rfl, rfl⟩
      exact ⟨trivial, br_i (fun b => go (x.2 == sEq w nmBoth) (by rw [b]; rfl)) fun b => go false (by rw [b]; rfl)⟩
    · rintro _ acc ⟨p, r, e, rfl, hr⟩
      obtain rfl := map_nil_inv hr
      rw [List.append_nil] at e
      subst e
      refine ⟨trivial, ⟨by decide, by decide⟩, by rw [List.length_map]; (first | lia | omega), (), (), rfl, ⟨[], ss, rfl, rfl, rfl⟩, ?_, ?_⟩
      · rintro _ acc y rest ⟨p, r, e, rfl, hr⟩
        obtain ⟨x, r', rfl, rfl, rfl⟩ := map_cons_inv hr
        refine ⟨rfl, ⟨by decide, by decide⟩, ⟨(shAll sh_tups).1, sh_pTup.c, Nat.le_trans sh_pTup.d (by decide)⟩, ?_⟩
        rw [any_strs]
        refine br_i (fun b => ⟨(), rfl, p ++ [x], r', by rw [e]; simp, ?_, rfl⟩) fun b => ⟨(), rfl, p ++ [x], r', by rw [e]; simp, ?_, rfl⟩
        · rw [List.filter_append, List.filter_cons_of_pos (show P x = true from b), List.map_append]; rfl
        · rw [List.filter_append, List.filter_cons_of_neg (by rw [show P x = false from b]; decide), List.map_append]; simp
      · rintro _ acc ⟨p, r, e, rfl, hr⟩
        obtain rfl := map_nil_inv hr
        rw [List.append_nil] at e
        subst e
        refine ⟨rfl, by decide, ?_⟩
        have := h (ss.filter P) (by
          rw [q']
          show (match sEq w nmBoth with | true => _ | false => _)
          cases k : sEq w nmBoth
          · refine List.filter_congr fun x _ => ?_
            show (ss'.contains x == sEq w nmBoth) = !ss'.contains x
            rw [k]; cases ss'.contains x <;> rfl
          · refine List.filter_congr fun x _ => ?_
            show (ss'.contains x == sEq w nmBoth) = ss'.contains x
            rw [k]; cases ss'.contains x <;> rfl)
        have e : bothT w t t' = (List.zip t t').map (F (186 * 1000 + 13)) := by
          unfold bothT
          rw [zipW_eq, hw']
          try rfl
        rw [e] at this
        exact this
end
end Mine

set_option maxRecDepth 100000
namespace Mine
open PySem PySem.W PySem.Calls PyProof.Rows PySem.Spec
open PySem.W.Fast (sEq sEq_iff)

/-! the plain law -/
noncomputable def bAt (k : Nat) : Int := (begins[k]?).getD 0
noncomputable def eAt (k : Nat) : Int := (ends[k]?).getD 0
noncomputable def tGet (t : List Bool) (k : Nat) : Bool := (t[k]?).getD false
/-- the truth of nine at a code -/
noncomputable def tAt (t : List Bool) (x : Int) : Bool := (List.range 9).any fun k => tGet t k && inside x k

theorem inside_iff {x : Int} {k : Nat} : inside x k = true ↔ bAt k ≤ x ∧ x ≤ eAt k := by
  unfold inside bAt eAt
  simp
theorem be : ∀ k, k < 9 → bAt k ≤ eAt k := by decide +kernel
theorem eb : ∀ k, k < 8 → bAt (k + 1) = eAt k + 1 := by decide +kernel
theorem b_mono : ∀ i, i < 9 → ∀ j, j < 9 → i ≤ j → bAt i ≤ bAt j := by decide +kernel
theorem e_mono : ∀ i, i < 9 → ∀ j, j < 9 → i ≤ j → eAt i ≤ eAt j := by decide +kernel
theorem e_lt_b : ∀ i, i < 9 → ∀ j, j < 9 → i < j → eAt i < bAt j := by decide +kernel
theorem cover {x : Int} : ∀ hi lo : Nat, lo ≤ hi → hi < 9 → bAt lo ≤ x → x ≤ eAt hi → ∃ k, lo ≤ k ∧ k ≤ hi ∧ inside x k = true
  | 0, lo, h1, _, h3, h4 => by
    obtain rfl : lo = 0 := by (first | lia | omega)
    exact ⟨0, Nat.le_refl _, Nat.le_refl _, inside_iff.mpr ⟨h3, h4⟩⟩
  | hi + 1, lo, h1, h2, h3, h4 => by
    by_cases q : bAt (hi + 1) ≤ x
    · exact ⟨hi + 1, h1, Nat.le_refl _, inside_iff.mpr ⟨q, h4⟩⟩
    · have := eb hi (by (first | lia | omega))
      have hl : lo ≤ hi := by
        rcases Nat.lt_or_ge hi lo with k | k
        · obtain rfl : lo = hi + 1 := by (first | lia | omega)
          (first | lia | omega)
        · exact k
      obtain ⟨k, a, b, c⟩ := cover hi lo hl (by (first | lia | omega)) h3 (by (first | lia | omega))
      exact ⟨k, a, by (first | lia | omega), c⟩
theorem inside_one {x : Int} {i j : Nat} (hi : i < 9) (hj : j < 9) (h : inside x i = true) (k : inside x j = true) : i = j := by
  obtain ⟨a, b⟩ := inside_iff.mp h
  obtain ⟨c, d⟩ := inside_iff.mp k
  rcases Nat.lt_trichotomy i j with q | q | q
  · have := e_lt_b i hi j hj q; (first | lia | omega)
  · exact q
  · have := e_lt_b j hj i hi q; (first | lia | omega)
theorem tAt_iff {t : List Bool} {x : Int} : tAt t x = true ↔ ∃ k, k < 9 ∧ tGet t k = true ∧ inside x k = true := by
  unfold tAt
  rw [List.any_eq_true]
  simp only [List.mem_range, Bool.and_eq_true]
/-- a code lies in one stretch, or in none -/
theorem point (x : Int) : (∃ k, k < 9 ∧ inside x k = true ∧ ∀ t, tAt t x = tGet t k) ∨ (∀ k, k < 9 → inside x k = false) ∧ ∀ t, tAt t x = false := by
  by_cases h : ∃ k, k < 9 ∧ inside x k = true
  · obtain ⟨k, hk, hi⟩ := h
    refine .inl ⟨k, hk, hi, fun t => ?_⟩
    rw [Bool.eq_iff_iff, tAt_iff]
    exact ⟨fun ⟨j, hj, a, b⟩ => (inside_one hj hk b hi) ▸ a, fun a => ⟨k, hk, a, hi⟩⟩
  · have hn : ∀ k, k < 9 → inside x k = false := fun k hk => by
      cases q : inside x k
      · rfl
      · exact absurd ⟨k, hk, q⟩ h
    refine .inr ⟨hn, fun t => ?_⟩
    rw [Bool.eq_false_iff]
    intro q
    obtain ⟨k, hk, _, b⟩ := tAt_iff.mp q
    exact h ⟨k, hk, b⟩

/-- the law's ranges hold what the truths say -/
theorem go_any (x : Int) : ∀ (l : List Bool) (k : Nat) (prev : Bool) (acc : List (Int × Int)), k + l.length = 9 → (prev = true → ∃ a0 s, acc = a0 ++ [(s, eAt (k - 1))] ∧ s ≤ bAt (k - 1) ∧ 0 < k) →
    (anyR (lawR.go k l prev acc) x = true ↔ anyR acc x = true ∨ ∃ j, j < l.length ∧ tGet l j = true ∧ inside x (k + j) = true)
  | [], k, prev, acc, _, _ => by
    unfold lawR.go
    exact ⟨.inl, fun h => h.elim id fun ⟨j, hj, _⟩ => absurd hj (Nat.not_lt_zero _)⟩
  | b :: l, k, prev, acc, hk, hp => by
    have hk' : k + 1 + l.length = 9 := by rw [List.length_cons] at hk; omega
    have shift : (∃ j, j < l.length ∧ tGet l j = true ∧ inside x (k + 1 + j) = true) ↔ ∃ j, 0 < j ∧ j < (b :: l).length ∧ tGet (b :: l) j = true ∧ inside x (k + j) = true := by
      constructor
      · rintro ⟨j, h1, h2, h3⟩
        exact ⟨j + 1, Nat.succ_pos _, by rw [List.length_cons]; omega, h2, by rw [show k + (j + 1) = k + 1 + j by omega]; exact h3⟩
      · rintro ⟨j, h0, h1, h2, h3⟩
        obtain ⟨i, rfl⟩ : ∃ i, j = i + 1 := ⟨j - 1, by omega⟩
        exact ⟨i, by rw [List.length_cons] at h1; omega, h2, by rw [show k + 1 + i = k + (i + 1) by omega]; exact h3⟩
    have split : (∃ j, j < (b :: l).length ∧ tGet (b :: l) j = true ∧ inside x (k + j) = true) ↔ (b = true ∧ inside x k = true) ∨ ∃ j, 0 < j ∧ j < (b :: l).length ∧ tGet (b :: l) j = true ∧ inside x (k + j) = true := by
      constructor
      · rintro ⟨j, h1, h2, h3⟩
        cases j with
        | zero => exact .inl ⟨h2, h3⟩
        | succ j => exact .inr ⟨j + 1, Nat.succ_pos _, h1, h2, h3⟩
      · rintro (⟨h1, h2⟩ | ⟨j, _, h1, h2, h3⟩)
        · exact ⟨0, Nat.succ_pos _, h1, h2⟩
        · exact ⟨j, h1, h2, h3⟩
    unfold lawR.go
    rw [split, ← shift]
    cases b with
    | false =>
      rw [go_any x l (k + 1) false _ hk' (fun h => by cases h)]
      simp
    | true =>
      cases prev with
      | false =>
        show anyR (lawR.go (k + 1) l true (acc ++ [(bAt k, eAt k)])) x = true ↔ _
        rw [go_any x l (k + 1) true (acc ++ [(bAt k, eAt k)]) hk' (fun _ => ⟨acc, bAt k, by rw [Nat.add_sub_cancel], by rw [Nat.add_sub_cancel]; exact Int.le_refl _, Nat.succ_pos _⟩)]
        rw [anyR_append, anyR_one, Bool.or_eq_true, Bool.and_eq_true, decide_eq_true_iff, decide_eq_true_iff]
        rw [inside_iff, or_assoc]
        show _ ∨ (bAt k ≤ x ∧ x ≤ eAt k) ∨ _ ↔ _
        simp
      | true =>
        obtain ⟨a0, s, rfl, hs, h0⟩ := hp rfl
        have e1 : (a0 ++ [(s, eAt (k - 1))]).dropLast ++ [(((a0 ++ [(s, eAt (k - 1))]).getLast?.getD (0, 0)).1, (ends[k]?).getD 0)] = a0 ++ [(s, eAt k)] := by simp [eAt]
        show anyR (lawR.go (k + 1) l true ((a0 ++ [(s, eAt (k - 1))]).dropLast ++ [(((a0 ++ [(s, eAt (k - 1))]).getLast?.getD (0, 0)).1, (ends[k]?).getD 0)])) x = true ↔ _
        have hm := b_mono (k - 1) (by omega) k (by omega) (by omega)
        rw [e1, go_any x l (k + 1) true (a0 ++ [(s, eAt k)]) hk' (fun _ => ⟨a0, s, by rw [Nat.add_sub_cancel], by rw [Nat.add_sub_cancel]; omega, Nat.succ_pos _⟩)]
        rw [anyR_append, anyR_append, anyR_one, anyR_one, Bool.or_eq_true, Bool.or_eq_true, Bool.and_eq_true, Bool.and_eq_true, decide_eq_true_iff, decide_eq_true_iff, decide_eq_true_iff, inside_iff]
        have h1 := eb (k - 1) (by omega)
        rw [show k - 1 + 1 = k by omega] at h1
        have h2 := be (k - 1) (by omega)
        have h3 := be k (by omega)
        have : (s ≤ x ∧ x ≤ eAt k) ↔ (s ≤ x ∧ x ≤ eAt (k - 1)) ∨ (bAt k ≤ x ∧ x ≤ eAt k) := by omega
        show (_ ∨ (s ≤ x ∧ x ≤ eAt k)) ∨ _ ↔ (_ ∨ (s ≤ x ∧ x ≤ eAt (k - 1))) ∨ _
        rw [this]
        simp [or_assoc]
theorem lawR_is {t : List Bool} (h9 : t.length = 9) (x : Int) : anyR (lawR t) x = tAt t x := by
  rw [Bool.eq_iff_iff, tAt_iff]
  unfold lawR
  rw [go_any x t 0 false [] (by (first | lia | omega)) (fun h => by cases h)]
  simp only [Nat.zero_add]
  constructor
  · rintro (h | ⟨j, h1, h2, h3⟩)
    · cases h
    · exact ⟨j, by (first | lia | omega), h2, h3⟩
  · rintro ⟨j, h1, h2, h3⟩
    exact .inr ⟨j, by (first | lia | omega), h2, h3⟩

/-! nine truths, all of them -/
theorem nine {t : List Bool} (h : t.length = 9) : ∃ a b c d e f g h i, t = [a, b, c, d, e, f, g, h, i] := by
  obtain ⟨a, t, rfl, h0⟩ := lnS (n := 8) h
  obtain ⟨b, t, rfl, h1⟩ := lnS (n := 7) h0
  obtain ⟨c, t, rfl, h2⟩ := lnS (n := 6) h1
  obtain ⟨d, t, rfl, h3⟩ := lnS (n := 5) h2
  obtain ⟨e, t, rfl, h4⟩ := lnS (n := 4) h3
  obtain ⟨f, t, rfl, h5⟩ := lnS (n := 3) h4
  obtain ⟨g, t, rfl, h6⟩ := lnS (n := 2) h5
  obtain ⟨k, t, rfl, h7⟩ := lnS (n := 1) h6
  obtain ⟨i, t, rfl, h8⟩ := lnS (n := 0) h7
  obtain rfl := ln0 h8
  exact xi9 a b c d e f g k i rfl
noncomputable def apartB : List (Int × Int) → Bool
  | [] => true
  | p :: r => decide (p.1 ≤ p.2) && (r.all fun q => decide (p.2 + 1 < q.1)) && apartB r
theorem law_apart {t : List Bool} (h9 : t.length = 9) : apartB (lawR t) = true ∧ (lawR t).length ≤ 5 := by
  obtain ⟨a, b, c, d, e, f, g, h, i, rfl⟩ := nine h9
  revert a b c d e f g h i
  decide +kernel
noncomputable def flatP : List (Int × Int) → List Int
  | [] => []
  | p :: r => p.1 :: (p.2 + 1) :: flatP r
theorem flatP_pairs : ∀ ps, pairsOf (flatP ps) = ps
  | [] => rfl
  | p :: r => by
    unfold flatP pairsOf
    rw [flatP_pairs r]
    congr 1
    ext <;> simp
theorem flatP_len : ∀ ps, (flatP ps).length = 2 * ps.length
  | [] => rfl
  | p :: r => by unfold flatP; rw [List.length_cons, List.length_cons, flatP_len r, List.length_cons]; (first | lia | omega)
theorem flatP_app : ∀ ps qs, flatP (ps ++ qs) = flatP ps ++ flatP qs
  | [], qs => rfl
  | p :: r, qs => by
    show p.1 :: (p.2 + 1) :: flatP (r ++ qs) = _
    rw [flatP_app r qs]; rfl
theorem flatP_rb : ∀ (qs ps : List (Int × Int)), RbI ps (flatP ps) → (∀ b ∈ flatP ps, ∀ q ∈ qs, b < q.1) → apartB qs = true → RbI (ps ++ qs) (flatP (ps ++ qs))
  | [], ps, I, _, _ => by rw [List.append_nil]; exact I
  | q :: qs, ps, I, h, ha => by
    unfold apartB at ha
    simp only [Bool.and_eq_true, List.all_eq_true, decide_eq_true_eq] at ha
    obtain ⟨⟨h1, h2⟩, h3⟩ := ha
    have I' := I.more h1 fun b hb => h b hb q (.head _)
    have e : flatP (ps ++ [q]) = flatP ps ++ [q.1, q.2 + 1] := flatP_app ps [q]
    rw [← e] at I'
    have := flatP_rb qs (ps ++ [q]) I' (fun b hb q' hq' => by
      rw [e] at hb
      rcases List.mem_append.mp hb with hb | hb
      · exact h b hb q' (.tail _ hq')
      · have := h2 q' hq'
        rcases List.mem_cons.mp hb with rfl | hb
        · (first | lia | omega)
        · obtain rfl := List.mem_singleton.mp hb
          (first | lia | omega)) h3
    rwa [List.append_assoc] at this
/-- the law's own bounds -/
theorem flat_law {t : List Bool} (h9 : t.length = 9) : IsB (flatP (lawR t)) (tAt t) := by
  have I := flatP_rb (lawR t) [] ⟨.nil, rfl, fun x => rfl, Nat.le_refl _, fun F0 s e q => by simp [flatP] at q⟩ (fun b hb => nomatch hb) (law_apart h9).1
  rw [List.nil_append] at I
  exact ⟨I.asc, I.ev, fun x => by rw [I.is, lawR_is h9]⟩
theorem IsB.law {B : List Int} {t : List Bool} (h9 : t.length = 9) (h : IsB B (tAt t)) : B = flatP (lawR t) := h.inj (flat_law h9) fun _ => rfl
theorem bnd_law {B : List Int} {t : List Bool} (h9 : t.length = 9) (h : Bnd B (lawR t)) : B = flatP (lawR t) := IsB.law h9 ⟨h.1.asc, h.1.ev, fun x => by rw [h.1.is, lawR_is h9]⟩
theorem law_bnd {t : List Bool} (h9 : t.length = 9) : Bnd (flatP (lawR t)) (lawR t) := ⟨⟨(flat_law h9).asc, (flat_law h9).ev, fun x => by rw [(flat_law h9).is, lawR_is h9]⟩, by rw [flatP_len]; exact Nat.le_refl _⟩
theorem law_okb {t : List Bool} (h9 : t.length = 9) : Okb (flatP (lawR t)) := ⟨(flat_law h9).asc, (flat_law h9).ev, by rw [flatP_len]; have := (law_apart h9).2; (first | lia | omega)⟩
theorem tGet_begin {t : List Bool} {k : Nat} (hk : k < 9) : tAt t (bAt k) = tGet t k := by
  have hi : inside (bAt k) k = true := inside_iff.mpr ⟨Int.le_refl _, be k hk⟩
  rcases point (bAt k) with ⟨j, hj, hi', h⟩ | ⟨h, _⟩
  · rw [h, inside_one hj hk hi' hi]
  · rw [h k hk] at hi; cases hi
theorem tGet_ext {t u : List Bool} (h : t.length = 9) (k : u.length = 9) (e : ∀ i, i < 9 → tGet t i = tGet u i) : t = u := by
  refine List.ext_getElem (by (first | lia | omega)) fun i h1 h2 => ?_
  have := e i (by (first | lia | omega))
  unfold tGet at this
  rw [List.getElem?_eq_getElem h1, List.getElem?_eq_getElem h2] at this
  exact this
theorem tAt_inj {t u : List Bool} (h : t.length = 9) (k : u.length = 9) (e : ∀ x, tAt t x = tAt u x) : t = u := tGet_ext h k fun i hi => by rw [← tGet_begin hi, ← tGet_begin hi, e]
theorem flat_inj {t u : List Bool} (h : t.length = 9) (k : u.length = 9) (e : flatP (lawR t) = flatP (lawR u)) : t = u := tAt_inj h k fun x => by rw [← (flat_law h).is, ← (flat_law k).is, e]

/-! texts -/
theorem multi_asym : ∀ a ∈ multi, ∀ b ∈ multi, ltL a b = true → ltL b a = false := by decide +kernel
theorem str5_eq : ∀ {l k : List (List Int)}, Str5 l → Str5 k → (∀ x, x ∈ l ↔ x ∈ k) → l = k
  | [], [], _, _, _ => rfl
  | [], b :: k, _, _, h => by have := (h b).mpr (.head _); cases this
  | a :: l, [], _, _, h => by have := (h a).mp (.head _); cases this
  | a :: l, b :: k, hl, hk, h => by
    obtain ⟨l1, l2⟩ := List.pairwise_cons.mp hl.srt
    obtain ⟨k1, k2⟩ := List.pairwise_cons.mp hk.srt
    have e : a = b := by
      rcases List.mem_cons.mp ((h a).mp (.head _)) with q | q
      · exact q
      · rcases List.mem_cons.mp ((h b).mpr (.head _)) with r | r
        · exact r.symm
        · have h1 := k1 a q
          have h2 := l1 b r
          rw [multi_asym a (hl.sub a (.head _)) b (hk.sub b (.head _)) h2] at h1
          cases h1
    subst e
    have na : a ∉ l := fun q => by have := l1 a q; rw [ltL_irrefl] at this; cases this
    have nb : a ∉ k := fun q => by have := k1 a q; rw [ltL_irrefl] at this; cases this
    congr 1
    refine str5_eq ⟨fun x hx => hl.sub x (.tail _ hx), l2⟩ ⟨fun x hx => hk.sub x (.tail _ hx), k2⟩ fun x => ⟨fun hx => ?_, fun hx => ?_⟩
    · rcases List.mem_cons.mp ((h x).mp (.tail _ hx)) with q | q
      · subst q; exact absurd hx na
      · exact q
    · rcases List.mem_cons.mp ((h x).mpr (.tail _ hx)) with q | q
      · subst q; exact absurd hx nb
      · exact q
end Mine

set_option maxRecDepth 100000
namespace Mine
open PySem PySem.W PySem.Calls PyProof.Rows PySem.Spec
open PySem.W.Fast (sEq sEq_iff)
section
variable {c : Cx} {K : Frag} {N : Nat}

theorem mem_dedup' {x : List Int} : ∀ {l : List (List Int)}, x ∈ dedup l ↔ x ∈ l
  | [] => Iff.rfl
  | a :: l => by
    unfold dedup
    rw [List.mem_cons, List.mem_cons, List.mem_filter, mem_dedup']
    by_cases h : x = a
    · simp [h]
    · simp [h]
theorem nodup_dedup : ∀ l : List (List Int), (dedup l).Nodup
  | [] => .nil
  | a :: l => by
    unfold dedup
    exact List.nodup_cons.mpr ⟨fun h => by simp [List.mem_filter] at h, (nodup_dedup l).filter _⟩
theorem multi_len : ∀ x ∈ multi, x.length ≤ 5 := by decide
theorem Str5.le {ss : List (List Int)} (h : Str5 ss) : ss.length ≤ 5 := nodup_len (srt_nodup h.srt) h.sub
theorem oks_of {a b : List (List Int)} (ha : Str5 a) (hb : Str5 b) : Oks a b := ⟨nodup_len (nodup_dedup _) fun x hx => by
    rcases List.mem_append.mp (mem_dedup'.mp hx) with q | q
    · exact ha.sub x q
    · exact hb.sub x q, by have := ha.le; (first | lia | omega), by have := hb.le; (first | lia | omega), fun x hx => multi_len x (ha.sub x hx), fun x hx => multi_len x (hb.sub x hx)⟩
theorem sh_v {t : List Bool} {ss : List (List Int)} : Sh 3 (.tuple [.list (t.map .bool), .list (ss.map pTup)]) := .tuple fun x hx => by
  rcases List.mem_cons.mp hx with rfl | hx
  · exact (Sh.list sh_bools).le (by decide)
  · obtain rfl := List.mem_singleton.mp hx
    exact sh_pStrs
theorem eqv_v (t t' : List Bool) (ss ss' : List (List Int)) : PyData.eqvAll [.list (t.map .bool), .list (ss.map pTup)] [.list (t'.map .bool), .list (ss'.map pTup)] = (decide (t = t') && decide (ss = ss')) := by
  simp only [PyData.eqvAll, PyData.eqv, Bool.and_true]
  rw [eqvAll_bools, eqvAll_strs]
theorem set_same {t : List Bool} {i : Nat} (h : i < t.length) : decide (t.set i true = t) = tGet t i := by
  unfold tGet
  rw [List.getElem?_eq_getElem h]
  show _ = t[i]
  cases q : t[i]
  · refine decide_eq_false fun e => ?_
    have := congrArg (·[i]?) e
    simp [h, q] at this
  · refine decide_eq_true ?_
    conv => rhs; rw [← List.set_getElem_self h]
    rw [q]

theorem k302 (X : Wx c K) : ∀ vs out Q, S302 vs out Q → CallOk c 4 302 vs out Q := k302' X (k295 X) fun t h9 => by have := (law_apart h9).2; (first | lia | omega)

noncomputable def hasT (B : List Int) (us : List (List Int)) (q : List Int) : Bool := match q with
  | [x] => inB B x
  | _ => us.contains q
theorem there_eq {t : List Bool} {us ts : List (List Int)} {q : List Int} {B : List Int} (h9 : t.length = 9) (hB : IsB B (tAt t)) (hs : Str5 us) (hq : q ∈ lawStrings) (ht : Str5 ts) (hm : ∀ x, x ∈ ts ↔ x ∈ us ∨ (x ∈ [q] ∧ isOne x = false)) :
    hasT B us q = (decide (putT t [q] = t) && decide (ts = us)) := by
  cases h1 : isOne q with
  | true =>
    obtain ⟨x, rfl, hf, hi⟩ := law_one q hq h1
    have e : ts = us := str5_eq ht hs fun z => by
      rw [hm]
      exact ⟨fun k => k.elim id fun ⟨a, b⟩ => (by rw [List.mem_singleton.mp a, h1] at b; cases b), .inl⟩
    have hin : inside x (idxOf x) = true := by
      have : idxOf x ∈ (List.range 9).filter (inside x) := by rw [hf]; exact .head _
      exact (List.mem_filter.mp this).2
    rw [decide_eq_true e, Bool.and_true]
    show inB B x = decide (t.set (idxOf x) true = t)
    rw [set_same (by (first | lia | omega)), hB.is]
    rcases point x with ⟨j, hj, hj', h⟩ | ⟨h, _⟩
    · rw [h, inside_one hj hi hj' hin]
    · rw [h _ hi] at hin; cases hin
  | false =>
    have eT : putT t [q] = t := putT_multi [q] t fun x hx => by rw [List.mem_singleton.mp hx]; exact h1
    rw [decide_eq_true eT, Bool.true_and]
    have e : us.contains q = decide (ts = us) := by
      rw [Bool.eq_iff_iff, List.contains_iff_mem, decide_eq_true_iff]
      constructor
      · intro k
        exact str5_eq ht hs fun z => by
          rw [hm]
          exact ⟨fun k' => k'.elim id fun ⟨a, b⟩ => (by rw [List.mem_singleton.mp a]; exact k), .inl⟩
      · intro k
        rw [← k, hm]
        exact .inr ⟨.head _, h1⟩
    match q, h1, e with
    | [], _, e => exact e
    | [x], h1, _ => cases h1
    | _ :: _ :: _, _, e => exact e

theorem k331 (X : Wx c K) : ∀ vs out Q, S331 vs out Q → CallOk c 5 331 vs out Q := by
  rintro vs out Q ⟨aL, aD, ls, m, dx, aR, ps, b, ss, k, t, us, rfl, rfl, ⟨hD, A⟩, h⟩
  obtain ⟨h9, few, okb, str, rfl, told⟩ := A
  have u5 := str.le
  refine fn_call X.W X.lim (f331 (X.fn 34 rfl)) (spOn_ok (upS (k241 X)) (spOn_ok (upS (k283 X)) (spOn_ok (upS (k324 X)) (spOn_ok (k302 X) (spOn_ok (upS (k182 X)) (spOn_ok (upS (k288 X)) (spOn_ok (upS (k175 X)) spNo_ok))))))) rfl rfl
    ((e331 aL aD ls m dx aR ps b ss k t ss k [] Q).mpr ⟨rfl, xi8 _ _ dx aR ps b ss k ⟨rfl, rfl, ⟨few, okb⟩, fun B hB => xd5 aL aD ls m 8 rfl ⟨rfl, rfl⟩ ⟨hD, by decide, by decide⟩ (fun r ls' m' hD' r0 r1 => ?_)⟩⟩)
  obtain ⟨hBl, okB⟩ := told B hB
  obtain rfl := bnd_law h9 hBl
  obtain ⟨j, rfl⟩ : ∃ j : Nat, r = j := ⟨r.toNat, by (first | lia | omega)⟩
  have hj : j < lawStrings.length := by show j < 8; (first | lia | omega)
  have v := List.getElem?_eq_getElem hj
  have hq : lawStrings[j] ∈ lawStrings := List.getElem_mem hj
  generalize lawStrings[j] = q at v hq
  refine get_f (f := pTup) v (by decide) ?_
  have ql := law_len q hq
  refine xi4 (flatP (lawR t)) ss t ss ⟨rfl, ⟨okB, h9, oks_of str str⟩, ?_⟩
  rw [flatP_pairs, decide_eq_true rfl, decide_eq_true rfl]
  refine ⟨⟨rfl, by decide⟩, ?_⟩
  rw [show (!k == k) = false by cases k <;> rfl]
  refine xi2 t ss ⟨rfl, ⟨h9, by (first | lia | omega)⟩, fun B1 hB1 => ?_⟩
  obtain rfl := bnd_law h9 hB1
  refine xi4 _ ss _ ss ⟨rfl, ⟨by have := okB.le; (first | lia | omega), by have := okB.le; (first | lia | omega), oks_of str str⟩, ?_⟩
  rw [decide_eq_true rfl, decide_eq_true rfl]
  refine ⟨by decide, xi3 t ss [q] ⟨rfl, ⟨h9, str, fun x hx => by rw [List.mem_singleton.mp hx]; exact hq, (show 1 ≤ 20 by decide)⟩, fun ts h1 h2 => ⟨⟨by decide, by decide⟩, by rw [List.length_map]; (first | lia | omega), ⟨by decide, by decide⟩, by rw [List.length_map]; (first | lia | omega), by decide, ⟨sh_v.shaped, sh_v.shaped⟩, ?_⟩⟩⟩
  have ht9 : (putT t [q]).length = 9 := by rw [putT_len, h9]
  have th := there_eq h9 (flat_law h9) str hq h1 h2
  refine ⟨(by rw [List.length_map]; (first | lia | omega) : (q.map PyData.int).length ≤ 1000), xi3 (flatP (lawR t)) ss q ⟨rfl, ⟨okB, by (first | lia | omega), by (first | lia | omega)⟩, ?_⟩⟩
  unfold pStrs
  rw [eqv_v, ← th]
  change br (hasT (flatP (lawR t)) ss q == hasT (flatP (lawR t)) ss q) _ _
  have bb : ∀ z : Bool, (z == z) = true := fun z => by cases z <;> rfl
  refine br_i (fun _ => xi2 (putT t [q]) ts ⟨rfl, ⟨ht9, by have := h1.le; (first | lia | omega)⟩, fun B2 hB2 => ?_⟩) fun z => by rw [bb] at z; cases z
  obtain rfl := bnd_law ht9 hB2
  refine xi4 _ ss _ ts ⟨rfl, ⟨by have := okB.le; (first | lia | omega), by have := (law_okb ht9).le; (first | lia | omega), oks_of str h1⟩, ?_⟩
  have e : (decide (flatP (lawR t) = flatP (lawR (putT t [q]))) && decide (ss = ts)) = hasT (flatP (lawR t)) ss q := by
    rw [th]
    congr 1
    · rw [Bool.eq_iff_iff, decide_eq_true_iff, decide_eq_true_iff]
      exact ⟨fun q => (flat_inj h9 ht9 q).symm, fun q => by rw [q]⟩
    · rw [Bool.eq_iff_iff, decide_eq_true_iff, decide_eq_true_iff]
      exact ⟨fun q => q.symm, fun q => q.symm⟩
  rw [e, bb]
  exact h ls' m' hD'
end
end Mine

set_option maxRecDepth 100000
namespace Mine
open PySem PySem.W PySem.Calls PyProof.Rows PySem.Spec
open PySem.W.Fast (sEq sEq_iff)
section
variable {c : Cx} {K : Frag} {N : Nat}

/-- the set that is built holds what the law's truths say -/
structure AgX (ps : List (Int × Int)) (b : List Int) (ss : List (List Int)) (t : List Bool) (us : List (List Int)) : Prop where
  len : t.length = 9
  okb : Okb b
  str : Str5 us
  same : ss = us
  mem : ∀ x, (inB b x || anyR ps x) = tAt t x
theorem wanted_u (a b : Bool) : wanted nmUnion a b = (a || b) := by
  unfold wanted
  rw [sEq_self]
theorem AgX.told {ps : List (Int × Int)} {b : List Int} {ss : List (List Int)} {t : List Bool} {us : List (List Int)} (A : AgX ps b ss t us) {B : List Int} (h : Told B b ps) : B = flatP (lawR t) := by
  by_cases q : ps = []
  · obtain rfl := h.no q
    subst q
    exact IsB.law A.len ⟨A.okb.asc, A.okb.ev, fun x => by rw [← A.mem x]; show inB B x = (inB B x || false); rw [Bool.or_false]⟩
  · obtain ⟨R, hR, hB⟩ := h.yes q
    exact IsB.law A.len ⟨hB.1.asc, hB.1.ev, fun x => by rw [hB.1.is, wanted_u, hR.1.is, A.mem]⟩
theorem AgX.agree {ps : List (Int × Int)} {b : List Int} {ss : List (List Int)} {t : List Bool} {us : List (List Int)} (A : AgX ps b ss t us) (hl : ps.length ≤ 60) : Agree ps b ss t us := ⟨A.len, hl, A.okb, A.str, A.same, fun B hB => by
  obtain rfl := A.told hB
  exact ⟨law_bnd A.len, law_okb A.len⟩⟩

theorem tGet_map {f : Nat → Bool} {k : Nat} (h : k < 9) : tGet ((List.range 9).map f) k = f k := by
  unfold tGet
  rw [List.getElem?_map, List.getElem?_range h]
  rfl
/-- a range, put to it -/
theorem at_range {t : List Bool} {lo hi : Nat} (h1 : lo ≤ hi) (h2 : hi < 9) (x : Int) :
    tAt ((List.range 9).map fun k : Nat => tGet t k || (decide ((lo : Int) ≤ (k : Int)) && decide ((k : Int) ≤ (hi : Int)))) x = (tAt t x || (decide (bAt lo ≤ x) && decide (x ≤ eAt hi))) := by
  rcases point x with ⟨k, hk, hi', h⟩ | ⟨hn, h⟩
  · rw [h, h, tGet_map hk]
    congr 1
    obtain ⟨a, b⟩ := inside_iff.mp hi'
    rw [Bool.eq_iff_iff]
    simp only [Bool.and_eq_true, decide_eq_true_eq]
    constructor
    · rintro ⟨p, q⟩
      have := b_mono lo (by (first | lia | omega)) k hk (by (first | lia | omega))
      have := e_mono k hk hi h2 (by (first | lia | omega))
      (first | lia | omega)
    · rintro ⟨p, q⟩
      constructor
      · rcases Nat.lt_or_ge k lo with r | r
        · have := e_lt_b k hk lo (by (first | lia | omega)) r; (first | lia | omega)
        · (first | lia | omega)
      · rcases Nat.lt_or_ge hi k with r | r
        · have := e_lt_b hi h2 k hk r; (first | lia | omega)
        · (first | lia | omega)
  · rw [h, h, Bool.false_or]
    symm
    rw [Bool.eq_false_iff]
    intro q
    simp only [Bool.and_eq_true, decide_eq_true_eq] at q
    obtain ⟨k, a, b, d⟩ := cover hi lo h1 h2 q.1 q.2
    rw [hn k (by (first | lia | omega))] at d
    cases d
theorem law_pt : ∀ c ∈ lawStrings, isOne c = true → ∃ x, c = [x] ∧ idxOf x < 9 ∧ bAt (idxOf x) = x ∧ eAt (idxOf x) = x := by
  intro c hc h1
  simp only [lawStrings, List.mem_cons, List.not_mem_nil, or_false] at hc
  rcases hc with rfl | rfl | rfl | rfl | rfl | rfl | rfl | rfl <;> first
    | exact ⟨_, rfl, by decide +kernel, by decide +kernel, by decide +kernel⟩
    | cases h1
theorem tGet_set {t : List Bool} (h9 : t.length = 9) {i k : Nat} (hi : i < 9) (hk : k < 9) : tGet (t.set i true) k = (tGet t k || decide (k = i)) := by
  unfold tGet
  rw [List.getElem?_set]
  by_cases q : i = k
  · subst q
    rw [if_pos rfl, if_pos (by (first | lia | omega))]
    simp
  · rw [if_neg q, decide_eq_false (fun e => q e.symm), Bool.or_false]
/-- a code, put to it -/
theorem at_code {t : List Bool} (h9 : t.length = 9) {x : Int} (hi : idxOf x < 9) (hb : bAt (idxOf x) = x) (he : eAt (idxOf x) = x) (y : Int) : tAt (t.set (idxOf x) true) y = (tAt t y || (decide (x ≤ y) && decide (y ≤ x))) := by
  have hin : ∀ z, inside z (idxOf x) = true ↔ z = x := fun z => by rw [inside_iff, hb, he]; (first | lia | omega)
  rcases point y with ⟨k, hk, hi', h⟩ | ⟨hn, h⟩
  · rw [h, h, tGet_set h9 hi hk]
    congr 1
    rw [Bool.eq_iff_iff]
    simp only [Bool.and_eq_true, decide_eq_true_eq]
    constructor
    · rintro rfl
      have := (hin y).mp hi'
      (first | lia | omega)
    · intro q
      have : y = x := by (first | lia | omega)
      exact inside_one hk hi hi' ((hin y).mpr this)
  · rw [h, h, Bool.false_or]
    symm
    rw [Bool.eq_false_iff]
    intro q
    simp only [Bool.and_eq_true, decide_eq_true_eq] at q
    have := (hin y).mpr (by (first | lia | omega))
    rw [hn _ hi] at this
    cases this
/-- two of them, put together -/
theorem at_both {t u : List Bool} (w : Str) (h : t.length = 9) (k : u.length = 9) (x : Int) : tAt (bothT w t u) x = wanted w (tAt t x) (tAt u x) := by
  have len : (bothT w t u).length = 9 := by unfold bothT; rw [List.length_zipWith]; (first | lia | omega)
  rcases point x with ⟨i, hi, _, e⟩ | ⟨_, e⟩
  · rw [e, e, e]
    unfold tGet bothT
    rw [List.getElem?_zipWith, List.getElem?_eq_getElem (show i < t.length by (first | lia | omega)), List.getElem?_eq_getElem (show i < u.length by (first | lia | omega))]
    rfl
  · rw [e, e, e, wanted_ff]
theorem bothT_len {t u : List Bool} (w : Str) (h : t.length = 9) (k : u.length = 9) : (bothT w t u).length = 9 := by unfold bothT; rw [List.length_zipWith]; (first | lia | omega)

/-- the texts, put together by the project and by the law -/
theorem put_same {ts ss ss' us : List (List Int)} {w : Str} (h : PutS ts ss ss' w) (k : bothS w us ss ss') (a : Str5 ss) (b : Str5 ss') : ts = us ∧ Str5 us := by
  unfold PutS at h
  unfold bothS at k
  have flt : ∀ {p : List Int → Bool}, Str5 (ss.filter p) := fun {p} => ⟨fun x hx => a.sub x (List.mem_filter.mp hx).1, a.srt.filter _⟩
  split at h
  · rename_i q
    rw [q] at k
    obtain ⟨h1, h2⟩ := h
    obtain ⟨k1, k2⟩ := k
    refine ⟨str5_eq ⟨fun x hx => ?_, h2⟩ k1 fun x => ?_, k1⟩
    · rcases List.mem_append.mp (mem_dedup'.mp (h1.mem_iff.mp hx)) with r | r
      · exact a.sub x r
      · exact b.sub x r
    · rw [h1.mem_iff, mem_dedup', List.mem_append, k2]
  · rename_i q
    rw [q] at k
    split at h
    · rename_i q'
      dsimp only at k
      rw [q'] at k
      exact ⟨h.trans k.symm, by rw [k]; exact flt⟩
    · rename_i q'
      dsimp only at k
      rw [q'] at k
      exact ⟨h.trans k.symm, by rw [k]; exact flt⟩
theorem put_one {ts ss us : List (List Int)} {l : List Int} (h : PutS ts ss [l] nmUnion) (a : Str5 ss) (hl : l ∈ multi) (hu : Str5 us) (hm : ∀ x, x ∈ us ↔ x ∈ ss ∨ (x ∈ [l] ∧ isOne x = false)) : ts = us := by
  unfold PutS at h
  rw [sEq_self] at h
  obtain ⟨h1, h2⟩ := h
  refine str5_eq ⟨fun x hx => ?_, h2⟩ hu fun x => ?_
  · rcases List.mem_append.mp (mem_dedup'.mp (h1.mem_iff.mp hx)) with r | r
    · exact a.sub x r
    · rw [List.mem_singleton.mp r]; exact hl
  · rw [h1.mem_iff, mem_dedup', List.mem_append, hm]
    constructor
    · rintro (r | r)
      · exact .inl r
      · refine .inr ⟨r, ?_⟩
        rw [List.mem_singleton.mp r]
        exact (multi_law l hl).2
    · rintro (r | ⟨r, _⟩)
      · exact .inl r
      · exact .inr r

theorem AgX.range {ps : List (Int × Int)} {b : List Int} {ss : List (List Int)} {t : List Bool} {us : List (List Int)} (A : AgX ps b ss t us) {lo hi : Nat} (h1 : lo ≤ hi) (h2 : hi < 9) :
    AgX (ps ++ [(bAt lo, eAt hi)]) b ss ((List.range 9).map fun k : Nat => tGet t k || (decide ((lo : Int) ≤ (k : Int)) && decide ((k : Int) ≤ (hi : Int)))) us :=
  ⟨by rw [List.length_map, List.length_range], A.okb, A.str, A.same, fun x => by rw [at_range h1 h2, ← A.mem, anyR_append, anyR_one, Bool.or_assoc]⟩
theorem AgX.code {ps : List (Int × Int)} {b : List Int} {ss : List (List Int)} {t : List Bool} {us ts : List (List Int)} (A : AgX ps b ss t us) {x : Int} (hq : [x] ∈ lawStrings) (h1 : Str5 ts) (h2 : ∀ y, y ∈ ts ↔ y ∈ us ∨ (y ∈ [[x]] ∧ isOne y = false)) :
    AgX (ps ++ [(x, x)]) b ss (putT t [[x]]) ts := by
  obtain ⟨x', e, hi, hb, he⟩ := law_pt [x] hq rfl
  cases e
  have e : ts = us := str5_eq h1 A.str fun y => by
    rw [h2]
    exact ⟨fun k => k.elim id fun ⟨a, d⟩ => (by rw [List.mem_singleton.mp a] at d; cases d), .inl⟩
  refine ⟨by rw [putT_len, A.len], A.okb, h1, A.same.trans e.symm, fun y => ?_⟩
  show _ = tAt (t.set (idxOf x) true) y
  rw [at_code A.len hi hb he, ← A.mem, anyR_append, anyR_one, Bool.or_assoc]
theorem AgX.text {ps : List (Int × Int)} {b B : List Int} {ss : List (List Int)} {t : List Bool} {us ts ts' : List (List Int)} {l : List Int} (A : AgX ps b ss t us) (hl : l ∈ multi) (hB : Mg B b [] nmUnion) (hp : PutS ts ss [l] nmUnion) (h1 : Str5 ts') (h2 : ∀ y, y ∈ ts' ↔ y ∈ us ∨ (y ∈ [l] ∧ isOne y = false)) :
    AgX ps B ts (putT t [l]) ts' := by
  obtain rfl := A.same
  have eT : putT t [l] = t := putT_multi [l] t fun x hx => by rw [List.mem_singleton.mp hx]; exact (multi_law l hl).2
  rw [eT]
  have hle := hB.2
  have hle' := A.okb.le
  simp only [List.length_nil] at hle
  exact ⟨A.len, ⟨hB.1.asc, hB.1.ev, by (first | lia | omega)⟩, h1, put_one hp A.str hl h1 h2, fun x => by rw [← A.mem, hB.1.is, wanted_u, inB_nil, Bool.or_false]⟩
theorem AgX.set {ps : List (Int × Int)} {b B R : List Int} {ss : List (List Int)} {t t2 : List Bool} {us ts ts' ss2 : List (List Int)} {w : Str} (A : AgX ps b ss t us) (h9 : t2.length = 9) (s2 : Str5 ss2) (hR : Told R b ps) (hB : Mg B R (flatP (lawR t2)) w) (hp : PutS ts ss ss2 w) (hb : bothS w ts' us ss2) :
    AgX [] B ts (bothT w t t2) ts' := by
  obtain rfl := A.same
  obtain rfl := A.told hR
  obtain ⟨e, hs⟩ := put_same hp hb A.str s2
  have hl := bothT_len w A.len h9
  have is : ∀ x, inB B x = tAt (bothT w t t2) x := fun x => by rw [hB.1.is, (flat_law A.len).is, (flat_law h9).is, at_both w A.len h9]
  have e2 := IsB.law hl ⟨hB.1.asc, hB.1.ev, is⟩
  exact ⟨hl, by rw [e2]; exact law_okb hl, hs, e, fun x => by rw [← is]; show (inB B x || false) = _; rw [Bool.or_false]⟩
end
end Mine

set_option maxRecDepth 100000
namespace Mine
open PySem PySem.W PySem.Calls PyProof.Rows PySem.Spec
open PySem.W.Fast (sEq sEq_iff)
section
variable {c : Cx} {K : Frag} {N : Nat} {sx : SX}

/-- a call of a function of the text's from outside of it -/
noncomputable def TopOk (c : Cx) (N : Nat) (a : Addr) (as : List V) (Q : V → Led → Prop) : Prop :=
  ∀ (A : Around) (ws : List Value) (s : Shared), Room A N → Reps c.w.params c.h₀ ws as → s.heap = c.h₀ → SameRest c.s₀ s →
    wpAny (mdl c) A (call (.ref a) ws) (fun v s' => (∃ d out, RepV c.w.params s'.heap v d ∧ Q d out) ∧ c.h₀.StaysIn s'.heap ∧ SameRest c.s₀ s') no s

theorem RepV.out {P : Params} {h : Heap} {l : List Addr} {v : Value} {d : V} (r : RepV P (fz h l) v d) : RepV P h v d := r.keeps fz_in

theorem fn_top (W : Wd c K) (hlim : c.h₀.NoLimit) {a : Addr} {ps : List Str} {body : List Stmt} {scope : Scope} (F : FnAt K a ps [] body scope) {fuel : Nat} (hsp : ∀ a vs out Q, sx.sp a vs out Q → CallOk c N a vs out Q) (hsc : sx.sc = scope.names) {as : List V} {Q : V → Led → Prop}
    (hl : as.length = ps.length) (h : vXs (vc fuel) sx body (initM (ps.zip as) scope.names) ⟨[], []⟩ (exitQ Q)) : TopOk c (N + 1) a as Q := fun A ws s RA rargs hs hrest => by
  obtain ⟨oc, od, osl, name, qual, params, dV, kV, doc, pm, an, cdv, ct, ho, hcd, hbind⟩ := F.ex
  have X : K.In s.heap := hs ▸ W.X
  have hwl : ws.length = ps.length := rargs.len.trans hl
  have hkind := kinds_at F hwl
  have eapp : ws ++ [] = ws := List.append_nil ws
  have hb := hbind ws s (by rw [eapp]; exact hwl) X
  rw [eapp] at hb
  refine wpAny_call (codeAny_call_function (by have := RA.d; show A.depth < 1000; (first | lia | omega)) (X _ _ ho) rfl F.co F.gen rfl (codeRec_of X hcd) (hb _ _ _ _ (wpAny_newFunctionEnv_cells F.kind (hkind _) fun env' he s' x => ?_)))
  obtain ⟨h', tk, rfl, old₂⟩ := x.done
  have old : ∀ x o, c.h₀.get? x = some o → h'.get? x = some o := fun x o e => old₂ _ _ (hs ▸ e)
  refine ⟨hlim.keeps old, codeAny_func ?_⟩
  have CA : CalleeAt c ps scope.names ws s.heap h' env' := callee_at F (by subst he; rfl) (by subst he; rfl) (by subst he; rfl) (by subst he; rfl) (by subst he; rfl) hwl x
  have hsn : env'.scope = scope := by subst he; rfl
  have em : muts ⟨env', A.deeper env'⟩ [] ⟨[], []⟩ = env'.locals :: env'.cells.map (·.2) := rfl
  have z : c.h₀.StaysIn (fz h' (muts ⟨env', A.deeper env'⟩ [] ⟨[], []⟩)) := fun b o e => fz_get.mpr ⟨old b o e, fun q => by
    rw [em] at q
    have := (CA.fresh b q).1
    rw [hs, e] at this
    cases this⟩
  have S₁ : Sat c ⟨env', A.deeper env'⟩ [] (initM (ps.zip as) scope.names) ⟨[], []⟩ as ws { s with heap := h', toks := tk } := by
    refine ⟨z, fun p hp => (nomatch hp), fun p hp => (nomatch hp), fun p hp => (nomatch hp), CA.fr _ _ (rargs.keeps z), CA.nd, rargs.keeps z, hrest, fun a ha => (CA.fresh a ha).2⟩
  have C : Scp c N sx ⟨env', A.deeper env'⟩ := ⟨hsp, fun y k hy => by
    unfold Env.kindOf; rw [show (Fm.env ⟨env', A.deeper env'⟩).scope = scope from hsn]
    exact lookup_of_mem F.nodup (slook_mem (hsc ▸ hy))⟩
  refine wpAny_mono (ok_vXs (ok_vc0 W N fuel) C (Room.deep RA) h _ _ _ _ S₁) (fun fl s₂ q => ?_) no_imp
  cases fl with
  | next =>
    obtain ⟨m₂, g₂, S₂, q⟩ := q
    exact ⟨⟨.d .none, _, (Rd.none : Rd s₂.heap Value.none .none), q⟩, S₂.frozen, S₂.rest⟩
  | ret v =>
    obtain ⟨d, m₂, g₂, S₂, q⟩ := q
    replace q : vExit d g₂ Q := q
    unfold vExit at q
    split at q
    · exact ⟨⟨_, _, S₂.top.out, q⟩, S₂.frozen, S₂.rest⟩
    · exact ⟨⟨_, _, shift_rep S₂.top.out, q⟩, S₂.frozen, S₂.rest⟩
  | _ => exact q.elim
end
end Mine

set_option maxRecDepth 100000
namespace Mine
open PySem PySem.W PySem.Calls PyProof.Rows PySem.Spec
open PySem.W.Fast (sEq sEq_iff)
section
variable {c : Cx} {K : Frag} {N : Nat}

noncomputable def S336 : SP := fun vs out Q => ∃ l, vs = [.d (pInts l)] ∧ out = [] ∧ l.length ≤ 63 ∧ ∀ out', Q (dB true) out'
structure LI (x : LS) (rest : List PyData) : Prop where
  dk : Dk x.ls x.m
  ag : AgX x.ps x.b x.ss x.t x.us
  few : x.ps.length + rest.length ≤ 8
noncomputable def wayW : List Str := [nmUnion, nmBoth, nmWithout]
theorem wayW_ok : ∀ w ∈ wayW, sEq w nmUnion = true ∨ sEq w nmBoth = true ∨ sEq w nmWithout = true := by
  intro w hw
  simp only [wayW, List.mem_cons, List.not_mem_nil, or_false] at hw
  rcases hw with rfl | rfl | rfl
  · exact .inl (sEq_self _)
  · exact .inr (.inl (sEq_self _))
  · exact .inr (.inr (sEq_self _))

theorem k336 (X : Wx c K) : ∀ vs out Q, S336 vs out Q → TopOk c 6 336 vs Q := by
  rintro vs out Q ⟨l, rfl, rfl, hl, h⟩
  refine fn_top X.W X.lim (f336 (X.fn 35 rfl)) (spOn_ok (upS (k276 X)) (spOn_ok (upS (k244 X)) (spOn_ok (upS (k283 X)) (spOn_ok (upS (k309 X)) (spOn_ok (upS (k220 X)) (spOn_ok (upS (k255 X)) (spOn_ok (upS (k262 X)) (spOn_ok (k227 X) (spOn_ok (upS (k288 X)) (spOn_ok (upS (k314 X)) (spOn_ok (upS (k302 X)) (spOn_ok (k234 X) (spOn_ok (upS (k319 X)) (spOn_ok (k331 X) (spOn_ok (upS (k324 X)) (spOn_ok (upS (k199 X)) spNo_ok)))))))))))))))) rfl rfl
    ((e336 l (fun p => RangeI fun i => ((List.range i).map fun k : Nat => tGet p.t k || (decide (p.lo ≤ (k : Int)) && decide ((k : Int) ≤ p.hi))).map .bool)
      LI [] Q).mpr ⟨l, rfl, hl, fun aL aD ls m hD dx aR => ⟨⟨by decide, by decide, by decide, by decide⟩, by decide, by decide, xd5 aL aD ls m 8 rfl ⟨rfl, rfl⟩ ⟨hD, by decide, by decide⟩ (fun r ls' m' hD' r0 r1 => ⟨⟨by (first | lia | omega), by (first | lia | omega)⟩, xi2 ()
        ⟨aL, aD, dx, aR, ls', m', [], [], [], false, List.replicate 9 false, [], none, none, none, none, none, none, none, 0, 0⟩ ⟨rfl, ⟨hD', ⟨rfl, okb_nil, str5_nil, rfl, fun x => ?_⟩, ?_⟩, ?_, ?_⟩⟩)⟩⟩)
  · show (false || false) = _
    rcases point x with ⟨k, hk, _, e⟩ | ⟨_, e⟩
    · rw [e]
      unfold tGet
      rw [List.getElem?_replicate, if_pos hk]; rfl
    · rw [e]; rfl
  · rw [rangeL_len]
    show 0 + _ ≤ 8
    (first | lia | omega)
  · rintro a y rest ⟨hDa, A, few⟩
    have few' : a.ps.length + rest.length + 1 ≤ 8 := by rw [List.length_cons] at few; (first | lia | omega)
    have u5 := A.str.le
    refine ⟨trivial, xd5 a.aL a.aD a.ls a.m 6 rfl ⟨rfl, rfl⟩ ⟨hDa, by decide, by decide⟩ (fun r lb mb hDb r0 r1 => br_i (fun w2 => ?_) fun w2 => br_i (fun weq => ?_) fun weq => ?_)⟩
    · -- a range
      have hr2 : r < 2 := of_decide_eq_true w2
      have hbeh : decide ((2 : Int) < r) = false := decide_eq_false (by (first | lia | omega))
      rw [hbeh]
      refine xd4 a.aL a.aD lb mb rfl ⟨rfl, rfl⟩ hDb (fun lc mc lo hi hDc h0 h1 h2 => ⟨rfl, ?_⟩)
      obtain ⟨lo, rfl⟩ : ∃ j : Nat, lo = j := ⟨lo.toNat, by (first | lia | omega)⟩
      obtain ⟨hi, rfl⟩ : ∃ j : Nat, hi = j := ⟨hi.toNat, by (first | lia | omega)⟩
      have v1 : begins[lo]? = some (bAt lo) := by unfold bAt; rw [List.getElem?_eq_getElem (show lo < begins.length by show lo < 9; (first | lia | omega))]; rfl
      have v2 : ends[hi]? = some (eAt hi) := by unfold eAt; rw [List.getElem?_eq_getElem (show hi < ends.length by show hi < 9; (first | lia | omega))]; rfl
      refine get_ok v1 (by decide) (get_ok v2 (by decide) ?_)
      refine xi10 _ _ a.dx a.aR a.ps a.b a.ss a.k (bAt lo) (eAt hi) ⟨rfl, rfl, by (first | lia | omega), ⟨by decide, by decide⟩, xi2 ⟨a.aL, a.aD, a.dx, a.aR, lc, mc, a.ps ++ [(bAt lo, eAt hi)], a.b, a.ss, false, a.t, a.us, none, none, none, none, none, none, none, lo, hi⟩ () ⟨rfl, ⟨0, 9, rfl, rfl, rfl⟩, ?_, ?_⟩⟩
      · rintro _ acc y rest' ⟨i, n, hin, rfl, hr⟩
        cases n with
        | zero => cases hr
        | succ n =>
          rw [rangeL_app] at hr
          cases hr
          have hi9 : i < a.t.length := by have := A.len; (first | lia | omega)
          have v := List.getElem?_eq_getElem hi9
          have tg : tGet a.t i = a.t[i] := by unfold tGet; rw [v]; rfl
          refine ⟨trivial, ⟨by decide, by decide⟩, get_f (f := PyData.bool) v (by have := A.len; (first | lia | omega)) (br_i (fun b => ?_) fun b => br_i (fun b2 => ?_) fun b2 => ?_)⟩
          · refine ⟨(), rfl, i + 1, n, by (first | lia | omega), ?_, rfl⟩
            rw [List.range_succ, List.map_append, List.map_append]
            show _ ++ [PyData.bool true] = _ ++ [PyData.bool (tGet a.t i || _)]
            rw [tg, b]; rfl
          · refine ⟨(), rfl, i + 1, n, by (first | lia | omega), ?_, rfl⟩
            rw [List.range_succ, List.map_append, List.map_append]
            show _ ++ [PyData.bool (decide ((i : Int) ≤ (hi : Int)))] = _ ++ [PyData.bool (tGet a.t i || (decide ((lo : Int) ≤ (i : Int)) && decide ((i : Int) ≤ (hi : Int))))]
            rw [tg, b, b2]; rfl
          · refine ⟨(), rfl, i + 1, n, by (first | lia | omega), ?_, rfl⟩
            rw [List.range_succ, List.map_append, List.map_append]
            show _ ++ [PyData.bool false] = _ ++ [PyData.bool (tGet a.t i || (decide ((lo : Int) ≤ (i : Int)) && decide ((i : Int) ≤ (hi : Int))))]
            rw [tg, b, b2]; rfl
      · rintro _ acc ⟨i, n, hin, rfl, hr⟩
        cases n with
        | succ n => cases hr
        | zero =>
          obtain rfl : i = 9 := by (first | lia | omega)
          have A' := A.range (lo := lo) (hi := hi) (by (first | lia | omega)) (by (first | lia | omega))
          refine ⟨trivial, ⟨by decide, by decide⟩, by decide, xd12 a.aL a.aD lc mc a.dx a.aR (a.ps ++ [(bAt lo, eAt hi)]) a.b a.ss false _ a.us rfl rfl ⟨hDc, A'.agree (by simp; (first | lia | omega))⟩ (fun ld md hDd => ⟨⟨a.aL, a.aD, a.dx, a.aR, ld, md, a.ps ++ [(bAt lo, eAt hi)], a.b, a.ss, false, _, a.us, some (.d y), some (.d (.int r)), some (.d (.int lo)), some (.d (.int hi)), a.codes, a.other, a.word, 0, 0⟩, rfl, ⟨hDd, A', by simp; (first | lia | omega)⟩⟩)⟩
    · -- a string
      have hr2 : r = 2 := beq_iff_eq.mp weq
      have hbeh : decide ((2 : Int) < r) = false := decide_eq_false (by (first | lia | omega))
      rw [hbeh]
      refine xd5 a.aL a.aD lb mb 8 rfl ⟨rfl, rfl⟩ ⟨hDb, by decide, by decide⟩ (fun s lc mc hDc s0 s1 => ?_)
      obtain ⟨j, rfl⟩ : ∃ j : Nat, s = j := ⟨s.toNat, by (first | lia | omega)⟩
      have hj : j < lawStrings.length := by show j < 8; (first | lia | omega)
      have v := List.getElem?_eq_getElem hj
      have hq : lawStrings[j] ∈ lawStrings := List.getElem_mem hj
      generalize lawStrings[j] = q at v hq
      have ql := law_len q hq
      refine get_f (f := pTup) v (by decide) ⟨rfl, (by rw [List.length_map]; (first | lia | omega) : (q.map PyData.int).length ≤ 1000), ?_⟩
      have hok : q.length ≠ 1 → Oks a.ss [q] := fun hne => by
        have h1 : isOne q = false := by
          rw [isOne_len]
          exact beq_eq_false_iff_ne.mpr hne
        rw [A.same]
        exact ⟨nodup_len (L := multi) (nodup_dedup (a.us ++ [q])) fun x hx => by
            rcases List.mem_append.mp (mem_dedup'.mp hx) with k | k
            · exact A.str.sub x k
            · rw [List.mem_singleton.mp k]; exact law_multi q hq h1, by (first | lia | omega), (show 1 ≤ 20 by decide), fun x hx => multi_len x (A.str.sub x hx), fun x hx => by rw [List.mem_singleton.mp hx]; exact ql⟩
      refine xi9 _ _ a.dx a.aR a.ps a.b a.ss a.k q ⟨rfl, rfl, ⟨by (first | lia | omega), A.okb, hok, ql⟩, fun x hx => ?_, fun hne B ts hB hp => ?_⟩
      · subst hx
        refine ⟨by decide, xi3 a.t a.us [[x]] ⟨rfl, ⟨A.len, A.str, fun z hz => by rw [List.mem_singleton.mp hz]; exact hq, (show 1 ≤ 20 by decide)⟩, fun ts h1 h2 => ?_⟩⟩
        have A' := A.code hq h1 h2
        exact xd12 a.aL a.aD lc mc a.dx a.aR (a.ps ++ [(x, x)]) a.b a.ss false _ ts rfl rfl ⟨hDc, A'.agree (by simp; (first | lia | omega))⟩ (fun ld md hDd => ⟨⟨a.aL, a.aD, a.dx, a.aR, ld, md, a.ps ++ [(x, x)], a.b, a.ss, false, _, ts, some (.d y), some (.d (.int r)), a.low, a.high, some (.d (pTup [x])), a.other, a.word, 0, 0⟩, rfl, ⟨hDd, A', by simp; (first | lia | omega)⟩⟩)
      · have hone : isOne q = false := by
          rw [isOne_len]
          exact beq_eq_false_iff_ne.mpr hne
        refine ⟨by decide, xi3 a.t a.us [q] ⟨rfl, ⟨A.len, A.str, fun z hz => by rw [List.mem_singleton.mp hz]; exact hq, (show 1 ≤ 20 by decide)⟩, fun ts' h1 h2 => ?_⟩⟩
        have A' := A.text (law_multi q hq hone) hB hp h1 h2
        exact xd12 a.aL a.aD lc mc a.dx a.aR a.ps B ts false _ ts' rfl rfl ⟨hDc, A'.agree (by (first | lia | omega))⟩ (fun ld md hDd => ⟨⟨a.aL, a.aD, a.dx, a.aR, ld, md, a.ps, B, ts, false, _, ts', some (.d y), some (.d (.int r)), a.low, a.high, some (.d (pTup q)), a.other, a.word, 0, 0⟩, rfl, ⟨hDd, A', by show a.ps.length + rest.length ≤ 8; (first | lia | omega)⟩⟩)
    · -- another set
      have hr2 : ¬ r < 2 := of_decide_eq_false w2
      have hr3 : r ≠ 2 := fun e => by rw [e] at weq; cases weq
      have hbeh : decide ((2 : Int) < r) = true := decide_eq_true (by (first | lia | omega))
      rw [hbeh]
      refine xd4 a.aL a.aD lb mb rfl ⟨rfl, rfl⟩ hDb (fun lc mc t2 ss2 hDc h9 s2 => ⟨by decide, ?_⟩)
      obtain ⟨j, e⟩ : ∃ j : Nat, r - 3 = j := ⟨(r - 3).toNat, by (first | lia | omega)⟩
      have hj : j < wayW.length := by show j < 3; (first | lia | omega)
      have v := List.getElem?_eq_getElem hj
      have hw := wayW_ok _ (List.getElem_mem hj)
      generalize wayW[j] = w at v hw
      rw [e]
      refine get_f (f := PyData.str) v (by decide) ⟨rfl, xi2 t2 ss2 ⟨rfl, ⟨h9, by have := s2.le; (first | lia | omega)⟩, fun B0 hB0 => ?_⟩⟩
      obtain rfl := bnd_law h9 hB0
      refine xi11 _ _ a.dx a.aR a.ps a.b a.ss a.k (flatP (lawR t2)) ss2 w ⟨rfl, rfl, ⟨by (first | lia | omega), A.okb, law_okb h9, by rw [A.same]; exact oks_of A.str s2, hw⟩, fun R hR => by rw [A.told hR]; exact law_okb A.len, fun aR' B R ts hR hB hp => xi5 a.t a.us t2 ss2 w ⟨rfl, ⟨A.len, h9, A.str, s2, hw⟩, fun ts' hb => ?_⟩⟩
      have A' := A.set h9 s2 hR hB hp hb
      exact xd12 a.aL a.aD lc mc a.dx aR' [] B ts true _ ts' rfl rfl ⟨hDc, A'.agree (by decide)⟩ (fun ld md hDd => ⟨⟨a.aL, a.aD, a.dx, aR', ld, md, [], B, ts, true, _, ts', some (.d y), some (.d (.int r)), a.low, a.high, a.codes, some (vD t2 ss2), some (.d (.str w)), 0, 0⟩, rfl, ⟨hDd, A', by show 0 + rest.length ≤ 8; (first | lia | omega)⟩⟩)
  · rintro a ⟨hDa, A, few⟩
    refine ⟨trivial, xd4 a.aL a.aD a.ls a.m rfl ⟨rfl, rfl⟩ hDa (fun lb mb t ss hDb h9 s1 => xd4 a.aL a.aD lb mb rfl ⟨rfl, rfl⟩ hDb (fun lc mc t2 ss2 hDc h9' s2 => ⟨by decide, xd5 a.aL a.aD lc mc 3 rfl ⟨rfl, rfl⟩ ⟨hDc, by decide, by decide⟩ (fun r ld md hDd r0 r1 => ?_)⟩))⟩
    obtain ⟨j, rfl⟩ : ∃ j : Nat, r = j := ⟨r.toNat, by (first | lia | omega)⟩
    have hj : j < wayW.length := by show j < 3; (first | lia | omega)
    have v := List.getElem?_eq_getElem hj
    have hw := wayW_ok _ (List.getElem_mem hj)
    generalize wayW[j] = w at v hw
    refine get_f (f := PyData.str) v (by decide) (xi2 t ss ⟨rfl, ⟨h9, by have := s1.le; (first | lia | omega)⟩, fun B1 hB1 => xi2 t2 ss2 ⟨rfl, ⟨h9', by have := s2.le; (first | lia | omega)⟩, fun B2 hB2 => ?_⟩⟩)
    obtain rfl := bnd_law h9 hB1
    obtain rfl := bnd_law h9' hB2
    have o1 := law_okb h9
    have o2 := law_okb h9'
    refine xi5 _ ss _ ss2 w ⟨rfl, ⟨o1, o2, oks_of s1 s2, hw⟩, fun B ts hB hp => xi5 t ss t2 ss2 w ⟨rfl, ⟨h9, h9', s1, s2, hw⟩, fun ts' hb => ?_⟩⟩
    obtain ⟨rfl, s3⟩ := put_same hp hb s1 s2
    have hl9 := bothT_len w h9 h9'
    obtain rfl := IsB.law hl9 ⟨hB.1.asc, hB.1.ev, fun x => by rw [hB.1.is, (flat_law h9).is, (flat_law h9').is, at_both w h9 h9']⟩
    refine xi4 _ ts _ ts ⟨rfl, ⟨law_okb hl9, hl9, oks_of s3 s3⟩, ?_⟩
    rw [flatP_pairs, decide_eq_true rfl, decide_eq_true rfl]
    refine xi4 _ ss _ ss ⟨rfl, ⟨o1, h9, oks_of s1 s1⟩, ?_⟩
    rw [flatP_pairs, decide_eq_true rfl, decide_eq_true rfl]
    refine xi4 _ ss2 _ ss2 ⟨rfl, ⟨o2, h9', oks_of s2 s2⟩, ?_⟩
    rw [flatP_pairs, decide_eq_true rfl, decide_eq_true rfl]
    exact h _
end
end Mine

set_option maxRecDepth 100000
namespace Mine
open PySem PySem.W PySem.Calls PyProof.Rows PySem.Spec
open PySem.W.Fast (sEq sEq_iff)

/-- what the head has seen -/
structure Seen (h₀ : Heap) : Prop where
  fns : ∀ p ∈ fnTab, fnSee (kOf h₀) p.1 = fnExp p.1 p.2
  k : kGood (kOf h₀) = true
  h : hGood h₀ = true
theorem seen_of {s : Shared} (e : obs s = obsGood) : Seen s.heap := by
  have e1 := congrArg Prod.fst e
  have e2 := congrArg Prod.snd e
  obtain ⟨a, b⟩ := Bool.and_eq_true_iff.mp e2
  exact ⟨List.map_inj_left.mp e1, a, b⟩

theorem isRefTo_inv {o : Option Value} {a : Addr} (h : isRefTo o a = true) : o = some (.ref a) := by
  unfold isRefTo at h
  split at h
  · rw [Nat.eq_of_beq_eq_true h]
  · cases h
theorem isBi_inv {o : Option Value} {b : Bi} (h : isBi o b = true) : o = some b.val := beq_iff_eq.mp h
theorem intsAt_inv {z : Heap} : ∀ {vs : List Value} {l : List Int}, intsAt vs l = true → RdAll z vs (l.map .int)
  | [], [], _ => .nil
  | [], _ :: _, h => by cases h
  | v :: vs, [], h => by cases v <;> cases h
  | v :: vs, j :: l, h => by
    cases v <;> first
      | (obtain ⟨a, b⟩ := Bool.and_eq_true_iff.mp h
         obtain rfl := of_decide_eq_true a
         exact .cons .int (intsAt_inv b))
      | cases h
theorem tupGood_inv {h : Heap} {v : Value} {l : List Int} (q : tupGood (kOf h) v l = true) : Rd h v (pTup l) := by
  unfold tupGood at q
  split at q
  · obtain ⟨n, od, vs, k, osl, ho, q⟩ := seqAt_inv q
    obtain ⟨q1, q2⟩ := Bool.and_eq_true_iff.mp q
    rw [beq_iff_eq.mp q1] at ho
    exact Rd.tuple (kOf_in h _ _ ho) rfl rfl (intsAt_inv q2)
  · cases q
theorem tupsGood_inv {h : Heap} : ∀ {vs : List Value} {l : List (List Int)}, tupsGood (kOf h) vs l = true → RdAll h vs (l.map pTup)
  | [], [], _ => .nil
  | [], _ :: _, q => by cases q
  | _ :: _, [], q => by cases q
  | v :: vs, l :: ls, q => by
    obtain ⟨a, b⟩ := Bool.and_eq_true_iff.mp q
    exact .cons (tupGood_inv a) (tupsGood_inv b)
theorem strsGood_inv {h : Heap} (q : strsGood (kOf h) = true) : Rd h (.ref 271) (pStrs lawStrings) := by
  obtain ⟨n, od, vs, k, osl, ho, q⟩ := seqAt_inv q
  obtain ⟨q1, q2⟩ := Bool.and_eq_true_iff.mp q
  rw [beq_iff_eq.mp q1] at ho
  exact Rd.list (kOf_in h _ _ ho) rfl rfl (tupsGood_inv q2)

theorem law_at {h₀ : Heap} (S : Seen h₀) : h₀.Ns mainGlobals (h₀.nsMap mainGlobals) ∧ h₀.nsMap mainGlobals "law" = some (.ref 336) := by
  have hh := S.h
  unfold hGood at hh
  obtain ⟨h1, hh⟩ := Bool.and_eq_true_iff.mp hh
  obtain ⟨-, hh⟩ := Bool.and_eq_true_iff.mp hh
  obtain ⟨-, hh⟩ := Bool.and_eq_true_iff.mp hh
  obtain ⟨-, h5⟩ := Bool.and_eq_true_iff.mp hh
  exact ⟨Heap.Ns.of_isNs h1, isRefTo_inv h5⟩
theorem wx_of {c : Cx} {h₀ : Heap} (S : Seen h₀) (hst : h₀.StaysIn c.h₀) (hlim : c.h₀.NoLimit) (sT : SortT c) (sP : SortP c) (sD : SortD c) : Wx c (kOf h₀) := by
  have hk := S.k
  unfold kGood at hk
  obtain ⟨k1, hk⟩ := Bool.and_eq_true_iff.mp hk
  obtain ⟨k2, hk⟩ := Bool.and_eq_true_iff.mp hk
  obtain ⟨k3, hk⟩ := Bool.and_eq_true_iff.mp hk
  obtain ⟨k4, hk⟩ := Bool.and_eq_true_iff.mp hk
  obtain ⟨k5, hk⟩ := Bool.and_eq_true_iff.mp hk
  obtain ⟨k6, hk⟩ := Bool.and_eq_true_iff.mp hk
  obtain ⟨k7, hk⟩ := Bool.and_eq_true_iff.mp hk
  obtain ⟨k8, k9⟩ := Bool.and_eq_true_iff.mp hk
  have hh := S.h
  unfold hGood at hh
  obtain ⟨h1, hh⟩ := Bool.and_eq_true_iff.mp hh
  obtain ⟨h2, hh⟩ := Bool.and_eq_true_iff.mp hh
  obtain ⟨h3, hh⟩ := Bool.and_eq_true_iff.mp hh
  obtain ⟨h4, -⟩ := Bool.and_eq_true_iff.mp hh
  refine ⟨⟨⟨fun p hp => ?_⟩, (kOf_in h₀).keeps hst, fun {x l s A env E Q} hx hs hg hb h => ?_, fun a ha => ?_, fun p hp => ?_, sT, sP, sD, ?_, ?_⟩, hlim, S.fns, k9, k5, k6, k7⟩
  · have := List.all_eq_true.mp k1 p hp
    unfold attrGood at this
    simp only [Bool.and_eq_true, beq_iff_eq] at this
    obtain ⟨a, b, d, e, f, g⟩ := this
    exact ⟨a, b, d, e, f, g⟩
  · have hm := List.all_eq_true.mp h3 _ (slook_mem hx)
    have n1 := ((Heap.Ns.of_isNs h1).keeps hst).keeps hs
    have n2 := ((Heap.Ns.of_isNs h2).keeps hst).keeps hs
    unfold glGood at hm
    cases l with
    | fn a => exact loadGlobal_global (hg ▸ n1) (isRefTo_inv hm) (h _ rfl)
    | «strs» => exact loadGlobal_global (hg ▸ n1) (isRefTo_inv hm) (h _ ((strsGood_inv k8).keeps hst))
    | bi b =>
      obtain ⟨m1, m2⟩ := Bool.and_eq_true_iff.mp hm
      exact loadGlobal_builtin (hg ▸ n1) (Option.isNone_iff_eq_none.mp m1) (hb ▸ n2) (isBi_inv m2) (h _ rfl)
  · refine List.all_eq_true.mp k2 a ?_
    have : ∀ {l : List Nat}, nmem a l = true → a ∈ l := fun {l} => by
      induction l with
      | nil => exact fun h => by cases h
      | cons b l ih =>
        intro h
        unfold nmem at h
        split at h
        · rename_i q
          rw [Nat.eq_of_beq_eq_true q]; exact .head _
        · exact .tail _ (ih h)
    exact this ha
  · have := List.all_eq_true.mp k3 p hp
    unfold methGood at this
    simp only [Bool.and_eq_true, beq_iff_eq] at this
    obtain ⟨a, b, d⟩ := this
    exact ⟨a, b, d⟩
  · obtain ⟨o, ho⟩ := Option.isSome_iff_exists.mp h4
    exact ⟨o, hst _ _ ho⟩
  · unfold statGood at k4
    obtain ⟨a, k4⟩ := Bool.and_eq_true_iff.mp k4
    obtain ⟨b, k4⟩ := Bool.and_eq_true_iff.mp k4
    obtain ⟨d, e⟩ := Bool.and_eq_true_iff.mp k4
    have d' : findCls (kOf h₀) (.ref 150) (.type "type") nmOf = some (.get (.builtin "staticmethod.__get__") (.ref 78) .none (.ref 150)) := by
      unfold isStat at d
      split at d
      · rename_i q
        obtain ⟨d1, d⟩ := Bool.and_eq_true_iff.mp d
        obtain ⟨d2, d⟩ := Bool.and_eq_true_iff.mp d
        obtain ⟨d3, d4⟩ := Bool.and_eq_true_iff.mp d
        rw [q, beq_iff_eq.mp d1, beq_iff_eq.mp d2, beq_iff_eq.mp d3, beq_iff_eq.mp d4]
      · cases d
    obtain ⟨rest, e'⟩ : ∃ rest, recIn (kOf h₀) 78 "staticmethod" = some (.ref 76 :: rest) := by
      unfold isStat2 at e
      split at e
      · rename_i q
        exact ⟨_, by rw [q, beq_iff_eq.mp e]⟩
      · cases e
    exact ⟨.type "type", rest, beq_iff_eq.mp a, b, d', e'⟩
end Mine

set_option maxRecDepth 100000
namespace Mine
open PySem PySem.W PySem.Calls PyProof.Rows PySem.Spec
open PySem.W.Fast (sEq sEq_iff)

/-! the order of texts, and what the sorting asks -/
theorem ltL_tri : ∀ a b : List Int, ltL a b = false → ltL b a = false → a = b
  | [], [], _, _ => rfl
  | [], _ :: _, h, _ => by cases h
  | _ :: _, [], _, h => by cases h
  | a :: x, b :: y, h, k => by
    unfold ltL at h k
    by_cases e : a = b
    · subst e
      simp at h k
      rw [ltL_tri x y h k]
    · have e1 : (a == b) = false := beq_eq_false_iff_ne.mpr e
      have e2 : (b == a) = false := beq_eq_false_iff_ne.mpr fun q => e q.symm
      rw [e1] at h
      rw [e2] at k
      simp at h k
      (first | lia | omega)
theorem ltL_trans : ∀ a b c : List Int, ltL a b = true → ltL b c = true → ltL a c = true
  | [], [], _, h, _ => by cases h
  | [], _ :: _, [], _, k => by cases k
  | [], _ :: _, _ :: _, _, _ => rfl
  | _ :: _, [], _, h, _ => by cases h
  | _ :: _, _ :: _, [], _, k => by cases k
  | a :: x, b :: y, c :: z, h, k => by
    unfold ltL at h k ⊢
    by_cases e : a = b
    · subst e
      simp at h
      by_cases e' : a = c
      · subst e'
        simp at k ⊢
        exact ltL_trans x y z h k
      · rw [beq_eq_false_iff_ne.mpr e'] at k ⊢
        exact k
    · rw [beq_eq_false_iff_ne.mpr e] at h
      simp at h
      by_cases e' : b = c
      · subst e'
        rw [beq_eq_false_iff_ne.mpr e]
        simpa using h
      · rw [beq_eq_false_iff_ne.mpr e'] at k
        simp at k
        rw [beq_eq_false_iff_ne.mpr (show a ≠ c by (first | lia | omega))]
        simp
        (first | lia | omega)
theorem ltL_asym {a b : List Int} (h : ltL a b = true) : ltL b a = false := by
  cases q : ltL b a
  · rfl
  · have := ltL_trans a b a h q
    rw [ltL_irrefl] at this
    cases this
/-- how many lie below -/
noncomputable def rk (ss : List (List Int)) (a : List Int) : Nat := ss.countP fun b => ltL b a
theorem rk_lt {ss : List (List Int)} {a b : List Int} (ha : a ∈ ss) (h : ltL a b = true) : rk ss a < rk ss b := by
  unfold rk
  have h1 : ∀ c, ltL c a = true → ltL c b = true := fun c hc => ltL_trans c a b hc h
  induction ss with
  | nil => cases ha
  | cons d ss ih =>
    rw [List.countP_cons, List.countP_cons]
    rcases List.mem_cons.mp ha with rfl | ha
    · rw [if_neg (by rw [ltL_irrefl]; decide), if_pos h]
      have := List.countP_mono_left (l := ss) (p := fun b => ltL b a) (q := fun c => ltL c b) fun c _ hc => h1 c hc
      (first | lia | omega)
    · have := ih ha
      by_cases q : ltL d a = true
      · rw [if_pos q, if_pos (h1 d q)]; (first | lia | omega)
      · rw [if_neg q]; (first | lia | omega)
theorem rk_iff {ss : List (List Int)} {a b : List Int} (ha : a ∈ ss) (hb : b ∈ ss) : ltL a b = decide (rk ss a < rk ss b) := by
  rw [Bool.eq_iff_iff, decide_eq_true_iff]
  refine ⟨rk_lt ha, fun h => ?_⟩
  cases q : ltL a b
  · cases r : ltL b a
    · have := ltL_tri a b q r
      subst this
      (first | lia | omega)
    · have := rk_lt hb r
      (first | lia | omega)
  · rfl
theorem rk_bound {ss : List (List Int)} {a : List Int} (ha : a ∈ ss) : rk ss a < ss.length := by
  unfold rk
  induction ss with
  | nil => cases ha
  | cons d ss ih =>
    rw [List.countP_cons, List.length_cons]
    rcases List.mem_cons.mp ha with rfl | ha
    · rw [if_neg (by rw [ltL_irrefl]; decide)]
      have := List.countP_le_length (l := ss) (p := fun b => ltL b a)
      (first | lia | omega)
    · have := ih ha
      split <;> (first | lia | omega)

/-- the sorting's questions, answered by ranks -/
noncomputable def runK (n : Nat) (σ : List Nat) : KasT (Array Nat) → Option (List Nat)
  | .ret p => some p.toList
  | .ask i j k => match decide (i < n) && decide (j < n) with
    | true => runK n σ (k (decide (σ.getD i 0 < σ.getD j 0)))
    | false => none
noncomputable def ascR (σ : List Nat) : List Nat → Bool
  | [] => true
  | i :: r => r.all (fun j => decide (σ.getD i 0 < σ.getD j 0)) && ascR σ r
noncomputable def sortsOk (n : Nat) (σ : List Nat) : Bool := match runK n σ (kas_sort n) with
  | some p => p.isPerm (List.range n) && ascR σ p
  | none => false
noncomputable def dist : List Nat → Bool
  | [] => true
  | a :: r => r.all (fun b => !Nat.beq a b) && dist r
theorem sorts2 : ∀ a, a < 2 → ∀ b, b < 2 → dist [a, b] = true → sortsOk 2 [a, b] = true := by decide +kernel
theorem sorts3 : ∀ a, a < 3 → ∀ b, b < 3 → ∀ c, c < 3 → dist [a, b, c] = true → sortsOk 3 [a, b, c] = true := by decide +kernel
theorem sorts4 : ∀ a, a < 4 → ∀ b, b < 4 → ∀ c, c < 4 → ∀ d, d < 4 → dist [a, b, c, d] = true → sortsOk 4 [a, b, c, d] = true := by decide +kernel
noncomputable def all5 : Bool := (List.range 5).all fun a => (List.range 5).all fun b => (List.range 5).all fun c => (List.range 5).all fun d => (List.range 5).all fun e => !dist [a, b, c, d, e] || sortsOk 5 [a, b, c, d, e]
theorem all5_ok : all5 = true := by decide +kernel
theorem sorts5 : ∀ a, a < 5 → ∀ b, b < 5 → ∀ c, c < 5 → ∀ d, d < 5 → ∀ e, e < 5 → dist [a, b, c, d, e] = true → sortsOk 5 [a, b, c, d, e] = true := fun a ha b hb c hc d hd e he h => by
  have := List.all_eq_true.mp (List.all_eq_true.mp (List.all_eq_true.mp (List.all_eq_true.mp (List.all_eq_true.mp all5_ok a (List.mem_range.mpr ha)) b (List.mem_range.mpr hb)) c (List.mem_range.mpr hc)) d (List.mem_range.mpr hd)) e (List.mem_range.mpr he)
  rw [h] at this
  exact this

theorem dist_of : ∀ {l : List Nat}, l.Nodup → dist l = true
  | [], _ => rfl
  | a :: r, h => by
    obtain ⟨h1, h2⟩ := List.nodup_cons.mp h
    unfold dist
    rw [dist_of h2, Bool.and_true, List.all_eq_true]
    intro b hb
    cases q : Nat.beq a b
    · rfl
    · exact absurd (Nat.eq_of_beq_eq_true q ▸ hb) h1
/-- every order of at most five is sorted -/
theorem sorts_all {σ : List Nat} (h2 : 2 ≤ σ.length) (h5 : σ.length ≤ 5) (hb : ∀ x ∈ σ, x < σ.length) (hd : σ.Nodup) : sortsOk σ.length σ = true := by
  have d := dist_of hd
  clear hd
  cases σ with
  | nil => exact absurd h2 (by decide)
  | cons a σ =>
  have ha := hb a (.head _)
  cases σ with
  | nil => exact absurd h2 (show ¬ 2 ≤ 1 by decide)
  | cons b σ =>
  have hb' := hb b (.tail _ (.head _))
  cases σ with
  | nil => exact sorts2 a ha b hb' d
  | cons c σ =>
  have hc := hb c (.tail _ (.tail _ (.head _)))
  cases σ with
  | nil => exact sorts3 a ha b hb' c hc d
  | cons e σ =>
  have he := hb e (.tail _ (.tail _ (.tail _ (.head _))))
  cases σ with
  | nil => exact sorts4 a ha b hb' c hc e he d
  | cons f σ =>
  have hf := hb f (.tail _ (.tail _ (.tail _ (.tail _ (.head _)))))
  cases σ with
  | nil => exact sorts5 a ha b hb' c hc e he f hf d
  | cons g σ => exact absurd h5 (by show ¬ (σ.length + 6 ≤ 5); exact Nat.not_le_of_gt (Nat.lt_of_lt_of_le (by decide : 5 < 6) (Nat.le_add_left 6 _)))

/-- the questions answered so, the sorting ends so -/
theorem run_wp {n : Nat} {σ : List Nat} {cmp : Nat → Nat → (Bool → Shared → Prop) → Shared → Prop} {Q : Array Nat → Shared → Prop} {s : Shared} (hc : ∀ i j C, i < n → j < n → C (decide (σ.getD i 0 < σ.getD j 0)) s → cmp i j C s) :
    ∀ (t : KasT (Array Nat)) (p : List Nat), runK n σ t = some p → (∀ q : Array Nat, q.toList = p → Q q s) → t.kasWp cmp Q s
  | .ret q, p, h, hQ => hQ q (by unfold runK at h; exact Option.some.inj h)
  | .ask i j k, p, h, hQ => by
    unfold runK at h
    split at h
    · rename_i q
      obtain ⟨a, b⟩ := Bool.and_eq_true_iff.mp q
      exact hc i j _ (of_decide_eq_true a) (of_decide_eq_true b) (run_wp hc _ p h hQ)
    · cases h
end Mine

set_option maxRecDepth 100000
namespace Mine
open PySem PySem.W PySem.Calls PyProof.Rows PySem.Spec
open PySem.W.Fast (sEq sEq_iff)
section
variable {c : Cx} {A : Around} {E : Value → Shared → Prop} {s : Shared} {x y : List Int} {a b : Addr}

noncomputable abbrev ik (c : Cx) := intKind c.prog c.w
theorem ik_inv {k : Int} {u : Value} (h : (ik c).is k u = true) : ∃ t, u = .int k t := by
  cases u with
  | int i t => exact ⟨t, by simp [intKind, Value.isInt] at h; rw [h]⟩
  | _ => simp [intKind, Value.isInt] at h
/-- texts of codes, by their own order -/
inductive TupInv (kn : Cx) (s : Shared) (b : Bool) (xs ys : Array Value) (rest : List (Value × Value)) (r : Option Fin) (s' : Shared) : Prop
  | mk (e1 : r = none) (e2 : s' = s) (x' y' : List Int) (xs' ys' : List Value) (hz : rest = List.zip xs' ys') (hx : ItemsAre (ik kn) x' xs') (hy : ItemsAre (ik kn) y' ys') (hd : ltL x' y' = b) (hl : xs'.length + ys.size = xs.size + ys'.length) : TupInv kn s b xs ys rest r s'
theorem tup_lt {P : Fin → Shared → Prop} (hx : IsTupleKey (ik c) s.heap x a) (hy : IsTupleKey (ik c) s.heap y b) (h : P (.done (.ret (.bool (ltL x y)))) s) :
    wpAny (mdl c) A (Builtin.«tuple.__lt__» ⟨[.ref a, .ref b], []⟩) P E s := by
  have hTb := hy.typeIs
  obtain ⟨oa, xs, na, hoa, _, hda, hia⟩ := hx
  obtain ⟨ob, ys, nb, hob, _, hdb, hib⟩ := hy
  show wpAny _ _ (isInstance (.ref b) (.type "tuple") >>= _) _ _ s
  refine wpAny_bind (wpAny_isInstance hTb isSubtype_tuple_tuple ?_)
  simp only [Bool.not_true, Bool.false_eq_true, if_false]
  refine wpAny_bind (wpAny_tupleItemsOf hoa hda ?_)
  refine wpAny_bind (wpAny_tupleItemsOf hob hdb ?_)
  refine wpAny_bind ?_
  refine wpAny_forIn_list _
    (fun rest r s' => TupInv c s (ltL x y) xs ys rest r.1 s')
    _ ?_ ?_ _ _ ⟨rfl, rfl, x, y, xs.toList, ys.toList, rfl, hia, hib, rfl, by simp⟩
  · rintro ⟨u, v⟩ rest r s' ⟨hr, rfl, x', y', xs', ys', hz, hx', hy', hdec, hlen⟩
    cases hx' with
    | nil => simp at hz
    | @cons k1 u' x'' xs'' h1 hx'' =>
      cases hy' with
      | nil => simp at hz
      | @cons k2 v' y'' ys'' h2 hy'' =>
        simp only [List.zip_cons_cons, List.cons.injEq, Prod.mk.injEq] at hz
        obtain ⟨⟨rfl, rfl⟩, rfl⟩ := hz
        refine wpAny_bind ((ik c).eqBool (a := k1) (b := k2) h1 h2 ?_)
        by_cases hk : k1 = k2
        · subst hk
          rw [decide_eq_true rfl]
          simp only [Bool.not_true, Bool.false_eq_true, if_false]
          refine wpAny_pure ⟨rfl, rfl, x'', y'', xs'', ys'', rfl, hx'', hy'', ?_, by simp at hlen; (first | lia | omega)⟩
          rw [← hdec]
          show _ = (if k1 == k1 then ltL x'' y'' else decide (k1 < k1))
          simp
        · rw [decide_eq_false hk]
          simp only [Bool.not_false, if_true]
          have hf : ltL x y = decide (k1 < k2) := by
            rw [← hdec]
            show (if k1 == k2 then ltL x'' y'' else decide (k1 < k2)) = _
            rw [beq_eq_false_iff_ne.mpr hk]
            simp
          rw [hf] at h
          obtain ⟨t1, rfl⟩ := ik_inv h1
          obtain ⟨t2, rfl⟩ := ik_inv h2
          exact wpAny_bind (wpAny_rule (wpAny_bind (lt_int (wpAny_bind (wpAny_pure (wpAny_pure (wpAny_pure h)))))))
  · rintro ⟨r1, r2⟩ s' ⟨hr, rfl, x', y', xs', ys', hz, hx', hy', hdec, hlen⟩
    simp only at hr
    subst hr
    refine wpAny_pure ?_
    have hfin : decide (xs.size < ys.size) = ltL x y := by
      rw [← hdec]
      cases hx' with
      | nil =>
        cases hy' with
        | nil => simp at hlen; simp [ltL]; (first | lia | omega)
        | cons _ _ => simp at hlen; simp [ltL]; (first | lia | omega)
      | cons _ _ =>
        cases hy' with
        | nil => simp at hlen; simp [ltL]; (first | lia | omega)
        | cons _ _ => simp at hz
    show P (.done (.ret (.bool (decide (xs.size < ys.size))))) s'
    rw [hfin]; exact h
end
end Mine

set_option maxRecDepth 100000
namespace Mine
open PySem PySem.W PySem.Calls PyProof.Rows PySem.Spec
open PySem.W.Fast (sEq sEq_iff)
section
variable {c : Cx} {A : Around} {E : Value → Shared → Prop} {s : Shared} {x y : List Int} {a b : Addr}

theorem call_tup_lt {Q : Value → Shared → Prop} (hx : IsTupleKey (ik c) s.heap x a) (hy : IsTupleKey (ik c) s.heap y b) (h : Q (.bool (ltL x y)) s) : wpAny (mdl c) A (call (.builtin "tuple.__lt__") [.ref a, .ref b]) Q E s :=
  wpAny_call_entry PySem.F.slot_tuple_lt hx.typeIs PySem.F.entry_tuple_lt (tup_lt hx hy ⟨_, rfl, h⟩) (PySem.F.args_tuple_lt_2 _ _)
theorem one_lt {b' : Bool} {Q : Bool → Shared → Prop} (hu : A.units < cLine) (hx : IsTupleKey (ik c) s.heap x a) (hy : IsTupleKey (ik c) s.heap y b) (h : Q (ltL x y) s) : wpAny (mdl c) A (oneLt' b' (.ref a) (.ref b)) Q E s := by
  rw [oneLt'_eq]
  cases b' with
  | true =>
    simp only [if_true]
    refine wpAny_bind (wpAny_cRoomFor_or (.inr hu) ?_)
    refine wpAny_bind (wpAny_callSpecialIfBound?_slot hx.typeIs PySem.F.slot_tuple_lt (call_tup_lt hx hy ?_))
    exact wpAny_truthy_bool h
  | false =>
    simp only [Bool.false_eq_true, if_false]
    refine wpAny_bind (wpAny_richCompare_same_room hx.typeIs hy.typeIs PySem.F.slot_tuple_lt (call_tup_lt hx hy ⟨by simp, ?_⟩) hu)
    exact wpAny_truthy_bool h
theorem lex_ints {fin : Bool} {Q : Bool → Shared → Prop} {sx sy : Nat} (hfin : fin = decide (sx < sy)) {x : List Int} {xs : List Value} (hx : ItemsAre (ik c) x xs) : ∀ {y : List Int} {ys : List Value} {i : Nat}, ItemsAre (ik c) y ys → xs.length + sy = sx + ys.length → Q (ltL x y) s → KatLex c.prog c.w A true fin Q (xs.zip ys) i s := by
  induction hx with
  | nil =>
    intro y ys i hy hl h
    cases hy with
    | nil =>
      refine kat_nil ?_
      have : fin = false := by rw [hfin]; simp at hl; simp; (first | lia | omega)
      rw [this]; exact h
    | cons hk hr =>
      refine kat_nil ?_
      have : fin = true := by rw [hfin]; simp at hl; simp; (first | lia | omega)
      rw [this]; exact h
  | @cons k1 u1 x xs h1 hr ih =>
    intro y ys i hy hl h
    cases hy with
    | nil =>
      refine kat_nil ?_
      have : fin = false := by rw [hfin]; simp at hl; simp; (first | lia | omega)
      rw [this]; exact h
    | @cons k2 u2 y ys h2 hr2 =>
      have e : ltL (k1 :: x) (k2 :: y) = if k1 == k2 then ltL x y else decide (k1 < k2) := rfl
      rw [e] at h
      refine kat_cons ((ik c).eqBool (a := k1) (b := k2) h1 h2 (kat_go (fun q => kat_yes (ih hr2 (by simp at hl; (first | lia | omega)) ?_)) fun q => kat_no ?_))
      · rw [of_decide_eq_true q, beq_self_eq_true] at h
        exact h
      · have hne := of_decide_eq_false q
        rw [beq_eq_false_iff_ne.mpr hne] at h
        obtain ⟨t1, rfl⟩ := ik_inv h1
        obtain ⟨t2, rfl⟩ := ik_inv h2
        cases hi : (true && i == 0) with
        | true => exact oneLt_int h
        | false => exact kat_one _ _ (lt_int h)
/-- a question of the sorting, whatever its kind -/
theorem ask_lt {κ : SortKind} {Q : Bool → Shared → Prop} (hκ : κ = tuples' true ∨ κ = general' ∨ κ = oneType') (hu : A.units < cLine) (hx : IsTupleKey (ik c) s.heap x a) (hy : IsTupleKey (ik c) s.heap y b) (h : Q (ltL x y) s) : wpAny (mdl c) A (keyLt' κ (.ref a) (.ref b)) Q E s := by
  rcases hκ with rfl | rfl | rfl
  · obtain ⟨oa, xs, na, hoa, _, hda, hia⟩ := hx
    obtain ⟨ob, ys, nb, hob, _, hdb, hib⟩ := hy
    exact kat_lt hoa hda hob hdb (lex_ints rfl hia hib (by simp) h)
  · exact one_lt (b' := false) hu hx hy h
  · exact one_lt (b' := true) hu hx hy h
end
end Mine

set_option maxRecDepth 100000
namespace Mine
open PySem PySem.W PySem.Calls PyProof.Rows PySem.Spec
open PySem.W.Fast (sEq sEq_iff)
section
variable {c : Cx} {A : Around} {E : Value → Shared → Prop} {s : Shared}

/-- texts, each a tuple -/
inductive Texts (c : Cx) (h : Heap) : List Value → List (List Int) → Prop
  | nil : Texts c h [] []
  | cons {a : Addr} {l : List Int} {vs : List Value} {ss : List (List Int)} : IsTupleKey (ik c) h l a → Texts c h vs ss → Texts c h (.ref a :: vs) (l :: ss)
theorem Texts.keeps {h h' : Heap} (k : h.StaysIn h') {vs : List Value} {ss : List (List Int)} (t : Texts c h vs ss) : Texts c h' vs ss := by
  induction t with
  | nil => exact .nil
  | cons a _ ih =>
    obtain ⟨o, items, n, e, r⟩ := a
    exact .cons ⟨o, items, n, k _ _ e, r⟩ ih
theorem texts_of {h : Heap} : ∀ {vs : List Value} {ss : List (List Int)}, RdAll h vs (ss.map pTup) → Texts c h vs ss
  | [], [], _ => .nil
  | [], _ :: _, r => by have := r.length; simp at this
  | _ :: _, [], r => by have := r.length; simp at this
  | v :: vs, l :: ss, r => by
    obtain ⟨a, b⟩ := r.inv
    obtain ⟨x, rfl, k⟩ := key_of (c := c) a
    exact .cons k (texts_of b)
theorem Texts.len {h : Heap} {vs : List Value} {ss : List (List Int)} (t : Texts c h vs ss) : vs.length = ss.length := by
  induction t with
  | nil => rfl
  | cons _ _ ih => simp [ih]
theorem Texts.get {h : Heap} {vs : List Value} {ss : List (List Int)} (t : Texts c h vs ss) : ∀ {i : Nat}, i < vs.length → ∃ a, vs.getD i Value.none = .ref a ∧ IsTupleKey (ik c) h (ss.getD i []) a := by
  induction t with
  | nil => intro i h; simp at h
  | cons k _ ih =>
    intro i h
    cases i with
    | zero => exact ⟨_, rfl, k⟩
    | succ i =>
      obtain ⟨a, e, r⟩ := ih (i := i) (by simp at h; (first | lia | omega))
      exact ⟨a, by simpa using e, by simpa using r⟩

/-- the first of each, or nothing -/
theorem firsts_wp {vs : List Value} {ss : List (List Int)} (t : Texts c s.heap vs ss) : ∀ {Q : List (Option Value) → Shared → Prop}, (∀ fs : List (Option Value), fs.length = vs.length → (∀ f ∈ fs, f = none ∨ ∃ i t, f = some (.int i t)) → Q fs s) → wpAny (mdl c) A (vs.mapM firstOfTuple') Q E s := by
  induction t with
  | nil => intro Q h; rw [List.mapM_nil]; exact wpAny_pure (h [] rfl fun _ h => nomatch h)
  | @cons a l vs ss k t ih =>
    intro Q h
    obtain ⟨o, items, n, ho, hc, hd, hi⟩ := k
    rw [List.mapM_cons]
    refine wpAny_bind ?_
    rw [kas_first_eq]
    refine wpAny_bind (Looks.here (show Looks (mdl c) s.heap (typeOf (.ref a)) o.cls from (Looks.ld ho).andThen .now) ?_)
    rw [hc, if_neg (by first | decide | simp)]
    refine wpAny_bind (listItems_at ho hd (wpAny_pure ?_))
    refine wpAny_bind (ih fun fs hl hf => wpAny_pure (h _ (by simp [hl]) fun f hm => ?_))
    rcases List.mem_cons.mp hm with rfl | hm
    · cases q : items[0]? with
      | none => exact .inl rfl
      | some v =>
        right
        rw [← Array.getElem?_toList] at q
        generalize items.toList = us at hi q
        cases hi with
        | nil => simp at q
        | cons hk _ =>
          simp at q
          subst q
          obtain ⟨t, rfl⟩ := ik_inv hk
          exact ⟨_, t, rfl⟩
    · exact hf f hm
theorem one_type {T : String} {vs : List Value} {Q : Option Value → Shared → Prop} (h1 : 0 < vs.length) (hT : ∀ v ∈ vs, Looks (mdl c) s.heap (typeOf v) (.type T)) (h : Q (some (.type T)) s) : wpAny (mdl c) A (oneTypeOnly' vs.toArray) Q E s := by
  obtain ⟨v, r, rfl⟩ : ∃ v r, vs = v :: r := by
    cases vs with
    | nil => simp at h1
    | cons v r => exact ⟨v, r, rfl⟩
  rw [oneTypeOnly'_eq, List.mapM_toArray, map_eq_pure_bind]
  refine wpAny_bind (wpAny_bind (kas_mapM (r := .type T) _ (fun v hv Q' hq => (hT v hv).here hq) (wpAny_pure ?_)))
  have hall : ((List.map (fun _ => Value.type T) (v :: r)).toArray.all fun x => x == Value.type T) = true := by simp
  have h0 : (List.map (fun _ => Value.type T) (v :: r)).toArray[0]? = some (.type T) := by simp
  rw [h0]
  simp only [hall, if_true]
  exact wpAny_pure h
/-- what kind of keys texts are -/
theorem kind_wp {vs : List Value} {ss : List (List Int)} (t : Texts c s.heap vs ss) (h1 : 0 < vs.length) {Q : SortKind → Shared → Prop} (h : ∀ κ, (κ = tuples' true ∨ κ = general' ∨ κ = oneType') → Q κ s) : wpAny (mdl c) A (keyKind' vs.toArray) Q E s := by
  rw [kat_kind_eq, List.mapM_toArray, map_eq_pure_bind]
  refine wpAny_bind (wpAny_bind (firsts_wp t fun fs hl hf => wpAny_pure ?_))
  by_cases q : (fs.toArray.all fun x => x.isSome) = true
  · rw [if_pos q]
    refine wpAny_bind (wpAny_rule ?_)
    have e : fs.toArray.filterMap id = (fs.filterMap id).toArray := by simp
    rw [e]
    have hall : ∀ f ∈ fs, f.isSome = true := by simpa using q
    refine wpAny_bind (one_type (T := "int") ?_ (fun v hv => ?_) ?_)
    · obtain ⟨f, r, rfl⟩ : ∃ f r, fs = f :: r := by
        cases fs with
        | nil => simp at hl; (first | lia | omega)
        | cons f r => exact ⟨f, r, rfl⟩
      obtain ⟨v, e⟩ := Option.isSome_iff_exists.mp (hall f (.head _))
      rw [e]
      simp
    · obtain ⟨f, hm, e⟩ := List.mem_filterMap.mp hv
      rcases hf f hm with rfl | ⟨i, t, rfl⟩
      · cases e
      · cases e
        exact Looks.of_pure rfl
    · exact wpAny_pure (h _ (.inl rfl))
  · rw [if_neg q]
    by_cases q' : (fs.toArray[0]?.bind id).isSome = true
    · rw [if_pos q']
      exact wpAny_pure (h _ (.inr (.inl rfl)))
    · rw [if_neg q']
      refine wpAny_bind (one_type (T := "tuple") h1 (fun v hv => ?_) ?_)
      · obtain ⟨i, hi, e⟩ := List.getElem_of_mem hv
        obtain ⟨a, e', o, items, n, ho, hc, _⟩ := t.get (i := i) hi
        have : vs.getD i Value.none = v := by simp [hi, e]
        rw [← this, e', ← hc]
        exact (Looks.ld ho).andThen .now
      · exact wpAny_pure (h _ (.inr (.inr rfl)))
end
end Mine

set_option maxRecDepth 100000
namespace Mine
open PySem PySem.W PySem.Calls PyProof.Rows PySem.Spec
open PySem.W.Fast (sEq sEq_iff)
section
variable {c : Cx} {A : Around} {E : Value → Shared → Prop} {s : Shared} {L : Addr} {mm : Str → Option Value}

theorem kept_of {h h' : Heap} {extra : List (Addr × Obj)} (hn : h.Ns L mm) (F' : Fr (hp0 h) L h' mm) (N' : News (hp0 h) L h' (extra ++ allBut h [L])) : Kept L h h' :=
  ⟨fun b hb o e => (N' (b, o) (List.mem_append_right _ (mem_allBut.mpr ⟨by simp [hb], e⟩))).1, fun mm' hm' => by
    have : mm' = mm := by
      obtain ⟨o, es, ep, a1, a2, a3, a4⟩ := hn
      obtain ⟨o', es', ep', b1, b2, b3, b4⟩ := hm'
      rw [a1] at b1; cases b1
      rw [a2] at b2; cases b2
      funext n; rw [← a4, ← b4]
    rw [this]; exact F'.ns⟩
theorem Texts.kept {h h' : Heap} (hn : h.Ns L mm) (k : Kept L h h') {vs : List Value} {ss : List (List Int)} (t : Texts c h vs ss) : Texts c h' vs ss := by
  induction t with
  | nil => exact .nil
  | cons a _ ih =>
    obtain ⟨o, items, n, e, hc, hd, hi⟩ := a
    refine .cons ⟨o, items, n, k.keep _ (fun q => ?_) _ e, hc, hd, hi⟩ ih
    subst q
    obtain ⟨o', es, ep, a1, a2, _⟩ := hn
    rw [e] at a1; cases a1
    rw [hd] at a2; cases a2
theorem ascR_iff {ss : List (List Int)} {σ : List Nat} : ∀ {p : List Nat}, ascR σ p = true → p.Pairwise fun i j => σ.getD i 0 < σ.getD j 0
  | [], _ => .nil
  | i :: r, h => by
    unfold ascR at h
    obtain ⟨a, b⟩ := Bool.and_eq_true_iff.mp h
    refine List.pairwise_cons.mpr ⟨fun j hj => ?_, ascR_iff (ss := ss) b⟩
    exact of_decide_eq_true (List.all_eq_true.mp a j hj)
theorem map_range_getD {α : Type} (d : α) (l : List α) : (List.range l.length).map (fun i => l.getD i d) = l := by
  refine List.ext_getElem (by simp) fun i h1 h2 => ?_
  simp [h2]
theorem rdAll_getD {z : Heap} {vs : List Value} {xs : List PyData} (r : RdAll z vs xs) {i : Nat} (h : i < xs.length) : Rd z (vs.getD i Value.none) (xs.getD i .none) := by
  obtain ⟨v, e, hr⟩ := r.get (List.getElem?_eq_getElem h)
  have e1 : vs.getD i Value.none = v := by rw [List.getD_eq_getElem?_getD, e]; rfl
  have e2 : xs.getD i .none = xs[i] := by rw [List.getD_eq_getElem?_getD, List.getElem?_eq_getElem h]; rfl
  rw [e1, e2]; exact hr

theorem sort_two {n : Nat} {l : Addr} {vs : List Value} {ss : List (List Int)} {Q : Value → Shared → Prop} (R : Room A n) (hn : s.heap.Ns L mm) (hl : s.heap.IsList l vs.toArray) (hr : RdAll s.heap vs (ss.map pTup)) (nd : ss.Nodup) (h5 : ss.length ≤ 5) (h2 : 2 ≤ ss.length)
    (k : ∀ (D : Addr) (h' : Heap) (tk : Tok) (us : Array Value) (k : Nat) (ts : List (List Int)), Kept L s.heap h' → s.heap.get? D = none → h'.get? D = some (plainL us k) → RdAll s.heap us.toList (ts.map pTup) → (∀ v ∈ us.toList, v ∈ vs) → ts.Perm ss → ts.Pairwise (fun a b => ltL a b = true) → Q (.ref D) { s with heap := h', toks := tk }) :
    wpAny (mdl c) A (call (.builtin "sorted") [.ref l]) Q E s := by
  have t := texts_of (c := c) hr
  have hlen := t.len
  have hσ : (ss.map (rk ss)).length = vs.length := by rw [List.length_map, hlen]
  have ok := sorts_all (σ := ss.map (rk ss)) (by rw [List.length_map]; exact h2) (by rw [List.length_map]; exact h5) (fun x hx => by
    obtain ⟨a, ha, rfl⟩ := List.mem_map.mp hx
    rw [List.length_map]; exact rk_bound ha) (by
    refine List.pairwise_map.mpr (List.Pairwise.imp_of_mem (fun {a b} ha hb hne e => hne ?_) nd)
    have h1 := rk_iff ha hb
    have h2 := rk_iff hb ha
    rw [e] at h1 h2
    simp at h1 h2
    exact ltL_tri a b h1 h2)
  unfold sortsOk at ok
  split at ok
  case h_2 => cases ok
  rename_i p hp
  obtain ⟨ok1, ok2⟩ := Bool.and_eq_true_iff.mp ok
  rw [hσ] at hp ok1
  have hperm : p.Perm (List.range vs.length) := List.isPerm_iff.mp ok1
  have hin : ∀ i ∈ p, i < ss.length := fun i hi => by have := List.mem_range.mp (hperm.mem_iff.mp hi); (first | lia | omega)
  have sg : ∀ i, i < ss.length → (ss.map (rk ss)).getD i 0 = rk ss (ss.getD i []) := fun i hi => by
    rw [List.getD_eq_getElem?_getD, List.getD_eq_getElem?_getD, List.getElem?_map, List.getElem?_eq_getElem hi]; rfl
  have mem : ∀ i, i < ss.length → ss.getD i [] ∈ ss := fun i hi => by
    rw [List.getD_eq_getElem?_getD, List.getElem?_eq_getElem hi]; exact List.getElem_mem hi
  have hrd : ∀ q : List Nat, (∀ i ∈ q, i < ss.length) → RdAll s.heap (q.map fun i => vs.getD i Value.none) (q.map (pTup ∘ fun i => ss.getD i [])) := fun q hq => by
    induction q with
    | nil => exact .nil
    | cons i q ih =>
      refine .cons ?_ (ih fun j hj => hq j (.tail _ hj))
      have hi := hq i (.head _)
      have := rdAll_getD hr (i := i) (by rw [List.length_map]; exact hi)
      have e : (ss.map pTup).getD i .none = pTup (ss.getD i []) := by
        rw [List.getD_eq_getElem?_getD, List.getD_eq_getElem?_getD, List.getElem?_map, List.getElem?_eq_getElem hi]; rfl
      rw [e] at this
      exact this
  refine kat_sorted (vs := vs) (fr0 hn) (news0 (l := [L]) (.head _)) hl (by (first | lia | omega)) (by (first | lia | omega)) fun D e1 h' F' N' lt => ?_
  have kp := kept_of (extra := [(D, seqObj "list" #[] e1)]) hn F' N'
  have t' := t.kept hn kp
  refine kind_wp (s := { s with heap := h' }) t' (by (first | lia | omega)) fun κ hκ => run_wp (n := vs.length) (σ := ss.map (rk ss)) (fun i j C hi hj hC => ?_) _ p hp fun q hq => ?_
  · obtain ⟨a, ea, ka⟩ := t'.get hi
    obtain ⟨b, eb, kb⟩ := t'.get hj
    unfold kas_ask
    rw [ea, eb]
    refine ask_lt hκ (by have := R.units; show A.units + 1 + 1 < cLine; (first | lia | omega)) ka kb ?_
    rw [rk_iff (mem i (by (first | lia | omega))) (mem j (by (first | lia | omega))), ← sg i (by (first | lia | omega)), ← sg j (by (first | lia | omega))]
    exact hC
  · rw [hq]
    refine KasFin.intro F' N' (.head fun z hz => Nat.ne_of_lt (lt z hz)) fun h'' cc F'' N'' => ?_
    have kp' := kept_of (extra := [(D, listOf (List.toArray (p.map fun i => vs.getD i Value.none)) cc)]) hn F'' N''
    have hD := N'' _ (.head _)
    refine k D h'' s.toks _ cc (p.map fun i => ss.getD i []) kp' ?_ hD.1 ?_ (fun v hv => ?_) ?_ ?_
    · cases e : s.heap.get? D with
      | none => rfl
      | some o => exact absurd (lt (D, o) (mem_allBut.mpr ⟨by simpa using hD.2.1, e⟩)) (Nat.lt_irrefl _)
    · show RdAll s.heap (p.map fun i => vs.getD i Value.none) _
      rw [List.map_map]
      exact hrd p hin
    · obtain ⟨i, hi, rfl⟩ := List.mem_map.mp (show v ∈ p.map fun i => vs.getD i Value.none from hv)
      have := hin i hi
      rw [List.getD_eq_getElem?_getD, List.getElem?_eq_getElem (show i < vs.length by (first | lia | omega))]
      exact List.getElem_mem _
    · have := hperm.map fun i => ss.getD i []
      rw [hlen, map_range_getD] at this
      exact this
    · rw [List.pairwise_map]
      refine List.Pairwise.imp_of_mem (fun {i j} hi hj hlt => ?_) (ascR_iff (ss := ss) ok2)
      rw [sg i (hin i hi), sg j (hin j hj)] at hlt
      rw [rk_iff (mem i (hin i hi)) (mem j (hin j hj))]
      exact decide_eq_true hlt
end
end Mine

set_option maxRecDepth 100000
namespace Mine
open PySem PySem.W PySem.Calls PyProof.Rows PySem.Spec
open PySem.W.Fast (sEq sEq_iff)
theorem zip_short (vs : List Value) (_ : vs.length < 2) : (vs.toArray.zip vs.toArray).map (·.2) = vs.toArray := by
  apply Array.toList_inj.mp
  rw [Array.toList_map, Array.toList_zip, List.map_snd_zip (by simp)]
section
variable {prog : Program} {w : World} {A : Around} {E : Value → Shared → Prop} {s : Shared} {h₀ : Heap} {L a : Addr} {m : Str → Option Value} {news : List (Addr × Obj)} {vs : List Value}


theorem short_list_sort {n : Nat} {P : PySem.Fin → Shared → Prop} (F : Fr h₀ L s.heap m) (N : News h₀ L s.heap news) (ho : s.heap.get? a = some (seqObj "list" vs.toArray n)) (haL : a ≠ L) (ha0 : h₀.get? a = none) (hna : ∀ p ∈ news, p.1 ≠ a) (h2 : vs.length < 2)
    (h : ∀ h' cc, Fr h₀ L h' m → News h₀ L h' ((a, seqObj "list" vs.toArray cc) :: news) → P (.done (.ret .none)) { s with heap := h' }) :
    wpAny (model prog w) A (Builtin.«list.sort» ⟨[.ref a], []⟩) P E s := by
  have ha : a < s.heap.objs.size := Heap.lt_size ho
  have s1 := Heap.SameBut.update s.heap a (Obj.mapSeq fun _ => (#[] : Array Value))
  obtain ⟨e1, ho1⟩ : ∃ e1, (s.heap.update a (Obj.mapSeq fun _ => (#[] : Array Value))).get? a = some (seqObj "list" #[] e1) := ⟨_, get?_update_seq ho fun _ => #[]⟩
  have F3 : Fr h₀ L (((s.heap.update a (Obj.mapSeq fun _ => (#[] : Array Value))).push (seqObj "tuple" vs.toArray 0)).push (seqObj "list" #[] 0)) m := ((kas_fr F s1 haL ha0).push _).push _
  have N2 : News h₀ L (((s.heap.update a (Obj.mapSeq fun _ => (#[] : Array Value))).push (seqObj "tuple" vs.toArray 0)).push (seqObj "list" #[] 0)) news :=
    (kas_news N s1 hna).grown fun b x e => Heap.get?_push_of_some _ (Heap.get?_push_of_some _ e)
  have na : (((s.heap.update a (Obj.mapSeq fun _ => (#[] : Array Value))).push (seqObj "tuple" vs.toArray 0)).push (seqObj "list" #[] 0)).get? a = some (seqObj "list" #[] e1) := Heap.get?_push_of_some _ (Heap.get?_push_of_some _ ho1)
  rw [list_sort_plain]
  refine wpAny_bind (listItems_at ho rfl ?_)
  refine wpAny_bind (listUpdate_at ho rfl ?_ (by rw [List.size_toArray, sizeLine_eq]; (first | lia | omega)) (Nat.zero_le _))
  refine wpAny_bind (seqEpoch_at ho1 rfl ?_)
  refine wpAny_bind (wpAny_newTuple ?_ (by show vs.length ≤ _; rw [sizeLine_eq]; (first | lia | omega)))
  refine wpAny_bind (wpAny_newList ?_ (Nat.zero_le _))
  refine wpAny_holding ?_
  show wpAny (model prog w) A _ P E { s with heap := ((s.heap.update a (Obj.mapSeq fun _ => (#[] : Array Value))).push (seqObj "tuple" vs.toArray 0)).push (seqObj "list" #[] 0) }
  dsimp only
  have hn2 : vs.toArray.size < 2 := by rw [List.size_toArray]; (first | lia | omega)
  rw [if_pos hn2, if_pos hn2]
  refine wpAny_bind (wpAny_pure (wpAny_bind (wpAny_pure ?_)))
  dsimp only
  have hout := zip_short vs h2
  have hsz : vs.toArray.size = vs.length := List.size_toArray ..
  obtain ⟨c2, hc2⟩ : ∃ c2, ((((s.heap.update a (Obj.mapSeq fun _ => (#[] : Array Value))).push (seqObj "tuple" vs.toArray 0)).push (seqObj "list" #[] 0)).update a (Obj.mapSeq fun _ => vs.toArray)).get? a = some (seqObj "list" vs.toArray c2) := ⟨_, get?_update_seq na fun _ => vs.toArray⟩
  have s2 := Heap.SameBut.update (((s.heap.update a (Obj.mapSeq fun _ => (#[] : Array Value))).push (seqObj "tuple" vs.toArray 0)).push (seqObj "list" #[] 0)) a (Obj.mapSeq fun _ => vs.toArray)
  refine wpAny_bind (seqEpoch_at na rfl ?_)
  show wpAny (model prog w) A (Builtin.List.listUpdate (.ref a) (fun _ => (vs.toArray.zip vs.toArray).map (·.2)) >>= _) P E _
  rw [hout]
  refine wpAny_bind (listUpdate_at na rfl ?_ (Nat.zero_le _) (by rw [hsz, sizeLine_eq]; (first | lia | omega)))
  simp only [bne_self_eq_false, Bool.false_eq_true, if_false]
  refine wpAny_pure (h _ c2 (kas_fr F3 s2 haL ha0) fun p hp => ?_)
  rcases List.mem_cons.mp hp with rfl | hp
  · exact ⟨hc2, haL, ha0⟩
  · exact kas_news N2 s2 hna p hp

theorem short_sorted {l : Addr} {Q : Value → Shared → Prop} (F : Fr h₀ L s.heap m) (N : News h₀ L s.heap news) (hl : s.heap.IsList l vs.toArray) (h2 : vs.length < 2)
    (h : ∀ D cc h', Fr h₀ L h' m → News h₀ L h' ((D, seqObj "list" vs.toArray cc) :: news) → (∀ q ∈ news, q.1 < D) → Q (.ref D) { s with heap := h' }) :
    wpAny (model prog w) A (call (.builtin "sorted") [.ref l]) Q E s := by
  refine Calls.call_function_entry kind_sorted plain_sorted entry_sorted (args_sorted1 _) ?_
  unfold Builtin.«sorted»
  refine wpAny_bind (m := checkCount "sorted" 1 1 _) (wpAny_pure ?_)
  refine wpAny_bind (collect_list hl ?_ (by rw [sizeLine_eq]; (first | lia | omega)))
  refine wpAny_bind (wpAny_newList ?_ (by rw [sizeLine_eq]; (first | lia | omega)))
  have hsz : ((s.heap.push (seqObj "list" #[] 0)).update s.heap.objs.size (Obj.mapSeq (· ++ vs.toArray))).objs.size = s.heap.objs.size + 1 := by
    rw [Heap.size_update, size_push']
  have hoL : (((s.heap.push (seqObj "list" #[] 0)).update s.heap.objs.size (Obj.mapSeq (· ++ vs.toArray))).push (seqObj "list" vs.toArray 0)).get? (s.heap.objs.size + 1) = some (seqObj "list" vs.toArray 0) := by
    rw [← hsz]; exact Heap.get?_push_size _ rfl
  have keep : ∀ b o, s.heap.get? b = some o → (((s.heap.push (seqObj "list" #[] 0)).update s.heap.objs.size (Obj.mapSeq (· ++ vs.toArray))).push (seqObj "list" vs.toArray 0)).get? b = some o := fun b o q => by
    have hlt : b < s.heap.objs.size := Heap.lt_size q
    rw [Heap.get?_push_ne _ _ _ (by rw [hsz]; exact Nat.ne_of_lt (Nat.lt_succ_of_lt hlt)), Heap.get?_update_ne _ _ _ _ (Nat.ne_of_lt hlt), Heap.get?_push_ne _ _ _ (Nat.ne_of_lt hlt)]
    exact q
  have hL : L < s.heap.objs.size := F.ns.lt
  show wpAny _ _ _ _ _ { s with heap := ((s.heap.push (seqObj "list" #[] 0)).update s.heap.objs.size (Obj.mapSeq (· ++ vs.toArray))).push (seqObj "list" vs.toArray 0) }
  rw [hsz]
  refine wpAny_bind (wpAny_holding (wpAny_call_entry slot_list_sort ⟨_, hoL, rfl⟩ entry_list_sort ?body (args_list_sort _)))
  case body =>
    refine short_list_sort (s := { s with heap := ((s.heap.push (seqObj "list" #[] 0)).update s.heap.objs.size (Obj.mapSeq (· ++ vs.toArray))).push (seqObj "list" vs.toArray 0) })
      (F.kept keep) (N.grown keep) hoL (Nat.ne_of_gt (Nat.lt_succ_of_lt hL)) (Heap.get?_none_of_le (Nat.le_trans F.above (Nat.le_succ_of_le (Nat.le_of_lt hL))))
      (fun p hp => Nat.ne_of_lt (Nat.lt_succ_of_lt (Heap.lt_size (N p hp).1))) h2 fun h' cc F' N' => ?_
    exact ⟨_, rfl, wpAny_pure ⟨_, rfl, h _ cc h' F' N' fun q hq => Nat.lt_succ_of_lt (Heap.lt_size (N q hq).1)⟩⟩
end

theorem sortT_ok (c : Cx) : SortT c := fun {s A n L l mm ws ss Q} R hst hn hl hr nd h5 k => by
  by_cases h2 : 2 ≤ ss.length
  · exact sort_two R hn (vs := ws.toList) (by rw [Array.toArray_toList]; exact hl) hr nd h5 h2 k
  · have hlen := hr.length
    rw [List.length_map] at hlen
    refine short_sorted (vs := ws.toList) (fr0 hn) (news0 (l := [L]) (.head _)) (by rw [Array.toArray_toList]; exact hl) (by (first | lia | omega)) fun D cc h' F' N' lt => ?_
    have kp := kept_of (extra := [(D, seqObj "list" ws.toList.toArray cc)]) hn F' N'
    have hD := N' _ (.head _)
    refine k D h' s.toks ws cc ss kp ?_ (by have := hD.1; rw [Array.toArray_toList] at this; exact this) hr (fun v hv => hv) (List.Perm.refl _) ?_
    · cases e : s.heap.get? D with
      | none => rfl
      | some o => exact absurd (lt (D, o) (mem_allBut.mpr ⟨by simpa using hD.2.1, e⟩)) (Nat.lt_irrefl _)
    · match ss, h2 with
      | [], _ => exact .nil
      | [x], _ => exact List.pairwise_singleton _ _
      | _ :: _ :: _, h2 => exact absurd (by simp) h2
end Mine

set_option maxRecDepth 100000
namespace Mine
open PySem PySem.W PySem.Calls PyProof.Rows PySem.Spec
open PySem.W.Fast (sEq sEq_iff)

theorem isFirst_inv : fBody (stmtAt 4) = [.Return (some (.Subscript (.Name "pair" ⟨17, 11, 17, 15⟩) (.Constant (.int 0) 0 ⟨17, 16, 17, 17⟩) ⟨17, 11, 17, 18⟩)) ⟨17, 4, 17, 18⟩] := by kernel_rfl
theorem kind35 : (fScope (stmtAt 4)).names.lookup (Str.ofString "pair") = some .local := by kernel_rfl

theorem seq0 {n : Nat} (h : 0 < n) : seqIndex? 0 n = some 0 := by
  unfold seqIndex?; simp; (first | lia | omega)
section
variable {c : Cx} {K : Frag} {A : Around} {E : Value → Shared → Prop}
theorem first_turn (F : FnAt K 35 ["pair"] [] (fBody (stmtAt 4)) (fScope (stmtAt 4))) {s : Shared} {t : Addr} {items : Array Value} {x : Value} (X : K.In s.heap) (hlim : s.heap.NoLimit) (hd : A.depth < 990) (hp : IsTup s.heap t items) (hx : items[0]? = some x)
    {Q : Value → Shared → Prop} (hQ : ∀ h' tk, (∀ b o, s.heap.get? b = some o → h'.get? b = some o) → Q x { s with heap := h', toks := tk }) : wpAny (mdl c) A (call (.ref 35) [.ref t]) Q E s := by
  obtain ⟨oc, od, osl, name, qual, params, dV, kV, doc, pm, an, cdv, ct, ho, hcd, hbind⟩ := F.ex
  refine wpAny_call (codeAny_call_function (by show A.depth < 1000; (first | lia | omega)) (X _ _ ho) rfl F.co F.gen rfl (codeRec_of X hcd) (hbind [.ref t] _ rfl X _ _ _ _ (wpAny_newFunctionEnv_cells F.kind (fun y hy => ?_) fun env' he s' z => ?_)))
  · obtain rfl := List.mem_singleton.mp (show y ∈ [(Str.ofString "pair", Value.ref t)] from hy)
    exact .inl kind35
  · obtain ⟨h', tk, rfl, old⟩ := z.done
    refine ⟨hlim.keeps old, codeAny_func ?_⟩
    rw [isFirst_inv]
    have hsc : env'.scope = fScope (stmtAt 4) := by subst he; rfl
    have hk : env'.kindOf "pair" = some .local := by unfold Env.kindOf; rw [hsc]; exact kind35
    have ht : IsTup h' t items := by
      obtain ⟨o, a, b⟩ := hp
      exact ⟨o, old _ _ a, b⟩
    have hsz : 0 < items.size := by
      rcases Nat.eq_zero_or_pos items.size with q | q
      · rw [Array.getElem?_eq_none (by (first | lia | omega))] at hx; cases hx
      · exact q
    refine wpAny_execs_cons (wpAny_Return_some (Subscript_ (wpAny_Name (wpAny_loadName_local (by rw [hsc]; exact F.kind) hk z.toInCall.ns (v := .ref t) ?_ (wpAny_Constant_int ?_)))))
    · exact bindL_in hk (by simp) (.head _)
    · exact tail_any ht.typeIs slot_tuple_getitem.lookup (PyProof.Rows.getItem_tuple ht (by decide) (by decide) (j := 0) (seq0 hsz) hx (hQ _ _ old)) (sub_plain fun _ _ _ _ h => by cases h)
end
end Mine

set_option maxRecDepth 100000
namespace Mine
open PySem PySem.W PySem.Calls PyProof.Rows PySem.Spec
open PySem.W.Fast (sEq sEq_iff)

theorem perm_lift {α β : Type} {g : α → β} {l1 l2 : List β} (p : l1.Perm l2) : ∀ {zs : List α}, l2 = zs.map g → ∃ zs' : List α, zs'.Perm zs ∧ l1 = zs'.map g := by
  induction p with
  | nil => exact fun {zs} h => ⟨zs, .refl _, h⟩
  | cons x _ ih =>
    intro zs h
    match zs, h with
    | z :: zs, h =>
      obtain ⟨h1, h2⟩ := List.cons.inj h
      obtain ⟨zs', a, b⟩ := ih h2
      exact ⟨z :: zs', a.cons z, by rw [List.map_cons, ← h1, b]⟩
  | swap x y l =>
    intro zs h
    match zs, h with
    | z :: [], h => cases h
    | z :: u :: zs, h =>
      rw [List.map_cons, List.map_cons] at h
      obtain ⟨h1, h2⟩ := List.cons.inj h
      obtain ⟨h2, h3⟩ := List.cons.inj h2
      exact ⟨u :: z :: zs, .swap _ _ _, by rw [List.map_cons, List.map_cons, h1, h2, h3]⟩
  | trans _ _ i1 i2 =>
    intro zs h
    obtain ⟨z1, a, b⟩ := i2 h
    obtain ⟨z2, a', b'⟩ := i1 b
    exact ⟨z2, a'.trans a, b'⟩

theorem rdAll_zip {h : Heap} : ∀ {vs : List Value} {ps : List (Int × Int)}, RdAll h vs (pPairs ps) → ∀ z ∈ ps.zip vs, Rd h z.2 (.tuple [.int z.1.1, .int z.1.2])
  | [], [], _ => fun z hz => nomatch hz
  | v :: vs, p :: ps, r => fun z hz => by
    obtain ⟨a, b⟩ := r.inv
    rcases List.mem_cons.mp hz with rfl | hz
    · exact a
    · exact rdAll_zip b z hz
  | [], _ :: _, _ => fun z hz => nomatch hz
  | _ :: _, [], _ => fun z hz => nomatch hz
theorem zip_rdAll {h : Heap} : ∀ {zs : List ((Int × Int) × Value)}, (∀ z ∈ zs, Rd h z.2 (.tuple [.int z.1.1, .int z.1.2])) → RdAll h (zs.map (·.2)) (pPairs (zs.map (·.1)))
  | [], _ => .nil
  | z :: zs, r => .cons (r z (.head _)) (zip_rdAll fun y hy => r y (.tail _ hy))

theorem sortP_ok (c : Cx) {K : Frag} (X₀ : K.In c.h₀) (hlim : c.h₀.NoLimit) (F : FnAt K 35 ["pair"] [] (fBody (stmtAt 4)) (fScope (stmtAt 4))) : SortP c := fun {s A n L l mm ws ps Q} R hst hn h0 hl hr h64 k => by
  have hlen : ws.toList.length = ps.length := by
    have := hr.length
    unfold pPairs at this
    rw [List.length_map] at this
    exact this
  have keepOf : ∀ {h : Heap} {own : List (Addr × Obj)}, News (hp0 s.heap) L h (allBut s.heap [L] ++ own) → ∀ b, b ≠ L → ∀ o, s.heap.get? b = some o → h.get? b = some o := fun N b hb o e => (N (b, o) (List.mem_append_left _ (mem_allBut.mpr ⟨by simp [hb], e⟩))).1
  refine ksk_sorted (vs := ws.toList) (kz := ps.map (·.1)) (b := false) (fr0 hn) (news0 (l := [L]) (.head _)) (by rw [Array.toArray_toList]; exact hl) (by rw [List.length_map, hlen]) (by (first | lia | omega)) (ksk_s1 _ _) (fun x => ksk_l1 _ _) (fun x => ksk_t1 35 x) (fun i v kk hv hk h tk own F' N' => ?_) fun D h' tk out cc F' N' lt ko => ?_
  · rw [List.getElem?_map] at hk
    obtain ⟨p, hp, rfl⟩ := Option.map_eq_some_iff.mp hk
    have hz : (p, v) ∈ ps.zip ws.toList := List.mem_of_getElem? (i := i) (by rw [List.getElem?_zip_eq_some]; exact ⟨hp, hv⟩)
    obtain ⟨t, items, rfl, ⟨o, e1, e2, e3⟩, hi⟩ := rd_tuple (rdAll_zip hr _ hz)
    have htL : t ≠ L := fun q => by
      subst q
      obtain ⟨o', es, ep, a1, a2, _⟩ := hn
      rw [e1] at a1; cases a1
      obtain ⟨kk, e3⟩ := e3
      rw [e3] at a2; cases a2
    obtain ⟨x, hx, rx⟩ := hi.get (j := 0) rfl
    obtain ⟨u, rfl⟩ := rd_int rx
    refine first_turn (c := c) F (X₀.keeps fun b o e => ?_) ?_ (by show A.depth < 990; have := R.d; (first | lia | omega)) (items := items) ⟨o, keepOf N' t htL _ e1, e2, e3⟩ (by rw [← Array.getElem?_toList]; exact hx) fun h' tk' old => KskEnd.intro (F'.kept old) (N'.grown old) fun q hq => hq
    · exact keepOf N' b (fun q => by subst q; rw [h0] at e; cases e) _ (hst _ _ e)
    · exact hlim.keeps fun b o e => keepOf N' b (fun q => by subst q; rw [h0] at e; cases e) _ (hst _ _ e)
  · have kp := kept_of (extra := [(D, seqObj "list" out cc)]) hn F' N'
    have hD := N' _ (.head _)
    obtain ⟨pz, hp, ho, hs⟩ := ko
    obtain ⟨zs, hz1, rfl⟩ := perm_lift (g := fun z : (Int × Int) × Value => (z.1.1, z.2)) (zs := ps.zip ws.toList) hp (by
      rw [List.zip_map_left]; exact List.map_congr_left fun ⟨x, y⟩ _ => rfl)
    have hout : out.toList = zs.map (·.2) := by rw [ho, List.map_map]; rfl
    refine k D h' tk out cc (zs.map (·.1)) kp ?_ hD.1 ?_ (fun v hv => ?_) ?_ ?_
    · cases e : s.heap.get? D with
      | none => rfl
      | some o => exact absurd (lt (D, o) (mem_allBut.mpr ⟨by simpa using hD.2.1, e⟩)) (Nat.lt_irrefl _)
    · rw [hout]; exact zip_rdAll fun z hz => rdAll_zip hr z (hz1.mem_iff.mp hz)
    · rw [hout] at hv
      obtain ⟨z, hz, rfl⟩ := List.mem_map.mp hv
      exact (List.of_mem_zip (hz1.mem_iff.mp hz)).2
    · have := hz1.map (·.1)
      rw [List.map_fst_zip (by (first | lia | omega))] at this
      exact this
    · rw [List.pairwise_map] at hs ⊢
      exact hs.imp fun h => h
end Mine

set_option maxRecDepth 100000
namespace Mine
open PySem PySem.W PySem.Calls PyProof.Rows PySem.Spec
open PySem.W.Fast (sEq sEq_iff)

/-- a dict, by its rows -/
noncomputable def RowD (h : Heap) (d : Addr) (es : Array DictEntry) (ep : Nat) : Prop := ∃ o, h.get? d = some o ∧ o.ExactDict ∧ o.data = .dict es ep
theorem RowD.at {h h' : Heap} {d : Addr} {es : Array DictEntry} {ep : Nat} (x : RowD h d es ep) (k : ∀ o, h.get? d = some o → h'.get? d = some o) : RowD h' d es ep :=
  let ⟨o, a, b⟩ := x; ⟨o, k o a, b⟩
theorem RowD.typeIs {s : Shared} {d : Addr} {es : Array DictEntry} {ep : Nat} (x : RowD s.heap d es ep) : s.TypeIs (.ref d) "dict" := let ⟨o, a, b, _⟩ := x; ⟨o, a, b.1⟩
theorem RowD.lt {h : Heap} {d : Addr} {es : Array DictEntry} {ep : Nat} (x : RowD h d es ep) : d < h.objs.size := let ⟨_, a, _⟩ := x; Heap.lt_size a

section
variable {prog : Program} {w : World} {A : Around} {E : Value → Shared → Prop} {s : Shared} {d it : Addr} {es : Array DictEntry} {ep i : Nat}

theorem row_iter {Q : Value → Shared → Prop} (hd : (d == sysModules) = false) (hm : RowD s.heap d es ep)
    (hQ : Q (.ref s.heap.objs.size) { s with heap := s.heap.push { cls := .type "dict_keyiterator", data := .fields #[.ref d, .int 0 0, .int es.size 0, .int ep 0] } }) :
    wpAny (model prog w) A (pyIter (.ref d)) Q E s := by
  have hT := hm.typeIs
  obtain ⟨o, ho, hc, hdat⟩ := hm
  refine wpAny_pyIter_slot hT PySem.F.slot_dict_iter (wpAny_call_entry PySem.F.slot_dict_iter hT PySem.F.entry_dict_iter ?_ (PySem.F.args_dict_iter_1 _))
  unfold Builtin.«dict.__iter__»
  refine wpAny_bind ?_
  unfold Builtin.Dict.dictSlotNone
  refine wpAny_bind (wpAny_notOrdered_dict hT ?_)
  show wpAny _ _ (pure (Value.ref d)) _ _ s
  refine wpAny_pure ?_
  show wpAny _ _ (Builtin.Dict.showsAll d >>= _) _ _ s
  unfold Builtin.Dict.showsAll
  rw [if_neg (by rw [hd]; exact Bool.false_ne_true)]
  refine wpAny_bind (wpAny_pure ?_)
  refine wpAny_bind (wpAny_dictEntries ho hdat ?_)
  refine wpAny_bind (wpAny_dictEpoch ho hdat ?_)
  refine wpAny_bind (wpAny_newObj_type (wpAny_pure ⟨_, rfl, "dict_keyiterator", _, ⟨_, Heap.get?_push_size _ rfl, rfl⟩, PySem.F.slot_dict_keyiterator_next.lookup, ?_⟩))
  simpa [rawInt] using hQ

theorem row_next {Q : Option Value → Shared → Prop} (hit : s.heap.IsKeyIter it d i es.size ep) (hm : RowD s.heap d es ep) (hlt : i < es.size)
    (hQ : ∀ h', h'.IsKeyIter it d (i + 1) es.size ep → Heap.SameBut it s.heap h' → Q (some es[i].key) { s with heap := h' }) :
    wpAny (model prog w) A (pyNext (.ref it)) Q E s := by
  obtain ⟨o, ho, hc, hd⟩ := id hit
  obtain ⟨od, hod, hcd, hdd⟩ := id hm
  unfold pyNext
  refine wpAny_bind (wpAny_attempt (wpAny_callSpecial?_slot (name := Str.ofString "__next__") hit.typeIs PySem.F.slot_dict_keyiterator_next
    (wpAny_call_entry PySem.F.slot_dict_keyiterator_next hit.typeIs PySem.F.entry_dict_keyiterator_next ?_ (PySem.F.args_dict_keyiterator_next_1 _))))
  refine wpAny_bind (wpAny_pure ?_)
  refine wpAny_bind ?_
  refine wpAny_bind ?_
  refine wpAny_bind (wpAny_typeNameOfWhole_keyiter hit.typeIs (wpAny_pure ?_))
  refine wpAny_bind (wpAny_fieldsOf ho hd ?_)
  have hown : Builtin.Dict_items.ownsTuple "dict_keyiterator" = false := by decide
  rw [if_neg (show ¬ (Builtin.Dict_items.ownsTuple "dict_keyiterator" = true) from by rw [hown]; exact Bool.false_ne_true)]
  show wpAny _ _ (if (Value.ref d == Value.none) = true then _ else _) _ _ s
  rw [if_neg (show ¬ ((Value.ref d == Value.none) = true) from Bool.false_ne_true)]
  refine wpAny_bind (wpAny_pure ?_)
  refine wpAny_bind (wpAny_dictEntries hod hdd ?_)
  rw [if_neg (by simp)]
  refine wpAny_bind (wpAny_pure ?_)
  refine wpAny_bind (wpAny_dictEpoch hod hdd ?_)
  rw [if_neg (by simp)]
  refine wpAny_pure ?_
  simp only [show ¬ ((i : Int) < 0) from by (first | lia | omega), if_false, Int.toNat_natCast, Array.getElem?_eq_getElem hlt]
  refine wpAny_bind ?_
  refine wpAny_bind (wpAny_typeNameOfWhole_keyiter hit.typeIs (wpAny_pure ?_))
  refine wpAny_bind (wpAny_isOneOf_keyiter hit.typeIs ?_)
  show wpAny _ _ (setField (.ref it) 1 (rawInt ((i : Int) + 1)) >>= _) _ _ s
  refine wpAny_bind (wpAny_setField ho hd (by simp) ?_)
  have hit' : (s.heap.update it (Obj.mapFields (·.setIfInBounds 1 (rawInt ((i : Int) + 1))))).IsKeyIter it d (i + 1) es.size ep :=
    ⟨_, Heap.get?_update_self _ ho (Obj.isFreed_of_fields (Obj.data_mapFields hd _)), (Obj.cls_mapFields ..).trans hc, by rw [Obj.data_mapFields hd]; simp [rawInt]⟩
  refine wpAny_bind (wpAny_holding ?_)
  refine wpAny_bind (wpAny_isOneOf_keyiter (s := { s with heap := s.heap.update it (Obj.mapFields (·.setIfInBounds 1 (rawInt ((i : Int) + 1)))) }) hit'.typeIs ?_)
  show wpAny _ _ (pure es[i].key) _ _ _
  exact wpAny_pure (wpAny_pure ⟨_, rfl, wpAny_pure (hQ _ hit' (Heap.SameBut.update ..))⟩)

theorem row_end {Q : Option Value → Shared → Prop} (hh : A.handled = none) (hit : s.heap.IsKeyIter it d es.size es.size ep) (hm : RowD s.heap d es ep)
    (hQ : ∀ h', Heap.ExtBut it s.heap h' → Q none { s with heap := h' }) : wpAny (model prog w) A (pyNext (.ref it)) Q E s := by
  obtain ⟨o, ho, hc, hd⟩ := id hit
  obtain ⟨od, hod, hcd, hdd⟩ := id hm
  unfold pyNext
  refine wpAny_bind (wpAny_attempt (wpAny_callSpecial?_slot (name := Str.ofString "__next__") hit.typeIs PySem.F.slot_dict_keyiterator_next
    (wpAny_call_entry PySem.F.slot_dict_keyiterator_next hit.typeIs PySem.F.entry_dict_keyiterator_next ?_ (PySem.F.args_dict_keyiterator_next_1 _))))
  refine wpAny_bind (wpAny_pure ?_)
  refine wpAny_bind ?_
  refine wpAny_bind ?_
  refine wpAny_bind (wpAny_typeNameOfWhole_keyiter hit.typeIs (wpAny_pure ?_))
  refine wpAny_bind (wpAny_fieldsOf ho hd ?_)
  have hown : Builtin.Dict_items.ownsTuple "dict_keyiterator" = false := by decide
  rw [if_neg (show ¬ (Builtin.Dict_items.ownsTuple "dict_keyiterator" = true) from by rw [hown]; exact Bool.false_ne_true)]
  show wpAny _ _ (if (Value.ref d == Value.none) = true then _ else _) _ _ s
  rw [if_neg (show ¬ ((Value.ref d == Value.none) = true) from Bool.false_ne_true)]
  refine wpAny_bind (wpAny_pure ?_)
  refine wpAny_bind (wpAny_dictEntries hod hdd ?_)
  rw [if_neg (by simp)]
  refine wpAny_bind (wpAny_pure ?_)
  refine wpAny_bind (wpAny_dictEpoch hod hdd ?_)
  rw [if_neg (by simp)]
  refine wpAny_pure ?_
  simp only [show ¬ ((es.size : Int) < 0) from by (first | lia | omega), if_false, Int.toNat_natCast, Array.getElem?_eq_none (Nat.le_refl es.size)]
  refine wpAny_bind ?_
  refine wpAny_bind (wpAny_typeNameOfWhole_keyiter hit.typeIs (wpAny_pure ?_))
  show wpAny _ _ (setField (.ref it) 0 .none >>= _) _ _ s
  refine wpAny_bind (wpAny_setField ho hd (by simp) ?_)
  show wpAny _ _ (newExc (.type "StopIteration") [] >>= _) _ _ _
  refine wpAny_bind ?_
  simp only [newExc, newTuple]
  refine wpAny_bind (wpAny_newObj_type ?_ (by size_fits))
  refine wpAny_bind (m := firstArgMember _ _) (wpAny_of_eq (a := Value.none) (by first | rfl | (simp only [firstArgMember]; rfl)) ?_)
  refine wpAny_newObj_type ?_ (by size_fits)
  simp only [raiseNew]
  refine wpAny_bind (wpAny_handled ?_)
  rw [show A.in1.handled = none from hh]
  refine wpAny_bind (wpAny_pure (wpAny_throw ?_))
  refine wpAny_bind (wpAny_isInstance (T := "StopIteration") (b := true) ⟨_, Heap.get?_push_size _ rfl, rfl⟩ isSubtype_stop ?_)
  exact wpAny_pure (hQ _ (((Heap.SameBut.update ..).extBut.push _).push _))

theorem row_walks (hh : A.handled = none) (I d : Addr) (hne : d ≠ I) (es : Array DictEntry) (ep : Nat) :
    Walks prog w A I [I, d] [I] es.size (fun i v => ∃ e, es[i]? = some e ∧ v = e.key) (fun i h => h.IsKeyIter I d i es.size ep ∧ RowD h d es ep) where
  sub := fun b hb => by simp at hb; simp [hb]
  frame := fun _ _ _ st hk => ⟨st.1.at fun o e => hk I (by simp) o e, st.2.at fun o e => hk d (by simp) o e⟩
  item := fun i s Q E hi st hQ => row_next st.1 st.2 hi fun h' hit' hs' =>
    hQ _ h' s.toks ⟨es[i], by simp, rfl⟩ ⟨hit', st.2.at fun o e => (hs'.2 d hne).trans e⟩ fun b o hb e => hs'.extBut b o (fun h => hb (by simp [h])) e
  done := fun s Q E st hQ => row_end hh st.1 st.2 fun h' he' => hQ h' s.toks fun b o hb e => he' b o (fun h => hb (by simp [h])) e
  self := fun _ _ _ _ st hQ => wpAny_pyIter_keyiter st.1 hQ
theorem row_src (lo : (d == sysModules) = false) : KdlSrc prog w "dict" d d es.size (fun i v => ∃ e, es[i]? = some e ∧ v = e.key) (fun h => RowD h d es ep) where
  type := fun _ hm => hm.typeIs
  there := fun _ hm => ⟨hm.lt, hm.lt⟩
  keep := fun _ _ hm hk => hm.at fun o e => hk d (.inl rfl) o e
  notList := by decide
  notTuple := by decide
  hint := fun _ _ _ _ hm hq => kdl_hint_dict hm.typeIs hq
  iter := fun _ _ hh hm => ⟨_, _, (fun _ _ hq => row_iter lo hm hq), row_walks hh _ d (Nat.ne_of_lt hm.lt) es ep, ⟨⟨_, Heap.get?_push_size _ rfl, rfl, rfl⟩, hm.at fun o e => Heap.get?_push_of_some _ e⟩⟩
end
end Mine

set_option maxRecDepth 100000
namespace Mine
open PySem PySem.W PySem.Calls PyProof.Rows PySem.Spec
open PySem.W.Fast (sEq sEq_iff)
section
variable {c : Cx} {A : Around} {E : Value → Shared → Prop} {s : Shared} {L : Addr} {mm : Str → Option Value}

/-- list.sort of two to five texts, taken out of what the heap held -/
theorem sort_core {n : Nat} {vs : List Value} {ss : List (List Int)} {Q : Value → Shared → Prop} (R : Room A n) (hn : s.heap.Ns L mm) (hr : RdAll s.heap vs (ss.map pTup)) (nd : ss.Nodup) (h5 : ss.length ≤ 5) (h2 : 2 ≤ ss.length)
    {D : Addr} {e1 : Nat} {h' : Heap} {tk : Tok} (F' : Fr (hp0 s.heap) L h' mm) (N' : News (hp0 s.heap) L h' ((D, seqObj "list" #[] e1) :: allBut s.heap [L])) (lt : ∀ q ∈ allBut s.heap [L], q.1 < D)
    (k : ∀ (D : Addr) (h' : Heap) (tk : Tok) (us : Array Value) (k : Nat) (ts : List (List Int)), Kept L s.heap h' → s.heap.get? D = none → h'.get? D = some (plainL us k) → RdAll s.heap us.toList (ts.map pTup) → (∀ v ∈ us.toList, v ∈ vs) → ts.Perm ss → ts.Pairwise (fun a b => ltL a b = true) → Q (.ref D) { s with heap := h', toks := tk }) :
    wpAny (mdl c) A.in1.in1 (keyKind' vs.toArray) (fun κ s' => (kas_sort vs.length).kasWp (kas_ask c.prog c.w A.in1.in1 κ vs) (fun p s'' => KasFin (hp0 s.heap) L mm D e1 (p.toList.map fun i => vs.getD i Value.none) (fun s3 => Q (.ref D) s3) s'') s') (fun _ _ => False) { s with heap := h', toks := tk } := by
  have t := texts_of (c := c) hr
  have hlen := t.len
  have hσ : (ss.map (rk ss)).length = vs.length := by rw [List.length_map, hlen]
  have ok := sorts_all (σ := ss.map (rk ss)) (by rw [List.length_map]; exact h2) (by rw [List.length_map]; exact h5) (fun x hx => by
    obtain ⟨a, ha, rfl⟩ := List.mem_map.mp hx
    rw [List.length_map]; exact rk_bound ha) (by
    refine List.pairwise_map.mpr (List.Pairwise.imp_of_mem (fun {a b} ha hb hne e => hne ?_) nd)
    have h1 := rk_iff ha hb
    have h2 := rk_iff hb ha
    rw [e] at h1 h2
    simp at h1 h2
    exact ltL_tri a b h1 h2)
  unfold sortsOk at ok
  split at ok
  case h_2 => cases ok
  rename_i p hp
  obtain ⟨ok1, ok2⟩ := Bool.and_eq_true_iff.mp ok
  rw [hσ] at hp ok1
  have hperm : p.Perm (List.range vs.length) := List.isPerm_iff.mp ok1
  have hin : ∀ i ∈ p, i < ss.length := fun i hi => by have := List.mem_range.mp (hperm.mem_iff.mp hi); (first | lia | omega)
  have sg : ∀ i, i < ss.length → (ss.map (rk ss)).getD i 0 = rk ss (ss.getD i []) := fun i hi => by
    rw [List.getD_eq_getElem?_getD, List.getD_eq_getElem?_getD, List.getElem?_map, List.getElem?_eq_getElem hi]; rfl
  have mem : ∀ i, i < ss.length → ss.getD i [] ∈ ss := fun i hi => by
    rw [List.getD_eq_getElem?_getD, List.getElem?_eq_getElem hi]; exact List.getElem_mem hi
  have hrd : ∀ q : List Nat, (∀ i ∈ q, i < ss.length) → RdAll s.heap (q.map fun i => vs.getD i Value.none) (q.map (pTup ∘ fun i => ss.getD i [])) := fun q hq => by
    induction q with
    | nil => exact .nil
    | cons i q ih =>
      refine .cons ?_ (ih fun j hj => hq j (.tail _ hj))
      have hi := hq i (.head _)
      have := rdAll_getD hr (i := i) (by rw [List.length_map]; exact hi)
      have e : (ss.map pTup).getD i .none = pTup (ss.getD i []) := by
        rw [List.getD_eq_getElem?_getD, List.getD_eq_getElem?_getD, List.getElem?_map, List.getElem?_eq_getElem hi]; rfl
      rw [e] at this
      exact this
  have kp := kept_of (extra := [(D, seqObj "list" #[] e1)]) hn F' N'
  have t' := t.kept hn kp
  refine kind_wp (s := { s with heap := h', toks := tk }) t' (by (first | lia | omega)) fun κ hκ => run_wp (n := vs.length) (σ := ss.map (rk ss)) (fun i j C hi hj hC => ?_) _ p hp fun q hq => ?_
  · obtain ⟨a, ea, ka⟩ := t'.get hi
    obtain ⟨b, eb, kb⟩ := t'.get hj
    unfold kas_ask
    rw [ea, eb]
    refine ask_lt hκ (by have := R.units; show A.units + 1 + 1 < cLine; (first | lia | omega)) ka kb ?_
    rw [rk_iff (mem i (by (first | lia | omega))) (mem j (by (first | lia | omega))), ← sg i (by (first | lia | omega)), ← sg j (by (first | lia | omega))]
    exact hC
  · rw [hq]
    refine KasFin.intro F' N' (.head fun z hz => Nat.ne_of_lt (lt z hz)) fun h'' cc F'' N'' => ?_
    have kp' := kept_of (extra := [(D, listOf (List.toArray (p.map fun i => vs.getD i Value.none)) cc)]) hn F'' N''
    have hD := N'' _ (.head _)
    refine k D h'' tk _ cc (p.map fun i => ss.getD i []) kp' ?_ hD.1 ?_ (fun v hv => ?_) ?_ ?_
    · cases e : s.heap.get? D with
      | none => rfl
      | some o => exact absurd (lt (D, o) (mem_allBut.mpr ⟨by simpa using hD.2.1, e⟩)) (Nat.lt_irrefl _)
    · show RdAll s.heap (p.map fun i => vs.getD i Value.none) _
      rw [List.map_map]
      exact hrd p hin
    · obtain ⟨i, hi, rfl⟩ := List.mem_map.mp (show v ∈ p.map fun i => vs.getD i Value.none from hv)
      have := hin i hi
      rw [List.getD_eq_getElem?_getD, List.getElem?_eq_getElem (show i < vs.length by (first | lia | omega))]
      exact List.getElem_mem _
    · have := hperm.map fun i => ss.getD i []
      rw [hlen, map_range_getD] at this
      exact this
    · rw [List.pairwise_map]
      refine List.Pairwise.imp_of_mem (fun {i j} hi hj hlt => ?_) (ascR_iff (ss := ss) ok2)
      rw [sg i (hin i hi), sg j (hin j hj)] at hlt
      rw [rk_iff (mem i (hin i hi)) (mem j (hin j hj))]
      exact decide_eq_true hlt

/-- list.sort of up to five texts, taken out of what the heap held -/
theorem lsort_any {n : Nat} {vs : List Value} {ss : List (List Int)} {Q : Value → Shared → Prop} (R : Room A n) (hn : s.heap.Ns L mm) (hr : RdAll s.heap vs (ss.map pTup)) (nd : ss.Nodup) (h5 : ss.length ≤ 5)
    {D : Addr} {h' : Heap} {tk : Tok} (F' : Fr (hp0 s.heap) L h' mm) (N' : News (hp0 s.heap) L h' ((D, listOf vs.toArray 0) :: allBut s.heap [L])) (lt : ∀ q ∈ allBut s.heap [L], q.1 < D)
    (k : ∀ (D : Addr) (h' : Heap) (tk : Tok) (us : Array Value) (k : Nat) (ts : List (List Int)), Kept L s.heap h' → s.heap.get? D = none → h'.get? D = some (plainL us k) → RdAll s.heap us.toList (ts.map pTup) → (∀ v ∈ us.toList, v ∈ vs) → ts.Perm ss → ts.Pairwise (fun a b => ltL a b = true) → Q (.ref D) { s with heap := h', toks := tk }) :
    wpAny (mdl c) A.in1 (call (.builtin "list.sort") [.ref D]) (fun _ s' => Q (.ref D) s') E { s with heap := h', toks := tk } := by
  have hlen : vs.length = ss.length := by have := hr.length; rw [List.length_map] at this; exact this
  by_cases h2 : 2 ≤ ss.length
  · exact kat_lsort (vs := vs) (its := vs.toArray) F' N' (.head fun z hz => Nat.ne_of_lt (lt z hz)) (by simp) (by (first | lia | omega)) (by (first | lia | omega)) fun e1 h'' F'' N'' => sort_core (c := c) (s := s) (Q := fun v s' => Q v s') R hn hr nd h5 h2 F'' N'' lt k
  · have hD := N' _ (.head _)
    refine wpAny_call_entry slot_list_sort ⟨_, hD.1, rfl⟩ entry_list_sort ?_ (args_list_sort _)
    refine short_list_sort (s := { s with heap := h', toks := tk }) (news := allBut s.heap [L]) F' (fun p hp => N' p (.tail _ hp)) hD.1 hD.2.1 hD.2.2 (fun p hp => Nat.ne_of_lt (lt p hp)) (by (first | lia | omega)) fun h'' cc F'' N'' => ⟨_, rfl, ?_⟩
    have kp := kept_of (extra := [(D, seqObj "list" vs.toArray cc)]) hn F'' N''
    have hD' := N'' _ (.head _)
    refine k D h'' tk vs.toArray cc ss kp ?_ hD'.1 (by simpa using hr) (fun v hv => by simpa using hv) (List.Perm.refl _) ?_
    · cases e : s.heap.get? D with
      | none => rfl
      | some o => exact absurd (lt (D, o) (mem_allBut.mpr ⟨by simpa using hD.2.1, e⟩)) (Nat.lt_irrefl _)
    · match ss, h2 with
      | [], _ => exact .nil
      | [x], _ => exact List.pairwise_singleton _ _
      | _ :: _ :: _, h2 => exact absurd (by simp) h2
end

theorem sortD_ok (c : Cx) : SortD c := fun {s A n L D mm es Q} R hst hn hd lo hr h5 k => by
  obtain ⟨o, rows, ep, ho, hc, hdat, he, hk, hnd⟩ := hd
  have hsz : rows.size = es.length := by rw [← Array.length_toList, he, List.length_map]
  refine kdu_sorted (row_src lo) (show A.handled = none from R.h) (fr0 hn) (news0 (l := [L]) (.head _)) ⟨o, ho, hc, hdat⟩ (by rw [hsz, sizeLine_eq]; (first | lia | omega)) fun B h' tk vs F' N' lt hl hv => ?_
  have hvs : vs = es.map fun e => .ref e.2.1 := by
    refine List.ext_getElem (by rw [List.length_map, hl, hsz]) fun i h1 h2 => ?_
    obtain ⟨e, q1, q2⟩ := hv i vs[i] (List.getElem?_eq_getElem h1)
    rw [← Array.getElem?_toList, he, List.getElem?_map] at q1
    obtain ⟨e', q3, rfl⟩ := Option.map_eq_some_iff.mp q1
    rw [q2, List.getElem_map]
    rw [List.getElem?_eq_getElem (by rw [List.length_map] at h2; exact h2)] at q3
    cases q3
    rfl
  subst hvs
  exact lsort_any (c := c) (s := s) (Q := Q) R hn hr hnd (by rw [List.length_map]; exact h5) F' N' lt k
end Mine

set_option maxRecDepth 100000
namespace Mine
open PySem PySem.W PySem.Calls PyProof.Rows PySem.Spec
open PySem.W.Fast (sEq sEq_iff)

noncomputable def qv : Program := { pw with main := { pw.main with body := [stmtAt 28] } }
noncomputable def looseN : List Str := ["_wall", "place_by_half", "range_first_of", "range_bounds", "range_is_wanted", "range_merged", "CodeSet", "CodeStrings", "setexpr_strings", "setexpr_put", "SetSoFar", "_law_begins", "_law_ends", "_law_strings", "_law_deck", "_law_draw", "_law_put", "_law_ranges", "_law_made", "_law_span", "_law_drawn", "_law_both", "_law_is", "_law_right"]

noncomputable def Left (w : World) (h : Heap) : Prop := ∃ h₀, Seen h₀ ∧ h₀.StaysIn h

theorem ns_same {h : Heap} {L : Addr} {m m' : Str → Option Value} (a : h.Ns L m) (b : h.Ns L m') : m = m' := by
  obtain ⟨o, es, ep, a1, a2, a3, a4⟩ := a
  obtain ⟨o', es', ep', b1, b2, b3, b4⟩ := b
  rw [a1] at b1; cases b1
  rw [a2] at b2; cases b2
  funext n; rw [← a4, ← b4]

theorem law_run {w : World} {s : Shared} (Y : Left w s.heap) (hlim : s.heap.NoLimit) {l : List Int} (hl : l.length ≤ 63) {v : Value} {as : List Addr} (r : Reads s.heap v (pInts l) as) :
    wpAny (model pw w) callerA (call (.ref 336) [v]) (fun u s' => u = .bool true ∧ s.heap.StaysIn s'.heap ∧ SameRest s s') no s := by
  obtain ⟨h₀, S, st⟩ := Y
  let c : Cx := ⟨pw, w, s.heap, s⟩
  have hlim' : c.h₀.NoLimit := hlim
  have X₀ : (kOf h₀).In c.h₀ := (kOf_in h₀).keeps st
  have F35 : FnAt (kOf h₀) 35 ["pair"] [] (fBody (stmtAt 4)) (fScope (stmtAt 4)) := f35 (S.fns (35, stmtAt 4) (.tail _ (.head _)))
  have X : Wx c (kOf h₀) := wx_of S st hlim' (sortT_ok c) (sortP_ok c X₀ hlim' F35) (sortD_ok c)
  have T : TopOk c 6 336 [.d (pInts l)] (fun d _ => d = dB true) := k336 X [.d (pInts l)] [] (fun d _ => d = dB true) ⟨l, rfl, rfl, hl, fun _ => rfl⟩
  refine wpAny_mono (T callerA [v] s ⟨rfl, by decide, by decide⟩ (.cons ⟨as, r⟩ .nil) rfl ⟨rfl, rfl, rfl⟩) (fun u s' q => ?_) no_imp
  obtain ⟨⟨d, out, q1, rfl⟩, q2, q3⟩ := q
  exact ⟨rd_bool q1, q2, q3⟩

theorem law_walk {d : DefRec} {kwd : List (Str × Expr)} (hn : d.name = "law") : WalkO qv looseN (fun _ _ => True) Left PySem.Challenge.rw_on0363_01.row.toRowW d kwd fun f vs => PySem.call f vs := by
  intro w s₀ s₁ mg mb G Y a o pm cd doc dV kV ho hd hcd hD hmg hg args vals as hpre hlay hrd hwl hlo
  have N := G.T.g
  have hlim := G.T.nolimit
  obtain rfl : a = 336 := by
    obtain ⟨h₀, S, st⟩ := Y
    obtain ⟨n1, n2⟩ := law_at S
    rw [hn, ← ns_same (n1.keeps st) N, n2] at hmg
    cases hmg; rfl
  wrow_args hpre hlay hrd hwl hlo
  rename Reads _ _ _ _ => r0
  rename ¬ ((63 : Nat) : Int) < _ => h63
  have hl := Nat.le_of_not_lt fun q => h63 (Int.ofNat_lt.mpr q)
  refine wpAny_mono (law_run Y hlim hl r0) (fun u s' q => ?_) no_imp
  obtain ⟨rfl, q2, q3⟩ := q
  refine GoodW.toG ⟨.inl ⟨_, .bool true, [], rfl, fun _ => rfl, .bool _, (by wrow_post), fun _ => ⟨.nil, fun a h => nomatch h⟩⟩, q2, q3.2.2, q3.1.trans hg⟩
end Mine

set_option maxRecDepth 100000
set_option Elab.async false
namespace Mine
open PySem PySem.W PySem.Calls PyProof.Rows PySem.Spec
/-! the head, from runs of the text's top -/
noncomputable def looksO {α : Type} (p q : Program) (loose : List Str) (Xt : Shared → Bool) (Yf : Shared → α) (g0 : Bool) (h₀ : Heap) (s : Shared) :=
  ((staticsOk (importedModules p.main.body) h₀ s.heap && namesBound p s.heap && gensDone s && laidKept h₀ s.heap), openSeen q loose (importedModules p.main.body) Xt g0 s, Yf s)
theorem bind_of {α β : Type} {b : Bool} {x : Option α} {a : α} {f : α → Option β} {c : Option β} (hb : b = true) (hx : x = some a) (hf : f a = c) : (match (generalizing := false) b with | true => x.bind f | false => none) = c := by
  subst hb hx
  exact hf
theorem some_of {α : Type} {b : Bool} {a : α} (hb : b = true) : (match (generalizing := false) b with | true => some a | false => none) = some a := by
  subst hb
  rfl
theorem left_aux {p q : Program} {loose : List Str} {Xt : Shared → Bool} {α : Type} {Yf : Shared → α} {y : α} {N : Nat} {g0 : Bool} {w : World} {S s : Shared} {m₀ : Nat} {ann : Option Value}
    (e : fencedOpening treeTable p w N = some S) (z : (S.heap.isNs mainGlobals && S.gens.size == 0, S.heap.objs.size, S.heap.nsMap mainGlobals "__annotations__") = (true, m₀, ann))
    (r : topRun treeTable p w m₀ ann N S (topStub p) = some s) (l : looksO p q loose Xt Yf g0 S.heap s = (true, openGood q loose, y)) :
    (openEnds treeTable p w N).map (fun s => (openSeen q loose (importedModules p.main.body) Xt g0 s, Yf s)) = some (openGood q loose, y) := by
  have z2 := congrArg (fun x => x.2.1) z
  have z3 := congrArg (fun x => x.2.2) z
  dsimp only at z2 z3
  subst z2 z3
  have t : topFrom treeTable p w N S = some s := bind_of (congrArg Prod.fst z) r (some_of (congrArg Prod.fst l))
  have u : openEnds treeTable p w N = some s := (congrArg (fun x => Option.bind x (topFrom treeTable p w N)) e).trans t
  rw [u]
  exact congrArg (fun x => some x.2) l
theorem left_of_run {p q : Program} {loose : List Str} {Xt : Shared → Bool} {α : Type} {Yf : Shared → α} {Ya : World → α} {N : Nat} {g0 : Bool} {H₀ : Params → Heap} {gs₀ : Array GenState} {d₀ : Drawn} {k₀ m₀ : Nat} {ann : Option Value}
    (open_ : ∀ w : World, (fencedOpening treeTable p w N).map (fun s => (s.heap, s.gens, s.drawn, s.toks)) = some (H₀ w.params, gs₀, d₀, k₀))
    (size : ∀ P : Params, ((H₀ P).isNs mainGlobals && gs₀.size == 0, (H₀ P).objs.size, (H₀ P).nsMap mainGlobals "__annotations__") = (true, m₀, ann))
    (run : ∀ (w : World) (os : OsState), ∃ s, topRun treeTable p w m₀ ann N ⟨H₀ w.params, gs₀, d₀, k₀, os⟩ (topStub p) = some s ∧ looksO p q loose Xt Yf g0 (H₀ w.params) s = (true, openGood q loose, Ya w)) :
    LeftO p q loose Xt Yf Ya N g0 := fun w =>
  (Option.map_eq_some_iff.mp (open_ w)).elim fun S hS => (run w S.os).elim fun _ hr =>
    left_aux (hS.1.trans (congrArg some (congrArg (fun v => (⟨v.1, v.2.1, v.2.2.1, v.2.2.2, S.os⟩ : Shared)) hS.2))) (size w.params) hr.1 hr.2
/-- three runs, one behind the other -/
theorem three {p : Program} {w : World} {n₀ : Nat} {ann : Option Value} {env : Env} {q : Pos} {S₀ : Shared} {t₀ : Thread} {A B C : SharedT} {l1 l2 l3 : List Stmt} {c : Code} {p1 p2 p3 p4 : Pos} {β : Type} {f : Shared → β} {y : β} {n1 n2 n3 : Nat}
    (h0 : topGo treeTable p w n₀ ann 12 S₀ t₀ = some (A.abs, ⟨denote treeTable (.body (l1 ++ (l2 ++ (l3 ++ []))) env), c, p1, [topFrame q]⟩))
    (hk : ∀ s : Shared, segRun treeTable p w n₀ ann 1 1 s (blockOf (l1 ++ (l2 ++ (l3 ++ []))) env c p1 [topFrame q]) = some (.next, s, c, p1))
    (h1 : segRunT treeTable p w n₀ ann 1 n1 A (piecesOf l1 env c p1 [topFrame q]) = some (.next, B, c, p2))
    (h2 : segRunT treeTable p w n₀ ann 1 n2 B (piecesOf l2 env c p2 [topFrame q]) = some (.next, C, c, p3))
    (h3 : (segRunT treeTable p w n₀ ann 1 n3 C (piecesOf l3 env c p3 [topFrame q])).map (fun r => (r.1, r.2.2.1, r.2.2.2, f r.2.1.abs)) = some (.next, c, p4, y))
    (h4 : ∀ s : Shared, topRun treeTable p w n₀ ann 3 s ⟨doneF .next, c, p4, [topFrame q]⟩ = some s) :
    ∃ s, topRun treeTable p w n₀ ann (12 + (1 + (n1 + (n2 + (n3 + 3))))) S₀ t₀ = some s ∧ f s = y :=
  (Option.map_eq_some_iff.mp h3).elim fun x hx =>
  ⟨x.2.1.abs, go_top h0 (piece_block (hk _) (piece_app (segRun_of h1) (piece_app (segRun_of h2) (piece_app (segRun_of (hx.1.trans (congrArg some (congrArg (fun v => (v.1, x.2.1, v.2.1, v.2.2.1)) hx.2)))) (piece_nil (h4 _)))))), congrArg (fun v => v.2.2.2) hx.2⟩
theorem bp1 : opening pw = plainProg pw.main.scope.names := by kernel_rfl
theorem bp2 : ∀ s, fenceModules? pw s = some s := fun s => by kernel_rfl
theorem size_pw : ∀ P : Params, ((boot_heap P).isNs mainGlobals && (Array.mk [] : Array GenState).size == 0, (boot_heap P).objs.size, (boot_heap P).nsMap mainGlobals "__annotations__") = (true, 11, some (.ref 6)) := by
  intro P
  kernel_rfl
noncomputable def boT (P : Params) : BT := ((((((((BT.nil.ins 0 (boot_o_0 P)).ins 1 (boot_o_1 P)).ins 2 (boot_o_2 P)).ins 3 (boot_o_3 P)).ins 4 (boot_o_4 P)).ins 5 (boot_o_5 P)).ins 6 (boot_o_6 P)).ins 7 (boot_o_7 P)).ins 8 (boot_o_8 P)
    |>.ins 9 (boot_o_9 P) |>.ins 10 (boot_o_10 P)
end Mine

set_option maxRecDepth 100000
set_option Elab.async false
namespace Mine
open PySem PySem.W PySem.Calls PyProof.Rows PySem.Spec
noncomputable def hS (x : String) (n : Nat) : Value := .str (Str.ofString x) n
noncomputable def hE (P : Params) (x : String) (n : Nat) (v : Value) : DictEntry := ⟨PyData.keyHash P (Str.ofString x), hS x n, v⟩
noncomputable def hTr : List Obj → BT → Nat → BT
  | [], t, _ => t
  | o :: r, t, n => hTr r (t.ins n o) (n + 1)
noncomputable def hO (c : Value) (d : Data) : Obj := ⟨c, none, d, #[]⟩
noncomputable def hF (c : Value) (nm qn : String) (st : Stmt) (g b : Addr) (an : Option Addr) (df md cd : Value) : Obj :=
  hO c (.func { name := Str.ofString nm, qualname := Str.ofString qn, params := fParams st, body := .stmts (fBody st), scope := fScope st, globals := g, closure := [], defaults := df, kwdefaults := .none, pyModule := md, annotations := an, code := cd, builtins := b })
noncomputable def hT (t : BT) (n : Nat) (l : List Obj) : BT := hTr l t n
noncomputable def hI (o : Obj) (l : List Obj) : List Obj := o :: l
noncomputable def hM0 : Value := hS "__main__" 164
noncomputable def hM1 : Value := hS "unicore.base" 194
noncomputable def hM2 : Value := hS "unicore.ranges" 207
noncomputable def hM3 : Value := hS "unicore.setexprs" 371
noncomputable def hR (c : Int) (l : List (Int × Addr)) : List Value := l.foldr (fun p r => .int p.1 0 :: .int c 0 :: .ref p.2 :: r) []
noncomputable def hNs (k : Nat) : List String → List Value
  | [] => []
  | x :: r => hS x k :: hNs (k + 1) r
noncomputable def hE0 : Obj := hO (.type "tuple") (.seq [].toArray 0)
noncomputable def hCo (a k : Nat) (nm qn : String) (line argc : Int) (v1 v2 v3 : Value) (j : Nat) : Obj :=
  hO (.type "code") (.fields [hS nm k, hS qn (k + 1), hS "/claim/cut.py" (k + 2), .int line 0, .int argc 0, .int 0 0, .int 0 0, .int 3 0, .ref a, .bool true, .int 181 0, .ref (a + 1), .none, v1, v2, v3, .int j 0, .int line 0, hS "/claim/cut.py" (j + 1)].toArray)
noncomputable def hFn (a k : Nat) (nm qn : String) (st : Stmt) (line argc : Int) (ns : List String) (an : Option Addr) (df md : Value) (l : List Obj) : List Obj :=
  hE0 :: hO .none (.fields [].toArray) :: hO (.type "tuple") (.seq (hNs (k + 3) ns).toArray 0) :: hE0 :: hF .none nm qn st 0 0 none .none .none .none ::
    hCo a k nm qn line argc (.ref (a + 2)) (.ref (a + 3)) (.ref (a + 4)) (k + 3 + ns.length) :: hF (.type "function") nm qn st 3 0 an df md (.ref (a + 5)) :: l
noncomputable def hFm (a k : Nat) (nm qn : String) (st : Stmt) (line argc : Int) (an : Option Addr) (df md : Value) (l : List Obj) : List Obj :=
  hE0 :: hO .none (.fields [].toArray) :: hF .none nm qn st 0 0 none .none .none .none ::
    hCo a k nm qn line argc .none .none (.ref (a + 2)) (k + 3) :: hF (.type "function") nm qn st 3 0 an df md (.ref (a + 3)) :: l
noncomputable def tA (P : Params) : BT := hT (boT P) 11 <|
  hI (hO (.type "tuple") (.seq [].toArray 0)) <|
  hI (hO .none (.fields [].toArray)) <|
  hI (hO (.type "code") (.fields [(hS "<module>" 182), (hS "<module>" 183), (hS "/claim/cut.py" 184), (.int 1 0), (.int 0 0), (.int 0 0), (.int 0 0), (.int 0 0), (.ref 11), (.bool false), (.int 181 0), (.ref 12), .none, .none, .none, .none, (.int 185 0), (.int 1 0), (hS "/claim/cut.py" 186)].toArray)) <|
  hI (⟨(.type "frame"), none, .plain, [(some (.ref 13)), (some (.ref 3)), (some (.ref 3)), none, (some hM0), none, (some (.ref 0))].toArray⟩) <|
  []
noncomputable def t8 (P : Params) : BT := hT (((tA P).set 3 fun _ => hO (.type "dict") (.dict [hE P "__name__" 165 hM2, hE P "__doc__" 166 .none, hE P "__package__" 167 .none, hE P "__loader__" 168 (.builtin "__main__.__loader__#opaque"), hE P "__spec__" 169 .none, hE P "__annotations__" 170 (.ref 6), hE P "__builtins__" 171 (.ref 4), hE P "__file__" 173 (hS "/claim/cut.py" 172), hE P "__cached__" 174 .none, hE P "_wall" 193 (.ref 21), hE P "place_by_half" 206 (.ref 28), hE P "range_first_of" 215 (.ref 35), hE P "range_bounds" 221 (.ref 40), hE P "range_is_wanted" 230 (.ref 47), hE P "range_merged" 245 (.ref 54), hE P "CodeSet" 370 (.ref 150)].toArray 16)).set 12 fun _ => hO .none (.fields (hR 0 [(1, 20), (5, 27), (16, 34), (18, 39), (26, 46), (34, 53), (50, 60)]).toArray)) 15 <|
  hFn 15 187 "_wall" "_wall" (stmtAt 0) 1 1 ["k"] none .none (hM0) <|
  hFn 22 196 "place_by_half" "place_by_half" (stmtAt 2) 5 2 ["firsts", "number", "low", "high", "middle"] none .none (hM1) <|
  hFn 29 209 "range_first_of" "range_first_of" (stmtAt 4) 16 1 ["pair"] none .none (hM2) <|
  hFm 36 216 "range_bounds" "range_bounds" (stmtAt 5) 18 1 none .none (hM2) <|
  hFn 41 222 "range_is_wanted" "range_is_wanted" (stmtAt 6) 26 3 ["way", "is_near", "is_far"] none .none (hM2) <|
  hFn 48 231 "range_merged" "range_merged" (stmtAt 7) 34 3 ["near", "far", "way", "found", "at", "beside", "is_in", "bound", "is_next"] none .none (hM2) <|
  hI (hO (.type "tuple") (.seq [].toArray 0)) <|
  hI (hO (.type "builtin_function_or_method") (.fields [(.builtin "type.__prepare__"), (.type "type")].toArray)) <|
  hI (hO (.type "dict") (.dict [hE P "__module__" 253 hM2, hE P "__qualname__" 255 (hS "CodeSet" 254), hE P "__firstlineno__" 257 (.int 50 256), hE P "__init__" 265 (.ref 69), hE P "of" 284 (.ref 78), hE P "has" 292 (.ref 86), hE P "ranges" 298 (.ref 91), hE P "size" 305 (.ref 98), hE P "union" 313 (.ref 105), hE P "both" 321 (.ref 112), hE P "without" 329 (.ref 119), hE P "opposite" 336 (.ref 126), hE P "add" 345 (.ref 133), hE P "equals" 353 (.ref 140), hE P "first_at" 361 (.ref 147), hE P "__static_attributes__" 363 (.ref 148)].toArray 16)) <|
  hI (hO (.type "tuple") (.seq [].toArray 0)) <|
  hI (hO .none (.fields (hR 4 [(52, 68), (56, 75), (59, 85), (62, 90), (65, 97), (68, 104), (71, 111), (74, 118), (77, 125), (80, 132), (83, 139), (86, 146)]).toArray)) <|
  hI (hO (.type "code") (.fields [(hS "CodeSet" 248), (hS "CodeSet" 249), (hS "/claim/cut.py" 250), (.int 50 0), (.int 0 0), (.int 0 0), (.int 0 0), (.int 0 0), (.ref 58), (.bool false), (.int 181 0), (.ref 59), .none, .none, .none, .none, (.int 251 0), (.int 50 0), (hS "/claim/cut.py" 252)].toArray)) <|
  hI (⟨(.type "frame"), none, .plain, [(some (.ref 60)), (some (.ref 3)), (some (.ref 57)), none, (some hM2), none, (some (.ref 0))].toArray⟩) <|
  hI (hO (.type "tuple") (.seq [.none].toArray 0)) <|
  hFn 63 258 "__init__" "CodeSet.__init__" (methAt 8 0) 52 2 ["self", "bounds"] none (.ref 62) (hM2) <|
  hFn 70 266 "of" "CodeSet.of" (methAt 8 1) 55 1 ["ranges"] (some 79) .none (hM2) <|
  hI (hO (.type "dict") (.dict [hE P "__module__" 273 hM2, hE P "__name__" 276 (hS "of" 275), hE P "__qualname__" 279 (hS "CodeSet.of" 278), hE P "__doc__" 281 .none, hE P "__annotations__" 283 (.ref 79)].toArray 5)) <|
  hI (⟨(.type "staticmethod"), (some 77), (.fields [(.ref 76), (.bool false)].toArray), [].toArray⟩) <|
  hI (hO (.type "dict") (.dict [].toArray 0)) <|
  hFn 80 285 "has" "CodeSet.has" (methAt 8 2) 59 2 ["self", "code"] none .none (hM2) <|
  hFm 87 293 "ranges" "CodeSet.ranges" (methAt 8 3) 62 1 none .none (hM2) <|
  hFn 92 299 "size" "CodeSet.size" (methAt 8 4) 65 1 ["self"] none .none (hM2) <|
  hFn 99 306 "union" "CodeSet.union" (methAt 8 5) 68 2 ["self", "other"] none .none (hM2) <|
  hFn 106 314 "both" "CodeSet.both" (methAt 8 6) 71 2 ["self", "other"] none .none (hM2) <|
  hFn 113 322 "without" "CodeSet.without" (methAt 8 7) 74 2 ["self", "other"] none .none (hM2) <|
  hFn 120 330 "opposite" "CodeSet.opposite" (methAt 8 8) 77 1 ["self"] none .none (hM2) <|
  hFn 127 337 "add" "CodeSet.add" (methAt 8 9) 80 3 ["self", "first", "last"] none .none (hM2) <|
  hFn 134 346 "equals" "CodeSet.equals" (methAt 8 10) 83 2 ["self", "other"] none .none (hM2) <|
  hFn 141 354 "first_at" "CodeSet.first_at" (methAt 8 11) 86 2 ["self", "code"] none .none (hM2) <|
  hI (hO (.type "tuple") (.seq [(hS "bounds" 362)].toArray 0)) <|
  hI (hO (.type "dict") (.dict [hE P "__module__" 253 hM2, hE P "__firstlineno__" 257 (.int 50 256), hE P "__init__" 265 (.ref 69), hE P "of" 284 (.ref 78), hE P "has" 292 (.ref 86), hE P "ranges" 298 (.ref 91), hE P "size" 305 (.ref 98), hE P "union" 313 (.ref 105), hE P "both" 321 (.ref 112), hE P "without" 329 (.ref 119), hE P "opposite" 336 (.ref 126), hE P "add" 345 (.ref 133), hE P "equals" 353 (.ref 140), hE P "first_at" 361 (.ref 147), hE P "__static_attributes__" 363 (.ref 148), hE P "__dict__" 365 (.ref 151), hE P "__weakref__" 367 (.ref 152), hE P "__doc__" 368 .none].toArray 4)) <|
  hI (⟨(.type "type"), none, (.cls { name := Str.ofString "CodeSet", bases := [(.type "object")], mro := [(.ref 150), (.type "object")], ns := 149, qualname := Str.ofString "CodeSet", hasDict := true, slotNames := [], subclasses := [], abstract := false, collection := none, hasDel := false }), [none, none, (some (hS "CodeSet" 246)), (some (hS "CodeSet" 254)), (some (.builtin "object.__new__")), (some (.bool true))].toArray⟩) <|
  hI (hO (.type "getset_descriptor") (.fields [(hS "__dict__" 364), (.ref 150), (.builtin "function.__dict__"), (.builtin "function.__dict__#set")].toArray)) <|
  hI (hO (.type "getset_descriptor") (.fields [(hS "__weakref__" 366), (.ref 150), (.builtin "ExceptionGroup.__weakref__"), .none].toArray)) <|
  hI (hO (.type "super") (.fields [(.ref 150), (.ref 150), (.ref 150)].toArray)) <|
  hI (hO (.type "builtin_function_or_method") (.fields [(.builtin "object.__init_subclass__"), (.ref 150)].toArray)) <|
  []
noncomputable def t13 (P : Params) : BT := hT (((t8 P).set 3 fun _ => hO (.type "dict") (.dict [hE P "__name__" 165 hM3, hE P "__doc__" 166 .none, hE P "__package__" 167 .none, hE P "__loader__" 168 (.builtin "__main__.__loader__#opaque"), hE P "__spec__" 169 .none, hE P "__annotations__" 170 (.ref 6), hE P "__builtins__" 171 (.ref 4), hE P "__file__" 173 (hS "/claim/cut.py" 172), hE P "__cached__" 174 .none, hE P "_wall" 193 (.ref 21), hE P "place_by_half" 206 (.ref 28), hE P "range_first_of" 215 (.ref 35), hE P "range_bounds" 221 (.ref 40), hE P "range_is_wanted" 230 (.ref 47), hE P "range_merged" 245 (.ref 54), hE P "CodeSet" 370 (.ref 150), hE P "CodeStrings" 419 (.ref 185), hE P "setexpr_strings" 425 (.ref 194), hE P "setexpr_put" 431 (.ref 199), hE P "SetSoFar" 494 (.ref 244)].toArray 20)).set 12 fun _ => hO .none (.fields (hR 0 [(1, 20), (5, 27), (16, 34), (18, 39), (26, 46), (34, 53), (50, 60), (89, 160), (102, 193), (104, 198), (112, 205)]).toArray)) 155 <|
  hI (hO (.type "tuple") (.seq [].toArray 0)) <|
  hI (hO (.type "builtin_function_or_method") (.fields [(.builtin "type.__prepare__"), (.type "type")].toArray)) <|
  hI (hO (.type "dict") (.dict [hE P "__module__" 380 hM3, hE P "__qualname__" 382 (hS "CodeStrings" 381), hE P "__firstlineno__" 384 (.int 89 383), hE P "__init__" 393 (.ref 168), hE P "has_text" 401 (.ref 175), hE P "equals" 409 (.ref 182), hE P "__static_attributes__" 412 (.ref 183)].toArray 7)) <|
  hI (hO (.type "tuple") (.seq [].toArray 0)) <|
  hI (hO .none (.fields (hR 4 [(91, 167), (95, 174), (100, 181)]).toArray)) <|
  hI (hO (.type "code") (.fields [(hS "CodeStrings" 375), (hS "CodeStrings" 376), (hS "/claim/cut.py" 377), (.int 89 0), (.int 0 0), (.int 0 0), (.int 0 0), (.int 0 0), (.ref 158), (.bool false), (.int 181 0), (.ref 159), .none, .none, .none, .none, (.int 378 0), (.int 89 0), (hS "/claim/cut.py" 379)].toArray)) <|
  hI (⟨(.type "frame"), none, .plain, [(some (.ref 160)), (some (.ref 3)), (some (.ref 157)), none, (some hM3), none, (some (.ref 0))].toArray⟩) <|
  hFn 162 385 "__init__" "CodeStrings.__init__" (methAt 10 0) 91 3 ["self", "codes", "strings"] none .none (hM3) <|
  hFn 169 394 "has_text" "CodeStrings.has_text" (methAt 10 1) 95 2 ["self", "text"] none .none (hM3) <|
  hFn 176 402 "equals" "CodeStrings.equals" (methAt 10 2) 100 2 ["self", "other"] none .none (hM3) <|
  hI (hO (.type "tuple") (.seq [(hS "codes" 410), (hS "strings" 411)].toArray 0)) <|
  hI (hO (.type "dict") (.dict [hE P "__module__" 380 hM3, hE P "__firstlineno__" 384 (.int 89 383), hE P "__init__" 393 (.ref 168), hE P "has_text" 401 (.ref 175), hE P "equals" 409 (.ref 182), hE P "__static_attributes__" 412 (.ref 183), hE P "__dict__" 414 (.ref 186), hE P "__weakref__" 416 (.ref 187), hE P "__doc__" 417 .none].toArray 4)) <|
  hI (⟨(.type "type"), none, (.cls { name := Str.ofString "CodeStrings", bases := [(.type "object")], mro := [(.ref 185), (.type "object")], ns := 184, qualname := Str.ofString "CodeStrings", hasDict := true, slotNames := [], subclasses := [], abstract := false, collection := none, hasDel := false }), [none, none, (some (hS "CodeStrings" 373)), (some (hS "CodeStrings" 381)), (some (.builtin "object.__new__")), (some (.bool true))].toArray⟩) <|
  hI (hO (.type "getset_descriptor") (.fields [(hS "__dict__" 413), (.ref 185), (.builtin "function.__dict__"), (.builtin "function.__dict__#set")].toArray)) <|
  hI (hO (.type "getset_descriptor") (.fields [(hS "__weakref__" 415), (.ref 185), (.builtin "ExceptionGroup.__weakref__"), .none].toArray)) <|
  hI (hO (.type "super") (.fields [(.ref 185), (.ref 185), (.ref 185)].toArray)) <|
  hI (hO (.type "builtin_function_or_method") (.fields [(.builtin "object.__init_subclass__"), (.ref 185)].toArray)) <|
  hFm 190 420 "setexpr_strings" "setexpr_strings" (stmtAt 11) 102 1 none .none (hM3) <|
  hFm 195 426 "setexpr_put" "setexpr_put" (stmtAt 12) 104 3 none .none (hM3) <|
  hI (hO (.type "tuple") (.seq [].toArray 0)) <|
  hI (hO (.type "builtin_function_or_method") (.fields [(.builtin "type.__prepare__"), (.type "type")].toArray)) <|
  hI (hO (.type "dict") (.dict [hE P "__module__" 439 hM3, hE P "__qualname__" 441 (hS "SetSoFar" 440), hE P "__firstlineno__" 443 (.int 112 442), hE P "__init__" 450 (.ref 213), hE P "put_range" 459 (.ref 220), hE P "put_string" 467 (.ref 227), hE P "put_set" 476 (.ref 234), hE P "told" 483 (.ref 241), hE P "__static_attributes__" 487 (.ref 242)].toArray 9)) <|
  hI (hO (.type "tuple") (.seq [].toArray 0)) <|
  hI (hO .none (.fields (hR 4 [(114, 212), (119, 219), (123, 226), (130, 233), (135, 240)]).toArray)) <|
  hI (hO (.type "code") (.fields [(hS "SetSoFar" 434), (hS "SetSoFar" 435), (hS "/claim/cut.py" 436), (.int 112 0), (.int 0 0), (.int 0 0), (.int 0 0), (.int 0 0), (.ref 203), (.bool false), (.int 181 0), (.ref 204), .none, .none, .none, .none, (.int 437 0), (.int 112 0), (hS "/claim/cut.py" 438)].toArray)) <|
  hI (⟨(.type "frame"), none, .plain, [(some (.ref 205)), (some (.ref 3)), (some (.ref 202)), none, (some hM3), none, (some (.ref 0))].toArray⟩) <|
  hFn 207 444 "__init__" "SetSoFar.__init__" (methAt 13 0) 114 1 ["self"] none .none (hM3) <|
  hFn 214 451 "put_range" "SetSoFar.put_range" (methAt 13 1) 119 3 ["self", "first", "last"] none .none (hM3) <|
  hFn 221 460 "put_string" "SetSoFar.put_string" (methAt 13 2) 123 2 ["self", "codes"] none .none (hM3) <|
  hFn 228 468 "put_set" "SetSoFar.put_set" (methAt 13 3) 130 3 ["self", "other", "way"] none .none (hM3) <|
  hFn 235 477 "told" "SetSoFar.told" (methAt 13 4) 135 1 ["self"] none .none (hM3) <|
  hI (hO (.type "tuple") (.seq [(hS "is_behind_set" 484), (hS "ranges" 485), (hS "whole" 486)].toArray 0)) <|
  hI (hO (.type "dict") (.dict [hE P "__module__" 439 hM3, hE P "__firstlineno__" 443 (.int 112 442), hE P "__init__" 450 (.ref 213), hE P "put_range" 459 (.ref 220), hE P "put_string" 467 (.ref 227), hE P "put_set" 476 (.ref 234), hE P "told" 483 (.ref 241), hE P "__static_attributes__" 487 (.ref 242), hE P "__dict__" 489 (.ref 245), hE P "__weakref__" 491 (.ref 246), hE P "__doc__" 492 .none].toArray 4)) <|
  hI (⟨(.type "type"), none, (.cls { name := Str.ofString "SetSoFar", bases := [(.type "object")], mro := [(.ref 244), (.type "object")], ns := 243, qualname := Str.ofString "SetSoFar", hasDict := true, slotNames := [], subclasses := [], abstract := false, collection := none, hasDel := false }), [none, none, (some (hS "SetSoFar" 432)), (some (hS "SetSoFar" 440)), (some (.builtin "object.__new__")), (some (.bool true))].toArray⟩) <|
  hI (hO (.type "getset_descriptor") (.fields [(hS "__dict__" 488), (.ref 244), (.builtin "function.__dict__"), (.builtin "function.__dict__#set")].toArray)) <|
  hI (hO (.type "getset_descriptor") (.fields [(hS "__weakref__" 490), (.ref 244), (.builtin "ExceptionGroup.__weakref__"), .none].toArray)) <|
  hI (hO (.type "super") (.fields [(.ref 244), (.ref 244), (.ref 244)].toArray)) <|
  hI (hO (.type "builtin_function_or_method") (.fields [(.builtin "object.__init_subclass__"), (.ref 244)].toArray)) <|
  []
noncomputable def hSt (t : BT) (n k : Nat) (os : OsState) : SharedT := ⟨t, n, {}, Array.mk [], boot_drawn, k, os⟩
noncomputable def hEnv : Env := { scope := pw.main.scope, locals := mainNs, globals := mainNs, cells := [], code := .ref 13, frame := some 14 }
noncomputable def hL1 : List Stmt := (behindTheImports pw).take 9
noncomputable def hL2 : List Stmt := ((behindTheImports pw).drop 9).take 5
noncomputable def hL3 : List Stmt := ((behindTheImports pw).drop 9).drop 5
noncomputable def hB : List Stmt := hL1 ++ (hL2 ++ (hL3 ++ []))
noncomputable def hC : Code := .body hB hEnv
noncomputable def hP (a b c d : Nat) : Pos := ⟨a, b, c, d⟩
noncomputable def hN : Option Value := some (.ref 6)
noncomputable abbrev hQ : List Frame := [topFrame (hP 0 0 0 0)]
theorem hpre : ∀ w : World, (fun os => topGo treeTable pw w 11 hN 12 ⟨boot_heap w.params, Array.mk [], boot_drawn, boot_toks, os⟩ (topStub pw)) = fun os => some ((hSt (tA w.params) 15 187 os).abs, ⟨denote treeTable hC, hC, hP 0 0 0 0, hQ⟩) := by
  intro w
  kernel_rfl
theorem hblk : ∀ (w : World) (s : Shared), segRun treeTable pw w 11 hN 1 1 s (blockOf hB hEnv hC (hP 0 0 0 0) hQ) = some (.next, s, hC, hP 0 0 0 0) := by
  intro w s
  kernel_rfl
theorem hfin : ∀ (w : World) (s : Shared), topRun treeTable pw w 11 hN 3 s ⟨doneF .next, hC, hP 197 0 218 124, hQ⟩ = some s := by
  intro w s
  cases s
  kernel_rfl
theorem run1 : ∀ w : World, (fun os => segRunT treeTable pw w 11 hN 1 905 (hSt (tA w.params) 15 187 os) (piecesOf hL1 hEnv hC (hP 0 0 0 0) hQ)) = fun os => some (.next, hSt (t8 w.params) 155 371 os, hC, hP 50 0 87 16) := by
  intro w
  kernel_rfl
theorem run2 : ∀ w : World, (fun os => segRunT treeTable pw w 11 hN 1 702 (hSt (t8 w.params) 155 371 os) (piecesOf hL2 hEnv hC (hP 50 0 87 16) hQ)) = fun os => some (.next, hSt (t13 w.params) 249 495 os, hC, hP 112 0 138 95) := by
  intro w
  kernel_rfl
theorem run3 : ∀ w : World, (fun os => (segRunT treeTable pw w 11 hN 1 415 (hSt (t13 w.params) 249 495 os) (piecesOf hL3 hEnv hC (hP 112 0 138 95) hQ)).map fun r => (r.1, r.2.2.1, r.2.2.2, looksO pw qv looseN (fun _ => true) obs true (boot_heap w.params) r.2.1.abs)) = fun _ => some (.next, hC, hP 197 0 218 124, true, openGood qv looseN, obsGood) := by
  intro w
  kernel_rfl
theorem headRun (w : World) (os : OsState) : ∃ s, topRun treeTable pw w 11 hN 2038 ⟨boot_heap w.params, Array.mk [], boot_drawn, boot_toks, os⟩ (topStub pw) = some s ∧ looksO pw qv looseN (fun _ => true) obs true (boot_heap w.params) s = (true, openGood qv looseN, obsGood) :=
  three (l1 := hL1) (l2 := hL2) (l3 := hL3) (env := hEnv) (c := hC) (n1 := 905) (n2 := 702) (n3 := 415) (f := looksO pw qv looseN (fun _ => true) obs true (boot_heap w.params)) (y := (true, openGood qv looseN, obsGood)) (congrFun (hpre w) os) (hblk w) (congrFun (run1 w) os) (congrFun (run2 w) os) (congrFun (run3 w) os) (hfin w)
theorem headLeft : LeftO pw qv looseN (fun _ => true) obs (fun _ => obsGood) 2038 := left_of_run (boot_open bp1 (by decide) bp2) size_pw headRun
end Mine

set_option maxRecDepth 100000
open PySem PySem.W PySem.Calls PyProof.Rows PySem.Spec
namespace Mine
noncomputable abbrev lw : OpenLaw := PySem.Challenge.rw_on0363_01
theorem sd1 : namesResolve lw.row.prog = true := by kernel_rfl
theorem sd2 : (lw.row.prog.boundNames.all fun n => !worldNames.contains n) = true := by kernel_rfl
theorem sd3 : noRoadLSs { strict := !(importedModules lw.row.prog.main.body).all cThrough.contains, foot := none, bare := List.filter (readsOut lw.row.prog lw.row.prog.main.body) [Str.ofString "vars", Str.ofString "dir", Str.ofString "locals"] } lw.row.prog.main.body = true := by kernel_rfl
theorem sd4 : (namesMeet lw.row.prog lw.row.prog.main.body fun _ n => attrL n) = true := by kernel_rfl
theorem sd5 : lw.footing.all footLine = true := by kernel_rfl
theorem sd6 : noRoadLSs { strict := true, foot := some lw.bound', writes := lw.writes, may := lw.may } lw.footing = true := by kernel_rfl
theorem sd7 : (lw.bound'.all fun n => !builtinNamed n || lw.about == [n] || !lw.reads n) = true := by kernel_rfl
theorem sd8 : (namesMeet lw.prog lw.footing fun sc n => (!(["type", "isinstance", "issubclass", "getattr", "hasattr"] : List Str).contains n || List.lookup n sc.names == some NameKind.globalImplicit) && (lw.may != some n || sc.kind == ScopeKind.module || List.lookup n sc.names == some NameKind.globalImplicit)) = true := by kernel_rfl
theorem sd9 : (namesMeet lw.prog lw.above fun _ n => !lw.own.contains n) = true := by kernel_rfl
theorem sd10 : (namesMeet lw.prog lw.footing fun sc n => sc.kind == ScopeKind.module || List.lookup n sc.names != some NameKind.globalExplicit) = true := by kernel_rfl
theorem sd11 : (lw.own.all fun n => !builtinNamed n) = true := by kernel_rfl
theorem sd12 : (lw.own.eraseDups.length == lw.own.length) = true := by kernel_rfl
theorem sd13 : looksOpen lw.row.prog = true := by
  unfold looksOpen
  exact look_both (look_both (look_both (look_both (look_both (by kernel_rfl) (by kernel_rfl)) sd1) sd2) sd3) sd4
set_option maxHeartbeats 4000000 in
theorem said : PySem.Challenge.rw_on0363_01.wellSaid = true := by
  show lw.wellSaid = true
  unfold OpenLaw.wellSaid
  repeat' (with_reducible refine look_both ?_ ?_)
  · show OpenRow.wellSaid _ = true
    unfold OpenRow.wellSaid OpenRow.partSaid
    repeat' (with_reducible refine look_both ?_ ?_)
    all_goals with_reducible first | exact sd13 | kernel_rfl
  all_goals with_reducible first | exact sd5 | exact sd6 | exact sd7 | exact sd8 | exact sd9 | exact sd10 | exact sd11 | exact sd12 | kernel_rfl
end Mine
set_option maxRecDepth 100000 in
set_option maxHeartbeats 8000000 in
theorem PySem.Challenge.cw_on0363_01_holds : PySem.Challenge.rw_on0363_01.Holds := by
  refine holds_law Mine.said fun said => holds_open (q := Mine.qv) (loose := Mine.looseN) (Xt := fun _ => true) (XP := fun _ _ => True) (Yf := Mine.obs) (Ya := fun _ => Mine.obsGood) (YP := Mine.Left) (N := 2038) Mine.headLeft (fun w s e => ⟨s.heap, Mine.seen_of e, fun _ _ h => h⟩) (fun w h h' Y k => ?hk) (fun _ _ => trivial) (fun _ _ _ _ _ => trivial) (by rfl) (by rfl) (by rfl) (fun s _ => recFacts_of (R := []) rfl) (by rfl) said (by decide +kernel) ⟨rfl, rfl, rfl, rfl, rfl, by decide +kernel⟩ ?hw ?hc
  case hk =>
    obtain ⟨h₀, S, st⟩ := Y
    exact ⟨h₀, S, fun b o e => k b o (st b o e)⟩
  case hw => w_witness2
  case hc => exact Mine.law_walk (by rfl)
