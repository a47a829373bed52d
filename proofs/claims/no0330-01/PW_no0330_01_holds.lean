import PyProof.Rows.All
import Wide.All
import OpenK.AllK
import Wide.FinOn
import PyProof.ExcInit
import PyProof.ExcBaseAll.Exception
import PyProof.InstStoreFacts
import KE.KTryMore
import KE.KSortTup
import KE.KSuper
import Lean
import PySem.Challenge.RW_no0330_01
set_option Elab.async false
set_option linter.all false
set_option tactic.hygienic false
set_option compiler.extract_closed false
set_option genSizeOf false
set_option genSizeOfSpec false
set_option backward.eqns.nonrecursive false
set_option backward.eqns.deepRecursiveSplit false
set_option genInjectivity false
set_option bootstrap.genMatcherCode false
section
open PySem PySem.W PyProof.Rows
namespace Tl

inductive X2 {α β : Type} (q : α → β → Prop) : Prop
  | mk (a : α) (b : β) (h : q a b) : X2 q
inductive X3 {α β γ : Type} (q : α → β → γ → Prop) : Prop
  | mk (a : α) (b : β) (c : γ) (h : q a b c) : X3 q
inductive X4 {α β γ δ : Type} (q : α → β → γ → δ → Prop) : Prop
  | mk (a : α) (b : β) (c : γ) (d : δ) (h : q a b c d) : X4 q
inductive X5 {α β γ δ ε : Type} (q : α → β → γ → δ → ε → Prop) : Prop
  | mk (a : α) (b : β) (c : γ) (d : δ) (e : ε) (h : q a b c d e) : X5 q
inductive X6 {α β γ δ ε ζ : Type} (q : α → β → γ → δ → ε → ζ → Prop) : Prop
  | mk (a : α) (b : β) (c : γ) (d : δ) (e : ε) (f : ζ) (h : q a b c d e f) : X6 q
structure A3 (a b c : Prop) : Prop where
  h1 : a
  h2 : b
  h3 : c
structure A4 (a b c d : Prop) : Prop where
  h1 : a
  h2 : b
  h3 : c
  h4 : d
structure A5 (a b c d e : Prop) : Prop where
  h1 : a
  h2 : b
  h3 : c
  h4 : d
  h5 : e
inductive A6 (a b c d e f : Prop) : Prop
  | mk (h1 : a) (h2 : b) (h3 : c) (h4 : d) (h5 : e) (h6 : f) : A6 a b c d e f
structure A7 (a b c d e f g : Prop) : Prop where
  h1 : a
  h2 : b
  h3 : c
  h4 : d
  h5 : e
  h6 : f
  h7 : g
inductive A8 (a b c d e f g h : Prop) : Prop
  | mk (h1 : a) (h2 : b) (h3 : c) (h4 : d) (h5 : e) (h6 : f) (h7 : g) (h8 : h) : A8 a b c d e f g h
inductive A9 (a b c d e f g h i : Prop) : Prop
  | mk (h1 : a) (h2 : b) (h3 : c) (h4 : d) (h5 : e) (h6 : f) (h7 : g) (h8 : h) (h9 : i) : A9 a b c d e f g h i

inductive V where
  | none
  | bool (b : Bool)
  | int (i : Int)
  | str (s : Str)
  | tup (l : List V)
  | lst (l : List V)
  | rng (a b : Int)
  | ref (a : Addr)

inductive O where
  | list (l : List V)
  | di (l : List (Int × V))
  | ds (l : List (Str × V))
  | inst (C dx : Addr)
  | attrs (l : List (Str × V))
  | set (n : Nat)

noncomputable abbrev P := Addr → Option O
noncomputable abbrev FS := Addr → Prop
noncomputable abbrev Fm := List (Str × V)

structure Cfg where
  prog : Program
  w : World
  base : Heap
  K : Frag
  p : Program
  loose : List Str
  mean : ExcName → Option Value
  mg : Str → Option Value
  mb : Str → Option Value
  X : K.In base
  T : Top p loose mean mg mb base
  exc : Addr

noncomputable def Free (F : FS) (p : P) (a : Addr) : Prop := ¬ F a ∧ p a = none
noncomputable abbrev tupO (vs : List Value) (n : Nat) : Obj := { cls := .type "tuple", data := .seq vs.toArray n }

mutual
inductive VR (h : Heap) (F : FS) (p : P) : Value → V → Prop
  | none : VR h F p .none .none
  | bool (b : Bool) : VR h F p (.bool b) (.bool b)
  | int (i : Int) (t : Tok) : VR h F p (.int i t) (.int i)
  | str (s : Str) (t : Tok) : VR h F p (.str s t) (.str s)
  | tup {a : Addr} {vs : List Value} {n : Nat} {l : List V} : h.get? a = some (tupO vs n) → Free F p a → VRL h F p vs l → VR h F p (.ref a) (.tup l)
  | lst {a : Addr} {vs : List Value} {n : Nat} {l : List V} : h.get? a = some (listOf vs.toArray n) → Free F p a → VRL h F p vs l → VR h F p (.ref a) (.lst l)
  | rng {r : Addr} {a b : Int} {t u v : Tok} : IsRange h r a b 1 t u v → Free F p r → VR h F p (.ref r) (.rng a b)
  | ref (a : Addr) : VR h F p (.ref a) (.ref a)
inductive VRL (h : Heap) (F : FS) (p : P) : List Value → List V → Prop
  | nil : VRL h F p [] []
  | cons {v : Value} {vs : List Value} {d : V} {ds : List V} : VR h F p v d → VRL h F p vs ds → VRL h F p (v :: vs) (d :: ds)
end
inductive VRF (h : Heap) (F : FS) (p : P) : List DictEntry → List (Str × V) → Prop
  | nil : VRF h F p [] []
  | cons {e : DictEntry} {es : List DictEntry} {x : Str} {t : Tok} {d : V} {ds : List (Str × V)} : e.key = .str x t → VR h F p e.val d → VRF h F p es ds → VRF h F p (e :: es) ((x, d) :: ds)

inductive KV {κ : Type} (h : Heap) (F : FS) (p : P) : List (κ × Value) → List (κ × V) → Prop
  | nil : KV h F p [] []
  | cons {k : κ} {v : Value} {d : V} {vs : List (κ × Value)} {ds : List (κ × V)} : VR h F p v d → KV h F p vs ds → KV h F p ((k, v) :: vs) ((k, d) :: ds)

noncomputable abbrev ND (o : Obj) : Prop := ∀ es n, o.data ≠ .dict es n
noncomputable def Kept (h' : Heap) (b : Addr) (o : Obj) : Prop := ∃ sl, h'.get? b = some { o with slots := sl } ∧ ((∀ es n, o.data ≠ .dict es n) → sl = o.slots)
theorem Kept.of {h' : Heap} {b : Addr} {o : Obj} (e : h'.get? b = some o) : Kept h' b o := ⟨o.slots, e, fun ζ => rfl⟩
theorem Kept.trans {h' h'' : Heap} {b : Addr} {o : Obj} (k : Kept h' b o) (g : ∀ sl, h'.get? b = some { o with slots := sl } → Kept h'' b { o with slots := sl }) : Kept h'' b o := by
  obtain ⟨sl, e, hs⟩ := k
  obtain ⟨sl', e', hs'⟩ := g sl e
  exact ⟨sl', e', fun nd => (hs' nd).trans (hs nd)⟩
theorem Kept.get {h' : Heap} {b : Addr} {o : Obj} (k : Kept h' b o) (nd : ND o) : h'.get? b = some o := by
  obtain ⟨sl, e, hs⟩ := k
  rw [hs nd] at e; exact e
noncomputable def Step (ex : FS) (p : P) (h : Heap) (p' : P) (h' : Heap) : Prop := ∀ b o, h.get? b = some o → p b = none → ¬ ex b → Kept h' b o ∧ p' b = none
theorem Step.ex {ex : FS} {p p' : P} {h h' : Heap} (S : ∀ b o, h.get? b = some o → p b = none → ¬ ex b → h'.get? b = some o ∧ p' b = none) : Step ex p h p' h' := fun b o e q n => ⟨.of (S b o e q n).1, (S b o e q n).2⟩
noncomputable abbrev NO : FS := fun ζ => False
theorem Step.refl {ex : FS} {p : P} {h : Heap} : Step ex p h p h := fun ζ ζ e q ζ => ⟨.of e, q⟩
theorem Step.trans {ex : FS} {p p' p'' : P} {h h' h'' : Heap} (a : Step ex p h p' h') (b : Step ex p' h' p'' h'') : Step ex p h p'' h'' := fun x o e q n => by
  obtain ⟨⟨sl, e1, h1⟩, q1⟩ := a x o e q n
  obtain ⟨⟨sl', e2, h2⟩, q2⟩ := b x _ e1 q1 n
  exact ⟨⟨sl', e2, fun nd => (h2 nd).trans (h1 nd)⟩, q2⟩
theorem Step.weak {ex ex' : FS} {p p' : P} {h h' : Heap} (a : Step ex p h p' h') (w : ∀ b, ex b → ex' b) : Step ex' p h p' h' := fun x o e q n => a x o e q fun z => n (w _ z)
theorem Step.of {ex : FS} {p p' : P} {h h' : Heap} (a : Step NO p h p' h') : Step ex p h p' h' := a.weak fun ζ z => z.elim

section
variable {h h' : Heap} {F F' : FS} {p p' : P} {ex : FS}
theorem Free.step (S : Step ex p h p' h') (hx : ∀ b, ex b → F b) {a : Addr} {o : Obj} (e : h.get? a = some o) (f : Free F p a) (nd : ND o) : h'.get? a = some o ∧ Free F p' a := by
  obtain ⟨e1, q1⟩ := S a o e f.2 fun z => f.1 (hx _ z)
  exact ⟨e1.get nd, f.1, q1⟩
theorem nd_seq {o : Obj} {vs : Array Value} {n : Nat} (h : o.data = .seq vs n) : ∀ es m, o.data ≠ .dict es m := fun ζ ζ z => by rw [h] at z; cases z
theorem nd_fields {o : Obj} {vs : Array Value} (h : o.data = .fields vs) : ∀ es m, o.data ≠ .dict es m := fun ζ ζ z => by rw [h] at z; cases z
theorem nd_cell {o : Obj} {v : Option Value} (h : o.data = .cell v) : ∀ es m, o.data ≠ .dict es m := fun ζ ζ z => by rw [h] at z; cases z
section
variable (hf : ∀ a o, h.get? a = some o → ND o → Free F p a → h'.get? a = some o ∧ Free F' p' a)
include hf
theorem VR.mapx {v : Value} {d : V} (r : VR h F p v d) : VR h' F' p' v d :=
  VR.rec (motive_1 := fun v d ζ => VR h' F' p' v d) (motive_2 := fun v d ζ => VRL h' F' p' v d) .none .bool .int .str (fun e f ζ r => .tup (hf _ _ e (nd_seq rfl) f).1 (hf _ _ e (nd_seq rfl) f).2 r) (fun e f ζ r => .lst (hf _ _ e (nd_seq rfl) f).1 (hf _ _ e (nd_seq rfl) f).2 r)
    (fun e f => .rng (hf _ _ e (nd_fields rfl) f).1 (hf _ _ e (nd_fields rfl) f).2) .ref .nil (fun ζ ζ a b => .cons a b) r
theorem VRL.mapx {v : List Value} {d : List V} (r : VRL h F p v d) : VRL h' F' p' v d :=
  VRL.rec (motive_1 := fun v d ζ => VR h' F' p' v d) (motive_2 := fun v d ζ => VRL h' F' p' v d) .none .bool .int .str (fun e f ζ r => .tup (hf _ _ e (nd_seq rfl) f).1 (hf _ _ e (nd_seq rfl) f).2 r) (fun e f ζ r => .lst (hf _ _ e (nd_seq rfl) f).1 (hf _ _ e (nd_seq rfl) f).2 r)
    (fun e f => .rng (hf _ _ e (nd_fields rfl) f).1 (hf _ _ e (nd_fields rfl) f).2) .ref .nil (fun ζ ζ a b => .cons a b) r
theorem VRF.mapx {v : List DictEntry} {d : List (Str × V)} (r : VRF h F p v d) : VRF h' F' p' v d :=
  VRF.rec (motive := fun v d ζ => VRF h' F' p' v d) .nil (fun k a ζ r => .cons k (a.mapx hf) r) r
theorem KV.mapx {κ : Type} {v : List (κ × Value)} {d : List (κ × V)} (r : KV h F p v d) : KV h' F' p' v d :=
  KV.rec (motive := fun v d ζ => KV h' F' p' v d) .nil (fun a ζ r => .cons (a.mapx hf) r) r
end
section
variable (S : Step ex p h p' h') (hx : ∀ b, ex b → F b)
include S hx
theorem VR.step {v : Value} {d : V} (r : VR h F p v d) : VR h' F p' v d := r.mapx fun ζ ζ e nd f => Free.step S hx e f nd
theorem VRL.step {v : List Value} {d : List V} (r : VRL h F p v d) : VRL h' F p' v d := r.mapx fun ζ ζ e nd f => Free.step S hx e f nd
theorem VRF.step {v : List DictEntry} {d : List (Str × V)} (r : VRF h F p v d) : VRF h' F p' v d := r.mapx fun ζ ζ e nd f => Free.step S hx e f nd
theorem KV.step {κ : Type} {v : List (κ × Value)} {d : List (κ × V)} (r : KV h F p v d) : KV h' F p' v d := r.mapx fun ζ ζ e nd f => Free.step S hx e f nd
end
section
variable (hf : ∀ a, Free F p a → Free F' p' a)
include hf
theorem VR.weak {v : Value} {d : V} (r : VR h F p v d) : VR h F' p' v d := r.mapx fun a ζ e ζ f => ⟨e, hf a f⟩
theorem VRL.weak {v : List Value} {d : List V} (r : VRL h F p v d) : VRL h F' p' v d := r.mapx fun a ζ e ζ f => ⟨e, hf a f⟩
theorem VRF.weak {v : List DictEntry} {d : List (Str × V)} (r : VRF h F p v d) : VRF h F' p' v d := r.mapx fun a ζ e ζ f => ⟨e, hf a f⟩
theorem KV.weak {κ : Type} {v : List (κ × Value)} {d : List (κ × V)} (r : KV h F p v d) : KV h F' p' v d := r.mapx fun a ζ e ζ f => ⟨e, hf a f⟩
end
section
variable (hk : ∀ b o, h.get? b = some o → h'.get? b = some o) (hf : ∀ a o, h.get? a = some o → F' a → F a)
include hk hf
theorem VR.mark {v : Value} {d : V} (r : VR h F p v d) : VR h' F' p v d := r.mapx fun a o e ζ f => ⟨hk a o e, fun z => f.1 (hf a o e z), f.2⟩
theorem VRL.mark {v : List Value} {d : List V} (r : VRL h F p v d) : VRL h' F' p v d := r.mapx fun a o e ζ f => ⟨hk a o e, fun z => f.1 (hf a o e z), f.2⟩
theorem VRF.mark {v : List DictEntry} {d : List (Str × V)} (r : VRF h F p v d) : VRF h' F' p v d := r.mapx fun a o e ζ f => ⟨hk a o e, fun z => f.1 (hf a o e z), f.2⟩
theorem KV.mark {κ : Type} {v : List (κ × Value)} {d : List (κ × V)} (r : KV h F p v d) : KV h' F' p v d := r.mapx fun a o e ζ f => ⟨hk a o e, fun z => f.1 (hf a o e z), f.2⟩
end
noncomputable def VRi (h : Heap) (F : FS) (p : P) (v : Value) : V → Prop
  | .none => v = .none
  | .bool b => v = .bool b
  | .int i => ∃ t, v = .int i t
  | .str s => ∃ t, v = .str s t
  | .tup l => X3 fun a vs n => A4 (v = .ref a) (h.get? a = some (tupO vs n)) (Free F p a) (VRL h F p vs l)
  | .lst l => X3 fun a vs n => A4 (v = .ref a) (h.get? a = some (listOf (List.toArray vs) n)) (Free F p a) (VRL h F p vs l)
  | .rng i j => X4 fun r t u w => A3 (v = .ref r) (IsRange h r i j 1 t u w) (Free F p r)
  | .ref a => v = .ref a
theorem VR.inv {v : Value} {d : V} (r : VR h F p v d) : VRi h F p v d := by
  cases r with
  | none => exact rfl
  | bool b => exact rfl
  | int i t => exact ⟨t, rfl⟩
  | str s t => exact ⟨t, rfl⟩
  | tup e f r => exact ⟨_, _, _, rfl, e, f, r⟩
  | lst e f r => exact ⟨_, _, _, rfl, e, f, r⟩
  | rng e f => exact ⟨_, _, _, _, rfl, e, f⟩
  | ref a => exact rfl
theorem VRL.length {v : List Value} {d : List V} (H : VRL h F p v d) : v.length = d.length := by
  induction v generalizing d with
  | nil => cases H; rfl
  | cons a r ih => cases H with | cons _ H => simp [ih H]
theorem VRL.append {v w : List Value} {d e : List V} (H : VRL h F p v d) (G : VRL h F p w e) : VRL h F p (v ++ w) (d ++ e) := by
  induction v generalizing d with
  | nil => cases H; exact G
  | cons a r ih => cases H with | cons x H => exact .cons x (ih H)
theorem VRL.one {v : Value} {d : V} (H : VR h F p v d) : VRL h F p [v] [d] := .cons H .nil
theorem VRL.get {v : List Value} {d : List V} (H : VRL h F p v d) {i : Nat} {x : V} (e : d[i]? = some x) : ∃ y, v[i]? = some y ∧ VR h F p y x := by
  induction v generalizing d i with
  | nil => cases H; simp at e
  | cons a r ih =>
    cases H with
    | cons z H =>
      cases i with
      | zero => simp at e; subst e; exact ⟨a, rfl, z⟩
      | succ i => simp at e; obtain ⟨y, e1, e2⟩ := ih H e; exact ⟨y, by simpa using e1, e2⟩
theorem VRL.get' {v : List Value} {d : List V} (H : VRL h F p v d) {i : Nat} {y : Value} (e : v[i]? = some y) : ∃ x, d[i]? = some x ∧ VR h F p y x := by
  induction v generalizing d i with
  | nil => simp at e
  | cons a r ih =>
    cases H with
    | cons z H =>
      cases i with
      | zero => simp at e; subst e; exact ⟨_, rfl, z⟩
      | succ i => simp at e; obtain ⟨y, e1, e2⟩ := ih H e; exact ⟨y, by simpa using e1, e2⟩
theorem VRL.take {v : List Value} {d : List V} (H : VRL h F p v d) (n : Nat) : VRL h F p (v.take n) (d.take n) := by
  induction v generalizing d n with
  | nil => cases H; simpa using .nil
  | cons a r ih =>
    cases H with
    | cons z H => cases n with
      | zero => exact .nil
      | succ n => exact .cons z (ih H n)
theorem VRL.drop {v : List Value} {d : List V} (H : VRL h F p v d) (n : Nat) : VRL h F p (v.drop n) (d.drop n) := by
  induction v generalizing d n with
  | nil => cases H; simpa using .nil
  | cons a r ih =>
    cases H with
    | cons z H => cases n with
      | zero => exact .cons z H
      | succ n => exact ih H n
theorem VRL.set {v : List Value} {d : List V} (H : VRL h F p v d) (i : Nat) {x : Value} {y : V} (e : VR h F p x y) : VRL h F p (v.set i x) (d.set i y) := by
  induction v generalizing d i with
  | nil => cases H; exact .nil
  | cons a r ih =>
    cases H with
    | cons z H => cases i with
      | zero => exact .cons e H
      | succ n => exact .cons z (ih H n)
end

noncomputable def OR (C : Cfg) (h : Heap) (F : FS) (p : P) (c : Obj) : O → Prop
  | .list l => X2 fun vs n => c = listOf (List.toArray vs) n ∧ VRL h F p vs l
  | .di l => ∃ kvs, c.IsDictOf (intKind C.prog C.w) kvs ∧ KV h F p kvs l
  | .ds l => ∃ kvs, c.IsDictOf (strKind C.prog C.w) kvs ∧ KV h F p kvs l
  | .inst K dx => c = instObj K dx
  | .attrs l => X2 fun es n => c = dictOf es n ∧ VRF h F p es l
  | .set n => ∃ S : Int → Bool, c.SetObjOf (intKind C.prog C.w) S n

structure Inv (C : Cfg) (F : FS) (p : P) (h : Heap) : Prop where
  base : ∀ b o, C.base.get? b = some o → h.get? b = some o ∧ Free F p b
  trk : ∀ b o, p b = some o → A3 (¬ F b) ((b == sysModules) = false) (∃ c, h.get? b = some c ∧ OR C h F p c o)
  ex : ∀ a, F a → ∃ o, h.get? a = some o

theorem Inv.keep {C : Cfg} {F : FS} {p : P} {h : Heap} (I : Inv C F p h) : ∀ b o, C.base.get? b = some o → h.get? b = some o := fun b o e => (I.base b o e).1
theorem Inv.ofF {C : Cfg} {F : FS} {p : P} {h : Heap} (I : Inv C F p h) {a : Addr} (f : F a) : p a = none := by
  cases e : p a with
  | none => rfl
  | some o => exact absurd f (I.trk a o e).1
theorem OR.mapx {C : Cfg} {h h' : Heap} {F F' : FS} {p p' : P} (hf : ∀ a o, h.get? a = some o → ND o → Free F p a → h'.get? a = some o ∧ Free F' p' a) {c : Obj} {o : O} (H : OR C h F p c o) : OR C h' F' p' c o := by
  cases o with
  | list l => obtain ⟨vs, n, e, r⟩ := H; exact ⟨vs, n, e, r.mapx hf⟩
  | di l => obtain ⟨vs, n, r⟩ := H; exact ⟨vs, n, r.mapx hf⟩
  | ds l => obtain ⟨vs, n, r⟩ := H; exact ⟨vs, n, r.mapx hf⟩
  | inst K dx => exact H
  | attrs l => obtain ⟨vs, n, e, r⟩ := H; exact ⟨vs, n, e, r.mapx hf⟩
  | set n => exact H
theorem OR.step {C : Cfg} {h h' : Heap} {F : FS} {p p' : P} {ex : FS} (S : Step ex p h p' h') (hx : ∀ b, ex b → F b) {c : Obj} {o : O} (H : OR C h F p c o) : OR C h' F p' c o := H.mapx fun ζ ζ e nd f => Free.step S hx e f nd
theorem OR.weak {C : Cfg} {h : Heap} {F F' : FS} {p p' : P} (hf : ∀ a, Free F p a → Free F' p' a) {c : Obj} {o : O} (H : OR C h F p c o) : OR C h F' p' c o := H.mapx fun a ζ e ζ f => ⟨e, hf a f⟩
theorem OR.mark {C : Cfg} {h h' : Heap} {F F' : FS} {p : P} (hk : ∀ b o, h.get? b = some o → h'.get? b = some o) (hf : ∀ a o, h.get? a = some o → F' a → F a) {c : Obj} {o : O} (H : OR C h F p c o) : OR C h' F' p c o := H.mapx fun a o e ζ f => ⟨hk a o e, fun z => f.1 (hf a o e z), f.2⟩
theorem OR.notFreed {C : Cfg} {h : Heap} {F : FS} {p : P} {c : Obj} {o : O} (H : OR C h F p c o) : c.isFreed = false := by
  cases o with
  | list l => obtain ⟨vs, n, e, r⟩ := H; subst e; rfl
  | di l => obtain ⟨vs, ⟨es, ep, _, e, _⟩, r⟩ := H; exact Obj.isFreed_of_dict e
  | ds l => obtain ⟨vs, ⟨es, ep, _, e, _⟩, r⟩ := H; exact Obj.isFreed_of_dict e
  | inst K dx => cases H; rfl
  | attrs l => obtain ⟨vs, n, e, r⟩ := H; subst e; rfl
  | set n => obtain ⟨S, _, es, ep, t, e, _⟩ := H; obtain ⟨_, _, dt, _⟩ := c; cases e; rfl

theorem Inv.keepsF {C : Cfg} {F : FS} {p : P} {h h' : Heap} (I : Inv C F p h) (k : ∀ b o, h.get? b = some o → ¬ F b → h'.get? b = some o) (kF : ∀ a, F a → ∃ o, h'.get? a = some o) : Inv C F p h' where
  ex := kF
  base := fun b o e => ⟨k b o (I.base b o e).1 (I.base b o e).2.1, (I.base b o e).2⟩
  trk := fun b o e => by
    obtain ⟨f, m, c, hc, r⟩ := I.trk b o e
    refine ⟨f, m, c, k b c hc f, ?_⟩
    exact r.step (ex := F) (fun x o' e' q n => ⟨.of (k x o' e' n), q⟩) fun ζ z => z

theorem Inv.keeps {C : Cfg} {F : FS} {p : P} {h h' : Heap} (I : Inv C F p h) (k : ∀ b o, h.get? b = some o → h'.get? b = some o) : Inv C F p h' :=
  I.keepsF (fun b o e ζ => k b o e) fun a f => let ⟨o, e⟩ := I.ex a f; ⟨o, k a o e⟩
theorem Inv.mark {C : Cfg} {F F' : FS} {p : P} {h h' : Heap} (I : Inv C F p h) (hk : ∀ b o, h.get? b = some o → h'.get? b = some o) (hf : ∀ a o, h.get? a = some o → F' a → F a) (hx : ∀ a, F' a → ∃ o, h'.get? a = some o) : Inv C F' p h' where
  base := fun b o e => ⟨hk b o (I.base b o e).1, fun z => (I.base b o e).2.1 (hf b o (I.base b o e).1 z), (I.base b o e).2.2⟩
  trk := fun b o e => let ⟨f, m, c, hc, r⟩ := I.trk b o e; ⟨fun z => f (hf b c hc z), m, c, hk b c hc, r.mark hk hf⟩
  ex := hx
theorem Inv.unmark {C : Cfg} {F F' : FS} {p : P} {h : Heap} (I : Inv C F' p h) (hf : ∀ a, F a → F' a) : Inv C F p h where
  base := fun b o e => ⟨(I.base b o e).1, fun z => (I.base b o e).2.1 (hf _ z), (I.base b o e).2.2⟩
  trk := fun b o e => let ⟨f, m, c, hc, r⟩ := I.trk b o e; ⟨fun z => f (hf _ z), m, c, hc, r.weak fun a z => ⟨fun y => z.1 (hf _ y), z.2⟩⟩
  ex := fun a z => I.ex a (hf _ z)
theorem Inv.notF {C : Cfg} {F : FS} {p : P} {h : Heap} (I : Inv C F p h) : ¬ F h.objs.size := fun f => let ⟨_, e⟩ := I.ex _ f; absurd (Heap.lt_size e) (Nat.lt_irrefl _)
noncomputable def put (p : P) (a : Addr) (o : O) : P := fun b => if b = a then some o else p b
theorem put_self (p : P) (a : Addr) (o : O) : put p a o a = some o := by simp [put]
theorem put_ne (p : P) {a b : Addr} (o : O) (n : b ≠ a) : put p a o b = p b := by simp [put, n]

theorem nolimit {C : Cfg} {F : FS} {p : P} {h : Heap} (I : Inv C F p h) : h.NoLimit := C.T.nolimit.keeps I.keep

theorem Inv.alloc {C : Cfg} {F : FS} {p : P} {h : Heap} (I : Inv C F p h) {c : Obj} {o : O} (H : OR C (h.push c) F (put p h.objs.size o) c o) : Inv C F (put p h.objs.size o) (h.push c) ∧ Step NO p h (put p h.objs.size o) (h.push c) := by
  have hlt : ∀ b x, h.get? b = some x → b ≠ h.objs.size := fun b x e => Nat.ne_of_lt (Heap.lt_size e)
  have S : Step NO p h (put p h.objs.size o) (h.push c) := fun b x e q ζ => ⟨.of (Heap.get?_push_of_some _ e), by rw [put_ne _ _ (hlt b x e)]; exact q⟩
  refine ⟨⟨fun b x e => ?_, fun b x e => ?_, fun a f => let ⟨x, e⟩ := I.ex a f; ⟨x, Heap.get?_push_of_some _ e⟩⟩, S⟩
  · obtain ⟨e1, f1, q1⟩ := I.base b x e
    exact ⟨Heap.get?_push_of_some _ e1, f1, by rw [put_ne _ _ (hlt b x e1)]; exact q1⟩
  · by_cases hb : b = h.objs.size
    · subst hb
      rw [put_self] at e; cases e
      exact ⟨I.notF, beq_eq_false_iff_ne.mpr (Nat.ne_of_gt (modules_low (nolimit I))), c, Heap.get?_push_size _ H.notFreed, H⟩
    · rw [put_ne _ _ hb] at e
      obtain ⟨f, m, c', e1, r⟩ := I.trk b x e
      exact ⟨f, m, c', Heap.get?_push_of_some _ e1, r.step S fun ζ z => z.elim⟩
theorem Inv.alloc0 {C : Cfg} {F : FS} {p : P} {h : Heap} (I : Inv C F p h) (c : Obj) : Inv C F p (h.push c) ∧ Step NO p h p (h.push c) :=
  ⟨I.keeps fun ζ ζ e => Heap.get?_push_of_some _ e, fun ζ ζ e q ζ => ⟨.of (Heap.get?_push_of_some _ e), q⟩⟩
theorem Inv.fresh {C : Cfg} {F : FS} {p : P} {h : Heap} (I : Inv C F p h) : p h.objs.size = none := by
  cases e : p h.objs.size with
  | none => rfl
  | some o =>
    obtain ⟨_, _, c, hc, _⟩ := I.trk _ _ e
    exact absurd (Heap.lt_size hc) (Nat.lt_irrefl _)

theorem Inv.upd {C : Cfg} {F : FS} {p : P} {h h' : Heap} {a : Addr} {c' : Obj} {o o' : O} (I : Inv C F p h) (ha : p a = some o) (hs : ∀ b x, b ≠ a → h.get? b = some x → h'.get? b = some x) (hc : h'.get? a = some c')
    (H : OR C h F p c' o') : Inv C F (put p a o') h' ∧ Step NO p h (put p a o') h' := by
  have S : Step NO p h (put p a o') h' := fun b x e q ζ => by
    have n : b ≠ a := fun z => by rw [z, ha] at q; cases q
    exact ⟨.of (hs b x n e), by rw [put_ne _ _ n]; exact q⟩
  refine ⟨⟨fun b x e => ?_, fun b x e => ?_, fun z f => let ⟨x, e⟩ := I.ex z f; ⟨x, hs z x (fun q => by rw [q] at f; exact (I.trk _ _ ha).1 f) e⟩⟩, S⟩
  · obtain ⟨e1, f1, q1⟩ := I.base b x e
    have n : b ≠ a := fun z => by rw [z, ha] at q1; cases q1
    exact ⟨hs b x n e1, f1, by rw [put_ne _ _ n]; exact q1⟩
  · by_cases hb : b = a
    · subst hb
      rw [put_self] at e; cases e
      exact ⟨(I.trk _ _ ha).1, (I.trk _ _ ha).2, c', hc, H.step S fun ζ z => z.elim⟩
    · rw [put_ne _ _ hb] at e
      obtain ⟨f, m, c, e1, r⟩ := I.trk b x e
      exact ⟨f, m, c, hs b c hb e1, r.step S fun ζ z => z.elim⟩

noncomputable def Same (s s' : Shared) : Prop := s' = { s with heap := s'.heap, toks := s'.toks }
theorem Same.refl (s : Shared) : Same s s := rfl
theorem Same.mk (s : Shared) (h : Heap) (t : Nat) : Same s { s with heap := h, toks := t } := rfl
theorem Same.trans {a b c : Shared} (x : Same a b) (y : Same b c) : Same a c := by
  unfold Same at *; rw [y, x]

structure FrOk (F : FS) (h : Heap) (e : Env) : Prop where
  kind : e.scope.kind = .function
  at_ : X4 fun L o es n => A4 (e.frame = some L) (F L) (h.get? L = some o) (o.data = .dict es n)

structure Room (k : Nat) (A : Around) (F : FS) (h : Heap) : Prop where
  handled : A.handled = none
  depth : A.depth + 2 * k < recursionLimit
  units : A.units + 100 * k + 300 < cLine
  frames : ∃ l, A.frames = some l ∧ ∀ e ∈ l, FrOk F h e

theorem Room.step {k : Nat} {A : Around} {F : FS} {p p' : P} {h h' : Heap} (R : Room k A F h) (hp : ∀ a, F a → p a = none) (S : Step NO p h p' h') : Room k A F h' :=
  ⟨R.handled, R.depth, R.units, let ⟨l, e, f⟩ := R.frames; ⟨l, e, fun x hx => ⟨(f x hx).kind, let ⟨L, o, es, n, a, b, c, d⟩ := (f x hx).at_; let ⟨sl, c', _⟩ := (S L o c (hp _ b) id).1; ⟨L, { o with slots := sl }, es, n, a, b, c', d⟩⟩⟩⟩
theorem Room.less {k k' : Nat} {A : Around} {F : FS} {h : Heap} (R : Room k A F h) (hk : k' ≤ k) : Room k' A F h :=
  ⟨R.handled, by have := R.depth; lia -matchEqs, by have := R.units; lia -matchEqs, R.frames⟩
theorem Room.in1 {k : Nat} {A : Around} {F : FS} {h : Heap} (R : Room (k + 1) A F h) : Room k A.in1 F h :=
  ⟨R.handled, by have := R.depth; simp; lia -matchEqs, by have := R.units; simp; lia -matchEqs, R.frames⟩

structure FrR (C : Cfg) (env : Env) (F : FS) (fr : Fm) (p : P) (h : Heap) : Prop where
  kind : env.scope.kind = .function
  glob : env.globals = mainGlobals
  blt : env.builtins = builtinsNs
  ownL : F env.locals
  ownC : ∀ x c, env.cells.lookup x = some c → F c ∧ c ≠ env.locals
  inj : ∀ x y c, env.cells.lookup x = some c → env.cells.lookup y = some c → x = y
  cells : ∀ x, env.kindOf x = some .cell → X3 fun c o ov => A3 (env.cells.lookup x = some c) (h.get? c = some o) (o.data = .cell ov)
  ns : ∃ m, h.Ns env.locals m ∧ ∀ x v, fr.lookup x = some v → env.kindOf x = some .local → ∃ v', m x = some v' ∧ VR h F p v' v
  cv : ∀ x v, fr.lookup x = some v → env.kindOf x = some .cell → X3 fun c o v' => A4 (env.cells.lookup x = some c) (h.get? c = some o) (o.data = .cell (some v')) (VR h F p v' v)

theorem FrR.step {C : Cfg} {env : Env} {F : FS} {fr : Fm} {p p' : P} {h h' : Heap} (R : FrR C env F fr p h) (hp : ∀ a, F a → p a = none) (S : Step NO p h p' h') : FrR C env F fr p' h' where
  kind := R.kind
  glob := R.glob
  blt := R.blt
  ownL := R.ownL
  ownC := R.ownC
  inj := R.inj
  cells := fun x e => let ⟨c, o, ov, a, b, d⟩ := R.cells x e; ⟨c, o, ov, a, (S c o b (hp _ (R.ownC x c a).1) id).1.get (nd_cell d), d⟩
  ns := let ⟨m, ⟨o, es, ep, ho, r⟩, g⟩ := R.ns; let ⟨sl, ho', _⟩ := (S _ _ ho (hp _ R.ownL) id).1; ⟨m, ⟨{ o with slots := sl }, es, ep, ho', r⟩, fun x v e q => let ⟨v', a, b⟩ := g x v e q; ⟨v', a, b.step S fun ζ z => z.elim⟩⟩
  cv := fun x v e q => let ⟨c, o, v', a, b, d, r⟩ := R.cv x v e q; ⟨c, o, v', a, (S c o b (hp _ (R.ownC x c a).1) id).1.get (nd_cell d), d, r.step S fun ζ z => z.elim⟩

theorem FrR.mark {C : Cfg} {env : Env} {F F' : FS} {fr : Fm} {p : P} {h h' : Heap} (R : FrR C env F fr p h) (hk : ∀ b o, h.get? b = some o → h'.get? b = some o) (hf : ∀ a o, h.get? a = some o → F' a → F a) (hs : ∀ a, F a → F' a) : FrR C env F' fr p h' where
  kind := R.kind
  glob := R.glob
  blt := R.blt
  ownL := hs _ R.ownL
  ownC := fun x c e => ⟨hs _ (R.ownC x c e).1, (R.ownC x c e).2⟩
  inj := R.inj
  cells := fun x e => let ⟨c, o, ov, a, b, d⟩ := R.cells x e; ⟨c, o, ov, a, hk _ _ b, d⟩
  ns := let ⟨m, ⟨o, es, ep, ho, r⟩, g⟩ := R.ns; ⟨m, ⟨o, es, ep, hk _ _ ho, r⟩, fun x v e q => let ⟨v', a, b⟩ := g x v e q; ⟨v', a, b.mark hk hf⟩⟩
  cv := fun x v e q => let ⟨c, o, v', a, b, d, r⟩ := R.cv x v e q; ⟨c, o, v', a, hk _ _ b, d, r.mark hk hf⟩
theorem FrR.unmark {C : Cfg} {env : Env} {F F' : FS} {fr : Fm} {p : P} {h : Heap} (R : FrR C env F' fr p h) (hs : ∀ a, F a → F' a) (hL : F env.locals) (hC : ∀ x c, env.cells.lookup x = some c → F c) : FrR C env F fr p h where
  kind := R.kind
  glob := R.glob
  blt := R.blt
  ownL := hL
  ownC := fun x c e => ⟨hC x c e, (R.ownC x c e).2⟩
  inj := R.inj
  cells := R.cells
  ns := let ⟨m, ⟨o, es, ep, ho, r⟩, g⟩ := R.ns; ⟨m, ⟨o, es, ep, ho, r⟩, fun x v e q => let ⟨v', a, b⟩ := g x v e q; ⟨v', a, b.weak fun a z => ⟨fun y => z.1 (hs _ y), z.2⟩⟩⟩
  cv := fun x v e q => let ⟨c, o, v', a, b, d, r⟩ := R.cv x v e q; ⟨c, o, v', a, b, d, r.weak fun a z => ⟨fun y => z.1 (hs _ y), z.2⟩⟩
theorem Room.mark {k : Nat} {A : Around} {F F' : FS} {h h' : Heap} (R : Room k A F h) (hk : ∀ b o, h.get? b = some o → h'.get? b = some o) (hs : ∀ a, F a → F' a) : Room k A F' h' :=
  ⟨R.handled, R.depth, R.units, let ⟨l, e, f⟩ := R.frames; ⟨l, e, fun x hx => ⟨(f x hx).kind, let ⟨L, o, es, n, a, b, c, d⟩ := (f x hx).at_; ⟨L, o, es, n, a, hs _ b, hk _ _ c, d⟩⟩⟩⟩

noncomputable abbrev X0 : P → Prop := fun ζ => False

inductive PostG {α β : Type} (R : Heap → FS → P → α → β → Prop) (C : Cfg) (F : FS) (p : P) (s : Shared) (Q : β → P → Prop) (v' : α) (s' : Shared) : Prop
  | mk (v : β) (p' : P) (q : Q v p') (I : Inv C F p' s'.heap) (S : Step NO p s.heap p' s'.heap) (r : R s'.heap F p' v' v) (m : Same s s') : PostG R C F p s Q v' s'
noncomputable abbrev Post := @PostG Value V VR
noncomputable abbrev PostL := @PostG (List Value) (List V) VRL
noncomputable abbrev BR : Heap → FS → P → Bool → Bool → Prop := fun ζ ζ ζ a b => a = b
noncomputable abbrev PostB := @PostG Bool Bool BR
noncomputable abbrev UR : Heap → FS → P → Unit → Unit → Prop := fun ζ ζ ζ ζ ζ => True
noncomputable abbrev PostU := @PostG Unit Unit UR
noncomputable def Flies (C : Cfg) (h : Heap) (e T : Addr) : Prop := X3 fun oe vs a0 => A5 (h.get? e = some oe) (oe.cls = .ref C.exc) (oe.data = .fields vs) (vs[0]? = some a0) ((vs[1]? = some .none ∧ T = e) ∨ (A3 (vs[1]? = some (.ref T)) (T ≠ e) (X2 fun oT ts => A3 (h.get? T = some oT) (oT.data = .fields ts) (ts[3]? = some .none))))
noncomputable def Live (ex : FS) (h : Heap) : Prop := ∀ b, ex b → ∃ o, h.get? b = some o ∧ ∀ vs, o.data ≠ .fields vs
noncomputable def Frsh (ex F : FS) (p : P) (h : Heap) (e T : Addr) : Prop := ∀ b o, h.get? b = some o → p b = none → ¬ F b → ¬ ex b → b ≠ e ∧ b ≠ T
inductive PostX (C : Cfg) (ex F : FS) (p : P) (s : Shared) (X : P → Prop) (e' : Value) (s' : Shared) : Prop
  | mk (p' : P) (e T : Addr) (he : e' = .ref e) (q : X p') (I : Inv C (fun a => F a ∨ a = e ∨ a = T) p' s'.heap) (S : Step ex p s.heap p' s'.heap) (l : Live ex s'.heap) (f : Frsh ex F p s.heap e T) (n1 : ¬ F e) (n2 : ¬ F T) (fl : Flies C s'.heap e T) (m : Same s s') : PostX C ex F p s X e' s'

noncomputable def TE (C : Cfg) (k : Nat) (sc : Scope) (fr : Fm) (p : P) (e : Expr) (Q : V → P → Prop) (X : P → Prop) : Prop :=
  ∀ env A F s, env.scope = sc → Room k A F s.heap → Inv C F p s.heap → FrR C env F fr p s.heap →
    wpAny (model C.prog C.w) A (eval e env) (Post C F p s Q) (PostX C NO F p s X) s

theorem PostG.trans {α β : Type} {R : Heap → FS → P → α → β → Prop} {C : Cfg} {F : FS} {p p₁ : P} {s s₁ : Shared} {Q : β → P → Prop} {v' : α} {s' : Shared} (S : Step NO p s.heap p₁ s₁.heap) (e : Same s s₁) (h : PostG R C F p₁ s₁ Q v' s') : PostG R C F p s Q v' s' := by
  obtain ⟨v, p', q, i, st, vr, sm⟩ := h
  exact ⟨v, p', q, i, S.trans st, vr, e.trans sm⟩
theorem PostG.imp {α β : Type} {R : Heap → FS → P → α → β → Prop} {C : Cfg} {F : FS} {p : P} {s : Shared} {Q Q' : β → P → Prop} {v' : α} {s' : Shared} (h : PostG R C F p s Q v' s') (g : ∀ v p, Q v p → Q' v p) : PostG R C F p s Q' v' s' := by
  obtain ⟨v, p', q, i, st, vr, sm⟩ := h
  exact ⟨v, p', g _ _ q, i, st, vr, sm⟩
theorem PostX.trans {C : Cfg} {ex F : FS} {p p₁ : P} {s s₁ : Shared} {X : P → Prop} {v' : Value} {s' : Shared} (S : Step ex p s.heap p₁ s₁.heap) (e : Same s s₁) (h : PostX C ex F p₁ s₁ X v' s') : PostX C ex F p s X v' s' := by
  obtain ⟨p', ea, T, he, q, i, st, lv, fs, n1, n2, fl, sm⟩ := h
  exact ⟨p', ea, T, he, q, i, S.trans st, lv, fun b o h1 h2 h3 h4 => let ⟨⟨_, g1, _⟩, g2⟩ := S b o h1 h2 h4; fs b _ g1 g2 h3 h4, n1, n2, fl, e.trans sm⟩
theorem PostX.no {C : Cfg} {ex F : FS} {p : P} {s : Shared} {v' : Value} {s' : Shared} (h : PostX C ex F p s X0 v' s') : False := let ⟨_, _, _, _, q, _, _, _, _, _, _, _, _⟩ := h; q

structure At (C : Cfg) (k : Nat) (env : Env) (A : Around) (F : FS) (fr : Fm) (p : P) (s : Shared) : Prop where
  room : Room k A F s.heap
  inv : Inv C F p s.heap
  frm : FrR C env F fr p s.heap
theorem At.step {C : Cfg} {k : Nat} {env : Env} {A : Around} {F : FS} {fr : Fm} {p p' : P} {s s' : Shared} (a : At C k env A F fr p s) (S : Step NO p s.heap p' s'.heap) (I : Inv C F p' s'.heap) : At C k env A F fr p' s' :=
  ⟨a.room.step (fun ζ f => a.inv.ofF f) S, I, a.frm.step (fun ζ f => a.inv.ofF f) S⟩

theorem wp_then {α β : Type} {R : Heap → FS → P → α → β → Prop} {C : Cfg} {A : Around} {F : FS} {p : P} {s : Shared} {t : Sem α} {Q₁ : β → P → Prop} {X : P → Prop} {K : α → Shared → Prop} {E : Value → Shared → Prop}
    (h : wpAny (model C.prog C.w) A t (PostG R C F p s Q₁) (PostX C NO F p s X) s)
    (k : ∀ v' s₁ v p₁, Q₁ v p₁ → Inv C F p₁ s₁.heap → Step NO p s.heap p₁ s₁.heap → R s₁.heap F p₁ v' v → Same s s₁ → K v' s₁) (x : ∀ e' s₁, PostX C NO F p s X e' s₁ → E e' s₁) : wpAny (model C.prog C.w) A t K E s :=
  wpAny_mono h (fun v' s₁ ⟨v, p₁, q, i, st, vr, sm⟩ => k v' s₁ v p₁ q i st vr sm) x
theorem wp_then0 {α β : Type} {R : Heap → FS → P → α → β → Prop} {C : Cfg} {A : Around} {F : FS} {p : P} {s : Shared} {t : Sem α} {Q₁ : β → P → Prop} {K : α → Shared → Prop} {E : Value → Shared → Prop}
    (h : wpAny (model C.prog C.w) A t (PostG R C F p s Q₁) (fun ζ ζ => False) s)
    (k : ∀ v' s₁ v p₁, Q₁ v p₁ → Inv C F p₁ s₁.heap → Step NO p s.heap p₁ s₁.heap → R s₁.heap F p₁ v' v → Same s s₁ → K v' s₁) : wpAny (model C.prog C.w) A t K E s :=
  wpAny_mono h (fun v' s₁ ⟨v, p₁, q, i, st, vr, sm⟩ => k v' s₁ v p₁ q i st vr sm) fun ζ ζ z => z.elim

end Tl
end

section
open PySem PySem.W PySem.Calls PyProof.Rows
set_option linter.unusedVariables false
namespace Tl

section
variable {C : Cfg} {k : Nat} {sc : Scope} {fr : Fm} {p : P} {X : P → Prop}

noncomputable def OpB (C : Cfg) (k : Nat) (op : Operator) (a b : V) (p : P) (Q : V → P → Prop) : Prop :=
  ∀ A F s a' b', Room k A F s.heap → Inv C F p s.heap → VR s.heap F p a' a → VR s.heap F p b' b → wpAny (model C.prog C.w) A (binaryOp op a' b') (Post C F p s Q) (fun ζ ζ => False) s
noncomputable def OpC (C : Cfg) (k : Nat) (op : CmpOp) (a b : V) (p : P) (Q : V → P → Prop) : Prop :=
  ∀ A F s a' b', Room k A F s.heap → Inv C F p s.heap → VR s.heap F p a' a → VR s.heap F p b' b → wpAny (model C.prog C.w) A (compareOp op a' b') (Post C F p s Q) (fun ζ ζ => False) s
noncomputable def OpU (C : Cfg) (k : Nat) (op : UnaryOp) (a : V) (p : P) (Q : V → P → Prop) : Prop :=
  ∀ A F s a', Room k A F s.heap → Inv C F p s.heap → VR s.heap F p a' a → wpAny (model C.prog C.w) A (unaryOp op a') (Post C F p s Q) (fun ζ ζ => False) s
noncomputable def TT (C : Cfg) (k : Nat) (sc : Scope) (fr : Fm) (p : P) (e : Expr) (Q : Bool → P → Prop) (X : P → Prop) : Prop :=
  ∀ env A F s, env.scope = sc → Room k A F s.heap → Inv C F p s.heap → FrR C env F fr p s.heap →
    wpAny (model C.prog C.w) A (isTrue e env (eval e env)) (PostB C F p s Q) (PostX C NO F p s X) s
noncomputable def TAs (C : Cfg) (k : Nat) (sc : Scope) (fr : Fm) (p : P) (es : List Expr) (Q : List V → P → Prop) (X : P → Prop) : Prop :=
  ∀ env A F s pos, env.scope = sc → Room k A F s.heap → Inv C F p s.heap → FrR C env F fr p s.heap →
    wpAny (model C.prog C.w) A (spliced (backTo pos (starEach es env))) (PostL C F p s Q) (PostX C NO F p s X) s
noncomputable def TC (C : Cfg) (k : Nat) (f : Value) (args : List V) (p : P) (Q : V → P → Prop) (X : P → Prop) : Prop :=
  ∀ A F s args', Room k A F s.heap → Inv C F p s.heap → VRL s.heap F p args' args → wpAny (model C.prog C.w) A (call f args') (Post C F p s Q) (PostX C NO F p s X) s

theorem post_here {α β : Type} {R : Heap → FS → P → α → β → Prop} {F : FS} {s : Shared} {Q : β → P → Prop} {a : α} {b : β} (I : Inv C F p s.heap) (r : R s.heap F p a b) (q : Q b p) : PostG R C F p s Q a s :=
  ⟨b, p, q, I, Step.refl, r, Same.refl s⟩
theorem post_tok {α β : Type} {R : Heap → FS → P → α → β → Prop} {F : FS} {s : Shared} {Q : β → P → Prop} {a : α} {b : β} {t : Nat} (I : Inv C F p s.heap) (r : R s.heap F p a b) (q : Q b p) : PostG R C F p s Q a { s with toks := t } :=
  ⟨b, p, q, I, Step.refl, r, Same.mk s s.heap t⟩

theorem T_int {i : Int} {kk pos} {Q : V → P → Prop} (q : Q (.int i) p) : TE C k sc fr p (.Constant (.int i) kk pos) Q X :=
  fun ζ ζ ζ ζ ζ ζ I ζ => wpAny_Constant_int (post_tok I (.int i _) q)
theorem T_str {i : Str} {kk pos} {Q : V → P → Prop} (q : Q (.str i) p) : TE C k sc fr p (.Constant (.str i) kk pos) Q X :=
  fun ζ ζ ζ ζ ζ ζ I ζ => wpAny_Constant_str (post_tok I (.str i _) q)
theorem T_none {kk pos} {Q : V → P → Prop} (q : Q .none p) : TE C k sc fr p (.Constant .none kk pos) Q X :=
  fun ζ ζ ζ ζ ζ ζ I ζ => wpAny_Constant_none (post_here I .none q)
theorem T_bool {b : Bool} {kk pos} {Q : V → P → Prop} (q : Q (.bool b) p) : TE C k sc fr p (.Constant (.bool b) kk pos) Q X :=
  fun ζ ζ ζ ζ ζ ζ I ζ => wpAny_Constant_bool (post_here I (.bool b) q)

theorem T_Name {x : Str} {pos : Pos} {v : V} {Q : V → P → Prop} (hv : fr.lookup x = some v) (hk : sc.names.lookup x = some .local ∨ sc.names.lookup x = some .cell) (q : Q v p) (hd : (x == ("__debug__" : Str)) = false) : TE C k sc fr p (.Name x pos) Q X := by
  intro env A F s he R I f
  have kd : env.kindOf x = sc.names.lookup x := by unfold Env.kindOf; rw [he]
  rcases hk with hk | hk
  · obtain ⟨m, hn, g⟩ := f.ns
    obtain ⟨v', e, r⟩ := g x v hv (kd.trans hk)
    exact wpAny_Name (wpAny_loadName_local f.kind (kd.trans hk) hn e (post_here I r q)) hd
  · obtain ⟨c, o, v', e, ho, hd', r⟩ := f.cv x v hv (kd.trans hk)
    exact wpAny_Name (wpAny_loadName_cell f.kind (kd.trans hk) e ⟨o, ho, hd'⟩ (post_here I r q)) hd

theorem name_global {x : Str} {pos : Pos} {v' : Value} {env : Env} {A : Around} {F : FS} {s : Shared} {Q : Value → Shared → Prop} {E : Value → Shared → Prop} (I : Inv C F p s.heap) (f : FrR C env F fr p s.heap)
    (hx : env.kindOf x = some .globalImplicit) (hg : nsIn C.K mainGlobals x = some (some v')) (h : Q v' s) (hd : (x == ("__debug__" : Str)) = false) : wpAny (model C.prog C.w) A (eval (.Name x pos) env) Q E s :=
  Name_function_global f.kind hx (loadGlobal_global (by rw [f.glob]; exact C.T.g.keeps I.keep) (mg_of C.X C.T.g hg) h) hd
theorem name_builtin {x : Str} {pos : Pos} {v' : Value} {env : Env} {A : Around} {F : FS} {s : Shared} {Q : Value → Shared → Prop} {E : Value → Shared → Prop} (I : Inv C F p s.heap) (f : FrR C env F fr p s.heap)
    (hx : env.kindOf x = some .globalImplicit) (hg : nsIn C.K mainGlobals x = some none) (hv : bootBuiltins x = some v') (hn : x ≠ "__name__") (h : Q v' s) (hd : (x == ("__debug__" : Str)) = false) : wpAny (model C.prog C.w) A (eval (.Name x pos) env) Q E s :=
  Name_function_global f.kind hx (loadGlobal_builtin (by rw [f.glob]; exact C.T.g.keeps I.keep) (mg_none_of C.X C.T.g hg) (by rw [f.blt]; exact C.T.b.keeps I.keep) ((C.T.builtins x hn).trans hv) h) hd

theorem T_Glob {x : Str} {pos : Pos} {v' : Value} {v : V} {Q : V → P → Prop} (hk : sc.names.lookup x = some .globalImplicit) (hg : nsIn C.K mainGlobals x = some (some v')) (hv : ∀ F h, Inv C F p h → VR h F p v' v) (q : Q v p)
    (hd : (x == ("__debug__" : Str)) = false) : TE C k sc fr p (.Name x pos) Q X := by
  intro env A F s he R I f
  exact name_global I f (by unfold Env.kindOf; rw [he]; exact hk) hg (post_here I (hv _ _ I) q) hd

theorem T_BinOp {l r : Expr} {op : Operator} {pos : Pos} {Q : V → P → Prop} (h : TE C k sc fr p l (fun a p₁ => TE C k sc fr p₁ r (fun b p₂ => OpB C k op a b p₂ Q) X) X) : TE C k sc fr p (.BinOp l op r pos) Q X := by
  intro env A F s he R I f
  refine wpAny_BinOp (wp_then (h env A F s he R I f) (fun a' s₁ a p₁ q₁ I₁ S₁ v₁ m₁ => ?_) fun ζ ζ z => z)
  have a₁ := At.step ⟨R, I, f⟩ S₁ I₁
  refine wp_then (q₁ env A F s₁ he a₁.room a₁.inv a₁.frm) (fun b' s₂ b p₂ q₂ I₂ S₂ v₂ m₂ => ?_) fun ζ ζ z => z.trans S₁ m₁
  have a₂ := a₁.step S₂ I₂
  exact wpAny_mono (q₂ A F s₂ a' b' a₂.room a₂.inv (v₁.step S₂ fun ζ z => z.elim) v₂) (fun ζ ζ z => (z.trans S₂ m₂).trans S₁ m₁) fun ζ ζ z => z.elim
theorem T_Compare {l r : Expr} {op : CmpOp} {pos : Pos} {Q : V → P → Prop} (h : TE C k sc fr p l (fun a p₁ => TE C k sc fr p₁ r (fun b p₂ => OpC C k op a b p₂ Q) X) X) (hm : behindInMarks op r = false) : TE C k sc fr p (.Compare l [op] [r] pos) Q X := by
  intro env A F s he R I f
  refine wpAny_Compare1 (wp_then (h env A F s he R I f) (fun a' s₁ a p₁ q₁ I₁ S₁ v₁ m₁ => ?_) fun ζ ζ z => z) hm
  have a₁ := At.step ⟨R, I, f⟩ S₁ I₁
  refine wp_then (q₁ env A F s₁ he a₁.room a₁.inv a₁.frm) (fun b' s₂ b p₂ q₂ I₂ S₂ v₂ m₂ => ?_) fun ζ ζ z => z.trans S₁ m₁
  have a₂ := a₁.step S₂ I₂
  exact wpAny_mono (q₂ A F s₂ a' b' a₂.room a₂.inv (v₁.step S₂ fun ζ z => z.elim) v₂) (fun ζ ζ z => (z.trans S₂ m₂).trans S₁ m₁) fun ζ ζ z => z.elim
theorem T_UnaryOp {e : Expr} {op : UnaryOp} {pos : Pos} {Q : V → P → Prop} (h : TE C k sc fr p e (fun a p₁ => OpU C k op a p₁ Q) X) : TE C k sc fr p (.UnaryOp op e pos) Q X := by
  intro env A F s he R I f
  refine wpAny_UnaryOp (wp_then (h env A F s he R I f) (fun a' s₁ a p₁ q₁ I₁ S₁ v₁ m₁ => ?_) fun ζ ζ z => z)
  have a₁ := At.step ⟨R, I, f⟩ S₁ I₁
  exact wpAny_mono (q₁ A F s₁ a' a₁.room a₁.inv v₁) (fun ζ ζ z => z.trans S₁ m₁) fun ζ ζ z => z.elim

theorem TT_Compare {l r : Expr} {op : CmpOp} {pos : Pos} {Q : Bool → P → Prop} (h : TE C k sc fr p l (fun a p₁ => TE C k sc fr p₁ r (fun b p₂ => OpC C k op a b p₂ (fun v p₃ => ∃ c, v = .bool c ∧ Q c p₃)) X) X)
    (hm : behindInMarks op r = false) : TT C k sc fr p (.Compare l [op] [r] pos) Q X := by
  intro env A F s he R I f
  refine wpAny_isTrue_Compare1 (wp_then (h env A F s he R I f) (fun a' s₁ a p₁ q₁ I₁ S₁ v₁ m₁ => ?_) fun ζ ζ z => z) hm
  have a₁ := At.step ⟨R, I, f⟩ S₁ I₁
  refine wp_then (q₁ env A F s₁ he a₁.room a₁.inv a₁.frm) (fun b' s₂ b p₂ q₂ I₂ S₂ v₂ m₂ => ?_) fun ζ ζ z => z.trans S₁ m₁
  have a₂ := a₁.step S₂ I₂
  refine wp_then0 (q₂ A F s₂ a' b' a₂.room a₂.inv (v₁.step S₂ fun ζ z => z.elim) v₂) fun c' s₃ c p₃ q₃ I₃ S₃ v₃ m₃ => ?_
  obtain ⟨c, rfl, q⟩ := q₃
  cases v₃
  exact wpAny_truthy_bool ⟨c, p₃, q, I₃, (S₁.trans S₂).trans S₃, rfl, (m₁.trans m₂).trans m₃⟩
theorem TT_val {e : Expr} {Q : Bool → P → Prop} (h : TE C k sc fr p e (fun v p₁ => ∃ c, v = .bool c ∧ Q c p₁) X) (he : ∀ env whole, isTrue e env whole = (do let v ← whole; standAt e.pos; holding [v] (truthy v))) : TT C k sc fr p e Q X := by
  intro env A F s hs R I f
  refine wpAny_isTrue_value (wp_then (h env A F s hs R I f) (fun a' s₁ a p₁ q₁ I₁ S₁ v₁ m₁ => ?_) fun ζ ζ z => z) (he _ _)
  obtain ⟨c, rfl, q⟩ := q₁
  cases v₁
  exact wpAny_truthy_bool ⟨c, p₁, q, I₁, S₁, rfl, m₁⟩
theorem TT_Not {e : Expr} {pos : Pos} {Q : Bool → P → Prop} (h : TT C k sc fr p e (fun c p₁ => Q (!c) p₁) X) : TT C k sc fr p (.UnaryOp .Not e pos) Q X := by
  intro env A F s hs R I f
  refine wpAny_isTrue_Not (wp_then (h env A F s hs R I f) (fun a' s₁ a p₁ q₁ I₁ S₁ v₁ m₁ => ?_) fun ζ ζ z => z)
  cases v₁
  exact ⟨_, p₁, q₁, I₁, S₁, rfl, m₁⟩
theorem TT_AndN {pos : Pos} {Q : Bool → P → Prop} (q : Q true p) : TT C k sc fr p (.BoolOp .And [] pos) Q X := fun ζ ζ ζ ζ ζ ζ I ζ => isTrue_and_nil (post_here I rfl q)
theorem TT_OrN {pos : Pos} {Q : Bool → P → Prop} (q : Q false p) : TT C k sc fr p (.BoolOp .Or [] pos) Q X := fun ζ ζ ζ ζ ζ ζ I ζ => isTrue_or_nil (post_here I rfl q)
theorem TT_And {e : Expr} {rest : List Expr} {pos : Pos} {Q : Bool → P → Prop} (h : TT C k sc fr p e (fun c p₁ => (c = true → TT C k sc fr p₁ (.BoolOp .And rest pos) Q X) ∧ (c = false → Q false p₁)) X) : TT C k sc fr p (.BoolOp .And (e :: rest) pos) Q X := by
  intro env A F s hs R I f
  refine isTrue_and (wp_then (h env A F s hs R I f) (fun a' s₁ a p₁ q₁ I₁ S₁ v₁ m₁ => ?_) fun ζ ζ z => z)
  cases v₁
  have a₁ := At.step ⟨R, I, f⟩ S₁ I₁
  cases a' with
  | false => exact ⟨false, p₁, q₁.2 rfl, I₁, S₁, rfl, m₁⟩
  | true => exact wpAny_mono (q₁.1 rfl env A F s₁ hs a₁.room a₁.inv a₁.frm) (fun ζ ζ z => z.trans S₁ m₁) fun ζ ζ z => z.trans S₁ m₁
theorem TT_Or {e : Expr} {rest : List Expr} {pos : Pos} {Q : Bool → P → Prop} (h : TT C k sc fr p e (fun c p₁ => (c = false → TT C k sc fr p₁ (.BoolOp .Or rest pos) Q X) ∧ (c = true → Q true p₁)) X) : TT C k sc fr p (.BoolOp .Or (e :: rest) pos) Q X := by
  intro env A F s hs R I f
  refine isTrue_or (wp_then (h env A F s hs R I f) (fun a' s₁ a p₁ q₁ I₁ S₁ v₁ m₁ => ?_) fun ζ ζ z => z)
  cases v₁
  have a₁ := At.step ⟨R, I, f⟩ S₁ I₁
  cases a' with
  | true => exact ⟨true, p₁, q₁.2 rfl, I₁, S₁, rfl, m₁⟩
  | false => exact wpAny_mono (q₁.1 rfl env A F s₁ hs a₁.room a₁.inv a₁.frm) (fun ζ ζ z => z.trans S₁ m₁) fun ζ ζ z => z.trans S₁ m₁

theorem T_And1 {e : Expr} {pos : Pos} {Q : V → P → Prop} (h : TE C k sc fr p e Q X) : TE C k sc fr p (.BoolOp .And [e] pos) Q X := fun env A F s hs R I f => BoolOp_one (h env A F s hs R I f)
theorem T_Or1 {e : Expr} {pos : Pos} {Q : V → P → Prop} (h : TE C k sc fr p e Q X) : TE C k sc fr p (.BoolOp .Or [e] pos) Q X := fun env A F s hs R I f => BoolOp_one (h env A F s hs R I f)
theorem T_And {e e₂ : Expr} {rest : List Expr} {pos : Pos} {Q : V → P → Prop} (h : TE C k sc fr p e (fun v p₁ => ∃ c, v = .bool c ∧ (c = true → TE C k sc fr p₁ (.BoolOp .And (e₂ :: rest) pos) Q X) ∧ (c = false → Q (.bool false) p₁)) X) : TE C k sc fr p (.BoolOp .And (e :: e₂ :: rest) pos) Q X := by
  intro env A F s hs R I f
  refine BoolOp_and (wp_then (h env A F s hs R I f) (fun a' s₁ a p₁ q₁ I₁ S₁ v₁ m₁ => ?_) fun ζ ζ z => z)
  obtain ⟨c, rfl, q, r⟩ := q₁
  cases v₁
  have a₁ := At.step ⟨R, I, f⟩ S₁ I₁
  refine wpAny_truthy_bool ?_
  cases c with
  | false => exact ⟨_, p₁, r rfl, I₁, S₁, .bool _, m₁⟩
  | true => exact wpAny_mono (q rfl env A F s₁ hs a₁.room a₁.inv a₁.frm) (fun ζ ζ z => z.trans S₁ m₁) fun ζ ζ z => z.trans S₁ m₁
theorem T_Or {e e₂ : Expr} {rest : List Expr} {pos : Pos} {Q : V → P → Prop} (h : TE C k sc fr p e (fun v p₁ => ∃ c, v = .bool c ∧ (c = false → TE C k sc fr p₁ (.BoolOp .Or (e₂ :: rest) pos) Q X) ∧ (c = true → Q (.bool true) p₁)) X) : TE C k sc fr p (.BoolOp .Or (e :: e₂ :: rest) pos) Q X := by
  intro env A F s hs R I f
  refine BoolOp_or (wp_then (h env A F s hs R I f) (fun a' s₁ a p₁ q₁ I₁ S₁ v₁ m₁ => ?_) fun ζ ζ z => z)
  obtain ⟨c, rfl, q, r⟩ := q₁
  cases v₁
  have a₁ := At.step ⟨R, I, f⟩ S₁ I₁
  refine wpAny_truthy_bool ?_
  cases c with
  | true => exact ⟨_, p₁, r rfl, I₁, S₁, .bool _, m₁⟩
  | false => exact wpAny_mono (q rfl env A F s₁ hs a₁.room a₁.inv a₁.frm) (fun ζ ζ z => z.trans S₁ m₁) fun ζ ζ z => z.trans S₁ m₁
theorem T_IfExp {t a b : Expr} {pos : Pos} {Q : V → P → Prop} (h : TT C k sc fr p t (fun c p₁ => (c = true → TE C k sc fr p₁ a Q X) ∧ (c = false → TE C k sc fr p₁ b Q X)) X) : TE C k sc fr p (.IfExp t a b pos) Q X := by
  intro env A F s hs R I f
  refine wpAny_IfExp (wp_then (h env A F s hs R I f) (fun a' s₁ a p₁ q₁ I₁ S₁ v₁ m₁ => ?_) fun ζ ζ z => z)
  cases v₁
  have a₁ := At.step ⟨R, I, f⟩ S₁ I₁
  cases a' with
  | true => exact wpAny_mono (q₁.1 rfl env A F s₁ hs a₁.room a₁.inv a₁.frm) (fun ζ ζ z => z.trans S₁ m₁) fun ζ ζ z => z.trans S₁ m₁
  | false => exact wpAny_mono (q₁.2 rfl env A F s₁ hs a₁.room a₁.inv a₁.frm) (fun ζ ζ z => z.trans S₁ m₁) fun ζ ζ z => z.trans S₁ m₁
theorem OpU_not {c : Bool} {Q : V → P → Prop} (q : Q (.bool (!c)) p) : OpU C k .Not (.bool c) p Q := by
  intro A F s a' R I v
  cases v
  exact not_of (wpAny_truthy_bool (post_here I (.bool _) q))

theorem TAs_nil {Q : List V → P → Prop} (q : Q [] p) : TAs C k sc fr p [] Q X := fun ζ ζ ζ ζ ζ ζ ζ I ζ => wpAny_items_nil (post_here I .nil q)
theorem TAs_cons {e : Expr} {rest : List Expr} {Q : List V → P → Prop} (h : TE C k sc fr p e (fun a p₁ => TAs C k sc fr p₁ rest (fun vs p₂ => Q (a :: vs) p₂) X) X) (he : ∀ env, starEach (e :: rest) env = (false, eval e env) :: starEach rest env) : TAs C k sc fr p (e :: rest) Q X := by
  intro env A F s pos hs R I f
  refine wpAny_items_cons (wp_then (h env A F s hs R I f) (fun a' s₁ a p₁ q₁ I₁ S₁ v₁ m₁ => ?_) fun ζ ζ z => z) (he env)
  have a₁ := At.step ⟨R, I, f⟩ S₁ I₁
  refine wp_then (q₁ env A F s₁ pos hs a₁.room a₁.inv a₁.frm) (fun b' s₂ b p₂ q₂ I₂ S₂ v₂ m₂ => ?_) fun ζ ζ z => z.trans S₁ m₁
  exact ⟨a :: b, p₂, q₂, I₂, S₁.trans S₂, .cons (v₁.step S₂ fun ζ z => z.elim) v₂, m₁.trans m₂⟩


end
end Tl
end

section
open PySem PySem.W PySem.Calls PyProof.Rows
set_option linter.unusedVariables false
namespace Tl

inductive Fl where
  | next
  | brk
  | cont
  | ret (v : V)
inductive FlR (h : Heap) (F : FS) (p : P) : Flow → Fl → Prop
  | next : FlR h F p .next .next
  | brk : FlR h F p .brk .brk
  | cont : FlR h F p .cont .cont
  | ret {v' : Value} {v : V} : VR h F p v' v → FlR h F p (.ret v') (.ret v)

noncomputable def setL (x : Str) (v : V) : Fm → Fm
  | [] => [(x, v)]
  | (y, u) :: r => if x = y then (x, v) :: r else (y, u) :: setL x v r
theorem setL_c {x y : Str} {v u : V} {r : Fm} : setL x v ((y, u) :: r) = if x = y then (x, v) :: r else (y, u) :: setL x v r := rfl
theorem lookup_setL (x : Str) (v : V) (y : Str) : ∀ fr : Fm, (setL x v fr).lookup y = if y = x then some v else fr.lookup y
  | [] => by
    show List.lookup y [(x, v)] = _
    by_cases h : y = x
    · subst h; simp
    · have : (y == x) = false := beq_eq_false_iff_ne.mpr h
      simp [List.lookup_cons, h, this]
  | (z, u) :: r => by
    rw [setL_c]
    by_cases hz : x = z
    · subst hz
      by_cases h : y = x
      · subst h; simp
      · have e1 : (y == x) = false := beq_eq_false_iff_ne.mpr h
        simp only [if_true, List.lookup_cons, e1, h, if_false]
    · rw [if_neg hz]
      by_cases hy : y = z
      · subst hy
        have : y ≠ x := fun e => hz e.symm
        simp [this]
      · have e1 : (y == z) = false := beq_eq_false_iff_ne.mpr hy
        simp only [List.lookup_cons, e1]
        exact lookup_setL x v y r

noncomputable def asgd (env : Env) (ns : List Str) : FS := fun a => ∃ x ∈ ns, (env.kindOf x = some .local ∧ a = env.locals) ∨ (env.kindOf x = some .cell ∧ env.cells.lookup x = some a)
noncomputable def own (env : Env) : FS := fun a => a = env.locals ∨ ∃ x, env.kindOf x = some .cell ∧ env.cells.lookup x = some a
theorem asgd_own {env : Env} {ns : List Str} : ∀ a, asgd env ns a → own env a := by
  rintro a ⟨x, _, ⟨_, e⟩ | ⟨e, f⟩⟩
  · exact .inl e
  · exact .inr ⟨x, e, f⟩
theorem asgd_mono {env : Env} {ns ns' : List Str} (h : ∀ x ∈ ns, x ∈ ns') : ∀ a, asgd env ns a → asgd env ns' a := fun a ⟨x, hx, r⟩ => ⟨x, h x hx, r⟩

section
variable {C : Cfg} {k : Nat} {sc : Scope} {fr : Fm} {p : P} {X : P → Prop}

theorem own_F {env : Env} {F : FS} {h : Heap} (f : FrR C env F fr p h) : ∀ a, own env a → F a := by
  rintro a (rfl | ⟨x, _, e⟩)
  · exact f.ownL
  · exact (f.ownC x a e).1
theorem asgd_F {env : Env} {F : FS} {h : Heap} {ns : List Str} (f : FrR C env F fr p h) : ∀ a, asgd env ns a → F a := fun a z => own_F f a (asgd_own a z)

inductive PostA (C : Cfg) (env : Env) (F : FS) (ns : List Str) (p : P) (s : Shared) (Q : Fm → P → Prop) (s' : Shared) : Prop
  | mk (fr' : Fm) (p' : P) (q : Q fr' p') (I : Inv C F p' s'.heap) (S : Step (asgd env ns) p s.heap p' s'.heap) (f : FrR C env F fr' p' s'.heap) (m : Same s s') : PostA C env F ns p s Q s'
noncomputable def TA (C : Cfg) (k : Nat) (sc : Scope) (ns : List Str) (fr : Fm) (p : P) (t : Expr) (v : V) (Q : Fm → P → Prop) : Prop :=
  ∀ env A F s v', env.scope = sc → Room k A F s.heap → Inv C F p s.heap → FrR C env F fr p s.heap → VR s.heap F p v' v →
    wpAny (model C.prog C.w) A (assign t env v') (fun ζ s' => PostA C env F ns p s Q s') (fun ζ ζ => False) s

theorem store_name {x : Str} {v : V} {env : Env} {A : Around} {F : FS} {s : Shared} {v' : Value} {R : Unit → Shared → Prop} {E : Value → Shared → Prop} (I : Inv C F p s.heap) (f : FrR C env F fr p s.heap) (r : VR s.heap F p v' v) (hk : env.kindOf x = some .local ∨ env.kindOf x = some .cell)
    (h : ∀ h' tk, Inv C F p h' → Step (asgd env [x]) p s.heap p h' → FrR C env F (setL x v fr) p h' → R () { s with heap := h', toks := tk }) : wpAny (model C.prog C.w) A (storeName env x v') R E s := by
  have hx1 : ∀ a, asgd env [x] a → F a := asgd_F f
  rcases hk with hk | hk
  · obtain ⟨m, hn, g⟩ := f.ns
    refine wpAny_storeName_local hk hn (fun h' hn' hs => ?_) (by rw [f.kind]; rfl)
    have keep : ∀ b o, b ≠ env.locals → s.heap.get? b = some o → h'.get? b = some o := fun b o n e => (hs.2 b n).trans e
    have S : Step (asgd env [x]) p s.heap p h' := fun b o e q n => ⟨.of (keep b o (fun z => n ⟨x, List.mem_singleton.mpr rfl, .inl ⟨hk, z⟩⟩) e), q⟩
    have I' : Inv C F p h' := I.keepsF (fun b o e n => keep b o (fun z => n (z ▸ f.ownL)) e) fun a z => by
      by_cases ha : a = env.locals
      · subst ha; obtain ⟨o, _, _, ho, _⟩ := hn'; exact ⟨o, ho⟩
      · obtain ⟨o, e⟩ := I.ex a z; exact ⟨o, keep a o ha e⟩
    refine h h' _ I' S ⟨f.kind, f.glob, f.blt, f.ownL, f.ownC, f.inj, fun y e => ?_, ⟨_, hn', fun y u e q => ?_⟩, fun y u e q => ?_⟩
    · obtain ⟨c, o, ov, a, b, d⟩ := f.cells y e
      exact ⟨c, o, ov, a, keep c o (f.ownC y c a).2 b, d⟩
    · rw [lookup_setL] at e
      by_cases hy : y = x
      · rw [if_pos hy] at e; cases e
        exact ⟨v', by rw [if_pos hy], r.step S hx1⟩
      · rw [if_neg hy] at e
        obtain ⟨u', a, b⟩ := g y u e q
        exact ⟨u', by rw [if_neg hy]; exact a, b.step S hx1⟩
    · rw [lookup_setL] at e
      by_cases hy : y = x
      · subst hy; rw [hk] at q; cases q
      · rw [if_neg hy] at e
        obtain ⟨c, o, u', a, b, d, r'⟩ := f.cv y u e q
        exact ⟨c, o, u', a, keep c o (f.ownC y c a).2 b, d, r'.step S hx1⟩
  · obtain ⟨c, o, ov, hc, ho, hd⟩ := f.cells x hk
    refine wpAny_storeName_cell f.kind hk hc ⟨o, ho, hd⟩ fun h' hcell hs => ?_
    have keep : ∀ b o, b ≠ c → s.heap.get? b = some o → h'.get? b = some o := fun b o n e => (hs.2 b n).trans e
    have S : Step (asgd env [x]) p s.heap p h' := fun b o e q n => ⟨.of (keep b o (fun z => n ⟨x, List.mem_singleton.mpr rfl, .inr ⟨hk, z ▸ hc⟩⟩) e), q⟩
    obtain ⟨o', ho', hd'⟩ := hcell
    have I' : Inv C F p h' := I.keepsF (fun b o e n => keep b o (fun z => n (z ▸ (f.ownC x c hc).1)) e) fun a z => by
      by_cases ha : a = c
      · subst ha; exact ⟨o', ho'⟩
      · obtain ⟨o, e⟩ := I.ex a z; exact ⟨o, keep a o ha e⟩
    have hcL := (f.ownC x c hc).2
    refine h h' _ I' S ⟨f.kind, f.glob, f.blt, f.ownL, f.ownC, f.inj, fun y e => ?_, ?_, fun y u e q => ?_⟩
    · obtain ⟨c₁, o₁, ov₁, a, b, d⟩ := f.cells y e
      by_cases hy : c₁ = c
      · exact ⟨c, o', some v', hy ▸ a, ho', hd'⟩
      · exact ⟨c₁, o₁, ov₁, a, keep c₁ o₁ hy b, d⟩
    · obtain ⟨m, ⟨oL, es, ep, hoL, rL⟩, g⟩ := f.ns
      refine ⟨m, ⟨oL, es, ep, keep _ _ hcL.symm hoL, rL⟩, fun y u e q => ?_⟩
      rw [lookup_setL] at e
      by_cases hy : y = x
      · subst hy; rw [hk] at q; cases q
      · rw [if_neg hy] at e
        obtain ⟨u', a, b⟩ := g y u e q
        exact ⟨u', a, b.step S hx1⟩
    · rw [lookup_setL] at e
      by_cases hy : y = x
      · rw [if_pos hy] at e; cases e; subst hy
        exact ⟨c, o', v', hc, ho', hd', r.step S hx1⟩
      · rw [if_neg hy] at e
        obtain ⟨c₁, o₁, u', a, b, d, r'⟩ := f.cv y u e q
        exact ⟨c₁, o₁, u', a, keep c₁ o₁ (fun z => hy (f.inj y x c (z ▸ a) hc)) b, d, r'.step S hx1⟩

theorem TA_Name {x : Str} {pos : Pos} {v : V} {fr' : Fm} {Q : Fm → P → Prop} (hk : sc.names.lookup x = some .local ∨ sc.names.lookup x = some .cell) (hfr : setL x v fr = fr') (q : Q fr' p) : TA C k sc [x] fr p (.Name x pos) v Q := by
  intro env A F s v' he R I f r
  subst hfr
  exact wpAny_assign_Name (store_name I f r (by unfold Env.kindOf; rw [he]; exact hk) fun h' tk I' S f' => ⟨_, p, q, I', S, f', Same.mk s h' tk⟩)

noncomputable def TAL (C : Cfg) (k : Nat) (sc : Scope) (ns : List Str) (fr : Fm) (p : P) (ts : List Expr) (vs : List V) (Q : Fm → P → Prop) : Prop :=
  ∀ env A F s vs', env.scope = sc → Room k A F s.heap → Inv C F p s.heap → FrR C env F fr p s.heap → VRL s.heap F p vs' vs →
    A3 (wpAny (model C.prog C.w) A (assignInOrder ((assignEach ts env).map (·.2)) vs') (fun ζ s' => PostA C env F ns p s Q s') (fun ζ ζ => False) s) ((assignEach ts env).length = vs.length) ((assignEach ts env).findIdx? (·.1) = none)
theorem TAL_nil {Q : Fm → P → Prop} {ns : List Str} (q : Q fr p) : TAL C k sc ns fr p [] [] Q := by
  intro env A F s vs' he R I f r
  cases r
  exact ⟨wpAny_pure ⟨fr, p, q, I, Step.refl, f, Same.refl s⟩, rfl, rfl⟩
theorem Room.stepF {A : Around} {F : FS} {env : Env} {h h' : Heap} {p' : P} (R : Room k A F h) (hp : ∀ a, F a → p a = none) (fr0 : FrR C env F fr p h) {fr' : Fm} (fr1 : FrR C env F fr' p' h') (S : Step (own env) p h p' h') : Room k A F h' :=
  ⟨R.handled, R.depth, R.units, let ⟨l, e, f⟩ := R.frames; ⟨l, e, fun x hx => ⟨(f x hx).kind, by
    obtain ⟨L, o, es, n, a, b, c, d⟩ := (f x hx).at_
    by_cases hL : L = env.locals
    · subst hL
      obtain ⟨m, ⟨o', es', ep', ho', hd', _⟩, _⟩ := fr1.ns
      exact ⟨_, o', es', ep', a, b, ho', hd'⟩
    · have hno : ¬ own env L := ?_
      · obtain ⟨⟨sl, c', _⟩, _⟩ := S L o c (hp _ b) hno
        exact ⟨L, { o with slots := sl }, es, n, a, b, c', d⟩
      rintro (z | ⟨y, hy, z⟩)
      · exact hL z
      · obtain ⟨c', o', ov, e1, e2, e3⟩ := fr0.cells y hy
        rw [z] at e1; cases e1
        rw [c] at e2; cases e2
        rw [d] at e3; cases e3⟩⟩⟩
theorem At.stepA {env : Env} {A : Around} {F : FS} {fr' : Fm} {p' : P} {s s' : Shared} (a : At C k env A F fr p s) (S : Step (own env) p s.heap p' s'.heap) (I : Inv C F p' s'.heap) (f : FrR C env F fr' p' s'.heap) : At C k env A F fr' p' s' :=
  ⟨a.room.stepF (fun ζ z => a.inv.ofF z) a.frm f S, I, f⟩
theorem TAL_cons {t : Expr} {ts : List Expr} {v : V} {vs : List V} {n₁ n₂ ns : List Str} {Q : Fm → P → Prop} (h : TA C k sc n₁ fr p t v (fun fr₁ p₁ => TAL C k sc n₂ fr₁ p₁ ts vs Q)) (hl : ts.length = vs.length)
    (h1 : ∀ x ∈ n₁, x ∈ ns) (h2 : ∀ x ∈ n₂, x ∈ ns) (hn : ∀ env, (assignEach ts env).length = ts.length ∧ (assignEach ts env).findIdx? (·.1) = none) (he : ∀ env, assignEach (t :: ts) env = (false, assign t env) :: assignEach ts env) :
    TAL C k sc ns fr p (t :: ts) (v :: vs) Q := by
  intro env A F s vs' hs R I f r
  cases r with
  | @cons v' vs' _ _ r rs =>
  rw [he]
  refine ⟨?_, by simp [(hn env).1, hl], by simp [List.findIdx?_cons, (hn env).2]⟩
  show wpAny _ _ (do holding vs' (assign t env v'); assignInOrder ((assignEach ts env).map (·.2)) vs') _ _ s
  refine wpAny_bind (wpAny_holding (wpAny_mono (h env A F s v' hs R I f r) (fun _ s₁ ⟨fr₁, p₁, q, I₁, S₁, f₁, m₁⟩ => ?_) fun ζ ζ z => z))
  have a₁ := At.stepA ⟨R, I, f⟩ (S₁.weak asgd_own) I₁ f₁
  refine wpAny_mono (q env A F s₁ vs' hs a₁.room I₁ f₁ (rs.step S₁ (asgd_F f))).1 (fun _ s₂ ⟨fr₂, p₂, q₂, I₂, S₂, f₂, m₂⟩ => ?_) fun ζ ζ z => z
  exact ⟨fr₂, p₂, q₂, I₂, (S₁.weak (asgd_mono h1)).trans (S₂.weak (asgd_mono h2)), f₂, m₁.trans m₂⟩

theorem TA_Tuple {ts : List Expr} {kk : Nat} {pos : Pos} {vs : List V} {ns : List Str} {Q : Fm → P → Prop} (h : TAL C k sc ns fr p ts vs Q) : TA C k sc ns fr p (.Tuple ts kk pos) (.tup vs) Q := by
  intro env A F s v' he R I f r
  replace r := VR.inv r; obtain ⟨a, vs', n, rfl, ha, hf, r⟩ := r
  have := h env A F s vs' he R I f r
  refine wpAny_assign_Tuple R.handled ⟨_, ha, rfl, n, rfl⟩ (by rw [this.2, List.size_toArray, r.length]) this.3 fun h' hx => ?_
  have hk : ∀ b o, s.heap.get? b = some o → h'.get? b = some o := fun b o e => hx b o (Nat.ne_of_lt (Heap.lt_size e)) e
  have S : Step NO p s.heap p h' := fun b o e q ζ => ⟨.of (hk b o e), q⟩
  have a₁ : At C k env A F fr p { s with heap := h' } := At.step (s' := { s with heap := h' }) ⟨R, I, f⟩ S (I.keeps hk)
  simp only [List.toList_toArray]
  refine wpAny_mono (h env A F { s with heap := h' } vs' he a₁.room a₁.inv a₁.frm (r.step S fun ζ z => z.elim)).1 (fun _ s₂ ⟨fr₂, p₂, q₂, I₂, S₂, f₂, m₂⟩ => ?_) fun ζ ζ z => z
  exact ⟨fr₂, p₂, q₂, I₂, S.of.trans S₂, f₂, (Same.mk s h' s.toks).trans m₂⟩

inductive PostS (C : Cfg) (env : Env) (F : FS) (p : P) (s : Shared) (Q : Fl → Fm → P → Prop) (fl' : Flow) (s' : Shared) : Prop
  | mk (fl : Fl) (fr' : Fm) (p' : P) (q : Q fl fr' p') (I : Inv C F p' s'.heap) (S : Step (own env) p s.heap p' s'.heap) (f : FrR C env F fr' p' s'.heap) (r : FlR s'.heap F p' fl' fl) (m : Same s s') : PostS C env F p s Q fl' s'
noncomputable def TS (C : Cfg) (k : Nat) (sc : Scope) (fr : Fm) (p : P) (st : List Stmt) (Q : Fl → Fm → P → Prop) (X : P → Prop) : Prop :=
  ∀ env A F s, env.scope = sc → Room k A F s.heap → Inv C F p s.heap → FrR C env F fr p s.heap →
    wpAny (model C.prog C.w) A (execs st env) (PostS C env F p s Q) (PostX C (own env) F p s X) s
noncomputable def T1 (C : Cfg) (k : Nat) (sc : Scope) (fr : Fm) (p : P) (st : Stmt) (Q : Fl → Fm → P → Prop) (X : P → Prop) : Prop :=
  ∀ env A F s, env.scope = sc → Room k A F s.heap → Inv C F p s.heap → FrR C env F fr p s.heap →
    wpAny (model C.prog C.w) A (exec st env) (PostS C env F p s Q) (PostX C (own env) F p s X) s
theorem PostS.trans {env : Env} {F : FS} {p₁ : P} {s s₁ : Shared} {Q : Fl → Fm → P → Prop} {v' : Flow} {s' : Shared} (S : Step (own env) p s.heap p₁ s₁.heap) (e : Same s s₁) (h : PostS C env F p₁ s₁ Q v' s') : PostS C env F p s Q v' s' := by
  obtain ⟨v, f, p', q, i, st, a, b, sm⟩ := h
  exact ⟨v, f, p', q, i, S.trans st, a, b, e.trans sm⟩
theorem PostS.imp {env : Env} {F : FS} {s : Shared} {Q Q' : Fl → Fm → P → Prop} {v' : Flow} {s' : Shared} (h : PostS C env F p s Q v' s') (g : ∀ fl fr p, Q fl fr p → Q' fl fr p) : PostS C env F p s Q' v' s' := by
  obtain ⟨v, f, p', q, i, st, a, b, sm⟩ := h
  exact ⟨v, f, p', g _ _ _ q, i, st, a, b, sm⟩
theorem own_there {F : FS} {env : Env} {h : Heap} (f : FrR C env F fr p h) {b : Addr} (z : own env b) : ∃ o, h.get? b = some o ∧ ∀ vs, o.data ≠ .fields vs := by
  rcases z with rfl | ⟨x, e, hc⟩
  · obtain ⟨m, ⟨o, es, ep, ho, hd, _⟩, _⟩ := f.ns
    exact ⟨o, ho, fun vs q => by rw [hd] at q; cases q⟩
  · obtain ⟨c, o, ov, h1, h2, h3⟩ := f.cells x e
    rw [hc] at h1; cases h1
    exact ⟨o, h2, fun vs q => by rw [h3] at q; cases q⟩
theorem PostX.own {F : FS} {env : Env} {s s' : Shared} {e : Value} (I : Inv C F p s.heap) (f : FrR C env F fr p s.heap) (h : PostX C NO F p s X e s') : PostX C (own env) F p s X e s' :=
  let ⟨p', ea, T, he, q, i, st, _, fs, r1, r2, r3, r4⟩ := h
  ⟨p', ea, T, he, q, i, st.of, fun b z => by
    obtain ⟨o, ho, hd⟩ := own_there f z
    obtain ⟨⟨sl, h1, _⟩, _⟩ := st b o ho (I.ofF (own_F f b z)) fun z => z
    exact ⟨_, h1, hd⟩, fun b o h1 h2 h3 ζ => fs b o h1 h2 h3 fun z => z, r1, r2, r3, r4⟩

theorem TS_nil {Q : Fl → Fm → P → Prop} (q : Q .next fr p) : TS C k sc fr p [] Q X :=
  fun env A F s he R I f => wpAny_execs_nil ⟨.next, fr, p, q, I, Step.refl, f, .next, Same.refl s⟩
theorem TS_cons {st : Stmt} {rest : List Stmt} {Q : Fl → Fm → P → Prop} (h : T1 C k sc fr p st (fun fl fr₁ p₁ => match fl with | .next => TS C k sc fr₁ p₁ rest Q X | fl => Q fl fr₁ p₁) X) : TS C k sc fr p (st :: rest) Q X := by
  intro env A F s he R I f
  refine wpAny_execs_cons (wpAny_mono (h env A F s he R I f) (fun fl' s₁ ⟨fl, fr₁, p₁, q, I₁, S₁, f₁, r, m₁⟩ => ?_) fun ζ ζ z => z)
  cases r with
  | next =>
    have a₁ := At.stepA ⟨R, I, f⟩ S₁ I₁ f₁
    exact wpAny_mono (q env A F s₁ he a₁.room I₁ f₁) (fun ζ ζ z => z.trans S₁ m₁) fun ζ ζ z => z.trans S₁ m₁
  | brk => exact ⟨.brk, fr₁, p₁, q, I₁, S₁, f₁, .brk, m₁⟩
  | cont => exact ⟨.cont, fr₁, p₁, q, I₁, S₁, f₁, .cont, m₁⟩
  | ret r => exact ⟨.ret _, fr₁, p₁, q, I₁, S₁, f₁, .ret r, m₁⟩

theorem T1_Assign_Name {x : Str} {pos pos' : Pos} {e : Expr} {Q : Fl → Fm → P → Prop} (hk : sc.names.lookup x = some .local ∨ sc.names.lookup x = some .cell) (h : TE C k sc fr p e (fun v p₁ => ∃ fr', setL x v fr = fr' ∧ Q .next fr' p₁) X)
    (hs : ∀ env, swapsWith e (some (.Name x pos')) pos.line env = pure false) : T1 C k sc fr p (.Assign [.Name x pos'] e pos) Q X := by
  intro env A F s he R I f
  refine wpAny_Assign_Name (wp_then (h env A F s he R I f) (fun v' s₁ v p₁ ⟨fr', hfr, q⟩ I₁ S₁ r m₁ => ?_) fun ζ ζ z => z.own I f) (hs env)
  have a₁ := At.step ⟨R, I, f⟩ S₁ I₁
  subst hfr
  exact store_name I₁ a₁.frm r (by unfold Env.kindOf; rw [he]; exact hk) fun h' tk I' S f' => ⟨.next, _, p₁, q, I', S₁.of.trans (S.weak asgd_own), f', .next, m₁.trans (Same.mk s₁ h' tk)⟩
theorem T1_Assign_Tuple {ts : List Expr} {kk : Nat} {ns : List Str} {pos pos' : Pos} {e : Expr} {Q : Fl → Fm → P → Prop} (h : TE C k sc fr p e (fun v p₁ => TA C k sc ns fr p₁ (.Tuple ts kk pos') v (fun fr' p₂ => Q .next fr' p₂)) X)
    (hs : ∀ env, swapsWithSole [.Tuple ts kk pos'] e pos.line env = pure false := by intro _; rfl) (hw : ∀ env : Env, env.scope = sc → swappedStores [.Tuple ts kk pos'] e env = pure none) : T1 C k sc fr p (.Assign [.Tuple ts kk pos'] e pos) Q X := by
  intro env A F s he R I f
  refine Assign_Tuple (wp_then (h env A F s he R I f) (fun v' s₁ v p₁ q I₁ S₁ r m₁ => ?_) fun ζ ζ z => z.own I f) (hs env) (hw env he)
  have a₁ := At.step ⟨R, I, f⟩ S₁ I₁
  refine wpAny_mono (q env A F s₁ v' he a₁.room I₁ a₁.frm r) (fun _ s₂ ⟨fr₂, p₂, q₂, I₂, S₂, f₂, m₂⟩ => ?_) fun ζ ζ z => z.elim
  exact ⟨.next, fr₂, p₂, q₂, I₂, S₁.of.trans (S₂.weak asgd_own), f₂, .next, m₁.trans m₂⟩
noncomputable def setsL : List Str → List V → Fm → Fm
  | x :: xs, v :: vs, fr => setsL xs vs (setL x v fr)
  | _, _, fr => fr
theorem bind_names {env : Env} {A : Around} {F : FS} : ∀ (xs : List Str) (vs' : List Value) (vs : List V) (fr : Fm) (s : Shared) (Q : Unit → Shared → Prop) (E : Value → Shared → Prop), xs.length = vs.length → Inv C F p s.heap → FrR C env F fr p s.heap → VRL s.heap F p vs' vs →
    (∀ x ∈ xs, env.kindOf x = some .local ∨ env.kindOf x = some .cell) → (∀ h' tk, Inv C F p h' → Step (asgd env xs) p s.heap p h' → FrR C env F (setsL xs vs fr) p h' → Q () { s with heap := h', toks := tk }) →
    wpAny (model C.prog C.w) A (assignInOrder (xs.map fun n => bindName env n) vs') Q E s
  | [], _, vs, fr, s, Q, E, hl, I, f, r, hk, h => by
    cases vs with
    | nil => cases r; exact wpAny_pure (h s.heap s.toks I Step.refl f)
    | cons _ _ => simp at hl
  | x :: xs, _, [], fr, s, Q, E, hl, I, f, r, hk, h => by simp at hl
  | x :: xs, _, v :: vs, fr, s, Q, E, hl, I, f, r, hk, h => by
    cases r with
    | @cons v' vs' _ _ r rs =>
    show wpAny _ _ (do holding vs' (bindName env x v'); assignInOrder (xs.map fun n => bindName env n) vs') _ _ s
    refine wpAny_bind (wpAny_holding (wpAny_bindName (store_name I f r (hk x (by simp)) fun h' tk I' S f' => ?_)))
    refine bind_names xs vs' vs _ { s with heap := h', toks := tk } Q E (by simpa using hl) I' f' (rs.step S (asgd_F f)) (fun y hy => hk y (by simp [hy])) fun h'' tk' I'' S' f'' => ?_
    exact h h'' tk' I'' ((S.weak (asgd_mono fun y hy => by simp at hy; simp [hy])).trans (S'.weak (asgd_mono fun y hy => by simp [hy]))) f''

theorem vrl_rev {h : Heap} {F : FS} {a : List Value} {b : List V} (H : VRL h F p a b) : VRL h F p a.reverse b.reverse := by
  induction a generalizing b with
  | nil => cases H; exact .nil
  | cons x r ih => cases H with | cons e H => simp only [List.reverse_cons]; exact (ih H).append (.one e)
theorem T1_Assign_swap {ts : List Expr} {kk : Nat} {names : List Str} {pos pos' : Pos} {e : Expr} {Q : Fl → Fm → P → Prop} (h : TE C k sc fr p e (fun v p₁ => X2 fun vs fr' => A4 (v = .tup vs) (names.length = vs.length) (setsL names.reverse vs.reverse fr = fr') (Q .next fr' p₁)) X)
    (hk : ∀ x ∈ names, sc.names.lookup x = some .local)
    (hw : ∀ env : Env, env.scope = sc → swappedStores [.Tuple ts kk pos'] e env = pure (some names)) (hs : ∀ env, swapsWithSole [.Tuple ts kk pos'] e pos.line env = pure false := by intro _; rfl) : T1 C k sc fr p (.Assign [.Tuple ts kk pos'] e pos) Q X := by
  intro env A F s he R I f
  refine Assign_Tuple_swapped (names := names) (wp_then (h env A F s he R I f) (fun v' s₁ v p₁ ⟨vs, fr', hv, hl, hfr, q⟩ I₁ S₁ r m₁ => ?_) fun ζ ζ z => z.own I f) (hs env) (hw env he)
  subst hv hfr
  have a₁ := At.step ⟨R, I, f⟩ S₁ I₁
  replace r := VR.inv r; obtain ⟨a, vs', n, rfl, ha, hf, r⟩ := r
  have hl' : names.length = vs'.toArray.size := by rw [List.size_toArray, r.length, hl]
  rw [hl']
  refine wpAny_unpackItems_tuple R.handled ⟨_, ha, rfl, n, rfl⟩ fun h' hx => ?_
  have hkp : ∀ b o, s₁.heap.get? b = some o → h'.get? b = some o := fun b o e => hx b o (Nat.ne_of_lt (Heap.lt_size e)) e
  have S : Step NO p₁ s₁.heap p₁ h' := fun b o e q ζ => ⟨.of (hkp b o e), q⟩
  have I' := I₁.keeps hkp
  simp only [List.toList_toArray]
  refine bind_names names.reverse vs'.reverse vs.reverse fr { s₁ with heap := h' } _ _ (by simp [hl]) I' (a₁.frm.step (fun ζ z => I₁.ofF z) S) (vrl_rev (r.step S fun ζ z => z.elim)) (fun x hx => .inl (by unfold Env.kindOf; rw [he]; exact hk x (by simpa using hx))) fun h'' tk I'' S' f' => ?_
  exact ⟨.next, _, p₁, q, I'', (S₁.of.trans S.of).trans (S'.weak asgd_own), f', .next, m₁.trans (Same.mk s₁ h'' tk)⟩

noncomputable def SetI (C : Cfg) (k : Nat) (o i v : V) (p : P) (Q : P → Prop) : Prop :=
  ∀ A F s o' i' v', Room k A F s.heap → Inv C F p s.heap → VR s.heap F p o' o → VR s.heap F p i' i → VR s.heap F p v' v → wpAny (model C.prog C.w) A (setItem o' i' v') (PostU C F p s (fun ζ => Q)) (fun ζ ζ => False) s
theorem T1_Assign_Sub {o i e : Expr} {pos pos' : Pos} {Q : Fl → Fm → P → Prop} (h : TE C k sc fr p e (fun v p₁ => TE C k sc fr p₁ o (fun ov p₂ => TE C k sc fr p₂ i (fun iv p₃ => SetI C k ov iv v p₃ (fun p₄ => Q .next fr p₄)) X) X) X)
    (hs : ∀ env, swapsWith e (some (.Subscript o i pos')) pos.line env = pure false) : T1 C k sc fr p (.Assign [.Subscript o i pos'] e pos) Q X := by
  intro env A F s he R I f
  refine wpAny_Assign_Subscript (wp_then (h env A F s he R I f) (fun v' s₁ v p₁ q I₁ S₁ r m₁ => ?_) fun ζ ζ z => z.own I f) (hs env)
  have a₁ := At.step ⟨R, I, f⟩ S₁ I₁
  refine wp_then (q env A F s₁ he a₁.room I₁ a₁.frm) (fun o' s₂ ov p₂ q₂ I₂ S₂ r₂ m₂ => ?_) fun ζ ζ z => (z.trans S₁ m₁).own I f
  have a₂ := a₁.step S₂ I₂
  refine wp_then (q₂ env A F s₂ he a₂.room I₂ a₂.frm) (fun i' s₃ iv p₃ q₃ I₃ S₃ r₃ m₃ => ?_) fun ζ ζ z => (z.trans (S₁.trans S₂) (m₁.trans m₂)).own I f
  have a₃ := a₂.step S₃ I₃
  refine wpAny_mono (q₃ A F s₃ o' i' v' a₃.room I₃ (r₂.step S₃ fun ζ z => z.elim) r₃ (r.step (S₂.trans S₃) fun ζ z => z.elim)) (fun _ s₄ ⟨_, p₄, q₄, I₄, S₄, _, m₄⟩ => ?_) fun ζ ζ z => z.elim
  have a₄ := a₃.step S₄ I₄
  exact ⟨.next, fr, p₄, q₄, I₄, (((S₁.trans S₂).trans S₃).trans S₄).of, a₄.frm, .next, ((m₁.trans m₂).trans m₃).trans m₄⟩

theorem T1_If {t : Expr} {a b : List Stmt} {pos : Pos} {Q : Fl → Fm → P → Prop} (h : TT C k sc fr p t (fun c p₁ => (c = true → TS C k sc fr p₁ a Q X) ∧ (c = false → TS C k sc fr p₁ b Q X)) X) : T1 C k sc fr p (.If t a b pos) Q X := by
  intro env A F s he R I f
  refine wpAny_If (wp_then (h env A F s he R I f) (fun c' s₁ c p₁ q I₁ S₁ r m₁ => ?_) fun ζ ζ z => z.own I f)
  cases r
  have a₁ := At.step ⟨R, I, f⟩ S₁ I₁
  cases c' with
  | true => exact wpAny_mono (q.1 rfl env A F s₁ he a₁.room I₁ a₁.frm) (fun ζ ζ z => z.trans S₁.of m₁) fun ζ ζ z => z.trans S₁.of m₁
  | false => exact wpAny_mono (q.2 rfl env A F s₁ he a₁.room I₁ a₁.frm) (fun ζ ζ z => z.trans S₁.of m₁) fun ζ ζ z => z.trans S₁.of m₁
theorem T1_Return {e : Expr} {pos : Pos} {Q : Fl → Fm → P → Prop} (h : TE C k sc fr p e (fun v p₁ => Q (.ret v) fr p₁) X) : T1 C k sc fr p (.Return (some e) pos) Q X := by
  intro env A F s he R I f
  refine wpAny_Return_some (wp_then (h env A F s he R I f) (fun v' s₁ v p₁ q I₁ S₁ r m₁ => ?_) fun ζ ζ z => z.own I f)
  have a₁ := At.step ⟨R, I, f⟩ S₁ I₁
  exact ⟨.ret v, fr, p₁, q, I₁, S₁.of, a₁.frm, .ret r, m₁⟩
theorem T1_ReturnN {pos : Pos} {Q : Fl → Fm → P → Prop} (q : Q (.ret .none) fr p) : T1 C k sc fr p (.Return none pos) Q X :=
  fun env A F s he R I f => wpAny_Return_none ⟨.ret .none, fr, p, q, I, Step.refl, f, .ret .none, Same.refl s⟩
theorem T1_Break {pos : Pos} {Q : Fl → Fm → P → Prop} (q : Q .brk fr p) : T1 C k sc fr p (.Break pos) Q X :=
  fun env A F s he R I f => wpAny_Break ⟨.brk, fr, p, q, I, Step.refl, f, .brk, Same.refl s⟩
theorem T1_Expr {e : Expr} {pos : Pos} {Q : Fl → Fm → P → Prop} (h : TE C k sc fr p e (fun v p₁ => v = .none ∧ Q .next fr p₁) X) (hs : ∀ env, swapsWith e none pos.line env = pure false) : T1 C k sc fr p (.Expr e pos) Q X := by
  intro env A F s he R I f
  refine wpAny_Expr (wp_then (h env A F s he R I f) (fun v' s₁ v p₁ q I₁ S₁ r m₁ => ?_) fun ζ ζ z => z.own I f) (by unfold interactive; rw [f.kind]; rfl) (hs env)
  have a₁ := At.step ⟨R, I, f⟩ S₁ I₁
  obtain ⟨rfl, q⟩ := q
  cases r
  exact ⟨.next, fr, p₁, q, I₁, S₁.of, a₁.frm, .next, m₁⟩

theorem T1_While {t : Expr} {b : List Stmt} {pos : Pos} {Q : Fl → Fm → P → Prop} (J : Nat → Fm → P → Prop) (n : Nat) (h0 : J n fr p)
    (h : ∀ n fr p, J n fr p → TT C k sc fr p t (fun c p₁ => (c = true → TS C k sc fr p₁ b (fun fl fr₂ p₂ => match fl with | .next => ∃ m, m < n ∧ J m fr₂ p₂ | .cont => ∃ m, m < n ∧ J m fr₂ p₂ | .brk => Q .next fr₂ p₂ | .ret v => Q (.ret v) fr₂ p₂) X0) ∧ (c = false → Q .next fr p₁)) X0) :
    T1 C k sc fr p (.While t b [] pos) Q X := by
  intro env A F s he R I f
  refine wpAny_While (codeAny_whileLoop (fun n s' => X2 fun fr' p' => A4 (J n fr' p') (At C k env A F fr' p' s') (Step (own env) p s.heap p' s'.heap) (Same s s')) (fun n s' ⟨fr', p', hJ, a, S, m⟩ => ?_) n ⟨fr, p, h0, ⟨R, I, f⟩, Step.refl, Same.refl s⟩)
  refine wpAny_noRaise ?_
  refine wp_then (h n fr' p' hJ env A F s' he a.room a.inv a.frm) (fun c' s₁ c p₁ q I₁ S₁ r m₁ => ?_) fun ζ ζ z => z.no
  cases r
  have a₁ := a.step S₁ I₁
  cases c' with
  | false => exact wpAny_execs_nil ⟨.next, fr', p₁, q.2 rfl, I₁, S.trans S₁.of, a₁.frm, .next, m.trans m₁⟩
  | true =>
    refine wpAny_mono (q.1 rfl env A F s₁ he a₁.room I₁ a₁.frm) (fun fl' s₂ ⟨fl, fr₂, p₂, q₂, I₂, S₂, f₂, r₂, m₂⟩ => ?_) fun ζ ζ z => z.no.elim
    have a₂ := a₁.stepA S₂ I₂ f₂
    have S' := (S.trans S₁.of).trans S₂
    have m' := (m.trans m₁).trans m₂
    cases r₂ with
    | next => obtain ⟨n', hn', hJ'⟩ := q₂; exact ⟨n', hn', fr₂, p₂, hJ', a₂, S', m'⟩
    | cont => obtain ⟨n', hn', hJ'⟩ := q₂; exact ⟨n', hn', fr₂, p₂, hJ', a₂, S', m'⟩
    | brk => exact ⟨.next, fr₂, p₂, q₂, I₂, S', f₂, .next, m'⟩
    | ret r => exact ⟨.ret _, fr₂, p₂, q₂, I₂, S', f₂, .ret r, m'⟩
end
end Tl
end

section
open PySem PySem.W PySem.Calls PyProof.Rows
set_option linter.unusedVariables false
namespace Tl

structure Turns (C : Cfg) (A : Around) (F : FS) (wr : FS) (it : Value) (t : Expr) (items : List V) (St : Nat → Heap → P → Prop) : Prop where
  mono : ∀ {i : Nat} {h h' : Heap} {p p' : P} {ex : FS}, (∀ b, ex b → F b ∧ ¬ wr b) → (∀ a, F a → p a = none) → Step ex p h p' h' → St i h p → St i h' p'
  next : ∀ {i : Nat} {s : Shared} {p : P} {x : V}, items[i]? = some x → Inv C F p s.heap → St i s.heap p →
    wpAny (model C.prog C.w) A (pyNext it) (fun r s' => ∃ v', r = some v' ∧ wpAny (model C.prog C.w) A (letOwnedTupleGo t it v') (fun ζ s'' => A5 (Inv C F p s''.heap) (Step wr p s.heap p s''.heap) (VR s''.heap F p v' x) (St (i + 1) s''.heap p) (Same s s'')) (fun ζ ζ => False) s') (fun ζ ζ => False) s
  done : ∀ {i : Nat} {s : Shared} {p : P}, items[i]? = none → Inv C F p s.heap → St i s.heap p →
    wpAny (model C.prog C.w) A (pyNext it) (fun r s' => A4 (r = none) (Inv C (fun a => F a ∧ ¬ wr a) p s'.heap) (Step wr p s.heap p s'.heap) (Same s s')) (fun ζ ζ => False) s
  self : ∀ {i : Nat} {s : Shared} {p : P} {Q : Value → Shared → Prop} {E : Value → Shared → Prop}, St i s.heap p → Q it s → wpAny (model C.prog C.w) A (pyIter it) Q E s

section
variable {C : Cfg} {k : Nat} {sc : Scope} {fr : Fm} {p : P} {X : P → Prop}

theorem letgo_plain {M : Model} {A : Around} {E : Value → Shared → Prop} {s : Shared} {t : Expr} {I : Addr} {o : Obj} {v : Value} {Q : Unit → Shared → Prop} (h : s.heap.get? I = some o)
    (hn : ∀ n, o.cls = .type n → (["enumerate", "zip", "dict_itemiterator", "dict_reverseitemiterator", "odict_iterator", "itertools.zip_longest", "itertools.pairwise"] : List String).contains n = false) (hQ : Q () s) : wpAny M A (letOwnedTupleGo t (.ref I) v) Q E s := by
  unfold letOwnedTupleGo
  have main : ∀ a : Addr, wpAny M A (do
      let o ← load I
      match o.cls, o.data with
      | .type n, .fields vs =>
        if (["enumerate", "zip", "dict_itemiterator", "dict_reverseitemiterator", "odict_iterator", "itertools.zip_longest", "itertools.pairwise"] : List String).contains n && vs[0]? == some (rawInt a) then
          rule "for.unpacks-the-owned-tuple"
          updateField I 0 .none
      | _, _ => pure ()) Q E s := by
    intro a
    refine wpAny_bind (wpAny_load h ?_)
    obtain ⟨c, d, dt, sl⟩ := o
    cases c with
    | type n =>
      have := hn n rfl
      cases dt with
      | fields vs =>
        dsimp only
        rw [this, Bool.false_and, if_neg Bool.false_ne_true]
        exact wpAny_pure hQ
      | _ => exact wpAny_pure hQ
    | _ => exact wpAny_pure hQ
  cases t with
  | Tuple _ _ _ => cases v with
    | ref a => exact main a
    | _ => exact wpAny_pure hQ
  | List _ _ => cases v with
    | ref a => exact main a
    | _ => exact wpAny_pure hQ
  | _ => exact wpAny_pure hQ

theorem Turns.of_walks {A : Around} {F : FS} {I : Addr} {fp wrl : List Addr} {n : Nat} {Pt : Nat → Value → Prop} {St₀ : Nat → Heap → Prop} {items : List V} {t : Expr}
    (W : Walks C.prog C.w A I fp wrl n Pt St₀) (hn : items.length = n) (live : ∀ i h, St₀ i h → ∀ b ∈ wrl, ∃ o, h.get? b = some o ∧ ND o) (hl : ∀ {s : Shared} {v : Value} {Q : Unit → Shared → Prop} {E : Value → Shared → Prop} {i : Nat}, St₀ i s.heap → Q () s → wpAny (model C.prog C.w) A (letOwnedTupleGo t (.ref I) v) Q E s) :
    Turns C A F (· ∈ wrl) (.ref I) t items (fun i h p => A5 (St₀ i h) (i ≤ n) (∀ b ∈ wrl, F b) (∀ b ∈ fp, b ∉ wrl → Free F p b ∧ ∃ o, h.get? b = some o ∧ ND o) (∀ j v', Pt j v' → ∃ x, items[j]? = some x ∧ VR h F p v' x)) where
  mono := fun {i h h' p p' ex} hx hp S ⟨st, hi, hw, hf, hv⟩ => by
    have keepW : ∀ b ∈ wrl, ∀ o, h.get? b = some o → h'.get? b = some o := fun b hb o e => (S b o e (hp b (hw b hb)) fun z => (hx b z).2 hb).1.get (by obtain ⟨o', e', nd⟩ := live i h st b hb; rw [e] at e'; cases e'; exact nd)
    have hxF : ∀ b, ex b → F b := fun b z => (hx b z).1
    refine ⟨W.frame i h h' st fun b hb o e => ?_, hi, hw, fun b hb hn => ?_, fun j v' hj => ?_⟩
    · by_cases hbw : b ∈ wrl
      · exact keepW b hbw o e
      · obtain ⟨f, o', e', nd⟩ := hf b hb hbw
        rw [e] at e'; cases e'
        exact (Free.step S hxF e f nd).1
    · obtain ⟨f, o, e, nd⟩ := hf b hb hn
      exact ⟨(Free.step S hxF e f nd).2, o, (Free.step S hxF e f nd).1, nd⟩
    · obtain ⟨x, e, r⟩ := hv j v' hj
      exact ⟨x, e, r.step S hxF⟩
  self := fun {i s p Q E} st hQ => W.self i s Q E st.1 hQ
  next := fun {i s p x} hx Iv ⟨st, hi, hw, hf, hv⟩ => by
    have hlt : i < n := by rw [← hn]; exact (List.getElem?_eq_some_iff.mp hx).1
    refine W.item i s _ _ hlt st fun v' h' tk hPt st' hk => ⟨v', rfl, hl (i := i + 1) st' ?_⟩
    have S : Step (· ∈ wrl) p s.heap p h' := fun b o e q nb => ⟨.of (hk b o nb e), q⟩
    have hwF : ∀ b, b ∈ wrl → F b := hw
    have I' : Inv C F p h' := Iv.keepsF (fun b o e nf => hk b o (fun z => nf (hw b z)) e) fun a fa => by
      by_cases ha : a ∈ wrl
      · obtain ⟨o, e, _⟩ := live _ _ st' a ha; exact ⟨o, e⟩
      · obtain ⟨o, e⟩ := Iv.ex a fa; exact ⟨o, hk a o ha e⟩
    refine ⟨I', S, ?_, ⟨st', hlt, hw, fun b hb hn => ?_, fun j v hj => ?_⟩, Same.mk s h' tk⟩
    · obtain ⟨x', e, r⟩ := hv i v' hPt
      rw [hx] at e; cases e
      exact r.step S hwF
    · obtain ⟨f, o, e, nd⟩ := hf b hb hn
      exact ⟨f, o, hk b o hn e, nd⟩
    · obtain ⟨x, e, r⟩ := hv j v hj
      exact ⟨x, e, r.step S hwF⟩
  done := fun {i s p} hx Iv ⟨st, hi, hw, hf, hv⟩ => by
    have hin : i = n := by
      have := List.getElem?_eq_none_iff.mp hx
      lia -matchEqs
    subst hin
    refine W.done s _ _ st fun h' tk hk => ⟨rfl, ?_, fun b o e q nb => ⟨.of (hk b o nb e), q⟩, Same.mk s h' tk⟩
    have I₁ : Inv C (fun a => F a ∧ ¬ a ∈ wrl) p s.heap := Iv.unmark fun a z => z.1
    have free : ∀ b o, s.heap.get? b = some o → ¬ F b → h'.get? b = some o := fun b o e nf => hk b o (fun z => nf (hw b z)) e
    have S : Step (· ∈ wrl) p s.heap p h' := fun b o e q nb => ⟨.of (hk b o nb e), q⟩
    exact ⟨fun b o e => ⟨free b o (Iv.base b o e).1 (Iv.base b o e).2.1, (I₁.base b o e).2⟩, fun b o e => by
      obtain ⟨f, m, c, hc, r⟩ := Iv.trk b o e
      exact ⟨fun z => f z.1, m, c, free b c hc f, (r.step S hw).weak fun a z => ⟨fun y => z.1 y.1, z.2⟩⟩, fun a z => by
      obtain ⟨o, e⟩ := Iv.ex a z.1
      exact ⟨o, hk a o z.2 e⟩⟩

noncomputable def TFor (C : Cfg) (k : Nat) (sc : Scope) (ns : List Str) (t : Expr) (b : List Stmt) (Q : Fl → Fm → P → Prop) : List V → Fm → P → Prop
  | [], fr, p => Q .next fr p
  | v :: r, fr, p => TA C k sc ns fr p t v (fun fr₁ p₁ => TS C k sc fr₁ p₁ b (fun fl fr₂ p₂ => match fl with
      | .next => TFor C k sc ns t b Q r fr₂ p₂
      | .cont => TFor C k sc ns t b Q r fr₂ p₂
      | .brk => Q .next fr₂ p₂
      | .ret u => Q (.ret u) fr₂ p₂) X0)

inductive PostI (C : Cfg) (k : Nat) (env : Env) (A : Around) (F : FS) (fr : Fm) (p : P) (s : Shared) (t : Expr) (Q : List V → P → Prop) (it : Value) (s' : Shared) : Prop
  | mk (items : List V) (p' : P) (wr : FS) (q : Q items p') (S : Step NO p s.heap p' s'.heap) (m : Same s s') (I : Inv C (fun a => F a ∨ wr a) p' s'.heap) (f : FrR C env (fun a => F a ∨ wr a) fr p' s'.heap) (R : Room k A (fun a => F a ∨ wr a) s'.heap)
    (hwr : ∀ a, wr a → ¬ F a ∧ ∀ o, s.heap.get? a = some o → p a = none → False)
    (hT : ∀ F' : FS, (∀ a, F a ∨ wr a → F' a) → (∀ a o, s'.heap.get? a = some o → F' a → F a ∨ wr a) → ∃ St, Turns C A F' wr it t items St ∧ ∀ h'' : Heap, (∀ b o, s'.heap.get? b = some o → h''.get? b = some o) → St 0 h'' p') : PostI C k env A F fr p s t Q it s'
noncomputable def TI (C : Cfg) (k : Nat) (sc : Scope) (fr : Fm) (p : P) (t : Expr) (e : Expr) (Q : List V → P → Prop) (X : P → Prop) : Prop :=
  ∀ env A F s, env.scope = sc → Room k A F s.heap → Inv C F p s.heap → FrR C env F fr p s.heap →
    wpAny (model C.prog C.w) A (eval e env) (fun x s₁ => wpAny (model C.prog C.w) A (pyIter x) (PostI C k env A F fr p s t Q) (PostX C NO F p s X) s₁) (PostX C NO F p s X) s

theorem step_fresh {ex wr : FS} {p p' : P} {h h' : Heap} (S : Step (fun a => ex a ∨ wr a) p h p' h') (f : ∀ a, wr a → ∀ o, h.get? a = some o → p a = none → False) : Step ex p h p' h' := fun b o e q n => S b o e q fun z => z.elim n fun z => f b z o e q

theorem T1_For {t e : Expr} {b : List Stmt} {pos : Pos} {ns : List Str} {Q : Fl → Fm → P → Prop} (h : TI C k sc fr p t e (fun items p₁ => TFor C k sc ns t b Q items fr p₁) X) (hs : ∀ env x, foldedSetIterable e env x = pure x) : T1 C k sc fr p (.For t e b [] pos) Q X := by
  intro env A F s he R I f
  refine wpAny_For (wpAny_mono (h env A F s he R I f) (fun x s₁ h₁ => wpAny_mono h₁ (fun it s₂ h₂ => ?_) fun ζ ζ z => z.own I f) fun ζ ζ z => z.own I f) (hs env)
  obtain ⟨items, p₂, wr, q, S₂, m₂, I₂, f₂, R₂, hwr, hT⟩ := h₂
  obtain ⟨St, T, st⟩ := hT _ (fun ζ z => z) (fun ζ ζ ζ z => z)
  replace st := st _ fun ζ ζ e => e
  have fin : ∀ {fr' : Fm} {p' : P} {s' : Shared}, Inv C F p' s'.heap → FrR C env (fun a => F a ∨ wr a) fr' p' s'.heap → FrR C env F fr' p' s'.heap := fun ζ z => z.unmark (fun a y => .inl y) f.ownL fun x c e => (f.ownC x c e).1
  have hown : ∀ a, own env a → (F a ∨ wr a) ∧ ¬ wr a := fun a z => ⟨.inl (own_F f a z), fun y => (hwr a y).1 (own_F f a z)⟩
  refine codeAny_forLoop_any (fun n s' => X3 fun i fr' p' => A7 (i ≤ items.length) (n = items.length + 1 - i) (TFor C k sc ns t b Q (items.drop i) fr' p') (At C k env A (fun a => F a ∨ wr a) fr' p' s') (St i s'.heap p') (Step (fun a => own env a ∨ wr a) p s.heap p' s'.heap) (Same s s')) (fun n s' ⟨i, fr', p', hi, hn, q, a, st, S, m⟩ => ?_) _ ⟨0, fr, p₂, Nat.zero_le _, rfl, by simpa using q, ⟨R₂, I₂, f₂⟩, st, S₂.of, m₂⟩
  refine wpAny_noRaise ?_
  cases hx : items[i]? with
  | none =>
    refine wpAny_mono (T.done hx a.inv st) (fun r s₃ ⟨hr, I₃, S₃, m₃⟩ => ?_) fun ζ ζ z => z
    subst hr
    have hin : i = items.length := by have := List.getElem?_eq_none_iff.mp hx; lia -matchEqs
    rw [hin, List.drop_length] at q
    have I₄ : Inv C F p' s₃.heap := I₃.unmark fun a z => ⟨.inl z, fun y => (hwr a y).1 z⟩
    have f₃ : FrR C env (fun a => (F a ∨ wr a) ∧ ¬ wr a) fr' p' s₃.heap := by
      have hp : ∀ a, F a → p' a = none := fun x z => a.inv.ofF (.inl z)
      have S' : Step wr p' s'.heap p' s₃.heap := S₃
      have keepF : ∀ c o, F c → s'.heap.get? c = some o → Kept s₃.heap c o := fun c o z e => (S' c o e (hp c z) fun y => (hwr c y).1 z).1
      have wk : ∀ {v : Value} {d : V}, VR s'.heap (fun a => F a ∨ wr a) p' v d → VR s₃.heap (fun a => (F a ∨ wr a) ∧ ¬ wr a) p' v d := fun r => (r.step S' fun ζ z => .inr z).weak fun a z => ⟨fun y => z.1 y.1, z.2⟩
      have f := a.frm
      exact ⟨f.kind, f.glob, f.blt, ⟨f.ownL, (hown _ (.inl rfl)).2⟩, fun x c e => ⟨⟨(f.ownC x c e).1, fun y => by
          have := (f.ownC x c e).1
          rename_i f0 _ _ _ _ _
          exact (hwr c y).1 (f0.ownC x c e).1⟩, (f.ownC x c e).2⟩, f.inj,
        fun x e => let ⟨c, o, ov, h1, h2, h3⟩ := f.cells x e; ⟨c, o, ov, h1, (keepF c o (own_F ‹FrR C env F fr p s.heap› c (.inr ⟨x, e, h1⟩)) h2).get (nd_cell h3), h3⟩,
        let ⟨m, ⟨o, es, ep, ho, r⟩, g⟩ := f.ns; let ⟨sl, ho', _⟩ := keepF _ _ (own_F ‹FrR C env F fr p s.heap› _ (.inl rfl)) ho; ⟨m, ⟨{ o with slots := sl }, es, ep, ho', r⟩, fun x v e q => let ⟨v', h1, h2⟩ := g x v e q; ⟨v', h1, wk h2⟩⟩,
        fun x v e q => let ⟨c, o, v', h1, h2, h3, h4⟩ := f.cv x v e q; ⟨c, o, v', h1, (keepF c o (own_F ‹FrR C env F fr p s.heap› c (.inr ⟨x, q, h1⟩)) h2).get (nd_cell h3), h3, wk h4⟩⟩
    refine wpAny_execs_nil ⟨.next, fr', p', q, I₄, ?_, f₃.unmark (fun a z => ⟨.inl z, fun y => (hwr a y).1 z⟩) f.ownL fun x c e => (f.ownC x c e).1, .next, m.trans m₃⟩
    exact step_fresh (S.trans (S₃.weak fun ζ z => .inr z)) fun a z => (hwr a z).2
  | some x =>
    have hlt : i < items.length := (List.getElem?_eq_some_iff.mp hx).1
    refine wpAny_mono (T.next hx a.inv st) (fun r s₃ ⟨v', hr, h₃⟩ => ?_) fun ζ ζ z => z
    subst hr
    refine wpAny_mono h₃ (fun _ s₄ ⟨I₄, S₄, r₄, st₄, m₄⟩ => ?_) fun ζ ζ z => z.elim
    rw [List.drop_eq_getElem_cons hlt] at q
    have hxi : items[i] = x := by rw [List.getElem?_eq_getElem hlt] at hx; exact Option.some.inj hx
    rw [hxi] at q
    have hp : ∀ a, (F a ∨ wr a) → p' a = none := fun y z => a.inv.ofF z
    have f₄ : FrR C env (fun a => F a ∨ wr a) fr' p' s₄.heap := by
      have keepF : ∀ c o, own env c → s'.heap.get? c = some o → Kept s₄.heap c o := fun c o z e => (S₄ c o e (hp c (hown c z).1) (hown c z).2).1
      have f := a.frm
      exact ⟨f.kind, f.glob, f.blt, f.ownL, f.ownC, f.inj,
        fun x e => let ⟨c, o, ov, h1, h2, h3⟩ := f.cells x e; ⟨c, o, ov, h1, (keepF c o (.inr ⟨x, e, h1⟩) h2).get (nd_cell h3), h3⟩,
        let ⟨m, ⟨o, es, ep, ho, r⟩, g⟩ := f.ns; let ⟨sl, ho', _⟩ := keepF _ _ (.inl rfl) ho; ⟨m, ⟨{ o with slots := sl }, es, ep, ho', r⟩, fun x v e q => let ⟨v', h1, h2⟩ := g x v e q; ⟨v', h1, h2.step S₄ fun ζ z => .inr z⟩⟩,
        fun x v e q => let ⟨c, o, v', h1, h2, h3, h4⟩ := f.cv x v e q; ⟨c, o, v', h1, (keepF c o (.inr ⟨x, q, h1⟩) h2).get (nd_cell h3), h3, h4.step S₄ fun ζ z => .inr z⟩⟩
    have R₄ : Room k A (fun a => F a ∨ wr a) s₄.heap := ⟨a.room.handled, a.room.depth, a.room.units, by
      obtain ⟨l, e, g⟩ := R.frames
      refine ⟨l, e, fun y hy => ⟨(g y hy).kind, ?_⟩⟩
      obtain ⟨l', e', g'⟩ := a.room.frames
      rw [e] at e'; cases e'
      obtain ⟨L, o, es, n, h1, h2, h3, h4⟩ := (g' y hy).at_
      obtain ⟨L0, _, _, _, k1, k2, _, _⟩ := (g y hy).at_
      rw [h1] at k1; cases k1
      obtain ⟨sl, h3', _⟩ := (S₄ L o h3 (hp L h2) fun z => (hwr L z).1 k2).1
      exact ⟨L, { o with slots := sl }, es, n, h1, h2, h3', h4⟩⟩
    refine wpAny_mono (q env A _ s₄ v' he R₄ I₄ f₄ r₄) (fun _ s₅ ⟨fr₅, p₅, q₅, I₅, S₅, f₅, m₅⟩ => ?_) fun ζ ζ z => z.elim
    have a₅ := At.stepA ⟨R₄, I₄, f₄⟩ (S₅.weak asgd_own) I₅ f₅
    have st₅ := T.mono (fun b z => hown b (asgd_own b z)) (fun y z => I₄.ofF z) S₅ st₄
    refine wpAny_mono (q₅ env A _ s₅ he a₅.room I₅ f₅) (fun fl' s₆ ⟨fl, fr₆, p₆, q₆, I₆, S₆, f₆, r₆, m₆⟩ => ?_) fun ζ ζ z => z.no.elim
    have a₆ := a₅.stepA S₆ I₆ f₆
    have st₆ := T.mono hown (fun y z => I₅.ofF z) S₆ st₅
    have S' : Step (fun a => own env a ∨ wr a) p s.heap p₆ s₆.heap := ((S.trans (S₄.weak fun ζ z => .inr z)).trans (S₅.weak fun ζ z => .inl (asgd_own _ z))).trans (S₆.weak fun ζ z => .inl z)
    have m' := (((m.trans m₄).trans m₅).trans m₆)
    have Sf := step_fresh S' fun a z => (hwr a z).2
    have If : Inv C F p₆ s₆.heap := I₆.unmark fun a z => .inl z
    have ff := f₆.unmark (F := F) (fun a z => .inl z) f.ownL fun x c e => (f.ownC x c e).1
    cases r₆ with
    | next => exact ⟨_, by lia -matchEqs, i + 1, fr₆, p₆, hlt, rfl, q₆, a₆, st₆, S', m'⟩
    | cont => exact ⟨_, by lia -matchEqs, i + 1, fr₆, p₆, hlt, rfl, q₆, a₆, st₆, S', m'⟩
    | brk => exact ⟨.next, fr₆, p₆, q₆, If, Sf, ff, .next, m'⟩
    | ret r => exact ⟨.ret _, fr₆, p₆, q₆, If, Sf, ff, .ret (r.weak fun a z => ⟨fun y => z.1 (.inl y), z.2⟩), m'⟩
end
end Tl
end

section
open PySem PySem.W PySem.Calls PyProof.Rows
set_option linter.unusedVariables false
namespace Tl

inductive ItV : V → List V → Prop
  | tup (l : List V) : ItV (.tup l) l
  | lst (l : List V) : ItV (.lst l) l
  | rng {a b : Int} : -(2 ^ 60) ≤ a → a ≤ 2 ^ 60 → -(2 ^ 60) ≤ b → b ≤ 2 ^ 60 → ItV (.rng a b) ((List.range (b - a).toNat).map fun i : Nat => .int (a + (i : Int)))

section
variable {C : Cfg} {k : Nat} {sc : Scope} {fr : Fm} {p : P} {X : P → Prop}

theorem postI_of {env : Env} {A : Around} {F : FS} {s s₁ : Shared} {t : Expr} {Q : List V → P → Prop} {p₁ : P} {oI : Obj} {items : List V} {fp : List Addr} {n : Nat} {Pt : Nat → Value → Prop} {St₀ : Nat → Heap → Prop}
    (a : At C k env A F fr p₁ s₁) (S : Step NO p s.heap p₁ s₁.heap) (m : Same s s₁) (hoI : oI.isFreed = false)
    (W : Walks C.prog C.w A s₁.heap.objs.size fp [s₁.heap.objs.size] n Pt St₀) (hn : items.length = n) (live : ∀ i h, St₀ i h → ∃ o, A3 (h.get? s₁.heap.objs.size = some o) (ND o) (∀ n, o.cls = .type n → (["enumerate", "zip", "dict_itemiterator", "dict_reverseitemiterator", "odict_iterator", "itertools.zip_longest", "itertools.pairwise"] : List String).contains n = false))
    (hfp : ∀ b ∈ fp, b ≠ s₁.heap.objs.size → Free F p₁ b ∧ ∃ o, s₁.heap.get? b = some o ∧ ND o) (hst : St₀ 0 (s₁.heap.push oI))
    (hv : ∀ j v', Pt j v' → ∃ x, items[j]? = some x ∧ VR s₁.heap F p₁ v' x) (q : Q items p₁) :
    PostI C k env A F fr p s t Q (.ref s₁.heap.objs.size) { s₁ with heap := s₁.heap.push oI } := by
  have hk : ∀ b o, s₁.heap.get? b = some o → (s₁.heap.push oI).get? b = some o := fun b o e => Heap.get?_push_of_some _ e
  have hne : ∀ b o, s₁.heap.get? b = some o → b ≠ s₁.heap.objs.size := fun b o e => Nat.ne_of_lt (Heap.lt_size e)
  have hf : ∀ b o, s₁.heap.get? b = some o → (F b ∨ b ∈ [s₁.heap.objs.size]) → F b := fun b o e z => z.elim id fun z => absurd (List.mem_singleton.mp z) (hne b o e)
  refine ⟨items, p₁, (· ∈ [s₁.heap.objs.size]), q, S.trans fun b o e q ζ => ⟨.of (hk b o e), q⟩, m.trans (Same.mk s₁ _ s₁.toks), a.inv.mark hk hf fun b z => ?_, a.frm.mark hk hf fun ζ z => .inl z, a.room.mark hk fun ζ z => .inl z, fun b z => ?_,
    fun F' hF1 hF2 => ⟨_, Turns.of_walks W hn (fun i h st b hb => ?_) (fun st hQ => ?_), fun h'' hk' => ⟨W.frame 0 _ h'' hst fun b ζ o e => hk' b o e, Nat.zero_le _, fun b hb => hF1 _ (.inr hb), fun b hb hn => ?_, fun j v' hj => ?_⟩⟩⟩
  · rcases z with z | z
    · obtain ⟨o, e⟩ := a.inv.ex b z; exact ⟨o, hk b o e⟩
    · rw [List.mem_singleton.mp z]; exact ⟨_, Heap.get?_push_size _ hoI⟩
  · rw [List.mem_singleton.mp z]
    exact ⟨a.inv.notF, fun o e hp => let ⟨_, e', _⟩ := (S _ o e hp id).1; absurd rfl (hne _ _ e')⟩
  · rw [List.mem_singleton.mp hb]; obtain ⟨o, e, nd, _⟩ := live i h st; exact ⟨o, e, nd⟩
  · obtain ⟨o, e, _, hc⟩ := live _ _ st
    exact letgo_plain e hc hQ
  · have hb' : b ≠ s₁.heap.objs.size := fun z => hn (List.mem_singleton.mpr z)
    obtain ⟨f, o, e, nd⟩ := hfp b hb hb'
    exact ⟨⟨fun z => (hF2 b o (hk b o e) z).elim f.1 hn, f.2⟩, o, hk' b o (hk b o e), nd⟩
  · obtain ⟨x, e, r⟩ := hv j v' hj
    exact ⟨x, e, r.mark (fun b o e => hk' b o (hk b o e)) fun b o e z => hf b o e (hF2 b o (hk b o e) z)⟩

theorem TI_val {t e : Expr} {Q : List V → P → Prop} (h : TE C k sc fr p e (fun v p₁ => ∃ items, ItV v items ∧ Q items p₁) X) : TI C k sc fr p t e Q X := by
  intro env A F s he R I f
  refine wp_then (h env A F s he R I f) (fun v' s₁ v p₁ ⟨items, iv, q⟩ I₁ S₁ r m₁ => ?_) fun ζ ζ z => z
  have a := At.step ⟨R, I, f⟩ S₁ I₁
  refine wpAny_noRaise ?_
  cases iv with
  | tup l =>
    replace r := VR.inv r; obtain ⟨ax, vs, n, rfl, hax, hf, rl⟩ := r
    have ht : s₁.heap.IsTuple ax vs.toArray := ⟨_, hax, rfl, n, rfl⟩
    have hne : ax ≠ s₁.heap.objs.size := Nat.ne_of_lt (Heap.lt_size hax)
    refine wpAny_pyIter_tuple ht (postI_of a S₁ m₁ rfl (Walks.tuple R.handled _ ax hne vs.toArray) (by rw [List.size_toArray, rl.length]) (fun i h st => ?_) (fun b hb hn => ?_) ⟨⟨_, Heap.get?_push_size _ rfl, rfl, rfl⟩, ht.push _⟩ (fun j v' hj => ?_) q)
    · obtain ⟨o, e, c, dt⟩ := st.1
      exact ⟨o, e, nd_fields dt, fun n hn => by rw [c] at hn; cases hn; decide⟩
    · simp at hb
      rcases hb with z | z
      · exact absurd z hn
      · subst z; exact ⟨hf, _, hax, nd_seq rfl⟩
    · exact rl.get' (by simpa using hj)
  | lst l =>
    replace r := VR.inv r; obtain ⟨ax, vs, nn, rfl, hax₀, hf, rl⟩ := r
    have hax : s₁.heap.IsList ax vs.toArray := ⟨_, hax₀, rfl, nn, rfl⟩
    obtain ⟨o, e, c⟩ := id hax
    have hne : ax ≠ s₁.heap.objs.size := Nat.ne_of_lt (Heap.lt_size e)
    refine wpAny_pyIter_list hax (postI_of a S₁ m₁ rfl (Walks.list R.handled _ ax hne vs.toArray) (by rw [List.size_toArray, rl.length]) (fun i h st => ?_) (fun b hb hn => ?_) ⟨⟨_, Heap.get?_push_size _ rfl, rfl, rfl⟩, hax.push _⟩ (fun j v' hj => ?_) q)
    · obtain ⟨o, e, c, dt⟩ := st.1
      exact ⟨o, e, nd_fields dt, fun n hn => by rw [c] at hn; cases hn; decide⟩
    · simp at hb
      rcases hb with z | z
      · exact absurd z hn
      · subst z; obtain ⟨_, n, dt⟩ := c; exact ⟨hf, _, e, nd_seq dt⟩
    · exact rl.get' (by simpa using hj)
  | @rng x y h1 h2 h3 h4 =>
    replace r := VR.inv r; obtain ⟨_, _, _, _, rfl, hr, hf⟩ := r
    have hsm := small_one (a := x) (b := y) (by lia -matchEqs) (by lia -matchEqs) (by lia -matchEqs) (by lia -matchEqs)
    have hsz : Builtin.Range.rangeSize x y 1 = ((y - x).toNat : Int) := by rw [rangeSize_one]; split <;> lia -matchEqs
    refine wpAny_pyIter_range hr hsm (postI_of a S₁ m₁ rfl (Walks.range R.handled _ x 1 (y - x).toNat).bound (by simp) (fun i h st => ?_) (fun b hb hn => ?_) ?_ (fun j v' hj => ?_) q)
    · exact ⟨_, st, nd_fields rfl, fun n hn => by cases hn; decide⟩
    · exact absurd (List.mem_singleton.mp hb) hn
    · show IsRangeIter _ _ _ _ _
      rw [hsz]
      simpa using Heap.get?_push_size _ rfl
    · obtain ⟨hlt, tk, rfl⟩ := hj
      refine ⟨.int (x + (j : Int)), by simp [hlt], ?_⟩
      rw [Int.mul_one]
      exact .int _ _
end
end Tl
end

section
open PySem PySem.W PySem.Calls PyProof.Rows
set_option linter.unusedVariables false
namespace Tl

mutual
inductive Cv (p' p : P) : V → V → Prop
  | same (v : V) : Cv p' p v v
  | frz {a : Addr} {l l' : List V} : p' a = some (.list l) → p a = none → CvL p' p l l' → Cv p' p (.ref a) (.lst l')
  | tup {l l' : List V} : CvL p' p l l' → Cv p' p (.tup l) (.tup l')
  | lst {l l' : List V} : CvL p' p l l' → Cv p' p (.lst l) (.lst l')
inductive CvL (p' p : P) : List V → List V → Prop
  | nil : CvL p' p [] []
  | cons {v v' : V} {l l' : List V} : Cv p' p v v' → CvL p' p l l' → CvL p' p (v :: l) (v' :: l')
end
noncomputable def Le (p p' : P) : Prop := ∀ a, p a = p' a ∨ p a = none
theorem Le.refl (p : P) : Le p p := fun ζ => .inl rfl
theorem Le.free {p p' : P} {F : FS} (h : Le p p') {a : Addr} (f : Free F p' a) : Free F p a := ⟨f.1, by rcases h a with e | e; exact e.trans f.2; exact e⟩

section
variable {C : Cfg} {k : Nat} {sc : Scope} {fr : Fm} {p p' : P} {X : P → Prop} {F : FS} {h : Heap}

theorem VR.conv (I : Inv C F p' h) (le : Le p p') {v w : V} (c : Cv p' p v w) : ∀ {v' : Value}, VR h F p' v' v → VR h F p v' w :=
  Cv.rec (motive_1 := fun v w ζ => ∀ {v' : Value}, VR h F p' v' v → VR h F p v' w) (motive_2 := fun v w ζ => ∀ {v' : List Value}, VRL h F p' v' v → VRL h F p v' w) (fun ζ ζ r => r.weak fun ζ f => le.free f)
    (fun e n ζ ih ζ r => by
      obtain ⟨f, _, o, ho, vs, ep, rfl, rl⟩ := I.trk _ _ e
      obtain rfl := r.inv
      exact .lst ho ⟨f, n⟩ (ih rl))
    (fun ζ ih ζ r => by obtain ⟨a, vs, n, rfl, e, f, q⟩ := r.inv; exact .tup e (le.free f) (ih q))
    (fun ζ ih ζ r => by obtain ⟨a, vs, n, rfl, e, f, q⟩ := r.inv; exact .lst e (le.free f) (ih q))
    (fun r => by cases r; exact .nil) (fun ζ ζ a b ζ r => by cases r with | cons x y => exact .cons (a x) (b y)) c
theorem Inv.drop (I : Inv C F p' h) (le : Le p p') : Inv C F p h where
  base := fun b o e => ⟨(I.base b o e).1, le.free (I.base b o e).2⟩
  trk := fun b o e => by
    rcases le b with q | q
    · rw [e] at q
      obtain ⟨f, m, c, hc, r⟩ := I.trk b o q.symm
      exact ⟨f, m, c, hc, r.weak fun ζ f => le.free f⟩
    · rw [e] at q; cases q
  ex := I.ex
theorem Step.drop {ex : FS} {h' : Heap} {q : P} (S : Step ex q h p' h') (le : Le p p') : Step ex q h p h' := fun b o e n x => by
  obtain ⟨a, c⟩ := S b o e n x
  refine ⟨a, ?_⟩
  rcases le b with z | z
  · exact z.trans c
  · exact z

noncomputable def Back (Q : V → P → Prop) (v : V) (p' : P) : Prop := X2 fun w p => A3 (Le p p') (Cv p' p v w) (Q w p)
noncomputable def flv : Flow → Value
  | .ret v => v
  | _ => .none
noncomputable def Fl.val : Fl → V
  | .ret v => v
  | _ => .none

theorem bindL_skip {kd : Str → Option NameKind} {x : Str} : ∀ {bs : List (Str × Value)} {m : Str → Option Value}, x ∉ bs.map (·.1) → bindL kd bs m x = m x
  | [], m, _ => rfl
  | (n, v) :: r, m, h => by
    simp at h
    show bindL kd r (if kd n = some .local then fun y => if y = n then some v else m y else m) x = m x
    rw [bindL_skip (by simpa using h.2)]
    split
    · show (if x = n then _ else _) = _; rw [if_neg h.1]
    · rfl
theorem bindC_skip {kd : Str → Option NameKind} {x : Str} : ∀ {bs : List (Str × Value)} {m : Str → Option Value}, x ∉ bs.map (·.1) → bindC kd bs m x = m x
  | [], m, _ => rfl
  | (n, v) :: r, m, h => by
    simp at h
    show bindC kd r (if kd n = some .local then m else fun y => if y = n then some v else m y) x = m x
    rw [bindC_skip (by simpa using h.2)]
    split
    · rfl
    · show (if x = n then _ else _) = _; rw [if_neg h.1]
theorem zip_keys {ns : List Str} {vs : List Value} : ∀ y ∈ (ns.zip vs).map (·.1), y ∈ ns := by
  intro y hy
  obtain ⟨q, hq, rfl⟩ := List.mem_map.mp hy
  exact (List.of_mem_zip hq).1
theorem bindL_zip {kd : Str → Option NameKind} {x : Str} {v' : Value} (hk : kd x = some .local) : ∀ {ns : List Str} {vs : List Value} {m : Str → Option Value}, ns.Nodup → (ns.zip vs).lookup x = some v' → bindL kd (ns.zip vs) m x = some v'
  | [], _, _, _, e => by simp at e
  | _ :: _, [], _, _, e => by simp at e
  | n :: ns, v :: vs, m, hn, e => by
    simp only [List.zip_cons_cons, List.lookup_cons] at e
    show bindL kd (ns.zip vs) (if kd n = some .local then fun y => if y = n then some v else m y else m) x = some v'
    obtain ⟨h1, h2⟩ := List.nodup_cons.mp hn
    by_cases hx : x = n
    · subst hx
      simp at e
      rw [bindL_skip (fun z => h1 (zip_keys _ z)), if_pos hk, if_pos rfl, e]
    · have : (x == n) = false := beq_eq_false_iff_ne.mpr hx
      rw [this] at e
      exact bindL_zip hk h2 e
theorem bindC_zip {kd : Str → Option NameKind} {x : Str} {v' : Value} (hk : kd x ≠ some .local) : ∀ {ns : List Str} {vs : List Value} {m : Str → Option Value}, ns.Nodup → (ns.zip vs).lookup x = some v' → bindC kd (ns.zip vs) m x = some v'
  | [], _, _, _, e => by simp at e
  | _ :: _, [], _, _, e => by simp at e
  | n :: ns, v :: vs, m, hn, e => by
    simp only [List.zip_cons_cons, List.lookup_cons] at e
    show bindC kd (ns.zip vs) (if kd n = some .local then m else fun y => if y = n then some v else m y) x = some v'
    obtain ⟨h1, h2⟩ := List.nodup_cons.mp hn
    by_cases hx : x = n
    · subst hx
      simp at e
      rw [bindC_skip (fun z => h1 (zip_keys _ z)), if_neg hk, if_pos rfl, e]
    · have : (x == n) = false := beq_eq_false_iff_ne.mpr hx
      rw [this] at e
      exact bindC_zip hk h2 e
theorem zip_lookup {x : Str} {v : V} : ∀ {ns : List Str} {vs' : List Value} {vs : List V}, VRL h F p vs' vs → (ns.zip vs).lookup x = some v → ∃ v', (ns.zip vs').lookup x = some v' ∧ VR h F p v' v
  | [], _, _, _, e => by simp at e
  | _ :: _, _, [], _, e => by simp at e
  | n :: ns, _, v₀ :: vs, .cons r rs, e => by
    simp only [List.zip_cons_cons, List.lookup_cons] at e ⊢
    cases hx : (x == n) with
    | true => rw [hx] at e; simp only at e ⊢; cases e; exact ⟨_, rfl, r⟩
    | false => rw [hx] at e; exact zip_lookup rs e
theorem cell_in {sc : Scope} {x : Str} (e : sc.names.lookup x = some .cell) (n : Nat) : ∃ c, (cellsFrom n sc.names []).lookup x = some c :=
  Option.isSome_iff_exists.mp (cellsFrom_some sc.names n [] (.inl e))

theorem T_CallF {x : Str} {np pos : Pos} {e : Expr} {es : List Expr} {f : Addr} {oc : Value} {od : Option Addr} {fd : FuncData} {osl : Array (Option Value)} {Q : V → P → Prop} (hk : sc.names.lookup x = some .globalImplicit) (hg : nsIn C.K mainGlobals x = some (some (.ref f)))
    (ho : C.K.lookup f = some ⟨oc, od, .func fd, osl⟩) (h : TAs C k sc fr p (e :: es) (fun vs p₁ => TC C k (.ref f) vs p₁ Q X) X) (he : ∀ env, starEach (e :: es) env = (false, eval e env) :: starEach es env)
    (hd : (x == ("__debug__" : Str)) = false) : TE C k sc fr p (.Call (.Name x np) (e :: es) [] pos) Q X := by
  intro env A F s hs R I f'
  refine wpAny_Call_ofName (name_global I f' (by unfold Env.kindOf; rw [hs]; exact hk) hg ?_ hd)
  have h1 := h env A F s pos hs R I f'
  show wpAny _ _ (callWith pos (.ref f) [] (backTo pos (starEach (e :: es) env)) []) _ _ s
  rw [he] at h1 ⊢
  refine callWith_function (fd := fd) (o := ⟨oc, od, .func fd, osl⟩) (evalArgs_plain (wp_then h1 (fun vs' s₁ vs p₁ q I₁ S₁ r m₁ => ?_) fun ζ ζ z => z))
  have a := At.step ⟨R, I, f'⟩ S₁ I₁
  refine ⟨⟨I₁.keep _ _ (C.X _ _ ho), rfl⟩, ?_⟩
  exact wpAny_mono (q A F s₁ vs' a.room I₁ r) (fun ζ ζ z => z.trans S₁ m₁) fun ζ ζ z => z.trans S₁ m₁
end
end Tl
end

section
open PySem PySem.W PySem.Calls PyProof.Rows
set_option linter.unusedVariables false
namespace Tl

mutual
noncomputable def toD : V → PyData
  | .bool b => .bool b
  | .int i => .int i
  | .str s => .str s
  | .tup l => .tuple (toDs l)
  | .lst l => .list (toDs l)
  | _ => .none
noncomputable def toDs : List V → List PyData
  | [] => []
  | v :: r => toD v :: toDs r
end
mutual
noncomputable def eqV : V → V → Bool
  | .none, y => match y with | .none => true | _ => false
  | .bool a, y => match y with | .bool b => a == b | .int j => (if a then 1 else 0) == j | _ => false
  | .int i, y => match y with | .bool b => i == (if b then 1 else 0) | .int j => i == j | _ => false
  | .str x, y => match y with | .str z => x == z | _ => false
  | .lst xs, y => match y with | .lst ys => eqVs xs ys | _ => false
  | .tup xs, y => match y with | .tup ys => eqVs xs ys | _ => false
  | .rng _ _, _ => false
  | .ref _, _ => false
noncomputable def eqVs : List V → List V → Bool
  | [], ys => ys.isEmpty
  | x :: xs, ys => match ys with | [] => false | y :: ys => eqV x y && eqVs xs ys
end
mutual
noncomputable def pl : Nat → V → Bool
  | _, .none => true
  | _, .bool _ => true
  | _, .int _ => true
  | _, .str s => PyData.strOk s
  | n, .tup l => match n with | 0 => false | n + 1 => pls n l
  | n, .lst l => match n with | 0 => false | n + 1 => pls n l
  | _, .rng _ _ => false
  | _, .ref _ => false
noncomputable def pls : Nat → List V → Bool
  | _, [] => true
  | n, v :: r => pl n v && pls n r
end
noncomputable def isN : V → Bool
  | .none => true
  | _ => false
theorem pls_cons {n : Nat} {v : V} {r : List V} (h : pls n (v :: r) = true) : pl n v = true ∧ pls n r = true := (Bool.and_eq_true _ _).mp h
mutual
theorem eqv_toD : ∀ (n m : Nat) (a b : V), pl n a = true → pl m b = true → PyData.eqv (toD a) (toD b) = eqV a b
  | n, m, a, b, ha, hb => by
    cases a <;> cases b <;> first
      | rfl
      | exact (Bool.false_ne_true ha).elim
      | exact (Bool.false_ne_true hb).elim
      | (cases n with
         | zero => exact (Bool.false_ne_true ha).elim
         | succ n => cases m with
           | zero => exact (Bool.false_ne_true hb).elim
           | succ m => exact eqvs_toD n m _ _ ha hb)
theorem eqvs_toD : ∀ (n m : Nat) (a b : List V), pls n a = true → pls m b = true → PyData.eqvAll (toDs a) (toDs b) = eqVs a b
  | _, _, [], [], _, _ => rfl
  | _, _, [], _ :: _, _, _ => rfl
  | _, _, _ :: _, [], _, _ => rfl
  | n, m, x :: xs, y :: ys, ha, hb => by
    show (PyData.eqv (toD x) (toD y) && PyData.eqvAll (toDs xs) (toDs ys)) = (eqV x y && eqVs xs ys)
    rw [eqv_toD n m x y (pls_cons ha).1 (pls_cons hb).1, eqvs_toD n m xs ys (pls_cons ha).2 (pls_cons hb).2]
end
mutual
theorem canLay_pl : ∀ (n : Nat) (a : V), pl n a = true → (toD a).canLay0 = true
  | n, a, ha => by
    cases a <;> first
      | rfl
      | exact (Bool.false_ne_true ha).elim
      | exact ha
      | (cases n with
         | zero => exact (Bool.false_ne_true ha).elim
         | succ n => exact canLays_pl n _ ha)
theorem canLays_pl : ∀ (n : Nat) (a : List V), pls n a = true → PyData.canLayAll0 (toDs a) = true
  | _, [], _ => rfl
  | n, x :: xs, ha => (Bool.and_eq_true _ _).mpr ⟨canLay_pl n x (pls_cons ha).1, canLays_pl n xs (pls_cons ha).2⟩
end
mutual
theorem depth_pl : ∀ (n : Nat) (a : V), pl n a = true → (toD a).depth ≤ n
  | n, a, ha => by
    cases a <;> first
      | exact Nat.zero_le _
      | exact (Bool.false_ne_true ha).elim
      | (cases n with
         | zero => exact (Bool.false_ne_true ha).elim
         | succ n => exact Nat.succ_le_succ (depths_pl n _ ha))
theorem depths_pl : ∀ (n : Nat) (a : List V), pls n a = true → PyData.depthAll (toDs a) ≤ n
  | _, [], _ => Nat.zero_le _
  | n, x :: xs, ha => Nat.max_le.mpr ⟨depth_pl n x (pls_cons ha).1, depths_pl n xs (pls_cons ha).2⟩
end
theorem reads_of {h : Heap} {F : FS} {p : P} (n : Nat) {v' : Value} {v : V} (r : VR h F p v' v) : pl n v = true → ∃ as, Reads h v' (toD v) as :=
  VR.rec (motive_1 := fun v' v ζ => ∀ n, pl n v = true → ∃ as, Reads h v' (toD v) as) (motive_2 := fun v' v ζ => ∀ n, pls n v = true → ∃ as, ReadsAll h v' (toDs v) as) (fun ζ ζ => ⟨_, .none⟩) (fun b ζ ζ => ⟨_, .bool b⟩) (fun i t ζ ζ => ⟨_, .int i t⟩) (fun s t ζ ζ => ⟨_, .str s t⟩)
    (fun e ζ ζ ih n q => by
      cases n with
      | zero => exact (Bool.false_ne_true q).elim
      | succ n => obtain ⟨as, ra⟩ := ih n q; exact ⟨_, .tuple e rfl rfl (by simpa using ra)⟩)
    (fun e ζ ζ ih n q => by
      cases n with
      | zero => exact (Bool.false_ne_true q).elim
      | succ n => obtain ⟨as, ra⟩ := ih n q; exact ⟨_, .list e rfl rfl (by simpa using ra)⟩)
    (fun ζ ζ ζ q => (Bool.false_ne_true q).elim) (fun ζ ζ q => (Bool.false_ne_true q).elim) (fun ζ ζ => ⟨_, .nil⟩)
    (fun ζ ζ a b n q => by
      obtain ⟨as, x⟩ := a n (pls_cons q).1
      obtain ⟨bs, y⟩ := b n (pls_cons q).2
      exact ⟨_, .cons x y⟩) r n
theorem readss_of {h : Heap} {F : FS} {p : P} (n : Nat) {v' : List Value} {v : List V} (r : VRL h F p v' v) : pls n v = true → ∃ as, ReadsAll h v' (toDs v) as := by
  induction r using VRL.rec (motive_1 := fun ζ ζ ζ => True) with
  | nil => exact fun ζ => ⟨_, .nil⟩
  | cons a _ _ ih =>
    intro q
    obtain ⟨as, x⟩ := reads_of n a (pls_cons q).1
    obtain ⟨bs, y⟩ := ih (pls_cons q).2
    exact ⟨_, .cons x y⟩
  | _ => trivial

section
variable {C : Cfg} {k : Nat} {sc : Scope} {fr : Fm} {p : P} {X : P → Prop}

theorem OpC_eq {a b : V} {Q : V → P → Prop} (n m : Nat) (ha : pl n a = true) (hb : pl m b = true) (q : Q (.bool (eqV a b)) p) (hn : n ≤ 100) : OpC C k .Eq a b p Q := by
  intro A F s a' b' R I ra rb
  obtain ⟨_, ra'⟩ := reads_of n ra ha
  obtain ⟨_, rb'⟩ := reads_of m rb hb
  refine SeqAt.compareEq_reads ra' rb' (canLay_pl n a ha) (canLay_pl m b hb) ?_ (post_here I (.bool _) ?_)
  · have := depth_pl n a ha; have := R.units; have : min (toD a).depth (toD b).depth ≤ (toD a).depth := Nat.min_le_left _ _; lia -matchEqs
  · rw [eqv_toD n m a b ha hb]; exact q
theorem OpC_ne {a b : V} {Q : V → P → Prop} (n m : Nat) (ha : pl n a = true) (hb : pl m b = true) (q : Q (.bool (!eqV a b)) p) (hn : n ≤ 100) : OpC C k .NotEq a b p Q := by
  intro A F s a' b' R I ra rb
  obtain ⟨_, ra'⟩ := reads_of n ra ha
  obtain ⟨_, rb'⟩ := reads_of m rb hb
  refine SeqAt.compareNe_reads ra' rb' (canLay_pl n a ha) (canLay_pl m b hb) ?_ (post_here I (.bool _) ?_)
  · have := depth_pl n a ha; have := R.units; have : min (toD a).depth (toD b).depth ≤ (toD a).depth := Nat.min_le_left _ _; lia -matchEqs
  · rw [eqv_toD n m a b ha hb]; exact q
theorem any_eqv {n m : Nat} {a : V} (ha : pl n a = true) : ∀ (l : List V), pls m l = true → ((toDs l).any fun y => PyData.eqv y (toD a)) = l.any fun y => eqV y a
  | [], _ => rfl
  | x :: r, h => by
    show (PyData.eqv (toD x) (toD a) || (toDs r).any fun y => PyData.eqv y (toD a)) = (eqV x a || r.any fun y => eqV y a)
    rw [any_eqv ha r (pls_cons h).2, eqv_toD m n x a (pls_cons h).1 ha]
theorem room_in {A : Around} {F : FS} {h : Heap} {n : Nat} {a : V} {xs : List PyData} (R : Room k A F h) (ha : pl n a = true) (hn : n ≤ 100) : A.units + 1 + min (PyData.depthAll xs) (toD a).depth < cLine := by
  have := depth_pl n a ha; have := R.units; have : min (PyData.depthAll xs) (toD a).depth ≤ (toD a).depth := Nat.min_le_right _ _; lia -matchEqs
theorem OpC_inT {a : V} {l : List V} {Q : V → P → Prop} (n m : Nat) (ha : pl n a = true) (hl : pls m l = true) (q : Q (.bool (l.any fun y => eqV y a)) p) (hn : n ≤ 100) : OpC C k .In a (.tup l) p Q := by
  intro A F s a' b' R I ra rb
  obtain ⟨_, ra'⟩ := reads_of n ra ha
  obtain ⟨_, rb'⟩ := reads_of (m + 1) rb hl
  exact SeqAt.in_tuple_reads rb' ra' (canLays_pl m l hl) (canLay_pl n a ha) (room_in R ha hn) (post_here I (.bool _) (by rw [any_eqv ha l hl]; exact q))
theorem OpC_inL {a : V} {l : List V} {Q : V → P → Prop} (n m : Nat) (ha : pl n a = true) (hl : pls m l = true) (q : Q (.bool (l.any fun y => eqV y a)) p) (hn : n ≤ 100) : OpC C k .In a (.lst l) p Q := by
  intro A F s a' b' R I ra rb
  obtain ⟨_, ra'⟩ := reads_of n ra ha
  obtain ⟨_, rb'⟩ := reads_of (m + 1) rb hl
  exact SeqAt.in_list_reads rb' ra' (canLays_pl m l hl) (canLay_pl n a ha) (room_in R ha hn) (post_here I (.bool _) (by rw [any_eqv ha l hl]; exact q))
theorem OpC_notInT {a : V} {l : List V} {Q : V → P → Prop} (n m : Nat) (ha : pl n a = true) (hl : pls m l = true) (q : Q (.bool (!l.any fun y => eqV y a)) p) (hn : n ≤ 100) : OpC C k .NotIn a (.tup l) p Q := by
  intro A F s a' b' R I ra rb
  obtain ⟨_, ra'⟩ := reads_of n ra ha
  obtain ⟨_, rb'⟩ := reads_of (m + 1) rb hl
  exact SeqAt.notIn_tuple_reads rb' ra' (canLays_pl m l hl) (canLay_pl n a ha) (room_in R ha hn) (post_here I (.bool _) (by rw [any_eqv ha l hl]; exact q))
theorem OpC_notInL {a : V} {l : List V} {Q : V → P → Prop} (n m : Nat) (ha : pl n a = true) (hl : pls m l = true) (q : Q (.bool (!l.any fun y => eqV y a)) p) (hn : n ≤ 100) : OpC C k .NotIn a (.lst l) p Q := by
  intro A F s a' b' R I ra rb
  obtain ⟨_, ra'⟩ := reads_of n ra ha
  obtain ⟨_, rb'⟩ := reads_of (m + 1) rb hl
  exact SeqAt.notIn_list_reads rb' ra' (canLays_pl m l hl) (canLay_pl n a ha) (room_in R ha hn) (post_here I (.bool _) (by rw [any_eqv ha l hl]; exact q))
theorem reads_ref {F : FS} {h : Heap} {a : Addr} {l : List V} {m : Nat} (I : Inv C F p h) (e : p a = some (.list l)) (hl : pls m l = true) : ∃ as, Reads h (.ref a) (.list (toDs l)) as := by
  obtain ⟨_, _, c, hc, vs, n, rfl, r⟩ := I.trk a _ e
  obtain ⟨as, ra⟩ := readss_of m r hl
  exact ⟨_, .list hc rfl rfl (by simpa using ra)⟩
theorem OpC_notInR {a : V} {x : Addr} {l : List V} {Q : V → P → Prop} (n m : Nat) (e : p x = some (.list l)) (ha : pl n a = true) (hl : pls m l = true) (q : Q (.bool (!l.any fun y => eqV y a)) p) (hn : n ≤ 100) : OpC C k .NotIn a (.ref x) p Q := by
  intro A F s a' b' R I ra rb
  obtain rfl := VR.inv rb
  obtain ⟨_, ra'⟩ := reads_of n ra ha
  obtain ⟨_, rb'⟩ := reads_ref I e hl
  exact SeqAt.notIn_list_reads rb' ra' (canLays_pl m l hl) (canLay_pl n a ha) (room_in R ha hn) (post_here I (.bool _) (by rw [any_eqv ha l hl]; exact q))
theorem OpC_isNone {a : V} {Q : V → P → Prop} (ha : ∀ x, a ≠ .ref x) (q : Q (.bool (isN a)) p) : OpC C k .Is a .none p Q := by
  intro A F s a' b' R I ra rb
  obtain rfl := VR.inv rb
  refine is_none (post_here I (?_ : VR s.heap F p _ (.bool (isN a))) q)
  cases ra <;> first | exact .bool _ | (exfalso; exact ha _ rfl)

theorem OpB_add {i j : Int} {Q : V → P → Prop} (q : Q (.int (i + j)) p) : OpB C k .Add (.int i) (.int j) p Q := by
  intro A F s a' b' R I ra rb; obtain ⟨_, rfl⟩ := VR.inv ra; obtain ⟨_, rfl⟩ := VR.inv rb
  exact PyProof.Rows.add_int (post_tok I (.int _ _) q)
theorem OpB_sub {i j : Int} {Q : V → P → Prop} (q : Q (.int (i - j)) p) : OpB C k .Sub (.int i) (.int j) p Q := by
  intro A F s a' b' R I ra rb; obtain ⟨_, rfl⟩ := VR.inv ra; obtain ⟨_, rfl⟩ := VR.inv rb
  exact PyProof.Rows.sub_int (post_tok I (.int _ _) q)
theorem OpB_mul {i j : Int} {Q : V → P → Prop} (hi : Builtin.Int.intBits i ≤ 64) (q : Q (.int (i * j)) p) : OpB C k .Mult (.int i) (.int j) p Q := by
  intro A F s a' b' R I ra rb; obtain ⟨_, rfl⟩ := VR.inv ra; obtain ⟨_, rfl⟩ := VR.inv rb
  exact PyProof.Rows.mul_int (post_tok I (.int _ _) q) (.of_left hi)
theorem OpB_mod {i j : Int} {Q : V → P → Prop} (hj : j ≠ 0) (q : Q (.int (i.fmod j)) p) : OpB C k .Mod (.int i) (.int j) p Q := by
  intro A F s a' b' R I ra rb; obtain ⟨_, rfl⟩ := VR.inv ra; obtain ⟨_, rfl⟩ := VR.inv rb
  exact mod_int' hj (post_tok I (.int _ _) q)
theorem OpB_addB {i j : Bool} {Q : V → P → Prop} (q : Q (.int (b2i i + b2i j)) p) : OpB C k .Add (.bool i) (.bool j) p Q := by
  intro A F s a' b' R I ra rb; obtain rfl := VR.inv ra; obtain rfl := VR.inv rb
  exact add_bool (post_tok I (.int _ _) q)
theorem OpU_neg {i : Int} {Q : V → P → Prop} (q : Q (.int (-i)) p) : OpU C k .USub (.int i) p Q := by
  intro A F s a' R I ra; obtain ⟨_, rfl⟩ := VR.inv ra
  exact neg_int (post_tok I (.int _ _) q)
theorem OpC_lt {i j : Int} {Q : V → P → Prop} (q : Q (.bool (decide (i < j))) p) : OpC C k .Lt (.int i) (.int j) p Q := by
  intro A F s a' b' R I ra rb; obtain ⟨_, rfl⟩ := VR.inv ra; obtain ⟨_, rfl⟩ := VR.inv rb
  exact lt_int (post_here I (.bool _) q)
theorem OpC_le {i j : Int} {Q : V → P → Prop} (q : Q (.bool (decide (i ≤ j))) p) : OpC C k .LtE (.int i) (.int j) p Q := by
  intro A F s a' b' R I ra rb; obtain ⟨_, rfl⟩ := VR.inv ra; obtain ⟨_, rfl⟩ := VR.inv rb
  exact le_int (post_here I (.bool _) q)
theorem OpC_gt {i j : Int} {Q : V → P → Prop} (q : Q (.bool (decide (j < i))) p) : OpC C k .Gt (.int i) (.int j) p Q := by
  intro A F s a' b' R I ra rb; obtain ⟨_, rfl⟩ := VR.inv ra; obtain ⟨_, rfl⟩ := VR.inv rb
  exact gt_int (post_here I (.bool _) q)
theorem OpC_ge {i j : Int} {Q : V → P → Prop} (q : Q (.bool (decide (j ≤ i))) p) : OpC C k .GtE (.int i) (.int j) p Q := by
  intro A F s a' b' R I ra rb; obtain ⟨_, rfl⟩ := VR.inv ra; obtain ⟨_, rfl⟩ := VR.inv rb
  exact ge_int (post_here I (.bool _) q)
end
end Tl
end

section
open PySem PySem.W PySem.Calls PyProof.Rows
set_option linter.unusedVariables false
namespace Tl

section
variable {C : Cfg} {k : Nat} {sc : Scope} {fr : Fm} {p : P} {X : P → Prop}

theorem post_new {F : FS} {s : Shared} {Q : V → P → Prop} {o : Obj} {v : V} (I : Inv C F p s.heap) (hv : (s.heap.push o).get? s.heap.objs.size = some o → Free F p s.heap.objs.size → VR (s.heap.push o) F p (.ref s.heap.objs.size) v) (ho : o.isFreed = false) (q : Q v p) :
    Post C F p s Q (.ref s.heap.objs.size) { s with heap := s.heap.push o } := by
  obtain ⟨I', S⟩ := I.alloc0 o
  exact ⟨v, p, q, I', S, hv (Heap.get?_push_size _ ho) ⟨I.notF, I.fresh⟩, Same.mk s _ s.toks⟩
theorem VRL.push {F : FS} {h : Heap} {o : Obj} {vs : List Value} {l : List V} (I : Inv C F p h) (r : VRL h F p vs l) : VRL (h.push o) F p vs l := r.step (I.alloc0 o).2 fun ζ z => z.elim
theorem post_track {F : FS} {s : Shared} {Q : V → P → Prop} {o : Obj} {w : O} (I : Inv C F p s.heap) (hv : OR C (s.heap.push o) F (put p s.heap.objs.size w) o w) (q : ∀ a, p a = none → Q (.ref a) (put p a w)) :
    Post C F p s Q (.ref s.heap.objs.size) { s with heap := s.heap.push o } := by
  obtain ⟨I', S⟩ := I.alloc hv
  exact ⟨_, _, q _ I.fresh, I', S, .ref _, Same.mk s _ s.toks⟩
theorem VRL.track {F : FS} {h : Heap} {o : Obj} {w : O} {vs : List Value} {l : List V} (I : Inv C F p h) (r : VRL h F p vs l) : VRL (h.push o) F (put p h.objs.size w) vs l :=
  r.step (ex := NO) (fun b x e q ζ => ⟨.of (Heap.get?_push_of_some _ e), by rw [put_ne _ _ (Nat.ne_of_lt (Heap.lt_size e))]; exact q⟩) fun ζ z => z.elim

theorem T_Tuple {es : List Expr} {kk pos} {Q : V → P → Prop} (h : TAs C k sc fr p es (fun vs p₁ => vs.length ≤ 1000 ∧ Q (.tup vs) p₁) X) : TE C k sc fr p (.Tuple es kk pos) Q X := by
  intro env A F s hs R I f
  refine wpAny_Tuple (wp_then (h env A F s _ hs R I f) (fun vs' s₁ vs p₁ ⟨hl, q⟩ I₁ S₁ r m₁ => ⟨by rw [r.length, sizeLine_eq]; lia -matchEqs, ?_⟩) fun ζ ζ z => z)
  exact (post_new (Q := Q) (v := .tup vs) I₁ (fun e f => .tup e f (r.push I₁)) rfl q).trans S₁ m₁
noncomputable def GetI (C : Cfg) (k : Nat) (o i : V) (p : P) (Q : V → P → Prop) : Prop :=
  ∀ A F s o' i', Room k A F s.heap → Inv C F p s.heap → VR s.heap F p o' o → VR s.heap F p i' i → (X2 fun T id => s.TypeIs o' T ∧ typeLookup (.type T) "__getitem__" = pure (some (.builtin id))) ∧ wpAny (model C.prog C.w) A (getItem o' i') (Post C F p s Q) (fun ζ ζ => False) s
theorem T_Sub {e i : Expr} {pos : Pos} {Q : V → P → Prop} (h : TE C k sc fr p e (fun o p₁ => TE C k sc fr p₁ i (fun x p₂ => GetI C k o x p₂ Q) X) X) (hs : ∀ o x, ∃ ops, subscripted i false o x = operate ops (getItem o x)) : TE C k sc fr p (.Subscript e i pos) Q X := by
  intro env A F s he R I f
  refine Subscript_ (wp_then (h env A F s he R I f) (fun o' s₁ o p₁ q₁ I₁ S₁ v₁ m₁ => ?_) fun ζ ζ z => z)
  have a₁ := At.step ⟨R, I, f⟩ S₁ I₁
  refine wp_then (q₁ env A F s₁ he a₁.room I₁ a₁.frm) (fun i' s₂ x p₂ q₂ I₂ S₂ v₂ m₂ => ?_) fun ζ ζ z => z.trans S₁ m₁
  have a₂ := a₁.step S₂ I₂
  obtain ⟨⟨T, id, hT, hl⟩, hg⟩ := q₂ A F s₂ o' i' a₂.room I₂ (v₁.step S₂ fun ζ z => z.elim) v₂
  obtain ⟨ops, ho⟩ := hs o' i'
  exact tail_any hT hl (wpAny_mono hg (fun ζ ζ z => (z.trans S₂ m₂).trans S₁ m₁) fun ζ ζ z => z.elim) ho

theorem GetI_tup {l : List V} {i : Int} {j : Nat} {v : V} {Q : V → P → Prop} (hj : seqIndex? i l.length = some j) (hv : l[j]? = some v) (q : Q v p) (hlo : -(2 ^ 63) ≤ i) (hhi : i < 2 ^ 63) : GetI C k (.tup l) (.int i) p Q := by
  intro A F s o' i' R I ro ri
  obtain ⟨_, rfl⟩ := VR.inv ri
  replace ro := VR.inv ro; obtain ⟨a, vs, n, rfl, e, f, r⟩ := ro
  obtain ⟨y, hy, ry⟩ := r.get hv
  have ht : IsTup s.heap a vs.toArray := ⟨_, e, rfl, n, rfl⟩
  exact ⟨⟨"tuple", _, ht.typeIs, slot_tuple_getitem.lookup⟩, getItem_tuple ht hlo hhi (by simpa [r.length] using hj) (by simpa using hy) (post_here I ry q)⟩
theorem getItem_listV {F : FS} {A : Around} {s : Shared} {a : Addr} {vs : List Value} {n : Nat} {l : List V} {i : Int} {j : Nat} {v : V} {t : Tok} {Q : V → P → Prop} (I : Inv C F p s.heap) (e : s.heap.get? a = some (listOf vs.toArray n)) (r : VRL s.heap F p vs l) (hj : seqIndex? i l.length = some j) (hv : l[j]? = some v) (q : Q v p) (hlo : -(2 ^ 63) ≤ i) (hhi : i < 2 ^ 63) :
    (X2 fun T id => s.TypeIs (.ref a) T ∧ typeLookup (.type T) "__getitem__" = pure (some (.builtin id))) ∧ wpAny (model C.prog C.w) A (getItem (.ref a) (.int i t)) (Post C F p s Q) (fun ζ ζ => False) s := by
  obtain ⟨y, hy, ry⟩ := r.get hv
  have hl : s.heap.IsList a vs.toArray := ⟨_, e, rfl, n, rfl⟩
  refine ⟨⟨"list", _, hl.typeIs, slot_list_getitem.lookup⟩, ?_⟩
  have hlen := r.length
  unfold seqIndex? at hj
  by_cases h0 : i < 0
  · rw [if_pos h0] at hj; dsimp only at hj
    split at hj
    · rename_i hc
      cases hj
      simp at hc
      exact wpAny_getItem_list_neg hl h0 (by rw [List.size_toArray]; lia -matchEqs) hlo (by rw [List.size_toArray, hlen]; simpa using hy) (post_here I ry q)
    · cases hj
  · rw [if_neg h0] at hj; dsimp only at hj
    split at hj
    · cases hj
      exact wpAny_getItem_list hl (by lia -matchEqs) hhi (by simpa using hy) (post_here I ry q)
    · cases hj
theorem GetI_lst {l : List V} {i : Int} {j : Nat} {v : V} {Q : V → P → Prop} (hj : seqIndex? i l.length = some j) (hv : l[j]? = some v) (q : Q v p) (hlo : -(2 ^ 63) ≤ i) (hhi : i < 2 ^ 63) : GetI C k (.lst l) (.int i) p Q := by
  intro A F s o' i' R I ro ri
  obtain ⟨_, rfl⟩ := VR.inv ri
  replace ro := VR.inv ro; obtain ⟨_, _, _, rfl, e, f, r⟩ := ro
  exact getItem_listV I e r hj hv q hlo hhi
theorem GetI_ref {a : Addr} {l : List V} {i : Int} {j : Nat} {v : V} {Q : V → P → Prop} (ha : p a = some (.list l)) (hj : seqIndex? i l.length = some j) (hv : l[j]? = some v) (q : Q v p) (hlo : -(2 ^ 63) ≤ i) (hhi : i < 2 ^ 63) : GetI C k (.ref a) (.int i) p Q := by
  intro A F s o' i' R I ro ri
  obtain ⟨_, rfl⟩ := VR.inv ri
  obtain rfl := VR.inv ro
  obtain ⟨_, _, c, hc, vs, n, rfl, r⟩ := I.trk a _ ha
  exact getItem_listV I hc r hj hv q hlo hhi

theorem fits_len {n : Nat} (h : n ≤ 1000000) : ¬ ((n : Int) ≥ 2 ^ 63) := by lia -matchEqs

theorem OpB_addT {l m : List V} {Q : V → P → Prop} (hl : l.length + m.length ≤ 1000) (q : Q (.tup (l ++ m)) p) : OpB C k .Add (.tup l) (.tup m) p Q := by
  intro A F s a' b' R I ra rb
  replace ra := VR.inv ra; obtain ⟨a, vs, n, rfl, ea, fa, la⟩ := ra
  replace rb := VR.inv rb; obtain ⟨b, ws, n', rfl, eb, fb, lb⟩ := rb
  by_cases h1 : vs.toArray.isEmpty = true
  · have : vs = [] := by simpa using h1
    subst this
    cases la
    exact concat_meets (S := _) (Q := Post C F p s Q) ⟨_, ea, rfl⟩ ⟨_, eb, rfl⟩ noFill_tuple_add seq_tuple_add PySem.F.slot_tuple_add PySem.F.entry_tuple_add (PySem.F.args_tuple_add_2 _ _) (AutoSeq1.tuple___add___tuple_tuple_0 a _ n b _ n' h1) ⟨ea, eb, post_here I (.tup eb fb lb) q⟩
  · by_cases h2 : ws.toArray.isEmpty = true
    · have : ws = [] := by simpa using h2
      subst this
      cases lb
      rw [List.append_nil] at q
      exact concat_meets (S := _) (Q := Post C F p s Q) ⟨_, ea, rfl⟩ ⟨_, eb, rfl⟩ noFill_tuple_add seq_tuple_add PySem.F.slot_tuple_add PySem.F.entry_tuple_add (PySem.F.args_tuple_add_2 _ _) (AutoSeq1.tuple___add___tuple_tuple_1 a _ n b _ n' h1 h2) ⟨ea, eb, post_here I (.tup ea fa la) q⟩
    · refine P.add_tuple ea eb h1 h2 ?_ (by rw [List.size_toArray, List.size_toArray, la.length, lb.length, sizeLine_eq]; lia -matchEqs)
      exact post_new (v := .tup (l ++ m)) I (fun e f => .tup (vs := vs ++ ws) (by simpa using e) f ((la.append lb).push I)) rfl q
theorem OpB_addL {l m : List V} {Q : V → P → Prop} (hl : l.length + m.length ≤ 1000) (q : Q (.lst (l ++ m)) p) : OpB C k .Add (.lst l) (.lst m) p Q := by
  intro A F s a' b' R I ra rb
  replace ra := VR.inv ra; obtain ⟨a, vs, n, rfl, ea, fa, la⟩ := ra
  replace rb := VR.inv rb; obtain ⟨b, ws, n', rfl, eb, fb, lb⟩ := rb
  refine P.add_list ea eb ?_ (by rw [List.size_toArray, List.size_toArray, la.length, lb.length, sizeLine_eq]; lia -matchEqs)
  exact post_new (v := .lst (l ++ m)) I (fun e f => .lst (vs := vs ++ ws) (by simpa using e) f ((la.append lb).push I)) rfl q
end
end Tl
end

section
open PySem PySem.W PySem.Calls PyProof.Rows
set_option linter.unusedVariables false
namespace Tl

section
variable {C : Cfg} {k : Nat} {sc : Scope} {fr : Fm} {p : P} {X : P → Prop}

inductive IsBT : Value → Prop
  | b (id : String) : IsBT (.builtin id)
  | t (T : String) : IsBT (.type T)
theorem T_CallB {x : Str} {np pos : Pos} {e : Expr} {es : List Expr} {v' : Value} {Q : V → P → Prop} (hk : sc.names.lookup x = some .globalImplicit) (hg : nsIn C.K mainGlobals x = some none) (hv : bootBuiltins x = some v') (hb : IsBT v')
    (h : TAs C k sc fr p (e :: es) (fun vs p₁ => TC C k v' vs p₁ Q X) X) (he : ∀ env, starEach (e :: es) env = (false, eval e env) :: starEach es env) (hpl : ∀ env, (backTo pos (starEach es env)).any (·.1) = false)
    (hn : x ≠ "__name__") (hd : (x == ("__debug__" : Str)) = false) : TE C k sc fr p (.Call (.Name x np) (e :: es) [] pos) Q X := by
  intro env A F s hs R I f'
  refine wpAny_Call_ofName (name_builtin I f' (by unfold Env.kindOf; rw [hs]; exact hk) hg hv hn ?_ hd)
  have h1 := h env A F s pos hs R I f'
  show wpAny _ _ (callWith pos v' [] (backTo pos (starEach (e :: es) env)) []) _ _ s
  have h2 : wpAny (model C.prog C.w) A (spliced (backTo pos (starEach (e :: es) env))) (fun vs' s₁ => wpAny (model C.prog C.w) A (call v' ([] ++ vs')) (Post C F p s Q) (PostX C NO F p s X) s₁) (PostX C NO F p s X) s :=
    wp_then h1 (fun vs' s₁ vs p₁ q I₁ S₁ r m₁ => by
      have a := At.step ⟨R, I, f'⟩ S₁ I₁
      exact wpAny_mono (q A F s₁ vs' a.room I₁ r) (fun ζ ζ z => z.trans S₁ m₁) fun ζ ζ z => z.trans S₁ m₁) fun ζ ζ z => z
  rw [he] at h2 ⊢
  have hplain : (backTo pos ((false, eval e env) :: starEach es env)).any (·.1) = false := by show (false || (backTo pos (starEach es env)).any (·.1)) = false; rw [hpl]; rfl
  cases hb with
  | b id => exact Calls.callWith_builtin hplain (evalArgs_plain h2)
  | t T => exact PySem.callWith_type hplain (evalArgs_plain h2)

theorem one_arg {h : Heap} {F : FS} {a : V} {args' : List Value} (r : VRL h F p args' [a]) : ∃ a', args' = [a'] ∧ VR h F p a' a := by
  cases r with
  | cons r rs => cases rs; exact ⟨_, rfl, r⟩
theorem two_args {h : Heap} {F : FS} {a b : V} {args' : List Value} (r : VRL h F p args' [a, b]) : X2 fun a' b' => A3 (args' = [a', b']) (VR h F p a' a) (VR h F p b' b) := by
  cases r with
  | cons r rs => cases rs with
    | cons r2 rs => cases rs; exact ⟨_, _, rfl, r, r2⟩
theorem ints_of {h : Heap} {F : FS} {vs : List Value} {ns : List Int} (r : VRL h F p vs (ns.map .int)) : IntsAre vs ns := by
  induction vs generalizing ns with
  | nil => cases ns with
    | nil => exact .nil
    | cons _ _ => cases r
  | cons v vs ih => cases ns with
    | nil => cases r
    | cons n ns => cases r with | cons a b => cases a; exact .cons _ _ (ih b)
theorem vrl_ints {h : Heap} {F : FS} {vs : List Value} {ns : List Int} (r : IntsAre vs ns) : VRL h F p vs (ns.map .int) := by
  induction r with
  | nil => exact .nil
  | cons n t _ ih => exact .cons (.int n t) ih
theorem post_keep {F : FS} {s : Shared} {Q : V → P → Prop} {v' : Value} {v : V} {h' : Heap} {tk : Nat} (I : Inv C F p s.heap) (hk : ∀ b o, s.heap.get? b = some o → h'.get? b = some o) (r : VR h' F p v' v) (q : Q v p) : Post C F p s Q v' { s with heap := h', toks := tk } :=
  ⟨v, p, q, I.keeps hk, fun b o e q ζ => ⟨.of (hk b o e), q⟩, r, Same.mk s h' tk⟩

theorem TC_lenT {l : List V} {Q : V → P → Prop} (hl : l.length ≤ 1000000) (q : Q (.int l.length) p) : TC C k (.builtin "len") [.tup l] p Q X := by
  intro A F s args' R I r
  obtain ⟨a', rfl, ra⟩ := one_arg r
  replace r := ra
  replace r := VR.inv r; obtain ⟨a, vs, n, rfl, e, f, r⟩ := r
  refine P.len_tuple e ?_ (post_tok I ?_ q)
  · rw [List.size_toArray, r.length]; lia -matchEqs
  · rw [List.size_toArray, r.length]; exact .int _ _
theorem TC_lenL {l : List V} {Q : V → P → Prop} (hl : l.length ≤ 1000000) (q : Q (.int l.length) p) : TC C k (.builtin "len") [.lst l] p Q X := by
  intro A F s args' R I r
  obtain ⟨a', rfl, ra⟩ := one_arg r
  replace r := ra
  replace r := VR.inv r; obtain ⟨a, vs, n, rfl, e, f, r⟩ := r
  refine Calls.call_len_list ⟨_, e, rfl, n, rfl⟩ ?_ (post_tok I ?_ q)
  · rw [List.size_toArray, r.length]; lia -matchEqs
  · rw [List.size_toArray, r.length]; exact .int _ _
theorem TC_lenR {a : Addr} {l : List V} {Q : V → P → Prop} (ha : p a = some (.list l)) (hl : l.length ≤ 1000000) (q : Q (.int l.length) p) : TC C k (.builtin "len") [.ref a] p Q X := by
  intro A F s args' R I r
  obtain ⟨a', rfl, ra⟩ := one_arg r
  replace r := ra
  obtain rfl := VR.inv r
  obtain ⟨_, _, c, hc, vs, n, rfl, r⟩ := I.trk a _ ha
  refine Calls.call_len_list ⟨_, hc, rfl, n, rfl⟩ ?_ (post_tok I ?_ q)
  · rw [List.size_toArray, r.length]; lia -matchEqs
  · rw [List.size_toArray, r.length]; exact .int _ _
theorem TC_abs {i : Int} {Q : V → P → Prop} (q : Q (.int (if i < 0 then -i else i)) p) : TC C k (.builtin "abs") [.int i] p Q X := by
  intro A F s args' R I r
  obtain ⟨a', rfl, ra⟩ := one_arg r
  replace r := ra
  obtain ⟨_, rfl⟩ := VR.inv r
  exact call_abs_int fun u tk => post_tok I (.int _ _) q
theorem TC_int {i : Int} {Q : V → P → Prop} (q : Q (.int i) p) : TC C k (.type "int") [.int i] p Q X := by
  intro A F s args' R I r
  obtain ⟨a', rfl, ra⟩ := one_arg r
  replace r := ra
  obtain ⟨_, rfl⟩ := VR.inv r
  exact call_int_int (post_here I (.int _ _) q)
theorem TC_max2 {i j : Int} {Q : V → P → Prop} (q : Q (.int (if j > i then j else i)) p) : TC C k (.builtin "max") [.int i, .int j] p Q X := by
  intro A F s args' R I r
  obtain ⟨a', b', rfl, r1, r2⟩ := two_args r
  replace r2 := VR.inv r2; obtain ⟨_, rfl⟩ := VR.inv r1; obtain ⟨_, rfl⟩ := r2
  refine max_two_ints R.handled fun h' tk hk => post_keep I hk (v := .int (if j > i then j else i)) ?_ q
  split <;> exact .int _ _
theorem TC_min2 {i j : Int} {Q : V → P → Prop} (q : Q (.int (if j < i then j else i)) p) : TC C k (.builtin "min") [.int i, .int j] p Q X := by
  intro A F s args' R I r
  obtain ⟨a', b', rfl, r1, r2⟩ := two_args r
  replace r2 := VR.inv r2; obtain ⟨_, rfl⟩ := VR.inv r1; obtain ⟨_, rfl⟩ := r2
  refine min_two_ints R.handled fun h' tk hk => post_keep I hk (v := .int (if j < i then j else i)) ?_ q
  split <;> exact .int _ _
theorem TC_sum {ns : List Int} {Q : V → P → Prop} (q : Q (.int ns.sum) p) : TC C k (.builtin "sum") [.lst (ns.map .int)] p Q X := by
  intro A F s args' R I r
  obtain ⟨a', rfl, ra⟩ := one_arg r
  replace r := ra
  replace r := VR.inv r; obtain ⟨a, vs, n, rfl, e, f, r⟩ := r
  have hi := ints_of r
  obtain ⟨xs, ex⟩ := hi.allInts.items
  have hl : s.heap.IsList a (intItems xs) := ⟨_, by rw [e, ex], rfl, n, rfl⟩
  refine sum_intListG R.handled hl fun h' tk t' hk => post_keep I hk (v := .int ns.sum) ?_ q
  have : preSum (numAt xs) xs.size = ns.sum := by
    rw [preSum_eq, List.take_of_length_le (by simp), ← nums_intItems, ← ex]
    show (numsOf vs).sum = _
    rw [hi.numsOf]
  rw [this]; exact .int _ _
theorem TC_sortedL {ns : List Int} {Q : V → P → Prop} (hl : ns.length < 64) (q : ∀ ms : List Int, ms.Perm ns → ms.Pairwise (· ≤ ·) → Q (.lst (ms.map .int)) p) : TC C k (.builtin "sorted") [.lst (ns.map .int)] p Q X := by
  intro A F s args' R I r
  obtain ⟨a', rfl, ra⟩ := one_arg r
  replace r := ra
  replace r := VR.inv r; obtain ⟨a, vs, n, rfl, e, f, r⟩ := r
  have hi := ints_of r
  refine sorted_ints ⟨_, e, rfl, n, rfl⟩ hi (by rw [hi.length]; exact hl) fun out ms h1 h2 h3 => ?_
  have hk : ∀ b o, s.heap.get? b = some o → (sortedAll s.heap vs out).get? b = some o := fun ζ ζ => sortedAll_old
  obtain ⟨c, hc⟩ := sortedAll_at s.heap vs out
  refine post_keep (tk := s.toks) I hk (v := .lst (ms.map .int)) (.lst (vs := out.toList) (n := c) (by simpa using hc) ⟨?_, ?_⟩ (vrl_ints h1)) (q ms h2 h3)
  · intro z
    obtain ⟨o, e⟩ := I.ex _ z
    exact absurd (Heap.lt_size e) (Nat.not_lt.mpr (Nat.le_succ _))
  · cases e : p (s.heap.objs.size + 1) with
    | none => rfl
    | some o =>
      obtain ⟨_, _, c, hc, _⟩ := I.trk _ _ e
      exact absurd (Heap.lt_size hc) (Nat.not_lt.mpr (Nat.le_succ _))
theorem tuple_of {F : FS} {A : Around} {s : Shared} {a : Addr} {vs : List Value} {n : Nat} {l : List V} {Q : V → P → Prop} (I : Inv C F p s.heap) (e : s.heap.get? a = some (listOf vs.toArray n)) (r : VRL s.heap F p vs l) (hl : l.length ≤ 1000000) (q : Q (.tup l) p) :
    wpAny (model C.prog C.w) A (call (.type "tuple") [.ref a]) (Post C F p s Q) (PostX C NO F p s X) s := by
  refine call_tuple_list ⟨_, e, rfl, n, rfl⟩ (fun h' hk => ?_) (by rw [List.size_toArray, r.length, sizeLine_eq]; lia -matchEqs)
  have I' := I.keeps hk
  have S : Step NO p s.heap p h' := fun b o e q ζ => ⟨.of (hk b o e), q⟩
  have := post_new (s := { s with heap := h' }) (Q := Q) (o := { cls := .type "tuple", data := .seq vs.toArray }) (v := .tup l) I' (fun e f => .tup e f ((r.step S fun ζ z => z.elim).push I')) rfl q
  exact this.trans S (Same.mk s h' s.toks)
theorem TC_tupleL {l : List V} {Q : V → P → Prop} (hl : l.length ≤ 1000000) (q : Q (.tup l) p) : TC C k (.type "tuple") [.lst l] p Q X := by
  intro A F s args' R I r
  obtain ⟨a', rfl, ra⟩ := one_arg r
  replace r := ra
  replace r := VR.inv r; obtain ⟨_, _, _, rfl, e, f, r⟩ := r
  exact tuple_of I e r hl q
theorem TC_tupleR {a : Addr} {l : List V} {Q : V → P → Prop} (ha : p a = some (.list l)) (hl : l.length ≤ 1000000) (q : Q (.tup l) p) : TC C k (.type "tuple") [.ref a] p Q X := by
  intro A F s args' R I r
  obtain ⟨a', rfl, ra⟩ := one_arg r
  replace r := ra
  obtain rfl := VR.inv r
  obtain ⟨_, _, c, hc, vs, n, rfl, r⟩ := I.trk a _ ha
  exact tuple_of I hc r hl q
theorem list_of {F : FS} {A : Around} {s : Shared} {a : Addr} {T : String} {o : Obj} {vs : List Value} {n : Nat} {l : List V} {Q : V → P → Prop} (I : Inv C F p s.heap) (hT : T = "list" ∨ T = "tuple") (e : s.heap.get? a = some o) (hc : o.cls = .type T) (hd : o.data = .seq vs.toArray n) (r : VRL s.heap F p vs l) (hl : l.length ≤ 1000000) (q : Q (.lst l) p) :
    wpAny (model C.prog C.w) A (call (.type "list") [.ref a]) (Post C F p s Q) (PostX C NO F p s X) s := by
  refine call_list_seq a hT e hc hd (fun h' c' hk hn => ?_) (by rw [List.size_toArray, r.length, sizeLine_eq]; lia -matchEqs)
  have S : Step NO p s.heap p h' := fun b o e q ζ => ⟨.of (hk b o e), q⟩
  exact post_keep (tk := s.toks) I hk (v := .lst l) (.lst hn ⟨I.notF, I.fresh⟩ (r.step S fun ζ z => z.elim)) q
theorem TC_listT {l : List V} {Q : V → P → Prop} (hl : l.length ≤ 1000000) (q : Q (.lst l) p) : TC C k (.type "list") [.tup l] p Q X := by
  intro A F s args' R I r
  obtain ⟨a', rfl, ra⟩ := one_arg r
  replace r := ra
  replace r := VR.inv r; obtain ⟨_, _, _, rfl, e, f, r⟩ := r
  exact list_of I (.inr rfl) e rfl rfl r hl q
theorem TC_listL {l : List V} {Q : V → P → Prop} (hl : l.length ≤ 1000000) (q : Q (.lst l) p) : TC C k (.type "list") [.lst l] p Q X := by
  intro A F s args' R I r
  obtain ⟨a', rfl, ra⟩ := one_arg r
  replace r := ra
  replace r := VR.inv r; obtain ⟨_, _, _, rfl, e, f, r⟩ := r
  exact list_of I (.inl rfl) e rfl rfl r hl q
theorem TC_range1 {n : Int} {Q : V → P → Prop} (q : Q (.rng 0 n) p) : TC C k (.type "range") [.int n] p Q X := by
  intro A F s args' R I r
  obtain ⟨a', rfl, ra⟩ := one_arg r
  replace r := ra
  obtain ⟨_, rfl⟩ := VR.inv r
  refine call_range_1 ?_
  obtain ⟨I', S⟩ := I.alloc0 { cls := .type "range", data := .fields #[.int 0 s.toks, .int n _, .int 1 (s.toks + 1)] }
  exact ⟨_, p, q, I', S, .rng (IsRange.new ..) ⟨I.notF, I.fresh⟩, Same.mk s _ _⟩
theorem TC_range2 {a b : Int} {Q : V → P → Prop} (q : Q (.rng a b) p) : TC C k (.type "range") [.int a, .int b] p Q X := by
  intro A F s args' R I r
  obtain ⟨a', b', rfl, r1, r2⟩ := two_args r
  replace r2 := VR.inv r2; obtain ⟨_, rfl⟩ := VR.inv r1; obtain ⟨_, rfl⟩ := r2
  refine call_range_2 ?_
  obtain ⟨I', S⟩ := I.alloc0 { cls := .type "range", data := .fields #[.int a _, .int b _, .int 1 s.toks] }
  exact ⟨_, p, q, I', S, .rng (IsRange.new ..) ⟨I.notF, I.fresh⟩, Same.mk s _ _⟩
end
end Tl
end

section
open PySem PySem.W PySem.Calls PyProof.Rows
set_option linter.unusedVariables false
namespace Tl

section
variable {C : Cfg} {k : Nat} {sc : Scope} {fr : Fm} {p : P} {X : P → Prop}

theorem postU_upd {F : FS} {s : Shared} {Q : P → Prop} {a : Addr} {o o' : O} {c' : Obj} {h' : Heap} {tk : Nat} (I : Inv C F p s.heap) (ha : p a = some o) (hs : ∀ b x, b ≠ a → s.heap.get? b = some x → h'.get? b = some x) (hc : h'.get? a = some c') (H : OR C s.heap F p c' o') (q : Q (put p a o')) :
    PostU C F p s (fun ζ => Q) () { s with heap := h', toks := tk } := by
  obtain ⟨I', S⟩ := I.upd ha hs hc H
  exact ⟨(), _, q, I', S, trivial, Same.mk s h' tk⟩
theorem post_upd {F : FS} {s : Shared} {Q : V → P → Prop} {a : Addr} {o o' : O} {c' : Obj} {h' : Heap} {tk : Nat} (I : Inv C F p s.heap) (ha : p a = some o) (hs : ∀ b x, b ≠ a → s.heap.get? b = some x → h'.get? b = some x) (hc : h'.get? a = some c') (H : OR C s.heap F p c' o') (q : Q .none (put p a o')) :
    Post C F p s Q .none { s with heap := h', toks := tk } := by
  obtain ⟨I', S⟩ := I.upd ha hs hc H
  exact ⟨.none, _, q, I', S, .none, Same.mk s h' tk⟩

theorem upd_set {h : Heap} {a : Addr} {vs : List Value} {n j : Nat} {v : Value} (e : h.get? a = some (listOf vs.toArray n)) : ∃ c', (h.update a (Obj.mapSeq (·.setIfInBounds j v))).get? a = some c' ∧ ∃ n', c' = listOf (vs.set j v).toArray n' :=
  ⟨_, Heap.get?_update_self _ e rfl, n, by simp [Obj.mapSeq]⟩
theorem SetI_list {a : Addr} {l : List V} {i : Int} {j : Nat} {v : V} {Q : P → Prop} (ha : p a = some (.list l)) (hj : seqIndex? i l.length = some j) (q : Q (put p a (.list (l.set j v)))) (hlo : -(2 ^ 63) ≤ i) (hhi : i < 2 ^ 63) : SetI C k (.ref a) (.int i) v p Q := by
  intro A F s o' i' v' R I ro ri rv
  obtain ⟨_, rfl⟩ := VR.inv ri
  obtain rfl := VR.inv ro
  obtain ⟨_, _, c, hc, vs, n, rfl, r⟩ := I.trk a _ ha
  have hlen := r.length
  obtain ⟨c', hc', n', rfl⟩ := upd_set (j := j) (v := v') hc
  have fin : PostU C F p s (fun ζ => Q) () { s with heap := s.heap.update a (Obj.mapSeq (·.setIfInBounds j v')) } := postU_upd (o' := .list (l.set j v)) (tk := s.toks) I ha (fun b x n e => (Heap.get?_update_ne _ _ _ _ n).trans e) hc' ⟨_, n', rfl, r.set j rv⟩ q
  unfold seqIndex? at hj
  by_cases h0 : i < 0
  · rw [if_pos h0] at hj; dsimp only at hj
    split at hj
    · rename_i hb
      cases hj
      simp at hb
      refine ki_setBack hc h0 (by rw [List.size_toArray]; lia -matchEqs) hlo ?_
      rw [List.size_toArray, hlen]; exact fin
    · cases hj
  · rw [if_neg h0] at hj; dsimp only at hj
    split at hj
    · rename_i hb
      cases hj
      simp at hb
      exact ki_setAt hc (by lia -matchEqs) hhi (by rw [List.size_toArray]; lia -matchEqs) fin
    · cases hj
theorem TC_append {a : Addr} {l : List V} {v : V} {Q : V → P → Prop} (ha : p a = some (.list l)) (hl : l.length ≤ 1000000) (q : Q .none (put p a (.list (l ++ [v])))) : TC C k (.builtin "list.append") [.ref a, v] p Q X := by
  intro A F s args' R I r
  obtain ⟨a', b', rfl, r1, r2⟩ := two_args r
  obtain rfl := VR.inv r1
  obtain ⟨_, _, c, hc, vs, n, rfl, r⟩ := I.trk a _ ha
  refine append_at hc (fun h' hs hn => ?_) (by rw [List.size_toArray, r.length, sizeLine_eq]; lia -matchEqs)
  exact post_upd (o' := .list (l ++ [v])) (tk := s.toks) I ha (fun b x n e => (hs.2 b n).trans e) hn ⟨vs ++ [b'], n + 1, by simp, r.append (.one r2)⟩ q

noncomputable def atV {κ : Type} [DecidableEq κ] (l : List (κ × V)) (x : κ) : Option V := (l.find? fun kv => kv.1 = x).map (·.2)
noncomputable def setV {κ : Type} [DecidableEq κ] (l : List (κ × V)) (x : κ) (v : V) : List (κ × V) := if l.any (fun kv => kv.1 = x) then l.map (fun kv => if kv.1 = x then (kv.1, v) else kv) else l ++ [(x, v)]
theorem KV.at {κ : Type} [DecidableEq κ] {h : Heap} {F : FS} {vs : List (κ × Value)} {l : List (κ × V)} (H : KV h F p vs l) (x : κ) : match atV l x with | some v => ∃ v', valueAt vs x = some v' ∧ VR h F p v' v | none => valueAt vs x = none := by
  induction H with
  | nil => rfl
  | @cons k v d vs ds r _ ih =>
    by_cases hk : k = x
    · subst hk
      simp [atV, valueAt]; exact r
    · simpa [atV, valueAt, hk] using ih
theorem KV.append {κ : Type} {h : Heap} {F : FS} {vs ws : List (κ × Value)} {l m : List (κ × V)} (H : KV h F p vs l) (G : KV h F p ws m) : KV h F p (vs ++ ws) (l ++ m) := by
  induction H with
  | nil => exact G
  | cons r _ ih => exact .cons r ih
theorem KV.any {κ : Type} [DecidableEq κ] {h : Heap} {F : FS} {vs : List (κ × Value)} {l : List (κ × V)} (H : KV h F p vs l) (x : κ) : vs.any (fun kv => kv.1 = x) = l.any (fun kv => kv.1 = x) := by
  induction H with
  | nil => rfl
  | cons r _ ih => simp [ih]
theorem KV.set {κ : Type} [DecidableEq κ] {h : Heap} {F : FS} {vs : List (κ × Value)} {l : List (κ × V)} (H : KV h F p vs l) (x : κ) {v' : Value} {v : V} (r : VR h F p v' v) : KV h F p (stored vs x v') (setV l x v) := by
  have h2 : KV h F p (vs.map fun kv => if kv.1 = x then (kv.1, v') else kv) (l.map fun kv => if kv.1 = x then (kv.1, v) else kv) := by
    induction H with
    | nil => exact .nil
    | @cons k w d vs ds rr _ ih =>
      by_cases hk : k = x
      · simp only [List.map_cons, hk, if_true]; exact .cons r ih
      · simp only [List.map_cons, hk, if_false]; exact .cons rr ih
  unfold stored setV
  rw [H.any x]
  split
  · exact h2
  · exact H.append (.cons r .nil)
theorem KV.length {κ : Type} {h : Heap} {F : FS} {vs : List (κ × Value)} {l : List (κ × V)} (H : KV h F p vs l) : vs.length = l.length := by
  induction H with
  | nil => rfl
  | cons _ _ ih => simp [ih]
theorem dict_i {F : FS} {h : Heap} {a : Addr} {l : List (Int × V)} (I : Inv C F p h) (ha : p a = some (.di l)) : ∃ kvs, A3 (h.DictOf (intKind C.prog C.w) a kvs) (KV h F p kvs l) ((a == sysModules) = false) := by
  obtain ⟨_, m, c, hc, kvs, hd, r⟩ := I.trk a _ ha
  exact ⟨kvs, Heap.dictOf_iff.mpr ⟨c, hc, hd⟩, r, m⟩
theorem dict_s {F : FS} {h : Heap} {a : Addr} {l : List (Str × V)} (I : Inv C F p h) (ha : p a = some (.ds l)) : ∃ kvs, A3 (h.DictOf (strKind C.prog C.w) a kvs) (KV h F p kvs l) ((a == sysModules) = false) := by
  obtain ⟨_, m, c, hc, kvs, hd, r⟩ := I.trk a _ ha
  exact ⟨kvs, Heap.dictOf_iff.mpr ⟨c, hc, hd⟩, r, m⟩
theorem GetI_di {a : Addr} {l : List (Int × V)} {i : Int} {v : V} {Q : V → P → Prop} (ha : p a = some (.di l)) (hv : atV l i = some v) (q : Q v p) : GetI C k (.ref a) (.int i) p Q := by
  intro A F s o' i' R I ro ri
  obtain ⟨_, rfl⟩ := VR.inv ri; obtain rfl := VR.inv ro
  obtain ⟨kvs, hD, r, m⟩ := dict_i I ha
  have := r.at i
  rw [hv] at this
  obtain ⟨v', e, rv⟩ := this
  exact ⟨⟨"dict", _, hD.typeIs, slot_dict_getitem.lookup⟩, wpAny_getItem_of (intKind_is _ _ _ _) hD.mapOf e (post_tok I rv q)⟩
theorem GetI_ds {a : Addr} {l : List (Str × V)} {i : Str} {v : V} {Q : V → P → Prop} (ha : p a = some (.ds l)) (hv : atV l i = some v) (q : Q v p) : GetI C k (.ref a) (.str i) p Q := by
  intro A F s o' i' R I ro ri
  obtain ⟨_, rfl⟩ := VR.inv ri; obtain rfl := VR.inv ro
  obtain ⟨kvs, hD, r, m⟩ := dict_s I ha
  have := r.at i
  rw [hv] at this
  obtain ⟨v', e, rv⟩ := this
  exact ⟨⟨"dict", _, hD.typeIs, slot_dict_getitem.lookup⟩, wpAny_getItem_of (strKind_is _ _ _ _) hD.mapOf e (post_tok I rv q)⟩
theorem SetI_di {a : Addr} {l : List (Int × V)} {i : Int} {v : V} {Q : P → Prop} (ha : p a = some (.di l)) (hl : l.length ≤ 1000000) (q : Q (put p a (.di (setV l i v)))) : SetI C k (.ref a) (.int i) v p Q := by
  intro A F s o' i' v' R I ro ri rv
  obtain ⟨_, rfl⟩ := VR.inv ri; obtain rfl := VR.inv ro
  obtain ⟨kvs, hD, r, m⟩ := dict_i I ha
  refine wpAny_setItem_pairs (intKind_is _ _ _ _) hD (fun h' hd' hs => ?_) (by rw [r.length, sizeLine_eq]; lia -matchEqs)
  obtain ⟨c', hc', hd'⟩ := Heap.dictOf_iff.mp hd'
  exact postU_upd (o' := .di (setV l i v)) I ha (fun b x n e => (hs.2 b n).trans e) hc' ⟨_, hd', r.set i rv⟩ q
theorem SetI_ds {a : Addr} {l : List (Str × V)} {i : Str} {v : V} {Q : P → Prop} (ha : p a = some (.ds l)) (hl : l.length ≤ 1000000) (q : Q (put p a (.ds (setV l i v)))) : SetI C k (.ref a) (.str i) v p Q := by
  intro A F s o' i' v' R I ro ri rv
  obtain ⟨_, rfl⟩ := VR.inv ri; obtain rfl := VR.inv ro
  obtain ⟨kvs, hD, r, m⟩ := dict_s I ha
  refine wpAny_setItem_pairs (strKind_is _ _ _ _) hD (fun h' hd' hs => ?_) (by rw [r.length, sizeLine_eq]; lia -matchEqs)
  obtain ⟨c', hc', hd'⟩ := Heap.dictOf_iff.mp hd'
  exact postU_upd (o' := .ds (setV l i v)) I ha (fun b x n e => (hs.2 b n).trans e) hc' ⟨_, hd', r.set i rv⟩ q
theorem OpC_notInD {a : Addr} {l : List (Int × V)} {i : Int} {Q : V → P → Prop} (ha : p a = some (.di l)) (q : Q (.bool (!(atV l i).isSome)) p) : OpC C k .NotIn (.int i) (.ref a) p Q := by
  intro A F s i' o' R I ri ro
  obtain ⟨_, rfl⟩ := VR.inv ri; obtain rfl := VR.inv ro
  obtain ⟨kvs, hD, r, m⟩ := dict_i I ha
  refine wpAny_notIn_of (intKind_is _ _ _ _) m hD.mapOf ?_
  have := r.at i
  cases e : atV l i with
  | none => rw [e] at this q; rw [this]; exact post_tok I (.bool _) q
  | some v => rw [e] at this q; obtain ⟨v', e', _⟩ := this; rw [e']; exact post_tok I (.bool _) q
theorem T_Dict0 {pos : Pos} {Q : V → P → Prop} (q : ∀ a, p a = none → Q (.ref a) (put p a (.di []))) : TE C k sc fr p (.Dict [] [] pos) Q X := by
  intro env A F s hs R I f
  refine wpAny_Dict_empty ?_
  obtain ⟨o, ho, hd⟩ := Heap.dictOf_iff.mp (Heap.DictOf.new (knd := intKind C.prog C.w) s.heap)
  have : o = { cls := .type "dict", data := .dict #[] } := by rw [Heap.get?_push_size _ rfl] at ho; exact (Option.some.inj ho).symm
  subst this
  exact post_track (w := .di []) I ⟨_, hd, .nil⟩ q

end
end Tl
end

section
open PySem PySem.W PySem.Calls PyProof.Rows
set_option linter.unusedVariables false
namespace Tl

noncomputable def Sub (fr fr' : Fm) : Prop := ∀ x v, fr.lookup x = some v → fr'.lookup x = some v
theorem Sub.refl (fr : Fm) : Sub fr fr := fun ζ ζ e => e
theorem Sub.trans {a b c : Fm} (h : Sub a b) (g : Sub b c) : Sub a c := fun x v e => g x v (h x v e)
theorem sub_setL {fr : Fm} {x : Str} {v : V} (h : fr.lookup x = none) : Sub fr (setL x v fr) := fun y u e => by
  rw [lookup_setL]
  by_cases hy : y = x
  · subst hy; rw [h] at e; cases e
  · rw [if_neg hy]; exact e

section
variable {C : Cfg} {k : Nat} {sc : Scope} {fr : Fm} {p : P} {X : P → Prop}

theorem FrR.sub {env : Env} {F : FS} {fr' : Fm} {h : Heap} (R : FrR C env F fr' p h) (s : Sub fr fr') : FrR C env F fr p h where
  kind := R.kind
  glob := R.glob
  blt := R.blt
  ownL := R.ownL
  ownC := R.ownC
  inj := R.inj
  cells := R.cells
  ns := let ⟨m, hn, g⟩ := R.ns; ⟨m, hn, fun x v e q => g x v (s x v e) q⟩
  cv := fun x v e q => R.cv x v (s x v e) q
theorem TE_weak {fr' : Fm} {e : Expr} {Q : V → P → Prop} (s : Sub fr fr') (h : TE C k sc fr p e Q X) : TE C k sc fr' p e Q X := fun env A F st he R I f => h env A F st he R I (f.sub s)
theorem TS_weak {fr' : Fm} {e : List Stmt} {Q : Fl → Fm → P → Prop} (s : Sub fr fr') (h : TS C k sc fr p e Q X) : TS C k sc fr' p e Q X := fun env A F st he R I f => h env A F st he R I (f.sub s)
theorem TA_weak {fr' : Fm} {ns : List Str} {t : Expr} {v : V} {Q : Fm → P → Prop} (s : Sub fr fr') (h : TA C k sc ns fr p t v Q) : TA C k sc ns fr' p t v Q := fun env A F st v' he R I f r => h env A F st v' he R I (f.sub s) r
theorem TT_weak {fr' : Fm} {e : Expr} {Q : Bool → P → Prop} (s : Sub fr fr') (h : TT C k sc fr p e Q X) : TT C k sc fr' p e Q X := fun env A F st he R I f => h env A F st he R I (f.sub s)

theorem At.turn {env : Env} {A : Around} {F F₀ wr : FS} {s s' : Shared} (a : At C k env A F fr p s) (hw : ∀ b, wr b → F b) (hd : ∀ b, F₀ b → F b ∧ ¬ wr b) (hown : ∀ b, own env b → F₀ b) (R₀ : Room k A F₀ s.heap) (I' : Inv C F p s'.heap) (S : Step wr p s.heap p s'.heap) : At C k env A F fr p s' := by
  have hp : ∀ b, F b → p b = none := fun y z => a.inv.ofF z
  have keepF : ∀ c o, F₀ c → s.heap.get? c = some o → Kept s'.heap c o := fun c o z e => (S c o e (hp c (hd c z).1) (hd c z).2).1
  have f := a.frm
  refine ⟨⟨a.room.handled, a.room.depth, a.room.units, ?_⟩, I', f.kind, f.glob, f.blt, f.ownL, f.ownC, f.inj, fun x e => ?_, ?_, fun x v e q => ?_⟩
  · obtain ⟨l, e, g⟩ := R₀.frames
    refine ⟨l, e, fun y hy => ⟨(g y hy).kind, ?_⟩⟩
    obtain ⟨L, o, es, n, h1, h2, h3, h4⟩ := (g y hy).at_
    obtain ⟨sl, h3', _⟩ := keepF L o h2 h3
    exact ⟨L, { o with slots := sl }, es, n, h1, (hd L h2).1, h3', h4⟩
  · obtain ⟨c, o, ov, h1, h2, h3⟩ := f.cells x e
    exact ⟨c, o, ov, h1, (keepF c o (hown c (.inr ⟨x, e, h1⟩)) h2).get (nd_cell h3), h3⟩
  · obtain ⟨m, ⟨o, es, ep, ho, r⟩, g⟩ := f.ns
    obtain ⟨sl, ho', _⟩ := keepF _ _ (hown _ (.inl rfl)) ho
    exact ⟨m, ⟨{ o with slots := sl }, es, ep, ho', r⟩, fun x v e q => let ⟨v', h1, h2⟩ := g x v e q; ⟨v', h1, h2.step S hw⟩⟩
  · obtain ⟨c, o, v', h1, h2, h3, h4⟩ := f.cv x v e q
    exact ⟨c, o, v', h1, (keepF c o (hown c (.inr ⟨x, q, h1⟩)) h2).get (nd_cell h3), h3, h4.step S hw⟩
theorem At.turnEnd {env : Env} {A : Around} {F wr : FS} {s s' : Shared} (a : At C k env A (fun b => F b ∨ wr b) fr p s) (hd : ∀ b, wr b → ¬ F b) (hown : ∀ b, own env b → F b) (hC : ∀ x c, env.cells.lookup x = some c → F c) (R₀ : Room k A F s.heap) (I' : Inv C (fun b => (F b ∨ wr b) ∧ ¬ wr b) p s'.heap) (S : Step wr p s.heap p s'.heap) : At C k env A F fr p s' := by
  have hp : ∀ b, F b → p b = none := fun y z => a.inv.ofF (.inl z)
  have keepF : ∀ c o, F c → s.heap.get? c = some o → Kept s'.heap c o := fun c o z e => (S c o e (hp c z) fun y => hd c y z).1
  have wk : ∀ {v : Value} {d : V}, VR s.heap (fun b => F b ∨ wr b) p v d → VR s'.heap F p v d := fun r => (r.step S fun ζ z => .inr z).weak fun a z => ⟨fun y => z.1 (.inl y), z.2⟩
  have f := a.frm
  refine ⟨⟨a.room.handled, a.room.depth, a.room.units, ?_⟩, I'.unmark fun b z => ⟨.inl z, fun y => hd b y z⟩, f.kind, f.glob, f.blt, hown _ (.inl rfl), fun x c e => ⟨hC x c e, (f.ownC x c e).2⟩, f.inj, fun x e => ?_, ?_, fun x v e q => ?_⟩
  · obtain ⟨l, e, g⟩ := R₀.frames
    refine ⟨l, e, fun y hy => ⟨(g y hy).kind, ?_⟩⟩
    obtain ⟨L, o, es, n, h1, h2, h3, h4⟩ := (g y hy).at_
    obtain ⟨sl, h3', _⟩ := keepF L o h2 h3
    exact ⟨L, { o with slots := sl }, es, n, h1, h2, h3', h4⟩
  · obtain ⟨c, o, ov, h1, h2, h3⟩ := f.cells x e
    exact ⟨c, o, ov, h1, (keepF c o (hown c (.inr ⟨x, e, h1⟩)) h2).get (nd_cell h3), h3⟩
  · obtain ⟨m, ⟨o, es, ep, ho, r⟩, g⟩ := f.ns
    obtain ⟨sl, ho', _⟩ := keepF _ _ (hown _ (.inl rfl)) ho
    exact ⟨m, ⟨{ o with slots := sl }, es, ep, ho', r⟩, fun x v e q => let ⟨v', h1, h2⟩ := g x v e q; ⟨v', h1, wk h2⟩⟩
  · obtain ⟨c, o, v', h1, h2, h3, h4⟩ := f.cv x v e q
    exact ⟨c, o, v', h1, (keepF c o (hown c (.inr ⟨x, q, h1⟩)) h2).get (nd_cell h3), h3, wk h4⟩

noncomputable def TTs (C : Cfg) (k : Nat) (sc : Scope) (fr : Fm) : List Expr → P → (Bool → P → Prop) → Prop
  | [], p, Q => Q true p
  | c :: cs, p, Q => TT C k sc fr p c (fun b p₁ => (b = true → TTs C k sc fr cs p₁ Q) ∧ (b = false → Q false p₁)) X0

noncomputable def TLo (body : V → List V → P → (List V → P → Prop) → Prop) (K : List V → P → Prop) : List V → List V → P → Prop
  | [], acc, p => K acc p
  | v :: r, acc, p => body v acc p (TLo body K r)

mutual
noncomputable def TGs (C : Cfg) (k : Nat) (sc : Scope) (L : List Str) (elt : Expr) : List Comprehension → Fm → List V → P → (List V → P → Prop) → Prop
  | [], fr, acc, p, K => acc.length ≤ 1000000 ∧ TE C k sc fr p elt (fun w p' => K (acc ++ [w]) p') X0
  | ⟨t, iter, ifs, _⟩ :: gs, fr, acc, p, K => TI C k sc fr p t iter (fun items p₁ => TLo (fun v acc p K' => TA C k sc L fr p t v (fun fr₁ p₁ => Sub fr fr₁ ∧ TTs C k sc fr₁ ifs p₁ (fun ok p₂ =>
      (ok = true → TGs C k sc L elt gs fr₁ acc p₂ K') ∧ (ok = false → K' acc p₂)))) K items acc p₁) X0
end
noncomputable def tgB (C : Cfg) (k : Nat) (sc : Scope) (L : List Str) (elt t : Expr) (ifs : List Expr) (gs : List Comprehension) (fr : Fm) (v : V) (acc : List V) (p : P) (K' : List V → P → Prop) : Prop :=
  TA C k sc L fr p t v (fun fr₁ p₁ => Sub fr fr₁ ∧ TTs C k sc fr₁ ifs p₁ (fun ok p₂ => (ok = true → TGs C k sc L elt gs fr₁ acc p₂ K') ∧ (ok = false → K' acc p₂)))

theorem tests_sound {env : Env} {A : Around} {F : FS} (he : env.scope = sc) : ∀ (cs : List Expr) (p : P) (s : Shared) (Q : Bool → P → Prop), At C k env A F fr p s → TTs C k sc fr cs p Q →
    wpAny (model C.prog C.w) A (forIn cs true fun c r => if r = true then do let ok ← isTrue c env (eval c env); pure (ForInStep.yield ok) else pure (ForInStep.yield r)) (PostB C F p s Q) (fun ζ ζ => False) s
  | [], p, s, Q, a, h => by
    rw [List.forIn_nil]; exact wpAny_pure (post_here a.inv rfl h)
  | c :: cs, p, s, Q, a, h => by
    rw [List.forIn_cons]
    refine wpAny_bind ?_
    rw [if_pos rfl]
    refine wpAny_bind (wp_then (h env A F s he a.room a.inv a.frm) (fun b' s₁ b p₁ q I₁ S₁ r m₁ => ?_) fun ζ ζ z => z.no)
    cases r
    refine wpAny_pure ?_
    dsimp only
    have a₁ := a.step S₁ I₁
    cases b' with
    | true => exact wpAny_mono (tests_sound he cs p₁ s₁ Q a₁ (q.1 rfl)) (fun ζ ζ z => z.trans S₁ m₁) fun ζ ζ z => z
    | false =>
      have : ∀ (cs : List Expr), wpAny (model C.prog C.w) A (forIn cs false fun c r => if r = true then do let ok ← isTrue c env (eval c env); pure (ForInStep.yield ok) else pure (ForInStep.yield r)) (PostB C F p s Q) (fun ζ ζ => False) s₁ := by
        intro cs
        induction cs with
        | nil => rw [List.forIn_nil]; exact wpAny_pure ⟨false, p₁, q.2 rfl, I₁, S₁, rfl, m₁⟩
        | cons c cs ih => rw [List.forIn_cons]; refine wpAny_bind ?_; rw [if_neg Bool.false_ne_true]; exact wpAny_pure ih
      exact this cs
end


theorem compTurn_last {elt target iter : Expr} {ifs : List Expr} {gens : List Comprehension} {scope : Scope} {pos : Pos} {d : Nat} {it acc : Value} {env : Env} (hd : gens[d]? = some ⟨target, iter, ifs, 0⟩) (hn : gens[d + 1]? = none) :
    compTurn (.ListComp elt gens scope pos) d it acc env = (do
      standAt iter.pos
      match ← pyNext it with
      | none => pure (.done .next)
      | some v =>
        letOwnedTupleGo target it v
        assign target env v
        let mut ok := true
        for c in ifs do
          if ok then ok ← isTrue c env (eval c env)
        if ok then
          (do let _ ← call (.builtin "list.append") [acc, ← eval elt env])
        again (.compLoop (.ListComp elt gens scope pos) d it acc env)) := by
  unfold compTurn
  dsimp only
  rw [hd]
  dsimp only
  rw [hn]
  rfl
theorem compTurn_more {elt target iter t' iter' : Expr} {ifs ifs' : List Expr} {gens : List Comprehension} {scope : Scope} {pos : Pos} {d : Nat} {it acc : Value} {env : Env} (hd : gens[d]? = some ⟨target, iter, ifs, 0⟩) (hn : gens[d + 1]? = some ⟨t', iter', ifs', 0⟩) :
    compTurn (.ListComp elt gens scope pos) d it acc env = (do
      standAt iter.pos
      match ← pyNext it with
      | none => pure (.done .next)
      | some v =>
        letOwnedTupleGo target it v
        assign target env v
        let mut ok := true
        for c in ifs do
          if ok then ok ← isTrue c env (eval c env)
        if ok then
          let x ← eval iter' env
          standAt iter'.pos
          let x ← foldedSetIterable iter' env x
          let _ ← runOwn (.compStart (.ListComp elt gens scope pos) (d + 1) (← holding [x] (pyIter x)) acc env) env
        again (.compLoop (.ListComp elt gens scope pos) d it acc env)) := by
  unfold compTurn
  dsimp only
  rw [hd]
  dsimp only
  rw [hn]
  rfl

section
variable {C : Cfg} {k : Nat} {sc : Scope} {fr : Fm} {p : P} {X : P → Prop}

structure CAt (C : Cfg) (k : Nat) (env : Env) (A : Around) (F : FS) (fr : Fm) (D : Addr) (acc : List V) (p : P) (s : Shared) : Prop where
  at_ : At C k env A F fr p s
  FD : F D
  no : ¬ own env D
  con : X2 fun vs n => s.heap.get? D = some (listOf (List.toArray vs) n) ∧ VRL s.heap F p vs acc
noncomputable def CEnd (C : Cfg) (k : Nat) (env : Env) (A : Around) (F ex : FS) (fr : Fm) (D : Addr) (K : List V → P → Prop) (p : P) (s s' : Shared) : Prop :=
  X2 fun acc' p' => A4 (K acc' p') (CAt C k env A F fr D acc' p' s') (Step ex p s.heap p' s'.heap) (Same s s')
noncomputable def exD (env : Env) (L : List Str) (D : Addr) : FS := fun a => asgd env L a ∨ a = D

theorem CAt.stepA {env : Env} {A : Around} {F : FS} {D : Addr} {acc : List V} {fr' : Fm} {p' : P} {s s' : Shared} (c : CAt C k env A F fr D acc p s) (S : Step (own env) p s.heap p' s'.heap) (I : Inv C F p' s'.heap) (f : FrR C env F fr' p' s'.heap) : CAt C k env A F fr' D acc p' s' := by
  obtain ⟨vs, n, e, r⟩ := c.con
  exact ⟨c.at_.stepA S I f, c.FD, c.no, vs, n, (S D _ e (c.at_.inv.ofF c.FD) c.no).1.get (nd_seq rfl), r.step S (own_F c.at_.frm)⟩
theorem CAt.step {env : Env} {A : Around} {F : FS} {D : Addr} {acc : List V} {p' : P} {s s' : Shared} (c : CAt C k env A F fr D acc p s) (S : Step NO p s.heap p' s'.heap) (I : Inv C F p' s'.heap) : CAt C k env A F fr D acc p' s' := by
  obtain ⟨vs, n, e, r⟩ := c.con
  exact ⟨c.at_.step S I, c.FD, c.no, vs, n, (S D _ e (c.at_.inv.ofF c.FD) id).1.get (nd_seq rfl), r.step S fun ζ z => z.elim⟩
theorem CAt.sub {env : Env} {A : Around} {F : FS} {D : Addr} {acc : List V} {fr' : Fm} {s : Shared} (c : CAt C k env A F fr' D acc p s) (h : Sub fr fr') : CAt C k env A F fr D acc p s :=
  ⟨⟨c.at_.room, c.at_.inv, c.at_.frm.sub h⟩, c.FD, c.no, c.con⟩
theorem comp_append {L : List Str} {env : Env} {A : Around} {F : FS} {D : Addr} {acc : List V} {w : V} {w' : Value} {s : Shared} (c : CAt C k env A F fr D acc p s) (r : VR s.heap F p w' w) (hl : acc.length ≤ 1000000) {E : Value → Shared → Prop} {Q : Value → Shared → Prop}
    (q : ∀ s', CAt C k env A F fr D (acc ++ [w]) p s' → Step (exD env L D) p s.heap p s'.heap → Same s s' → Q .none s') : wpAny (model C.prog C.w) A (call (.builtin "list.append") [.ref D, w']) Q E s := by
  obtain ⟨vs, n, e, rs⟩ := c.con
  refine append_at e (fun h' hs hn => ?_) (by rw [List.size_toArray, rs.length, sizeLine_eq]; lia -matchEqs)
  have S : Step (fun a => a = D) p s.heap p h' := fun b o e q nb => ⟨.of ((hs.2 b nb).trans e), q⟩
  have hF : ∀ b, b = D → F b := fun b z => z ▸ c.FD
  have I' : Inv C F p h' := c.at_.inv.keepsF (fun b o e nf => (hs.2 b (fun z => nf (z ▸ c.FD))).trans e) fun a z => by
    by_cases ha : a = D
    · subst ha; exact ⟨_, hn⟩
    · obtain ⟨o, e⟩ := c.at_.inv.ex a z; exact ⟨o, (hs.2 a ha).trans e⟩
  have keep : ∀ b o, own env b → s.heap.get? b = some o → h'.get? b = some o := fun b o z e => (hs.2 b (fun y => c.no (y ▸ z))).trans e
  have f := c.at_.frm
  refine q { s with heap := h' } ⟨⟨?_, I', f.kind, f.glob, f.blt, f.ownL, f.ownC, f.inj, fun x e => ?_, ?_, fun x v e q => ?_⟩, c.FD, c.no, vs ++ [w'], n + 1, by simpa using hn, (rs.step S hF).append (.one (r.step S hF))⟩ (S.weak fun ζ z => .inr z) (Same.mk s h' s.toks)
  · obtain ⟨l, e1, g⟩ := c.at_.room.frames
    refine ⟨c.at_.room.handled, c.at_.room.depth, c.at_.room.units, l, e1, fun y hy => ⟨(g y hy).kind, ?_⟩⟩
    obtain ⟨L, o, es, m, h1, h2, h3, h4⟩ := (g y hy).at_
    refine ⟨L, o, es, m, h1, h2, (hs.2 L (fun z => ?_)).trans h3, h4⟩
    subst z
    rw [e] at h3; cases h3; cases h4
  · obtain ⟨c', o, ov, h1, h2, h3⟩ := f.cells x e
    exact ⟨c', o, ov, h1, keep c' o (.inr ⟨x, e, h1⟩) h2, h3⟩
  · obtain ⟨m, ⟨o, es, ep, ho, r⟩, g⟩ := f.ns
    exact ⟨m, ⟨o, es, ep, keep _ _ (.inl rfl) ho, r⟩, fun x v e q => let ⟨v', h1, h2⟩ := g x v e q; ⟨v', h1, h2.step S hF⟩⟩
  · obtain ⟨c', o, v', h1, h2, h3, h4⟩ := f.cv x v e q
    exact ⟨c', o, v', h1, keep c' o (.inr ⟨x, q, h1⟩) h2, h3, h4.step S hF⟩

theorem CEnd.trans_dead {env : Env} {A : Around} {F ex : FS} {D : Addr} {K : List V → P → Prop} {p₁ : P} {s s₁ s' : Shared} (S : Step ex p s.heap p₁ s₁.heap) (m : Same s s₁) (h : CEnd C k env A F ex fr D K p₁ s₁ s') : CEnd C k env A F ex fr D K p s s' := by
  obtain ⟨a, p', q, c, S', m'⟩ := h
  exact ⟨a, p', q, c, S.trans S', m.trans m'⟩

theorem comp_loop {L : List Str} {elt t iter : Expr} {ifs : List Expr} {gens gs : List Comprehension} {scope : Scope} {pos : Pos} {d : Nat} {env : Env} {A : Around} {F wr : FS} {D : Addr} {it : Value} {items acc : List V} {St : Nat → Heap → P → Prop} {K : List V → P → Prop} {s : Shared} {EM : Sem Fin}
    (he : env.scope = sc) (hturn : compTurn (.ListComp elt gens scope pos) d it (.ref D) env = (do
      standAt iter.pos
      match ← pyNext it with
      | none => pure (.done .next)
      | some v =>
        letOwnedTupleGo t it v
        assign t env v
        let mut ok := true
        for c in ifs do
          if ok then ok ← isTrue c env (eval c env)
        if ok then EM else again (.compLoop (.ListComp elt gens scope pos) d it (.ref D) env)))
    (hEM : ∀ fr₁ acc p K s, CAt C k env A (fun a => F a ∨ wr a) fr₁ D acc p s → TGs C k sc L elt gs fr₁ acc p K →
      wpAny (model C.prog C.w) A EM (fun fin s' => fin = .again (.compLoop (.ListComp elt gens scope pos) d it (.ref D) env) ∧ CEnd C k env A (fun a => F a ∨ wr a) (exD env L D) fr₁ D K p s s') (fun ζ ζ => False) s)
    (hd : ∀ b, wr b → ¬ F b) (hown : ∀ b, own env b → F b) (hC : ∀ x c, env.cells.lookup x = some c → F c) (R₀ : ∃ l, A.frames = some l ∧ ∀ e ∈ l, ∃ L, e.frame = some L ∧ F L) (hD : F D)
    (T : Turns C A (fun a => F a ∨ wr a) wr it t items St) (h : TLo (tgB C k sc L elt t ifs gs fr) K items acc p) (c : CAt C k env A (fun a => F a ∨ wr a) fr D acc p s) (st : St 0 s.heap p) :
    codeAny (model C.prog C.w) A (.compLoop (.ListComp elt gens scope pos) d it (.ref D) env) (fun r s' => r = .ok .next ∧ CEnd C k env A F (fun a => exD env L D a ∨ wr a) fr D K p s s') s := by
  have hxF : ∀ b, own env b → (F b ∨ wr b) ∧ ¬ wr b := fun b z => ⟨.inl (hown b z), fun y => hd b y (hown b z)⟩
  have hxD : ∀ b, exD env L D b → (F b ∨ wr b) ∧ ¬ wr b := fun b z => by
    rcases z with z | z
    · exact hxF b (asgd_own b z)
    · subst z; exact ⟨.inl hD, fun y => hd _ y hD⟩
  have room0 : ∀ {s' : Shared} {p' : P}, At C k env A (fun a => F a ∨ wr a) fr p' s' → Room k A F s'.heap := fun {s' p'} a => by
    refine ⟨a.room.handled, a.room.depth, a.room.units, ?_⟩
    obtain ⟨l, e, g⟩ := R₀
    obtain ⟨l', e', g'⟩ := a.room.frames
    rw [e] at e'; cases e'
    refine ⟨l, e, fun y hy => ⟨(g' y hy).kind, ?_⟩⟩
    obtain ⟨L, h1, h2⟩ := g y hy
    obtain ⟨L', o, es, n, k1, k2, k3, k4⟩ := (g' y hy).at_
    rw [h1] at k1; cases k1
    exact ⟨L, o, es, n, h1, h2, k3, k4⟩
  refine codeAny_loop rfl (fun n s' => X3 fun i acc' p' => A7 (i ≤ items.length) (n = items.length + 1 - i) (TLo (tgB C k sc L elt t ifs gs fr) K (items.drop i) acc' p') (CAt C k env A (fun a => F a ∨ wr a) fr D acc' p' s') (St i s'.heap p') (Step (fun a => exD env L D a ∨ wr a) p s.heap p' s'.heap) (Same s s'))
    (fun n s' ⟨i, acc', p', hi, hn, q, c, st, S, m⟩ => ?_) _ ⟨0, acc, p, Nat.zero_le _, rfl, by simpa using h, c, st, Step.refl, Same.refl s⟩
  show wpAny _ A ((compTurn (.ListComp elt gens scope pos) d it (.ref D) env).onRaise (fun x => do noteFrame x env; theTreesLotGoes x)) _ _ s'
  refine wpAny_noted (wpAny_noRaise ?_)
  rw [hturn]
  refine wpAny_bind (wpAny_standAt (wpAny_bind ?_))
  cases hx : items[i]? with
  | none =>
    refine wpAny_mono (T.done hx c.at_.inv st) (fun r s₃ ⟨hr, I₃, S₃, m₃⟩ => ?_) fun ζ ζ z => z
    subst hr
    have hin : i = items.length := by have := List.getElem?_eq_none_iff.mp hx; lia -matchEqs
    rw [hin, List.drop_length] at q
    have a₃ : At C k env A F fr p' s₃ := c.at_.turnEnd hd hown hC (room0 c.at_) I₃ S₃
    obtain ⟨vs, n, e, r⟩ := c.con
    refine wpAny_pure ⟨rfl, acc', p', q, ⟨a₃, hD, c.no, vs, n, (S₃ D _ e (c.at_.inv.ofF c.FD) (fun z => hd _ z hD)).1.get (nd_seq rfl), (r.step S₃ fun ζ z => .inr z).weak fun a z => ⟨fun y => z.1 (.inl y), z.2⟩⟩, S.trans (S₃.weak fun ζ z => .inr z), m.trans m₃⟩
  | some x =>
    have hlt : i < items.length := (List.getElem?_eq_some_iff.mp hx).1
    refine wpAny_mono (T.next hx c.at_.inv st) (fun r s₃ ⟨v', hr, h₃⟩ => ?_) fun ζ ζ z => z
    subst hr
    refine wpAny_bind (wpAny_mono h₃ (fun _ s₄ ⟨I₄, S₄, r₄, st₄, m₄⟩ => ?_) fun ζ ζ z => z.elim)
    rw [List.drop_eq_getElem_cons hlt] at q
    have hxi : items[i] = x := by rw [List.getElem?_eq_getElem hlt] at hx; exact Option.some.inj hx
    rw [hxi] at q
    have a₄ : At C k env A (fun a => F a ∨ wr a) fr p' s₄ := c.at_.turn (F₀ := F) (fun b z => .inr z) (fun b z => ⟨.inl z, fun y => hd b y z⟩) hown (room0 c.at_) I₄ S₄
    have c₄ : CAt C k env A (fun a => F a ∨ wr a) fr D acc' p' s₄ := by
      obtain ⟨vs, n, e, r⟩ := c.con
      exact ⟨a₄, c.FD, c.no, vs, n, (S₄ D _ e (c.at_.inv.ofF c.FD) (fun z => hd _ z hD)).1.get (nd_seq rfl), r.step S₄ fun ζ z => .inr z⟩
    refine wpAny_bind (wpAny_mono (q env A _ s₄ v' he a₄.room I₄ a₄.frm r₄) (fun _ s₅ ⟨fr₅, p₅, ⟨hsub, q₅⟩, I₅, S₅, f₅, m₅⟩ => ?_) fun ζ ζ z => z.elim)
    have c₅ := c₄.stepA (S₅.weak asgd_own) I₅ f₅
    have st₅ := T.mono (fun b z => hxF b (asgd_own b z)) (fun y z => I₄.ofF z) S₅ st₄
    refine wpAny_bind (wp_then0 (tests_sound he ifs p₅ s₅ _ c₅.at_ q₅) fun ok' s₆ ok p₆ q₆ I₆ S₆ r₆ m₆ => ?_)
    cases r₆
    have c₆ := c₅.step S₆ I₆
    have st₆ := T.mono (ex := NO) (fun b z => z.elim) (fun y z => I₅.ofF z) S₆ st₅
    have S' : Step (fun a => exD env L D a ∨ wr a) p s.heap p₆ s₆.heap := ((S.trans (S₄.weak fun ζ z => .inr z)).trans (S₅.weak fun ζ z => .inl (.inl z))).trans S₆.of
    have m' := (((m.trans m₄).trans m₅).trans m₆)
    cases ok' with
    | false => exact wpAny_pure ⟨rfl, _, by lia -matchEqs, i + 1, acc', p₆, hlt, rfl, q₆.2 rfl, c₆.sub hsub, st₆, S', m'⟩
    | true =>
      dsimp only
      rw [if_pos rfl]
      refine wpAny_mono (hEM fr₅ acc' p₆ _ s₆ c₆ (q₆.1 rfl)) (fun fin s₇ ⟨hfin, acc₇, p₇, q₇, c₇, S₇, m₇⟩ => ?_) fun ζ ζ z => z
      subst hfin
      exact ⟨rfl, _, by lia -matchEqs, i + 1, acc₇, p₇, hlt, rfl, q₇, c₇.sub hsub, T.mono hxD (fun y z => c₆.at_.inv.ofF z) S₇ st₆, S'.trans (S₇.weak fun ζ z => .inl z), m'.trans m₇⟩
end

theorem codeAny_compStart_gen {prog : Program} {w : World} {A : Around} {R : Result → Shared → Prop} {s : Shared} {elt t iter : Expr} {ifs : List Expr} {gens : List Comprehension} {scope pos it acc env} {d : Nat} (hd : gens[d]? = some ⟨t, iter, ifs, 0⟩)
    (h0 : codeAny (model prog w) A (.compLoop (.ListComp elt gens scope pos) d it acc env) R s)
    (h : wpAny (model prog w) A (pyIter it) (fun it' s' => codeAny (model prog w) A (.compLoop (.ListComp elt gens scope pos) d it' acc env) R s') (fun ζ ζ => False) s) :
    codeAny (model prog w) A (.compStart (.ListComp elt gens scope pos) d it acc env) R s := by
  refine codeAny_of_tree ?_
  show wpAny _ _ ((compStart (.ListComp elt gens scope pos) d it acc env).onRaise (fun x => do noteFrame x env; standAt theWindowsPlace)) _ _ s
  refine wpAny_notedAt (wpAny_noRaise ?_)
  unfold compStart
  have hc : (clausesOf (.ListComp elt gens scope pos))[d]? = some ⟨t, iter, ifs, 0⟩ := hd
  rw [hc]
  show wpAny _ _ (ask >>= _) _ _ s
  refine wpAny_bind (wpAny_askSetting (wpAny_ite ?_))
  split
  · first
      | exact wpAny_bind (wpAny_pure (wpAny_pure (And.intro rfl h0)))
      | exact wpAny_pure (And.intro rfl h0)
  · first
      | exact wpAny_bind (wpAny_rule (wpAny_bind (wpAny_standAt (wpAny_bind (wpAny_mono h (fun it' s' h' => wpAny_pure (And.intro rfl h')) fun ζ ζ x => x.elim)))))
      | (refine wpAny_bind (wpAny_rule ?_); show wpAny _ _ (standAt iter.pos >>= _) _ _ s; exact wpAny_bind (wpAny_standAt (wpAny_bind (wpAny_mono h (fun it' s' h' => wpAny_pure (And.intro rfl h')) fun ζ ζ x => x.elim))))

section
variable {C : Cfg} {k : Nat} {sc : Scope} {fr : Fm} {p : P} {X : P → Prop}

noncomputable def PlainG (g : Comprehension) : Prop := g.is_async = 0 ∧ ∀ env x, foldedSetIterable g.iter env x = pure x
theorem plain1 {g : Comprehension} (h : PlainG g) : ∀ x ∈ [g], PlainG x := fun x hx => List.mem_singleton.mp hx ▸ h
theorem plain2 {g g' : Comprehension} (h : PlainG g) (h' : PlainG g') : ∀ x ∈ [g, g'], PlainG x := List.forall_mem_cons.mpr ⟨h, plain1 h'⟩

theorem CAt.iter {env : Env} {A : Around} {F wr : FS} {D : Addr} {acc : List V} {p₁ : P} {s s₁ : Shared} (c : CAt C k env A F fr D acc p s) (S : Step NO p s.heap p₁ s₁.heap) (I : Inv C (fun a => F a ∨ wr a) p₁ s₁.heap) (f : FrR C env (fun a => F a ∨ wr a) fr p₁ s₁.heap) (R : Room k A (fun a => F a ∨ wr a) s₁.heap)
    (hwr : ∀ a, wr a → ¬ F a ∧ ∀ o, s.heap.get? a = some o → p a = none → False) : CAt C k env A (fun a => F a ∨ wr a) fr D acc p₁ s₁ := by
  obtain ⟨vs, n, e, r⟩ := c.con
  refine ⟨⟨R, I, f⟩, .inl c.FD, c.no, vs, n, (S D _ e (c.at_.inv.ofF c.FD) id).1.get (nd_seq rfl), r.mapx fun a o e nd fa => ?_⟩
  obtain ⟨e', q'⟩ := S a o e fa.2 id
  exact ⟨e'.get nd, fun z => z.elim fa.1 fun z => (hwr a z).2 o e fa.2, q'⟩

theorem comp_all {L : List Str} {elt : Expr} {gens : List Comprehension} {scope : Scope} {pos : Pos} {env : Env} {A : Around} {D : Addr} (he : env.scope = sc) : ∀ (gs : List Comprehension) (t iter : Expr) (ifs : List Expr) (d : Nat) (F wr : FS) (fr : Fm) (p : P) (it : Value) (items acc : List V) (St : Nat → Heap → P → Prop) (K : List V → P → Prop) (s : Shared),
    gens.drop d = ⟨t, iter, ifs, 0⟩ :: gs → (∀ g ∈ gs, PlainG g) → (∀ b, wr b → ¬ F b) → (∀ b, own env b → F b) → (∀ x c, env.cells.lookup x = some c → F c) → (∃ l, A.frames = some l ∧ ∀ e ∈ l, ∃ L, e.frame = some L ∧ F L) → F D →
    Turns C A (fun a => F a ∨ wr a) wr it t items St → TLo (tgB C k sc L elt t ifs gs fr) K items acc p → CAt C k env A (fun a => F a ∨ wr a) fr D acc p s → St 0 s.heap p →
    codeAny (model C.prog C.w) A (.compLoop (.ListComp elt gens scope pos) d it (.ref D) env) (fun r s' => r = .ok .next ∧ CEnd C k env A F (fun a => exD env L D a ∨ wr a) fr D K p s s') s
  | [], t, iter, ifs, d, F, wr, fr, p, it, items, acc, St, K, s, hg, hpl, hd, hown, hC, R₀, hD, T, h, c, st => by
    have h1 : gens[d]? = some ⟨t, iter, ifs, 0⟩ := by
      have := congrArg (fun l => l[0]?) hg; simpa [List.getElem?_drop] using this
    have h2 : gens[d + 1]? = none := by
      have := congrArg (fun l => l[1]?) hg; simpa [List.getElem?_drop] using this
    refine comp_loop (gs := []) he (compTurn_last h1 h2) (fun fr₁ acc p K s c h => ?_) hd hown hC R₀ hD T h c st
    obtain ⟨hl, h⟩ := h
    refine wpAny_bind (wpAny_bind (wp_then (h env A _ s he c.at_.room c.at_.inv c.at_.frm) (fun w' s₁ w p₁ q I₁ S₁ r m₁ => ?_) fun ζ ζ z => z.no))
    refine wpAny_bind (comp_append (L := L) (c.step S₁ I₁) r hl fun s₂ c₂ S₂ m₂ => ?_)
    exact wpAny_pure (wpAny_pure ⟨rfl, _, p₁, q, c₂, S₁.of.trans S₂, m₁.trans m₂⟩)
  | g :: gs, t, iter, ifs, d, F, wr, fr, p, it, items, acc, St, K, s, hg, hpl, hd, hown, hC, R₀, hD, T, h, c, st => by
    obtain ⟨t', iter', ifs', as'⟩ := g
    obtain ⟨ha, hfold⟩ := hpl _ List.mem_cons_self
    dsimp only at ha hfold
    subst ha
    have h1 : gens[d]? = some ⟨t, iter, ifs, 0⟩ := by
      have := congrArg (fun l => l[0]?) hg; simpa [List.getElem?_drop] using this
    have h2 : gens[d + 1]? = some ⟨t', iter', ifs', 0⟩ := by
      have := congrArg (fun l => l[1]?) hg; simpa [List.getElem?_drop] using this
    have h3 : gens.drop (d + 1) = ⟨t', iter', ifs', 0⟩ :: gs := by
      have := congrArg List.tail hg; simpa using this
    refine comp_loop (gs := ⟨t', iter', ifs', 0⟩ :: gs) he (compTurn_more h1 h2) (fun fr₁ acc p K s c h => ?_) hd hown hC R₀ hD T h c st
    refine wpAny_bind (wpAny_mono (h env A _ s he c.at_.room c.at_.inv c.at_.frm) (fun x s₁ hx => ?_) fun ζ ζ z => z.no)
    refine wpAny_bind (wpAny_standAt (wpAny_bind (wpAny_of_eq (hfold env x) (wpAny_bind (wpAny_holding (wpAny_mono hx (fun it' s₂ hi => ?_) fun ζ ζ z => z.no))))))
    obtain ⟨items', p₂, wr', q, S₂, m₂, I₂, f₂, R₂, hwr, hT⟩ := hi
    obtain ⟨St', T', st'⟩ := hT _ (fun ζ z => z) (fun ζ ζ ζ z => z)
    replace st' := st' _ fun ζ ζ e => e
    have c₂ := c.iter S₂ I₂ f₂ R₂ hwr
    refine wpAny_bind (wpAny_runOwn (h := none) ?_ (by intro z; cases z))
    have hloop := comp_all (scope := scope) (pos := pos) he gs t' iter' ifs' (d + 1) (fun a => F a ∨ wr a) wr' fr₁ p₂ it' items' acc St' K s₂ h3 (fun g hg => hpl g (List.mem_cons_of_mem _ hg)) (fun b z => (hwr b z).1) (fun b z => .inl (hown b z)) (fun x c e => .inl (hC x c e))
      (let ⟨l, e, g⟩ := R₀; ⟨l, e, fun y hy => let ⟨L, h1, h2⟩ := g y hy; ⟨L, h1, .inl h2⟩⟩) (.inl hD) T' q c₂ st'
    have hloop' : codeAny (model C.prog C.w) A (.compLoop (.ListComp elt gens scope pos) (d + 1) it' (.ref D) env) (fun r s' => match r with
        | .ok f => wpAny (model C.prog C.w) A (again (.compLoop (.ListComp elt gens scope pos) d it (.ref D) env)) (fun fin s' => fin = .again (.compLoop (.ListComp elt gens scope pos) d it (.ref D) env) ∧ CEnd C k env A (fun a => F a ∨ wr a) (exD env L D) fr₁ D K p s s') (fun ζ ζ => False) s'
        | .error e => cameBackBy (model C.prog C.w) A env (fun ζ ζ => False) e s') s₂ :=
      codeAny_mono hloop fun r s' ⟨hr, acc', p', q', c', S', m'⟩ => by
        subst hr
        refine wpAny_pure ⟨rfl, acc', p', q', c', ?_, m₂.trans m'⟩
        exact step_fresh (S₂.of.trans S') fun a z => (hwr a z).2
    exact codeAny_compStart_gen h2 hloop' (T'.self st' hloop')
end
end Tl
end

section
open PySem PySem.W PySem.Calls PyProof.Rows
set_option linter.unusedVariables false
namespace Tl

noncomputable def relS (scope sc : Scope) : Scope :=
  { scope with names := scope.names.map fun (n, k) => if (k == .free && sc.kind == .function && sc.names.lookup n == some .cell) then (n, .cell) else (n, k) }
theorem relS_eq {scope sc : Scope} {env : Env} (he : env.scope = sc) : relabel scope env = relS scope sc := by subst he; rfl
theorem lookup_relS {scope sc : Scope} (x : Str) : (relS scope sc).names.lookup x = (scope.names.lookup x).map fun k => if (k == .free && sc.kind == .function && sc.names.lookup x == some .cell) then .cell else k := by
  unfold relS
  dsimp only
  generalize scope.names = l
  induction l with
  | nil => rfl
  | cons e r ih =>
    obtain ⟨n, k⟩ := e
    simp only [List.map_cons]
    by_cases h : x = n
    · subst h
      by_cases hc : (k == .free && sc.kind == .function && sc.names.lookup x == some .cell) = true
      · rw [if_pos hc]; simp only [List.lookup_cons, beq_self_eq_true, Option.map_some, if_pos hc]
      · rw [if_neg hc]; simp only [List.lookup_cons, beq_self_eq_true, Option.map_some, if_neg hc]
    · have : (x == n) = false := beq_eq_false_iff_ne.mpr h
      split <;> simp only [List.lookup_cons, this, ih]

noncomputable def closL (cells : List (Str × Addr)) : List (Str × NameKind) → List (Str × Addr) → List (Str × Addr)
  | [], acc => acc
  | (n, k) :: r, acc => if k == .free then closL cells r ((n, (cells.lookup n).getD 0) :: acc) else closL cells r acc
theorem closL_c {cells acc : List (Str × Addr)} {n : Str} {k : NameKind} {r : List (Str × NameKind)} : closL cells ((n, k) :: r) acc = if k == .free then closL cells r ((n, (cells.lookup n).getD 0) :: acc) else closL cells r acc := rfl
theorem closL_lookup {cells : List (Str × Addr)} {x : Str} {c : Addr} : ∀ (l : List (Str × NameKind)) (acc : List (Str × Addr)), (∀ y ∈ l, y.2 = .free → ∃ a, cells.lookup y.1 = some a) → (∀ y a, acc.lookup y = some a → cells.lookup y = some a) → (closL cells l acc).lookup x = some c → cells.lookup x = some c
  | [], acc, _, ha, e => ha x c e
  | (n, k) :: r, acc, hf, ha, e => by
    rw [closL_c] at e
    split at e
    · rename_i hk
      obtain ⟨a, h1⟩ := hf _ List.mem_cons_self (by simpa using hk)
      refine closL_lookup r _ (fun y hy => hf y (List.mem_cons_of_mem _ hy)) (fun y b h => ?_) e
      rw [List.lookup_cons] at h
      cases hy : (y == n) with
      | true => rw [hy] at h; cases h; rw [beq_iff_eq.mp hy, h1]; rfl
      | false => rw [hy] at h; exact ha y b h
    · exact closL_lookup r _ (fun y hy => hf y (List.mem_cons_of_mem _ hy)) ha e
theorem closL_has {cells : List (Str × Addr)} {x : Str} : ∀ (l : List (Str × NameKind)) (acc : List (Str × Addr)), ((x, NameKind.free) ∈ l ∨ ∃ a, acc.lookup x = some a) → ∃ a, (closL cells l acc).lookup x = some a
  | [], acc, h => by rcases h with h | h; cases h; exact h
  | (n, k) :: r, acc, h => by
    rw [closL_c]
    split
    · refine closL_has r _ ?_
      by_cases hx : x = n
      · right; exact ⟨(cells.lookup n).getD 0, by rw [hx]; simp⟩
      · rcases h with h | ⟨a, h⟩
        · rcases List.mem_cons.mp h with h | h
          · exact absurd (Prod.mk.inj h).1 hx
          · exact .inl h
        · right; exact ⟨a, by rw [List.lookup_cons, beq_eq_false_iff_ne.mpr hx]; exact h⟩
    · rename_i hk
      refine closL_has r _ ?_
      rcases h with h | h
      · rcases List.mem_cons.mp h with h | h
        · rw [← (Prod.mk.inj h).2] at hk; exact absurd rfl hk
        · exact .inl h
      · exact .inr h
theorem closureFor_eq {scope : Scope} {env : Env} (hf : ∀ y ∈ scope.names, y.2 = .free → ∃ a, env.cells.lookup y.1 = some a) : closureFor scope env = pure (closL env.cells scope.names []) := by
  have key : ∀ (l : List (Str × NameKind)) (acc : List (Str × Addr)) (f : Str × NameKind → List (Str × Addr) → Sem (ForInStep (List (Str × Addr)))), (∀ n k cs, f (n, k) cs = if k == .free then (do let a ← cellOf env n; pure (.yield ((n, a) :: cs))) else pure (.yield cs)) →
      (∀ y ∈ l, y.2 = .free → ∃ a, env.cells.lookup y.1 = some a) → forIn l acc f = pure (closL env.cells l acc) := by
    intro l
    induction l with
    | nil => intro acc f hf' _; rw [List.forIn_nil]; rfl
    | cons e r ih =>
      intro acc f hf' h
      obtain ⟨n, k⟩ := e
      rw [List.forIn_cons, hf']
      rw [closL_c]
      split
      · rename_i hk
        obtain ⟨a, ha⟩ := h _ List.mem_cons_self (by simpa using hk)
        dsimp only at ha
        unfold cellOf
        rw [ha]
        show forIn r _ f = _
        rw [ih _ f hf' fun y hy => h y (List.mem_cons_of_mem _ hy)]
        rfl
      · show forIn r _ f = _
        exact ih _ f hf' fun y hy => h y (List.mem_cons_of_mem _ hy)
  simp only [closureFor]
  rw [key scope.names [] _ (fun n k cs => by cases hk : (k == NameKind.free) <;> simp) hf]
  rfl

theorem cf_low {x : Str} {c : Addr} : ∀ (l : List (Str × NameKind)) (n : Nat) (acc : List (Str × Addr)), (cellsFrom n l acc).lookup x = some c → acc.lookup x = some c ∨ n ≤ c
  | [], _, _, e => .inl e
  | (m, k) :: r, n, acc, e => by
    unfold cellsFrom at e
    split at e
    · rcases cf_low r _ _ e with h | h
      · rw [List.lookup_cons] at h
        cases hx : (x == m) with
        | true => rw [hx] at h; cases h; exact .inr (Nat.le_refl _)
        | false => rw [hx] at h; exact .inl h
      · exact .inr (Nat.le_of_succ_le h)
    · exact cf_low r _ _ e
theorem cf_inj {x y : Str} {c : Addr} : ∀ (l : List (Str × NameKind)) (n : Nat) (acc : List (Str × Addr)), (∀ z a, acc.lookup z = some a → a < n) → (∀ x y a, acc.lookup x = some a → acc.lookup y = some a → x = y) → (cellsFrom n l acc).lookup x = some c → (cellsFrom n l acc).lookup y = some c → x = y
  | [], _, _, _, hi, e, e' => hi x y c e e'
  | (m, k) :: r, n, acc, hl, hi, e, e' => by
    unfold cellsFrom at e e'
    split at e
    · rename_i hk
      rw [if_pos hk] at e'
      refine cf_inj r (n + 1) _ (fun z a h => ?_) (fun u v a h h' => ?_) e e'
      · rw [List.lookup_cons] at h
        cases hz : (z == m) with
        | true => rw [hz] at h; cases h; exact Nat.lt_succ_self _
        | false => rw [hz] at h; exact Nat.lt_succ_of_lt (hl z a h)
      · rw [List.lookup_cons] at h h'
        cases hu : (u == m) with
        | true =>
          rw [hu] at h; cases h
          cases hv : (v == m) with
          | true => rw [beq_iff_eq.mp hu, beq_iff_eq.mp hv]
          | false => rw [hv] at h'; exact absurd (hl v _ h') (Nat.lt_irrefl _)
        | false =>
          rw [hu] at h
          cases hv : (v == m) with
          | true => rw [hv] at h'; cases h'; exact absurd (hl u _ h) (Nat.lt_irrefl _)
          | false => rw [hv] at h'; exact hi u v a h h'
    · rename_i hk
      rw [if_neg hk] at e'
      exact cf_inj r n acc hl hi e e'
theorem cf_cell {x : Str} {c : Addr} : ∀ (l : List (Str × NameKind)) (h : Heap) (acc : List (Str × Addr)), (cellsFrom h.objs.size l acc).lookup x = some c → acc.lookup x = some c ∨ (pushCells h l).IsCell c none
  | [], _, _, e => .inl e
  | (m, k) :: r, h, acc, e => by
    unfold cellsFrom at e
    unfold pushCells
    split at e
    · rename_i hk
      rw [if_pos hk]
      have := @cf_cell x c r (h.push { cls := .type "cell", data := .cell none }) ((m, h.objs.size) :: acc) (by rw [Heap.size_push]; exact e)
      rcases this with z | z
      · rw [List.lookup_cons] at z
        cases hx : (x == m) with
        | true => rw [hx] at z; cases z; exact .inr ⟨_, pushCells_keeps _ _ _ _ (Heap.get?_push_size _ rfl), rfl⟩
        | false => rw [hx] at z; exact .inl z
      · exact .inr z
    · rename_i hk
      rw [if_neg hk]
      exact cf_cell r h acc e
theorem cf_keep {x : Str} {c : Addr} : ∀ (l : List (Str × NameKind)) (n : Nat) (acc : List (Str × Addr)), (∀ k, (x, k) ∈ l → k ≠ .cell) → acc.lookup x = some c → (cellsFrom n l acc).lookup x = some c
  | [], _, _, _, e => e
  | (m, k) :: r, n, acc, hn, e => by
    unfold cellsFrom
    split
    · rename_i hk
      refine cf_keep r _ _ (fun k h => hn k (List.mem_cons_of_mem _ h)) ?_
      rw [List.lookup_cons]
      cases hx : (x == m) with
      | true => exact absurd (beq_iff_eq.mp hk) (hn k (by rw [beq_iff_eq.mp hx]; exact List.mem_cons_self))
      | false => exact e
    · exact cf_keep r _ _ (fun k h => hn k (List.mem_cons_of_mem _ h)) e

theorem wp_newCompEnv {M : Model} {A : Around} {E : Value → Shared → Prop} {s : Shared} {scope : Scope} {env : Env} {cl : List (Str × Addr)} {Q : Env → Shared → Prop}
    (hQ : Q { scope := scope, locals := s.heap.objs.size, globals := env.globals, cells := cellsFrom (s.heap.objs.size + 1) scope.names cl, qual := env.qual, func := none, code := env.code, frame := env.frame, builtins := env.builtins } { s with heap := pushCells (s.heap.push { cls := .type "dict", data := .dict #[] }) scope.names }) :
    wpAny M A (newFunctionEnv scope env.globals cl [] env.qual none .none (some env)) Q E s := by
  simp only [newFunctionEnv, Option.isSome_some, if_true]
  refine wpAny_bind (wpAny_alloc ?_)
  refine wpAny_bind (wpAny_layCells _ (fun name kind cells => by cases hkc : kind == NameKind.cell <;> simp) _ _ _ _ ?_)
  rw [show ({ s with heap := s.heap.push { cls := .type "dict", data := .dict #[] } } : Shared).heap.objs.size = s.heap.objs.size + 1 from Heap.size_push ..]
  simp only [List.forIn_nil]
  exact wpAny_bind (wpAny_pure (wpAny_pure hQ))

noncomputable def capt (scope : Scope) (fr : Fm) : Fm := fr.filter fun e => scope.names.lookup e.1 == some .free
theorem capt_lookup {scope : Scope} {x : Str} {v : V} : ∀ {fr : Fm}, (capt scope fr).lookup x = some v → fr.lookup x = some v ∧ scope.names.lookup x = some .free
  | [], e => by simp [capt] at e
  | (y, u) :: r, e => by
    unfold capt at e
    rw [List.filter_cons] at e
    split at e
    · rename_i hy
      rw [List.lookup_cons] at e ⊢
      cases hx : (x == y) with
      | true => rw [hx] at e; cases e; rw [beq_iff_eq.mp hx]; exact ⟨rfl, by simpa using hy⟩
      | false => rw [hx] at e; exact capt_lookup e
    · rename_i hy
      have ih := capt_lookup (fr := r) e
      rw [List.lookup_cons]
      cases hx : (x == y) with
      | true => rw [← beq_iff_eq.mp hx, ih.2] at hy; simp at hy
      | false => exact ih

theorem closL_free {cells : List (Str × Addr)} {x : Str} {c : Addr} : ∀ (l : List (Str × NameKind)) (acc : List (Str × Addr)), (closL cells l acc).lookup x = some c → (x, NameKind.free) ∈ l ∨ acc.lookup x = some c
  | [], acc, e => .inr e
  | (n, k) :: r, acc, e => by
    rw [closL_c] at e
    split at e
    · rename_i hk
      rcases closL_free r _ e with h | h
      · exact .inl (List.mem_cons_of_mem _ h)
      · rw [List.lookup_cons] at h
        cases hx : (x == n) with
        | true => exact .inl (by rw [beq_iff_eq.mp hx, ← beq_iff_eq.mp hk]; exact List.mem_cons_self)
        | false => rw [hx] at h; exact .inr h
    · rcases closL_free r _ e with h | h
      · exact .inl (List.mem_cons_of_mem _ h)
      · exact .inr h

section
variable {C : Cfg} {k : Nat} {sc : Scope} {fr : Fm} {p : P} {X : P → Prop}

theorem FrR.mapx {env : Env} {F F' : FS} {p' : P} {h h' : Heap} (R : FrR C env F fr p h) (ho : ∀ a o, F a → h.get? a = some o → Kept h' a o) (hf : ∀ a o, h.get? a = some o → ND o → Free F p a → h'.get? a = some o ∧ Free F' p' a) (hs : ∀ a, F a → F' a) : FrR C env F' fr p' h' where
  kind := R.kind
  glob := R.glob
  blt := R.blt
  ownL := hs _ R.ownL
  ownC := fun x c e => ⟨hs _ (R.ownC x c e).1, (R.ownC x c e).2⟩
  inj := R.inj
  cells := fun x e => let ⟨c, o, ov, a, b, d⟩ := R.cells x e; ⟨c, o, ov, a, (ho _ _ (R.ownC x c a).1 b).get (nd_cell d), d⟩
  ns := let ⟨m, ⟨o, es, ep, h1, r⟩, g⟩ := R.ns; let ⟨sl, h1', _⟩ := ho _ _ R.ownL h1; ⟨m, ⟨{ o with slots := sl }, es, ep, h1', r⟩, fun x v e q => let ⟨v', a, b⟩ := g x v e q; ⟨v', a, b.mapx hf⟩⟩
  cv := fun x v e q => let ⟨c, o, v', a, b, d, r⟩ := R.cv x v e q; ⟨c, o, v', a, (ho _ _ (R.ownC x c a).1 b).get (nd_cell d), d, r.mapx hf⟩
theorem Room.mapx {A : Around} {F F' : FS} {h h' : Heap} (R : Room k A F h) (ho : ∀ a o, F a → h.get? a = some o → Kept h' a o) (hs : ∀ a, F a → F' a) : Room k A F' h' :=
  ⟨R.handled, R.depth, R.units, let ⟨l, e, f⟩ := R.frames; ⟨l, e, fun x hx => ⟨(f x hx).kind, let ⟨L, o, es, n, a, b, c, d⟩ := (f x hx).at_; let ⟨sl, c', _⟩ := ho _ _ b c; ⟨L, { o with slots := sl }, es, n, a, hs _ b, c', d⟩⟩⟩⟩

noncomputable def nodupK : List (Str × NameKind) → Bool
  | [] => true
  | (n, _) :: r => r.all (fun e => !(e.1 == n)) && nodupK r
theorem nodupK_lookup {x : Str} {kd : NameKind} : ∀ {l : List (Str × NameKind)}, nodupK l = true → (x, kd) ∈ l → l.lookup x = some kd
  | (n, k) :: r, h, hm => by
    have h : (r.all (fun e => !(e.1 == n)) && nodupK r) = true := h
    simp only [Bool.and_eq_true, List.all_eq_true] at h
    rw [List.lookup_cons]
    rcases List.mem_cons.mp hm with e | hm
    · cases e; simp
    · have := h.1 _ hm
      cases hx : (x == n) with
      | true => rw [beq_iff_eq.mp hx] at this; simp at this
      | false => exact nodupK_lookup h.2 hm
theorem mem_of_lookupK {x : Str} {kd : NameKind} {l : List (Str × NameKind)} (h : l.lookup x = some kd) : (x, kd) ∈ l := mem_of_lookup h
theorem ne_lo {a D : Nat} (n : Nat) (h : a < D) : a = D + n → False := by lia -matchEqs
theorem ne_hi {a D : Nat} (n : Nat) (h : D + 2 ≤ a) (hn : n < 2) : a = D + n → False := by lia -matchEqs
noncomputable def compOk (scope sc : Scope) (L : List Str) : Bool :=
  nodupK scope.names && scope.names.all (fun e => !(e.2 == .free) || sc.names.lookup e.1 == some .cell) && L.all (fun x => scope.names.lookup x == some .local || scope.names.lookup x == some .cell)

theorem comp_core {L : List Str} {elt t iter : Expr} {ifs : List Expr} {gs : List Comprehension} {scope : Scope} {pos pos' : Pos} {frc : Fm} {use : Option (Value → Sem Unit)} {env : Env} {A : Around} {F : FS} {s : Shared} {K : List V → P → Prop} {QQ : Value → Shared → Prop} {E : Value → Shared → Prop}
    (he : env.scope = sc) (hkind : scope.kind = .function) (hok : compOk scope sc L = true) (hpl : ∀ g ∈ (⟨t, iter, ifs, 0⟩ :: gs : List Comprehension), PlainG g) (hfr : capt scope fr = frc)
    (R : Room k A F s.heap) (I : Inv C F p s.heap) (f : FrR C env F fr p s.heap)
    (h : TI C k sc fr p t iter (fun items p₁ => TLo (tgB C k (relS scope sc) L elt t ifs gs frc) K items [] p₁) X)
    (hx : ∀ e s', PostX C NO F p s X e s' → E e s')
    (fin : ∀ (F' : FS) (D Cc : Addr) (acc : List V) (p' : P) (s' : Shared), K acc p' → (∀ a, F a → F' a) → Free F' p' D → F' Cc → D ≠ Cc → ¬ F Cc → At C k env A F' fr p' s' → (X2 fun vs n => s'.heap.get? D = some (listOf (List.toArray vs) n) ∧ VRL s'.heap F' p' vs acc) →
      Step NO p s.heap p' s'.heap → Same s s' → (∃ m, s'.heap.Ns Cc m) → (∀ b, own env b → b ≠ Cc ∧ b ≠ D) → (∀ o, s.heap.get? Cc = some o → p Cc = none → False) → compPost (model C.prog C.w) A E use QQ (.ref D) Cc (.ok .next) s') :
    wpAny (model C.prog C.w) A (comprehension (.ListComp elt (⟨t, iter, ifs, 0⟩ :: gs) scope pos) scope env pos' (newList []) false (eval iter env) use) QQ E s := by
  unfold compOk at hok
  simp only [Bool.and_eq_true, List.all_eq_true] at hok
  obtain ⟨⟨hnd, hfree⟩, hL⟩ := hok
  have hfc : ∀ y ∈ scope.names, y.2 = .free → env.kindOf y.1 = some .cell := fun y hy e => by
    have := hfree y hy
    rw [e] at this
    unfold Env.kindOf; rw [he]; simpa using this
  have hf0 : ∀ y ∈ scope.names, y.2 = .free → ∃ a, env.cells.lookup y.1 = some a := fun y hy e => by
    obtain ⟨c, _, _, e, _⟩ := f.cells y.1 (hfc y hy e); exact ⟨c, e⟩
  have hcl : ∀ x c, (closL env.cells scope.names []).lookup x = some c → env.cells.lookup x = some c := fun x c e => closL_lookup scope.names [] hf0 (fun ζ ζ z => by simp at z) e
  have hclf : ∀ x c, (closL env.cells scope.names []).lookup x = some c → scope.names.lookup x = some .free := fun x c e => by
    rcases closL_free scope.names [] e with z | z
    · exact nodupK_lookup hnd z
    · simp at z
  refine wpAny_comprehension_free (cl := closL env.cells scope.names []) (gs := gs) rfl (fun x => (hpl _ List.mem_cons_self).2 env x) (closureFor_eq hf0) hkind (fun x hm hl => by obtain ⟨n, kd⟩ := x; dsimp only at hl; subst hl; exact nodupK_lookup hnd hm)
    (wpAny_mono (h env A F s he R I f) (fun x s₁ h₁ => wpAny_mono h₁ (fun it s₂ h₂ => ?_) hx) hx)
  obtain ⟨items, p₂, wr, q, S₂, m₂, I₂, f₂, R₂, hwr, hT⟩ := h₂
  refine wpAny_newObj_type (wp_newCompEnv ?_)
  dsimp only
  obtain ⟨D, hD⟩ : ∃ D : Nat, s₂.heap.objs.size = D := ⟨_, rfl⟩
  rw [hD]
  generalize hH2 : s₂.heap.push { cls := .type "list", dict := none, data := .seq ([] : List Value).toArray } = H2
  have hszH2 : H2.objs.size = D + 1 := by rw [← hH2, Heap.size_push, hD]
  rw [hszH2]
  generalize hH3 : H2.push { cls := .type "dict", data := .dict #[] } = H3
  have hszH3 : H3.objs.size = D + 2 := by rw [← hH3, Heap.size_push, hszH2]
  have keepc := pushCells_keeps scope.names H3
  generalize hH4 : pushCells H3 scope.names = H4 at keepc
  have keep24 : ∀ b o, s₂.heap.get? b = some o → H4.get? b = some o := fun b o e => keepc b o (hH3 ▸ Heap.get?_push_of_some _ (hH2 ▸ Heap.get?_push_of_some _ e))
  have below : ∀ (b : Nat) o, s₂.heap.get? b = some o → b < D := fun b o e => hD ▸ Heap.lt_size e
  have hFs : ∀ (b : Nat), F b → b < D := fun b z => by
    obtain ⟨o, e⟩ := I.ex b z
    obtain ⟨_, e', _⟩ := (S₂ b o e (I.ofF z) id).1
    exact below b _ e'
  generalize hcells : cellsFrom (D + 1 + 1) scope.names (closL env.cells scope.names []) = cells
  have hlow : ∀ x c, cells.lookup x = some c → (closL env.cells scope.names []).lookup x = some c ∨ D + 2 ≤ (c : Nat) := fun x c e => by rw [← hcells] at e; exact cf_low _ _ _ e
  have hclF : ∀ x c, (closL env.cells scope.names []).lookup x = some c → F c := fun x c e => (f.ownC x c (hcl x c e)).1
  let F' : FS := fun a => F a ∨ a = D ∨ a = D + 1 ∨ ∃ y, cells.lookup y = some a
  have fresh' : ∀ a o, s₂.heap.get? a = some o → F' a → F a := fun a o e z => by
    have := below a o e
    rcases z with z | z | z | ⟨y, z⟩
    · exact z
    · exact (ne_lo 0 this z).elim
    · exact (ne_lo 1 this z).elim
    · rcases hlow y a z with z | z
      · exact hclF y a z
      · lia -matchEqs
  have fresh : ∀ a o, s₂.heap.get? a = some o → (F' a ∨ wr a) → (F a ∨ wr a) := fun a o e z => z.elim (fun z => .inl (fresh' a o e z)) .inr
  have hDat : H4.get? D = some (listOf ([] : List Value).toArray 0) := keepc _ _ (hH3 ▸ Heap.get?_push_of_some _ (hH2 ▸ hD ▸ Heap.get?_push_size _ rfl))
  have hCns : H4.Ns (D + 1) (fun ζ => none) := by
    have := Heap.Ns.new H2 (.type "dict")
    rw [hszH2, hH3] at this
    exact this.keeps keepc
  have hcell : ∀ x c, cells.lookup x = some c → (closL env.cells scope.names []).lookup x = some c ∨ H4.IsCell c none := fun x c e => by
    rw [← hcells, ← hszH3] at e
    rw [← hH4]
    exact cf_cell _ _ _ e
  have exF : ∀ a, (F' a ∨ wr a) → ∃ o, H4.get? a = some o := fun a z => by
    rcases z with (z | z | z | ⟨y, z⟩) | z
    · obtain ⟨o, e⟩ := I₂.ex a (.inl z); exact ⟨o, keep24 a o e⟩
    · subst z; exact ⟨_, hDat⟩
    · subst z; obtain ⟨o, _, _, e, _⟩ := hCns; exact ⟨o, e⟩
    · rcases hcell y _ z with z | ⟨o, e, _⟩
      · obtain ⟨o, e⟩ := I₂.ex _ (.inl (hclF y _ z)); exact ⟨o, keep24 _ o e⟩
      · exact ⟨o, e⟩
    · obtain ⟨o, e⟩ := I₂.ex a (.inr z); exact ⟨o, keep24 a o e⟩
  have I₄ : Inv C (fun a => F' a ∨ wr a) p₂ H4 := I₂.mark keep24 fresh exF
  have ho1 : ∀ a o, F a → s.heap.get? a = some o → Kept H4 a o := fun a o z e => (S₂ a o e (I.ofF z) id).1.trans fun sl e' => .of (keep24 a _ e')
  have hf1 : ∀ a o, s.heap.get? a = some o → Free F p a → Kept H4 a o ∧ Free (fun a => F' a ∨ wr a) p₂ a := fun a o e fa => by
    obtain ⟨e', q'⟩ := S₂ a o e fa.2 id
    exact ⟨e'.trans fun sl e' => .of (keep24 a _ e'), fun z => (let ⟨_, e', _⟩ := e'; fresh a _ e' z).elim fa.1 fun z => (hwr a z).2 o e fa.2, q'⟩
  obtain ⟨St, T, st⟩ := hT (fun a => F' a ∨ wr a) (fun a z => z.elim (fun z => .inl (.inl z)) .inr) fresh
  replace st := st H4 keep24
  rw [relS_eq he]
  have hkF : sc.kind = .function := he ▸ f.kind
  have kOf : ∀ x, (relS scope sc).names.lookup x = (scope.names.lookup x).map fun k => if (k == .free && sc.kind == .function && sc.names.lookup x == some .cell) then .cell else k := lookup_relS
  generalize hce : ({ scope := relS scope sc, locals := D + 1, globals := env.globals, cells := cells, qual := env.qual, func := none, code := env.code, frame := env.frame, builtins := env.builtins } : Env) = cenv
  have ce1 : cenv.scope = relS scope sc := by rw [← hce]
  have ce2 : cenv.locals = D + 1 := by rw [← hce]
  have ce3 : cenv.cells = cells := by rw [← hce]
  have ce4 : cenv.globals = env.globals := by rw [← hce]
  have ce5 : cenv.builtins = env.builtins := by rw [← hce]
  have ceK : ∀ x, cenv.kindOf x = (relS scope sc).names.lookup x := fun x => by unfold Env.kindOf; rw [ce1]
  have hNotC : ∀ x, scope.names.lookup x = some .free → ∀ kd, (x, kd) ∈ scope.names → kd ≠ .cell := fun x h kd hm z => by
    have := nodupK_lookup hnd hm; rw [h] at this; cases this; cases z
  have frm₄ : FrR C cenv (fun a => F' a ∨ wr a) frc p₂ H4 := by
    refine ⟨by rw [ce1]; exact hkind, ce4.trans f.glob, ce5.trans f.blt, by rw [ce2]; exact .inl (.inr (.inr (.inl rfl))), fun x c e => ?_, fun x y c e e' => ?_, fun x e => ?_, ⟨_, by rw [ce2]; exact hCns, fun x v e q => ?_⟩, fun x v e q => ?_⟩
    · rw [ce3] at e
      rw [ce2]
      refine ⟨.inl (.inr (.inr (.inr ⟨x, e⟩))), fun y => ?_⟩
      rcases hlow x c e with z | z
      · exact ne_lo 1 (hFs c (hclF x c z)) y
      · exact ne_hi 1 z (by lia -matchEqs) y
    · rw [ce3, ← hcells] at e e'
      refine cf_inj scope.names _ _ (fun z a h => ?_) (fun x y a h h' => f.inj x y a (hcl x a h) (hcl y a h')) e e'
      exact Nat.lt_of_lt_of_le (hFs a (hclF z a h)) (by lia -matchEqs)
    · rw [ceK, kOf] at e
      cases hk : scope.names.lookup x with
      | none => rw [hk] at e; cases e
      | some kd =>
        rw [hk] at e
        simp only [Option.map_some, Option.some.injEq] at e
        by_cases hfk : kd = .free
        · subst hfk
          obtain ⟨a, ha⟩ := closL_has (cells := env.cells) (x := x) scope.names [] (.inl (mem_of_lookupK hk))
          have h2 : cells.lookup x = some a := by rw [← hcells]; exact cf_keep _ _ _ (hNotC x hk) ha
          obtain ⟨c, o, ov, h3, h4, h5⟩ := f.cells x (hfc (x, .free) (mem_of_lookupK hk) rfl)
          rw [hcl x a ha] at h3; cases h3
          exact ⟨a, o, ov, by rw [ce3]; exact h2, (ho1 a o (hclF x a ha) h4).get (nd_cell h5), h5⟩
        · have : kd = .cell := by
            split at e
            · rename_i hc; simp at hc; exact absurd hc.1.1 hfk
            · exact e
          subst this
          obtain ⟨c, hc⟩ : ∃ c, cells.lookup x = some c := by
            have := cellsFrom_some scope.names (D + 1 + 1) (closL env.cells scope.names []) (.inl hk)
            rw [hcells] at this
            exact Option.isSome_iff_exists.mp this
          rcases hcell x c hc with z | ⟨o, e1, e2⟩
          · rw [hclf x c z] at hk; cases hk
          · exact ⟨c, o, none, by rw [ce3]; exact hc, e1, e2⟩
    · rw [← hfr] at e
      obtain ⟨_, e2⟩ := capt_lookup e
      rw [ceK, kOf, e2] at q
      simp only [Option.map_some, Option.some.injEq] at q
      split at q <;> cases q
    · rw [← hfr] at e
      obtain ⟨e1, e2⟩ := capt_lookup e
      obtain ⟨c, o, v', h1, h2, h3, h4⟩ := f.cv x v e1 (hfc (x, .free) (mem_of_lookupK e2) rfl)
      obtain ⟨a, ha⟩ := closL_has (cells := env.cells) (x := x) scope.names [] (.inl (mem_of_lookupK e2))
      have h5 : cells.lookup x = some a := by rw [← hcells]; exact cf_keep _ _ _ (hNotC x e2) ha
      rw [hcl x a ha] at h1; cases h1
      exact ⟨_, o, v', by rw [ce3]; exact h5, (ho1 _ o (hclF x _ ha) h2).get (nd_cell h3), h3, h4.mapx fun b o e nd z => ⟨(hf1 b o e z).1.get nd, (hf1 b o e z).2⟩⟩
  have hownD : ∀ b, own cenv b → F' b ∧ b ≠ D := by
    rintro b (z | ⟨x, hk, z⟩)
    · rw [ce2] at z; subst z; exact ⟨.inr (.inr (.inl rfl)), fun z => by have z : D + 1 = D := z; lia -matchEqs⟩
    · rw [ce3] at z
      refine ⟨.inr (.inr (.inr ⟨x, z⟩)), fun y => ?_⟩
      rcases hlow x b z with z | z
      · exact ne_lo 0 (hFs b (hclF x b z)) y
      · exact ne_hi 0 z (by lia -matchEqs) y
  have hwF : ∀ b, wr b → ¬ F' b := fun b z => by
    obtain ⟨h1, h2⟩ := hwr b z
    obtain ⟨o, e⟩ := I₂.ex b (.inr z)
    exact fun y => h1 (fresh' b o e y)
  have cat : CAt C k cenv A (fun a => F' a ∨ wr a) frc D [] p₂ { s₂ with heap := H4 } :=
    ⟨⟨R₂.mark keep24 fun a z => z.elim (fun z => .inl (.inl z)) .inr, I₄, frm₄⟩, .inl (.inr (.inl rfl)), fun z => (hownD D z).2 rfl, [], 0, hDat, .nil⟩
  have loop := comp_all (scope := scope) (pos := pos) (gens := ⟨t, iter, ifs, 0⟩ :: gs) (sc := relS scope sc) ce1 gs t iter ifs 0 F' wr frc p₂ it items [] St K { s₂ with heap := H4 } rfl (fun g hg => hpl g (List.mem_cons_of_mem _ hg)) hwF (fun b z => (hownD b z).1) (fun x c e => by rw [ce3] at e; exact .inr (.inr (.inr ⟨x, e⟩)))
    (let ⟨l, e, g⟩ := R.frames; ⟨l, e, fun y hy => let ⟨L, o, es, n, h1, h2, _, _⟩ := (g y hy).at_; ⟨L, h1, .inl h2⟩⟩) (.inr (.inl rfl)) T q cat st
  have loop' : codeAny (model C.prog C.w) A (.compLoop (.ListComp elt (⟨t, iter, ifs, 0⟩ :: gs) scope pos) 0 it (.ref D) cenv) (compPost (model C.prog C.w) A E use QQ (.ref D) (D + 1)) { s₂ with heap := H4 } := by
    refine codeAny_mono loop fun r s' ⟨hr, acc', p', q', c', S', m'⟩ => ?_
    subst hr
    have hnF : ∀ a, F a → ¬ (exD cenv L D a ∨ wr a) := fun a z y => by
      have hlt := hFs a z
      rcases y with (⟨x, hxL, ⟨_, y⟩ | ⟨hk, y⟩⟩ | y) | y
      · rw [ce2] at y; exact ne_lo 1 hlt y
      · rw [ce3] at y
        rcases hlow x a y with y | y
        · have h1 := hclf x a y
          have := hL x hxL
          rw [h1] at this
          simp at this
        · lia -matchEqs
      · exact ne_lo 0 hlt y
      · exact (hwr a y).1 z
    have ho2 : ∀ a o, F a → s.heap.get? a = some o → Kept s'.heap a o := fun a o z e => (ho1 a o z e).trans fun sl e' => (S' a _ e' (I₄.ofF (.inl (.inl z))) (hnF a z)).1
    have hf2 : ∀ a o, s.heap.get? a = some o → Free F p a → Kept s'.heap a o ∧ Free F' p' a := fun a o e fa => by
      obtain ⟨e', f'⟩ := hf1 a o e fa
      have nx : ¬ (exD cenv L D a ∨ wr a) := fun y => f'.1 (y.elim (fun y => .inl (y.elim (fun y => (hownD a (asgd_own a y)).1) fun y => .inr (.inl y))) .inr)
      exact ⟨e'.trans fun sl e' => (S' a _ e' f'.2 nx).1, fun z => f'.1 (.inl z), let ⟨_, e', _⟩ := e'; (S' a _ e' f'.2 nx).2⟩
    obtain ⟨vs, n, con1, con2⟩ := c'.con
    refine fin (fun a => F' a ∧ a ≠ D) D (D + 1) acc' p' s' q' (fun b z => ⟨.inl z, ne_lo 0 (hFs b z)⟩) ⟨fun z => z.2 rfl, c'.at_.inv.ofF (.inr (.inl rfl))⟩ ⟨.inr (.inr (.inl rfl)), fun z => by have z : D + 1 = D := z; lia -matchEqs⟩ (fun z => by have z : D = D + 1 := z; lia -matchEqs) (fun z => by have := hFs _ z; lia -matchEqs)
      ⟨R.mapx ho2 fun b z => ⟨.inl z, ne_lo 0 (hFs b z)⟩, c'.at_.inv.unmark fun ζ z => z.1, f.mapx ho2 (fun b o e nd z => ⟨(hf2 b o e z).1.get nd, fun y => (hf2 b o e z).2.1 y.1, (hf2 b o e z).2.2⟩) fun b z => ⟨.inl z, ne_lo 0 (hFs b z)⟩⟩ ⟨vs, n, con1, con2.weak fun b z => ⟨fun y => z.1 y.1, z.2⟩⟩ ?_ ((m₂.trans (Same.mk s₂ H4 s₂.toks)).trans m') ?_ (fun b z => ⟨?_, ?_⟩) fun o e q => let ⟨_, e', _⟩ := (S₂ _ o e q id).1; ne_lo 1 (below _ _ e') rfl
    · intro b o e hb _
      by_cases hFb : F b
      · exact ⟨ho2 b o hFb e, c'.at_.inv.ofF (.inl hFb)⟩
      · obtain ⟨e1, e2⟩ := hf2 b o e ⟨hFb, hb⟩; exact ⟨e1, e2.2⟩
    · obtain ⟨m, hn, _⟩ := c'.at_.frm.ns
      rw [ce2] at hn; exact ⟨m, hn⟩
    · exact ne_lo 1 (hFs b (own_F f b z))
    · exact ne_lo 0 (hFs b (own_F f b z))
  exact codeAny_compStart_gen rfl loop' (T.self st loop')

theorem fin_comp {F F' : FS} {fr0 : Fm} {p0 : P} {h0 : Heap} {env : Env} {A : Around} {Cc : Addr} {v' : Value} {v : V} {p' : P} {s s' : Shared} {h' : Heap} (f0 : FrR C env F fr0 p0 h0) (sub : ∀ a, F a → F' a) (hC : F' Cc) (nFC : ¬ F Cc) (a : At C k env A F' fr p' s') (r : VR s'.heap F' p' v' v) {ex : FS}
    (S : Step ex p s.heap p' s'.heap) (nC : ∀ o, s.heap.get? Cc = some o → p Cc = none → False) (hs : Heap.SameBut Cc s'.heap h') : A4 (Inv C F p' h') (Step ex p s.heap p' h') (VR h' F p' v' v) (FrR C env F fr p' h') := by
  have keep : ∀ b o, b ≠ Cc → s'.heap.get? b = some o → h'.get? b = some o := fun b o n e => (hs.2 b n).trans e
  have hwk : ∀ a o, s'.heap.get? a = some o → ND o → Free F' p' a → h'.get? a = some o ∧ Free F p' a := fun b o e ζ f => ⟨keep b o (fun z => f.1 (z ▸ hC)) e, fun z => f.1 (sub _ z), f.2⟩
  have SC : Step (fun b => b = Cc) p' s'.heap p' h' := fun b o e q n => ⟨.of (keep b o n e), q⟩
  have fne : ∀ b, F b → b ≠ Cc := fun b z y => nFC (y ▸ z)
  have f := a.frm
  refine ⟨⟨fun b o e => ?_, fun b o e => ?_, fun b z => ?_⟩, fun b o e1 e2 n => ?_, r.mapx hwk, f.kind, f.glob, f.blt, f0.ownL, fun x c e => ⟨(f0.ownC x c e).1, (f.ownC x c e).2⟩, f.inj, fun x e => ?_, ?_, fun x v e q => ?_⟩
  · obtain ⟨e1, e2⟩ := a.inv.base b o e
    exact ⟨keep b o (fun z => e2.1 (z ▸ hC)) e1, fun z => e2.1 (sub _ z), e2.2⟩
  · obtain ⟨e1, e2, c, e3, e4⟩ := a.inv.trk b o e
    exact ⟨fun z => e1 (sub _ z), e2, c, keep b c (fun z => e1 (z ▸ hC)) e3, (e4.step SC fun b z => z ▸ hC).weak fun b z => ⟨fun y => z.1 (sub _ y), z.2⟩⟩
  · obtain ⟨o, e⟩ := a.inv.ex b (sub _ z); exact ⟨o, keep b o (fne b z) e⟩
  · obtain ⟨e3, e4⟩ := S b o e1 e2 n
    exact ⟨e3.trans fun sl e3 => .of (keep b _ (fun z => nC o (z ▸ e1) (z ▸ e2)) e3), e4⟩
  · obtain ⟨c, o, ov, h1, h2, h3⟩ := f.cells x e
    exact ⟨c, o, ov, h1, keep c o (fne c (f0.ownC x c h1).1) h2, h3⟩
  · obtain ⟨m, ⟨o, es, ep, h1, r⟩, g⟩ := f.ns
    exact ⟨m, ⟨o, es, ep, keep _ _ (fne _ f0.ownL) h1, r⟩, fun x v e q => let ⟨v', a, b⟩ := g x v e q; ⟨v', a, b.mapx hwk⟩⟩
  · obtain ⟨c, o, v', h1, h2, h3, h4⟩ := f.cv x v e q
    exact ⟨c, o, v', h1, keep c o (fne c (f0.ownC x c h1).1) h2, h3, h4.mapx hwk⟩
theorem T_ListComp {L : List Str} {elt t iter : Expr} {ifs : List Expr} {gs : List Comprehension} {scope sc' : Scope} {pos : Pos} {frc : Fm} {Q : V → P → Prop} (hok : compOk scope sc L = true) (hsc : relS scope sc = sc') (hfr : capt scope fr = frc)
    (h : TI C k sc fr p t iter (fun items p₁ => TLo (tgB C k sc' L elt t ifs gs frc) (fun acc p' => Q (.lst acc) p') items [] p₁) X) (hkind : scope.kind = .function) (hpl : ∀ g ∈ (⟨t, iter, ifs, 0⟩ :: gs : List Comprehension), PlainG g) :
    TE C k sc fr p (.ListComp elt (⟨t, iter, ifs, 0⟩ :: gs) scope pos) Q X := by
  intro env A F s he R I f
  subst hsc
  rw [eval_ListComp]
  refine comp_core (use := none) (K := fun acc p' => Q (.lst acc) p') he hkind hok hpl hfr R I f h (fun ζ ζ z => z) fun F' D Cc acc p' s' q sub hD hC hne nC a con S m hn ζ hfr' => ?_
  obtain ⟨mm, hn⟩ := hn
  obtain ⟨vs, n, c1, c2⟩ := con
  refine ⟨mm, hn, fun h' hs => ?_⟩
  obtain ⟨I', S', r', _⟩ := fin_comp (h' := h') f sub hC nC a (.lst c1 hD c2) S hfr' hs
  exact ⟨_, p', q, I', S', r', m.trans (Same.mk s' h' s'.toks)⟩

theorem T1_Assign_Comp {L : List Str} {x : Str} {px : Pos} {elt t iter : Expr} {ifs : List Expr} {gs : List Comprehension} {scope sc' : Scope} {pos spos : Pos} {frc : Fm} {Q : Fl → Fm → P → Prop} (hk : sc.names.lookup x = some .local)
    (hsw : ∀ env : Env, env.scope = sc → swapsWith (.ListComp elt (⟨t, iter, ifs, 0⟩ :: gs) scope pos) (some (.Name x px)) spos.line env = pure true) (hok : compOk scope sc L = true) (hsc : relS scope sc = sc') (hfr : capt scope fr = frc)
    (h : TI C k sc fr p t iter (fun items p₁ => TLo (tgB C k sc' L elt t ifs gs frc) (fun acc p' => ∃ fr', setL x (.lst acc) fr = fr' ∧ Q .next fr' p') items [] p₁) X) (hkind : scope.kind = .function) (hpl : ∀ g ∈ (⟨t, iter, ifs, 0⟩ :: gs : List Comprehension), PlainG g) :
    T1 C k sc fr p (.Assign [.Name x px] (.ListComp elt (⟨t, iter, ifs, 0⟩ :: gs) scope pos) spos) Q X := by
  intro env A F s he R I f
  subst hsc
  rw [exec_Assign_Name_used _ _ _ _ (hsw env he)]
  refine wpAny_bind (wpAny_standAt (wpAny_bind ?_))
  show wpAny _ A (do let _ ← comprehension (.ListComp elt (⟨t, iter, ifs, 0⟩ :: gs) scope pos) scope env _ (newList []) false (eval iter env) (some (assign (.Name x px) env))) _ _ s
  refine wpAny_bind (wpAny_mono (comp_core (use := some (assign (.Name x px) env)) (QQ := fun ζ s' => PostS C env F p s Q .next s') (E := PostX C (own env) F p s X) he hkind hok hpl hfr R I f h (fun ζ ζ z => z.own I f) fun F' D Cc acc p' s' q sub hD hC hne nC a con S m hn hown hfr' => ?_) (fun ζ s' hq => wpAny_pure (wpAny_pure hq)) fun ζ ζ z => z)
  obtain ⟨fr', rfl, q⟩ := q
  obtain ⟨mm, hn⟩ := hn
  obtain ⟨vs, n, c1, c2⟩ := con
  have hk' : env.kindOf x = some .local := by unfold Env.kindOf; rw [he]; exact hk
  refine wpAny_assign_Name (store_name a.inv a.frm (.lst c1 hD c2) (.inl hk') fun h₂ tk I₂ S₂ f₂ => ?_)
  have hCn : ¬ asgd env [x] Cc := fun z => (hown Cc (asgd_own _ z)).1 rfl
  obtain ⟨o, es, ep, e1, e2⟩ := hn
  obtain ⟨⟨sl, e1', _⟩, _⟩ := S₂ Cc o e1 (a.inv.ofF hC) hCn
  refine ⟨mm, ⟨{ o with slots := sl }, es, ep, e1', e2⟩, fun h' hs => ?_⟩
  have a₂ : At C k env A F' (setL x (.lst acc) fr) p' { s' with heap := h₂, toks := tk } := At.stepA (s' := { s' with heap := h₂, toks := tk }) a (S₂.weak asgd_own) I₂ f₂
  obtain ⟨I', S', _, f'⟩ := fin_comp (h' := h') (v' := .none) (v := .none) f sub hC nC a₂ .none (S.of.trans (S₂.weak asgd_own)) hfr' hs
  exact ⟨.next, _, p', q, I', S', f', .next, m.trans (Same.mk s' h' tk)⟩
end
end Tl
end

section
open PySem PySem.W PySem.Calls PyProof.Rows
set_option linter.unusedVariables false
namespace Tl

theorem br {c : Bool} {A B : Prop} (ht : c = true → A) (hf : c = false → B) : (c = true → A) ∧ (c = false → B) := ⟨ht, hf⟩
theorem br_t {c : Bool} {A B : Prop} (hc : c = true) (h : A) : (c = true → A) ∧ (c = false → B) := ⟨fun ζ => h, fun z => (by rw [hc] at z; cases z)⟩
theorem br_f {c : Bool} {A B : Prop} (hc : c = false) (h : B) : (c = true → A) ∧ (c = false → B) := ⟨fun z => (by rw [hc] at z; cases z), fun ζ => h⟩
theorem sub_nil {fr' : Fm} : Sub [] fr' := fun x v e => by simp at e
theorem sub_cons {x : Str} {v : V} {r fr' : Fm} (h : fr'.lookup x = some v) (hr : Sub r fr') : Sub ((x, v) :: r) fr' := fun y u e => by
  rw [List.lookup_cons] at e
  cases hy : (y == x) with
  | true => rw [hy] at e; cases e; rw [beq_iff_eq.mp hy]; exact h
  | false => rw [hy] at e; exact hr y u e

section
variable {C : Cfg} {k : Nat} {sc : Scope} {fr : Fm} {p : P} {X : P → Prop}

theorem TC_up {f : Value} {args : List V} {k k' : Nat} {Q : V → P → Prop} (hk : k ≤ k') (h : TC C k f args p Q X) : TC C k' f args p Q X := fun A F s a' R I r => h A F s a' (R.less hk) I r
theorem back_same {v : V} {Q : V → P → Prop} (q : Q v p) : Back Q v p := ⟨v, p, Le.refl p, .same v, q⟩

theorem TA_mono {ns ns' : List Str} {t : Expr} {v : V} {Q : Fm → P → Prop} (h : ∀ x ∈ ns, x ∈ ns') (g : TA C k sc ns fr p t v Q) : TA C k sc ns' fr p t v Q := fun env A F s v' he R I f r =>
  wpAny_mono (g env A F s v' he R I f r) (fun _ _ ⟨fr₁, p₁, q, I₁, S₁, f₁, m₁⟩ => ⟨fr₁, p₁, q, I₁, S₁.weak (asgd_mono h), f₁, m₁⟩) fun ζ ζ z => z
theorem TA_post {ns : List Str} {t : Expr} {v : V} {Q Q' : Fm → P → Prop} (g : TA C k sc ns fr p t v Q) (h : ∀ fr p, Q fr p → Q' fr p) : TA C k sc ns fr p t v Q' := fun env A F s v' he R I f r =>
  wpAny_mono (g env A F s v' he R I f r) (fun _ _ ⟨fr₁, p₁, q, I₁, S₁, f₁, m₁⟩ => ⟨fr₁, p₁, h _ _ q, I₁, S₁, f₁, m₁⟩) fun ζ ζ z => z
theorem TE_post {e : Expr} {Q Q' : V → P → Prop} (g : TE C k sc fr p e Q X) (h : ∀ v p, Q v p → Q' v p) : TE C k sc fr p e Q' X := fun env A F s he R I f =>
  wpAny_mono (g env A F s he R I f) (fun ζ ζ z => z.imp h) fun ζ ζ z => z
theorem TC_post {f : Value} {args : List V} {Q Q' : V → P → Prop} (g : TC C k f args p Q X) (h : ∀ v p, Q v p → Q' v p) : TC C k f args p Q' X := fun A F s a' R I r =>
  wpAny_mono (g A F s a' R I r) (fun ζ ζ z => z.imp h) fun ζ ζ z => z
theorem TS_post {st : List Stmt} {Q Q' : Fl → Fm → P → Prop} (g : TS C k sc fr p st Q X) (h : ∀ fl fr p, Q fl fr p → Q' fl fr p) : TS C k sc fr p st Q' X := fun env A F s he R I f =>
  wpAny_mono (g env A F s he R I f) (fun ζ ζ z => z.imp h) fun ζ ζ z => z

theorem TA_1 {x : Str} {pos : Pos} {v : V} {L : List Str} {Q : Fm → P → Prop} (hk : sc.names.lookup x = some .local ∨ sc.names.lookup x = some .cell) (hL : x ∈ L) (q : Q (setL x v fr) p) : TA C k sc L fr p (.Name x pos) v Q :=
  TA_mono (fun y hy => by rw [List.mem_singleton.mp hy]; exact hL) (TA_Name hk rfl q)
theorem TA_2 {x y : Str} {q1 q2 pos : Pos} {kk : Nat} {v u : V} {L : List Str} {Q : Fm → P → Prop} (hx : sc.names.lookup x = some .local ∨ sc.names.lookup x = some .cell) (hy : sc.names.lookup y = some .local ∨ sc.names.lookup y = some .cell) (hL : x ∈ L) (hL' : y ∈ L)
    (q : Q (setL y u (setL x v fr)) p) : TA C k sc L fr p (.Tuple [.Name x q1, .Name y q2] kk pos) (.tup [v, u]) Q :=
  TA_Tuple (TAL_cons (he := by intro _; rfl) (n₁ := L) (n₂ := L) (TA_1 hx hL (TAL_cons (he := by intro _; rfl) (n₁ := L) (n₂ := []) (TA_1 hy hL' (TAL_nil q)) rfl (fun ζ h => h) (fun ζ h => by simp at h) (fun ζ => ⟨rfl, rfl⟩))) rfl (fun ζ h => h) (fun ζ h => h) (fun ζ => ⟨rfl, rfl⟩))

theorem TFor_inv {ns : List Str} {t : Expr} {b : List Stmt} {Q : Fl → Fm → P → Prop} (J : List V → Fm → P → Prop) (hnil : ∀ fr p, J [] fr p → Q .next fr p)
    (hcons : ∀ v r fr p, J (v :: r) fr p → TA C k sc ns fr p t v (fun fr₁ p₁ => TS C k sc fr₁ p₁ b (fun fl fr₂ p₂ => match fl with
      | .next => J r fr₂ p₂
      | .cont => J r fr₂ p₂
      | .brk => Q .next fr₂ p₂
      | .ret u => Q (.ret u) fr₂ p₂) X0)) : ∀ (items : List V) (fr : Fm) (p : P), J items fr p → TFor C k sc ns t b Q items fr p
  | [], fr, p, h => hnil fr p h
  | v :: r, fr, p, h => by
    refine TA_post (hcons v r fr p h) fun fr₁ p₁ g => TS_post g fun fl fr₂ p₂ q => ?_
    cases fl with
    | next => exact TFor_inv J hnil hcons r fr₂ p₂ q
    | cont => exact TFor_inv J hnil hcons r fr₂ p₂ q
    | brk => exact q
    | ret u => exact q

theorem TLo_flat {α : Type} {f : α → V} {g : α → List V} {body : V → List V → P → (List V → P → Prop) → Prop} {K : List V → P → Prop} : ∀ {xs : List α} {acc : List V}, acc.length + (xs.flatMap g).length ≤ 1000000 →
    (∀ x ∈ xs, ∀ acc K', acc.length ≤ 1000000 → K' (acc ++ g x) p → body (f x) acc p K') → K (acc ++ xs.flatMap g) p → TLo body K (xs.map f) acc p
  | [], acc, hl, hb, h => (List.append_nil acc ▸ (show K (acc ++ []) p from h) : K acc p)
  | x :: xs, acc, hl, hb, h => by
    simp only [List.flatMap_cons, List.length_append] at hl
    show body (f x) acc p _
    refine hb x List.mem_cons_self acc _ (by lia -matchEqs) ?_
    refine TLo_flat (by simp only [List.length_append]; lia -matchEqs) (fun y hy => hb y (List.mem_cons_of_mem _ hy)) ?_
    simpa [List.flatMap_cons, List.append_assoc] using h
theorem TLo_map {α : Type} {f : α → V} {g : α → V} {body : V → List V → P → (List V → P → Prop) → Prop} {K : List V → P → Prop} {xs : List α} (hl : xs.length ≤ 1000000)
    (hb : ∀ x ∈ xs, ∀ acc K', acc.length ≤ 1000000 → K' (acc ++ [g x]) p → body (f x) acc p K') (h : K (xs.map g) p) : TLo body K (xs.map f) [] p := by
  have e : ∀ ys : List α, ys.flatMap (fun x => [g x]) = ys.map g := fun ys => by induction ys with
    | nil => rfl
    | cons y ys ih => simp [ih]
  refine TLo_flat (g := fun x => [g x]) (by rw [e]; simpa using hl) hb ?_
  rw [e]; exact h
theorem TLo_filter {α : Type} {f : α → V} {c : α → Bool} {g : α → V} {body : V → List V → P → (List V → P → Prop) → Prop} {K : List V → P → Prop} {xs : List α} (hl : xs.length ≤ 1000000)
    (hb : ∀ x ∈ xs, ∀ acc K', acc.length ≤ 1000000 → (c x = true → K' (acc ++ [g x]) p) → (c x = false → K' acc p) → body (f x) acc p K') (h : K ((xs.filter c).map g) p) : TLo body K (xs.map f) [] p := by
  have e : ∀ ys : List α, ys.flatMap (fun x => if c x then [g x] else []) = (ys.filter c).map g := fun ys => by induction ys with
    | nil => rfl
    | cons y ys ih => cases hc : c y <;> simp [hc, ih]
  refine TLo_flat (g := fun x => if c x then [g x] else []) (by rw [e]; have := List.length_filter_le c xs; simp; lia -matchEqs) (fun x hx acc K' hl hK => hb x hx acc K' hl (fun z => by simpa [z] using hK) fun z => by simpa [z] using hK) ?_
  rw [e]; exact h

theorem TC_sum' {l : List V} {ns : List Int} {Q : V → P → Prop} (hl : l = ns.map .int) (q : Q (.int ns.sum) p) : TC C k (.builtin "sum") [.lst l] p Q X := hl ▸ TC_sum q
theorem TC_sorted' {l : List V} {ns : List Int} {Q : V → P → Prop} (he : l = ns.map .int) (hl : ns.length < 64) (q : ∀ ms : List Int, ms.Perm ns → ms.Pairwise (· ≤ ·) → Q (.lst (ms.map .int)) p) : TC C k (.builtin "sorted") [.lst l] p Q X := he ▸ TC_sortedL hl q
end
end Tl
end

section
open PySem PySem.W PySem.Calls PyProof.Rows
set_option linter.unusedVariables false
namespace Tl
section
variable {C : Cfg} {k : Nat} {sc : Scope} {fr : Fm} {p : P} {X : P → Prop}

noncomputable def FE (F : FS) (e T : Addr) : FS := fun a => F a ∨ a = e ∨ a = T
structure FrN (x F : FS) (h : Heap) (e : Env) : Prop where
  kind : e.scope.kind = .function
  at_ : X2 fun L o => A5 (e.frame = some L) (F L) (h.get? L = some o) (∀ vs, o.data ≠ .fields vs) (x L ∨ X2 fun es n => o.data = .dict es n)
theorem frames_mem {xx F : FS} {h : Heap} {l : List Env} (hl : ∀ x ∈ l, FrN xx F h x) {b : Addr} (hb : b ∈ l.filterMap (·.frame)) : F b ∧ ∃ o, A3 (h.get? b = some o) (∀ vs, o.data ≠ .fields vs) (xx b ∨ X2 fun es n => o.data = .dict es n) := by
  obtain ⟨x, hx, e⟩ := List.mem_filterMap.mp hb
  obtain ⟨L, o, a, f, ho, hd, hd2⟩ := (hl x hx).at_
  rw [a] at e; cases e
  exact ⟨f, o, ho, hd, hd2⟩
theorem funFrames_of {xx F : FS} {h : Heap} {as : List Addr} : ∀ {l : List Env}, (∀ x ∈ l, FrN xx F h x) → (∀ x ∈ l, ∀ a, x.frame = some a → a ∈ as) → h.FunFrames (hideAll h as) l
  | [], _, _ => trivial
  | x :: r, hl, hin => by
    obtain ⟨L, o, a, f, ho, hd, _⟩ := (hl x (by simp)).at_
    exact ⟨by rw [(hl x (by simp)).kind]; decide, ⟨L, o, a, hideAll_none _ (hin x (by simp) L a), ho, hd⟩, funFrames_of (fun y hy => hl y (by simp [hy])) fun y hy => hin y (by simp [hy])⟩

theorem flight_after {xx F : FS} {h h' : Heap} {l : List Env} {e T : Addr} {fl : Value} (hl : ∀ x ∈ l, FrN xx F h x) (I : Inv C (FE F e T) p h) (n1 : ¬ F e) (n2 : ¬ F T)
    (st : (hideAll h (l.filterMap (·.frame) ++ [e, T])).StaysIn h') (sl : h.UpToSlots h') {a0 : Value} (tr : h'.TracedAtW (hideAll h (l.filterMap (·.frame) ++ [e, T])) e (.ref C.exc) a0 fl) :
    ∃ T', A7 (T' ≠ e) (¬ F T') (h'.TracedAtW (hideAll h (l.filterMap (·.frame) ++ [e, T])) e (.ref C.exc) a0 fl) (X4 fun oe vs oT ts => A8 (h'.get? e = some oe) (oe.cls = .ref C.exc) (oe.data = .fields vs) (vs[0]? = some a0) (vs[1]? = some (.ref T')) (h'.get? T' = some oT) (oT.data = .fields ts) (ts[3]? = some fl)) (Inv C (FE F e T') p h') (Step (fun a => a = e ∨ a = T ∨ xx a) p h p h') (∀ b o, h.get? b = some o → ¬ F b → b ≠ e → b ≠ T → b ≠ T') := by
  have tr' := tr
  obtain ⟨oe, vs, T', oT, ts, g1, ⟨g2, g3⟩, g4, g5, g6, g7, g8, g9, g10⟩ := tr
  have keep : ∀ b o, h.get? b = some o → b ∉ l.filterMap (·.frame) → b ≠ e → b ≠ T → h'.get? b = some o ∧ b ≠ T' := fun b o hb k1 k2 k3 => by
    have := hideAll_get (l.filterMap (·.frame) ++ [e, T]) hb (by simp only [List.mem_append, List.mem_cons, List.not_mem_nil, or_false, not_or]; exact ⟨k1, k2, k3⟩)
    refine ⟨st b o this, fun z => ?_⟩
    subst z; rw [g6] at this; cases this
  have keepF : ∀ b o, h.get? b = some o → ¬ F b → b ≠ e → b ≠ T → h'.get? b = some o ∧ b ≠ T' := fun b o hb k1 k2 k3 => keep b o hb (fun z => k1 (frames_mem hl z).1) k2 k3
  have nT : ¬ F T' := fun f => by
    obtain ⟨o, ho⟩ := I.ex T' (.inl f)
    by_cases hb : T' ∈ l.filterMap (·.frame)
    · obtain ⟨_, o', ho', hd, _⟩ := frames_mem hl hb
      obtain ⟨s1, h1⟩ := sl T' o' ho' hd
      rw [g8] at h1; cases h1
      exact hd _ g9
    · exact (keep T' o ho hb g7 (fun z => n2 (z ▸ f))).2 rfl
  have hf : ∀ a o, h.get? a = some o → Free (FE F e T) p a → h'.get? a = some o ∧ Free (FE F e T') p a := fun a o ha f => by
    obtain ⟨k1, k2⟩ := keepF a o ha (fun z => f.1 (.inl z)) (fun z => f.1 (.inr (.inl z))) (fun z => f.1 (.inr (.inr z)))
    exact ⟨k1, fun z => by rcases z with z | z | z; exact f.1 (.inl z); exact f.1 (.inr (.inl z)); exact k2 z, f.2⟩
  refine ⟨T', g7, nT, tr', ⟨oe, vs, oT, ts, g1, g2, g4, g3, g5, g8, g9, g10⟩, ⟨fun b o hb => ?_, fun b o hb => ?_, fun a ha => ?_⟩, fun b o hb hp hx => ?_, fun b o hb k1 k2 k3 => (keepF b o hb k1 k2 k3).2⟩
  · obtain ⟨k1, k2⟩ := I.base b o hb
    exact hf b o k1 k2
  · obtain ⟨k1, k2, c, hc, r⟩ := I.trk b o hb
    obtain ⟨k3, k4⟩ := keepF b c hc (fun z => k1 (.inl z)) (fun z => k1 (.inr (.inl z))) (fun z => k1 (.inr (.inr z)))
    exact ⟨fun z => by rcases z with z | z | z; exact k1 (.inl z); exact k1 (.inr (.inl z)); exact k4 z, k2, c, k3, r.mapx fun a o e ζ => hf a o e⟩
  · rcases ha with ha | rfl | rfl
    · obtain ⟨o, ho⟩ := I.ex a (.inl ha)
      by_cases hb : a ∈ l.filterMap (·.frame)
      · obtain ⟨_, o', ho', hd, _⟩ := frames_mem hl hb
        obtain ⟨s1, h1⟩ := sl a o' ho' hd
        exact ⟨_, h1⟩
      · exact ⟨o, (keep a o ho hb (fun z => n1 (z ▸ ha)) (fun z => n2 (z ▸ ha))).1⟩
    · exact ⟨oe, g1⟩
    · exact ⟨oT, g8⟩
  · refine ⟨?_, hp⟩
    by_cases hb' : b ∈ l.filterMap (·.frame)
    · obtain ⟨_, o', ho', hd', hd⟩ := frames_mem hl hb'
      rw [hb] at ho'; cases ho'
      obtain ⟨s1, h1⟩ := sl b o hb hd'
      obtain ⟨es, n, hd⟩ := hd.resolve_left fun z => hx (.inr (.inr z))
      exact ⟨s1, h1, fun nd => absurd hd (nd es n)⟩
    · exact .of (keep b o hb hb' (fun z => hx (.inl z)) (fun z => hx (.inr (.inl z)))).1

theorem leave_flies {A : Around} {xx F : FS} {env : Env} {outer : List Env} {s : Shared} {L e T : Addr} {M : Model} {Q : Unit → Shared → Prop} {E : Value → Shared → Prop} (hfr : A.frames = some (env :: outer)) (hl : ∀ x ∈ env :: outer, FrN xx F s.heap x) (hL : env.frame = some L)
    (I : Inv C (FE F e T) p s.heap) (n1 : ¬ F e) (n2 : ¬ F T) (fl : Flies C s.heap e T)
    (h : ∀ h' T', ¬ F T' → Flies C h' e T' → Inv C (FE F e T') p h' → Step (fun a => a = e ∨ a = T ∨ xx a) p s.heap p h' → (∀ b o, s.heap.get? b = some o → ¬ F b → b ≠ e → b ≠ T → b ≠ T') → Q () { s with heap := h' }) : wpAny M A (leaving env (.ref e)) Q E s := by
  have he : e ∈ (env :: outer).filterMap (·.frame) ++ [e, T] := by simp
  have hin : ∀ x ∈ env :: outer, ∀ a, x.frame = some a → a ∈ (env :: outer).filterMap (·.frame) ++ [e, T] := fun x hx a ha => List.mem_append_left _ (List.mem_filterMap.mpr ⟨x, hx, ha⟩)
  have hf := funFrames_of hl hin
  have hst : (hideAll s.heap ((env :: outer).filterMap (·.frame) ++ [e, T])).StaysIn s.heap := fun b o q => of_hideAll _ q
  have done : ∀ h' a0, Heap.LeftW (hideAll s.heap ((env :: outer).filterMap (·.frame) ++ [e, T])) (env :: outer) e (.ref C.exc) a0 s.heap h' → Q () { s with heap := h' } := fun h' a0 hL => by
    obtain ⟨k1, _, k3, k4⟩ := hL
    obtain ⟨T', g1, g2, _, ⟨oe, vs, oT, ts, r1, r2, r3, r4, r5, r6, r7, r8⟩, g4, g5, g7⟩ := flight_after hl I n1 n2 k1 k4 k3.at
    exact h h' T' g2 ⟨oe, vs, a0, r1, r2, r3, r4, .inr ⟨r5, g1, oT, ts, r6, r7, r8⟩⟩ g4 g5 g7
  obtain ⟨oe, vs, a0, r1, r2, r3, r4, r5 | ⟨r5, r6, oT, ts, r7, r8, r9⟩⟩ := fl
  · obtain ⟨r5, rfl⟩ := r5
    exact wpAny_leaving_firstW hfr hf hL r1 hst (hideAll_none _ he) r3 r5 r4 fun h' hh => done h' a0 (r2 ▸ hh)
  · exact wpAny_leaving_nextW hfr hf hL ⟨oe, vs, T, oT, ts, r1, ⟨r2, r4⟩, r3, r5, hideAll_none _ (by simp), r6, r7, r8, r9⟩ hst (hideAll_none _ he) fun h' hh => done h' a0 hh

noncomputable def TCC (C : Cfg) (k : Nat) (f : Value) (args : List V) (p : P) (Q : V → P → Prop) (X : P → Prop) : Prop :=
  ∀ A F s args', Room k A F s.heap → Inv C F p s.heap → VRL s.heap F p args' args →
    codeAny (model C.prog C.w) A (.call f ⟨args', []⟩) (fun r s' => match r with | .ok (.ret v) => Post C F p s Q v s' | .ok _ => False | .error e => PostX C NO F p s X e s') s
theorem TCC.tc {f : Value} {args : List V} {Q : V → P → Prop} (h : TCC C k f args p Q X) : TC C k f args p Q X := fun A F s a R I r => wpAny_call (h A F s a R I r)
theorem TCC.up {f : Value} {args : List V} {k' : Nat} {Q : V → P → Prop} (hk : k ≤ k') (h : TCC C k f args p Q X) : TCC C k' f args p Q X := fun A F s a' R I r => h A F s a' (R.less hk) I r

noncomputable def TSf (C : Cfg) (k : Nat) (sc : Scope) (fr : Fm) (p : P) (st : List Stmt) (Q : Fl → Fm → P → Prop) (X : P → Prop) : Prop :=
  ∀ env A F s, env.scope = sc → (∃ l, A.frames = some (env :: l)) → env.frame = some env.locals → Room k A F s.heap → Inv C F p s.heap → FrR C env F fr p s.heap →
    wpAny (model C.prog C.w) A (execs st env) (PostS C env F p s Q) (PostX C (own env) F p s X) s
theorem TS.f {st : List Stmt} {Q : Fl → Fm → P → Prop} (h : TS C k sc fr p st Q X) : TSf C k sc fr p st Q X := fun env A F s he ζ ζ => h env A F s he
theorem T_defXf {names : List Str} {f : Addr} {name qual : Str} {params : Arguments} {body : List Stmt} {dV kV doc pm cdv ct oc : Value} {an od : Option Addr} {osl : Array (Option Value)} {args : List V} {Q : V → P → Prop}
    (ho : C.K.lookup f = some ⟨oc, od, .func (fnOf name qual params body sc dV kV doc pm an cdv ct), osl⟩) (hcd : codeIn C.K cdv qual = true)
    (hb : ∀ args' : List Value, args'.length = args.length → bindArgs (fnOf name qual params body sc dV kV doc pm an cdv ct) ⟨args', []⟩ = pure (names.zip args'))
    (hn : names.Nodup) (hkd : ∀ x ∈ names, sc.names.lookup x = some .local ∨ sc.names.lookup x = some .cell) (hco : sc.isCoroutine = false) (hgen : sc.isGenerator = false) (hk : sc.kind = .function)
    (h : TSf C k sc (names.zip args) p body (fun fl ζ p' => Back Q fl.val p') X) : TCC C (k + 1) (.ref f) args p Q X := by
  intro A F s args' R I r
  have ho' : s.heap.get? f = some _ := I.keep _ _ (C.X _ _ ho)
  have hlim := nolimit I
  refine codeAny_call_function (by have := R.depth; lia -matchEqs) ho' rfl hco hgen rfl ((codeRec_of C.X hcd).keeps I.keep) ?_
  refine BindsTo.of_eq (hb args' r.length) _ _ _ _ ?_
  refine wpAny_newFunctionEnv_cells hk (fun x hx => ?_) fun env he s₁ x => ?_
  · have hx' := zip_keys x.1 (List.mem_map_of_mem hx)
    rcases hkd _ hx' with e | e
    · exact .inl e
    · exact .inr ⟨e, by obtain ⟨c, hc⟩ := cell_in e (s.heap.objs.size + 1); rw [show (fnOf name qual params body sc dV kV doc pm an cdv ct).scope = sc from rfl, hc]; rfl⟩
  have hsc : env.scope = sc := by rw [he]; rfl
  have hfr : env.frame = some env.locals := by rw [he]; rfl
  have hcl : env.cells = cellsFrom (s.heap.objs.size + 1) sc.names [] := by rw [he]; rfl
  have hLL : env.locals = s.heap.objs.size := by rw [he]; rfl
  have hgl : env.globals = mainGlobals := by rw [he]; rfl
  have hbl : env.builtins = builtinsNs := by rw [he]; rfl
  have hkind : ∀ y, env.kindOf y = sc.names.lookup y := fun y => by unfold Env.kindOf; rw [hsc]
  have hkeep := x.toInCall.keep
  have hsame : Same s s₁ := by obtain ⟨h₁, tk, e⟩ := x.toInCall.same; rw [e]; exact Same.mk s h₁ tk
  refine ⟨hlim.keeps hkeep, codeAny_func ?_⟩
  let F' : FS := fun a => F a ∨ a = env.locals ∨ ∃ y, env.cells.lookup y = some a
  have hnew : ∀ a, (a = env.locals ∨ ∃ y, env.cells.lookup y = some a) → s.heap.get? a = none := by
    rintro a (rfl | ⟨y, e⟩)
    · rw [hLL]; exact Heap.get?_none_of_le (Nat.le_refl _)
    · have := x.above y a (mem_of_lookup e)
      rw [hLL] at this
      exact Heap.get?_none_of_le (Nat.le_of_lt this)
  have hf : ∀ a o, s.heap.get? a = some o → F' a → F a := fun a o e z => z.elim id fun z => by rw [hnew a z] at e; cases e
  have hx : ∀ a, F' a → ∃ o, s₁.heap.get? a = some o := by
    rintro a (z | rfl | ⟨y, e⟩)
    · obtain ⟨o, e⟩ := I.ex a z; exact ⟨o, hkeep a o e⟩
    · obtain ⟨o, _, _, e, _⟩ := x.toInCall.ns; exact ⟨o, e⟩
    · obtain ⟨o, e, _⟩ := x.cell y a e; exact ⟨o, e⟩
  have I₁ : Inv C F' p s₁.heap := I.mark hkeep hf hx
  have r₁ : VRL s₁.heap F' p args' args := r.mark hkeep hf
  have fr₁ : FrR C env F' (names.zip args) p s₁.heap := by
    refine ⟨by rw [hsc]; exact hk, hgl, hbl, .inr (.inl rfl), fun y c e => ⟨.inr (.inr ⟨y, e⟩), Nat.ne_of_gt (x.above y c (mem_of_lookup e))⟩, fun y z c e e' => name_of_addr x.apart (mem_of_lookup e) (mem_of_lookup e'), fun y e => ?_, ⟨_, x.toInCall.ns, fun y v e q => ?_⟩, fun y v e q => ?_⟩
    · rw [hkind] at e
      obtain ⟨c, hc⟩ := cell_in e (s.heap.objs.size + 1)
      rw [← hcl] at hc
      obtain ⟨o, h1, h2⟩ := x.cell y c hc
      exact ⟨c, o, _, hc, h1, h2⟩
    · obtain ⟨v', e', r'⟩ := zip_lookup r₁ e
      exact ⟨v', bindL_zip q hn e', r'⟩
    · obtain ⟨v', e', r'⟩ := zip_lookup r₁ e
      rw [hkind] at q
      obtain ⟨c, hc⟩ := cell_in q (s.heap.objs.size + 1)
      rw [← hcl] at hc
      obtain ⟨o, h1, h2⟩ := x.cell y c hc
      refine ⟨c, o, v', hc, h1, ?_, r'⟩
      rw [h2, bindC_zip (by rw [hkind, q]; decide) hn e']
  have hRf : ∃ l, A.frames = some l ∧ ∀ e ∈ env :: l, FrOk F' s₁.heap e := by
    obtain ⟨l, e, g⟩ := R.frames
    refine ⟨l, e, fun y hy => ?_⟩
    rcases List.mem_cons.mp hy with rfl | hy
    · obtain ⟨o, es, ep, e1, e2, _⟩ := x.toInCall.ns
      exact ⟨by rw [hsc]; exact hk, _, o, es, ep, hfr, .inr (.inl rfl), e1, e2⟩
    · obtain ⟨L, o, es, n, h1, h2, h3, h4⟩ := (g y hy).at_
      exact ⟨(g y hy).kind, L, o, es, n, h1, .inl h2, hkeep _ _ h3, h4⟩
  obtain ⟨l, hA, hl⟩ := hRf
  have R₁ : Room k (A.deeper env) F' s₁.heap := by
    refine ⟨R.handled, ?_, ?_, env :: l, Around.frames_deeper hA, hl⟩
    · have := R.depth; show A.depth + 1 + 2 * k < _; lia -matchEqs
    · have := R.units; show A.units + 3 + 100 * k + 300 < _; lia -matchEqs
  have notOwn : ∀ b o, s.heap.get? b = some o → ¬ own env b := fun b o e => by
    rintro (rfl | ⟨y, _, hy⟩)
    · rw [hnew _ (.inl rfl)] at e; cases e
    · rw [hnew _ (.inr ⟨y, hy⟩)] at e; cases e
  refine wpAny_mono (h env (A.deeper env) F' s₁ hsc ⟨l, Around.frames_deeper hA⟩ hfr R₁ I₁ fr₁) (fun fl' s₂ ⟨fl, fr₂, p₂, q, I₂, S₂, f₂, r₂, m₂⟩ => ?_) fun e' s₂ z => ?_
  · obtain ⟨w, p₃, le, cv, q⟩ := q
    have I₃ : Inv C F p₃ s₂.heap := (I₂.drop le).unmark fun a z => .inl z
    have rr : VR s₂.heap F' p₂ (flv fl') fl.val := by
      cases r₂ with
      | ret r => exact r
      | _ => exact .none
    suffices hh : Post C F p s Q (flv fl') s₂ by cases fl' <;> exact hh
    refine ⟨w, p₃, q, I₃, ?_, (rr.conv I₂ le cv).weak fun a z => ⟨fun y => z.1 (.inl y), z.2⟩, hsame.trans m₂⟩
    exact Step.drop (fun b o e np ζ => S₂ b o (hkeep b o e) np (notOwn b o e)) le
  · obtain ⟨p₂, e, T, rfl, q, I₂, S₂, lv, fs, n1, n2, fl₂, m₂⟩ := z
    have ofF : ∀ a, F' a → p a = none := fun a z => I₁.ofF z
    have hl₂ : ∀ y ∈ env :: l, FrN (own env) F' s₂.heap y := fun y hy => by
      refine ⟨(hl y hy).kind, ?_⟩
      obtain ⟨L, o, es, n, h1, h2, h3, h4⟩ := (hl y hy).at_
      by_cases hL : own env L
      · obtain ⟨o', g1, g2⟩ := lv L hL
        exact ⟨L, o', h1, h2, g1, g2, .inl hL⟩
      · obtain ⟨⟨s1, g1, _⟩, _⟩ := S₂ L o h3 (ofF L h2) hL
        have hd : ∀ vs, o.data ≠ .fields vs := fun vs q => by rw [h4] at q; cases q
        exact ⟨L, _, h1, h2, g1, hd, .inr ⟨es, n, h4⟩⟩
    refine leave_flies (Around.frames_deeper hA) hl₂ hfr I₂ n1 n2 fl₂ fun h' T' g1 g2 g3 g4 g6 => ?_
    have m₃ : Same s { s₂ with heap := h' } := (hsame.trans m₂).trans (Same.mk s₂ h' s₂.toks)
    have new : ∀ b o, s.heap.get? b = some o → p b = none → ¬ F b → A4 (Kept s₂.heap b o) (p₂ b = none) (¬ F' b) (b ≠ e ∧ b ≠ T) := fun b o hb hp hx => by
      have k1 : ¬ F' b := fun z => hx (hf b o hb z)
      obtain ⟨k2, k3⟩ := S₂ b o (hkeep b o hb) hp (notOwn b o hb)
      exact ⟨k2, k3, k1, fs b o (hkeep b o hb) hp k1 (notOwn b o hb)⟩
    have ne : ∀ b o, s.heap.get? b = some o → p b = none → b ≠ e ∧ b ≠ T := fun b o hb hp => by
      by_cases hx : F b
      · exact ⟨fun z => n1 (z ▸ .inl hx), fun z => n2 (z ▸ .inl hx)⟩
      · exact (new b o hb hp hx).4
    refine ⟨p₂, e, T', rfl, q, g3.unmark fun a z => z.imp .inl id, fun b o hb hp ζ => ?_, fun b z => z.elim, fun b o hb hp hF ζ => ?_, fun z => n1 (.inl z), fun z => g1 (.inl z), g2, m₃⟩
    · obtain ⟨⟨sl, k2, k4⟩, k3⟩ := S₂ b o (hkeep b o hb) hp (notOwn b o hb)
      obtain ⟨⟨sl', k5, k6⟩, k7⟩ := g4 b _ k2 k3 fun z => by rcases z with z | z | z; exact (ne b o hb hp).1 z; exact (ne b o hb hp).2 z; exact notOwn b o hb z
      exact ⟨⟨sl', k5, fun nd => (k6 nd).trans (k4 nd)⟩, k7⟩
    · obtain ⟨⟨_, k2, _⟩, k3, k1, k4, k5⟩ := new b o hb hp hF
      exact ⟨k4, g6 b _ k2 k1 k4 k5⟩
theorem T_defX {names : List Str} {f : Addr} {name qual : Str} {params : Arguments} {body : List Stmt} {dV kV doc pm cdv ct oc : Value} {an od : Option Addr} {osl : Array (Option Value)} {args : List V} {Q : V → P → Prop}
    (ho : C.K.lookup f = some ⟨oc, od, .func (fnOf name qual params body sc dV kV doc pm an cdv ct), osl⟩) (hcd : codeIn C.K cdv qual = true)
    (hb : ∀ args' : List Value, args'.length = args.length → bindArgs (fnOf name qual params body sc dV kV doc pm an cdv ct) ⟨args', []⟩ = pure (names.zip args'))
    (hn : names.Nodup) (hkd : ∀ x ∈ names, sc.names.lookup x = some .local ∨ sc.names.lookup x = some .cell) (hco : sc.isCoroutine = false) (hgen : sc.isGenerator = false) (hk : sc.kind = .function)
    (h : TS C k sc (names.zip args) p body (fun fl ζ p' => Back Q fl.val p') X) : TCC C (k + 1) (.ref f) args p Q X := T_defXf ho hcd hb hn hkd hco hgen hk h.f
end
end Tl
end

section
open PySem PySem.W PySem.Calls PyProof.Rows
set_option linter.unusedVariables false
set_option maxRecDepth 100000
namespace Tl
noncomputable def seqEp : PySem.Data → Nat
  | .seq _ n => n
  | _ => 0

noncomputable def intsFrom (a : Int) (n : Nat) : List Int := (List.range n).map fun i : Nat => a + (i : Int)

section
variable {prog : Program} {w : World} {A : Around} {R : Result → Shared → Prop}
theorem ext_loop (hh : A.handled = none) (S I : Addr) (hSI : S ≠ I) (res : Value) (a : Int) : ∀ (n : Nat) (s : Shared) (vs : List Value) (c j : Nat), IsRangeIter s.heap I (a + (j : Int)) (n : Int) 1 → s.heap.get? S = some (listOf vs.toArray c) → vs.length + n ≤ 2000000 →
    (∀ h' tk ws c', IntsAre ws ((List.range n).map fun i : Nat => a + ((j + i : Nat) : Int)) → h'.get? S = some (listOf (vs ++ ws).toArray c') → (∀ b o, b ≠ S → b ≠ I → s.heap.get? b = some o → h'.get? b = some o) → R (.ok (.ret res)) { s with heap := h', toks := tk }) →
    codeAny (model prog w) A (.builtin "list.extend.loop" ⟨[.ref S, .ref I, res], []⟩) R s
  | 0, s, vs, c, j, hit, hS, hsz, hR => by
    refine codeAny_builtin F.entry_extend_loop ?_
    rw [Around.under_plainId F.plain_extend_loop _]
    show wpAny _ A.in1 (pyNext (.ref I) >>= _) _ _ s
    refine wpAny_bind (wpAny_pyNext_range_end hh hit (by simp) fun h' he' => ?_)
    exact wpAny_pure (hR h' s.toks [] c (by simpa using IntsAre.nil) (by simpa using he' S _ hSI hS) fun b o hb hI e => he' b o hI e)
  | n + 1, s, vs, c, j, hit, hS, hsz, hR => by
    refine codeAny_builtin F.entry_extend_loop ?_
    rw [Around.under_plainId F.plain_extend_loop _]
    show wpAny _ A.in1 (pyNext (.ref I) >>= _) _ _ s
    refine wpAny_bind (wpAny_pyNext_range_item hit (by lia -matchEqs) fun h' hit' hs' => ?_)
    have hS' : h'.get? S = some (listOf vs.toArray c) := hs'.extBut S _ hSI hS
    show wpAny _ A.in1 (updateSeq S (·.push _) >>= _) _ _ _
    refine wpAny_bind ?_
    refine wpAny_updateSeq hS' rfl (wpAny_pure ⟨plainId_quiet F.plain_extend_loop _, ?_⟩) (by rw [List.size_toArray, sizeLine_eq]; lia -matchEqs) (by rw [Array.size_push, List.size_toArray, sizeLine_eq]; lia -matchEqs)
    have hI2 : (h'.update S (Obj.mapSeq (·.push (Value.int (a + (j : Int)) s.toks)))).get? I = h'.get? I := Heap.get?_update_other _ _ hSI
    refine ext_loop hh S I hSI res a n _ (vs ++ [Value.int (a + (j : Int)) s.toks]) (c + 1) (j + 1) ?_ ?_ (by simp; lia -matchEqs) fun h'' tk ws c' hi hS'' hk => ?_
    · have e1 : a + ((j + 1 : Nat) : Int) = a + (j : Int) + 1 := by push_cast; lia -matchEqs
      have e2 : ((n + 1 : Nat) : Int) - 1 = (n : Int) := by push_cast; lia -matchEqs
      rw [e1]; rw [e2] at hit'
      show Heap.get? _ _ = _
      exact hI2.trans hit'
    · have := Heap.get?_update_self (Obj.mapSeq (·.push (Value.int (a + (j : Int)) s.toks))) hS' rfl
      rw [this]; simp [Obj.mapSeq]
    · refine hR h'' tk (Value.int (a + (j : Int)) s.toks :: ws) c' ?_ (by simpa using hS'') fun b o hb hI e => hk b o hb hI ((Heap.get?_update_other _ _ (Ne.symm hb)).trans (hs'.extBut b o hI e))
      rw [List.range_succ_eq_map, List.map_cons, List.map_map]
      have : (List.range n).map ((fun i : Nat => a + ((j + i : Nat) : Int)) ∘ Nat.succ) = (List.range n).map fun i : Nat => a + ((j + 1 + i : Nat) : Int) := by
        refine List.map_congr_left fun i ζ => ?_
        simp only [Function.comp]; congr 1; push_cast; lia -matchEqs
      rw [this]
      simpa using IntsAre.cons _ _ hi
end

section
variable {C : Cfg} {k : Nat} {sc : Scope} {fr : Fm} {p : P} {X : P → Prop}
theorem TC_extendR {S : Addr} {l : List V} {a b : Int} {Q : V → P → Prop} (ha : p S = some (.list l)) (hl : l.length ≤ 1000000) (h1 : -(2 ^ 60) ≤ a) (h2 : a ≤ 2 ^ 60) (h3 : -(2 ^ 60) ≤ b) (h4 : b ≤ 2 ^ 60) (hn : (b - a).toNat ≤ 1000000)
    (q : Q .none (put p S (.list (l ++ (intsFrom a (b - a).toNat).map .int)))) : TC C k (.builtin "list.extend") [.ref S, .rng a b] p Q X := by
  intro A F s args' R I r
  obtain ⟨a', b', rfl, r1, r2⟩ := two_args r
  obtain rfl := VR.inv r1
  replace r2 := VR.inv r2; obtain ⟨rr, t, u, v, rfl, hr, hf⟩ := r2
  obtain ⟨nF, _, c, hc, vs, n, rfl, r⟩ := I.trk S _ ha
  have hsm := small_one (a := a) (b := b) (by lia -matchEqs) (by lia -matchEqs) (by lia -matchEqs) (by lia -matchEqs)
  have hsz : Builtin.Range.rangeSize a b 1 = ((b - a).toNat : Int) := by rw [rangeSize_one]; split <;> lia -matchEqs
  generalize hm : (b - a).toNat = m at *
  have hSr : S ≠ rr := fun e => by rw [← e] at hf; rw [hf.2] at ha; cases ha
  have hSI : S ≠ s.heap.objs.size := Nat.ne_of_lt (Heap.lt_size hc)
  refine wpAny_call (codeAny_call_builtin (b := Builtin.«list.extend») PySem.F.slot_list_extend.plain PySem.F.entry_list_extend (PySem.F.slot_list_extend.check _ _ _ _ _ _ _ _ ⟨_, hc, rfl⟩ (PySem.F.args_list_extend_2 _ _) ?_))
  show wpAny _ _ (Builtin.List.listExtendWith (.ref S) (.ref rr) .none) _ _ s
  unfold Builtin.List.listExtendWith
  refine wpAny_bind (wpAny_typeOf (T := "range") ⟨_, hr, rfl⟩ ?_)
  have e1 : Builtin.List.listSameRef (.ref S) (.ref rr) = false := by simp [Builtin.List.listSameRef, hSr]
  have e2 : (Value.type "range" == Value.type "list") = false := by decide
  have e3 : (Value.type "range" == Value.type "tuple") = false := by decide
  simp only [e1, e2, e3, Bool.or_false, Bool.false_eq_true, if_false]
  refine wpAny_bind (wpAny_pyIter_range hr hsm ?_)
  refine wpAny_bind (wpAny_holding (wpAny_hint_range (n := m) (Heap.get?_push_of_some _ hr) hsz (by lia -matchEqs) ?_))
  have key : ∀ (h : Heap) (c₁ tk : Nat), IsRangeIter h s.heap.objs.size a (m : Int) 1 → (∀ b o, b ≠ S → s.heap.get? b = some o → h.get? b = some o) → h.get? S = some (listOf vs.toArray c₁) →
      codeAny (model C.prog C.w) A (.builtin "list.extend.loop" ⟨[.ref S, .ref s.heap.objs.size, .none], []⟩) (wants (Post C F p s Q) (PostX C NO F p s X)) { s with heap := h, toks := tk } := by
    intro h c₁ tk hit hk hS₁
    refine ext_loop R.handled S _ hSI .none a m _ vs c₁ 0 (by simpa using hit) hS₁ (by rw [r.length]; lia -matchEqs) fun h' tk' ws c' hi hS' hk' => ?_
    have hk2 : ∀ b o, b ≠ S → s.heap.get? b = some o → h'.get? b = some o := fun b o hb e => hk' b o hb (Nat.ne_of_lt (Heap.lt_size e)) (hk b o hb e)
    refine post_upd (o' := .list (l ++ (intsFrom a m).map .int)) (tk := tk') I ha hk2 hS' ⟨vs ++ ws, c', rfl, r.append (vrl_ints ?_)⟩ q
    simpa [intsFrom] using hi
  have hit₁ : IsRangeIter (s.heap.push { cls := .type "range_iterator", data := .fields #[rawInt a, rawInt (Builtin.Range.rangeSize a b 1), rawInt 1] }) s.heap.objs.size a (m : Int) 1 := by
    show IsRangeIter _ _ _ _ _; rw [hsz]; exact Heap.get?_push_size _ rfl
  have hS₁ := Heap.get?_push_of_some { cls := .type "range_iterator", data := .fields #[rawInt a, rawInt (Builtin.Range.rangeSize a b 1), rawInt 1] } hc
  refine wpAny_ite_split (fun ζ => ?_) (fun ζ => wpAny_pure ⟨plainId_quiet PySem.F.plain_extend_loop _, key _ n _ hit₁ (fun b o ζ e => Heap.get?_push_of_some _ e) hS₁⟩)
  refine wpAny_bind (wpAny_rule ?_)
  refine wpAny_bind ?_
  show wpAny _ _ (updateSeq S (·.push .none) >>= fun ζ => updateSeq S (·.pop)) _ _ _
  refine wpAny_bind (wpAny_updateSeq hS₁ rfl ?_ (by rw [List.size_toArray, r.length, sizeLine_eq]; lia -matchEqs) (by rw [Array.size_push, List.size_toArray, r.length, sizeLine_eq]; lia -matchEqs))
  have hS₂ := Heap.get?_update_self (Obj.mapSeq (·.push Value.none)) hS₁ rfl
  refine wpAny_updateSeq hS₂ rfl ?_ (by rw [Array.size_push, List.size_toArray, r.length, sizeLine_eq]; lia -matchEqs) (by rw [Array.size_pop, Array.size_push, List.size_toArray, r.length, sizeLine_eq]; lia -matchEqs)
  have hS₃ := Heap.get?_update_self (Obj.mapSeq (·.pop)) hS₂ rfl
  obtain ⟨c₁, e4⟩ : ∃ c₁, Obj.mapSeq (fun x => x.pop) (Obj.mapSeq (fun x => x.push Value.none) (listOf vs.toArray n)) = listOf vs.toArray c₁ := ⟨seqEp (Obj.mapSeq (fun x => x.pop) (Obj.mapSeq (fun x => x.push Value.none) (listOf vs.toArray n))).data, by simp [Obj.mapSeq, seqEp]⟩
  rw [e4] at hS₃
  refine wpAny_pure ⟨plainId_quiet PySem.F.plain_extend_loop _, key _ c₁ _ ?_ (fun b o hb e => ?_) hS₃⟩
  · exact (Heap.get?_update_other _ _ hSI).trans ((Heap.get?_update_other _ _ hSI).trans hit₁)
  · exact (Heap.get?_update_other _ _ (Ne.symm hb)).trans ((Heap.get?_update_other _ _ (Ne.symm hb)).trans (Heap.get?_push_of_some _ e))

theorem isList {F : FS} {s : Shared} {a : Addr} {l : List V} {o' : Value} (ha : p a = some (.list l)) (I : Inv C F p s.heap) (r : VR s.heap F p o' (.ref a)) : s.TypeIs o' "list" ∧ ∀ a, o' = .ref a → ∃ ob, s.heap.get? a = some ob ∧ ob.dict = none := by
  obtain rfl := VR.inv r
  obtain ⟨_, _, c, hc, vs, n, rfl, r⟩ := I.trk a _ ha
  exact ⟨⟨_, hc, rfl⟩, fun b e => by cases e; exact ⟨_, hc, rfl⟩⟩
theorem TC_get1 {a : Addr} {l : List (Int × V)} {i : Int} {Q : V → P → Prop} (ha : p a = some (.di l)) (q : Q ((atV l i).getD .none) p) : TC C k (.builtin "dict.get") [.ref a, .int i] p Q X := by
  intro A F s args' R I r
  obtain ⟨a', b', rfl, r1, r2⟩ := two_args r
  obtain rfl := VR.inv r1; obtain ⟨_, rfl⟩ := VR.inv r2
  obtain ⟨kvs, hD, r, m⟩ := dict_i I ha
  refine call_meetsIn PySem.F.slot_dict_get hD.typeIs PySem.F.entry_dict_get (PySem.F.args_dict_get_2 _ _) (meets_dict_get (intKind C.prog C.w) a (intKind_is _ _ _ _) m) ⟨_, hD.mapOf, ?_⟩
  have := r.at i
  cases e : atV l i with
  | none => rw [e] at this q; rw [this]; exact post_tok I .none q
  | some v => rw [e] at this q; obtain ⟨v', e', rv⟩ := this; rw [e']; exact post_tok I rv q
theorem three_args {h : Heap} {F : FS} {a b c : V} {args' : List Value} (r : VRL h F p args' [a, b, c]) : X3 fun a' b' c' => A4 (args' = [a', b', c']) (VR h F p a' a) (VR h F p b' b) (VR h F p c' c) := by
  cases r with
  | cons r rs => obtain ⟨b', c', rfl, r2, r3⟩ := two_args rs; exact ⟨_, _, _, rfl, r, r2, r3⟩
theorem TC_get2 {a : Addr} {l : List (Int × V)} {i : Int} {d : V} {Q : V → P → Prop} (ha : p a = some (.di l)) (q : Q ((atV l i).getD d) p) : TC C k (.builtin "dict.get") [.ref a, .int i, d] p Q X := by
  intro A F s args' R I r
  obtain ⟨a', b', c', rfl, r1, r2, r3⟩ := three_args r
  obtain rfl := VR.inv r1; obtain ⟨_, rfl⟩ := VR.inv r2
  obtain ⟨kvs, hD, r, m⟩ := dict_i I ha
  refine call_meetsIn PySem.F.slot_dict_get hD.typeIs PySem.F.entry_dict_get (PySem.F.args_dict_get_3 _ _ _) (meets_dict_get_default (intKind C.prog C.w) a (intKind_is _ _ _ _) m c') ⟨_, hD.mapOf, ?_⟩
  have := r.at i
  cases e : atV l i with
  | none => rw [e] at this q; rw [this]; exact post_tok I r3 q
  | some v => rw [e] at this q; obtain ⟨v', e', rv⟩ := this; rw [e']; exact post_tok I rv q
noncomputable def cntE (n : Int) : Value → Bool
  | .int i _ => i == n
  | _ => false
theorem TC_count {ns : List Int} {n : Int} {Q : V → P → Prop} (q : Q (.int (ns.countP (· == n) : Nat)) p) : TC C k (.builtin "tuple.count") [.tup (ns.map .int), .int n] p Q X := by
  intro A F s args' R I r
  obtain ⟨a', b', rfl, r1, r2⟩ := two_args r
  replace r2 := VR.inv r2; obtain ⟨t, rfl⟩ := r2
  clear r; replace r1 := VR.inv r1; obtain ⟨a, vs, nn, rfl, e, f, r⟩ := r1
  have hi := ints_of r
  refine call_meets PySem.F.slot_tuple_count ⟨_, e, rfl⟩ PySem.F.entry_tuple_count (PySem.F.args_tuple_count_2 _ _) (MeetsSeq2.tuple_count a vs.toArray nn (.int n t) (cntE n) fun y hy => ?_) ⟨e, ?_⟩
  · have : ∀ {vs : List Value} {ns : List Int}, IntsAre vs ns → ∀ y ∈ vs, X2 fun i t => y = .int i t := by
      intro vs ns h
      induction h with
      | nil => intro y hy; simp at hy
      | cons n t _ ih => intro y hy; rcases List.mem_cons.mp hy with rfl | hy; exact ⟨_, _, rfl⟩; exact ih y hy
    obtain ⟨i, t', rfl⟩ := this hi y (by simpa using hy)
    exact MeetsSeq.EqGives.int i n t' t
  · have : ∀ {vs : List Value} {ns : List Int}, IntsAre vs ns → vs.countP (cntE n) = ns.countP (· == n) := by
      intro vs ns h
      induction h with
      | nil => rfl
      | cons m t _ ih => simp only [List.countP_cons, ih]; rfl
    simp only [List.toList_toArray, this hi]
    exact post_tok I (.int _ _) q
theorem TC_maxL {i j : Int} {Q : V → P → Prop} (q : Q (.int (if j > i then j else i)) p) : TC C k (.builtin "max") [.lst [.int i, .int j]] p Q X := by
  intro A F s args' R I r
  obtain ⟨a', rfl, ra⟩ := one_arg r
  clear r; replace ra := VR.inv ra; obtain ⟨a, vs, n, rfl, e, f, r⟩ := ra
  obtain ⟨x, y, rfl, r1, r2⟩ := two_args r
  replace r1 := VR.inv r1; obtain ⟨t, rfl⟩ := r1
  replace r2 := VR.inv r2; obtain ⟨u, rfl⟩ := r2
  have hl : s.heap.IsList a (intItems #[(i, t), (j, u)]) := ⟨_, e, rfl, n, by simp [W.listOf, intItems]⟩
  refine max_intList R.handled hl (by simp) fun v h' tk hv hk => post_keep I hk (v := .int (if j > i then j else i)) ?_ q
  by_cases h : j > i
  · have : argBest (fun a b => decide (numAt #[(i, t), (j, u)] a > numAt #[(i, t), (j, u)] b)) ((#[(i, t), (j, u)] : Array (Int × Tok)).size - 1) = 1 := by
      show (if decide (j > i) = true then 1 else 0) = 1
      simp [h]
    rw [this] at hv
    rw [if_pos h]
    have : v = .int j u := by simpa [intItems] using hv.symm
    subst this; exact .int _ _
  · have : argBest (fun a b => decide (numAt #[(i, t), (j, u)] a > numAt #[(i, t), (j, u)] b)) ((#[(i, t), (j, u)] : Array (Int × Tok)).size - 1) = 0 := by
      show (if decide (j > i) = true then 1 else 0) = 0
      simp [h]
    rw [this] at hv
    rw [if_neg h]
    have : v = .int i t := by simpa [intItems] using hv.symm
    subst this; exact .int _ _
theorem TC_minL {i j : Int} {Q : V → P → Prop} (q : Q (.int (if j < i then j else i)) p) : TC C k (.builtin "min") [.lst [.int i, .int j]] p Q X := by
  intro A F s args' R I r
  obtain ⟨a', rfl, ra⟩ := one_arg r
  clear r; replace ra := VR.inv ra; obtain ⟨a, vs, n, rfl, e, f, r⟩ := ra
  obtain ⟨x, y, rfl, r1, r2⟩ := two_args r
  replace r1 := VR.inv r1; obtain ⟨t, rfl⟩ := r1
  replace r2 := VR.inv r2; obtain ⟨u, rfl⟩ := r2
  have hl : s.heap.IsList a (intItems #[(i, t), (j, u)]) := ⟨_, e, rfl, n, by simp [W.listOf, intItems]⟩
  refine min_intList R.handled hl (by simp) fun v h' tk hv hk => post_keep I hk (v := .int (if j < i then j else i)) ?_ q
  by_cases h : j < i
  · have : argBest (fun a b => decide (numAt #[(i, t), (j, u)] a < numAt #[(i, t), (j, u)] b)) ((#[(i, t), (j, u)] : Array (Int × Tok)).size - 1) = 1 := by
      show (if decide (j < i) = true then 1 else 0) = 1
      simp [h]
    rw [this] at hv
    rw [if_pos h]
    have : v = .int j u := by simpa [intItems] using hv.symm
    subst this; exact .int _ _
  · have : argBest (fun a b => decide (numAt #[(i, t), (j, u)] a < numAt #[(i, t), (j, u)] b)) ((#[(i, t), (j, u)] : Array (Int × Tok)).size - 1) = 0 := by
      show (if decide (j < i) = true then 1 else 0) = 0
      simp [h]
    rw [this] at hv
    rw [if_neg h]
    have : v = .int i t := by simpa [intItems] using hv.symm
    subst this; exact .int _ _
end
end Tl
end

section
open PySem PySem.W PySem.Calls PyProof.Rows
set_option linter.unusedVariables false
set_option maxRecDepth 100000
namespace Tl

theorem bor_f {c : Bool} {A B : Prop} (hc : c = false) (h : A) : (c = false → A) ∧ (c = true → B) := ⟨fun ζ => h, fun z => (by rw [hc] at z; cases z)⟩
theorem bor_t {c : Bool} {A B : Prop} (hc : c = true) (h : B) : (c = false → A) ∧ (c = true → B) := ⟨fun z => (by rw [hc] at z; cases z), fun ζ => h⟩
theorem bor {c : Bool} {A B : Prop} (hf : c = false → A) (ht : c = true → B) : (c = false → A) ∧ (c = true → B) := ⟨hf, ht⟩
section
variable {prog : Program} {w : World} {A : Around} {E : Value → Shared → Prop} {s : Shared}
theorem adjust_upto (b n : Nat) : Builtin.Slice.sliceAdjust none (some (b : Int)) 1 (n : Int) = (0, ((min b n : Nat) : Int)) := by
  unfold Builtin.Slice.sliceAdjust
  have h1 : ¬ ((1 : Int) < 0) := by lia -matchEqs
  have h2 : ¬ ((b : Int) < 0) := by lia -matchEqs
  simp only [h1, h2, if_false]
  congr 1
  lia -matchEqs
theorem places_upto (m : Nat) : Builtin.Slice.slicePlaces 0 (m : Int) 1 = m := by
  unfold Builtin.Slice.slicePlaces
  have h1 : (1 : Int) > 0 := by lia -matchEqs
  simp only [h1, if_true, Int.ediv_one]
  split <;> lia -matchEqs
theorem applied_upto {sl : Addr} {b n : Nat} {u : Tok} {Q : Int × Int × Nat → Shared → Prop} (hs : s.heap.IsSliceOf sl .none (.int b u) .none) (h : Q (0, 1, min b n) s) :
    wpAny (model prog w) A (Builtin.Slice.sliceApplied (.ref sl) (pure (n : Int))) Q E s := by
  obtain ⟨os, hos, hcs, hds⟩ := id hs
  unfold Builtin.Slice.sliceApplied Builtin.Slice.sliceFields
  refine wpAny_bind (wpAny_bind (wpAny_field hos hds (x := .none) rfl (wpAny_bind (wpAny_field hos hds (x := .int b u) rfl (wpAny_bind (wpAny_field hos hds (x := .none) rfl (wpAny_pure ?_)))))))
  refine wpAny_bind (slicePart_none ?_)
  show wpAny _ _ (if ((1 : Int) == 0) = true then _ else _) _ _ s
  rw [if_neg (by decide)]
  refine wpAny_bind (slicePart_none (wpAny_bind (slicePart_int (wpAny_bind (wpAny_pure ?_)))))
  show wpAny _ _ (match Builtin.Slice.sliceAdjust none (some (b : Int)) 1 (n : Int) with | (lo, hi) => pure (lo, (1 : Int), Builtin.Slice.slicePlaces lo hi 1)) _ _ s
  rw [adjust_upto b n]
  show wpAny _ _ (pure ((0 : Int), (1 : Int), Builtin.Slice.slicePlaces 0 ((min b n : Nat) : Int) 1)) _ _ s
  rw [places_upto]
  exact wpAny_pure h
theorem pick_upto (xs : Array Value) (b : Nat) (hb : b ≤ xs.size) : ((List.range b).filterMap fun (k : Nat) => xs[((0 : Int) + (k : Int) * 1).toNat]?).toArray = (xs.toList.take b).toArray := by
  have e : (fun (k : Nat) => xs[((0 : Int) + (k : Int) * 1).toNat]?) = fun k => xs[k]? := by
    funext k
    have : ((0 : Int) + (k : Int) * 1).toNat = k := by lia -matchEqs
    rw [this]
  rw [e]
  have := pick_run xs 0 b
  rw [List.filterMap_map] at this
  have e2 : ((fun x => xs[x]?) ∘ fun x => 0 + x) = fun k => xs[k]? := by funext k; simp
  rw [e2] at this
  rw [this]; simp
theorem getItem_tup_upto {t sl : Addr} {items : Array Value} {b n : Nat} {u : Tok} {Q : Value → Shared → Prop} (ht : s.heap.get? t = some { cls := .type "tuple", data := .seq items n }) (hs : s.heap.IsSliceOf sl .none (.int b u) .none)
    (h1 : items.size ≤ b → Q (.ref t) s) (h2 : b < items.size → Q (.ref s.heap.objs.size) { s with heap := s.heap.push { cls := .type "tuple", data := .seq (items.toList.take b).toArray } })
    (hsz : items.size ≤ sizeLine) : wpAny (model prog w) A (getItem (.ref t) (.ref sl)) Q E s := by
  have htt : IsTup s.heap t items := ⟨_, ht, rfl, n, rfl⟩
  have htake : sizeOk (.seq (items.toList.take b).toArray) := by
    show (items.toList.take b).toArray.size ≤ sizeLine
    rw [List.size_toArray, List.length_take, Array.length_toList]
    lia -matchEqs
  obtain ⟨os, hos, hcs, hds⟩ := id hs
  have hTs : s.TypeIs (.ref sl) "slice" := ⟨os, hos, hcs⟩
  unfold getItem
  try with_reducible refine wpAny_holding ?_
  first | refine wpAny_bind (wpAny_pure ?_) | skip
  refine wpAny_bind (wpAny_sequenceKey htt.typeIs (by decide) ?_)
  refine wpAny_bind (wpAny_callSpecial?_slot (name := Str.ofString "__getitem__") htt.typeIs slot_tuple_getitem
    (wpAny_call_entry slot_tuple_getitem htt.typeIs entry_tuple_getitem ?_ (args_tuple_getitem _ _)))
  show wpAny _ _ (Builtin.Tuple.tupleItemsOf (.ref t) >>= _) _ _ s
  refine wpAny_bind (tupleItemsOf_ htt ?_)
  refine wpAny_bind (wpAny_typeOf hTs ?_)
  rw [if_pos (by decide)]
  refine wpAny_bind (applied_upto hs ?_)
  show wpAny _ _ (if ((0 : Int) == 0 && (1 : Int) == 1 && (min b items.size) == items.size) = true then _ else _) _ _ s
  by_cases hb : items.size ≤ b
  · rw [if_pos (by have : min b items.size = items.size := by lia -matchEqs
                   rw [this]; simp)]
    refine wpAny_bind ?_
    unfold Builtin.Tuple.tupleIsExact
    refine wpAny_bind (wpAny_typeOf htt.typeIs (wpAny_pure ?_))
    simp only [beq_self_eq_true, if_true]
    first
      | exact wpAny_bind (wpAny_rule (wpAny_bind (wpAny_pure (wpAny_pure ⟨_, rfl, wpAny_pure (h1 hb)⟩))))
      | exact wpAny_bind (wpAny_rule (wpAny_bind (wpAny_pure ⟨_, rfl, wpAny_pure (h1 hb)⟩)))
      | exact wpAny_bind (wpAny_rule (wpAny_pure ⟨_, rfl, wpAny_pure (h1 hb)⟩))
  · have hmin : min b items.size = b := by lia -matchEqs
    rw [if_neg (by rw [hmin]; simp; lia -matchEqs), hmin, pick_upto items b (by lia -matchEqs)]
    first
      | exact wpAny_bind (m := Builtin.Tuple.tupleExact _) (wpAny_newObj_type (wpAny_pure ⟨_, rfl, wpAny_pure (h2 (by lia -matchEqs))⟩) htake)
      | exact wpAny_bind (m := Builtin.Tuple.tupleExact _) (wpAny_newObj_type (wpAny_bind (wpAny_pure (wpAny_pure ⟨_, rfl, wpAny_pure (h2 (by lia -matchEqs))⟩))) htake)
      | exact wpAny_bind (wpAny_bind (m := Builtin.Tuple.tupleExact _) (wpAny_newObj_type (wpAny_pure (wpAny_pure ⟨_, rfl, wpAny_pure (h2 (by lia -matchEqs))⟩)) htake))
      | exact wpAny_bind (wpAny_bind (m := Builtin.Tuple.tupleExact _) (wpAny_newObj_type (wpAny_pure ⟨_, rfl, wpAny_pure (h2 (by lia -matchEqs))⟩) htake))
end

section
variable {C : Cfg} {k : Nat} {sc : Scope} {fr : Fm} {p : P} {X : P → Prop}
theorem T_UpTo {e u : Expr} {sp pos : Pos} {Q : V → P → Prop} (h : TE C k sc fr p e (fun o p₁ => TE C k sc fr p₁ u (fun i p₂ => X2 fun l b => A5 (o = .tup l) (i = .int b) (0 ≤ b) (l.length ≤ 1000000) (Q (.tup (l.take b.toNat)) p₂)) X) X)
    (hg : ∀ o r, letTemporaryGo e o r = pure ()) : TE C k sc fr p (.Subscript e (.Slice none (some u) none sp) pos) Q X := by
  intro env A F s he R I f
  refine wpAny_Subscript_Slice (T := "tuple") slot_tuple_getitem.lookup (wp_then (h env A F s he R I f) (fun o' s₁ o p₁ q₁ I₁ S₁ r₁ m₁ => ?_) fun ζ ζ z => z) hg
  have a₁ := At.step ⟨R, I, f⟩ S₁ I₁
  refine wpAny_Slice ?_
  rw [evalPart_none]
  refine wpAny_pure ?_
  show wpAny _ _ (eval u env) _ _ s₁
  refine wp_then (q₁ env A F s₁ he a₁.room a₁.inv a₁.frm) (fun i' s₂ i p₂ ⟨l, b, ho, hi, hb, hl, q⟩ I₂ S₂ r₂ m₂ => ?_) fun ζ ζ z => z.trans S₁ m₁
  subst ho hi
  refine wpAny_pure ?_
  have r₁' := r₁.step S₂ fun ζ z => z.elim
  replace r₂ := VR.inv r₂; obtain ⟨t, rfl⟩ := r₂
  obtain ⟨bn, rfl⟩ : ∃ n : Nat, b = (n : Int) := ⟨b.toNat, by lia -matchEqs⟩
  simp only [Int.toNat_natCast] at q
  replace r₁' := VR.inv r₁'; obtain ⟨a, vs, n, rfl, e1, f1, r⟩ := r₁'
  have e1' : (s₂.heap.push { cls := .type "slice", data := .fields #[.none, .int bn t, .none] }).get? a = some (tupO vs n) := Heap.get?_push_of_some _ e1
  refine ⟨⟨_, e1', rfl⟩, wpAny_getItem_tup_rest e1' e1 f1 r I₂ S₁ S₂ m₁ m₂ hl q⟩
where
  wpAny_getItem_tup_rest {A : Around} {F : FS} {s s₁ s₂ : Shared} {p₁ p₂ : P} {a : Addr} {vs : List Value} {n bn : Nat} {t : Tok} {l : List V} {Q : V → P → Prop} (e1' : (s₂.heap.push { cls := .type "slice", data := .fields #[.none, .int bn t, .none] }).get? a = some (tupO vs n)) (e1 : s₂.heap.get? a = some (tupO vs n)) (f1 : Free F p₂ a) (r : VRL s₂.heap F p₂ vs l) (I₂ : Inv C F p₂ s₂.heap)
      (S₁ : Step NO p s.heap p₁ s₁.heap) (S₂ : Step NO p₁ s₁.heap p₂ s₂.heap) (m₁ : Same s s₁) (m₂ : Same s₁ s₂) (hl : l.length ≤ 1000000) (q : Q (.tup (l.take bn)) p₂) :
      wpAny (model C.prog C.w) A (getItem (.ref a) (.ref s₂.heap.objs.size)) (Post C F p s Q) (PostX C NO F p s X) { s₂ with heap := s₂.heap.push { cls := .type "slice", data := .fields #[.none, .int bn t, .none] } } := by
    obtain ⟨I₃, S₃⟩ := I₂.alloc0 { cls := .type "slice", data := .fields #[.none, .int bn t, .none] }
    have r₃ := r.step S₃ fun ζ z => z.elim
    refine getItem_tup_upto e1' (Heap.IsSliceOf.new ..) (fun hb => ?_) (fun hb => ?_) (by rw [List.size_toArray, r.length, sizeLine_eq]; lia -matchEqs)
    · refine ((post_here (s := { s₂ with heap := s₂.heap.push { cls := .type "slice", data := .fields #[.none, .int bn t, .none] } }) I₃ (.tup e1' f1 r₃) (?_ : Q _ p₂)).trans (S₂.trans S₃) (m₂.trans (Same.mk s₂ _ s₂.toks))).trans S₁ m₁
      have : l.take bn = l := List.take_of_length_le (by rw [← r.length]; simpa using hb)
      rw [this] at q; exact q
    · refine ((post_new (s := { s₂ with heap := s₂.heap.push { cls := .type "slice", data := .fields #[.none, .int bn t, .none] } }) (v := .tup (l.take bn)) I₃ (fun e f => .tup (vs := vs.take bn) (n := 0) (by simpa using e) f ((r₃.take bn).push I₃)) rfl q).trans (S₂.trans S₃) (m₂.trans (Same.mk s₂ _ s₂.toks))).trans S₁ m₁

theorem T_FromT {e u : Expr} {sp pos : Pos} {Q : V → P → Prop} (h : TE C k sc fr p e (fun o p₁ => TE C k sc fr p₁ u (fun i p₂ => X2 fun l b => A6 (o = .tup l) (i = .int b) (1 ≤ b) (b.toNat ≤ l.length) (l.length ≤ 1000000) (Q (.tup (l.drop b.toNat)) p₂)) X) X)
    (hg : ∀ o r, letTemporaryGo e o r = pure ()) : TE C k sc fr p (.Subscript e (.Slice (some u) none none sp) pos) Q X := by
  intro env A F s he R I f
  refine wpAny_Subscript_Slice (T := "tuple") slot_tuple_getitem.lookup (wp_then (h env A F s he R I f) (fun o' s₁ o p₁ q₁ I₁ S₁ r₁ m₁ => ?_) fun ζ ζ z => z) hg
  have a₁ := At.step ⟨R, I, f⟩ S₁ I₁
  refine wpAny_Slice ?_
  show wpAny _ _ (eval u env) _ _ s₁
  refine wp_then (q₁ env A F s₁ he a₁.room a₁.inv a₁.frm) (fun i' s₂ i p₂ ⟨l, b, ho, hi, hb, hbl, hl, q⟩ I₂ S₂ r₂ m₂ => ?_) fun ζ ζ z => z.trans S₁ m₁
  subst ho hi
  rw [evalPart_none]
  refine wpAny_pure (wpAny_pure ?_)
  have r₁' := r₁.step S₂ fun ζ z => z.elim
  replace r₂ := VR.inv r₂; obtain ⟨t, rfl⟩ := r₂
  obtain ⟨bn, rfl⟩ : ∃ n : Nat, b = (n : Int) := ⟨b.toNat, by lia -matchEqs⟩
  simp only [Int.toNat_natCast] at q hbl
  replace r₁' := VR.inv r₁'; obtain ⟨a, vs, n, rfl, e1, f1, r⟩ := r₁'
  obtain ⟨I₃, S₃⟩ := I₂.alloc0 { cls := .type "slice", data := .fields #[.int bn t, .none, .none] }
  have r₃ := r.step S₃ fun ζ z => z.elim
  have e1' : (s₂.heap.push { cls := .type "slice", data := .fields #[.int bn t, .none, .none] }).get? a = some (tupO vs n) := Heap.get?_push_of_some _ e1
  refine ⟨⟨_, e1', rfl⟩, getItem_tuple_from (a := bn) (items := vs.toArray) ⟨_, e1', rfl, n, rfl⟩ (Heap.IsSliceOf.new ..) (by lia -matchEqs) (by rw [List.size_toArray, r.length]; lia -matchEqs) ?_ (by rw [List.size_toArray, r.length, sizeLine_eq]; lia -matchEqs)⟩
  exact ((post_new (s := { s₂ with heap := s₂.heap.push { cls := .type "slice", data := .fields #[.int bn t, .none, .none] } }) (v := .tup (l.drop bn)) I₃ (fun e f => .tup (vs := vs.drop bn) (n := 0) (by simpa using e) f ((r₃.drop bn).push I₃)) rfl q).trans (S₂.trans S₃) (m₂.trans (Same.mk s₂ _ s₂.toks))).trans S₁ m₁
theorem T_FromL {e u : Expr} {sp pos : Pos} {Q : V → P → Prop} (h : TE C k sc fr p e (fun o p₁ => TE C k sc fr p₁ u (fun i p₂ => X2 fun l b => A5 (o = .lst l) (i = .int b) (0 ≤ b) (l.length ≤ 1000000) (Q (.lst (l.drop b.toNat)) p₂)) X) X)
    (hg : ∀ o r, letTemporaryGo e o r = pure ()) : TE C k sc fr p (.Subscript e (.Slice (some u) none none sp) pos) Q X := by
  intro env A F s he R I f
  refine wpAny_Subscript_list_slice (wp_then (h env A F s he R I f) (fun o' s₁ o p₁ q₁ I₁ S₁ r₁ m₁ => ?_) fun ζ ζ z => z) hg
  have a₁ := At.step ⟨R, I, f⟩ S₁ I₁
  show wpAny _ _ (eval u env) _ _ s₁
  refine wp_then (q₁ env A F s₁ he a₁.room a₁.inv a₁.frm) (fun i' s₂ i p₂ ⟨l, b, ho, hi, hb, hl, q⟩ I₂ S₂ r₂ m₂ => ?_) fun ζ ζ z => z.trans S₁ m₁
  subst ho hi
  rw [evalPart_none]
  refine wpAny_pure ?_
  have r₁' := r₁.step S₂ fun ζ z => z.elim
  replace r₂ := VR.inv r₂; obtain ⟨t, rfl⟩ := r₂
  obtain ⟨bn, rfl⟩ : ∃ n : Nat, b = (n : Int) := ⟨b.toNat, by lia -matchEqs⟩
  simp only [Int.toNat_natCast] at q
  replace r₁' := VR.inv r₁'; obtain ⟨a, vs, n, rfl, e1, f1, r⟩ := r₁'
  refine ⟨a, vs.toArray, some (bn : Int), none, rfl, ⟨_, e1, rfl, n, rfl⟩, by rw [List.size_toArray, r.length, sizeLine_eq]; lia -matchEqs, .int _ _, .none, ?_⟩
  obtain ⟨I₃, S₃⟩ := I₂.alloc0 { cls := .type "slice", data := .fields #[.int bn t, .none, .none] }
  have r₃ := r.step S₃ fun ζ z => z.elim
  rw [slicePick_from']
  have := ((post_new (Q := Q) (s := { s₂ with heap := s₂.heap.push { cls := .type "slice", data := .fields #[.int bn t, .none, .none] } }) (o := { cls := .type "list", data := .seq (vs.toArray.toList.drop bn).toArray }) (v := .lst (l.drop bn)) I₃ (fun e f => .lst (vs := vs.drop bn) (n := 0) (by simpa using e) f ((r₃.drop bn).push I₃)) rfl q).trans (S₂.trans S₃) (m₂.trans (Same.mk s₂ _ s₂.toks))).trans S₁ m₁
  rw [Heap.size_push] at this
  exact this
theorem T_UpToL {e u : Expr} {sp pos : Pos} {Q : V → P → Prop} (h : TE C k sc fr p e (fun o p₁ => TE C k sc fr p₁ u (fun i p₂ => X2 fun l b => A5 (o = .lst l) (i = .int b) (0 ≤ b) (l.length ≤ 1000000) (Q (.lst (l.take b.toNat)) p₂)) X) X)
    (hg : ∀ o r, letTemporaryGo e o r = pure ()) : TE C k sc fr p (.Subscript e (.Slice none (some u) none sp) pos) Q X := by
  intro env A F s he R I f
  refine wpAny_Subscript_list_slice (wp_then (h env A F s he R I f) (fun o' s₁ o p₁ q₁ I₁ S₁ r₁ m₁ => ?_) fun ζ ζ z => z) hg
  have a₁ := At.step ⟨R, I, f⟩ S₁ I₁
  rw [evalPart_none]
  refine wpAny_pure ?_
  show wpAny _ _ (eval u env) _ _ s₁
  refine wp_then (q₁ env A F s₁ he a₁.room a₁.inv a₁.frm) (fun i' s₂ i p₂ ⟨l, b, ho, hi, hb, hl, q⟩ I₂ S₂ r₂ m₂ => ?_) fun ζ ζ z => z.trans S₁ m₁
  subst ho hi
  have r₁' := r₁.step S₂ fun ζ z => z.elim
  replace r₂ := VR.inv r₂; obtain ⟨t, rfl⟩ := r₂
  obtain ⟨bn, rfl⟩ : ∃ n : Nat, b = (n : Int) := ⟨b.toNat, by lia -matchEqs⟩
  simp only [Int.toNat_natCast] at q
  replace r₁' := VR.inv r₁'; obtain ⟨a, vs, n, rfl, e1, f1, r⟩ := r₁'
  refine ⟨a, vs.toArray, none, some (bn : Int), rfl, ⟨_, e1, rfl, n, rfl⟩, by rw [List.size_toArray, r.length, sizeLine_eq]; lia -matchEqs, .none, .int _ _, ?_⟩
  obtain ⟨I₃, S₃⟩ := I₂.alloc0 { cls := .type "slice", data := .fields #[.none, .int bn t, .none] }
  have r₃ := r.step S₃ fun ζ z => z.elim
  rw [slicePick_upto']
  have := ((post_new (Q := Q) (s := { s₂ with heap := s₂.heap.push { cls := .type "slice", data := .fields #[.none, .int bn t, .none] } }) (o := { cls := .type "list", data := .seq (vs.toArray.toList.take bn).toArray }) (v := .lst (l.take bn)) I₃ (fun e f => .lst (vs := vs.take bn) (n := 0) (by simpa using e) f ((r₃.take bn).push I₃)) rfl q).trans (S₂.trans S₃) (m₂.trans (Same.mk s₂ _ s₂.toks))).trans S₁ m₁
  rw [Heap.size_push] at this
  exact this

theorem T_Chain2 {l a b : Expr} {op₁ op₂ : CmpOp} {pos : Pos} {Q : V → P → Prop} (h : TE C k sc fr p l (fun x p₁ => TE C k sc fr p₁ a (fun y p₂ => OpC C k op₁ x y p₂ (fun v p₃ => ∃ c, A3 (v = .bool c) (c = true → TE C k sc fr p₃ b (fun z p₄ => OpC C k op₂ y z p₄ Q) X) (c = false → Q (.bool false) p₃))) X) X)
    (hm : lastMarks [op₁, op₂] [a, b] = false) : TE C k sc fr p (.Compare l [op₁, op₂] [a, b] pos) Q X := by
  intro env A F s he R I f
  refine Compare_chain (ops := []) (rs := []) (wp_then (h env A F s he R I f) (fun x' s₁ x p₁ q₁ I₁ S₁ r₁ m₁ => ?_) fun ζ ζ z => z) hm
  have a₁ := At.step ⟨R, I, f⟩ S₁ I₁
  refine chain_link (wp_then (q₁ env A F s₁ he a₁.room a₁.inv a₁.frm) (fun y' s₂ y p₂ q₂ I₂ S₂ r₂ m₂ => ?_) fun ζ ζ z => z.trans S₁ m₁)
  have a₂ := a₁.step S₂ I₂
  refine wp_then0 (q₂ A F s₂ x' y' a₂.room a₂.inv (r₁.step S₂ fun ζ z => z.elim) r₂) fun c' s₃ c p₃ q₃ I₃ S₃ r₃ m₃ => ?_
  obtain ⟨c, rfl, q3, q4⟩ := q₃
  cases r₃
  have a₃ := a₂.step S₃ I₃
  have SS := (S₁.trans S₂).trans S₃
  have mm := (m₁.trans m₂).trans m₃
  refine wpAny_truthy_bool ?_
  cases c with
  | false => exact ⟨_, p₃, q4 rfl, I₃, SS, .bool _, mm⟩
  | true =>
    refine chain_last (wp_then (q3 rfl env A F s₃ he a₃.room a₃.inv a₃.frm) (fun z' s₄ z p₄ q₅ I₄ S₄ r₄ m₄ => ?_) fun ζ ζ z => z.trans SS mm)
    have a₄ := a₃.step S₄ I₄
    exact wpAny_mono (q₅ A F s₄ y' z' a₄.room a₄.inv (r₂.step (S₃.trans S₄) fun ζ z => z.elim) r₄) (fun ζ ζ z => (z.trans S₄ m₄).trans SS mm) fun ζ ζ z => z.elim

theorem collect_tup {A : Around} {E : Value → Shared → Prop} {s : Shared} {t : Addr} {vs : List Value} {n : Nat} {Q : List Value → Shared → Prop} (ht : s.heap.get? t = some (tupO vs n)) (hsz : vs.length ≤ sizeLine)
    (h : ∀ h' tk, (∀ b o, s.heap.get? b = some o → h'.get? b = some o) → Q vs { s with heap := h', toks := tk }) : wpAny (model C.prog C.w) A (collect (.ref t)) Q E s := by
  unfold collect
  refine wpAny_bind (wpAny_runValue (codeAny_builtin entry_proto_collect' ?_))
  show wpAny _ _ (do again (.builtin "list.__iadd__" ⟨[← newList [], .ref t], []⟩)) _ _ s
  refine wpAny_bind (wpAny_newList (wpAny_pure ⟨Code.quiet_builtin _ (by decide +kernel), codeAny_builtin entry_list_iadd' ?_⟩))
  show wpAny _ _ (Builtin.List.listExtendWith (.ref s.heap.objs.size) (.ref t) (.ref s.heap.objs.size)) _ _ { s with heap := s.heap.push (seqObj "list" #[] 0) }
  unfold Builtin.List.listExtendWith
  have ho' : (s.heap.push (seqObj "list" #[] 0)).get? t = some (tupO vs n) := Heap.get?_push_of_some _ ht
  refine wpAny_bind (wpAny_typeOf (T := "tuple") ⟨_, ho', rfl⟩ ?_)
  have htt : (Value.type "tuple" == Value.type "tuple") = true := by rfl
  rw [if_pos (by rw [htt]; simp)]
  refine wpAny_bind (listItems_at ho' rfl ?_)
  refine wpAny_bind (listItems_at (xs := #[]) (n := 0) (Heap.get?_push_size _ rfl) rfl ?_)
  rw [if_neg (by simp)]
  refine wpAny_bind (listUpdate_at (xs := #[]) (n := 0) (Heap.get?_push_size _ rfl) rfl ?_ (Nat.zero_le _) (by show (#[] ++ vs.toArray).size ≤ sizeLine + 1; simp only [Array.size_append, List.size_toArray, List.length_nil]; lia -matchEqs))
  refine wpAny_pure ?_
  show wpAny _ A (do
      let o ← load s.heap.objs.size
      match o.data with
      | .seq xs _ => pure xs.toList
      | _ => unsupported "internal:collect") Q E { s with heap := (s.heap.push (seqObj "list" #[] 0)).update s.heap.objs.size (Obj.mapSeq (· ++ vs.toArray)) }
  refine wpAny_bind (wpAny_load (get?_update_seq (Heap.get?_push_size _ rfl) _) ?_)
  show wpAny _ _ (pure ((#[] : Array Value) ++ vs.toArray).toList) Q E _
  rw [show ((#[] : Array Value) ++ vs.toArray).toList = vs by simp]
  exact wpAny_pure (h _ s.toks fun b o e => (Heap.get?_update_ne _ _ _ _ (Nat.ne_of_lt (Heap.lt_size e))).trans (Heap.get?_push_of_some _ e))

theorem sorted_col {A : Around} {F : FS} {s : Shared} {a' : Value} {ns : List Int} {Q : V → P → Prop} (I : Inv C F p s.heap) (h64 : ns.length < 64)
    (hcol : ∀ (R : List Value → Shared → Prop), (∀ h' tk vs, (∀ b o, s.heap.get? b = some o → h'.get? b = some o) → IntsAre vs ns → R vs { s with heap := h', toks := tk }) → wpAny (model C.prog C.w) A.in1 (collect a') R (PostX C NO F p s X) s)
    (q : ∀ ms : List Int, ms.Perm ns → ms.Pairwise (· ≤ ·) → Q (.lst (ms.map .int)) p) : wpAny (model C.prog C.w) A (call (.builtin "sorted") [a']) (Post C F p s Q) (PostX C NO F p s X) s := by
  refine Calls.call_function_entry kind_sorted plain_sorted entry_sorted (args_sorted1 _) ?_
  unfold Builtin.«sorted»
  refine wpAny_bind (m := checkCount "sorted" 1 1 _) (wpAny_pure ?_)
  refine wpAny_bind (hcol _ fun h' tk vs hk hi => ?_)
  have hl := hi.length
  refine wpAny_bind (wpAny_newList ?_ (by rw [sizeLine_eq]; lia -matchEqs))
  have hoL : (h'.push (seqObj "list" vs.toArray 0)).get? h'.objs.size = some (seqObj "list" vs.toArray 0) := Heap.get?_push_size _ rfl
  show wpAny _ _ _ _ _ { s with heap := h'.push (seqObj "list" vs.toArray 0), toks := tk }
  refine wpAny_bind (wpAny_holding (wpAny_call_entry slot_list_sort ⟨_, hoL, rfl⟩ entry_list_sort (list_sort_tree (s := { s with heap := h'.push (seqObj "list" vs.toArray 0), toks := tk }) hoL hi (by lia -matchEqs) fun out ms a1 a2 a3 => ⟨_, rfl, ?_⟩) (args_list_sort _)))
  refine wpAny_pure ⟨_, rfl, ?_⟩
  obtain ⟨e, he⟩ := sortedHeap_at (out := out) hoL
  have hk2 : ∀ b o, s.heap.get? b = some o → (sortedHeap (h'.push (seqObj "list" vs.toArray 0)) h'.objs.size vs out).get? b = some o := fun b o z => by
    have hlt := Heap.lt_size (hk b o z)
    rw [sortedHeap_old (Nat.ne_of_lt hlt) (by rw [Heap.size_push]; exact Nat.lt_succ_of_lt hlt)]
    exact Heap.get?_push_of_some _ (hk b o z)
  have I' := I.keeps hk
  refine post_keep (tk := tk) I hk2 (v := .lst (ms.map .int)) (.lst (vs := out.toList) (n := e) (by simpa using he) ⟨I'.notF, I'.fresh⟩ (vrl_ints a1)) (q ms a2 a3)
theorem TC_sortedT {ns : List Int} {Q : V → P → Prop} (hl : ns.length < 64) (q : ∀ ms : List Int, ms.Perm ns → ms.Pairwise (· ≤ ·) → Q (.lst (ms.map .int)) p) : TC C k (.builtin "sorted") [.tup (ns.map .int)] p Q X := by
  intro A F s args' R I r
  obtain ⟨a', rfl, ra⟩ := one_arg r
  clear r; replace ra := VR.inv ra; obtain ⟨a, vs, n, rfl, e, f, r⟩ := ra
  have hi := ints_of r
  exact sorted_col I hl (fun R h => collect_tup e (by rw [hi.length, sizeLine_eq]; lia -matchEqs) fun h' tk hk => h h' tk vs hk hi) q
theorem ints_items : ∀ {vs : List Value} {ks : List Int}, vs.length = ks.length → (∀ (j : Nat) (v : Value), vs[j]? = some v → X2 fun i t => ks[j]? = some i ∧ v = Value.int i t) → IntsAre vs ks
  | [], [], _, _ => .nil
  | [], _ :: _, h, _ => by simp at h
  | _ :: _, [], h, _ => by simp at h
  | v :: vs, k :: ks, hl, h => by
    obtain ⟨i, t, e1, rfl⟩ := h 0 v rfl
    cases e1
    exact .cons _ _ (ints_items (by simpa using hl) fun j v e => h (j + 1) v e)
theorem KV.keys {κ : Type} {h : Heap} {F : FS} {vs : List (κ × Value)} {l : List (κ × V)} (H : KV h F p vs l) : vs.map (·.1) = l.map (·.1) := by
  induction H with
  | nil => rfl
  | cons _ _ ih => simp [ih]
theorem TC_sortedD {a : Addr} {l : List (Int × V)} {Q : V → P → Prop} (ha : p a = some (.di l)) (hl : l.length < 64) (q : ∀ ms : List Int, ms.Perm (l.map (·.1)) → ms.Pairwise (· ≤ ·) → Q (.lst (ms.map .int)) p) : TC C k (.builtin "sorted") [.ref a] p Q X := by
  intro A F s args' R I r
  obtain ⟨a', rfl, ra⟩ := one_arg r
  obtain rfl := VR.inv ra
  obtain ⟨kvs, hD, r, m⟩ := dict_i I ha
  obtain ⟨ep, hat⟩ := hD.dictAt
  have hkl := r.length
  refine sorted_col I (by rw [List.length_map]; exact hl) (fun R' h => ?_) q
  refine kdu_collect (A := A.in1) (n := kvs.length) (kdl_dict (knd := intKind C.prog C.w) (kvs := kvs) (ep := ep) ?_) R.handled hat (by rw [hkl, sizeLine_eq]; lia -matchEqs) fun h' tk acc hk hacc => h h' tk _ hk ?_
  · exact m
  · refine ints_items (by rw [Array.length_toList, hacc.1, hkl, List.length_map]) fun j v e => ?_
    obtain ⟨i, x, h1, h2⟩ := hacc.2 j v (by rw [← Array.getElem?_toList]; exact e)
    obtain ⟨t, rfl⟩ := Value.isInt_shape h2
    exact ⟨i, t, by rw [← r.keys, List.getElem?_map, h1]; rfl, rfl⟩
end
end Tl
end

section
open PySem PySem.W PySem.Calls PyProof.Rows
set_option linter.unusedVariables false
set_option maxRecDepth 100000
namespace Tl

section
variable {prog : Program} {w : World} {A : Around} {E : Value → Shared → Prop} {s : Shared}

theorem nextOf_tup {it t : Addr} {i : Nat} {xs : Array Value} {x : Value} {Q : Value → Shared → Prop} (hit : s.heap.IsTupleIter it t i) (ht : s.heap.IsTuple t xs) (hx : xs[i]? = some x)
    (hQ : ∀ h', h'.IsTupleIter it t (i + 1) → Heap.SameBut it s.heap h' → Q x { s with heap := h' }) : wpAny (model prog w) A (Builtin.SmallTypes.nextOf (.ref it)) Q E s := by
  obtain ⟨o, ho, hc, hd⟩ := id hit
  obtain ⟨ol, hol, _, nl, hdl⟩ := ht
  unfold Builtin.SmallTypes.nextOf
  refine wpAny_bind (wpAny_callSpecial?_slot (name := Str.ofString "__next__") hit.typeIs PySem.F.slot_tuple_iterator_next
    (wpAny_call_entry PySem.F.slot_tuple_iterator_next hit.typeIs PySem.F.entry_tuple_iterator_next ?_ (PySem.F.args_tuple_iterator_next_1 _)))
  show wpAny _ _ (field (.ref it) 0 >>= _) _ _ s
  refine wpAny_bind (wpAny_field ho hd (x := .ref t) rfl ?_)
  show wpAny _ _ (if (Value.ref t == Value.none) = true then _ else _) _ _ s
  rw [if_neg (show ¬ ((Value.ref t == Value.none) = true) from Bool.false_ne_true)]
  show wpAny _ _ (field (.ref it) 1 >>= _) _ _ s
  refine wpAny_bind (wpAny_field ho hd (x := .int i 0) rfl ?_)
  show wpAny _ _ (seqItems? (.ref t) >>= _) _ _ s
  refine wpAny_bind (wpAny_seqItems hol hdl ?_)
  simp only [Int.toNat_natCast, hx]
  refine wpAny_bind (wpAny_setField ho hd (by simp) (wpAny_pure ⟨x, rfl, wpAny_pure (hQ _ ?_ (Heap.SameBut.update ..))⟩))
  exact ⟨_, Heap.get?_update_self _ ho (Obj.isFreed_of_fields (Obj.data_mapFields hd _)), (Obj.cls_mapFields ..).trans hc, by
    rw [Obj.data_mapFields hd]; simp [rawInt]⟩
theorem nextOf_tup_end {it t : Addr} {i : Nat} {xs : Array Value} {Q : Value → Shared → Prop} (hh : A.handled = none) (hit : s.heap.IsTupleIter it t i) (ht : s.heap.IsTuple t xs) (hx : xs[i]? = none)
    (hE : ∀ h' e, Heap.ExtBut it s.heap h' → (∃ o, h'.get? e = some o ∧ o.cls = .type "StopIteration") → E (.ref e) { s with heap := h' }) : wpAny (model prog w) A (Builtin.SmallTypes.nextOf (.ref it)) Q E s := by
  obtain ⟨o, ho, hc, hd⟩ := id hit
  obtain ⟨ol, hol, _, nl, hdl⟩ := ht
  unfold Builtin.SmallTypes.nextOf
  refine wpAny_bind (wpAny_callSpecial?_slot (name := Str.ofString "__next__") hit.typeIs PySem.F.slot_tuple_iterator_next
    (wpAny_call_entry PySem.F.slot_tuple_iterator_next hit.typeIs PySem.F.entry_tuple_iterator_next ?_ (PySem.F.args_tuple_iterator_next_1 _)))
  show wpAny _ _ (field (.ref it) 0 >>= _) _ _ s
  refine wpAny_bind (wpAny_field ho hd (x := .ref t) rfl ?_)
  show wpAny _ _ (if (Value.ref t == Value.none) = true then _ else _) _ _ s
  rw [if_neg (show ¬ ((Value.ref t == Value.none) = true) from Bool.false_ne_true)]
  show wpAny _ _ (field (.ref it) 1 >>= _) _ _ s
  refine wpAny_bind (wpAny_field ho hd (x := .int i 0) rfl ?_)
  show wpAny _ _ (seqItems? (.ref t) >>= _) _ _ s
  refine wpAny_bind (wpAny_seqItems hol hdl ?_)
  simp only [Int.toNat_natCast, hx]
  refine wpAny_bind (wpAny_rule (wpAny_bind (wpAny_setField ho hd (by simp) ?_)))
  show wpAny _ _ (newExc (.type "StopIteration") [] >>= _) _ _ _
  refine wpAny_bind ?_
  simp only [newExc, newTuple]
  refine wpAny_bind (wpAny_newObj_type ?_ (by size_fits))
  refine wpAny_bind (m := firstArgMember _ _) (wpAny_of_eq (a := Value.none) (by first | rfl | (simp only [firstArgMember]; rfl)) ?_)
  refine wpAny_newObj_type ?_ (by size_fits)
  unfold raiseNew
  refine wpAny_bind (wpAny_handled ?_)
  first | rw [show A.in1.handled = none from hh] | rw [hh]
  refine wpAny_bind (wpAny_pure (wpAny_throw ?_))
  exact hE _ _ (((Heap.SameBut.update ..).extBut.push _).push _) ⟨_, Heap.get?_push_size _ rfl, rfl⟩
end

structure ZS (h : Heap) (z TI TO i1 i2 l1 l2 : Addr) (xs ys : Array Value) (k : Nat) (f0 : Value) : Prop where
  z : IsZip h z TI TO f0
  ti : IsPair h TI (.ref i1) (.ref i2)
  to : X2 fun a b => IsPair h TO a b
  it1 : h.IsTupleIter i1 l1 k
  it2 : h.IsTupleIter i2 l2 k
  t1 : h.IsTuple l1 xs
  t2 : h.IsTuple l2 ys
theorem ZS.keep {h h' : Heap} {z TI TO i1 i2 l1 l2 : Addr} {xs ys : Array Value} {k : Nat} {f0 : Value} (Z : ZS h z TI TO i1 i2 l1 l2 xs ys k f0) (hk : ∀ b o, (b = z ∨ b = TI ∨ b = TO ∨ b = i1 ∨ b = i2 ∨ b = l1 ∨ b = l2) → h.get? b = some o → h'.get? b = some o) : ZS h' z TI TO i1 i2 l1 l2 xs ys k f0 :=
  ⟨hk _ _ (by simp) Z.z, hk _ _ (by simp) Z.ti, let ⟨a, b, e⟩ := Z.to; ⟨a, b, hk _ _ (by simp) e⟩, Z.it1.at fun o e => hk _ o (by simp) e, Z.it2.at fun o e => hk _ o (by simp) e, Z.t1.at fun o e => hk _ o (by simp) e, Z.t2.at fun o e => hk _ o (by simp) e⟩

section
variable {prog : Program} {w : World} {A : Around} {E : Value → Shared → Prop} {s : Shared} {z TI TO i1 i2 l1 l2 : Addr} {xs ys : Array Value} {k : Nat}

theorem zipT_item {x y : Value} {Q : Option Value → Shared → Prop} (D : ZipApart z TI TO i1 i2 l1 l2) (Z : ZS s.heap z TI TO i1 i2 l1 l2 xs ys k .none) (hx : xs[k]? = some x) (hy : ys[k]? = some y)
    (hQ : ∀ h', ZS h' z TI TO i1 i2 l1 l2 xs ys (k + 1) (rawInt s.heap.objs.size) → IsPair h' s.heap.objs.size x y → (∀ c o, c ≠ z → c ≠ TO → c ≠ i1 → c ≠ i2 → s.heap.get? c = some o → h'.get? c = some o) → Q (some (.ref s.heap.objs.size)) { s with heap := h' }) :
    wpAny (model prog w) A (pyNext (.ref z)) Q E s := by
  have hT : s.TypeIs (.ref z) "zip" := ⟨_, Z.z, rfl⟩
  obtain ⟨hz, hTI, ⟨a, b, hTO⟩, h1, h2, hl1, hl2⟩ := Z
  unfold pyNext
  refine wpAny_bind (wpAny_attempt (wpAny_callSpecial?_slot (name := Str.ofString "__next__") hT PySem.F.slot_zip_next (wpAny_call_entry PySem.F.slot_zip_next hT PySem.F.entry_zip_next ?_ (PySem.F.args_zip_next_1 _))))
  show wpAny _ _ (field (.ref z) 2 >>= _) _ _ _
  refine wpAny_bind (wpAny_field hz rfl (x := .bool false) rfl ?_)
  show wpAny _ _ (field (.ref z) 3 >>= _) _ _ _
  refine wpAny_bind (wpAny_field hz rfl (x := .ref TI) rfl (wpAny_bind (wpAny_seqItems hTI rfl ?_)))
  show wpAny _ _ (Builtin.SmallTypes.ownedTupleIsFree (.ref z) >>= _) _ _ _
  refine wpAny_bind ?_
  unfold Builtin.SmallTypes.ownedTupleIsFree
  refine wpAny_bind (wpAny_field hz rfl (x := .none) rfl (wpAny_pure ?_))
  simp only [if_true]
  refine wpAny_bind (wpAny_rule (wpAny_bind (wpAny_field hz rfl (x := .ref TO) rfl ?_)))
  refine wpAny_bind (wpAny_setField_rec hz (by simp) fun h₁ hz₁ hs₁ => ?_)
  replace hz₁ : IsZip h₁ z TI TO .ellipsis := hz₁
  refine wpAny_bind ?_
  simp only [List.zipIdx_cons, List.zipIdx_nil, List.forIn_cons, List.forIn_nil]
  refine wpAny_bind (wpAny_bind (wpAny_onRaise ?_))
  show wpAny _ _ (Builtin.SmallTypes.nextOf (.ref i1) >>= _) _ _ _
  refine wpAny_bind (nextOf_tup (h1.extBut hs₁.extBut D.i1z) (hl1.extBut hs₁.extBut D.l1z) hx fun h₂ h1₂ hs₂ => wpAny_pure ?_)
  have hTO₂ : IsPair h₂ TO a b := hs₂.extBut _ _ D.TOi1 (hs₁.extBut _ _ D.TOz hTO)
  refine wpAny_bind (wpAny_seqItems hTO₂ rfl (wpAny_bind (wpAny_updateSeq_pair hTO₂ fun h₃ hTO₃ hs₃ => ?_)))
  replace hTO₃ : IsPair h₃ TO x b := hTO₃
  refine wpAny_bind (wpAny_letGo (wpAny_pure ?_))
  refine wpAny_bind (wpAny_bind (wpAny_onRaise ?_))
  show wpAny _ _ (Builtin.SmallTypes.nextOf (.ref i2) >>= _) _ _ _
  refine wpAny_bind (nextOf_tup (((h2.extBut hs₁.extBut D.i2z).extBut hs₂.extBut D.i12.symm).extBut hs₃.extBut D.TOi2.symm) (((hl2.extBut hs₁.extBut D.l2z).extBut hs₂.extBut D.l2i1).extBut hs₃.extBut D.l2TO) hy fun h₄ h2₄ hs₄ => wpAny_pure ?_)
  have hTO₄ : IsPair h₄ TO x b := hs₄.extBut _ _ D.TOi2 hTO₃
  refine wpAny_bind (wpAny_seqItems hTO₄ rfl (wpAny_bind (wpAny_updateSeq_pair hTO₄ fun h₅ hTO₅ hs₅ => ?_)))
  replace hTO₅ : IsPair h₅ TO x y := hTO₅
  refine wpAny_bind (wpAny_letGo (wpAny_pure (wpAny_pure ?_)))
  refine wpAny_bind (wpAny_seqItems hTO₅ rfl (wpAny_bind (wpAny_newTuple ?_)))
  have hsz : h₅.objs.size = s.heap.objs.size := by rw [hs₅.1, hs₄.1, hs₃.1, hs₂.1, hs₁.1]
  have hz₅ : IsZip h₅ z TI TO .ellipsis := hs₅.extBut _ _ D.TOz.symm (hs₄.extBut _ _ D.i2z.symm (hs₃.extBut _ _ D.TOz.symm (hs₂.extBut _ _ D.i1z.symm hz₁)))
  have hk₅ : ∀ c o, c ≠ z → c ≠ TO → c ≠ i1 → c ≠ i2 → s.heap.get? c = some o → h₅.get? c = some o := fun c o c1 c2 c3 c4 e =>
    hs₅.extBut _ _ c2 (hs₄.extBut _ _ c4 (hs₃.extBut _ _ c2 (hs₂.extBut _ _ c3 (hs₁.extBut _ _ c1 e))))
  have h1₅ : h₅.IsTupleIter i1 l1 (k + 1) := ((h1₂.extBut hs₃.extBut D.TOi1.symm).extBut hs₄.extBut D.i12).extBut hs₅.extBut D.TOi1.symm
  have h2₅ : h₅.IsTupleIter i2 l2 (k + 1) := h2₄.extBut hs₅.extBut D.TOi2.symm
  have hzlt : z < h₅.objs.size := Heap.lt_size hz₅
  show wpAny _ _ (Builtin.SmallTypes.ownedTupleHandOut (.ref z) (.ref h₅.objs.size) >>= _) _ _ _
  refine wpAny_bind ?_
  unfold Builtin.SmallTypes.ownedTupleHandOut
  have hz₆ : IsZip (h₅.push { cls := .type "tuple", data := .seq #[x, y] }) z TI TO .ellipsis := Heap.get?_push_of_some _ hz₅
  refine wpAny_bind (wpAny_setField_rec hz₆ (by simp) fun h₇ hz₇ hs₇ => ?_)
  replace hz₇ : IsZip h₇ z TI TO (rawInt h₅.objs.size) := hz₇
  refine wpAny_setField_rec hz₇ (by simp) fun h₈ hz₈ hs₈ => ?_
  replace hz₈ : IsZip h₈ z TI TO (rawInt h₅.objs.size) := hz₈
  have up : ∀ c o, c ≠ z → h₅.get? c = some o → h₈.get? c = some o := fun c o c1 e => hs₈.extBut _ _ c1 (hs₇.extBut _ _ c1 (Heap.get?_push_of_some _ e))
  have hT₈ : IsPair h₈ h₅.objs.size x y := hs₈.extBut _ _ (Nat.ne_of_gt hzlt) (hs₇.extBut _ _ (Nat.ne_of_gt hzlt) (Heap.get?_push_size _ rfl))
  rw [hsz] at hz₈ hT₈
  refine wpAny_pure ⟨_, rfl, wpAny_pure ?_⟩
  show Q (some (.ref h₅.objs.size)) _
  rw [hsz]
  have keep : ∀ c o, c ≠ z → c ≠ TO → c ≠ i1 → c ≠ i2 → s.heap.get? c = some o → h₈.get? c = some o := fun c o c1 c2 c3 c4 e => up c o c1 (hk₅ c o c1 c2 c3 c4 e)
  exact hQ h₈ ⟨hz₈, keep _ _ D.TIz D.TITO D.TIi1 D.TIi2 hTI, ⟨_, _, up _ _ D.TOz hTO₅⟩, h1₅.at fun o e => up _ o D.i1z e, h2₅.at fun o e => up _ o D.i2z e, hl1.at fun o e => keep _ o D.l1z D.l1TO D.l1i1 D.l1i2 e, hl2.at fun o e => keep _ o D.l2z D.l2TO D.l2i1 D.l2i2 e⟩ hT₈ keep

theorem zipT_end {Q : Option Value → Shared → Prop} (hh : A.handled = none) (D : ZipApart z TI TO i1 i2 l1 l2) (Z : ZS s.heap z TI TO i1 i2 l1 l2 xs ys k .none) (hend : xs[k]? = none ∨ ys[k]? = none)
    (hQ : ∀ h', (∀ c o, c ≠ z → c ≠ TO → c ≠ i1 → c ≠ i2 → s.heap.get? c = some o → h'.get? c = some o) → Q none { s with heap := h' }) : wpAny (model prog w) A (pyNext (.ref z)) Q E s := by
  have hT : s.TypeIs (.ref z) "zip" := ⟨_, Z.z, rfl⟩
  obtain ⟨hz, hTI, ⟨a, b, hTO⟩, h1, h2, hl1, hl2⟩ := Z
  unfold pyNext
  refine wpAny_bind (wpAny_attempt (wpAny_callSpecial?_slot (name := Str.ofString "__next__") hT PySem.F.slot_zip_next (wpAny_call_entry PySem.F.slot_zip_next hT PySem.F.entry_zip_next ?_ (PySem.F.args_zip_next_1 _))))
  have hE : ∀ h' e, (∀ c o, c ≠ z → c ≠ TO → c ≠ i1 → c ≠ i2 → s.heap.get? c = some o → h'.get? c = some o) → (∃ o, h'.get? e = some o ∧ o.cls = .type "StopIteration") →
      wpAny (model prog w) A (do if ← isInstance (.ref e) (.type "StopIteration") then pure none else throw (.ref e)) Q E { s with heap := h' } := by
    intro h' e hk ⟨o, ho, hc⟩
    exact wpAny_bind (wpAny_isInstance (T := "StopIteration") (b := true) ⟨o, ho, hc⟩ isSubtype_stop (wpAny_pure (hQ _ hk)))
  show wpAny _ _ (field (.ref z) 2 >>= _) _ _ _
  refine wpAny_bind (wpAny_field hz rfl (x := .bool false) rfl ?_)
  show wpAny _ _ (field (.ref z) 3 >>= _) _ _ _
  refine wpAny_bind (wpAny_field hz rfl (x := .ref TI) rfl (wpAny_bind (wpAny_seqItems hTI rfl ?_)))
  show wpAny _ _ (Builtin.SmallTypes.ownedTupleIsFree (.ref z) >>= _) _ _ _
  refine wpAny_bind ?_
  unfold Builtin.SmallTypes.ownedTupleIsFree
  refine wpAny_bind (wpAny_field hz rfl (x := .none) rfl (wpAny_pure ?_))
  simp only [if_true]
  refine wpAny_bind (wpAny_rule (wpAny_bind (wpAny_field hz rfl (x := .ref TO) rfl ?_)))
  refine wpAny_bind (wpAny_setField_rec hz (by simp) fun h₁ hz₁ hs₁ => ?_)
  replace hz₁ : IsZip h₁ z TI TO .ellipsis := hz₁
  refine wpAny_bind ?_
  simp only [List.zipIdx_cons, List.zipIdx_nil, List.forIn_cons, List.forIn_nil]
  refine wpAny_bind (wpAny_bind (wpAny_onRaise ?_))
  show wpAny _ _ (Builtin.SmallTypes.nextOf (.ref i1) >>= _) _ _ _
  cases hx : xs[k]? with
  | none =>
    refine wpAny_bind (nextOf_tup_end hh (h1.extBut hs₁.extBut D.i1z) (hl1.extBut hs₁.extBut D.l1z) hx fun h₂ e hs₂ ⟨oe, hoe, hce⟩ => ?_)
    have hz₂ : IsZip h₂ z TI TO .ellipsis := hs₂ _ _ D.i1z.symm hz₁
    have hez : e ≠ z := fun y => by subst y; rw [hz₂] at hoe; cases hoe; simp at hce
    exact wpAny_setField_rec hz₂ (by simp) fun h₃ ζ hs₃ => hE h₃ e (fun c o c1 ζ c3 ζ y => hs₃.extBut _ _ c1 (hs₂ _ _ c3 (hs₁.extBut _ _ c1 y))) ⟨oe, hs₃.extBut _ _ hez hoe, hce⟩
  | some x =>
    have hy : ys[k]? = none := by rcases hend with h | h; rw [hx] at h; cases h; exact h
    refine wpAny_bind (nextOf_tup (h1.extBut hs₁.extBut D.i1z) (hl1.extBut hs₁.extBut D.l1z) hx fun h₂ h1₂ hs₂ => wpAny_pure ?_)
    have hTO₂ : IsPair h₂ TO a b := hs₂.extBut _ _ D.TOi1 (hs₁.extBut _ _ D.TOz hTO)
    refine wpAny_bind (wpAny_seqItems hTO₂ rfl (wpAny_bind (wpAny_updateSeq_pair hTO₂ fun h₃ hTO₃ hs₃ => ?_)))
    refine wpAny_bind (wpAny_letGo (wpAny_pure ?_))
    refine wpAny_bind (wpAny_bind (wpAny_onRaise ?_))
    show wpAny _ _ (Builtin.SmallTypes.nextOf (.ref i2) >>= _) _ _ _
    refine wpAny_bind (nextOf_tup_end hh (((h2.extBut hs₁.extBut D.i2z).extBut hs₂.extBut D.i12.symm).extBut hs₃.extBut D.TOi2.symm) (((hl2.extBut hs₁.extBut D.l2z).extBut hs₂.extBut D.l2i1).extBut hs₃.extBut D.l2TO) hy fun h₄ e hs₄ ⟨oe, hoe, hce⟩ => ?_)
    have hz₄ : IsZip h₄ z TI TO .ellipsis := hs₄ _ _ D.i2z.symm (hs₃.extBut _ _ D.TOz.symm (hs₂.extBut _ _ D.i1z.symm hz₁))
    have hez : e ≠ z := fun y => by subst y; rw [hz₄] at hoe; cases hoe; simp at hce
    exact wpAny_setField_rec hz₄ (by simp) fun h₅ ζ hs₅ => hE h₅ e (fun c o c1 c2 c3 c4 y => hs₅.extBut _ _ c1 (hs₄ _ _ c4 (hs₃.extBut _ _ c2 (hs₂.extBut _ _ c3 (hs₁.extBut _ _ c1 y))))) ⟨oe, hs₅.extBut _ _ hez hoe, hce⟩
end
noncomputable abbrev zt1 (h : Heap) (l1 : Addr) : Heap := h.push { cls := .type "tuple_iterator", data := .fields #[.ref l1, .int 0 0] }
noncomputable abbrev zt2 (h : Heap) (l1 l2 : Addr) : Heap := (zt1 h l1).push { cls := .type "tuple_iterator", data := .fields #[.ref l2, .int 0 0] }
noncomputable abbrev zt3 (h : Heap) (l1 l2 : Addr) : Heap := (zt2 h l1 l2).push { cls := .type "tuple", data := .seq #[.ref h.objs.size, .ref (zt1 h l1).objs.size] }
noncomputable abbrev zt4 (h : Heap) (l1 l2 : Addr) : Heap := (zt3 h l1 l2).push { cls := .type "tuple", data := .seq #[.none, .none] }
noncomputable abbrev zt5 (h : Heap) (l1 l2 : Addr) : Heap := (zt4 h l1 l2).push { cls := .type "zip", data := .fields #[.none, .bool false, .bool false, .ref (zt2 h l1 l2).objs.size, .ref (zt3 h l1 l2).objs.size] }
theorem zipT_new (l1 l2 : Addr) (xs ys : Array Value) :
    Meets (Builtin.«zip.__new__» ⟨[.type "zip", .ref l1, .ref l2], []⟩) (fun ζ R s => A3 (s.heap.IsTuple l1 xs) (s.heap.IsTuple l2 ys) (R (.ok (.ret (.ref (zt4 s.heap l1 l2).objs.size))) { s with heap := zt5 s.heap l1 l2 })) :=
  .of_wp fun prog w A R s h => by
    obtain ⟨hp, g, d, tk, os⟩ := s; obtain ⟨hl1, hl2, h⟩ := h
    have hsub := sub_zip
    have hL1 : Heap.IsTuple (Shared.heap ⟨hp, g, d, tk, os⟩) l1 xs := hl1
    have hL2 : Heap.IsTuple (Shared.heap ⟨hp.push { cls := .type "tuple_iterator", data := .fields #[.ref l1, .int 0 0] }, g, d, tk, os⟩) l2 ys := Heap.IsTuple.push hl2 _
    wp_walk using wpAny_pyIter_tuple hL1, wpAny_pyIter_tuple hL2
    exact ⟨_, rfl, h⟩
section
variable {prog : Program} {w : World} {A : Around} {E : Value → Shared → Prop} {s : Shared}
theorem zipT_call {l1 l2 : Addr} {xs ys : Array Value} {Q : Value → Shared → Prop} (hl1 : s.heap.IsTuple l1 xs) (hl2 : s.heap.IsTuple l2 ys) (h : Q (.ref (zt4 s.heap l1 l2).objs.size) { s with heap := zt5 s.heap l1 l2 }) : wpAny (model prog w) A (call (.type "zip") [.ref l1, .ref l2]) Q E s := by
  refine callType_new PySem.F.called_zip (by decide) (PySem.F.typeCall_zip_2 _ _) (PySem.F.newCall_zip_2 _ _) (fun obj => PySem.F.args_object_init_3 obj _ _) PySem.F.entry_zip_new (zipT_new l1 l2 xs ys) ⟨hl1, hl2, ?_⟩
  exact ⟨⟨_, Heap.get?_push_size _ rfl, rfl⟩, h⟩
end
end Tl
end

section
open PySem PySem.W PySem.Calls PyProof.Rows
set_option linter.unusedVariables false
namespace Tl
noncomputable def zipV (l m : List V) : List V := (l.zip m).map fun e => .tup [e.1, e.2]
theorem zipV_get {l m : List V} {i : Nat} {v : V} (h : (zipV l m)[i]? = some v) : X2 fun a b => A3 (l[i]? = some a) (m[i]? = some b) (v = .tup [a, b]) := by
  unfold zipV at h
  rw [List.getElem?_map] at h
  cases e : (l.zip m)[i]? with
  | none => rw [e] at h; cases h
  | some x =>
    rw [e] at h; cases h
    obtain ⟨h1, h2⟩ := List.getElem?_zip_eq_some.mp e
    exact ⟨_, _, h1, h2, rfl⟩
theorem zipV_none {l m : List V} {i : Nat} (h : (zipV l m)[i]? = none) : l[i]? = none ∨ m[i]? = none := by
  have := List.getElem?_eq_none_iff.mp h
  simp only [zipV, List.length_map, List.length_zip] at this
  rcases Nat.le_total l.length m.length with h | h
  · exact .inl (List.getElem?_eq_none_iff.mpr (by lia -matchEqs))
  · exact .inr (List.getElem?_eq_none_iff.mpr (by lia -matchEqs))
theorem VRL.none {h : Heap} {F : FS} {p : P} {v : List Value} {d : List V} (H : VRL h F p v d) {i : Nat} (e : d[i]? = .none) : v[i]? = .none := by
  rw [List.getElem?_eq_none_iff] at e ⊢; rw [H.length]; exact e

section
variable {C : Cfg} {k : Nat} {sc : Scope} {fr : Fm} {p : P} {X : P → Prop}

theorem Turns.zip {A : Around} {F wr : FS} {z TI TO i1 i2 a1 a2 : Addr} {vs ws : List Value} {l m : List V} {ts : List Expr} {kk : Nat} {pos : Pos} (hh : A.handled = none) (D : ZipApart z TI TO i1 i2 a1 a2) (hw : ∀ b, wr b ↔ (b = z ∨ b = TI ∨ b = TO ∨ b = i1 ∨ b = i2)) :
    Turns C A F wr (.ref z) (.Tuple ts kk pos) (zipV l m) (fun i h p => A6 (ZS h z TI TO i1 i2 a1 a2 vs.toArray ws.toArray i .none) (∀ b, wr b → F b) (Free F p a1) (Free F p a2) (VRL h F p vs l) (VRL h F p ws m)) where
  mono := fun {i h h' p p' ex} hx hp S ⟨Z, hF, f1, f2, r1, r2⟩ => by
    have hxF : ∀ b, ex b → F b := fun b z => (hx b z).1
    have kw : ∀ b o o', wr b → h.get? b = some o → h.get? b = some o' → ND o' → h'.get? b = some o := fun b o o' z e e' nd => by
      rw [e] at e'; cases e'
      exact (S b o e (hp b (hF b z)) fun y => (hx b y).2 z).1.get nd
    obtain ⟨o1, e1, _, _, d1⟩ := Z.t1
    obtain ⟨o2, e2, _, _, d2⟩ := Z.t2
    refine ⟨Z.keep fun b o hb e => ?_, hF, (Free.step S hxF e1 f1 (nd_seq d1)).2, (Free.step S hxF e2 f2 (nd_seq d2)).2, r1.step S hxF, r2.step S hxF⟩
    rcases hb with z | z | z | z | z | z | z
    · exact kw b o _ ((hw b).mpr (by simp [z])) e (z ▸ Z.z) (nd_fields rfl)
    · exact kw b o _ ((hw b).mpr (by simp [z])) e (z ▸ Z.ti) (nd_seq rfl)
    · obtain ⟨_, _, e'⟩ := Z.to; exact kw b o _ ((hw b).mpr (by simp [z])) e (z ▸ e') (nd_seq rfl)
    · obtain ⟨_, e', _, d⟩ := Z.it1; exact kw b o _ ((hw b).mpr (by simp [z])) e (z ▸ e') (nd_fields d)
    · obtain ⟨_, e', _, d⟩ := Z.it2; exact kw b o _ ((hw b).mpr (by simp [z])) e (z ▸ e') (nd_fields d)
    · subst z; rw [e1] at e; cases e; exact (Free.step S hxF e1 f1 (nd_seq d1)).1
    · subst z; rw [e2] at e; cases e; exact (Free.step S hxF e2 f2 (nd_seq d2)).1
  self := fun {i s p Q E} ⟨Z, _, _, _, _, _⟩ hQ => wpAny_pyIter_zip Z.z hQ
  next := fun {i s p x} hx Iv ⟨Z, hF, f1, f2, r1, r2⟩ => by
    obtain ⟨a, b, e1, e2, rfl⟩ := zipV_get hx
    obtain ⟨x', hx', rx⟩ := r1.get e1
    obtain ⟨y', hy', ry⟩ := r2.get e2
    refine zipT_item D Z (x := x') (y := y') (by simpa using hx') (by simpa using hy') fun h₁ Z₁ hT hk => ⟨_, rfl, ?_⟩
    refine wpAny_letOwnedTupleGo_zip Z₁.z fun h₂ hz₂ hs₂ => ?_
    have hTz : s.heap.objs.size ≠ z := Nat.ne_of_gt (Heap.lt_size Z.z)
    have hT₂ : IsPair h₂ s.heap.objs.size x' y' := hs₂.extBut _ _ hTz hT
    have Z₂ : ZS h₂ z TI TO i1 i2 a1 a2 vs.toArray ws.toArray (i + 1) .none :=
      ⟨hz₂, hs₂.extBut _ _ D.TIz Z₁.ti, let ⟨a, b, e⟩ := Z₁.to; ⟨a, b, hs₂.extBut _ _ D.TOz e⟩, Z₁.it1.extBut hs₂.extBut D.i1z, Z₁.it2.extBut hs₂.extBut D.i2z, Z₁.t1.extBut hs₂.extBut D.l1z, Z₁.t2.extBut hs₂.extBut D.l2z⟩
    have keep : ∀ c o, ¬ wr c → s.heap.get? c = some o → h₂.get? c = some o := fun c o n e => by
      have n' := fun q => n ((hw c).mpr q)
      have c1 : c ≠ z := fun q => n' (by simp [q])
      exact hs₂.extBut _ _ c1 (hk c o c1 (fun q => n' (by simp [q])) (fun q => n' (by simp [q])) (fun q => n' (by simp [q])) e)
    have S : Step wr p s.heap p h₂ := fun b o e q n => ⟨.of (keep b o n e), q⟩
    refine ⟨Iv.keepsF (fun b o e n => keep b o (fun q => n (hF b q)) e) (fun b q => ?_), S, .tup (vs := [x', y']) (n := 0) hT₂ ⟨Iv.notF, Iv.fresh⟩ (.cons (rx.step S hF) (.cons (ry.step S hF) .nil)), ⟨Z₂, hF, f1, f2, r1.step S hF, r2.step S hF⟩, Same.mk s h₂ s.toks⟩
    by_cases hb : wr b
    · rcases (hw b).mp hb with q | q | q | q | q
      · subst q; exact ⟨_, Z₂.z⟩
      · subst q; exact ⟨_, Z₂.ti⟩
      · subst q; obtain ⟨a, c, e⟩ := Z₂.to; exact ⟨_, e⟩
      · subst q; obtain ⟨o, e, _⟩ := Z₂.it1; exact ⟨_, e⟩
      · subst q; obtain ⟨o, e, _⟩ := Z₂.it2; exact ⟨_, e⟩
    · obtain ⟨o, e⟩ := Iv.ex b q; exact ⟨o, keep b o hb e⟩
  done := fun {i s p} hx Iv ⟨Z, hF, f1, f2, r1, r2⟩ => by
    refine zipT_end hh D Z ((zipV_none hx).imp (fun e => by simpa using r1.none e) fun e => by simpa using r2.none e) fun h' hk => ?_
    have keep : ∀ c o, ¬ wr c → s.heap.get? c = some o → h'.get? c = some o := fun c o n e => by
      have n' := fun q => n ((hw c).mpr q)
      exact hk c o (fun q => n' (by simp [q])) (fun q => n' (by simp [q])) (fun q => n' (by simp [q])) (fun q => n' (by simp [q])) e
    have S : Step wr p s.heap p h' := fun b o e q n => ⟨.of (keep b o n e), q⟩
    have I₁ : Inv C (fun a => F a ∧ ¬ wr a) p s.heap := Iv.unmark fun a z => z.1
    exact ⟨rfl, ⟨fun b o e => ⟨keep b o (fun q => (Iv.base b o e).2.1 (hF b q)) (Iv.base b o e).1, (I₁.base b o e).2⟩, fun b o e => by
      obtain ⟨f, mm, c, hc, r⟩ := Iv.trk b o e
      exact ⟨fun z => f z.1, mm, c, keep b c (fun q => f (hF b q)) hc, (r.step S hF).weak fun a z => ⟨fun y => z.1 y.1, z.2⟩⟩, fun a z => by
      obtain ⟨o, e⟩ := Iv.ex a z.1
      exact ⟨o, keep a o z.2 e⟩⟩, S, Same.mk s h' s.toks⟩

theorem TI_zip {e1 e2 : Expr} {np pos pos' : Pos} {ts : List Expr} {kk : Nat} {Q : List V → P → Prop} (hk : sc.names.lookup (Str.ofString "zip") = some .globalImplicit) (hg : nsIn C.K mainGlobals (Str.ofString "zip") = some none)
    (h : TAs C k sc fr p [e1, e2] (fun vs p₁ => X2 fun l m => vs = [.tup l, .tup m] ∧ Q (zipV l m) p₁) X) (he : ∀ env, starEach [e1, e2] env = (false, eval e1 env) :: starEach [e2] env) (hpl : ∀ env, (backTo pos (starEach [e2] env)).any (·.1) = false) :
    TI C k sc fr p (.Tuple ts kk pos') (.Call (.Name (Str.ofString "zip") np) [e1, e2] [] pos) Q X := by
  intro env A F s hs R I f
  refine wpAny_Call_ofName (name_builtin (v' := .type "zip") I f (by unfold Env.kindOf; rw [hs]; exact hk) hg (by rfl) (by decide +kernel) ?_ (by decide +kernel))
  have h1 := h env A F s pos hs R I f
  show wpAny _ _ (callWith pos (.type "zip") [] (backTo pos (starEach [e1, e2] env)) []) _ _ s
  have h2 : wpAny (model C.prog C.w) A (spliced (backTo pos (starEach [e1, e2] env))) (fun vs' s₁ => wpAny (model C.prog C.w) A (call (.type "zip") ([] ++ vs')) (fun x s₂ => wpAny (model C.prog C.w) A (pyIter x) (PostI C k env A F fr p s (.Tuple ts kk pos') Q) (PostX C NO F p s X) s₂) (PostX C NO F p s X) s₁) (PostX C NO F p s X) s :=
    wp_then h1 (fun vs' s₁ vs p₁ ⟨l, m, hvs, q⟩ I₁ S₁ r m₁ => by
      have a := At.step ⟨R, I, f⟩ S₁ I₁
      subst hvs
      obtain ⟨v1, v2, rfl, r1, r2⟩ := two_args r
      replace r1 := VR.inv r1; obtain ⟨a1, vs, n1, rfl, g1, f1, r1⟩ := r1
      replace r2 := VR.inv r2; obtain ⟨a2, ws, n2, rfl, g2, f2, r2⟩ := r2
      have hl1 : s₁.heap.IsTuple a1 vs.toArray := ⟨_, g1, rfl, n1, rfl⟩
      have hl2 : s₁.heap.IsTuple a2 ws.toArray := ⟨_, g2, rfl, n2, rfl⟩
      refine zipT_call hl1 hl2 ?_
      have z1 : (zt1 s₁.heap a1).objs.size = s₁.heap.objs.size + 1 := Heap.size_push ..
      have z2 : (zt2 s₁.heap a1 a2).objs.size = s₁.heap.objs.size + 2 := by rw [Heap.size_push, z1]
      have z3 : (zt3 s₁.heap a1 a2).objs.size = s₁.heap.objs.size + 3 := by rw [Heap.size_push, z2]
      have z4 : (zt4 s₁.heap a1 a2).objs.size = s₁.heap.objs.size + 4 := by rw [Heap.size_push, z3]
      have g5 : (zt5 s₁.heap a1 a2).get? (zt4 s₁.heap a1 a2).objs.size = some _ := Heap.get?_push_size _ rfl
      have g4 : (zt5 s₁.heap a1 a2).get? (zt3 s₁.heap a1 a2).objs.size = some _ := Heap.get?_push_of_some _ (Heap.get?_push_size _ rfl)
      have g3 : (zt5 s₁.heap a1 a2).get? (zt2 s₁.heap a1 a2).objs.size = some _ := Heap.get?_push_of_some _ (Heap.get?_push_of_some _ (Heap.get?_push_size _ rfl))
      have g2' : (zt5 s₁.heap a1 a2).get? (zt1 s₁.heap a1).objs.size = some _ := Heap.get?_push_of_some _ (Heap.get?_push_of_some _ (Heap.get?_push_of_some _ (Heap.get?_push_size _ rfl)))
      have g1' : (zt5 s₁.heap a1 a2).get? s₁.heap.objs.size = some _ := Heap.get?_push_of_some _ (Heap.get?_push_of_some _ (Heap.get?_push_of_some _ (Heap.get?_push_of_some _ (Heap.get?_push_size _ rfl))))
      have keep : ∀ c o, s₁.heap.get? c = some o → (zt5 s₁.heap a1 a2).get? c = some o := fun c o x => Heap.get?_push_of_some _ (Heap.get?_push_of_some _ (Heap.get?_push_of_some _ (Heap.get?_push_of_some _ (Heap.get?_push_of_some _ x))))
      rw [z4]
      rw [z2, z3, z4] at g5
      rw [z3] at g4
      rw [z1, z2] at g3
      rw [z1] at g2'
      generalize hH : zt5 s₁.heap a1 a2 = H at *
      obtain ⟨N, hN⟩ : ∃ N : Nat, s₁.heap.objs.size = N := ⟨_, rfl⟩
      rw [hN] at g5 g4 g3 g2' g1' ⊢
      have below : ∀ (b : Nat) o, s₁.heap.get? b = some o → b < N := fun b o e => hN ▸ Heap.lt_size e
      have b1 := below a1 _ g1
      have b2 := below a2 _ g2
      have D : ZipApart (N + 4) (N + 2) (N + 3) N (N + 1) a1 a2 := by
        constructor <;> (intro e; have e' : (_ : Nat) = (_ : Nat) := e; first | exact absurd e' (Nat.ne_of_lt (by lia -matchEqs)) | exact absurd e' (Nat.ne_of_gt (by lia -matchEqs)))
      refine wpAny_pyIter_zip g5 ?_
      let wr : FS := fun b => b = (N + 4 : Nat) ∨ b = (N + 2 : Nat) ∨ b = (N + 3 : Nat) ∨ b = N ∨ b = (N + 1 : Nat)
      have hw : ∀ b, wr b ↔ (b = (N + 4 : Nat) ∨ b = (N + 2 : Nat) ∨ b = (N + 3 : Nat) ∨ b = N ∨ b = (N + 1 : Nat)) := fun ζ => Iff.rfl
      have wrN : ∀ (b : Nat), wr b → N ≤ b := by
        rintro b (e | e | e | e | e)
        all_goals (have e' : (b : Nat) = _ := e; first | exact Nat.le_of_eq e'.symm | (rw [e']; exact Nat.le_add_right _ _))
      have hf : ∀ b o, s₁.heap.get? b = some o → (F b ∨ wr b) → F b := fun b o e q => q.elim id fun q => absurd (below b o e) (Nat.not_lt.mpr (wrN b q))
      have hx : ∀ b, (F b ∨ wr b) → ∃ o, H.get? b = some o := by
        rintro b (q | q | q | q | q | q)
        · obtain ⟨o, e⟩ := I₁.ex b q; exact ⟨o, keep b o e⟩
        · subst q; exact ⟨_, g5⟩
        · subst q; exact ⟨_, g3⟩
        · subst q; exact ⟨_, g4⟩
        · subst q; exact ⟨_, g1'⟩
        · subst q; exact ⟨_, g2'⟩
      refine ⟨zipV l m, p₁, wr, q, S₁.trans fun b o e q ζ => ⟨.of (keep b o e), q⟩, m₁.trans (Same.mk s₁ H s₁.toks), I₁.mark keep hf hx, a.frm.mark keep hf fun ζ z => .inl z, a.room.mark keep fun ζ z => .inl z, fun b q => ⟨fun fb => ?_, fun o e hp => ?_⟩, fun F' hF1 hF2 => ⟨_, Turns.zip (vs := vs) (ws := ws) R.handled D hw, fun h'' hk' => ?_⟩⟩
      · obtain ⟨o, e⟩ := I₁.ex b fb
        exact absurd (below b o e) (Nat.not_lt.mpr (wrN b q))
      · obtain ⟨_, e', _⟩ := (S₁ b o e hp id).1
        exact absurd (below b _ e') (Nat.not_lt.mpr (wrN b q))
      · have hfr : ∀ a o, s₁.heap.get? a = some o → Free F p₁ a → h''.get? a = some o ∧ Free F' p₁ a := fun a o e fa => ⟨hk' a o (keep a o e), fun q => fa.1 (hf a o e (hF2 a o (keep a o e) q)), fa.2⟩
        exact ⟨⟨hk' _ _ g5, hk' _ _ g3, ⟨_, _, hk' _ _ g4⟩, ⟨_, hk' _ _ g1', rfl, rfl⟩, ⟨_, hk' _ _ g2', rfl, rfl⟩, ⟨_, (hfr _ _ g1 f1).1, rfl, n1, rfl⟩, ⟨_, (hfr _ _ g2 f2).1, rfl, n2, rfl⟩⟩,
          fun b q => hF1 b (.inr q), (hfr _ _ g1 f1).2, (hfr _ _ g2 f2).2, r1.mapx fun a o e ζ => hfr a o e, r2.mapx fun a o e ζ => hfr a o e⟩) fun ζ ζ z => z
  rw [he] at h2 ⊢
  have hplain : (backTo pos ((false, eval e1 env) :: starEach [e2] env)).any (·.1) = false := by show (false || (backTo pos (starEach [e2] env)).any (·.1)) = false; rw [hpl]; rfl
  exact PySem.callWith_type hplain (evalArgs_plain h2)
end
end Tl
end

section
open PySem PySem.W PySem.Calls PyProof.Rows Builtin
set_option linter.unusedVariables false
namespace Tl
section
variable {C : Cfg} {k : Nat} {sc : Scope} {fr : Fm} {p : P} {X : P → Prop}

theorem isStr_str (x name : Str) (t : Tok) : (Value.str x t).isStr name = (x == name) := rfl
theorem vrf_find {h : Heap} {F : FS} {name : Str} {v : V} : ∀ {es : List DictEntry} {l : List (Str × V)}, VRF h F p es l → l.lookup name = some v → ∃ v', getL name es = some (some v') ∧ VR h F p v' v
  | _, _, .nil, e => by simp at e
  | _, _, @VRF.cons _ _ _ e es x t d ds hk r rs, q => by
    unfold getL
    rw [List.find?_cons, hk, isStr_str]
    rw [List.lookup_cons] at q
    by_cases hx : x = name
    · subst hx
      simp only [beq_self_eq_true] at q ⊢
      cases q
      exact ⟨_, rfl, r⟩
    · have h1 : (x == name) = false := beq_eq_false_iff_ne.mpr hx
      have h2 : (name == x) = false := beq_eq_false_iff_ne.mpr fun z => hx z.symm
      rw [h2] at q
      rw [h1]
      obtain ⟨v', h3, h4⟩ := vrf_find rs q
      refine ⟨v', ?_, h4⟩
      unfold getL at h3
      have h5 : e.refKey = false := by unfold DictEntry.refKey; rw [hk]
      rw [List.any_cons, h5, Bool.false_or]
      exact h3
theorem vrf_none {h : Heap} {F : FS} {name : Str} : ∀ {es : List DictEntry} {l : List (Str × V)}, VRF h F p es l → l.lookup name = none → getL name es = some none
  | _, _, .nil, e => rfl
  | _, _, @VRF.cons _ _ _ e es x t d ds hk r rs, q => by
    unfold getL
    rw [List.find?_cons, hk, isStr_str]
    rw [List.lookup_cons] at q
    by_cases hx : x = name
    · subst hx
      simp at q
    · have h1 : (x == name) = false := beq_eq_false_iff_ne.mpr hx
      have h2 : (name == x) = false := beq_eq_false_iff_ne.mpr fun z => hx z.symm
      rw [h2] at q
      rw [h1]
      have h3 := vrf_none rs q
      unfold getL at h3
      have h5 : e.refKey = false := by unfold DictEntry.refKey; rw [hk]
      rw [List.any_cons, h5, Bool.false_or]
      exact h3
theorem vrf_put {h : Heap} {F : FS} {name : Str} {hsh : Int} {t : Tok} {v' : Value} {v : V} (rv : VR h F p v' v) : ∀ {es : List DictEntry} {l : List (Str × V)}, VRF h F p es l → VRF h F p (putL name hsh (.str name t) v' es) (setL name v l)
  | _, _, .nil => .cons rfl rv .nil
  | _, _, @VRF.cons _ _ _ e es x t d ds hk r rs => by
    unfold putL; rw [setL_c]
    rw [hk, isStr_str]
    by_cases hx : x = name
    · subst hx
      simp only [beq_self_eq_true, if_true]
      exact .cons rfl rv rs
    · have h1 : (x == name) = false := beq_eq_false_iff_ne.mpr hx
      rw [h1, if_neg (by decide), if_neg fun z => hx z.symm]
      exact .cons hk r (vrf_put rv rs)
theorem vrf_noref {h : Heap} {F : FS} : ∀ {es : List DictEntry} {l : List (Str × V)}, VRF h F p es l → es.any (·.refKey) = false
  | _, _, .nil => rfl
  | _, _, .cons hk _ rs => by rw [List.any_cons, vrf_noref rs, Bool.or_false]; unfold DictEntry.refKey; rw [hk]
theorem vrf_length {h : Heap} {F : FS} : ∀ {es : List DictEntry} {l : List (Str × V)}, VRF h F p es l → es.length = l.length
  | _, _, .nil => rfl
  | _, _, .cons _ _ rs => by simp [vrf_length rs]
theorem putL_length {name : Str} {hsh : Int} {a b : Value} : ∀ es : List DictEntry, (putL name hsh a b es).length ≤ es.length + 1
  | [] => by simp [putL]
  | e :: r => by
    unfold putL
    split
    · simp
    · have := putL_length (name := name) (hsh := hsh) (a := a) (b := b) r
      simp; lia -matchEqs
theorem handed_vr {h : Heap} {F : FS} {v' : Value} {v : V} (r : VR h F p v' v) : handedIn v' = true := by cases r <;> rfl

noncomputable def IsInst (C : Cfg) (p : P) (x : Addr) (Cl : Addr) (l : List (Str × V)) : Prop := ∃ dx, p x = some (.inst Cl dx) ∧ p dx = some (.attrs l)
theorem inst_at {F : FS} {h : Heap} {x Cl : Addr} {l : List (Str × V)} (I : Inv C F p h) (i : IsInst C p x Cl l) : X3 fun dx es n => A5 (p x = some (.inst Cl dx)) (p dx = some (.attrs l)) (h.get? dx = some (dictOf es n)) (VRF h F p es l) (InstAt h x (instObj Cl dx) Cl (some (dictOf es n))) := by
  obtain ⟨dx, h1, h2⟩ := i
  obtain ⟨_, _, c1, g1, rfl⟩ := I.trk _ _ h1
  obtain ⟨_, _, c2, g2, es, n, rfl, r⟩ := I.trk _ _ h2
  exact ⟨dx, es, n, h1, h2, g2, r, g1, rfl, rfl, g2⟩

noncomputable def fieldOk (K : Frag) (Cl : Addr) (name : Str) : Bool := plainGet K Cl name && hasDictIn K Cl && findIn K (.ref Cl) name == some none
noncomputable def storeOk (K : Frag) (Cl : Addr) (name : Str) : Bool := findIn K (.ref Cl) "__setattr__" == some (some (.builtin "object.__setattr__")) && plainOver K Cl && takerIn K Cl name == some none && hasDictIn K Cl
noncomputable def methOk (K : Frag) (Cl : Addr) (name : Str) (f : Addr) : Bool := plainGet K Cl name && findIn K (.ref Cl) name == some (some (.ref f)) && isFn K (.ref f) && keepIn K (.ref f)

theorem T_Attr {o : Expr} {name : Str} {pos : Pos} {Q : V → P → Prop} (h : TE C k sc fr p o (fun ov p₁ => X4 fun x Cl l u => A5 (ov = .ref x) (IsInst C p₁ x Cl l) (fieldOk C.K Cl name = true) (l.lookup name = some u) (Q u p₁)) X)
    (he : ∀ env, eval (.Attribute o name pos) env = (do
      let v ← eval o env
      standAt pos.atName
      let r ← holding [v] (getAttr v name true)
      letTemporaryGo o v r
      pure r)) : TE C k sc fr p (.Attribute o name pos) Q X := by
  intro env A F s hs R I f
  refine Attribute_any_ (wp_then (h env A F s hs R I f) (fun o' s₁ ov p₁ ⟨x, Cl, l, u, e1, e2, e3, e4, q⟩ I₁ S₁ r₁ m₁ => ?_) fun ζ ζ z => z) (he env)
  subst e1
  obtain rfl := VR.inv r₁
  obtain ⟨dx, es, n, _, _, _, rF, ia⟩ := inst_at I₁ e2
  obtain ⟨v', g1, g2⟩ := vrf_find rF e4
  unfold fieldOk at e3
  simp only [Bool.and_eq_true, beq_iff_eq] at e3
  obtain ⟨⟨k1, k2⟩, k3⟩ := e3
  refine get_value (C.X.keeps I₁.keep) ia (plainGet_of k1).1 (findObj_own k2 k3 rfl g1) (handed_vr g2) ?_
  exact PostG.trans S₁ m₁ (post_tok I₁ g2 q)

theorem T1_Assign_Attr {o e : Expr} {name : Str} {pos pos' : Pos} {Q : Fl → Fm → P → Prop}
    (h : TE C k sc fr p e (fun v p₁ => TE C k sc fr p₁ o (fun ov p₂ => X4 fun x Cl dx l => A6 (ov = .ref x) (p₂ x = some (.inst Cl dx)) (p₂ dx = some (.attrs l)) (storeOk C.K Cl name = true) (l.length ≤ 100) (Q .next fr (put p₂ dx (.attrs (setL name v l))))) X) X)
    (hs : ∀ env, swapsWith e (some (.Attribute o name pos')) pos.line env = pure false) : T1 C k sc fr p (.Assign [.Attribute o name pos'] e pos) Q X := by
  intro env A F s he R I f
  refine plainObj_wpAny_Assign_Attribute (wp_then (h env A F s he R I f) (fun v' s₁ v p₁ q I₁ S₁ r m₁ => ?_) fun ζ ζ z => z.own I f) (hs env)
  have a₁ := At.step ⟨R, I, f⟩ S₁ I₁
  refine wp_then (q env A F s₁ he a₁.room I₁ a₁.frm) (fun o' s₂ ov p₂ ⟨x, Cl, dx, l, e1, e2, e3, e4, e5, q₂⟩ I₂ S₂ r₂ m₂ => ?_) fun ζ ζ z => (z.trans S₁ m₁).own I f
  subst e1
  obtain rfl := VR.inv r₂
  have a₂ := a₁.step S₂ I₂
  obtain ⟨dx', es, n, k1, k2, hD, rF, ia⟩ := inst_at I₂ ⟨dx, e2, e3⟩
  rw [e2] at k1; cases k1
  have rv := r.step S₂ fun ζ z => z.elim
  unfold storeOk at e4
  simp only [Bool.and_eq_true, beq_iff_eq] at e4
  obtain ⟨⟨⟨g1, g2⟩, g3⟩, g4⟩ := e4
  have X₂ := C.X.keeps I₂.keep
  refine set_plain X₂ ia g1 (osa_open (s := { s₂ with toks := s₂.toks + 1 }) X₂ ia g2 g3 fun b => ?_)
  obtain ⟨cd, hc, hd'⟩ := any_some g4
  obtain ⟨hx, -, -, -⟩ := ia
  refine wpAny_bind (wpAny_pure (wpAny_bind (wpAny_bind (wpAny_loadPart hx (wpAny_bind (looks_clsIn (M := model C.prog C.w) X₂ hc A.in1 _ _ _ (fun ζ ζ e => e) ?_))))))
  rw [hd']
  refine wpAny_pure (a := some dx) (wpAny_bind (wpAny_pure (wpAny_bind ?_)))
  unfold nsSet
  refine wpAny_bind (wpAny_bind (wpAny_askSetting (wpAny_pure (wpAny_bind (wpAny_mkText (wpAny_bind (wpAny_loadPart hD ?_)))))))
  dsimp only
  have hnr := vrf_noref rF
  have c : (!es.toArray.any (·.key.isStr name) && es.toArray.any (·.refKey)) = false := by
    rw [← Array.any_toList, ← Array.any_toList]
    simp only [List.toList_toArray, hnr, Bool.and_false]
  rw [aRefKeyMayBeTheName_at, c]
  refine wpAny_updatePart hD ?_
  have hlen := vrf_length rF
  have hput := putName_dict name (PyData.keyHash C.w.params name) (.str name (s₂.toks + 1)) v' es n
  have D' := Heap.get?_update_self (Obj.putName name (PyData.keyHash C.w.params name) (.str name (s₂.toks + 1)) v') hD (by rw [hput]; rfl)
  refine wpAny_bind (wpAny_lookBehind D' (by rw [hput]; exact pastItsLine_dict (by rw [List.size_toArray, sizeLine_eq]; have := putL_length (name := name) (hsh := PyData.keyHash C.w.params name) (a := .str name (s₂.toks + 1)) (b := v') es; lia -matchEqs)) ?_)
  have hup := I₂.upd (o' := .attrs (setL name v l)) (c' := dictOf (putL name (PyData.keyHash C.w.params name) (.str name (s₂.toks + 1)) v' es) (putN name es n)) e3 (fun b o hn hb => (Heap.get?_update_ne _ _ _ (Obj.putName name (PyData.keyHash C.w.params name) (.str name (s₂.toks + 1)) v') hn).trans hb) (by rw [D', hput]) ⟨_, _, rfl, vrf_put rv rF⟩
  obtain ⟨I₃, S₃⟩ := hup
  have a₃ := a₂.step (s' := { s₂ with heap := _, toks := s₂.toks + 1 + 1 }) S₃ I₃
  exact wpAny_pure ⟨.next, fr, _, q₂, I₃, ((S₁.trans S₂).trans S₃).of, a₃.frm, .next, (m₁.trans m₂).trans (Same.mk s₂ _ _)⟩

theorem room_call {A : Around} {F : FS} {h : Heap} {Cl : Addr} {rest : List Value} {kw : List (Str × Value)} (R : Room (k + 1) A F h) : Room k (A.under (.builtin "type.__call__" ⟨.ref Cl :: rest, kw⟩)) F h := by
  have w : (Code.builtin "type.__call__" ⟨.ref Cl :: rest, kw⟩).weight = 1 := by kernel_rfl
  have u : (Code.builtin "type.__call__" ⟨.ref Cl :: rest, kw⟩).cUnits = 1 := by kernel_rfl
  have e : (Code.builtin "type.__call__" ⟨.ref Cl :: rest, kw⟩).envs = [] := by rfl
  obtain ⟨r1, r2, r3, l, r4, r5⟩ := R
  refine ⟨r1, ?_, ?_, l, ?_, r5⟩
  · show A.depth + _ + _ < _; lia -matchEqs
  · show A.units + _ + _ + _ < _; lia -matchEqs
  · unfold Around.under; dsimp only; rw [e, r4]; rfl
theorem T_Class {x : Str} {np pos : Pos} {e : Expr} {es : List Expr} {Cl fI : Addr} {Q : V → P → Prop} (hk : sc.names.lookup x = some .globalImplicit) (hg : nsIn C.K mainGlobals x = some (some (.ref Cl))) (hkp : keepIn C.K (.ref Cl) = true) (hm : makesIn C.K Cl = true)
    (hi : findIn C.K (.ref Cl) "__init__" = some (some (.ref fI))) (hf : isFn C.K (.ref fI) = true)
    (h : TAs C (k + 1) sc fr p (e :: es) (fun vs p₁ => ∀ a dx, p₁ a = none → p₁ dx = none → a ≠ dx → TCC C k (.ref fI) (.ref a :: vs) (put (put p₁ dx (.attrs [])) a (.inst Cl dx)) (fun r p₂ => r = .none ∧ Q (.ref a) p₂) X) X)
    (he : ∀ env, starEach (e :: es) env = (false, eval e env) :: starEach es env) (hpl : ∀ env, (backTo pos (starEach es env)).any (·.1) = false)
    (hd : (x == ("__debug__" : Str)) = false) : TE C (k + 1) sc fr p (.Call (.Name x np) (e :: es) [] pos) Q X := by
  intro env A F s hs R I f
  refine wpAny_Call_ofName (name_global I f (by unfold Env.kindOf; rw [hs]; exact hk) hg ?_ hd)
  refine callWith_K (first := []) (C.X.keeps I.keep) hkp (wp_then (h env A F s pos hs R I f) (fun vs' s₁ vs p₁ q I₁ S₁ r m₁ => ⟨C.X.keeps I₁.keep, ?_⟩) fun ζ ζ z => z) (he env) (hpl env)
  have a₁ := At.step ⟨R, I, f⟩ S₁ I₁
  have X₁ := C.X.keeps I₁.keep
  obtain ⟨hh, g, d, t, os⟩ := s₁
  refine wpAny_call (make_core (makes_of X₁ hm) (looks_findIn X₁ hi) (fun self => bind_fn X₁ self (beq_iff_eq.mp hf)) (.inl rfl) ?_)
  have I₁' : Inv C F p₁ hh := I₁
  obtain ⟨I₂, S₂⟩ := I₁'.alloc (c := emptyDict) (o := .attrs []) ⟨[], 0, rfl, .nil⟩
  obtain ⟨I₃, S₃⟩ := I₂.alloc (c := instObj Cl hh.objs.size) (o := .inst Cl hh.objs.size) rfl
  rw [Heap.size_push] at I₃ S₃
  have fr1 : p₁ hh.objs.size = none := I₁'.fresh
  have fr2 : p₁ (hh.objs.size + 1) = none := by
    have := I₂.fresh
    rw [Heap.size_push, put_ne _ _ (Nat.succ_ne_self _)] at this
    exact this
  have q' := q (hh.objs.size + 1) hh.objs.size fr2 fr1 (Nat.succ_ne_self _)
  have S := S₂.trans S₃
  have a₃ := a₁.step (s' := ⟨(hh.push emptyDict).push (instObj Cl hh.objs.size), g, d, t, os⟩) S I₃
  refine codeAny_mono (q' _ F ⟨(hh.push emptyDict).push (instObj Cl hh.objs.size), g, d, t, os⟩ (.ref (hh.objs.size + 1) :: vs') (room_call a₃.room) I₃ (.cons (.ref _) (r.step S fun ζ z => z.elim))) fun res s' z => ?_
  have sm : Same s ⟨(hh.push emptyDict).push (instObj Cl hh.objs.size), g, d, t, os⟩ := m₁.trans (Same.mk ⟨hh, g, d, t, os⟩ ((hh.push emptyDict).push (instObj Cl hh.objs.size)) t)
  rcases res with e | (v | _ | _ | _)
  · exact z.trans (S₁.trans S) sm
  · exact z.elim
  · exact z.elim
  · exact z.elim
  · obtain ⟨v, p', ⟨rfl, q⟩, i, st, vr, m⟩ := z
    cases vr
    exact ⟨rfl, .ref (hh.objs.size + 1), p', q, i, (S₁.trans S).trans st, .ref _, sm.trans m⟩
end
end Tl
end

section
open PySem PySem.W PySem.Calls PyProof.Rows
set_option linter.unusedVariables false
namespace Tl
structure LE (C : Cfg) (k : Nat) (sc : Scope) (fr : Fm) (p : P) (e : Expr) (Q : V → P → Prop) (X : P → Prop) : Prop where
  h : TE C k sc fr p e Q X
structure LT (C : Cfg) (k : Nat) (sc : Scope) (fr : Fm) (p : P) (e : Expr) (Q : Bool → P → Prop) (X : P → Prop) : Prop where
  h : TT C k sc fr p e Q X
structure L1 (C : Cfg) (k : Nat) (sc : Scope) (fr : Fm) (p : P) (st : Stmt) (Q : Fl → Fm → P → Prop) (X : P → Prop) : Prop where
  h : T1 C k sc fr p st Q X
structure LC (C : Cfg) (k : Nat) (f : Value) (args : List V) (p : P) (Q : V → P → Prop) (X : P → Prop) : Prop where
  h : TC C k f args p Q X
structure LB (C : Cfg) (k : Nat) (op : Operator) (a b : V) (p : P) (Q : V → P → Prop) : Prop where
  h : OpB C k op a b p Q
structure LQ (C : Cfg) (k : Nat) (op : CmpOp) (a b : V) (p : P) (Q : V → P → Prop) : Prop where
  h : OpC C k op a b p Q
structure LU (C : Cfg) (k : Nat) (op : UnaryOp) (a : V) (p : P) (Q : V → P → Prop) : Prop where
  h : OpU C k op a p Q
structure LG (C : Cfg) (k : Nat) (o i : V) (p : P) (Q : V → P → Prop) : Prop where
  h : GetI C k o i p Q
structure LS (C : Cfg) (k : Nat) (o i v : V) (p : P) (Q : P → Prop) : Prop where
  h : SetI C k o i v p Q
inductive LM (C : Cfg) (p : P) : V → Str → (Value → Prop) → Prop
  | own {x Cl f : Addr} {l : List (Str × V)} {name : Str} {K : Value → Prop} (i : IsInst C p x Cl l) (h : methOk C.K Cl name f = true) (e : l.lookup name = none) (q : K (.ref f)) : LM C p (.ref x) name K
  | blt {v : V} {name : Str} {K : Value → Prop} {T id : String} (pa : PlainAttrs T) (sl : Slot T name id) (ty : typeOf (.builtin id) = pure (.type "method_descriptor"))
    (hT : ∀ F (s : Shared) o', Inv C F p s.heap → VR s.heap F p o' v → s.TypeIs o' T ∧ ∀ a, o' = .ref a → ∃ ob, s.heap.get? a = some ob ∧ ob.dict = none) (q : K (.builtin id)) : LM C p v name K
inductive LA (C : Cfg) (p : P) : V → Str → (V → Prop) → Prop
  | mk {x Cl : Addr} {l : List (Str × V)} {name : Str} {u : V} {K : V → Prop} (i : IsInst C p x Cl l) (h : fieldOk C.K Cl name = true) (e : l.lookup name = some u) (q : K u) : LA C p (.ref x) name K
inductive LZ (C : Cfg) (p : P) : V → Str → V → (P → Prop) → Prop
  | mk {x Cl dx : Addr} {l : List (Str × V)} {name : Str} {v : V} {K : P → Prop} (e1 : p x = some (.inst Cl dx)) (e2 : p dx = some (.attrs l)) (h : storeOk C.K Cl name = true) (hl : l.length ≤ 100) (q : K (put p dx (.attrs (setL name v l)))) : LZ C p (.ref x) name v K
inductive LL (l : List V) (p : P) (Q : V → P → Prop) : Prop
  | frozen (q : Q (.lst l) p) : LL l p Q
  | made (q : ∀ a, p a = none → Q (.ref a) (put p a (.list l))) : LL l p Q

structure SQ (i j : Str) (A : Prop) : Prop where
  oi : pl 0 (.str i) = true
  oj : pl 0 (.str j) = true
  a : A
inductive Wk where
  | e (x : Expr) (Q : V → P → Prop)
  | t (x : Expr) (Kt Kf : P → Prop)
  | s (x : List Stmt) (Q : Fl → Fm → P → Prop)

noncomputable def isB (v : V) (K : Bool → Prop) : Prop := match v with
  | .bool b => K b
  | _ => False
structure ifB (c : Bool) (A B : Prop) : Prop where
  t : c = true → A
  f : c = false → B
noncomputable def optP {α : Type} (o : Option α) (f : α → Prop) (F : Prop) : Prop := match o with
  | some a => f a
  | none => F
noncomputable def isLoc (sc : Scope) (x : Str) : Bool := match sc.names.lookup x with
  | some .local => !(x == ("__debug__" : Str))
  | some .cell => !(x == ("__debug__" : Str))
  | _ => false
noncomputable def glb (sc : Scope) (G : List (Str × Value)) (x : Str) : Option Value := match sc.names.lookup x with
  | some .globalImplicit => G.lookup x
  | _ => none
noncomputable def plainE : Expr → Bool
  | .Starred _ _ => false
  | _ => true
noncomputable def noComp : Expr → Bool
  | .ListComp .. => false
  | .SetComp .. => false
  | .DictComp .. => false
  | _ => true
noncomputable def noSlice : Expr → Bool
  | .Slice .. => false
  | _ => true
noncomputable def plainB : Expr → Bool
  | .Call .. => false
  | _ => true
noncomputable def plainL (es : List Expr) : Bool := es.all plainE
noncomputable def notZip : Expr → Bool
  | .Call f _ _ _ => (match f with
    | .Name x _ => !(x == Str.ofString "zip")
    | _ => true)
  | _ => true
noncomputable def okG (K : Frag) (G : List (Str × Value)) : Bool := G.all fun e => !(e.1 == ("__debug__" : Str)) && match e.2 with
  | .ref f => nsIn K mainGlobals e.1 == some (some (.ref f)) && fnIn K f
  | .builtin i => nsIn K mainGlobals e.1 == some none && bootBuiltins e.1 == some (.builtin i) && !(e.1 == ("__name__" : Str))
  | .type i => nsIn K mainGlobals e.1 == some none && bootBuiltins e.1 == some (.type i) && !(e.1 == ("__name__" : Str))
  | _ => false

section
variable (C : Cfg) (k : Nat) (sc : Scope) (X : P → Prop) (G : List (Str × Value))

noncomputable def cI (F : Int → Int → Prop) (D : Prop) (a b : V) : Prop := match a with
  | .int i => (match b with
    | .int j => F i j
    | _ => D)
  | _ => D
noncomputable def cB (F : Bool → Bool → Prop) (D : Prop) (a b : V) : Prop := match a with
  | .bool i => (match b with
    | .bool j => F i j
    | _ => D)
  | _ => D
noncomputable def cS (F : Str → Str → Prop) (D : Prop) (a b : V) : Prop := match a with
  | .str i => (match b with
    | .str j => F i j
    | _ => D)
  | _ => D
theorem cI_ok {F : Int → Int → Prop} {D : Prop} {R : V → V → Prop} (hF : ∀ i j, F i j → R (.int i) (.int j)) {a b : V} (hD : D → R a b) (h : cI F D a b) : R a b := by
  cases a with
  | int i => cases b with
    | int j => exact hF i j h
    | _ => exact hD h
  | _ => exact hD h
theorem cB_ok {F : Bool → Bool → Prop} {D : Prop} {R : V → V → Prop} (hF : ∀ i j, F i j → R (.bool i) (.bool j)) {a b : V} (hD : D → R a b) (h : cB F D a b) : R a b := by
  cases a with
  | bool i => cases b with
    | bool j => exact hF i j h
    | _ => exact hD h
  | _ => exact hD h
theorem cS_ok {F : Str → Str → Prop} {D : Prop} {R : V → V → Prop} (hF : ∀ i j, F i j → R (.str i) (.str j)) {a b : V} (hD : D → R a b) (h : cS F D a b) : R a b := by
  cases a with
  | str i => cases b with
    | str j => exact hF i j h
    | _ => exact hD h
  | _ => exact hD h
noncomputable def opB (p : P) (Q : V → P → Prop) (op : Operator) (a b : V) : Prop := match op with
  | .Add => cI (fun i j => Q (.int (i + j)) p) (cB (fun i j => Q (.int (b2i i + b2i j)) p) (LB C k .Add a b p Q) a b) a b
  | .Sub => cI (fun i j => Q (.int (i - j)) p) (LB C k .Sub a b p Q) a b
  | op => LB C k op a b p Q
noncomputable def opC (p : P) (Q : V → P → Prop) (op : CmpOp) (a b : V) : Prop := match op with
  | .Lt => cI (fun i j => Q (.bool (decide (i < j))) p) (LQ C k .Lt a b p Q) a b
  | .LtE => cI (fun i j => Q (.bool (decide (i ≤ j))) p) (LQ C k .LtE a b p Q) a b
  | .Gt => cI (fun i j => Q (.bool (decide (j < i))) p) (LQ C k .Gt a b p Q) a b
  | .GtE => cI (fun i j => Q (.bool (decide (j ≤ i))) p) (LQ C k .GtE a b p Q) a b
  | .Eq => cI (fun i j => Q (.bool (i == j)) p) (cB (fun i j => Q (.bool (i == j)) p) (cS (fun i j => SQ i j (Q (.bool (i == j)) p)) (LQ C k .Eq a b p Q) a b) a b) a b
  | .NotEq => cI (fun i j => Q (.bool (!(i == j))) p) (cS (fun i j => SQ i j (Q (.bool (!(i == j))) p)) (LQ C k .NotEq a b p Q) a b) a b
  | op => LQ C k op a b p Q
noncomputable def opU (p : P) (Q : V → P → Prop) (op : UnaryOp) (a : V) : Prop := match op with
  | .USub => (match a with
    | .int i => Q (.int (-i)) p
    | a => LU C k .USub a p Q)
  | .Not => (match a with
    | .bool b => Q (.bool (!b)) p
    | a => LU C k .Not a p Q)
  | op => LU C k op a p Q
noncomputable def nth : List V → Nat → Option V
  | [], _ => none
  | v :: _, 0 => some v
  | _ :: r, n + 1 => nth r n
noncomputable def gI (p : P) (Q : V → P → Prop) (o i : V) : Prop := match o with
  | .tup l => (match i with
    | .int x => (match x with
      | .ofNat n => (match nth l n with
        | some v => if Nat.blt n 1000 = true then Q v p else LG C k (.tup l) (.int (.ofNat n)) p Q
        | none => LG C k (.tup l) (.int (.ofNat n)) p Q)
      | x => LG C k (.tup l) (.int x) p Q)
    | i => LG C k (.tup l) i p Q)
  | o => LG C k o i p Q

noncomputable def eL (w : Fm → P → Wk → Prop) (fr : Fm) : P → List Expr → (List V → P → Prop) → Prop
  | p, [], Q => Q [] p
  | p, e :: r, Q => if plainE e = true then w fr p (.e e fun v p₁ => eL w fr p₁ r fun vs p₂ => Q (v :: vs) p₂) else False
noncomputable def andL (w : Fm → P → Wk → Prop) (fr : Fm) (Q : V → P → Prop) : P → List Expr → Prop
  | p, [] => False
  | p, e :: r => match r with
    | [] => w fr p (.e e Q)
    | _ :: _ => w fr p (.e e fun v p₁ => isB v fun c => ifB c (andL w fr Q p₁ r) (Q (.bool false) p₁))
noncomputable def orL (w : Fm → P → Wk → Prop) (fr : Fm) (Q : V → P → Prop) : P → List Expr → Prop
  | p, [] => False
  | p, e :: r => match r with
    | [] => w fr p (.e e Q)
    | _ :: _ => w fr p (.e e fun v p₁ => isB v fun c => ifB c (Q (.bool true) p₁) (orL w fr Q p₁ r))
noncomputable def andT (w : Fm → P → Wk → Prop) (fr : Fm) (Kt Kf : P → Prop) : P → List Expr → Prop
  | p, [] => Kt p
  | p, e :: r => w fr p (.t e (fun p₁ => andT w fr Kt Kf p₁ r) Kf)
noncomputable def orT (w : Fm → P → Wk → Prop) (fr : Fm) (Kt Kf : P → Prop) : P → List Expr → Prop
  | p, [] => Kf p
  | p, e :: r => w fr p (.t e Kt (fun p₁ => orT w fr Kt Kf p₁ r))

noncomputable def stepCmp (w : Fm → P → Wk → Prop) (fr : Fm) (p : P) (Q : V → P → Prop) (F : Prop) (l : Expr) : List CmpOp → List Expr → Prop
  | [op], [r] => if behindInMarks op r = false then w fr p (.e l fun a p₁ => w fr p₁ (.e r fun b p₂ => opC C k p₂ Q op a b)) else F
  | _, _ => F
noncomputable def stepCall (w : Fm → P → Wk → Prop) (fr : Fm) (p : P) (Q : V → P → Prop) (F : Prop) (pos : Pos) (f : Expr) (es : List Expr) (kw : List Keyword) : Prop := match f with
  | .Attribute o nm apos => (match es, kw with
    | a :: r, [] => if (plainL (a :: r) && plainB o && decide ((a :: r).length < 10) && apos.endLine == pos.line) = true then w fr p (.e o fun ov p₁ => LM C p₁ ov nm fun f => eL w fr p₁ (a :: r) fun vs p₂ => LC C k f (ov :: vs) p₂ Q X) else F
    | _, _ => F)
  | .Name x _ => (match es, kw with
    | a :: r, [] => optP (glb sc G x) (fun f => if (plainL r && notZip a) = true then eL w fr p (a :: r) fun vs p₁ => LC C k f vs p₁ Q X else F) F
    | _, _ => F)
  | _ => F
noncomputable def stepE (w : Fm → P → Wk → Prop) (fr : Fm) (p : P) (Q : V → P → Prop) (e : Expr) : Prop := match e with
  | .Constant c kk pos => (match c with
    | .int i => Q (.int i) p
    | .str s => Q (.str s) p
    | .bool b => Q (.bool b) p
    | .none => Q .none p
    | c => LE C k sc fr p (.Constant c kk pos) Q X)
  | .Name x pos => if isLoc sc x = true then optP (fr.lookup x) (fun v => Q v p) (LE C k sc fr p (.Name x pos) Q X) else LE C k sc fr p (.Name x pos) Q X
  | .BinOp l op r _ => w fr p (.e l fun a p₁ => w fr p₁ (.e r fun b p₂ => opB C k p₂ Q op a b))
  | .UnaryOp op o _ => w fr p (.e o fun a p₁ => opU C k p₁ Q op a)
  | .Compare l ops rs pos => stepCmp C k w fr p Q (LE C k sc fr p (.Compare l ops rs pos) Q X) l ops rs
  | .BoolOp op es _ => (match op with
    | .And => andL w fr Q p es
    | .Or => orL w fr Q p es)
  | .IfExp t a b _ => w fr p (.t t (fun p₁ => w fr p₁ (.e a Q)) fun p₁ => w fr p₁ (.e b Q))
  | .Tuple es kk pos => if Nat.ble es.length 1000 = true then eL w fr p es fun vs p₁ => Q (.tup vs) p₁ else LE C k sc fr p (.Tuple es kk pos) Q X
  | .List es pos => if Nat.ble es.length 1000 = true then eL w fr p es fun vs p₁ => LL vs p₁ Q else LE C k sc fr p (.List es pos) Q X
  | .Subscript o i pos => if noSlice i = true then w fr p (.e o fun a p₁ => w fr p₁ (.e i fun b p₂ => gI C k p₂ Q a b)) else LE C k sc fr p (.Subscript o i pos) Q X
  | .Attribute o nm pos => if plainB o = true then w fr p (.e o fun ov p₁ => LA C p₁ ov nm fun u => Q u p₁) else LE C k sc fr p (.Attribute o nm pos) Q X
  | .Call f es kw pos => stepCall C k sc X G w fr p Q (LE C k sc fr p (.Call f es kw pos) Q X) pos f es kw
  | e => LE C k sc fr p e Q X
noncomputable def two (Kt Kf : P → Prop) (c : Bool) (p : P) : Prop := (c = true → Kt p) ∧ (c = false → Kf p)
noncomputable def stepT (w : Fm → P → Wk → Prop) (fr : Fm) (p : P) (Kt Kf : P → Prop) (e : Expr) : Prop := match e with
  | .Compare l ops rs pos => stepCmp C k w fr p (fun v p₃ => isB v fun c => ifB c (Kt p₃) (Kf p₃)) (LT C k sc fr p (.Compare l ops rs pos) (two Kt Kf) X) l ops rs
  | .UnaryOp op o pos => (match op with
    | .Not => w fr p (.t o Kf Kt)
    | op => LT C k sc fr p (.UnaryOp op o pos) (two Kt Kf) X)
  | .BoolOp op es _ => (match op with
    | .And => andT w fr Kt Kf p es
    | .Or => orT w fr Kt Kf p es)
  | .Name x pos => w fr p (.e (.Name x pos) fun v p₁ => isB v fun c => ifB c (Kt p₁) (Kf p₁))
  | .Call f es kw pos => w fr p (.e (.Call f es kw pos) fun v p₁ => isB v fun c => ifB c (Kt p₁) (Kf p₁))
  | .Constant c kk pos => (match c with
    | .bool true => Kt p
    | c => LT C k sc fr p (.Constant c kk pos) (two Kt Kf) X)
  | e => LT C k sc fr p e (two Kt Kf) X
noncomputable def stepAs (w : Fm → P → Wk → Prop) (fr : Fm) (p : P) (Q : Fl → Fm → P → Prop) (F : Prop) (e : Expr) (t : Expr) : Prop := match t with
  | .Attribute o nm _ => if noComp e = true then w fr p (.e e fun v p₁ => w fr p₁ (.e o fun ov p₂ => LZ C p₂ ov nm v fun p₃ => Q .next fr p₃)) else F
  | .Name x _ => if (isLoc sc x && noComp e) = true then w fr p (.e e fun v p₁ => Q .next (setL x v fr) p₁) else F
  | .Subscript o i _ => if noComp e = true then w fr p (.e e fun v p₁ => w fr p₁ (.e o fun ov p₂ => w fr p₂ (.e i fun iv p₃ => LS C k ov iv v p₃ fun p₄ => Q .next fr p₄))) else F
  | _ => F
noncomputable def step1 (w : Fm → P → Wk → Prop) (fr : Fm) (p : P) (Q : Fl → Fm → P → Prop) (st : Stmt) : Prop := match st with
  | .Return o _ => (match o with
    | some e => w fr p (.e e fun v p₁ => Q (.ret v) fr p₁)
    | none => Q (.ret .none) fr p)
  | .If t a b _ => w fr p (.t t (fun p₁ => w fr p₁ (.s a Q)) fun p₁ => w fr p₁ (.s b Q))
  | .Break _ => Q .brk fr p
  | .Assign ts e pos => (match ts with
    | [t] => stepAs C k sc w fr p Q (L1 C k sc fr p (.Assign [t] e pos) Q X) e t
    | ts => L1 C k sc fr p (.Assign ts e pos) Q X)
  | .Expr e pos => if noComp e = true then w fr p (.e e fun v p₁ => v = .none ∧ Q .next fr p₁) else L1 C k sc fr p (.Expr e pos) Q X
  | st => L1 C k sc fr p st Q X
noncomputable def loopy : Stmt → Bool
  | .For .. => true
  | .While .. => true
  | _ => false
noncomputable def stepS (w : Fm → P → Wk → Prop) (Q : Fl → Fm → P → Prop) : Fm → P → List Stmt → Prop
  | fr, p, [] => Q .next fr p
  | fr, p, st :: r => if loopy st = true then L1 C k sc fr p st (fun fl fr₁ p₁ => match fl with
    | .next => TS C k sc fr₁ p₁ r Q X
    | fl => Q fl fr₁ p₁) X else step1 C k sc X w fr p (fun fl fr₁ p₁ => match fl with
    | .next => stepS w Q fr₁ p₁ r
    | fl => Q fl fr₁ p₁) st

noncomputable def Wa : Nat → Fm → P → Wk → Prop
  | 0, fr, p, .e x Q => LE C k sc fr p x Q X
  | 0, fr, p, .t x Kt Kf => LT C k sc fr p x (two Kt Kf) X
  | 0, fr, p, .s x Q => TS C k sc fr p x Q X
  | n + 1, fr, p, .e x Q => stepE C k sc X G (Wa n) fr p Q x
  | n + 1, fr, p, .t x Kt Kf => stepT C k sc X (Wa n) fr p Kt Kf x
  | n + 1, fr, p, .s x Q => stepS C k sc X (Wa n) Q fr p x
end

noncomputable def So (C : Cfg) (k : Nat) (sc : Scope) (X : P → Prop) (fr : Fm) (p : P) : Wk → Prop
  | .e x Q => TE C k sc fr p x Q X
  | .t x Kt Kf => TT C k sc fr p x (two Kt Kf) X
  | .s x Q => TS C k sc fr p x Q X

section
variable {C : Cfg} {k : Nat} {sc : Scope} {X : P → Prop} {G : List (Str × Value)}
theorem opB_ok {p : P} {Q : V → P → Prop} {op : Operator} {a b : V} (h : opB C k p Q op a b) : OpB C k op a b p Q := by
  cases op with
  | Add => exact cI_ok (R := fun a b => OpB C k .Add a b p Q) (fun i j h => OpB_add h) (cB_ok (R := fun a b => OpB C k .Add a b p Q) (fun i j h => OpB_addB h) LB.h) h
  | Sub => exact cI_ok (R := fun a b => OpB C k .Sub a b p Q) (fun i j h => OpB_sub h) LB.h h
  | _ => exact h.h
theorem opC_ok {p : P} {Q : V → P → Prop} {op : CmpOp} {a b : V} (h : opC C k p Q op a b) : OpC C k op a b p Q := by
  cases op with
  | Lt => exact cI_ok (R := fun a b => OpC C k .Lt a b p Q) (fun i j h => OpC_lt h) LQ.h h
  | LtE => exact cI_ok (R := fun a b => OpC C k .LtE a b p Q) (fun i j h => OpC_le h) LQ.h h
  | Gt => exact cI_ok (R := fun a b => OpC C k .Gt a b p Q) (fun i j h => OpC_gt h) LQ.h h
  | GtE => exact cI_ok (R := fun a b => OpC C k .GtE a b p Q) (fun i j h => OpC_ge h) LQ.h h
  | Eq => exact cI_ok (R := fun a b => OpC C k .Eq a b p Q) (fun i j h => OpC_eq (hn := by decide) 0 0 rfl rfl h) (cB_ok (R := fun a b => OpC C k .Eq a b p Q) (fun i j h => OpC_eq (hn := by decide) 0 0 rfl rfl h) (cS_ok (R := fun a b => OpC C k .Eq a b p Q) (fun i j h => OpC_eq (hn := by decide) 0 0 h.oi h.oj h.a) LQ.h)) h
  | NotEq => exact cI_ok (R := fun a b => OpC C k .NotEq a b p Q) (fun i j h => OpC_ne (hn := by decide) 0 0 rfl rfl h) (cS_ok (R := fun a b => OpC C k .NotEq a b p Q) (fun i j h => OpC_ne (hn := by decide) 0 0 h.oi h.oj h.a) LQ.h) h
  | _ => exact h.h
theorem opU_ok {p : P} {Q : V → P → Prop} {op : UnaryOp} {a : V} (h : opU C k p Q op a) : OpU C k op a p Q := by
  cases op with
  | USub => cases a with
    | int i => exact OpU_neg h
    | _ => exact h.h
  | Not => cases a with
    | bool b => exact OpU_not h
    | _ => exact h.h
  | _ => exact h.h
theorem nth_eq : ∀ (l : List V) (n : Nat), nth l n = l[n]?
  | [], _ => rfl
  | v :: r, 0 => rfl
  | v :: r, n + 1 => nth_eq r n
theorem gI_ok {p : P} {Q : V → P → Prop} {a b : V} (h : gI C k p Q a b) : GetI C k a b p Q := by
  cases a with
  | tup l => cases b with
    | int x => cases x with
      | ofNat n =>
        have h : (match nth l n with | some v => if Nat.blt n 1000 = true then Q v p else LG C k (.tup l) (.int (.ofNat n)) p Q | none => LG C k (.tup l) (.int (.ofNat n)) p Q) := h
        cases e : nth l n with
        | none => rw [e] at h; exact h.h
        | some v =>
          rw [e] at h
          by_cases hb : Nat.blt n 1000 = true
          · have h1 : n < 1000 := by simpa using hb
            rw [nth_eq] at e
            have hl : n < l.length := (List.getElem?_eq_some_iff.mp e).1
            have e0 : Int.ofNat n = (n : Int) := rfl
            refine GetI_tup (j := n) ?_ e (by simpa only [hb, if_true] using h) (by lia -matchEqs) (by lia -matchEqs)
            show seqIndex? (n : Int) l.length = some n
            unfold seqIndex?
            rw [if_neg (Int.not_lt.mpr (Int.natCast_nonneg n))]; simp [hl]
          · simp only [hb] at h; exact h.h
      | negSucc n => exact h.h
    | _ => exact h.h
  | _ => exact h.h
theorem plain_star {e : Expr} {r : List Expr} (h : plainE e = true) (env : Env) : starEach (e :: r) env = (false, eval e env) :: starEach r env := by
  cases e <;> first | rfl | cases h
theorem ite_or {c : Prop} [Decidable c] {A B R : Prop} (h : if c then A else B) (ha : c → A → R) (hb : B → R) : R := by
  by_cases e : c
  · rw [if_pos e] at h; exact ha e h
  · rw [if_neg e] at h; exact hb h
theorem eL_ok {w : Fm → P → Wk → Prop} {fr : Fm} (hw : ∀ fr p x, w fr p x → So C k sc X fr p x) : ∀ {es : List Expr} {p : P} {Q : List V → P → Prop}, eL w fr p es Q → TAs C k sc fr p es Q X
  | [], p, Q, h => TAs_nil h
  | e :: r, p, Q, h => by
    exact ite_or h (fun he h => TAs_cons (TE_post (hw _ _ _ h) fun v p₁ h₁ => eL_ok hw h₁) (plain_star he)) False.elim
theorem ifB_t {c : Bool} {A B : Prop} (h : ifB c A B) : (c = true → A) ∧ (c = false → B) := ⟨h.t, h.f⟩
theorem if_t {c : Bool} {A B : Prop} (e : c = true) (h : A) : ifB c A B := ⟨fun ζ => h, fun z => by rw [e] at z; cases z⟩
theorem if_f {c : Bool} {A B : Prop} (e : c = false) (h : B) : ifB c A B := ⟨fun z => (by rw [e] at z; cases z), fun ζ => h⟩
theorem plainL_ok (pos : Pos) (env : Env) : ∀ {es : List Expr}, plainL es = true → (backTo pos (starEach es env)).any (·.1) = false
  | [], h => rfl
  | e :: r, h => by
    simp only [plainL, List.all_cons, Bool.and_eq_true] at h
    rw [plain_star h.1]
    exact plainL_ok pos env h.2
theorem TAs_post {fr : Fm} {p : P} {es : List Expr} {Q Q' : List V → P → Prop} (g : TAs C k sc fr p es Q X) (h : ∀ vs p, Q vs p → Q' vs p) : TAs C k sc fr p es Q' X := fun env A F s pos he R I f =>
  wpAny_mono (g env A F s pos he R I f) (fun ζ ζ z => z.imp h) fun ζ ζ z => z
theorem eL_len {w : Fm → P → Wk → Prop} {fr : Fm} (hw : ∀ fr p x, w fr p x → So C k sc X fr p x) : ∀ {es : List Expr} {p : P} {Q : List V → P → Prop}, eL w fr p es Q → TAs C k sc fr p es (fun vs p₁ => vs.length = es.length ∧ Q vs p₁) X
  | [], p, Q, h => TAs_nil ⟨rfl, h⟩
  | e :: r, p, Q, h => by
    exact ite_or h (fun he h => TAs_cons (TE_post (hw _ _ _ h) fun v p₁ h₁ => TAs_post (eL_len hw h₁) fun vs p₂ h₂ => ⟨congrArg (· + 1) h₂.1, h₂.2⟩) (plain_star he)) False.elim
theorem isB_ok {v : V} {K : Bool → Prop} (h : isB v K) : ∃ c, v = .bool c ∧ K c := by
  cases v with
  | bool c => exact ⟨_, rfl, h⟩
  | _ => exact False.elim h
theorem isLoc_ok {x : Str} (h : isLoc sc x = true) : (sc.names.lookup x = some .local ∨ sc.names.lookup x = some .cell) ∧ (x == ("__debug__" : Str)) = false := by
  unfold isLoc at h
  cases e : sc.names.lookup x with
  | none => rw [e] at h; cases h
  | some kd => rw [e] at h; cases kd <;> first | exact ⟨.inl rfl, (Bool.not_eq_true' _).mp h⟩ | exact ⟨.inr rfl, (Bool.not_eq_true' _).mp h⟩ | exact nomatch h
theorem TT_post {fr : Fm} {p : P} {e : Expr} {Q Q' : Bool → P → Prop} (g : TT C k sc fr p e Q X) (h : ∀ v p, Q v p → Q' v p) : TT C k sc fr p e Q' X := fun env A F s he R I f =>
  wpAny_mono (g env A F s he R I f) (fun ζ ζ z => z.imp h) fun ζ ζ z => z
theorem T1_post {fr : Fm} {p : P} {st : Stmt} {Q Q' : Fl → Fm → P → Prop} (g : T1 C k sc fr p st Q X) (h : ∀ fl fr p, Q fl fr p → Q' fl fr p) : T1 C k sc fr p st Q' X := fun env A F s he R I f =>
  wpAny_mono (g env A F s he R I f) (fun ζ ζ z => z.imp h) fun ζ ζ z => z
theorem andL_ok {w : Fm → P → Wk → Prop} {fr : Fm} (hw : ∀ fr p x, w fr p x → So C k sc X fr p x) {Q : V → P → Prop} {pos : Pos} : ∀ {es : List Expr} {p : P}, andL w fr Q p es → TE C k sc fr p (.BoolOp .And es pos) Q X
  | [], p, h => h.elim
  | [e], p, h => T_And1 (hw _ _ _ h)
  | e :: e₂ :: r, p, h => T_And (TE_post (hw _ _ _ h) fun v p₁ h₁ => by
    obtain ⟨c, hc, h2⟩ := isB_ok h₁
    have h4 := ifB_t h2
    exact ⟨c, hc, fun z => andL_ok hw (h4.1 z), h4.2⟩)
theorem orL_ok {w : Fm → P → Wk → Prop} {fr : Fm} (hw : ∀ fr p x, w fr p x → So C k sc X fr p x) {Q : V → P → Prop} {pos : Pos} : ∀ {es : List Expr} {p : P}, orL w fr Q p es → TE C k sc fr p (.BoolOp .Or es pos) Q X
  | [], p, h => h.elim
  | [e], p, h => T_Or1 (hw _ _ _ h)
  | e :: e₂ :: r, p, h => T_Or (TE_post (hw _ _ _ h) fun v p₁ h₁ => by
    obtain ⟨c, hc, h2⟩ := isB_ok h₁
    have h4 := ifB_t h2
    exact ⟨c, hc, fun z => orL_ok hw (h4.2 z), h4.1⟩)
theorem andT_ok {w : Fm → P → Wk → Prop} {fr : Fm} (hw : ∀ fr p x, w fr p x → So C k sc X fr p x) {Kt Kf : P → Prop} {pos : Pos} : ∀ {es : List Expr} {p : P}, andT w fr Kt Kf p es → TT C k sc fr p (.BoolOp .And es pos) (two Kt Kf) X
  | [], p, h => TT_AndN ⟨fun ζ => h, fun z => by cases z⟩
  | e :: r, p, h => TT_And (TT_post (hw _ _ _ h) fun c p₁ h₁ => ⟨fun z => andT_ok hw (h₁.1 z), fun z => ⟨fun y => (by cases y), fun ζ => h₁.2 z⟩⟩)
theorem orT_ok {w : Fm → P → Wk → Prop} {fr : Fm} (hw : ∀ fr p x, w fr p x → So C k sc X fr p x) {Kt Kf : P → Prop} {pos : Pos} : ∀ {es : List Expr} {p : P}, orT w fr Kt Kf p es → TT C k sc fr p (.BoolOp .Or es pos) (two Kt Kf) X
  | [], p, h => TT_OrN ⟨fun z => (by cases z), fun ζ => h⟩
  | e :: r, p, h => TT_Or (TT_post (hw _ _ _ h) fun c p₁ h₁ => ⟨fun z => orT_ok hw (h₁.2 z), fun z => ⟨fun ζ => h₁.1 z, fun y => (by cases y)⟩⟩)
theorem noComp_ok {e : Expr} (h : noComp e = true) (t : Option Expr) (n : Nat) (env : Env) : swapsWith e t n env = pure false := by
  cases e <;> first | rfl | cases h
theorem noSlice_ok {i : Expr} (h : noSlice i = true) (o x : Value) : ∃ ops, subscripted i false o x = operate ops (getItem o x) := by
  cases i <;> first | exact ⟨_, rfl⟩ | cases h
theorem lookup_mem {α : Type} {x : Str} {v : α} : ∀ {l : List (Str × α)}, l.lookup x = some v → (x, v) ∈ l
  | (y, u) :: r, h => by
    rw [List.lookup_cons] at h
    by_cases e : x = y
    · subst e; simp at h; simp [h]
    · have : (x == y) = false := beq_eq_false_iff_ne.mpr e
      rw [this] at h
      exact List.mem_cons_of_mem _ (lookup_mem h)
theorem glb_inv {sc : Scope} {G : List (Str × Value)} {x : Str} {f : Value} (hf : glb sc G x = some f) : sc.names.lookup x = some .globalImplicit ∧ G.lookup x = some f := by
  unfold glb at hf
  cases e : sc.names.lookup x with
  | none => rw [e] at hf; cases hf
  | some kd => rw [e] at hf; cases kd <;> first | exact ⟨rfl, hf⟩ | exact nomatch hf
theorem glb_ok (hG : okG C.K G = true) {fr : Fm} {p : P} {x : Str} {np pos : Pos} {e : Expr} {es : List Expr} {f : Value} {Q : V → P → Prop} (hf : glb sc G x = some f) (h : TAs C k sc fr p (e :: es) (fun vs p₁ => TC C k f vs p₁ Q X) X)
    (he : ∀ env, starEach (e :: es) env = (false, eval e env) :: starEach es env) (hpl : ∀ env, (backTo pos (starEach es env)).any (·.1) = false) : TE C k sc fr p (.Call (.Name x np) (e :: es) [] pos) Q X := by
  obtain ⟨hk, hf⟩ := glb_inv hf
  · have := List.all_eq_true.mp hG _ (lookup_mem hf)
    simp only [Bool.and_eq_true, Bool.not_eq_true'] at this
    obtain ⟨hd, this⟩ := this
    cases f with
    | ref f =>
      simp only [Bool.and_eq_true, beq_iff_eq] at this
      obtain ⟨h1, h2⟩ := this
      unfold fnIn at h2
      split at h2
      · rename_i ho
        exact T_CallF hk h1 ho h he hd
      · cases h2
    | builtin i =>
      simp only [Bool.and_eq_true, beq_iff_eq, Bool.not_eq_true', beq_eq_false_iff_ne] at this
      exact T_CallB hk this.1.1 this.1.2 (.b i) h he hpl this.2 hd
    | type i =>
      simp only [Bool.and_eq_true, beq_iff_eq, Bool.not_eq_true', beq_eq_false_iff_ne] at this
      exact T_CallB hk this.1.1 this.1.2 (.t i) h he hpl this.2 hd
    | _ => cases this

theorem LL_ok {fr : Fm} {p : P} {es : List Expr} {pos : Pos} {Q : V → P → Prop} (h : TAs C k sc fr p es (fun vs p₁ => vs.length ≤ 1000 ∧ LL vs p₁ Q) X) : TE C k sc fr p (.List es pos) Q X := by
  intro env A F s hs R I f
  refine wpAny_List (wp_then (h env A F s _ hs R I f) (fun vs' s₁ vs p₁ hq I₁ S₁ r m₁ => ⟨by rw [r.length, sizeLine_eq]; have := hq.1; lia -matchEqs, ?_⟩) fun ζ ζ z => z)
  cases hq.2 with
  | frozen q => exact (post_new (Q := Q) (v := .lst vs) I₁ (fun e f => .lst e f (r.push I₁)) rfl q).trans S₁ m₁
  | made q => exact (post_track (Q := Q) (w := .list vs) I₁ ⟨vs', 0, rfl, r.track I₁⟩ q).trans S₁ m₁
theorem opt_or {α : Type} {o : Option α} {f : α → Prop} {F R : Prop} (h : optP o f F) (h1 : ∀ a, o = some a → f a → R) (h2 : F → R) : R := by
  cases o with
  | none => exact h2 h
  | some a => exact h1 a rfl h
theorem stepCmp_ok {w : Fm → P → Wk → Prop} {fr : Fm} {p : P} {Q : V → P → Prop} {F R : Prop} {l : Expr} {ops : List CmpOp} {rs : List Expr} (h : stepCmp C k w fr p Q F l ops rs)
    (h1 : ∀ op r, ops = [op] → rs = [r] → behindInMarks op r = false → w fr p (.e l fun a p₁ => w fr p₁ (.e r fun b p₂ => opC C k p₂ Q op a b)) → R) (h2 : F → R) : R := by
  rcases ops with _ | ⟨op, _ | ⟨_, _⟩⟩
  · exact h2 h
  · rcases rs with _ | ⟨r, _ | ⟨_, _⟩⟩
    · exact h2 h
    · exact ite_or h (h1 op r rfl rfl) h2
    · exact h2 h
  · exact h2 h
theorem plainB_ok {o : Expr} (h : plainB o = true) (nm : Str) (env : Env) : attributeBase o nm env (eval o env) = eval o env := by
  cases o <;> first | rfl | cases h
theorem few_ok {e : Expr} {es : List Expr} {pos : Pos} {env : Env} (h : plainL (e :: es) = true) (hl : (e :: es).length < 10) : ((backTo pos (starEach (e :: es) env)).all (fun x => !x.1) && (backToKw pos (keywordEach [] env)).all (fun x => x.1.isSome) && decide ((e :: es).length + ([] : List Keyword).length + (if ([] : List Keyword).isEmpty then 0 else 1) < 30)) = true := by
  have h1 := plainL_ok pos env h
  have h2 : (backTo pos (starEach (e :: es) env)).all (fun x => !x.1) = true := by
    rw [List.all_eq_true]
    intro x hx
    rw [List.any_eq_false] at h1
    have := h1 x hx
    simpa using this
  rw [h2]
  simp only [Bool.true_and, Bool.and_eq_true, decide_eq_true_eq]
  refine ⟨rfl, ?_⟩
  simp only [List.length_nil, List.isEmpty_nil, if_true] at *
  lia -matchEqs
theorem method_ok {fr : Fm} {p : P} {Q : V → P → Prop} {o e : Expr} {es : List Expr} {nm : Str} {apos pos : Pos} (hp : plainL (e :: es) = true) (hb : plainB o = true) (hl : (e :: es).length < 10) (hline : (apos.endLine == pos.line) = true)
    (h : TE C k sc fr p o (fun ov p₁ => LM C p₁ ov nm fun f => TAs C k sc fr p₁ (e :: es) (fun vs p₂ => TC C k f (ov :: vs) p₂ Q X) X) X) : TE C k sc fr p (.Call (.Attribute o nm apos) (e :: es) [] pos) Q X := by
  intro env A F s hs R I f
  have hp2 := Bool.and_eq_true_iff.mp (show (plainE e && plainL es) = true from hp)
  rw [arm_eval_Call, plainB_ok hb]
  refine wpAny_bind (wp_then (h env A F s hs R I f) (fun o' s₁ ov p₁ hm I₁ S₁ r₁ m₁ => ?_) fun ζ ζ z => z)
  refine wpAny_bind (wpAny_standAt ?_)
  have a₁ := At.step ⟨R, I, f⟩ S₁ I₁
  have hform : methodCallForm ((e :: es).length + ([] : List Keyword).length) (backTo pos (starEach (e :: es) env)) (backToKw pos (keywordEach [] env)) = true := few_ok hp hl
  have hpos : methodCallPos true o env apos pos = pure pos := by unfold methodCallPos; simp [hline]
  have he := plain_star (r := es) hp2.1 env
  have hpl := plainL_ok pos env hp2.2
  unfold methodCall
  rw [hform]
  refine wpAny_bind (wpAny_holding ?_)
  cases hm with
  | @own x Cl g l _ _ i hk hn q =>
    cases r₁
    obtain ⟨dx, es', n, _, _, _, rF, ia⟩ := inst_at I₁ i
    have g1 := vrf_none rF hn
    unfold methOk at hk
    simp only [Bool.and_eq_true, beq_iff_eq] at hk
    obtain ⟨⟨⟨k1, k2⟩, k3⟩, k4⟩ := hk
    have X₁ := C.X.keeps I₁.keep
    refine method_fn X₁ ia (plainGet_of k1).1 (plainGet_of k1).2 k2 (beq_iff_eq.mp k3) (by show (lookIn nm (dictOf es' n)).map _ = _; rw [lookIn_dict, g1]; rfl) ?_
    refine wpAny_bind (wpAny_of_eq hpos ?_)
    refine callWith_K X₁ k4 (wp_then (q env A F s₁ pos hs a₁.room I₁ a₁.frm) (fun vs' s₂ vs p₂ q₂ I₂ S₂ r₂ m₂ => ⟨C.X.keeps I₂.keep, ?_⟩) fun ζ ζ z => z.trans S₁ m₁) he hpl
    have a₂ := a₁.step S₂ I₂
    exact wpAny_mono (q₂ A F s₂ (.ref x :: vs') a₂.room I₂ (.cons (.ref x) r₂)) (fun ζ ζ z => (z.trans S₂ m₂).trans S₁ m₁) fun ζ ζ z => (z.trans S₂ m₂).trans S₁ m₁
  | blt pa sl ty hT q =>
    obtain ⟨t1, t2⟩ := hT F s₁ o' I₁ r₁
    refine getMethod_builtin t1 pa sl ty t2 ?_
    refine wpAny_bind (wpAny_of_eq hpos ?_)
    have h1 := q env A F s₁ pos hs a₁.room I₁ a₁.frm
    have h2 : wpAny (model C.prog C.w) A (spliced (backTo pos (starEach (e :: es) env))) (fun vs' s₂ => wpAny (model C.prog C.w) A (call (.builtin _) ([o'] ++ vs')) (Post C F p s Q) (PostX C NO F p s X) s₂) (PostX C NO F p s X) s₁ :=
      wp_then h1 (fun vs' s₂ vs p₂ q₂ I₂ S₂ r₂ m₂ => by
        have a₂ := a₁.step S₂ I₂
        exact wpAny_mono (q₂ A F s₂ (o' :: vs') a₂.room I₂ (.cons (r₁.step S₂ fun ζ z => z.elim) r₂)) (fun ζ ζ z => (z.trans S₂ m₂).trans S₁ m₁) fun ζ ζ z => (z.trans S₂ m₂).trans S₁ m₁) fun ζ ζ z => z.trans S₁ m₁
    rw [he] at h2 ⊢
    exact Calls.callWith_builtin (by show (false || (backTo pos (starEach es env)).any (·.1)) = false; rw [hpl]; rfl) (evalArgs_plain h2)
theorem stepCall_ok {w : Fm → P → Wk → Prop} (hG : okG C.K G = true) (hw : ∀ fr p x, w fr p x → So C k sc X fr p x) {fr : Fm} {p : P} {Q : V → P → Prop} {f : Expr} {es : List Expr} {kw : List Keyword} {pos : Pos}
    (h : stepCall C k sc X G w fr p Q (LE C k sc fr p (.Call f es kw pos) Q X) pos f es kw) : TE C k sc fr p (.Call f es kw pos) Q X := by
  cases f with
  | Name x np =>
    rcases es with _ | ⟨a, r⟩
    · exact LE.h h
    · rcases kw with _ | ⟨_, _⟩
      · refine opt_or (o := glb sc G x) h (fun f hf h => ?_) LE.h
        refine ite_or h (fun hp h => ?_) LE.h
        replace hp := (Bool.and_eq_true_iff.mp hp).1
        have h1 := eL_ok hw h
        refine ite_or h (fun ha h => ?_) False.elim
        refine glb_ok hG hf ?_ (plain_star ha) (fun env => plainL_ok _ env hp)
        exact fun env A F s pos he R I f => wpAny_mono (h1 env A F s pos he R I f) (fun ζ ζ z => z.imp fun ζ ζ q => q.h) fun ζ ζ z => z
      · exact LE.h h
  | Attribute o nm apos =>
    rcases es with _ | ⟨a, r⟩
    · exact LE.h h
    · rcases kw with _ | ⟨_, _⟩
      · refine ite_or h (fun hp h => ?_) LE.h
        rw [Bool.and_eq_true, Bool.and_eq_true, Bool.and_eq_true, decide_eq_true_eq] at hp
        refine method_ok hp.1.1.1 hp.1.1.2 hp.1.2 hp.2 (TE_post (hw _ _ _ h) fun ov p₁ h₁ => ?_)
        have conv : ∀ f, eL w fr p₁ (a :: r) (fun vs p₂ => LC C k f (ov :: vs) p₂ Q X) → TAs C k sc fr p₁ (a :: r) (fun vs p₂ => TC C k f (ov :: vs) p₂ Q X) X := fun f h =>
          fun env A F s pos he R I f' => wpAny_mono (eL_ok hw h env A F s pos he R I f') (fun ζ ζ z => z.imp fun ζ ζ q => q.h) fun ζ ζ z => z
        cases h₁ with
        | own i h e q => exact .own i h e (conv _ q)
        | blt pa sl ty hT q => exact .blt pa sl ty hT (conv _ q)
      · exact LE.h h
  | _ => exact LE.h h
theorem stepE_ok {w : Fm → P → Wk → Prop} (hG : okG C.K G = true) (hw : ∀ fr p x, w fr p x → So C k sc X fr p x) {fr : Fm} {p : P} {Q : V → P → Prop} {e : Expr} (h : stepE C k sc X G w fr p Q e) : TE C k sc fr p e Q X := by
  cases e with
  | Constant c kk pos =>
    cases c with
    | int => exact T_int h
    | str => exact T_str h
    | bool => exact T_bool h
    | none => exact T_none h
    | _ => exact LE.h h
  | Name x pos =>
    refine ite_or h (fun hl h => ?_) LE.h
    obtain ⟨h1, h2⟩ := isLoc_ok hl
    exact opt_or (o := fr.lookup x) h (fun v e h => T_Name e h1 h h2) LE.h
  | BinOp => exact T_BinOp (TE_post (hw _ _ _ h) fun a p₁ h₁ => TE_post (hw _ _ _ h₁) fun b p₂ h₂ => opB_ok h₂)
  | UnaryOp => exact T_UnaryOp (TE_post (hw _ _ _ h) fun a p₁ h₁ => opU_ok h₁)
  | Compare =>
    refine stepCmp_ok h (fun op r e1 e2 hm h' => ?_) LE.h
    subst e1 e2
    exact T_Compare (TE_post (hw _ _ _ h') fun a p₁ h₁ => TE_post (hw _ _ _ h₁) fun b p₂ h₂ => opC_ok h₂) hm
  | BoolOp op =>
    cases op with
    | And => exact andL_ok hw h
    | Or => exact orL_ok hw h
  | IfExp => exact T_IfExp (TT_post (hw _ _ _ h) fun c p₁ h₁ => ⟨fun z => hw _ _ _ (h₁.1 z), fun z => hw _ _ _ (h₁.2 z)⟩)
  | Tuple =>
    refine ite_or h (fun hl h => ?_) LE.h
    exact T_Tuple (TAs_post (eL_len hw h) fun vs p₁ h₁ => ⟨by have := Nat.le_of_ble_eq_true hl; lia -matchEqs, h₁.2⟩)
  | List =>
    refine ite_or h (fun hl h => ?_) LE.h
    exact LL_ok (TAs_post (eL_len hw h) fun vs p₁ h₁ => ⟨by have := Nat.le_of_ble_eq_true hl; lia -matchEqs, h₁.2⟩)
  | Subscript =>
    refine ite_or h (fun hs h => ?_) LE.h
    exact T_Sub (TE_post (hw _ _ _ h) fun a p₁ h₁ => TE_post (hw _ _ _ h₁) fun b p₂ h₂ => gI_ok h₂) (noSlice_ok hs)
  | Attribute o nm pos =>
    refine ite_or h (fun hb h => ?_) LE.h
    refine T_Attr (TE_post (hw _ _ _ h) fun ov p₁ h₁ => ?_) fun env => by rw [arm_eval_Attribute, plainB_ok hb]
    cases h₁ with
    | mk i h e q => exact ⟨_, _, _, _, rfl, i, h, e, q⟩
  | Call => exact stepCall_ok hG hw h
  | _ => exact LE.h h
theorem isB_two {v : V} {p : P} {Kt Kf : P → Prop} (h : isB v fun c => ifB c (Kt p) (Kf p)) : ∃ c, v = .bool c ∧ two Kt Kf c p := let ⟨c, e, h⟩ := isB_ok h; ⟨c, e, h.t, h.f⟩
theorem stepT_ok {w : Fm → P → Wk → Prop} (hw : ∀ fr p x, w fr p x → So C k sc X fr p x) {fr : Fm} {p : P} {Kt Kf : P → Prop} {e : Expr} (h : stepT C k sc X w fr p Kt Kf e) : TT C k sc fr p e (two Kt Kf) X := by
  cases e with
  | Compare =>
    refine stepCmp_ok h (fun op r e1 e2 hm h' => ?_) LT.h
    subst e1 e2
    exact TT_Compare (TE_post (hw _ _ _ h') fun a p₁ h₁ => TE_post (hw _ _ _ h₁) fun b p₂ h₂ => fun A F s a' b' R I r1 r2 => wpAny_mono (opC_ok h₂ A F s a' b' R I r1 r2) (fun ζ ζ z => z.imp fun ζ ζ q => isB_two q) fun ζ ζ z => z) hm
  | UnaryOp op =>
    cases op with
    | Not => exact TT_Not (TT_post (hw _ _ _ h) fun c p₁ h₁ => ⟨fun z => h₁.2 (by cases c <;> simp_all), fun z => h₁.1 (by cases c <;> simp_all)⟩)
    | _ => exact LT.h h
  | BoolOp op =>
    cases op with
    | And => exact andT_ok hw h
    | Or => exact orT_ok hw h
  | Name => exact TT_val (he := by intro _ _; rfl) (TE_post (hw _ _ _ h) fun v p₁ h₁ => isB_two h₁)
  | Call f es kw pos => exact TT_val (TE_post (hw _ _ _ h) fun v p₁ h₁ => isB_two h₁) (by intro _ _; cases f <;> rfl)
  | Constant c =>
    cases c with
    | bool b =>
      cases b with
      | true => exact TT_val (he := by intro _ _; rfl) (T_bool ⟨_, rfl, fun ζ => h, fun z => by cases z⟩)
      | false => exact LT.h h
    | _ => exact LT.h h
  | _ => exact LT.h h
theorem step1_ok {w : Fm → P → Wk → Prop} (hw : ∀ fr p x, w fr p x → So C k sc X fr p x) {fr : Fm} {p : P} {Q : Fl → Fm → P → Prop} {st : Stmt} (h : step1 C k sc X w fr p Q st) : T1 C k sc fr p st Q X := by
  cases st with
  | Return o =>
    cases o with
    | some e => exact T1_Return (hw _ _ _ h)
    | none => exact T1_ReturnN h
  | If => exact T1_If (TT_post (hw _ _ _ h) fun c p₁ h₁ => ⟨fun z => hw _ _ _ (h₁.1 z), fun z => hw _ _ _ (h₁.2 z)⟩)
  | Break => exact T1_Break h
  | Assign ts e pos =>
    rcases ts with _ | ⟨t, _ | ⟨_, _⟩⟩
    · exact L1.h h
    · cases t with
      | Name x np =>
        refine ite_or h (fun hc h => ?_) L1.h
        obtain ⟨h1, h2⟩ := Bool.and_eq_true_iff.mp hc
        exact T1_Assign_Name (isLoc_ok h1).1 (TE_post (hw _ _ _ h) fun v p₁ q => ⟨_, rfl, q⟩) fun env => noComp_ok h2 _ _ env
      | Attribute =>
        refine ite_or h (fun hc h => ?_) L1.h
        refine T1_Assign_Attr (TE_post (hw _ _ _ h) fun v p₁ h₁ => TE_post (hw _ _ _ h₁) fun ov p₂ h₂ => ?_) fun env => noComp_ok hc _ _ env
        cases h₂ with
        | mk e1 e2 h hl q => exact ⟨_, _, _, _, rfl, e1, e2, h, hl, q⟩
      | Subscript =>
        refine ite_or h (fun hc h => ?_) L1.h
        exact T1_Assign_Sub (TE_post (hw _ _ _ h) fun v p₁ h₁ => TE_post (hw _ _ _ h₁) fun ov p₂ h₂ => TE_post (hw _ _ _ h₂) fun iv p₃ h₃ => h₃.h) fun env => noComp_ok hc _ _ env
      | _ => exact L1.h h
    · exact L1.h h
  | Expr =>
    refine ite_or h (fun hc h => ?_) L1.h
    exact T1_Expr (hw _ _ _ h) fun env => noComp_ok hc _ _ env
  | _ => exact L1.h h
theorem stepS_ok {w : Fm → P → Wk → Prop} (hw : ∀ fr p x, w fr p x → So C k sc X fr p x) {Q : Fl → Fm → P → Prop} : ∀ {st : List Stmt} {fr : Fm} {p : P}, stepS C k sc X w Q fr p st → TS C k sc fr p st Q X
  | [], fr, p, h => TS_nil h
  | st :: r, fr, p, h => by
    refine ite_or h (fun ζ h => TS_cons h.h) fun h => TS_cons (T1_post (step1_ok hw h) fun fl fr₁ p₁ h₁ => ?_)
    cases fl with
    | next => exact stepS_ok hw h₁
    | _ => exact h₁
theorem Wa_ok (hG : okG C.K G = true) : ∀ (n : Nat) (fr : Fm) (p : P) (x : Wk), Wa C k sc X G n fr p x → So C k sc X fr p x
  | 0, fr, p, .e x Q, h => h.h
  | 0, fr, p, .t x _ _, h => h.h
  | 0, fr, p, .s x Q, h => h
  | n + 1, fr, p, .e x Q, h => stepE_ok hG (Wa_ok hG n) h
  | n + 1, fr, p, .t x _ _, h => stepT_ok (Wa_ok hG n) h
  | n + 1, fr, p, .s x Q, h => stepS_ok (Wa_ok hG n) h
end
end Tl
end

section
open PySem PySem.W PySem.Calls PyProof.Rows
set_option linter.unusedVariables false
set_option maxRecDepth 100000
set_option maxHeartbeats 3200000
namespace Tl
section
variable {C : Cfg} {k : Nat} {sc : Scope} {fr : Fm} {p : P} {X : P → Prop}
theorem Inv.allocG {F : FS} {h h' : Heap} {D : Addr} (I : Inv C F p h) (hD : h.objs.size ≤ D) (hk : ∀ b o, h.get? b = some o → h'.get? b = some o) {c : Obj} {o : O} (hc : h'.get? D = some c) (H : OR C h' F (put p D o) c o) : Inv C F (put p D o) h' ∧ Step NO p h (put p D o) h' := by
  have hlt : ∀ b x, h.get? b = some x → b ≠ D := fun b x e => Nat.ne_of_lt (Nat.lt_of_lt_of_le (Heap.lt_size e) hD)
  have S : Step NO p h (put p D o) h' := fun b x e q ζ => ⟨.of (hk b x e), by rw [put_ne _ _ (hlt b x e)]; exact q⟩
  refine ⟨⟨fun b x e => ?_, fun b x e => ?_, fun a f => ?_⟩, S⟩
  · obtain ⟨e1, f1, q1⟩ := I.base b x e
    exact ⟨hk b x e1, f1, by rw [put_ne _ _ (hlt b x e1)]; exact q1⟩
  · by_cases hb : b = D
    · subst hb
      rw [put_self] at e; cases e
      refine ⟨fun f => ?_, beq_eq_false_iff_ne.mpr (Nat.ne_of_gt (Nat.lt_of_lt_of_le (modules_low (nolimit I)) hD)), c, hc, H⟩
      obtain ⟨x, e⟩ := I.ex b f
      exact hlt b x e rfl
    · rw [put_ne _ _ hb] at e
      obtain ⟨f, m, c', e1, r⟩ := I.trk b x e
      exact ⟨f, m, c', hk b c' e1, r.step S fun ζ z => z.elim⟩
  · obtain ⟨x, e⟩ := I.ex a f; exact ⟨x, hk a x e⟩
theorem first_len {ns : List Int} (hn : ns.Nodup) : ∀ i, i ≤ ns.length → (firstMet (fun i => ns.getD i 0) i).length = i
  | 0, _ => by rw [firstMet_zero]; rfl
  | i + 1, h => by
    have ih := first_len hn i (by lia -matchEqs)
    rw [firstMet_succ, step_length, if_neg, ih]
    rw [firstMet_any, List.any_eq_true]
    rintro ⟨x, hx, e⟩
    obtain ⟨j, hj, rfl⟩ := List.mem_map.mp hx
    have hj := List.mem_range.mp hj
    have e := beq_iff_eq.mp e
    rw [List.getD_eq_getElem?_getD, List.getD_eq_getElem?_getD, List.getElem?_eq_getElem (by lia -matchEqs), List.getElem?_eq_getElem (by lia -matchEqs)] at e
    have := (List.getElem_inj hn).mp e
    lia -matchEqs
theorem set_init_tup {prog : Program} {w : World} {A : Around} {E : Value → Shared → Prop} {s : Shared} {t D : Addr} {led : Bool} {vs : List Value} {ns : List Int} {Q : PySem.Fin → Shared → Prop} (hh : A.handled = none) (ht : s.heap.IsTuple t vs.toArray) (hD : s.heap.get? D = some { cls := .type "set", dict := none, data := .set #[] 0 (.fresh 0 0 led) })
    (hi : IntsAre vs ns) (hb : vs.length + 1 < scanBound) (hne : t ≠ D)
    (h : ∀ (h' : Heap) (tk : Nat), h'.SetOf (intKind prog w) D (fun k' => (firstMet (fun i => ns.getD i 0) vs.length).any (· == k')) (firstMet (fun i => ns.getD i 0) vs.length).length → (∀ b o, b ≠ D → s.heap.get? b = some o → h'.get? b = some o) → Q (.done (.ret .none)) { s with heap := h', toks := tk }) :
    wpAny (model prog w) A (Builtin.«set.__init__» ⟨[.ref D, .ref t], []⟩) Q (fun ζ ζ => False) s := by
  obtain ⟨ol, hol, hcl, nl, hdl⟩ := id ht
  obtain ⟨ocls, odict, odata, oslots⟩ := ol
  simp only at hcl hdl
  subst hcl; subst hdl
  unfold Builtin.«set.__init__» noKeywords Builtin.Frozenset.updateFrom
  have hsls : isSubtype (.type "tuple") (.type "set") = pure false := by rw [isSubtype_type]; kernel_rfl
  have hslf : isSubtype (.type "tuple") (.type "frozenset") = pure false := by rw [isSubtype_type]; kernel_rfl
  have hnd : (Value.type "tuple" == Value.type "dict") = false := by decide
  generalize hPI : pyIter = PI
  wp_walk
  subst hPI
  refine wpAny_pyIter_tuple ht ?_
  refine wpAny_bind (wpAny_runValue ?_)
  have hDl : D < s.heap.objs.size := Heap.lt_size hD
  have htl : t < s.heap.objs.size := Heap.lt_size hol
  have hval : ∀ (i : Nat) (v : Value), vs.toArray[i]? = some v → ∃ t, v = .int ((fun i => ns.getD i 0) i) t := fun i v hv => IntsAre.int_at hi i v (by simpa using hv)
  refine codeAny_set_update_loopS ((Walks.tuple (by simp [hh]) _ t (Nat.ne_of_lt htl) vs.toArray).toS) D (by simp; exact ⟨Nat.ne_of_lt hDl, hne.symm⟩) (fun i => ns.getD i 0) hval (by simpa using hb) (vs.toArray.size - 0) 0 _ (by lia -matchEqs) (Nat.zero_le _)
    ⟨⟨_, Heap.get?_push_size _ rfl, rfl, rfl⟩, ht.push _⟩ ?hS0 ?hR
  case hS0 => exact SetOf_congr ((setObjOf_fresh (knd := intKind prog w) led).setOf (Heap.get?_push_of_some _ hD) (by unfold scanBound; lia -matchEqs)) (fun ζ => rfl) rfl
  case hR =>
    intro s' hm hS'
    obtain ⟨h', g', d', tk', os'⟩ := s'
    have eg : g' = s.gens := hm.gens
    have ed : d' = s.drawn := hm.drawn
    have eo : os' = s.os := hm.os
    subst eg ed eo
    refine wpAny_pure ?_
    show wpAny _ _ (ret Value.none) _ _ _
    refine wpAny_pure (h h' tk' (by simpa using hS') fun b o hbD e => ?_)
    refine hm.heap b o ?_ (Heap.get?_push_of_some _ e)
    simp; exact ⟨hbD, Nat.ne_of_lt (Heap.lt_size e)⟩
end
end Tl
end

section
open PySem PySem.W PySem.Calls PyProof.Rows
set_option linter.unusedVariables false
set_option maxRecDepth 100000
set_option maxHeartbeats 3200000
namespace Tl
section
variable {C : Cfg} {k : Nat} {sc : Scope} {fr : Fm} {p : P} {X : P → Prop}
theorem call_set_tup {prog : Program} {w : World} {A : Around} {E : Value → Shared → Prop} {s : Shared} {t : Addr} {vs : List Value} {ns : List Int} {Q : Value → Shared → Prop} (hh : A.handled = none) (ht : s.heap.IsTuple t vs.toArray)
    (hi : IntsAre vs ns) (hb : vs.length + 1 < scanBound)
    (h : ∀ (h' : Heap) (tk : Nat), h'.SetOf (intKind prog w) s.heap.objs.size (fun k' => (firstMet (fun i => ns.getD i 0) vs.length).any (· == k')) (firstMet (fun i => ns.getD i 0) vs.length).length → (∀ b o, s.heap.get? b = some o → h'.get? b = some o) → Q (.ref s.heap.objs.size) { s with heap := h', toks := tk }) :
    wpAny (model prog w) A (call (.type "set") [.ref t]) Q E s := by
  have hmro := PySem.F.called_set.mro
  obtain ⟨c, tl, hmro⟩ := hmro
  have hmade := PySem.F.called_set.made
  have hsub := PySem.F.called_set.sub
  have h1 := PySem.F.called_set.notType
  have h2 := PySem.F.called_set.canCreate
  have hct := PySem.F.typeCall_set_1 (.ref t)
  refine wpAny_call (codeAny_of_tree ?_)
  show wpAny _ _ (callAny (.type "set") _) _ _ _
  refine wpAny_pure ⟨Code.quiet_builtin _ (by decide +kernel), codeAny_builtin PySem.F.entry_type_call ?_⟩
  rw [Around.under_plain (weight_type_call_type "set" [.ref t] []) rfl]
  repeat (any_goals (first | assumption | wp_step))
  refine codeAny_mono (code_set_new_1 (.ref t) (E := E) (Q₁ := fun obj s₁ => ∃ led : Bool, obj = .ref s.heap.objs.size ∧ s₁ = { s with heap := s.heap.push { cls := .type "set", dict := none, data := .set #[] 0 (.fresh 0 0 led) } }) fun led => ⟨led, rfl, rfl⟩) fun r s₁ hr => ?_
  cases r with
  | error e => exact hr
  | ok fl =>
  by_cases hfl : ∃ obj, fl = .ret obj
  rotate_left
  · cases fl with
    | ret obj => exact absurd ⟨obj, rfl⟩ hfl
    | _ => exact hr.elim
  obtain ⟨obj, rfl⟩ := hfl
  obtain ⟨led, rfl, rfl⟩ := hr
  have hS : (s.heap.push { cls := .type "set", dict := none, data := .set #[] 0 (.fresh 0 0 led) }).get? s.heap.objs.size = some { cls := .type "set", dict := none, data := .set #[] 0 (.fresh 0 0 led) } := Heap.get?_push_size _ rfl
  have hT : Shared.TypeIs { s with heap := s.heap.push { cls := .type "set", dict := none, data := .set #[] 0 (.fresh 0 0 led) } } (.ref s.heap.objs.size) "set" := ⟨_, hS, rfl⟩
  have hli := PySem.F.called_set.init.lookup
  have hbi := PySem.F.called_set.init.bind (.ref s.heap.objs.size)
  repeat (any_goals (first | assumption | wp_step))
  obtain ⟨o, ho, _⟩ := id ht
  have htl : t < s.heap.objs.size := Heap.lt_size ho
  refine codeAny_mono (codeAny_call_builtin (R := wants (fun r s₂ => r = .none ∧ X2 fun h' tk => A3 (s₂ = { s with heap := h', toks := tk }) (h'.SetOf (intKind prog w) s.heap.objs.size (fun k' => (firstMet (fun i => ns.getD i 0) vs.length).any (· == k')) (firstMet (fun i => ns.getD i 0) vs.length).length) (∀ b o, s.heap.get? b = some o → h'.get? b = some o)) E) PySem.F.called_set.init.plain PySem.F.entry_set_init (PySem.check_set_init_1 hT ?_)) fun r₂ s₂ hr₂ => ?_
  · refine wpAny_mono (set_init_tup (prog := prog) (w := w) (E := E) (led := led) (Q := fun r s₂ => r = .done (.ret .none) ∧ X2 fun h' tk => A3 (s₂ = { s with heap := h', toks := tk }) (h'.SetOf (intKind prog w) s.heap.objs.size (fun k' => (firstMet (fun i => ns.getD i 0) vs.length).any (· == k')) (firstMet (fun i => ns.getD i 0) vs.length).length) (∀ b o, s.heap.get? b = some o → h'.get? b = some o)) (by simp [hh]) (ht.push _) hS hi hb (Nat.ne_of_lt htl) fun h' tk a b => ?_) ?_ ?_
    · exact ⟨rfl, h', tk, rfl, a, fun x o e => b x o (Nat.ne_of_lt (Heap.lt_size e)) (Heap.get?_push_of_some _ e)⟩
    · rintro r s₂ ⟨rfl, z⟩
      exact ⟨rfl, z⟩
    · exact fun ζ ζ z => z.elim
  · cases r₂ with
    | error e => exact hr₂
    | ok fl =>
      cases fl with
      | ret r =>
        obtain ⟨rfl, h', tk, rfl, a, b⟩ := hr₂
        repeat (any_goals (first | assumption | wp_step))
        exact h _ _ a b
      | _ => exact hr₂.elim
theorem TC_set {ns : List Int} {Q : V → P → Prop} (hn : ns.Nodup) (hl : ns.length ≤ 1000) (q : ∀ a, p a = none → Q (.ref a) (put p a (.set ns.length))) : TC C k (.type "set") [.tup (ns.map .int)] p Q X := by
  intro A F s args' R I r
  obtain ⟨a', rfl, ra⟩ := one_arg r
  replace ra := VR.inv ra; obtain ⟨a, vs, n, rfl, e, f, rl⟩ := ra
  have hi := ints_of rl
  have hvl : vs.length = ns.length := by have := rl.length; simpa using this
  refine call_set_tup R.handled ⟨_, e, rfl, n, rfl⟩ hi (by unfold scanBound; lia -matchEqs) fun h' tk hs hk => ?_
  rw [hvl, first_len hn _ (Nat.le_refl _)] at hs
  obtain ⟨o, ho, hso⟩ := hs.objOf
  obtain ⟨I', S'⟩ := Inv.allocG (o := .set ns.length) I (Nat.le_refl _) hk ho ⟨_, hso⟩
  exact ⟨_, _, q _ I.fresh, I', S', .ref _, Same.mk s h' tk⟩
theorem TC_lenS {a : Addr} {n : Nat} {Q : V → P → Prop} (ha : p a = some (.set n)) (hn : n ≤ 1000) (q : Q (.int n) p) : TC C k (.builtin "len") [.ref a] p Q X := by
  intro A F s args' R I r
  obtain ⟨a', rfl, ra⟩ := one_arg r
  obtain rfl := VR.inv ra
  obtain ⟨_, m, c, hc, S, hex, es, ep, t, hd, _, _, hn', hf⟩ := I.trk a _ ha
  refine call_len_set hc hex hd hf (by lia -matchEqs) ?_
  rw [hn']
  exact post_tok I (.int _ _) q
end
end Tl
end

section
open PySem PySem.W PySem.Calls PyProof.Rows
set_option linter.unusedVariables false
set_option maxRecDepth 100000
set_option maxHeartbeats 3200000
namespace Tl
theorem entry_dict_loop : entryFor table "dict.update.loop" = some Builtin.«dict.update.loop» := entryFor_of_tree (by kernel_rfl)
theorem plain_dict_loop : plainId "dict.update.loop" = true := by decide +kernel
structure Prs (prog : Program) (w : World) (A : Around) (it : Value) (wr : Addr → Prop) (items : List (Int × Value)) (St : Nat → Heap → Prop) : Prop where
  item : ∀ (i : Nat) (s : Shared) (k : Int) (v : Value), items[i]? = some (k, v) → St i s.heap →
    wpAny (model prog w) A (pyNext it) (fun r s' => X3 fun t tk n => A5 (r = some (.ref t)) (s'.heap.get? t = some (tupO [.int k tk, v] n)) (St (i + 1) s'.heap) (∀ b o, ¬ wr b → s.heap.get? b = some o → s'.heap.get? b = some o) (Same s s')) (fun ζ ζ => False) s
  stop : ∀ (i : Nat) (s : Shared), items[i]? = none → St i s.heap → wpAny (model prog w) A (pyNext it) (fun r s' => A3 (r = none) (∀ b o, ¬ wr b → s.heap.get? b = some o → s'.heap.get? b = some o) (Same s s')) (fun ζ ζ => False) s
theorem dict_loop {prog : Program} {w : World} {A : Around} {R : Result → Shared → Prop} (D : Addr) (it : Value) (wr : Addr → Prop) (hD : ¬ wr D) {St : Nat → Heap → Prop} (hfr : ∀ i (h h' : Heap), h.objs.size ≤ h'.objs.size → (∀ b o, b ≠ D → h.get? b = some o → h'.get? b = some o) → St i h → St i h') (items : List (Int × Value)) (W : Prs prog w A.in1 it wr items St) (hl : items.length ≤ 2000) :
    ∀ (n i : Nat) (s : Shared) (tk : Tok), i + n = items.length → St i s.heap → s.heap.DictOf (intKind prog w) D (items.take i) → (items.map (·.1)).Nodup →
    (∀ h' tk, h'.DictOf (intKind prog w) D items → (∀ b o, b ≠ D → ¬ wr b → s.heap.get? b = some o → h'.get? b = some o) → R (.ok (.ret .none)) { s with heap := h', toks := tk }) →
    codeAny (model prog w) A (.builtin "dict.update.loop" ⟨[.ref D, it, .int i tk, .none], []⟩) R s
  | 0, i, s, tk, hi, hS, hd, hn, hR => by
    refine codeAny_builtin entry_dict_loop ?_
    rw [Around.under_plainId plain_dict_loop _]
    show wpAny _ A.in1 (pyNext it >>= _) _ _ s
    refine wpAny_bind (wpAny_mono (W.stop i s (List.getElem?_eq_none (by lia -matchEqs)) hS) (fun r s' hr => ?_) fun ζ ζ z => z.elim)
    obtain ⟨rfl, hk, hm⟩ := hr
    show wpAny _ A.in1 (Builtin.Dict.addKeywords D [] >>= fun ζ => ret .none) _ _ _
    refine wpAny_bind (wpAny_pure ?_)
    rw [List.take_of_length_le (by lia -matchEqs)] at hd
    have hm' : s' = { s with heap := s'.heap, toks := s'.toks } := hm
    rw [hm']
    refine wpAny_pure (hR s'.heap s'.toks ?_ fun b o hb hw e => hk b o hw e)
    obtain ⟨o, ho, hd'⟩ := Heap.dictOf_iff.mp hd
    exact Heap.dictOf_iff.mpr ⟨o, hk D o hD ho, hd'⟩
  | n + 1, i, s, tk, hi, hS, hd, hn, hR => by
    refine codeAny_builtin entry_dict_loop ?_
    rw [Around.under_plainId plain_dict_loop _]
    show wpAny _ A.in1 (pyNext it >>= _) _ _ s
    obtain ⟨⟨k, v⟩, hkv⟩ : ∃ e, items[i]? = some e := ⟨_, List.getElem?_eq_getElem (by lia -matchEqs)⟩
    refine wpAny_bind (wpAny_mono (W.item i s k v hkv hS) (fun r s' hr => ?_) fun ζ ζ z => z.elim)
    obtain ⟨t, tk', m, rfl, ht, hS', hk, hm⟩ := hr
    have hT : s'.TypeIs (.ref t) "tuple" := ⟨_, ht, rfl⟩
    show wpAny _ A.in1 (holding [.ref t] _ >>= _) _ _ _
    refine wpAny_bind (wpAny_holding ?_)
    refine wpAny_bind (wpAny_tryCatch ?_)
    unfold Builtin.Dict.pairItems
    refine wpAny_bind (wpAny_typeOf hT ?_)
    rw [if_pos (by decide)]
    refine wpAny_bind (wpAny_seqItems ht rfl ?_)
    refine wpAny_pure ?_
    show wpAny _ A.in1 (holding [Value.int k tk', v] (dictSet D (.int k tk') v)) _ _ _
    refine wpAny_holding ?_
    have hd1 : s'.heap.DictOf (intKind prog w) D (items.take i) := by
      obtain ⟨o, ho, hd'⟩ := Heap.dictOf_iff.mp hd
      exact Heap.dictOf_iff.mpr ⟨o, hk D o hD ho, hd'⟩
    refine wpAny_dictSet_pairs (intKind_is _ _ _ _) hd1 (fun h' hd' hsb => ?_) (by rw [List.length_take, sizeLine_eq]; lia -matchEqs)
    have htk : stored (items.take i) k v = items.take (i + 1) := by
      rw [List.take_succ, hkv, stored, if_neg]
      · rfl
      · intro hc
        obtain ⟨e, he, hek⟩ := List.any_eq_true.mp hc
        have hek : e.1 = k := by simpa using hek
        obtain ⟨j, hj⟩ := List.getElem?_of_mem he
        have hji : j < i := by have := (List.getElem?_eq_some_iff.mp hj).1; rw [List.length_take] at this; lia -matchEqs
        rw [List.getElem?_take_of_lt hji] at hj
        have e1 : (items.map (·.1))[j]? = some k := by rw [List.getElem?_map, hj]; exact congrArg some hek
        have e2 : (items.map (·.1))[i]? = some k := by rw [List.getElem?_map, hkv]; rfl
        have h1 := (List.getElem?_eq_some_iff.mp e1)
        have h2 := (List.getElem?_eq_some_iff.mp e2)
        have := (List.getElem_inj hn).mp (h1.2.trans h2.2.symm)
        lia -matchEqs
    rw [htk] at hd'
    have hm' : s' = { s with heap := s'.heap, toks := s'.toks } := hm
    refine wpAny_pure ⟨plainId_quiet plain_dict_loop _, ?_⟩
    refine dict_loop D it wr hD hfr items W hl n (i + 1) _ _ (by lia -matchEqs) (hfr (i + 1) s'.heap h' (Nat.le_of_eq hsb.1.symm) (fun b o hb e => (hsb.2 b hb).trans e) hS') hd' hn fun h'' tk'' a b => ?_
    have := hR h'' tk'' a fun b' o hb hw e => b b' o hb hw ((hsb.2 b' hb).trans (hk b' o hw e))
    rw [hm']
    exact this
end Tl
end

section
open PySem PySem.W PySem.Calls PyProof.Rows
set_option linter.unusedVariables false
set_option maxRecDepth 100000
set_option maxHeartbeats 3200000
namespace Tl
theorem keys_list {prog : Program} {w : World} {A : Around} {E : Value → Shared → Prop} {s : Shared} {a : Addr} {xs : Array Value} {k : Nat} {Q : Option Value → Shared → Prop}
    (hx : s.heap.get? a = some (listOf xs k)) (hA : A.handled = none) (h : ∀ h' tk, (∀ b o, s.heap.get? b = some o → h'.get? b = some o) → Q none { s with heap := h', toks := tk }) :
    wpAny (model prog w) A (getAttr? (.ref a) "keys") Q E s := by
  obtain ⟨hp, g, d, tk, os⟩ := s
  have hx : hp.get? a = some { cls := .type "list", dict := none, data := .seq xs k, slots := #[] } := hx
  have hT : ∀ tk', (⟨hp, g, d, tk', os⟩ : Shared).TypeIs (.ref a) "list" := fun ζ => ⟨_, hx, rfl⟩
  have hmiss : typeLookup (.type "list") "keys" = pure none := by rw [typeLookup_type, builtinLookup_eq_fast]; kernel_rfl
  have f1 := sub_AttributeError
  have f3 := F.slot_list_getattribute.lookup
  have f4 := F.slot_list_getattribute.bind (.ref a)
  have f5 := am_list_getattr_none
  unfold getAttr? getAttrBy? getAttrBy
  repeat (any_goals (first | assumption | exact hT _ | ((with_reducible show wpAny _ _ (call (Value.builtin "list.__getattribute__") _ _) _ _ _); refine call_meets F.slot_list_getattribute (hT _) am_entry_list_getattribute (F.args_list_getattribute_2 _ _) (meets_getattribute_miss_list a xs k #[] (Str.ofString "keys") _ hmiss (by decide +kernel) (by decide +kernel)) ⟨hx, hA, fun h' tk' e hx' => ?_⟩) | wp_step))
  obtain ⟨t', u', he⟩ := hx'.there
  have hk := hx'.keeps
  show wpAny _ _ (getattributeRaised _ _ _ _ _ _ _) _ _ _
  unfold getattributeRaised
  repeat (any_goals (first | assumption | wp_step))
  exact h _ _ hk
theorem call_dict_prs {prog : Program} {w : World} {A : Around} {E : Value → Shared → Prop} {s : Shared} {g : Heap} (hg : ∀ b o, g.get? b = some o → s.heap.get? b = some o) {x : Value} {T : String} {items : List (Int × Value)} {Q : Value → Shared → Prop} (hT : ∀ h', (∀ b o, s.heap.get? b = some o → h'.get? b = some o) → ∀ tk, ({ s with heap := h', toks := tk } : Shared).TypeIs x T) (hne : (Value.type T == Value.type "dict") = false)
    (hkeys : ∀ (A' : Around) (Q : Option Value → Shared → Prop) (E : Value → Shared → Prop) (h1 : Heap) (tk1 : Nat), A'.handled = A.handled → (∀ b o, s.heap.get? b = some o → h1.get? b = some o) → (∀ h' tk, (∀ b o, h1.get? b = some o → h'.get? b = some o) → Q none { s with heap := h', toks := tk }) → wpAny (model prog w) A' (getAttr? x "keys") Q E { s with heap := h1, toks := tk1 })
    (hit : ∀ (A' : Around) (h1 : Heap) (tk1 : Nat) (D : Addr), A'.handled = A.handled → (∀ b o, s.heap.get? b = some o → h1.get? b = some o) → s.heap.get? D = none → (∃ o, h1.get? D = some o) → wpAny (model prog w) A' (pyIter x) (fun it s' => X2 fun St wr => A7 (∀ A'' : Around, A''.handled = A.handled → Prs prog w A'' it wr items St) (¬ wr D) (∀ b, wr b → g.get? b = none) (∀ i (h h' : Heap), h.objs.size ≤ h'.objs.size → (∀ b o, b ≠ D → h.get? b = some o → h'.get? b = some o) → St i h → St i h') (St 0 s'.heap) (∀ b o, ¬ wr b → h1.get? b = some o → s'.heap.get? b = some o) (Same { s with heap := h1, toks := tk1 } s')) (fun ζ ζ => False) { s with heap := h1, toks := tk1 })
    (hl : items.length ≤ 2000) (hn : (items.map (·.1)).Nodup)
    (h : ∀ h' tk, h'.DictOf (intKind prog w) s.heap.objs.size items → (∀ b o, g.get? b = some o → h'.get? b = some o) → Q (.ref s.heap.objs.size) { s with heap := h', toks := tk }) :
    wpAny (model prog w) A (call (.type "dict") [x]) Q E s := by
  refine callType_codes (Q₁ := fun obj s₁ => obj = .ref s.heap.objs.size ∧ s₁ = { s with heap := s.heap.push { cls := .type "dict", data := .dict #[] } }) F.kt_called_dict (F.kt_typeCall_dict_1 _) F.entry_dict_init (kt_code_dict_new _ ⟨rfl, rfl⟩) ?_
  rintro obj s₁ ⟨rfl, rfl⟩
  have hnew : (s.heap.push { cls := .type "dict", data := .dict #[] }).DictOf (intKind prog w) s.heap.objs.size [] := Heap.DictOf.new s.heap
  have hk0 : ∀ b o, s.heap.get? b = some o → (s.heap.push { cls := .type "dict", data := .dict #[] }).get? b = some o := fun b o e => Heap.get?_push_of_some _ e
  have hDn : s.heap.get? s.heap.objs.size = none := by
    cases e : s.heap.get? s.heap.objs.size with
    | none => rfl
    | some o => exact absurd (Heap.lt_size e) (Nat.lt_irrefl _)
  refine ⟨hnew.typeIs, F.args_dict_init_2 _ _, ?_⟩
  unfold Builtin.«dict.__init__»
  refine wpAny_bind ?_
  unfold Builtin.Dict.selfAndRest
  refine wpAny_bind (wpAny_notOrdered_dict hnew.typeIs ?_)
  show wpAny _ _ (pure (s.heap.objs.size, [x])) _ _ _
  refine wpAny_pure ?_
  show wpAny _ _ (Builtin.Dict.updateFrom "dict.__init__" s.heap.objs.size x [] .none) _ _ _
  unfold Builtin.Dict.updateFrom
  refine wpAny_bind (wpAny_typeOf (hT _ hk0 s.toks) ?_)
  rw [if_pos (by simp [bne, hne])]
  refine wpAny_bind (hkeys _ _ _ _ s.toks (by simp) hk0 fun h2 tk2 hk2 => ?_)
  rw [if_pos (show (none : Option Value).isNone = true from rfl)]
  refine wpAny_bind (wpAny_rule ?_)
  refine wpAny_bind (wpAny_mono (hit _ h2 tk2 s.heap.objs.size (by simp) (fun b o e => hk2 b o (hk0 b o e)) hDn ⟨_, hk2 _ _ (Heap.get?_push_size _ rfl)⟩) (fun it s3 hs3 => ?_) fun ζ ζ z => z.elim)
  obtain ⟨St, wr, W, hwD, hwn, hfr, hS, hk3, hm⟩ := hs3
  refine wpAny_pure ⟨plainId_quiet plain_dict_loop _, ?_⟩
  have hm' : s3 = { s with heap := s3.heap, toks := s3.toks } := hm
  rw [hm']
  refine dict_loop s.heap.objs.size it wr hwD hfr items (W _ (by simp)) hl items.length 0 _ _ (by lia -matchEqs) hS ?_ hn fun h' tk a b => ?_
  · obtain ⟨o, ho, hd'⟩ := Heap.dictOf_iff.mp hnew
    exact Heap.dictOf_iff.mpr ⟨o, hk3 _ _ hwD (hk2 _ _ ho), hd'⟩
  · refine ⟨rfl, h h' tk a fun b' o e => b b' o (fun z => ?_) (fun z => ?_) (hk3 b' o (fun z => ?_) (hk2 b' o (hk0 b' o (hg b' o e))))⟩
    · have e := hg b' o e; rw [z, hDn] at e; cases e
    · rw [hwn b' z] at e; cases e
    · rw [hwn b' z] at e; cases e
end Tl
end

section
open PySem PySem.W PySem.Calls PyProof.Rows
set_option linter.unusedVariables false
set_option maxRecDepth 100000
namespace Tl
inductive PairsAt (h : Heap) : List Value → List (Int × Value) → Prop
  | nil : PairsAt h [] []
  | cons {t : Addr} {k : Int} {tk : Tok} {v : Value} {n : Nat} {vs : List Value} {items : List (Int × Value)} (e : h.get? t = some (tupO [.int k tk, v] n)) (r : PairsAt h vs items) : PairsAt h (.ref t :: vs) ((k, v) :: items)
theorem PairsAt.keep {h h' : Heap} {vs : List Value} {items : List (Int × Value)} (P : PairsAt h vs items) (hk : ∀ t k tk v n, h.get? t = some (tupO [.int k tk, v] n) → h'.get? t = some (tupO [.int k tk, v] n)) : PairsAt h' vs items := by
  induction P with
  | nil => exact .nil
  | cons e _ ih => exact .cons (hk _ _ _ _ _ e) ih
theorem PairsAt.keepM {h h' : Heap} {vs : List Value} {items : List (Int × Value)} (P : PairsAt h vs items) (hk : ∀ t, Value.ref t ∈ vs → ∀ o, h.get? t = some o → h'.get? t = some o) : PairsAt h' vs items := by
  induction P with
  | nil => exact .nil
  | cons e _ ih => exact .cons (hk _ List.mem_cons_self _ e) (ih fun t ht => hk t (List.mem_cons_of_mem _ ht))
theorem PairsAt.there {h : Heap} {vs : List Value} {items : List (Int × Value)} (P : PairsAt h vs items) {t : Addr} (ht : Value.ref t ∈ vs) : ∃ o, h.get? t = some o := by
  obtain ⟨i, hi⟩ := List.getElem?_of_mem ht
  induction P generalizing i with
  | nil => simp at hi
  | cons e _ ih =>
    cases i with
    | zero => simp at hi; cases hi; exact ⟨_, e⟩
    | succ i => exact ih (List.mem_of_getElem? (by simpa using hi)) i (by simpa using hi)
theorem PairsAt.len {h : Heap} {vs : List Value} {items : List (Int × Value)} (P : PairsAt h vs items) : vs.length = items.length := by
  induction P with
  | nil => rfl
  | cons e _ ih => simp [ih]
theorem PairsAt.get {h : Heap} {vs : List Value} {items : List (Int × Value)} (P : PairsAt h vs items) : ∀ {i : Nat} {v : Value}, vs[i]? = some v → X5 fun t k tk w n => A3 (v = .ref t) (items[i]? = some (k, w)) (h.get? t = some (tupO [.int k tk, w] n)) := by
  induction P with
  | nil => intro i v e; simp at e
  | @cons t k tk w n vs items e _ ih =>
    intro i v ev
    cases i with
    | zero => simp at ev; exact ⟨t, k, tk, w, n, ev.symm, rfl, e⟩
    | succ i => exact ih (by simpa using ev)
section
variable {C : Cfg} {k : Nat} {sc : Scope} {fr : Fm} {p : P} {X : P → Prop}
theorem pairs_of {h : Heap} {F : FS} : ∀ {l : List (Int × V)} {vs : List Value}, VRL h F p vs (l.map fun e => .tup [.int e.1, e.2]) → ∃ items, PairsAt h vs items ∧ KV h F p items l
  | [], vs, r => by cases r; exact ⟨[], .nil, .nil⟩
  | e :: l, vs, r => by
    cases r with
    | cons a r =>
    obtain ⟨items, h1, h2⟩ := pairs_of r
    cases a with
    | tup e1 f1 r1 =>
    cases r1 with
    | cons a1 r1 =>
    cases r1 with
    | cons a2 r2 =>
    cases r2
    cases a1
    exact ⟨_, .cons e1 h1, .cons a2 h2⟩
theorem iter_ne {h : Heap} {I a t : Addr} {i : Nat} {vs : List Value} {n : Nat} (hi : h.IsListIter I a i) (ht : h.get? t = some (tupO vs n)) : t ≠ I := fun z => by
  obtain ⟨o, ho, hc, _⟩ := hi
  rw [z, ho] at ht
  cases ht
  have hc : Value.type "tuple" = .type "list_iterator" := hc
  exact absurd hc (by decide)
noncomputable abbrev LSt (I a : Addr) (vs : List Value) (items : List (Int × Value)) (i : Nat) (h : Heap) : Prop := (h.IsListIter I a i ∧ h.IsList a vs.toArray) ∧ PairsAt h vs items
theorem prs_list {prog : Program} {w : World} {A : Around} {I a : Addr} {vs : List Value} {items : List (Int × Value)} (hh : A.handled = none) (hne : a ≠ I) : Prs prog w A (.ref I) (fun b => b = I) items (LSt I a vs items) where
  item := fun i s k v e ⟨st, P⟩ => by
    have W := Walks.list (prog := prog) (w := w) hh I a hne vs.toArray
    have hil : i < vs.length := by rw [P.len]; exact (List.getElem?_eq_some_iff.mp e).1
    refine W.item i s _ _ (by simpa using hil) st fun x h' tk hx st' hk => ?_
    have hx : vs[i]? = some x := by simpa using hx
    obtain ⟨t, k', tk', w', n, rfl, e', ht⟩ := P.get hx
    rw [e] at e'; cases e'
    have hkI : ∀ b o, ¬ b = I → s.heap.get? b = some o → h'.get? b = some o := fun b o hb => hk b o (by simpa using hb)
    exact ⟨t, tk', n, rfl, hkI _ _ (iter_ne st.1 ht) ht, ⟨st', P.keep fun t k tk v n e => hkI t _ (iter_ne st.1 e) e⟩, hkI, Same.mk s h' tk⟩
  stop := fun i s e ⟨st, P⟩ => by
    have W := Walks.list (prog := prog) (w := w) hh I a hne vs.toArray
    have hil : vs.length ≤ i := by rw [P.len]; exact List.getElem?_eq_none_iff.mp e
    exact wpAny_pyNext_list_end hh st.1 st.2 (by simpa using hil) fun h' hb => ⟨rfl, fun b o hb' e => hb b o hb' e, Same.mk s h' s.toks⟩
theorem TC_dictL {l : List (Int × V)} {Q : V → P → Prop} (hl : l.length ≤ 1000) (hn : (l.map (·.1)).Nodup) (q : ∀ a, p a = none → Q (.ref a) (put p a (.di l))) : TC C k (.type "dict") [.lst (l.map fun e => .tup [.int e.1, e.2])] p Q X := by
  intro A F s args' R I r
  obtain ⟨a', rfl, ra⟩ := one_arg r
  replace ra := VR.inv ra; obtain ⟨a, vs, n, rfl, ea, fa, la⟩ := ra
  obtain ⟨items, P, kv⟩ := pairs_of la
  have hA := R.handled
  refine call_dict_prs (g := s.heap) (fun ζ ζ e => e) (T := "list") (items := items) (fun h' hk tk => ⟨_, hk _ _ ea, rfl⟩) (by decide) (fun A' Q E h1 tk1 hA' hk h => keys_list (hk _ _ ea) (hA'.trans hA) h) (fun A' h1 tk1 D hA' hk hD hD1 => ?_) (by rw [kv.length]; lia -matchEqs) (by rw [kv.keys]; exact hn) fun h' tk hd hk => ?_
  · have hl1 : h1.IsList a vs.toArray := ⟨_, hk _ _ ea, rfl, n, rfl⟩
    refine wpAny_pyIter_list hl1 ?_
    obtain ⟨oD, hoD⟩ := hD1
    have hDI : D ≠ h1.objs.size := Nat.ne_of_lt (Heap.lt_size hoD)
    have haI : a ≠ h1.objs.size := Nat.ne_of_lt (Heap.lt_size (hk _ _ ea))
    have haD : a ≠ D := fun z => by rw [z, hD] at ea; cases ea
    refine ⟨LSt h1.objs.size a vs items, fun b => b = h1.objs.size, fun A'' hA'' => prs_list (hA''.trans hA) haI, hDI, fun b hb => ?_, fun i h h' ζ hf st => ?_, ⟨⟨⟨_, Heap.get?_push_size _ rfl, rfl, rfl⟩, hl1.push _⟩, ?_⟩, fun b o hb e => Heap.get?_push_of_some _ e, Same.mk _ _ tk1⟩
    · cases e : s.heap.get? b with
      | none => rfl
      | some o => exact absurd (Heap.lt_size (hk b o e)) (by rw [hb]; exact Nat.lt_irrefl _)
    · obtain ⟨⟨st1, st2⟩, st3⟩ := st
      refine ⟨⟨st1.at fun o e => hf _ o hDI.symm e, st2.at fun o e => hf _ o haD e⟩, st3.keepM fun t ht o e => hf t o (fun z => ?_) e⟩
      obtain ⟨o', e'⟩ := P.there ht
      rw [z, hD] at e'; cases e'
    · exact P.keep fun t k tk v n e => Heap.get?_push_of_some _ (hk _ _ e)
  · obtain ⟨c, hc, hd'⟩ := Heap.dictOf_iff.mp hd
    have hkv : KV h' F (put p s.heap.objs.size (.di l)) items l := kv.step (ex := NO) (fun b x e q ζ => ⟨.of (hk b x e), by rw [put_ne _ _ (Nat.ne_of_lt (Heap.lt_size e))]; exact q⟩) fun ζ z => z.elim
    obtain ⟨I', S'⟩ := Inv.allocG (o := .di l) I (Nat.le_refl _) hk hc ⟨items, hd', hkv⟩
    exact ⟨_, _, q _ I.fresh, I', S', .ref _, Same.mk s h' tk⟩
end
end Tl
end

section
open PySem PySem.W PySem.Calls PyProof.Rows
set_option linter.unusedVariables false
set_option maxRecDepth 100000
set_option maxHeartbeats 3200000
namespace Tl
theorem zip_ga : Slot "zip" "__getattribute__" "zip.__getattribute__" := .of (owner := "zip") (n := "__getattribute__") (by rw [typeLookup_type, builtinLookup_eq_fast]; kernel_rfl) (by decide +kernel) (by decide +kernel) (by decide +kernel)
  (by first | exact .inl (by decide +kernel) | exact .inr (by decide +kernel)) (by rw [isSubtype_type]; kernel_rfl)
theorem zip_ga_entry : entryFor table "zip.__getattribute__" = some Builtin.«object.__getattribute__» := entryFor_alias (id' := "object.__getattribute__") (by kernel_rfl) (by decide +kernel) (by decide +kernel) (by kernel_rfl)
theorem zip_ga_args (a b : Value) : argsOk "zip.__getattribute__" ⟨[a, b], []⟩ := by unfold argsOk; kernel_rfl
theorem zip_no_getattr : typeLookup (.type "zip") "__getattr__" = pure none := by rw [typeLookup_type, builtinLookup_eq_fast]; kernel_rfl
theorem zip_no_keys : typeLookup (.type "zip") "keys" = pure none := by rw [typeLookup_type, builtinLookup_eq_fast]; kernel_rfl
noncomputable abbrev zipO (f0 : Value) (f1 : Bool) (TI TO : Addr) : Obj := { cls := .type "zip", dict := none, data := .fields #[f0, .bool f1, .bool false, .ref TI, .ref TO], slots := #[] }
theorem zip_ga_miss (z TI TO : Addr) (f0 : Value) (f1 : Bool) (u : Tok) :
    Meets (Builtin.«object.__getattribute__» ⟨[.ref z, .str "keys" u], []⟩) (fun A R s => s.heap.get? z = some (zipO f0 f1 TI TO) ∧ raisesAttr (.ref z) "keys" A R s) :=
  Meets.of_wp fun prog w A R s hs => by
    obtain ⟨hp, g, d, tk, os⟩ := s
    obtain ⟨hx, hs⟩ := hs
    have hT : (⟨hp, g, d, tk, os⟩ : Shared).TypeIs (.ref z) "zip" := ⟨_, hx, rfl⟩
    have hmiss := zip_no_keys
    have hname : (["__module__", "__name__", "__qualname__", "__doc__", "__annotations__"] : List Str).contains "keys" = false := by decide +kernel
    unfold Builtin.«object.__getattribute__»
    repeat (any_goals (first | assumption | wp_step))
    try simp only [hname, Bool.false_eq_true, if_false]
    repeat (any_goals (first | assumption | wp_step))
    exact wpAny_raiseAttrError hs.1 hs.2 (attrMsg_fits (by decide +kernel) (by decide +kernel))
theorem keys_zip {prog : Program} {w : World} {A : Around} {E : Value → Shared → Prop} {s : Shared} {z TI TO : Addr} {f0 : Value} {f1 : Bool} {Q : Option Value → Shared → Prop}
    (hx : s.heap.get? z = some (zipO f0 f1 TI TO)) (hA : A.handled = none) (h : ∀ h' tk, (∀ b o, s.heap.get? b = some o → h'.get? b = some o) → Q none { s with heap := h', toks := tk }) :
    wpAny (model prog w) A (getAttr? (.ref z) "keys") Q E s := by
  obtain ⟨hp, g, d, tk, os⟩ := s
  have hx : hp.get? z = some (zipO f0 f1 TI TO) := hx
  have hT : ∀ tk', (⟨hp, g, d, tk', os⟩ : Shared).TypeIs (.ref z) "zip" := fun ζ => ⟨_, hx, rfl⟩
  have f1' := sub_AttributeError
  have f3 := zip_ga.lookup
  have f4 := zip_ga.bind (.ref z)
  have f5 := zip_no_getattr
  unfold getAttr? getAttrBy? getAttrBy
  repeat (any_goals (first | assumption | exact hT _ | ((with_reducible show wpAny _ _ (call (Value.builtin "zip.__getattribute__") _ _) _ _ _); refine call_meets zip_ga (hT _) zip_ga_entry (zip_ga_args _ _) (zip_ga_miss z TI TO f0 f1 _) ⟨hx, hA, fun h' tk' e hx' => ?_⟩) | wp_step))
  obtain ⟨t', u', he⟩ := hx'.there
  have hk := hx'.keeps
  show wpAny _ _ (getattributeRaised _ _ _ _ _ _ _) _ _ _
  unfold getattributeRaised
  repeat (any_goals (first | assumption | wp_step))
  exact h _ _ hk
end Tl
end

section
open PySem PySem.W PySem.Calls PyProof.Rows
set_option linter.unusedVariables false
set_option maxRecDepth 100000
set_option maxHeartbeats 3200000
namespace Tl
structure ZU (h : Heap) (z TI TO i1 i2 l1 l2 : Addr) (xs ys : Array Value) (k : Nat) (T : Addr) : Prop where
  zz : ∃ f1, h.get? z = some (zipO (rawInt T) f1 TI TO)
  ti : IsPair h TI (.ref i1) (.ref i2)
  it1 : h.IsTupleIter i1 l1 k
  it2 : h.IsTupleIter i2 l2 k
  t1 : h.IsTuple l1 xs
  t2 : h.IsTuple l2 ys
  there : X2 fun a b => IsPair h T a b
  apart : A3 (T ≠ z) (T ≠ i1) (T ≠ i2)
section
variable {prog : Program} {w : World} {A : Around} {E : Value → Shared → Prop} {s : Shared} {z TI TO i1 i2 l1 l2 T : Addr} {xs ys : Array Value} {k : Nat}
theorem wpAny_loadIfAlive {M : Model} {a : Addr} {o : Obj} {Q : Option Obj → Shared → Prop} (ho : s.heap.get? a = some o) (q : Q (some o) s) : wpAny M A (loadIfAlive a) Q E s := fun Γ p ζ => by
  show Sem.wp _ _ (Sem.loadIfAlive a .pure) _ _ _ _
  rw [Sem.wp_loadIfAlive, ho]
  exact q
theorem zip_held {Q : Bool → Shared → Prop} {f1 : Bool} {o : Obj} (hz : s.heap.get? z = some (zipO (rawInt T) f1 TI TO)) (hT : s.heap.get? T = some o)
    (q : ∀ h', h'.get? z = some (zipO (rawInt T) true TI TO) → Heap.SameBut z s.heap h' → Q false { s with heap := h' }) : wpAny (model prog w) A (Builtin.SmallTypes.ownedTupleIsFree (.ref z)) Q E s := by
  unfold Builtin.SmallTypes.ownedTupleIsFree
  refine wpAny_bind (wpAny_field hz rfl (x := rawInt T) rfl ?_)
  show wpAny _ _ (loadIfAlive (T : Int).toNat >>= _) _ _ s
  rw [Int.toNat_natCast]
  refine wpAny_bind (wpAny_loadIfAlive hT ?_)
  show wpAny _ _ (field (.ref z) 1 >>= _) _ _ s
  refine wpAny_bind (wpAny_field hz rfl (x := .bool f1) rfl ?_)
  cases f1 with
  | true => exact wpAny_pure (q s.heap hz (Heap.SameBut.refl z s.heap))
  | false => exact wpAny_bind (wpAny_setField_rec hz (by simp) fun h₁ hz₁ hs₁ => wpAny_pure (q h₁ hz₁ hs₁))
theorem zipU_item {x y : Value} {Q : Option Value → Shared → Prop} (D : ZipApart z TI TO i1 i2 l1 l2) (Z : ZU s.heap z TI TO i1 i2 l1 l2 xs ys k T) (hx : xs[k]? = some x) (hy : ys[k]? = some y)
    (hQ : ∀ h', ZU h' z TI TO i1 i2 l1 l2 xs ys (k + 1) T → IsPair h' s.heap.objs.size x y → (∀ c o, c ≠ z → c ≠ i1 → c ≠ i2 → s.heap.get? c = some o → h'.get? c = some o) → Q (some (.ref s.heap.objs.size)) { s with heap := h' }) :
    wpAny (model prog w) A (pyNext (.ref z)) Q E s := by
  obtain ⟨⟨f1, hz⟩, hTI, h1, h2, hl1, hl2, ⟨a, b, hT₀⟩, n1, n2, n3⟩ := Z
  have hT : s.TypeIs (.ref z) "zip" := ⟨_, hz, rfl⟩
  unfold pyNext
  refine wpAny_bind (wpAny_attempt (wpAny_callSpecial?_slot (name := Str.ofString "__next__") hT PySem.F.slot_zip_next (wpAny_call_entry PySem.F.slot_zip_next hT PySem.F.entry_zip_next ?_ (PySem.F.args_zip_next_1 _))))
  show wpAny _ _ (field (.ref z) 2 >>= _) _ _ _
  refine wpAny_bind (wpAny_field hz rfl (x := .bool false) rfl ?_)
  show wpAny _ _ (field (.ref z) 3 >>= _) _ _ _
  refine wpAny_bind (wpAny_field hz rfl (x := .ref TI) rfl (wpAny_bind (wpAny_seqItems hTI rfl ?_)))
  show wpAny _ _ (Builtin.SmallTypes.ownedTupleIsFree (.ref z) >>= _) _ _ _
  refine wpAny_bind (zip_held hz hT₀ fun h₁ hz₁ hs₁ => ?_)
  rw [if_neg (by decide)]
  refine wpAny_bind ?_
  simp only [List.forIn_toArray, List.forIn_cons, List.forIn_nil]
  refine wpAny_bind (wpAny_bind (wpAny_holding ?_))
  show wpAny _ _ (Builtin.SmallTypes.nextOf (.ref i1) >>= _) _ _ _
  refine wpAny_bind (nextOf_tup (h1.extBut hs₁.extBut D.i1z) (hl1.extBut hs₁.extBut D.l1z) hx fun h₂ h1₂ hs₂ => wpAny_pure ?_)
  refine wpAny_pure ?_
  refine wpAny_bind (wpAny_bind (wpAny_holding ?_))
  show wpAny _ _ (Builtin.SmallTypes.nextOf (.ref i2) >>= _) _ _ _
  refine wpAny_bind (nextOf_tup ((h2.extBut hs₁.extBut D.i2z).extBut hs₂.extBut D.i12.symm) ((hl2.extBut hs₁.extBut D.l2z).extBut hs₂.extBut D.l2i1) hy fun h₃ h2₃ hs₃ => wpAny_pure ?_)
  refine wpAny_pure (wpAny_pure ?_)
  refine wpAny_bind (wpAny_newTuple ?_ (by show 2 ≤ _; rw [sizeLine_eq]; lia -matchEqs))
  refine wpAny_pure ⟨_, rfl, wpAny_pure ?_⟩
  have hsz : h₃.objs.size = s.heap.objs.size := by rw [hs₃.1, hs₂.1, hs₁.1]
  have keep : ∀ c o, c ≠ z → c ≠ i1 → c ≠ i2 → s.heap.get? c = some o → (h₃.push { cls := .type "tuple", data := .seq #[x, y] }).get? c = some o := fun c o c1 c2 c3 e =>
    Heap.get?_push_of_some _ (hs₃.extBut _ _ c3 (hs₂.extBut _ _ c2 (hs₁.extBut _ _ c1 e)))
  show Q (some (.ref h₃.objs.size)) _
  have hp : IsPair (h₃.push { cls := .type "tuple", data := .seq #[x, y] }) s.heap.objs.size x y := hsz ▸ Heap.get?_push_size _ rfl
  rw [hsz]
  refine hQ _ ⟨⟨true, Heap.get?_push_of_some _ (hs₃.extBut _ _ D.i2z.symm (hs₂.extBut _ _ D.i1z.symm hz₁))⟩, keep _ _ D.TIz D.TIi1 D.TIi2 hTI, ((h1₂.extBut hs₃.extBut D.i12).at fun o e => Heap.get?_push_of_some _ e), (h2₃.at fun o e => Heap.get?_push_of_some _ e), hl1.at fun o e => keep _ o D.l1z D.l1i1 D.l1i2 e, hl2.at fun o e => keep _ o D.l2z D.l2i1 D.l2i2 e, ⟨a, b, keep _ _ n1 n2 n3 hT₀⟩, n1, n2, n3⟩ hp keep
theorem zipU_end {Q : Option Value → Shared → Prop} (hh : A.handled = none) (D : ZipApart z TI TO i1 i2 l1 l2) (Z : ZU s.heap z TI TO i1 i2 l1 l2 xs ys k T) (hx : xs[k]? = none)
    (hQ : ∀ h', (∀ c o, c ≠ z → c ≠ i1 → c ≠ i2 → s.heap.get? c = some o → h'.get? c = some o) → Q none { s with heap := h' }) : wpAny (model prog w) A (pyNext (.ref z)) Q E s := by
  obtain ⟨⟨f1, hz⟩, hTI, h1, h2, hl1, hl2, ⟨a, b, hT₀⟩, n1, n2, n3⟩ := Z
  have hT : s.TypeIs (.ref z) "zip" := ⟨_, hz, rfl⟩
  unfold pyNext
  refine wpAny_bind (wpAny_attempt (wpAny_callSpecial?_slot (name := Str.ofString "__next__") hT PySem.F.slot_zip_next (wpAny_call_entry PySem.F.slot_zip_next hT PySem.F.entry_zip_next ?_ (PySem.F.args_zip_next_1 _))))
  show wpAny _ _ (field (.ref z) 2 >>= _) _ _ _
  refine wpAny_bind (wpAny_field hz rfl (x := .bool false) rfl ?_)
  show wpAny _ _ (field (.ref z) 3 >>= _) _ _ _
  refine wpAny_bind (wpAny_field hz rfl (x := .ref TI) rfl (wpAny_bind (wpAny_seqItems hTI rfl ?_)))
  show wpAny _ _ (Builtin.SmallTypes.ownedTupleIsFree (.ref z) >>= _) _ _ _
  refine wpAny_bind (zip_held hz hT₀ fun h₁ hz₁ hs₁ => ?_)
  rw [if_neg (by decide)]
  refine wpAny_bind ?_
  simp only [List.forIn_toArray, List.forIn_cons, List.forIn_nil]
  refine wpAny_bind (wpAny_bind (wpAny_holding ?_))
  show wpAny _ _ (Builtin.SmallTypes.nextOf (.ref i1) >>= _) _ _ _
  refine wpAny_bind (nextOf_tup_end hh (h1.extBut hs₁.extBut D.i1z) (hl1.extBut hs₁.extBut D.l1z) hx fun h₂ e hs₂ ⟨oe, hoe, hce⟩ => ?_)
  exact wpAny_bind (wpAny_isInstance (T := "StopIteration") (b := true) ⟨oe, hoe, hce⟩ isSubtype_stop (wpAny_pure (hQ _ fun c o c1 c2 ζ y => hs₂ _ _ c2 (hs₁.extBut _ _ c1 y))))
noncomputable def ZD (z TI TO i1 i2 l1 l2 D : Addr) (xs ys : Array Value) (k : Nat) (h : Heap) : Prop :=
  (A3 (k = 0) (D < h.objs.size) (ZS h z TI TO i1 i2 l1 l2 xs ys 0 .none)) ∨ ∃ T, D < T ∧ ZU h z TI TO i1 i2 l1 l2 xs ys k T
theorem prs_zip {items : List (Int × Value)} {D₀ : Addr} (hh : A.handled = none) (D : ZipApart z TI TO i1 i2 l1 l2) (hxy : ∀ i : Nat, (∀ (k : Int) (v : Value), items[i]? = some (k, v) → ∃ tk, xs[i]? = some (Value.int k tk) ∧ ys[i]? = some v) ∧ (items[i]? = none → xs[i]? = none)) :
    Prs prog w A (.ref z) (fun b => b = z ∨ b = TO ∨ b = i1 ∨ b = i2) items (ZD z TI TO i1 i2 l1 l2 D₀ xs ys) where
  item := fun i s k v e st => by
    obtain ⟨tk, hx, hy⟩ := (hxy i).1 k v e
    rcases st with ⟨rfl, hd, Z⟩ | ⟨T, hd, Z⟩
    · refine zipT_item D Z hx hy fun h' Z' hp hk => ?_
      have lt : ∀ b o, s.heap.get? b = some o → s.heap.objs.size ≠ b := fun b o e => Nat.ne_of_gt (Heap.lt_size e)
      refine ⟨_, tk, 0, rfl, hp, .inr ⟨s.heap.objs.size, hd, ⟨false, Z'.z⟩, Z'.ti, Z'.it1, Z'.it2, Z'.t1, Z'.t2, ⟨_, _, hp⟩, lt _ _ Z.z, ?_, ?_⟩, fun b o hb e => hk b o (fun z => hb (.inl z)) (fun z => hb (.inr (.inl z))) (fun z => hb (.inr (.inr (.inl z)))) (fun z => hb (.inr (.inr (.inr z)))) e, Same.mk s h' s.toks⟩
      · obtain ⟨o, e, _⟩ := Z.it1; exact lt _ _ e
      · obtain ⟨o, e, _⟩ := Z.it2; exact lt _ _ e
    · refine zipU_item D Z hx hy fun h' Z' hp hk => ⟨_, tk, 0, rfl, hp, .inr ⟨T, hd, Z'⟩, fun b o hb e => hk b o (fun z => hb (.inl z)) (fun z => hb (.inr (.inr (.inl z)))) (fun z => hb (.inr (.inr (.inr z)))) e, Same.mk s h' s.toks⟩
  stop := fun i s e st => by
    have hx := (hxy i).2 e
    rcases st with ⟨rfl, hd, Z⟩ | ⟨T, hd, Z⟩
    · exact zipT_end hh D Z (.inl hx) fun h' hk => ⟨rfl, fun b o hb e => hk b o (fun z => hb (.inl z)) (fun z => hb (.inr (.inl z))) (fun z => hb (.inr (.inr (.inl z)))) (fun z => hb (.inr (.inr (.inr z)))) e, Same.mk s h' s.toks⟩
    · exact zipU_end hh D Z hx fun h' hk => ⟨rfl, fun b o hb e => hk b o (fun z => hb (.inl z)) (fun z => hb (.inr (.inr (.inl z)))) (fun z => hb (.inr (.inr (.inr z)))) e, Same.mk s h' s.toks⟩
end
end Tl
end

section
open PySem PySem.W PySem.Calls PyProof.Rows
set_option linter.unusedVariables false
set_option maxRecDepth 100000
set_option maxHeartbeats 1000000
namespace Tl
section
variable {C : Cfg} {k : Nat} {sc : Scope} {fr : Fm} {p : P} {X : P → Prop}
noncomputable def Zipped (g h : Heap) (z l1 l2 : Addr) (xs ys : Array Value) : Prop := X4 fun TI TO i1 i2 => A9 (ZipApart z TI TO i1 i2 l1 l2) (ZS h z TI TO i1 i2 l1 l2 xs ys 0 .none) (∀ b o, g.get? b = some o → h.get? b = some o) (g.get? z = none) (g.get? TI = none) (g.get? TO = none) (g.get? i1 = none) (g.get? i2 = none) (g.objs.size ≤ h.objs.size)
theorem zipped_new {prog : Program} {w : World} {A : Around} {E : Value → Shared → Prop} {s : Shared} {l1 l2 : Addr} {xs ys : Array Value} {Q : Value → Shared → Prop} (h1 : s.heap.IsTuple l1 xs) (h2 : s.heap.IsTuple l2 ys)
    (q : ∀ h' z, Zipped s.heap h' z l1 l2 xs ys → Q (.ref z) { s with heap := h' }) : wpAny (model prog w) A (call (.type "zip") [.ref l1, .ref l2]) Q E s := by
  refine zipT_call h1 h2 (q _ _ ?_)
  have z1 : (zt1 s.heap l1).objs.size = s.heap.objs.size + 1 := Heap.size_push ..
  have z2 : (zt2 s.heap l1 l2).objs.size = s.heap.objs.size + 2 := by rw [Heap.size_push, z1]
  have z3 : (zt3 s.heap l1 l2).objs.size = s.heap.objs.size + 3 := by rw [Heap.size_push, z2]
  have z4 : (zt4 s.heap l1 l2).objs.size = s.heap.objs.size + 4 := by rw [Heap.size_push, z3]
  have g5 : (zt5 s.heap l1 l2).get? (zt4 s.heap l1 l2).objs.size = some _ := Heap.get?_push_size _ rfl
  have g4 : (zt5 s.heap l1 l2).get? (zt3 s.heap l1 l2).objs.size = some _ := Heap.get?_push_of_some _ (Heap.get?_push_size _ rfl)
  have g3 : (zt5 s.heap l1 l2).get? (zt2 s.heap l1 l2).objs.size = some _ := Heap.get?_push_of_some _ (Heap.get?_push_of_some _ (Heap.get?_push_size _ rfl))
  have g2 : (zt5 s.heap l1 l2).get? (zt1 s.heap l1).objs.size = some _ := Heap.get?_push_of_some _ (Heap.get?_push_of_some _ (Heap.get?_push_of_some _ (Heap.get?_push_size _ rfl)))
  have g1 : (zt5 s.heap l1 l2).get? s.heap.objs.size = some _ := Heap.get?_push_of_some _ (Heap.get?_push_of_some _ (Heap.get?_push_of_some _ (Heap.get?_push_of_some _ (Heap.get?_push_size _ rfl))))
  have keep : ∀ c o, s.heap.get? c = some o → (zt5 s.heap l1 l2).get? c = some o := fun c o x => Heap.get?_push_of_some _ (Heap.get?_push_of_some _ (Heap.get?_push_of_some _ (Heap.get?_push_of_some _ (Heap.get?_push_of_some _ x))))
  have below : ∀ (b : Nat) o, s.heap.get? b = some o → b < s.heap.objs.size := fun b o e => Heap.lt_size e
  have none' : ∀ b : Nat, s.heap.objs.size ≤ b → s.heap.get? b = none := fun b h => Heap.get?_none_of_le h
  obtain ⟨o1, e1, r1⟩ := id h1
  obtain ⟨o2, e2, r2⟩ := id h2
  have b1 := below l1 _ e1
  have b2 := below l2 _ e2
  rw [z4]
  rw [z2, z3, z4] at g5
  rw [z3] at g4
  rw [z1, z2] at g3
  rw [z1] at g2
  refine ⟨s.heap.objs.size + 2, s.heap.objs.size + 3, s.heap.objs.size, s.heap.objs.size + 1, ?_, ⟨g5, g3, ⟨_, _, g4⟩, ⟨_, g1, rfl, rfl⟩, ⟨_, g2, rfl, rfl⟩, ⟨_, keep _ _ e1, r1⟩, ⟨_, keep _ _ e2, r2⟩⟩, keep, none' _ (by lia -matchEqs), none' _ (by lia -matchEqs), none' _ (by lia -matchEqs), none' _ (by lia -matchEqs), none' _ (by lia -matchEqs), by rw [Heap.size_push, z4]; lia -matchEqs⟩
  generalize s.heap.objs.size = n at b1 b2
  have b1 : (l1 : Nat) < n := b1
  have b2 : (l2 : Nat) < n := b2
  constructor <;> (intro e; have e' : (_ : Nat) = (_ : Nat) := e; first | exact absurd e' (Nat.ne_of_lt (by lia -matchEqs)) | exact absurd e' (Nat.ne_of_gt (by lia -matchEqs)))
theorem kv_zip {h : Heap} {F : FS} : ∀ {xs : List Int} {ws : List Value} {row : List V}, VRL h F p ws row → KV h F p (xs.zip ws) (xs.zip row)
  | [], _, _, _ => by simpa using KV.nil
  | _ :: _, _, _, .nil => .nil
  | _ :: _, _, _, .cons a r => .cons a (kv_zip r)
theorem items_of {h : Heap} {F : FS} {xs : List Int} {vs ws : List Value} {row : List V} (r1 : VRL h F p vs (xs.map .int)) (r2 : VRL h F p ws row) (hl : row.length = xs.length) :
    ∃ items : List (Int × Value), A4 (∀ i : Nat, (∀ (k : Int) (v : Value), items[i]? = some (k, v) → ∃ tk, vs.toArray[i]? = some (Value.int k tk) ∧ ws.toArray[i]? = some v) ∧ (items[i]? = none → vs.toArray[i]? = none)) (KV h F p items (xs.zip row)) (items.map (·.1) = xs) (items.length = xs.length) := by
  have h1 := r1.length
  have h2 := r2.length
  rw [List.length_map] at h1
  refine ⟨xs.zip ws, fun i => ⟨fun k v e => ?_, fun e => ?_⟩, kv_zip r2, List.map_fst_zip (by lia -matchEqs), by rw [List.length_zip]; lia -matchEqs⟩
  · obtain ⟨e1, e2⟩ := List.getElem?_zip_eq_some.mp e
    obtain ⟨y, e3, ry⟩ := r1.get (i := i) (x := .int k) (by rw [List.getElem?_map, e1]; rfl)
    replace ry := VR.inv ry; obtain ⟨tk, rfl⟩ := ry
    exact ⟨tk, by simpa using e3, by simpa using e2⟩
  · have := List.getElem?_eq_none_iff.mp e
    rw [List.length_zip] at this
    simp; lia -matchEqs
theorem ZD.keep {z TI TO i1 i2 l1 l2 D : Addr} {xs ys : Array Value} {k : Nat} {h h' : Heap} (Z : ZD z TI TO i1 i2 l1 l2 D xs ys k h) (n : A7 (z ≠ D) (TI ≠ D) (TO ≠ D) (i1 ≠ D) (i2 ≠ D) (l1 ≠ D) (l2 ≠ D)) (hs : h.objs.size ≤ h'.objs.size) (hk : ∀ b o, b ≠ D → h.get? b = some o → h'.get? b = some o) : ZD z TI TO i1 i2 l1 l2 D xs ys k h' := by
  obtain ⟨n1, n2, n3, n4, n5, n6, n7⟩ := n
  rcases Z with ⟨rfl, hd, Z⟩ | ⟨T, hd, ⟨f1, e⟩, a1, a2, a3, a4, a5, ⟨x, y, a6⟩, a7⟩
  · refine .inl ⟨rfl, Nat.lt_of_lt_of_le hd hs, Z.keep fun b o hb => hk b o ?_⟩
    rcases hb with z | z | z | z | z | z | z <;> (rw [z]; assumption)
  · exact .inr ⟨T, hd, ⟨f1, hk _ _ n1 e⟩, hk _ _ n2 a1, a2.at fun o => hk _ o n4, a3.at fun o => hk _ o n5, a4.at fun o => hk _ o n6, a5.at fun o => hk _ o n7, ⟨x, y, hk _ _ (Nat.ne_of_gt hd) a6⟩, a7⟩
theorem T_DictZip {e1 e2 : Expr} {np np2 pos pos2 : Pos} {Q : V → P → Prop} (hk : sc.names.lookup (Str.ofString "zip") = some .globalImplicit) (hg : nsIn C.K mainGlobals (Str.ofString "zip") = some none) (hk2 : sc.names.lookup (Str.ofString "dict") = some .globalImplicit) (hg2 : nsIn C.K mainGlobals (Str.ofString "dict") = some none)
    (h : TAs C k sc fr p [e1, e2] (fun vs p₁ => X2 fun (xs : List Int) (row : List V) => A5 (vs = [.tup (xs.map .int), .tup row]) xs.Nodup (row.length = xs.length) (xs.length ≤ 1000) (∀ a, p₁ a = none → Q (.ref a) (put p₁ a (.di (xs.zip row))))) X)
    (he : ∀ env, starEach [e1, e2] env = (false, eval e1 env) :: starEach [e2] env) (hpl : ∀ env, (backTo pos2 (starEach [e2] env)).any (·.1) = false) :
    TE C k sc fr p (.Call (.Name (Str.ofString "dict") np) [.Call (.Name (Str.ofString "zip") np2) [e1, e2] [] pos2] [] pos) Q X := by
  intro env A F s hs R I f
  refine wpAny_Call_ofName (name_builtin (v' := .type "dict") I f (by unfold Env.kindOf; rw [hs]; exact hk2) hg2 (by rfl) (by decide +kernel) ?_ (by decide +kernel))
  show wpAny _ _ (callWith pos (.type "dict") [] (backTo pos (starEach [.Call (.Name (Str.ofString "zip") np2) [e1, e2] [] pos2] env)) []) _ _ s
  suffices h2 : wpAny (model C.prog C.w) A (spliced (backTo pos (starEach [.Call (.Name (Str.ofString "zip") np2) [e1, e2] [] pos2] env))) (fun vs' s₁ => wpAny (model C.prog C.w) A (call (.type "dict") ([] ++ vs')) (Post C F p s Q) (PostX C NO F p s X) s₁) (PostX C NO F p s X) s by
    have he0 : starEach [.Call (.Name (Str.ofString "zip") np2) [e1, e2] [] pos2] env = (false, eval (.Call (.Name (Str.ofString "zip") np2) [e1, e2] [] pos2) env) :: starEach [] env := rfl
    rw [he0] at h2 ⊢
    exact PySem.callWith_type (by rfl) (evalArgs_plain h2)
  refine wpAny_items_cons ?_ rfl
  refine wpAny_Call_ofName (name_builtin (v' := .type "zip") I f (by unfold Env.kindOf; rw [hs]; exact hk) hg (by rfl) (by decide +kernel) ?_ (by decide +kernel))
  show wpAny _ _ (callWith pos2 (.type "zip") [] (backTo pos2 (starEach [e1, e2] env)) []) _ _ s
  have h1 := h env A F s pos2 hs R I f
  rw [he] at h1 ⊢
  refine PySem.callWith_type (by show (false || (backTo pos2 (starEach [e2] env)).any (·.1)) = false; rw [hpl]; rfl) (evalArgs_plain (wp_then h1 (fun vs' s₁ vs p₁ hq I₁ S₁ r m₁ => ?_) fun ζ ζ z => z))
  obtain ⟨xs, row, rfl, hnd, hlen, hle, q⟩ := hq
  have a₁ := At.step ⟨R, I, f⟩ S₁ I₁
  obtain ⟨v1, v2, rfl, r1, r2⟩ := two_args r
  replace r1 := VR.inv r1; obtain ⟨a1, vs, n1, rfl, g1, f1, r1⟩ := r1
  replace r2 := VR.inv r2; obtain ⟨a2, ws, n2, rfl, g2, f2, r2⟩ := r2
  refine zipped_new (xs := vs.toArray) (ys := ws.toArray) ⟨_, g1, rfl, n1, rfl⟩ ⟨_, g2, rfl, n2, rfl⟩ fun h' z Z => wpAny_items_nil ?_
  obtain ⟨TI, TO, i1, i2, D, Z, kz, y1, y2, y3, y4, y5, y6⟩ := Z
  obtain ⟨items, hxy, kv, hkey, hil⟩ : ∃ items : List (Int × Value), A4 (∀ i : Nat, (∀ (k : Int) (v : Value), items[i]? = some (k, v) → ∃ tk, vs.toArray[i]? = some (Value.int k tk) ∧ ws.toArray[i]? = some v) ∧ (items[i]? = none → vs.toArray[i]? = none)) (KV s₁.heap F p₁ items (xs.zip row)) (items.map (·.1) = xs) (items.length = xs.length) := items_of r1 r2 hlen
  have hA := R.handled
  have alive : ∀ b, s₁.heap.get? b = none → ∀ o, s₁.heap.get? b = some o → False := fun b h o e => by rw [h] at e; cases e
  refine call_dict_prs (g := s₁.heap) kz (T := "zip") (items := items) (fun h'' hk tk => ⟨_, hk _ _ Z.z, rfl⟩) (by decide) (fun A' Q E h1 tk1 hA' hk h => keys_zip (hk _ _ Z.z) (hA'.trans hA) h) (fun A' h1 tk1 D₀ hA' hk hD hD1 => ?_) (by lia -matchEqs) (by rw [hkey]; exact hnd) fun h'' tk hd hk => ?_
  · have ne : ∀ b o, h'.get? b = some o → b ≠ D₀ := fun b o e z => by rw [z, hD] at e; cases e
    have nn : A7 (z ≠ D₀) (TI ≠ D₀) (TO ≠ D₀) (i1 ≠ D₀) (i2 ≠ D₀) (a1 ≠ D₀) (a2 ≠ D₀) := by
      obtain ⟨w1, w2, ⟨_, _, w3⟩, ⟨_, w4, _⟩, ⟨_, w5, _⟩, ⟨_, w6, _⟩, ⟨_, w7, _⟩⟩ := Z
      exact ⟨ne _ _ w1, ne _ _ w2, ne _ _ w3, ne _ _ w4, ne _ _ w5, ne _ _ w6, ne _ _ w7⟩
    obtain ⟨oD, hoD⟩ := hD1
    refine wpAny_pyIter_zip (hk _ _ Z.z) ⟨ZD z TI TO i1 i2 a1 a2 D₀ vs.toArray ws.toArray, _, fun A'' hA'' => prs_zip (hA''.trans hA) D hxy, fun y => ?_, fun b hb => ?_, fun i h h' hs hk st => st.keep nn hs hk, .inl ⟨rfl, Heap.lt_size hoD, Z.keep fun b o ζ e => hk b o e⟩, fun b o ζ e => e, Same.mk _ _ tk1⟩
    · rcases y with y | y | y | y
      · exact nn.1 y.symm
      · exact nn.3 y.symm
      · exact nn.4 y.symm
      · exact nn.5 y.symm
    · rcases hb with rfl | rfl | rfl | rfl <;> assumption
  · obtain ⟨c, hc, hd'⟩ := Heap.dictOf_iff.mp hd
    have hlt : ∀ b o, s₁.heap.get? b = some o → b ≠ h'.objs.size := fun b o e => Nat.ne_of_lt (Heap.lt_size (kz b o e))
    have hpn : p₁ h'.objs.size = none := by
      cases e : p₁ h'.objs.size with
      | none => rfl
      | some o => obtain ⟨_, _, c, hc, _⟩ := I₁.trk _ _ e; exact absurd rfl (hlt _ _ hc)
    have hkv : KV h'' F (put p₁ h'.objs.size (.di (xs.zip row))) items (xs.zip row) := kv.step (ex := NO) (fun b x e q ζ => ⟨.of (hk b x e), by rw [put_ne _ _ (hlt b x e)]; exact q⟩) fun ζ z => z.elim
    obtain ⟨I', S'⟩ := Inv.allocG (o := .di (xs.zip row)) I₁ y6 hk hc ⟨items, hd', hkv⟩
    exact ⟨_, _, q _ hpn, I', S₁.trans S', .ref _, m₁.trans (Same.mk s₁ h'' tk)⟩
end
end Tl
end

section
open PySem PySem.W PySem.Calls PyProof.Rows
set_option linter.unusedVariables false
namespace Tl
section
variable {C : Cfg} {k : Nat} {sc : Scope} {fr : Fm} {p : P} {X : P → Prop}
theorem T1_Assign_Name' {x : Str} {pos pos' : Pos} {e : Expr} {Q : Fl → Fm → P → Prop} (hk : sc.names.lookup x = some .local ∨ sc.names.lookup x = some .cell) (hs : ∀ env : Env, env.scope = sc → swapsWith e (some (.Name x pos')) pos.line env = pure false)
    (h : TE C k sc fr p e (fun v p₁ => ∃ fr', setL x v fr = fr' ∧ Q .next fr' p₁) X) : T1 C k sc fr p (.Assign [.Name x pos'] e pos) Q X := by
  intro env A F s he R I f
  refine wpAny_Assign_Name (wp_then (h env A F s he R I f) (fun v' s₁ v p₁ hq I₁ S₁ r m₁ => ?_) fun ζ ζ z => z.own I f) (hs env he)
  obtain ⟨fr', hfr, q⟩ := hq
  have a₁ := At.step ⟨R, I, f⟩ S₁ I₁
  subst hfr
  exact store_name I₁ a₁.frm r (by unfold Env.kindOf; rw [he]; exact hk) fun h' tk I' S f' => ⟨.next, _, p₁, q, I', S₁.of.trans (S.weak asgd_own), f', .next, m₁.trans (Same.mk s₁ h' tk)⟩
theorem VRL.rep {h : Heap} {F : FS} {v' : Value} {v : V} (r : VR h F p v' v) : ∀ n : Nat, VRL h F p (List.replicate n v') (List.replicate n v)
  | 0 => .nil
  | n + 1 => .cons r (VRL.rep r n)
set_option tactic.hygienic true in
theorem OpB_rep {v : V} {n : Int} {Q : V → P → Prop} (h0 : 0 ≤ n) (hn : n ≤ 1000) (q : ∀ a, p a = none → Q (.ref a) (put p a (.list (List.replicate n.toNat v)))) : OpB C k .Mult (.lst [v]) (.int n) p Q := by
  intro A F s a' b' R I ra rb
  replace rb := VR.inv rb; obtain ⟨u, rfl⟩ := rb
  replace ra := VR.inv ra; obtain ⟨l, vs, m, rfl, el, fl, rl⟩ := ra
  cases rl with
  | cons rv rn =>
  cases rn
  rename_i v'
  have hl : s.heap.get? l = some { cls := .type "list", dict := none, data := .seq [v'].toArray m, slots := #[] } := el
  have hsz : ¬ Builtin.List.listTooLong ([v'].toArray.size * n.toNat) = true := by
    rw [show [v'].toArray.size = 1 from rfl, Nat.one_mul]
    simp [Builtin.List.listTooLong, sizeLine]; lia -matchEqs
  have hs2 : ¬ [v'].toArray.size * n.toNat > (2 ^ 63 - 1) / 8 := by
    rw [show [v'].toArray.size = 1 from rfl, Nat.one_mul]; lia -matchEqs
  refine wpAny_binaryOp_repeat_ref (T := "list") (U := "int") (by decide) ⟨_, hl, rfl⟩ (fun s' => typeIs_int s' n u) noFill_list_mul PySem.F.fills_int_mul PySem.F.slot_int_rmul repeat_list PySem.F.slot_int_index.lookup
    (call_meets PySem.F.slot_int_rmul (typeIs_int s n u) PySem.F.entry_int_rmul (PySem.F.args_int_rmul_2 _ _) (int___rmul___int_list n u l [v'].toArray m)
      ⟨hl, rfl, ⟨_, hl, rfl⟩, call_meets PySem.F.slot_list_mul ⟨_, hl, rfl⟩ PySem.F.entry_list_mul (PySem.F.args_list_mul_2 _ _)
        (AutoListH.list___mul___list_int_3 l [v'].toArray m n u (by simp [Builtin.List.listFitsIndex]; lia -matchEqs) hs2 hsz)
        ⟨hl, ?_⟩⟩)
  refine post_track (w := .list (List.replicate n.toNat v)) I ⟨List.replicate n.toNat v', 0, ?_, VRL.track I (VRL.rep rv _)⟩ q
  have e := listMul_foldl_if [v'].toArray n.toNat
  rw [show [v'].toArray.toList = [v'] from rfl, lm_rep_flat_one] at e
  rw [e]
end
end Tl
end

section
open PySem PySem.W PySem.Calls PyProof.Rows
set_option linter.unusedVariables false
namespace Tl
section
variable {C : Cfg} {k : Nat} {sc : Scope} {fr : Fm} {p : P} {X : P → Prop}
theorem T_Try {e : Expr} {x : Str} {kk np hp p1 p2 p3 pos} {Q : Fl → Fm → P → Prop} {X' : P → Prop} (hk : sc.names.lookup x = some .globalImplicit) (hg : nsIn C.K mainGlobals x = some (some (.ref C.exc)))
    (hm : exmOne C.K (.ref C.exc) (.ref C.exc) = some true)
    (h : TE C k sc fr p e (fun v p₁ => Q (.ret v) fr p₁) X') (hx : ∀ p', X' p' → Q (.ret .none) fr p') (hd : (x == ("__debug__" : Str)) = false) : TSf C k sc fr p [.Try [.Return (some e) p1] [.ExceptHandler (some (.Name x np)) none [.Return (some (.Constant .none kk p3)) p2] hp] [] [] pos] Q X := by
  intro env A F s he hA hfr R I f
  obtain ⟨l, hA⟩ := hA
  refine wpAny_execs_cons (wpAny_Try_except (wpAny_execs_cons (wpAny_Return_some (wp_then (h env A F s he R I f) (fun v' s₁ v p₁ q I₁ S₁ r m₁ => ?_) fun e' s₁ z => ?_))))
  · have a₁ := At.step ⟨R, I, f⟩ S₁ I₁
    exact ⟨.ret v, fr, p₁, q, I₁, S₁.of, a₁.frm, .ret r, m₁⟩
  obtain ⟨p₁, e', T, rfl, q, I₁, S₁, -, fs, n1, n2, fl, m₁⟩ := z
  have fs' : ∀ b o, s.heap.get? b = some o → p b = none → b ≠ e' ∧ b ≠ T := fun b o hb hp => by
    by_cases hF : F b
    · exact ⟨fun z => n1 (z ▸ hF), fun z => n2 (z ▸ hF)⟩
    · exact fs b o hb hp hF fun z => z
  have hl : ∀ y ∈ env :: l, FrN NO F s₁.heap y := fun y hy => by
    obtain ⟨l', e1, g⟩ := R.frames
    rw [hA] at e1; cases e1
    obtain ⟨L, o, es, n, h1, h2, h3, h4⟩ := (g y hy).at_
    obtain ⟨⟨sl, k1, _⟩, _⟩ := S₁ L o h3 (I.ofF h2) fun z => z
    have hd : ∀ vs, o.data ≠ .fields vs := fun vs q => by rw [h4] at q; cases q
    exact ⟨(g y hy).kind, L, _, h1, h2, k1, hd, .inr ⟨es, n, h4⟩⟩
  have hin : ∀ y ∈ env :: l, ∀ a, y.frame = some a → a ∈ (env :: l).filterMap (·.frame) ++ [e', T] := fun y hy a ha => List.mem_append_left _ (List.mem_filterMap.mpr ⟨y, hy, ha⟩)
  have hff := funFrames_of hl hin
  have hst : (hideAll s₁.heap ((env :: l).filterMap (·.frame) ++ [e', T])).StaysIn s₁.heap := fun b o q => of_hideAll _ q
  have hne : (hideAll s₁.heap ((env :: l).filterMap (·.frame) ++ [e', T])).get? e' = none := hideAll_none _ (by simp)
  have done : ∀ h₄ a0, Heap.NotedW (hideAll s₁.heap ((env :: l).filterMap (·.frame) ++ [e', T])) (env :: l) e' (.ref C.exc) a0 (rawInt env.locals) s₁.heap h₄ →
      wpAny (model C.prog C.w) A (setFlight (.ref e') none) (fun ζ s₃ => wpAny (model C.prog C.w) A (handleBy (.ref e') env [.ExceptHandler (some (.Name x np)) none [.Return (some (.Constant .none kk p3)) p2] hp])
        (fun fl' s₂ => match fl' with | .next => wpAny (model C.prog C.w) A (execs [] env) (PostS C env F p s Q) (PostX C (own env) F p s X) s₂ | fl => PostS C env F p s Q fl s₂) (PostX C (own env) F p s X) s₃) (PostX C (own env) F p s X) { s₁ with heap := h₄ } := fun h₄ a0 hN => by
    obtain ⟨k1, k2, k3, k4⟩ := hN
    refine wpAny_landsW (s := { s₁ with heap := h₄ }) ⟨k1, hne, k2, k3⟩ fun h₅ fl₅ sm₅ => ?_
    have sm5 : s₁.heap.UpToSlots h₅ := Heap.UpToSlots.trans k4 sm₅
    have fin : ∀ h₆, Heap.FlyingW (hideAll s₁.heap ((env :: l).filterMap (·.frame) ++ [e', T])) (env :: l) e' (.ref C.exc) a0 h₆ → s₁.heap.UpToSlots h₆ → Inv C F p₁ h₆ ∧ Step NO p s.heap p₁ h₆ := fun h₆ fl₆ sm₆ => by
      obtain ⟨T', -, -, -, -, g4, g5, -⟩ := flight_after hl I₁ n1 n2 fl₆.1 sm₆ fl₆.2.2.2.at
      refine ⟨g4.unmark fun a z => .inl z, fun b o hb hp ζ => ?_⟩
      obtain ⟨kp, k3⟩ := S₁ b o hb hp fun z => z
      obtain ⟨ne1, ne2⟩ := fs' b o hb hp
      exact ⟨kp.trans fun sl k1 => (g5 b _ k1 k3 fun z => by rcases z with z | z | z; exact ne1 z; exact ne2 z; exact z).1, k3⟩
    obtain ⟨I₅, S₅⟩ := fin h₅ fl₅ sm5
    refine wpAny_handleBy_cons (codeAny_handlers_test (name_global (s := { s₁ with heap := h₅ }) I₅ (f.step (fun ζ z => I.ofF z) S₅) (by unfold Env.kindOf; rw [he]; exact hk) hg ?_ hd)) (by intro q; cases q)
    obtain ⟨oe, vs, g1, g2, -, -⟩ := fl₅.first
    have LT : Looks (model C.prog C.w) h₅ (typeOf (.ref e')) (.ref C.exc) := by rw [← g2]; exact (Looks.ld g1).andThen .now
    refine (exm_one (h := h₅) (C.X.keeps I₅.keep) LT hm).here ?_
    show codeAny _ _ _ _ _
    refine codeAny_handlers_suite (lands_againW (s := { s₁ with heap := h₅ }) fl₅ fun h₆ fl₆ sm₆ => wpAny_execs_cons (wpAny_Return_some (wpAny_Constant_none ?_)))
    obtain ⟨I₆, S₆⟩ := fin h₆ fl₆ (sm5.trans sm₆)
    exact ⟨.ret .none, fr, p₁, hx p₁ q, I₆, S₆.of, f.step (fun ζ z => I.ofF z) S₆, .ret .none, m₁.trans (Same.mk s₁ h₆ s₁.toks)⟩
  obtain ⟨oe, vs, a0, r1, r2, r3, r4, r5 | ⟨r5, r6, oT, ts, r7, r8, r9⟩⟩ := fl
  · obtain ⟨r5, rfl⟩ := r5
    unfold noteFrame
    simp only [hfr]
    refine wpAny_bind (wpAny_field r1 r3 r5 ?_)
    rw [if_neg (by decide)]
    exact wpAny_entryW hA hff hfr r1 hst hne r3 (Array.getElem?_eq_some_iff.mp r5).1 r4 fun h₄ hN => done h₄ a0 (r2 ▸ hN)
  · exact wpAny_noteFrame_onW hA hff hfr ⟨oe, vs, T, oT, ts, r1, ⟨r2, r4⟩, r3, r5, hideAll_none _ (by simp), r6, r7, r8, r9⟩ hst hne fun h₄ hN => done h₄ a0 hN
end
end Tl
end

section
open PySem PySem.W PySem.Calls PyProof.Rows
set_option linter.unusedVariables false
set_option maxRecDepth 100000
set_option maxHeartbeats 1000000
namespace Tl
noncomputable def allT {α : Type} (n : Nat) (P : α → Bool) : KasT α → Bool
  | .ret a => P a
  | .ask i j k => decide (i < n) && decide (j < n) && allT n P (k true) && allT n P (k false)
theorem kas_allT {α : Type} {n : Nat} {P : α → Bool} {cmp : Nat → Nat → (Bool → Shared → Prop) → Shared → Prop} {s : Shared} {G : α → Shared → Prop} (hc : ∀ i j (Q : Bool → Shared → Prop), i < n → j < n → (∀ b, Q b s) → cmp i j Q s) (hG : ∀ a, P a = true → G a s) :
    ∀ t : KasT α, allT n P t = true → t.kasWp cmp G s
  | .ret a, h => hG a h
  | .ask i j k, h => by
    have h : (decide (i < n) && decide (j < n) && allT n P (k true) && allT n P (k false)) = true := h
    simp only [Bool.and_eq_true, decide_eq_true_eq] at h
    obtain ⟨⟨⟨h1, h2⟩, h3⟩, h4⟩ := h
    exact hc i j _ h1 h2 fun b => by cases b; exact kas_allT hc hG _ h4; exact kas_allT hc hG _ h3
noncomputable def permB (n : Nat) (p : Array Nat) : Bool := decide (p.size = n) && p.toList.isPerm (List.range n)
theorem kas_sort2 : allT 2 (permB 2) (kas_sort 2) = true := by decide +kernel
theorem kas_sort3 : allT 3 (permB 3) (kas_sort 3) = true := by decide +kernel
section
variable {prog : Program} {w : World} {A : Around} {E : Value → Shared → Prop} {s : Shared}
theorem list_sort3 {a : Addr} {vs : List Value} {n : Nat} {Q : PySem.Fin → Shared → Prop} (ho : s.heap.get? a = some (seqObj "list" vs.toArray n)) (h3 : vs.length ≤ 3)
    (hk : ∀ (h' : Heap) (A' : Around) (E : Value → Shared → Prop) (R : SortKind → Shared → Prop), (∀ b o, b ≠ a → s.heap.get? b = some o → h'.get? b = some o) → 2 ≤ vs.length →
      (∀ κ, (∀ i j (Q : Bool → Shared → Prop), i < vs.length → j < vs.length → (∀ b, Q b { s with heap := h' }) → kas_ask prog w A' κ vs i j Q { s with heap := h' }) → R κ { s with heap := h' }) → wpAny (model prog w) A' (keyKind' vs.toArray) R E { s with heap := h' })
    (q : ∀ (h' : Heap) (ix : List Nat) (c : Nat), ix.Perm (List.range vs.length) → (∀ b o, b ≠ a → s.heap.get? b = some o → h'.get? b = some o) → h'.get? a = some (seqObj "list" (ix.map fun i => vs.getD i Value.none).toArray c) → Q (.done (.ret .none)) { s with heap := h' }) :
    wpAny (model prog w) A (Builtin.«list.sort» ⟨[.ref a], []⟩) Q E s := by
  have s1 := Heap.SameBut.update s.heap a (Obj.mapSeq fun ζ => (#[] : Array Value))
  obtain ⟨e1, ho1⟩ : ∃ e1, (s.heap.update a (Obj.mapSeq fun ζ => (#[] : Array Value))).get? a = some (seqObj "list" #[] e1) := ⟨_, get?_update_seq ho fun ζ => #[]⟩
  rw [list_sort_plain]
  refine wpAny_bind (listItems_at ho rfl ?_)
  refine wpAny_bind (listUpdate_at ho rfl ?_ (by rw [List.size_toArray, sizeLine_eq]; lia -matchEqs) (Nat.zero_le _))
  refine wpAny_bind (seqEpoch_at ho1 rfl ?_)
  refine wpAny_bind (wpAny_newTuple ?_ (by show vs.length ≤ _; rw [sizeLine_eq]; lia -matchEqs))
  refine wpAny_bind (wpAny_newList ?_ (Nat.zero_le _))
  refine wpAny_holding ?_
  show wpAny (model prog w) A _ Q E { s with heap := ((s.heap.update a (Obj.mapSeq fun ζ => (#[] : Array Value))).push (seqObj "tuple" vs.toArray 0)).push (seqObj "list" #[] 0) }
  dsimp only
  have ho3 : (((s.heap.update a (Obj.mapSeq fun ζ => (#[] : Array Value))).push (seqObj "tuple" vs.toArray 0)).push (seqObj "list" #[] 0)).get? a = some (seqObj "list" #[] e1) := Heap.get?_push_of_some _ (Heap.get?_push_of_some _ ho1)
  have keep : ∀ b o, b ≠ a → s.heap.get? b = some o → (((s.heap.update a (Obj.mapSeq fun ζ => (#[] : Array Value))).push (seqObj "tuple" vs.toArray 0)).push (seqObj "list" #[] 0)).get? b = some o := fun b o n e => Heap.get?_push_of_some _ (Heap.get?_push_of_some _ ((s1.2 b n).trans e))
  generalize hH : ((s.heap.update a (Obj.mapSeq fun ζ => (#[] : Array Value))).push (seqObj "tuple" vs.toArray 0)).push (seqObj "list" #[] 0) = H at ho3 keep ⊢
  have tail : ∀ (st : SortSt) (ix : List Nat), ix.Perm (List.range vs.length) → (arrOf st).map (·.2) = List.toArray (ix.map fun i => vs.getD i Value.none) → failedOf st = none →
      wpAny (model prog w) A (do
        let touched := (← seqEpoch a) != e1
        Builtin.List.listUpdate (.ref a) fun ζ => (arrOf st).map (·.2)
        if let some e := failedOf st then rule "list.sort.comparison-raised"; throw e
        if touched then rule "list.sort.modified"; raiseError "ValueError" "list modified during sort"
        ret .none) Q E { s with heap := H } := fun st ix hp har hf => by
    have hlen : (ix.map fun i => vs.getD i Value.none).length ≤ 3 := by rw [List.length_map, hp.length_eq, List.length_range]; exact h3
    have s2 := Heap.SameBut.update H a (Obj.mapSeq fun ζ => List.toArray (ix.map fun i => vs.getD i Value.none))
    obtain ⟨c2, hc2⟩ : ∃ c2, (H.update a (Obj.mapSeq fun ζ => List.toArray (ix.map fun i => vs.getD i Value.none))).get? a = some (seqObj "list" (List.toArray (ix.map fun i => vs.getD i Value.none)) c2) := ⟨_, get?_update_seq ho3 fun ζ => List.toArray (ix.map fun i => vs.getD i Value.none)⟩
    rw [har, hf]
    refine wpAny_bind (seqEpoch_at ho3 rfl ?_)
    refine wpAny_bind (listUpdate_at ho3 rfl ?_ (Nat.zero_le _) (by rw [List.size_toArray, sizeLine_eq]; lia -matchEqs))
    simp only [bne_self_eq_false, Bool.false_eq_true, if_false]
    exact wpAny_pure (q _ ix c2 hp (fun b o n e => (s2.2 b n).trans (keep b o n e)) hc2)
  by_cases h2 : 2 ≤ vs.length
  · have hn2 : ¬ vs.toArray.size < 2 := by rw [List.size_toArray]; lia -matchEqs
    rw [if_neg hn2, if_neg hn2]
    refine wpAny_bind (hk H A E _ keep h2 fun κ hask => ?_)
    have run : (kas_sort vs.length).kasWp (kas_ask prog w A κ vs) (fun p s' => permB vs.length p = true ∧ s' = { s with heap := H }) { s with heap := H } := by
      refine kas_allT (n := vs.length) (P := permB vs.length) hask (fun a h => ⟨h, rfl⟩) _ ?_
      have : vs.length = 2 ∨ vs.length = 3 := by lia -matchEqs
      rcases this with e | e
      · rw [e]; exact kas_sort2
      · rw [e]; exact kas_sort3
    refine wpAny_bind (wpAny_mono (kat_run (Q := fun st' s' => ∃ p : Array Nat, A4 (arrOf st' = p.map (kas_item (vs.toArray.zip vs.toArray))) (failedOf st' = none) (permB vs.length p = true) (s' = { s with heap := H }))
      rfl h2 (by lia -matchEqs) (fun p' st' s' a1 a2 a3 a4 => ⟨p', a2, a3, a4.1, a4.2⟩) run) ?_ fun ζ ζ e => e)
    rintro ⟨⟨⟩, st'⟩ s' ⟨p, har, hf, hp, rfl⟩
    unfold permB at hp
    simp only [Bool.and_eq_true, List.isPerm_iff] at hp
    exact tail st' p.toList hp.2 (kat_snds rfl har) hf
  · have hn2 : vs.toArray.size < 2 := by rw [List.size_toArray]; lia -matchEqs
    rw [if_pos hn2, if_pos hn2]
    refine wpAny_bind (wpAny_pure ?_)
    refine wpAny_bind (wpAny_pure ?_)
    refine tail (SortSt.mk' general' (vs.toArray.zip vs.toArray) #[] 7 none) (List.range vs.length) (List.Perm.refl _) ?_ rfl
    rw [show arrOf (SortSt.mk' general' (vs.toArray.zip vs.toArray) #[] 7 none) = vs.toArray.zip vs.toArray from rfl]
    exact match vs, h2 with
    | [], _ => by simp
    | [v], _ => by simp
    | _ :: _ :: _, h => absurd (Nat.le_add_left 2 _) h
theorem lt3 {x y : Addr} {a b : Int} {u v : Str} {c d : Int} {n m : Nat} {t1 t2 t3 t4 t5 t6 : Tok} {Q : Bool → Shared → Prop} (hx : s.heap.get? x = some (tupO [.int a t1, .str u t2, .int c t3] n)) (hy : s.heap.get? y = some (tupO [.int b t4, .str v t5, .int d t6] m))
    (q : ∀ b, Q b s) : wpAny (model prog w) A (keyLt' (tuples' true) (.ref x) (.ref y)) Q E s := by
  refine kat_lt hx rfl hy rfl ?_
  refine kat_cons (wpAny_eqBool_int (kat_go (fun ζ => kat_yes ?_) fun ζ => kat_no (oneLt_int (q _))))
  refine kat_cons (eqBool_str (kat_go (fun ζ => kat_yes ?_) fun ζ => kat_no (kat_one _ _ (lt_str (q _)))))
  refine kat_cons (wpAny_eqBool_int (kat_go (fun ζ => kat_yes ?_) fun ζ => kat_no (kat_one _ _ (lt_int (q _)))))
  exact kat_nil (q _)
end
section
variable {C : Cfg} {k : Nat} {sc : Scope} {fr : Fm} {p : P} {X : P → Prop}
theorem vrl_pick {h : Heap} {F : FS} {vs : List Value} {l : List V} (r : VRL h F p vs l) {d : V} : ∀ {ix : List Nat}, (∀ i ∈ ix, i < l.length) → VRL h F p (ix.map fun i => vs.getD i Value.none) (ix.map fun i => l.getD i d)
  | [], _ => .nil
  | i :: ix, hi => by
    have h1 := hi i (by simp)
    obtain ⟨y, e, ry⟩ := r.get (List.getElem?_eq_getElem h1)
    rw [List.map_cons, List.map_cons]
    refine .cons ?_ (vrl_pick r fun j hj => hi j (by simp [hj]))
    rw [List.getD_eq_getElem?_getD, List.getD_eq_getElem?_getD, e, List.getElem?_eq_getElem h1]
    exact ry
theorem tups_of {α : Type} {f : α → Int × Str × Int} {h h' : Heap} {F : FS} (kk : ∀ b o, h.get? b = some o → h'.get? b = some o) : ∀ {l : List α} {vs : List Value}, VRL h F p vs (l.map fun e => .tup [.int (f e).1, .str (f e).2.1, .int (f e).2.2]) → ∃ fs, A3 (KatTups h' vs fs) (fs.length = l.length) (∀ v ∈ fs, X2 fun i t => v = Value.int i t)
  | [], _, r => by cases r; exact ⟨[], .nil, rfl, fun ζ h => by simp at h⟩
  | e :: l, _, r => by
    cases r with
    | cons a r =>
    obtain ⟨fs, h1, h2, h3⟩ := tups_of kk r
    cases a with
    | tup ex fx rx =>
    cases rx with
    | cons r1 rx =>
    cases r1
    refine ⟨_ :: fs, KatTups.cons (kk _ _ ex) rfl rfl rfl h1, by simp [h2], fun v hv => ?_⟩
    rcases List.mem_cons.mp hv with rfl | hv
    · exact ⟨_, _, rfl⟩
    · exact h3 v hv
theorem TC_sorted3 {α : Type} {f : α → Int × Str × Int} {a : Addr} {l : List α} {Q : V → P → Prop} (ha : p a = some (.list (l.map fun e => .tup [.int (f e).1, .str (f e).2.1, .int (f e).2.2]))) (hl : l.length ≤ 3)
    (q : ∀ m : List α, m.Perm l → Q (.lst (m.map fun e => .tup [.int (f e).1, .str (f e).2.1, .int (f e).2.2])) p) : TC C k (.builtin "sorted") [.ref a] p Q X := by
  intro A F s args' R I r
  obtain ⟨a', rfl, ra⟩ := one_arg r
  obtain rfl := VR.inv ra
  obtain ⟨-, -, c, hc, vs, n, rfl, rl⟩ := I.trk _ _ ha
  have hlen : vs.length = l.length := by rw [rl.length, List.length_map]
  refine Calls.call_function_entry kind_sorted plain_sorted entry_sorted (args_sorted1 _) ?_
  unfold Builtin.«sorted»
  refine wpAny_bind (m := checkCount "sorted" 1 1 _) (wpAny_pure ?_)
  refine wpAny_bind (collect_list ⟨_, hc, rfl, n, rfl⟩ ?_ (by rw [sizeLine_eq]; lia -matchEqs))
  refine wpAny_bind (wpAny_newList ?_ (by rw [sizeLine_eq]; lia -matchEqs))
  have keep : ∀ b o, s.heap.get? b = some o → ((s.heap.push (seqObj "list" #[] 0)).update s.heap.objs.size (Obj.mapSeq (· ++ vs.toArray))).get? b = some o := fun b o e => (Heap.get?_update_ne _ _ _ _ (Nat.ne_of_lt (Heap.lt_size e))).trans (Heap.get?_push_of_some _ e)
  show wpAny _ _ _ _ _ { s with heap := ((s.heap.push (seqObj "list" #[] 0)).update s.heap.objs.size (Obj.mapSeq (· ++ vs.toArray))).push (seqObj "list" vs.toArray 0) }
  generalize (s.heap.push (seqObj "list" #[] 0)).update s.heap.objs.size (Obj.mapSeq (· ++ vs.toArray)) = H at keep ⊢
  have hoL : (H.push (seqObj "list" vs.toArray 0)).get? H.objs.size = some (seqObj "list" vs.toArray 0) := Heap.get?_push_size _ rfl
  have keep' : ∀ b o, s.heap.get? b = some o → (H.push (seqObj "list" vs.toArray 0)).get? b = some o := fun b o e => Heap.get?_push_of_some _ (keep b o e)
  have hneH : ∀ b o, s.heap.get? b = some o → b ≠ H.objs.size := fun b o e => Nat.ne_of_lt (Heap.lt_size (keep b o e))
  refine wpAny_bind (wpAny_holding (wpAny_call_entry slot_list_sort ⟨_, hoL, rfl⟩ entry_list_sort ?body (args_list_sort _)))
  case body =>
    refine list_sort3 (s := { s with heap := H.push (seqObj "list" vs.toArray 0) }) hoL (by lia -matchEqs) (fun h' A' E R k' h2 hR => ?_) fun h' ix c hp k' hc' => ⟨_, rfl, wpAny_pure ⟨_, rfl, ?_⟩⟩
    · have kk : ∀ b o, s.heap.get? b = some o → h'.get? b = some o := fun b o e => k' b o (hneH b o e) (keep' b o e)
      have item : ∀ i, i < vs.length → ∃ x a u c t1 t2 t3 n, vs.getD i Value.none = .ref x ∧ s.heap.get? x = some (tupO [.int a t1, .str u t2, .int c t3] n) := fun i hi => by
        obtain ⟨y, e, ry⟩ := rl.get (List.getElem?_eq_getElem (show i < (l.map fun e => V.tup [.int (f e).1, .str (f e).2.1, .int (f e).2.2]).length by rw [← rl.length]; exact hi))
        rw [List.getElem_map] at ry
        replace ry := VR.inv ry; obtain ⟨x, xs, m, rfl, ex, fx, rx⟩ := ry
        cases rx with
        | cons r1 rx =>
        cases rx with
        | cons r2 rx =>
        cases rx with
        | cons r3 rx =>
        cases rx
        replace r3 := VR.inv r3; obtain ⟨_, rfl⟩ := VR.inv r1; obtain ⟨_, rfl⟩ := VR.inv r2; obtain ⟨_, rfl⟩ := r3
        exact ⟨x, _, _, _, _, _, _, m, by rw [List.getD_eq_getElem?_getD, e]; rfl, ex⟩
      obtain ⟨fs, t1, t2, t3⟩ := tups_of kk rl
      refine kat_kind (T := .type "int") t1 (by lia -matchEqs) (fun v hv => ?_) (by decide) (hR _ fun i j Q hi hj hQ => ?_)
      · obtain ⟨i, t, rfl⟩ := t3 v hv
        exact Looks.of_pure rfl
      · obtain ⟨x, a, u, c, t1, t2, t3, n1, e1, g1⟩ := item i hi
        obtain ⟨y, b, v, d, t4, t5, t6, n2, e2, g2⟩ := item j hj
        show wpAny _ _ (keyLt' _ (vs.getD i Value.none) (vs.getD j Value.none)) _ _ _
        rw [e1, e2]
        exact lt3 (kk _ _ g1) (kk _ _ g2) hQ
    · have hl' : ∀ i ∈ ix, i < l.length := fun i hi => by have := hp.mem_iff.mp hi; rw [List.mem_range] at this; lia -matchEqs
      have kk : ∀ b o, s.heap.get? b = some o → h'.get? b = some o := fun b o e => k' b o (hneH b o e) (keep' b o e)
      obtain ⟨m, hm, hmap⟩ : ∃ m : List α, m.Perm l ∧ m.map (fun e => V.tup [.int (f e).1, .str (f e).2.1, .int (f e).2.2]) = ix.map fun i => (l.map fun e => V.tup [.int (f e).1, .str (f e).2.1, .int (f e).2.2]).getD i .none := by
        obtain rfl | ⟨d, hd⟩ : l = [] ∨ ∃ d, d ∈ l := by cases l with
          | nil => exact .inl rfl
          | cons d _ => exact .inr ⟨d, by simp⟩
        · exact ⟨[], .refl _, by rw [show vs.length = 0 by simpa using hlen, List.range_zero, List.perm_nil] at hp; rw [hp]; rfl⟩
        · refine ⟨ix.map fun i => l.getD i d, ?_, ?_⟩
          · have e : (List.range l.length).map (fun i => l.getD i d) = l := by
              refine List.ext_getElem (by simp) fun i h1 h2 => ?_
              simp [List.getD_eq_getElem?_getD, List.getElem?_eq_getElem h2]
            have := hp.map fun i => l.getD i d
            rw [hlen, e] at this
            exact this
          · rw [List.map_map]
            refine List.map_congr_left fun i hi => ?_
            have h1 := hl' i hi
            simp [List.getD_eq_getElem?_getD, List.getElem?_eq_getElem h1]
      have r' : VRL h' F p (ix.map fun i => vs.getD i Value.none) (m.map fun e => .tup [.int (f e).1, .str (f e).2.1, .int (f e).2.2]) := by
        rw [hmap]
        exact (vrl_pick rl fun i hi => by rw [List.length_map]; exact hl' i hi).step (ex := NO) (fun b o e q ζ => ⟨.of (kk b o e), q⟩) fun ζ z => z.elim
      have I' := I.keeps kk
      refine ⟨.lst (m.map fun e => .tup [.int (f e).1, .str (f e).2.1, .int (f e).2.2]), p, q m hm, I', fun b o e q ζ => ⟨.of (kk b o e), q⟩, .lst hc' ?_ r', Same.mk s h' s.toks⟩
      refine ⟨fun z => let ⟨o, e⟩ := I.ex _ z; hneH _ o e rfl, ?_⟩
      cases z : p H.objs.size with
      | none => rfl
      | some o => obtain ⟨-, -, c, e, -⟩ := I.trk _ _ z; exact absurd rfl (hneH _ c e)
end
end Tl
end

section
open PySem PySem.W PySem.Calls PyProof.Rows
set_option linter.unusedVariables false
namespace Tl
section
variable {C : Cfg} {k : Nat} {sc : Scope} {fr : Fm} {p : P} {X : P → Prop}
theorem OpB_addRL {a : Addr} {l m : List V} {Q : V → P → Prop} (ha : p a = some (.list l)) (hl : l.length + m.length ≤ 1000) (q : Q (.lst (l ++ m)) p) : OpB C k .Add (.ref a) (.lst m) p Q := by
  intro A F s a' b' R I ra rb
  obtain rfl := VR.inv ra
  obtain ⟨f, _, c, hc, vs, n, rfl, la⟩ := I.trk _ _ ha
  replace rb := VR.inv rb; obtain ⟨b, ws, n', rfl, eb, fb, lb⟩ := rb
  refine P.add_list hc eb ?_ (by rw [List.size_toArray, List.size_toArray, la.length, lb.length, sizeLine_eq]; lia -matchEqs)
  exact post_new (v := .lst (l ++ m)) I (fun e f => .lst (vs := vs ++ ws) (by simpa using e) f ((la.append lb).push I)) rfl q
theorem T_UpToT {e u : Expr} {sp pos : Pos} {Q : V → P → Prop} (h : TE C k sc fr p e (fun o p₁ => TE C k sc fr p₁ u (fun i p₂ => X2 fun l b => A5 (o = .tup l) (i = .int b) (0 ≤ b) (l.length ≤ 1000000) (Q (.tup (l.take b.toNat)) p₂)) X) X) :
    TE C k sc fr p (.Subscript e (.Slice none (some u) none sp) pos) Q X := by
  intro env A F s he R I f
  refine Subscript_ (wp_then (h env A F s he R I f) (fun o' s₁ o p₁ q₁ I₁ S₁ r₁ m₁ => ?_) fun ζ ζ z => z)
  have a₁ := At.step ⟨R, I, f⟩ S₁ I₁
  refine wpAny_Slice ?_
  rw [evalPart_none]
  refine wpAny_pure ?_
  show wpAny _ _ (eval u env) _ _ s₁
  refine wp_then (q₁ env A F s₁ he a₁.room a₁.inv a₁.frm) (fun i' s₂ i p₂ ⟨l, b, ho, hi, hb, hl, q⟩ I₂ S₂ r₂ m₂ => ?_) fun ζ ζ z => z.trans S₁ m₁
  subst ho hi
  refine wpAny_pure ?_
  have r₁' := r₁.step S₂ fun ζ z => z.elim
  replace r₂ := VR.inv r₂; obtain ⟨t, rfl⟩ := r₂
  obtain ⟨bn, rfl⟩ : ∃ n : Nat, b = (n : Int) := ⟨b.toNat, by lia -matchEqs⟩
  simp only [Int.toNat_natCast] at q
  replace r₁' := VR.inv r₁'; obtain ⟨a, vs, n, rfl, e1, f1, r⟩ := r₁'
  have e1' : (s₂.heap.push { cls := .type "slice", data := .fields #[.none, .int bn t, .none] }).get? a = some (tupO vs n) := Heap.get?_push_of_some _ e1
  exact tail_any (T := "tuple") ⟨_, e1', rfl⟩ slot_tuple_getitem.lookup (T_UpTo.wpAny_getItem_tup_rest e1' e1 f1 r I₂ S₁ S₂ m₁ m₂ hl q) rfl
noncomputable def reprB (b : Bool) : Str := if b then Str.ofString "True" else Str.ofString "False"
theorem TC_reprB {b : Bool} {Q : V → P → Prop} (q : Q (.str (reprB b)) p) : TC C k (.builtin "repr") [.bool b] p Q X := by
  intro A F s args' R I r
  obtain ⟨a', rfl, ra⟩ := one_arg r
  obtain rfl := VR.inv ra
  refine PySem.P.repr_of_bool (post_tok I ?_ q)
  have : (if b then "True" else "False" : Str) = reprB b := by cases b <;> rfl
  rw [this]; exact .str _ _
theorem T_DictS2 {k1 k2 : Str} {e1 e2 : Expr} {kk kk2 : Nat} {p1 p2 pos : Pos} {Q : V → P → Prop} (hne : k1 ≠ k2) (h : ∀ a, p a = none → TE C k sc fr (put p a (.ds [])) e1 (fun v p₁ => TE C k sc fr p₁ e2 (fun u p₂ => p₂ a = some (.ds []) ∧ Q (.ref a) (put p₂ a (.ds [(k1, v), (k2, u)]))) X) X) :
    TE C k sc fr p (.Dict [some (.Constant (.str k1) kk p1), some (.Constant (.str k2) kk2 p2)] [e1, e2] pos) Q X := by
  intro env A F s hs R I f
  have h := h s.heap.objs.size I.fresh
  obtain ⟨o, ho, hd⟩ := Heap.dictOf_iff.mp (Heap.DictOf.new (knd := strKind C.prog C.w) s.heap)
  have hoe : o = { cls := .type "dict", data := .dict #[] } := by rw [Heap.get?_push_size _ rfl] at ho; exact (Option.some.inj ho).symm
  subst hoe
  obtain ⟨I₀, S₀⟩ := I.alloc (c := { cls := .type "dict", data := .dict #[] }) (o := .ds []) ⟨_, hd, .nil⟩
  have a₀ := At.step (s' := { s with heap := s.heap.push { cls := .type "dict", data := .dict #[] } }) ⟨R, I, f⟩ S₀ I₀
  have m₀ : Same s { s with heap := s.heap.push { cls := .type "dict", data := .dict #[] } } := Same.mk s _ s.toks
  refine wpAny_Dict_walk (knd := strKind C.prog C.w) rfl rfl (by simp) (Nat.le_of_ble_eq_true rfl) ?_
  refine pairTrees_cons_walk (wpAny_Constant_str ?_)
  have a₁ : At C k env A F fr (put p s.heap.objs.size (.ds [])) { s with heap := s.heap.push { cls := .type "dict", data := .dict #[] }, toks := s.toks + 1 } := a₀.step (Step.refl) a₀.inv
  refine wp_then (h env A F _ hs a₁.room a₁.inv a₁.frm) (fun v' s₁ v p₁ h₁ I₁ S₁ r₁ m₁ => ?_) fun ζ ζ z => (z.trans S₀ (Same.mk s _ _))
  refine pairTrees_cons_walk (wpAny_Constant_str ?_)
  have a₂ := a₁.step S₁ I₁
  have m₂ : Same s s₁ := m₀.trans (show Same { s with heap := s.heap.push { cls := .type "dict", data := .dict #[] } } s₁ from m₁)
  have a₃ : At C k env A F fr p₁ { s₁ with toks := s₁.toks + 1 } := a₂.step (Step.refl) a₂.inv
  refine wp_then (h₁ env A F _ hs a₃.room a₃.inv a₃.frm) (fun u' s₂ u p₂ h₂ I₂ S₂ r₂ m₃ => ?_) fun ζ ζ z => (z.trans (s₁ := { s₁ with toks := s₁.toks + 1 }) (S₀.trans S₁) (m₂.trans (Same.mk s₁ _ _)))
  refine pairTrees_nil_walk ?_
  obtain ⟨hD, q⟩ := h₂
  obtain ⟨kvs, hd2, kv, _⟩ := dict_s I₂ hD
  cases kv
  refine ⟨[(k1, v'), (k2, u')], ⟨strKind_is _ _ _ _, rfl, strKind_is _ _ _ _, rfl, trivial⟩, hd2, fun h' hd' hsb => ?_⟩
  have r₁' := r₁.step S₂ fun ζ z => z.elim
  have hm : merged ([] : List (Str × Value)) [(k1, v'), (k2, u')] = [(k1, v'), (k2, u')] := by
    have : ¬ k1 = k2 := hne
    simp [merged, stored, this]
  rw [hm] at hd'
  obtain ⟨c', hc', hd''⟩ := Heap.dictOf_iff.mp hd'
  have m₄ : Same s₁ s₂ := m₃
  obtain ⟨I', S'⟩ := I₂.upd (o' := .ds [(k1, v), (k2, u)]) hD (fun b x n e => (hsb.2 b n).trans e) hc' ⟨_, hd'', .cons r₁' (.cons r₂ .nil)⟩
  exact ⟨_, _, q, I', S₀.trans (S₁.trans (S₂.trans S')), .ref _, (m₂.trans m₄).trans (Same.mk s₂ h' _)⟩
end
end Tl
end

section
open PySem PySem.W PySem.Calls PyProof.Rows
set_option linter.unusedVariables false
set_option maxRecDepth 100000
namespace Tl
section
variable {prog : Program} {w : World} {A : Around} {E : Value → Shared → Prop} {h : Heap} {g : Array GenState} {d : Drawn} {t : Nat} {os : OsState}
variable {nm q : Str} {C N : Addr} {bs bm bmB : List Value} {hdct : Bool} {sn : List Str} {sub : List Value} {ab : Bool} {col : Option Bool} {dd : Option Addr} {k0 k1 k2 k3 k5 : Option Value} {B newId initId : String}
theorem exn_new (F : ExcBaseFacts B newId initId bmB) {R : Result → Shared → Prop} {rest : List Value} (hC : h.get? C = some (excClassObj nm q C N bs bm hdct sn sub ab col dd k0 k1 k2 k3 k5 newId)) (h1 : bm.contains (.type B) = true) (h2 : bm.contains (.type "AttributeError") = false) (h3 : bm.contains (.type "NameError") = false)
    (hq : R (.ok (.ret (.ref (h.objs.size + 1)))) ⟨(h.push { cls := .type "tuple", data := .seq rest.toArray }).push
      { cls := .ref C, data := .fields #[.ref h.objs.size, .none, .none, .none, .bool false, .none] }, g, d, t, os⟩) (hr : rest.length ≤ sizeLine) :
    codeAny (model prog w) A (.builtin newId ⟨.ref C :: rest, []⟩) R ⟨h, g, d, t, os⟩ := by
  have he := F.ends
  have b1 : (Value.ref C :: bm).contains (.type B) = true := by rw [List.contains_cons, h1, Bool.or_true]
  have b2 : (Value.ref C :: bm).contains (.type "AttributeError") = false := by rw [List.contains_cons, h2]; rfl
  have b3 : (Value.ref C :: bm).contains (.type "NameError") = false := by rw [List.contains_cons, h3]; rfl
  refine codeAny_builtinAt F.entry ?_
  unfold Builtin.«BaseException.__new__»
  refine _root_.PySem.wpAt_bind ?_
  show _root_.PySem.wpAt _ _ _ (stack >>= _) _ _ _
  refine _root_.PySem.wpAt_bind (_root_.PySem.wpAt_stack fun p below => _root_.PySem.wpAt_of_wpAny ?_)
  wp_walk
  refine _root_.PySem.wpAt_of_wpAny ?_
  rw [F.owner]
  repeat (first | with_reducible refine wpAny_madeHere_exc F.canon hC ?_ | with_reducible refine wpAny_loadPart_at hC ?_ | (with_reducible refine wpAny_isSubtype_exc hC ?_; first | rw [b1] | rw [b2] | rw [b3]) | wp_step)
  show R _ _
  rw [Heap.size_push]
  exact hq
theorem exn_check (F : ExcBaseFacts B newId initId bmB) {M : Model} {rest : List Value} {Q : Unit → Shared → Prop} (hC : h.get? C = some (excClassObj nm q C N bs bm hdct sn sub ab col dd k0 k1 k2 k3 k5 newId)) (h1 : bm.contains (.type B) = true)
    (hq : Q () ⟨h, g, d, t, os⟩) : wpAny M A (checkBuiltinCall newId ⟨.ref C :: rest, []⟩) Q E ⟨h, g, d, t, os⟩ := by
  have b1 : (Value.ref C :: bm).contains (.type B) = true := by rw [List.contains_cons, h1, Bool.or_true]
  have hstar := F.noStar
  unfold checkBuiltinCall
  simp only [F.newKind, F.newSplit, F.newRow]
  repeat (first | refine wpAny_loadPart_at hC ?_ | (refine wpAny_isSubtype_exc hC ?_; rw [b1]) | refine wpAny_staticBase_exc hC ?_ | refine wpAny_madeBy_exc hC ?_ | simp only [bne_self_eq_false, Bool.false_eq_true, if_false] | wp_step)
  all_goals exact hq
theorem exn_call (F : ExcBaseFacts B newId initId bmB) {rest : List Value} {fI : Addr} {oI : Obj} {Q : Value → Shared → Prop} (hC : h.get? C = some (excClassObj nm q C N bs bm hdct sn sub ab col dd k0 k1 k2 k3 k5 newId))
    (h1 : bm.contains (.type B) = true) (h2 : bm.contains (.type "AttributeError") = false) (h3 : bm.contains (.type "NameError") = false) (hi : Looks (model prog w) h (typeLookup (.ref C) "__init__") (some (.ref fI))) (hf : h.get? fI = some oI) (hfc : oI.cls = .type "function")
    (hq : ∀ h' e, Heap.MadeExcOf h h' e (.ref C) rest → wpAny (model prog w) (A.under (.builtin "type.__call__" ⟨.ref C :: rest, []⟩)) (call (.ref fI) (.ref e :: rest)) (fun r s' => r = .none ∧ Q (.ref e) s') E ⟨h', g, d, t, os⟩) (hr : rest.length ≤ sizeLine) :
    wpAny (model prog w) A (call (.ref C) rest) Q E ⟨h, g, d, t, os⟩ := by
  have f1 := tc_lookup
  have f2 := tc_bind (.ref C)
  have hT : (⟨h, g, d, t, os⟩ : Shared).TypeIs (.ref C) "type" := ⟨_, hC, rfl⟩
  refine wpAny_call (codeAny_of_tree ?_)
  show wpAny _ _ (callAny (.ref C) _) _ _ _
  repeat (any_goals (first | assumption | with_reducible refine wpAny_loadPart_at hC ?_ | wp_step))
  refine ⟨rfl, codeAny_call_builtin_at (Code.quiet_builtin _ (by decide +kernel)) entry_typeCall (wpAny_check_type_call_sub hC ?_)⟩
  unfold Builtin.«type.__call__»
  repeat (first | with_reducible refine wpAny_loadPart_at hC ?_ | with_reducible refine wpAny_madeBy_exc hC ?_ | wp_step)
  refine codeAny_call_builtin_code (Code.quiet_builtin _ F.quiet) (exn_check F hC h1 ?_)
  refine exn_new F hC h1 h2 h3 ?_ hr
  show wpAny _ _ _ _ _ _
  have k : ∀ b o, h.get? b = some o → ((h.push { cls := .type "tuple", data := .seq rest.toArray }).push { cls := .ref C, data := .fields #[.ref h.objs.size, .none, .none, .none, .bool false, .none] }).get? b = some o := fun b o e => Heap.get?_push_of_some _ (Heap.get?_push_of_some _ e)
  have hget : ((h.push { cls := .type "tuple", data := .seq rest.toArray }).push
      { cls := .ref C, data := .fields #[.ref h.objs.size, .none, .none, .none, .bool false, .none] }).get? (h.objs.size + 1) = some
      { cls := .ref C, data := .fields #[.ref h.objs.size, .none, .none, .none, .bool false, .none] } := by heap_get
  have hcC : (Value.ref C :: bm).contains (.ref C) = true := by simp
  have hC₁ := k _ _ hC
  unfold isInstance
  repeat (first | with_reducible refine wpAny_loadPart_at hget ?_ | (refine wpAny_isSubtype_exc hC₁ ?_; rw [hcC]) | wp_step)
  show wpAny _ _ (typeLookup (.ref C) _) _ _ _
  refine (hi.keeps k).at (wpAny_holding (wpAny_bind ?_))
  unfold bindSpecial
  refine wpAny_bind (wpAny_typeOf (T := "function") ⟨_, k _ _ hf, hfc⟩ ?_)
  rw [if_pos (by decide)]
  refine wpAny_pure (wpAny_bind (wpAny_mono (hq _ (h.objs.size + 1) ⟨k, Heap.get?_none_of_le (Nat.le_succ _), h.objs.size, hget, Heap.get?_none_of_le (Nat.le_refl _), ?_⟩) (fun r s' hr => ?_) fun ζ ζ x => x))
  · exact Heap.get?_push_of_some _ (Heap.get?_push_at rfl rfl)
  · obtain ⟨rfl, hQ⟩ := hr
    wp_walk
    exact hQ
end
end Tl
end

section
open PySem PySem.W PySem.Calls PyProof.Rows
set_option linter.unusedVariables false
set_option maxRecDepth 100000
namespace Tl
noncomputable abbrev excO (C : Addr) (dd : Option Addr) (a0 : Value) : Obj := { cls := .ref C, dict := dd, data := .fields #[a0, .none, .none, .none, .bool false, .none] }
noncomputable def ExS (g h : Heap) (e C : Addr) (ns : List Str) : Prop :=
  A3 (∀ b o, g.get? b = some o → h.get? b = some o) (g.get? e = none) (X2 fun dd a0 => h.get? e = some (excO C dd a0) ∧ (dd = none ∨ X2 fun d m => A5 (dd = some d) (d ≠ e) (g.get? d = none) (h.Ns1 d m) (Within m ns)))
section
variable {C : Cfg} {A : Around} {E : Value → Shared → Prop} {s : Shared} {g : Heap} {e : Addr} {ns : List Str}
structure ExK (K : Frag) (Cx : Addr) (name : Str) : Prop where
  set : findIn K (.ref Cx) "__setattr__" = some (some (.builtin "object.__setattr__"))
  no : findIn K (.ref Cx) name = some none
  cd : X3 fun cd a b => A3 (clsIn K Cx = some cd) (cd.mro = [.ref a, .ref b, .type "Exception", .type "BaseException", .type "object"]) (cd.hasDict = true)
theorem exn_set {Cx : Addr} {name : Str} {v : Value} {Q : Unit → Shared → Prop} (X : C.K.In s.heap) (k : ExK C.K Cx name) (S : ExS g s.heap e Cx ns) (hl : ns.length ≤ 10) (hne : e ≠ Cx)
    (q : ∀ h' tk, ExS g h' e Cx (name :: ns) → Q () { s with heap := h', toks := tk }) : wpAny (model C.prog C.w) A (setAttr (.ref e) name v) Q E s := by
  obtain ⟨hp, gg, dr, t, os⟩ := s
  obtain ⟨S1, S2, dd, a0, he, hd⟩ := S
  replace he : hp.get? e = _ := he
  replace X : C.K.In hp := X
  obtain ⟨cd, ca, cb, hc, hmro, hdict⟩ := k.cd
  have I : ∃ od, InstAt hp e (excO Cx dd a0) Cx od := by
    rcases hd with rfl | ⟨d, m, rfl, _, _, ⟨o, _, _, ho, _⟩, _⟩
    · exact ⟨none, he, rfl, rfl, trivial⟩
    · exact ⟨some o, he, rfl, rfl, ho⟩
  obtain ⟨od, I⟩ := I
  refine set_plain X I k.set ?_
  have SF := PySem.F.store_object
  have sub : Looks (model C.prog C.w) hp (isInstance (.ref e) (.type "object")) true := I.type.andThen (looks_mroIn X (by unfold mroIn; rw [hc, Option.bind_some, hmro]; rfl))
  refine codeAny_call_builtin SF.slot.plain SF.entry (@check_slot (model C.prog C.w) _ _ ⟨hp, gg, dr, t + 1, os⟩ "object.__setattr__" "object" "__setattr__" (.ref e) [.str name t, v] [] _ SF.kind SF.split sub (SF.args (.ref e) (.str name t) v) ?_)
  have hm : Looks (model C.prog C.w) hp (mroOf (.ref Cx)) cd.mro := (looks_clsIn X hc).andThen .now
  rw [osa_eq, refuse_eq]
  refine wpAny_bind (wpAny_bind (I.type.at (wpAny_bind (hm.at ?_))))
  rw [hmro, refuseLoop_ref, refuseLoop_ref, PySem.F.store_Exception.passes]
  refine wpAny_pure (wpAny_bind (I.type.at (wpAny_bind ((looks_findIn X k.no).at (wpAny_bind (wpAny_pure ?_))))))
  refine wpAny_bind (wpAny_pure (wpAny_bind (wpAny_bind (wpAny_loadPart he (wpAny_bind ((looks_clsIn X hc).at ?_))))))
  rw [hdict]
  have fin : ∀ (h₁ : Heap) (tk : Nat) (d : Addr) (m : Str → Option Value) (A' : Around), (∀ b o, g.get? b = some o → h₁.get? b = some o) → h₁.get? e = some (excO Cx (some d) a0) → d ≠ e → g.get? d = none → h₁.Ns1 d m → Within m ns →
      wpAny (model C.prog C.w) A' (Builtin.ObjectAttr.storeInDict d (.str name t) name v) (fun fin s' => fin = .done (.ret .none) ∧ Q () s') (fun ζ ζ => False) ⟨h₁, gg, dr, tk, os⟩ := by
    intro h₁ tk d m A' k1 k2 k3 k4 k5 k6
    unfold Builtin.ObjectAttr.storeInDict Builtin.ObjectAttr.newKeyGuard
    refine wpAny_bind (wpAny_pure (wpAny_bind (wpAny_nsSet1 k5 fun h' hn' hs => ?_)))
    obtain ⟨oD, esD, epD, hoD, hdD, hcD⟩ := hn'.count (k6.cons name v)
    refine wpAny_bind (wpAny_lookBehind hoD (by rw [hdD]; exact pastItsLine_dict (Nat.le_trans hcD (by rw [List.length_cons, sizeLine_eq]; lia -matchEqs))) ?_)
    refine wpAny_pure ?_
    exact ⟨rfl, q h' _ ⟨fun b o hb => (hs.2 b fun z => by rw [z, k4] at hb; cases hb).trans (k1 b o hb), S2, some d, a0, (hs.2 e k3.symm).trans k2, .inr ⟨d, _, rfl, k3, k4, hn', k6.cons name v⟩⟩⟩
  rcases hd with rfl | ⟨d, m, rfl, h1, h2, h3, h4⟩
  · have hes : e ≠ hp.objs.size := Nat.ne_of_lt (Heap.lt_size he)
    refine wpAny_bind (wpAny_alloc' (wpAny_bind (wpAny_update' (Heap.get?_push_of_some _ he) (wpAny_pure (a := some hp.objs.size) ?_))))
    have hnd : ((hp.push { cls := .type "dict", data := .dict #[] }).update e fun o => { cls := o.cls, dict := some hp.objs.size, data := o.data, slots := o.slots }).Ns hp.objs.size (fun ζ => none) :=
      ⟨_, #[], _, (Heap.get?_update_ne _ _ _ _ hes.symm).trans (Heap.get?_push_at rfl rfl), rfl, fun e he => absurd he (by simp), fun ζ => rfl⟩
    have hself : ((hp.push { cls := .type "dict", data := .dict #[] }).update e fun o => { cls := o.cls, dict := some hp.objs.size, data := o.data, slots := o.slots }).get? e = some (excO Cx (some hp.objs.size) a0) := Heap.get?_update_self _ (Heap.get?_push_of_some _ he) rfl
    refine wpAny_mono (fin _ (t + 1) hp.objs.size _ _ (fun b o hb => (Heap.get?_update_ne _ _ _ _ fun z => by rw [z, S2] at hb; cases hb).trans (Heap.get?_push_of_some _ (S1 b o hb))) hself hes.symm ?_ (Heap.Ns1.of_empty hnd) (fun y h => absurd rfl h)) (fun ζ ζ z => by obtain ⟨rfl, z⟩ := z; exact z) fun ζ ζ z => z.elim
    cases z : g.get? hp.objs.size with
    | none => rfl
    | some o => exact absurd (Heap.lt_size (S1 _ _ z)) (Nat.lt_irrefl _)
  · refine wpAny_pure (a := some d) ?_
    exact wpAny_mono (fin hp (t + 1) d m _ S1 he h1 h2 h3 h4) (fun ζ ζ z => by obtain ⟨rfl, z⟩ := z; exact z) fun ζ ζ z => z.elim
end
end Tl
end

section
open PySem PySem.W PySem.Calls PyProof.Rows
set_option linter.unusedVariables false
set_option maxRecDepth 100000
set_option maxHeartbeats 2000000
namespace Tl
theorem wd_get : Slot "wrapper_descriptor" "__get__" "wrapper_descriptor.__get__" := .of (owner := "wrapper_descriptor") (n := "__get__") (by rw [typeLookup_type, builtinLookup_eq_fast]; kernel_rfl) (by decide +kernel) (by decide +kernel) (by decide +kernel)
  (by first | exact .inl (by decide +kernel) | exact .inr (by decide +kernel)) (by rw [isSubtype_type]; kernel_rfl)
theorem wd_entry : entryFor table "wrapper_descriptor.__get__" = some Builtin.«wrapper_descriptor.__get__» := entryFor_of_tree (by kernel_rfl)
theorem wd_args (a b c : Value) : argsOk "wrapper_descriptor.__get__" ⟨[a, b, c], []⟩ := by unfold argsOk; kernel_rfl
theorem wd_type : typeOf (.builtin "Exception.__init__") = pure (.type "wrapper_descriptor") := by kernel_rfl
noncomputable abbrev supO (D x C : Addr) : Obj := { cls := .type "super", dict := none, data := .fields #[.ref D, .ref x, .ref C], slots := #[] }
noncomputable abbrev mwO (x : Addr) : Obj := { cls := .type "method-wrapper", dict := none, data := .fields #[.builtin "Exception.__init__", .ref x], slots := #[] }
section
variable {prog : Program} {w : World} {M : Model} {A : Around} {E : Value → Shared → Prop} {h : Heap} {g : Array GenState} {d : Drawn} {t : Nat} {os : OsState} {K : Frag}
theorem sup_ga {so D x C : Addr} {ox : Obj} {l₀ l : List Value} {tk : Tok} {Q : Fin → Shared → Prop}
    (hso : h.get? so = some (supO D x C)) (hno : Looks (model prog w) h (opaqueClassAbove (.ref C)) none)
    (hC : Looks (model prog w) h (mroOf (.ref C)) l₀) (hl : (l₀.dropWhile (· != .ref D)).drop 1 = l) (X : K.In h)
    (hf : alongIn K "__init__" l = some (some (.builtin "Exception.__init__"))) (hx : h.get? x = some ox) (hxc : ox.cls = .ref C) (hsub : Looks (model prog w) h (isSubtype (.ref C) (.type "Exception")) true) (hxC : x ≠ C)
    (hq : Q (.done (.ret (.ref h.objs.size))) ⟨h.push (mwO x), g, d, t, os⟩) :
    wpAny (model prog w) A (Builtin.«super.__getattribute__» ⟨[.ref so, .str "__init__" tk], []⟩) Q E ⟨h, g, d, t, os⟩ := by
  have hlk := wd_get.lookup
  have hne : (Value.ref x == Value.ref C) = false := by simp [hxC]
  have hTf : (⟨h, g, d, t, os⟩ : Shared).TypeIs (.builtin "Exception.__init__") "wrapper_descriptor" := wd_type
  have hdt : (supO D x C).data = .fields #[.ref D, .ref x, .ref C] := rfl
  have f0 : (#[.ref D, .ref x, .ref C] : Array Value)[0]? = some (.ref D) := rfl
  have f1 : (#[.ref D, .ref x, .ref C] : Array Value)[1]? = some (.ref x) := rfl
  have f2 : (#[.ref D, .ref x, .ref C] : Array Value)[2]? = some (.ref C) := rfl
  have hn : (("__init__" : Str) == ("__class__" : Str)) = false := by decide +kernel
  unfold Builtin.«super.__getattribute__»
  repeat (first
    | (with_reducible refine wpAny_field hso hdt f0 ?_) | (with_reducible refine wpAny_field hso hdt f1 ?_) | (with_reducible refine wpAny_field hso hdt f2 ?_)
    | (with_reducible refine ks_wpAny_notOpaque hno ?_)
    | (with_reducible refine Looks.at hC ?_; rw [hl])
    | (refine ks_forIn_along X (fun ζ ζ => rfl) rfl ?_ hf)
    | (with_reducible refine wpAny_typeOf hTf ?_)
    | (with_reducible refine wpAny_call_entry wd_get hTf wd_entry ?_ (wd_args _ _ _))
    | (with_reducible refine ⟨_, rfl, ?_⟩)
    | (simp only [hn, hne, Bool.or_false, Bool.false_eq_true, if_false])
    | wp_step
    | dsimp only)
  rw [hxc, show (".".intercalate ("Exception.__init__".cutAt '.').dropLast) = "Exception" by decide +kernel]
  refine hsub.at ?_
  rw [if_neg (by decide)]
  refine wpAny_pure ?_
  repeat (first | (with_reducible refine ⟨_, rfl, ?_⟩) | wp_step | dsimp only)
  all_goals exact hq
theorem sup_method {so D x C : Addr} {ox : Obj} {l₀ l : List Value} {pl : Sem Bool} {Q : Value × List Value → Shared → Prop}
    (hso : h.get? so = some (supO D x C)) (hno : Looks (model prog w) h (opaqueClassAbove (.ref C)) none)
    (hC : Looks (model prog w) h (mroOf (.ref C)) l₀) (hl : (l₀.dropWhile (· != .ref D)).drop 1 = l) (X : K.In h)
    (hf : alongIn K "__init__" l = some (some (.builtin "Exception.__init__"))) (hx : h.get? x = some ox) (hxc : ox.cls = .ref C) (hsub : Looks (model prog w) h (isSubtype (.ref C) (.type "Exception")) true) (hxC : x ≠ C)
    (hq : Q (.ref h.objs.size, []) ⟨h.push (mwO x), g, d, t + 1, os⟩) : wpAny (model prog w) A (getMethod (.ref so) "__init__" pl) Q E ⟨h, g, d, t, os⟩ := by
  have hlk := F.ks_slot_super_ga.lookup
  have hcan := F.ks_canon_super_ga
  have hT : ∀ t', (⟨h, g, d, t', os⟩ : Shared).TypeIs (.ref so) "super" := fun ζ => ⟨_, hso, rfl⟩
  unfold getMethod
  refine wpAny_bind (wpAny_specialOf (hT _) hlk ?_)
  show wpAny _ _ (if (Manifest.canonical "super.__getattribute__" != "object.__getattribute__") = true then _ else _) _ _ _
  rw [if_pos hcan]
  unfold getAttr getAttrBy
  refine wpAny_bind (wpAny_bind (wpAny_mkText (wpAny_holding (wpAny_bind (wpAny_typeOf (hT _) (wpAny_bind (wpAny_of_eq hlk ?_)))))))
  show wpAny _ _ (getAttrByItsOwn (.ref so) (.str "__init__" t) (.type "super") (.builtin "super.__getattribute__") true false) _ _ _
  unfold getAttrByItsOwn hookBefore callGetattribute boundAndCalled
  refine wpAny_bind (wpAny_of_eq (show (if onTheHeap (.type "super") then typeLookup (.type "super") "__getattr__" else pure none) = pure none from rfl) ?_)
  refine wpAny_bind (wpAny_attempt (wpAny_holding ?_))
  show wpAny _ _ (bindSpecial (.builtin "super.__getattribute__") (.ref so) >>= _) _ _ _
  refine wpAny_bind (wpAny_of_eq (F.ks_slot_super_ga.bind _) ?_)
  refine wpAny_mono (Q := fun v s' => v = .ref h.objs.size ∧ s' = ⟨h.push (mwO x), g, d, t + 1, os⟩) (E := fun ζ ζ => False)
    (wpAny_call_entry F.ks_slot_super_ga (hT _) F.ks_entry_super_ga (sup_ga hso hno hC hl X hf hx hxc hsub hxC ⟨_, rfl, rfl, rfl⟩) (F.ks_gaArgs_super _ _)) (fun v s' hv => ?_) fun ζ ζ z => z.elim
  obtain ⟨rfl, rfl⟩ := hv
  exact wpAny_pure (wpAny_pure hq)
theorem mw_call {q x : Addr} {v : Value} {Cx : Addr} {dd : Option Addr} {a0 : Value} {Q : Value → Shared → Prop} (hq : h.get? q = some (mwO x)) (hx : h.get? x = some (excO Cx dd a0)) {oC : Obj} {cd : ClassData} (hC : h.get? Cx = some oC) (hCd : oC.data = .cls cd)
    (k : ∀ h', (∀ b o, b ≠ x → h.get? b = some o → h'.get? b = some o) → h'.get? x = some (excO Cx dd (.ref h.objs.size)) → Q .none ⟨h', g, d, t, os⟩) : wpAny (model prog w) A (call (.ref q) [v]) Q E ⟨h, g, d, t, os⟩ := by
  have FF := F.excCall_Exception
  refine wpAny_call (codeAny_of_tree ?_)
  show wpAny _ _ (callAny (.ref q) _) _ _ _
  unfold callAny
  refine wpAny_bind (wpAny_load hq ?_)
  show wpAny _ _ (do checkBoundCall "Exception.__init__" ⟨[.ref x, v], []⟩; again (.builtin "Exception.__init__" ⟨[.ref x, v], []⟩)) _ _ _
  refine wpAny_bind ?_
  unfold checkBoundCall
  simp only [FF.initKind, FF.initRow]
  repeat (first | (with_reducible refine wpAny_load hC ?_; rw [hCd]) | wp_step)
  refine ⟨plainId_quiet FF.init.plain _, codeAny_builtin FF.initEntry ?_⟩
  have hxs : x ≠ h.objs.size := Nat.ne_of_lt (Heap.lt_size hx)
  have hx' : (h.push { cls := .type "tuple", data := .seq #[v] }).get? x = some (excO Cx dd a0) := Heap.get?_push_of_some _ hx
  unfold Builtin.«BaseException.__init__» Builtin.BaseException.bexcPut
  have hs1 : [v].length ≤ sizeLine := by rw [sizeLine_eq, List.length_singleton]; lia -matchEqs
  repeat (first | (with_reducible refine wpAny_newTuple hs1 ?_) | wp_step)
  have fin : Q .none ⟨(h.push { cls := .type "tuple", data := .seq #[v] }).update x (Obj.mapFields fun f => f.setIfInBounds 0 (.ref h.objs.size)), g, d, t, os⟩ :=
    k _ (fun b o hb e => (Heap.get?_update_ne _ _ _ _ hb).trans (Heap.get?_push_of_some _ e)) (Heap.get?_update_self _ hx' rfl)
  show wpAny _ _ (match a0 with | .ref a => letGo [a0] | x => pure ()) _ _ _
  cases a0 <;> first | exact wpAny_pure (wpAny_pure fin) | exact wpAny_letGo (wpAny_pure fin)
end
end Tl
end

section
open PySem PySem.W PySem.Calls PyProof.Rows
set_option linter.unusedVariables false
set_option maxRecDepth 100000
set_option maxHeartbeats 2000000
namespace Tl
section
variable {C : Cfg} {A : Around} {E : Value → Shared → Prop} {s : Shared} {g h h₁ h' : Heap} {e Cx : Addr} {ns ns' : List Str}
set_option tactic.hygienic true in
theorem ExS.up (S : ExS g h e Cx ns) (k : ∀ b o, h.get? b = some o → h₁.get? b = some o) : ∃ l : List Addr, (∀ b ∈ l, g.get? b = none ∧ ∃ o, h.get? b = some o) ∧ ExS (hideAll h₁ l) h₁ e Cx ns := by
  obtain ⟨S1, S2, dd, a0, he, hd⟩ := S
  rcases hd with rfl | ⟨d, m, rfl, h1, h2, h3, h4⟩
  · refine ⟨[e], fun b hb => ?_, fun b o q => of_hideAll _ q, hideAll_none _ (by simp), none, a0, k _ _ he, .inl rfl⟩
    rw [List.mem_singleton.mp hb]; exact ⟨S2, _, he⟩
  · obtain ⟨o, es, ep, ho, r⟩ := id h3
    refine ⟨[e, d], fun b hb => ?_, fun b o q => of_hideAll _ q, hideAll_none _ (by simp), some d, a0, k _ _ he, .inr ⟨d, m, rfl, h1, hideAll_none _ (by simp), ⟨o, es, ep, k _ _ ho, r⟩, h4⟩⟩
    simp only [List.mem_cons, List.not_mem_nil, or_false] at hb
    rcases hb with rfl | rfl
    · exact ⟨S2, _, he⟩
    · exact ⟨h2, _, ho⟩
set_option tactic.hygienic true in
theorem ExS.down {l : List Addr} (S : ExS (hideAll h₁ l) h' e Cx ns) (hl : ∀ b ∈ l, g.get? b = none) (k : ∀ b o, g.get? b = some o → h₁.get? b = some o) : ExS g h' e Cx ns := by
  have kk : ∀ b o, g.get? b = some o → (hideAll h₁ l).get? b = some o := fun b o q => hideAll_get _ (k b o q) fun z => by rw [hl b z] at q; cases q
  have kn : ∀ b, (hideAll h₁ l).get? b = none → g.get? b = none := fun b q => by
    cases z : g.get? b with
    | none => rfl
    | some o => rw [kk b o z] at q; cases q
  obtain ⟨S1, S2, dd, a0, he, hd⟩ := S
  exact ⟨fun b o q => S1 b o (kk b o q), kn _ S2, dd, a0, he, hd.imp id fun ⟨d, m, h0, h1, h2, r, r'⟩ => ⟨d, m, h0, h1, kn _ h2, r, r'⟩⟩
noncomputable abbrev initB (attr z : Str) (p0 p1 p2 p3 p4 p5 p6 p7 p8 p9 : Pos) : List Stmt :=
  [.Expr (.Call (.Attribute (.Call (.Name "super" p0) [] [] p1) "__init__" p2) [.Name "what" p3] [] p4) p5, .Assign [.Attribute (.Name "self" p6) attr p7] (.Name z p8) p9]
noncomputable def SupOk (C : Cfg) (n : Nat) (e Cx D : Addr) (v : Value) (ns ns' : List Str) : Prop :=
  ∀ (A' : Around) (s' : Shared) (g' : Heap) (so : Addr) (pl : Sem Bool) (env : Env) (p3 p4 : Pos) (Q : Value → Shared → Prop) (E' : Value → Shared → Prop), A'.depth + n < recursionLimit → (∀ b o, C.base.get? b = some o → g'.get? b = some o) → ExS g' s'.heap e Cx ns → g'.get? so = some (supO D e Cx) →
    (∀ (A'' : Around) (s'' : Shared) (Q : Value → Shared → Prop) (E : Value → Shared → Prop), (∀ b o, g'.get? b = some o → s''.heap.get? b = some o) → Q v s'' → wpAny (model C.prog C.w) A'' (eval (.Name "what" p3) env) Q E s'') →
    (∀ h' tk u, ExS g' h' e Cx ns' → Q u { s' with heap := h', toks := tk }) →
    wpAny (model C.prog C.w) A' (getMethod (.ref so) "__init__" pl) (fun fx s₂ => wpAny (model C.prog C.w) A' (callWith p4 fx.1 fx.2 (backTo p4 (starEach [.Name "what" p3] env)) []) Q E' s₂) E' s'
structure PyOk (C : Cfg) : Prop where
  file : ((C.prog.main.file : Str) == ("/claim/cut.py" : Str)) = true
  top : (C.prog.main.scope.names.lookup ("super" : Str)).isSome = false
set_option tactic.hygienic true in
theorem init_fn {f cc cda D : Addr} {name qual : Str} {params : Arguments} {scope : Scope} {dV kV doc pm ct oc ccl cl : Value} {an od cdd cld : Option Addr} {osl ccs csl : Array (Option Value)} {attr z : Str} {p0 p1 p2 p3 p4 p5 p6 p7 p8 p9 : Pos} {names : List Str} {vals : List Value} {v vz : Value}
    {ar : Arg} {vs : Array Value} {tf : Tok} {cdD : ClassData} {n : Nat} {R : Result → Shared → Prop} (hP : PyOk C)
    (ho : C.K.lookup f = some ⟨oc, od, .func (ksFn name qual params (initB attr z p0 p1 p2 p3 p4 p5 p6 p7 p8 p9) scope dV kV doc pm an (.ref cda) ct cc), osl⟩) (hcd : codeIn C.K (.ref cda) qual = true)
    (hp : (params.posonlyargs ++ params.args).head? = some ar) (har : ar.arg = "self") (hcode : C.K.lookup cda = some ⟨ccl, cdd, .fields vs, ccs⟩) (hvs : vs[2]? = some (.str "/claim/cut.py" tf))
    (hcell : C.K.lookup cc = some ⟨cl, cld, .cell (some (.ref D)), csl⟩) (hD : clsIn C.K D = some cdD) (hsub : mroIn C.K Cx (.ref D) = some true) (hsuper : nsIn C.K mainGlobals "super" = some none)
    (hk : ExK C.K Cx attr) (hb : bindArgs (ksFn name qual params (initB attr z p0 p1 p2 p3 p4 p5 p6 p7 p8 p9) scope dV kV doc pm an (.ref cda) ct cc) ⟨.ref e :: vals, []⟩ = pure (names.zip (.ref e :: vals)))
    (s1 : scope.names.lookup ("super" : Str) = some .globalImplicit) (s2 : scope.names.lookup ("__class__" : Str) = some .free) (s3 : scope.names.lookup ("self" : Str) = some .local) (s4 : scope.names.lookup ("what" : Str) = some .local) (s5 : scope.names.lookup z = some .local)
    (hloc : ∀ x ∈ names, scope.names.lookup x = some .local) (hcellN : ∀ x ∈ scope.names, x.2 ≠ .cell) (hco : scope.isCoroutine = false) (hgen : scope.isGenerator = false) (hkd : scope.kind = .function)
    (m1 : (names.zip (.ref e :: vals)).reverse.lookup ("self" : Str) = some (.ref e)) (m2 : (names.zip (.ref e :: vals)).reverse.lookup ("what" : Str) = some v) (m3 : (names.zip (.ref e :: vals)).reverse.lookup z = some vz)
    (hcall : ∀ env, ∃ pl, eval (.Call (.Attribute (.Call (.Name "super" p0) [] [] p1) "__init__" p2) [.Name "what" p3] [] p4) env = (do
      let ov ← attributeBase (.Call (.Name "super" p0) [] [] p1) "__init__" env (eval (.Call (.Name "super" p0) [] [] p1) env)
      standAt p2.atName
      let (f, first) ← holding [ov] (getMethod ov "__init__" pl)
      callWith p4 f first (backTo p4 (starEach [.Name "what" p3] env)) [])) (hat : (z == ("__debug__" : Str)) = false) (hsup : SupOk C n e Cx D v ns ns') (hn : ns'.length ≤ 10) (hA : A.depth + n + 1 < recursionLimit)
    (S : ExS g s.heap e Cx ns) (hg : ∀ b o, C.base.get? b = some o → g.get? b = some o)
    (q : ∀ h' tk, ExS g h' e Cx (attr :: ns') → R (.ok (.ret .none)) { s with heap := h', toks := tk }) :
    codeAny (model C.prog C.w) A (.call (.ref f) ⟨.ref e :: vals, []⟩) R s := by
  have S₀ := S
  obtain ⟨S1, S2, dd, a0, he, -⟩ := S
  have kb : ∀ b o, C.base.get? b = some o → s.heap.get? b = some o := fun b o q => S1 b o (hg b o q)
  refine ks_codeAny_call_defAt (by lia -matchEqs) (kb _ _ (C.X _ _ ho)) rfl (C.T.nolimit.keeps kb) ((codeRec_of C.X hcd).keeps kb) rfl (BindsTo.of_eq hb) hcellN (fun x hx => hloc _ (zip_keys _ (List.mem_map_of_mem hx))) (fun h₀ hns hk₀ => ?_) hco hgen hkd
  obtain ⟨env, henv⟩ : ∃ env : Env, env = callEnv (ksFn name qual params (initB attr z p0 p1 p2 p3 p4 p5 p6 p7 p8 p9) scope dV kV doc pm an (.ref cda) ct cc) s.heap.objs.size f := ⟨_, rfl⟩
  have he1 : env.scope = scope := by rw [henv]; rfl
  have he2 : env.locals = s.heap.objs.size := by rw [henv]; rfl
  have he3 : env.globals = mainGlobals := by rw [henv]; rfl
  have he4 : env.builtins = builtinsNs := by rw [henv]; rfl
  have he5 : env.func = some f := by rw [henv]; rfl
  have he6 : env.code = .ref cda := by rw [henv]; rfl
  have he7 : env.cells.lookup ("__class__" : Str) = some cc := by rw [henv]; rfl
  rw [← henv]
  have hkf : env.scope.kind = .function := by rw [he1]; exact hkd
  have kOf : ∀ x, env.kindOf x = scope.names.lookup x := fun x => by unfold Env.kindOf; rw [he1]
  have kb₀ : ∀ b o, C.base.get? b = some o → h₀.get? b = some o := fun b o q => hk₀ b o (kb b o q)
  obtain ⟨oD, hD1, hD2⟩ : ∃ oD, C.base.get? D = some oD ∧ oD.data = .cls cdD := by
    unfold clsIn at hD
    split at hD
    · rename_i c d cd' sl ho
      cases hD
      exact ⟨_, C.X _ _ ho, rfl⟩
    · cases hD
  obtain ⟨pl, hpl⟩ := hcall env
  refine ks_wpAt_execs_cons (ks_wpAt_Expr_any (ks_wpAt_MethodCall (pl := pl) (ks_wpAt_super_base (env := env) ((kOf _).trans s1) ((kOf _).trans s2) (by decide +kernel) he5 (kb₀ _ _ (C.X _ _ ho)) rfl hp he6 (kb₀ _ _ (C.X _ _ hcode)) rfl hvs hP.file hP.top ?_) hpl) (by unfold interactive; rw [hkf]; rfl) (by rfl))
  refine ks_loadName_global hkf ((kOf _).trans s1) (loadGlobal_builtin (by rw [he3]; exact C.T.g.keeps kb₀) (mg_none_of C.X C.T.g hsuper) (by rw [he4]; exact C.T.b.keeps kb₀) ((C.T.builtins _ (by decide +kernel)).trans (show bootBuiltins ("super" : Str) = some (.type "super") by rfl)) ⟨rfl, ?_⟩)
  refine wpAny_loadName_free hkf ((kOf _).trans s2) he7 ⟨_, kb₀ _ _ (C.X _ _ hcell), rfl⟩ ?_
  have hnsL : h₀.Ns env.locals (fun x => (names.zip (.ref e :: vals)).reverse.lookup x) := by rw [he2]; exact hns
  rw [har]
  refine wpAny_loadName_local hkf ((kOf _).trans s3) hnsL m1 ?_
  refine ks_wpAny_isType_cls (kb₀ _ _ hD1) hD2 ⟨rfl, ?_⟩
  have hx₀ := hk₀ _ _ he
  refine ks_wpAny_call_super (kb₀ _ _ hD1) hD2 hx₀ rfl (fun c z => by cases z) (looks_mroIn (C.X.keeps kb₀) hsub) fun h₁ hso k₁ => ?_
  have k01 : ∀ b o, s.heap.get? b = some o → h₁.get? b = some o := fun b o q => k₁ b o (hk₀ b o q)
  obtain ⟨l, hl, S₁⟩ := S₀.up k01
  have out : ∀ b : Addr, s.heap.get? b = none → b ∉ l := fun b hb hm => by obtain ⟨_, o, ho⟩ := hl b hm; rw [hb] at ho; cases ho
  have hL : s.heap.get? env.locals = none := by rw [he2]; exact Heap.get?_none_of_le (Nat.le_refl _)
  have hS : s.heap.get? h₀.objs.size = none := by
    cases z : s.heap.get? h₀.objs.size with
    | none => rfl
    | some o => exact absurd (Heap.lt_size (hk₀ _ _ z)) (Nat.lt_irrefl _)
  have hgg : ∀ b o, g.get? b = some o → h₁.get? b = some o := fun b o q => k01 b o (S1 b o q)
  have hbg : ∀ b o, C.base.get? b = some o → (hideAll h₁ l).get? b = some o := fun b o q => hideAll_get _ (hgg b o (hg b o q)) fun z => by
    have := (hl b z).1; rw [hg b o q] at this; cases this
  have nsL : (hideAll h₁ l).Ns env.locals (fun x => (names.zip (.ref e :: vals)).reverse.lookup x) := by
    obtain ⟨o, es, ep, ho, r⟩ := hnsL
    exact ⟨o, es, ep, hideAll_get _ (k₁ _ _ ho) (out _ hL), r⟩
  refine hsup (A.deeper env) { s with heap := h₁, toks := _ } (hideAll h₁ l) h₀.objs.size _ env p3 p4 _ _ ?_ hbg S₁ (hideAll_get _ hso (out _ hS)) (fun A'' s'' Q E k q => ?_) fun h' tk u S' => ?_
  · show A.depth + 1 + n < _; lia -matchEqs
  · exact wpAny_Name (wpAny_loadName_local hkf ((kOf _).trans s4) (nsL.keeps k) m2 q) (by decide +kernel)
  refine _root_.PySem.wpAt_of_wpAny (wpAny_execs_cons (plainObj_wpAny_Assign_Attribute ?_ (by rfl)))
  have k' : ∀ b o, (hideAll h₁ l).get? b = some o → h'.get? b = some o := S'.1
  refine wpAny_Name (wpAny_loadName_local hkf ((kOf _).trans s5) (nsL.keeps k') m3 ?_) hat
  refine wpAny_Name (wpAny_loadName_local hkf ((kOf _).trans s3) (nsL.keeps k') m1 ?_) (by decide +kernel)
  refine exn_set (C.X.keeps fun b o q => k' b o (hbg b o q)) hk S' hn (fun z => ?_) fun h'' tk' S'' => wpAny_execs_nil (q h'' tk' (S''.down (fun b hb => (hl b hb).1) hgg))
  obtain ⟨cd, _, _, hc, _⟩ := hk.cd
  unfold clsIn at hc
  split at hc
  · rename_i c d cd' sl ho
    have := hg _ _ (C.X _ _ ho)
    rw [← z, S2] at this; cases this
  · cases hc
end
end Tl
end

section
open PySem PySem.W PySem.Calls PyProof.Rows
set_option linter.unusedVariables false
set_option maxRecDepth 100000
set_option maxHeartbeats 2000000
namespace Tl
section
variable {C : Cfg} {A : Around} {E : Value → Shared → Prop} {s : Shared} {g h h₁ h' : Heap} {e Cx : Addr} {ns ns' : List Str}
set_option tactic.hygienic true in
theorem exk_ne {name : Str} (k : ExK C.K Cx name) (hg : ∀ b o, C.base.get? b = some o → g.get? b = some o) (he : g.get? e = none) : e ≠ Cx := fun z => by
  obtain ⟨cd, _, _, hc, _⟩ := k.cd
  unfold clsIn at hc
  split at hc
  · rename_i c d cd' sl ho
    have := hg _ _ (C.X _ _ ho)
    rw [← z, he] at this; cases this
  · cases hc
theorem sup_fn {D f2 : Addr} {name : Str} {n : Nat} {v : Value} {oc : Value} {od : Option Addr} {fd : FuncData} {osl : Array (Option Value)} {cd : ClassData} (k : ExK C.K Cx name) (hop : nsIn C.K cStatics "thirdparty.any" = some none)
    (hc : clsIn C.K Cx = some cd) (hf : alongIn C.K "__init__" ((cd.mro.dropWhile (· != .ref D)).drop 1) = some (some (.ref f2))) (hof : C.K.lookup f2 = some ⟨oc, od, .func fd, osl⟩) (hoc : oc = .type "function") (hfn : fnIn C.K f2 = true)
    (hcall : ∀ (A' : Around) (s' : Shared) (g' : Heap) (R : Result → Shared → Prop), A'.depth + n < recursionLimit → (∀ b o, C.base.get? b = some o → g'.get? b = some o) → ExS g' s'.heap e Cx ns →
      (∀ h' tk, ExS g' h' e Cx ns' → R (.ok (.ret .none)) { s' with heap := h', toks := tk }) → codeAny (model C.prog C.w) A' (.call (.ref f2) ⟨[.ref e, v], []⟩) R s') : SupOk C n e Cx D v ns ns' := by
  intro A' s' g' so pl env p3 p4 Q E' hA hg S hso hev hq
  obtain ⟨hh, gg, dr, t, os⟩ := s'
  have kg : ∀ b o, g'.get? b = some o → hh.get? b = some o := S.1
  have kb : ∀ b o, C.base.get? b = some o → hh.get? b = some o := fun b o q => kg b o (hg b o q)
  have X := C.X.keeps kb
  refine ks_wpAny_getMethod_super (kg _ _ hso) (looks_opaque X hop) (l₀ := cd.mro) ((looks_clsIn X hc).andThen .now) rfl X hf (kb _ _ (C.X _ _ hof)) hoc (exk_ne k hg S.2) (by decide +kernel) ?_
  obtain ⟨l, hl, S₁⟩ := S.up (h₁ := hh.push { cls := .type "method", data := .fields #[.ref f2, .ref e] }) fun b o q => Heap.get?_push_of_some _ q
  have kgl : ∀ b o, g'.get? b = some o → (hh.push { cls := .type "method", data := .fields #[.ref f2, .ref e] }).get? b = some o := fun b o q => Heap.get?_push_of_some _ (kg b o q)
  have M : MethP C.K hh.objs.size f2 (.ref e) (hh.push { cls := .type "method", data := .fields #[.ref f2, .ref e] }) := ⟨Heap.get?_push_at rfl rfl, C.X.keeps fun b o q => Heap.get?_push_of_some _ (kb b o q)⟩
  refine callWith_of (P := MethP C.K hh.objs.size f2 (.ref e)) rfl (keeps_M hfn) (evalArgs_plain (wpAny_items_cons (hev _ _ _ _ kgl (wpAny_items_nil ⟨M, ?_⟩)) rfl))
  refine wpAny_call (ks_codeAny_call_bound M.1 (hcall _ ⟨_, gg, dr, t + 1, os⟩ (hideAll _ l) _ hA (fun b o q => hideAll_get _ (kgl b o (hg b o q)) fun z => by have := (hl b z).1; rw [hg b o q] at this; cases this) S₁ fun h' tk S' => ?_))
  exact hq h' tk _ (S'.down (fun b hb => (hl b hb).1) kgl)
theorem sup_bi {D : Addr} {name : Str} {n : Nat} {v : Value} {cd : ClassData} {oC : Obj} (k : ExK C.K Cx name) (hop : nsIn C.K cStatics "thirdparty.any" = some none)
    (hc : clsIn C.K Cx = some cd) (hC : C.K.lookup Cx = some oC) (hCd : oC.data = .cls cd) (hf : alongIn C.K "__init__" ((cd.mro.dropWhile (· != .ref D)).drop 1) = some (some (.builtin "Exception.__init__"))) (hsub : mroIn C.K Cx (.type "Exception") = some true) : SupOk C n e Cx D v ns ns := by
  intro A' s' g' so pl env p3 p4 Q E' hA hg S hso hev hq
  obtain ⟨hh, gg, dr, t, os⟩ := s'
  have kg : ∀ b o, g'.get? b = some o → hh.get? b = some o := S.1
  have kb : ∀ b o, C.base.get? b = some o → hh.get? b = some o := fun b o q => kg b o (hg b o q)
  have X := C.X.keeps kb
  obtain ⟨S1, S2, dd, a0, he, hd⟩ := id S
  refine sup_method (kg _ _ hso) (looks_opaque X hop) (l₀ := cd.mro) ((looks_clsIn X hc).andThen .now) rfl X hf he rfl (looks_mroIn X hsub) (exk_ne k hg S.2) ?_
  have up : ∀ b o, hh.get? b = some o → (hh.push (mwO e)).get? b = some o := fun b o q => Heap.get?_push_of_some _ q
  have kgl : ∀ b o, g'.get? b = some o → (hh.push (mwO e)).get? b = some o := fun b o q => up b o (kg b o q)
  have hq' : (hh.push (mwO e)).get? hh.objs.size = some (mwO e) := Heap.get?_push_at rfl rfl
  refine callWith_of (P := fun h => h = hh.push (mwO e)) rfl (fun h z => ⟨.machine, .inr (.inl rfl), ?_⟩) (evalArgs_plain (wpAny_items_cons (hev _ _ _ _ kgl (wpAny_items_nil ⟨rfl, ?_⟩)) rfl))
  · subst z; exact (Looks.ld (part := none) hq').andThen .now
  refine mw_call hq' (up _ _ he) (up _ _ (kb _ _ (C.X _ _ hC))) hCd fun h' k1 k2 => hq h' _ _ ?_
  refine ⟨fun b o q => k1 b o (fun z => by rw [z, S2] at q; cases q) (kgl b o q), S2, dd, _, k2, hd.imp id fun ⟨d, m, h0, h1, h2, h3, h4⟩ => ⟨d, m, h0, h1, h2, h3.at fun o q => k1 d o h1 (up d o q), h4⟩⟩
end
end Tl
end

section
open PySem PySem.W PySem.Calls PyProof.Rows
set_option linter.unusedVariables false
set_option maxRecDepth 100000
set_option maxHeartbeats 2000000
namespace Tl
section
variable {M : Model} {A : Around} {E : Value → Shared → Prop} {env : Env}
variable {nm q : Str} {C N : Addr} {bs bm bmB : List Value} {hdct : Bool} {sn : List Str} {sub : List Value} {ab : Bool} {col : Option Bool} {dd : Option Addr} {k0 k1 k2 k3 k5 : Option Value} {B newId initId : String}
theorem raise_stmt {s : Shared} {x : Sem Value} {Q : Flow → Shared → Prop} (hb : bm.contains (.type "BaseException") = true) (hh : A.handled = none)
    (h : wpAny M A x (fun v s₁ => X3 fun e d0 a0 => A4 (v = .ref e) (s₁.heap.get? C = some (excClassObj nm q C N bs bm hdct sn sub ab col dd k0 k1 k2 k3 k5 newId)) (s₁.heap.get? e = some (excO C d0 a0)) (E (.ref e) s₁)) E s) :
    wpAny M A (raiseStmt env (some x) none) Q E s := by
  have hcB : (Value.ref C :: bm).contains (.type "BaseException") = true := by rw [List.contains_cons, hb, Bool.or_true]
  unfold raiseStmt
  refine wpAny_bind (wpAny_mono h (fun v s₁ h₁ => ?_) fun ζ ζ x => x)
  obtain ⟨e, d0, a0, rfl, hC, he, hE⟩ := h₁
  obtain ⟨hp, g, d, tk, os⟩ := s₁
  repeat (first | with_reducible refine wpAny_loadPart_at he ?_ | with_reducible refine wpAny_loadPart_at hC ?_ | (refine wpAny_isSubtype_exc hC ?_; rw [hcB]) | wp_step)
  exact wpAny_raiseNew_none hh hE
end
section
variable {C : Cfg} {k : Nat} {sc : Scope} {fr : Fm} {p : P} {X : P → Prop}
variable {nm q : Str} {N : Addr} {bs bm bmB : List Value} {hdct : Bool} {sn : List Str} {sub : List Value} {ab : Bool} {col : Option Bool} {dd : Option Addr} {k0 k1 k2 k3 k5 : Option Value} {B newId initId : String}
theorem T1_Raise {x m : Str} {i : Int} {np p4 pos : Pos} {e1 e2 : Expr} {fI : Addr} {od : Option Addr} {fd : FuncData} {osl : Array (Option Value)} {ns : List Str} {Q : Fl → Fm → P → Prop} (hk : sc.names.lookup x = some .globalImplicit) (hg : nsIn C.K mainGlobals x = some (some (.ref C.exc))) (hkp : keepIn C.K (.ref C.exc) = true)
    (FB : ExcBaseFacts B newId initId bmB) (hC : C.K.lookup C.exc = some (excClassObj nm q C.exc N bs bm hdct sn sub ab col dd k0 k1 k2 k3 k5 newId))
    (h0 : bm.contains (.type "BaseException") = true) (h1 : bm.contains (.type B) = true) (h2 : bm.contains (.type "AttributeError") = false) (h3 : bm.contains (.type "NameError") = false)
    (hi : findIn C.K (.ref C.exc) "__init__" = some (some (.ref fI))) (hf : C.K.lookup fI = some ⟨.type "function", od, .func fd, osl⟩)
    (hcall : ∀ (t u : Tok) (A' : Around) (s' : Shared) (g' : Heap) (e : Addr) (R : Result → Shared → Prop), A'.depth + 4 < recursionLimit → (∀ b o, C.base.get? b = some o → g'.get? b = some o) → ExS g' s'.heap e C.exc [] →
      (∀ h' tk, ExS g' h' e C.exc ns → R (.ok (.ret .none)) { s' with heap := h', toks := tk }) → codeAny (model C.prog C.w) A' (.call (.ref fI) ⟨[.ref e, .str m t, .int i u], []⟩) R s')
    (h : TAs C (k + 3) sc fr p [e1, e2] (fun vs p₁ => vs = [.str m, .int i] ∧ X p₁) X)
    (he : ∀ env, starEach [e1, e2] env = (false, eval e1 env) :: starEach [e2] env) (hpl : ∀ env, (backTo p4 (starEach [e2] env)).any (·.1) = false) (hd : (x == ("__debug__" : Str)) = false) :
    T1 C (k + 3) sc fr p (.Raise (some (.Call (.Name x np) [e1, e2] [] p4)) none pos) Q X := by
  intro env A F s hs R I f
  rw [arm_exec_Raise]
  refine wpAny_bind (wpAny_standAt ?_)
  refine raise_stmt (C := C.exc) (M := model C.prog C.w) (nm := nm) (q := q) (N := N) (bs := bs) (bm := bm) (hdct := hdct) (sn := sn) (sub := sub) (ab := ab) (col := col) (dd := dd) (k0 := k0) (k1 := k1) (k2 := k2) (k3 := k3) (k5 := k5) (newId := newId) h0 R.handled ?_
  refine wpAny_bind (wpAny_mono (E := PostX C (own env) F p s X) ?_ (fun v s₁ z => wpAny_bind (wpAny_standAt (wpAny_pure z))) fun ζ ζ z => z)
  refine wpAny_Call_ofName (name_global I f (by unfold Env.kindOf; rw [hs]; exact hk) hg ?_ hd)
  refine callWith_K (first := []) (C.X.keeps I.keep) hkp (wp_then (h env A F s p4 hs R I f) (fun vs' s₁ vs p₁ ⟨hvs, q⟩ I₁ S₁ r m₁ => ⟨C.X.keeps I₁.keep, ?_⟩) fun ζ ζ z => z.own I f) (he env) (hpl env)
  subst hvs
  have a₁ := At.step ⟨R, I, f⟩ S₁ I₁
  obtain ⟨v1, v2, rfl, r1, r2⟩ := two_args r
  replace r1 := VR.inv r1; obtain ⟨t, rfl⟩ := r1
  replace r2 := VR.inv r2; obtain ⟨u, rfl⟩ := r2
  obtain ⟨hh, gg, dr, tk, os⟩ := s₁
  have I₁' : Inv C F p₁ hh := I₁
  have X₁ := C.X.keeps I₁'.keep
  refine exn_call FB (X₁ _ _ hC) h1 h2 h3 (looks_findIn X₁ hi) (X₁ _ _ hf) rfl (fun h' e hm => wpAny_call ?_) (by rw [sizeLine_eq]; simp)
  obtain ⟨km, kn, t0, ht, htn, -⟩ := hm
  have S₀ : ExS hh h' e C.exc [] := ⟨km, kn, none, _, ht, .inl rfl⟩
  have hroom := (room_call (k := k + 2) (Cl := C.exc) (rest := [.str m t, .int i u]) (kw := []) a₁.room).depth
  refine hcall t u _ ⟨h', gg, dr, tk, os⟩ hh e _ (by show (A.under (.builtin "type.__call__" ⟨[.ref C.exc, .str m t, .int i u], []⟩)).depth + 4 < _; lia -matchEqs) I₁'.keep S₀ fun h'' tk' S'' => ⟨rfl, ?_⟩
  obtain ⟨s1, s2, d0, a0, he0, -⟩ := S''
  refine ⟨e, d0, a0, rfl, s1 _ _ (X₁ _ _ hC), he0, ?_⟩
  have nF : ¬ F e := fun z => by obtain ⟨o, ho⟩ := I₁'.ex e z; rw [kn] at ho; cases ho
  have S2 : Step (own env) p₁ hh p₁ h'' := fun b o q np ζ => ⟨.of (s1 b o q), np⟩
  have m₂ : Same s ⟨h'', gg, dr, tk', os⟩ := m₁.trans (Same.mk ⟨hh, gg, dr, tk, os⟩ h'' tk')
  have ne : ∀ b o, s.heap.get? b = some o → p b = none → b ≠ e := fun b o hb hp z => by
    obtain ⟨⟨_, q1, _⟩, _⟩ := S₁ b o hb hp fun y => y
    rw [z, kn] at q1; cases q1
  refine ⟨p₁, e, e, rfl, q, I₁'.mark s1 (fun a o ha hF => by rcases hF with z | z | z; exact z; exact absurd ha (by rw [z, kn]; simp); exact absurd ha (by rw [z, kn]; simp)) (fun a ha => ?_), S₁.of.trans S2, fun b z => ?_, fun b o hb hp ζ ζ => ⟨ne b o hb hp, ne b o hb hp⟩, nF, nF, ⟨_, _, a0, he0, rfl, rfl, rfl, .inl ⟨rfl, rfl⟩⟩, m₂⟩
  · rcases ha with ha | rfl | rfl
    · obtain ⟨o, ho⟩ := I₁'.ex a ha; exact ⟨o, s1 _ _ ho⟩
    · exact ⟨_, he0⟩
    · exact ⟨_, he0⟩
  · obtain ⟨o, ho, hd'⟩ := own_there a₁.frm z
    exact ⟨o, s1 _ _ ho, hd'⟩
end
end Tl
end

section
open PySem PySem.W PySem.Calls PyProof.Rows
set_option maxRecDepth 100000
namespace Tl
section
noncomputable abbrev pw : Program := PySem.Challenge.pw_no0330_01
noncomputable def st (i : Nat) : Stmt := (pw.main.body[i]?).getD (.Pass default)
noncomputable def cb : Stmt → List Stmt
  | .ClassDef _ _ _ b .. => b
  | _ => []
noncomputable def st2 (i j : Nat) : Stmt := ((cb (st i))[j]?).getD (.Pass default)
noncomputable abbrev zI (i : Int) : Value := .int i 0
noncomputable abbrev zS (s : String) (t : Nat) : Value := .str (Str.ofString s) t
noncomputable abbrev zE (P : Params) (s : String) (t : Nat) (v : Value) : DictEntry := ⟨PyData.keyHash P (Str.ofString s), .str (Str.ofString s) t, v⟩
noncomputable abbrev tO (l : List Value) : Obj := { cls := .type "tuple", data := .seq l.toArray }
noncomputable abbrev eO : Obj := { cls := .none, data := .fields #[] }
noncomputable abbrev lO (l : List Value) : Obj := { cls := .none, data := .fields l.toArray }
noncomputable def fdef (qn : Str) (g : Addr) (cl : List (Str × Addr)) (ct pm cd : Value) : Stmt → Data
  | .FunctionDef n a b _ _ _ sc _ _ _ => .func { name := n, qualname := if qn == Str.empty then n else qn, params := a, body := .stmts b, scope := sc, globals := g, closure := cl, defaults := .none, kwdefaults := .none, pyModule := pm, code := cd, closureTuple := ct }
  | _ => .plain
noncomputable def dO (s : Stmt) : Obj := { cls := .none, data := fdef Str.empty 0 [] .none .none .none s }
noncomputable def dM (qn : String) (s : Stmt) : Obj := { cls := .none, data := fdef (Str.ofString qn) 0 [] .none .none .none s }
noncomputable def fO (pm : String) (t cd : Nat) (s : Stmt) : Obj := { cls := .type "function", data := fdef Str.empty 3 [] .none (zS pm t) (.ref cd) s }
noncomputable def fM (pm : String) (t cd : Nat) (qn : String) (s : Stmt) : Obj := { cls := .type "function", data := fdef (Str.ofString qn) 3 [] .none (zS pm t) (.ref cd) s }
noncomputable def fC (cl : List (String × Addr)) (ct : Value) (pm : String) (t cd : Nat) (qn : String) (s : Stmt) : Obj := { cls := .type "function", data := fdef (Str.ofString qn) 3 (cl.map fun x => (Str.ofString x.1, x.2)) ct (zS pm t) (.ref cd) s }
noncomputable def cM (n qn : String) (a : Nat) (l ac fl : Int) (fr x : Addr) (v1 v2 : Value) (df : Addr) (z : Nat) : Obj := { cls := .type "code", data := .fields #[zS n a, zS qn (a + 1), zS "/claim/cut.py" (a + 2), zI l, zI ac, zI 0, zI 0, zI fl, .ref fr, .bool true, zI 181, .ref x, .none, v1, v2, .ref df, zI z, zI l, zS "/claim/cut.py" (z + 1)] }
noncomputable abbrev cO (n : String) := cM n n
noncomputable def o2 (P : Params) : Obj := {cls := .none, data := .dict #[zE P "type.__subclasses__.Exception.0" 519 (zI 233), zE P "type.__subclasses__.Exception.n" 520 (zI 1)] 2}
noncomputable def o3 (P : Params) : Obj := {cls := (.type "dict"), data := .dict #[zE P "__name__" 165 (zS "law_no0330_01" 733), zE P "__doc__" 166 .none, zE P "__package__" 167 .none, zE P "__loader__" 168 (.builtin "__main__.__loader__#opaque"), zE P "__spec__" 169 .none, zE P "__annotations__" 170 (.ref 6), zE P "__builtins__" 171 (.ref 4), zE P "__file__" 173 (zS "/claim/cut.py" 172), zE P "__cached__" 174 .none, zE P "_wall" 193 (.ref 21), zE P "LINEAR" 199 (.ref 22), zE P "ARITH" 206 (.ref 23), zE P "CHOICES" 212 (.ref 24), zE P "COUNTS" 217 (.ref 25), zE P "TIMES" 220 (.ref 26), zE P "ORDERS" 225 (.ref 27), zE P "values_of" 231 (.ref 32), zE P "quotient_of" 240 (.ref 39), zE P "linear_holds" 255 (.ref 46), zE P "arith_holds" 268 (.ref 53), zE P "is_round" 278 (.ref 60), zE P "are_inverse" 289 (.ref 67), zE P "choice_holds" 300 (.ref 74), zE P "count_holds" 306 (.ref 79), zE P "need_at" 312 (.ref 84), zE P "time_holds" 318 (.ref 89), zE P "is_accepted" 334 (.ref 96), zE P "order_holds" 340 (.ref 101), zE P "logic_holds" 349 (.ref 108), zE P "holds" 358 (.ref 115), zE P "listed_vars" 366 (.ref 122), zE P "vars_of" 375 (.ref 129), zE P "put_behind" 386 (.ref 136), zE P "from_values" 395 (.ref 143), zE P "size" 401 (.ref 148), zE P "next_from" 411 (.ref 155), zE P "has" 419 (.ref 162), zE P "values" 429 (.ref 169), zE P "up_to" 435 (.ref 174), zE P "from_on" 441 (.ref 179), zE P "without" 449 (.ref 186), zE P "meet" 462 (.ref 193), zE P "negation" 472 (.ref 200), zE P "struck" 482 (.ref 207), zE P "FdError" 522 (.ref 233), zE P "ProofFault" 557 (.ref 262), zE P "divisor_of" 567 (.ref 271), zE P "Box" 638 (.ref 323), zE P "StepJudge" 732 (.ref 383), zE P "_law_draw" 744 (.ref 394), zE P "_law_pick" 752 (.ref 401), zE P "_law_lots" 763 (.ref 408), zE P "_law_told" 769 (.ref 413), zE P "_law_keeps" 775 (.ref 418), zE P "_law_says" 785 (.ref 425), zE P "_law_clause" 795 (.ref 432), zE P "_law_left" 801 (.ref 437), zE P "_law_answer" 810 (.ref 444), zE P "law" 816 (.ref 449)] 59}
noncomputable def o20 : Obj := cO "_wall" 187 1 1 3 15 16 (.ref 17) (.ref 18) 19 191
noncomputable def o21 : Obj := fO "__main__" 164 20 (st 0)
noncomputable def o22 : Obj := tO [(zS "linear_le" 196), (zS "linear_eq" 197), (zS "linear_ne" 198)]
noncomputable def o23 : Obj := tO [(zS "times" 200), (zS "div" 201), (zS "mod" 202), (zS "abs" 203), (zS "max" 204), (zS "min" 205)]
noncomputable def o24 : Obj := tO [(zS "element" 207), (zS "element_of" 208), (zS "table" 209), (zS "inverse" 210), (zS "circuit" 211)]
noncomputable def o25 : Obj := tO [(zS "all_different" 213), (zS "count" 214), (zS "nvalue" 215), (zS "cardinality" 216)]
noncomputable def o26 : Obj := tO [(zS "cumulative" 218), (zS "disjunctive" 219)]
noncomputable def o27 : Obj := tO [(zS "lex_le" 221), (zS "lex_lt" 222), (zS "increasing" 223), (zS "precede" 224)]
noncomputable def o31 : Obj := cO "values_of" 226 11 2 3 28 29 .none .none 30 229
noncomputable def o32 : Obj := fO "fdsolve.answers" 194 31 (st 8)
noncomputable def o38 : Obj := cO "quotient_of" 232 13 2 3 33 34 (.ref 35) (.ref 36) 37 238
noncomputable def o39 : Obj := fO "fdsolve.answers" 194 38 (st 9)
noncomputable def o45 : Obj := cO "linear_holds" 241 16 2 3 40 41 (.ref 42) (.ref 43) 44 253
noncomputable def o46 : Obj := fO "fdsolve.answers" 194 45 (st 10)
noncomputable def o52 : Obj := cO "arith_holds" 256 24 2 3 47 48 (.ref 49) (.ref 50) 51 266
noncomputable def o53 : Obj := fO "fdsolve.answers" 194 52 (st 11)
noncomputable def o59 : Obj := cO "is_round" 269 38 1 3 54 55 (.ref 56) (.ref 57) 58 276
noncomputable def o60 : Obj := fO "fdsolve.answers" 194 59 (st 12)
noncomputable def o66 : Obj := cO "are_inverse" 279 46 2 3 61 62 (.ref 63) (.ref 64) 65 287
noncomputable def o67 : Obj := fO "fdsolve.answers" 194 66 (st 13)
noncomputable def o73 : Obj := cO "choice_holds" 290 52 2 3 68 69 (.ref 70) (.ref 71) 72 298
noncomputable def o74 : Obj := fO "fdsolve.answers" 194 73 (st 14)
noncomputable def o78 : Obj := cO "count_holds" 301 63 2 3 75 76 .none .none 77 304
noncomputable def o79 : Obj := fO "fdsolve.answers" 194 78 (st 15)
noncomputable def o83 : Obj := cO "need_at" 307 72 4 3 80 81 .none .none 82 310
noncomputable def o84 : Obj := fO "fdsolve.answers" 194 83 (st 16)
noncomputable def o88 : Obj := cO "time_holds" 313 74 2 3 85 86 .none .none 87 316
noncomputable def o89 : Obj := fO "fdsolve.answers" 194 88 (st 17)
noncomputable def o95 : Obj := cO "is_accepted" 319 80 2 3 90 91 (.ref 92) (.ref 93) 94 332
noncomputable def o96 : Obj := fO "fdsolve.answers" 194 95 (st 18)
noncomputable def o100 : Obj := cO "order_holds" 335 89 2 3 97 98 .none .none 99 338
noncomputable def o101 : Obj := fO "fdsolve.answers" 194 100 (st 19)
noncomputable def o107 : Obj := cO "logic_holds" 341 99 2 3 102 103 (.ref 104) (.ref 105) 106 347
noncomputable def o108 : Obj := fO "fdsolve.answers" 194 107 (st 20)
noncomputable def o114 : Obj := cO "holds" 350 108 2 3 109 110 (.ref 111) (.ref 112) 113 356
noncomputable def o115 : Obj := fO "fdsolve.answers" 194 114 (st 21)
noncomputable def o121 : Obj := cO "listed_vars" 359 129 1 3 116 117 (.ref 118) (.ref 119) 120 364
noncomputable def o122 : Obj := fO "fdsolve.answers" 194 121 (st 22)
noncomputable def o128 : Obj := cO "vars_of" 367 148 1 3 123 124 (.ref 125) (.ref 126) 127 373
noncomputable def o129 : Obj := fO "fdsolve.answers" 194 128 (st 23)
noncomputable def o135 : Obj := cO "put_behind" 378 155 3 3 130 131 (.ref 132) (.ref 133) 134 384
noncomputable def o136 : Obj := fO "fdsolve.domains" 376 135 (st 25)
noncomputable def o142 : Obj := cO "from_values" 387 161 1 3 137 138 (.ref 139) (.ref 140) 141 393
noncomputable def o143 : Obj := fO "fdsolve.domains" 376 142 (st 26)
noncomputable def o147 : Obj := cO "size" 396 166 1 3 144 145 .none .none 146 399
noncomputable def o148 : Obj := fO "fdsolve.domains" 376 147 (st 27)
noncomputable def o154 : Obj := cO "next_from" 402 168 2 3 149 150 (.ref 151) (.ref 152) 153 409
noncomputable def o155 : Obj := fO "fdsolve.domains" 376 154 (st 28)
noncomputable def o161 : Obj := cO "has" 412 173 2 3 156 157 (.ref 158) (.ref 159) 160 417
noncomputable def o162 : Obj := fO "fdsolve.domains" 376 161 (st 29)
noncomputable def o168 : Obj := cO "values" 420 175 1 3 163 164 (.ref 165) (.ref 166) 167 427
noncomputable def o169 : Obj := fO "fdsolve.domains" 376 168 (st 30)
noncomputable def o173 : Obj := cO "up_to" 430 180 2 3 170 171 .none .none 172 433
noncomputable def o174 : Obj := fO "fdsolve.domains" 376 173 (st 31)
noncomputable def o178 : Obj := cO "from_on" 436 182 2 3 175 176 .none .none 177 439
noncomputable def o179 : Obj := fO "fdsolve.domains" 376 178 (st 32)
noncomputable def o185 : Obj := cO "without" 442 184 2 3 180 181 (.ref 182) (.ref 183) 184 447
noncomputable def o186 : Obj := fO "fdsolve.domains" 376 185 (st 33)
noncomputable def o192 : Obj := cO "meet" 450 186 2 3 187 188 (.ref 189) (.ref 190) 191 460
noncomputable def o193 : Obj := fO "fdsolve.domains" 376 192 (st 34)
noncomputable def o199 : Obj := cO "negation" 463 197 1 3 194 195 (.ref 196) (.ref 197) 198 470
noncomputable def o200 : Obj := fO "fdsolve.domains" 376 199 (st 35)
noncomputable def o206 : Obj := cO "struck" 473 204 2 3 201 202 (.ref 203) (.ref 204) 205 480
noncomputable def o207 : Obj := fO "fdsolve.domains" 376 206 (st 36)
noncomputable def o211 : Obj := {cls := (.type "cell"), data := .cell (some (.ref 233))}
noncomputable def o222 : Obj := cM "__init__" "FdError.__init__" 497 214 2 3 217 218 (.ref 219) (.ref 220) 221 503
noncomputable def o223 : Obj := fC [("__class__", 211)] (.ref 216) "fdsolve.errors" 483 222 "FdError.__init__" (st2 38 0)
noncomputable def o229 : Obj := cM "told" "FdError.told" 506 218 1 3 224 225 (.ref 226) (.ref 227) 228 510
noncomputable def o230 : Obj := fM "fdsolve.errors" 483 229 "FdError.told" (st2 38 1)
noncomputable def o232 (P : Params) : Obj := {cls := (.type "dict"), data := .dict #[zE P "__module__" 492 (zS "fdsolve.errors" 483), zE P "__firstlineno__" 496 (.int 212 495), zE P "__init__" 505 (.ref 223), zE P "told" 512 (.ref 230), zE P "__static_attributes__" 514 (.ref 231), zE P "__weakref__" 517 (.ref 234), zE P "__doc__" 518 .none] 4}
noncomputable def o233 : Obj := {cls := (.type "type"), data := .cls {name := "FdError", bases := [(.type "Exception")], mro := [(.ref 233), (.type "Exception"), (.type "BaseException"), (.type "object")], ns := 232, qualname := "FdError", hasDict := true, slotNames := [], subclasses := [(.ref 262)], abstract := false, collection := none, hasDel := false}, slots := #[some (.ref 208), none, some (zS "FdError" 485), some (zS "FdError" 493), some (.builtin "Exception.__new__"), some (.bool true)]}
noncomputable def o240 : Obj := {cls := (.type "cell"), data := .cell (some (.ref 262))}
noncomputable def o251 : Obj := cM "__init__" "ProofFault.__init__" 535 222 3 3 246 247 (.ref 248) (.ref 249) 250 542
noncomputable def o252 : Obj := fC [("__class__", 240)] (.ref 245) "fdsolve.errors" 483 251 "ProofFault.__init__" (st2 39 0)
noncomputable def o258 : Obj := cM "told" "ProofFault.told" 545 226 1 3 253 254 (.ref 255) (.ref 256) 257 549
noncomputable def o259 : Obj := fM "fdsolve.errors" 483 258 "ProofFault.told" (st2 39 1)
noncomputable def o261 (P : Params) : Obj := {cls := (.type "dict"), data := .dict #[zE P "__module__" 530 (zS "fdsolve.errors" 483), zE P "__firstlineno__" 534 (.int 220 533), zE P "__init__" 544 (.ref 252), zE P "told" 551 (.ref 259), zE P "__static_attributes__" 553 (.ref 260), zE P "__doc__" 555 .none] 3}
noncomputable def o262 : Obj := {cls := (.type "type"), data := .cls {name := "ProofFault", bases := [(.ref 233)], mro := [(.ref 262), (.ref 233), (.type "Exception"), (.type "BaseException"), (.type "object")], ns := 261, qualname := "ProofFault", hasDict := true, slotNames := [], subclasses := [], abstract := false, collection := none, hasDel := false}, slots := #[some (.ref 237), none, some (zS "ProofFault" 523), some (zS "ProofFault" 531), some (.builtin "Exception.__new__"), some (.bool true)]}
noncomputable def o270 : Obj := cO "divisor_of" 560 229 2 3 265 266 (.ref 267) (.ref 268) 269 565
noncomputable def o271 : Obj := fO "fdsolve.proofs" 558 270 (st 41)
noncomputable def o284 : Obj := cM "__init__" "Box.__init__" 580 236 2 3 279 280 (.ref 281) (.ref 282) 283 585
noncomputable def o285 : Obj := fM "fdsolve.proofs" 558 284 "Box.__init__" (st2 42 0)
noncomputable def o291 : Obj := cM "domain" "Box.domain" 588 240 2 3 286 287 (.ref 288) (.ref 289) 290 593
noncomputable def o292 : Obj := fM "fdsolve.proofs" 558 291 "Box.domain" (st2 42 1)
noncomputable def o298 : Obj := cM "can_hold" "Box.can_hold" 596 243 2 3 293 294 (.ref 295) (.ref 296) 297 601
noncomputable def o299 : Obj := fM "fdsolve.proofs" 558 298 "Box.can_hold" (st2 42 2)
noncomputable def o305 : Obj := cM "does_hold" "Box.does_hold" 604 246 2 3 300 301 (.ref 302) (.ref 303) 304 609
noncomputable def o306 : Obj := fM "fdsolve.proofs" 558 305 "Box.does_hold" (st2 42 3)
noncomputable def o312 : Obj := cM "say" "Box.say" 612 249 2 3 307 308 (.ref 309) (.ref 310) 311 617
noncomputable def o313 : Obj := fM "fdsolve.proofs" 558 312 "Box.say" (st2 42 4)
noncomputable def o319 : Obj := cM "deny" "Box.deny" 620 253 2 3 314 315 (.ref 316) (.ref 317) 318 626
noncomputable def o320 : Obj := fM "fdsolve.proofs" 558 319 "Box.deny" (st2 42 5)
noncomputable def o322 (P : Params) : Obj := {cls := (.type "dict"), data := .dict #[zE P "__module__" 575 (zS "fdsolve.proofs" 558), zE P "__firstlineno__" 579 (.int 234 578), zE P "__init__" 587 (.ref 285), zE P "domain" 595 (.ref 292), zE P "can_hold" 603 (.ref 299), zE P "does_hold" 611 (.ref 306), zE P "say" 619 (.ref 313), zE P "deny" 628 (.ref 320), zE P "__static_attributes__" 631 (.ref 321), zE P "__dict__" 633 (.ref 324), zE P "__weakref__" 635 (.ref 325), zE P "__doc__" 636 .none] 4}
noncomputable def o323 : Obj := {cls := (.type "type"), data := .cls {name := "Box", bases := [(.type "object")], mro := [(.ref 323), (.type "object")], ns := 322, qualname := "Box", hasDict := true, slotNames := [], subclasses := [], abstract := false, collection := none, hasDel := false}, slots := #[none, none, some (zS "Box" 568), some (zS "Box" 576), some (.builtin "object.__new__"), some (.bool true)]}
noncomputable def o340 : Obj := cM "__init__" "StepJudge.__init__" 651 260 3 3 335 336 (.ref 337) (.ref 338) 339 657
noncomputable def o341 : Obj := fM "fdsolve.proofs" 558 340 "StepJudge.__init__" (st2 43 0)
noncomputable def o345 : Obj := cM "follows" "StepJudge.follows" 660 264 3 3 342 343 .none .none 344 663
noncomputable def o346 : Obj := fM "fdsolve.proofs" 558 345 "StepJudge.follows" (st2 43 1)
noncomputable def o350 : Obj := cM "is_refuted" "StepJudge.is_refuted" 666 280 3 3 347 348 .none .none 349 669
noncomputable def o351 : Obj := fM "fdsolve.proofs" 558 350 "StepJudge.is_refuted" (st2 43 2)
noncomputable def o357 : Obj := cM "is_beyond" "StepJudge.is_beyond" 672 289 3 3 352 353 (.ref 354) (.ref 355) 356 687
noncomputable def o358 : Obj := fM "fdsolve.proofs" 558 357 "StepJudge.is_beyond" (st2 43 3)
noncomputable def o362 : Obj := cM "has_row" "StepJudge.has_row" 690 305 3 3 359 360 .none .none 361 693
noncomputable def o363 : Obj := fM "fdsolve.proofs" 558 362 "StepJudge.has_row" (st2 43 4)
noncomputable def o369 : Obj := cM "can_differ" "StepJudge.can_differ" 696 312 2 3 364 365 (.ref 366) (.ref 367) 368 708
noncomputable def o370 : Obj := fM "fdsolve.proofs" 558 369 "StepJudge.can_differ" (st2 43 5)
noncomputable def o374 : Obj := cM "move_on" "StepJudge.move_on" 711 330 5 3 371 372 .none .none 373 714
noncomputable def o375 : Obj := fM "fdsolve.proofs" 558 374 "StepJudge.move_on" (st2 43 6)
noncomputable def o379 : Obj := cM "has_tuple" "StepJudge.has_tuple" 717 339 4 3 376 377 .none .none 378 720
noncomputable def o380 : Obj := fM "fdsolve.proofs" 558 379 "StepJudge.has_tuple" (st2 43 7)
noncomputable def o382 (P : Params) : Obj := {cls := (.type "dict"), data := .dict #[zE P "__module__" 646 (zS "fdsolve.proofs" 558), zE P "__firstlineno__" 650 (.int 258 649), zE P "__init__" 659 (.ref 341), zE P "follows" 665 (.ref 346), zE P "is_refuted" 671 (.ref 351), zE P "is_beyond" 689 (.ref 358), zE P "has_row" 695 (.ref 363), zE P "can_differ" 710 (.ref 370), zE P "move_on" 716 (.ref 375), zE P "has_tuple" 722 (.ref 380), zE P "__static_attributes__" 725 (.ref 381), zE P "__dict__" 727 (.ref 384), zE P "__weakref__" 729 (.ref 385), zE P "__doc__" 730 .none] 4}
noncomputable def o383 : Obj := {cls := (.type "type"), data := .cls {name := "StepJudge", bases := [(.type "object")], mro := [(.ref 383), (.type "object")], ns := 382, qualname := "StepJudge", hasDict := true, slotNames := [], subclasses := [], abstract := false, collection := none, hasDel := false}, slots := #[none, none, some (zS "StepJudge" 639), some (zS "StepJudge" 647), some (.builtin "object.__new__"), some (.bool true)]}
noncomputable def o393 : Obj := cO "_law_draw" 735 353 2 3 388 389 (.ref 390) (.ref 391) 392 742
noncomputable def o394 : Obj := fO "law_no0330_01" 733 393 (st 45)
noncomputable def o400 : Obj := cO "_law_pick" 745 359 2 3 395 396 (.ref 397) (.ref 398) 399 750
noncomputable def o401 : Obj := fO "law_no0330_01" 733 400 (st 46)
noncomputable def o407 : Obj := cO "_law_lots" 753 361 1 3 402 403 (.ref 404) (.ref 405) 406 761
noncomputable def o408 : Obj := fO "law_no0330_01" 733 407 (st 47)
noncomputable def o412 : Obj := cO "_law_told" 764 369 1 3 409 410 .none .none 411 767
noncomputable def o413 : Obj := fO "law_no0330_01" 733 412 (st 48)
noncomputable def o417 : Obj := cO "_law_keeps" 770 390 2 3 414 415 .none .none 416 773
noncomputable def o418 : Obj := fO "law_no0330_01" 733 417 (st 49)
noncomputable def o424 : Obj := cO "_law_says" 776 408 2 3 419 420 (.ref 421) (.ref 422) 423 783
noncomputable def o425 : Obj := fO "law_no0330_01" 733 424 (st 50)
noncomputable def o431 : Obj := cO "_law_clause" 786 415 1 3 426 427 (.ref 428) (.ref 429) 430 793
noncomputable def o432 : Obj := fO "law_no0330_01" 733 431 (st 51)
noncomputable def o436 : Obj := cO "_law_left" 796 422 3 3 433 434 .none .none 435 799
noncomputable def o437 : Obj := fO "law_no0330_01" 733 436 (st 52)
noncomputable def o443 : Obj := cO "_law_answer" 802 428 3 3 438 439 (.ref 440) (.ref 441) 442 808
noncomputable def o444 : Obj := fO "law_no0330_01" 733 443 (st 53)
noncomputable def o448 : Obj := cO "law" 811 433 1 3 445 446 .none .none 447 814
noncomputable def o449 : Obj := fO "law_no0330_01" 733 448 (st 54)
noncomputable def zK (P : Params) : Frag := [(2, o2 P), (3, o3 P), (20, o20), (21, o21), (22, o22), (23, o23), (24, o24), (25, o25), (26, o26), (27, o27), (31, o31), (32, o32), (38, o38), (39, o39), (45, o45), (46, o46), (52, o52), (53, o53), (59, o59), (60, o60), (66, o66), (67, o67), (73, o73), (74, o74), (78, o78), (79, o79), (83, o83), (84, o84), (88, o88), (89, o89), (95, o95), (96, o96), (100, o100), (101, o101), (107, o107), (108, o108), (114, o114), (115, o115), (121, o121), (122, o122), (128, o128), (129, o129), (135, o135), (136, o136), (142, o142), (143, o143), (147, o147), (148, o148), (154, o154), (155, o155), (161, o161), (162, o162), (168, o168), (169, o169), (173, o173), (174, o174), (178, o178), (179, o179), (185, o185), (186, o186), (192, o192), (193, o193), (199, o199), (200, o200), (206, o206), (207, o207), (211, o211), (222, o222), (223, o223), (229, o229), (230, o230), (232, o232 P), (233, o233), (240, o240), (251, o251), (252, o252), (258, o258), (259, o259), (261, o261 P), (262, o262), (270, o270), (271, o271), (284, o284), (285, o285), (291, o291), (292, o292), (298, o298), (299, o299), (305, o305), (306, o306), (312, o312), (313, o313), (319, o319), (320, o320), (322, o322 P), (323, o323), (340, o340), (341, o341), (345, o345), (346, o346), (350, o350), (351, o351), (357, o357), (358, o358), (362, o362), (363, o363), (369, o369), (370, o370), (374, o374), (375, o375), (379, o379), (380, o380), (382, o382 P), (383, o383), (393, o393), (394, o394), (400, o400), (401, o401), (407, o407), (408, o408), (412, o412), (413, o413), (417, o417), (418, o418), (424, o424), (425, o425), (431, o431), (432, o432), (436, o436), (437, o437), (443, o443), (444, o444), (448, o448), (449, o449)]
noncomputable def zAs : List Addr := [2, 3, 20, 21, 22, 23, 24, 25, 26, 27, 31, 32, 38, 39, 45, 46, 52, 53, 59, 60, 66, 67, 73, 74, 78, 79, 83, 84, 88, 89, 95, 96, 100, 101, 107, 108, 114, 115, 121, 122, 128, 129, 135, 136, 142, 143, 147, 148, 154, 155, 161, 162, 168, 169, 173, 174, 178, 179, 185, 186, 192, 193, 199, 200, 206, 207, 211, 222, 223, 229, 230, 232, 233, 240, 251, 252, 258, 259, 261, 262, 270, 271, 284, 285, 291, 292, 298, 299, 305, 306, 312, 313, 319, 320, 322, 323, 340, 341, 345, 346, 350, 351, 357, 358, 362, 363, 369, 370, 374, 375, 379, 380, 382, 383, 393, 394, 400, 401, 407, 408, 412, 413, 417, 418, 424, 425, 431, 432, 436, 437, 443, 444, 448, 449]
noncomputable abbrev zL : BT := .nil
noncomputable abbrev zB := BT.node
noncomputable def tA (P : Params) : BT := zB (boot_o_0 P) (zB (boot_o_1 P) (zB (boot_o_3 P) (zB (boot_o_7 P) zL zL) (zB (tO []) zL zL)) (zB (boot_o_5 P) (zB (boot_o_9 P) zL zL) (zB {cls := (.type "code"), data := .fields #[(zS "<module>" 182), (zS "<module>" 183), (zS "/claim/cut.py" 184), (zI 1), (zI 0), (zI 0), (zI 0), (zI 0), (.ref 11), (.bool false), (zI 181), (.ref 12), .none, .none, .none, .none, (zI 185), (zI 1), (zS "/claim/cut.py" 186)]} zL zL))) (zB (boot_o_2 P) (zB (boot_o_4 P) (zB (boot_o_8 P) zL zL) (zB eO zL zL)) (zB (boot_o_6 P) (zB (boot_o_10 P) zL zL) (zB {cls := (.type "frame"), data := .plain, slots := #[some (.ref 13), some (.ref 3), some (.ref 3), none, some (zS "__main__" 164), none, some (.ref 0)]} zL zL)))
noncomputable def tZ (P : Params) : BT := zB (boot_o_0 P) (zB (boot_o_1 P) (zB (o3 P) (zB (boot_o_7 P) (zB (tO []) (zB o31 (zB (tO [(zS "one" 282), (zS "other" 283), (zS "some" 284), (zS "late" 285), (zS "k" 286)]) (zB (dO (st 23)) (zB (tO [(zS "self" 548)]) zL zL) (zB o383 zL zL)) (zB (dO (st 34)) (zB o319 zL zL) (zB (dO (st 54)) zL zL))) (zB o95 (zB (tO []) (zB eO zL zL) (zB eO zL zL)) (zB o223 (zB o351 zL zL) zL))) (zB (tO []) (zB o79 (zB o143 (zB o271 zL zL) (zB (dO (st 46)) zL zL)) (zB o207 (zB (tO []) zL zL) zL)) (zB (tO [(zS "told" 353), (zS "values" 354), (zS "name" 355)]) (zB (tO []) (zB (tO []) zL zL) (zB o431 zL zL)) (zB {cls := (.type "dict"), data := .dict #[zE P "__module__" 530 (zS "fdsolve.errors" 483), zE P "__qualname__" 532 (zS "ProofFault" 531), zE P "__firstlineno__" 534 (.int 220 533), zE P "__init__" 544 (.ref 252), zE P "told" 551 (.ref 259), zE P "__static_attributes__" 553 (.ref 260), zE P "__classcell__" 554 (.ref 240)] 7} (zB (tO []) zL zL) zL)))) (zB o23 (zB o39 (zB (tO []) (zB o135 (zB {cls := (.type "super"), data := .fields #[(.ref 262), (.ref 262), (.ref 262)]} zL zL) (zB (tO []) zL zL)) (zB o199 (zB {cls := (.type "builtin_function_or_method"), data := .fields #[(.builtin "object.__init_subclass__"), (.ref 323)]} zL zL) zL)) (zB eO (zB (dO (st 30)) (zB (tO [(zS "self" 599), (zS "literal" 600)]) zL zL) (zB (dO (st 50)) zL zL)) (zB (tO [(zS "what" 513)]) (zB (tO []) zL zL) zL))) (zB eO (zB (dO (st 17)) (zB (tO [(zS "d" 405), (zS "v" 406), (zS "low" 407), (zS "high" 408)]) (zB (tO []) zL zL) (zB o407 zL zL)) (zB {cls := (.type "frame"), data := .plain, slots := #[some (.ref 214), some (.ref 3), some (.ref 210), none, some (zS "fdsolve.errors" 483), none, some (.ref 0)]} (zB eO zL zL) zL)) (zB (tO []) (zB (tO []) (zB (dM "Box.say" (st2 42 4)) zL zL) (zB eO zL zL)) (zB eO (zB o375 zL zL) zL))))) (zB (tO []) (zB (dO (st 0)) (zB (tO [(zS "a" 235), (zS "b" 236), (zS "found" 237)]) (zB o67 (zB eO (zB o259 zL zL) (zB {cls := (.type "builtin_function_or_method"), data := .fields #[(.builtin "object.__init_subclass__"), (.ref 383)]} zL zL)) (zB eO (zB o323 zL zL) zL)) (zB (dO (st 19)) (zB (tO []) (zB o291 zL zL) (zB (tO []) zL zL)) (zB (tO []) (zB (tO []) zL zL) zL))) (zB (dO (st 11)) (zB o83 (zB o147 (zB (tO []) zL zL) (zB eO zL zL)) (zB o211 (zB (dM "StepJudge.__init__" (st2 43 0)) zL zL) zL)) (zB o115 (zB o179 (zB (tO []) zL zL) (zB (dO (st 52)) zL zL)) (zB {cls := (.type "code"), data := .fields #[(zS "ProofFault" 525), (zS "ProofFault" 526), (zS "/claim/cut.py" 527), (zI 220), (zI 0), (zI 0), (zI 0), (zI 0), (.ref 241), (.bool false), (zI 181), (.ref 242), .none, .none, .none, .none, (zI 528), (zI 220), (zS "/claim/cut.py" 529)]} (zB (tO []) zL zL) zL)))) (zB o27 (zB (tO []) (zB (tO []) (zB (tO [(zS "numbers" 390), (zS "found" 391), (zS "v" 392)]) (zB (tO [(zS "a" 563), (zS "b" 564)]) zL zL) (zB (tO []) zL zL)) (zB (tO [(zS "literal" 476), (zS "d" 477), (zS "sign" 478), (zS "k" 479)]) (zB (tO []) zL zL) zL)) (zB o107 (zB eO (zB o299 zL zL) (zB eO zL zL)) (zB {cls := (.type "super"), data := .fields #[(.ref 233), (.ref 233), (.ref 233)]} (zB o363 zL zL) zL))) (zB o59 (zB eO (zB o155 (zB (dM "Box.__init__" (st2 42 0)) zL zL) (zB (dO (st 48)) zL zL)) (zB (tO [(zS "self" 501), (zS "what" 502)]) (zB (tO []) zL zL) zL)) (zB (tO []) (zB (tO []) (zB eO zL zL) (zB o443 zL zL)) (zB o251 (zB o379 zL zL) zL)))))) (zB (boot_o_5 P) (zB (boot_o_9 P) (zB (tO [(zS "k" 190)]) (zB (tO []) (zB (dO (st 13)) (zB o129 (zB (dM "ProofFault.told" (st2 39 1)) zL zL) (zB {cls := (.type "getset_descriptor"), data := .fields #[(zS "__weakref__" 728), (.ref 383), (.builtin "ExceptionGroup.__weakref__"), .none]} zL zL)) (zB o193 (zB (tO [(zS "domains" 629), (zS "turned" 630)]) zL zL) (zB o449 zL zL))) (zB (tO []) (zB o161 (zB (tO []) zL zL) (zB o417 zL zL)) (zB eO (zB eO zL zL) zL))) (zB (tO [(zS "told" 259), (zS "values" 260), (zS "name" 261), (zS "z" 262), (zS "some" 263), (zS "x" 264), (zS "y" 265)]) (zB eO (zB eO (zB {cls := (.type "builtin_function_or_method"), data := .fields #[(.builtin "type.__prepare__"), (.type "type")]} zL zL) (zB o401 zL zL)) (zB {cls := (.type "builtin_function_or_method"), data := .fields #[(.builtin "type.__prepare__"), (.type "type")]} (zB (tO [(zS "self" 654), (zS "domains" 655), (zS "most" 656)]) zL zL) zL)) (zB (dO (st 21)) (zB (dO (st 32)) (zB o305 zL zL) (zB (tO []) zL zL)) (zB (tO []) (zB o369 zL zL) zL)))) (zB o25 (zB eO (zB o73 (zB (tO []) (zB (tO []) zL zL) (zB o393 zL zL)) (zB (tO []) (zB {cls := (.type "builtin_function_or_method"), data := .fields #[(.builtin "type.__prepare__"), (.type "type")]} zL zL) zL)) (zB (tO []) (zB o169 (zB (dM "Box.can_hold" (st2 42 2)) zL zL) (zB o425 zL zL)) (zB o233 (zB (dM "StepJudge.has_row" (st2 43 4)) zL zL) zL))) (zB (tO []) (zB o89 (zB (dO (st 28)) (zB (tO [(zS "self" 583), (zS "domains" 584)]) zL zL) (zB (tO []) zL zL)) (zB (tO [(zS "__class__" 500)]) (zB o345 zL zL) zL)) (zB o121 (zB o185 (zB o313 zL zL) (zB (tO []) zL zL)) (zB (tO []) (zB eO zL zL) zL))))) (zB {cls := (.type "code"), data := .fields #[(zS "<module>" 182), (zS "<module>" 183), (zS "/claim/cut.py" 184), (zI 1), (zI 0), (zI 0), (zI 0), (zI 0), (.ref 11), (.bool false), (zI 181), (.ref 12), .none, .none, .none, .none, (zI 185), (zI 1), (zS "/claim/cut.py" 186)]} (zB o21 (zB (dO (st 9)) (zB eO (zB (tO []) (zB (o261 P) zL zL) (zB eO zL zL)) (zB (tO []) (zB {cls := (.type "getset_descriptor"), data := .fields #[(zS "__weakref__" 634), (.ref 323), (.builtin "ExceptionGroup.__weakref__"), .none]} zL zL) zL)) (zB o101 (zB (tO [(zS "d" 423), (zS "found" 424), (zS "low" 425), (zS "high" 426)]) (zB (tO []) zL zL) (zB (tO [(zS "literal" 779), (zS "v" 780), (zS "sign" 781), (zS "k" 782)]) zL zL)) (zB o229 (zB o357 zL zL) zL))) (zB o53 (zB (tO []) (zB (tO []) (zB {cls := (.type "code"), data := .fields #[(zS "Box" 570), (zS "Box" 571), (zS "/claim/cut.py" 572), (zI 234), (zI 0), (zI 0), (zI 0), (zI 0), (.ref 275), (.bool false), (zI 181), (.ref 276), .none, .none, .none, .none, (zI 573), (zI 234), (zS "/claim/cut.py" 574)]} zL zL) (zB (tO []) zL zL)) (zB (lO [(zI 214), (zI 4), (.ref 222), (zI 218), (zI 4), (.ref 229)]) (zB o341 zL zL) zL)) (zB eO (zB eO (zB (tO [(zS "self" 615), (zS "literal" 616)]) zL zL) (zB o437 zL zL)) (zB (tO [(.ref 240)]) (zB (dM "StepJudge.move_on" (st2 43 6)) zL zL) zL)))) (zB eO (zB o45 (zB (dO (st 15)) (zB (dO (st 26)) (zB (dO (st 41)) zL zL) (zB (tO [(zS "feed" 748), (zS "some" 749)]) zL zL)) (zB (dO (st 36)) (zB {cls := (.type "code"), data := .fields #[(zS "StepJudge" 641), (zS "StepJudge" 642), (zS "/claim/cut.py" 643), (zI 258), (zI 0), (zI 0), (zI 0), (zI 0), (.ref 331), (.bool false), (zI 181), (.ref 332), .none, .none, .none, .none, (zI 644), (zI 258), (zS "/claim/cut.py" 645)]} zL zL) zL)) (zB (tO []) (zB o173 (zB eO zL zL) (zB (tO []) zL zL)) (zB (tO [(.ref 233)]) (zB eO zL zL) zL))) (zB (tO []) (zB (tO []) (zB eO (zB o285 zL zL) (zB o413 zL zL)) (zB (dM "FdError.__init__" (st2 38 0)) (zB (dM "StepJudge.is_refuted" (st2 43 2)) zL zL) zL)) (zB (tO [(zS "told" 370), (zS "found" 371), (zS "x" 372)]) (zB (tO [(zS "d" 453), (zS "e" 454), (zS "found" 455), (zS "i" 456), (zS "j" 457), (zS "low" 458), (zS "high" 459)]) (zB (tO []) zL zL) (zB (tO []) zL zL)) (zB (tO []) (zB (tO [(zS "domains" 723), (zS "most" 724)]) zL zL) zL))))))) (zB (o2 P) (zB (boot_o_4 P) (zB (boot_o_8 P) (zB eO (zB o32 (zB (tO []) (zB o128 (zB (tO []) zL zL) (zB {cls := (.type "getset_descriptor"), data := .fields #[(zS "__dict__" 726), (.ref 383), (.builtin "function.__dict__"), (.builtin "function.__dict__#set")]} zL zL)) (zB o192 (zB o320 zL zL) (zB o448 zL zL))) (zB o96 (zB (dO (st 29)) (zB (tO [(zS "self" 591), (zS "x" 592)]) zL zL) (zB (dO (st 49)) zL zL)) (zB (tO []) (zB (tO []) zL zL) zL))) (zB eO (zB (tO []) (zB (tO []) (zB (tO []) zL zL) (zB o400 zL zL)) (zB (tO [(.type "Exception")]) (zB eO zL zL) zL)) (zB (tO []) (zB eO (zB (dM "Box.does_hold" (st2 42 3)) zL zL) (zB o432 zL zL)) (zB o240 (zB (dM "StepJudge.can_differ" (st2 43 5)) zL zL) zL)))) (zB o24 (zB (tO []) (zB (dO (st 14)) (zB o136 (zB {cls := (.type "builtin_function_or_method"), data := .fields #[(.builtin "object.__init_subclass__"), (.ref 262)]} zL zL) (zB (dO (st 45)) zL zL)) (zB o200 (zB (tO []) zL zL) zL)) (zB (tO [(zS "told" 344), (zS "values" 345), (zS "name" 346)]) (zB o168 (zB (tO []) zL zL) (zB o424 zL zL)) (zB (o232 P) (zB eO zL zL) zL))) (zB (tO [(zS "some" 272), (zS "here" 273), (zS "seen" 274), (zS "lap" 275)]) (zB o88 (zB (tO []) (zB eO zL zL) (zB o408 zL zL)) (zB (tO [(.ref 211)]) (zB (dM "StepJudge.follows" (st2 43 1)) zL zL) zL)) (zB (dO (st 22)) (zB (dO (st 33)) (zB o312 zL zL) (zB (tO [(zS "judge" 805), (zS "told" 806), (zS "clause" 807)]) zL zL)) (zB (tO [(zS "self" 539), (zS "what" 540), (zS "step" 541)]) (zB (tO []) zL zL) zL))))) (zB (lO [(zI 1), (zI 0), (.ref 20), (zI 11), (zI 0), (.ref 31), (zI 13), (zI 0), (.ref 38), (zI 16), (zI 0), (.ref 45), (zI 24), (zI 0), (.ref 52), (zI 38), (zI 0), (.ref 59), (zI 46), (zI 0), (.ref 66), (zI 52), (zI 0), (.ref 73), (zI 63), (zI 0), (.ref 78), (zI 72), (zI 0), (.ref 83), (zI 74), (zI 0), (.ref 88), (zI 80), (zI 0), (.ref 95), (zI 89), (zI 0), (.ref 100), (zI 99), (zI 0), (.ref 107), (zI 108), (zI 0), (.ref 114), (zI 129), (zI 0), (.ref 121), (zI 148), (zI 0), (.ref 128), (zI 155), (zI 0), (.ref 135), (zI 161), (zI 0), (.ref 142), (zI 166), (zI 0), (.ref 147), (zI 168), (zI 0), (.ref 154), (zI 173), (zI 0), (.ref 161), (zI 175), (zI 0), (.ref 168), (zI 180), (zI 0), (.ref 173), (zI 182), (zI 0), (.ref 178), (zI 184), (zI 0), (.ref 185), (zI 186), (zI 0), (.ref 192), (zI 197), (zI 0), (.ref 199), (zI 204), (zI 0), (.ref 206), (zI 212), (zI 0), (.ref 214), (zI 220), (zI 0), (.ref 243), (zI 229), (zI 0), (.ref 270), (zI 234), (zI 0), (.ref 277), (zI 258), (zI 0), (.ref 333), (zI 353), (zI 0), (.ref 393), (zI 359), (zI 0), (.ref 400), (zI 361), (zI 0), (.ref 407), (zI 369), (zI 0), (.ref 412), (zI 390), (zI 0), (.ref 417), (zI 408), (zI 0), (.ref 424), (zI 415), (zI 0), (.ref 431), (zI 422), (zI 0), (.ref 436), (zI 428), (zI 0), (.ref 443), (zI 433), (zI 0), (.ref 448)]) (zB o20 (zB (tO []) (zB (tO []) (zB (tO [(zS "found" 381), (zS "low" 382), (zS "high" 383)]) (zB (tO [(zS "step" 552)]) zL zL) (zB (tO []) zL zL)) (zB (tO [(zS "literal" 466), (zS "x" 467), (zS "sign" 468), (zS "k" 469)]) (zB {cls := (.type "getset_descriptor"), data := .fields #[(zS "__dict__" 632), (.ref 323), (.builtin "function.__dict__"), (.builtin "function.__dict__#set")]} zL zL) zL)) (zB o100 (zB eO (zB o292 zL zL) (zB eO zL zL)) (zB (dM "FdError.told" (st2 38 1)) (zB (dM "StepJudge.is_beyond" (st2 43 3)) zL zL) zL))) (zB o52 (zB o84 (zB o148 (zB (lO [(zI 236), (zI 4), (.ref 284), (zI 240), (zI 4), (.ref 291), (zI 243), (zI 4), (.ref 298), (zI 246), (zI 4), (.ref 305), (zI 249), (zI 4), (.ref 312), (zI 253), (zI 4), (.ref 319)]) zL zL) (zB (tO [(zS "feed" 756), (zS "found" 757), (zS "x" 758), (zS "lot" 759), (zS "more" 760)]) zL zL)) (zB (tO []) (zB o340 zL zL) zL)) (zB (tO []) (zB (tO []) (zB eO zL zL) (zB o436 zL zL)) (zB {cls := (.type "frame"), data := .plain, slots := #[some (.ref 243), some (.ref 3), some (.ref 239), none, some (zS "fdsolve.errors" 483), none, some (.ref 0)]} (zB eO zL zL) zL)))) (zB (tO []) (zB (dO (st 10)) (zB eO (zB (tO []) (zB (tO []) zL zL) (zB eO zL zL)) (zB (tO []) (zB (lO [(zI 260), (zI 4), (.ref 340), (zI 264), (zI 4), (.ref 345), (zI 280), (zI 4), (.ref 350), (zI 289), (zI 4), (.ref 357), (zI 305), (zI 4), (.ref 362), (zI 312), (zI 4), (.ref 369), (zI 330), (zI 4), (.ref 374), (zI 339), (zI 4), (.ref 379)]) zL zL) zL)) (zB o108 (zB (dO (st 31)) (zB (tO []) zL zL) (zB (tO [(zS "feed" 789), (zS "found" 790), (zS "lap" 791), (zS "one" 792)]) zL zL)) (zB {cls := (.type "builtin_function_or_method"), data := .fields #[(.builtin "object.__init_subclass__"), (.ref 233)]} (zB (tO []) zL zL) zL))) (zB o60 (zB (tO [(zS "told" 322), (zS "values" 323), (zS "name" 324), (zS "scope" 325), (zS "states" 326), (zS "letters" 327), (zS "rows" 328), (zS "state" 329), (zS "finals" 330), (zS "letter" 331)]) (zB (tO []) (zB o284 zL zL) (zB o412 zL zL)) (zB (tO []) (zB eO zL zL) zL)) (zB eO (zB eO (zB (tO [(zS "self" 623), (zS "clause" 624), (zS "literal" 625)]) zL zL) (zB o444 zL zL)) (zB o252 (zB o380 zL zL) zL)))))) (zB (boot_o_6 P) (zB (boot_o_10 P) (zB (tO []) (zB eO (zB o66 (zB (tO []) (zB o258 zL zL) (zB {cls := (.type "super"), data := .fields #[(.ref 383), (.ref 383), (.ref 383)]} zL zL)) (zB (tO []) (zB (o322 P) zL zL) zL)) (zB eO (zB o162 (zB (dM "Box.domain" (st2 42 1)) zL zL) (zB o418 zL zL)) (zB (tO [(zS "self" 509)]) (zB (tO [(zS "self" 675), (zS "told" 676), (zS "box" 677), (zS "factors" 678), (zS "least" 679), (zS "greatest" 680), (zS "lack" 681), (zS "common" 682), (zS "factor" 683), (zS "x" 684), (zS "domain" 685), (zS "ends" 686)]) zL zL) zL))) (zB (tO []) (zB (dO (st 16)) (zB (dO (st 27)) (zB {cls := (.type "dict"), data := .dict #[zE P "__module__" 575 (zS "fdsolve.proofs" 558), zE P "__qualname__" 577 (zS "Box" 576), zE P "__firstlineno__" 579 (.int 234 578), zE P "__init__" 587 (.ref 285), zE P "domain" 595 (.ref 292), zE P "can_hold" 603 (.ref 299), zE P "does_hold" 611 (.ref 306), zE P "say" 619 (.ref 313), zE P "deny" 628 (.ref 320), zE P "__static_attributes__" 631 (.ref 321)] 10} zL zL) (zB (tO []) zL zL)) (zB {cls := (.type "dict"), data := .dict #[zE P "__module__" 492 (zS "fdsolve.errors" 483), zE P "__qualname__" 494 (zS "FdError" 493), zE P "__firstlineno__" 496 (.int 212 495), zE P "__init__" 505 (.ref 223), zE P "told" 512 (.ref 230), zE P "__static_attributes__" 514 (.ref 231), zE P "__classcell__" 515 (.ref 211)] 7} (zB (tO []) zL zL) zL)) (zB o114 (zB o178 (zB o306 zL zL) (zB eO zL zL)) (zB (lO [(zI 222), (zI 4), (.ref 251), (zI 226), (zI 4), (.ref 258)]) (zB o370 zL zL) zL)))) (zB o26 (zB (tO [(zS "told" 244), (zS "values" 245), (zS "name" 246), (zS "coefs" 247), (zS "scope" 248), (zS "c" 249), (zS "total" 250), (zS "coef" 251), (zS "x" 252)]) (zB o74 (zB eO (zB eO zL zL) (zB o394 zL zL)) (zB eO (zB {cls := (.type "dict"), data := .dict #[zE P "__module__" 646 (zS "fdsolve.proofs" 558), zE P "__qualname__" 648 (zS "StepJudge" 647), zE P "__firstlineno__" 650 (.int 258 649), zE P "__init__" 659 (.ref 341), zE P "follows" 665 (.ref 346), zE P "is_refuted" 671 (.ref 351), zE P "is_beyond" 689 (.ref 358), zE P "has_row" 695 (.ref 363), zE P "can_differ" 710 (.ref 370), zE P "move_on" 716 (.ref 375), zE P "has_tuple" 722 (.ref 380), zE P "__static_attributes__" 725 (.ref 381)] 12} zL zL) zL)) (zB (dO (st 20)) (zB (tO []) (zB o298 zL zL) (zB (tO []) zL zL)) (zB {cls := (.type "getset_descriptor"), data := .fields #[(zS "__weakref__" 516), (.ref 233), (.builtin "ExceptionGroup.__weakref__"), .none]} (zB o362 zL zL) zL))) (zB (dO (st 12)) (zB (tO []) (zB o154 (zB (tO []) zL zL) (zB eO zL zL)) (zB eO (zB o346 zL zL) zL)) (zB o122 (zB o186 (zB (tO []) zL zL) (zB (dO (st 53)) zL zL)) (zB (dM "ProofFault.__init__" (st2 39 0)) (zB (dM "StepJudge.has_tuple" (st2 43 7)) zL zL) zL))))) (zB {cls := (.type "frame"), data := .plain, slots := #[some (.ref 13), some (.ref 3), some (.ref 3), none, some (zS "__main__" 164), none, some (.ref 0)]} (zB o22 (zB o38 (zB (tO [(zS "told" 293), (zS "values" 294), (zS "name" 295), (zS "some" 296), (zS "at" 297)]) (zB (dO (st 25)) (zB o262 zL zL) (zB (tO [(zS "feed" 738), (zS "wide" 739), (zS "cells" 740), (zS "spot" 741)]) zL zL)) (zB (dO (st 35)) (zB {cls := (.type "super"), data := .fields #[(.ref 323), (.ref 323), (.ref 323)]} zL zL) zL)) (zB (tO []) (zB (tO []) (zB eO zL zL) (zB (tO []) zL zL)) (zB o230 (zB o358 zL zL) zL))) (zB (tO []) (zB eO (zB eO (zB {cls := (.type "frame"), data := .plain, slots := #[some (.ref 277), some (.ref 3), some (.ref 274), none, some (zS "fdsolve.proofs" 558), none, some (.ref 0)]} zL zL) (zB (dO (st 47)) zL zL)) (zB {cls := (.type "code"), data := .fields #[(zS "FdError" 487), (zS "FdError" 488), (zS "/claim/cut.py" 489), (zI 212), (zI 0), (zI 0), (zI 0), (zI 0), (.ref 212), (.bool false), (zI 181), (.ref 213), .none, .none, .none, .none, (zI 490), (zI 212), (zS "/claim/cut.py" 491)]} (zB (tO []) zL zL) zL)) (zB (tO [(zS "told" 362), (zS "name" 363)]) (zB (tO [(zS "d" 445), (zS "v" 446)]) (zB (tO []) zL zL) (zB (tO []) zL zL)) (zB (tO [(zS "__class__" 538)]) (zB o374 zL zL) zL)))) (zB (dO (st 8)) (zB o46 (zB o78 (zB o142 (zB o270 zL zL) (zB (tO []) zL zL)) (zB o206 (zB {cls := (.type "frame"), data := .plain, slots := #[some (.ref 333), some (.ref 3), some (.ref 330), none, some (zS "fdsolve.proofs" 558), none, some (.ref 0)]} zL zL) zL)) (zB eO (zB o174 (zB (tO [(zS "self" 607), (zS "literal" 608)]) zL zL) (zB (dO (st 51)) zL zL)) (zB {cls := (.type "builtin_function_or_method"), data := .fields #[(.builtin "type.__prepare__"), (.type "type")]} (zB (tO [(zS "self" 699), (zS "lots" 700), (zS "owner" 701), (zS "place" 702), (zS "came" 703), (zS "queue" 704), (zS "free" 705), (zS "here" 706), (zS "v" 707)]) zL zL) zL))) (zB eO (zB (dO (st 18)) (zB (tO [(zS "d" 415), (zS "v" 416)]) (zB (tO []) zL zL) (zB (tO []) zL zL)) (zB o222 (zB o350 zL zL) zL)) (zB (tO []) (zB (tO []) (zB (dM "Box.deny" (st2 42 5)) zL zL) (zB eO zL zL)) (zB eO (zB (o382 P) zL zL) zL)))))))
end
end Tl
end

section
open PySem PySem.W PySem.Calls PyProof.Rows
set_option linter.unusedVariables false
set_option maxRecDepth 100000
namespace Tl
noncomputable abbrev HK (C : Cfg) : Prop := C.K = zK C.w.params
end Tl
end

section
open PySem PySem.W PySem.Calls PyProof.Rows
set_option linter.unusedVariables false
set_option maxRecDepth 100000
set_option maxHeartbeats 2000000
namespace Tl
section
variable {C : Cfg} {k : Nat} {sc : Scope} {fr : Fm} {p : P} {X : P → Prop}
theorem exk (hK : HK C) {name : Str} (h : findIn C.K (.ref 262) name = some none) : ExK C.K 262 name := ⟨by rw [hK]; kernel_rfl, h, by rw [hK]; exact ⟨_, 262, 233, rfl, rfl, rfl⟩⟩
theorem fd_init (hK : HK C) (hP : PyOk C) {A : Around} {s : Shared} {g : Heap} {e : Addr} {m : Str} {t : Tok} {R : Result → Shared → Prop} (hA : A.depth + 1 < recursionLimit) (hg : ∀ b o, C.base.get? b = some o → g.get? b = some o) (S : ExS g s.heap e 262 [])
    (q : ∀ h' tk, ExS g h' e 262 ["what"] → R (.ok (.ret .none)) { s with heap := h', toks := tk }) : codeAny (model C.prog C.w) A (.call (.ref 223) ⟨[.ref e, .str m t], []⟩) R s :=
  init_fn (names := ["self", "what"]) (vals := [.str m t]) (v := .str m t) (vz := .str m t) (n := 0) hP (by rw [hK]; rfl) (by rw [hK]; kernel_rfl) rfl rfl (by rw [hK]; rfl) rfl (by rw [hK]; rfl) (by rw [hK]; rfl) (by rw [hK]; kernel_rfl) (by rw [hK]; kernel_rfl)
    (exk hK (by rw [hK]; kernel_rfl)) rfl rfl rfl rfl rfl rfl (by decide) (by decide) rfl rfl rfl rfl rfl rfl (fun ζ => ⟨_, rfl⟩) (by decide)
    (sup_bi (exk hK (name := "what") (by rw [hK]; kernel_rfl)) (by rw [hK]; kernel_rfl) (by rw [hK]; rfl) (by rw [hK]; rfl) rfl (by rw [hK]; kernel_rfl) (by rw [hK]; kernel_rfl)) (by decide) hA S hg q
theorem pf_init (hK : HK C) (hP : PyOk C) {A : Around} {s : Shared} {g : Heap} {e : Addr} {m : Str} {i : Int} {t u : Tok} {R : Result → Shared → Prop} (hA : A.depth + 4 < recursionLimit) (hg : ∀ b o, C.base.get? b = some o → g.get? b = some o) (S : ExS g s.heap e 262 [])
    (q : ∀ h' tk, ExS g h' e 262 ["step", "what"] → R (.ok (.ret .none)) { s with heap := h', toks := tk }) : codeAny (model C.prog C.w) A (.call (.ref 252) ⟨[.ref e, .str m t, .int i u], []⟩) R s :=
  init_fn (names := ["self", "what", "step"]) (vals := [.str m t, .int i u]) (v := .str m t) (vz := .int i u) (n := 2) hP (by rw [hK]; rfl) (by rw [hK]; kernel_rfl) rfl rfl (by rw [hK]; rfl) rfl (by rw [hK]; rfl) (by rw [hK]; rfl) (by rw [hK]; kernel_rfl) (by rw [hK]; kernel_rfl)
    (exk hK (by rw [hK]; kernel_rfl)) rfl rfl rfl rfl rfl rfl (by decide) (by decide) rfl rfl rfl rfl rfl rfl (fun ζ => ⟨_, rfl⟩) (by decide)
    (sup_fn (f2 := 223) (exk hK (name := "what") (by rw [hK]; kernel_rfl)) (by rw [hK]; kernel_rfl) (by rw [hK]; rfl) (by rw [hK]; kernel_rfl) (by rw [hK]; rfl) rfl (by rw [hK]; kernel_rfl) fun A' s' g' R hA hg S q => fd_init hK hP (by lia -matchEqs) hg S q) (by decide) (by lia -matchEqs) S hg q
theorem raise_pf (hK : HK C) (hE : C.exc = 262) (hP : PyOk C) {m : Str} {i : Int} {kk kk2 : Nat} {np p1 p2 p3 p4 pos : Pos} {Q : Fl → Fm → P → Prop} (hk : sc.names.lookup (Str.ofString "ProofFault") = some .globalImplicit) (q : X p) :
    T1 C (k + 4) sc fr p (.Raise (some (.Call (.Name (Str.ofString "ProofFault") np) [.Constant (.str m) kk p1, .UnaryOp .USub (.Constant (.int i) kk2 p2) p3] [] p4)) none pos) Q X := by
  refine T1_Raise (he := by intro _; rfl) (hpl := by intro _; rfl) (hd := by decide +kernel) (k := k + 1) (m := m) (i := -i) (ns := ["step", "what"]) (fI := 252) hk (by rw [hK, hE]; rfl) (by rw [hK, hE]; kernel_rfl) PySem.F.excBase_Exception (by rw [hK, hE]; rfl) (by decide +kernel) (by decide +kernel) (by decide +kernel) (by decide +kernel) (by rw [hK, hE]; kernel_rfl) (by rw [hK]; rfl) ?_
    (TAs_cons (he := by intro _; rfl) (T_str (TAs_cons (he := by intro _; rfl) (T_UnaryOp (T_int (OpU_neg (TAs_nil ⟨rfl, q⟩))))))) 
  rw [hE]
  exact fun t u A' s' g' e R hA hg S q => pf_init hK hP hA hg S q
end
end Tl
end

section
open PySem PySem.W PySem.Calls PyProof.Rows
set_option linter.unusedVariables false
set_option maxRecDepth 100000
namespace Tl
section
noncomputable def GG : List (Str × Value) := [(Str.ofString "len", .builtin "len"), (Str.ofString "sum", .builtin "sum"), (Str.ofString "abs", .builtin "abs"), (Str.ofString "max", .builtin "max"), (Str.ofString "min", .builtin "min"), (Str.ofString "sorted", .builtin "sorted"), (Str.ofString "repr", .builtin "repr"),
  (Str.ofString "int", .type "int"), (Str.ofString "tuple", .type "tuple"), (Str.ofString "list", .type "list"), (Str.ofString "range", .type "range"), (Str.ofString "dict", .type "dict"), (Str.ofString "set", .type "set"),
  (Str.ofString "values_of", .ref 32), (Str.ofString "linear_holds", .ref 46), (Str.ofString "arith_holds", .ref 53), (Str.ofString "choice_holds", .ref 74), (Str.ofString "count_holds", .ref 79), (Str.ofString "holds", .ref 115), (Str.ofString "listed_vars", .ref 122), (Str.ofString "vars_of", .ref 129),
  (Str.ofString "put_behind", .ref 136), (Str.ofString "from_values", .ref 143), (Str.ofString "size", .ref 148), (Str.ofString "next_from", .ref 155), (Str.ofString "has", .ref 162), (Str.ofString "values", .ref 169), (Str.ofString "up_to", .ref 174), (Str.ofString "from_on", .ref 179), (Str.ofString "without", .ref 186),
  (Str.ofString "meet", .ref 193), (Str.ofString "negation", .ref 200), (Str.ofString "struck", .ref 207), (Str.ofString "divisor_of", .ref 271), (Str.ofString "_law_draw", .ref 394), (Str.ofString "_law_pick", .ref 401), (Str.ofString "_law_lots", .ref 408), (Str.ofString "_law_told", .ref 413), (Str.ofString "_law_keeps", .ref 418),
  (Str.ofString "_law_says", .ref 425), (Str.ofString "_law_clause", .ref 432), (Str.ofString "_law_left", .ref 437), (Str.ofString "_law_answer", .ref 444)]
theorem GG_ok {C : Cfg} (hK : HK C) : okG C.K GG = true := by rw [hK]; kernel_rfl
section
variable {C : Cfg} {k : Nat} {sc : Scope} {fr : Fm} {p : P} {X : P → Prop}
theorem W_S (hK : HK C) {st : List Stmt} {Q : Fl → Fm → P → Prop} (h : Wa C k sc X GG 30 fr p (.s st Q)) : TS C k sc fr p st Q X := Wa_ok (GG_ok hK) 30 fr p (.s st Q) h
theorem W_E (hK : HK C) {e : Expr} {Q : V → P → Prop} (h : Wa C k sc X GG 30 fr p (.e e Q)) : TE C k sc fr p e Q X := Wa_ok (GG_ok hK) 30 fr p (.e e Q) h
theorem W_T (hK : HK C) {e : Expr} {Kt Kf : P → Prop} (h : Wa C k sc X GG 30 fr p (.t e Kt Kf)) : TT C k sc fr p e (two Kt Kf) X := Wa_ok (GG_ok hK) 30 fr p (.t e Kt Kf) h
theorem len1 {l : List Value} (h : l.length = 1) : ∃ a, l = [a] := List.length_eq_one_iff.mp h
theorem len2 {l : List Value} (h : l.length = 2) : X2 fun a b => l = [a, b] := by
  rcases l with _ | ⟨a, l⟩
  · cases h
  · obtain ⟨b, rfl⟩ := len1 (l := l) (by simpa using h); exact ⟨a, b, rfl⟩
theorem len3 {l : List Value} (h : l.length = 3) : X3 fun a b c => l = [a, b, c] := by
  rcases l with _ | ⟨a, l⟩
  · cases h
  · obtain ⟨b, c, rfl⟩ := len2 (l := l) (by simpa using h); exact ⟨a, b, c, rfl⟩
theorem len5 {l : List Value} (h : l.length = 5) : X5 fun a b c d e => l = [a, b, c, d, e] := by
  rcases l with _ | ⟨a, _ | ⟨b, l⟩⟩
  · cases h
  · cases h
  · obtain ⟨c, d, e, rfl⟩ := len3 (l := l) (by simpa using h); exact ⟨a, b, c, d, e, rfl⟩
noncomputable def fq (J : Fm → P → Prop) (Q : Fl → Fm → P → Prop) : Fl → Fm → P → Prop := fun fl fr p => match fl with
  | .next => J fr p
  | .cont => J fr p
  | .brk => Q .next fr p
  | .ret u => Q (.ret u) fr p
noncomputable def lJ (J : Nat → Fm → P → Prop) (n : Nat) (fr : Fm) (p : P) : Prop := ∃ m, m < n ∧ J m fr p
theorem TFor_J {ns : List Str} {t : Expr} {b : List Stmt} {Q : Fl → Fm → P → Prop} (J : List V → Fm → P → Prop) {items : List V} (h0 : J items fr p) (hnil : ∀ fr p, J [] fr p → Q .next fr p)
    (hcons : ∀ (J' : List V → Fm → P → Prop) (Q' : Fl → Fm → P → Prop), (∀ l fr p, J l fr p → J' l fr p) → (∀ fl fr p, Q fl fr p → Q' fl fr p) → ∀ v r fr p, J (v :: r) fr p → TA C k sc ns fr p t v (fun fr₁ p₁ => TS C k sc fr₁ p₁ b (fq (J' r) Q') X0)) : TFor C k sc ns t b Q items fr p :=
  TFor_inv J hnil (hcons J Q (fun ζ ζ ζ h => h) fun ζ ζ ζ h => h) items fr p h0
theorem T1_While_J {t : Expr} {b : List Stmt} {pos : Pos} {Q : Fl → Fm → P → Prop} (J : Nat → Fm → P → Prop) (n : Nat) (h0 : J n fr p)
    (h : ∀ (J' : Nat → Fm → P → Prop) (Q' : Fl → Fm → P → Prop), (∀ l fr p, J l fr p → J' l fr p) → (∀ fl fr p, Q fl fr p → Q' fl fr p) → ∀ n fr p, J n fr p → TT C k sc fr p t (two (fun p₁ => TS C k sc fr p₁ b (fq (lJ J' n) Q') X0) fun p₁ => Q' .next fr p₁) X0) : T1 C k sc fr p (.While t b [] pos) Q X :=
  T1_While J n h0 (h J Q (fun ζ ζ ζ h => h) fun ζ ζ ζ h => h)
theorem le_up {a b c : Nat} (h : a ≤ b) (hb : Nat.ble b c = true) : a ≤ c := Nat.le_trans h (Nat.le_of_ble_eq_true hb)
theorem le_map {α β : Type} {f : α → β} {l : List α} {b c : Nat} (h : l.length ≤ b) (hb : Nat.ble b c = true) : (l.map f).length ≤ c := by rw [List.length_map]; exact le_up h hb
theorem tn_lt {i : Int} {n : Nat} (h0 : 0 ≤ i) (h : i < n) : i.toNat < n := (Int.toNat_lt h0).mpr h
theorem it_len {m : Nat} {Q : List V → P → Prop} (h : m ≤ 1000000) (q : Q ((List.range m).map fun i : Nat => .int (Int.ofNat i)) p) : ∃ items, ItV (.rng 0 (m : Int)) items ∧ Q items p := by
  have e : ((List.range ((m : Int) - 0).toNat).map fun i : Nat => V.int (0 + (i : Int))) = (List.range m).map fun i : Nat => .int (Int.ofNat i) := by
    rw [Int.sub_zero, Int.toNat_natCast]; exact List.map_congr_left fun i ζ => by rw [Int.zero_add]; rfl
  exact ⟨_, .rng (by decide) (by decide) (Int.le_trans (by decide) (Int.natCast_nonneg m)) (Int.le_trans (Int.ofNat_le.mpr h) (by decide)), e ▸ q⟩
theorem it_any {y b : Int} {Q : List V → P → Prop} (h0 : 0 ≤ y) (h1 : y < b) (hb : b ≤ 1000) (q : ∀ L : List V, L.length = y.toNat → Q L p) : ∃ items, ItV (.rng 0 y) items ∧ Q items p :=
  ⟨_, .rng (by decide) (by decide) (Int.le_trans (by decide) h0) (Int.le_trans (Int.le_of_lt h1) (Int.le_trans hb (by decide))), q _ (by rw [List.length_map, List.length_range, Int.sub_zero])⟩
theorem tn_le {y : Int} {n : Nat} (h : y < (n : Int) + 1) : y.toNat ≤ n := Int.toNat_le.mpr (Int.le_of_lt_add_one h)
theorem bind1 {F : FuncData} {ns : List Str} (h : ∀ a, bindArgs F ⟨[a], []⟩ = pure (ns.zip [a])) (l : List Value) (hl : l.length = 1) : bindArgs F ⟨l, []⟩ = pure (ns.zip l) := by obtain ⟨a, rfl⟩ := len1 hl; exact h a
theorem bind2 {F : FuncData} {ns : List Str} (h : ∀ a b, bindArgs F ⟨[a, b], []⟩ = pure (ns.zip [a, b])) (l : List Value) (hl : l.length = 2) : bindArgs F ⟨l, []⟩ = pure (ns.zip l) := by obtain ⟨a, b, rfl⟩ := len2 hl; exact h a b
theorem bind3 {F : FuncData} {ns : List Str} (h : ∀ a b c, bindArgs F ⟨[a, b, c], []⟩ = pure (ns.zip [a, b, c])) (l : List Value) (hl : l.length = 3) : bindArgs F ⟨l, []⟩ = pure (ns.zip l) := by obtain ⟨a, b, c, rfl⟩ := len3 hl; exact h a b c
theorem len4 {l : List Value} (h : l.length = 4) : X4 fun a b c d => l = [a, b, c, d] := by
  rcases l with _ | ⟨a, l⟩
  · cases h
  · obtain ⟨b, c, d, rfl⟩ := len3 (l := l) (by simpa using h); exact ⟨a, b, c, d, rfl⟩
theorem bind4 {F : FuncData} {ns : List Str} (h : ∀ a b c d, bindArgs F ⟨[a, b, c, d], []⟩ = pure (ns.zip [a, b, c, d])) (l : List Value) (hl : l.length = 4) : bindArgs F ⟨l, []⟩ = pure (ns.zip l) := by obtain ⟨a, b, c, d, rfl⟩ := len4 hl; exact h a b c d
theorem bind5 {F : FuncData} {ns : List Str} (h : ∀ a b c d e, bindArgs F ⟨[a, b, c, d, e], []⟩ = pure (ns.zip [a, b, c, d, e])) (l : List Value) (hl : l.length = 5) : bindArgs F ⟨l, []⟩ = pure (ns.zip l) := by obtain ⟨a, b, c, d, e, rfl⟩ := len5 hl; exact h a b c d e
noncomputable def okF (sc : Scope) (ns : List Str) : Bool := !sc.isCoroutine && (!sc.isGenerator && (decide (sc.kind = .function) && (decide ns.Nodup && ns.all fun x => decide (sc.names.lookup x = some .local ∨ sc.names.lookup x = some .cell))))
theorem T_fnf (hK : HK C) {names : List Str} {f : Addr} {name qual : Str} {params : Arguments} {body : List Stmt} {dV kV doc pm cdv ct oc : Value} {an od : Option Addr} {osl : Array (Option Value)} {args : List V} {Q : V → P → Prop}
    (ho : List.lookup f (zK C.w.params) = some ⟨oc, od, .func (fnOf name qual params body sc dV kV doc pm an cdv ct), osl⟩) (hcd : codeIn (zK C.w.params) cdv qual = true)
    (hb : ∀ args' : List Value, args'.length = args.length → bindArgs (fnOf name qual params body sc dV kV doc pm an cdv ct) ⟨args', []⟩ = pure (names.zip args'))
    (hs : okF sc names = true) (h : TSf C k sc (names.zip args) p body (fun fl ζ p' => Back Q fl.val p') X) : TCC C (k + 1) (.ref f) args p Q X := by
  obtain ⟨h1, hs⟩ := Bool.and_eq_true_iff.mp hs
  obtain ⟨h2, hs⟩ := Bool.and_eq_true_iff.mp hs
  obtain ⟨h3, hs⟩ := Bool.and_eq_true_iff.mp hs
  obtain ⟨h4, hs⟩ := Bool.and_eq_true_iff.mp hs
  rw [← hK] at ho hcd
  exact T_defXf ho hcd hb (of_decide_eq_true h4) (fun x hx => of_decide_eq_true (List.all_eq_true.mp hs x hx)) (by rw [Bool.not_eq_true'] at h1; exact h1) (by rw [Bool.not_eq_true'] at h2; exact h2) (of_decide_eq_true h3) h
theorem T_fnC (hK : HK C) {names : List Str} {f : Addr} {name qual : Str} {params : Arguments} {body : List Stmt} {dV kV doc pm cdv ct oc : Value} {an od : Option Addr} {osl : Array (Option Value)} {args : List V} {Q : V → P → Prop}
    (ho : List.lookup f (zK C.w.params) = some ⟨oc, od, .func (fnOf name qual params body sc dV kV doc pm an cdv ct), osl⟩) (hcd : codeIn (zK C.w.params) cdv qual = true)
    (hb : ∀ args' : List Value, args'.length = args.length → bindArgs (fnOf name qual params body sc dV kV doc pm an cdv ct) ⟨args', []⟩ = pure (names.zip args'))
    (hs : okF sc names = true) (h : TS C k sc (names.zip args) p body (fun fl ζ p' => Back Q fl.val p') X) : TCC C (k + 1) (.ref f) args p Q X := T_fnf hK ho hcd hb hs h.f
theorem T_fn (hK : HK C) {names : List Str} {f : Addr} {name qual : Str} {params : Arguments} {body : List Stmt} {dV kV doc pm cdv ct oc : Value} {an od : Option Addr} {osl : Array (Option Value)} {args : List V} {Q : V → P → Prop}
    (ho : List.lookup f (zK C.w.params) = some ⟨oc, od, .func (fnOf name qual params body sc dV kV doc pm an cdv ct), osl⟩) (hcd : codeIn (zK C.w.params) cdv qual = true)
    (hb : ∀ args' : List Value, args'.length = args.length → bindArgs (fnOf name qual params body sc dV kV doc pm an cdv ct) ⟨args', []⟩ = pure (names.zip args'))
    (hs : okF sc names = true) (h : TS C k sc (names.zip args) p body (fun fl ζ p' => Back Q fl.val p') X) : TC C (k + 1) (.ref f) args p Q X := (T_fnC hK ho hcd hb hs h).tc
theorem gI_tupN {l : List V} {v : V} {n : Nat} {Q : V → P → Prop} (h : l[n]? = some v) (hn : n < 1000) (q : Q v p) : gI C k p Q (.tup l) (.int (Int.ofNat n)) := by
  have e : nth l n = some v := by rw [nth_eq, h]
  show (match nth l n with | some v => if Nat.blt n 1000 = true then Q v p else LG C k (.tup l) (.int (.ofNat n)) p Q | none => LG C k (.tup l) (.int (.ofNat n)) p Q)
  rw [e]
  show if _ then _ else _
  rw [if_pos (by simpa using hn)]
  exact q
theorem gI_tupI {l : List V} {v : V} {i : Int} {Q : V → P → Prop} (h0 : 0 ≤ i) (h1 : i < 1000) (h : l[i.toNat]? = some v) (q : Q v p) : gI C k p Q (.tup l) (.int i) := by
  obtain ⟨n, rfl⟩ : ∃ n : Nat, i = Int.ofNat n := ⟨i.toNat, by simp; lia -matchEqs⟩
  exact gI_tupN (by simpa using h) (by simp at h1; lia -matchEqs) q
theorem in_str {a : Str} {l : List V} {Q : V → P → Prop} {b : Bool} (ha : pl 0 (.str a) = true) (hl : pls 0 l = true) (hb : (l.any fun y => eqV y (.str a)) = b) (q : Q (.bool b) p) : LQ C k .In (.str a) (.tup l) p Q := ⟨OpC_inT (hn := by decide) 0 0 ha hl (by rw [hb]; exact q)⟩
theorem LM.append {a : Addr} {l : List V} {K : Value → Prop} (ha : p a = some (.list l)) (q : K (.builtin "list.append")) : LM C p (.ref a) (Str.ofString "append") K :=
  .blt PySem.F.plainAttrs_list PySem.F.slot_list_append PySem.F.type_list_append (fun F s o' I r => isList ha I r) q
theorem LM.extend {a : Addr} {l : List V} {K : Value → Prop} (ha : p a = some (.list l)) (q : K (.builtin "list.extend")) : LM C p (.ref a) (Str.ofString "extend") K :=
  .blt PySem.F.plainAttrs_list PySem.F.slot_list_extend PySem.F.type_list_extend (fun F s o' I r => isList ha I r) q
theorem LM.get {a : Addr} {l : List (Int × V)} {K : Value → Prop} (ha : p a = some (.di l)) (q : K (.builtin "dict.get")) : LM C p (.ref a) (Str.ofString "get") K :=
  .blt PySem.F.plainAttrs_dict PySem.F.slot_dict_get PySem.F.type_dict_get (fun F s o' I r => by cases r; obtain ⟨kvs, hD, _, _⟩ := dict_i I ha; exact ⟨hD.typeIs, hD.mapOf.noDict⟩) q
theorem Le.put {p : P} {a : Addr} {o : O} (h : p a = none) : Le p (put p a o) := fun b => by
  by_cases e : b = a
  · subst e; exact .inr h
  · exact .inl (put_ne p o e).symm
theorem Le.trans {p p' p'' : P} (h : Le p p') (g : Le p' p'') : Le p p'' := fun a => by
  rcases h a with e | e
  · rcases g a with e' | e'
    · exact .inl (e.trans e')
    · exact .inr (e.trans e')
  · exact .inr e
theorem Le.at {p p' : P} {a : Addr} {o : O} (h : Le p p') (e : p a = some o) : p' a = some o := by
  rcases h a with z | z
  · rw [← z]; exact e
  · rw [e] at z; cases z
theorem back_le {v : V} {p' : P} {Q : V → P → Prop} (h : Le p p') (q : Q v p) : Back Q v p' := ⟨v, p, h, .same v, q⟩
theorem TC_less {f : Value} {args : List V} {k' : Nat} {Q : V → P → Prop} (h : TC C k f args p Q X) (hk : k ≤ k') : TC C k' f args p Q X := TC_up hk h
end
end
end Tl
end

section
open PySem PySem.W PySem.Calls PyProof.Rows
set_option linter.unusedVariables false
set_option maxRecDepth 100000
namespace Tl
section
noncomputable abbrev iv (e : Int × Int) : V := .tup [.int e.1, .int e.2]
noncomputable abbrev ivs (d : List (Int × Int)) : List V := d.map iv
noncomputable abbrev ivV (d : List (Int × Int)) : V := .tup (ivs d)
noncomputable def sizeM (d : List (Int × Int)) : Int := (d.map fun e => e.2 - e.1 + 1).sum

theorem seq_if {i : Int} {n : Nat} (h : 0 ≤ i) (h2 : i < n) : (if (decide (0 ≤ i) && decide (i < n)) = true then some i.toNat else none) = some i.toNat := if_pos (by rw [decide_eq_true h, decide_eq_true h2]; rfl)
theorem seq_last {n : Nat} (h : 0 < n) : seqIndex? (-1) n = some (n - 1) := by
  cases n with
  | zero => cases h
  | succ m =>
    have e : (-1 : Int) + ((m + 1 : Nat) : Int) = m := by rw [Int.natCast_add, Int.add_comm, Int.add_assoc]; exact Int.add_zero _
    have := seq_if (Int.natCast_nonneg m) (Int.ofNat_lt.mpr (Nat.lt_succ_self m))
    rw [← e] at this
    refine this.trans ?_
    rw [e]; rfl
theorem seq_nat {i : Int} {n : Nat} (h : 0 ≤ i) (h2 : i < n) : seqIndex? i n = some i.toNat := by
  unfold seqIndex?
  rw [if_neg (Int.not_lt.mpr h)]
  exact seq_if h h2
theorem seq_at {j n : Nat} (h : j < n) : seqIndex? (j : Int) n = some j := seq_nat (Int.natCast_nonneg j) (Int.ofNat_lt.mpr h)
theorem i63 {j n : Nat} (h : j < n) (hn : n ≤ 1000000) : -(2 ^ 63) ≤ (j : Int) ∧ (j : Int) < 2 ^ 63 := ⟨Int.le_trans (by decide) (Int.natCast_nonneg j), Int.lt_of_lt_of_le (Int.ofNat_lt.mpr h) (Int.le_trans (Int.ofNat_le.mpr hn) (by decide))⟩

section
variable {C : Cfg} {k : Nat} {sc : Scope} {fr : Fm} {p : P} {X : P → Prop}
theorem LG_lst {α : Type} {g : α → V} {l : List α} {j : Nat} {x : α} {Q : V → P → Prop} (h : l[j]? = some x) (hn : l.length ≤ 1000000) (q : Q (g x) p) : LG C k (.lst (l.map g)) (.int (j : Int)) p Q :=
  have hj := (List.getElem?_eq_some_iff.mp h).1
  ⟨GetI_lst (seq_at (by rw [List.length_map]; exact hj)) (by rw [List.getElem?_map, h]; rfl) q (i63 hj hn).1 (i63 hj hn).2⟩
theorem LG_ref {α : Type} {g : α → V} {a : Addr} {l : List α} {j : Nat} {x : α} {Q : V → P → Prop} (ha : p a = some (.list (l.map g))) (h : l[j]? = some x) (hn : l.length ≤ 1000000) (q : Q (g x) p) : LG C k (.ref a) (.int (j : Int)) p Q :=
  have hj := (List.getElem?_eq_some_iff.mp h).1
  ⟨GetI_ref ha (seq_at (by rw [List.length_map]; exact hj)) (by rw [List.getElem?_map, h]; rfl) q (i63 hj hn).1 (i63 hj hn).2⟩
theorem put_put (p : P) (a : Addr) (o o' : O) : put (put p a o) a o' = put p a o' := by
  funext b; unfold put; split <;> rfl
theorem back_drop {v : V} {a : Addr} {o : O} {Q : V → P → Prop} (ha : p a = none) (q : Q v p) : Back Q v (put p a o) :=
  ⟨v, p, fun b => by
    unfold put
    by_cases h : b = a
    · subst h; exact .inr ha
    · rw [if_neg h]; exact .inl rfl, .same v, q⟩
theorem GetI_rlast {a : Addr} {l : List V} {v : V} {Q : V → P → Prop} (ha : p a = some (.list (l ++ [v]))) (q : Q v p) : GetI C k (.ref a) (.int (-1)) p Q :=
  GetI_ref (hlo := by decide) (hhi := by decide) (j := l.length) ha (by rw [seq_last (by simp)]; simp) (by simp) q
theorem SetI_rlast {a : Addr} {l : List V} {u v : V} {Q : P → Prop} (ha : p a = some (.list (l ++ [u]))) (q : Q (put p a (.list (l ++ [v])))) : SetI C k (.ref a) (.int (-1)) v p Q :=
  SetI_list (hlo := by decide) (hhi := by decide) (j := l.length) ha (by rw [seq_last (by simp)]; simp) (by simpa using q)
theorem size_ok (hK : HK C) {d : List (Int × Int)} {Q : V → P → Prop} (hd : d.length ≤ 1000000) (q : Q (.int (sizeM d)) p) : TC C (k + 1) (.ref 148) [ivV d] p Q X := by
  refine T_fn (X := X) hK (names := [Str.ofString "d"]) rfl rfl (bind1 fun ζ => rfl) (by rfl) ?_
  refine W_S hK (LE.mk (T_ListComp (hkind := rfl) (hpl := plain1 ⟨rfl, fun ζ ζ => rfl⟩) (L := [Str.ofString "low", Str.ofString "high"]) (by decide) rfl (by rfl) (TI_val (W_E hK ⟨_, .tup _, ?_⟩))))
  refine TLo_map (g := fun e => .int (e.2 - e.1 + 1)) hd (fun e he acc K' hl hK' => ?_) ?_
  · exact TA_2 (.inl rfl) (.inl rfl) (by decide) (by decide) ⟨(sub_setL (by rfl)).trans (sub_setL (by rfl)), ⟨fun ζ => ⟨hl, W_E hK hK'⟩, fun h => by cases h⟩⟩
  · exact LC.mk (TC_sum' (ns := d.map fun e : Int × Int => e.2 - e.1 + 1) (by rw [List.map_map]; rfl) (back_same q))
noncomputable def putM (d : List (Int × Int)) (low high : Int) : List (Int × Int) :=
  match d.getLast? with
  | none => d ++ [(low, high)]
  | some (l, h) => if low ≤ h + 1 then (if h < high then d.dropLast ++ [(l, high)] else d) else d ++ [(low, high)]
theorem putM_at {d : List (Int × Int)} {l h low high : Int} : putM (d ++ [(l, h)]) low high = if low ≤ h + 1 then (if h < high then d ++ [(l, high)] else d ++ [(l, h)]) else d ++ [(l, h)] ++ [(low, high)] := by
  unfold putM; rw [List.getLast?_concat, List.dropLast_concat]
theorem ivs_at (d : List (Int × Int)) (l h : Int) : ivs (d ++ [(l, h)]) = ivs d ++ [iv (l, h)] := List.map_append
theorem put_id {p : P} {a : Addr} {o : O} (h : p a = some o) : put p a o = p := by
  funext b; unfold put; split
  · rename_i e; rw [e, h]
  · rfl
theorem put_behind_ok (hK : HK C) {a : Addr} {d : List (Int × Int)} {low high : Int} {Q : V → P → Prop} (hd : d.length ≤ 100000) (ha : p a = some (.list (ivs d))) (q : Q .none (put p a (.list (ivs (putM d low high))))) : TC C (k + 1) (.ref 136) [.ref a, .int low, .int high] p Q X := by
  refine T_fn (X := X) hK (names := [Str.ofString "found", Str.ofString "low", Str.ofString "high"]) rfl rfl (bind3 fun ζ ζ ζ => rfl) (by rfl) ?_
  have hlen : (ivs d).length ≤ 1000000 := by simp; lia -matchEqs
  refine W_S hK (LC.mk (TC_lenR ha hlen ?_))
  rcases List.eq_nil_or_concat d with rfl | ⟨d', ⟨l, h⟩, rfl⟩
  · exact if_f rfl (LM.append ha (LC.mk (TC_append ha hlen ⟨rfl, back_same q⟩)))
  · rw [List.concat_eq_append] at *
    rw [putM_at] at q
    rw [ivs_at] at ha hlen
    refine if_t (by simp) (LG.mk (GetI_rlast ha (ifB.mk (fun h1 => LG.mk (GetI_rlast ha (ifB.mk (fun h2 => ?_) fun h2 => ?_))) fun h1 => ?_)))
    · rw [if_pos (of_decide_eq_true h1), if_pos (of_decide_eq_true h2), ivs_at] at q
      exact LG.mk (GetI_rlast ha (LS.mk (SetI_rlast ha (back_same q))))
    · rw [if_pos (of_decide_eq_true h1), if_neg (of_decide_eq_false h2), ivs_at, put_id ha] at q
      exact back_same q
    · rw [if_neg (of_decide_eq_false h1), ivs_at, ivs_at] at q
      exact LM.append ha (LC.mk (TC_append ha hlen ⟨rfl, back_same q⟩))

noncomputable def fromM (ns : List Int) : List (Int × Int) := ns.foldl (fun d v => putM d v v) []
theorem putM_length (d : List (Int × Int)) (l h : Int) : (putM d l h).length ≤ d.length + 1 := by
  rcases List.eq_nil_or_concat d with rfl | ⟨d', ⟨a, b⟩, rfl⟩
  · exact Nat.le_refl 1
  · rw [List.concat_eq_append, putM_at]
    by_cases h1 : l ≤ b + 1
    · rw [if_pos h1]
      by_cases h2 : b < h
      · rw [if_pos h2, List.length_append, List.length_append]; exact Nat.le_succ _
      · rw [if_neg h2]; exact Nat.le_succ _
    · rw [if_neg h1, List.length_append]; exact Nat.le_refl _
theorem from_values_ok (hK : HK C) {ns : List Int} {Q : V → P → Prop} (hn : ns.length < 64) (q : ∀ ms : List Int, ms.Perm ns → ms.Pairwise (· ≤ ·) → Q (ivV (fromM ms)) p) : TC C (k + 2) (.ref 143) [.lst (ns.map .int)] p Q X := by
  refine T_fn (X := X) hK (names := [Str.ofString "numbers"]) rfl rfl (bind1 fun ζ => rfl) (by rfl) ?_
  refine W_S hK (LL.made fun a hp => L1.mk (T1_For (ns := [Str.ofString "v"]) (TI_val (W_E hK (LC.mk (TC_sorted' rfl hn fun ms hperm hsort => ⟨_, .lst _, ?_⟩)))) (fun ζ ζ => rfl)))
  refine TFor_J (fun r fr p' => X2 fun rest d => A5 (r = List.map V.int rest) (Sub [(Str.ofString "found", .ref a)] fr) (p' = put p a (.list (ivs d))) (rest.foldl (fun d v => putM d v v) d = fromM ms) (d.length + rest.length ≤ 64)) ⟨ms, [], rfl, by (repeat (first | exact sub_nil | exact Sub.refl _ | refine sub_cons (by rfl) ?_)), rfl, rfl, by have := hperm.length_eq; simp; lia -matchEqs⟩ ?_ ?_
  · rintro fr p' ⟨rest, d, h1, h2, rfl, h3, h4⟩
    cases rest with
    | cons _ _ => cases h1
    | nil =>
      refine TS_weak h2 (W_S hK (LC.mk (TC_tupleR (put_self _ _ _) (by simp; simp at h4; lia -matchEqs) (back_drop hp ?_))))
      have : d = fromM ms := h3
      rw [this]
      exact q ms hperm hsort
  · rintro J' Q' hJ hQ v r fr p' ⟨rest, d, h1, h2, rfl, h3, h4⟩
    cases rest with
    | nil => cases h1
    | cons m rest =>
      cases h1
      rw [List.length_cons] at h4
      refine TA_weak h2 (TA_1 (.inl rfl) (by simp) (W_S hK (LC.mk (put_behind_ok hK (d := d) (by lia -matchEqs) (put_self _ _ _) ⟨rfl, hJ _ _ _ ⟨rest, putM d m m, rfl, by (repeat (first | exact sub_nil | exact Sub.refl _ | refine sub_cons (by rfl) ?_)), put_put _ _ _ _, h3, ?_⟩⟩))))
      have := putM_length d m m
      lia -matchEqs
end
end
end Tl
end

section
open PySem PySem.W PySem.Calls PyProof.Rows
set_option linter.unusedVariables false
set_option maxRecDepth 100000
namespace Tl
section
section
variable {C : Cfg} {k : Nat} {sc : Scope} {fr : Fm} {p : P} {X : P → Prop}
theorem cvl_refl {p' p : P} : ∀ l : List V, CvL p' p l l
  | [] => .nil
  | v :: r => .cons (.same v) (cvl_refl r)
theorem back_frz {l : List V} {a : Addr} {Q : V → P → Prop} (ha : p a = none) (q : Q (.lst l) p) : Back Q (.ref a) (put p a (.list l)) :=
  ⟨.lst l, p, fun b => by
    unfold put
    by_cases h : b = a
    · subst h; exact .inr ha
    · rw [if_neg h]; exact .inl rfl, .frz (put_self _ _ _) ha (cvl_refl l), q⟩

noncomputable def oV : Option Int → V
  | none => .none
  | some i => .int i
noncomputable def nextM : List (Int × Int) → Int → Option Int
  | [], _ => none
  | e :: r, v => if v ≤ e.2 then some (if v > e.1 then v else e.1) else nextM r v
theorem next_from_ok (hK : HK C) {d : List (Int × Int)} {v : Int} {Q : V → P → Prop} (q : Q (oV (nextM d v)) p) : TC C (k + 1) (.ref 155) [ivV d, .int v] p Q X := by
  refine T_fn (X := X) hK (names := [Str.ofString "d", Str.ofString "v"]) rfl rfl (bind2 fun ζ ζ => rfl) (by rfl) ?_
  refine W_S hK (L1.mk (T1_For (ns := [Str.ofString "low", Str.ofString "high"]) (TI_val (W_E hK ⟨_, .tup _, ?_⟩)) (fun ζ ζ => rfl)))
  refine TFor_J (fun r fr p' => ∃ rest, A4 (r = ivs rest) (Sub [(Str.ofString "v", .int v)] fr) (p' = p) (nextM rest v = nextM d v)) ⟨d, rfl, by (repeat (first | exact sub_nil | exact Sub.refl _ | refine sub_cons (by rfl) ?_)), rfl, rfl⟩ ?_ ?_
  · rintro fr p' ⟨rest, h1, h2, rfl, h3⟩
    cases rest with
    | cons _ _ => cases h1
    | nil => rw [← h3] at q; exact W_S hK (back_same q)
  · rintro J' Q' hJ hQ w r fr p' ⟨rest, h1, h2, rfl, h3⟩
    cases rest with
    | nil => cases h1
    | cons e rest =>
      cases h1
      have hn : nextM (e :: rest) v = if v ≤ e.2 then some (if v > e.1 then v else e.1) else nextM rest v := rfl
      rw [hn] at h3
      refine TA_weak h2 (TA_2 (.inl rfl) (.inl rfl) (by simp) (by simp) (W_S hK (ifB.mk (fun h => LC.mk (TC_max2 ?_)) fun h => ?_)))
      · rw [if_pos (of_decide_eq_true h)] at h3
        rw [← h3] at q
        exact hQ _ _ _ (back_same q)
      · rw [if_neg (of_decide_eq_false h)] at h3
        exact hJ _ _ _ ⟨rest, rfl, by (repeat (first | exact sub_nil | exact Sub.refl _ | refine sub_cons (by rfl) ?_)), rfl, h3⟩
noncomputable def hasM (d : List (Int × Int)) (v : Int) : Bool := eqV (oV (nextM d v)) (.int v)
theorem has_ok (hK : HK C) {d : List (Int × Int)} {v : Int} {Q : V → P → Prop} (q : Q (.bool (hasM d v)) p) : TC C (k + 2) (.ref 162) [ivV d, .int v] p Q X := by
  refine T_fn (X := X) hK (names := [Str.ofString "d", Str.ofString "v"]) rfl rfl (bind2 fun ζ ζ => rfl) (by rfl) ?_
  refine W_S hK (LC.mk (next_from_ok hK ?_))
  have q' := back_same q
  unfold hasM at q'
  generalize nextM d v = o at *
  cases o with
  | none => exact LQ.mk (OpC_eq (hn := by decide) 0 0 rfl rfl q')
  | some i => exact q'
noncomputable def Sm (d : List (Int × Int)) : Prop := d.length ≤ 100 ∧ ∀ e ∈ d, -1000 ≤ e.1 ∧ e.1 ≤ 1000 ∧ -1000 ≤ e.2 ∧ e.2 ≤ 1000
noncomputable def valsM (d : List (Int × Int)) : List Int := d.flatMap fun e => intsFrom e.1 (e.2 + 1 - e.1).toNat
theorem values_ok (hK : HK C) {d : List (Int × Int)} {Q : V → P → Prop} (hd : Sm d) (q : Q (.lst ((valsM d).map .int)) p) : TC C (k + 1) (.ref 169) [ivV d] p Q X := by
  refine T_fn (X := X) hK (names := [Str.ofString "d"]) rfl rfl (bind1 fun ζ => rfl) (by rfl) ?_
  refine W_S hK (LL.made fun a hp => L1.mk (T1_For (ns := [Str.ofString "low", Str.ofString "high"]) (TI_val (W_E hK ⟨_, .tup _, ?_⟩)) (fun ζ ζ => rfl)))
  refine TFor_J (fun r fr p' => X2 fun rest acc => A6 (r = ivs rest) (Sub [(Str.ofString "found", .ref a)] fr) (p' = put p a (.list (List.map V.int acc))) (acc ++ valsM rest = valsM d) (∀ e ∈ rest, e ∈ d) (acc.length + 2001 * rest.length ≤ 2001 * 100)) ⟨d, [], rfl, by (repeat (first | exact sub_nil | exact Sub.refl _ | refine sub_cons (by rfl) ?_)), rfl, rfl, fun ζ h => h, by have := hd.1; simp; lia -matchEqs⟩ ?_ ?_
  · rintro fr p' ⟨rest, acc, h1, h2, rfl, h3, -⟩
    cases rest with
    | cons _ _ => cases h1
    | nil =>
      rw [← h3, show acc ++ valsM [] = acc from List.append_nil acc] at q
      exact TS_weak h2 (W_S hK (back_frz hp q))
  · rintro J' Q' hJ hQ w r fr p' ⟨rest, acc, h1, h2, rfl, h3, h4, h5⟩
    cases rest with
    | nil => cases h1
    | cons e rest =>
      cases h1
      have he := hd.2 e (h4 e (by simp))
      clear hd
      rw [List.length_cons] at h5
      obtain ⟨e1, e2, e3, e4⟩ := he
      have hb : e.2 + 1 - e.1 ≤ 2001 := by lia -matchEqs
      have hr : (e.2 + 1 - e.1).toNat ≤ 2001 := Int.toNat_le.mpr hb
      refine TA_weak h2 (TA_2 (.inl rfl) (.inl rfl) (by simp) (by simp) (W_S hK (LM.extend (put_self _ _ _) (LC.mk (TC_range2 (LC.mk (TC_extendR (put_self _ _ _) (by simp; lia -matchEqs) (by lia -matchEqs) (by lia -matchEqs) (by lia -matchEqs) (by lia -matchEqs) (by lia -matchEqs) ⟨rfl, hJ _ _ _ ⟨rest, acc ++ intsFrom e.1 (e.2 + 1 - e.1).toNat, rfl, by (repeat (first | exact sub_nil | exact Sub.refl _ | refine sub_cons (by rfl) ?_)), by rw [put_put, List.map_append], ?_, fun x hx => h4 x (by simp [hx]), ?_⟩⟩)))))))
      · rw [← h3, List.append_assoc]; rfl
      · rw [List.length_append, show (intsFrom e.1 (e.2 + 1 - e.1).toNat).length = (e.2 + 1 - e.1).toNat by simp [intsFrom]]; lia -matchEqs

noncomputable def upM (d : List (Int × Int)) (k : Int) : List (Int × Int) := (d.filter fun e => decide (e.1 ≤ k)).map fun e => (e.1, if k < e.2 then k else e.2)
theorem up_to_ok (hK : HK C) {d : List (Int × Int)} {i : Int} {Q : V → P → Prop} (hd : d.length ≤ 1000) (q : Q (ivV (upM d i)) p) : TC C (k + 1) (.ref 174) [ivV d, .int i] p Q X := by
  refine T_fn (X := X) hK (names := [Str.ofString "d", Str.ofString "k"]) rfl rfl (bind2 fun ζ ζ => rfl) (by rfl) ?_
  refine W_S hK (LE.mk (T_ListComp (hkind := rfl) (hpl := plain1 ⟨rfl, fun ζ ζ => rfl⟩) (L := [Str.ofString "low", Str.ofString "high"]) (by decide) rfl (by rfl) (TI_val (W_E hK ⟨_, .tup _, ?_⟩))))
  refine TLo_filter (c := fun e => decide (e.1 ≤ i)) (g := fun e => iv (e.1, if i < e.2 then i else e.2)) (by lia -matchEqs) (fun e he acc K' hl hK1 hK2 => ?_) ?_
  · refine TA_2 (.inl rfl) (.inl rfl) (by decide) (by decide) ⟨(sub_setL (by rfl)).trans (sub_setL (by rfl)), ?_⟩
    exact W_T hK (ifB.mk (fun h => br_t rfl ⟨hl, W_E hK (LC.mk (TC_min2 (hK1 h)))⟩) fun h => br_f rfl (hK2 h))
  · have hl := List.length_filter_le (fun e => decide (e.1 ≤ i)) d
    refine LC.mk (TC_tupleL (by simp; lia -matchEqs) (back_same ?_))
    have : ivV (upM d i) = .tup ((d.filter fun e => decide (e.1 ≤ i)).map fun e => iv (e.1, if i < e.2 then i else e.2)) := by unfold ivV ivs upM; rw [List.map_map]; rfl
    rw [this] at q; exact q

noncomputable def onM (d : List (Int × Int)) (k : Int) : List (Int × Int) := (d.filter fun e => decide (k ≤ e.2)).map fun e => (if k > e.1 then k else e.1, e.2)
theorem from_on_ok (hK : HK C) {d : List (Int × Int)} {i : Int} {Q : V → P → Prop} (hd : d.length ≤ 1000) (q : Q (ivV (onM d i)) p) : TC C (k + 1) (.ref 179) [ivV d, .int i] p Q X := by
  refine T_fn (X := X) hK (names := [Str.ofString "d", Str.ofString "k"]) rfl rfl (bind2 fun ζ ζ => rfl) (by rfl) ?_
  refine W_S hK (LE.mk (T_ListComp (hkind := rfl) (hpl := plain1 ⟨rfl, fun ζ ζ => rfl⟩) (L := [Str.ofString "low", Str.ofString "high"]) (by decide) rfl (by rfl) (TI_val (W_E hK ⟨_, .tup _, ?_⟩))))
  refine TLo_filter (c := fun e => decide (i ≤ e.2)) (g := fun e => iv (if i > e.1 then i else e.1, e.2)) (by lia -matchEqs) (fun e he acc K' hl hK1 hK2 => ?_) ?_
  · refine TA_2 (.inl rfl) (.inl rfl) (by decide) (by decide) ⟨(sub_setL (by rfl)).trans (sub_setL (by rfl)), ?_⟩
    exact W_T hK (ifB.mk (fun h => br_t rfl ⟨hl, W_E hK (LC.mk (TC_max2 (hK1 h)))⟩) fun h => br_f rfl (hK2 h))
  · have hl := List.length_filter_le (fun e => decide (i ≤ e.2)) d
    refine LC.mk (TC_tupleL (by simp; lia -matchEqs) (back_same ?_))
    have : ivV (onM d i) = .tup ((d.filter fun e => decide (i ≤ e.2)).map fun e => iv (if i > e.1 then i else e.1, e.2)) := by unfold ivV ivs onM; rw [List.map_map]; rfl
    rw [this] at q; exact q
theorem upM_len (d : List (Int × Int)) (k : Int) : (upM d k).length ≤ d.length := by unfold upM; rw [List.length_map]; exact List.length_filter_le _ _
theorem onM_len (d : List (Int × Int)) (k : Int) : (onM d k).length ≤ d.length := by unfold onM; rw [List.length_map]; exact List.length_filter_le _ _

theorem without_ok (hK : HK C) {d : List (Int × Int)} {v : Int} {Q : V → P → Prop} (hd : d.length ≤ 400) (q : Q (ivV (upM d (v - 1) ++ onM d (v + 1))) p) : TC C (k + 2) (.ref 186) [ivV d, .int v] p Q X := by
  refine T_fn (X := X) hK (names := [Str.ofString "d", Str.ofString "v"]) rfl rfl (bind2 fun ζ ζ => rfl) (by rfl) ?_
  have h1 := upM_len d (v - 1)
  have h2 := onM_len d (v + 1)
  refine W_S hK (LC.mk (up_to_ok hK (by lia -matchEqs) (LC.mk (from_on_ok hK (by lia -matchEqs) (LB.mk (OpB_addT (by simp; lia -matchEqs) (back_same ?_)))))))
  rw [show ivV (upM d (v - 1) ++ onM d (v + 1)) = .tup (ivs (upM d (v - 1)) ++ ivs (onM d (v + 1))) by unfold ivV ivs; rw [List.map_append]] at q
  exact q
end
end
end Tl
end

section
open PySem PySem.W PySem.Calls PyProof.Rows
set_option linter.unusedVariables false
set_option maxRecDepth 100000
namespace Tl
section
section
variable {C : Cfg} {k : Nat} {sc : Scope} {fr : Fm} {p : P} {X : P → Prop}
theorem TA_3 {x y z : Str} {q1 q2 q3 pos : Pos} {kk : Nat} {v u w : V} {L : List Str} {Q : Fm → P → Prop} (hx : sc.names.lookup x = some .local ∨ sc.names.lookup x = some .cell) (hy : sc.names.lookup y = some .local ∨ sc.names.lookup y = some .cell) (hz : sc.names.lookup z = some .local ∨ sc.names.lookup z = some .cell) (hL : x ∈ L) (hL' : y ∈ L) (hL2 : z ∈ L)
    (q : Q (setL z w (setL y u (setL x v fr))) p) : TA C k sc L fr p (.Tuple [.Name x q1, .Name y q2, .Name z q3] kk pos) (.tup [v, u, w]) Q :=
  TA_Tuple (TAL_cons (he := by intro _; rfl) (n₁ := L) (n₂ := L) (TA_1 hx hL (TAL_cons (he := by intro _; rfl) (n₁ := L) (n₂ := L) (TA_1 hy hL' (TAL_cons (he := by intro _; rfl) (n₁ := L) (n₂ := []) (TA_1 hz hL2 (TAL_nil q)) rfl (fun ζ h => h) (fun ζ h => by simp at h) (fun ζ => ⟨rfl, rfl⟩))) rfl (fun ζ h => h) (fun ζ h => h) (fun ζ => ⟨rfl, rfl⟩))) rfl (fun ζ h => h) (fun ζ h => h) (fun ζ => ⟨rfl, rfl⟩))
theorem TA_4 {x y z t : Str} {q1 q2 q3 q4 pos : Pos} {kk : Nat} {v u w r : V} {L : List Str} {Q : Fm → P → Prop} (hx : sc.names.lookup x = some .local ∨ sc.names.lookup x = some .cell) (hy : sc.names.lookup y = some .local ∨ sc.names.lookup y = some .cell) (hz : sc.names.lookup z = some .local ∨ sc.names.lookup z = some .cell) (ht : sc.names.lookup t = some .local ∨ sc.names.lookup t = some .cell) (hL : x ∈ L) (hL' : y ∈ L) (hL2 : z ∈ L) (hL3 : t ∈ L)
    (q : Q (setL t r (setL z w (setL y u (setL x v fr)))) p) : TA C k sc L fr p (.Tuple [.Name x q1, .Name y q2, .Name z q3, .Name t q4] kk pos) (.tup [v, u, w, r]) Q :=
  TA_Tuple (TAL_cons (he := by intro _; rfl) (n₁ := L) (n₂ := L) (TA_1 hx hL (TAL_cons (he := by intro _; rfl) (n₁ := L) (n₂ := L) (TA_1 hy hL' (TAL_cons (he := by intro _; rfl) (n₁ := L) (n₂ := L) (TA_1 hz hL2 (TAL_cons (he := by intro _; rfl) (n₁ := L) (n₂ := []) (TA_1 ht hL3 (TAL_nil q)) rfl (fun ζ h => h) (fun ζ h => by simp at h) (fun ζ => ⟨rfl, rfl⟩))) rfl (fun ζ h => h) (fun ζ h => h) (fun ζ => ⟨rfl, rfl⟩))) rfl (fun ζ h => h) (fun ζ h => h) (fun ζ => ⟨rfl, rfl⟩))) rfl (fun ζ h => h) (fun ζ h => h) (fun ζ => ⟨rfl, rfl⟩))

inductive Sg where
  | le
  | ge
  | eq
  | ne
  deriving DecidableEq
noncomputable def Sg.str : Sg → Str
  | .le => Str.ofString "<="
  | .ge => Str.ofString ">="
  | .eq => Str.ofString "="
  | .ne => Str.ofString "!="
structure Lit where
  x : Int
  s : Sg
  k : Int
noncomputable abbrev Lit.v (l : Lit) : V := .tup [.int l.x, .str l.s.str, .int l.k]
noncomputable def Lit.neg (l : Lit) : Lit := match l.s with
  | .le => ⟨l.x, .ge, l.k + 1⟩
  | .ge => ⟨l.x, .le, l.k - 1⟩
  | .eq => ⟨l.x, .ne, l.k⟩
  | .ne => ⟨l.x, .eq, l.k⟩
theorem sub_append {a b fr' : Fm} (h : Sub a fr') (g : Sub b fr') : Sub (a ++ b) fr' := fun x v e => by
  rw [List.lookup_append] at e
  cases z : a.lookup x with
  | none => rw [z] at e; exact g x v e
  | some u => rw [z] at e; exact h x v (z.trans e)
theorem Sg.pl (s : Sg) : Tl.pl 0 (.str s.str) = true := by cases s <;> decide +kernel
theorem negation_ok (hK : HK C) {l : Lit} {Q : V → P → Prop} (q : Q l.neg.v p) : TC C (k + 1) (.ref 200) [l.v] p Q X := by
  refine T_fn (X := X) hK (names := [Str.ofString "literal"]) rfl rfl (bind1 fun ζ => rfl) (by rfl) ?_
  obtain ⟨x, s, i⟩ := l
  refine W_S hK (L1.mk (T1_Assign_Tuple (ns := [Str.ofString "x", Str.ofString "sign", Str.ofString "k"]) (W_E hK (TA_3 (.inl rfl) (.inl rfl) (.inl rfl) (by simp) (by simp) (by simp) ?_)) (fun ζ => rfl) (fun env he => rfl)))
  have q' := back_same q
  cases s
  · exact SQ.mk (Sg.pl _) (by decide +kernel) (if_t rfl q')
  · exact SQ.mk (Sg.pl _) (by decide +kernel) (if_f rfl (SQ.mk (Sg.pl _) (by decide +kernel) (if_t rfl q')))
  · exact SQ.mk (Sg.pl _) (by decide +kernel) (if_f rfl (SQ.mk (Sg.pl _) (by decide +kernel) (if_f rfl (SQ.mk (Sg.pl _) (by decide +kernel) (if_t rfl q')))))
  · exact SQ.mk (Sg.pl _) (by decide +kernel) (if_f rfl (SQ.mk (Sg.pl _) (by decide +kernel) (if_f rfl (SQ.mk (Sg.pl _) (by decide +kernel) (if_f rfl q')))))

noncomputable def meet1 : List (Int × Int) → Int → List (Int × Int)
  | [], _ => []
  | e :: r, k => (if (if k > e.1 then k else e.1) ≤ (if k < e.2 then k else e.2) then [((if k > e.1 then k else e.1), (if k < e.2 then k else e.2))] else []) ++ (if e.2 < k then meet1 r k else [])
theorem meet1_len (k : Int) : ∀ d, (meet1 d k).length ≤ d.length
  | [] => Nat.le_refl _
  | e :: r => by
    have := meet1_len k r
    rw [show meet1 (e :: r) k = (if (if k > e.1 then k else e.1) ≤ (if k < e.2 then k else e.2) then [((if k > e.1 then k else e.1), (if k < e.2 then k else e.2))] else []) ++ (if e.2 < k then meet1 r k else []) from rfl, List.length_append, List.length_cons]
    have h1 : ∀ (c : Prop) [Decidable c] (v : Int × Int), (if c then [v] else []).length ≤ 1 := fun c ζ v => by split <;> simp
    have h2 : (if e.2 < k then meet1 r k else []).length ≤ r.length := by split; exact this; simp
    have := h1 ((if k > e.1 then k else e.1) ≤ (if k < e.2 then k else e.2)) ((if k > e.1 then k else e.1), (if k < e.2 then k else e.2))
    lia -matchEqs
theorem meet_ok (hK : HK C) {d : List (Int × Int)} {i : Int} {Q : V → P → Prop} (hd : d.length ≤ 400) (q : Q (ivV (meet1 d i)) p) : TC C (k + 1) (.ref 193) [ivV d, ivV [(i, i)]] p Q X := by
  refine T_fn (X := X) hK (names := [Str.ofString "d", Str.ofString "e"]) rfl rfl (bind2 fun ζ ζ => rfl) (by rfl) ?_
  refine W_S hK (L1.mk (T1_Assign_swap (names := [Str.ofString "found", Str.ofString "i", Str.ofString "j"]) (W_E hK (LL.made fun a hp => ⟨_, _, rfl, rfl, rfl, ?_⟩)) (by decide) (fun env he => by cases env; cases he; rfl)))
  have hlen : ∀ (acc r : List (Int × Int)), acc ++ r = meet1 d i → acc.length ≤ 400 := fun acc r h => by
    have h1 := congrArg List.length h
    have h2 := meet1_len i d
    rw [List.length_append] at h1; lia -matchEqs
  have hml : (ivs d).length ≤ 1000000 := by simp; lia -matchEqs
  refine L1.mk (T1_While_J (fun n fr p' => X3 fun (m : Nat) (acc : List (Int × Int)) (j : Bool) => A5 (p' = put p a (.list (ivs acc))) (Sub [(Str.ofString "d", ivV d), (Str.ofString "e", ivV [(i, i)]), (Str.ofString "found", .ref a), (Str.ofString "i", .int m), (Str.ofString "j", .int (bif j then 1 else 0))] fr)
    (m ≤ d.length) (acc ++ (bif j then [] else meet1 (d.drop m) i) = meet1 d i) (n = bif j then 0 else d.length - m + 1)) (d.length + 1) ⟨0, [], false, rfl, by (repeat (first | exact sub_nil | exact Sub.refl _ | refine sub_cons (by rfl) ?_)), Nat.zero_le _, rfl, rfl⟩ ?_)
  rintro J' Q' hJ hQ n fr p' ⟨m, acc, j, rfl, hs, h1, h4, h5⟩
  have hl := hlen _ _ h4
  have hal : (ivs acc).length ≤ 1000000 := by simp; lia -matchEqs
  have fin : acc = meet1 d i → Q' .next fr (put p a (.list (ivs acc))) := fun e => hQ _ _ _ (TS_weak hs (W_S hK (LC.mk (TC_tupleR (put_self _ _ _) hal (back_drop hp (by rw [e]; exact q))))))
  refine TT_weak hs (W_T hK (LC.mk (TC_lenT hml (ifB.mk (fun hc => ?_) fun hc => fin ?_))))
  · refine LC.mk (TC_lenT (by simp) ?_)
    cases j with
    | true => exact if_f rfl (fin (by simpa using h4))
    | false =>
      refine if_t rfl (TS_weak hs (W_S hK ?_))
      have hm : m < d.length := by simpa using hc
      obtain ⟨e, he⟩ : ∃ e, d[m]? = some e := ⟨_, List.getElem?_eq_getElem hm⟩
      have hdr : d.drop m = e :: d.drop (m + 1) := by
        rw [List.drop_eq_getElem_cons hm]
        rw [List.getElem?_eq_getElem hm] at he; cases he; rfl
      have hie : (ivs d)[m]? = some (iv e) := by rw [List.getElem?_map, he]; rfl
      have hm' : m < 1000 := by lia -matchEqs
      have h4' : acc ++ meet1 (d.drop m) i = meet1 d i := h4
      refine L1.mk (T1_Assign_swap (names := [Str.ofString "low", Str.ofString "high"]) (W_E hK (gI_tupN hie hm' (LC.mk (TC_max2 (gI_tupN hie hm' (LC.mk (TC_min2 ⟨_, _, rfl, rfl, rfl, ?_⟩))))))) (by decide) (fun env he => by cases env; cases he; rfl))
      rw [hdr, meet1] at h4'
      generalize (if i > e.1 then i else e.1) = lo at *
      generalize (if i < e.2 then i else e.2) = hi at *
      have go : ∀ acc', acc' ++ (if e.2 < i then meet1 (d.drop (m + 1)) i else []) = meet1 d i → ∀ fr', Sub [(Str.ofString "d", ivV d), (Str.ofString "e", ivV [(i, i)]), (Str.ofString "found", .ref a)] fr' →
        (e.2 < i → Sub [(Str.ofString "i", .int ((m + 1 : Nat) : Int)), (Str.ofString "j", .int 0)] fr' → lJ J' n fr' (put p a (.list (ivs acc')))) ∧ (¬ e.2 < i → Sub [(Str.ofString "i", .int m), (Str.ofString "j", .int 1)] fr' → lJ J' n fr' (put p a (.list (ivs acc')))) := fun acc' h fr' hs' => by
        refine ⟨fun hc hs2 => ?_, fun hc hs2 => ?_⟩
        · rw [if_pos hc] at h
          exact ⟨d.length - (m + 1) + 1, by rw [h5]; simp; lia -matchEqs, hJ _ _ _ ⟨m + 1, acc', false, rfl, sub_append hs' hs2, hm, h, rfl⟩⟩
        · rw [if_neg hc] at h
          exact ⟨0, by rw [h5]; simp, hJ _ _ _ ⟨m, acc', true, rfl, sub_append hs' hs2, h1, h, rfl⟩⟩
      refine ifB.mk (fun hc => LM.append (put_self _ _ _) (LC.mk (TC_append (put_self _ _ _) hal ⟨rfl, ?_⟩))) fun hc => ?_
      · rw [if_pos (of_decide_eq_true hc), ← List.append_assoc] at h4'
        have go := go _ h4'
        rw [ivs_at] at go
        rw [put_put]
        exact gI_tupN hie hm' (ifB.mk (fun hc => (go _ (by (repeat (first | exact sub_nil | exact Sub.refl _ | refine sub_cons (by rfl) ?_)))).1 (of_decide_eq_true hc) (by (repeat (first | exact sub_nil | exact Sub.refl _ | refine sub_cons (by rfl) ?_)))) fun hc => (go _ (by (repeat (first | exact sub_nil | exact Sub.refl _ | refine sub_cons (by rfl) ?_)))).2 (of_decide_eq_false hc) (by (repeat (first | exact sub_nil | exact Sub.refl _ | refine sub_cons (by rfl) ?_))))
      · rw [if_neg (of_decide_eq_false hc), List.nil_append] at h4'
        have go := go _ h4'
        exact gI_tupN hie hm' (ifB.mk (fun hc => (go _ (by (repeat (first | exact sub_nil | exact Sub.refl _ | refine sub_cons (by rfl) ?_)))).1 (of_decide_eq_true hc) (by (repeat (first | exact sub_nil | exact Sub.refl _ | refine sub_cons (by rfl) ?_)))) fun hc => (go _ (by (repeat (first | exact sub_nil | exact Sub.refl _ | refine sub_cons (by rfl) ?_)))).2 (of_decide_eq_false hc) (by (repeat (first | exact sub_nil | exact Sub.refl _ | refine sub_cons (by rfl) ?_))))
  · have hm : m = d.length := by simp at hc; lia -matchEqs
    cases j with
    | true => simpa using h4
    | false => rw [hm, List.drop_length] at h4; rw [show ∀ k, meet1 [] k = [] from fun ζ => rfl] at h4; simpa using h4

noncomputable def struckM (l : Lit) (d : List (Int × Int)) : List (Int × Int) := match l.s with
  | .le => upM d l.k
  | .ge => onM d l.k
  | .eq => meet1 d l.k
  | .ne => upM d (l.k - 1) ++ onM d (l.k + 1)
theorem struck_ok (hK : HK C) {l : Lit} {d : List (Int × Int)} {Q : V → P → Prop} (hd : d.length ≤ 400) (q : Q (ivV (struckM l d)) p) : TC C (k + 3) (.ref 207) [l.v, ivV d] p Q X := by
  refine T_fn (X := X) hK (names := [Str.ofString "literal", Str.ofString "d"]) rfl rfl (bind2 fun ζ ζ => rfl) (by rfl) ?_
  obtain ⟨x, s, i⟩ := l
  refine W_S hK (L1.mk (T1_Assign_swap (names := [Str.ofString "sign", Str.ofString "k"]) (W_E hK ⟨_, _, rfl, rfl, rfl, ?_⟩) (by decide) (fun env he => by cases env; cases he; rfl)))
  have q' := back_same q
  cases s
  · exact SQ.mk (Sg.pl _) (by decide +kernel) (if_t rfl (LC.mk (TC_less (up_to_ok (k := 0) hK (by lia -matchEqs) q') (by lia -matchEqs))))
  · exact SQ.mk (Sg.pl _) (by decide +kernel) (if_f rfl (SQ.mk (Sg.pl _) (by decide +kernel) (if_t rfl (LC.mk (TC_less (from_on_ok (k := 0) hK (by lia -matchEqs) q') (by lia -matchEqs))))))
  · exact SQ.mk (Sg.pl _) (by decide +kernel) (if_f rfl (SQ.mk (Sg.pl _) (by decide +kernel) (if_f rfl (SQ.mk (Sg.pl _) (by decide +kernel) (if_t rfl (LC.mk (TC_less (meet_ok (k := 0) hK (by lia -matchEqs) q') (by lia -matchEqs))))))))
  · exact SQ.mk (Sg.pl _) (by decide +kernel) (if_f rfl (SQ.mk (Sg.pl _) (by decide +kernel) (if_f rfl (SQ.mk (Sg.pl _) (by decide +kernel) (if_f rfl (LC.mk (TC_less (without_ok (k := 0) hK hd q') (by lia -matchEqs))))))))
end
end
end Tl
end

section
open PySem PySem.W PySem.Calls PyProof.Rows
set_option linter.unusedVariables false
set_option maxRecDepth 100000
namespace Tl
section
inductive LK where
  | le
  | eq
  | ne
  deriving DecidableEq
noncomputable def LK.str : LK → Str
  | .le => Str.ofString "linear_le"
  | .eq => Str.ofString "linear_eq"
  | .ne => Str.ofString "linear_ne"
inductive Told where
  | lin (s : LK) (coefs : List Int) (xs : List Int) (c : Int)
  | alld (xs : List Int)
  | table (rows : List (List Int))
  | times
  | max
  | count (n : Int)
  | abs
  | elof (vals : List Int)
noncomputable abbrev tI (l : List Int) : V := .tup (l.map .int)
noncomputable def Told.v : Told → V
  | .lin s coefs xs c => .tup [.str s.str, tI coefs, tI xs, .int c]
  | .alld xs => .tup [.str (Str.ofString "all_different"), tI xs, .str (Str.ofString "values")]
  | .table rows => .tup [.str (Str.ofString "table"), tI [0, 1, 2], .tup (rows.map tI)]
  | .times => .tup [.str (Str.ofString "times"), .int 0, .int 1, .int 2]
  | .max => .tup [.str (Str.ofString "max"), tI [0, 1], .int 2]
  | .count n => .tup [.str (Str.ofString "count"), tI [0, 1], .int n, .int 2]
  | .abs => .tup [.str (Str.ofString "abs"), .int 0, .int 2]
  | .elof vals => .tup [.str (Str.ofString "element_of"), .int 0, tI vals, .int 2]
noncomputable def linSum (coefs xs : List Int) (f : Int → Int) : Int := ((coefs.zip xs).map fun e => e.1 * f e.2).sum
noncomputable def absM (x : Int) : Int := if x < 0 then -x else x

section
variable {C : Cfg} {k : Nat} {sc : Scope} {fr : Fm} {p : P} {X : P → Prop}
theorem OpB_mulS {i j : Int} {Q : V → P → Prop} (hi : i.natAbs < 2 ^ 63) (q : Q (.int (i * j)) p) : OpB C k .Mult (.int i) (.int j) p Q :=
  OpB_mul (Nat.le_trans (PySem.intBits_le_iff.mpr hi) (by decide)) q
theorem glob_tup {F : FS} {h : Heap} {a : Addr} {vs : List Value} {n : Nat} {l : List V} (hl : C.K.lookup a = some (tupO vs n)) (I : Inv C F p h) (r : VRL h F p vs l) : VR h F p (.ref a) (.tup l) :=
  .tup (I.base _ _ (C.X _ _ hl)).1 (I.base _ _ (C.X _ _ hl)).2 r
noncomputable def sl (l : List String) : List V := l.map fun s => .str (Str.ofString s)
theorem v_LINEAR (hK : HK C) (F : FS) (h : Heap) (I : Inv C F p h) : VR h F p (.ref 22) (.tup [.str (Str.ofString "linear_le"), .str (Str.ofString "linear_eq"), .str (Str.ofString "linear_ne")]) := glob_tup (n := 0) (by rw [hK]; rfl) I (.cons (.str _ _) (.cons (.str _ _) (.cons (.str _ _) .nil)))
theorem v_ARITH (hK : HK C) (F : FS) (h : Heap) (I : Inv C F p h) : VR h F p (.ref 23) (.tup [.str (Str.ofString "times"), .str (Str.ofString "div"), .str (Str.ofString "mod"), .str (Str.ofString "abs"), .str (Str.ofString "max"), .str (Str.ofString "min")]) :=
  glob_tup (n := 0) (by rw [hK]; rfl) I (.cons (.str _ _) (.cons (.str _ _) (.cons (.str _ _) (.cons (.str _ _) (.cons (.str _ _) (.cons (.str _ _) .nil))))))
theorem v_CHOICES (hK : HK C) (F : FS) (h : Heap) (I : Inv C F p h) : VR h F p (.ref 24) (.tup [.str (Str.ofString "element"), .str (Str.ofString "element_of"), .str (Str.ofString "table"), .str (Str.ofString "inverse"), .str (Str.ofString "circuit")]) :=
  glob_tup (n := 0) (by rw [hK]; rfl) I (.cons (.str _ _) (.cons (.str _ _) (.cons (.str _ _) (.cons (.str _ _) (.cons (.str _ _) .nil)))))
theorem v_COUNTS (hK : HK C) (F : FS) (h : Heap) (I : Inv C F p h) : VR h F p (.ref 25) (.tup [.str (Str.ofString "all_different"), .str (Str.ofString "count"), .str (Str.ofString "nvalue"), .str (Str.ofString "cardinality")]) :=
  glob_tup (n := 0) (by rw [hK]; rfl) I (.cons (.str _ _) (.cons (.str _ _) (.cons (.str _ _) (.cons (.str _ _) .nil))))
theorem n_LINEAR (hK : HK C) : nsIn C.K mainGlobals (Str.ofString "LINEAR") = some (some (.ref 22)) := by rw [hK]; rfl
theorem n_ARITH (hK : HK C) : nsIn C.K mainGlobals (Str.ofString "ARITH") = some (some (.ref 23)) := by rw [hK]; rfl
theorem n_CHOICES (hK : HK C) : nsIn C.K mainGlobals (Str.ofString "CHOICES") = some (some (.ref 24)) := by rw [hK]; rfl
theorem n_COUNTS (hK : HK C) : nsIn C.K mainGlobals (Str.ofString "COUNTS") = some (some (.ref 25)) := by rw [hK]; rfl
theorem n_zip (hK : HK C) : nsIn C.K mainGlobals (Str.ofString "zip") = some none := by rw [hK]; rfl

noncomputable def Asg (p : P) (a : Addr) (xs : List Int) (f : Int → Int) : Prop := ∃ l, p a = some (.di l) ∧ ∀ x ∈ xs, atV l x = some (.int (f x))
theorem GetI_asg {a : Addr} {xs : List Int} {f : Int → Int} {x : Int} {Q : V → P → Prop} (h : Asg p a xs f) (hx : x ∈ xs) (q : Q (.int (f x)) p) : GetI C k (.ref a) (.int x) p Q := by
  obtain ⟨l, h1, h2⟩ := h
  exact GetI_di h1 (h2 x hx) q

theorem LM.count {l : List V} {K : Value → Prop} (q : K (.builtin "tuple.count")) : LM C p (.tup l) (Str.ofString "count") K :=
  .blt PySem.F.plainAttrs_tuple PySem.F.slot_tuple_count PySem.F.type_tuple_count (fun F s o' I r => by
    cases r with
    | tup e f r => exact ⟨⟨_, e, rfl⟩, fun b e' => by cases e'; exact ⟨_, e, rfl⟩⟩) q
theorem q_yes {b c : Bool} {Q : V → P → Prop} (h : c = true) (q : Q (.bool b) p) : Q (.bool (b == c)) p := by subst h; rwa [show (b == true) = b by cases b <;> rfl]
theorem q_no {b c : Bool} {Q : V → P → Prop} (h : c = false) (q : Q (.bool (!b)) p) : Q (.bool (b == c)) p := by subst h; rwa [show (b == false) = !b by cases b <;> rfl]
theorem LK.pl (s : LK) : Tl.pl 0 (.str s.str) = true := by cases s <;> decide +kernel
theorem tI_map (f : Int → Int) (xs : List Int) : tI (xs.map f) = .tup (xs.map fun x => .int (f x)) := by unfold tI; rw [List.map_map]; rfl
theorem values_of_ok (hK : HK C) {a : Addr} {ys xs : List Int} {f : Int → Int} {Q : V → P → Prop} (hl : xs.length ≤ 1000) (hv : Asg p a ys f) (hs : ∀ x ∈ xs, x ∈ ys) (q : Q (tI (xs.map f)) p) : TC C (k + 1) (.ref 32) [tI xs, .ref a] p Q X := by
  refine T_fn (X := X) hK (names := [Str.ofString "scope", Str.ofString "values"]) rfl rfl (bind2 fun ζ ζ => rfl) (by rfl) ?_
  refine W_S hK (LE.mk (T_ListComp (hkind := rfl) (hpl := plain1 ⟨rfl, fun ζ ζ => rfl⟩) (L := [Str.ofString "x"]) (by decide) rfl (by rfl) (TI_val (W_E hK ⟨_, .tup _, ?_⟩))))
  refine TLo_map (g := fun x => .int (f x)) (by lia -matchEqs) (fun x hx acc K' hl hK' => ?_) ?_
  · exact TA_1 (.inl rfl) (by decide) ⟨sub_setL (by rfl), br_t rfl ⟨hl, W_E hK (LG.mk (GetI_asg hv (hs x hx) hK'))⟩⟩
  · rw [tI_map] at q
    exact LC.mk (TC_tupleL (by simp; lia -matchEqs) (back_same q))

theorem linear_holds_ok (hK : HK C) {a : Addr} {ys : List Int} {s : LK} {coefs xs : List Int} {c : Int} {f : Int → Int} {Q : V → P → Prop} (hl : xs.length ≤ 1000) (hc : ∀ x ∈ coefs, x.natAbs < 2 ^ 63) (hv : Asg p a ys f) (hs : ∀ x ∈ xs, x ∈ ys)
    (q : Q (.bool (match s with | .le => decide (linSum coefs xs f ≤ c) | .eq => linSum coefs xs f == c | .ne => !(linSum coefs xs f == c))) p) : TC C (k + 1) (.ref 46) [(Told.lin s coefs xs c).v, .ref a] p Q X := by
  refine T_fn (X := X) hK (names := [Str.ofString "told", Str.ofString "values"]) rfl rfl (bind2 fun ζ ζ => rfl) (by rfl) ?_
  refine W_S hK (L1.mk (T1_Assign_Tuple (ns := [Str.ofString "name", Str.ofString "coefs", Str.ofString "scope", Str.ofString "c"]) (W_E hK (TA_4 (.inl rfl) (.inl rfl) (.inl rfl) (.inl rfl) (by simp) (by simp) (by simp) (by simp) ?_)) (fun ζ => rfl) (fun env he => rfl)))
  refine L1.mk (T1_For (ns := [Str.ofString "coef", Str.ofString "x"]) (TI_zip rfl (n_zip hK) (TAs_cons (W_E hK (TAs_cons (W_E hK (TAs_nil ⟨_, _, rfl, ?_⟩)) (fun ζ => rfl))) (fun ζ => rfl)) (fun ζ => rfl) (fun ζ => rfl)) (fun ζ ζ => rfl))
  have hz : zipV (coefs.map V.int) (xs.map V.int) = (coefs.zip xs).map fun e => .tup [.int e.1, .int e.2] := by
    unfold zipV; rw [List.zip_map, List.map_map]; rfl
  rw [hz]
  refine TFor_J (fun r fr p' => X3 fun done rest t => A5 (r = rest.map (fun e : Int × Int => V.tup [.int e.1, .int e.2])) (p' = p) (Sub [(Str.ofString "values", .ref a), (Str.ofString "name", .str s.str), (Str.ofString "c", .int c), (Str.ofString "total", .int t)] fr) (coefs.zip xs = done ++ rest) (t = (done.map fun e => e.1 * f e.2).sum)) ⟨[], coefs.zip xs, 0, rfl, rfl, by (repeat (first | exact sub_nil | exact Sub.refl _ | refine sub_cons (by rfl) ?_)), rfl, rfl⟩ ?_ ?_
  · rintro fr p' ⟨done, rest, t, h1, rfl, h3, h4, h5⟩
    cases rest with
    | cons _ _ => cases h1
    | nil =>
      rw [List.append_nil] at h4
      rw [← h4] at h5
      have ht : t = linSum coefs xs f := h5
      subst ht
      refine TS_weak h3 (W_S hK ?_)
      clear h5 h4 hs
      cases s with
      | le => exact SQ.mk (LK.pl _) (by decide +kernel) (if_t rfl (back_same q))
      | eq => exact SQ.mk (LK.pl _) (by decide +kernel) (if_f rfl (SQ.mk (LK.pl _) (by decide +kernel) (back_same (q_yes (by decide +kernel) q))))
      | ne => exact SQ.mk (LK.pl _) (by decide +kernel) (if_f rfl (SQ.mk (LK.pl _) (by decide +kernel) (back_same (q_no (by decide +kernel) q))))
  · rintro J' Q' hJ hQ v r fr p' ⟨done, rest, t, h1, rfl, h3, h4, h5⟩
    cases rest with
    | nil => cases h1
    | cons e rest =>
      cases h1
      obtain ⟨hm1, hm2⟩ := List.of_mem_zip (show e ∈ coefs.zip xs by rw [h4]; simp)
      exact TA_weak h3 (TA_2 (.inl rfl) (.inl rfl) (by simp) (by simp) (W_S hK (LG.mk (GetI_asg hv (hs _ hm2) (LB.mk (OpB_mulS (hc _ hm1) (hJ _ _ _ ⟨done ++ [e], rest, t + e.1 * f e.2, rfl, rfl, by (repeat (first | exact sub_nil | exact Sub.refl _ | refine sub_cons (by rfl) ?_)), by rw [h4]; simp, by rw [h5]; simp⟩)))))))

noncomputable def maxM (x y : Int) : Int := if x ≤ y then y else x
theorem two_sorted {x y : Int} {ms : List Int} (hp : ms.Perm [x, y]) (hs : ms.Pairwise (· ≤ ·)) : ∃ u, ms = [u, maxM x y] := by
  have hl := hp.length_eq
  match ms, hl with
  | [u, v], _ =>
    have h1 : u ≤ v := by simpa using hs
    refine ⟨u, ?_⟩
    congr 1
    congr 1
    have hv : v ∈ [x, y] := hp.mem_iff.mp (by simp)
    have hx : x ∈ [u, v] := hp.mem_iff.mpr (by simp)
    have hy : y ∈ [u, v] := hp.mem_iff.mpr (by simp)
    simp at hv hx hy
    unfold maxM
    split <;> lia -matchEqs
theorem times_ok (hK : HK C) {a : Addr} {ys : List Int} {f : Int → Int} {Q : V → P → Prop} (hv : Asg p a ys f) (h0 : (0 : Int) ∈ ys) (h1 : (1 : Int) ∈ ys) (h2 : (2 : Int) ∈ ys) (hb : (f 0).natAbs < 2 ^ 63)
    (q : Q (.bool (f 2 == f 0 * f 1)) p) : TC C (k + 1) (.ref 53) [Told.times.v, .ref a] p Q X := by
  refine T_fn (X := X) hK (names := [Str.ofString "told", Str.ofString "values"]) rfl rfl (bind2 fun ζ ζ => rfl) (by rfl) ?_
  refine W_S hK (L1.mk (T1_Assign_swap (names := [Str.ofString "name", Str.ofString "z"]) (W_E hK (LG.mk (GetI_tup (hlo := by decide) (hhi := by decide) (by rfl) (by rfl) (LG.mk (GetI_asg hv h2 ⟨_, _, rfl, rfl, rfl, ?_⟩))))) (by decide) (fun env he => by cases env; cases he; rfl)))
  exact SQ.mk (by decide +kernel) (by decide +kernel) (if_f rfl (SQ.mk (by decide +kernel) (by decide +kernel) (if_f rfl (LG.mk (GetI_asg hv h0 (SQ.mk (by decide +kernel) (by decide +kernel) (if_f rfl (LG.mk (GetI_asg hv h1 (SQ.mk (by decide +kernel) (by decide +kernel) (if_t rfl (LB.mk (OpB_mulS hb (back_same q))))))))))))))
theorem abs_ok (hK : HK C) {a : Addr} {ys : List Int} {f : Int → Int} {Q : V → P → Prop} (hv : Asg p a ys f) (h0 : (0 : Int) ∈ ys) (h2 : (2 : Int) ∈ ys)
    (q : Q (.bool (f 2 == absM (f 0))) p) : TC C (k + 1) (.ref 53) [Told.abs.v, .ref a] p Q X := by
  refine T_fn (X := X) hK (names := [Str.ofString "told", Str.ofString "values"]) rfl rfl (bind2 fun ζ ζ => rfl) (by rfl) ?_
  refine W_S hK (L1.mk (T1_Assign_swap (names := [Str.ofString "name", Str.ofString "z"]) (W_E hK (LG.mk (GetI_tup (hlo := by decide) (hhi := by decide) (by rfl) (by rfl) (LG.mk (GetI_asg hv h2 ⟨_, _, rfl, rfl, rfl, ?_⟩))))) (by decide) (fun env he => by cases env; cases he; rfl)))
  exact SQ.mk (by decide +kernel) (by decide +kernel) (if_f rfl (SQ.mk (by decide +kernel) (by decide +kernel) (if_f rfl (LG.mk (GetI_asg hv h0 (SQ.mk (by decide +kernel) (by decide +kernel) (if_t rfl (LC.mk (TC_abs (back_same q))))))))))
theorem max_ok (hK : HK C) {a : Addr} {ys : List Int} {f : Int → Int} {Q : V → P → Prop} (hv : Asg p a ys f) (h0 : (0 : Int) ∈ ys) (h1 : (1 : Int) ∈ ys) (h2 : (2 : Int) ∈ ys)
    (q : Q (.bool (f 2 == maxM (f 0) (f 1))) p) : TC C (k + 2) (.ref 53) [Told.max.v, .ref a] p Q X := by
  refine T_fn (X := X) hK (names := [Str.ofString "told", Str.ofString "values"]) rfl rfl (bind2 fun ζ ζ => rfl) (by rfl) ?_
  refine W_S hK (L1.mk (T1_Assign_swap (names := [Str.ofString "name", Str.ofString "z"]) (W_E hK (LG.mk (GetI_tup (hlo := by decide) (hhi := by decide) (by rfl) (by rfl) (LG.mk (GetI_asg hv h2 ⟨_, _, rfl, rfl, rfl, ?_⟩))))) (by decide) (fun env he => by cases env; cases he; rfl)))
  refine SQ.mk (by decide +kernel) (by decide +kernel) (if_t rfl (LC.mk (values_of_ok (xs := [0, 1]) hK (by simp) hv (by simp [h0, h1]) (LC.mk (TC_sortedT (ns := [f 0, f 1]) (by simp) fun ms hp hs => ?_)))))
  obtain ⟨u, rfl⟩ := two_sorted hp hs
  exact LC.mk (TC_lenL (by simp) (if_t (by rfl) (SQ.mk (by decide +kernel) (by decide +kernel) (if_t rfl (LG.mk (GetI_lst (hlo := by decide) (hhi := by decide) (j := 1) (v := .int (maxM (f 0) (f 1))) (by rfl) (by rfl) (back_same q)))))))
theorem elof_ok (hK : HK C) {a : Addr} {ys vals : List Int} {f : Int → Int} {Q : V → P → Prop} (hl : vals.length ≤ 1000) (hv : Asg p a ys f) (h0 : (0 : Int) ∈ ys) (h2 : (2 : Int) ∈ ys)
    (q : Q (.bool (decide (1 ≤ f 0) && decide (f 0 ≤ vals.length) && (vals.getD (f 0 - 1).toNat 0 == f 2))) p) : TC C (k + 1) (.ref 74) [(Told.elof vals).v, .ref a] p Q X := by
  refine T_fn (X := X) hK (names := [Str.ofString "told", Str.ofString "values"]) rfl rfl (bind2 fun ζ ζ => rfl) (by rfl) ?_
  refine W_S hK (SQ.mk (by decide +kernel) (by decide +kernel) (if_f rfl (SQ.mk (by decide +kernel) (by decide +kernel) (if_f rfl (SQ.mk (by decide +kernel) (by decide +kernel) (if_f rfl (SQ.mk (by decide +kernel) (by decide +kernel) (if_f rfl (LG.mk (GetI_asg hv h0 (LE.mk (T_Chain2 (hm := by with_unfolding_all rfl) (W_E hK (W_E hK (OpC_le ⟨_, rfl, fun hc => W_E hK (LC.mk (TC_lenT (by simp; lia -matchEqs) (OpC_le (ifB.mk (fun hd => ?_) fun hd => ?_)))), fun hc => ?_⟩)))))))))))))))
  · have hc' : 1 ≤ f 0 := of_decide_eq_true hc
    have hd' : f 0 ≤ vals.length := by simpa using hd
    rw [decide_eq_true hc', decide_eq_true hd', Bool.true_and, Bool.true_and] at q
    refine gI_tupI (v := .int (vals.getD (f 0 - 1).toNat 0)) (by lia -matchEqs) (by lia -matchEqs) ?_ (LG.mk (GetI_asg hv h2 (back_same q)))
    have : (f 0 - 1).toNat < vals.length := by lia -matchEqs
    rw [List.getElem?_map, List.getElem?_eq_getElem this, List.getD_eq_getElem?_getD, List.getElem?_eq_getElem this]; rfl
  · have hd' : ¬ f 0 ≤ vals.length := by simpa using hd
    rw [decide_eq_false hd', Bool.and_false, Bool.false_and] at q
    exact back_same q
  · rw [hc, Bool.false_and, Bool.false_and] at q
    exact if_f rfl (back_same q)
theorem pls_tI : ∀ l : List Int, pls 0 (l.map V.int) = true
  | [] => rfl
  | _ :: r => (Bool.and_eq_true _ _).mpr ⟨rfl, pls_tI r⟩
theorem pls_tIs : ∀ l : List (List Int), pls 1 (l.map tI) = true
  | [] => rfl
  | x :: r => (Bool.and_eq_true _ _).mpr ⟨pls_tI x, pls_tIs r⟩
theorem eqVs_ints : ∀ (a b : List Int), eqVs (a.map V.int) (b.map V.int) = (a == b)
  | [], [] => rfl
  | [], _ :: _ => rfl
  | _ :: _, [] => rfl
  | x :: a, y :: b => congrArg (x == y && ·) (eqVs_ints a b)
theorem any_tI (rows : List (List Int)) (x : List Int) : ((rows.map tI).any fun y => eqV y (tI x)) = rows.contains x := by
  induction rows with
  | nil => rfl
  | cons r rows ih => rw [List.contains_cons, ← ih, BEq.comm (a := x)]; exact congrArg (fun b => b || (rows.map tI).any fun y => eqV y (tI x)) (eqVs_ints r x)
theorem any_int (l : List Int) (x : Int) : ((l.map V.int).any fun y => eqV y (.int x)) = l.contains x := by
  induction l with
  | nil => rfl
  | cons r rows ih => rw [List.contains_cons, ← ih, BEq.comm (a := x)]; rfl
theorem table_ok (hK : HK C) {a : Addr} {ys : List Int} {rows : List (List Int)} {f : Int → Int} {Q : V → P → Prop} (hv : Asg p a ys f) (h0 : (0 : Int) ∈ ys) (h1 : (1 : Int) ∈ ys) (h2 : (2 : Int) ∈ ys)
    (q : Q (.bool (rows.contains [f 0, f 1, f 2])) p) : TC C (k + 2) (.ref 74) [(Told.table rows).v, .ref a] p Q X := by
  refine T_fn (X := X) hK (names := [Str.ofString "told", Str.ofString "values"]) rfl rfl (bind2 fun ζ ζ => rfl) (by rfl) ?_
  refine W_S hK (SQ.mk (by decide +kernel) (by decide +kernel) (if_f rfl (SQ.mk (by decide +kernel) (by decide +kernel) (if_t rfl (LC.mk (values_of_ok (xs := [0, 1, 2]) hK (by simp) hv (by simp [h0, h1, h2]) (LQ.mk (OpC_inT (hn := by decide) 1 1 (by rfl) (pls_tIs rows) ?_))))))))
  rw [any_tI]
  exact back_same q
theorem count_ok (hK : HK C) {a : Addr} {ys : List Int} {n : Int} {f : Int → Int} {Q : V → P → Prop} (hv : Asg p a ys f) (h0 : (0 : Int) ∈ ys) (h1 : (1 : Int) ∈ ys) (h2 : (2 : Int) ∈ ys)
    (q : Q (.bool ((([f 0, f 1].countP (· == n) : Nat) : Int) == f 2)) p) : TC C (k + 2) (.ref 79) [(Told.count n).v, .ref a] p Q X := by
  refine T_fn (X := X) hK (names := [Str.ofString "told", Str.ofString "values"]) rfl rfl (bind2 fun ζ ζ => rfl) (by rfl) ?_
  refine W_S hK (L1.mk (T1_Assign_Tuple (ns := [Str.ofString "name", Str.ofString "some"]) (W_E hK (LC.mk (values_of_ok (xs := [0, 1]) hK (by simp) hv (by simp [h0, h1]) (TA_2 (.inl rfl) (.inr rfl) (by simp) (by simp) ?_)))) (fun ζ => rfl) (fun env he => by cases env; cases he; rfl)))
  exact SQ.mk (by decide +kernel) (by decide +kernel) (if_t rfl (LM.count (LC.mk (TC_count (ns := [f 0, f 1]) (LG.mk (GetI_asg hv h2 (back_same q)))))))

noncomputable def unlikeM (l : List Int) : Nat := ((List.range l.length).filter fun k => !((l.take k).contains (l.getD k 0))).length
theorem alld_ok (hK : HK C) {a : Addr} {ys xs : List Int} {f : Int → Int} {Q : V → P → Prop} (hl : xs.length ≤ 1000) (hv : Asg p a ys f) (hs : ∀ x ∈ xs, x ∈ ys)
    (q : Q (.bool ((unlikeM (xs.map f) : Int) == (xs.length : Int))) p) : TC C (k + 2) (.ref 79) [(Told.alld xs).v, .ref a] p Q X := by
  refine T_fn (X := X) hK (names := [Str.ofString "told", Str.ofString "values"]) rfl rfl (bind2 fun ζ ζ => rfl) (by rfl) ?_
  refine W_S hK (L1.mk (T1_Assign_Tuple (ns := [Str.ofString "name", Str.ofString "some"]) (W_E hK (LC.mk (values_of_ok (xs := xs) hK hl hv hs (TA_2 (.inl rfl) (.inr rfl) (by simp) (by simp) ?_)))) (fun ζ => rfl) (fun env he => by cases env; cases he; rfl)))
  have hxl : (xs.map f).length = xs.length := List.length_map _
  rw [← hxl] at hl q
  generalize xs.map f = vs at *
  clear hs hv hxl
  have hil : (vs.map V.int).length = vs.length := List.length_map _
  refine SQ.mk (by decide +kernel) (by decide +kernel) (if_f rfl (SQ.mk (by decide +kernel) (by decide +kernel) (if_f rfl (LE.mk (T_ListComp (hkind := rfl) (hpl := plain1 ⟨rfl, fun ζ ζ => rfl⟩) (L := [Str.ofString "k"]) (by decide) rfl (by rfl) (TI_val (W_E hK (LC.mk (TC_lenT (by lia -matchEqs) (LC.mk (TC_range1 ⟨_, .rng (by lia -matchEqs) (by lia -matchEqs) (by lia -matchEqs) (by lia -matchEqs), ?_⟩)))))))))))
  rw [show ((((vs.map V.int).length : Nat) : Int) - 0).toNat = vs.length by rw [hil]; simp]
  refine TLo_filter (c := fun i => !((vs.take i).contains (vs.getD i 0))) (g := fun i : Nat => .int (0 + (i : Int))) (by rw [List.length_range]; lia -matchEqs) (fun i hi acc K' hl2 hK1 hK2 => ?_) ?_
  · have hi' : i < vs.length := by simpa using hi
    have e0 : (0 + (i : Int)).toNat = i := by lia -matchEqs
    have hg : (vs.map V.int)[(0 + (i : Int)).toNat]? = some (.int (vs.getD i 0)) := by rw [e0, List.getElem?_map, List.getD_eq_getElem?_getD, List.getElem?_eq_getElem hi']; rfl
    refine TA_1 (.inl rfl) (by decide) ⟨sub_setL (by rfl), ?_⟩
    refine W_T hK (gI_tupI (by lia -matchEqs) (by lia -matchEqs) hg (LE.mk (T_UpTo (hg := by intro _ _; rfl) (W_E hK (W_E hK ⟨_, _, rfl, rfl, by lia -matchEqs, by lia -matchEqs, LQ.mk (OpC_notInT (hn := by decide) 0 0 (by rfl) (by rw [← List.map_take]; exact pls_tI _) ?_)⟩)))))
    rw [← List.map_take, e0, any_int]
    exact ifB.mk (fun h => br_t rfl ⟨hl2, W_E hK (hK1 h)⟩) fun h => br_f rfl (hK2 h)
  · have hfl := List.length_filter_le (fun i => !((vs.take i).contains (vs.getD i 0))) (List.range vs.length)
    rw [List.length_range] at hfl
    refine LC.mk (TC_lenL (by rw [List.length_map]; lia -matchEqs) (SQ.mk (by decide +kernel) (by decide +kernel) (if_t rfl (LC.mk (TC_lenT (by lia -matchEqs) (back_same ?_))))))
    rw [hil, List.length_map]
    exact q
end
end
end Tl
end

section
open PySem PySem.W PySem.Calls PyProof.Rows
set_option linter.unusedVariables false
set_option maxRecDepth 100000
namespace Tl
section
noncomputable def Told.sat : Told → (Int → Int) → Bool
  | .lin s coefs xs c, f => match s with
    | .le => decide (linSum coefs xs f ≤ c)
    | .eq => linSum coefs xs f == c
    | .ne => !(linSum coefs xs f == c)
  | .alld xs, f => (unlikeM (xs.map f) : Int) == (xs.length : Int)
  | .table rows, f => rows.contains [f 0, f 1, f 2]
  | .times, f => f 2 == f 0 * f 1
  | .max, f => f 2 == maxM (f 0) (f 1)
  | .count n, f => (([f 0, f 1].countP (· == n) : Nat) : Int) == f 2
  | .abs, f => f 2 == absM (f 0)
  | .elof vals, f => decide (1 ≤ f 0) && decide (f 0 ≤ vals.length) && (vals.getD (f 0 - 1).toNat 0 == f 2)
noncomputable def Told.vars : Told → List Int
  | .lin _ _ xs _ => xs
  | .alld xs => xs
  | .abs => [0, 2]
  | .elof _ => [0, 2]
  | _ => [0, 1, 2]
noncomputable def Told.Ok : Told → Prop
  | .lin _ coefs xs _ => (xs = [0, 1] ∨ xs = [0, 1, 2]) ∧ coefs.length = xs.length ∧ ∀ c ∈ coefs, c = 1 ∨ c = -1 ∨ c = 2
  | .alld xs => xs = [0, 1] ∨ xs = [0, 1, 2]
  | .table rows => rows.length ≤ 3 ∧ ∀ r ∈ rows, r.length = 3
  | .elof vals => vals.length = 3
  | _ => True

section
variable {C : Cfg} {k : Nat} {sc : Scope} {fr : Fm} {p : P} {X : P → Prop}
theorem LK.inL (s : LK) : ([V.str (Str.ofString "linear_le"), .str (Str.ofString "linear_eq"), .str (Str.ofString "linear_ne")].any fun y => eqV y (.str s.str)) = true := by cases s <;> decide +kernel
theorem LK.nstr {s : LK} {x : Str} (h : (LK.le.str == x || LK.eq.str == x || LK.ne.str == x) = false) : (s.str == x) = false := by
  rw [Bool.or_eq_false_iff, Bool.or_eq_false_iff] at h
  cases s
  · exact h.1.1
  · exact h.1.2
  · exact h.2
theorem holds_ok (hK : HK C) {a : Addr} {t : Told} {f : Int → Int} {Q : V → P → Prop} (ht : t.Ok) (hv : Asg p a t.vars f) (hb : (f 0).natAbs < 2 ^ 63) (q : Q (.bool (t.sat f)) p) : TC C (k + 3) (.ref 115) [t.v, .ref a] p Q X := by
  refine T_fn (X := X) hK (names := [Str.ofString "told", Str.ofString "values"]) rfl rfl (bind2 fun ζ ζ => rfl) (by rfl) ?_
  cases t with
  | lin s coefs xs c =>
    obtain ⟨h1, h2, h3⟩ := ht
    have hl : xs.length ≤ 1000 := by rcases h1 with rfl | rfl <;> decide
    have hc : ∀ x ∈ coefs, x.natAbs < 2 ^ 63 := fun x hx => by rcases h3 x hx with rfl | rfl | rfl <;> decide
    cases s <;>
        exact W_S hK (LE.mk (T_Glob (hd := by decide +kernel) rfl (n_LINEAR hK) (v_LINEAR hK) (in_str (b := true) (LK.pl _) (by decide +kernel) (LK.inL _) (if_t rfl (LC.mk (TC_up (k := 1) (by lia -matchEqs) (linear_holds_ok (k := 0) hK hl hc hv (fun ζ h => h) (back_same q))))))))
  | alld xs =>
    have hl : xs.length ≤ 1000 := by rcases ht with rfl | rfl <;> decide
    exact W_S hK (LE.mk (T_Glob (hd := by decide +kernel) rfl (n_LINEAR hK) (v_LINEAR hK) (in_str (b := false) (by decide +kernel) (by decide +kernel) (by rfl) (if_f rfl (LE.mk (T_Glob (hd := by decide +kernel) rfl (n_ARITH hK) (v_ARITH hK) (in_str (b := false) (by decide +kernel) (by decide +kernel) (by rfl) (if_f rfl (LE.mk (T_Glob (hd := by decide +kernel) rfl (n_CHOICES hK) (v_CHOICES hK) (in_str (b := false) (by decide +kernel) (by decide +kernel) (by rfl) (if_f rfl (LE.mk (T_Glob (hd := by decide +kernel) rfl (n_COUNTS hK) (v_COUNTS hK) (in_str (b := true) (by decide +kernel) (by decide +kernel) (by rfl) (if_t rfl (LC.mk (TC_up (k := 2) (by lia -matchEqs) (alld_ok (k := 0) hK hl hv (fun ζ h => h) (back_same q))))))))))))))))))))
  | table rows => exact W_S hK (LE.mk (T_Glob (hd := by decide +kernel) rfl (n_LINEAR hK) (v_LINEAR hK) (in_str (b := false) (by decide +kernel) (by decide +kernel) (by rfl) (if_f rfl (LE.mk (T_Glob (hd := by decide +kernel) rfl (n_ARITH hK) (v_ARITH hK) (in_str (b := false) (by decide +kernel) (by decide +kernel) (by rfl) (if_f rfl (LE.mk (T_Glob (hd := by decide +kernel) rfl (n_CHOICES hK) (v_CHOICES hK) (in_str (b := true) (by decide +kernel) (by decide +kernel) (by rfl) (if_t rfl (LC.mk (TC_up (k := 2) (by lia -matchEqs) (table_ok (k := 0) hK hv (by simp [Told.vars]) (by simp [Told.vars]) (by simp [Told.vars]) (back_same q))))))))))))))))
  | times => exact W_S hK (LE.mk (T_Glob (hd := by decide +kernel) rfl (n_LINEAR hK) (v_LINEAR hK) (in_str (b := false) (by decide +kernel) (by decide +kernel) (by rfl) (if_f rfl (LE.mk (T_Glob (hd := by decide +kernel) rfl (n_ARITH hK) (v_ARITH hK) (in_str (b := true) (by decide +kernel) (by decide +kernel) (by rfl) (if_t rfl (LC.mk (TC_up (k := 1) (by lia -matchEqs) (times_ok (k := 0) hK hv (by decide) (by decide) (by decide) hb (back_same q))))))))))))
  | max => exact W_S hK (LE.mk (T_Glob (hd := by decide +kernel) rfl (n_LINEAR hK) (v_LINEAR hK) (in_str (b := false) (by decide +kernel) (by decide +kernel) (by rfl) (if_f rfl (LE.mk (T_Glob (hd := by decide +kernel) rfl (n_ARITH hK) (v_ARITH hK) (in_str (b := true) (by decide +kernel) (by decide +kernel) (by rfl) (if_t rfl (LC.mk (TC_up (k := 2) (by lia -matchEqs) (max_ok (k := 0) hK hv (by decide) (by decide) (by decide) (back_same q))))))))))))
  | count n => exact W_S hK (LE.mk (T_Glob (hd := by decide +kernel) rfl (n_LINEAR hK) (v_LINEAR hK) (in_str (b := false) (by decide +kernel) (by decide +kernel) (by rfl) (if_f rfl (LE.mk (T_Glob (hd := by decide +kernel) rfl (n_ARITH hK) (v_ARITH hK) (in_str (b := false) (by decide +kernel) (by decide +kernel) (by rfl) (if_f rfl (LE.mk (T_Glob (hd := by decide +kernel) rfl (n_CHOICES hK) (v_CHOICES hK) (in_str (b := false) (by decide +kernel) (by decide +kernel) (by rfl) (if_f rfl (LE.mk (T_Glob (hd := by decide +kernel) rfl (n_COUNTS hK) (v_COUNTS hK) (in_str (b := true) (by decide +kernel) (by decide +kernel) (by rfl) (if_t rfl (LC.mk (TC_up (k := 2) (by lia -matchEqs) (count_ok (k := 0) hK hv (by simp [Told.vars]) (by simp [Told.vars]) (by simp [Told.vars]) (back_same q))))))))))))))))))))
  | abs => exact W_S hK (LE.mk (T_Glob (hd := by decide +kernel) rfl (n_LINEAR hK) (v_LINEAR hK) (in_str (b := false) (by decide +kernel) (by decide +kernel) (by rfl) (if_f rfl (LE.mk (T_Glob (hd := by decide +kernel) rfl (n_ARITH hK) (v_ARITH hK) (in_str (b := true) (by decide +kernel) (by decide +kernel) (by rfl) (if_t rfl (LC.mk (TC_up (k := 1) (by lia -matchEqs) (abs_ok (k := 0) hK hv (by decide) (by decide) (back_same q))))))))))))
  | elof vals =>
    have hl : vals.length ≤ 1000 := by have : vals.length = 3 := ht; lia -matchEqs
    exact W_S hK (LE.mk (T_Glob (hd := by decide +kernel) rfl (n_LINEAR hK) (v_LINEAR hK) (in_str (b := false) (by decide +kernel) (by decide +kernel) (by rfl) (if_f rfl (LE.mk (T_Glob (hd := by decide +kernel) rfl (n_ARITH hK) (v_ARITH hK) (in_str (b := false) (by decide +kernel) (by decide +kernel) (by rfl) (if_f rfl (LE.mk (T_Glob (hd := by decide +kernel) rfl (n_CHOICES hK) (v_CHOICES hK) (in_str (b := true) (by decide +kernel) (by decide +kernel) (by rfl) (if_t rfl (LC.mk (TC_up (k := 1) (by lia -matchEqs) (elof_ok (k := 0) hK hl hv (by simp [Told.vars]) (by simp [Told.vars]) (back_same q))))))))))))))))

theorem listed_vars_ok (hK : HK C) {t : Told} {Q : V → P → Prop} (ht : t.Ok) (q : Q (.lst (t.vars.map .int)) p) : TC C (k + 1) (.ref 122) [t.v] p Q X := by
  refine T_fn (X := X) hK (names := [Str.ofString "told"]) rfl rfl (bind1 fun ζ => rfl) (by rfl) ?_
  cases t with
  | lin s coefs xs c =>
    obtain ⟨h1, h2, h3⟩ := ht
    have hl : (xs.map V.int).length ≤ 1000000 := by rcases h1 with rfl | rfl <;> decide
    exact W_S hK (SQ.mk (LK.pl s) (by decide +kernel) (if_f (LK.nstr (by decide +kernel)) (SQ.mk (LK.pl s) (by decide +kernel) (if_f (LK.nstr (by decide +kernel)) (LE.mk (T_Glob (hd := by decide +kernel) rfl (n_LINEAR hK) (v_LINEAR hK) (in_str (b := true) (LK.pl s) (by decide +kernel) (LK.inL s) (if_t rfl (LC.mk (TC_listT hl (back_same q)))))))))))
  | alld xs =>
    have hl : (xs.map V.int).length ≤ 1000000 := by rcases ht with rfl | rfl <;> decide
    exact W_S hK (SQ.mk (by decide +kernel) (by decide +kernel) (if_f rfl (SQ.mk (by decide +kernel) (by decide +kernel) (if_f rfl (LE.mk (T_Glob (hd := by decide +kernel) rfl (n_LINEAR hK) (v_LINEAR hK) (in_str (b := false) (by decide +kernel) (by decide +kernel) (by rfl) (if_f rfl (in_str (b := false) (by decide +kernel) (by decide +kernel) (by rfl) (if_f rfl (in_str (b := false) (by decide +kernel) (by decide +kernel) (by rfl) (if_f rfl (in_str (b := false) (by decide +kernel) (by decide +kernel) (by rfl) (if_f rfl (SQ.mk (by decide +kernel) (by decide +kernel) (if_f rfl (SQ.mk (by decide +kernel) (by decide +kernel) (if_f rfl (SQ.mk (by decide +kernel) (by decide +kernel) (if_f rfl (SQ.mk (by decide +kernel) (by decide +kernel) (if_f rfl (LC.mk (TC_listT hl (back_same q)))))))))))))))))))))))))
  | table rows => exact W_S hK (SQ.mk (by decide +kernel) (by decide +kernel) (if_f rfl (SQ.mk (by decide +kernel) (by decide +kernel) (if_f rfl (LE.mk (T_Glob (hd := by decide +kernel) rfl (n_LINEAR hK) (v_LINEAR hK) (in_str (b := false) (by decide +kernel) (by decide +kernel) (by rfl) (if_f rfl (in_str (b := false) (by decide +kernel) (by decide +kernel) (by rfl) (if_f rfl (in_str (b := false) (by decide +kernel) (by decide +kernel) (by rfl) (if_f rfl (in_str (b := false) (by decide +kernel) (by decide +kernel) (by rfl) (if_f rfl (SQ.mk (by decide +kernel) (by decide +kernel) (if_f rfl (SQ.mk (by decide +kernel) (by decide +kernel) (if_f rfl (SQ.mk (by decide +kernel) (by decide +kernel) (if_f rfl (SQ.mk (by decide +kernel) (by decide +kernel) (if_f rfl (LC.mk (TC_listT (by decide) (back_same q)))))))))))))))))))))))))
  | times => exact W_S hK (SQ.mk (by decide +kernel) (by decide +kernel) (if_f rfl (SQ.mk (by decide +kernel) (by decide +kernel) (if_f rfl (LE.mk (T_Glob (hd := by decide +kernel) rfl (n_LINEAR hK) (v_LINEAR hK) (in_str (b := false) (by decide +kernel) (by decide +kernel) (by rfl) (if_f rfl (in_str (b := true) (by decide +kernel) (by decide +kernel) (by rfl) (if_t rfl (LE.mk (T_FromT (hg := by intro _ _; rfl) (W_E hK (W_E hK ⟨_, _, rfl, rfl, by decide, by decide, by decide, LC.mk (TC_listT (by decide) (back_same q))⟩))))))))))))))
  | max => exact W_S hK (SQ.mk (by decide +kernel) (by decide +kernel) (if_f rfl (SQ.mk (by decide +kernel) (by decide +kernel) (if_f rfl (LE.mk (T_Glob (hd := by decide +kernel) rfl (n_LINEAR hK) (v_LINEAR hK) (in_str (b := false) (by decide +kernel) (by decide +kernel) (by rfl) (if_f rfl (in_str (b := false) (by decide +kernel) (by decide +kernel) (by rfl) (if_f rfl (in_str (b := true) (by decide +kernel) (by decide +kernel) (by rfl) (if_t rfl (LC.mk (TC_listT (by decide) (LL.frozen (LB.mk (OpB_addL (by decide) (back_same q))))))))))))))))))
  | count n => exact W_S hK (SQ.mk (by decide +kernel) (by decide +kernel) (if_f rfl (SQ.mk (by decide +kernel) (by decide +kernel) (if_f rfl (LE.mk (T_Glob (hd := by decide +kernel) rfl (n_LINEAR hK) (v_LINEAR hK) (in_str (b := false) (by decide +kernel) (by decide +kernel) (by rfl) (if_f rfl (in_str (b := false) (by decide +kernel) (by decide +kernel) (by rfl) (if_f rfl (in_str (b := false) (by decide +kernel) (by decide +kernel) (by rfl) (if_f rfl (in_str (b := false) (by decide +kernel) (by decide +kernel) (by rfl) (if_f rfl (SQ.mk (by decide +kernel) (by decide +kernel) (if_f rfl (SQ.mk (by decide +kernel) (by decide +kernel) (if_f rfl (SQ.mk (by decide +kernel) (by decide +kernel) (if_t rfl (LC.mk (TC_listT (by decide) (LL.frozen (LB.mk (OpB_addL (by decide) (back_same q))))))))))))))))))))))))))
  | abs => exact W_S hK (SQ.mk (by decide +kernel) (by decide +kernel) (if_f rfl (SQ.mk (by decide +kernel) (by decide +kernel) (if_f rfl (LE.mk (T_Glob (hd := by decide +kernel) rfl (n_LINEAR hK) (v_LINEAR hK) (in_str (b := false) (by decide +kernel) (by decide +kernel) (by rfl) (if_f rfl (in_str (b := true) (by decide +kernel) (by decide +kernel) (by rfl) (if_t rfl (LE.mk (T_FromT (hg := by intro _ _; rfl) (W_E hK (W_E hK ⟨_, _, rfl, rfl, by decide, by decide, by decide, LC.mk (TC_listT (by decide) (back_same q))⟩))))))))))))))
  | elof vals => exact W_S hK (SQ.mk (by decide +kernel) (by decide +kernel) (if_f rfl (SQ.mk (by decide +kernel) (by decide +kernel) (if_f rfl (LE.mk (T_Glob (hd := by decide +kernel) rfl (n_LINEAR hK) (v_LINEAR hK) (in_str (b := false) (by decide +kernel) (by decide +kernel) (by rfl) (if_f rfl (in_str (b := false) (by decide +kernel) (by decide +kernel) (by rfl) (if_f rfl (in_str (b := false) (by decide +kernel) (by decide +kernel) (by rfl) (if_f rfl (in_str (b := false) (by decide +kernel) (by decide +kernel) (by rfl) (if_f rfl (SQ.mk (by decide +kernel) (by decide +kernel) (if_f rfl (SQ.mk (by decide +kernel) (by decide +kernel) (if_t rfl (LL.frozen (back_same q))))))))))))))))))))

theorem Told.vars_nodup {t : Told} (ht : t.Ok) : t.vars.Nodup ∧ t.vars.length ≤ 3 := by
  cases t with
  | lin s coefs xs c => rcases ht.1 with rfl | rfl <;> simp [Told.vars]
  | alld xs => rcases ht with rfl | rfl <;> simp [Told.vars]
  | _ => simp [Told.vars]
theorem vars_of_ok (hK : HK C) {t : Told} {Q : V → P → Prop} (ht : t.Ok) (q : Q (tI t.vars) p) : TC C (k + 2) (.ref 129) [t.v] p Q X := by
  refine T_fn (X := X) hK (names := [Str.ofString "told"]) rfl rfl (bind1 fun ζ => rfl) (by rfl) ?_
  obtain ⟨hnd, hlen⟩ := Told.vars_nodup ht
  refine W_S hK (LL.made fun a hp => L1.mk (T1_For (ns := [Str.ofString "x"]) (TI_val (W_E hK (LC.mk (listed_vars_ok hK ht ⟨_, .lst _, ?_⟩)))) (fun ζ ζ => rfl)))
  generalize t.vars = xs at *
  refine TFor_J (fun r fr p' => X2 fun done rest => A4 (r = rest.map V.int) (Sub [(Str.ofString "found", .ref a)] fr) (p' = put p a (.list (done.map V.int))) (xs = done ++ rest)) ⟨[], xs, rfl, by (repeat (first | exact sub_nil | exact Sub.refl _ | refine sub_cons (by rfl) ?_)), rfl, rfl⟩ ?_ ?_
  · rintro fr p' ⟨done, rest, h2, h3, rfl, h1⟩
    cases rest with
    | cons _ _ => cases h2
    | nil =>
      rw [List.append_nil] at h1
      subst h1
      exact TS_weak h3 (W_S hK (LC.mk (TC_tupleR (put_self _ _ _) (by rw [List.length_map]; lia -matchEqs) (back_drop hp q))))
  · rintro J' Q' hJ hQ v r fr p' ⟨done, rest, h2, h3, rfl, h1⟩
    cases rest with
    | nil => cases h2
    | cons x rest =>
      cases h2
      rw [h1] at hnd hlen
      have hx : done.contains x = false := by
        rw [Bool.eq_false_iff]; intro hx
        exact (List.nodup_append.mp hnd).2.2 x (List.contains_iff_mem.mp hx) x List.mem_cons_self rfl
      rw [List.length_append] at hlen
      refine TA_weak h3 (TA_1 (.inl rfl) (by simp) (W_S hK (LQ.mk (OpC_notInR (hn := by decide) 0 0 (put_self _ _ _) (by rfl) (pls_tI _) ?_))))
      rw [any_int, hx]
      refine if_t rfl (LM.append (put_self _ _ _) (LC.mk (TC_append (put_self _ _ _) (by rw [List.length_map]; lia -matchEqs) ⟨rfl, hJ _ _ _ ⟨done ++ [x], rest, rfl, by (repeat (first | exact sub_nil | exact Sub.refl _ | refine sub_cons (by rfl) ?_)), ?_, ?_⟩⟩)))
      · rw [put_put, List.map_append]; rfl
      · rw [h1, List.append_assoc]; rfl

theorem divisor_of_ok (hK : HK C) {a b : Int} {Q : V → P → Prop} (ha : 0 ≤ a) (q : Q (.int ((a.gcd b : Nat) : Int)) p) : TC C (k + 1) (.ref 271) [.int a, .int b] p Q X := by
  refine T_fn (X := X) hK (names := [Str.ofString "a", Str.ofString "b"]) rfl rfl (bind2 fun ζ ζ => rfl) (by rfl) ?_
  refine W_S hK (LC.mk (TC_abs (L1.mk (T1_While_J (fun n fr p' => X2 fun x y : Nat => A4 (p' = p) (Sub [(Str.ofString "a", .int x), (Str.ofString "b", .int y)] fr) (x.gcd y = a.gcd b) (n = y)) b.natAbs ⟨a.toNat, b.natAbs, rfl, ?_, ?_, rfl⟩ ?_))))
  · refine sub_cons ?_ (sub_cons ?_ sub_nil)
    · show some (V.int a) = _; rw [Int.toNat_of_nonneg ha]
    · show some (V.int (if b < 0 then -b else b)) = _; congr 2; split <;> lia -matchEqs
  · rw [← Int.natAbs_of_nonneg ha]; rfl
  · rintro J' Q' hJ hQ n fr p' ⟨x, y, rfl, h4, h3, rfl⟩
    refine TT_weak h4 (W_T hK (ifB.mk (fun hc => ?_) fun hc => ?_))
    · have hy : (n : Int) ≠ 0 := by simpa using hc
      refine TS_weak h4 (W_S hK (L1.mk (T1_Assign_swap (names := [Str.ofString "a", Str.ofString "b"]) (W_E hK (LB.mk (OpB_mod hy ⟨_, _, rfl, rfl, rfl, ⟨x % n, Nat.mod_lt _ (by lia -matchEqs), hJ _ _ _ ⟨n, x % n, rfl, ?_, ?_, rfl⟩⟩⟩))) (by decide) (fun env he => by cases env; cases he; rfl))))
      · refine sub_cons (by rfl) (sub_cons ?_ sub_nil)
        show some (V.int ((x : Int).fmod n)) = _
        rw [Int.fmod_eq_emod_of_nonneg _ (Int.natCast_nonneg n)]; rfl
      · rw [← h3, Nat.gcd_comm x n, Nat.gcd_comm n (x % n), ← Nat.gcd_rec]
    · have hy : n = 0 := by simpa using hc
      subst hy
      rw [← h3, Nat.gcd_zero_right] at q
      exact hQ _ _ _ (TS_weak h4 (W_S hK (back_same q)))
end
end
end Tl
end

section
open PySem PySem.W PySem.Calls PyProof.Rows
set_option linter.unusedVariables false
set_option maxRecDepth 100000
namespace Tl
section
section
variable {C : Cfg} {k : Nat} {sc : Scope} {fr : Fm} {p : P} {X : P → Prop}
noncomputable def BoxP (p : P) (b t : Addr) (f : Int → List (Int × Int)) : Prop := X3 fun dx tn Dv => A6 (p b = some (.inst 323 dx)) (p dx = some (.attrs [(Str.ofString "domains", .lst Dv), (Str.ofString "turned", .ref t)])) (p t = some (.di tn)) (tn.length ≤ 1000) (Dv.length = 4) (∀ x : Int, 0 ≤ x → x < 4 → (atV tn x).getD ((Dv[x.toNat]?).getD .none) = ivV (f x))
noncomputable def updF (f : Int → List (Int × Int)) (x : Int) (d : List (Int × Int)) : Int → List (Int × Int) := fun y => if y = x then d else f y
theorem atV_set {l : List (Int × V)} {x y : Int} {v : V} : atV (setV l x v) y = if y = x then some v else atV l y := by
  unfold atV setV
  by_cases h : l.any (fun kv => kv.1 = x) = true
  · rw [if_pos h]
    induction l with
    | nil => simp at h
    | cons e r ih =>
      simp only [List.map_cons, List.find?_cons]
      by_cases he : e.1 = x
      · by_cases hy : y = x
        · subst hy; simp [he]
        · have h1 : ¬ e.1 = y := fun z => hy (z ▸ he)
          have h3 : ¬ x = y := fun z => hy z.symm
          simp only [he, if_true, if_neg hy, decide_eq_false h3]
          by_cases hr : r.any (fun kv => kv.1 = x) = true
          · have := ih hr; rw [if_neg hy] at this; exact this
          · have : r.map (fun kv => if kv.1 = x then (kv.1, v) else kv) = r := by
              rw [List.map_congr_left (g := id)]
              · simp
              · intro z hz; rw [if_neg]; rfl
                intro e2; exact hr (List.any_eq_true.mpr ⟨z, hz, by simp [e2]⟩)
            rw [this]
      · have hr : r.any (fun kv => kv.1 = x) = true := by simpa [he] using h
        simp only [if_neg he]
        by_cases hy : e.1 = y
        · subst hy; simp [he]
        · simp only [decide_eq_false hy]; exact ih hr
  · rw [if_neg h, List.find?_append]
    by_cases hy : y = x
    · subst hy
      have : l.find? (fun kv => kv.1 = y) = none := by
        rw [List.find?_eq_none]; intro z hz e2; exact h (List.any_eq_true.mpr ⟨z, hz, e2⟩)
      rw [this]; simp
    · have h3 : ¬ x = y := fun z => hy z.symm
      simp [if_neg hy, h3]
theorem setV_len {l : List (Int × V)} {x : Int} {v : V} : (setV l x v).length ≤ l.length + 1 := by
  unfold setV; split <;> simp
theorem box_domain (hK : HK C) {b t : Addr} {f : Int → List (Int × Int)} {x : Int} {Q : V → P → Prop} (hb : BoxP p b t f) (h0 : 0 ≤ x) (h4 : x < 4) (q : Q (ivV (f x)) p) : TC C (k + 1) (.ref 292) [.ref b, .int x] p Q X := by
  obtain ⟨dx, tn, Dv, h1, h2, h3, h5, h6, h7⟩ := hb
  refine TC_less (k := k + 1) (T_fn (X := X) hK (names := [Str.ofString "self", Str.ofString "x"]) rfl rfl (bind2 fun ζ ζ => rfl) (by rfl) ?_) (by lia -matchEqs)
  have hi : IsInst C p b 323 _ := ⟨dx, h1, h2⟩
  refine W_S hK (LA.mk hi (by rw [hK]; kernel_rfl) rfl ?_)
  refine LM.get h3 ?_
  refine LA.mk hi (by rw [hK]; kernel_rfl) rfl ?_
  have hlt : x.toNat < Dv.length := by lia -matchEqs
  refine LG.mk (GetI_lst (seq_nat h0 (by lia -matchEqs)) (List.getElem?_eq_getElem hlt) ?_ (by lia -matchEqs) (by lia -matchEqs))
  refine LC.mk (TC_get2 h3 ?_)
  refine back_same ?_
  have := h7 x h0 h4
  rw [List.getElem?_eq_getElem hlt] at this
  exact this ▸ q
theorem sayM_put {b t : Addr} {f : Int → List (Int × Int)} {dx : Addr} {tn : List (Int × V)} {Dv : List V} {x : Int} {d : List (Int × Int)} (h1 : p b = some (.inst 323 dx)) (h2 : p dx = some (.attrs [(Str.ofString "domains", .lst Dv), (Str.ofString "turned", .ref t)])) (h3 : p t = some (.di tn)) (h5 : tn.length ≤ 999) (h6 : Dv.length = 4)
    (h7 : ∀ x : Int, 0 ≤ x → x < 4 → (atV tn x).getD ((Dv[x.toNat]?).getD .none) = ivV (f x)) : BoxP (put p t (.di (setV tn x (ivV d)))) b t (updF f x d) := by
  refine ⟨dx, _, Dv, ?_, ?_, put_self _ _ _, by have := setV_len (l := tn) (x := x) (v := ivV d); lia -matchEqs, h6, fun y hy0 hy4 => ?_⟩
  · rw [put_ne _ _ (fun z => by rw [z, h3] at h1; cases h1)]; exact h1
  · rw [put_ne _ _ (fun z => by rw [z, h3] at h2; cases h2)]; exact h2
  · rw [atV_set]; unfold updF
    by_cases e : y = x
    · rw [if_pos e, if_pos e]; rfl
    · rw [if_neg e, if_neg e]; exact h7 y hy0 hy4
theorem pls_ivs : ∀ d : List (Int × Int), pls 1 (ivs d) = true
  | [] => rfl
  | e :: r => (Bool.and_eq_true _ _).mpr ⟨rfl, pls_ivs r⟩
theorem pl_ivV (d : List (Int × Int)) : pl 2 (ivV d) = true := pls_ivs d
theorem eqV_nil (d : List (Int × Int)) : eqV (ivV d) (.tup []) = d.isEmpty := by cases d <;> rfl
theorem box_say (hK : HK C) {b t : Addr} {f : Int → List (Int × Int)} {l : Lit} {Q : V → P → Prop} (hb : BoxP p b t f) (h0 : 0 ≤ l.x) (h4 : l.x < 4) (hn : ∀ tn, p t = some (.di tn) → tn.length ≤ 999) (hd : (f l.x).length ≤ 400)
    (q : ∀ tn, tn.length ≤ (match p t with | some (.di tn) => tn.length + 1 | _ => 0) → BoxP (put p t (.di tn)) b t (updF f l.x (struckM l (f l.x))) → Q (.bool (!(struckM l (f l.x)).isEmpty)) (put p t (.di tn))) : TC C (k + 4) (.ref 313) [.ref b, l.v] p Q X := by
  have hb' := hb
  obtain ⟨dx, tn, Dv, h1, h2, h3, h5, h6, h7⟩ := hb'
  refine T_fn (X := X) (k := k + 3) hK (names := [Str.ofString "self", Str.ofString "literal"]) rfl rfl (bind2 fun ζ ζ => rfl) (by rfl) ?_
  have hi : IsInst C p b 323 _ := ⟨dx, h1, h2⟩
  refine W_S hK (LM.own hi (f := 292) (by rw [hK]; kernel_rfl) rfl ?_)
  refine LC.mk (TC_less (box_domain (k := 0) hK hb h0 h4 ?_) (Nat.le_trans (m := 3) (by decide) (Nat.le_add_left _ _)))
  refine LC.mk (struck_ok (k := k) hK hd ?_)
  refine LA.mk hi (by rw [hK]; kernel_rfl) rfl ?_
  refine LS.mk (SetI_di h3 (Nat.le_trans (hn tn h3) (by decide)) ?_)
  have hb2 := sayM_put (d := struckM l (f l.x)) (x := l.x) h1 h2 h3 (hn tn h3) h6 h7
  obtain ⟨dx', tn', Dv', g1, g2, g3, g5, g6, g7⟩ := id hb2
  refine LA.mk ⟨dx', g1, g2⟩ (by rw [hK]; kernel_rfl) rfl ?_
  refine LG.mk (GetI_di (v := ivV (struckM l (f l.x))) (put_self _ _ _) (by rw [atV_set, if_pos rfl]) ?_)
  refine LQ.mk (OpC_ne (hn := by decide) 2 2 (pl_ivV _) (by rfl) ?_)
  refine back_same ?_
  rw [eqV_nil]
  exact q _ (by rw [h3]; exact setV_len) hb2
theorem put_same {p : P} {a : Addr} {o : O} (h : p a = some o) : put p a o = p := by
  funext b; unfold put; split
  · rename_i e; rw [e, h]
  · rfl
theorem struckM_len (l : Lit) (d : List (Int × Int)) : (struckM l d).length ≤ 2 * d.length := by
  unfold struckM
  have h1 := upM_len d l.k
  have h2 := onM_len d l.k
  have h3 := meet1_len l.k d
  have h4 := upM_len d (l.k - 1)
  have h5 := onM_len d (l.k + 1)
  cases l.s <;> simp only [List.length_append] <;> lia -matchEqs
theorem neg_x (l : Lit) : l.neg.x = l.x := by unfold Lit.neg; cases l.s <;> rfl
noncomputable def denyM : (Int → List (Int × Int)) → List Lit → Option (Int → List (Int × Int))
  | f, [] => some f
  | f, l :: r => if (struckM l.neg (f l.x)).isEmpty then none else denyM (updF f l.x (struckM l.neg (f l.x))) r
theorem box_deny (hK : HK C) {b t : Addr} {f : Int → List (Int × Int)} {ls : List Lit} {tn₀ : List (Int × V)} {Q : V → P → Prop} (hb : BoxP p b t f) (ht : p t = some (.di tn₀)) (hx : ∀ l ∈ ls, 0 ≤ l.x ∧ l.x < 4) (hl : ls.length ≤ 7) (htn : tn₀.length ≤ 900) (hd : ∀ x, (f x).length ≤ 3)
    (q : ∀ tn, (denyM f ls = none → Q (.bool false) (put p t (.di tn))) ∧ ∀ g, denyM f ls = some g → BoxP (put p t (.di tn)) b t g → Q (.bool true) (put p t (.di tn))) : TC C (k + 5) (.ref 320) [.ref b, .tup (ls.map Lit.v)] p Q X := by
  refine T_fn (X := X) (k := k + 4) hK (names := [Str.ofString "self", Str.ofString "clause"]) rfl rfl (bind2 fun ζ ζ => rfl) (by rfl) ?_
  refine W_S hK (L1.mk (T1_For (ns := [Str.ofString "literal"]) (TI_val (W_E hK ?_)) (fun ζ ζ => rfl)))
  refine ⟨_, .tup _, ?_⟩
  refine TFor_J (fun r fr p' => X3 fun rest g tn => A8 (r = rest.map Lit.v) (Sub [(Str.ofString "self", .ref b)] fr) (p' = put p t (.di tn)) (BoxP p' b t g) (denyM g rest = denyM f ls) (∀ x, (g x).length * 2 ^ rest.length ≤ 384) (tn.length + rest.length ≤ 950) (∀ l ∈ rest, 0 ≤ l.x ∧ l.x < 4)) ⟨ls, f, tn₀, rfl, by (repeat (first | exact sub_nil | exact Sub.refl _ | refine sub_cons (by rfl) ?_)), (put_same ht).symm, hb, rfl, fun x => ?_, by lia -matchEqs, hx⟩ ?_ ?_
  · have h8 := hd x
    have h9 : 2 ^ ls.length ≤ 2 ^ 7 := Nat.pow_le_pow_right (by lia -matchEqs) hl
    have := Nat.mul_le_mul h8 h9
    lia -matchEqs
  · rintro fr p' ⟨rest, g, tn, h1, h2, rfl, h3, h4, -⟩
    cases rest with
    | cons _ _ => cases h1
    | nil =>
      refine TS_weak h2 (W_S hK ?_)
      refine back_same ((q tn).2 g h4.symm h3)
  · rintro J' Q' hJ hQ v r fr p' ⟨rest, g, tn, h1, h2, rfl, h3, h4, h5, h6, h7⟩
    cases rest with
    | nil => cases h1
    | cons l rest =>
      cases h1
      refine TA_weak h2 (TA_1 (.inl rfl) (by simp) (W_S hK ?_))
      obtain ⟨hl0, hl4⟩ := h7 l (by simp)
      obtain ⟨dx, tn', Dv, g1, g2, g3, _⟩ := id h3
      rw [put_self] at g3; cases g3
      refine LM.own ⟨dx, g1, g2⟩ (f := 313) (by rw [hK]; kernel_rfl) rfl ?_
      refine LC.mk (TC_less (negation_ok (k := 0) hK ?_) (by lia -matchEqs))
      have hg := h5 l.x
      rw [List.length_cons, Nat.pow_succ] at hg
      have hpos : 1 ≤ 2 ^ rest.length := Nat.one_le_two_pow
      have hg2 : (g l.x).length ≤ 192 := by
        have : (g l.x).length * 1 ≤ (g l.x).length * 2 ^ rest.length := Nat.mul_le_mul_left _ hpos
        have : (g l.x).length * (2 ^ rest.length * 2) = (g l.x).length * 2 ^ rest.length * 2 := by rw [Nat.mul_assoc]
        lia -matchEqs
      rw [List.length_cons] at h6
      refine LC.mk (box_say (k := k) hK (l := l.neg) h3 (by rw [neg_x]; exact hl0) (by rw [neg_x]; exact hl4) (fun tn e => by rw [put_self] at e; cases e; lia -matchEqs) (by rw [neg_x]; lia -matchEqs) fun tn2 ht2 hb2 => ?_)
      replace ht2 : tn2.length ≤ tn.length + 1 := by rw [put_self] at ht2; exact ht2
      rw [neg_x] at hb2 ⊢
      rw [put_put] at hb2 ⊢
      have hd2 : denyM g (l :: rest) = if (struckM l.neg (g l.x)).isEmpty then none else denyM (updF g l.x (struckM l.neg (g l.x))) rest := rfl
      rw [hd2] at h4
      refine ifB.mk (fun hc => ?_) fun hc => ?_
      · rw [if_neg (by simpa using hc)] at h4
        refine hJ _ _ _ ⟨rest, _, tn2, rfl, by (repeat (first | exact sub_nil | exact Sub.refl _ | refine sub_cons (by rfl) ?_)), rfl, hb2, h4, fun x => ?_, by lia -matchEqs, fun l hl => h7 l (by simp [hl])⟩
        unfold updF
        by_cases e : x = l.x
        · rw [if_pos e]
          have h8 := struckM_len l.neg (g l.x)
          have h9 := Nat.mul_le_mul_right (2 ^ rest.length) h8
          have : 2 * (g l.x).length * 2 ^ rest.length = (g l.x).length * (2 ^ rest.length * 2) := by rw [Nat.mul_comm 2, Nat.mul_assoc, Nat.mul_comm 2]
          lia -matchEqs
        · rw [if_neg e]
          have h8 := h5 x
          rw [List.length_cons, Nat.pow_succ, ← Nat.mul_assoc] at h8
          lia -matchEqs
      · rw [if_pos (by simpa using hc)] at h4
        exact hQ _ _ _ (back_same ((q tn2).1 h4.symm))
theorem box_new (hK : HK C) {np pos : Pos} {e : Expr} {Dv : List V} {f : Int → List (Int × Int)} {Q : V → P → Prop} (hk : sc.names.lookup (Str.ofString "Box") = some .globalImplicit) (h6 : Dv.length = 4) (h7 : ∀ x : Int, 0 ≤ x → x < 4 → (Dv[x.toNat]?).getD .none = ivV (f x))
    (he : plainE e = true) (h : TE C (k + 2) sc fr p e (fun v p₁ => v = .lst Dv ∧ ∀ b t p₂, Le p₁ p₂ → p₁ t = none → p₂ t = some (.di []) → BoxP p₂ b t f → Q (.ref b) p₂) X) : TE C (k + 2) sc fr p (.Call (.Name (Str.ofString "Box") np) [e] [] pos) Q X := by
  refine T_Class (hd := by decide +kernel) (k := k + 1) (Cl := 323) (fI := 285) hk (by rw [hK]; kernel_rfl) (by rw [hK]; kernel_rfl) (by rw [hK]; kernel_rfl) (by rw [hK]; kernel_rfl) (by rw [hK]; kernel_rfl) ?_ (plain_star he) (fun ζ => rfl)
  refine TAs_cons (TE_post h fun v p₁ h₁ => TAs_nil fun a dx ha hdx hne => ?_) (plain_star he)
  obtain ⟨rfl, h₁⟩ := h₁
  refine T_fnC (X := X) (k := k) hK (names := [Str.ofString "self", Str.ofString "domains"]) rfl rfl (bind2 fun ζ ζ => rfl) (by rfl) ?_
  have e1 : put (put p₁ dx (.attrs [])) a (.inst 323 dx) dx = some (.attrs []) := by rw [put_ne _ _ hne.symm, put_self]
  refine W_S hK (LZ.mk (put_self _ _ _) e1 (by rw [hK]; kernel_rfl) (by decide) ?_)
  refine LE.mk (T_Dict0 fun t ht => ?_)
  have tdx : t ≠ dx := fun z => by rw [z, put_self] at ht; cases ht
  have ta : t ≠ a := fun z => by rw [z, put_ne _ _ hne, put_self] at ht; cases ht
  rw [put_ne _ _ tdx, put_ne _ _ ta, put_ne _ _ tdx] at ht
  refine LZ.mk (Cl := 323) (dx := dx) (l := [(Str.ofString "domains", .lst Dv)]) ?_ ?_ (by rw [hK]; kernel_rfl) (Nat.le_of_ble_eq_true rfl) ?_
  · rw [put_ne _ _ ta.symm, put_ne _ _ hne, put_self]
  · rw [put_ne _ _ tdx.symm, put_self]; rfl
  refine back_same ⟨rfl, h₁ a t _ ?_ ht ?_ ?_⟩
  · intro b
    by_cases e1 : b = dx
    · exact .inr (e1 ▸ hdx)
    by_cases e2 : b = t
    · exact .inr (e2 ▸ ht)
    by_cases e3 : b = a
    · exact .inr (e3 ▸ ha)
    rw [put_ne _ _ e1, put_ne _ _ e2, put_ne _ _ e1, put_ne _ _ e3, put_ne _ _ e1]
    exact .inl rfl
  · rw [put_ne _ _ tdx, put_self]
  · refine ⟨dx, [], Dv, ?_, put_self _ _ _, ?_, by simp, h6, fun x hx0 hx4 => ?_⟩
    · rw [put_ne _ _ hne, put_ne _ _ ta.symm, put_ne _ _ hne, put_self]
    · rw [put_ne _ _ tdx, put_self]
    · exact h7 x hx0 hx4
end
end
end Tl
end

section
open PySem PySem.W PySem.Calls PyProof.Rows
set_option linter.unusedVariables false
set_option maxRecDepth 100000
namespace Tl
section
noncomputable abbrev AL := List (Int × Int)
noncomputable abbrev diV (al : AL) : List (Int × V) := al.map fun e => (e.1, V.int e.2)
noncomputable def getA (al : AL) (x : Int) : Option Int := (al.find? fun e => e.1 = x).map (·.2)
noncomputable def setA (al : AL) (x v : Int) : AL := if al.any (fun e => e.1 = x) then al.map (fun e => if e.1 = x then (e.1, v) else e) else al ++ [(x, v)]
theorem atV_di (al : AL) (x : Int) : atV (diV al) x = (getA al x).map V.int := by
  unfold atV getA diV
  rw [List.find?_map]
  simp only [Option.map_map]
  rfl
theorem setV_di (al : AL) (x v : Int) : setV (diV al) x (.int v) = diV (setA al x v) := by
  unfold setV setA diV
  have : (al.map fun e => (e.1, V.int e.2)).any (fun kv => decide (kv.1 = x)) = al.any (fun e => decide (e.1 = x)) := by rw [List.any_map]; rfl
  rw [this]
  split
  · rw [List.map_map, List.map_map]
    refine List.map_congr_left fun e ζ => ?_
    simp only [Function.comp]
    split <;> rfl
  · rw [List.map_append]; rfl
theorem put_shift {p : P} {a b : Addr} {o o' u : O} (h : b ≠ a) : put (put (put p a o) b u) a o' = put (put p b u) a o' := by
  funext x; unfold put
  by_cases h1 : x = a
  · rw [if_pos h1, if_pos h1]
  · rw [if_neg h1, if_neg h1]; by_cases h2 : x = b
    · rw [if_pos h2, if_neg h1]
    · rw [if_neg h2, if_neg h1]
theorem IsInst.le {C : Cfg} {p p' : P} {x Cl : Addr} {l : List (Str × V)} (i : IsInst C p x Cl l) (h : Le p p') : IsInst C p' x Cl l := let ⟨dx, a, b⟩ := i; ⟨dx, h.at a, h.at b⟩
inductive Moves (cm : AL) (place : Int) : Nat → AL → Int → AL → Prop
  | last {ow : AL} {free : Int} (h : getA cm free = some place) : Moves cm place 0 ow free (setA ow free place)
  | next {n : Nat} {ow ow' : AL} {free here w : Int} (h : getA cm free = some here) (hp : here ≠ place) (hw : w ∈ cm.map (·.1)) (ho : getA ow w = some here) (hu : ∀ w' ∈ cm.map (·.1), getA ow w' = some here → w' = w)
      (r : Moves cm place n (setA ow free here) w ow') : Moves cm place (n + 1) ow free ow'
section
variable {C : Cfg} {k : Nat} {sc : Scope} {fr : Fm} {p : P} {X : P → Prop}
theorem setA_len {al : AL} {x v : Int} : (setA al x v).length ≤ al.length + 1 := by unfold setA; split <;> simp
theorem filter_one {ms : List Int} {w : Int} {c : Int → Bool} (hm : w ∈ ms) (hc : c w = true) (hu : ∀ x ∈ ms, c x = true → x = w) : ∃ r, ms.filter c = w :: r := by
  cases e : ms.filter c with
  | nil => rw [List.filter_eq_nil_iff] at e; exact absurd hc (e w hm)
  | cons a r =>
    have : a ∈ ms.filter c := by rw [e]; simp
    rw [List.mem_filter] at this
    exact ⟨r, by rw [hu a this.1 this.2]⟩
theorem move_on_ok (hK : HK C) {self : V} {o m : Addr} {cm ow ow' : AL} {free place : Int} {n : Nat} {Q : V → P → Prop} (hm : p m = some (.di (diV cm))) (ho : p o = some (.di (diV ow))) (hne : m ≠ o) (hcm : cm.length < 64) (how : ow.length + n < 100000)
    (hmv : Moves cm place n ow free ow') (q : Q .none (put p o (.di (diV ow')))) : TC C (k + 1) (.ref 375) [self, .ref o, .ref m, .int free, .int place] p Q X := by
  refine T_fn (X := X) (k := k) hK (names := [Str.ofString "self", Str.ofString "owner", Str.ofString "came", Str.ofString "free", Str.ofString "place"]) rfl rfl (bind5 fun ζ ζ ζ ζ ζ => rfl) (by rfl) ?_
  refine W_S hK (L1.mk ?_)
  refine T1_While_J (fun n fr p' => X2 fun ow₁ free₁ => A4 (Moves cm place n ow₁ free₁ ow') (p' = put p o (.di (diV ow₁))) (ow₁.length + n < 100000) (Sub [(Str.ofString "owner", .ref o), (Str.ofString "came", .ref m), (Str.ofString "free", .int free₁), (Str.ofString "place", .int place)] fr)) n
    ⟨ow, free, hmv, (put_same ho).symm, how, by (repeat (first | exact sub_nil | exact Sub.refl _ | refine sub_cons (by rfl) ?_))⟩ ?_
  rintro J' Q' hJ hQ n fr p' ⟨ow₁, free₁, hmv, rfl, hl, hs⟩
  have hm' : put p o (.di (diV ow₁)) m = some (.di (diV cm)) := by rw [put_ne _ _ hne]; exact hm
  refine TT_weak hs (W_T hK ?_)
  refine TS_weak hs (W_S hK ?_)
  obtain ⟨here, hhere⟩ : ∃ here, getA cm free₁ = some here := by cases hmv; exact ⟨_, ‹_›⟩; exact ⟨_, ‹_›⟩
  refine LG.mk (GetI_di (v := .int here) hm' (by rw [atV_di, hhere]; rfl) ?_)
  refine L1.mk (T1_Assign_Comp (hkind := rfl) (hpl := plain1 ⟨rfl, fun ζ ζ => rfl⟩) (L := [Str.ofString "v"]) rfl (fun env he => by cases env; cases he; rfl) (by decide) rfl (by rfl) ?_)
  refine TI_val (W_E hK ?_)
  refine LC.mk (TC_sortedD hm' (by unfold diV; rw [List.length_map]; exact Nat.lt_of_lt_of_le hcm (by decide)) fun ms hp hso => ⟨_, .lst _, ?_⟩)
  have ho' : put p o (.di (diV ow₁)) o = some (.di (diV ow₁)) := put_self _ _ _
  have hcd : (diV cm).map (·.1) = cm.map (·.1) := by unfold diV; rw [List.map_map]; rfl
  rw [hcd] at hp
  have hmem : ∀ v, v ∈ ms ↔ v ∈ cm.map (·.1) := fun v => hp.mem_iff
  have hml : ms.length ≤ 1000000 := by rw [hp.length_eq, List.length_map]; exact Nat.le_trans (Nat.le_of_lt hcm) (by decide)
  refine TLo_filter (c := fun x => getA ow₁ x == some here) (g := fun x => .int x) hml (fun x hx acc K' hl hK1 hK2 => ?_) ?_
  · refine TA_1 (.inl rfl) (by decide) ⟨sub_setL (by rfl), ?_⟩
    refine W_T hK (LM.get ho' ?_)
    refine LC.mk (TC_get1 ho' ?_)
    rw [atV_di]
    cases e : getA ow₁ x with
    | none =>
      refine LQ.mk (OpC_eq (hn := by decide) 0 0 (by rfl) (by rfl) ?_)
      exact if_f rfl (br_f rfl (hK2 (by rw [e]; rfl)))
    | some i =>
      refine ifB.mk (fun h => br_t rfl ⟨hl, W_E hK (hK1 ?_)⟩) fun h => br_f rfl (hK2 ?_)
      · rw [e]; exact h
      · rw [e]; exact h
  · refine ⟨_, rfl, ?_⟩
    refine LS.mk (SetI_di ho' (by unfold diV; rw [List.length_map]; exact Nat.le_trans (Nat.le_add_right _ _) (Nat.le_trans (Nat.le_of_lt hl) (by decide))) ?_)
    rw [put_put, setV_di]
    cases hmv with
    | last h =>
      rw [h] at hhere; cases hhere
      refine if_t (beq_self_eq_true _) ?_
      exact hQ _ _ _ (back_same q)
    | next h hpl hw hown hu r =>
      rw [h] at hhere; cases hhere
      refine if_f (beq_eq_false_iff_ne.mpr hpl) ?_
      obtain ⟨rest, hr⟩ := filter_one (c := fun x => getA ow₁ x == some here) ((hmem _).mpr hw) (beq_iff_eq.mpr hown) (fun x hx hc => hu x ((hmem _).mp hx) (eq_of_beq hc))
      rw [hr]
      refine LG.mk (GetI_lst (hlo := by decide) (hhi := by decide) (j := 0) (seq_at (Nat.succ_pos _)) rfl ?_)
      exact ⟨_, Nat.lt_succ_self _, hJ _ _ _ ⟨_, _, r, rfl, Nat.lt_of_le_of_lt (Nat.add_le_add_right setA_len _) (Nat.add_right_comm _ 1 _ ▸ hl), by (repeat (first | exact sub_nil | exact Sub.refl _ | refine sub_cons (by rfl) ?_))⟩⟩
noncomputable def scanM (ow : AL) (here : Int) : List Int → AL → List Int → AL × List Int × Option Int
  | [], cm, q => (cm, q, none)
  | v :: r, cm, q => if (getA cm v).isSome then scanM ow here r cm q else match getA ow v with
    | none => (setA cm v here, q, some v)
    | some h => scanM ow here r (setA cm v here) (q ++ [h])
noncomputable def bfsM (ow : AL) (lots : List (List Int)) : Nat → AL → List Int → Option (AL × Option Int)
  | _, cm, [] => some (cm, none)
  | 0, cm, _ :: _ => none
  | n + 1, cm, here :: q => if 0 ≤ here then match lots[here.toNat]? with
    | none => none
    | some l => match scanM ow here l cm q with
      | (cm1, _, some v) => some (cm1, some v)
      | (cm1, q1, none) => bfsM ow lots n cm1 q1
    else none
theorem scanM_c {ow cm : AL} {here v : Int} {r q : List Int} : scanM ow here (v :: r) cm q = if (getA cm v).isSome then scanM ow here r cm q else match getA ow v with
    | none => (setA cm v here, q, some v)
    | some h => scanM ow here r (setA cm v here) (q ++ [h]) := rfl
theorem bfsM_c {ow cm : AL} {lots : List (List Int)} {n : Nat} {here : Int} {q : List Int} : bfsM ow lots (n + 1) cm (here :: q) = if 0 ≤ here then match lots[here.toNat]? with
    | none => none
    | some l => match scanM ow here l cm q with
      | (cm1, _, some v) => some (cm1, some v)
      | (cm1, q1, none) => bfsM ow lots n cm1 q1
    else none := rfl
theorem bfsM_nil {ow cm : AL} {lots : List (List Int)} : ∀ {n : Nat}, bfsM ow lots n cm [] = some (cm, none)
  | 0 => rfl
  | _ + 1 => rfl
theorem setA_new {al : AL} {x v : Int} (h : getA al x = none) : setA al x v = al ++ [(x, v)] := by
  unfold setA
  rw [if_neg]
  intro hc
  obtain ⟨e, he, hx⟩ := List.any_eq_true.mp hc
  unfold getA at h
  rw [Option.map_eq_none_iff, List.find?_eq_none] at h
  exact h e he hx
theorem setA_ge {al : AL} {x v : Int} : al.length ≤ (setA al x v).length := by unfold setA; split <;> simp
theorem scanM_len {ow : AL} {here : Int} : ∀ (vs : List Int) (cm : AL) (q : List Int), cm.length ≤ (scanM ow here vs cm q).1.length
  | [], cm, q => Nat.le_refl _
  | v :: r, cm, q => by
    rw [scanM_c]
    cases (getA cm v).isSome with
    | true => exact scanM_len r cm q
    | false => cases getA ow v with
      | none => exact setA_ge
      | some h => exact Nat.le_trans setA_ge (scanM_len r _ _)
theorem bfsM_len {ow : AL} {lots : List (List Int)} {res : AL × Option Int} : ∀ (n : Nat) (cm : AL) (q : List Int), bfsM ow lots n cm q = some res → cm.length ≤ res.1.length
  | _, cm, [], h => by rw [bfsM_nil] at h; cases h; exact Nat.le_refl _
  | 0, cm, _ :: _, h => nomatch (show none = some res from h)
  | n + 1, cm, here :: q, h => by
    rw [bfsM_c] at h
    by_cases h0 : 0 ≤ here
    · rw [if_pos h0] at h
      cases hl : lots[here.toNat]? with
      | none => rw [hl] at h; cases h
      | some l =>
        rw [hl] at h
        have := scanM_len (ow := ow) (here := here) l cm q
        dsimp only at h
        generalize scanM ow here l cm q = z at h this
        obtain ⟨a, b, _ | v⟩ := z
        · exact Nat.le_trans this (bfsM_len n _ _ h)
        · cases h; exact this
    · rw [if_neg h0] at h; cases h
inductive Differ (lots : List (List Int)) : Nat → AL → Bool → Prop
  | done {ow : AL} : Differ lots lots.length ow true
  | no {i n : Nat} {ow cm : AL} (hi : i < lots.length) (h : bfsM ow lots n [] [(i : Int)] = some (cm, none)) (hc : cm.length < 64) : Differ lots i ow false
  | step {i n m : Nat} {ow ow' cm : AL} {v : Int} {r : Bool} (hi : i < lots.length) (h : bfsM ow lots n [] [(i : Int)] = some (cm, some v)) (hc : cm.length < 64) (ho : ow.length + m < 100000) (mv : Moves cm (i : Int) m ow v ow') (d : Differ lots (i + 1) ow' r) : Differ lots i ow r
theorem Differ.last {lots : List (List Int)} {i : Nat} {ow : AL} {r : Bool} (h : Differ lots i ow r) (hi : i = lots.length) : r = true := by
  cases h with
  | done => rfl
  | no h => exact absurd h (hi ▸ Nat.lt_irrefl _)
  | step h => exact absurd h (hi ▸ Nat.lt_irrefl _)
theorem Differ.inv {lots : List (List Int)} {i : Nat} {ow : AL} {r : Bool} (h : Differ lots i ow r) (hi : i < lots.length) : X2 fun nb res => A4 (bfsM ow lots nb [] [(i : Int)] = some res) (res.1.length < 64) (res.2 = none → r = false) (∀ v, res.2 = some v → X2 fun m ow' => A3 (ow.length + m < 100000) (Moves res.1 (i : Int) m ow v ow') (Differ lots (i + 1) ow' r)) := by
  cases h with
  | done => exact absurd hi (Nat.lt_irrefl _)
  | no _ h hc => exact ⟨_, _, h, hc, fun ζ => rfl, fun v e => (by cases e)⟩
  | step _ h hc ho mv d => exact ⟨_, _, h, hc, fun e => (by cases e), fun v e => (by cases e; exact ⟨_, _, ho, mv, d⟩)⟩
theorem oV_ref {f : Option Int} (x : Addr) : oV f ≠ .ref x := by cases f <;> exact fun z => nomatch z
noncomputable abbrev lotsV (lots : List (List Int)) : V := .lst (lots.map fun l => V.lst (l.map V.int))
theorem W_Tb (hK : HK C) {e : Expr} {b : Bool} (h : Wa C k sc X GG 30 fr p (.t e (fun p' => b = true ∧ p' = p) (fun p' => b = false ∧ p' = p))) : TT C k sc fr p e (fun c p' => c = b ∧ p' = p) X :=
  TT_post (W_T hK h) fun c p' ⟨h1, h2⟩ => by
    cases c
    · obtain ⟨a, b⟩ := h2 rfl; exact ⟨a.symm, b⟩
    · obtain ⟨a, b⟩ := h1 rfl; exact ⟨a.symm, b⟩
theorem eqV_lnil (q : List Int) : eqV (.lst (q.map V.int)) (.lst []) = q.isEmpty := by cases q <;> rfl
theorem can_differ_ok (hK : HK C) {x : Addr} {la : List (Str × V)} {lots : List (List Int)} {r : Bool} {Q : V → P → Prop} (hj : IsInst C p x 383 la) (hla : la.lookup (Str.ofString "move_on") = none) (hl : lots.length ≤ 100) (hd : Differ lots 0 [] r) (q : Q (.bool r) p) :
    TC C (k + 2) (.ref 370) [.ref x, lotsV lots] p Q X := by
  refine T_fn (X := X) (k := k + 1) hK (names := [Str.ofString "self", Str.ofString "lots"]) rfl rfl (bind2 fun ζ ζ => rfl) (by rfl) ?_
  refine W_S hK (LE.mk (T_Dict0 fun o hpo => ?_))
  refine L1.mk (T1_For (ns := [Str.ofString "place"]) (TI_val (W_E hK ?_)) (fun ζ ζ => rfl))
  refine LC.mk (TC_lenL (le_map hl rfl) ?_)
  rw [List.length_map]
  refine LC.mk (TC_range1 ⟨_, .rng (by decide) (by decide) (Int.le_trans (by decide) (Int.natCast_nonneg _)) (Int.le_trans (Int.ofNat_le.mpr hl) (by decide)), ?_⟩)
  refine TFor_J (fun r' fr p' => X4 fun (i : Nat) (n : Nat) (ow : AL) (p₁ : P) => A7 (r' = (List.range n).map (fun t : Nat => V.int ((i : Int) + (t : Int)))) (i + n = lots.length) (p' = put p₁ o (.di (diV ow))) (Le p p₁) (p₁ o = none) (Differ lots i ow r) (Sub [(Str.ofString "self", .ref x), (Str.ofString "lots", lotsV lots), (Str.ofString "owner", .ref o)] fr))
    ⟨0, lots.length, [], p, rfl, Nat.zero_add _, rfl, Le.refl p, hpo, hd, by (repeat (first | exact sub_nil | exact Sub.refl _ | refine sub_cons (by rfl) ?_))⟩ ?_ ?_
  · rintro fr p' ⟨i, n, ow, p₁, h1, h2, rfl, h3, h4, h5, h6⟩
    cases n with
    | succ n => rw [List.range_succ_eq_map] at h1; cases h1
    | zero =>
      exact TS_weak h6 (W_S hK (back_le (Le.trans h3 (Le.put h4)) (h5.last h2 ▸ q)))
  · rintro J₁ Q₁ hJ₁ hQ₁ v r' fr p' ⟨i, n, ow, p₁, h1, h2, rfl, h3, h4, h5, h6⟩
    cases n with
    | zero => cases h1
    | succ n =>
      rw [List.range_succ_eq_map, List.map_cons] at h1
      obtain ⟨rfl, rfl⟩ := List.cons.inj h1
      have hi : i < lots.length := h2 ▸ Nat.lt_add_of_pos_right (Nat.succ_pos n)
      obtain ⟨nb, res, hb, hc, hlink1, hlink2⟩ := h5.inv hi
      refine TA_weak h6 (TA_1 (.inl rfl) (by simp) ?_)
      have e0 : (i : Int) + ((0 : Nat) : Int) = i := Int.add_zero _
      rw [e0]
      refine W_S hK (L1.mk (T1_Assign_swap (names := [Str.ofString "came", Str.ofString "queue", Str.ofString "free"]) (W_E hK ?_) (by decide) (fun env he => by cases env; cases he; rfl)))
      refine LE.mk (T_Dict0 fun m hpm => ?_)
      refine LL.frozen ?_
      refine ⟨_, _, rfl, rfl, rfl, ?_⟩
      have hmo : m ≠ o := fun z => by rw [z, put_self] at hpm; cases hpm
      refine L1.mk ?_
      refine T1_While_J (fun n fr p' => X3 fun (cm : AL) (qu : List Int) (free : Option Int) => A4 (p' = put (put p₁ o (.di (diV ow))) m (.di (diV cm))) (qu.length ≤ cm.length + 1) (match free with | none => bfsM ow lots n cm qu = some res | some v => res = (cm, some v)) (Sub [(Str.ofString "self", .ref x), (Str.ofString "lots", lotsV lots), (Str.ofString "owner", .ref o), (Str.ofString "place", .int i), (Str.ofString "came", .ref m), (Str.ofString "queue", .lst (qu.map V.int)), (Str.ofString "free", oV free)] fr)) nb
        ⟨[], [(i : Int)], none, rfl, Nat.le_refl _, hb, by (repeat (first | exact sub_nil | exact Sub.refl _ | refine sub_cons (by rfl) ?_))⟩ ?_
      rintro J₂ Q₂ hJ₂ hQ₂ n₁ fr₁ p' ⟨cm, qu, free, rfl, hql, hres, hs⟩
      refine TT_weak hs (TT_post (W_Tb (b := !qu.isEmpty && free.isNone) hK ?_) ?_)
      · refine LL.frozen ?_
        refine LQ.mk (OpC_ne (hn := by decide) 1 1 (pls_tI _) (by rfl) ?_)
        rw [eqV_lnil]
        refine ifB.mk (fun hc => ?_) fun hc => ?_
        · refine LQ.mk (OpC_isNone oV_ref ?_)
          refine ifB.mk (fun hf => ⟨?_, rfl⟩) fun hf => ⟨?_, rfl⟩
          · rw [hc]; cases free <;> first | rfl | cases hf
          · rw [hc]; cases free <;> first | rfl | cases hf
        · exact ⟨by rw [hc]; rfl, rfl⟩
      rintro c p' ⟨rfl, rfl⟩
      have hcl : cm.length < 64 := by
        cases free with
        | none => exact Nat.lt_of_le_of_lt (bfsM_len _ _ _ hres) hc
        | some v => rw [show res = (cm, some v) from hres] at hc; exact hc
      have hpm' : put (put p₁ o (.di (diV ow))) m (.di (diV cm)) m = some (.di (diV cm)) := put_self _ _ _
      have hpo' : put (put p₁ o (.di (diV ow))) m (.di (diV cm)) o = some (.di (diV ow)) := by rw [put_ne _ _ hmo.symm, put_self]
      refine ⟨fun hcont => ?_, fun hstop => ?_⟩
      · obtain ⟨hq, hf⟩ := Bool.and_eq_true_iff.mp hcont
        cases free with
        | some v => cases hf
        | none =>
        cases qu with
        | nil => cases hq
        | cons here qu =>
        refine TS_weak hs (W_S hK (L1.mk (T1_Assign_swap (names := [Str.ofString "here", Str.ofString "queue"]) (W_E hK ?_) (by decide) (fun env he => by cases env; cases he; rfl))))
        refine LG.mk (GetI_lst (hlo := by decide) (hhi := by decide) (j := 0) (seq_at (Nat.succ_pos _)) rfl ?_)
        rw [List.length_cons] at hql
        refine LE.mk (T_FromL (hg := by intro _ _; rfl) (W_E hK (W_E hK ⟨_, _, rfl, rfl, by decide, by rw [List.length_map]; exact Nat.le_trans hql (Nat.le_trans hcl (by decide)), ?_⟩)))
        refine ⟨_, _, rfl, rfl, rfl, ?_⟩
        cases n₁ with
        | zero => exact nomatch (show none = some res from hres)
        | succ n₁ =>
        have hres : (if 0 ≤ here then match lots[here.toNat]? with
          | none => none
          | some l => match scanM ow here l cm qu with
            | (cm1, _, some v) => some (cm1, some v)
            | (cm1, q1, none) => bfsM ow lots n₁ cm1 q1
          else none) = some res := hres
        by_cases h0 : 0 ≤ here
        rotate_left
        · rw [if_neg h0] at hres; cases hres
        rw [if_pos h0] at hres
        cases hlt : lots[here.toNat]? with
        | none => rw [hlt] at hres; cases hres
        | some l =>
        rw [hlt] at hres
        replace hres : (match scanM ow here l cm qu with
            | (cm1, _, some v) => some (cm1, some v)
            | (cm1, q1, none) => bfsM ow lots n₁ cm1 q1) = some res := hres
        have hlt3 : here < lots.length := (Int.toNat_lt h0).mp (List.getElem?_eq_some_iff.mp hlt).1
        refine L1.mk (T1_For (ns := [Str.ofString "v"]) (TI_val (W_E hK ?_)) (fun ζ ζ => rfl))
        refine LG.mk (GetI_lst (v := .lst (l.map V.int)) (seq_nat h0 (by rw [List.length_map]; exact hlt3)) (by rw [List.getElem?_map, hlt]; rfl) ?_ (Int.le_trans (by decide) h0) (Int.lt_of_lt_of_le hlt3 (Int.le_trans (Int.ofNat_le.mpr hl) (by decide))))
        refine ⟨_, .lst _, ?_⟩
        refine TFor_J (fun r fr p' => X3 fun (vs : List Int) (cm₁ : AL) (q₁ : List Int) => A5 (r = vs.map V.int) (p' = put (put p₁ o (.di (diV ow))) m (.di (diV cm₁))) (scanM ow here vs cm₁ q₁ = scanM ow here l cm qu) (q₁.length ≤ cm₁.length + 1) (Sub [(Str.ofString "self", .ref x), (Str.ofString "lots", lotsV lots), (Str.ofString "owner", .ref o), (Str.ofString "place", .int i), (Str.ofString "came", .ref m), (Str.ofString "queue", .lst (q₁.map V.int)), (Str.ofString "free", .none), (Str.ofString "here", .int here)] fr))
          ⟨l, cm, qu, rfl, rfl, rfl, Nat.le_of_lt hql, by (repeat (first | exact sub_nil | exact Sub.refl _ | refine sub_cons (by rfl) ?_))⟩ ?_ ?_
        · rintro fr₂ p' ⟨vs, cm₁, q₁, h1, rfl, h2, h3, h4⟩
          cases vs with
          | cons => cases h1
          | nil =>
          have h2' : (cm₁, q₁, (none : Option Int)) = scanM ow here l cm qu := h2
          rw [← h2'] at hres
          exact W_S hK ⟨n₁, Nat.lt_succ_self _, hJ₂ _ _ _ ⟨cm₁, q₁, none, rfl, h3, hres, Sub.trans (by (repeat (first | exact sub_nil | exact Sub.refl _ | refine sub_cons (by rfl) ?_))) h4⟩⟩
        · rintro J₃ Q₃ hJ₃ hQ₃ w r₂ fr₂ p' ⟨vs, cm₁, q₁, h1, rfl, h2, h3, h4⟩
          cases vs with
          | nil => cases h1
          | cons v vs =>
          obtain ⟨rfl, rfl⟩ := List.cons.inj h1
          have hcm2 : (scanM ow here (v :: vs) cm₁ q₁).1.length < 64 := by
            rw [h2]
            cases e : scanM ow here l cm qu with
            | mk cm2 rr =>
              obtain ⟨q2, fr2⟩ := rr
              rw [e] at hres
              cases fr2 with
              | some u => exact (congrArg (·.1.length) (Option.some.inj hres)) ▸ hc
              | none => exact Nat.lt_of_le_of_lt (bfsM_len _ _ _ hres) hc
          have hcl₁ := scanM_len (ow := ow) (here := here) (v :: vs) cm₁ q₁
          have e1 : scanM ow here (v :: vs) cm₁ q₁ = if (getA cm₁ v).isSome then scanM ow here vs cm₁ q₁ else match getA ow v with
            | none => (setA cm₁ v here, q₁, some v)
            | some h => scanM ow here vs (setA cm₁ v here) (q₁ ++ [h]) := rfl
          have hm₁ : put (put p₁ o (.di (diV ow))) m (.di (diV cm₁)) m = some (.di (diV cm₁)) := put_self _ _ _
          refine TA_weak h4 (TA_1 (.inl rfl) (by simp) (W_S hK ?_))
          refine LQ.mk (OpC_notInD hm₁ ?_)
          rw [atV_di]
          cases hg : getA cm₁ v with
          | some u =>
            refine if_f rfl ?_
            rw [hg] at e1
            exact hJ₃ _ _ _ ⟨vs, cm₁, q₁, rfl, rfl, by rw [← h2, e1]; rfl, h3, by (repeat (first | exact sub_nil | exact Sub.refl _ | refine sub_cons (by rfl) ?_))⟩
          | none =>
            refine if_t rfl ?_
            rw [hg] at e1
            refine LS.mk (SetI_di hm₁ (by unfold diV; rw [List.length_map]; exact Nat.le_trans hcl₁ (Nat.le_trans (Nat.le_of_lt hcm2) (by decide))) ?_)
            rw [put_put, setV_di]
            have ho₁ : put (put p₁ o (.di (diV ow))) m (.di (diV (setA cm₁ v here))) o = some (.di (diV ow)) := by rw [put_ne _ _ hmo.symm, put_self]
            refine LQ.mk (OpC_notInD ho₁ ?_)
            rw [atV_di]
            cases hw : getA ow v with
            | none =>
              refine if_t rfl ?_
              rw [hw] at e1
              rw [← h2, e1] at hres
              exact hQ₃ _ _ _ (W_S hK ⟨n₁, Nat.lt_succ_self _, hJ₂ _ _ _ ⟨_, q₁, some v, rfl, Nat.le_trans h3 (Nat.succ_le_succ setA_ge), (Option.some.inj hres).symm, by (repeat (first | exact sub_nil | exact Sub.refl _ | refine sub_cons (by rfl) ?_))⟩⟩)
            | some h =>
              refine if_f rfl ?_
              rw [hw] at e1
              refine LG.mk (GetI_di (v := .int h) ho₁ (by rw [atV_di, hw]; rfl) ?_)
              refine LL.frozen ?_
              refine LB.mk (OpB_addL (by rw [List.length_map]; exact Nat.le_trans (Nat.succ_le_succ (Nat.le_trans h3 (Nat.succ_le_succ (Nat.le_of_lt (Nat.lt_of_le_of_lt hcl₁ hcm2))))) (by decide)) ?_)
              rw [show q₁.map V.int ++ [V.int h] = (q₁ ++ [h]).map V.int by rw [List.map_append]; rfl]
              exact hJ₃ _ _ _ ⟨vs, _, q₁ ++ [h], rfl, rfl, by rw [← h2, e1]; rfl, by rw [setA_new hg, List.length_append, List.length_append]; exact Nat.succ_le_succ h3, by (repeat (first | exact sub_nil | exact Sub.refl _ | refine sub_cons (by rfl) ?_))⟩
      · have hfin : res = (cm, free) := by
          cases free with
          | some v => exact hres
          | none =>
            cases qu with
            | cons => cases hstop
            | nil => have : bfsM ow lots n₁ cm [] = some res := hres
                     rw [bfsM_nil] at this; exact (Option.some.inj this).symm
        rw [hfin] at hlink1 hlink2
        refine hQ₂ _ _ _ (TS_weak hs (W_S hK ?_))
        have hp1m : p₁ m = none := by rw [put_ne _ _ hmo] at hpm; exact hpm
        have hle : Le p (put (put p₁ o (.di (diV ow))) m (.di (diV cm))) := Le.trans h3 (Le.trans (Le.put h4) (Le.put hpm))
        refine LQ.mk (OpC_isNone oV_ref ?_)
        cases free with
        | none =>
          refine if_t rfl ?_
          exact hQ₁ _ _ _ (back_le hle (hlink1 rfl ▸ q))
        | some v =>
          refine if_f rfl ?_
          obtain ⟨mm, ow', g1, g2, g3⟩ := hlink2 v rfl
          refine LM.own (hj.le hle) (f := 375) (by rw [hK]; kernel_rfl) hla ?_
          refine LC.mk (move_on_ok (k := k) hK hpm' hpo' hmo hcl g1 g2 ?_)
          refine ⟨rfl, hJ₁ _ _ _ ⟨i + 1, n, ow', put p₁ m (.di (diV cm)), ?_, (Nat.add_right_comm i 1 n).trans h2, ?_, Le.trans h3 (Le.put hp1m), by rw [put_ne _ _ hmo.symm]; exact h4, g3, by (repeat (first | exact sub_nil | exact Sub.refl _ | refine sub_cons (by rfl) ?_))⟩⟩
          · rw [List.map_map]
            refine List.map_congr_left fun t ζ => ?_
            exact congrArg V.int ((congrArg ((i : Int) + ·) (Int.add_comm (t : Int) 1)).trans (Int.add_assoc (i : Int) 1 t).symm)
          · exact put_shift hmo
end
end
end Tl
end

section
open PySem PySem.W PySem.Calls PyProof.Rows
set_option linter.unusedVariables false
set_option maxRecDepth 100000
namespace Tl
section
noncomputable def prodL : List (List Int) → Nat
  | [] => 1
  | l :: r => l.length * prodL r
noncomputable def rank : List Nat → List (List Int) → Nat
  | [], _ => 0
  | s :: ss, ls => match ls with
    | [] => 0
    | l :: ls => s * prodL ls + rank ss ls
noncomputable def ValidS (ss : List Nat) (ls : List (List Int)) : Prop := ss.length = ls.length ∧ ∀ (j s : Nat) (l : List Int), ss[j]? = some s → ls[j]? = some l → s < l.length
noncomputable def pickS (ss : List Nat) (ls : List (List Int)) : List Int := (ss.zip ls).map fun e => e.2.getD e.1 0
noncomputable def asgF (xs vals : List Int) : Int → Int := fun x => (getA (xs.zip vals) x).getD 0
theorem rank_zero (n : Nat) (ls : List (List Int)) : rank (List.replicate n 0) ls = 0 := by
  induction n generalizing ls with
  | zero => rfl
  | succ n ih => cases ls with
    | nil => rfl
    | cons l ls => exact (congrArg (0 * prodL ls + ·) (ih ls)).trans (Nat.zero_mul _)
theorem rank_max (ss : List Nat) (ls : List (List Int)) (hl : ss.length = ls.length) (h : ∀ (i s : Nat) (l : List Int), ss[i]? = some s → ls[i]? = some l → s + 1 = l.length) : rank ss ls + 1 = prodL ls := by
  induction ss generalizing ls with
  | nil => cases ls with
    | nil => rfl
    | cons => cases hl
  | cons s ss ih => cases ls with
    | nil => cases hl
    | cons l ls =>
      have ih := ih ls (Nat.succ.inj hl) fun i s' l' e e' => h (i + 1) s' l' e e'
      show s * prodL ls + rank ss ls + 1 = l.length * prodL ls
      rw [← h 0 s l rfl rfl, Nat.succ_mul, Nat.add_assoc, ih]
theorem rank_next (j : Nat) (ss : List Nat) (ls : List (List Int)) (s : Nat) (hl : ss.length = ls.length) (e : ss[j]? = some s) (h : ∀ (i t : Nat) (l : List Int), j < i → ss[i]? = some t → ls[i]? = some l → t + 1 = l.length) :
    rank (ss.take j ++ (s + 1) :: List.replicate (ss.length - j - 1) 0) ls = rank ss ls + 1 := by
  induction ss generalizing j ls with
  | nil => cases e
  | cons u ss ih => cases ls with
    | nil => cases hl
    | cons l ls => cases j with
      | zero =>
        cases e
        have := rank_max ss ls (Nat.succ.inj hl) fun i s' l' e e' => h (i + 1) s' l' (Nat.succ_pos i) e e'
        show (s + 1) * prodL ls + rank (List.replicate _ 0) ls = s * prodL ls + rank ss ls + 1
        rw [rank_zero, Nat.succ_mul, Nat.add_zero, ← this]; rfl
      | succ j =>
        have ih := ih j ls (Nat.succ.inj hl) e fun i t l' hi e e' => h (i + 1) t l' (Nat.succ_lt_succ hi) e e'
        show u * prodL ls + rank (ss.take j ++ (s + 1) :: List.replicate (ss.length + 1 - (j + 1) - 1) 0) ls = u * prodL ls + rank ss ls + 1
        rw [Nat.add_sub_add_right, ih]; rfl
theorem ValidS.tail {s : Nat} {ss : List Nat} {l : List Int} {ls : List (List Int)} (h : ValidS (s :: ss) (l :: ls)) : ValidS ss ls := ⟨Nat.succ.inj h.1, fun j s' l' e e' => h.2 (j + 1) s' l' e e'⟩
theorem rank_lt (ss : List Nat) (ls : List (List Int)) (h : ValidS ss ls) : rank ss ls < prodL ls := by
  induction ss generalizing ls with
  | nil => cases ls with
    | nil => exact Nat.one_pos
    | cons => cases h.1
  | cons s ss ih => cases ls with
    | nil => cases h.1
    | cons l ls =>
      refine Nat.lt_of_lt_of_le (Nat.add_lt_add_left (ih ls h.tail) (s * prodL ls)) ?_
      rw [← Nat.succ_mul]
      exact Nat.mul_le_mul_right (prodL ls) (Nat.succ_le_of_lt (h.2 0 s l rfl rfl))
theorem mul_add_inj {s t r u n : Nat} (hr : r < n) (hu : u < n) (e : s * n + r = t * n + u) : s = t ∧ r = u := by
  have hn : 0 < n := Nat.lt_of_le_of_lt (Nat.zero_le r) hr
  have h1 := congrArg (· / n) e
  have h2 := congrArg (· % n) e
  simp only [Nat.mul_comm _ n] at h1 h2
  rw [Nat.mul_add_div hn, Nat.mul_add_div hn, Nat.div_eq_of_lt hr, Nat.div_eq_of_lt hu] at h1
  rw [Nat.mul_add_mod, Nat.mul_add_mod, Nat.mod_eq_of_lt hr, Nat.mod_eq_of_lt hu] at h2
  exact ⟨h1, h2⟩
theorem rank_inj (ss tt : List Nat) (ls : List (List Int)) (h : ValidS ss ls) (g : ValidS tt ls) (e : rank ss ls = rank tt ls) : ss = tt := by
  induction ls generalizing ss tt with
  | nil => rw [List.eq_nil_of_length_eq_zero h.1, List.eq_nil_of_length_eq_zero g.1]
  | cons l ls ih => cases ss with
    | nil => cases h.1
    | cons s ss => cases tt with
      | nil => cases g.1
      | cons t tt =>
        obtain ⟨e1, e2⟩ := mul_add_inj (rank_lt ss ls h.tail) (rank_lt tt ls g.tail) e
        rw [e1, ih ss tt h.tail g.tail e2]
theorem put_comm {p : P} {a b : Addr} {o u : O} (h : a ≠ b) : put (put p a o) b u = put (put p b u) a o := by
  funext x; unfold put
  by_cases h1 : x = a
  · rw [if_pos h1, if_pos h1, if_neg fun z => h (h1.symm.trans z)]
  · rw [if_neg h1, if_neg h1]
theorem BoxP.le {p p' : P} {b t : Addr} {f : Int → List (Int × Int)} (hb : BoxP p b t f) (h : Le p p') : BoxP p' b t f := let ⟨dx, tn, Dv, a, b, c, r1, r2, r3⟩ := hb; ⟨dx, tn, Dv, h.at a, h.at b, h.at c, r1, r2, r3⟩
section
variable {C : Cfg} {k : Nat} {sc : Scope} {fr : Fm} {p : P} {X : P → Prop}
theorem dictL_eq {xs vals : List Int} (h : vals.length = xs.length) : (List.range xs.length).map (fun i : Nat => V.tup [.int (xs.getD i 0), .int (vals.getD i 0)]) = (diV (xs.zip vals)).map fun e => .tup [.int e.1, e.2] := by
  refine List.ext_getElem? fun i => ?_
  unfold diV
  rw [List.getElem?_map, List.getElem?_map, List.getElem?_map]
  by_cases hi : i < xs.length
  · rw [List.getElem?_range hi, (List.getElem?_zip_eq_some (z := (xs[i], vals[i]))).mpr ⟨List.getElem?_eq_getElem hi, List.getElem?_eq_getElem (h.symm ▸ hi)⟩]
    simp only [Option.map_some]
    rw [List.getD_eq_getElem?_getD, List.getD_eq_getElem?_getD, List.getElem?_eq_getElem hi, List.getElem?_eq_getElem (h.symm ▸ hi)]
    rfl
  · rw [List.getElem?_eq_none (by rw [List.length_range]; exact Nat.le_of_not_lt hi), List.getElem?_eq_none (by rw [List.length_zip, h, Nat.min_self]; exact Nat.le_of_not_lt hi)]; rfl
theorem TC_dictL' {C : Cfg} {k : Nat} {p : P} {X : P → Prop} {vs : List V} {l : List (Int × V)} {Q : V → P → Prop} (he : vs = l.map fun e => .tup [.int e.1, e.2]) (hl : l.length ≤ 1000) (hn : (l.map (·.1)).Nodup) (q : ∀ a, p a = none → Q (.ref a) (put p a (.di l))) : TC C k (.type "dict") [.lst vs] p Q X := he ▸ TC_dictL hl hn q
theorem zip_nodup {xs vals : List Int} (h : vals.length = xs.length) (hn : xs.Nodup) : ((diV (xs.zip vals)).map (·.1)).Nodup := by
  have : (diV (xs.zip vals)).map (·.1) = xs := by unfold diV; rw [List.map_map]; exact List.map_fst_zip (by lia -matchEqs)
  rw [this]; exact hn
theorem zip_asg {xs vals : List Int} {y : Int} (h : vals.length = xs.length) (hy : y ∈ xs) : atV (diV (xs.zip vals)) y = some (.int (asgF xs vals y)) := by
  rw [atV_di]; unfold asgF
  cases e : getA (xs.zip vals) y with
  | some v => rfl
  | none =>
    unfold getA at e
    rw [Option.map_eq_none_iff, List.find?_eq_none] at e
    have hm : y ∈ (xs.zip vals).map (·.1) := by rw [List.map_fst_zip (by lia -matchEqs)]; exact hy
    obtain ⟨z, hz, rfl⟩ := List.mem_map.mp hm
    exact absurd (by simp) (e z hz)
theorem take_set {ss : List Nat} {j : Nat} (hj : j < ss.length) (v : Nat) (r : List Nat) : (ss.take (j + 1) ++ r).set j v = ss.take j ++ v :: r := by
  rw [List.take_succ, List.getElem?_eq_getElem hj]
  simp only [Option.toList_some, List.append_assoc, List.cons_append, List.nil_append]
  rw [List.set_append_right _ _ (by simp; lia -matchEqs)]
  simp [Nat.min_eq_left (Nat.le_of_lt hj)]
noncomputable abbrev natV (ss : List Nat) : List V := ss.map fun s => V.int (Int.ofNat s)
theorem SetI_nat {a : Addr} {ss ss' : List Nat} {i v : Int} {j s : Nat} {Q : P → Prop} (ha : p a = some (.list (natV ss))) (hi : i = Int.ofNat j) (hj : j < ss.length) (hs : j < 2 ^ 60) (hv : v = Int.ofNat s) (he : ss.set j s = ss') (q : Q (put p a (.list (natV ss')))) : SetI C k (.ref a) (.int i) (.int v) p Q := by
  subst hi hv he
  have e0 : Int.ofNat j = (j : Int) := rfl
  refine SetI_list (j := j) ha (by rw [e0, seq_nat (by lia -matchEqs) (by simp; lia -matchEqs), Int.toNat_natCast]) ?_ (by lia -matchEqs) (by lia -matchEqs)
  unfold natV at q ⊢
  rw [List.map_set] at q
  exact q
theorem valid_next {ss : List Nat} {ls : List (List Int)} {j s m : Nat} {l : List Int} (hval : ValidS ss ls) (hl' : ls[j]? = some l) (hs1 : s + 1 < l.length) (hj : j < ss.length) (hm : j + 1 + m = ss.length) (hne : ∀ l ∈ ls, l ≠ []) : ValidS (ss.take j ++ (s + 1) :: List.replicate m 0) ls := by
  have htl : (ss.take j).length = j := List.length_take_of_le (Nat.le_of_lt hj)
  refine ⟨?_, fun i t l' e e' => ?_⟩
  · rw [List.length_append, htl, List.length_cons, List.length_replicate, ← hval.1, ← hm, Nat.add_right_comm]; rfl
  · rcases Nat.lt_trichotomy i j with h | h | h
    · rw [List.getElem?_append_left (by rw [htl]; exact h), List.getElem?_take_of_lt h] at e
      exact hval.2 i t l' e e'
    · subst h
      rw [List.getElem?_append_right (by rw [htl]; exact Nat.le_refl _), htl, Nat.sub_self] at e
      cases e
      rw [hl'] at e'; cases e'
      exact hs1
    · rw [List.getElem?_append_right (by rw [htl]; exact Nat.le_of_lt h), htl] at e
      obtain ⟨d, hd⟩ := Nat.exists_eq_succ_of_ne_zero (Nat.sub_ne_zero_of_lt h)
      rw [hd, List.getElem?_cons_succ, List.getElem?_replicate] at e
      split at e
      · cases e; exact List.length_pos_iff.mpr (hne l' (List.mem_of_getElem? e'))
      · cases e
theorem has_tuple_ok (hK : HK C) {x b t : Addr} {f : Int → List (Int × Int)} {told : Told} {r : Bool} {Q : V → P → Prop} (ht : told.Ok) (hb : BoxP p b t f) (hv : ∀ y ∈ told.vars, 0 ≤ y ∧ y < 4) (hs : ∀ y ∈ told.vars, Sm (f y)) (hne : ∀ y ∈ told.vars, valsM (f y) ≠ []) (hlen : ∀ y ∈ told.vars, (valsM (f y)).length ≤ 1000)
    (hbig : ∀ ss, ValidS ss (told.vars.map fun y => valsM (f y)) → (asgF told.vars (pickS ss (told.vars.map fun y => valsM (f y))) 0).natAbs < 2 ^ 63)
    (hr : r = true ↔ ∃ ss, ValidS ss (told.vars.map fun y => valsM (f y)) ∧ told.sat (asgF told.vars (pickS ss (told.vars.map fun y => valsM (f y)))) = true)
    (q : Q (.bool r) p) : TC C (k + 4) (.ref 380) [.ref x, told.v, tI told.vars, .ref b] p Q X := by
  refine T_fn (X := X) (k := k + 3) hK (names := [Str.ofString "self", Str.ofString "told", Str.ofString "some", Str.ofString "box"]) rfl rfl (bind4 fun ζ ζ ζ ζ => rfl) (by rfl) ?_
  refine W_S hK (L1.mk (T1_Assign_Name' (.inr rfl) (fun env he => by cases env; cases he; rfl) ?_))
  obtain ⟨hnd, hn3⟩ := Told.vars_nodup ht
  have hsat := fun (p : P) (a : Addr) (g : Int → Int) (Q : V → P → Prop) => holds_ok (C := C) (k := k) (p := p) (a := a) (f := g) (Q := Q) (X := X0) hK ht
  generalize told.vars = xs at *
  refine T_ListComp (hkind := rfl) (hpl := plain1 ⟨rfl, fun ζ ζ => rfl⟩) (L := [Str.ofString "x"]) (by decide) rfl (by rfl) (TI_val (W_E hK ⟨_, .tup _, ?_⟩))
  refine TLo_map (g := fun y => V.lst ((valsM (f y)).map V.int)) (by lia -matchEqs) (fun y hy acc K' hl hK' => ?_) ?_
  · refine TA_1 (.inl rfl) (by decide) ⟨sub_setL (by rfl), br_t rfl ⟨hl, W_E hK ?_⟩⟩
    obtain ⟨dx, tn, Dv, g1, g2, g3, _⟩ := id hb
    refine LM.own ⟨dx, g1, g2⟩ (f := 292) (by rw [hK]; kernel_rfl) rfl ?_
    refine LC.mk (TC_less (box_domain (k := 0) hK hb (hv y hy).1 (hv y hy).2 ?_) (by lia -matchEqs))
    exact LC.mk (TC_less (values_ok (k := 0) hK (hs y hy) hK') (by lia -matchEqs))
  have hls : ∃ ls : List (List Int), ls = xs.map (fun y => valsM (f y)) := ⟨_, rfl⟩
  obtain ⟨ls, hls⟩ := hls
  rw [← hls] at hr hbig
  have hlots : xs.map (fun y => V.lst ((valsM (f y)).map V.int)) = ls.map (fun l => V.lst (l.map V.int)) := by rw [hls, List.map_map]; rfl
  rw [hlots]
  refine ⟨_, rfl, ?_⟩
  refine LL.frozen (LC.mk (TC_lenT (le_map hn3 rfl) ?_))
  rw [List.length_map]
  refine LB.mk (OpB_rep (Int.natCast_nonneg _) (Int.ofNat_le.mpr (le_up hn3 rfl)) fun sp hsp => ?_)
  rw [Int.toNat_natCast]
  have hll : ls.length = xs.length := by rw [hls, List.length_map]
  have hlne : ∀ l ∈ ls, l ≠ [] := fun l hl => by rw [hls] at hl; obtain ⟨y, hy, rfl⟩ := List.mem_map.mp hl; exact hne y hy
  have hlle : ∀ l ∈ ls, l.length ≤ 1000 := fun l hl => by rw [hls] at hl; obtain ⟨y, hy, rfl⟩ := List.mem_map.mp hl; exact hlen y hy
  clear hls hlots
  have hln : ls.length ≤ 1000000 := hll ▸ le_up hn3 rfl
  refine L1.mk (T1_While_J (fun n fr p' => X2 fun (ss : List Nat) (p₁ : P) => A7 (n = prodL ls - rank ss ls) (ValidS ss ls) (∀ tt, ValidS tt ls → rank tt ls < rank ss ls → told.sat (asgF xs (pickS tt ls)) = false) (p' = put p₁ sp (.list (natV ss))) (Le p p₁) (p₁ sp = none) (Sub [(Str.ofString "told", told.v), (Str.ofString "some", tI xs), (Str.ofString "lots", lotsV ls), (Str.ofString "spots", .ref sp)] fr)) _ ⟨List.replicate xs.length 0, p, rfl, ⟨List.length_replicate.trans hll.symm, fun j s l e e' => ?_⟩, fun tt ζ h => ?_, by unfold natV; rw [List.map_replicate]; rfl, Le.refl p, hsp, by (repeat (first | exact sub_nil | exact Sub.refl _ | refine sub_cons (by rfl) ?_))⟩ ?_)
  · rw [List.getElem?_replicate] at e
    have := hlne l (List.mem_of_getElem? e')
    split at e
    · cases e; exact List.length_pos_iff.mpr this
    · cases e
  · rw [rank_zero] at h; cases h
  rintro J₁ Q₁ hJ₁ hQ₁ n fr₁ p' ⟨ss, p₁, rfl, hval, hvis, rfl, hle, hsp₁, hsub⟩
  refine TT_weak hsub (W_T hK ?_)
  refine TS_weak hsub (W_S hK ?_)
  have hssl : ss.length = xs.length := hval.1.trans hll
  have hspp : put p₁ sp (.list (natV ss)) sp = some (.list (natV ss)) := put_self _ _ _
  refine LE.mk (T_ListComp (hkind := rfl) (hpl := plain1 ⟨rfl, fun ζ ζ => rfl⟩) (L := [Str.ofString "k"]) (by decide) rfl (by rfl) (TI_val (W_E hK ?_)))
  have hss : ss.length ≤ 1000000 := hssl ▸ le_up hn3 rfl
  refine LC.mk (TC_lenT (le_map hn3 rfl) ?_)
  rw [List.length_map]
  refine LC.mk (TC_range1 (it_len (le_up hn3 rfl) ?_))
  have hpk : (pickS ss ls).length = xs.length := by unfold pickS; rw [List.length_map, List.length_zip, hssl, hll, Nat.min_self]
  have hgk : ∀ i, i < xs.length → X2 fun s l => A4 (ss[i]? = some s) (ls[i]? = some l) (s < l.length) (l ∈ ls) := fun i hi => by
    obtain ⟨s, hs'⟩ : ∃ s, ss[i]? = some s := ⟨_, List.getElem?_eq_getElem (hssl.symm ▸ hi)⟩
    obtain ⟨l, hl'⟩ : ∃ l, ls[i]? = some l := ⟨_, List.getElem?_eq_getElem (hll.symm ▸ hi)⟩
    exact ⟨s, l, hs', hl', hval.2 i s l hs' hl', List.mem_of_getElem? hl'⟩
  refine TLo_map (g := fun i : Nat => .tup [.int (xs.getD i 0), .int ((pickS ss ls).getD i 0)]) (by rw [List.length_range]; exact le_up hn3 rfl) (fun i hi acc K' hl hK' => ?_) ?_
  · have hi' : i < xs.length := List.mem_range.mp hi
    obtain ⟨s, l, hs', hl', hsl, hlm⟩ := hgk i hi'
    have hl10 := hlle l hlm
    have hpi : (pickS ss ls).getD i 0 = l.getD s 0 := by
      unfold pickS; rw [List.getD_eq_getElem?_getD, List.getElem?_map, (List.getElem?_zip_eq_some (z := (s, l))).mpr ⟨hs', hl'⟩]; rfl
    have hx : xs[i]? = some (xs.getD i 0) := by rw [List.getD_eq_getElem?_getD, List.getElem?_eq_getElem hi']; rfl
    refine TA_1 (.inl rfl) (by decide) ⟨sub_setL (by rfl), br_t rfl ⟨hl, ?_⟩⟩
    refine W_E hK (gI_tupN (by rw [List.getElem?_map, hx]; rfl) (Nat.lt_of_lt_of_le hi' (le_up hn3 rfl)) ?_)
    refine LG_lst (g := fun l => V.lst (l.map V.int)) hl' hln ?_
    refine LG_ref (g := fun s => V.int (Int.ofNat s)) hspp hs' hss ?_
    refine LG_lst (g := V.int) (x := l.getD s 0) ?_ (le_up hl10 rfl) ?_
    · rw [List.getD_eq_getElem?_getD, List.getElem?_eq_getElem hsl]; rfl
    rw [hpi] at hK'
    exact hK'
  refine LC.mk (TC_dictL' (dictL_eq hpk) (by unfold diV; rw [List.length_map, List.length_zip]; exact Nat.le_trans (Nat.min_le_left _ _) (le_up hn3 rfl)) (zip_nodup hpk hnd) fun a ha => ?_)
  refine LC.mk (hsat _ a (asgF xs (pickS ss ls)) _ ⟨_, put_self _ _ _, fun y hy => zip_asg hpk hy⟩ (hbig ss hval) ?_)
  have hasp : sp ≠ a := fun z => by rw [← z, hspp] at ha; cases ha
  rw [put_comm hasp]
  have hp2 : ∃ p₂, p₂ = put p₁ a (.di (diV (xs.zip (pickS ss ls)))) := ⟨_, rfl⟩
  obtain ⟨p₂, hp2⟩ := hp2
  rw [← hp2]
  have hle2 : Le p p₂ := by rw [hp2]; exact Le.trans hle (Le.put (by rw [put_ne _ _ hasp.symm] at ha; exact ha))
  have hsp2 : p₂ sp = none := by rw [hp2, put_ne _ _ hasp]; exact hsp₁
  clear hp2 ha hasp hspp hle hsp₁
  have hleF : ∀ o, Le p (put p₂ sp o) := fun o => Le.trans hle2 (Le.put hsp2)
  refine ifB.mk (fun hc => ?_) fun hc => ?_
  · have : r = true := hr.mpr ⟨ss, hval, hc⟩
    subst this
    exact hQ₁ _ _ _ (back_le (hleF _) q)
  refine LC.mk (TC_lenT (le_map hn3 rfl) ?_)
  refine L1.mk (T1_While_J (fun n fr p' => A4 (p' = put p₂ sp (.list (natV (ss.take n ++ List.replicate (xs.length - n) 0)))) (n ≤ xs.length) (∀ (i t : Nat) (l : List Int), n ≤ i → ss[i]? = some t → ls[i]? = some l → t + 1 = l.length) (Sub [(Str.ofString "told", told.v), (Str.ofString "some", tI xs), (Str.ofString "lots", lotsV ls), (Str.ofString "spots", .ref sp), (Str.ofString "k", .int ((n : Int) - 1))] fr)) xs.length
    ⟨by rw [Nat.sub_self, List.replicate_zero, List.append_nil, List.take_of_length_le (Nat.le_of_eq hssl)], Nat.le_refl _, fun i t l hi e ζ => ?_, ?_⟩ ?_)
  · rw [List.getElem?_eq_none (hssl.symm ▸ hi)] at e; cases e
  · rw [List.length_map]; (repeat (first | exact sub_nil | exact Sub.refl _ | refine sub_cons (by rfl) ?_))
  rintro J₂ Q₂ hJ₂ hQ₂ n fr₂ p' ⟨rfl, hn, hmax, hsub2⟩
  have hspp : ∀ o, put p₂ sp o sp = some o := fun o => put_self _ _ _
  cases n with
  | zero =>
    refine TT_weak hsub2 (TT_post (W_Tb (b := false) hK ?_) ?_)
    · exact if_f (by decide) ⟨rfl, rfl⟩
    rintro c p' ⟨rfl, rfl⟩
    refine ⟨fun z => (by cases z), fun ζ => ?_⟩
    refine hQ₂ _ _ _ (TS_weak hsub2 (W_S hK (if_t (by decide) ?_)))
    have : r = false := by
      cases hrr : r with
      | false => rfl
      | true =>
        obtain ⟨tt, htt, hst⟩ := hr.mp hrr
        have h1 := rank_lt tt ls htt
        have h2 := rank_max ss ls hval.1 fun i t l e e' => hmax i t l (Nat.zero_le _) e e'
        rcases Nat.lt_or_ge (rank tt ls) (rank ss ls) with h3 | h3
        · rw [hvis tt htt h3] at hst; cases hst
        · have := rank_inj tt ss ls htt hval (Nat.le_antisymm (Nat.le_of_lt_succ (show rank tt ls < rank ss ls + 1 from h2 ▸ h1)) h3)
          rw [this, hc] at hst; cases hst
    subst this
    exact hQ₁ _ _ _ (back_le (hleF _) q)
  | succ j =>
    obtain ⟨s, l, hs', hl', hsl, hlm⟩ := hgk j hn
    have hjl : j < ss.length := hssl.symm ▸ hn
    have hcur : (ss.take (j + 1) ++ List.replicate (xs.length - (j + 1)) 0)[j]? = some s := by rw [List.getElem?_append_left (by rw [List.length_take_of_le hjl]; exact Nat.lt_succ_self j), List.getElem?_take_of_lt (Nat.lt_succ_self j)]; exact hs'
    have e1 : (((j + 1 : Nat) : Int) - 1) = (j : Int) := Int.add_sub_cancel (j : Int) 1
    have hl10 := hlle l hlm
    have htl : (ss.take (j + 1) ++ List.replicate (xs.length - (j + 1)) 0).length = xs.length := by rw [List.length_append, List.length_take_of_le hjl, List.length_replicate]; exact Nat.add_sub_cancel' hn
    have htn : (ss.take (j + 1) ++ List.replicate (xs.length - (j + 1)) 0).length ≤ 1000000 := by rw [htl]; exact le_up hn3 rfl
    have hjt : j < (ss.take (j + 1) ++ List.replicate (xs.length - (j + 1)) 0).length := htl.symm ▸ hn
    have hj60 : j < 2 ^ 60 := Nat.lt_of_lt_of_le hn (le_up hn3 rfl)
    rw [e1] at hsub2
    refine TT_weak hsub2 (TT_post (W_Tb (b := ((s : Int) == (l.length : Int) - 1)) hK ?_) ?_)
    · refine if_t (decide_eq_true (Int.natCast_nonneg j)) ?_
      refine LG_ref (g := fun s => V.int (Int.ofNat s)) (hspp _) hcur htn ?_
      refine LG_lst (g := fun l => V.lst (l.map V.int)) hl' hln ?_
      refine LC.mk (TC_lenL (le_map hl10 rfl) ?_)
      rw [List.length_map]
      exact ifB.mk (fun h => ⟨h, rfl⟩) fun h => ⟨h, rfl⟩
    rintro c p' ⟨rfl, rfl⟩
    refine ⟨fun hc2 => ?_, fun hc2 => ?_⟩
    · refine TS_weak hsub2 (W_S hK ?_)
      refine LS.mk (SetI_nat (s := 0) (hspp _) rfl hjt hj60 rfl (take_set hjl _ _) ?_)
      rw [put_put]
      refine ⟨j, Nat.lt_succ_self _, hJ₂ _ _ _ ⟨?_, Nat.le_of_lt hn, fun i t l' hi e e' => ?_, by (repeat (first | exact sub_nil | exact Sub.refl _ | refine sub_cons (by rfl) ?_))⟩⟩
      · rw [← List.replicate_succ, Nat.sub_add_eq, Nat.sub_add_cancel (Nat.sub_pos_of_lt hn)]
      · rcases Nat.lt_or_ge j i with h | h
        · exact hmax i t l' h e e'
        · obtain rfl := Nat.le_antisymm h hi
          rw [hs'] at e; cases e
          rw [hl'] at e'; cases e'
          have : (s : Int) = (l.length : Int) - 1 := eq_of_beq hc2
          exact Int.ofNat.inj ((congrArg (· + 1) this).trans (Int.sub_add_cancel _ 1))
    · refine hQ₂ _ _ _ (TS_weak hsub2 (W_S hK (if_f (decide_eq_false (Int.not_lt.mpr (Int.natCast_nonneg j))) ?_)))
      refine LG_ref (g := fun s => V.int (Int.ofNat s)) (hspp _) hcur htn ?_
      refine LS.mk (SetI_nat (s := s + 1) (hspp _) rfl hjt hj60 rfl (take_set hjl _ _) ?_)
      rw [put_put]
      have hs1 : s + 1 < l.length := Nat.lt_of_le_of_ne hsl fun e => by
        have : (s : Int) = (l.length : Int) - 1 := by rw [← e]; exact (Int.add_sub_cancel (s : Int) 1).symm
        rw [beq_iff_eq.mpr this] at hc2; cases hc2
      have hrk := rank_next j ss ls s hval.1 hs' fun i t l' hi e e' => hmax i t l' hi e e'
      have hnl : ss.length - j - 1 = xs.length - (j + 1) := by rw [hssl, Nat.sub_add_eq]
      rw [hnl] at hrk
      have hv' : ValidS (ss.take j ++ (s + 1) :: List.replicate (xs.length - (j + 1)) 0) ls := valid_next hval hl' hs1 hjl (by rw [hssl]; exact Nat.add_sub_cancel' hn) hlne
      have hlt := rank_lt _ _ hv'
      refine ⟨_, by rw [hrk] at hlt ⊢; exact Nat.sub_lt_sub_left (Nat.lt_of_succ_lt hlt) (Nat.lt_succ_self _), hJ₁ _ _ _ ⟨_, p₂, rfl, hv', fun tt htt h => ?_, rfl, hle2, hsp2, by (repeat (first | exact sub_nil | exact Sub.refl _ | refine sub_cons (by rfl) ?_))⟩⟩
      rw [hrk] at h
      rcases Nat.lt_or_ge (rank tt ls) (rank ss ls) with h3 | h3
      · exact hvis tt htt h3
      · rw [rank_inj tt ss ls htt hval (Nat.le_antisymm (Nat.le_of_lt_succ h) h3)]; exact hc
end
end
end Tl
end

section
open PySem PySem.W PySem.Calls PyProof.Rows
set_option linter.unusedVariables false
set_option maxRecDepth 100000
namespace Tl
section
theorem sorted_eq : ∀ {a b : List Int}, a.Perm b → a.Pairwise (· ≤ ·) → b.Pairwise (· ≤ ·) → a = b
  | [], b, h, _, _ => by rw [List.nil_perm.mp h]
  | x :: a, [], h, _, _ => by cases List.perm_nil.mp h
  | x :: a, y :: b, h, ha, hb => by
    obtain ⟨ha1, ha2⟩ := List.pairwise_cons.mp ha
    obtain ⟨hb1, hb2⟩ := List.pairwise_cons.mp hb
    have e : x = y := by
      have h1 : y ∈ x :: a := h.mem_iff.mpr (by simp)
      have h2 : x ∈ y :: b := h.mem_iff.mp (by simp)
      rcases List.mem_cons.mp h1 with h1 | h1
      · exact h1.symm
      · rcases List.mem_cons.mp h2 with h2 | h2
        · exact h2
        · have := ha1 y h1; have := hb1 x h2; lia -matchEqs
    subst e
    rw [sorted_eq (List.perm_cons x |>.mp h) ha2 hb2]
theorem zip_turn : ∀ (a b : List Int), (a.zip b).map (fun e => (e.2, e.1)) = b.zip a
  | [], b => by simp
  | _ :: _, [] => rfl
  | x :: a, y :: b => by simp [zip_turn a b]
theorem zip_get {xs coefs : List Int} (h : coefs.length = xs.length) (hn : xs.Nodup) : (xs.map fun y => (y, (getA (xs.zip coefs) y).getD 0)) = xs.zip coefs := by
  induction xs generalizing coefs with
  | nil => rfl
  | cons x xs ih =>
    cases coefs with
    | nil => cases h
    | cons c coefs =>
      obtain ⟨h1, h2⟩ := List.nodup_cons.mp hn
      have ih := ih (coefs := coefs) (by simpa using h) h2
      have e0 : getA ((x, c) :: xs.zip coefs) x = some c := by unfold getA; simp
      rw [List.zip_cons_cons, List.map_cons, e0]
      refine congrArg (List.cons (x, c)) (Eq.trans (List.map_congr_left fun y hy => ?_) ih)
      have hne : x ≠ y := fun z => h1 (z ▸ hy)
      have : getA ((x, c) :: xs.zip coefs) y = getA (xs.zip coefs) y := by unfold getA; rw [List.find?_cons]; simp [hne]
      rw [this]
noncomputable def loD (d : List (Int × Int)) : Int := match d with
  | e :: _ => e.1
  | [] => 0
noncomputable def hiD (d : List (Int × Int)) : Int := match d.getLast? with
  | some e => e.2
  | none => 0
noncomputable def mn (i j : Int) : Int := if j < i then j else i
noncomputable def mx (i j : Int) : Int := if j > i then j else i
structure BS where
  least : Int
  greatest : Int
  lack : Int
  common : Int
noncomputable def stepB (s : BS) (c : Int) (d : List (Int × Int)) : BS :=
  ⟨s.least + mn (c * loD d) (c * hiD d), s.greatest + mx (c * loD d) (c * hiD d), if loD d = hiD d then s.lack - c * loD d else s.lack, if loD d = hiD d then s.common else ((s.common.gcd c : Nat) : Int)⟩
noncomputable def foldB (f : Int → List (Int × Int)) : List (Int × Int) → BS → BS
  | [], s => s
  | e :: r, s => foldB f r (stepB s e.2 (f e.1))
noncomputable def beyondM (s : LK) (c : Int) (b : BS) : Bool := decide (c < b.least) || (s == .eq && (decide (b.greatest < c) || !((if 0 < b.common then b.lack.fmod b.common else b.lack) == 0)))
section
variable {C : Cfg} {k : Nat} {sc : Scope} {fr : Fm} {p : P} {X : P → Prop}
theorem TA_5 {x y z t u : Str} {q1 q2 q3 q4 q5 pos : Pos} {kk : Nat} {v w r s m : V} {L : List Str} {Q : Fm → P → Prop} (hx : sc.names.lookup x = some .local ∨ sc.names.lookup x = some .cell) (hy : sc.names.lookup y = some .local ∨ sc.names.lookup y = some .cell) (hz : sc.names.lookup z = some .local ∨ sc.names.lookup z = some .cell) (ht : sc.names.lookup t = some .local ∨ sc.names.lookup t = some .cell) (hu : sc.names.lookup u = some .local ∨ sc.names.lookup u = some .cell)
    (hL : ∀ n ∈ [x, y, z, t, u], n ∈ L) (q : Q (setL u m (setL t s (setL z r (setL y w (setL x v fr))))) p) : TA C k sc L fr p (.Tuple [.Name x q1, .Name y q2, .Name z q3, .Name t q4, .Name u q5] kk pos) (.tup [v, w, r, s, m]) Q :=
  TA_Tuple (TAL_cons (he := by intro _; rfl) (n₁ := L) (n₂ := L) (TA_1 hx (hL _ (by simp)) (TAL_cons (he := by intro _; rfl) (n₁ := L) (n₂ := L) (TA_1 hy (hL _ (by simp)) (TAL_cons (he := by intro _; rfl) (n₁ := L) (n₂ := L) (TA_1 hz (hL _ (by simp)) (TAL_cons (he := by intro _; rfl) (n₁ := L) (n₂ := L) (TA_1 ht (hL _ (by simp)) (TAL_cons (he := by intro _; rfl) (n₁ := L) (n₂ := []) (TA_1 hu (hL _ (by simp)) (TAL_nil q)) rfl (fun ζ h => h) (fun ζ h => by simp at h) (fun ζ => ⟨rfl, rfl⟩))) rfl (fun ζ h => h) (fun ζ h => h) (fun ζ => ⟨rfl, rfl⟩))) rfl (fun ζ h => h) (fun ζ h => h) (fun ζ => ⟨rfl, rfl⟩))) rfl (fun ζ h => h) (fun ζ h => h) (fun ζ => ⟨rfl, rfl⟩))) rfl (fun ζ h => h) (fun ζ h => h) (fun ζ => ⟨rfl, rfl⟩))
theorem is_beyond_ok (hK : HK C) {x b t : Addr} {f : Int → List (Int × Int)} {s : LK} {coefs xs : List Int} {c : Int} {Q : V → P → Prop} (ht : (Told.lin s coefs xs c).Ok) (hb : BoxP p b t f) (hs : ∀ y ∈ xs, f y ≠ []) (hse : s = .le ∨ s = .eq)
    (q : Q (.bool (beyondM s c (foldB f (xs.zip coefs) ⟨0, 0, c, 0⟩))) p) : TC C (k + 2) (.ref 358) [.ref x, (Told.lin s coefs xs c).v, .ref b] p Q X := by
  refine T_fn (X := X) (k := k + 1) hK (names := [Str.ofString "self", Str.ofString "told", Str.ofString "box"]) rfl rfl (bind3 fun ζ ζ ζ => rfl) (by rfl) ?_
  refine W_S hK (L1.mk (T1_Assign_Tuple (ns := [Str.ofString "factors", Str.ofString "least", Str.ofString "greatest", Str.ofString "lack", Str.ofString "common"]) (W_E hK ?_) (fun ζ => rfl) (fun env he => rfl)))
  refine LE.mk (T_Dict0 fun m hm => ?_)
  refine TA_5 (.inl rfl) (.inl rfl) (.inl rfl) (.inl rfl) (.inl rfl) (by simp) ?_
  refine L1.mk (T1_For (ns := [Str.ofString "factor", Str.ofString "x"]) (TI_zip rfl (n_zip hK) (TAs_cons (W_E hK ?_) (fun ζ => rfl)) (fun ζ => rfl) (fun ζ => rfl)) (fun ζ ζ => rfl))
  refine TAs_cons (W_E hK ?_) (fun ζ => rfl)
  refine TAs_nil ⟨_, _, rfl, ?_⟩
  have hz : zipV (coefs.map V.int) (xs.map V.int) = (coefs.zip xs).map fun e => .tup [.int e.1, .int e.2] := by
    unfold zipV; rw [List.zip_map, List.map_map]; rfl
  rw [hz]
  obtain ⟨h1, h2, h3⟩ := ht
  have hxs : A4 (xs.length ≤ 3) xs.Nodup (xs.Pairwise (· ≤ ·)) (∀ y ∈ xs, 0 ≤ y ∧ y < 4) := by rcases h1 with rfl | rfl <;> refine ⟨?_, ?_, ?_, ?_⟩ <;> simp
  have hxs1 := hxs.1
  clear h1
  refine TFor_J (fun r fr p' => X3 fun (done : List (Int × Int)) (rest : List (Int × Int)) (al : AL) => A5 (coefs.zip xs = done ++ rest) (r = rest.map (fun e => .tup [.int e.1, .int e.2])) (al = done.map (fun e => (e.2, e.1))) (p' = put p m (.di (diV al))) (Sub [(Str.ofString "self", .ref x), (Str.ofString "told", (Told.lin s coefs xs c).v), (Str.ofString "box", .ref b), (Str.ofString "factors", .ref m), (Str.ofString "least", .int 0), (Str.ofString "greatest", .int 0), (Str.ofString "lack", .int c), (Str.ofString "common", .int 0)] fr)) ⟨[], coefs.zip xs, [], rfl, rfl, rfl, rfl, by (repeat (first | exact sub_nil | exact Sub.refl _ | refine sub_cons (by rfl) ?_))⟩ ?_ ?_
  · rintro fr p' ⟨done, rest, al, g1, g2, rfl, rfl, hsub⟩
    cases rest with
    | cons => cases g2
    | nil =>
    rw [List.append_nil] at g1
    subst g1
    rw [zip_turn]
    have hmm : put p m (.di (diV (xs.zip coefs))) m = some (.di (diV (xs.zip coefs))) := put_self _ _ _
    refine TS_weak hsub (W_S hK (L1.mk (T1_For (ns := [Str.ofString "x"]) (TI_val (W_E hK ?_)) (fun ζ ζ => rfl))))
    have hle : Le p (put p m (.di (diV (xs.zip coefs)))) := Le.put hm
    have hb2 := hb.le hle
    have hkeys : (diV (xs.zip coefs)).map (·.1) = xs := by unfold diV; rw [List.map_map]; exact List.map_fst_zip (by lia -matchEqs)
    refine LC.mk (TC_sortedD hmm (by simp; lia -matchEqs) fun ms hp hso => ⟨_, .lst _, ?_⟩)
    rw [hkeys] at hp
    have hms : ms = xs := sorted_eq hp hso hxs.3
    subst hms
    refine TFor_J (fun r fr p' => X2 fun (rest : List Int) (st : BS) => A6 (r = rest.map V.int) (∀ y ∈ rest, y ∈ ms) (foldB f (rest.map fun y => (y, (getA (ms.zip coefs) y).getD 0)) st = foldB f (ms.zip coefs) ⟨0, 0, c, 0⟩) (0 ≤ st.common) (p' = put p m (.di (diV (ms.zip coefs)))) (Sub [(Str.ofString "told", (Told.lin s coefs ms c).v), (Str.ofString "box", .ref b), (Str.ofString "factors", .ref m), (Str.ofString "least", .int st.least), (Str.ofString "greatest", .int st.greatest), (Str.ofString "lack", .int st.lack), (Str.ofString "common", .int st.common)] fr)) ⟨ms, _, rfl, fun ζ h => h, by rw [zip_get h2 hxs.2], Int.le_refl 0, rfl, by (repeat (first | exact sub_nil | exact Sub.refl _ | refine sub_cons (by rfl) ?_))⟩ ?_ ?_
    · rintro fr p' ⟨rest, st, g1, -, g3, -, rfl, hsub⟩
      cases rest with
      | cons => cases g1
      | nil =>
      have g3' : st = foldB f (ms.zip coefs) ⟨0, 0, c, 0⟩ := g3
      rw [← g3'] at q
      refine TS_weak hsub (W_S hK (ifB.mk (fun hc => ?_) fun hc => ?_))
      · have : beyondM s c st = true := by unfold beyondM; rw [show decide (c < st.least) = true from hc]; rfl
        rw [this] at q
        exact back_le hle q
      · have hb3 : beyondM s c st = (s == .eq && (decide (st.greatest < c) || !((if 0 < st.common then st.lack.fmod st.common else st.lack) == 0))) := by unfold beyondM; rw [show decide (c < st.least) = false from hc]; rfl
        rw [hb3] at q
        rcases hse with rfl | rfl
        · exact SQ.mk (by decide +kernel) (by decide +kernel) (if_f (by rfl) (back_le hle q))
        · refine SQ.mk (by decide +kernel) (by decide +kernel) (if_t (by rfl) ?_)
          refine (ifB.mk (fun hg => ?_) fun hg => ?_)
          · rw [show decide (st.greatest < c) = true from hg] at q
            exact back_le hle q
          · rw [show decide (st.greatest < c) = false from hg] at q
            refine ifB.mk (fun hcm => ?_) fun hcm => ?_
            · have hcm' : 0 < st.common := by simpa using hcm
              rw [if_pos hcm'] at q
              exact LB.mk (OpB_mod (by lia -matchEqs) (back_le hle q))
            · rw [if_neg (by simpa using hcm)] at q
              exact back_le hle q
    · rintro J' Q' hJ hQ v r fr p' ⟨rest, st, g1, g2, g3, g4, rfl, hsub⟩
      cases rest with
      | nil => cases g1
      | cons y rest =>
      obtain ⟨rfl, rfl⟩ := List.cons.inj g1
      have hy := g2 y (by simp)
      obtain ⟨a, ha, hac⟩ : ∃ a, getA (ms.zip coefs) y = some a ∧ a.natAbs < 2 ^ 63 := by
        have hz' := zip_asg (xs := ms) (vals := coefs) h2 hy
        rw [atV_di] at hz'
        cases e : getA (ms.zip coefs) y with
        | none => rw [e] at hz'; cases hz'
        | some a =>
          refine ⟨a, rfl, ?_⟩
          unfold getA at e
          obtain ⟨z, hz1, hz2⟩ := Option.map_eq_some_iff.mp e
          have := h3 a (hz2 ▸ (List.of_mem_zip (List.mem_of_find?_eq_some hz1)).2)
          rcases this with rfl | rfl | rfl <;> decide
      rw [List.map_cons, ha] at g3
      have hgf : ∀ {Q' : V → P → Prop}, Q' (.int a) (put p m (.di (diV (ms.zip coefs)))) → GetI C (k + 1) (.ref m) (.int y) (put p m (.di (diV (ms.zip coefs)))) Q' := fun q' => GetI_di hmm (by rw [atV_di, ha]; rfl) q'
      obtain ⟨dx, tn, Dv, b1, b2, b3, _⟩ := id hb2
      refine TA_weak hsub (TA_1 (.inl rfl) (by simp) (W_S hK ?_))
      refine LM.own ⟨dx, b1, b2⟩ (f := 292) (by rw [hK]; kernel_rfl) rfl ?_
      refine LC.mk (TC_less (box_domain (k := 0) hK hb2 (hxs.4 y hy).1 (hxs.4 y hy).2 ?_) (by lia -matchEqs))
      refine LG.mk (hgf ?_)
      have hne := hs y hy
      obtain ⟨d, hd⟩ : ∃ d, d = f y := ⟨_, rfl⟩
      rw [← hd] at hne
      have g3 : foldB f (rest.map fun y => (y, (getA (ms.zip coefs) y).getD 0)) (stepB st ((some a).getD 0) (f y)) = _ := g3
      rw [← hd] at g3 ⊢
      clear hd
      cases d with
      | nil => exact absurd rfl hne
      | cons e0 dr =>
      have hla : ∃ el, (e0 :: dr).getLast? = some el ∧ (ivs (e0 :: dr))[(ivs (e0 :: dr)).length - 1]? = some (iv el) := by
        refine ⟨(e0 :: dr).getLast (by simp), List.getLast?_eq_some_getLast _, ?_⟩
        have e9 : (ivs (e0 :: dr)).length = (e0 :: dr).length := by simp
        rw [e9]
        unfold ivs
        rw [List.getElem?_map, ← List.getLast?_eq_getElem?, List.getLast?_eq_some_getLast (List.cons_ne_nil _ _)]; rfl
      obtain ⟨el, hel, hel2⟩ := hla
      have hhi : hiD (e0 :: dr) = el.2 := by unfold hiD; rw [hel]
      have hlo : loD (e0 :: dr) = e0.1 := rfl
      have hlastI : ∀ {k : Nat} {p : P} {Q' : V → P → Prop}, Q' (iv el) p → GetI C k (.tup (ivs (e0 :: dr))) (.int (-1)) p Q' := fun q' => GetI_tup (hlo := by decide) (hhi := by decide) (j := (ivs (e0 :: dr)).length - 1) (seq_last (by simp)) hel2 q'
      refine LB.mk (OpB_mulS hac ?_)
      refine LG.mk (hgf ?_)
      refine LG.mk (hlastI ?_)
      refine LB.mk (OpB_mulS hac ?_)
      refine LL.frozen ?_
      refine L1.mk (T1_Assign_swap (names := [Str.ofString "least", Str.ofString "greatest"]) (W_E hK ?_) (by decide) (fun env he => by cases env; cases he; rfl))
      refine LC.mk (TC_minL ?_)
      refine LC.mk (TC_maxL ?_)
      refine ⟨_, _, rfl, rfl, rfl, ?_⟩
      refine LG.mk (hlastI ?_)
      have hst : stepB st a (e0 :: dr) = ⟨st.least + mn (a * e0.1) (a * el.2), st.greatest + mx (a * e0.1) (a * el.2), if e0.1 = el.2 then st.lack - a * e0.1 else st.lack, if e0.1 = el.2 then st.common else ((st.common.gcd a : Nat) : Int)⟩ := by unfold stepB; rw [hhi, hlo]
      rw [show (some a).getD 0 = a from rfl, hst] at g3
      refine ifB.mk (fun hc => ?_) fun hc => ?_
      · have hc' : e0.1 = el.2 := by simpa using hc
        rw [if_pos hc', if_pos hc'] at g3
        refine LG.mk (GetI_lst (hlo := by decide) (hhi := by decide) (j := 0) rfl rfl ?_)
        exact hJ _ _ _ ⟨rest, _, rfl, fun z hz => g2 z (by simp [hz]), g3, g4, rfl, by (repeat (first | exact sub_nil | exact Sub.refl _ | refine sub_cons (by rfl) ?_))⟩
      · have hc' : ¬ e0.1 = el.2 := by simpa using hc
        rw [if_neg hc', if_neg hc'] at g3
        refine LG.mk (hgf ?_)
        refine LC.mk (TC_less (divisor_of_ok (k := 0) hK g4 ?_) (by lia -matchEqs))
        exact hJ _ _ _ ⟨rest, _, rfl, fun z hz => g2 z (by simp [hz]), g3, Int.natCast_nonneg _, rfl, by (repeat (first | exact sub_nil | exact Sub.refl _ | refine sub_cons (by rfl) ?_))⟩
  · rintro J' Q' hJ hQ v r fr p' ⟨done, rest, al, g1, g2, rfl, rfl, hsub⟩
    cases rest with
    | nil => cases g2
    | cons e rest =>
    obtain ⟨rfl, rfl⟩ := List.cons.inj g2
    have hmm : put p m (.di (diV (done.map fun e => (e.2, e.1)))) m = some (.di (diV (done.map fun e => (e.2, e.1)))) := put_self _ _ _
    have hnew : getA (done.map fun e => (e.2, e.1)) e.2 = none := by
      unfold getA
      rw [Option.map_eq_none_iff, List.find?_eq_none]
      intro z hz e2
      obtain ⟨u, hu, rfl⟩ := List.mem_map.mp hz
      have h5 : (coefs.zip xs).map (·.2) = xs := List.map_snd_zip (by lia -matchEqs)
      rw [g1, List.map_append, List.map_cons] at h5
      have h6 := hxs.2
      rw [← h5] at h6
      exact (List.nodup_append.mp h6).2.2 u.2 (List.mem_map_of_mem hu) e.2 (by simp) (by simpa using e2)
    refine TA_weak hsub (TA_2 (.inl rfl) (.inl rfl) (by simp) (by simp) (W_S hK ?_))
    refine LM.get hmm ?_
    refine LC.mk (TC_get2 hmm ?_)
    rw [atV_di, hnew]
    refine LS.mk (SetI_di hmm (by have := congrArg List.length g1; simp at this ⊢; lia -matchEqs) ?_)
    rw [put_put, setV_di, setA_new hnew]
    exact hJ _ _ _ ⟨done ++ [e], rest, _, by rw [g1]; simp, rfl, rfl, by simp, by (repeat (first | exact sub_nil | exact Sub.refl _ | refine sub_cons (by rfl) ?_))⟩
end
end
end Tl
end

section
open PySem PySem.W PySem.Calls PyProof.Rows
set_option linter.unusedVariables false
set_option maxRecDepth 100000
namespace Tl
section
noncomputable def rowOk (f : Int → List (Int × Int)) (xs row : List Int) : Bool := (xs.zip row).all fun e => hasM (f e.1) e.2
theorem zip_find {xs row : List Int} (hn : xs.Nodup) {e : Int × Int} (he : e ∈ xs.zip row) : getA (xs.zip row) e.1 = some e.2 := by
  induction xs generalizing row with
  | nil => cases he
  | cons x xs ih =>
    cases row with
    | nil => cases he
    | cons v row =>
      obtain ⟨h1, h2⟩ := List.nodup_cons.mp hn
      unfold getA
      rw [List.zip_cons_cons, List.find?_cons]
      rcases List.mem_cons.mp he with rfl | he
      · simp
      · have hne : x ≠ e.1 := fun z => h1 (z ▸ (List.of_mem_zip he).1)
        rw [show decide ((x, v).1 = e.1) = false from decide_eq_false hne]
        exact ih h2 he
theorem pls_bools {α : Type} (c : α → Bool) : ∀ l : List α, pls 0 (l.map fun e => V.bool (c e)) = true
  | [] => rfl
  | _ :: r => (Bool.and_eq_true _ _).mpr ⟨rfl, pls_bools c r⟩
theorem notin_false {α : Type} (c : α → Bool) : ∀ l : List α, (!(l.map fun e => V.bool (c e)).any fun y => eqV y (.bool false)) = l.all c
  | [] => rfl
  | e :: r => by
    show (!((c e == false) || ((r.map fun e => V.bool (c e)).any fun y => eqV y (.bool false)))) = (c e && r.all c)
    rw [Bool.not_or, notin_false c r]
    cases c e <;> rfl
theorem notin_true {α : Type} (c : α → Bool) : ∀ l : List α, (!(l.map fun e => V.bool (c e)).any fun y => eqV y (.bool true)) = l.all fun e => !c e
  | [] => rfl
  | e :: r => by
    show (!((c e == true) || ((r.map fun e => V.bool (c e)).any fun y => eqV y (.bool true)))) = (!c e && r.all fun e => !c e)
    rw [Bool.not_or, notin_true c r]
    cases c e <;> rfl
section
variable {C : Cfg} {k : Nat} {sc : Scope} {fr : Fm} {p : P} {X : P → Prop}
theorem n_dict (hK : HK C) : nsIn C.K mainGlobals (Str.ofString "dict") = some none := by rw [hK]; kernel_rfl
theorem has_row_ok (hK : HK C) {x b t : Addr} {f : Int → List (Int × Int)} {rows : List (List Int)} {Q : V → P → Prop} (hb : BoxP p b t f) (hr : ∀ r ∈ rows, r.length = 3)
    (q : Q (.bool (rows.any (rowOk f [0, 1, 2]))) p) : TC C (k + 3) (.ref 363) [.ref x, (Told.table rows).v, .ref b] p Q X := by
  refine T_fn (X := X) (k := k + 2) hK (names := [Str.ofString "self", Str.ofString "told", Str.ofString "box"]) rfl rfl (bind3 fun ζ ζ ζ => rfl) (by rfl) ?_
  refine W_S hK (L1.mk (T1_For (ns := [Str.ofString "row"]) (TI_val (W_E hK ⟨_, .tup _, ?_⟩)) (fun ζ ζ => rfl)))
  refine TFor_J (fun r fr p' => ∃ rest : List (List Int), A5 (r = rest.map tI) (∀ r ∈ rest, r.length = 3) (rest.any (rowOk f [0, 1, 2]) = rows.any (rowOk f [0, 1, 2])) (Le p p') (Sub [(Str.ofString "told", (Told.table rows).v), (Str.ofString "box", .ref b)] fr)) ⟨rows, rfl, hr, rfl, Le.refl p, by (repeat (first | exact sub_nil | exact Sub.refl _ | refine sub_cons (by rfl) ?_))⟩ ?_ ?_
  · rintro fr p' ⟨rest, g1, -, g2, hle, hsub⟩
    cases rest with
    | cons => cases g1
    | nil =>
    rw [← g2] at q
    exact TS_weak hsub (W_S hK (back_le hle q))
  · rintro J' Q' hJ hQ v r fr p' ⟨rest, g1, g2, g3, hle, hsub⟩
    cases rest with
    | nil => cases g1
    | cons row rest =>
    obtain ⟨rfl, rfl⟩ := List.cons.inj g1
    have hrow := g2 row (by simp)
    refine TA_weak hsub (TA_1 (.inl rfl) (by simp) (W_S hK ?_))
    refine LE.mk (T_DictZip rfl (n_zip hK) rfl (n_dict hK) (TAs_cons (W_E hK ?_) (fun ζ => rfl)) (fun ζ => rfl) (fun ζ => rfl))
    refine TAs_cons (W_E hK ?_) (fun ζ => rfl)
    refine TAs_nil ⟨[0, 1, 2], _, rfl, by decide, by simp [hrow], by decide, fun a ha => ?_⟩
    have hb2 : BoxP (put p' a (.di (([0, 1, 2] : List Int).zip (row.map V.int)))) b t f := hb.le (Le.trans hle (Le.put ha))
    obtain ⟨dx, tn, Dv, b1, b2, b3, _⟩ := id hb2
    have hda : put p' a (.di (([0, 1, 2] : List Int).zip (row.map V.int))) a = some (.di (([0, 1, 2] : List Int).zip (row.map V.int))) := put_self _ _ _
    refine LE.mk (T_ListComp (hkind := rfl) (hpl := plain1 ⟨rfl, fun ζ ζ => rfl⟩) (L := [Str.ofString "x", Str.ofString "v"]) (by decide) rfl (by rfl) (TI_zip rfl (n_zip hK) (TAs_cons (W_E hK ?_) (fun ζ => rfl)) (fun ζ => rfl) (fun ζ => rfl)))
    refine TAs_cons (W_E hK ?_) (fun ζ => rfl)
    refine TAs_nil ⟨([0, 1, 2] : List Int).map V.int, row.map V.int, rfl, ?_⟩
    have hz : zipV (([0, 1, 2] : List Int).map V.int) (row.map V.int) = (([0, 1, 2] : List Int).zip row).map fun e => .tup [.int e.1, .int e.2] := by
      unfold zipV; rw [List.zip_map, List.map_map]; rfl
    have hdz : ([0, 1, 2] : List Int).zip (row.map V.int) = diV (([0, 1, 2] : List Int).zip row) := by unfold diV; rw [List.zip_map_right]; rfl
    rw [hdz] at hda hb2 b1 b2 b3 ⊢
    rw [hz]
    refine TLo_map (g := fun e => .bool (hasM (f e.1) e.2)) (by simp; lia -matchEqs) (fun e he acc K' hl hK' => ?_) ?_
    · have hx := (List.of_mem_zip he).1
      have hx4 : 0 ≤ e.1 ∧ e.1 < 4 := by simp at hx; lia -matchEqs
      have hget : getA (([0, 1, 2] : List Int).zip row) e.1 = some e.2 := zip_find (by decide) he
      refine TA_2 (.inl rfl) (.inl rfl) (by decide) (by decide) ⟨(sub_setL (by rfl)).trans (sub_setL (by rfl)), br_t rfl ⟨hl, W_E hK ?_⟩⟩
      refine LM.own ⟨dx, b1, b2⟩ (f := 292) (by rw [hK]; kernel_rfl) rfl ?_
      refine LC.mk (TC_less (box_domain (k := 0) hK hb2 hx4.1 hx4.2 ?_) (by lia -matchEqs))
      refine LC.mk (has_ok (k := k) hK ?_)
      cases hh : hasM (f e.1) e.2 with
      | false => rw [hh] at hK'; exact if_f rfl hK'
      | true =>
        rw [hh] at hK'
        refine if_t rfl ?_
        refine LG.mk (GetI_di (v := .int e.2) hda (by rw [atV_di, hget]; rfl) ?_)
        have : (e.2 == e.2) = true := by simp
        show K' (acc ++ [.bool (e.2 == e.2)]) _
        rw [this]; exact hK'
    refine LQ.mk (OpC_notInL (hn := by decide) 0 0 (by rfl) (pls_bools _ _) ?_)
    have hnb := notin_false (fun e : Int × Int => hasM (f e.1) e.2) (([0, 1, 2] : List Int).zip row)
    have e1 : (row :: rest).any (rowOk f [0, 1, 2]) = (rowOk f [0, 1, 2] row || rest.any (rowOk f [0, 1, 2])) := rfl
    rw [e1] at g3
    have hle2 : Le p (put p' a (.di (diV (([0, 1, 2] : List Int).zip row)))) := Le.trans hle (Le.put ha)
    refine ifB.mk (fun hc => ?_) fun hc => ?_
    · have hro : rowOk f [0, 1, 2] row = true := hnb.symm.trans hc
      rw [hro, Bool.true_or] at g3
      rw [← g3] at q
      exact hQ _ _ _ (back_le hle2 q)
    · have hro : rowOk f [0, 1, 2] row = false := hnb.symm.trans hc
      rw [hro, Bool.false_or] at g3
      exact hJ _ _ _ ⟨rest, rfl, fun r hr => g2 r (by simp [hr]), g3, hle2, by (repeat (first | exact sub_nil | exact Sub.refl _ | refine sub_cons (by rfl) ?_))⟩
end
end
end Tl
end

section
open PySem PySem.W PySem.Calls PyProof.Rows
set_option linter.unusedVariables false
set_option maxRecDepth 100000
namespace Tl
section
noncomputable def refutedM (g : Int → List (Int × Int)) (rd : Bool) : Told → Bool
  | .lin s coefs xs c => if s = .ne then false else beyondM s c (foldB g (xs.zip coefs) ⟨0, 0, c, 0⟩)
  | .alld _ => !rd
  | .table rows => !(rows.any (rowOk g [0, 1, 2]))
  | _ => false
section
variable {C : Cfg} {k : Nat} {sc : Scope} {fr : Fm} {p : P} {X : P → Prop}
theorem is_refuted_ok (hK : HK C) {x b t : Addr} {la : List (Str × V)} {g : Int → List (Int × Int)} {told : Told} {rd : Bool} {Q : V → P → Prop} (hj : IsInst C p x 383 la) (hla : ∀ n ∈ ["is_beyond", "can_differ", "has_row", "move_on"], la.lookup (Str.ofString n) = none) (ht : told.Ok) (hb : BoxP p b t g) (hs : ∀ y ∈ told.vars, g y ≠ [] ∧ Sm (g y))
    (hd : ∀ xs, told = .alld xs → Differ (xs.map fun y => valsM (g y)) 0 [] rd) (q : Q (.bool (refutedM g rd told)) p) : TC C (k + 4) (.ref 351) [.ref x, told.v, .ref b] p Q X := by
  refine T_fn (X := X) (k := k + 3) hK (names := [Str.ofString "self", Str.ofString "told", Str.ofString "box"]) rfl rfl (bind3 fun ζ ζ ζ => rfl) (by rfl) ?_
  cases told with
  | lin s coefs xs c =>
    cases s with
    | ne =>
      refine W_S hK (in_str (b := false) (by decide +kernel) (by decide +kernel) (by rfl) (if_f rfl ?_))
      refine SQ.mk (by decide +kernel) (by decide +kernel) (if_f (by rfl) ?_)
      refine SQ.mk (by decide +kernel) (by decide +kernel) (if_f (by rfl) ?_)
      exact back_same q
    | le =>
      refine W_S hK (in_str (b := true) (by decide +kernel) (by decide +kernel) (by rfl) (if_t rfl ?_))
      refine LM.own hj (f := 358) (by rw [hK]; kernel_rfl) (hla _ (by simp)) ?_
      exact LC.mk (TC_less (is_beyond_ok (k := 0) hK ht hb (fun y hy => (hs y hy).1) (.inl rfl) (back_same q)) (by lia -matchEqs))
    | eq =>
      refine W_S hK (in_str (b := true) (by decide +kernel) (by decide +kernel) (by rfl) (if_t rfl ?_))
      refine LM.own hj (f := 358) (by rw [hK]; kernel_rfl) (hla _ (by simp)) ?_
      exact LC.mk (TC_less (is_beyond_ok (k := 0) hK ht hb (fun y hy => (hs y hy).1) (.inr rfl) (back_same q)) (by lia -matchEqs))
  | alld xs =>
    have hxl : A3 (xs.length ≤ 3) xs.Nodup (∀ y ∈ xs, 0 ≤ y ∧ y < 4) := by rcases ht with rfl | rfl <;> refine ⟨?_, ?_, ?_⟩ <;> simp
    have hxl1 := hxl.1
    refine W_S hK (in_str (b := false) (by decide +kernel) (by decide +kernel) (by rfl) (if_f rfl ?_))
    refine SQ.mk (by decide +kernel) (by decide +kernel) (if_t (by rfl) ?_)
    refine LC.mk (TC_set hxl.2 (by lia -matchEqs) fun a ha => ?_)
    refine LC.mk (TC_lenS (put_self _ _ _) (by lia -matchEqs) ?_)
    refine LC.mk (TC_lenT (by simp; lia -matchEqs) ?_)
    refine if_f (by simp) ?_
    have hle : Le p (put p a (.set xs.length)) := Le.put ha
    have hb2 := hb.le hle
    obtain ⟨dx, tn, Dv, b1, b2, b3, _⟩ := id hb2
    refine LM.own (hj.le hle) (f := 370) (by rw [hK]; kernel_rfl) (hla _ (by simp)) ?_
    refine LE.mk (T_ListComp (hkind := rfl) (hpl := plain1 ⟨rfl, fun ζ ζ => rfl⟩) (L := [Str.ofString "x"]) (by decide) rfl (by rfl) (TI_val (W_E hK ⟨_, .tup _, ?_⟩)))
    refine TLo_map (g := fun y => V.lst ((valsM (g y)).map V.int)) (by lia -matchEqs) (fun y hy acc K' hl hK' => ?_) ?_
    · refine TA_1 (.inl rfl) (by decide) ⟨sub_setL (by rfl), br_t rfl ⟨hl, W_E hK ?_⟩⟩
      refine LM.own ⟨dx, b1, b2⟩ (f := 292) (by rw [hK]; kernel_rfl) rfl ?_
      refine LC.mk (TC_less (box_domain (k := 0) hK hb2 (hxl.3 y hy).1 (hxl.3 y hy).2 ?_) (by lia -matchEqs))
      exact LC.mk (TC_less (values_ok (k := 0) hK (hs y hy).2 hK') (by lia -matchEqs))
    have hlots : xs.map (fun y => V.lst ((valsM (g y)).map V.int)) = (xs.map fun y => valsM (g y)).map (fun l => V.lst (l.map V.int)) := by rw [List.map_map]; rfl
    rw [hlots]
    exact LC.mk (TC_less (can_differ_ok (k := k + 1) hK (hj.le hle) (hla _ (by simp)) (by simp; lia -matchEqs) (hd xs rfl) (back_le hle q)) (by lia -matchEqs))
  | table rows =>
    refine W_S hK (in_str (b := false) (by decide +kernel) (by decide +kernel) (by rfl) (if_f rfl ?_))
    refine SQ.mk (by decide +kernel) (by decide +kernel) (if_f (by rfl) ?_)
    refine SQ.mk (by decide +kernel) (by decide +kernel) (if_t (by rfl) ?_)
    refine LM.own hj (f := 363) (by rw [hK]; kernel_rfl) (hla _ (by simp)) ?_
    exact LC.mk (has_row_ok (k := k) hK hb ht.2 (back_same q))
  | _ =>
    refine W_S hK (in_str (b := false) (by decide +kernel) (by decide +kernel) (by rfl) (if_f rfl ?_))
    refine SQ.mk (by decide +kernel) (by decide +kernel) (if_f (by rfl) ?_)
    refine SQ.mk (by decide +kernel) (by decide +kernel) (if_f (by rfl) ?_)
    exact back_same q
end
end
end Tl
end

section
open PySem PySem.W PySem.Calls PyProof.Rows
set_option linter.unusedVariables false
set_option maxRecDepth 100000
namespace Tl
section
noncomputable def manyM (g : Int → List (Int × Int)) (xs : List Int) (m : Int) : Int := xs.foldl (fun m y => m * sizeM (g y)) m
noncomputable def Told.isAT : Told → Bool
  | .alld _ => true
  | .table _ => true
  | _ => false
noncomputable def followsM (g : Int → List (Int × Int)) (most : Int) (rd rt : Bool) (told : Told) : Option Bool :=
  if refutedM g rd told then some true else if manyM g told.vars 1 ≤ most then some (!rt) else if told.isAT then some false else none
section
variable {C : Cfg} {k : Nat} {sc : Scope} {fr : Fm} {p : P} {X : P → Prop}
theorem nil_in {α : Type} (c : α → List (Int × Int)) : ∀ l : List α, (∀ y ∈ l, c y ≠ []) → ((l.map fun y => ivV (c y)).any fun y => eqV y (.tup [])) = false
  | [], _ => rfl
  | y :: r, h => by
    rw [List.map_cons, List.any_cons, eqV_nil, nil_in c r fun z hz => h z (by simp [hz]), Bool.or_false]
    have := h y (by simp)
    cases hc : c y with
    | nil => exact absurd hc this
    | cons => rfl
theorem pls_ivV : ∀ {α : Type} (c : α → List (Int × Int)) (l : List α), pls 2 (l.map fun y => ivV (c y)) = true
  | _, _, [] => rfl
  | _, c, _ :: r => (Bool.and_eq_true _ _).mpr ⟨pl_ivV _, pls_ivV c r⟩
theorem follows_ok (hK : HK C) (hE : C.exc = 262) (hP : PyOk C) {x : Addr} {Dv : List V} {f : Int → List (Int × Int)} {told : Told} {ls : List Lit} {most : Int} {Q : V → P → Prop} (hj : IsInst C p x 383 [(Str.ofString "domains", .lst Dv), (Str.ofString "most", .int most)]) (h6 : Dv.length = 4) (h7 : ∀ y : Int, 0 ≤ y → y < 4 → (Dv[y.toNat]?).getD .none = ivV (f y))
    (ht : told.Ok) (hls : ∀ l ∈ ls, 0 ≤ l.x ∧ l.x < 4) (hlen : ls.length ≤ 7) (hfl : ∀ y, (f y).length ≤ 3) {rd rt : Bool}
    (hg : ∀ g, denyM f ls = some g → (∀ y ∈ told.vars, g y ≠ [] ∧ Sm (g y) ∧ valsM (g y) ≠ [] ∧ (valsM (g y)).length ≤ 1000 ∧ (sizeM (g y)).natAbs ≤ 1000) ∧ (∀ xs, told = .alld xs → Differ (xs.map fun y => valsM (g y)) 0 [] rd) ∧
      (∀ ss, ValidS ss (told.vars.map fun y => valsM (g y)) → (asgF told.vars (pickS ss (told.vars.map fun y => valsM (g y))) 0).natAbs < 2 ^ 63) ∧
      (rt = true ↔ ∃ ss, ValidS ss (told.vars.map fun y => valsM (g y)) ∧ told.sat (asgF told.vars (pickS ss (told.vars.map fun y => valsM (g y)))) = true))
    (q : (denyM f ls = none → Q (.bool true) p) ∧ ∀ g, denyM f ls = some g → (∀ b, followsM g most rd rt told = some b → Q (.bool b) p) ∧ (followsM g most rd rt told = none → ∀ p', Le p p' → X p')) :
    TC C (k + 6) (.ref 346) [.ref x, told.v, .tup (ls.map Lit.v)] p Q X := by
  refine T_fn (X := X) (k := k + 5) hK (names := [Str.ofString "self", Str.ofString "told", Str.ofString "clause"]) rfl rfl (bind3 fun ζ ζ ζ => rfl) (by rfl) ?_
  obtain ⟨hnd, hn3⟩ := Told.vars_nodup ht
  have hv4 : ∀ y ∈ told.vars, 0 ≤ y ∧ y < 4 := by
    cases told with
    | lin s coefs xs c => rcases ht.1 with rfl | rfl <;> simp [Told.vars]
    | alld xs => rcases ht with rfl | rfl <;> simp [Told.vars]
    | _ => simp [Told.vars]
  refine W_S hK (LE.mk (box_new (k := k + 3) hK rfl h6 h7 rfl (W_E hK ?_)))
  refine LA.mk hj (by rw [hK]; kernel_rfl) rfl ?_
  refine ⟨rfl, fun b t p₂ hle hpt hp2t hb => ?_⟩
  obtain ⟨dx, tn, Dv', b1, b2, b3, _⟩ := id hb
  refine LM.own ⟨dx, b1, b2⟩ (f := 320) (by rw [hK]; kernel_rfl) rfl ?_
  refine LC.mk (box_deny (k := k) hK hb hp2t hls hlen (by simp) hfl fun tn => ⟨fun hden => ?_, fun g hden hb2 => ?_⟩)
  · have hle2 : Le p (put p₂ t (.di tn)) := fun a => by
      by_cases e : a = t
      · subst e; exact .inr hpt
      · rw [put_ne _ _ e]; exact hle a
    exact if_f rfl (back_le hle2 (q.1 hden))
  have hle2 : Le p (put p₂ t (.di tn)) := fun a => by
    by_cases e : a = t
    · subst e; exact .inr hpt
    · rw [put_ne _ _ e]; exact hle a
  obtain ⟨hgv, hgd, hgb, hgr⟩ := hg g hden
  have q2 := q.2 g hden
  clear q hg
  obtain ⟨p₃, hp3⟩ : ∃ p₃, p₃ = put p₂ t (.di tn) := ⟨_, rfl⟩
  rw [← hp3] at hle2 hb2 ⊢
  clear hp3 b1 b2 b3 hb hp2t hpt hle
  refine if_t rfl ?_
  refine LC.mk (TC_less (vars_of_ok (k := 0) hK ht ?_) (by lia -matchEqs))
  obtain ⟨dx, tn, Dv', b1, b2, b3, _⟩ := id hb2
  have hj2 := hj.le hle2
  refine LE.mk (T_ListComp (hkind := rfl) (hpl := plain1 ⟨rfl, fun ζ ζ => rfl⟩) (L := [Str.ofString "x"]) (by decide) rfl (by rfl) (TI_val (W_E hK ⟨_, .tup _, ?_⟩)))
  refine TLo_map (g := fun y => ivV (g y)) (by lia -matchEqs) (fun y hy acc K' hl hK' => ?_) ?_
  · refine TA_1 (.inl rfl) (by decide) ⟨sub_setL (by rfl), br_t rfl ⟨hl, W_E hK ?_⟩⟩
    refine LM.own ⟨dx, b1, b2⟩ (f := 292) (by rw [hK]; kernel_rfl) rfl ?_
    exact LC.mk (TC_less (box_domain (k := 0) hK hb2 (hv4 y hy).1 (hv4 y hy).2 hK') (by lia -matchEqs))
  refine LQ.mk (OpC_inL (hn := by decide) 1 2 (by rfl) (pls_ivV g _) ?_)
  refine if_f (nil_in g _ fun y hy => (hgv y hy).1) ?_
  have hlm : ∀ n ∈ ["is_beyond", "can_differ", "has_row", "move_on"], ([(Str.ofString "domains", V.lst Dv), (Str.ofString "most", V.int most)] : List (Str × V)).lookup (Str.ofString n) = none := fun n hn => by
    simp only [List.mem_cons, List.not_mem_nil, or_false] at hn
    rcases hn with rfl | rfl | rfl | rfl <;> rfl
  refine LM.own hj2 (f := 351) (by rw [hK]; kernel_rfl) rfl ?_
  refine LC.mk (TC_less (is_refuted_ok (k := k + 1) hK hj2 hlm ht hb2 (fun y hy => ⟨(hgv y hy).1, (hgv y hy).2.1⟩) hgd ?_) (by lia -matchEqs))
  refine ifB.mk (fun hc => ?_) fun hc => ?_
  · exact back_le hle2 (q2.1 true (by unfold followsM; rw [if_pos hc]))
  have hfm : followsM g most rd rt told = if manyM g told.vars 1 ≤ most then some (!rt) else if told.isAT then some false else none := by unfold followsM; rw [if_neg (by rw [hc]; decide)]
  rw [hfm] at q2
  clear hfm hc
  refine L1.mk (T1_For (ns := [Str.ofString "x"]) (TI_val (W_E hK ?_)) (fun ζ ζ => rfl))
  refine ⟨_, .tup _, ?_⟩
  refine TFor_J (fun r fr p' => X3 fun (rest : List Int) (m : Int) (n : Nat) => A7 (r = rest.map V.int) (∀ y ∈ rest, y ∈ told.vars) (manyM g rest m = manyM g told.vars 1) (m.natAbs ≤ 1000 ^ n) (n + rest.length ≤ 3) (p' = p₃) (Sub [(Str.ofString "self", .ref x), (Str.ofString "told", told.v), (Str.ofString "box", .ref b), (Str.ofString "some", tI told.vars), (Str.ofString "many", .int m)] fr)) ⟨told.vars, 1, 0, rfl, fun ζ h => h, rfl, by decide, by lia -matchEqs, rfl, by (repeat (first | exact sub_nil | exact Sub.refl _ | refine sub_cons (by rfl) ?_))⟩ ?_ ?_
  · rintro fr p' ⟨rest, m, n, g1, -, g3, -, -, rfl, hsub⟩
    cases rest with
    | cons => cases g1
    | nil =>
    have g3' : m = manyM g told.vars 1 := g3
    rw [← g3'] at q2
    refine TS_weak hsub (W_S hK ?_)
    refine LA.mk hj2 (by rw [hK]; kernel_rfl) rfl ?_
    refine ifB.mk (fun hc => ?_) fun hc => ?_
    · rw [if_pos (by simpa using hc)] at q2
      refine LM.own hj2 (f := 380) (by rw [hK]; kernel_rfl) rfl ?_
      exact LC.mk (TC_less (has_tuple_ok (k := k) hK ht hb2 hv4 (fun y hy => (hgv y hy).2.1) (fun y hy => (hgv y hy).2.2.1) (fun y hy => (hgv y hy).2.2.2.1) hgb hgr (back_le hle2 (q2.1 _ rfl))) (by lia -matchEqs))
    · rw [if_neg (by simpa using hc)] at q2
      have hyes : told.isAT = true → ∀ p', Le p p' → Back Q (.bool false) p' := fun e p' h => back_le h (q2.1 false (by rw [if_pos e]))
      have hno : told.isAT = false → ∀ p', Le p p' → X p' := fun e => q2.2 (by rw [if_neg (by rw [e]; decide)])
      clear q2 hgd hgr hgb hgv g3'
      cases told with
      | lin s coefs xs c =>
        cases s <;> exact in_str (b := false) (by decide +kernel) (by decide +kernel) (by rfl) (if_f rfl (L1.mk (raise_pf hK hE hP rfl (hno rfl _ hle2))))
      | alld xs => exact in_str (b := true) (by decide +kernel) (by decide +kernel) (by rfl) (if_t rfl (hyes rfl _ hle2))
      | table rows => exact in_str (b := true) (by decide +kernel) (by decide +kernel) (by rfl) (if_t rfl (hyes rfl _ hle2))
      | _ => exact in_str (b := false) (by decide +kernel) (by decide +kernel) (by rfl) (if_f rfl (L1.mk (raise_pf hK hE hP rfl (hno rfl _ hle2))))
  · rintro J' Q' hJ hQ v r fr p' ⟨rest, m, n, g1, g2, g3, g4, g5, rfl, hsub⟩
    cases rest with
    | nil => cases g1
    | cons y rest =>
    obtain ⟨rfl, rfl⟩ := List.cons.inj g1
    have hy := g2 y (by simp)
    rw [List.length_cons] at g5
    have hm63 : m.natAbs < 2 ^ 63 := Nat.lt_of_le_of_lt g4 (Nat.lt_of_le_of_lt (Nat.pow_le_pow_right (by lia -matchEqs) (show n ≤ 3 by lia -matchEqs)) (by decide))
    refine TA_weak hsub (TA_1 (.inl rfl) (by simp) (W_S hK ?_))
    refine LM.own ⟨dx, b1, b2⟩ (f := 292) (by rw [hK]; kernel_rfl) rfl ?_
    refine LC.mk (TC_less (box_domain (k := 0) hK hb2 (hv4 y hy).1 (hv4 y hy).2 ?_) (by lia -matchEqs))
    refine LC.mk (TC_less (size_ok (k := 0) hK (by have := (hgv y hy).2.1.1; lia -matchEqs) ?_) (by lia -matchEqs))
    refine LB.mk (OpB_mulS hm63 ?_)
    exact hJ _ _ _ ⟨rest, _, n + 1, rfl, fun z hz => g2 z (by simp [hz]), g3, by rw [Int.natAbs_mul, Nat.pow_succ]; exact Nat.mul_le_mul g4 (hgv y hy).2.2.2.2, by lia -matchEqs, rfl, by (repeat (first | exact sub_nil | exact Sub.refl _ | refine sub_cons (by rfl) ?_))⟩
end
end
end Tl
end

section
open PySem PySem.W PySem.Calls PyProof.Rows
set_option linter.unusedVariables false
set_option maxRecDepth 100000
namespace Tl
section
noncomputable def FeedO (n : Nat) (o : O) : Prop := ∃ (cells : List Int) (s : Int), cells.length ≤ 48 ∧ 0 ≤ s ∧ s + n ≤ 1000 ∧ o = .ds [(Str.ofString "cells", .lst (cells.map .int)), (Str.ofString "spot", .int s)]
theorem FeedO.less {n m : Nat} {o : O} (h : FeedO n o) (e : m ≤ n) : FeedO m o := by
  obtain ⟨c, s, h1, h2, h3, h4⟩ := h
  exact ⟨c, s, h1, h2, by lia -matchEqs, h4⟩
section
variable {C : Cfg} {k : Nat} {sc : Scope} {fr : Fm} {p : P} {X : P → Prop}
theorem draw_ok (hK : HK C) {fd : Addr} {w : Int} {n : Nat} {o : O} {Q : V → P → Prop} (hf : p fd = some o) (ho : FeedO (n + 1) o) (hw : 0 < w) (q : ∀ r o', 0 ≤ r → r < w → FeedO n o' → Q (.int r) (put p fd o')) :
    TC C (k + 1) (.ref 394) [.ref fd, .int w] p Q X := by
  refine T_fn (X := X) (k := k) hK (names := [Str.ofString "feed", Str.ofString "wide"]) rfl rfl (bind2 fun ζ ζ => rfl) (by rfl) ?_
  obtain ⟨cells, s, h1, h2, h3, rfl⟩ := ho
  have hq : ∀ i : Int, Q (.int (i.fmod w)) (put p fd (.ds [(Str.ofString "cells", .lst (cells.map .int)), (Str.ofString "spot", .int (s + 1))])) := fun i =>
    q _ _ (Int.fmod_nonneg_of_pos i hw) (Int.fmod_lt_of_pos i hw) ⟨cells, s + 1, h1, Int.le_trans h2 (Int.le_of_lt (Int.lt_succ s)), by rw [Int.add_assoc, Int.add_comm 1]; exact h3, rfl⟩
  clear q
  have hs : s ≤ 1000 := Int.le_trans (Int.le_add_of_nonneg_right (Int.natCast_nonneg _)) h3
  have hcl : cells.length ≤ 1000000 := le_up h1 rfl
  clear h3
  refine W_S hK (L1.mk (T1_Assign_swap (names := [Str.ofString "cells", Str.ofString "spot"]) (W_E hK ?_) (by decide) (fun env he => by cases env; cases he; rfl)))
  refine LG.mk (GetI_ds (v := .lst (cells.map .int)) hf (by rfl) ?_)
  refine LG.mk (GetI_ds (v := .int s) hf (by rfl) ?_)
  refine ⟨_, _, rfl, rfl, rfl, ?_⟩
  have hset : setV [(Str.ofString "cells", V.lst (cells.map .int)), (Str.ofString "spot", .int s)] (Str.ofString "spot") (.int (s + 1)) = [(Str.ofString "cells", .lst (cells.map .int)), (Str.ofString "spot", .int (s + 1))] := rfl
  refine LS.mk (SetI_ds hf (Nat.le_of_ble_eq_true rfl) ?_)
  rw [hset]
  refine LC.mk (TC_lenL (by rw [List.length_map]; exact hcl) ?_)
  rw [List.length_map]
  refine ifB.mk (fun hc => ?_) fun hc => ?_
  · have hlt : s < (cells.length : Int) := of_decide_eq_true hc
    obtain ⟨i, hi⟩ : ∃ i, cells[s.toNat]? = some i := ⟨_, List.getElem?_eq_getElem (tn_lt h2 hlt)⟩
    refine LG.mk (GetI_lst (j := s.toNat) (v := .int i) (seq_nat h2 (by rw [List.length_map]; exact hlt)) (by rw [List.getElem?_map, hi]; rfl) ?_ (Int.le_trans (by decide) h2) (Int.lt_of_le_of_lt hs (by decide)))
    refine LC.mk (TC_int ?_)
    exact LB.mk (OpB_mod (Int.ne_of_gt hw) (back_same (hq _)))
  · refine LB.mk (OpB_mulS (by decide) ?_)
    refine LB.mk (OpB_mulS (by lia -matchEqs) ?_)
    refine LB.mk (OpB_mulS (by decide) ?_)
    refine LC.mk (TC_lenL (by rw [List.length_map]; exact hcl) ?_)
    rw [List.length_map]
    refine LB.mk (OpB_mod (by decide) ?_)
    exact LB.mk (OpB_mod (Int.ne_of_gt hw) (back_same (hq _)))
theorem pick_ok (hK : HK C) {fd : Addr} {l : List V} {n : Nat} {o : O} {Q : V → P → Prop} (hf : p fd = some o) (ho : FeedO (n + 1) o) (h0 : 0 < l.length) (hl : l.length ≤ 100) (q : ∀ v o', v ∈ l → FeedO n o' → Q v (put p fd o')) :
    TC C (k + 2) (.ref 401) [.ref fd, .lst l] p Q X := by
  refine T_fn (X := X) (k := k + 1) hK (names := [Str.ofString "feed", Str.ofString "some"]) rfl rfl (bind2 fun ζ ζ => rfl) (by rfl) ?_
  refine W_S hK (LC.mk (TC_lenL (le_up hl rfl) ?_))
  refine LC.mk (draw_ok (k := k) hK hf ho (Int.ofNat_lt.mpr h0) fun r o' hr hr2 ho' => ?_)
  obtain ⟨v, hv⟩ : ∃ v, l[r.toNat]? = some v := ⟨_, List.getElem?_eq_getElem (tn_lt hr hr2)⟩
  exact LG.mk (GetI_lst (j := r.toNat) (v := v) (seq_nat hr hr2) hv (back_same (q v o' (List.mem_of_getElem? hv) ho')) (Int.le_trans (by decide) hr) (Int.lt_trans hr2 (Int.lt_of_le_of_lt (Int.ofNat_le.mpr hl) (by decide))))
noncomputable def Lit.says (l : Lit) (v : Int) : Bool := match l.s with
  | .le => decide (v ≤ l.k)
  | .ge => decide (l.k ≤ v)
  | .eq => v == l.k
  | .ne => !(v == l.k)
theorem pl_Sg (s : Sg) : pl 0 (.str s.str) = true := by cases s <;> decide +kernel
theorem says_ok (hK : HK C) {l : Lit} {v : Int} {Q : V → P → Prop} (q : Q (.bool (l.says v)) p) : TC C (k + 1) (.ref 425) [l.v, .int v] p Q X := by
  refine T_fn (X := X) (k := k) hK (names := [Str.ofString "literal", Str.ofString "v"]) rfl rfl (bind2 fun ζ ζ => rfl) (by rfl) ?_
  obtain ⟨x, s, i⟩ := l
  refine W_S hK (L1.mk (T1_Assign_swap (names := [Str.ofString "sign", Str.ofString "k"]) (W_E hK ⟨_, _, rfl, rfl, rfl, ?_⟩) (by decide) (fun env he => by cases env; cases he; rfl)))
  refine SQ.mk (pl_Sg s) (by decide +kernel) ?_
  have e1 : ∀ b, ((v == i) == b) = if b = true then v == i else !(v == i) := fun b => by cases b <;> cases (v == i) <;> rfl
  cases s
  · exact if_t (by rfl) (back_same q)
  · exact if_f (by rfl) (SQ.mk (pl_Sg .ge) (by decide +kernel) (if_t (by rfl) (back_same q)))
  · refine if_f (by rfl) (SQ.mk (pl_Sg .eq) (by decide +kernel) (if_f (by rfl) (SQ.mk (pl_Sg .eq) (by decide +kernel) (back_same ?_))))
    exact (e1 true).symm ▸ q
  · refine if_f (by rfl) (SQ.mk (pl_Sg .ne) (by decide +kernel) (if_f (by rfl) (SQ.mk (pl_Sg .ne) (by decide +kernel) (back_same ?_))))
    exact (e1 false).symm ▸ q
noncomputable def leftM (lot : Int → List Int) (xs : List Int) (ls : List Lit) (m : Int) : Int := xs.foldl (fun m x => m * (((lot x).filter fun v => (ls.filter fun l => l.x == x).all fun l => !l.says v).length : Nat)) m
theorem left_ok (hK : HK C) {ls : List Lit} {Lv : List V} {lot : Int → List Int} {xs : List Int} {Q : V → P → Prop} (hL : Lv.length = 4) (hlv : ∀ x : Int, 0 ≤ x → x < 4 → Lv[x.toNat]? = some (.lst ((lot x).map V.int))) (hx : ∀ x ∈ xs, 0 ≤ x ∧ x < 4) (hxl : xs.length ≤ 3) (hl : ls.length ≤ 7) (hlt : ∀ x, (lot x).length ≤ 9)
    (q : Q (.int (leftM lot xs ls 1)) p) : TC C (k + 2) (.ref 437) [.lst Lv, tI xs, .tup (ls.map Lit.v)] p Q X := by
  refine T_fn (X := X) (k := k + 1) hK (names := [Str.ofString "lots", Str.ofString "some", Str.ofString "clause"]) rfl rfl (bind3 fun ζ ζ ζ => rfl) (by rfl) ?_
  refine W_S hK (L1.mk (T1_For (ns := [Str.ofString "x"]) (TI_val (W_E hK ?_)) (fun ζ ζ => rfl)))
  refine ⟨_, .tup _, ?_⟩
  refine TFor_J (fun r fr p' => X3 fun (rest : List Int) (m : Int) (n : Nat) => A7 (r = rest.map V.int) (∀ y ∈ rest, y ∈ xs) (leftM lot rest ls m = leftM lot xs ls 1) (m.natAbs ≤ 1000 ^ n) (n + rest.length ≤ 3) (p' = p) (Sub [(Str.ofString "lots", .lst Lv), (Str.ofString "clause", .tup (ls.map Lit.v)), (Str.ofString "found", .int m)] fr)) ⟨xs, 1, 0, rfl, fun ζ h => h, rfl, by decide, by lia -matchEqs, rfl, by (repeat (first | exact sub_nil | exact Sub.refl _ | refine sub_cons (by rfl) ?_))⟩ ?_ ?_
  · rintro fr p' ⟨rest, m, n, g1, -, g3, -, -, rfl, hsub⟩
    cases rest with
    | cons => cases g1
    | nil =>
    rw [← g3] at q
    exact TS_weak hsub (W_S hK (back_same q))
  · rintro J' Q' hJ hQ v r fr p' ⟨rest, m, n, g1, g2, g3, g4, g5, rfl, hsub⟩
    cases rest with
    | nil => cases g1
    | cons x rest =>
    obtain ⟨rfl, rfl⟩ := List.cons.inj g1
    have hxr := hx x (g2 x (.head _))
    rw [List.length_cons] at g5
    have hm63 : m.natAbs < 2 ^ 63 := Nat.lt_of_le_of_lt g4 (Nat.lt_of_le_of_lt (Nat.pow_le_pow_right (by decide) (Nat.le_trans (Nat.le_add_right _ _) g5)) (by decide))
    refine TA_weak hsub (TA_1 (.inr rfl) (by simp) (W_S hK ?_))
    refine L1.mk (T1_Assign_Name' (.inr rfl) (fun env he => by cases env; cases he; rfl) ?_)
    refine T_ListComp (hkind := rfl) (hpl := plain1 ⟨rfl, fun ζ ζ => rfl⟩) (L := [Str.ofString "one"]) (by decide) rfl (by rfl) (TI_val (W_E hK ?_))
    refine ⟨_, .tup _, ?_⟩
    refine TLo_filter (c := fun l : Lit => l.x == x) (g := fun l => l.v) (le_up hl rfl) (fun l hl acc K' hla hK1 hK2 => ?_) ?_
    · refine TA_1 (.inl rfl) (by decide) ⟨sub_setL (by rfl), ?_⟩
      exact W_T hK (ifB.mk (fun hc => br_t rfl ⟨hla, W_E hK (hK1 hc)⟩) fun hc => br_f rfl (hK2 hc))
    refine ⟨_, rfl, ?_⟩
    refine LE.mk (T_ListComp (hkind := rfl) (hpl := plain1 ⟨rfl, fun ζ ζ => rfl⟩) (L := [Str.ofString "v"]) (by decide) rfl (by rfl) (TI_val (W_E hK ?_)))
    have hxl2 := hlt x
    refine LG.mk (GetI_lst (j := x.toNat) (v := .lst ((lot x).map V.int)) (seq_nat hxr.1 (by rw [hL]; exact hxr.2)) (hlv x hxr.1 hxr.2) ?_ (Int.le_trans (by decide) hxr.1) (Int.lt_trans hxr.2 (by decide)))
    refine ⟨_, .lst _, ?_⟩
    refine TLo_filter (c := fun v => (ls.filter fun l => l.x == x).all fun l => !l.says v) (g := fun v => .int v) (le_up hxl2 rfl) (fun v hv acc K' hla hK1 hK2 => ?_) ?_
    · refine TA_1 (.inr rfl) (by decide) ⟨sub_setL (by rfl), ?_⟩
      refine W_T hK (LE.mk (T_ListComp (hkind := rfl) (hpl := plain1 ⟨rfl, fun ζ ζ => rfl⟩) (L := [Str.ofString "one"]) (by decide) rfl (by rfl) (TI_val (W_E hK ?_))))
      refine ⟨_, .lst _, ?_⟩
      have hfl := List.length_filter_le (fun l : Lit => l.x == x) ls
      refine TLo_map (g := fun l : Lit => .bool (l.says v)) (le_up (Nat.le_trans hfl hl) rfl) (fun l hl acc K'' hlb hK'' => ?_) ?_
      · refine TA_1 (.inl rfl) (by decide) ⟨sub_setL (by rfl), br_t rfl ⟨hlb, W_E hK ?_⟩⟩
        exact LC.mk (says_ok (k := k) hK hK'')
      refine LQ.mk (OpC_notInL (hn := by decide) 0 0 (by rfl) (pls_bools _ _) ?_)
      have hnb := notin_true (fun l : Lit => l.says v) (ls.filter fun l => l.x == x)
      exact ifB.mk (fun hc => br_t rfl ⟨hla, W_E hK (hK1 (hnb.symm.trans hc))⟩) fun hc => br_f rfl (hK2 (hnb.symm.trans hc))
    have hfl := Nat.le_trans (List.length_filter_le (fun v => (ls.filter fun l => l.x == x).all fun l => !l.says v) (lot x)) hxl2
    refine LC.mk (TC_lenL (le_map hfl rfl) ?_)
    refine LB.mk (OpB_mulS hm63 ?_)
    rw [List.length_map]
    exact hJ _ _ _ ⟨rest, _, n + 1, rfl, fun z hz => g2 z (.tail _ hz), g3, by rw [Int.natAbs_mul, Nat.pow_succ]; exact Nat.mul_le_mul g4 (le_up hfl rfl), by rw [Nat.add_right_comm]; exact g5, rfl, by (repeat (first | exact sub_nil | exact Sub.refl _ | refine sub_cons (by rfl) ?_))⟩
end
end
end Tl
end

section
open PySem PySem.W PySem.Calls PyProof.Rows
set_option linter.unusedVariables false
set_option maxRecDepth 100000
set_option maxHeartbeats 0
namespace Tl
section
noncomputable def ptF (a b c d : Int) : Int → Int := fun x => if x = 0 then a else if x = 1 then b else if x = 2 then c else d
theorem one_le {α : Type} (c : Prop) [Decidable c] (v : α) : (if c then [v] else []).length ≤ 1 := by split; exact Nat.le_refl 1; exact Nat.zero_le 1
theorem beqt (x : Bool) : (x == true) = x := by cases x <;> rfl
theorem beqf (x : Bool) : (x == false) = !x := by cases x <;> rfl
theorem TLo_flatN {α : Type} {N : Nat} {f : α → V} {g : α → List V} {p : P} {body : V → List V → P → (List V → P → Prop) → Prop} {K : List V → P → Prop} : ∀ {xs : List α} {acc : List V}, acc.length + (xs.flatMap g).length ≤ N →
    (∀ x ∈ xs, ∀ acc K', acc.length + (g x).length ≤ N → K' (acc ++ g x) p → body (f x) acc p K') → K (acc ++ xs.flatMap g) p → TLo body K (xs.map f) acc p
  | [], acc, hl, hb, h => (List.append_nil acc ▸ (show K (acc ++ []) p from h) : K acc p)
  | x :: xs, acc, hl, hb, h => by
    simp only [List.flatMap_cons, List.length_append] at hl
    show body (f x) acc p _
    refine hb x List.mem_cons_self acc _ (by lia -matchEqs) ?_
    refine TLo_flatN (by simp only [List.length_append]; lia -matchEqs) (fun y hy => hb y (List.mem_cons_of_mem _ hy)) ?_
    simpa [List.flatMap_cons, List.append_assoc] using h
noncomputable def pairs1 (f : Int → Int) (xs : List Int) (j : Int) : List V := xs.flatMap fun i => if (decide (i < j) && (f i == f j)) = true then [V.tup [.int i, .int j]] else []
theorem pairs1_len (f : Int → Int) (xs : List Int) (j : Int) : (pairs1 f xs j).length ≤ xs.length := by
  unfold pairs1
  induction xs with
  | nil => simp
  | cons x r ih =>
    rw [List.flatMap_cons, List.length_append, List.length_cons]
    exact Nat.add_comm 1 r.length ▸ Nat.add_le_add (one_le _ _) ih
theorem pls_app {n : Nat} {l m : List V} (h : pls n l = true) (g : pls n m = true) : pls n (l ++ m) = true := by
  induction l with
  | nil => exact g
  | cons x l ih => exact (Bool.and_eq_true _ _).mpr ⟨(pls_cons h).1, ih (pls_cons h).2⟩
theorem pls_pairs1 (f : Int → Int) (j : Int) : ∀ xs : List Int, pls 1 (pairs1 f xs j) = true
  | [] => rfl
  | x :: xs => by
    unfold pairs1
    rw [List.flatMap_cons]
    refine pls_app ?_ (pls_pairs1 f j xs)
    split <;> rfl
theorem pls_pairs (f : Int → Int) (ys : List Int) : ∀ xs : List Int, pls 1 (xs.flatMap fun j => pairs1 f ys j) = true
  | [] => rfl
  | x :: xs => by
    rw [List.flatMap_cons]
    exact pls_app (pls_pairs1 f x ys) (pls_pairs f ys xs)
noncomputable def pL (xs : List Int) (p q r : Bool) : Bool := (xs.flatMap fun j => xs.flatMap fun i => if (decide (i < j) && (if j = 1 then p else if i = 0 then q else r)) = true then [V.tup [.int i, .int j]] else []).isEmpty
noncomputable def pR (n : Nat) (p q r : Bool) : Bool := ((((List.range n).filter fun k => !(match k with | 0 => false | 1 => [p].any id | _ => [q, r].any id)).length : Nat) : Int) == (n : Int)
theorem pLR : ∀ p q r : Bool, pL [0, 1] p q r = pR 2 p q r ∧ pL [0, 1, 2] p q r = pR 3 p q r := by decide +kernel
theorem pairs_sat {xs : List Int} (h : (Told.alld xs).Ok) (f : Int → Int) : (xs.flatMap fun j => pairs1 f xs j).isEmpty = (Told.alld xs).sat f := by
  have k := pLR (f 0 == f 1) (f 0 == f 2) (f 1 == f 2)
  have e : ∀ x y : Int, (x == y) = (y == x) := fun x y => BEq.comm
  rcases h with rfl | rfl
  · refine Eq.trans (b := pL [0, 1] (f 0 == f 1) (f 0 == f 2) (f 1 == f 2)) (by kernel_rfl) (k.1.trans ?_)
    rw [e (f 0) (f 1)]
    kernel_rfl
  · refine Eq.trans (b := pL [0, 1, 2] (f 0 == f 1) (f 0 == f 2) (f 1 == f 2)) (by kernel_rfl) (k.2.trans ?_)
    rw [e (f 0) (f 1), e (f 0) (f 2), e (f 1) (f 2)]
    kernel_rfl
theorem max_is (a b c : Int) : (c == maxM a b) = ((a == c || b == c) && (decide (a ≤ c) && decide (b ≤ c))) := by
  rw [Bool.eq_iff_iff, Bool.and_eq_true, Bool.and_eq_true, Bool.or_eq_true, beq_iff_eq, beq_iff_eq, beq_iff_eq, decide_eq_true_eq, decide_eq_true_eq]
  unfold maxM
  constructor
  · rintro rfl
    split
    · exact ⟨.inr rfl, ‹_›, Int.le_refl b⟩
    · exact ⟨.inl rfl, Int.le_refl a, Int.le_of_lt (Int.not_le.mp ‹_›)⟩
  · rintro ⟨rfl | rfl, h1, h2⟩
    · split
      · exact Int.le_antisymm ‹_› h2
      · rfl
    · rw [if_pos h1]
section
variable {C : Cfg} {k : Nat} {sc : Scope} {fr : Fm} {p : P} {X : P → Prop}
theorem gI_pt {a b c d : Int} {x : Int} {Q : V → P → Prop} (h0 : 0 ≤ x) (h4 : x < 4) (q : Q (.int (ptF a b c d x)) p) : gI C k p Q (tI [a, b, c, d]) (.int x) := by
  have : x = 0 ∨ x = 1 ∨ x = 2 ∨ x = 3 := by lia -matchEqs
  rcases this with rfl | rfl | rfl | rfl <;> exact q
theorem keeps_ok (hK : HK C) {a b c d : Int} {told : Told} {Q : V → P → Prop} (ht : told.Ok) (ha : a.natAbs < 2 ^ 63) (q : Q (.bool (told.sat (ptF a b c d))) p) : TC C (k + 1) (.ref 418) [told.v, tI [a, b, c, d]] p Q X := by
  refine T_fn (X := X) (k := k) hK (names := [Str.ofString "told", Str.ofString "point"]) rfl rfl (bind2 fun ζ ζ => rfl) (by rfl) ?_
  cases told with
  | lin s coefs xs e =>
    obtain ⟨hx, hcl, hcs⟩ := ht
    have hxl : xs.length ≤ 3 := by rcases hx with rfl | rfl <;> decide
    have hx4 : ∀ i, i < xs.length → 0 ≤ xs.getD i 0 ∧ xs.getD i 0 < 4 := by rcases hx with rfl | rfl <;> decide
    refine W_S hK (in_str (b := true) (by cases s <;> decide +kernel) (by decide +kernel) (by cases s <;> rfl) (if_t rfl ?_))
    refine LE.mk (T_ListComp (hkind := rfl) (hpl := plain1 ⟨rfl, fun ζ ζ => rfl⟩) (L := [Str.ofString "k"]) (by decide) rfl (by rfl) (TI_val (W_E hK ?_)))
    refine LC.mk (TC_lenT (by simp; lia -matchEqs) ?_)
    refine LC.mk (TC_range1 ⟨_, .rng (by lia -matchEqs) (by lia -matchEqs) (by lia -matchEqs) (by simp; lia -matchEqs), ?_⟩)
    have e0 : ((((xs.map V.int).length : Nat) : Int) - 0).toNat = xs.length := by simp
    rw [e0]
    refine TLo_map (g := fun i : Nat => .int (coefs.getD i 0 * ptF a b c d (xs.getD i 0))) (by simp; lia -matchEqs) (fun i hi acc K' hl hK' => ?_) ?_
    · have hi' : i < xs.length := List.mem_range.mp hi
      have e1 : (0 : Int) + (i : Int) = Int.ofNat i := by simp
      rw [e1]
      refine TA_1 (.inl rfl) (by decide) ⟨sub_setL (by rfl), br_t rfl ⟨hl, ?_⟩⟩
      refine W_E hK (gI_tupN (v := .int (coefs.getD i 0)) (by rw [List.getElem?_map, List.getElem?_eq_getElem (by lia -matchEqs)]; simp [List.getElem?_eq_getElem (show i < coefs.length by lia -matchEqs)]) (by lia -matchEqs) ?_)
      refine gI_tupN (v := .int (xs.getD i 0)) (by rw [List.getElem?_map, List.getElem?_eq_getElem hi']; simp [List.getElem?_eq_getElem hi']) (by lia -matchEqs) ?_
      refine gI_pt (hx4 i hi').1 (hx4 i hi').2 ?_
      refine LB.mk (OpB_mulS ?_ hK')
      have : coefs.getD i 0 ∈ coefs := by rw [List.getD_eq_getElem?_getD, List.getElem?_eq_getElem (by lia -matchEqs)]; simp
      rcases hcs _ this with h | h | h <;> rw [h] <;> decide
    refine LC.mk (TC_sum' (ns := (List.range xs.length).map fun i => coefs.getD i 0 * ptF a b c d (xs.getD i 0)) (by rw [List.map_map]; rfl) ?_)
    have hsum : ((List.range xs.length).map fun i => coefs.getD i 0 * ptF a b c d (xs.getD i 0)).sum = linSum coefs xs (ptF a b c d) := by
      unfold linSum
      congr 1
      refine List.ext_getElem (by simp; lia -matchEqs) fun i h1 h2 => ?_
      simp at h1
      simp [List.getElem?_eq_getElem (show i < coefs.length by lia -matchEqs), List.getElem?_eq_getElem h1]
    rw [hsum]
    cases s
    · exact SQ.mk (by decide +kernel) (by decide +kernel) (if_t (by rfl) (back_same q))
    · refine SQ.mk (by decide +kernel) (by decide +kernel) (if_f (by rfl) (SQ.mk (by decide +kernel) (by decide +kernel) (back_same ?_)))
      show Q (.bool ((linSum coefs xs (ptF a b c d) == e) == true)) p
      exact (beqt (linSum coefs xs (ptF a b c d) == e)).symm ▸ q
    · refine SQ.mk (by decide +kernel) (by decide +kernel) (if_f (by rfl) (SQ.mk (by decide +kernel) (by decide +kernel) (back_same ?_)))
      show Q (.bool ((linSum coefs xs (ptF a b c d) == e) == false)) p
      exact (beqf (linSum coefs xs (ptF a b c d) == e)).symm ▸ q
  | alld xs =>
    refine W_S hK ?_
    refine in_str (b := false) (by decide +kernel) (by decide +kernel) (by rfl) (if_f rfl ?_)
    refine SQ.mk (by decide +kernel) (by decide +kernel) (if_t (by rfl) ?_)
    have hx4 : ∀ x ∈ xs, 0 ≤ x ∧ x < 4 := by rcases ht with rfl | rfl <;> decide
    have hxl : xs.length ≤ 3 := by rcases ht with rfl | rfl <;> decide
    refine LE.mk (T_ListComp (hkind := rfl) (hpl := plain2 ⟨rfl, fun ζ ζ => rfl⟩ ⟨rfl, fun ζ ζ => rfl⟩) (L := [Str.ofString "k", Str.ofString "j"]) (by decide) rfl (by rfl) (TI_val (W_E hK ?_)))
    refine ⟨_, .tup _, ?_⟩
    have hfl : ∀ j, (pairs1 (ptF a b c d) xs j).length ≤ 3 := fun j => Nat.le_trans (pairs1_len _ xs j) hxl
    have hfm : ∀ l : List Int, (l.flatMap fun j => pairs1 (ptF a b c d) xs j).length ≤ 3 * l.length := fun l => by
      induction l with
      | nil => simp
      | cons x l ih => have := hfl x; simp only [List.flatMap_cons, List.length_append, List.length_cons] at *; lia -matchEqs
    have hres : ((xs.flatMap fun j => pairs1 (ptF a b c d) xs j).isEmpty) = (Told.alld xs).sat (ptF a b c d) := pairs_sat ht _
    refine TLo_flatN (N := 9) (g := fun j => pairs1 (ptF a b c d) xs j) ?_ (fun j hj acc K' hl hK' => ?_) ?_
    · have := hfm xs; simp only [List.length_nil]; lia -matchEqs
    · refine TA_1 (.inl rfl) (by decide) ⟨sub_setL (by rfl), br_t rfl ?_⟩
      refine TI_val (W_E hK ?_)
      refine ⟨_, .tup _, ?_⟩
      refine TLo_flatN (N := 9) (g := fun i => if (decide (i < j) && (ptF a b c d i == ptF a b c d j)) = true then [V.tup [.int i, .int j]] else []) hl (fun i hi acc K' hl hK' => ?_) hK'
      have hal : acc.length ≤ 1000000 := Nat.le_trans (Nat.le_trans (Nat.le_add_right _ _) hl) (by decide)
      clear hl
      refine TA_1 (.inl rfl) (by decide) ⟨sub_setL (by rfl), ?_⟩
      refine W_T hK ?_
      refine ifB.mk (fun hc => ?_) fun hc => ?_
      · refine gI_pt (hx4 i hi).1 (hx4 i hi).2 (gI_pt (hx4 j hj).1 (hx4 j hj).2 ?_)
        rw [show decide (i < j) = true from hc, Bool.true_and] at hK'
        refine ifB.mk (fun hc => br_t rfl ?_) fun hc => br_f rfl ?_
        · rw [if_pos hc] at hK'
          exact ⟨hal, W_E hK hK'⟩
        · rw [if_neg (by rw [hc]; decide), List.append_nil] at hK'
          exact hK'
      · rw [show decide (i < j) = false from hc, Bool.false_and, if_neg (by decide), List.append_nil] at hK'
        exact br_f rfl hK'
    rw [← hres] at q
    refine LL.frozen (LQ.mk (OpC_eq (hn := by decide) 2 1 (pls_pairs _ xs xs) (by rfl) (back_same ?_)))
    have e : eqV (.lst (xs.flatMap fun j => pairs1 (ptF a b c d) xs j)) (.lst []) = (xs.flatMap fun j => pairs1 (ptF a b c d) xs j).isEmpty := by
      cases xs.flatMap fun j => pairs1 (ptF a b c d) xs j <;> rfl
    exact e ▸ q
  | table rows =>
    refine W_S hK ?_
    refine in_str (b := false) (by decide +kernel) (by decide +kernel) (by rfl) (if_f rfl ?_)
    refine SQ.mk (by decide +kernel) (by decide +kernel) (if_f (by rfl) ?_)
    refine SQ.mk (by decide +kernel) (by decide +kernel) (if_t (by rfl) ?_)
    refine LE.mk (T_UpTo (hg := by intro _ _; rfl) (W_E hK (W_E hK ⟨_, _, rfl, rfl, by decide, Nat.le_of_ble_eq_true rfl, ?_⟩)))
    refine LQ.mk (OpC_inT (hn := by decide) 1 1 (by rfl) (pls_tIs rows) ?_)
    exact back_same ((any_tI rows [a, b, c]).symm ▸ q)
  | times =>
    refine W_S hK ?_
    refine in_str (b := false) (by decide +kernel) (by decide +kernel) (by rfl) (if_f rfl ?_)
    refine SQ.mk (by decide +kernel) (by decide +kernel) (if_f (by rfl) ?_)
    refine SQ.mk (by decide +kernel) (by decide +kernel) (if_f (by rfl) ?_)
    refine SQ.mk (by decide +kernel) (by decide +kernel) (if_t (by rfl) ?_)
    refine LB.mk (OpB_mulS ha (back_same ?_))
    have e : (c == a * b) = (a * b == c) := BEq.comm
    exact e ▸ q
  | max =>
    refine W_S hK ?_
    refine in_str (b := false) (by decide +kernel) (by decide +kernel) (by rfl) (if_f rfl ?_)
    refine SQ.mk (by decide +kernel) (by decide +kernel) (if_f (by rfl) ?_)
    refine SQ.mk (by decide +kernel) (by decide +kernel) (if_f (by rfl) ?_)
    refine SQ.mk (by decide +kernel) (by decide +kernel) (if_f (by rfl) ?_)
    refine SQ.mk (by decide +kernel) (by decide +kernel) (if_t (by rfl) ?_)
    refine LE.mk (T_UpTo (hg := by intro _ _; rfl) (W_E hK (W_E hK ⟨_, _, rfl, rfl, by decide, Nat.le_of_ble_eq_true rfl, ?_⟩)))
    refine LQ.mk (OpC_inT (hn := by decide) 1 1 (by rfl) (by rfl) ?_)
    have e : ([V.int a, V.int b].any fun y => eqV y (.int c)) = (a == c || b == c) := congrArg (a == c || ·) (Bool.or_false _)
    have e2 : Told.max.sat (ptF a b c d) = (c == maxM a b) := rfl
    rw [e2] at q
    rw [max_is a b c] at q
    show isB (.bool ([V.int a, V.int b].any fun y => eqV y (.int c))) _
    rw [e]
    refine ifB.mk (fun hc => ?_) fun hc => ?_
    · rw [hc, Bool.true_and] at q
      refine ifB.mk (fun hc => ?_) fun hc => ?_
      · rw [hc, Bool.true_and] at q
        exact back_same q
      · rw [hc, Bool.false_and] at q
        exact back_same q
    · rw [hc, Bool.false_and] at q
      exact back_same q
  | count n =>
    refine W_S hK ?_
    refine in_str (b := false) (by decide +kernel) (by decide +kernel) (by rfl) (if_f rfl ?_)
    refine SQ.mk (by decide +kernel) (by decide +kernel) (if_f (by rfl) ?_)
    refine SQ.mk (by decide +kernel) (by decide +kernel) (if_f (by rfl) ?_)
    refine SQ.mk (by decide +kernel) (by decide +kernel) (if_f (by rfl) ?_)
    refine SQ.mk (by decide +kernel) (by decide +kernel) (if_f (by rfl) ?_)
    refine SQ.mk (by decide +kernel) (by decide +kernel) (if_t (by rfl) ?_)
    refine back_same ?_
    have e : ((([a, b].countP (· == n) : Nat) : Int) == c) = (b2i (a == n) + b2i (b == n) == c) := by
      congr 1
      rw [List.countP_cons, List.countP_cons, List.countP_nil]
      cases (a == n) <;> cases (b == n) <;> rfl
    have e2 : (Told.count n).sat (ptF a b c d) = ((([a, b].countP (· == n) : Nat) : Int) == c) := rfl
    rw [e2, e] at q
    exact q
  | abs =>
    refine W_S hK ?_
    refine in_str (b := false) (by decide +kernel) (by decide +kernel) (by rfl) (if_f rfl ?_)
    refine SQ.mk (by decide +kernel) (by decide +kernel) (if_f (by rfl) ?_)
    refine SQ.mk (by decide +kernel) (by decide +kernel) (if_f (by rfl) ?_)
    refine SQ.mk (by decide +kernel) (by decide +kernel) (if_f (by rfl) ?_)
    refine SQ.mk (by decide +kernel) (by decide +kernel) (if_f (by rfl) ?_)
    refine SQ.mk (by decide +kernel) (by decide +kernel) (if_f (by rfl) ?_)
    refine SQ.mk (by decide +kernel) (by decide +kernel) (if_t (by rfl) ?_)
    have e2 : Told.abs.sat (ptF a b c d) = (c == absM a) := rfl
    rw [e2] at q
    refine ifB.mk (fun hc => back_same ?_) fun hc => back_same ?_
    · have : absM a = a := by unfold absM; have := of_decide_eq_true hc; rw [if_neg (by lia -matchEqs)]
      rw [this] at q; exact q
    · have : absM a = -a := by unfold absM; have := Int.not_lt.mp (of_decide_eq_false hc); split; rfl; exact Int.le_antisymm (Int.le_trans this (Int.neg_nonneg_of_nonpos this)) (Int.le_trans (Int.neg_nonpos_of_nonneg (Int.not_lt.mp ‹_›)) (Int.not_lt.mp ‹_›))
      rw [this] at q; exact q
  | elof vals =>
    refine W_S hK ?_
    refine in_str (b := false) (by decide +kernel) (by decide +kernel) (by rfl) (if_f rfl ?_)
    refine SQ.mk (by decide +kernel) (by decide +kernel) (if_f (by rfl) ?_)
    refine SQ.mk (by decide +kernel) (by decide +kernel) (if_f (by rfl) ?_)
    refine SQ.mk (by decide +kernel) (by decide +kernel) (if_f (by rfl) ?_)
    refine SQ.mk (by decide +kernel) (by decide +kernel) (if_f (by rfl) ?_)
    refine SQ.mk (by decide +kernel) (by decide +kernel) (if_f (by rfl) ?_)
    refine SQ.mk (by decide +kernel) (by decide +kernel) (if_f (by rfl) ?_)
    have hl : vals.length = 3 := ht
    have e2 : (Told.elof vals).sat (ptF a b c d) = (decide (1 ≤ a) && decide (a ≤ vals.length) && (vals.getD (a - 1).toNat 0 == c)) := rfl
    rw [e2, hl] at q
    refine ifB.mk (fun hc => ?_) fun hc => ?_
    · rw [hc, Bool.true_and] at q
      refine ifB.mk (fun hc2 => ?_) fun hc2 => ?_
      · have h1 : 1 ≤ a := of_decide_eq_true hc
        have h2 : a ≤ 3 := of_decide_eq_true hc2
        have h0 := Int.sub_nonneg.mpr h1
        have h4 : (a - 1).toNat < vals.length := hl ▸ (Int.toNat_lt h0).mpr (Int.sub_lt_iff.mpr (Int.lt_add_one_of_le h2))
        rw [show decide (a ≤ ((3 : Nat) : Int)) = true from hc2, Bool.true_and] at q
        refine gI_tupI (v := .int (vals.getD (a - 1).toNat 0)) h0 (Int.lt_of_lt_of_le (Int.sub_lt_self a (by decide)) (Int.le_trans h2 (by decide))) ?_ (back_same q)
        rw [List.getElem?_map, List.getD_eq_getElem?_getD, List.getElem?_eq_getElem h4]; rfl
      · rw [show decide (a ≤ ((3 : Nat) : Int)) = false from hc2, Bool.false_and] at q
        exact back_same q
    · rw [hc, Bool.false_and, Bool.false_and] at q
      exact back_same q
end
end
end Tl
end

section
open PySem PySem.W PySem.Calls PyProof.Rows
set_option linter.unusedVariables false
set_option maxRecDepth 100000
set_option maxHeartbeats 0
namespace Tl
section
noncomputable def LKof (i : Int) : LK := if i = 0 then .le else if i = 1 then .eq else .ne
theorem TLo_draws' {α : Type} {f : α → V} {R : V → Prop} {c n : Nat} {p : P} {fd : Addr} {body : V → List V → P → (List V → P → Prop) → Prop} {K : List V → P → Prop} : ∀ (xs : List α) (acc : List V) (o : O), acc.length + xs.length ≤ 1000000 → FeedO (n + c * xs.length) o →
    (∀ x ∈ xs, ∀ acc K' m o, acc.length ≤ 1000000 → FeedO (m + c) o → (∀ w o', R w → FeedO m o' → K' (acc ++ [w]) (put p fd o')) → body (f x) acc (put p fd o) K') →
    (∀ ws o', ws.length = xs.length → (∀ w ∈ ws, R w) → FeedO n o' → K (acc ++ ws) (put p fd o')) → TLo body K (xs.map f) acc (put p fd o)
  | [], acc, o, hl, ho, hb, h => List.append_nil acc ▸ h [] o rfl (fun ζ h => nomatch h) ho
  | x :: xs, acc, o, hl, ho, hb, h => by
    show body (f x) acc (put p fd o) _
    rw [List.length_cons] at hl ho
    refine hb x List.mem_cons_self acc _ (n + c * xs.length) o (Nat.le_trans (Nat.le_add_right _ _) hl) (ho.less (Nat.le_of_eq (Nat.add_assoc _ _ _))) fun w o' hw ho' => ?_
    refine TLo_draws' xs _ o' (by rw [List.length_append, List.length_singleton, Nat.add_assoc, Nat.add_comm 1]; exact hl) ho' (fun y hy => hb y (List.mem_cons_of_mem _ hy)) fun ws o'' hl' hw' ho'' => ?_
    rw [List.append_assoc]
    exact h (w :: ws) o'' (congrArg (· + 1) hl') (fun v hv => (List.mem_cons.mp hv).elim (fun e => e ▸ hw) (hw' v)) ho''
theorem TLo_draws {α : Type} {f : α → V} {R : V → Prop} {c n : Nat} {p : P} {fd : Addr} {body : V → List V → P → (List V → P → Prop) → Prop} {K : List V → P → Prop} {xs : List α} {o : O} (hl : xs.length ≤ 1000000) (ho : FeedO (n + c * xs.length) o)
    (hb : ∀ x ∈ xs, ∀ acc K' m o, acc.length ≤ 1000000 → FeedO (m + c) o → (∀ w o', R w → FeedO m o' → K' (acc ++ [w]) (put p fd o')) → body (f x) acc (put p fd o) K')
    (h : ∀ ws o', ws.length = xs.length → (∀ w ∈ ws, R w) → FeedO n o' → K ws (put p fd o')) : TLo body K (xs.map f) [] (put p fd o) :=
  TLo_draws' xs [] o (by rw [List.length_nil, Nat.zero_add]; exact hl) ho hb h
noncomputable def isI (S : Int → Prop) (v : V) : Prop := ∃ i, v = .int i ∧ S i
theorem isI_all {S : Int → Prop} : ∀ {ws : List V}, (∀ w ∈ ws, isI S w) → ∃ is : List Int, ws = is.map .int ∧ ∀ i ∈ is, S i
  | [], _ => ⟨[], rfl, (fun ζ h => nomatch h)⟩
  | w :: ws, h => by
    obtain ⟨i, rfl, hi⟩ := h w (.head _)
    obtain ⟨is, rfl, his⟩ := isI_all (ws := ws) fun v hv => h v (.tail _ hv)
    exact ⟨i :: is, rfl, List.forall_mem_cons.mpr ⟨hi, his⟩⟩
noncomputable def isR (v : V) : Prop := ∃ r : List Int, v = tI r ∧ r.length = 3
theorem isR_all : ∀ {ws : List V}, (∀ w ∈ ws, isR w) → ∃ rs : List (List Int), ws = rs.map tI ∧ ∀ r ∈ rs, r.length = 3
  | [], _ => ⟨[], rfl, (fun ζ h => nomatch h)⟩
  | w :: ws, h => by
    obtain ⟨i, rfl, hi⟩ := h w (.head _)
    obtain ⟨is, rfl, his⟩ := isR_all (ws := ws) fun v hv => h v (.tail _ hv)
    exact ⟨i :: is, rfl, List.forall_mem_cons.mpr ⟨hi, his⟩⟩
section
variable {C : Cfg} {k : Nat} {sc : Scope} {fr : Fm} {p : P} {X : P → Prop}
theorem two_ints {j : Int} (h0 : 0 ≤ j) (h1 : j < 2) : j = 0 ∨ j = 1 := by lia -matchEqs
theorem told_ok (hK : HK C) {fd : Addr} {n : Nat} {o : O} {Q : V → P → Prop} (hf : p fd = some o) (ho : FeedO (n + 11) o) (q : ∀ told o', Told.Ok told → FeedO n o' → Q (.tup [told.v, tI told.vars]) (put p fd o')) :
    TC C (k + 3) (.ref 413) [.ref fd] p Q X := by
  refine T_fn (X := X) (k := k + 2) hK (names := [Str.ofString "feed"]) rfl rfl (bind1 fun ζ => rfl) (by rfl) ?_
  refine W_S hK (LC.mk (TC_less (draw_ok (k := k) (n := n + 10) hK hf ho (by decide) fun i o₁ hi0 hi1 ho₁ => ?_) (by lia -matchEqs)))
  refine ifB.mk (fun hc => ?_) fun hc => ?_
  · have hi3 : i < 3 := of_decide_eq_true hc
    refine LE.mk (T_UpToT (W_E hK (W_E hK ?_)))
    refine LC.mk (TC_less (draw_ok (k := k) (n := n + 9) hK (put_self _ _ _) ho₁ (by decide) fun j o₂ hj0 hj1 ho₂ => ?_) (by lia -matchEqs))
    rw [put_put]
    have hxs : ∃ xs : List Int, (xs = [0, 1] ∨ xs = [0, 1, 2]) ∧ ([V.int 0, .int 1, .int 2].take (2 + j).toNat) = xs.map V.int := by
      rcases two_ints hj0 hj1 with rfl | rfl
      · exact ⟨_, .inl rfl, rfl⟩
      · exact ⟨_, .inr rfl, rfl⟩
    obtain ⟨xs, hxs, he⟩ := hxs
    have hxl : xs.length ≤ 3 := by rcases hxs with rfl | rfl <;> decide
    refine ⟨_, _, rfl, rfl, Int.add_nonneg (by decide) hj0, Nat.le_of_ble_eq_true rfl, ?_⟩
    rw [he]
    refine LE.mk (T_ListComp (hkind := rfl) (hpl := plain1 ⟨rfl, fun ζ ζ => rfl⟩) (L := [Str.ofString "x"]) (by decide) rfl (by rfl) (TI_val (W_E hK ?_)))
    refine ⟨_, .tup _, ?_⟩
    refine TLo_draws (R := isI fun i => i = 1 ∨ i = -1 ∨ i = 2) (c := 1) (n := n + 1) (by lia -matchEqs) (ho₂.less (by lia -matchEqs)) (fun x hx acc K' m o hl ho hK' => ?_) fun ws o₃ hwl hws ho₃ => ?_
    · refine TA_1 (.inl rfl) (by decide) ⟨sub_setL (by rfl), br_t rfl ⟨hl, W_E hK ?_⟩⟩
      refine LL.frozen (LC.mk (pick_ok (k := k) hK (put_self _ _ _) ho (by decide) (Nat.le_of_ble_eq_true rfl) fun v o' hv ho' => ?_))
      rw [put_put]
      refine hK' v o' ?_ ho'
      simp only [List.mem_cons, List.not_mem_nil, or_false] at hv
      rcases hv with rfl | rfl | rfl
      · exact ⟨_, rfl, .inl rfl⟩
      · exact ⟨_, rfl, .inr (.inl rfl)⟩
      · exact ⟨_, rfl, .inr (.inr rfl)⟩
    obtain ⟨is, rfl, his⟩ := isI_all hws
    rw [List.length_map] at hwl
    refine LC.mk (TC_tupleL (le_map (hwl ▸ hxl) rfl) ?_)
    refine gI_tupI (v := .str (LKof i).str) hi0 (Int.lt_trans hi3 (by decide)) ?_ ?_
    · have : i = 0 ∨ i = 1 ∨ i = 2 := by lia -matchEqs
      rcases this with rfl | rfl | rfl <;> rfl
    refine LC.mk (TC_less (draw_ok (k := k) (n := n) hK (put_self _ _ _) ho₃ (by decide) fun c o₄ hc0 hc1 ho₄ => ?_) (by lia -matchEqs))
    rw [put_put]
    exact back_same (q (.lin (LKof i) is xs (c - 3)) o₄ ⟨hxs, hwl, his⟩ ho₄)
  have hi3 : ¬ i < 3 := of_decide_eq_false hc
  clear hc hi3
  refine ifB.mk (fun hc => ?_) fun hc => ?_
  · refine LE.mk (T_UpToT (W_E hK (W_E hK ?_)))
    refine LC.mk (TC_less (draw_ok (k := k) (n := n + 9) hK (put_self _ _ _) ho₁ (by decide) fun j o₂ hj0 hj1 ho₂ => ?_) (by lia -matchEqs))
    rw [put_put]
    rcases two_ints hj0 hj1 with rfl | rfl
    · exact ⟨_, _, rfl, rfl, by decide, Nat.le_of_ble_eq_true rfl, back_same (q (.alld [0, 1]) o₂ (.inl rfl) (ho₂.less (Nat.le_add_right n 9)))⟩
    · exact ⟨_, _, rfl, rfl, by decide, Nat.le_of_ble_eq_true rfl, back_same (q (.alld [0, 1, 2]) o₂ (.inr rfl) (ho₂.less (Nat.le_add_right n 9)))⟩
  clear hc
  refine ifB.mk (fun hc => ?_) fun hc => ?_
  · refine L1.mk (T1_Assign_Comp (hkind := rfl) (hpl := plain1 ⟨rfl, fun ζ ζ => rfl⟩) (L := [Str.ofString "lap"]) rfl (fun env he => by cases env; cases he; rfl) (by decide) rfl (by rfl) ?_)
    refine TI_val (W_E hK ?_)
    refine LC.mk (TC_less (draw_ok (k := k) (n := n + 9) hK (put_self _ _ _) ho₁ (by decide) fun j o₂ hj0 hj1 ho₂ => ?_) (by lia -matchEqs))
    rw [put_put]
    refine LC.mk (TC_range1 (it_any (b := 4) (Int.add_nonneg (by decide) hj0) (Int.add_lt_add_left hj1 1) (by decide) fun L hL => ?_))
    have hrl : L.length ≤ 3 := hL ▸ tn_le (n := 3) (Int.add_lt_add_left hj1 1)
    rw [← List.map_id L]
    refine TLo_draws (R := isR) (c := 3) (n := n) (le_up hrl rfl) (ho₂.less (Nat.add_le_add_left (Nat.mul_le_mul_left 3 hrl) n)) (fun x hx acc K' m o hl ho hK' => ?_) fun ws o₃ hwl hws ho₃ => ?_
    · refine TA_1 (.inl rfl) (by decide) ⟨sub_setL (by rfl), br_t rfl ⟨hl, W_E hK ?_⟩⟩
      refine LE.mk (T_ListComp (hkind := rfl) (hpl := plain1 ⟨rfl, fun ζ ζ => rfl⟩) (L := [Str.ofString "x"]) (by decide) rfl (by rfl) (TI_val (W_E hK ?_)))
      refine LC.mk (TC_range1 (it_any (b := 4) (by decide) (by decide) (by decide) fun L hL => ?_))
      have hL : L.length = 3 := hL
      rw [← List.map_id L]
      refine TLo_draws (R := isI fun ζ => True) (c := 1) (n := m) (by rw [hL]; decide) (by rw [hL]; exact ho) (fun x hx acc K' m o hl ho hK' => ?_) fun ws o₃ hwl hws ho₃ => ?_
      · refine TA_1 (.inl rfl) (by decide) ⟨sub_setL (by rfl), br_t rfl ⟨hl, W_E hK ?_⟩⟩
        refine LC.mk (TC_less (draw_ok (k := k) hK (put_self _ _ _) ho (by decide) fun i o' hi0 hi1 ho' => ?_) (by lia -matchEqs))
        rw [put_put]
        exact hK' _ o' ⟨_, rfl, trivial⟩ ho'
      obtain ⟨is, rfl, his⟩ := isI_all hws
      have hil : is.length = 3 := (List.length_map _).symm.trans (hwl.trans hL)
      exact LC.mk (TC_tupleL (le_map (Nat.le_of_eq hil) rfl) (hK' _ o₃ ⟨is, rfl, hil⟩ ho₃))
    obtain ⟨rows, rfl, hrows⟩ := isR_all hws
    rw [List.length_map] at hwl
    refine ⟨_, rfl, ?_⟩
    have hrl := hwl ▸ hrl
    refine LC.mk (TC_tupleL (le_map hrl rfl) (back_same (q (.table rows) o₃ ⟨hrl, hrows⟩ ho₃)))
  clear hc
  refine ifB.mk (fun hc => ?_) fun hc => ?_
  · exact back_same (q .times o₁ trivial (ho₁.less (Nat.le_add_right n 10)))
  clear hc
  refine ifB.mk (fun hc => ?_) fun hc => ?_
  · exact back_same (q .max o₁ trivial (ho₁.less (Nat.le_add_right n 10)))
  clear hc
  refine ifB.mk (fun hc => ?_) fun hc => ?_
  · refine LC.mk (TC_less (draw_ok (k := k) (n := n + 9) hK (put_self _ _ _) ho₁ (by decide) fun j o₂ hj0 hj1 ho₂ => ?_) (by lia -matchEqs))
    rw [put_put]
    exact back_same (q (.count j) o₂ trivial (ho₂.less (Nat.le_add_right n 9)))
  clear hc
  refine ifB.mk (fun hc => ?_) fun hc => ?_
  · exact back_same (q .abs o₁ trivial (ho₁.less (Nat.le_add_right n 10)))
  clear hc
  refine LE.mk (T_ListComp (hkind := rfl) (hpl := plain1 ⟨rfl, fun ζ ζ => rfl⟩) (L := [Str.ofString "lap"]) (by decide) rfl (by rfl) (TI_val (W_E hK ?_)))
  refine LC.mk (TC_range1 (it_any (b := 4) (by decide) (by decide) (by decide) fun L hL => ?_))
  have hL : L.length = 3 := hL
  rw [← List.map_id L]
  refine TLo_draws (R := isI fun ζ => True) (c := 1) (n := n) (by rw [hL]; decide) (by rw [hL]; exact ho₁.less (Nat.add_le_add_left (by decide) n)) (fun x hx acc K' m o hl ho hK' => ?_) fun ws o₃ hwl hws ho₃ => ?_
  · refine TA_1 (.inl rfl) (by decide) ⟨sub_setL (by rfl), br_t rfl ⟨hl, W_E hK ?_⟩⟩
    refine LC.mk (TC_less (draw_ok (k := k) hK (put_self _ _ _) ho (by decide) fun i o' hi0 hi1 ho' => ?_) (by lia -matchEqs))
    rw [put_put]
    exact hK' _ o' ⟨_, rfl, trivial⟩ ho'
  obtain ⟨is, rfl, his⟩ := isI_all hws
  have hil : is.length = 3 := (List.length_map _).symm.trans (hwl.trans hL)
  exact LC.mk (TC_tupleL (le_map (Nat.le_of_eq hil) rfl) (back_same (q (.elof is) o₃ hil ho₃)))
end
end
end Tl
end

section
open PySem PySem.W PySem.Calls PyProof.Rows
set_option linter.unusedVariables false
set_option maxRecDepth 100000
set_option maxHeartbeats 0
namespace Tl
section
noncomputable def Lit.Ok (l : Lit) : Prop := (0 ≤ l.x ∧ l.x < 4) ∧ -1 ≤ l.k ∧ l.k < 4
noncomputable def Lit.t (l : Lit) : Int × Str × Int := (l.x, l.s.str, l.k)
theorem Sg.str_inj {s t : Sg} (h : s.str = t.str) : s = t := by cases s <;> cases t <;> first | rfl | (exact absurd h (by decide +kernel))
theorem Lit.t_inj {l m : Lit} (h : l.t = m.t) : l = m := by
  obtain ⟨x, s, k⟩ := l
  obtain ⟨y, t, j⟩ := m
  have h1 := Prod.mk.inj h
  have h2 := Prod.mk.inj h1.2
  rw [show x = y from h1.1, show s = t from Sg.str_inj h2.1, show k = j from h2.2]
theorem eqV_lit {l m : Lit} : eqV l.v m.v = true ↔ l = m := by
  constructor
  · intro h
    have h : (_ == _ && (_ == _ && (_ == _ && true))) = true := h
    simp only [Bool.and_eq_true, beq_iff_eq, Bool.and_true] at h
    exact Lit.t_inj (by unfold Lit.t; rw [h.1, h.2.1, h.2.2])
  · rintro rfl
    show (_ == _ && (_ == _ && (_ == _ && true))) = true
    rw [beq_self_eq_true, beq_self_eq_true, beq_self_eq_true]; rfl
theorem pl_lit (l : Lit) : pl 1 l.v = true := by
  obtain ⟨x, s, k⟩ := l
  cases s <;> kernel_rfl
theorem pls_lits : ∀ ls : List Lit, pls 1 (ls.map Lit.v) = true
  | [] => rfl
  | l :: ls => (Bool.and_eq_true _ _).mpr ⟨pl_lit l, pls_lits ls⟩
theorem any_lit (l : Lit) (ls : List Lit) : ((ls.map Lit.v).any fun y => eqV y l.v) = true ↔ l ∈ ls := by
  rw [List.any_eq_true]
  constructor
  · rintro ⟨y, hy, h⟩
    obtain ⟨m, hm, rfl⟩ := List.mem_map.mp hy
    exact (eqV_lit.mp h) ▸ hm
  · intro h
    exact ⟨_, List.mem_map.mpr ⟨l, h, rfl⟩, eqV_lit.mpr rfl⟩
section
variable {C : Cfg} {k : Nat} {sc : Scope} {fr : Fm} {p : P} {X : P → Prop}
theorem clause_ok (hK : HK C) {fd : Addr} {n : Nat} {o : O} {Q : V → P → Prop} (hf : p fd = some o) (ho : FeedO (n + 10) o) (q : ∀ (ls : List Lit) (o' : O), ls.length ≤ 3 → (∀ l ∈ ls, Lit.Ok l) → FeedO n o' → Q (.tup (ls.map Lit.v)) (put p fd o')) :
    TC C (k + 3) (.ref 432) [.ref fd] p Q X := by
  refine T_fn (X := X) (k := k + 2) hK (names := [Str.ofString "feed"]) rfl rfl (bind1 fun ζ => rfl) (by rfl) ?_
  refine W_S hK (LL.made fun a ha => ?_)
  have hne : a ≠ fd := fun z => by rw [z, hf] at ha; cases ha
  refine L1.mk (T1_For (ns := [Str.ofString "lap"]) (TI_val (W_E hK ?_)) (fun ζ ζ => rfl))
  have hf1 : put p a (.list []) fd = some o := by rw [put_ne _ _ hne.symm]; exact hf
  refine LC.mk (TC_less (draw_ok (k := k) (n := n + 9) hK hf1 ho (by decide) fun i o₁ hi0 hi1 ho₁ => ?_) (by lia -matchEqs))
  refine LC.mk (TC_range1 (it_any hi0 hi1 (by decide) fun L hL => ?_))
  have hL3 : L.length ≤ 3 := hL ▸ tn_le (n := 3) hi1
  refine TFor_J (fun r fr p' => X2 fun (ls : List Lit) (o : O) => A6 (p' = put (put p a (.list (ls.map Lit.v))) fd o) (FeedO (n + 3 * r.length) o) (ls.length + r.length ≤ 3) ls.Nodup (∀ l ∈ ls, Lit.Ok l) (Sub [(Str.ofString "feed", .ref fd), (Str.ofString "found", .ref a)] fr)) ⟨[], o₁, rfl, ho₁.less (Nat.add_le_add_left (Nat.mul_le_mul_left 3 hL3) n), by rw [List.length_nil, Nat.zero_add]; exact hL3, List.nodup_nil, by simp, by (repeat (first | exact sub_nil | exact Sub.refl _ | refine sub_cons (by rfl) ?_))⟩ ?_ ?_
  · rintro fr p' ⟨ls, o₂, rfl, ho₂, h3, h4, h5, hsub⟩
    have hla : put (put p a (.list (ls.map Lit.v))) fd o₂ a = some (.list (ls.map Lit.v)) := by rw [put_ne _ _ hne, put_self]
    refine TS_weak hsub (W_S hK ?_)
    have h3 : ls.length ≤ 3 := h3
    refine LC.mk (TC_sorted3 (f := Lit.t) hla h3 fun m hm => ?_)
    refine LC.mk (TC_tupleL (le_map (hm.length_eq ▸ h3) rfl) ?_)
    refine ⟨_, put p fd o₂, fun b => ?_, .same _, q m o₂ (by rw [hm.length_eq]; exact h3) (fun l hl => h5 l (hm.mem_iff.mp hl)) ho₂⟩
    by_cases e : b = fd
    · subst e; left; rw [put_self, put_self]
    · rw [put_ne _ _ e, put_ne _ _ e]
      by_cases e2 : b = a
      · subst e2; exact .inr ha
      · left; rw [put_ne _ _ e2]
  · rintro J' Q' hJ hQ v r fr p' ⟨ls, o₂, rfl, ho₂, h3, h4, h5, hsub⟩
    rw [List.length_cons] at ho₂ h3
    refine TA_weak hsub (TA_1 (.inl rfl) (by simp) (W_S hK ?_))
    refine LC.mk (TC_less (draw_ok (k := k) (n := n + 3 * r.length + 2) hK (put_self _ _ _) ho₂ (by decide) fun x o₃ hx0 hx1 ho₃ => ?_) (by lia -matchEqs))
    rw [put_put]
    refine LL.frozen (LC.mk (pick_ok (k := k) (n := n + 3 * r.length + 1) hK (put_self _ _ _) ho₃ (by decide) (Nat.le_of_ble_eq_true rfl) fun v o₄ hv ho₄ => ?_))
    rw [put_put]
    obtain ⟨s, rfl⟩ : ∃ s : Sg, v = .str s.str := by
      simp only [List.mem_cons, List.not_mem_nil, or_false] at hv
      rcases hv with rfl | rfl | rfl | rfl
      · exact ⟨.le, rfl⟩
      · exact ⟨.ge, rfl⟩
      · exact ⟨.eq, rfl⟩
      · exact ⟨.ne, rfl⟩
    refine LC.mk (TC_less (draw_ok (k := k) (n := n + 3 * r.length) hK (put_self _ _ _) ho₄ (by decide) fun i o₅ hi0 hi1 ho₅ => ?_) (by lia -matchEqs))
    rw [put_put]
    have hlok : Lit.Ok ⟨x, s, i - 1⟩ := ⟨⟨hx0, hx1⟩, Int.sub_le_sub_right hi0 1, Int.sub_lt_sub_right hi1 1⟩
    have hla : put (put p a (.list (ls.map Lit.v))) fd o₅ a = some (.list (ls.map Lit.v)) := by rw [put_ne _ _ hne, put_self]
    refine LQ.mk (OpC_notInR (hn := by decide) (a := Lit.v ⟨x, s, i - 1⟩) 1 1 hla (pl_lit _) (pls_lits ls) ?_)
    refine ifB.mk (fun hc => ?_) fun hc => ?_
    · have hni : (⟨x, s, i - 1⟩ : Lit) ∉ ls := fun h => by rw [(any_lit _ ls).mpr h] at hc; cases hc
      refine LM.append hla (LC.mk (TC_append hla (le_map (Nat.le_trans (Nat.le_add_right _ _) h3) rfl) ⟨rfl, ?_⟩))
      rw [← put_comm hne, put_put]
      refine hJ _ _ _ ⟨ls ++ [⟨x, s, i - 1⟩], o₅, by rw [List.map_append]; rfl, ho₅, by rw [List.length_append, Nat.add_assoc, Nat.add_comm _ r.length]; exact h3, ?_, fun m hm => ?_, by (repeat (first | exact sub_nil | exact Sub.refl _ | refine sub_cons (by rfl) ?_))⟩
      · rw [List.nodup_append]; exact ⟨h4, List.nodup_cons.mpr ⟨List.not_mem_nil, .nil⟩, fun x hx y hy e => hni (List.mem_singleton.mp hy ▸ e ▸ hx)⟩
      · rcases List.mem_append.mp hm with h | h
        · exact h5 m h
        · exact List.mem_singleton.mp h ▸ hlok
    · exact hJ _ _ _ ⟨ls, o₅, rfl, ho₅, Nat.le_of_lt h3, h4, h5, by (repeat (first | exact sub_nil | exact Sub.refl _ | refine sub_cons (by rfl) ?_))⟩
end
end
end Tl
end

section
open PySem PySem.W PySem.Calls PyProof.Rows
set_option linter.unusedVariables false
set_option maxRecDepth 100000
set_option maxHeartbeats 0
namespace Tl
section
noncomputable def LotOk (l : List Int) : Prop := l.Pairwise (· < ·) ∧ l ≠ [] ∧ l.length ≤ 3 ∧ ∀ v ∈ l, -1 ≤ v ∧ v ≤ 6
inductive LR (p p' : P) (fd a : Addr) : List Addr → List (List Int) → Prop
  | nil : LR p p' fd a [] []
  | cons {r : Addr} {l : List Int} {rs : List Addr} {ls : List (List Int)} (h1 : r ≠ fd) (h2 : r ≠ a) (h3 : p r = none) (h4 : p' r = some (.list (l.map .int))) (h : LR p p' fd a rs ls) : LR p p' fd a (r :: rs) (l :: ls)
theorem LR.put {p p' : P} {fd a b : Addr} {u : O} {rs : List Addr} {ls : List (List Int)} (h : LR p p' fd a rs ls) (hb : b = fd ∨ b = a ∨ b ∉ rs) : LR p (put p' b u) fd a rs ls := by
  induction h with
  | nil => exact .nil
  | @cons r l rs ls h1 h2 h3 h4 h ih =>
    have hr : r ≠ b := fun e => by
      rcases hb with z | z | z
      · exact h1 (e.trans z)
      · exact h2 (e.trans z)
      · exact z (by rw [e]; exact List.mem_cons_self)
    exact .cons h1 h2 h3 (by rw [put_ne _ _ hr]; exact h4) (ih (hb.imp_right fun z => z.imp_right fun z y => z (List.mem_cons_of_mem _ y)))
theorem LR.snoc {p p' : P} {fd a r : Addr} {l : List Int} {rs : List Addr} {ls : List (List Int)} (h : LR p p' fd a rs ls) (h1 : r ≠ fd) (h2 : r ≠ a) (h3 : p r = none) (h4 : p' r = some (.list (l.map .int))) : LR p p' fd a (rs ++ [r]) (ls ++ [l]) := by
  induction h with
  | nil => exact .cons h1 h2 h3 h4 .nil
  | cons g1 g2 g3 g4 _ ih => exact .cons g1 g2 g3 g4 ih
theorem LR.tracked {p p' : P} {fd a r : Addr} {rs : List Addr} {ls : List (List Int)} (h : LR p p' fd a rs ls) (hr : p' r = none) : r ∉ rs := by
  induction h with
  | nil => simp
  | @cons r' l rs ls h1 h2 h3 h4 h ih =>
    intro z
    rcases List.mem_cons.mp z with e | e
    · rw [e, h4] at hr; cases hr
    · exact ih e
theorem LR.len {p p' : P} {fd a : Addr} {rs : List Addr} {ls : List (List Int)} (h : LR p p' fd a rs ls) : rs.length = ls.length := by
  induction h with
  | nil => rfl
  | cons _ _ _ _ _ ih => simp [ih]
theorem LR.conv {p p' : P} {fd a : Addr} {o : O} {rs : List Addr} {ls : List (List Int)} {t : List V} (h : LR p p' fd a rs ls) : CvL p' (Tl.put p fd o) (rs.map V.ref ++ t) (ls.map (fun l => V.lst (l.map .int)) ++ t) := by
  induction h with
  | nil =>
    show CvL _ _ t t
    induction t with
    | nil => exact .nil
    | cons x t ih => exact .cons (.same x) ih
  | @cons r l rs ls h1 h2 h3 h4 h ih =>
    refine .cons (.frz h4 (by rw [put_ne _ _ h1]; exact h3) ?_) ih
    generalize l.map V.int = m
    induction m with
    | nil => exact .nil
    | cons x t ih => exact .cons (.same x) ih
theorem lot_first {x : Int} {m : Nat} (h0 : 0 ≤ x) (h1 : x < 4) (hm : m ≤ 2) : ∀ v ∈ [x - 1], -1 ≤ v ∧ v ≤ 6 - 2 * (m : Int) := fun v hv => by rw [List.mem_singleton.mp hv]; lia -matchEqs
theorem lot_step {l : List Int} {z d : Int} {m : Nat} (h6 : (l ++ [z]).Pairwise (· < ·)) (h8 : ∀ v ∈ l ++ [z], -1 ≤ v ∧ v ≤ 6 - 2 * ((m + 1 : Nat) : Int)) (d1 : 1 ≤ d) (d2 : d ≤ 2) : (l ++ [z] ++ [z + d]).Pairwise (· < ·) ∧ ∀ v ∈ l ++ [z] ++ [z + d], -1 ≤ v ∧ v ≤ 6 - 2 * (m : Int) := by
  have hm : z ∈ l ++ [z] := List.mem_append.mpr (.inr (.head _))
  have hz : z < z + d := Int.lt_add_of_pos_right z (Int.lt_of_lt_of_le (by decide) d1)
  have h9 := (h8 z hm).1
  have h10 := (h8 z hm).2
  refine ⟨List.pairwise_append.mpr ⟨h6, List.pairwise_singleton _ _, fun u hu v hv => ?_⟩, fun v hv => ?_⟩
  · rw [List.mem_singleton.mp hv]
    rcases List.mem_append.mp hu with h | h
    · exact Int.lt_trans ((List.pairwise_append.mp h6).2.2 u h z (.head _)) hz
    · rw [List.mem_singleton.mp h]; exact hz
  · clear h6
    rcases List.mem_append.mp hv with h | h
    · exact ⟨(h8 v h).1, Int.le_trans (h8 v h).2 (Int.sub_le_sub_left (Int.mul_le_mul_of_nonneg_left (Int.ofNat_le.mpr (Nat.le_succ m)) (by decide)) 6)⟩
    · rw [List.mem_singleton.mp h]
      clear h8 hv h hm hz
      lia -matchEqs
theorem le_put2 {p p' : P} {fd b : Addr} {o u : O} (h : Le (put p fd o) p') (hb : b ≠ fd) (hn : p b = none) : Le (put p fd o) (put p' b u) := fun x => by
  by_cases e : x = b
  · subst e; right; rw [put_ne _ _ hb]; exact hn
  · rw [put_ne _ _ e]; exact h x
theorem le_put3 {p p' : P} {fd : Addr} {o u : O} (h : Le (put p fd o) p') : Le (put p fd u) (put p' fd u) := fun x => by
  by_cases e : x = fd
  · subst e; left; rw [put_self, put_self]
  · have := h x
    rw [put_ne _ _ e] at this ⊢
    rw [put_ne _ _ e]; exact this
section
variable {C : Cfg} {k : Nat} {sc : Scope} {fr : Fm} {p : P} {X : P → Prop}
theorem lots_ok (hK : HK C) {fd : Addr} {n : Nat} {o : O} {Q : V → P → Prop} (hf : p fd = some o) (ho : FeedO (n + 12) o) (q : ∀ (ls : List (List Int)) (o' : O), ls.length = 3 → (∀ l ∈ ls, LotOk l) → FeedO n o' → Q (.lst (ls.map (fun l => V.lst (l.map .int)) ++ [.lst [.int 0, .int 1]])) (put p fd o')) :
    TC C (k + 3) (.ref 408) [.ref fd] p Q X := by
  refine T_fn (X := X) (k := k + 2) hK (names := [Str.ofString "feed"]) rfl rfl (bind1 fun ζ => rfl) (by rfl) ?_
  refine W_S hK (LL.made fun a ha => ?_)
  have hne : a ≠ fd := fun z => by rw [z, hf] at ha; cases ha
  refine L1.mk (T1_For (ns := [Str.ofString "x"]) (TI_val (W_E hK ?_)) (fun ζ ζ => rfl))
  refine LC.mk (TC_range1 (it_any (b := 4) (by decide) (by decide) (by decide) fun L hL => ?_))
  refine TFor_J (fun r fr p' => X3 fun (rs : List Addr) (ls : List (List Int)) (o : O) => A7 (p' a = some (.list (rs.map .ref))) (LR p p' fd a rs ls) (Le (put p fd o) p') (FeedO (n + 4 * r.length) o) (ls.length + r.length = 3) (∀ l ∈ ls, LotOk l) (Sub [(Str.ofString "feed", .ref fd), (Str.ofString "found", .ref a)] fr)) ⟨[], [], o, put_self _ _ _, .nil, by rw [show put p fd o = p from put_same hf]; exact Le.put ha, by rw [hL]; exact ho, by rw [hL]; rfl, (fun ζ h => nomatch h), by (repeat (first | exact sub_nil | exact Sub.refl _ | refine sub_cons (by rfl) ?_))⟩ ?_ ?_
  · rintro fr p' ⟨rs, ls, o, g1, g2, g3, g4, g5, g6, hsub⟩
    refine TS_weak hsub (W_S hK ?_)
    have g5 : ls.length = 3 := g5
    refine LL.frozen (LL.frozen (LB.mk (OpB_addRL g1 (by rw [List.length_map, g2.len, g5]; exact Nat.le_of_ble_eq_true rfl) ?_)))
    exact ⟨_, put p fd o, g3, .lst g2.conv, q ls o g5 g6 g4⟩
  · rintro J₁ Q₁ hJ₁ hQ₁ v r fr p' ⟨rs, ls, o, g1, g2, g3, g4, g5, g6, hsub⟩
    rw [List.length_cons] at g4 g5
    refine TA_weak hsub (TA_1 (.inl rfl) (by simp) (W_S hK ?_))
    have hf1 : p' fd = some o := g3.at (put_self _ _ _)
    refine LC.mk (TC_less (draw_ok (k := k) (n := n + 4 * r.length + 3) hK hf1 (g4.less (Nat.le_refl _)) (by decide) fun x o₁ hx0 hx1 ho₁ => ?_) (by lia -matchEqs))
    refine LL.made fun lo hlo => ?_
    have hlf : lo ≠ fd := fun z => by rw [z, put_self] at hlo; cases hlo
    rw [put_ne _ _ hlf] at hlo
    have hla : lo ≠ a := fun z => by rw [z, g1] at hlo; cases hlo
    have hpl : p lo = none := by
      have := g3 lo
      rw [put_ne _ _ hlf] at this
      exact this.elim (fun z => z.trans hlo) id
    have g2' := g2.tracked hlo
    refine L1.mk (T1_For (ns := [Str.ofString "more"]) (TI_val (W_E hK ?_)) (fun ζ ζ => rfl))
    have hf2 : put (put p' fd o₁) lo (.list [.int (x - 1)]) fd = some o₁ := by rw [put_ne _ _ hlf.symm, put_self]
    refine LC.mk (TC_less (draw_ok (k := k) (n := n + 4 * r.length + 2) hK hf2 ho₁ (by decide) fun y o₂ hy0 hy1 ho₂ => ?_) (by lia -matchEqs))
    refine LC.mk (TC_range1 (it_any hy0 hy1 (by decide) fun L hL => ?_))
    have hL2 : L.length ≤ 2 := hL ▸ tn_le (n := 2) hy1
    refine TFor_J (fun r2 fr p' => X3 fun (l : List Int) (z : Int) (o : O) => A9 (p' a = some (.list (rs.map .ref))) (LR p p' fd a rs ls) (Le (put p fd o) p') (FeedO (n + 4 * r.length + r2.length) o) (p' lo = some (.list (l.map .int ++ [.int z]))) ((l ++ [z]).Pairwise (· < ·)) ((l ++ [z]).length + r2.length ≤ 3) (∀ v ∈ l ++ [z], -1 ≤ v ∧ v ≤ 6 - 2 * (r2.length : Int)) (Sub [(Str.ofString "feed", .ref fd), (Str.ofString "found", .ref a), (Str.ofString "lot", .ref lo)] fr)) ⟨[], x - 1, o₂, ?_, ?_, ?_, ho₂.less (Nat.add_le_add_left hL2 _), ?_, List.pairwise_singleton _ _, Nat.add_le_add_left hL2 1, lot_first hx0 hx1 hL2, by (repeat (first | exact sub_nil | exact Sub.refl _ | refine sub_cons (by rfl) ?_))⟩ ?_ ?_
    · rw [put_ne _ _ hne, put_ne _ _ hla.symm, put_ne _ _ hne]; exact g1
    · exact ((g2.put (.inl rfl)).put (.inr (.inr g2'))).put (.inl rfl)
    · exact le_put3 (le_put2 (le_put3 g3) hlf hpl)
    · rw [put_ne _ _ hlf, put_self]; rfl
    · rintro fr p' ⟨l, z, o, k1, k2, k3, k4, k5, k6, k7, k8, hsub⟩
      refine TS_weak hsub (W_S hK ?_)
      refine LM.append k1 (LC.mk (TC_append k1 (by rw [List.length_map, k2.len]; exact le_up (Nat.le.intro g5) rfl) ⟨rfl, ?_⟩))
      refine hJ₁ _ _ _ ⟨rs ++ [lo], ls ++ [l ++ [z]], o, by rw [put_self, List.map_append]; rfl, ?_, ?_, k4, by rw [List.length_append, Nat.add_assoc, Nat.add_comm [l ++ [z]].length]; exact g5, fun m hm => ?_, by (repeat (first | exact sub_nil | exact Sub.refl _ | refine sub_cons (by rfl) ?_))⟩
      · exact (k2.put (.inr (.inl rfl))).snoc hlf hla hpl (by rw [put_ne _ _ hla, k5, List.map_append]; rfl)
      · exact le_put2 k3 hne ha
      · rcases List.mem_append.mp hm with h | h
        · exact g6 m h
        · rw [List.mem_singleton.mp h]
          exact ⟨k6, List.append_ne_nil_of_right_ne_nil _ (List.cons_ne_nil _ _), k7, fun v hv => ⟨(k8 v hv).1, Int.le_trans (k8 v hv).2 (Int.sub_le_self 6 (by decide))⟩⟩
    · rintro J₂ Q₂ hJ₂ hQ₂ v r2 fr p' ⟨l, z, o, k1, k2, k3, k4, k5, k6, k7, k8, hsub⟩
      rw [List.length_cons] at k4 k7 k8
      refine TA_weak hsub (TA_1 (.inl rfl) (by simp) (W_S hK ?_))
      refine LM.append k5 ?_
      refine LG.mk (GetI_ref (hlo := by decide) (hhi := by decide) (i := -1) (j := l.length) (v := .int z) k5 (by rw [List.length_append, List.length_map]; exact seq_last (Nat.succ_pos _)) (by rw [List.getElem?_append_right (Nat.le_of_eq (List.length_map _)), List.length_map, Nat.sub_self]; rfl) ?_)
      have hf3 : p' fd = some o := k3.at (put_self _ _ _)
      refine LC.mk (TC_less (draw_ok (k := k) (n := n + 4 * r.length + r2.length) hK hf3 k4 (by decide) fun w o₃ hw0 hw1 ho₃ => ?_) (by lia -matchEqs))
      have k5' : put p' fd o₃ lo = some (.list (l.map .int ++ [.int z])) := by rw [put_ne _ _ hlf]; exact k5
      have hstep := fun d => lot_step (d := d) k6 k8
      have h7 : (l ++ [z]).length ≤ 3 := Nat.le_trans (Nat.le_add_right _ _) k7
      have hap : (l.map V.int ++ [V.int z]).length ≤ 1000000 := by rw [List.length_append, List.length_map]; exact le_up (List.length_append ▸ h7) rfl
      have h71 : ∀ u : Int, (l ++ [z] ++ [u]).length + r2.length ≤ 3 := fun u => by rw [List.length_append (as := l ++ [z]), Nat.add_assoc, Nat.add_comm _ r2.length]; exact k7
      have hLR : ∀ u, LR p (put (put p' fd o₃) lo u) fd a rs ls := fun u => (k2.put (.inl rfl)).put (.inr (.inr g2'))
      have hLe : ∀ u, Le (put p fd o₃) (put (put p' fd o₃) lo u) := fun u => le_put2 (le_put3 k3) hlf hpl
      have hA : ∀ u, put (put p' fd o₃) lo u a = some (.list (rs.map .ref)) := fun u => by rw [put_ne _ _ hla.symm, put_ne _ _ hne]; exact k1
      refine ifB.mk (fun hc => ?_) fun hc => ?_
      · refine LC.mk (TC_append k5' hap ⟨rfl, ?_⟩)
        exact hJ₂ _ _ _ ⟨l ++ [z], z + 2, o₃, hA _, hLR _, hLe _, ho₃, by rw [put_self, List.map_append]; rfl, (hstep 2 (by decide) (by decide)).1, h71 _, (hstep 2 (by decide) (by decide)).2, by (repeat (first | exact sub_nil | exact Sub.refl _ | refine sub_cons (by rfl) ?_))⟩
      · refine LC.mk (TC_append k5' hap ⟨rfl, ?_⟩)
        exact hJ₂ _ _ _ ⟨l ++ [z], z + 1, o₃, hA _, hLR _, hLe _, ho₃, by rw [put_self, List.map_append]; rfl, (hstep 1 (by decide) (by decide)).1, h71 _, (hstep 1 (by decide) (by decide)).2, by (repeat (first | exact sub_nil | exact Sub.refl _ | refine sub_cons (by rfl) ?_))⟩
end
end
end Tl
end

section
open PySem PySem.W PySem.Calls PyProof.Rows
set_option linter.unusedVariables false
set_option maxRecDepth 100000
set_option maxHeartbeats 0
namespace Tl
section
section
variable {C : Cfg} {k : Nat} {sc : Scope} {fr : Fm} {p : P} {X : P → Prop}
theorem judge_new (hK : HK C) {np pos : Pos} {e e2 : Expr} {Dv : List V} {m : Int} {Q : V → P → Prop} (hk : sc.names.lookup (Str.ofString "StepJudge") = some .globalImplicit)
    (he : plainE e = true) (he2 : plainE e2 = true) (h : TE C (k + 2) sc fr p e (fun v p₁ => TE C (k + 2) sc fr p₁ e2 (fun u p₂ => v = .lst Dv ∧ u = .int m ∧ ∀ x p₃, Le p₂ p₃ → IsInst C p₃ x 383 [(Str.ofString "domains", .lst Dv), (Str.ofString "most", .int m)] → Q (.ref x) p₃) X) X) :
    TE C (k + 2) sc fr p (.Call (.Name (Str.ofString "StepJudge") np) [e, e2] [] pos) Q X := by
  refine T_Class (hd := by decide +kernel) (k := k + 1) (Cl := 383) (fI := 341) hk (by rw [hK]; kernel_rfl) (by rw [hK]; kernel_rfl) (by rw [hK]; kernel_rfl) (by rw [hK]; kernel_rfl) (by rw [hK]; kernel_rfl) ?_ (plain_star he) (fun ζ => by rw [plain_star he2]; rfl)
  refine TAs_cons (TE_post h fun v p₁ h₁ => ?_) (plain_star he)
  refine TAs_cons (TE_post h₁ fun u p₂ h₂ => ?_) (plain_star he2)
  refine TAs_nil fun a dx ha hdx hne => ?_
  obtain ⟨rfl, rfl, h₁⟩ := h₂
  refine T_fnC (X := X) (k := k) hK (names := [Str.ofString "self", Str.ofString "domains", Str.ofString "most"]) rfl rfl (bind3 fun ζ ζ ζ => rfl) (by rfl) ?_
  have e1 : put (put p₂ dx (.attrs [])) a (.inst 383 dx) dx = some (.attrs []) := by rw [put_ne _ _ hne.symm, put_self]
  refine W_S hK (LZ.mk (put_self _ _ _) e1 (by rw [hK]; kernel_rfl) (by decide) ?_)
  refine LZ.mk (Cl := 383) (dx := dx) (l := [(Str.ofString "domains", .lst Dv)]) ?_ ?_ (by rw [hK]; kernel_rfl) (Nat.le_of_ble_eq_true rfl) ?_
  · rw [put_ne _ _ hne, put_self]
  · rw [put_self]; rfl
  refine back_same ⟨rfl, h₁ a _ ?_ ⟨dx, ?_, put_self _ _ _⟩⟩
  · intro b
    by_cases e1 : b = dx
    · exact .inr (e1 ▸ hdx)
    by_cases e3 : b = a
    · exact .inr (e3 ▸ ha)
    rw [put_ne _ _ e1, put_ne _ _ e1, put_ne _ _ e3, put_ne _ _ e1]
    exact .inl rfl
  · rw [put_ne _ _ hne, put_ne _ _ hne, put_self]
theorem answer_ok (hK : HK C) (hE : C.exc = 262) (hP : PyOk C) {x : Addr} {Dv : List V} {f : Int → List (Int × Int)} {told : Told} {ls : List Lit} {most : Int} {Q : V → P → Prop} (hj : IsInst C p x 383 [(Str.ofString "domains", .lst Dv), (Str.ofString "most", .int most)]) (h6 : Dv.length = 4) (h7 : ∀ y : Int, 0 ≤ y → y < 4 → (Dv[y.toNat]?).getD .none = ivV (f y))
    (ht : told.Ok) (hls : ∀ l ∈ ls, 0 ≤ l.x ∧ l.x < 4) (hlen : ls.length ≤ 7) (hfl : ∀ y, (f y).length ≤ 3) {rd rt : Bool}
    (hg : ∀ g, denyM f ls = some g → (∀ y ∈ told.vars, g y ≠ [] ∧ Sm (g y) ∧ valsM (g y) ≠ [] ∧ (valsM (g y)).length ≤ 1000 ∧ (sizeM (g y)).natAbs ≤ 1000) ∧ (∀ xs, told = .alld xs → Differ (xs.map fun y => valsM (g y)) 0 [] rd) ∧
      (∀ ss, ValidS ss (told.vars.map fun y => valsM (g y)) → (asgF told.vars (pickS ss (told.vars.map fun y => valsM (g y))) 0).natAbs < 2 ^ 63) ∧
      (rt = true ↔ ∃ ss, ValidS ss (told.vars.map fun y => valsM (g y)) ∧ told.sat (asgF told.vars (pickS ss (told.vars.map fun y => valsM (g y)))) = true))
    (q : (denyM f ls = none → Q (.bool true) p) ∧ ∀ g, denyM f ls = some g → (∀ b, followsM g most rd rt told = some b → Q (.bool b) p) ∧ (followsM g most rd rt told = none → Q .none p)) :
    TC C (k + 7) (.ref 444) [.ref x, told.v, .tup (ls.map Lit.v)] p Q X := by
  refine TCC.tc (T_fnf (X := X) (k := k + 6) hK (names := [Str.ofString "judge", Str.ofString "told", Str.ofString "clause"]) rfl rfl (bind3 fun ζ ζ ζ => rfl) (by rfl) ?_)
  refine T_Try (hd := by decide +kernel) (X' := fun p' => Le p p' ∧ Q .none p) rfl (by rw [hK, hE]; rfl) (by rw [hK, hE]; kernel_rfl) ?_ fun p' hx => back_le hx.1 hx.2
  · refine W_E hK (LM.own hj (f := 346) (by rw [hK]; kernel_rfl) rfl ?_)
    exact LC.mk (follows_ok (k := k) hK hE hP hj h6 h7 ht hls hlen hfl hg ⟨fun e => back_same (q.1 e), fun g e => ⟨fun b hb => back_same ((q.2 g e).1 b hb), fun hn p' hle => ⟨hle, (q.2 g e).2 hn⟩⟩⟩)
end
end
end Tl
end

section
open PySem PySem.W PySem.Calls PyProof.Rows
set_option linter.unusedVariables false
set_option maxRecDepth 100000
set_option maxHeartbeats 0
namespace Tl
section
noncomputable def prodP : List (List Int) → List (List Int) → List (List Int)
  | pts, [] => pts
  | pts, l :: r => prodP (pts.flatMap fun pt => l.map fun v => pt ++ [v]) r
noncomputable def ptL (pt : List Int) : Int → Int := ptF (pt.getD 0 0) (pt.getD 1 0) (pt.getD 2 0) (pt.getD 3 0)
noncomputable def hitM (told : Told) (ls : List Lit) (pt : List Int) : Bool := told.sat (ptL pt) && ls.all fun l => !l.says (ptL pt l.x)
noncomputable def dueM (L : List (List Int)) (told : Told) (ls : List Lit) : Bool := !((prodP [[]] L).any (hitM told ls))
noncomputable def lotF (L : List (List Int)) (x : Int) : List Int := L.getD x.toNat []
noncomputable def LotsOk (L : List (List Int)) : Prop := ∃ ls : List (List Int), ls.length = 3 ∧ (∀ l ∈ ls, LotOk l) ∧ L = ls ++ [[0, 1]]
noncomputable def Judged (L : List (List Int)) (told : Told) (ls : List Lit) : Prop := ∃ rd rt, (∀ y, (fromM (lotF L y)).length ≤ 3) ∧
  (∀ g, denyM (fun y => fromM (lotF L y)) ls = some g → (∀ y ∈ told.vars, g y ≠ [] ∧ Sm (g y) ∧ valsM (g y) ≠ [] ∧ (valsM (g y)).length ≤ 1000 ∧ (sizeM (g y)).natAbs ≤ 1000) ∧ (∀ xs, told = .alld xs → Differ (xs.map fun y => valsM (g y)) 0 [] rd) ∧
      (∀ ss, ValidS ss (told.vars.map fun y => valsM (g y)) → (asgF told.vars (pickS ss (told.vars.map fun y => valsM (g y))) 0).natAbs < 2 ^ 63) ∧
      (rt = true ↔ ∃ ss, ValidS ss (told.vars.map fun y => valsM (g y)) ∧ told.sat (asgF told.vars (pickS ss (told.vars.map fun y => valsM (g y)))) = true)) ∧
  (denyM (fun y => fromM (lotF L y)) ls = none → dueM L told ls = true) ∧
  ∀ g, denyM (fun y => fromM (lotF L y)) ls = some g → followsM g 1000 rd rt told = some (dueM L told ls) ∧ ∀ most, (∀ b, followsM g most rd rt told = some b → b = dueM L told ls) ∧
    (followsM g most rd rt told = none → most < leftM (lotF L) told.vars ls 1 ∧ told.isAT = false ∧ ∀ coefs xs c, told = .lin .le coefs xs c → dueM L told ls = false)
theorem Told.vars_in {told : Told} (h : told.Ok) : ∀ x ∈ told.vars, 0 ≤ x ∧ x < 3 := by
  cases told with
  | lin s coefs xs c => rcases h.1 with rfl | rfl <;> simp [Told.vars]
  | alld xs => rcases h with rfl | rfl <;> simp [Told.vars]
  | _ => simp [Told.vars]
theorem pl_repr (b : Bool) : pl 0 (.str (reprB b)) = true := by cases b <;> decide +kernel
theorem pts_len (lot : List Int) : ∀ pts : List (List Int), (pts.flatMap fun pt => lot.map fun v => pt ++ [v]).length = pts.length * lot.length
  | [] => by simp
  | x :: l => by rw [List.flatMap_cons, List.length_append, pts_len lot l, List.length_map, List.length_cons, Nat.add_mul, Nat.one_mul, Nat.add_comm]
theorem pts_tI (lot : List Int) : ∀ ps : List (List Int), (ps.flatMap fun pt => lot.map fun v => tI (pt ++ [v])) = (ps.flatMap fun pt => lot.map fun v => pt ++ [v]).map tI
  | [] => rfl
  | x :: l => by rw [List.flatMap_cons, List.flatMap_cons, List.map_append, pts_tI lot l, List.map_map]; rfl
theorem tI_flat (pt : List Int) : ∀ l : List Int, (l.flatMap fun v => [tI (pt ++ [v])]) = l.map fun v => tI (pt ++ [v])
  | [] => rfl
  | x :: l => by rw [List.flatMap_cons, tI_flat pt l]; rfl
noncomputable def Told.nm (t : Told) : Str := match t.v with
  | .tup (.str s :: _) => s
  | _ => Str.empty
noncomputable def Told.tl (t : Told) : List V := match t.v with
  | .tup (_ :: l) => l
  | _ => []
theorem Told.v_eq (t : Told) : t.v = .tup (.str t.nm :: t.tl) := by cases t <;> rfl
theorem Told.nm_pl (t : Told) : pl 0 (.str t.nm) = true := by
  cases t with
  | lin s => cases s <;> kernel_rfl
  | _ => kernel_rfl
theorem Told.nm_at (t : Told) : ([V.str (Str.ofString "all_different"), .str (Str.ofString "table")].any fun y => eqV y (.str t.nm)) = t.isAT := by
  cases t with
  | lin s => cases s <;> kernel_rfl
  | _ => kernel_rfl
theorem Told.nm_le (t : Told) (h : (t.nm == Str.ofString "linear_le") = true) : ∃ coefs xs c, t = .lin .le coefs xs c := by
  cases t with
  | lin s coefs xs c => cases s with
    | le => exact ⟨coefs, xs, c, rfl⟩
    | _ => exact Bool.noConfusion (h.symm.trans (show (_ == Str.ofString "linear_le") = false by kernel_rfl))
  | _ => exact Bool.noConfusion (h.symm.trans (show (_ == Str.ofString "linear_le") = false by kernel_rfl))
theorem four {pt : List Int} (h : pt.length = 4) : X4 fun a b c d => pt = [a, b, c, d] := by
  rcases pt with _ | ⟨a, _ | ⟨b, _ | ⟨c, _ | ⟨d, _ | ⟨e, r⟩⟩⟩⟩⟩
  · cases h
  · cases h
  · cases h
  · cases h
  · exact ⟨a, b, c, d, rfl⟩
  · cases h
theorem lots_len {L : List (List Int)} (h : LotsOk L) : L.length = 4 := by
  obtain ⟨ls, h, -, rfl⟩ := h
  rw [List.length_append, h]; rfl
theorem lots_all {L : List (List Int)} (h : LotsOk L) : ∀ l ∈ L, A3 (l.length ≤ 3) (l.Pairwise (· < ·)) (∀ v ∈ l, v.natAbs ≤ 6) := by
  obtain ⟨ls, -, ho, rfl⟩ := h
  intro l h
  rcases List.mem_append.mp h with h | h
  · exact ⟨(ho l h).2.2.1, (ho l h).1, fun v hv => by have := (ho l h).2.2.2 v hv; lia -matchEqs⟩
  · rw [List.mem_singleton.mp h]; exact ⟨by decide, by decide, by decide⟩
theorem feed_init {script : List Int} : FeedO 1000 (.ds [(Str.ofString "cells", .lst ((script.map V.int).take (48 : Int).toNat)), (Str.ofString "spot", .int 0)]) := ⟨script.take 48, 0, by rw [List.length_take]; exact Nat.min_le_left _ _, by decide, by decide, by rw [List.map_take]; rfl⟩
theorem pts_step {pts : List (List Int)} {lot : List Int} {n : Nat} (h : ∀ pt ∈ pts, pt.length + (n + 1) = 4 ∧ ∀ v ∈ pt, v.natAbs ≤ 6) (hl : ∀ v ∈ lot, v.natAbs ≤ 6) : ∀ pt ∈ pts.flatMap fun pt => lot.map fun v => pt ++ [v], pt.length + n = 4 ∧ ∀ v ∈ pt, v.natAbs ≤ 6 := fun pt hpt => by
  obtain ⟨pt0, h0, hpt⟩ := List.mem_flatMap.mp hpt
  obtain ⟨v, hv, rfl⟩ := List.mem_map.mp hpt
  refine ⟨by rw [List.length_append, Nat.add_assoc, Nat.add_comm _ n]; exact (h pt0 h0).1, fun w hw => ?_⟩
  rcases List.mem_append.mp hw with hw | hw
  · exact (h pt0 h0).2 w hw
  · rw [List.mem_singleton.mp hw]; exact hl v hv
theorem pts_cnt {m n k : Nat} (h : m * 3 ^ (n + 1) ≤ 81) (hk : k ≤ 3) : m * k * 3 ^ n ≤ 81 ∧ m * k ≤ 243 := by
  rw [Nat.pow_succ, Nat.mul_comm (3 ^ n), ← Nat.mul_assoc] at h
  have h1 := Nat.le_trans (Nat.mul_le_mul_right (3 ^ n) (Nat.mul_le_mul_left m hk)) h
  exact ⟨h1, Nat.le_trans (Nat.le_mul_of_pos_right _ (Nat.pow_pos (by decide))) (Nat.le_trans h1 (by decide))⟩
theorem lot_at {L : List (List Int)} {x : Int} (h0 : 0 ≤ x) (h4 : x < L.length) : L[x.toNat]? = some (lotF L x) := by
  unfold lotF
  rw [List.getD_eq_getElem?_getD, List.getElem?_eq_getElem (tn_lt h0 h4)]; rfl
section
variable {C : Cfg} {k : Nat} {sc : Scope} {fr : Fm} {p : P} {X : P → Prop}
theorem law_ok (hK : HK C) (hE : C.exc = 262) (hP : PyOk C) (hJ : ∀ L told ls, LotsOk L → Told.Ok told → ls.length ≤ 3 → (∀ l ∈ ls, Lit.Ok l) → Judged L told ls) {script : List Int} {Q : V → P → Prop} (hl : script.length ≤ 63) (q : ∀ p', Q (.bool true) p') :
    TC C (k + 9) (.ref 449) [.lst (script.map .int)] p Q X := by
  refine T_fn (X := X) (k := k + 8) hK (names := [Str.ofString "script"]) rfl rfl (bind1 fun ζ => rfl) (by rfl) ?_
  refine W_S hK (LE.mk (T_DictS2 (by decide +kernel) fun fd hfd => W_E hK ?_))
  refine LE.mk (T_UpToL (hg := by intro _ _; rfl) (W_E hK (W_E hK ⟨_, _, rfl, rfl, by decide, le_map hl rfl, ?_⟩)))
  refine LC.mk (TC_listL (by rw [List.length_take]; exact Nat.le_trans (Nat.min_le_left _ _) (by decide)) (W_E hK ⟨put_self _ _ _, ?_⟩))
  rw [put_put]
  have ho := feed_init (script := script)
  revert ho
  generalize O.ds [(Str.ofString "cells", V.lst ((script.map V.int).take (48 : Int).toNat)), (Str.ofString "spot", .int 0)] = o
  intro ho
  refine LC.mk (TC_less (lots_ok (k := k) (n := 988) hK (put_self _ _ _) ho fun ls o₁ hls hlo ho₁ => ?_) (by lia -matchEqs))
  rw [put_put]
  obtain ⟨L, hLe⟩ : ∃ L, L = ls ++ [[0, 1]] := ⟨_, rfl⟩
  have hL : LotsOk L := ⟨ls, hls, hlo, hLe⟩
  have hL4 := lots_len hL
  have hLl := lots_all hL
  have e1 : (ls.map (fun l => V.lst (l.map .int)) ++ [.lst [.int 0, .int 1]]) = L.map (fun l => V.lst (l.map .int)) := by rw [hLe, List.map_append]; rfl
  rw [e1]
  clear e1 hLe hlo hls ls
  generalize hp2 : put p fd o₁ = p2
  have hf2 : p2 fd = some o₁ := by rw [← hp2, put_self]
  clear hp2 ho hfd hl o
  refine L1.mk (T1_Assign_swap (names := [Str.ofString "domains", Str.ofString "points"]) (W_E hK ?_) (by decide) (fun env he => by cases env; cases he; rfl))
  refine LE.mk (T_ListComp (hkind := rfl) (hpl := plain1 ⟨rfl, fun ζ ζ => rfl⟩) (L := [Str.ofString "lot"]) (by decide) rfl (by rfl) (TI_val (W_E hK ?_)))
  refine ⟨_, .lst _, ?_⟩
  refine TLo_map (g := fun l => ivV (fromM l)) (by rw [hL4]; decide) (fun l hlm acc K' hla hK' => ?_) ?_
  · refine TA_1 (.inl rfl) (by decide) ⟨sub_setL (by rfl), br_t rfl ⟨hla, W_E hK ?_⟩⟩
    refine LC.mk (TC_less (from_values_ok (k := 0) hK (Nat.lt_of_le_of_lt (hLl l hlm).1 (by decide)) fun ms hm hs => ?_) (by lia -matchEqs))
    have : ms = l := List.Perm.eq_of_pairwise (le := (· ≤ ·)) (fun a b ζ ζ h g => Int.le_antisymm h g) hs ((hLl l hlm).2.imp fun h => Int.le_of_lt h) hm
    rw [this]; exact hK'
  refine LL.frozen ⟨_, _, rfl, rfl, rfl, ?_⟩
  refine L1.mk (T1_For (ns := [Str.ofString "lot"]) (TI_val (W_E hK ?_)) (fun ζ ζ => rfl))
  refine ⟨_, .lst _, ?_⟩
  refine TFor_J (fun r fr p' => X2 fun (rest : List (List Int)) (pts : List (List Int)) => A7 (r = rest.map (fun l => V.lst (l.map .int))) (∀ l ∈ rest, l ∈ L) (prodP pts rest = prodP [[]] L) (∀ pt ∈ pts, pt.length + rest.length = 4 ∧ ∀ v ∈ pt, v.natAbs ≤ 6) (pts.length * 3 ^ rest.length ≤ 81) (p' = p2) (Sub [(Str.ofString "feed", .ref fd), (Str.ofString "lots", .lst (L.map fun l => V.lst (l.map .int))), (Str.ofString "domains", .lst (L.map fun l => ivV (fromM l))), (Str.ofString "points", .lst (pts.map tI))] fr)) ⟨L, [[]], rfl, fun ζ h => h, rfl, (fun pt h => by rw [List.mem_singleton.mp h]; exact ⟨by rw [hL4]; rfl, fun ζ h => nomatch h⟩), by rw [hL4]; decide, rfl, by (repeat (first | exact sub_nil | exact Sub.refl _ | refine sub_cons (by rfl) ?_))⟩ ?_ ?_
  · rintro fr p' ⟨rest, pts, g1, -, g2, g3, g5, rfl, hsub⟩
    cases rest with
    | cons => cases g1
    | nil =>
    have g2' : pts = prodP [[]] L := g2
    refine TS_weak hsub (W_S hK ?_)
    refine L1.mk (T1_For (ns := [Str.ofString "lap"]) (TI_val (W_E hK ?_)) (fun ζ ζ => rfl))
    refine LC.mk (TC_less (draw_ok (k := k) (n := 987) hK hf2 ho₁ (by decide) fun x o₂ hx0 hx1 ho₂ => ?_) (by lia -matchEqs))
    refine LC.mk (TC_range1 (it_any (b := 4) (Int.add_nonneg (by decide) hx0) (Int.add_lt_add_left hx1 1) (by decide) fun L2 hL2 => ?_))
    have hL2 : L2.length ≤ 3 := hL2 ▸ tn_le (n := 3) (Int.add_lt_add_left hx1 1)
    refine TFor_J (fun r fr p' => ∃ o, A3 (p' fd = some o) (FeedO (30 * r.length) o) (Sub [(Str.ofString "feed", .ref fd), (Str.ofString "lots", .lst (L.map fun l => V.lst (l.map .int))), (Str.ofString "domains", .lst (L.map fun l => ivV (fromM l))), (Str.ofString "points", .lst (pts.map tI))] fr)) ⟨o₂, put_self _ _ _, ho₂.less (Nat.le_trans (Nat.mul_le_mul_left 30 hL2) (by decide)), by (repeat (first | exact sub_nil | exact Sub.refl _ | refine sub_cons (by rfl) ?_))⟩ ?_ ?_
    · rintro fr p' ⟨o, -, -, hsub⟩
      exact TS_weak hsub (W_S hK (back_same (q _)))
    rintro J₁ Q₁ hJ₁ hQ₁ v r fr p' ⟨o, hf, ho, hsub⟩
    rw [List.length_cons] at ho
    refine TA_weak hsub (TA_1 (.inl rfl) (by simp) (W_S hK ?_))
    refine L1.mk (T1_Assign_Tuple (ns := [Str.ofString "told", Str.ofString "some"]) (W_E hK ?_) (fun ζ => rfl) (fun env he => rfl))
    refine LC.mk (TC_less (told_ok (k := k) (n := 30 * r.length + 19) hK hf (ho.less (Nat.le_refl (30 * r.length + 30))) fun told o₃ ht ho₃ => ?_) (by lia -matchEqs))
    refine TA_2 (.inl rfl) (.inl rfl) (by simp) (by simp) ?_
    generalize hp3 : put p' fd o₃ = p3
    have hf3 : p3 fd = some o₃ := by rw [← hp3, put_self]
    clear hp3
    refine L1.mk (T1_Assign_swap (names := [Str.ofString "clause", Str.ofString "most"]) (W_E hK ?_) (by decide) (fun env he => by cases env; cases he; rfl))
    refine LC.mk (TC_less (clause_ok (k := k) (n := 30 * r.length + 9) hK hf3 ho₃ fun cl o₄ hcl hclo ho₄ => ?_) (by lia -matchEqs))
    refine LL.frozen (LC.mk (TC_less (pick_ok (k := k) (n := 30 * r.length + 8) hK (put_self _ _ _) ho₄ (by decide) (Nat.le_of_ble_eq_true rfl) fun v o₅ hv ho₅ => ?_) (by lia -matchEqs)))
    obtain ⟨most, rfl⟩ : ∃ m, v = .int m := by
      simp only [List.mem_cons, List.not_mem_nil, or_false] at hv
      rcases hv with rfl | rfl | rfl | rfl <;> exact ⟨_, rfl⟩
    generalize hp4 : put (put p3 fd o₄) fd o₅ = p4
    have hf4 : p4 fd = some o₅ := by rw [← hp4, put_self]
    clear hp4 hf3 hf hv ho₃ ho₄
    obtain ⟨rd, rt, hfl, hg, hj1, hj2⟩ := hJ L told cl hL ht hcl hclo
    refine ⟨_, _, rfl, rfl, rfl, ?_⟩
    refine L1.mk (T1_For (ns := [Str.ofString "point"]) (TI_val (W_E hK ?_)) (fun ζ ζ => rfl))
    refine ⟨_, .lst _, ?_⟩
    refine TFor_J (fun r fr p' => X2 fun (rest : List (List Int)) (due : Bool) => A5 (r = rest.map tI) (∀ pt ∈ rest, pt ∈ pts) ((due && !(rest.any (hitM told cl))) = dueM L told cl) (p' = p4) (Sub [(Str.ofString "feed", .ref fd), (Str.ofString "lots", .lst (L.map fun l => V.lst (l.map .int))), (Str.ofString "domains", .lst (L.map fun l => ivV (fromM l))), (Str.ofString "points", .lst (pts.map tI)), (Str.ofString "told", told.v), (Str.ofString "some", tI told.vars), (Str.ofString "clause", .tup (cl.map Lit.v)), (Str.ofString "most", .int most), (Str.ofString "due", .bool due)] fr)) ⟨pts, true, rfl, fun ζ h => h, by rw [Bool.true_and, g2']; rfl, rfl, by (repeat (first | exact sub_nil | exact Sub.refl _ | refine sub_cons (by rfl) ?_))⟩ ?_ ?_
    · rintro fr p' ⟨rest, due, k1, -, k3, rfl, hsub⟩
      cases rest with
      | cons => cases k1
      | nil =>
      have hdue : due = dueM L told cl := by rw [← k3]; show due = (due && !false); rw [Bool.not_false, Bool.and_true]
      clear k3 k1
      rw [← hdue] at hj1 hj2
      have hD6 : (L.map fun l => ivV (fromM l)).length = 4 := by rw [List.length_map]; exact hL4
      have hD7 : ∀ y : Int, 0 ≤ y → y < 4 → ((L.map fun l => ivV (fromM l))[y.toNat]?).getD .none = ivV ((fun y => fromM (lotF L y)) y) := fun y h0 h4 => by
        rw [List.getElem?_map, lot_at h0 (by rw [hL4]; exact h4)]; rfl
      refine TS_weak hsub (W_S hK ?_)
      refine LE.mk (judge_new hK rfl rfl rfl (W_E hK (W_E hK ⟨rfl, rfl, fun x1 p5 hle5 hx1 => ?_⟩)))
      have hclx : ∀ l ∈ cl, 0 ≤ l.x ∧ l.x < 4 := fun l h => (hclo l h).1
      refine LC.mk (TC_post (Q := fun v p' => v = .bool due ∧ p' = p5) (TC_less (answer_ok (k := k) (most := 1000) hK hE hP hx1 hD6 hD7 ht hclx (le_up hcl rfl) hfl hg ⟨fun e => ⟨by rw [hj1 e], rfl⟩, fun g e => ⟨fun b hb => ?_, fun hb => ?_⟩⟩) (by lia -matchEqs)) fun v p' hv => ?_)
      · rw [(hj2 g e).1] at hb; cases hb; exact ⟨rfl, rfl⟩
      · rw [(hj2 g e).1] at hb; cases hb
      obtain ⟨rfl, rfl⟩ := hv
      refine LC.mk (TC_reprB (LC.mk (TC_reprB (SQ.mk (pl_repr _) (pl_repr _) (if_f (by simp) ?_)))))
      refine LE.mk (judge_new hK rfl rfl rfl (W_E hK (W_E hK ⟨rfl, rfl, fun x2 p6 hle6 hx2 => ?_⟩)))
      refine LC.mk (TC_post (Q := fun v p' => p' = p6 ∧ (v = .bool due ∨ (v = .none ∧ most < leftM (lotF L) told.vars cl 1 ∧ told.isAT = false ∧ ∀ coefs xs c, told = .lin .le coefs xs c → due = false))) (TC_less (answer_ok (k := k) (most := most) hK hE hP hx2 hD6 hD7 ht hclx (le_up hcl rfl) hfl hg ⟨fun e => ⟨rfl, .inl (by rw [hj1 e])⟩, fun g e => ⟨fun b hb => ⟨rfl, .inl (by rw [((hj2 g e).2 most).1 b hb])⟩, fun hb => ⟨rfl, .inr ⟨rfl, ((hj2 g e).2 most).2 hb⟩⟩⟩⟩) (by lia -matchEqs)) fun v p' hv => ?_)
      obtain ⟨rfl, hv⟩ := hv
      have hf6 : p' fd = some o₅ := hle6.at (hle5.at hf4)
      have hfin : FeedO (30 * r.length) o₅ := ho₅.less (Nat.le_add_right _ 8)
      clear hj1 hj2 hg hfl hx1 hx2 hle5 hle6
      rcases hv with rfl | ⟨rfl, hm, hat, hle⟩
      · refine LQ.mk (OpC_isNone (by simp) (if_f rfl ?_))
        refine LC.mk (TC_reprB (LC.mk (TC_reprB (SQ.mk (pl_repr _) (pl_repr _) (if_f (by simp) ?_)))))
        exact hJ₁ _ _ _ ⟨o₅, hf6, hfin, by (repeat (first | exact sub_nil | exact Sub.refl _ | refine sub_cons (by rfl) ?_))⟩
      · refine LQ.mk (OpC_isNone (by simp) (if_t rfl ?_))
        refine LC.mk (TC_less (left_ok (k := k) (lot := lotF L) hK (by rw [List.length_map]; exact hL4) ?_ ?_ (Told.vars_nodup ht).2 (le_up hcl rfl) ?_ ?_) (by lia -matchEqs))
        · intro x h0 h4
          rw [List.getElem?_map, lot_at h0 (by rw [hL4]; exact h4)]; rfl
        · exact fun x hx => ⟨(Told.vars_in ht x hx).1, Int.lt_trans (Told.vars_in ht x hx).2 (by decide)⟩
        · intro x
          unfold lotF
          rw [List.getD_eq_getElem?_getD]
          cases h : L[x.toNat]? with
          | none => exact Nat.zero_le _
          | some l => exact le_up (b := 3) (hLl l (List.mem_of_getElem? h)).1 rfl
        refine if_f (decide_eq_false (Int.not_le.mpr hm)) ?_
        rw [Told.v_eq told]
        refine in_str told.nm_pl (by decide +kernel) told.nm_at (if_f hat (SQ.mk told.nm_pl (by decide +kernel) (ifB.mk (fun hc => if_f ?_ ?_) fun ζ => ?_)))
        · obtain ⟨coefs, xs, e, h⟩ := told.nm_le hc
          exact hle coefs xs e h
        all_goals rw [← Told.v_eq told]
        all_goals exact hJ₁ _ _ _ ⟨o₅, hf6, hfin, by (repeat (first | exact sub_nil | exact Sub.refl _ | refine sub_cons (by rfl) ?_))⟩
    · rintro J₂ Q₂ hJ₂ hQ₂ v r fr p' ⟨rest, due, k1, k2, k3, rfl, hsub⟩
      cases rest with
      | nil => cases k1
      | cons pt rest =>
      obtain ⟨rfl, rfl⟩ := List.cons.inj k1
      obtain ⟨h4, h6⟩ := g3 pt (k2 pt (.head _))
      obtain ⟨a, b, c, d, rfl⟩ := four h4
      refine TA_weak hsub (TA_1 (.inr rfl) (by simp) (W_S hK ?_))
      refine LC.mk (TC_less (keeps_ok (k := k) hK ht (Nat.lt_of_le_of_lt (h6 a (.head _)) (by decide)) ?_) (by lia -matchEqs))
      have kk : (due && !(((told.sat (ptF a b c d) && cl.all fun l => !l.says (ptF a b c d l.x))) || rest.any (hitM told cl))) = dueM L told cl := k3
      refine ifB.mk (fun hc => ?_) fun hc => ?_
      · rw [hc, Bool.true_and] at kk
        refine LE.mk (T_ListComp (hkind := rfl) (hpl := plain1 ⟨rfl, fun ζ ζ => rfl⟩) (L := [Str.ofString "one"]) (by decide) rfl (by rfl) (TI_val (W_E hK ?_)))
        refine ⟨_, .tup _, ?_⟩
        refine TLo_map (g := fun l : Lit => .bool (l.says (ptF a b c d l.x))) (le_up hcl rfl) (fun l hl acc K'' hlb hK'' => ?_) ?_
        · refine TA_1 (.inl rfl) (by decide) ⟨sub_setL (by rfl), br_t rfl ⟨hlb, W_E hK ?_⟩⟩
          obtain ⟨lx0, lx4⟩ := (hclo l hl).1
          exact gI_pt lx0 lx4 (LC.mk (TC_less (says_ok (k := k) hK hK'') (by lia -matchEqs)))
        refine LQ.mk (OpC_notInL (hn := by decide) 0 0 (by rfl) (pls_bools _ _) ?_)
        have hnb := notin_true (fun l : Lit => l.says (ptF a b c d l.x)) cl
        refine ifB.mk (fun hc => ?_) fun hc => ?_
        · rw [show (cl.all fun l => !l.says (ptF a b c d l.x)) = true from hnb.symm.trans hc, Bool.true_or, Bool.not_true, Bool.and_false] at kk
          exact hJ₂ _ _ _ ⟨rest, false, rfl, fun pt h => k2 pt (.tail _ h), by rw [Bool.false_and]; exact kk, rfl, by (repeat (first | exact sub_nil | exact Sub.refl _ | refine sub_cons (by rfl) ?_))⟩
        · rw [show (cl.all fun l => !l.says (ptF a b c d l.x)) = false from hnb.symm.trans hc, Bool.false_or] at kk
          exact hJ₂ _ _ _ ⟨rest, due, rfl, fun pt h => k2 pt (.tail _ h), kk, rfl, by (repeat (first | exact sub_nil | exact Sub.refl _ | refine sub_cons (by rfl) ?_))⟩
      · rw [hc, Bool.false_and, Bool.false_or] at kk
        exact hJ₂ _ _ _ ⟨rest, due, rfl, fun pt h => k2 pt (.tail _ h), kk, rfl, by (repeat (first | exact sub_nil | exact Sub.refl _ | refine sub_cons (by rfl) ?_))⟩
  · rintro J₁ Q₁ hJ₁ hQ₁ v r fr p' ⟨rest, pts, g1, g2, g3, g4, g5, rfl, hsub⟩
    cases rest with
    | nil => cases g1
    | cons lot rest =>
    obtain ⟨rfl, rfl⟩ := List.cons.inj g1
    refine TA_weak hsub (TA_1 (.inr rfl) (by simp) (W_S hK ?_))
    refine L1.mk (T1_Assign_Comp (hkind := rfl) (hpl := plain2 ⟨rfl, fun ζ ζ => rfl⟩ ⟨rfl, fun ζ ζ => rfl⟩) (L := [Str.ofString "point", Str.ofString "v"]) rfl (fun env he => by cases env; cases he; rfl) (by decide) rfl (by rfl) ?_)
    refine TI_val (W_E hK ?_)
    refine ⟨_, .lst _, ?_⟩
    have hfm := pts_len lot pts
    rw [List.length_cons] at g5
    have hlt := (hLl lot (g2 lot (.head _))).1
    obtain ⟨g5, hl243⟩ := pts_cnt g5 hlt
    have hmm := pts_tI lot
    refine TLo_flatN (N := 243) (g := fun pt => lot.map fun v => tI (pt ++ [v])) (by rw [hmm, List.length_map, hfm, List.length_nil, Nat.zero_add]; exact hl243) (fun pt hpt acc K' hl hK' => ?_) ?_
    · refine TA_1 (.inl rfl) (by decide) ⟨sub_setL (by rfl), br_t rfl ?_⟩
      refine TI_val (W_E hK ?_)
      refine ⟨_, .lst _, ?_⟩
      have e1 := tI_flat pt
      refine TLo_flatN (N := 243) (g := fun v => [tI (pt ++ [v])]) (by rw [e1]; exact hl) (fun v hv acc K' hl hK' => ?_) (by rw [e1]; exact hK')
      refine TA_1 (.inl rfl) (by decide) ⟨sub_setL (by rfl), br_t rfl ⟨Nat.le_trans (Nat.le_add_right _ _) (le_up hl rfl), W_E hK ?_⟩⟩
      refine LB.mk (OpB_addT (by rw [List.length_map]; exact Nat.le_trans (Nat.add_le_add_right (Nat.le_trans (Nat.le_add_right _ _) (Nat.le_of_eq (g4 pt hpt).1)) 1) (by decide)) ?_)
      rw [show pt.map V.int ++ [V.int v] = (pt ++ [v]).map V.int by rw [List.map_append]; rfl]
      exact hK'
    rw [List.nil_append, hmm]
    refine ⟨_, rfl, hJ₁ _ _ _ ⟨rest, (pts.flatMap fun pt => lot.map fun v => pt ++ [v]), rfl, fun l h => g2 l (.tail _ h), g3, pts_step g4 (hLl lot (g2 lot (.head _))).3, by rw [hfm]; exact g5, rfl, by (repeat (first | exact sub_nil | exact Sub.refl _ | refine sub_cons (by rfl) ?_))⟩⟩
end
end
end Tl
end

section
open PySem PySem.W PySem.Calls PyProof.Rows
set_option linter.unusedVariables false
namespace Tl
noncomputable abbrev Dm := List (Int × Int)
noncomputable def In (d : Dm) (v : Int) : Prop := ∃ e ∈ d, e.1 ≤ v ∧ v ≤ e.2
noncomputable def WF : Dm → Prop
  | [] => True
  | e :: r => e.1 ≤ e.2 ∧ (∀ e' ∈ r, e.2 < e'.1) ∧ WF r
theorem In_nil {v : Int} : ¬ In [] v := by rintro ⟨e, h, _⟩; cases h
theorem In_cons {e : Int × Int} {d : Dm} {v : Int} : In (e :: d) v ↔ (e.1 ≤ v ∧ v ≤ e.2) ∨ In d v := by
  simp [In]
theorem In_app {d d' : Dm} {v : Int} : In (d ++ d') v ↔ In d v ∨ In d' v := by
  unfold In
  constructor
  · rintro ⟨e, h, g⟩
    exact (List.mem_append.mp h).elim (fun h => .inl ⟨e, h, g⟩) fun h => .inr ⟨e, h, g⟩
  · rintro (⟨e, h, g⟩ | ⟨e, h, g⟩)
    · exact ⟨e, List.mem_append.mpr (.inl h), g⟩
    · exact ⟨e, List.mem_append.mpr (.inr h), g⟩
theorem WF_app {d d' : Dm} (h : WF d) (h' : WF d') (hh : ∀ e ∈ d, ∀ e' ∈ d', e.2 < e'.1) : WF (d ++ d') := by
  induction d with
  | nil => exact h'
  | cons e r ih =>
    refine ⟨h.1, fun e' he => ?_, ih h.2.2 fun a ha => hh a (List.mem_cons_of_mem _ ha)⟩
    exact (List.mem_append.mp he).elim (h.2.1 e') (hh e List.mem_cons_self e')
theorem WF_mem {d : Dm} (h : WF d) : ∀ e ∈ d, e.1 ≤ e.2 := by
  induction d with
  | nil => intro e h; cases h
  | cons a r ih =>
    intro e he
    rcases List.mem_cons.mp he with rfl | he
    · exact h.1
    · exact ih h.2.2 e he
theorem rising_eq : ∀ {l m : List Int}, l.Pairwise (· < ·) → m.Pairwise (· < ·) → (∀ v, v ∈ l ↔ v ∈ m) → l = m
  | [], [], _, _, _ => rfl
  | [], b :: m, _, _, h => nomatch (h b).mpr List.mem_cons_self
  | a :: l, [], _, _, h => nomatch (h a).mp List.mem_cons_self
  | a :: l, b :: m, h1, h2, h => by
    obtain ⟨h1a, h1b⟩ := List.pairwise_cons.mp h1
    obtain ⟨h2a, h2b⟩ := List.pairwise_cons.mp h2
    have hab : a = b := by
      rcases List.mem_cons.mp ((h a).mp List.mem_cons_self) with e | e
      · exact e
      rcases List.mem_cons.mp ((h b).mpr List.mem_cons_self) with e' | e'
      · exact e'.symm
      exact absurd (h1a b e') (Int.lt_asymm (h2a a e))
    subst hab
    refine congrArg (a :: ·) (rising_eq h1b h2b fun v => ?_)
    constructor
    · intro hv
      rcases List.mem_cons.mp ((h v).mp (List.mem_cons_of_mem _ hv)) with e | e
      · exact absurd (h1a v hv) (e ▸ Int.lt_irrefl _)
      · exact e
    · intro hv
      rcases List.mem_cons.mp ((h v).mpr (List.mem_cons_of_mem _ hv)) with e | e
      · exact absurd (h2a v hv) (e ▸ Int.lt_irrefl _)
      · exact e
theorem mem_ints {a v : Int} {n : Nat} : v ∈ intsFrom a n ↔ a ≤ v ∧ v < a + n := by
  unfold intsFrom
  rw [List.mem_map]
  constructor
  · rintro ⟨i, hi, rfl⟩
    exact ⟨Int.le_add_of_nonneg_right (Int.natCast_nonneg i), Int.add_lt_add_left (Int.ofNat_lt.mpr (List.mem_range.mp hi)) a⟩
  · rintro ⟨h1, h2⟩
    have h := Int.sub_nonneg.mpr h1
    exact ⟨(v - a).toNat, List.mem_range.mpr (tn_lt h (Int.sub_left_lt_of_lt_add h2)), by rw [Int.toNat_of_nonneg h, Int.add_comm]; exact Int.sub_add_cancel v a⟩
theorem mem_iv (e : Int × Int) (v : Int) : v ∈ intsFrom e.1 (e.2 + 1 - e.1).toNat ↔ e.1 ≤ v ∧ v ≤ e.2 := by
  rw [mem_ints]
  refine and_congr_right fun h => ?_
  have key : e.1 ≤ e.2 + 1 → e.1 + ((e.2 + 1 - e.1).toNat : Int) = e.2 + 1 := fun q => by
    rw [Int.toNat_of_nonneg (Int.sub_nonneg.mpr q), Int.add_comm]; exact Int.sub_add_cancel _ _
  constructor
  · intro g
    by_cases q : e.1 ≤ e.2 + 1
    · rw [key q] at g; exact Int.le_of_lt_add_one g
    · rw [Int.toNat_of_nonpos (Int.sub_nonpos_of_le (Int.le_of_lt (Int.not_le.mp q)))] at g
      exact absurd h (Int.not_le.mpr (Int.lt_of_lt_of_le g (Int.le_of_eq (Int.add_zero e.1))))
  · intro g
    rw [key (Int.le_trans h (Int.le_trans g (Int.le_of_lt (Int.lt_succ _))))]
    exact Int.lt_add_one_of_le g
theorem ints_sorted (a : Int) (n : Nat) : (intsFrom a n).Pairwise (· < ·) := by
  unfold intsFrom
  rw [List.pairwise_map]
  exact List.pairwise_lt_range.imp fun h => Int.add_lt_add_left (Int.ofNat_lt.mpr h) a
theorem vals_mem {d : Dm} {v : Int} : v ∈ valsM d ↔ In d v := by
  unfold valsM In
  rw [List.mem_flatMap]
  exact exists_congr fun e => and_congr_right fun ζ => mem_iv e v
theorem vals_cons (e : Int × Int) (d : Dm) : valsM (e :: d) = intsFrom e.1 (e.2 + 1 - e.1).toNat ++ valsM d := rfl
theorem vals_sorted {d : Dm} (h : WF d) : (valsM d).Pairwise (· < ·) := by
  induction d with
  | nil => exact .nil
  | cons e r ih =>
    rw [vals_cons, List.pairwise_append]
    refine ⟨ints_sorted _ _, ih h.2.2, fun a ha b hb => ?_⟩
    obtain ⟨e', he', h3⟩ := vals_mem.mp hb
    exact Int.lt_of_le_of_lt ((mem_iv _ _).mp ha).2 (Int.lt_of_lt_of_le (h.2.1 e' he') h3.1)
theorem ints_len (a : Int) (n : Nat) : (intsFrom a n).length = n := by unfold intsFrom; rw [List.length_map, List.length_range]
theorem size_vals {d : Dm} (h : WF d) : sizeM d = ((valsM d).length : Nat) := by
  induction d with
  | nil => rfl
  | cons e r ih =>
    have e1 : sizeM (e :: r) = (e.2 - e.1 + 1) + sizeM r := rfl
    have e3 : e.2 - e.1 + 1 = e.2 + 1 - e.1 := (Int.add_right_comm e.2 (-e.1) 1)
    rw [e1, ih h.2.2, vals_cons, List.length_append, ints_len, Int.natCast_add, e3, Int.toNat_of_nonneg (Int.sub_nonneg.mpr (Int.le_trans h.1 (Int.le_of_lt (Int.lt_succ e.2))))]
theorem len_vals {d : Dm} (h : WF d) : d.length ≤ (valsM d).length := by
  induction d with
  | nil => exact Nat.le_refl _
  | cons e r ih =>
    rw [vals_cons, List.length_append, ints_len, List.length_cons, Nat.add_comm]
    exact Nat.add_le_add (Int.toNat_le_toNat (Int.le_sub_left_of_add_le (Int.add_le_add_right h.1 1))) (ih h.2.2)
noncomputable def lo1 (k a : Int) : Int := if k > a then k else a
noncomputable def hi1 (k b : Int) : Int := if k < b then k else b
theorem le_hi {v k b : Int} : v ≤ hi1 k b ↔ v ≤ k ∧ v ≤ b := by
  unfold hi1
  split
  · exact ⟨fun h => ⟨h, Int.le_trans h (Int.le_of_lt ‹_›)⟩, And.left⟩
  · exact ⟨fun h => ⟨Int.le_trans h (Int.not_lt.mp ‹_›), h⟩, And.right⟩
theorem lo_le {v k a : Int} : lo1 k a ≤ v ↔ k ≤ v ∧ a ≤ v := by
  unfold lo1
  split
  · exact ⟨fun h => ⟨h, Int.le_trans (Int.le_of_lt ‹_›) h⟩, And.left⟩
  · exact ⟨fun h => ⟨Int.le_trans (Int.not_lt.mp ‹_›) h, h⟩, And.right⟩
theorem hi_le (k b : Int) : hi1 k b ≤ k ∧ hi1 k b ≤ b := le_hi.mp (Int.le_refl _)
theorem le_lo (k a : Int) : k ≤ lo1 k a ∧ a ≤ lo1 k a := lo_le.mp (Int.le_refl _)
theorem WF_one {a b : Int} (h : a ≤ b) : WF [(a, b)] := ⟨h, (fun ζ h => nomatch h), trivial⟩
theorem In_one {a b v : Int} : In [(a, b)] v ↔ a ≤ v ∧ v ≤ b := In_cons.trans ⟨fun h => h.elim id fun h => absurd h In_nil, .inl⟩
theorem WF_init {d : Dm} {e : Int × Int} (h : WF (d ++ [e])) : WF d ∧ ∀ a ∈ d, a.2 < e.1 := by
  induction d with
  | nil => exact ⟨trivial, fun ζ h => nomatch h⟩
  | cons a r ih =>
    obtain ⟨i1, i2⟩ := ih h.2.2
    refine ⟨⟨h.1, fun e' he' => h.2.1 e' (List.mem_append.mpr (.inl he')), i1⟩, fun e' he' => ?_⟩
    rcases List.mem_cons.mp he' with rfl | he'
    · exact h.2.1 e (List.mem_append.mpr (.inr (.head _)))
    · exact i2 e' he'
theorem from_ok : ∀ {l : List Int} {d : Dm}, l.Pairwise (· < ·) → WF d → (∀ e ∈ d, ∀ v ∈ l, e.2 < v) → WF (l.foldl (fun d v => putM d v v) d) ∧ (∀ v, In (l.foldl (fun d v => putM d v v) d) v ↔ In d v ∨ v ∈ l)
  | [], d, _, h, _ => ⟨h, fun v => ⟨.inl, fun h => h.elim id fun h => nomatch h⟩⟩
  | x :: l, d, hl, h, hh => by
    obtain ⟨h1, h2⟩ := List.pairwise_cons.mp hl
    have key : WF (putM d x x) ∧ (∀ v, In (putM d x x) v ↔ In d v ∨ v = x) ∧ ∀ e ∈ putM d x x, e.2 ≤ x := by
      have hx : ∀ e ∈ d, e.2 < x := fun e he => hh e he x List.mem_cons_self
      have app : WF (d ++ [(x, x)]) ∧ (∀ v, In (d ++ [(x, x)]) v ↔ In d v ∨ v = x) ∧ ∀ e ∈ d ++ [(x, x)], e.2 ≤ x := by
        refine ⟨WF_app h (WF_one (Int.le_refl _)) fun e he e' he' => ?_, fun v => ?_, fun e he => ?_⟩
        · rw [List.mem_singleton.mp he']; exact hx e he
        · rw [In_app, In_one]
          exact or_congr_right ⟨fun h => Int.le_antisymm h.2 h.1, fun h => h ▸ ⟨Int.le_refl _, Int.le_refl _⟩⟩
        · rcases List.mem_append.mp he with he | he
          · exact Int.le_of_lt (hx e he)
          · rw [List.mem_singleton.mp he]; exact Int.le_refl _
      unfold putM
      rcases List.eq_nil_or_concat d with rfl | ⟨d', ⟨a, b⟩, rfl⟩
      · exact app
      rw [List.concat_eq_append] at *
      simp only [List.getLast?_append, List.getLast?_singleton, Option.some_or, List.dropLast_concat]
      have hm : (a, b) ∈ d' ++ [(a, b)] := List.mem_append.mpr (.inr (.head _))
      have hb : b < x := hx (a, b) hm
      split
      · rename_i hc
        have hbx : x = b + 1 := Int.le_antisymm hc (Int.add_one_le_of_lt hb)
        have hab : a ≤ b := WF_mem h (a, b) hm
        refine ⟨?_, fun v => ?_, fun e he => ?_⟩
        · have hd' := WF_init h
          refine WF_app hd'.1 (WF_one (Int.le_trans hab (Int.le_of_lt hb))) fun e he e' he' => ?_
          rw [List.mem_singleton.mp he']; exact hd'.2 e he
        · rw [In_app, In_app, In_one, In_one, or_assoc]
          refine or_congr_right ⟨fun h => ?_, fun h => ?_⟩
          · by_cases hv : v = x
            · exact .inr hv
            · exact .inl ⟨h.1, Int.le_of_lt_add_one (hbx ▸ Int.lt_iff_le_and_ne.mpr ⟨h.2, hv⟩)⟩
          · rcases h with h | h
            · exact ⟨h.1, Int.le_trans h.2 (Int.le_of_lt hb)⟩
            · rw [h]; exact ⟨Int.le_trans hab (Int.le_of_lt hb), Int.le_refl x⟩
        · rcases List.mem_append.mp he with he | he
          · exact Int.le_of_lt (hx e (List.mem_append.mpr (.inl he)))
          · rw [List.mem_singleton.mp he]; exact Int.le_refl _
      · exact app
    obtain ⟨k1, k2, k3⟩ := key
    obtain ⟨g1, g2⟩ := from_ok (d := putM d x x) h2 k1 fun e he v hv => by
      exact Int.lt_of_le_of_lt (k3 e he) (h1 v hv)
    refine ⟨g1, fun v => ?_⟩
    rw [List.foldl_cons, g2 v, k2 v, List.mem_cons, or_assoc]
noncomputable def saysI (l : Lit) (v : Int) : Bool := match l.s with
  | .le => decide (v ≤ l.k)
  | .ge => decide (l.k ≤ v)
  | .eq => v == l.k
  | .ne => !(v == l.k)
theorem up_ok {d : Dm} (h : WF d) (k : Int) : WF (upM d k) ∧ (∀ v, In (upM d k) v ↔ In d v ∧ v ≤ k) ∧ ∀ e ∈ upM d k, e.2 ≤ k := by
  have hm : ∀ e ∈ upM d k, e.2 ≤ k := fun e he => by
    obtain ⟨a, ha, rfl⟩ := List.mem_map.mp he
    exact (hi_le k a.2).1
  refine ⟨?_, fun v => ?_, hm⟩
  · clear hm
    induction d with
    | nil => exact trivial
    | cons e r ih =>
      unfold upM
      rw [List.filter_cons]
      split
      · refine ⟨le_hi.mpr ⟨of_decide_eq_true ‹_›, h.1⟩, fun e' he' => ?_, ih h.2.2⟩
        obtain ⟨a, ha, rfl⟩ := List.mem_map.mp he'
        exact Int.lt_of_le_of_lt (hi_le k e.2).2 (h.2.1 a (List.mem_filter.mp ha).1)
      · exact ih h.2.2
  · constructor
    · rintro ⟨e, he, h1, h2⟩
      have := hm e he
      obtain ⟨a, ha, rfl⟩ := List.mem_map.mp he
      have h2 := le_hi.mp h2
      exact ⟨⟨a, (List.mem_filter.mp ha).1, h1, h2.2⟩, h2.1⟩
    · rintro ⟨⟨e, he, h1, h2⟩, h3⟩
      exact ⟨(e.1, hi1 k e.2), List.mem_map.mpr ⟨e, List.mem_filter.mpr ⟨he, decide_eq_true (Int.le_trans h1 h3)⟩, rfl⟩, h1, le_hi.mpr ⟨h3, h2⟩⟩
theorem on_ok {d : Dm} (h : WF d) (k : Int) : WF (onM d k) ∧ (∀ v, In (onM d k) v ↔ In d v ∧ k ≤ v) ∧ ∀ e ∈ onM d k, k ≤ e.1 := by
  have hm : ∀ e ∈ onM d k, k ≤ e.1 := fun e he => by
    obtain ⟨a, ha, rfl⟩ := List.mem_map.mp he
    exact (le_lo k a.1).1
  refine ⟨?_, fun v => ?_, hm⟩
  · clear hm
    induction d with
    | nil => exact trivial
    | cons e r ih =>
      unfold onM
      rw [List.filter_cons]
      split
      · refine ⟨lo_le.mpr ⟨of_decide_eq_true ‹_›, h.1⟩, fun e' he' => ?_, ih h.2.2⟩
        obtain ⟨a, ha, rfl⟩ := List.mem_map.mp he'
        exact Int.lt_of_lt_of_le (h.2.1 a (List.mem_filter.mp ha).1) (le_lo k a.1).2
      · exact ih h.2.2
  · constructor
    · rintro ⟨e, he, h1, h2⟩
      obtain ⟨a, ha, rfl⟩ := List.mem_map.mp he
      have h1 := lo_le.mp h1
      exact ⟨⟨a, (List.mem_filter.mp ha).1, h1.2, h2⟩, h1.1⟩
    · rintro ⟨⟨e, he, h1, h2⟩, h3⟩
      exact ⟨(lo1 k e.1, e.2), List.mem_map.mpr ⟨e, List.mem_filter.mpr ⟨he, decide_eq_true (Int.le_trans h3 h2)⟩, rfl⟩, lo_le.mpr ⟨h3, h1⟩, h2⟩
theorem lo_is {k a : Int} (h : a ≤ k) : lo1 k a = k := Int.le_antisymm (lo_le.mpr ⟨Int.le_refl k, h⟩) (le_lo k a).1
theorem hi_is {k b : Int} (h : k ≤ b) : hi1 k b = k := Int.le_antisymm (hi_le k b).1 (le_hi.mpr ⟨Int.le_refl k, h⟩)
noncomputable def one1 (k : Int) (a : Int × Int) : Dm := if lo1 k a.1 ≤ hi1 k a.2 then [(lo1 k a.1, hi1 k a.2)] else []
theorem meet1_cons (k : Int) (a : Int × Int) (r : Dm) : meet1 (a :: r) k = one1 k a ++ if a.2 < k then meet1 r k else [] := rfl
theorem one1_in {k : Int} {a e : Int × Int} (h : e ∈ one1 k a) : e = (k, k) ∧ a.1 ≤ k ∧ k ≤ a.2 := by
  unfold one1 at h
  by_cases hc : lo1 k a.1 ≤ hi1 k a.2
  · rw [if_pos hc] at h
    obtain ⟨h1, h2⟩ := lo_le.mp hc
    have h1 := (le_hi.mp h1).2
    have h2 := (le_hi.mp h2).1
    rw [List.mem_singleton.mp h, lo_is h2, hi_is h1]
    exact ⟨rfl, h2, h1⟩
  · rw [if_neg hc] at h; cases h
theorem one1_has {k : Int} {a : Int × Int} (h : a.1 ≤ k ∧ k ≤ a.2) : (k, k) ∈ one1 k a := by
  unfold one1
  rw [lo_is h.1, hi_is h.2, if_pos (Int.le_refl k)]
  exact List.mem_cons_self
theorem one1_wf (k : Int) (a : Int × Int) : WF (one1 k a) := by
  unfold one1
  by_cases hc : lo1 k a.1 ≤ hi1 k a.2
  · rw [if_pos hc]; exact WF_one hc
  · rw [if_neg hc]; exact trivial
theorem meet1_in {k : Int} : ∀ {d : Dm}, WF d → ∀ e ∈ meet1 d k, e = (k, k) ∧ In d k
  | [], _, e, h => by cases h
  | a :: r, hw, e, h => by
    rw [meet1_cons] at h
    rcases List.mem_append.mp h with h | h
    · exact ⟨(one1_in h).1, In_cons.mpr (.inl (one1_in h).2)⟩
    · by_cases hc : a.2 < k
      · rw [if_pos hc] at h
        obtain ⟨h1, h2⟩ := meet1_in hw.2.2 e h
        exact ⟨h1, In_cons.mpr (.inr h2)⟩
      · rw [if_neg hc] at h; cases h
theorem meet1_has {k : Int} : ∀ {d : Dm}, WF d → In d k → (k, k) ∈ meet1 d k
  | [], _, h => absurd h In_nil
  | a :: r, hw, h => by
    rw [meet1_cons]
    rcases In_cons.mp h with h | h
    · exact List.mem_append.mpr (.inl (one1_has h))
    · refine List.mem_append.mpr (.inr ?_)
      obtain ⟨e', he', h1, h2⟩ := id h
      rw [if_pos (Int.lt_of_lt_of_le (hw.2.1 e' he') h1)]
      exact meet1_has hw.2.2 h
theorem meet1_wf {k : Int} : ∀ {d : Dm}, WF d → WF (meet1 d k)
  | [], _ => trivial
  | a :: r, hw => by
    have ih := meet1_wf (k := k) hw.2.2
    rw [meet1_cons]
    by_cases hc : a.2 < k
    · rw [if_pos hc]
      refine WF_app (one1_wf k a) ih fun e he e' he' => ?_
      obtain ⟨rfl, -, h1⟩ := one1_in he
      obtain ⟨rfl, e2, e3, h2, -⟩ := meet1_in hw.2.2 e' he'
      exact absurd h1 (Int.not_le.mpr hc)
    · rw [if_neg hc, List.append_nil]; exact one1_wf k a
theorem struck_in {d : Dm} (h : WF d) (l : Lit) : WF (struckM l d) ∧ ∀ v, In (struckM l d) v ↔ In d v ∧ saysI l v = true := by
  obtain ⟨x, s, k⟩ := l
  cases s
  · obtain ⟨h1, h2, _⟩ := up_ok h k
    exact ⟨h1, fun v => by rw [show struckM ⟨x, .le, k⟩ d = upM d k from rfl, h2 v, show saysI ⟨x, .le, k⟩ v = decide (v ≤ k) from rfl, decide_eq_true_iff]⟩
  · obtain ⟨h1, h2, _⟩ := on_ok h k
    exact ⟨h1, fun v => by rw [show struckM ⟨x, .ge, k⟩ d = onM d k from rfl, h2 v, show saysI ⟨x, .ge, k⟩ v = decide (k ≤ v) from rfl, decide_eq_true_iff]⟩
  · refine ⟨meet1_wf h, fun v => ?_⟩
    show In (meet1 d k) v ↔ In d v ∧ (v == k) = true
    rw [beq_iff_eq]
    constructor
    · rintro ⟨e, he, h1, h2⟩
      obtain ⟨rfl, h3⟩ := meet1_in h e he
      have : v = k := Int.le_antisymm h2 h1
      exact ⟨this ▸ h3, this⟩
    · rintro ⟨h1, rfl⟩
      exact ⟨_, meet1_has h h1, Int.le_refl _, Int.le_refl _⟩
  · obtain ⟨h1, h2, h3⟩ := up_ok h (k - 1)
    obtain ⟨g1, g2, g3⟩ := on_ok h (k + 1)
    refine ⟨WF_app h1 g1 fun e he e' he' => Int.lt_of_le_of_lt (h3 e he) (Int.lt_of_lt_of_le (Int.lt_of_lt_of_le (Int.sub_lt_self k (by decide)) (Int.le_of_lt (Int.lt_succ k))) (g3 e' he')), fun v => ?_⟩
    show In (upM d (k - 1) ++ onM d (k + 1)) v ↔ In d v ∧ (!(v == k)) = true
    rw [In_app, h2 v, g2 v, Bool.not_eq_true', beq_eq_false_iff_ne]
    constructor
    · rintro (⟨h, g⟩ | ⟨h, g⟩)
      · exact ⟨h, Int.ne_of_lt (Int.lt_of_le_sub_one g)⟩
      · exact ⟨h, (Int.ne_of_lt g).symm⟩
    · rintro ⟨h, g⟩
      rcases Int.lt_or_gt_of_ne g with g | g
      · exact .inl ⟨h, Int.le_sub_one_of_lt g⟩
      · exact .inr ⟨h, g⟩
theorem neg_says (l : Lit) (v : Int) : saysI l.neg v = !saysI l v := by
  obtain ⟨x, s, k⟩ := l
  cases s
  · show decide (k + 1 ≤ v) = !decide (v ≤ k)
    by_cases h : v ≤ k
    · rw [decide_eq_true h, decide_eq_false (Int.not_le.mpr (Int.lt_add_one_of_le h))]; rfl
    · rw [decide_eq_false h, decide_eq_true (Int.add_one_le_of_lt (Int.not_le.mp h))]; rfl
  · show decide (v ≤ k - 1) = !decide (k ≤ v)
    by_cases h : k ≤ v
    · rw [decide_eq_true h, decide_eq_false (fun g => Int.not_lt.mpr h (Int.lt_of_le_sub_one g))]; rfl
    · rw [decide_eq_false h, decide_eq_true (Int.le_sub_one_of_lt (Int.not_le.mp h))]; rfl
  · rfl
  · show (v == k) = !!(v == k)
    rw [Bool.not_not]
theorem denyM_c {f : Int → Dm} {l : Lit} {ls : List Lit} : denyM f (l :: ls) = if (struckM l.neg (f l.x)).isEmpty then none else denyM (updF f l.x (struckM l.neg (f l.x))) ls := rfl
theorem deny_some : ∀ {ls : List Lit} {f g : Int → Dm}, (∀ x, WF (f x)) → denyM f ls = some g → (∀ x, WF (g x)) ∧ (∀ x v, In (g x) v ↔ In (f x) v ∧ ∀ l ∈ ls, l.x = x → saysI l v = false) ∧ ∀ x, f x ≠ [] → g x ≠ []
  | [], f, g, h, e => by
    cases e
    exact ⟨h, fun x v => ⟨fun h => ⟨h, (fun ζ h => nomatch h)⟩, And.left⟩, fun ζ h => h⟩
  | l :: ls, f, g, h, e => by
    rw [denyM_c] at e
    split at e
    · cases e
    · rename_i hne
      obtain ⟨s1, s2⟩ := struck_in (h l.x) l.neg
      have hf : ∀ x, WF (updF f l.x (struckM l.neg (f l.x)) x) := fun x => by
        unfold updF; split
        · exact s1
        · exact h x
      obtain ⟨g1, g2, g3⟩ := deny_some hf e
      refine ⟨g1, fun x v => ?_, fun x hx => g3 x ?_⟩
      · rw [g2 x v]
        unfold updF
        by_cases hx : x = l.x
        · rw [if_pos hx, s2 v, neg_says, Bool.not_eq_true', hx]
          constructor
          · rintro ⟨⟨a, b⟩, c⟩
            refine ⟨a, fun m hm hmx => ?_⟩
            rcases List.mem_cons.mp hm with rfl | hm
            · exact b
            · exact c m hm hmx
          · rintro ⟨a, b⟩
            exact ⟨⟨a, b l List.mem_cons_self rfl⟩, fun m hm => b m (List.mem_cons_of_mem _ hm)⟩
        · rw [if_neg hx]
          constructor
          · rintro ⟨a, c⟩
            refine ⟨a, fun m hm hmx => ?_⟩
            rcases List.mem_cons.mp hm with rfl | hm
            · exact absurd hmx.symm hx
            · exact c m hm hmx
          · rintro ⟨a, b⟩
            exact ⟨a, fun m hm => b m (List.mem_cons_of_mem _ hm)⟩
      · unfold updF
        split
        · intro z; rw [z] at hne; exact hne rfl
        · exact hx
theorem deny_none : ∀ {ls : List Lit} {f : Int → Dm}, (∀ x, WF (f x)) → denyM f ls = none → ∃ l ∈ ls, ∀ v, In (f l.x) v → ∃ m ∈ ls, m.x = l.x ∧ saysI m v = true
  | [], f, h, e => by cases e
  | l :: ls, f, h, e => by
    rw [denyM_c] at e
    obtain ⟨s1, s2⟩ := struck_in (h l.x) l.neg
    split at e
    · rename_i he
      refine ⟨l, List.mem_cons_self, fun v hv => ⟨l, List.mem_cons_self, rfl, ?_⟩⟩
      cases hs : saysI l v with
      | true => rfl
      | false =>
        have := (s2 v).mpr ⟨hv, by rw [neg_says, hs]; rfl⟩
        rw [List.isEmpty_iff.mp he] at this
        exact absurd this In_nil
    · have hf : ∀ x, WF (updF f l.x (struckM l.neg (f l.x)) x) := fun x => by
        unfold updF; split
        · exact s1
        · exact h x
      obtain ⟨m, hm, h2⟩ := deny_none hf e
      refine ⟨m, List.mem_cons_of_mem _ hm, fun v hv => ?_⟩
      by_cases hx : m.x = l.x
      · cases hs : saysI l v with
        | true => exact ⟨l, List.mem_cons_self, hx.symm, hs⟩
        | false =>
          have h3 : In (updF f l.x (struckM l.neg (f l.x)) m.x) v := by
            unfold updF; rw [if_pos hx]
            exact (s2 v).mpr ⟨hx ▸ hv, by rw [neg_says, hs]; rfl⟩
          obtain ⟨n, hn, h4⟩ := h2 v h3
          exact ⟨n, List.mem_cons_of_mem _ hn, h4⟩
      · have h3 : In (updF f l.x (struckM l.neg (f l.x)) m.x) v := by
          unfold updF; rw [if_neg hx]; exact hv
        obtain ⟨n, hn, h4⟩ := h2 v h3
        exact ⟨n, List.mem_cons_of_mem _ hn, h4⟩
end Tl
end

section
open PySem PySem.W PySem.Calls PyProof.Rows
set_option linter.unusedVariables false
namespace Tl
theorem getA_nil (x : Int) : getA [] x = none := rfl
theorem getA_cons (e : Int × Int) (al : AL) (x : Int) : getA (e :: al) x = if e.1 = x then some e.2 else getA al x := by
  unfold getA
  rw [List.find?_cons]
  by_cases h : e.1 = x
  · rw [if_pos h, decide_eq_true h]; rfl
  · rw [if_neg h, decide_eq_false h]
theorem getA_app (al m : AL) (x : Int) : getA (al ++ m) x = match getA al x with | some v => some v | none => getA m x := by
  induction al with
  | nil => rfl
  | cons e r ih =>
    rw [List.cons_append, getA_cons, getA_cons]
    by_cases h : e.1 = x
    · rw [if_pos h, if_pos h]
    · rw [if_neg h, if_neg h, ih]
theorem getA_mem {al : AL} {x v : Int} (h : getA al x = some v) : (x, v) ∈ al := by
  induction al with
  | nil => cases h
  | cons e r ih =>
    rw [getA_cons] at h
    by_cases he : e.1 = x
    · rw [if_pos he] at h; cases h; rw [← he]; exact List.mem_cons_self
    · rw [if_neg he] at h; exact List.mem_cons_of_mem _ (ih h)
theorem getA_none {al : AL} {x : Int} (h : getA al x = none) : ∀ e ∈ al, e.1 ≠ x := by
  induction al with
  | nil => intro e he; cases he
  | cons a r ih =>
    rw [getA_cons] at h
    by_cases he : a.1 = x
    · rw [if_pos he] at h; cases h
    · rw [if_neg he] at h
      intro e hm
      rcases List.mem_cons.mp hm with rfl | hm
      · exact he
      · exact ih h e hm
theorem getA_some {al : AL} {e : Int × Int} (h : e ∈ al) : ∃ v, getA al e.1 = some v := by
  cases hc : getA al e.1 with
  | none => exact absurd rfl (getA_none hc e h)
  | some v => exact ⟨v, rfl⟩
theorem getA_nodup {al : AL} (hn : (al.map (·.1)).Nodup) {e : Int × Int} (h : e ∈ al) : getA al e.1 = some e.2 := by
  induction al with
  | nil => cases h
  | cons a r ih =>
    rw [List.map_cons, List.nodup_cons] at hn
    rw [getA_cons]
    rcases List.mem_cons.mp h with rfl | h
    · rw [if_pos rfl]
    · rw [if_neg (show ¬ a.1 = e.1 from fun z => hn.1 (by rw [z]; exact List.mem_map_of_mem h))]
      exact ih hn.2 h
theorem getA_set (al : AL) (x v y : Int) : getA (setA al x v) y = if y = x then some v else getA al y := by
  cases hc : getA al x with
  | none =>
    rw [setA_new hc, getA_app]
    by_cases h : y = x
    · rw [if_pos h, h, hc]; show getA [(x, v)] x = some v; rw [getA_cons, if_pos rfl]
    · rw [if_neg h]
      cases hy : getA al y with
      | some w => rfl
      | none => show getA [(x, v)] y = none; rw [getA_cons, if_neg fun z => h z.symm]; rfl
  | some u =>
    have ha : al.any (fun e => e.1 = x) = true := List.any_eq_true.mpr ⟨_, getA_mem hc, by simp⟩
    unfold setA
    rw [if_pos ha]
    clear ha
    have : ∀ al : AL, getA (al.map fun e => if e.1 = x then (e.1, v) else e) y = if y = x then (getA al x).map fun ζ => v else getA al y := fun al => by
      induction al with
      | nil => show none = _; split <;> rfl
      | cons e r ih =>
        rw [List.map_cons, getA_cons, getA_cons, getA_cons, ih]
        by_cases h1 : e.1 = x
        · rw [if_pos h1, if_pos h1]
          by_cases h2 : y = x
          · rw [if_pos h2, if_pos h2, if_pos (h1.trans h2.symm)]; rfl
          · rw [if_neg h2, if_neg h2]
            rw [if_neg (show ¬ (e.1, v).1 = y from fun z => h2 (z.symm.trans h1)), if_neg fun z => h2 (z.symm.trans h1)]
        · rw [if_neg h1, if_neg h1]
          by_cases h2 : y = x
          · rw [if_pos h2, if_neg fun z => h1 (z.trans h2), if_pos h2]
          · rw [if_neg h2, if_neg h2]
    rw [this, hc]; rfl
noncomputable def atL (lots : List (List Int)) (j : Int) : List Int := lots.getD j.toNat []
structure Mt (lots : List (List Int)) (i : Int) (ow : AL) : Prop where
  m1 : ∀ v j, getA ow v = some j → 0 ≤ j ∧ j < i ∧ v ∈ atL lots j
  m2 : ∀ j, 0 ≤ j → j < i → ∃ v, getA ow v = some j
  m3 : ∀ v w j, getA ow v = some j → getA ow w = some j → v = w
structure Pa (lots : List (List Int)) (i : Int) (ow cm : AL) : Prop where
  nd : (cm.map (·.1)).Nodup
  b1 : ∀ e ∈ cm, e.1 ∈ atL lots e.2
  b5 : ∀ (t : Nat) e, cm[t]? = some e → e.2 = i ∨ X2 fun (s : Nat) (e' : Int × Int) => A3 (s < t) (cm[s]? = some e') (getA ow e'.1 = some e.2)
theorem nodup_idx {cm : AL} (hn : (cm.map (·.1)).Nodup) {s t : Nat} {e e' : Int × Int} (hs : cm[s]? = some e) (ht : cm[t]? = some e') (h : e.1 = e'.1) : s = t := by
  have h1 : s < (cm.map (·.1)).length := by rw [List.length_map]; exact (List.getElem?_eq_some_iff.mp hs).1
  have h2 : t < (cm.map (·.1)).length := by rw [List.length_map]; exact (List.getElem?_eq_some_iff.mp ht).1
  have e1 : (cm.map (·.1))[s] = e.1 := by rw [List.getElem_map, (List.getElem?_eq_some_iff.mp hs).2]
  have e2 : (cm.map (·.1))[t] = e'.1 := by rw [List.getElem_map, (List.getElem?_eq_some_iff.mp ht).2]
  exact (List.getElem_inj hn).mp (by rw [e1, e2, h])
theorem moves_ex {lots : List (List Int)} {i : Int} {ow cm : AL} (h0 : 0 ≤ i) (Pc : Pa lots i ow cm) (M : Mt lots i ow) : ∀ (t : Nat) (e : Int × Int) (ow' : AL), cm[t]? = some e → (∀ (s : Nat) e', s ≤ t → cm[s]? = some e' → getA ow' e'.1 = getA ow e'.1) →
    (∀ v j, getA ow' v = some j → 0 ≤ j ∧ j < i ∧ v ∈ atL lots j) → (∀ j, 0 ≤ j → j < i → ∃ v, v ≠ e.1 ∧ getA ow' v = some j) → (∀ v w j, v ≠ e.1 → w ≠ e.1 → getA ow' v = some j → getA ow' w = some j → v = w) →
    X2 fun n ow'' => A4 (n ≤ t) (Moves cm i n ow' e.1 ow'') (Mt lots (i + 1) ow'') (ow''.length ≤ ow'.length + t + 1) := by
  intro t
  induction t using Nat.strongRecOn with
  | ind t ih =>
  intro e ow' he hk A1 A2 A3
  have hem := List.mem_of_getElem? he
  have hc := getA_nodup Pc.nd hem
  by_cases hi : e.2 = i
  · rw [hi] at hc
    refine ⟨0, _, Nat.zero_le _, .last hc, ⟨fun v j h => ?_, fun j j0 j1 => ?_, fun v w j hv hw => ?_⟩, Nat.le_trans setA_len (Nat.succ_le_succ (Nat.le_add_right _ _))⟩
    · rw [getA_set] at h
      by_cases hv : v = e.1
      · rw [if_pos hv] at h; cases h
        exact ⟨h0, Int.lt_succ i, by rw [hv]; exact hi ▸ Pc.b1 e hem⟩
      · rw [if_neg hv] at h
        have := A1 v j h
        exact ⟨this.1, Int.lt_trans this.2.1 (Int.lt_succ i), this.2.2⟩
    · by_cases hj : j = i
      · exact ⟨e.1, by rw [getA_set, if_pos rfl, hj]⟩
      · obtain ⟨v, hv, hg⟩ := A2 j j0 (Int.lt_iff_le_and_ne.mpr ⟨Int.le_of_lt_add_one j1, hj⟩)
        exact ⟨v, by rw [getA_set, if_neg hv]; exact hg⟩
    · rw [getA_set] at hv hw
      by_cases h1 : v = e.1
      · rw [if_pos h1] at hv; cases hv
        by_cases h2 : w = e.1
        · exact h1.trans h2.symm
        · rw [if_neg h2] at hw; exact absurd (A1 w i hw).2.1 (Int.lt_irrefl i)
      · rw [if_neg h1] at hv
        by_cases h2 : w = e.1
        · rw [if_pos h2] at hw; cases hw; exact absurd (A1 v i hv).2.1 (Int.lt_irrefl i)
        · rw [if_neg h2] at hw; exact A3 v w j h1 h2 hv hw
  · rcases Pc.b5 t e he with h | ⟨s, e', hs, he', ho⟩
    · exact absurd h hi
    have hem' := List.mem_of_getElem? he'
    have hne : e'.1 ≠ e.1 := fun z => Nat.ne_of_lt hs (nodup_idx Pc.nd he' he z)
    have ho' : getA ow' e'.1 = some e.2 := by rw [hk s e' (Nat.le_of_lt hs) he']; exact ho
    have hon : getA ow' e.1 ≠ some e.2 := fun z => by
      rw [hk t e (Nat.le_refl _) he] at z
      exact hne (M.m3 _ _ _ ho z)
    obtain ⟨n, ow'', hn, mv, mt, hl⟩ := ih s hs e' (setA ow' e.1 e.2) he' (fun r er hr her => by
        rw [getA_set, if_neg fun z => Nat.ne_of_lt (Nat.lt_of_le_of_lt hr hs) (nodup_idx Pc.nd her he z)]; exact hk r er (Nat.le_of_lt (Nat.lt_of_le_of_lt hr hs)) her) (fun v j h => by
        rw [getA_set] at h
        by_cases hv : v = e.1
        · rw [if_pos hv] at h; cases h
          have := A1 _ _ ho'
          exact ⟨this.1, this.2.1, by rw [hv]; exact Pc.b1 e hem⟩
        · rw [if_neg hv] at h; exact A1 v j h) (fun j j0 j1 => by
        by_cases hj : j = e.2
        · exact ⟨e.1, hne.symm, by rw [getA_set, if_pos rfl, hj]⟩
        · obtain ⟨v, hv, hg⟩ := A2 j j0 j1
          refine ⟨v, fun z => hj ?_, by rw [getA_set, if_neg hv]; exact hg⟩
          rw [z, ho'] at hg; cases hg; rfl) (fun v w j hv hw h1 h2 => by
        rw [getA_set] at h1 h2
        by_cases g1 : v = e.1
        · rw [if_pos g1] at h1; cases h1
          by_cases g2 : w = e.1
          · exact g1.trans g2.symm
          · rw [if_neg g2] at h2; exact absurd (A3 w e'.1 _ g2 hne h2 ho') hw
        · rw [if_neg g1] at h1
          by_cases g2 : w = e.1
          · rw [if_pos g2] at h2; cases h2; exact absurd (A3 v e'.1 _ g1 hne h1 ho') hv
          · rw [if_neg g2] at h2; exact A3 v w j g1 g2 h1 h2)
    refine ⟨n + 1, ow'', Nat.lt_of_le_of_lt hn hs, .next hc hi (List.mem_map_of_mem hem') ho' (fun w' ζ hw' => ?_) mv, mt, Nat.le_trans hl (Nat.succ_le_succ (Nat.le_trans (Nat.add_le_add_right setA_len s) (Nat.add_right_comm _ 1 s ▸ Nat.add_le_add_left hs _)))⟩
    by_cases g : w' = e.1
    · rw [g] at hw'; exact absurd hw' hon
    · exact A3 w' e'.1 _ g hne hw' ho'
noncomputable def Rc (i : Int) (ow cm : AL) (j : Int) : Prop := j = i ∨ ∃ e ∈ cm, getA ow e.1 = some j
structure Bi (lots : List (List Int)) (i : Int) (ow cm : AL) : Prop extends Pa lots i ow cm where
  b2 : ∀ e ∈ cm, ∃ j, getA ow e.1 = some j
theorem Rc.app {i : Int} {ow cm : AL} {j : Int} (x : AL) (h : Rc i ow cm j) : Rc i ow (cm ++ x) j := h.imp_right fun ⟨e, he, h⟩ => ⟨e, List.mem_append.mpr (.inl he), h⟩
theorem Pa.add {lots : List (List Int)} {i here v : Int} {ow cm : AL} (P : Pa lots i ow cm) (hr : Rc i ow cm here) (hv : v ∈ atL lots here) (hn : getA cm v = none) : Pa lots i ow (cm ++ [(v, here)]) where
  nd := by
    rw [List.map_append, List.nodup_append]
    refine ⟨P.nd, List.nodup_cons.mpr ⟨List.not_mem_nil, .nil⟩, fun x hx y hy e => ?_⟩
    have hy : y = v := List.mem_singleton.mp hy
    obtain ⟨z, hz, rfl⟩ := List.mem_map.mp hx
    exact getA_none hn z hz (e.trans hy)
  b1 := fun e he => by
    rcases List.mem_append.mp he with h | h
    · exact P.b1 e h
    · rw [List.mem_singleton.mp h]; exact hv
  b5 := fun t e he => by
    by_cases ht : t < cm.length
    · rw [List.getElem?_append_left ht] at he
      refine (P.b5 t e he).imp_right fun ⟨s, e', hs, h1, h2⟩ => ⟨s, e', hs, ?_, h2⟩
      rw [List.getElem?_append_left (Nat.lt_trans hs ht)]; exact h1
    · have ht := Nat.le_of_not_lt ht
      rw [List.getElem?_append_right ht] at he
      have ht2 : t - cm.length = 0 := Nat.lt_one_iff.mp (List.getElem?_eq_some_iff.mp he).1
      rw [ht2] at he
      cases he
      obtain rfl := Nat.le_antisymm (Nat.sub_eq_zero_iff_le.mp ht2) ht
      refine hr.imp_right fun ⟨e', he', h2⟩ => ?_
      obtain ⟨s, hs⟩ := List.getElem?_of_mem he'
      have hlt := (List.getElem?_eq_some_iff.mp hs).1
      exact ⟨s, e', hlt, by rw [List.getElem?_append_left hlt]; exact hs, h2⟩
theorem scan_ok {lots : List (List Int)} {i here : Int} {ow : AL} : ∀ (l : List Int) (cm : AL) (q : List Int), Bi lots i ow cm → Rc i ow cm here → (∀ v ∈ l, v ∈ atL lots here) → ∀ cm1 q1 r, scanM ow here l cm q = (cm1, q1, r) →
    (r = none → X2 fun x y => A7 (cm1 = cm ++ x) (q1 = q ++ y) (x.length = y.length) (Bi lots i ow cm1) (∀ v ∈ l, getA cm1 v ≠ none) (∀ j, Rc i ow cm1 j → Rc i ow cm j ∨ j ∈ y) (∀ j ∈ y, Rc i ow cm1 j)) ∧
    ∀ v, r = some v → A3 (Pa lots i ow cm1) (getA ow v = none) (X2 fun (t : Nat) (e : Int × Int) => cm1[t]? = some e ∧ e.1 = v)
  | [], cm, q, B, hr, hl, cm1, q1, r, h => by
    cases h
    exact ⟨fun ζ => ⟨[], [], (List.append_nil _).symm, (List.append_nil _).symm, rfl, B, (fun ζ h => nomatch h), (fun ζ h => .inl h), (fun ζ h => nomatch h)⟩, fun v h => by cases h⟩
  | v :: l, cm, q, B, hr, hl, cm1, q1, r, h => by
    rw [scanM_c] at h
    have hl' : ∀ v ∈ l, v ∈ atL lots here := fun v hv => hl v (List.mem_cons_of_mem _ hv)
    cases hg : getA cm v with
    | some u =>
      rw [hg, if_pos (show (some u).isSome = true from rfl)] at h
      obtain ⟨k1, k2⟩ := scan_ok l cm q B hr hl' cm1 q1 r h
      refine ⟨fun e => ?_, k2⟩
      obtain ⟨x, y, e1, e2, e3, e4, e5, e6, e7⟩ := k1 e
      refine ⟨x, y, e1, e2, e3, e4, fun w hw => ?_, e6, e7⟩
      rcases List.mem_cons.mp hw with rfl | hw
      · rw [e1, getA_app, hg]; exact fun z => nomatch z
      · exact e5 w hw
    | none =>
      rw [hg, if_neg (show ¬ (none : Option Int).isSome = true by decide)] at h
      have Pn := B.toPa.add hr (hl v List.mem_cons_self) hg
      cases ho : getA ow v with
      | none =>
        rw [ho] at h
        cases h
        refine ⟨fun e => (by cases e), fun w hw => ?_⟩
        cases hw
        rw [setA_new hg]
        exact ⟨Pn, ho, cm.length, (v, here), by rw [List.getElem?_append_right (Nat.le_refl _), Nat.sub_self]; rfl, rfl⟩
      | some j =>
        rw [ho] at h
        simp only at h
        rw [setA_new hg] at h
        have hb2 : ∀ e ∈ cm ++ [(v, here)], ∃ j, getA ow e.1 = some j := fun e he => by
          rcases List.mem_append.mp he with h | h
          · exact B.b2 e h
          · rw [List.mem_singleton.mp h]; exact ⟨j, ho⟩
        have Bn : Bi lots i ow (cm ++ [(v, here)]) := ⟨Pn, hb2⟩
        obtain ⟨k1, k2⟩ := scan_ok l _ _ Bn (hr.app _) hl' cm1 q1 r h
        refine ⟨fun e => ?_, k2⟩
        obtain ⟨x, y, e1, e2, e3, e4, e5, e6, e7⟩ := k1 e
        have hjr : Rc i ow cm1 j := by rw [e1]; exact .inr ⟨(v, here), List.mem_append.mpr (.inl (List.mem_append.mpr (.inr (.head _)))), ho⟩
        refine ⟨(v, here) :: x, j :: y, by rw [e1, List.append_assoc]; rfl, by rw [e2, List.append_assoc]; rfl, congrArg (· + 1) e3, e4, fun w hw => ?_, fun z hz => ?_, fun z hz => ?_⟩
        · rcases List.mem_cons.mp hw with rfl | hw
          · rw [e1, getA_app, getA_app, hg]; show (match getA [(w, here)] w with | some v => some v | none => getA x w) ≠ none; rw [getA_cons, if_pos rfl]; exact fun z => nomatch z
          · exact e5 w hw
        · rcases e6 z hz with (h | ⟨e', he', h⟩) | h
          · exact .inl (.inl h)
          · rcases List.mem_append.mp he' with g | g
            · exact .inl (.inr ⟨e', g, h⟩)
            · rw [List.mem_singleton.mp g, ho] at h; cases h; exact .inr List.mem_cons_self
          · exact .inr (List.mem_cons_of_mem _ h)
        · rcases List.mem_cons.mp hz with rfl | hz
          · exact hjr
          · exact e7 z hz
noncomputable def Cl (lots : List (List Int)) (cm : AL) (j : Int) : Prop := ∀ v ∈ atL lots j, getA cm v ≠ none
theorem sub_len {l m : List Int} (hn : l.Nodup) (h : ∀ x ∈ l, x ∈ m) : l.length ≤ m.length := by
  induction l generalizing m with
  | nil => exact Nat.zero_le _
  | cons a r ih =>
    obtain ⟨h1, h2⟩ := List.nodup_cons.mp hn
    have ha := h a List.mem_cons_self
    have := ih (m := m.erase a) h2 fun x hx => (List.mem_erase_of_ne fun z => h1 (by rw [← z]; exact hx)).mpr (h x (List.mem_cons_of_mem _ hx))
    rw [List.length_erase_of_mem ha] at this
    have h0 := List.length_pos_of_mem ha
    rw [List.length_cons, ← Nat.sub_add_cancel h0]; exact Nat.succ_le_succ this
theorem Rc.bet {lots : List (List Int)} {i j : Int} {ow cm : AL} (h0 : 0 ≤ i) (M : Mt lots i ow) (h : Rc i ow cm j) : 0 ≤ j ∧ j ≤ i := by
  rcases h with h | ⟨e, he, h⟩
  · rw [h]; exact ⟨h0, Int.le_refl i⟩
  · exact ⟨(M.m1 _ _ h).1, Int.le_of_lt (M.m1 _ _ h).2.1⟩
theorem bfs_ar {F c x q n : Nat} (hn : 2 * (F - c) + (q + 1) ≤ n + 1) (h : c + x ≤ F) : 2 * (F - (c + x)) + (q + x) ≤ n := by
  obtain ⟨d, rfl⟩ := Nat.exists_eq_add_of_le h
  rw [Nat.add_sub_cancel_left]
  rw [Nat.add_assoc, Nat.add_sub_cancel_left] at hn
  refine Nat.le_trans ?_ (Nat.le_of_succ_le_succ hn)
  rw [Nat.mul_add, Nat.add_comm q x, ← Nat.add_assoc, Nat.add_comm (2 * x)]
  exact Nat.add_le_add_right (Nat.add_le_add_left (Nat.le_mul_of_pos_left x (by decide)) _) q
theorem bfs_ok {lots : List (List Int)} {i : Int} {ow : AL} (h0 : 0 ≤ i) (hi : i < lots.length) (M : Mt lots i ow) : ∀ (n : Nat) (cm : AL) (q : List Int), Bi lots i ow cm → (∀ j ∈ q, Rc i ow cm j) → (∀ j, Rc i ow cm j → j ∈ q ∨ Cl lots cm j) → 2 * (lots.flatten.length - cm.length) + q.length ≤ n →
    X2 fun cm1 r => A5 (bfsM ow lots n cm q = some (cm1, r)) (Pa lots i ow cm1) (cm1.length ≤ lots.flatten.length) (r = none → Bi lots i ow cm1 ∧ ∀ j, Rc i ow cm1 j → Cl lots cm1 j) (∀ v, r = some v → getA ow v = none ∧ X2 fun (t : Nat) (e : Int × Int) => cm1[t]? = some e ∧ e.1 = v) := by
  have hat : ∀ j, 0 ≤ j → j ≤ i → lots[j.toNat]? = some (atL lots j) := fun j j0 j1 => by
    unfold atL
    rw [List.getD_eq_getElem?_getD, List.getElem?_eq_getElem (tn_lt j0 (Int.lt_of_le_of_lt j1 hi))]; rfl
  have hfl : ∀ cm, Pa lots i ow cm → (∀ e ∈ cm, 0 ≤ e.2 ∧ e.2 ≤ i) → cm.length ≤ lots.flatten.length := fun cm Pc hb => by
    have := sub_len (m := lots.flatten) Pc.nd fun x hx => by
      obtain ⟨e, he, rfl⟩ := List.mem_map.mp hx
      have := hat e.2 (hb e he).1 (hb e he).2
      exact List.mem_flatten.mpr ⟨_, List.mem_of_getElem? this, Pc.b1 e he⟩
    rwa [List.length_map] at this
  have hb : ∀ cm, Pa lots i ow cm → ∀ e ∈ cm, 0 ≤ e.2 ∧ e.2 ≤ i := fun cm Pc e he => by
    obtain ⟨t, ht⟩ := List.getElem?_of_mem he
    rcases Pc.b5 t e ht with h | ⟨s, e', hs, h1, h2⟩
    · rw [h]; exact ⟨h0, Int.le_refl i⟩
    · exact ⟨(M.m1 _ _ h2).1, Int.le_of_lt (M.m1 _ _ h2).2.1⟩
  intro n
  induction n with
  | zero =>
    intro cm q B hq hc hn
    have : q = [] := List.length_eq_zero_iff.mp (Nat.eq_zero_of_add_eq_zero_left (Nat.le_zero.mp hn))
    subst this
    exact ⟨cm, none, bfsM_nil, B.toPa, hfl cm B.toPa (hb cm B.toPa), fun ζ => ⟨B, fun j hj => (hc j hj).elim (fun h => by cases h) id⟩, fun v h => by cases h⟩
  | succ n ih =>
    intro cm q B hq hc hn
    cases q with
    | nil => exact ⟨cm, none, bfsM_nil, B.toPa, hfl cm B.toPa (hb cm B.toPa), fun ζ => ⟨B, fun j hj => (hc j hj).elim (fun h => by cases h) id⟩, fun v h => by cases h⟩
    | cons here q =>
      have hr := hq here List.mem_cons_self
      obtain ⟨k0, k1⟩ := hr.bet h0 M
      have hl := hat here k0 k1
      rw [bfsM_c]
      rw [if_pos k0, hl]
      simp only
      obtain ⟨cm1, q1, r, hs⟩ : ∃ cm1 q1 r, scanM ow here (atL lots here) cm q = (cm1, q1, r) := ⟨_, _, _, rfl⟩
      obtain ⟨s1, s2⟩ := scan_ok (atL lots here) cm q B hr (fun v hv => hv) cm1 q1 r hs
      rw [hs]
      cases r with
      | some v =>
        obtain ⟨g1, g2, g3⟩ := s2 v rfl
        exact ⟨cm1, some v, rfl, g1, hfl cm1 g1 (hb cm1 g1), fun h => (by cases h), fun w hw => (by cases hw; exact ⟨g2, g3⟩)⟩
      | none =>
        obtain ⟨x, y, e1, e2, e3, e4, e5, e6, e7⟩ := s1 rfl
        simp only
        have hlen := hfl cm1 e4.toPa (hb cm1 e4.toPa)
        refine ih cm1 q1 e4 (fun j hj => ?_) (fun j hj => ?_) ?_
        · rw [e2] at hj
          rcases List.mem_append.mp hj with h | h
          · rw [e1]; exact (hq j (List.mem_cons_of_mem _ h)).app _
          · exact e7 j h
        · rcases e6 j hj with h | h
          · rcases hc j h with g | g
            · rcases List.mem_cons.mp g with rfl | g
              · exact .inr e5
              · exact .inl (by rw [e2]; exact List.mem_append.mpr (.inl g))
            · refine .inr fun v hv z => ?_
              rw [e1, getA_app] at z
              cases hg : getA cm v with
              | none => exact g v hv hg
              | some u => rw [hg] at z; cases z
          · exact .inl (by rw [e2]; exact List.mem_append.mpr (.inr h))
        · rw [e1, List.length_append] at hlen ⊢
          rw [e2, List.length_append, ← e3]
          exact bfs_ar hn hlen
noncomputable def Sdr (lots : List (List Int)) : Prop := ∃ f : Int → Int, (∀ j : Int, 0 ≤ j → j < lots.length → f j ∈ atL lots j) ∧ ∀ j k : Int, 0 ≤ j → j < lots.length → 0 ≤ k → k < lots.length → f j = f k → j = k
theorem no_sdr {lots : List (List Int)} {i : Int} {ow cm : AL} (h0 : 0 ≤ i) (hi : i < lots.length) (M : Mt lots i ow) (B : Bi lots i ow cm) (hc : ∀ j, Rc i ow cm j → Cl lots cm j) : ¬ Sdr lots := by
  rintro ⟨f, f1, f2⟩
  have hrc : ∀ j, Rc i ow cm j → 0 ≤ j ∧ j ≤ i := fun j h => h.bet h0 M
  have hT : ∀ j, Rc i ow cm j → ∃ k, getA ow (f j) = some k ∧ Rc i ow cm k ∧ k < i := fun j hj => by
    obtain ⟨j0, j1⟩ := hrc j hj
    have h1 := hc j hj (f j) (f1 j j0 (Int.lt_of_le_of_lt j1 hi))
    cases hg : getA cm (f j) with
    | none => exact absurd hg h1
    | some u =>
      obtain ⟨k, hk⟩ := B.b2 _ (getA_mem hg)
      exact ⟨k, hk, .inr ⟨_, getA_mem hg, hk⟩, (M.m1 _ _ hk).2.1⟩
  obtain ⟨R, hR⟩ : ∃ R : List Int, R = (intsFrom 0 (i + 1).toNat).filter fun j => @decide _ (Classical.propDecidable (Rc i ow cm j)) := ⟨_, rfl⟩
  have hmR : ∀ j, j ∈ R ↔ Rc i ow cm j := fun j => by
    rw [hR, List.mem_filter]
    have : (@decide _ (Classical.propDecidable (Rc i ow cm j)) = true) ↔ Rc i ow cm j := @decide_eq_true_iff _ (Classical.propDecidable _)
    rw [this]
    constructor
    · exact fun h => h.2
    · intro h
      have := hrc j h
      refine ⟨?_, h⟩
      unfold intsFrom
      rw [List.mem_map]
      exact ⟨j.toNat, List.mem_range.mpr (tn_lt this.1 (by rw [Int.toNat_of_nonneg (Int.le_trans h0 (Int.le_of_lt (Int.lt_succ i)))]; exact Int.lt_add_one_of_le this.2)), by rw [Int.zero_add, Int.toNat_of_nonneg this.1]⟩
  have hnR : R.Nodup := by
    rw [hR]
    refine List.Nodup.sublist List.filter_sublist ?_
    unfold intsFrom
    exact (List.pairwise_map.mpr (List.pairwise_lt_range.imp fun h e => Nat.ne_of_lt h (Int.ofNat.inj (Int.add_left_cancel e))))
  have hT2 : ∀ j ∈ R, (getA ow (f j)).getD 0 ∈ R.erase i := fun j hj => by
    obtain ⟨k, h1, h2, h3⟩ := hT j ((hmR j).mp hj)
    rw [h1]
    exact (List.mem_erase_of_ne (Int.ne_of_lt h3)).mpr ((hmR k).mpr h2)
  have hin : (R.map fun j => (getA ow (f j)).getD 0).Nodup := by
    refine List.pairwise_map.mpr (List.Pairwise.imp_of_mem (fun {a b} ha hb hab e => hab ?_) hnR)
    obtain ⟨k, h1, h2, h3⟩ := hT a ((hmR a).mp ha)
    obtain ⟨k', g1, g2, g3⟩ := hT b ((hmR b).mp hb)
    rw [h1, g1] at e
    have e : k = k' := e
    subst e
    have ha' := hrc a ((hmR a).mp ha)
    have hb' := hrc b ((hmR b).mp hb)
    exact f2 a b ha'.1 (Int.lt_of_le_of_lt ha'.2 hi) hb'.1 (Int.lt_of_le_of_lt hb'.2 hi) (M.m3 _ _ _ h1 g1)
  have := sub_len hin (m := R.erase i) fun x hx => by
    obtain ⟨j, hj, rfl⟩ := List.mem_map.mp hx
    exact hT2 j hj
  have hiR : i ∈ R := (hmR i).mpr (.inl rfl)
  rw [List.length_map, List.length_erase_of_mem hiR] at this
  exact Nat.not_lt.mpr this (Nat.sub_lt (List.length_pos_of_mem hiR) Nat.one_pos)
theorem differ_ar {a b t c F i : Nat} (h1 : a ≤ b + t + 1) (h2 : t < c) (h3 : c ≤ F) (h4 : F ≤ 20) (h5 : b ≤ 100 * i) : a ≤ 100 * (i + 1) := Nat.le_trans h1 (Nat.le_trans (Nat.le_of_eq (Nat.add_assoc b t 1)) (Nat.add_le_add h5 (Nat.le_trans h2 (Nat.le_trans h3 (Nat.le_trans h4 (by decide))))))
theorem differ_ar2 {n b t c F i l : Nat} (h1 : n ≤ t) (h2 : t < c) (h3 : c ≤ F) (h4 : F ≤ 20) (h5 : b ≤ 100 * i) (h6 : i < l) (h7 : l ≤ 100) : b + n < 100000 := Nat.lt_of_le_of_lt (Nat.add_le_add (Nat.le_trans h5 (Nat.mul_le_mul_left 100 (Nat.le_trans (Nat.le_of_lt h6) h7))) (Nat.le_trans h1 (Nat.le_trans (Nat.le_of_lt h2) (Nat.le_trans h3 h4)))) (by decide : 100 * 100 + 20 < 100000)
theorem differ_from {lots : List (List Int)} (hf : lots.flatten.length ≤ 20) (hl : lots.length ≤ 100) : ∀ (m i : Nat) (ow : AL), i + m = lots.length → Mt lots i ow → ow.length ≤ 100 * i → ∃ r, Differ lots i ow r ∧ (r = true ↔ Sdr lots)
  | 0, i, ow, hm, M, ho => by
    obtain rfl : i = lots.length := hm
    have hex : ∀ j : Int, 0 ≤ j → j < lots.length → ∃ h : (∃ v, getA ow v = some j), (@dite _ (∃ v, getA ow v = some j) (Classical.propDecidable _) (fun h => h.choose) fun ζ => (0 : Int)) = h.choose := fun j j0 j1 => ⟨M.m2 j j0 j1, by rw [dif_pos (M.m2 j j0 j1)]⟩
    refine ⟨true, .done, fun ζ => ⟨fun j => @dite _ (∃ v, getA ow v = some j) (Classical.propDecidable _) (fun h => h.choose) fun ζ => 0, fun j j0 j1 => ?_, fun j k j0 j1 k0 k1 e => ?_⟩, fun ζ => rfl⟩
    · obtain ⟨h, e⟩ := hex j j0 j1
      simp only [e]
      exact (M.m1 _ _ h.choose_spec).2.2
    · obtain ⟨h, e1⟩ := hex j j0 j1
      obtain ⟨h', e2⟩ := hex k k0 k1
      simp only [e1, e2] at e
      have h1 := h.choose_spec
      rw [e, h'.choose_spec] at h1
      cases h1; rfl
  | m + 1, i, ow, hm, M, ho => by
    have hi' : i < lots.length := hm ▸ Nat.lt_add_of_pos_right (Nat.succ_pos m)
    have hi : (i : Int) < lots.length := Int.ofNat_lt.mpr hi'
    have h0 := Int.natCast_nonneg i
    obtain ⟨cm, r, h1, h2, h3, h4, h5⟩ := bfs_ok h0 hi M (2 * lots.flatten.length + 1) [] [(i : Int)] ⟨⟨.nil, fun e he => (by cases he), fun t e he => (by cases he)⟩, fun e he => (by cases he)⟩ (fun j hj => .inl (List.mem_singleton.mp hj)) (fun j hj => by
      rcases hj with h | ⟨e, he, _⟩
      · exact .inl (List.mem_singleton.mpr h)
      · cases he) (Nat.le_refl _)
    have hc : cm.length < 64 := Nat.lt_of_le_of_lt h3 (Nat.lt_of_le_of_lt hf (by decide))
    cases r with
    | none =>
      obtain ⟨g1, g2⟩ := h4 rfl
      exact ⟨false, .no hi' h1 hc, (fun e => nomatch e), fun s => absurd s (no_sdr h0 hi M g1 g2)⟩
    | some v =>
      obtain ⟨g1, t, e, ht, rfl⟩ := h5 v rfl
      obtain ⟨n, ow', hn, mv, mt, hl'⟩ := moves_ex h0 h2 M t e ow ht (fun ζ ζ ζ ζ => rfl) M.m1 (fun j j0 j1 => by
        obtain ⟨w, hw⟩ := M.m2 j j0 j1
        exact ⟨w, fun z => (by rw [z, g1] at hw; cases hw), hw⟩) (fun v w j ζ ζ => M.m3 v w j)
      have htl := (List.getElem?_eq_some_iff.mp ht).1
      have hlen : ow'.length ≤ 100 * (i + 1) := differ_ar hl' htl h3 hf ho
      obtain ⟨r, d, hr⟩ := differ_from hf hl m (i + 1) ow' ((Nat.add_right_comm i 1 m).trans hm) mt hlen
      exact ⟨r, .step hi' h1 hc (differ_ar2 hn htl h3 hf ho hi' hl) mv d, hr⟩
theorem differ_ex {lots : List (List Int)} (hf : lots.flatten.length ≤ 20) (hl : lots.length ≤ 100) : ∃ r, Differ lots 0 [] r ∧ (r = true ↔ Sdr lots) :=
  differ_from hf hl lots.length 0 [] (Nat.zero_add _) ⟨fun v j h => (by cases h), fun j h0 h1 => absurd h1 (Int.not_lt.mpr h0), fun v w j h => (by cases h)⟩ (Nat.zero_le _)
end Tl
end

section
open PySem PySem.W PySem.Calls PyProof.Rows
set_option linter.unusedVariables false
namespace Tl
theorem has_in {d : Dm} {v : Int} (h : WF d) : hasM d v = true ↔ In d v := by
  unfold hasM
  induction d with
  | nil => exact ⟨fun h => (by cases h), fun h => absurd h In_nil⟩
  | cons e r ih =>
    rw [In_cons]
    rw [show nextM (e :: r) v = if v ≤ e.2 then some (if v > e.1 then v else e.1) else nextM r v from rfl]
    by_cases hv : v ≤ e.2
    · rw [if_pos hv]
      show (lo1 v e.1 == v) = true ↔ _
      rw [beq_iff_eq]
      constructor
      · intro hh; exact .inl ⟨Int.le_trans (le_lo v e.1).2 (Int.le_of_eq hh), hv⟩
      · rintro (g | ⟨e', he', g⟩)
        · exact lo_is g.1
        · exact absurd hv (Int.not_le.mpr (Int.lt_of_lt_of_le (h.2.1 e' he') g.1))
    · rw [if_neg hv, ih h.2.2]
      exact ⟨.inr, fun g => g.elim (fun g => absurd g.2 hv) id⟩
theorem row_in {g : Int → Dm} {a b c : Int} (h : ∀ x, WF (g x)) : rowOk g [0, 1, 2] [a, b, c] = true ↔ In (g 0) a ∧ In (g 1) b ∧ In (g 2) c := by
  show (hasM (g 0) a && (hasM (g 1) b && (hasM (g 2) c && true))) = true ↔ _
  rw [Bool.and_true, Bool.and_eq_true, Bool.and_eq_true, has_in (h 0), has_in (h 1), has_in (h 2)]
theorem hi_last : ∀ {d : Dm}, d ≠ [] → WF d → In d (hiD d) ∧ ∀ v, In d v → v ≤ hiD d
  | [], h, _ => absurd rfl h
  | [e], _, w => ⟨⟨e, List.mem_cons_self, w.1, Int.le_refl _⟩, fun v h => (In_cons.mp h).elim (fun h => h.2) fun h => absurd h In_nil⟩
  | e :: e' :: r, _, w => by
    obtain ⟨h1, h2⟩ := hi_last (d := e' :: r) (by simp) w.2.2
    have eq : hiD (e :: e' :: r) = hiD (e' :: r) := by unfold hiD; rw [List.getLast?_cons_cons]
    rw [eq]
    refine ⟨In_cons.mpr (.inr h1), fun v h => ?_⟩
    rcases In_cons.mp h with h | h
    · exact Int.le_trans h.2 (Int.le_trans (Int.le_of_lt (w.2.1 e' List.mem_cons_self)) (h2 e'.1 ⟨e', List.mem_cons_self, Int.le_refl _, w.2.2.1⟩))
    · exact h2 v h
theorem lo_first {d : Dm} (h : d ≠ []) (w : WF d) : In d (loD d) ∧ ∀ v, In d v → loD d ≤ v := by
  cases d with
  | nil => exact absurd rfl h
  | cons e r =>
    refine ⟨⟨e, List.mem_cons_self, Int.le_refl _, w.1⟩, fun v h => ?_⟩
    show e.1 ≤ v
    rcases In_cons.mp h with h | ⟨e', he', h⟩
    · exact h.1
    · exact Int.le_trans w.1 (Int.le_trans (Int.le_of_lt (w.2.1 e' he')) h.1)
noncomputable def sumZ (h : Int → Int) (ps : List (Int × Int)) : Int := (ps.map fun e => e.2 * h e.1).sum
theorem sumZ_cons (h : Int → Int) (e : Int × Int) (ps : List (Int × Int)) : sumZ h (e :: ps) = e.2 * h e.1 + sumZ h ps := by simp [sumZ]
theorem lin_sumZ (h : Int → Int) : ∀ xs coefs : List Int, linSum coefs xs h = sumZ h (xs.zip coefs)
  | [], coefs => by unfold linSum sumZ; simp
  | x :: xs, [] => by unfold linSum sumZ; simp
  | x :: xs, c :: coefs => by
    have ih := lin_sumZ h xs coefs
    rw [List.zip_cons_cons, sumZ_cons, ← ih]
    simp [linSum]
theorem mn_le (a b : Int) : mn a b ≤ a ∧ mn a b ≤ b := by
  unfold mn
  split
  · exact ⟨Int.le_of_lt ‹_›, Int.le_refl _⟩
  · exact ⟨Int.le_refl _, Int.not_lt.mp ‹_›⟩
theorem le_mx (a b : Int) : a ≤ mx a b ∧ b ≤ mx a b := by
  unfold mx
  split
  · exact ⟨Int.le_of_lt ‹_›, Int.le_refl _⟩
  · exact ⟨Int.le_refl _, Int.not_lt.mp ‹_›⟩
theorem sub_four (r s a b : Int) : r - (s - (a + b)) = (r - (s - b)) + a := by lia -matchEqs
theorem mul_between {c a b v : Int} (h1 : a ≤ v) (h2 : v ≤ b) : mn (c * a) (c * b) ≤ c * v ∧ c * v ≤ mx (c * a) (c * b) := by
  by_cases hc : 0 ≤ c
  · exact ⟨Int.le_trans (mn_le _ _).1 (Int.mul_le_mul_of_nonneg_left h1 hc), Int.le_trans (Int.mul_le_mul_of_nonneg_left h2 hc) (le_mx _ _).2⟩
  · have hc := Int.le_of_lt (Int.not_le.mp hc)
    exact ⟨Int.le_trans (mn_le _ _).2 (Int.mul_le_mul_of_nonpos_left hc h2), Int.le_trans (Int.mul_le_mul_of_nonpos_left hc h1) (le_mx _ _).1⟩
theorem fold_ok {g : Int → Dm} {h : Int → Int} (w : ∀ x, WF (g x)) : ∀ (ps : List (Int × Int)) (s : BS), (∀ e ∈ ps, In (g e.1) (h e.1)) →
    (foldB g ps s).least ≤ s.least + sumZ h ps ∧ s.greatest + sumZ h ps ≤ (foldB g ps s).greatest ∧ (foldB g ps s).common ∣ s.common ∧ (foldB g ps s).common ∣ (foldB g ps s).lack - (s.lack - sumZ h ps) ∧ (0 ≤ s.common → 0 ≤ (foldB g ps s).common)
  | [], s, _ => by
    have : sumZ h [] = 0 := rfl
    show s.least ≤ s.least + sumZ h [] ∧ s.greatest + sumZ h [] ≤ s.greatest ∧ s.common ∣ s.common ∧ s.common ∣ s.lack - (s.lack - sumZ h []) ∧ (0 ≤ s.common → 0 ≤ s.common)
    rw [this]
    rw [Int.add_zero, Int.add_zero]
    exact ⟨Int.le_refl _, Int.le_refl _, Int.dvd_refl _, by rw [Int.sub_zero, Int.sub_self]; exact Int.dvd_zero _, id⟩
  | e :: ps, s, hi => by
    have he := hi e List.mem_cons_self
    have hne : g e.1 ≠ [] := fun z => by rw [z] at he; exact In_nil he
    obtain ⟨i1, i2, i3, i4, i5⟩ := fold_ok w ps (stepB s e.2 (g e.1)) fun a ha => hi a (List.mem_cons_of_mem _ ha)
    have lo := (lo_first hne (w e.1)).2 _ he
    have up := (hi_last hne (w e.1)).2 _ he
    obtain ⟨b1, b2⟩ := mul_between (c := e.2) lo up
    have e1 : (stepB s e.2 (g e.1)).least = s.least + mn (e.2 * loD (g e.1)) (e.2 * hiD (g e.1)) := rfl
    have e2 : (stepB s e.2 (g e.1)).greatest = s.greatest + mx (e.2 * loD (g e.1)) (e.2 * hiD (g e.1)) := rfl
    have e3 : (stepB s e.2 (g e.1)).lack = if loD (g e.1) = hiD (g e.1) then s.lack - e.2 * loD (g e.1) else s.lack := rfl
    have e4 : (stepB s e.2 (g e.1)).common = if loD (g e.1) = hiD (g e.1) then s.common else ((s.common.gcd e.2 : Nat) : Int) := rfl
    have e5 : foldB g (e :: ps) s = foldB g ps (stepB s e.2 (g e.1)) := rfl
    rw [e5, sumZ_cons]
    rw [e1] at i1
    rw [e2] at i2
    refine ⟨Int.le_trans i1 ?_, Int.le_trans ?_ i2, ?_⟩
    · rw [← Int.add_assoc]; exact Int.add_le_add_right (Int.add_le_add_left b1 _) _
    · rw [← Int.add_assoc]; exact Int.add_le_add_right (Int.add_le_add_left b2 _) _
    generalize foldB g ps (stepB s e.2 (g e.1)) = r at *
    rw [e3] at i4
    rw [e4] at i3 i5
    by_cases hlh : loD (g e.1) = hiD (g e.1)
    · rw [if_pos hlh] at i3 i4 i5
      refine ⟨i3, ?_, i5⟩
      rw [Int.le_antisymm (hlh ▸ up) lo, ← Int.sub_sub]; exact i4
    · rw [if_neg hlh] at i3 i4 i5
      have d1 := Int.dvd_trans i3 (Int.gcd_dvd_left (a := s.common) (b := e.2))
      have d2 := Int.dvd_trans i3 (Int.gcd_dvd_right (a := s.common) (b := e.2))
      refine ⟨d1, ?_, fun ζ => i5 (Int.natCast_nonneg _)⟩
      rw [sub_four]
      exact Int.dvd_add i4 (Int.dvd_mul_of_dvd_left d2)
theorem beyond_sound {g : Int → Dm} {h : Int → Int} {coefs xs : List Int} {c : Int} {s : LK} (w : ∀ x, WF (g x)) (hi : ∀ e ∈ xs.zip coefs, In (g e.1) (h e.1)) (hs : s = .le ∨ s = .eq) (hsat : (Told.lin s coefs xs c).sat h = true) : beyondM s c (foldB g (xs.zip coefs) ⟨0, 0, c, 0⟩) = false := by
  obtain ⟨f1, f2, f3, f4, f5⟩ := fold_ok w (xs.zip coefs) ⟨0, 0, c, 0⟩ hi
  generalize foldB g (xs.zip coefs) ⟨0, 0, c, 0⟩ = r at *
  have f5 := f5 (Int.le_refl 0)
  have f4 : r.common ∣ r.lack - (c - sumZ h (xs.zip coefs)) := f4
  have f1 : r.least ≤ 0 + sumZ h (xs.zip coefs) := f1
  have f2 : 0 + sumZ h (xs.zip coefs) ≤ r.greatest := f2
  rw [Int.zero_add] at f1 f2
  unfold beyondM
  rcases hs with rfl | rfl
  · have hsat : decide (linSum coefs xs h ≤ c) = true := hsat
    have hsat := of_decide_eq_true hsat
    rw [lin_sumZ] at hsat
    rw [decide_eq_false (Int.not_lt.mpr (Int.le_trans f1 hsat))]
    rfl
  · have hsat : (linSum coefs xs h == c) = true := hsat
    rw [beq_iff_eq, lin_sumZ] at hsat
    rw [decide_eq_false (Int.not_lt.mpr (hsat ▸ f1)), decide_eq_false (Int.not_lt.mpr (hsat ▸ f2))]
    rw [hsat, Int.sub_self, Int.sub_zero] at f4
    have : ((if 0 < r.common then r.lack.fmod r.common else r.lack) == 0) = true := by
      rw [beq_iff_eq]
      by_cases hc : 0 < r.common
      · rw [if_pos hc]; exact Int.fmod_eq_zero_of_dvd f4
      · rw [if_neg hc]
        rw [Int.le_antisymm (Int.not_lt.mp hc) f5] at f4
        exact Int.zero_dvd.mp f4
    rw [this]; rfl
noncomputable def pickc (c : Int) (d : Dm) : Int := if 0 ≤ c then loD d else hiD d
theorem pick_in {d : Dm} (c : Int) (h : d ≠ []) (w : WF d) : In d (pickc c d) ∧ mn (c * loD d) (c * hiD d) = c * pickc c d := by
  obtain ⟨a1, a2⟩ := lo_first h w
  obtain ⟨b1, b2⟩ := hi_last h w
  have hab := a2 _ b1
  unfold pickc mn
  by_cases hc : 0 ≤ c
  · rw [if_pos hc]
    exact ⟨a1, if_neg (Int.not_lt.mpr (Int.mul_le_mul_of_nonneg_left hab hc))⟩
  · rw [if_neg hc]
    refine ⟨b1, ?_⟩
    split
    · rfl
    · exact Int.le_antisymm (Int.not_lt.mp ‹_›) (Int.mul_le_mul_of_nonpos_left (Int.le_of_lt (Int.not_le.mp hc)) hab)
theorem fold_least {g : Int → Dm} {h : Int → Int} : ∀ (ps : List (Int × Int)) (s : BS), (∀ e ∈ ps, mn (e.2 * loD (g e.1)) (e.2 * hiD (g e.1)) = e.2 * h e.1) → (foldB g ps s).least = s.least + sumZ h ps
  | [], s, _ => (Int.add_zero _).symm
  | e :: ps, s, hi => by
    have ih := fold_least ps (stepB s e.2 (g e.1)) fun a ha => hi a (List.mem_cons_of_mem _ ha)
    have e1 : (stepB s e.2 (g e.1)).least = s.least + mn (e.2 * loD (g e.1)) (e.2 * hiD (g e.1)) := rfl
    have e5 : foldB g (e :: ps) s = foldB g ps (stepB s e.2 (g e.1)) := rfl
    rw [e5, ih, e1, hi e List.mem_cons_self, sumZ_cons, Int.add_assoc]
theorem beyond_le {g : Int → Dm} {coefs xs : List Int} {c : Int} (w : ∀ x, WF (g x)) (hn : xs.Nodup) (hne : ∀ x ∈ xs, g x ≠ []) (hb : beyondM .le c (foldB g (xs.zip coefs) ⟨0, 0, c, 0⟩) = false) : ∃ h : Int → Int, (∀ x ∈ xs, In (g x) (h x)) ∧ (Told.lin .le coefs xs c).sat h = true := by
  refine ⟨fun x => pickc (asgF xs coefs x) (g x), fun x hx => (pick_in _ (hne x hx) (w x)).1, ?_⟩
  have := fold_least (g := g) (h := fun x => pickc (asgF xs coefs x) (g x)) (xs.zip coefs) ⟨0, 0, c, 0⟩ fun e he => by
    have e1 : asgF xs coefs e.1 = e.2 := by unfold asgF; rw [zip_find hn he]; rfl
    show _ = e.2 * pickc (asgF xs coefs e.1) (g e.1)
    rw [e1]
    exact (pick_in _ (hne e.1 (List.of_mem_zip he).1) (w e.1)).2
  unfold beyondM at hb
  rw [this] at hb
  show decide (linSum coefs xs _ ≤ c) = true
  rw [lin_sumZ]
  have hb : (decide (c < (0 : Int) + sumZ (fun x => pickc (asgF xs coefs x) (g x)) (xs.zip coefs)) || false) = false := hb
  rw [Bool.or_false] at hb
  have := of_decide_eq_false hb
  rw [Int.zero_add] at this
  exact decide_eq_true (Int.not_lt.mp this)
end Tl
end

section
open PySem PySem.W PySem.Calls PyProof.Rows
set_option linter.unusedVariables false
namespace Tl
theorem sat_congr {told : Told} {f f' : Int → Int} (h : ∀ x ∈ told.vars, f x = f' x) : told.sat f = told.sat f' := by
  cases told with
  | lin s coefs xs c =>
    have : linSum coefs xs f = linSum coefs xs f' := by
      unfold linSum
      refine congrArg List.sum (List.map_congr_left fun e he => ?_)
      rw [h e.2 (List.of_mem_zip he).2]
    cases s <;> simp only [Told.sat, this]
  | alld xs =>
    have : xs.map f = xs.map f' := List.map_congr_left h
    simp only [Told.sat, this]
  | table rows => simp only [Told.sat, h 0 (by simp [Told.vars]), h 1 (by simp [Told.vars]), h 2 (by simp [Told.vars])]
  | times => simp only [Told.sat, h 0 (by simp [Told.vars]), h 1 (by simp [Told.vars]), h 2 (by simp [Told.vars])]
  | max => simp only [Told.sat, h 0 (by simp [Told.vars]), h 1 (by simp [Told.vars]), h 2 (by simp [Told.vars])]
  | count n => simp only [Told.sat, h 0 (by simp [Told.vars]), h 1 (by simp [Told.vars]), h 2 (by simp [Told.vars])]
  | abs => simp only [Told.sat, h 0 (by simp [Told.vars]), h 2 (by simp [Told.vars])]
  | elof vals => simp only [Told.sat, h 0 (by simp [Told.vars]), h 2 (by simp [Told.vars])]
theorem asg_at {xs vals : List Int} (hn : xs.Nodup) {i : Nat} {x v : Int} (hx : xs[i]? = some x) (hv : vals[i]? = some v) : asgF xs vals x = v := by
  unfold asgF
  have : (x, v) ∈ xs.zip vals := List.mem_of_getElem? ((List.getElem?_zip_eq_some (z := (x, v))).mpr ⟨hx, hv⟩)
  rw [zip_find hn this]; rfl
theorem pick_val {xs : List Int} {G : Int → List Int} {ss : List Nat} (hn : xs.Nodup) (hv : ValidS ss (xs.map G)) : ∀ x ∈ xs, asgF xs (pickS ss (xs.map G)) x ∈ G x := fun x hx => by
  obtain ⟨i, hi⟩ := List.getElem?_of_mem hx
  have hil := (List.getElem?_eq_some_iff.mp hi).1
  have hsl : i < ss.length := by have := hv.1; rw [List.length_map] at this; lia -matchEqs
  have hs : ss[i]? = some ss[i] := List.getElem?_eq_getElem hsl
  have hG : (xs.map G)[i]? = some (G x) := by rw [List.getElem?_map, hi]; rfl
  have hlt := hv.2 i _ _ hs hG
  have hp : (pickS ss (xs.map G))[i]? = some ((G x).getD ss[i] 0) := by
    unfold pickS
    rw [List.getElem?_map, (List.getElem?_zip_eq_some (z := (ss[i], G x))).mpr ⟨hs, hG⟩]; rfl
  rw [asg_at hn hi hp, List.getD_eq_getElem?_getD, List.getElem?_eq_getElem hlt]
  exact List.getElem_mem hlt
theorem val_pick {xs : List Int} {G : Int → List Int} {h : Int → Int} (hn : xs.Nodup) (hh : ∀ x ∈ xs, h x ∈ G x) : ∃ ss, ValidS ss (xs.map G) ∧ ∀ x ∈ xs, asgF xs (pickS ss (xs.map G)) x = h x := by
  have hex : ∀ x ∈ xs, ∃ i : Nat, (G x)[i]? = some (h x) := fun x hx => List.getElem?_of_mem (hh x hx)
  obtain ⟨I, hI⟩ : ∃ I : Int → Nat, ∀ x ∈ xs, (G x)[I x]? = some (h x) := ⟨fun x => @dite _ (∃ i : Nat, (G x)[i]? = some (h x)) (Classical.propDecidable _) (fun h => h.choose) fun ζ => 0, fun x hx => by
    simp only [dif_pos (hex x hx)]; exact (hex x hx).choose_spec⟩
  refine ⟨xs.map I, ⟨by simp, fun j s l hs hl => ?_⟩, fun x hx => ?_⟩
  · rw [List.getElem?_map] at hs hl
    cases hx : xs[j]? with
    | none => rw [hx] at hs; cases hs
    | some x =>
      rw [hx] at hs hl
      cases hs; cases hl
      exact (List.getElem?_eq_some_iff.mp (hI x (List.mem_of_getElem? hx))).1
  · obtain ⟨i, hi⟩ := List.getElem?_of_mem hx
    refine asg_at hn hi ?_
    unfold pickS
    rw [List.getElem?_map, (List.getElem?_zip_eq_some (z := (I x, G x))).mpr ⟨by rw [List.getElem?_map, hi]; rfl, by rw [List.getElem?_map, hi]; rfl⟩]
    show some ((G x).getD (I x) 0) = some (h x)
    rw [List.getD_eq_getElem?_getD, hI x hx]; rfl
theorem ptF_at (h : Int → Int) {x : Int} (h0 : 0 ≤ x) (h4 : x < 4) : ptF (h 0) (h 1) (h 2) (h 3) x = h x := by
  have : x = 0 ∨ x = 1 ∨ x = 2 ∨ x = 3 := by lia -matchEqs
  rcases this with rfl | rfl | rfl | rfl <;> rfl
theorem mem_prod {l0 l1 l2 l3 : List Int} {pt : List Int} : pt ∈ prodP [[]] [l0, l1, l2, l3] ↔ ∃ a ∈ l0, ∃ b ∈ l1, ∃ c ∈ l2, ∃ d ∈ l3, pt = [a, b, c, d] := by
  have hc : ∀ pts l r, prodP pts (l :: r) = prodP (pts.flatMap fun pt => l.map fun v => pt ++ [v]) r := fun ζ ζ ζ => rfl
  rw [hc, hc, hc, hc, show ∀ p, prodP p [] = p from fun ζ => rfl]
  simp only [List.mem_flatMap, List.mem_map]
  constructor
  · rintro ⟨p2, ⟨p1, ⟨p0, ⟨p, hp, a, ha, rfl⟩, b, hb, rfl⟩, c, hc, rfl⟩, d, hd, rfl⟩
    have := List.mem_singleton.mp hp
    subst this
    exact ⟨a, ha, b, hb, c, hc, d, hd, rfl⟩
  · rintro ⟨a, ha, b, hb, c, hc, d, hd, rfl⟩
    exact ⟨_, ⟨_, ⟨_, ⟨_, List.mem_singleton.mpr rfl, a, ha, rfl⟩, b, hb, rfl⟩, c, hc, rfl⟩, d, hd, rfl⟩
theorem lots4 {L : List (List Int)} (h : LotsOk L) : ∃ l0 l1 l2 l3, L = [l0, l1, l2, l3] ∧ LotOk l0 ∧ LotOk l1 ∧ LotOk l2 ∧ LotOk l3 := by
  obtain ⟨ls, h1, h2, rfl⟩ := h
  match ls, h1 with
  | [a, b, c], _ => exact ⟨a, b, c, [0, 1], rfl, h2 a (by simp), h2 b (by simp), h2 c (by simp), by decide, by decide, by decide, by decide⟩
theorem due_iff {L : List (List Int)} {told : Told} {ls : List Lit} (hL : LotsOk L) (ht : told.Ok) (hls : ∀ l ∈ ls, Lit.Ok l) : dueM L told ls = false ↔ ∃ h : Int → Int, (∀ x, 0 ≤ x → x < 4 → h x ∈ lotF L x) ∧ (∀ l ∈ ls, l.says (h l.x) = false) ∧ told.sat h = true := by
  obtain ⟨l0, l1, l2, l3, rfl, -⟩ := lots4 hL
  unfold dueM
  rw [Bool.not_eq_false', List.any_eq_true]
  constructor
  · rintro ⟨pt, hpt, hit⟩
    obtain ⟨a, ha, b, hb, c, hc, d, hd, rfl⟩ := mem_prod.mp hpt
    unfold hitM at hit
    rw [Bool.and_eq_true, List.all_eq_true] at hit
    refine ⟨ptF a b c d, fun x h0 h4 => ?_, fun l hl => by have := hit.2 l hl; rw [Bool.not_eq_true'] at this; exact this, hit.1⟩
    have : x = 0 ∨ x = 1 ∨ x = 2 ∨ x = 3 := by lia -matchEqs
    rcases this with rfl | rfl | rfl | rfl
    · exact ha
    · exact hb
    · exact hc
    · exact hd
  · rintro ⟨h, h1, h2, h3⟩
    refine ⟨[h 0, h 1, h 2, h 3], mem_prod.mpr ⟨_, h1 0 (by decide) (by decide), _, h1 1 (by decide) (by decide), _, h1 2 (by decide) (by decide), _, h1 3 (by decide) (by decide), rfl⟩, ?_⟩
    unfold hitM
    rw [Bool.and_eq_true, List.all_eq_true]
    refine ⟨?_, fun l hl => ?_⟩
    · rw [← h3]
      refine sat_congr fun x hx => ?_
      have := Told.vars_in ht x hx
      exact ptF_at h this.1 (by lia -matchEqs)
    · rw [Bool.not_eq_true', ← h2 l hl]
      show l.says (ptF (h 0) (h 1) (h 2) (h 3) l.x) = _
      rw [ptF_at h (hls l hl).1.1 (hls l hl).1.2]
theorem alld_sat {xs : List Int} (h : (Told.alld xs).Ok) (f : Int → Int) : (Told.alld xs).sat f = true ↔ ∀ j k : Int, 0 ≤ j → j < xs.length → 0 ≤ k → k < xs.length → f j = f k → j = k := by
  rw [← pairs_sat h f, List.isEmpty_iff]
  rcases h with rfl | rfl
  · have e : ([0, 1].flatMap fun j => pairs1 f [0, 1] j) = [] ↔ ¬ f 0 = f 1 := by simp [pairs1]
    rw [e]
    constructor
    · intro h j k j0 j1 k0 k1 hjk
      have j1 : j < 2 := j1
      have k1 : k < 2 := k1
      have hj : j = 0 ∨ j = 1 := by lia -matchEqs
      have hk : k = 0 ∨ k = 1 := by lia -matchEqs
      rcases hj with rfl | rfl <;> rcases hk with rfl | rfl
      · rfl
      · exact absurd hjk h
      · exact absurd hjk.symm h
      · rfl
    · intro h e
      have := h 0 1 (by decide) (by decide) (by decide) (by decide) e
      lia -matchEqs
  · have e : ([0, 1, 2].flatMap fun j => pairs1 f [0, 1, 2] j) = [] ↔ (¬ f 0 = f 1 ∧ ¬ f 0 = f 2) ∧ ¬ f 1 = f 2 := by
      simp [pairs1, and_assoc]
    rw [e]
    constructor
    · rintro ⟨⟨h1, h2⟩, h3⟩ j k j0 j1 k0 k1 hjk
      have j1 : j < 3 := j1
      have k1 : k < 3 := k1
      have hj : j = 0 ∨ j = 1 ∨ j = 2 := by lia -matchEqs
      have hk : k = 0 ∨ k = 1 ∨ k = 2 := by lia -matchEqs
      rcases hj with rfl | rfl | rfl <;> rcases hk with rfl | rfl | rfl
      · rfl
      · exact absurd hjk h1
      · exact absurd hjk h2
      · exact absurd hjk.symm h1
      · rfl
      · exact absurd hjk h3
      · exact absurd hjk.symm h2
      · exact absurd hjk.symm h3
      · rfl
    · intro h
      exact ⟨⟨fun e => by have := h 0 1 (by decide) (by decide) (by decide) (by decide) e; lia -matchEqs, fun e => by have := h 0 2 (by decide) (by decide) (by decide) (by decide) e; lia -matchEqs⟩, fun e => by have := h 1 2 (by decide) (by decide) (by decide) (by decide) e; lia -matchEqs⟩
theorem alld_at {xs : List Int} (h : (Told.alld xs).Ok) (G : Int → List Int) {j : Int} (j0 : 0 ≤ j) (j1 : j < xs.length) : atL (xs.map G) j = G j ∧ j ∈ xs := by
  rcases h with rfl | rfl
  · have j1 : j < 2 := j1
    have hj : j = 0 ∨ j = 1 := by lia -matchEqs
    rcases hj with rfl | rfl <;> exact ⟨rfl, by simp⟩
  · have j1 : j < 3 := j1
    have hj : j = 0 ∨ j = 1 ∨ j = 2 := by lia -matchEqs
    rcases hj with rfl | rfl | rfl <;> exact ⟨rfl, by simp⟩
theorem alld_mem {xs : List Int} (h : (Told.alld xs).Ok) {j : Int} (hj : j ∈ xs) : 0 ≤ j ∧ j < xs.length := by
  rcases h with rfl | rfl
  · simp at hj; show 0 ≤ j ∧ j < 2; lia -matchEqs
  · simp at hj; show 0 ≤ j ∧ j < 3; lia -matchEqs
theorem lotF_ok {L : List (List Int)} (hL : LotsOk L) (x : Int) : LotOk (lotF L x) ∨ (lotF L x = [] ∧ ¬ (0 ≤ x ∧ x < 4)) := by
  obtain ⟨l0, l1, l2, l3, rfl, h0, h1, h2, h3⟩ := lots4 hL
  unfold lotF
  by_cases hx : x.toNat < 4
  · refine .inl ?_
    have : x.toNat = 0 ∨ x.toNat = 1 ∨ x.toNat = 2 ∨ x.toNat = 3 := by lia -matchEqs
    rcases this with e | e | e | e <;> rw [e]
    · exact h0
    · exact h1
    · exact h2
    · exact h3
  · refine .inr ⟨?_, by lia -matchEqs⟩
    rw [List.getD_eq_getElem?_getD, List.getElem?_eq_none (by simp; lia -matchEqs)]; rfl
theorem lotF_is {L : List (List Int)} (hL : LotsOk L) (x : Int) : (lotF L x).Pairwise (· < ·) ∧ (lotF L x).length ≤ 3 ∧ (∀ v ∈ lotF L x, -1 ≤ v ∧ v ≤ 6) ∧ (0 ≤ x → x < 4 → lotF L x ≠ []) := by
  rcases lotF_ok hL x with h | ⟨h, g⟩
  · exact ⟨h.1, h.2.2.1, h.2.2.2, fun ζ ζ => h.2.1⟩
  · rw [h]; exact ⟨.nil, by simp, by simp, fun a b => absurd ⟨a, b⟩ g⟩
theorem from_is {l : List Int} (h : l.Pairwise (· < ·)) : WF (fromM l) ∧ (∀ v, In (fromM l) v ↔ v ∈ l) ∧ valsM (fromM l) = l := by
  obtain ⟨h1, h2⟩ := from_ok (d := []) h trivial (by simp)
  have h2' : ∀ v, In (fromM l) v ↔ v ∈ l := fun v => by rw [show In (fromM l) v ↔ _ from h2 v]; simp [In_nil]
  exact ⟨h1, h2', rising_eq (vals_sorted h1) h fun v => vals_mem.trans (h2' v)⟩
theorem many_left {g : Int → Dm} {lot : Int → List Int} {ls : List Lit} : ∀ (xs : List Int) (m : Int), (∀ x ∈ xs, sizeM (g x) = (((lot x).filter fun v => (ls.filter fun l => l.x == x).all fun l => !l.says v).length : Nat)) → leftM lot xs ls m = manyM g xs m
  | [], m, h => rfl
  | x :: xs, m, h => by
    show leftM lot xs ls (m * _) = manyM g xs (m * sizeM (g x))
    rw [h x List.mem_cons_self]
    exact many_left xs _ fun y hy => h y (List.mem_cons_of_mem _ hy)
theorem many_le {g : Int → Dm} : ∀ (xs : List Int) (m n : Nat), (∀ x ∈ xs, 0 ≤ sizeM (g x) ∧ sizeM (g x) ≤ 3) → m ≤ n → manyM g xs m ≤ ((n * 3 ^ xs.length : Nat) : Int)
  | [], m, n, h, hm => by show (m : Int) ≤ ((n * 3 ^ 0 : Nat) : Int); lia -matchEqs
  | x :: xs, m, n, h, hm => by
    obtain ⟨a, b⟩ := h x List.mem_cons_self
    obtain ⟨k, hk⟩ := Int.eq_ofNat_of_zero_le a
    have := many_le xs (m * k) (n * 3) (fun y hy => h y (List.mem_cons_of_mem _ hy)) (Nat.mul_le_mul hm (by lia -matchEqs))
    show manyM g xs (m * sizeM (g x)) ≤ _
    rw [hk]
    rw [List.length_cons, Nat.pow_succ, Nat.mul_comm (3 ^ xs.length) 3, ← Nat.mul_assoc]
    rw [show ((m : Int) * (k : Int)) = ((m * k : Nat) : Int) by simp]
    exact this
theorem zero_in {told : Told} (ht : told.Ok) : (0 : Int) ∈ told.vars := by
  cases told with
  | lin s coefs xs c => rcases ht.1 with rfl | rfl <;> exact List.mem_cons_self
  | alld xs => rcases ht with rfl | rfl <;> exact List.mem_cons_self
  | _ => exact List.mem_cons_self
theorem rd_ex {told : Told} {G : Int → List Int} (ht : told.Ok) (h3 : ∀ x, (G x).length ≤ 3) : ∃ rd, ∀ xs, told = .alld xs → Differ (xs.map G) 0 [] rd ∧ (rd = true ↔ Sdr (xs.map G)) := by
  cases told with
  | alld xs =>
    have hxl : xs.length ≤ 3 := by rcases ht with rfl | rfl <;> decide
    have hfl : ∀ l : List Int, (l.map G).flatten.length ≤ 3 * l.length := fun l => by
      induction l with
      | nil => exact Nat.le_refl 0
      | cons x l ih => rw [List.map_cons, List.flatten_cons, List.length_append, List.length_cons]; have := h3 x; lia -matchEqs
    obtain ⟨r, d⟩ := differ_ex (lots := xs.map G) (Nat.le_trans (hfl xs) (Nat.le_trans (Nat.mul_le_mul_left 3 hxl) (by decide))) (by rw [List.length_map]; exact Nat.le_trans hxl (by decide))
    exact ⟨r, fun ys e => by cases e; exact d⟩
  | _ => exact ⟨false, fun xs e => nomatch e⟩
theorem ref_sound {g : Int → Dm} {rd : Bool} {told : Told} {h : Int → Int} (gw : ∀ x, WF (g x)) (ht : told.Ok) (hrd : ∀ xs, told = .alld xs → (rd = true ↔ Sdr (xs.map fun y => valsM (g y)))) (h1 : ∀ x ∈ told.vars, In (g x) (h x)) (h2 : told.sat h = true) : refutedM g rd told = false := by
  cases told with
  | lin s coefs xs c =>
    have hz : ∀ e ∈ xs.zip coefs, In (g e.1) (h e.1) := fun e he => h1 e.1 (List.of_mem_zip he).1
    cases s with
    | ne => rfl
    | le => exact beyond_sound gw hz (.inl rfl) h2
    | eq => exact beyond_sound gw hz (.inr rfl) h2
  | alld xs =>
    refine congrArg not ((hrd xs rfl).mpr ⟨h, fun j j0 j1 => ?_, fun j k j0 j1 k0 k1 e => ?_⟩)
    · rw [List.length_map] at j1
      obtain ⟨a1, a2⟩ := alld_at ht (fun y => valsM (g y)) j0 j1
      rw [a1]; exact vals_mem.mpr (h1 j a2)
    · rw [List.length_map] at j1 k1
      exact (alld_sat ht h).mp h2 j k j0 j1 k0 k1 e
  | table rows => exact congrArg not (List.any_eq_true.mpr ⟨_, List.contains_iff_mem.mp h2, (row_in gw).mpr ⟨h1 0 (.head _), h1 1 (.tail _ (.head _)), h1 2 (.tail _ (.tail _ (.head _)))⟩⟩)
  | _ => rfl
theorem ref_compl {g : Int → Dm} {rd : Bool} {told : Told} (gw : ∀ x, WF (g x)) (ht : told.Ok) (hn : told.vars.Nodup) (hrd : ∀ xs, told = .alld xs → (rd = true ↔ Sdr (xs.map fun y => valsM (g y)))) (hne : ∀ x ∈ told.vars, g x ≠ []) (hr : refutedM g rd told = false)
    (hc : told.isAT = true ∨ ∃ coefs xs c, told = .lin .le coefs xs c) : ∃ h : Int → Int, (∀ x ∈ told.vars, In (g x) (h x)) ∧ told.sat h = true := by
  cases told with
  | lin s coefs xs c =>
    rcases hc with hc | ⟨_, _, _, e⟩
    · cases hc
    · cases e; exact beyond_le gw hn hne hr
  | alld xs =>
    obtain ⟨f, f1, f2⟩ := (hrd xs rfl).mp (by cases rd; cases hr; rfl)
    rw [List.length_map] at f1 f2
    refine ⟨f, fun x hx => ?_, (alld_sat ht f).mpr f2⟩
    obtain ⟨x0, x1⟩ := alld_mem ht hx
    have := f1 x x0 x1
    rw [(alld_at ht (fun y => valsM (g y)) x0 x1).1] at this
    exact vals_mem.mp this
  | table rows =>
    have hr : (!(rows.any (rowOk g [0, 1, 2]))) = false := hr
    rw [Bool.not_eq_false', List.any_eq_true] at hr
    obtain ⟨row, hrow, hok⟩ := hr
    match row, ht.2 row hrow with
    | [a, b, c], _ =>
      obtain ⟨k1, k2, k3⟩ := (row_in gw).mp hok
      exact ⟨ptF a b c 0, List.forall_mem_cons.mpr ⟨k1, List.forall_mem_cons.mpr ⟨k2, List.forall_mem_cons.mpr ⟨k3, fun ζ h => nomatch h⟩⟩⟩, List.contains_iff_mem.mpr hrow⟩
  | _ =>
    rcases hc with hc | ⟨_, _, _, e⟩
    · cases hc
    · cases e
theorem judged (L : List (List Int)) (told : Told) (ls : List Lit) (hL : LotsOk L) (ht : told.Ok) (hlen : ls.length ≤ 3) (hls : ∀ l ∈ ls, Lit.Ok l) : Judged L told ls := by
  have hfx := fun x => from_is (lotF_is hL x).1
  have hw : ∀ x, WF ((fun y => fromM (lotF L y)) x) := fun x => (hfx x).1
  have hf3 : ∀ y, (fromM (lotF L y)).length ≤ 3 := fun y => by
    have := len_vals (hfx y).1
    rw [(hfx y).2.2] at this
    exact Nat.le_trans this (lotF_is hL y).2.1
  obtain ⟨hnd, hn3⟩ := Told.vars_nodup ht
  have hvi := Told.vars_in ht
  cases hd : denyM (fun y => fromM (lotF L y)) ls with
  | none =>
    refine ⟨false, false, hf3, fun g e => (by rw [hd] at e; cases e), fun ζ => ?_, fun g e => (by rw [hd] at e; cases e)⟩
    cases hdue : dueM L told ls with
    | true => rfl
    | false =>
      obtain ⟨h, h1, h2, h3⟩ := (due_iff hL ht hls).mp hdue
      obtain ⟨l, hl, g1⟩ := deny_none hw hd
      obtain ⟨m, hm, g2, g3⟩ := g1 (h l.x) (((hfx l.x).2.1 _).mpr (h1 l.x (hls l hl).1.1 (hls l hl).1.2))
      have := h2 m hm
      rw [g2] at this
      exact absurd (this.symm.trans g3) (by decide)
  | some g =>
    obtain ⟨gw, gin, gne⟩ := deny_some hw hd
    have gin' : ∀ x v, In (g x) v ↔ v ∈ lotF L x ∧ ∀ l ∈ ls, l.x = x → l.says v = false := fun x v => by
      rw [gin x v, show In ((fun y => fromM (lotF L y)) x) v ↔ _ from (hfx x).2.1 v]; rfl
    have gne' : ∀ x, 0 ≤ x → x < 4 → g x ≠ [] := fun x h0 h4 => gne x fun z => by
      obtain ⟨v, hv⟩ := List.exists_mem_of_ne_nil _ ((lotF_is hL x).2.2.2 h0 h4)
      have := ((hfx x).2.1 v).mpr hv
      rw [show fromM (lotF L x) = [] from z] at this
      exact In_nil this
    have hval : ∀ x, valsM (g x) = (lotF L x).filter fun v => (ls.filter fun l => l.x == x).all fun l => !l.says v := fun x => by
      refine rising_eq (vals_sorted (gw x)) ((lotF_is hL x).1.sublist List.filter_sublist) fun v => ?_
      rw [vals_mem, gin' x v, List.mem_filter, List.all_eq_true]
      refine and_congr_right fun ζ => ?_
      constructor
      · intro h l hl
        obtain ⟨h1, h2⟩ := List.mem_filter.mp hl
        rw [h l h1 (beq_iff_eq.mp h2)]; rfl
      · intro h l hl hx
        have := h l (List.mem_filter.mpr ⟨hl, beq_iff_eq.mpr hx⟩)
        rw [Bool.not_eq_true'] at this; exact this
    have hlen3 : ∀ x, (valsM (g x)).length ≤ 3 := fun x => by
      rw [hval x]; exact Nat.le_trans (List.length_filter_le _ _) (lotF_is hL x).2.1
    have hvl : ∀ x v, In (g x) v → -1 ≤ v ∧ v ≤ 6 := fun x v h => (lotF_is hL x).2.2.1 v ((gin' x v).mp h).1
    have hV : dueM L told ls = false ↔ ∃ h : Int → Int, (∀ x ∈ told.vars, In (g x) (h x)) ∧ told.sat h = true := by
      rw [due_iff hL ht hls]
      constructor
      · rintro ⟨h, h1, h2, h3⟩
        refine ⟨h, fun x hx => (gin' x _).mpr ⟨h1 x (hvi x hx).1 (by have := hvi x hx; lia -matchEqs), fun l hl e => ?_⟩, h3⟩
        rw [← e]; exact h2 l hl
      · rintro ⟨h, h1, h2⟩
        refine ⟨fun x => if x ∈ told.vars then h x else loD (g x), ?_⟩
        have hin : ∀ x, 0 ≤ x → x < 4 → In (g x) (if x ∈ told.vars then h x else loD (g x)) := fun x h0 h4 => by
          by_cases hx : x ∈ told.vars
          · rw [if_pos hx]; exact h1 x hx
          · rw [if_neg hx]; exact (lo_first (gne' x h0 h4) (gw x)).1
        refine ⟨fun x h0 h4 => ((gin' x _).mp (hin x h0 h4)).1, fun l hl => ?_, ?_⟩
        · exact ((gin' l.x _).mp (hin l.x (hls l hl).1.1 (hls l hl).1.2)).2 l hl rfl
        · rw [← h2]; exact sat_congr fun x hx => if_pos hx
    obtain ⟨rd, hrd⟩ := rd_ex ht hlen3
    have hrt : ∀ ss, ValidS ss (told.vars.map fun y => valsM (g y)) → ∀ x ∈ told.vars, In (g x) (asgF told.vars (pickS ss (told.vars.map fun y => valsM (g y))) x) := fun ss hs x hx => vals_mem.mp (pick_val hnd hs x hx)
    have hrtd : (!dueM L told ls) = true ↔ ∃ ss, ValidS ss (told.vars.map fun y => valsM (g y)) ∧ told.sat (asgF told.vars (pickS ss (told.vars.map fun y => valsM (g y)))) = true := by
      rw [Bool.not_eq_true', hV]
      constructor
      · rintro ⟨h, h1, h2⟩
        obtain ⟨ss, s1, s2⟩ := val_pick (G := fun y => valsM (g y)) hnd fun x hx => vals_mem.mpr (h1 x hx)
        exact ⟨ss, s1, by rw [← h2]; exact sat_congr s2⟩
      · rintro ⟨ss, s1, s2⟩
        exact ⟨_, hrt ss s1, s2⟩
    have href : refutedM g rd told = true → dueM L told ls = true := fun hr => by
      cases hdue : dueM L told ls with
      | true => rfl
      | false =>
        obtain ⟨h, h1, h2⟩ := hV.mp hdue
        exact absurd (hr.symm.trans (ref_sound gw ht (fun xs e => (hrd xs e).2) h1 h2)) (by decide)
    have hcomp : refutedM g rd told = false → (told.isAT = true ∨ ∃ coefs xs c, told = .lin .le coefs xs c) → dueM L told ls = false := fun hr hc =>
      hV.mpr (ref_compl gw ht hnd (fun xs e => (hrd xs e).2) (fun x hx => gne' x (hvi x hx).1 (by have := hvi x hx; lia -matchEqs)) hr hc)
    have hsz : ∀ x ∈ told.vars, 0 ≤ sizeM (g x) ∧ sizeM (g x) ≤ 3 := fun x ζ => by have := size_vals (gw x); have := hlen3 x; lia -matchEqs
    have hmany := many_le (g := g) told.vars 1 1 hsz (Nat.le_refl 1)
    have hleft := many_left (g := g) (lot := lotF L) (ls := ls) told.vars 1 fun x ζ => by rw [size_vals (gw x), hval x]
    refine ⟨rd, !dueM L told ls, hf3, fun g' e => ?_, fun e => (by rw [hd] at e; cases e), fun g' e => ?_⟩
    · rw [hd] at e; cases e
      refine ⟨fun y hy => ?_, fun xs e => (hrd xs e).1, fun ss hs => ?_, hrtd⟩
      · have h1 := gne' y (hvi y hy).1 (by have := hvi y hy; lia -matchEqs)
        have h2 := size_vals (gw y)
        have h3 := hlen3 y
        refine ⟨h1, ⟨by have := len_vals (gw y); lia -matchEqs, fun e he => ?_⟩, fun z => ?_, by lia -matchEqs, by lia -matchEqs⟩
        · have h4 := WF_mem (gw y) e he
          have := hvl y e.1 ⟨e, he, Int.le_refl _, h4⟩
          have := hvl y e.2 ⟨e, he, h4, Int.le_refl _⟩
          lia -matchEqs
        · have := vals_mem.mpr (lo_first h1 (gw y)).1
          rw [z] at this; cases this
      · have := hvl 0 _ (hrt ss hs 0 (zero_in ht)); lia -matchEqs
    · rw [hd] at e; cases e
      have hf : ∀ most, followsM g most rd (!dueM L told ls) told = if refutedM g rd told then some true else if manyM g told.vars 1 ≤ most then some (dueM L told ls) else if told.isAT then some false else none := fun most => by unfold followsM; rw [Bool.not_not]
      have h27 : manyM g told.vars 1 ≤ 27 := Int.le_trans hmany (by have : 3 ^ told.vars.length ≤ 3 ^ 3 := Nat.pow_le_pow_right (by decide) hn3; lia -matchEqs)
      refine ⟨?_, fun most => ⟨fun b hb => ?_, fun hb => ?_⟩⟩
      · rw [hf]
        cases hr : refutedM g rd told with
        | true => rw [if_pos rfl, href hr]
        | false => rw [if_neg (by decide), if_pos (by lia -matchEqs)]
      · rw [hf] at hb
        cases hr : refutedM g rd told with
        | true => rw [hr, if_pos rfl] at hb; cases hb; exact (href hr).symm
        | false =>
          rw [hr, if_neg (by decide)] at hb
          by_cases hm : manyM g told.vars 1 ≤ most
          · rw [if_pos hm] at hb; cases hb; rfl
          · rw [if_neg hm] at hb
            cases ha : told.isAT with
            | true => rw [ha, if_pos rfl] at hb; cases hb; exact (hcomp hr (.inl ha)).symm
            | false => rw [ha, if_neg (by decide)] at hb; cases hb
      · rw [hf] at hb
        cases hr : refutedM g rd told with
        | true => rw [hr, if_pos rfl] at hb; cases hb
        | false =>
          rw [hr, if_neg (by decide)] at hb
          by_cases hm : manyM g told.vars 1 ≤ most
          · rw [if_pos hm] at hb; cases hb
          · cases ha : told.isAT with
            | true => rw [if_neg hm, ha, if_pos rfl] at hb; cases hb
            | false => exact ⟨by rw [hleft]; lia -matchEqs, rfl, fun coefs xs c e => hcomp hr (.inr ⟨coefs, xs, c, e⟩)⟩
end Tl
end

section
open PySem PySem.W PySem.Calls PyProof.Rows
set_option maxRecDepth 1000000
set_option maxHeartbeats 0
namespace Tl
noncomputable abbrev bE : List Stmt := behindTheImports pw
noncomputable def envE : Env := { scope := pw.main.scope, locals := mainNs, globals := mainNs, cells := [], code := .ref 13, frame := some 14 }
noncomputable abbrev cE : Code := .body bE envE
noncomputable abbrev p0 : Pos := ⟨0, 0, 0, 0⟩
noncomputable abbrev pZ : Pos := ⟨433, 0, 456, 15⟩
noncomputable abbrev S0 (w : World) (os : OsState) : Shared := ⟨boot_heap w.params, #[], boot_drawn, boot_toks, os⟩
noncomputable abbrev SA (w : World) (os : OsState) : SharedT := ⟨tA w.params, 15, {}, #[], {}, 187, os⟩
noncomputable abbrev SZ (w : World) (os : OsState) : SharedT := ⟨tZ w.params, 450, {}, #[], {}, 817, os⟩
theorem h_pre (w : World) (os : OsState) : topGo treeTable pw w 11 (some (.ref 6)) 12 (S0 w os) (topStub pw) = some ((SA w os).abs, ⟨denote treeTable cE, cE, p0, [topFrame p0]⟩) := by
  rw [Fast.te15667345088766844465, Fast.te11892475500146522536]
  kernel_rfl
theorem h_blk (w : World) (os : OsState) : segRun treeTable pw w 11 (some (.ref 6)) 1 1 (SA w os).abs (blockOf bE envE cE p0 [topFrame p0]) = some (.next, (SA w os).abs, cE, p0) := by
  rw [Fast.te14374325043358763698]
  kernel_rfl
theorem h_run (w : World) (os : OsState) : segRunT treeTable pw w 11 (some (.ref 6)) 1 2735 (SA w os) (piecesOf bE envE cE p0 [topFrame p0]) = some (.next, SZ w os, cE, pZ) := by
  rw [Fast.te10110043849684766642]
  kernel_rfl
theorem h_fin (w : World) (os : OsState) : topRun treeTable pw w 11 (some (.ref 6)) 2 (SZ w os).abs ⟨doneF .next, cE, pZ, [topFrame p0]⟩ = some (SZ w os).abs := by
  rw [Fast.te14082659384304107361]
  kernel_rfl
theorem h_all (w : World) (os : OsState) : topRun treeTable pw w 11 (some (.ref 6)) (12 + (1 + (2735 + 2))) (S0 w os) (topStub pw) = some (SZ w os).abs :=
  go_top (h_pre w os) (piece_block (h_blk w os) (by
    have h := piece_app (rest := []) (segRun_of (h_run w os)) (piece_nil (h_fin w os))
    rwa [List.append_nil] at h))
end Tl
end

section
open PySem PySem.W PySem.Calls PyProof.Rows
set_option maxRecDepth 1000000
set_option maxHeartbeats 0
namespace Tl
noncomputable def qP : Program := view pw [54]
noncomputable def lse : List Str := List.map Str.ofString ["_wall", "LINEAR", "ARITH", "CHOICES", "COUNTS", "TIMES", "ORDERS", "values_of", "quotient_of", "linear_holds", "arith_holds", "is_round", "are_inverse", "choice_holds", "count_holds", "need_at", "time_holds", "is_accepted", "order_holds", "logic_holds", "holds", "listed_vars", "vars_of", "put_behind", "from_values", "size", "next_from", "has", "values", "up_to", "from_on", "without", "meet", "negation", "struck", "FdError", "ProofFault", "divisor_of", "Box", "StepJudge", "_law_draw", "_law_pick", "_law_lots", "_law_told", "_law_keeps", "_law_says", "_law_clause", "_law_left", "_law_answer"]
noncomputable def kH : Hook := kHook zK zAs fun ζ => by kernel_rfl
theorem h_left : LeftO pw qP lse (fun ζ => true) (Hook.obs kH) (Hook.val kH) 5600 :=
  LeftO.of_pieces (boot_open (by kernel_rfl) (by decide +kernel) fun ζ => by kernel_rfl) (H₁ := fun P => absHeap (tZ P) 450 {}) (gs₁ := #[]) (d₁ := {}) (k₁ := 817) (M := 12 + (1 + (2735 + 2))) (m₀ := 11) (ann := some (.ref 6)) (fun w => by kernel_rfl) h_all (by decide +kernel) (fun w => by
    rw [Fast.te4187177175401517315]
    kernel_rfl)
end Tl
end

section
open PySem PySem.W PySem.Calls PyProof.Rows
set_option maxRecDepth 100000
set_option maxHeartbeats 4000000
namespace Tl
theorem well_vrl {W : Params} {h : Heap} {F : FS} {p : P} {ns : List Int} {vs : List Value} (w : WellAll W h vs (ofPys (ns.map PyData.int))) : VRL h F p vs (ns.map V.int) := by
  induction ns generalizing vs with
  | nil => cases w; exact .nil
  | cons n r ih =>
    cases w with
    | cons a b => cases a; exact .cons (.int _ _) (ih b)
theorem entry {w : World} {q : Program} {loose : List Str} {mean : ExcName → Option Value} {mg mb : Str → Option Value} {s : Shared} (T : Top q loose mean mg mb s.heap) (X : (zK w.params).In s.heap) {a l : Addr} {ns : List Int} (hl : ns.length ≤ 63) (hmg : mg "law" = some (.ref a))
    (W : Well w.params s.heap (.ref l) (ofPy (.list (ns.map .int)))) :
    wpAny (model pw w) callerA (call (.ref a) [.ref l]) (fun v s' => v = .bool true ∧ (∀ b o, s.heap.get? b = some o → s'.heap.get? b = some o) ∧ s'.os = s.os ∧ s'.gens = s.gens) (fun ζ ζ => False) s := by
  have ea : a = 449 := by
    have := (mg_of (v := .ref 449) X T.g (by kernel_rfl)).symm.trans hmg
    cases this; rfl
  subst ea
  let C : Cfg := { prog := pw, w := w, base := s.heap, K := zK w.params, p := q, loose := loose, mean := mean, mg := mg, mb := mb, X := X, T := T, exc := 262 }
  have I : Inv C NO (fun ζ => none) s.heap := ⟨fun b o e => ⟨e, id, rfl⟩, fun ζ ζ e => (nomatch e), fun ζ h => h.elim⟩
  have R : Room 9 callerA NO s.heap := ⟨rfl, by decide, by decide, [], rfl, fun ζ h => (nomatch h)⟩
  have hP : PyOk C := ⟨by kernel_rfl, by kernel_rfl⟩
  have V : VRL s.heap NO (fun ζ => none) [.ref l] [.lst (ns.map .int)] := by
    cases W with
    | list h g => exact .cons (.lst (n := 0) h ⟨id, rfl⟩ (well_vrl g)) .nil
  refine wpAny_mono (law_ok (C := C) (k := 0) (p := fun ζ => none) (X := X0) (Q := fun v ζ => v = .bool true) rfl rfl hP judged hl (fun ζ => rfl) callerA NO s _ R I V) (fun v s' h => ?_) fun ζ ζ h => h.no
  obtain ⟨v, p', rfl, I', S, r, m⟩ := h
  cases r
  exact ⟨rfl, fun b o e => (I'.base b o e).1, by rw [m], by rw [m]⟩
set_option tactic.hygienic true in
theorem walk {d : DefRec} {kwd : List (Str × Expr)} (hn : d.name = "law") : WalkO qP lse (fun ζ ζ => True) (Hook.says kH) PySem.Challenge.rw_no0330_01.row.toRowW d kwd fun f vs => call f vs := by
  intro w s₀ s₁ mg mb G Y a o pm cd doc dV kV ho hd hcd hD hmg hgens args vals as hpre hlay hrd hwl hlo
  have X : (zK w.params).In s₁.heap := kIn_of Y
  rw [hn] at hmg
  clear ho hd hcd hD hn
  wrow_args hpre hlay hrd hwl hlo
  rename_i ns _ _ _ _ _ _ _ l _ _ _ _ W _ _ _ hn _
  refine wpAny_mono (entry G.T X (by omega) hmg W) (fun v s' h => ?_) fun ζ ζ h => h.elim
  obtain ⟨rfl, hk, ho, hg⟩ := h
  exact GoodW.toG ⟨.inl ⟨_, .bool true, [], rfl, fun ζ => rfl, .bool true, by kernel_rfl, fun ζ => ⟨.nil, fun ζ h => nomatch h⟩⟩, hk, ho, hg.trans hgens⟩
noncomputable def dL : DefRec := ((defOf qP "law").getD (⟨default, default, [], default, default⟩, [])).1
theorem said : PySem.Challenge.rw_no0330_01.wellSaid = true := by
  rw [Fast.te9446332074065402090]
  unfold Fast.tw9446332074065402090
  repeat' with_reducible apply look_both
  unfold Fast.tw17960256430627541270
  repeat' with_reducible apply look_both
  unfold Fast.tw2436336058641802641
  repeat' with_reducible apply look_both
  unfold Fast.tw12908688711261696721
  repeat' with_reducible apply look_both
  all_goals decide +kernel
end Tl
theorem PySem.Challenge.cw_no0330_01_holds : PySem.Challenge.rw_no0330_01.Holds :=
  holds_law Tl.said fun said => holds_open (q := Tl.qP) (loose := Tl.lse) (Xt := fun ζ => true) (XP := fun ζ ζ => True) (Yf := Hook.obs Tl.kH) (Ya := Hook.val Tl.kH) (YP := Hook.says Tl.kH) (N := 5600) (d := Tl.dL) (kwd := []) Tl.h_left (Hook.of Tl.kH) (Hook.keeps Tl.kH) (fun ζ ζ => trivial) (fun ζ ζ ζ ζ ζ => trivial) (by kernel_rfl) (by kernel_rfl) (by kernel_rfl) (fun s e => recFacts_of rfl) (by kernel_rfl) said (by kernel_rfl) ⟨rfl, rfl, rfl, rfl, rfl, by decide +kernel⟩ ⟨[.list [.int 3]], by kernel_rfl, by kernel_rfl⟩ (Tl.walk (by kernel_rfl))
end
