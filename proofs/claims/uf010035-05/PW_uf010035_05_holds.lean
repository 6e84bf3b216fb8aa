import PyProof.Rows.All
import Wide.All
import OpenK.AllK
import Wide.FinOn
import PySem.Challenge.RW_uf010035_05
set_option Elab.async false
set_option maxRecDepth 100000
set_option linter.unusedSimpArgs false
set_option linter.unusedVariables false
set_option genSizeOfSpec false
set_option genSizeOf false
noncomputable section
namespace Mine
open PySem

/-! eliminators of long chains -/
theorem ea0_3 {A0 A1 A2 : Prop} {G : Prop} (h : A0 ∧ A1 ∧ A2) (k : A0 → A1 → A2 → G) : G := k h.1 h.2.1 h.2.2
theorem ea0_4 {A0 A1 A2 A3 : Prop} {G : Prop} (h : A0 ∧ A1 ∧ A2 ∧ A3) (k : A0 → A1 → A2 → A3 → G) : G := k h.1 h.2.1 h.2.2.1 h.2.2.2
theorem ea0_5 {A0 A1 A2 A3 A4 : Prop} {G : Prop} (h : A0 ∧ A1 ∧ A2 ∧ A3 ∧ A4) (k : A0 → A1 → A2 → A3 → A4 → G) : G := k h.1 h.2.1 h.2.2.1 h.2.2.2.1 h.2.2.2.2
theorem ea1_2 {α0 : Type} {A0 A1 : α0 → Prop} {G : Prop} (h : ∃ a0, A0 a0 ∧ A1 a0) (k : ∀ a0, A0 a0 → A1 a0 → G) : G := h.elim fun a0 h => k a0 h.1 h.2
theorem ea1_3 {α0 : Type} {A0 A1 A2 : α0 → Prop} {G : Prop} (h : ∃ a0, A0 a0 ∧ A1 a0 ∧ A2 a0) (k : ∀ a0, A0 a0 → A1 a0 → A2 a0 → G) : G := h.elim fun a0 h => k a0 h.1 h.2.1 h.2.2
theorem ea1_4 {α0 : Type} {A0 A1 A2 A3 : α0 → Prop} {G : Prop} (h : ∃ a0, A0 a0 ∧ A1 a0 ∧ A2 a0 ∧ A3 a0) (k : ∀ a0, A0 a0 → A1 a0 → A2 a0 → A3 a0 → G) : G := h.elim fun a0 h => k a0 h.1 h.2.1 h.2.2.1 h.2.2.2
theorem ea1_5 {α0 : Type} {A0 A1 A2 A3 A4 : α0 → Prop} {G : Prop} (h : ∃ a0, A0 a0 ∧ A1 a0 ∧ A2 a0 ∧ A3 a0 ∧ A4 a0) (k : ∀ a0, A0 a0 → A1 a0 → A2 a0 → A3 a0 → A4 a0 → G) : G := h.elim fun a0 h => k a0 h.1 h.2.1 h.2.2.1 h.2.2.2.1 h.2.2.2.2
theorem ea2_1 {α0 α1 : Type} {A0 : α0 → α1 → Prop} {G : Prop} (h : ∃ a0 a1, A0 a0 a1) (k : ∀ a0 a1, A0 a0 a1 → G) : G := h.elim fun a0 h => h.elim fun a1 h => k a0 a1 h
theorem ea2_2 {α0 α1 : Type} {A0 A1 : α0 → α1 → Prop} {G : Prop} (h : ∃ a0 a1, A0 a0 a1 ∧ A1 a0 a1) (k : ∀ a0 a1, A0 a0 a1 → A1 a0 a1 → G) : G := h.elim fun a0 h => h.elim fun a1 h => k a0 a1 h.1 h.2
theorem ea2_3 {α0 α1 : Type} {A0 A1 A2 : α0 → α1 → Prop} {G : Prop} (h : ∃ a0 a1, A0 a0 a1 ∧ A1 a0 a1 ∧ A2 a0 a1) (k : ∀ a0 a1, A0 a0 a1 → A1 a0 a1 → A2 a0 a1 → G) : G := h.elim fun a0 h => h.elim fun a1 h => k a0 a1 h.1 h.2.1 h.2.2
theorem ea2_4 {α0 α1 : Type} {A0 A1 A2 A3 : α0 → α1 → Prop} {G : Prop} (h : ∃ a0 a1, A0 a0 a1 ∧ A1 a0 a1 ∧ A2 a0 a1 ∧ A3 a0 a1) (k : ∀ a0 a1, A0 a0 a1 → A1 a0 a1 → A2 a0 a1 → A3 a0 a1 → G) : G := h.elim fun a0 h => h.elim fun a1 h => k a0 a1 h.1 h.2.1 h.2.2.1 h.2.2.2
theorem ea2_7 {α0 α1 : Type} {A0 A1 A2 A3 A4 A5 A6 : α0 → α1 → Prop} {G : Prop} (h : ∃ a0 a1, A0 a0 a1 ∧ A1 a0 a1 ∧ A2 a0 a1 ∧ A3 a0 a1 ∧ A4 a0 a1 ∧ A5 a0 a1 ∧ A6 a0 a1) (k : ∀ a0 a1, A0 a0 a1 → A1 a0 a1 → A2 a0 a1 → A3 a0 a1 → A4 a0 a1 → A5 a0 a1 → A6 a0 a1 → G) : G := h.elim fun a0 h => h.elim fun a1 h => k a0 a1 h.1 h.2.1 h.2.2.1 h.2.2.2.1 h.2.2.2.2.1 h.2.2.2.2.2.1 h.2.2.2.2.2.2
theorem ea3_2 {α0 α1 α2 : Type} {A0 A1 : α0 → α1 → α2 → Prop} {G : Prop} (h : ∃ a0 a1 a2, A0 a0 a1 a2 ∧ A1 a0 a1 a2) (k : ∀ a0 a1 a2, A0 a0 a1 a2 → A1 a0 a1 a2 → G) : G := h.elim fun a0 h => h.elim fun a1 h => h.elim fun a2 h => k a0 a1 a2 h.1 h.2
theorem ea3_3 {α0 α1 α2 : Type} {A0 A1 A2 : α0 → α1 → α2 → Prop} {G : Prop} (h : ∃ a0 a1 a2, A0 a0 a1 a2 ∧ A1 a0 a1 a2 ∧ A2 a0 a1 a2) (k : ∀ a0 a1 a2, A0 a0 a1 a2 → A1 a0 a1 a2 → A2 a0 a1 a2 → G) : G := h.elim fun a0 h => h.elim fun a1 h => h.elim fun a2 h => k a0 a1 a2 h.1 h.2.1 h.2.2
theorem ea3_5 {α0 α1 α2 : Type} {A0 A1 A2 A3 A4 : α0 → α1 → α2 → Prop} {G : Prop} (h : ∃ a0 a1 a2, A0 a0 a1 a2 ∧ A1 a0 a1 a2 ∧ A2 a0 a1 a2 ∧ A3 a0 a1 a2 ∧ A4 a0 a1 a2) (k : ∀ a0 a1 a2, A0 a0 a1 a2 → A1 a0 a1 a2 → A2 a0 a1 a2 → A3 a0 a1 a2 → A4 a0 a1 a2 → G) : G := h.elim fun a0 h => h.elim fun a1 h => h.elim fun a2 h => k a0 a1 a2 h.1 h.2.1 h.2.2.1 h.2.2.2.1 h.2.2.2.2
theorem ea3_6 {α0 α1 α2 : Type} {A0 A1 A2 A3 A4 A5 : α0 → α1 → α2 → Prop} {G : Prop} (h : ∃ a0 a1 a2, A0 a0 a1 a2 ∧ A1 a0 a1 a2 ∧ A2 a0 a1 a2 ∧ A3 a0 a1 a2 ∧ A4 a0 a1 a2 ∧ A5 a0 a1 a2) (k : ∀ a0 a1 a2, A0 a0 a1 a2 → A1 a0 a1 a2 → A2 a0 a1 a2 → A3 a0 a1 a2 → A4 a0 a1 a2 → A5 a0 a1 a2 → G) : G := h.elim fun a0 h => h.elim fun a1 h => h.elim fun a2 h => k a0 a1 a2 h.1 h.2.1 h.2.2.1 h.2.2.2.1 h.2.2.2.2.1 h.2.2.2.2.2
theorem ea4_1 {α0 α1 α2 α3 : Type} {A0 : α0 → α1 → α2 → α3 → Prop} {G : Prop} (h : ∃ a0 a1 a2 a3, A0 a0 a1 a2 a3) (k : ∀ a0 a1 a2 a3, A0 a0 a1 a2 a3 → G) : G := h.elim fun a0 h => h.elim fun a1 h => h.elim fun a2 h => h.elim fun a3 h => k a0 a1 a2 a3 h
theorem ea4_4 {α0 α1 α2 α3 : Type} {A0 A1 A2 A3 : α0 → α1 → α2 → α3 → Prop} {G : Prop} (h : ∃ a0 a1 a2 a3, A0 a0 a1 a2 a3 ∧ A1 a0 a1 a2 a3 ∧ A2 a0 a1 a2 a3 ∧ A3 a0 a1 a2 a3) (k : ∀ a0 a1 a2 a3, A0 a0 a1 a2 a3 → A1 a0 a1 a2 a3 → A2 a0 a1 a2 a3 → A3 a0 a1 a2 a3 → G) : G := h.elim fun a0 h => h.elim fun a1 h => h.elim fun a2 h => h.elim fun a3 h => k a0 a1 a2 a3 h.1 h.2.1 h.2.2.1 h.2.2.2
theorem ea4_6 {α0 α1 α2 α3 : Type} {A0 A1 A2 A3 A4 A5 : α0 → α1 → α2 → α3 → Prop} {G : Prop} (h : ∃ a0 a1 a2 a3, A0 a0 a1 a2 a3 ∧ A1 a0 a1 a2 a3 ∧ A2 a0 a1 a2 a3 ∧ A3 a0 a1 a2 a3 ∧ A4 a0 a1 a2 a3 ∧ A5 a0 a1 a2 a3) (k : ∀ a0 a1 a2 a3, A0 a0 a1 a2 a3 → A1 a0 a1 a2 a3 → A2 a0 a1 a2 a3 → A3 a0 a1 a2 a3 → A4 a0 a1 a2 a3 → A5 a0 a1 a2 a3 → G) : G := h.elim fun a0 h => h.elim fun a1 h => h.elim fun a2 h => h.elim fun a3 h => k a0 a1 a2 a3 h.1 h.2.1 h.2.2.1 h.2.2.2.1 h.2.2.2.2.1 h.2.2.2.2.2
theorem ea5_4 {α0 α1 α2 α3 α4 : Type} {A0 A1 A2 A3 : α0 → α1 → α2 → α3 → α4 → Prop} {G : Prop} (h : ∃ a0 a1 a2 a3 a4, A0 a0 a1 a2 a3 a4 ∧ A1 a0 a1 a2 a3 a4 ∧ A2 a0 a1 a2 a3 a4 ∧ A3 a0 a1 a2 a3 a4) (k : ∀ a0 a1 a2 a3 a4, A0 a0 a1 a2 a3 a4 → A1 a0 a1 a2 a3 a4 → A2 a0 a1 a2 a3 a4 → A3 a0 a1 a2 a3 a4 → G) : G := h.elim fun a0 h => h.elim fun a1 h => h.elim fun a2 h => h.elim fun a3 h => h.elim fun a4 h => k a0 a1 a2 a3 a4 h.1 h.2.1 h.2.2.1 h.2.2.2
theorem ea5_5 {α0 α1 α2 α3 α4 : Type} {A0 A1 A2 A3 A4 : α0 → α1 → α2 → α3 → α4 → Prop} {G : Prop} (h : ∃ a0 a1 a2 a3 a4, A0 a0 a1 a2 a3 a4 ∧ A1 a0 a1 a2 a3 a4 ∧ A2 a0 a1 a2 a3 a4 ∧ A3 a0 a1 a2 a3 a4 ∧ A4 a0 a1 a2 a3 a4) (k : ∀ a0 a1 a2 a3 a4, A0 a0 a1 a2 a3 a4 → A1 a0 a1 a2 a3 a4 → A2 a0 a1 a2 a3 a4 → A3 a0 a1 a2 a3 a4 → A4 a0 a1 a2 a3 a4 → G) : G := h.elim fun a0 h => h.elim fun a1 h => h.elim fun a2 h => h.elim fun a3 h => h.elim fun a4 h => k a0 a1 a2 a3 a4 h.1 h.2.1 h.2.2.1 h.2.2.2.1 h.2.2.2.2
theorem ea5_6 {α0 α1 α2 α3 α4 : Type} {A0 A1 A2 A3 A4 A5 : α0 → α1 → α2 → α3 → α4 → Prop} {G : Prop} (h : ∃ a0 a1 a2 a3 a4, A0 a0 a1 a2 a3 a4 ∧ A1 a0 a1 a2 a3 a4 ∧ A2 a0 a1 a2 a3 a4 ∧ A3 a0 a1 a2 a3 a4 ∧ A4 a0 a1 a2 a3 a4 ∧ A5 a0 a1 a2 a3 a4) (k : ∀ a0 a1 a2 a3 a4, A0 a0 a1 a2 a3 a4 → A1 a0 a1 a2 a3 a4 → A2 a0 a1 a2 a3 a4 → A3 a0 a1 a2 a3 a4 → A4 a0 a1 a2 a3 a4 → A5 a0 a1 a2 a3 a4 → G) : G := h.elim fun a0 h => h.elim fun a1 h => h.elim fun a2 h => h.elim fun a3 h => h.elim fun a4 h => k a0 a1 a2 a3 a4 h.1 h.2.1 h.2.2.1 h.2.2.2.1 h.2.2.2.2.1 h.2.2.2.2.2
theorem ea6_2 {α0 α1 α2 α3 α4 α5 : Type} {A0 A1 : α0 → α1 → α2 → α3 → α4 → α5 → Prop} {G : Prop} (h : ∃ a0 a1 a2 a3 a4 a5, A0 a0 a1 a2 a3 a4 a5 ∧ A1 a0 a1 a2 a3 a4 a5) (k : ∀ a0 a1 a2 a3 a4 a5, A0 a0 a1 a2 a3 a4 a5 → A1 a0 a1 a2 a3 a4 a5 → G) : G := h.elim fun a0 h => h.elim fun a1 h => h.elim fun a2 h => h.elim fun a3 h => h.elim fun a4 h => h.elim fun a5 h => k a0 a1 a2 a3 a4 a5 h.1 h.2
theorem ea6_3 {α0 α1 α2 α3 α4 α5 : Type} {A0 A1 A2 : α0 → α1 → α2 → α3 → α4 → α5 → Prop} {G : Prop} (h : ∃ a0 a1 a2 a3 a4 a5, A0 a0 a1 a2 a3 a4 a5 ∧ A1 a0 a1 a2 a3 a4 a5 ∧ A2 a0 a1 a2 a3 a4 a5) (k : ∀ a0 a1 a2 a3 a4 a5, A0 a0 a1 a2 a3 a4 a5 → A1 a0 a1 a2 a3 a4 a5 → A2 a0 a1 a2 a3 a4 a5 → G) : G := h.elim fun a0 h => h.elim fun a1 h => h.elim fun a2 h => h.elim fun a3 h => h.elim fun a4 h => h.elim fun a5 h => k a0 a1 a2 a3 a4 a5 h.1 h.2.1 h.2.2

/-- abstract values: lists and dicts that nobody changes any more are plain values; `ref` is an index into the abstract heap -/
inductive V where
  | none
  | bool (b : Bool)
  | int (i : Int)
  | str (s : List Char)
  | tup (vs : List V)
  | lst (vs : List V)
  | dct (ks : List (List Char)) (vs : List V)
  | rng (a b : Int)
  | ref (i : Nat)
  | exc (c : Nat)
deriving Inhabited

inductive O where
  | list (vs : List V)
  | dict (ks : List (List Char)) (vs : List V)
  | inst (c : Nat) (d : Nat)
  | ns (ks : List (List Char)) (vs : List V)
  | dead
deriving Inhabited

abbrev AH := List O
abbrev Fm := List (Option V)

mutual
/-- plain data that == looks at: no dict, no range -/
noncomputable def V.data : V → Bool
  | .none | .bool _ | .int _ | .str _ => true
  | .tup vs | .lst vs => V.datas vs
  | .dct _ _ | .rng _ _ | .ref _ | .exc _ => false
noncomputable def V.datas : List V → Bool
  | [] => true
  | v :: vs => V.data v && V.datas vs
end
mutual
noncomputable def V.depth : V → Nat
  | .tup vs | .lst vs => V.depths vs + 1
  | .none | .bool _ | .int _ | .str _ | .dct _ _ | .rng _ _ | .ref _ | .exc _ => 0
noncomputable def V.depths : List V → Nat
  | [] => 0
  | v :: vs => max (V.depth v) (V.depths vs)
end
mutual
noncomputable def eqV : V → V → Bool
  | .none, .none => true
  | .bool a, .bool b => a == b
  | .bool a, .int j => (if a then 1 else 0) == j
  | .int i, .bool b => i == (if b then 1 else 0)
  | .int i, .int j => i == j
  | .str x, .str y => x == y
  | .lst xs, .lst ys => eqVs xs ys
  | .tup xs, .tup ys => eqVs xs ys
  | _, _ => false
noncomputable def eqVs : List V → List V → Bool
  | [], [] => true
  | x :: xs, y :: ys => eqV x y && eqVs xs ys
  | _, _ => false
end

inductive Ty where
  | int | bool | str | list | tuple | valueError | cls (c : Nat)
deriving DecidableEq, Inhabited

inductive Bop where
  | add | sub | mul | fdiv | mod | pow
deriving DecidableEq, Inhabited
inductive Cop where
  | eq | ne | lt | le | gt | ge | is | isnot | in_ | notin
deriving DecidableEq, Inhabited

set_option genInjectivity false in
inductive Prim where
  | bop (o : Bop)
  | cop (o : Cop)
  | not | neg
  | len | isinst (t : Ty) | isX (j : Option Nat) | range1 | range2 | list | tuple | dict | str | int | min | max | all
  | item | slice | rev
  | mklist | mktup | mkdict (ks : List (List Char)) | mkdict1
  | append | pop | pop0 | extend | index | count | dpop | upper | join | split
  | attr (n : List Char)
deriving Inhabited

/-- whose method is called -/
inductive Mt where
  | list | dict | str | tup
deriving DecidableEq, Inhabited

/-- prims that make an exception on their way -/
noncomputable def Prim.loud : Prim → Bool
  | .list | .all | .min | .max => true
  | _ => false
/-- prims that hand back a list or dict nobody else has -/
noncomputable def Prim.fresh : Prim → Bool
  | .list | .dict | .slice | .rev | .mklist | .mkdict _ | .mkdict1 | .split => true
  | _ => false

set_option genInjectivity false in
inductive Ex where
  | cst (v : V)
  | var (i : Nat)
  | prim (mu : Bool) (p : Prim) (args : List Ex)
  | and (a b : Ex)
  | or (a b : Ex)
  | cmp2 (a : Ex) (o₁ : Cop) (b : Ex) (o₂ : Cop) (c : Ex)
  | call (f : Nat) (args : List Ex)
  | meth (k f : Nat) (name : List Char) (o : Ex) (args : List Ex)
  | mcall (t : Mt) (mu : Bool) (p : Prim) (o : Ex) (args : List Ex)
  | new (c : Nat) (f : Nat) (args : List Ex)
  | comp (mu : Bool) (elt it : Ex) (cond : Option Ex)
deriving Inhabited

set_option genInjectivity false in
inductive St where
  | asg (i : Nat) (e : Ex)
  | asgTup (is : List Nat) (e : Ex)
  | setItem (o i e : Ex)
  | setAttr (o : Ex) (n : List Char) (e : Ex)
  | expr (e : Ex)
  | ite (c : Ex) (a b : List St)
  | forIn (rev : Bool) (tgt : Nat ⊕ List Nat) (e : Ex) (body : List St)
  | while_ (c : Ex) (body : List St)
  | ret (e : Ex)
  | raise (c : Nat)
  | try_ (body : List St) (cls : Nat) (as_ : Option Nat) (h : List St)
  | freeze (i : Nat)
  | pass
deriving Inhabited

structure Fn where
  arity : Nat
  extra : Nat
  body : List St
deriving Inhabited

/-- a list's contents -/
noncomputable def O.lst : O → Option (List V)
  | .list vs => some vs
  | _ => none
noncomputable def O.dct : O → Option (List (List Char) × List V)
  | .dict ks vs => some (ks, vs)
  | _ => none
noncomputable def view (H : AH) : V → Option (List V)
  | .lst vs => some vs
  | .ref i => H[i]?.bind O.lst
  | _ => none
noncomputable def dview (H : AH) : V → Option (List (List Char) × List V)
  | .dct ks vs => some (ks, vs)
  | .ref i => H[i]?.bind O.dct
  | _ => none
/-- what == looks at -/
noncomputable def okD (vs : List V) : Bool := V.datas vs && decide (V.depths vs ≤ 50)
noncomputable def rdD (v : V) : Option V := if (V.data v && decide (V.depth v ≤ 50)) = true then some v else none
noncomputable def rd (H : AH) (v : V) : Option V :=
  match v with
  | .ref i => (view H (.ref i)).bind fun vs => if okD vs = true then some (.lst vs) else none
  | v => rdD v

noncomputable def sizeOf' : Nat := 1000000

noncomputable def idx (n : Nat) (i : Int) : Option Nat :=
  if 0 ≤ i then (if i < n then some i.toNat else none) else (if 0 ≤ i + n then some (i + n).toNat else none)

noncomputable def dget (k : List Char) : List (List Char) → List V → Option V
  | k' :: ks, v :: vs => if k = k' then some v else dget k ks vs
  | _, _ => none
/-- the entries behind a store -/
noncomputable def dput (k : List Char) (x : V) : List (List Char) → List V → List (List Char) × List V
  | k' :: ks, v :: vs => if k = k' then (k' :: ks, x :: vs) else let r := dput k x ks vs; (k' :: r.1, v :: r.2)
  | _, _ => ([k], [x])
noncomputable def ddel (k : List Char) : List (List Char) → List V → List (List Char) × List V
  | k' :: ks, v :: vs => if k = k' then (ks, vs) else let r := ddel k ks vs; (k' :: r.1, v :: r.2)
  | _, _ => ([], [])

/-- where a slice's end lies -/
noncomputable def clip (n : Nat) (i : Int) : Nat :=
  if i < 0 then (if i + n < 0 then 0 else (i + n).toNat) else (if i < n then i.toNat else n)
noncomputable def sliceL {α : Type} (xs : List α) (a b : Nat) : List α := (xs.take b).drop a
noncomputable def partOf : V → Option (Option Int)
  | .none => some none
  | .int i => some (some i)
  | _ => none
noncomputable def loN (n : Nat) : Option Int → Nat
  | none => 0
  | some i => clip n i
noncomputable def hiN (n : Nat) : Option Int → Nat
  | none => n
  | some i => clip n i

noncomputable def truth : V → Option Bool
  | .bool b => some b
  | _ => none

noncomputable def live (H : AH) (i : Nat) : Bool := match H[i]? with
  | some (.list _) | some (.dict _ _) | some (.inst _ _) => true
  | _ => false
noncomputable def isNone? (H : AH) : V → Option Bool
  | .none => some true
  | .ref i => if live H i then some false else none
  | .rng _ _ => none
  | .exc _ => none
  | _ => some false
noncomputable def isV (H : AH) (a b : V) : Option Bool := match b with
  | .none => isNone? H a
  | _ => none

noncomputable def smallInt (i : Int) : Bool := decide (-10 ^ 12 ≤ i ∧ i ≤ 10 ^ 12)

noncomputable def int2 (f : Int → Int → Option Int) : V → V → Option V
  | .int a, .int b => (f a b).map V.int
  | _, _ => none
noncomputable def mulI (a b : Int) : Option Int := if smallInt a && smallInt b then some (a * b) else none
noncomputable def divI (a b : Int) : Option Int := if 0 < b ∧ b ≤ 10 ^ 12 then some (a / b) else none
noncomputable def modI (a b : Int) : Option Int := if 0 < b then some (a % b) else none
noncomputable def powI (a b : Int) : Option Int := if a = 10 ∧ 0 ≤ b ∧ b ≤ 30 then some (10 ^ b.toNat) else none
noncomputable def addL (H : AH) (a b : V) : Option V := (view H a).bind fun xs => (view H b).bind fun ys => if xs.length + ys.length ≤ sizeOf' then some (.lst (xs ++ ys)) else none
noncomputable def addV (H : AH) (a b : V) : Option V := match a with
  | .int _ => int2 (fun a b => some (a + b)) a b
  | .str x => (match b with | .str y => if x.length + y.length ≤ sizeOf' then some (.str (x ++ y)) else none | _ => none)
  | _ => addL H a b
noncomputable def mulV (_ : AH) (a b : V) : Option V := int2 mulI a b
noncomputable def binop (o : Bop) (a b : V) (H : AH) : Option V := match o with
  | .add => addV H a b
  | .sub => int2 (fun a b => some (a - b)) a b
  | .mul => mulV H a b
  | .fdiv => int2 divI a b
  | .mod => int2 modI a b
  | .pow => int2 powI a b

noncomputable def inC (s : List Char) : List Char → Option Bool
  | [] => none
  | c :: t => if t.isEmpty = true then some (s.contains c) else none
noncomputable def V.txt : V → Option (List Char)
  | .str s => some s
  | _ => Option.none
noncomputable def inL (H : AH) (x : V) (vs : List V) : Option Bool := (rd H x).bind fun x' => if okD vs = true then some (vs.any fun y => eqV y x') else none
noncomputable def inD (H : AH) (x c : V) : Option Bool := (dview H c).bind fun d => x.txt.map fun k => d.1.contains k
noncomputable def inO (H : AH) (x c : V) (o : Option (List V)) : Option Bool := match o with
  | some vs => inL H x vs
  | none => inD H x c
noncomputable def inV (H : AH) (x c : V) : Option Bool :=
  match c with
  | .str s => x.txt.bind (inC s)
  | .tup vs => inL H x vs
  | c => inO H x c (view H c)

noncomputable def eqO (H : AH) (a b : V) : Option Bool := (rd H a).bind fun x => (rd H b).map fun y => eqV x y
noncomputable def cmpI (f : Int → Int → Bool) : V → V → Option Bool
  | .int a, .int b => some (f a b)
  | _, _ => none
noncomputable def cmpop (o : Cop) (a b : V) (H : AH) : Option Bool := match o with
  | .eq => eqO H a b
  | .ne => (eqO H a b).map (!·)
  | .lt => cmpI (fun a b => decide (a < b)) a b
  | .le => cmpI (fun a b => decide (a ≤ b)) a b
  | .gt => cmpI (fun a b => decide (b < a)) a b
  | .ge => cmpI (fun a b => decide (b ≤ a)) a b
  | .is => isV H a b
  | .isnot => (isV H a b).map (!·)
  | .in_ => inV H a b
  | .notin => (inV H a b).map (!·)

noncomputable def V.isRng : V → Bool
  | .rng _ _ => true
  | _ => false
/-- the items that a loop goes over -/
noncomputable def rngL (a b : Int) : List V := (List.range (b - a).toNat).map fun (i : Nat) => V.int (a + i)
noncomputable def src (H : AH) : V → Option (List V)
  | .tup vs => some vs
  | .str s => some (s.map fun c => V.str [c])
  | .rng a b => some (rngL a b)
  | v => view H v

noncomputable def srcQ (q : Bool) (H : AH) (v : V) : Option (List V) := if (!v.isRng && q) = true then none else src H v

/-- the items of a loop, from the last one on if rev -/
noncomputable def srcD (rev q : Bool) (H : AH) (v : V) : Option (List V) := match rev with
  | false => srcQ q H v
  | true => if q then none else (match v with
    | .tup vs => some vs.reverse
    | .lst vs => some vs.reverse
    | _ => none)
structure Prog where
  fns : Nat → Option Fn
  sub : Nat → Nat → Bool
  /-- an exception is at hand: nothing may be made that ends by one -/
  q : Bool
/-- which exception class stands below which -/
noncomputable def subL (cs : List (List Nat)) (k j : Nat) : Bool := (cs[k]?).any (·.contains j)
noncomputable def progX (fns : List Fn) (cs : List (List Nat)) : Prog := { fns := fun i => fns[i]?, sub := subL cs, q := false }
abbrev Prog.at (P : Prog) (q : Bool) : Prog := { P with q := q }

noncomputable def O.isTy (t : Ty) : O → Option Bool
  | .list _ => some (t == .list)
  | .dict _ _ => some false
  | _ => none
noncomputable def isinst (H : AH) : V → Ty → Option Bool
  | .int _, t => some (t == .int)
  | .bool _, t => some (t == .int || t == .bool)
  | .str _, t => some (t == .str)
  | .tup _, t => some (t == .tuple)
  | .lst _, t => some (t == .list)
  | .none, _ => some false
  | .dct _ _, _ => some false
  | .ref i, t => H[i]?.bind (O.isTy t)
  | _, _ => none

noncomputable def strOf (i : Int) : List Char := (toString i).toList
noncomputable def isFig (c : Char) : Bool := decide (48 ≤ c.toNat) && decide (c.toNat ≤ 57)
noncomputable def figV (ds : List Char) : Nat := ds.foldl (fun acc c => acc * 10 + (c.toNat - 48)) 0
noncomputable def numOf (ds : List Char) : Option Nat := if ds ≠ [] ∧ ds.all isFig = true ∧ ds.length ≤ 600 then some (figV ds) else none
/-- int(text): figures, perhaps with a minus ahead -/
noncomputable def intOf : List Char → Option Int
  | [] => none
  | c :: r => if c = '-' then (numOf r).map (fun (k : Nat) => -(k : Int)) else (numOf (c :: r)).map (fun (k : Nat) => (k : Int))

noncomputable def splitC (c : Char) : List Char → List Char → List (List Char)
  | [], cur => [cur.reverse]
  | x :: r, cur => if x = c then cur.reverse :: splitC c r [] else splitC c r (x :: cur)

noncomputable def strs? : List V → Option (List (List Char))
  | [] => some []
  | .str s :: r => (strs? r).map (s :: ·)
  | _ :: _ => none
noncomputable def bools? : List V → Option (List Bool)
  | [] => some []
  | .bool b :: r => (bools? r).map (b :: ·)
  | _ :: _ => none
noncomputable def pairs? : List V → Option (List (List Char × V))
  | [] => some []
  | .tup [.str k, v] :: r => (pairs? r).map ((k, v) :: ·)
  | _ :: _ => none
noncomputable def joinL (sep : List Char) : List (List Char) → List Char
  | [] => []
  | [x] => x
  | x :: y :: r => x ++ sep ++ joinL sep (y :: r)
noncomputable def dictOfPairs (ps : List (List Char × V)) : List (List Char) × List V := ps.foldl (fun d p => dput p.1 p.2 d.1 d.2) ([], [])

noncomputable def upperC (c : Char) : Char := if 97 ≤ c.toNat ∧ c.toNat ≤ 122 then Char.ofNat (c.toNat - 32) else c

noncomputable def V.num : V → Option Int
  | .int a => some a
  | _ => Option.none
noncomputable def pBop (o : Bop) : List V → AH → Option (V × AH)
  | [a, b], H => (binop o a b H).map (·, H)
  | _, _ => none
noncomputable def pCop (o : Cop) : List V → AH → Option (V × AH)
  | [a, b], H => (cmpop o a b H).map (V.bool ·, H)
  | _, _ => none
noncomputable def pNot : List V → AH → Option (V × AH)
  | [a], H => (truth a).map (V.bool !·, H)
  | _, _ => none
noncomputable def pNeg : List V → AH → Option (V × AH)
  | [v], H => v.num.map fun a => (V.int (-a), H)
  | _, _ => none
noncomputable def lenO (d : Option Nat) : Option (List V) → Option Nat
  | some vs => some vs.length
  | none => d
noncomputable def lenV (H : AH) : V → Option Nat
  | .str s => some s.length
  | .tup s => some s.length
  | v => lenO ((dview H v).map fun d => d.1.length) (view H v)
noncomputable def pLen : List V → AH → Option (V × AH)
  | [v], H => (lenV H v).map fun (n : Nat) => (V.int n, H)
  | _, _ => none
noncomputable def pIsinst (t : Ty) : List V → AH → Option (V × AH)
  | [a], H => (isinst H a t).map (V.bool ·, H)
  | _, _ => none
noncomputable def V.kind : V → Option Nat
  | .exc k => some k
  | _ => Option.none
/-- isinstance(e, C) of an exception: a class of the text's own, or ValueError -/
noncomputable def pIsX (P : Prog) (j : Option Nat) : List V → AH → Option (V × AH)
  | [v], H => v.kind.bind fun k => if P.sub k k = true then some (.bool (j.elim true (P.sub k)), H) else none
  | _, _ => none
noncomputable def pRange1 : List V → AH → Option (V × AH)
  | [v], H => v.num.bind fun b => if smallInt b = true then some (.rng 0 b, H) else none
  | _, _ => none
noncomputable def pRange2 : List V → AH → Option (V × AH)
  | [v, w], H => v.num.bind fun a => w.num.bind fun b => if (smallInt a && smallInt b) = true then some (.rng a b, H) else none
  | _, _ => none
noncomputable def listV (H : AH) : V → Option V
  | .rng a b => if (b - a).toNat ≤ sizeOf' then some (.lst (rngL a b)) else none
  | .tup vs => if vs.length ≤ sizeOf' then some (.lst vs) else none
  | v => (view H v).bind fun vs => if vs.length ≤ sizeOf' then some (.lst vs) else none
noncomputable def pList : List V → AH → Option (V × AH)
  | [v], H => (listV H v).map (·, H)
  | _, _ => none
noncomputable def pTuple : List V → AH → Option (V × AH)
  | [v], H => (view H v).bind fun vs => if vs.length ≤ sizeOf' then some (.tup vs, H) else none
  | _, _ => none
noncomputable def pDict : List V → AH → Option (V × AH)
  | [v], H => match (view H v).bind pairs? with
    | some ps => if ps.length ≤ 1000 then some (.dct (dictOfPairs ps).1 (dictOfPairs ps).2, H) else none
    | none => none
  | _, _ => none
noncomputable def strV : V → Option V
  | .int i => if smallInt i = true then some (.str (strOf i)) else none
  | .str s => some (.str s)
  | _ => none
noncomputable def pStr : List V → AH → Option (V × AH)
  | [v], H => (strV v).map (·, H)
  | _, _ => none
noncomputable def pInt : List V → AH → Option (V × AH)
  | [.bool b], H => some (.int (if b then 1 else 0), H)
  | _, _ => none
noncomputable def pMin : List V → AH → Option (V × AH)
  | [v, w], H => v.num.bind fun a => w.num.map fun b => (V.int (min a b), H)
  | _, _ => none
noncomputable def pMax : List V → AH → Option (V × AH)
  | [v, w], H => v.num.bind fun a => w.num.map fun b => (V.int (max a b), H)
  | _, _ => none
noncomputable def pAll : List V → AH → Option (V × AH)
  | [v], H => ((view H v).bind bools?).map fun bs => (.bool (bs.all id), H)
  | _, _ => none
noncomputable def itemI (H : AH) (v : V) (i : Int) : Option V := match v with
  | .str s => (idx s.length i).bind fun j => s[j]?.map fun c => .str [c]
  | .tup vs => (idx vs.length i).bind fun j => vs[j]?
  | v => (view H v).bind fun vs => (idx vs.length i).bind fun j => vs[j]?
noncomputable def itemV (H : AH) (v i : V) : Option V := match i with
  | .int i => itemI H v i
  | .str k => (dview H v).bind fun d => dget k d.1 d.2
  | _ => none
noncomputable def pItem : List V → AH → Option (V × AH)
  | [v, i], H => (itemV H v i).map (·, H)
  | _, _ => none
noncomputable def sliceV (H : AH) (v : V) (lo hi : Option Int) : Option V := match v with
  | .str s => if s.length ≤ sizeOf' then some (.str (sliceL s (loN s.length lo) (hiN s.length hi))) else none
  | v => (view H v).bind fun s => if s.length ≤ sizeOf' then some (.lst (sliceL s (loN s.length lo) (hiN s.length hi))) else none
noncomputable def pSlice : List V → AH → Option (V × AH)
  | [v, a, b], H => (partOf a).bind fun lo => (partOf b).bind fun hi => (sliceV H v lo hi).map (·, H)
  | _, _ => none
noncomputable def pRev : List V → AH → Option (V × AH)
  | [.tup s], H => if s.length ≤ sizeOf' then some (.tup s.reverse, H) else none
  | _, _ => none
noncomputable def pMklist (vs : List V) (H : AH) : Option (V × AH) := if vs.length ≤ sizeOf' then some (.lst vs, H) else none
noncomputable def pMktup (vs : List V) (H : AH) : Option (V × AH) := if vs.length ≤ sizeOf' then some (.tup vs, H) else none
noncomputable def pMkdict (ks : List (List Char)) (vs : List V) (H : AH) : Option (V × AH) := if ks.length = vs.length ∧ ks.length ≤ 15 ∧ ks.Nodup then some (.dct ks vs, H) else none
noncomputable def pMkdict1 : List V → AH → Option (V × AH)
  | [k, v], H => k.txt.map fun k => (.dct [k] [v], H)
  | _, _ => none
noncomputable def V.at : V → Option Nat
  | .ref i => some i
  | _ => Option.none
/-- a list that may change -/
noncomputable def heapL (H : AH) (v : V) : Option (Nat × List V) := v.at.bind fun i => (H[i]?.bind O.lst).bind fun vs => some (i, vs)
noncomputable def pAppend : List V → AH → Option (V × AH)
  | [v, x], H => (heapL H v).bind fun p => if p.2.length ≤ sizeOf' then some (.none, H.set p.1 (.list (p.2 ++ [x]))) else none
  | _, _ => none
noncomputable def pPop : List V → AH → Option (V × AH)
  | [v], H => (heapL H v).bind fun p => if p.2.length ≤ sizeOf' then p.2.getLast?.map fun x => (x, H.set p.1 (.list p.2.dropLast)) else none
  | _, _ => none
noncomputable def pPop0 : List V → AH → Option (V × AH)
  | [v, w], H => (heapL H v).bind fun p => w.num.bind fun n => if n = 0 ∧ p.2.length ≤ sizeOf' then p.2.head?.map fun x => (x, H.set p.1 (.list p.2.tail)) else none
  | _, _ => none
noncomputable def V.frz : V → Option (List V)
  | .lst ys => some ys
  | _ => Option.none
noncomputable def pExtend : List V → AH → Option (V × AH)
  | [v, w], H => (heapL H v).bind fun p => (view H w).bind fun ys => if p.2.length + ys.length ≤ sizeOf' then some (.none, H.set p.1 (.list (p.2 ++ ys))) else none
  | _, _ => none
noncomputable def V.tpl : V → Option (List V)
  | .tup vs => some vs
  | _ => Option.none
noncomputable def pIndex : List V → AH → Option (V × AH)
  | [v, x], H => v.tpl.bind fun vs => (rd H x).bind fun x' => if okD vs = true then (vs.findIdx? fun y => eqV y x').map fun (k : Nat) => (V.int k, H) else none
  | _, _ => none
noncomputable def pCount : List V → AH → Option (V × AH)
  | [v, w], H => w.txt.bind fun k => ((view H v).bind strs?).map fun ss => (V.int (ss.count k), H)
  | _, _ => none
/-- a dict that may change -/
noncomputable def heapD (H : AH) (v : V) : Option (Nat × (List (List Char) × List V)) := v.at.bind fun i => (H[i]?.bind O.dct).bind fun d => some (i, d)
noncomputable def pDpop : List V → AH → Option (V × AH)
  | [v, w], H => (heapD H v).bind fun p => w.txt.bind fun k => if p.2.1.length ≤ sizeOf' then (dget k p.2.1 p.2.2).map fun x => (x, H.set p.1 (.dict (ddel k p.2.1 p.2.2).1 (ddel k p.2.1 p.2.2).2)) else none
  | _, _ => none
noncomputable def pUpper : List V → AH → Option (V × AH)
  | [v], H => v.txt.bind fun s => if (s.all fun c => decide (c.toNat < 128)) = true ∧ s.length ≤ sizeOf' then some (.str (s.map upperC), H) else none
  | _, _ => none
noncomputable def pJoin : List V → AH → Option (V × AH)
  | [.str sep, v], H => ((view H v).bind strs?).bind fun ss => if (joinL sep ss).length ≤ sizeOf' ∧ ss.length ≤ sizeOf' ∧ sep.length ≤ 8 then some (.str (joinL sep ss), H) else none
  | _, _ => none
noncomputable def splitT (s t : List Char) : Option V := match t with
  | [c] => if s.length ≤ sizeOf' then some (.lst ((splitC c s []).map V.str)) else none
  | _ => none
noncomputable def splitV (v w : V) : Option V := match v with
  | .str s => (match w with
    | .str t => splitT s t
    | _ => none)
  | _ => none
noncomputable def pSplit : List V → AH → Option (V × AH)
  | [v, w], H => (splitV v w).map (·, H)
  | _, _ => none
noncomputable def O.ins : O → Option Nat
  | .inst c d => if c = 0 then some d else none
  | _ => none
noncomputable def O.nms : O → Option (List (List Char) × List V)
  | .ns ks vs => some (ks, vs)
  | _ => none
/-- an instance of the text's class: the place of its names, its names -/
noncomputable def insOf (H : AH) (v : V) : Option (Nat × (List (List Char) × List V)) := v.at.bind fun i => (H[i]?.bind O.ins).bind fun d => (H[d]?.bind O.nms).map fun q => (d, q)
noncomputable def O.alive : O → Bool
  | .dead => false
  | _ => true
noncomputable def aliveV (H : AH) (v : V) : Bool := v.at.all fun i => (H[i]?).any O.alive
noncomputable def pAttr (n : List Char) : List V → AH → Option (V × AH)
  | [v], H => (insOf H v).bind fun q => (dget n q.2.1 q.2.2).bind fun r => if aliveV H r = true then some (r, H) else none
  | _, _ => none

noncomputable def prim (P : Prog) : Prim → List V → AH → Option (V × AH)
  | .bop o => pBop o
  | .cop o => pCop o
  | .not => pNot
  | .neg => pNeg
  | .len => pLen
  | .isinst t => pIsinst t
  | .isX j => pIsX P j
  | .range1 => pRange1
  | .range2 => pRange2
  | .list => pList
  | .tuple => pTuple
  | .dict => pDict
  | .str => pStr
  | .int => pInt
  | .min => pMin
  | .max => pMax
  | .all => pAll
  | .item => pItem
  | .slice => pSlice
  | .rev => pRev
  | .mklist => pMklist
  | .mktup => pMktup
  | .mkdict ks => pMkdict ks
  | .mkdict1 => pMkdict1
  | .append => pAppend
  | .pop => pPop
  | .pop0 => pPop0
  | .extend => pExtend
  | .index => pIndex
  | .count => pCount
  | .dpop => pDpop
  | .upper => pUpper
  | .join => pJoin
  | .split => pSplit
  | .attr n => pAttr n

/-- a new list or dict as a heap object -/
noncomputable def thaw : V → AH → Option (V × AH)
  | .lst vs, H => some (.ref H.length, H ++ [.list vs])
  | .dct ks vs, H => some (.ref H.length, H ++ [.dict ks vs])
  | _, _ => none

noncomputable def hasTy (H : AH) (v : V) (t : Mt) : Bool := match t with
  | .str => v.txt.isSome
  | .list => (view H v).isSome
  | .dict => (dview H v).isSome
  | .tup => v.tpl.isSome
/-- an object of the class k, with no name of its own in the way of the method -/
noncomputable def hasMeth (H : AH) (_k : Nat) (name : List Char) (v : V) : Bool := (insOf H v).any fun q => !q.2.1.contains name

noncomputable def primM (P : Prog) (mu : Bool) (p : Prim) (vs : List V) (H : AH) : Option (V × AH) :=
  if mu then (if p.fresh then (prim P p vs H).bind fun r => thaw r.1 r.2 else none) else prim P p vs H

noncomputable def primQ (P : Prog) (mu : Bool) (p : Prim) (vs : List V) (H : AH) : Option (V × AH) := if (p.loud && P.q) = true then none else primM P mu p vs H

abbrev QE := V → AH → Prop
abbrev XE := Nat → AH → Prop
abbrev Calls := Bool → Nat → List V → AH → QE → XE → Prop
/-- what an exception meets: the names at that place, its class, the heap -/
abbrev XS := Fm → Nat → AH → Prop

noncomputable def okE (r : Option (V × AH)) (Q : QE) : Prop := match r with | some (v, H) => Q v H | none => False
noncomputable def okB (r : Option Bool) (K : Bool → Prop) : Prop := match r with | some b => K b | none => False

/-- one comprehension: F is a turn (none: the test fails) -/
noncomputable def compL (F : V → AH → (Option V → AH → Prop) → Prop) (ok : AH → Prop) : List V → List V → AH → (List V → AH → Prop) → Prop
  | [], acc, H, Q => ok H ∧ Q acc H
  | v :: vs, acc, H, Q => ok H ∧ F v H fun r H' => compL F ok vs (match r with | some x => acc ++ [x] | none => acc) H' Q

mutual
noncomputable def wpE (P : Prog) (C : Calls) : Ex → Fm → AH → QE → XE → Prop
  | .cst v, _, H, Q, _ => Q v H
  | .var i, ρ, H, Q, _ => match ρ[i]? with | some (some v) => Q v H | _ => False
  | .prim mu p args, ρ, H, Q, X => wpEs P C args ρ H (fun vs H' => okE (primQ P mu p vs H') Q) X
  | .and a b, ρ, H, Q, X => wpE P C a ρ H (fun v H' => okB (truth v) fun t => if t then wpE P C b ρ H' Q X else Q (.bool t) H') X
  | .or a b, ρ, H, Q, X => wpE P C a ρ H (fun v H' => okB (truth v) fun t => if !t then wpE P C b ρ H' Q X else Q (.bool t) H') X
  | .cmp2 a o₁ b o₂ c, ρ, H, Q, X => wpE P C a ρ H (fun x H₁ => wpE P C b ρ H₁ (fun y H₂ => okB (cmpop o₁ x y H₂) fun t =>
      if t then wpE P C c ρ H₂ (fun z H₃ => okB (cmpop o₂ y z H₃) fun t' => Q (.bool t') H₃) X else Q (.bool false) H₂) X) X
  | .call f args, ρ, H, Q, X => wpEs P C args ρ H (fun vs H' => C P.q f vs H' Q X) X
  | .meth k f name o args, ρ, H, Q, X => wpE P C o ρ H (fun v H₁ => hasMeth H₁ k name v = true ∧ wpEs P C args ρ H₁ (fun vs H' => C P.q f (v :: vs) H' Q X) X) X
  | .mcall t mu p o args, ρ, H, Q, X => wpE P C o ρ H (fun v H₁ => hasTy H₁ v t = true ∧ wpEs P C args ρ H₁ (fun vs H' => okE (primQ P mu p (v :: vs) H') Q) X) X
  | .new c f args, ρ, H, Q, X => wpEs P C args ρ H (fun vs H' => C P.q f (.ref (H'.length + 1) :: vs) (H' ++ [.ns [] [], .inst c H'.length]) (fun v H'' => v = .none ∧ Q (.ref (H'.length + 1)) H'') X) X
  | .comp mu elt it cond, ρ, H, Q, X => wpE P C it ρ H (fun v H₁ => ∃ items, srcQ P.q H₁ v = some items ∧ items.length ≤ sizeOf' ∧
      compL (fun x H' K => match cond with
          | none => wpE P C elt (ρ ++ [some x]) H' (fun y H'' => K (some y) H'') X
          | some c => wpE P C c (ρ ++ [some x]) H' (fun b H₂ => okB (truth b) fun t => if t then wpE P C elt (ρ ++ [some x]) H₂ (fun y H'' => K (some y) H'') X else K none H₂) X)
        (fun H' => srcQ P.q H' v = some items) items [] H₁ (fun ys H₂ => okE (if mu then thaw (.lst ys) H₂ else some (.lst ys, H₂)) Q)) X
noncomputable def wpEs (P : Prog) (C : Calls) : List Ex → Fm → AH → (List V → AH → Prop) → XE → Prop
  | [], _, H, Q, _ => Q [] H
  | e :: es, ρ, H, Q, X => wpE P C e ρ H (fun v H' => wpEs P C es ρ H' (fun vs H'' => Q (v :: vs) H'') X) X
end

noncomputable def setTgt (ρ : Fm) : Nat ⊕ List Nat → V → Option Fm
  | .inl i, v => some (ρ.set i (some v))
  | .inr is, .tup vs => if is.length = vs.length then some ((is.zip vs).foldl (fun ρ p => ρ.set p.1 (some p.2)) ρ) else none
  | _, _ => none

abbrev KS := Fm → AH → Prop

noncomputable def forL (F : V → Fm → AH → KS → Prop) (ok : AH → Prop) : List V → Fm → AH → KS → Prop
  | [], ρ, H, K => ok H ∧ K ρ H
  | v :: vs, ρ, H, K => ok H ∧ F v ρ H fun ρ' H' => forL F ok vs ρ' H' K

noncomputable def whileL (F : Fm → AH → KS → KS → Prop) : Nat → Fm → AH → KS → Prop
  | 0, _, _, _ => False
  | k + 1, ρ, H, K => F ρ H (fun ρ' H' => whileL F k ρ' H' K) K

noncomputable def setD (r : Nat) (k : List Char) (x : V) (H : AH) (o : Option O) : Option AH := match o with
  | some (.dict ks vs) => if ks.length ≤ sizeOf' then some (H.set r (.dict (dput k x ks vs).1 (dput k x ks vs).2)) else none
  | _ => none
noncomputable def setItemV (o i x : V) (H : AH) : Option AH := match o with
  | .ref r => (match i with
    | .str k => setD r k x H H[r]?
    | _ => none)
  | _ => none
noncomputable def setAttrV (o : V) (n : List Char) (x : V) (H : AH) : Option AH :=
  (insOf H o).bind fun q => if q.2.1.length ≤ 1000 then some (H.set q.1 (.ns (dput n x q.2.1 q.2.2).1 (dput n x q.2.1 q.2.2).2)) else none

noncomputable def noInst (H : AH) (r : Nat) : Bool := H.all fun o => match o with | .inst _ d => decide (d ≠ r) | _ => true
noncomputable def freezeV (v : V) (H : AH) : Option (V × AH) :=
  match v with
  | .ref r => if noInst H r then (match H[r]? with
    | some (.list vs) => some (.lst vs, H.set r .dead)
    | some (.dict ks vs) => some (.dct ks vs, H.set r .dead)
    | _ => none) else none
  | _ => none

mutual
noncomputable def wpS (P : Prog) (C : Calls) : St → Fm → AH → KS → QE → XS → Prop
  | .asg i e, ρ, H, K, _, X => wpE P C e ρ H (fun v H' => i < ρ.length ∧ K (ρ.set i (some v)) H') (X ρ)
  | .asgTup is e, ρ, H, K, _, X => wpE P C e ρ H (fun v H' => P.q = false ∧ match setTgt ρ (.inr is) v with | some ρ' => K ρ' H' | none => False) (X ρ)
  | .setItem o i e, ρ, H, K, _, X => wpE P C e ρ H (fun x H₁ => wpE P C o ρ H₁ (fun ov H₂ => wpE P C i ρ H₂ (fun iv H₃ => match setItemV ov iv x H₃ with | some H' => K ρ H' | none => False) (X ρ)) (X ρ)) (X ρ)
  | .setAttr o n e, ρ, H, K, _, X => wpE P C e ρ H (fun x H₁ => wpE P C o ρ H₁ (fun ov H₂ => match setAttrV ov n x H₂ with | some H' => K ρ H' | none => False) (X ρ)) (X ρ)
  | .expr e, ρ, H, K, _, X => wpE P C e ρ H (fun _ H' => K ρ H') (X ρ)
  | .ite c a b, ρ, H, K, R, X => wpE P C c ρ H (fun v H' => okB (truth v) fun t => if t then wpSs P C a ρ H' K R X else wpSs P C b ρ H' K R X) (X ρ)
  | .forIn rev tgt e body, ρ, H, K, R, X => wpE P C e ρ H (fun v H₁ => ∃ items, srcD rev P.q H₁ v = some items ∧ items.length ≤ sizeOf' ∧
      forL (fun x ρ' H' K' => match setTgt ρ' tgt x with | some ρ'' => wpSs P C body ρ'' H' K' R (fun _ _ _ => False) | none => False)
        (fun H' => srcD rev P.q H' v = some items) items ρ H₁ K) (X ρ)
  | .while_ c body, ρ, H, K, R, X => ∃ k, whileL (fun ρ' H' K₁ K₂ => wpE P C c ρ' H' (fun v H'' => okB (truth v) fun t => if t then wpSs P C body ρ' H'' K₁ R (fun _ _ _ => False) else K₂ ρ' H'') (fun _ _ => False)) k ρ H K
  | .ret e, ρ, H, _, R, X => wpE P C e ρ H R (X ρ)
  | .raise c, ρ, H, _, _, X => P.q = false ∧ X ρ c H
  | .try_ body cls as_ h, ρ, H, K, R, X => P.q = false ∧ wpSs P C body ρ H K R (fun ρ' c H' => (P.sub c c && P.sub c cls) = true ∧ wpSs (P.at true) C h (as_.elim ρ' fun i => ρ'.set i (some (.exc c))) H' (fun ρ'' H'' => K (as_.elim ρ'' fun i => ρ''.set i none) H'') R (fun _ _ _ => False))
  | .freeze i, ρ, H, K, _, _ => match ρ[i]? with
      | some (some v) => match freezeV v H with | some (v', H') => K (ρ.set i (some v')) H' | none => False
      | _ => False
  | .pass, ρ, H, K, _, _ => K ρ H
noncomputable def wpSs (P : Prog) (C : Calls) : List St → Fm → AH → KS → QE → XS → Prop
  | [], ρ, H, K, _, _ => K ρ H
  | s :: ss, ρ, H, K, R, X => wpS P C s ρ H (fun ρ' H' => wpSs P C ss ρ' H' K R X) R X
end

/-- what a call hands back -/
abbrev Ret (_ : AH) (Q : QE) (v : V) (H' : AH) : Prop := Q v H'
abbrev RetX (_ : AH) (X : XE) (c : Nat) (H' : AH) : Prop := X c H'

noncomputable def callF (P : Prog) : Nat → Calls
  | 0, _, _, _, _, _, _ => False
  | n + 1, q, f, args, H, Q, X => match P.fns f with
    | some fn => args.length = fn.arity ∧
        wpSs (P.at q) (callF P n) fn.body (args.map some ++ List.replicate fn.extra none) H (fun _ H' => Ret H Q .none H') (fun v H' => Ret H Q v H') (fun _ => RetX H X)
    | none => False

section
variable {P : Prog} {C : Calls} {ρ : Fm} {H : AH} {Q : QE} {X : XE} {K : KS} {R : QE}
theorem wpE_cst {v : V} : wpE P C (.cst v) ρ H Q X = Q v H := rfl
theorem wpE_var {i : Nat} : wpE P C (.var i) ρ H Q X = match ρ[i]? with | some (some v) => Q v H | _ => False := rfl
theorem wpE_prim {mu : Bool} {p : Prim} {args : List Ex} : wpE P C (.prim mu p args) ρ H Q X = wpEs P C args ρ H (fun vs H' => okE (primQ P mu p vs H') Q) X := rfl
theorem wpE_and {a b : Ex} : wpE P C (.and a b) ρ H Q X = wpE P C a ρ H (fun v H' => okB (truth v) fun t => if t then wpE P C b ρ H' Q X else Q (.bool t) H') X := rfl
theorem wpE_or {a b : Ex} : wpE P C (.or a b) ρ H Q X = wpE P C a ρ H (fun v H' => okB (truth v) fun t => if !t then wpE P C b ρ H' Q X else Q (.bool t) H') X := rfl
theorem wpE_cmp2 {a b c : Ex} {o₁ o₂ : Cop} : wpE P C (.cmp2 a o₁ b o₂ c) ρ H Q X = wpE P C a ρ H (fun x H₁ => wpE P C b ρ H₁ (fun y H₂ => okB (cmpop o₁ x y H₂) fun t =>
      if t then wpE P C c ρ H₂ (fun z H₃ => okB (cmpop o₂ y z H₃) fun t' => Q (.bool t') H₃) X else Q (.bool false) H₂) X) X := rfl
theorem wpE_call {f : Nat} {args : List Ex} : wpE P C (.call f args) ρ H Q X = wpEs P C args ρ H (fun vs H' => C P.q f vs H' Q X) X := rfl
theorem wpE_meth {k f : Nat} {name : List Char} {o : Ex} {args : List Ex} : wpE P C (.meth k f name o args) ρ H Q X = wpE P C o ρ H (fun v H₁ => hasMeth H₁ k name v = true ∧ wpEs P C args ρ H₁ (fun vs H' => C P.q f (v :: vs) H' Q X) X) X := rfl
theorem wpE_mcall {t : Mt} {mu : Bool} {p : Prim} {o : Ex} {args : List Ex} : wpE P C (.mcall t mu p o args) ρ H Q X = wpE P C o ρ H (fun v H₁ => hasTy H₁ v t = true ∧ wpEs P C args ρ H₁ (fun vs H' => okE (primQ P mu p (v :: vs) H') Q) X) X := rfl
theorem wpE_new {c f : Nat} {args : List Ex} : wpE P C (.new c f args) ρ H Q X = wpEs P C args ρ H (fun vs H' => C P.q f (.ref (H'.length + 1) :: vs) (H' ++ [.ns [] [], .inst c H'.length]) (fun v H'' => v = .none ∧ Q (.ref (H'.length + 1)) H'') X) X := rfl
theorem wpE_comp {mu : Bool} {elt it : Ex} : wpE P C (.comp mu elt it none) ρ H Q X = wpE P C it ρ H (fun v H₁ => ∃ items, srcQ P.q H₁ v = some items ∧ items.length ≤ sizeOf' ∧
      compL (fun x H' K => wpE P C elt (ρ ++ [some x]) H' (fun y H'' => K (some y) H'') X)
        (fun H' => srcQ P.q H' v = some items) items [] H₁ (fun ys H₂ => okE (if mu then thaw (.lst ys) H₂ else some (.lst ys, H₂)) Q)) X := rfl
theorem wpE_compIf {mu : Bool} {elt it c : Ex} : wpE P C (.comp mu elt it (some c)) ρ H Q X = wpE P C it ρ H (fun v H₁ => ∃ items, srcQ P.q H₁ v = some items ∧ items.length ≤ sizeOf' ∧
      compL (fun x H' K => wpE P C c (ρ ++ [some x]) H' (fun b H₂ => okB (truth b) fun t => if t then wpE P C elt (ρ ++ [some x]) H₂ (fun y H'' => K (some y) H'') X else K none H₂) X)
        (fun H' => srcQ P.q H' v = some items) items [] H₁ (fun ys H₂ => okE (if mu then thaw (.lst ys) H₂ else some (.lst ys, H₂)) Q)) X := rfl
theorem wpEs_nil {Q : List V → AH → Prop} : wpEs P C [] ρ H Q X = Q [] H := rfl
theorem wpEs_cons {e : Ex} {es : List Ex} {Q : List V → AH → Prop} : wpEs P C (e :: es) ρ H Q X = wpE P C e ρ H (fun v H' => wpEs P C es ρ H' (fun vs H'' => Q (v :: vs) H'') X) X := rfl

section
variable {X : XS}
theorem wpS_asg {i : Nat} {e : Ex} : wpS P C (.asg i e) ρ H K R X = wpE P C e ρ H (fun v H' => i < ρ.length ∧ K (ρ.set i (some v)) H') (X ρ) := rfl
theorem wpS_asgTup {is : List Nat} {e : Ex} : wpS P C (.asgTup is e) ρ H K R X = wpE P C e ρ H (fun v H' => P.q = false ∧ match setTgt ρ (.inr is) v with | some ρ' => K ρ' H' | none => False) (X ρ) := rfl
theorem wpS_setItem {o i e : Ex} : wpS P C (.setItem o i e) ρ H K R X = wpE P C e ρ H (fun x H₁ => wpE P C o ρ H₁ (fun ov H₂ => wpE P C i ρ H₂ (fun iv H₃ => match setItemV ov iv x H₃ with | some H' => K ρ H' | none => False) (X ρ)) (X ρ)) (X ρ) := rfl
theorem wpS_setAttr {o e : Ex} {n : List Char} : wpS P C (.setAttr o n e) ρ H K R X = wpE P C e ρ H (fun x H₁ => wpE P C o ρ H₁ (fun ov H₂ => match setAttrV ov n x H₂ with | some H' => K ρ H' | none => False) (X ρ)) (X ρ) := rfl
theorem wpS_expr {e : Ex} : wpS P C (.expr e) ρ H K R X = wpE P C e ρ H (fun _ H' => K ρ H') (X ρ) := rfl
theorem wpS_ite {c : Ex} {a b : List St} : wpS P C (.ite c a b) ρ H K R X = wpE P C c ρ H (fun v H' => okB (truth v) fun t => if t then wpSs P C a ρ H' K R X else wpSs P C b ρ H' K R X) (X ρ) := rfl
theorem wpS_forIn {rev : Bool} {tgt : Nat ⊕ List Nat} {e : Ex} {body : List St} : wpS P C (.forIn rev tgt e body) ρ H K R X = wpE P C e ρ H (fun v H₁ => ∃ items, srcD rev P.q H₁ v = some items ∧ items.length ≤ sizeOf' ∧
      forL (fun x ρ' H' K' => match setTgt ρ' tgt x with | some ρ'' => wpSs P C body ρ'' H' K' R (fun _ _ _ => False) | none => False)
        (fun H' => srcD rev P.q H' v = some items) items ρ H₁ K) (X ρ) := rfl
theorem wpS_while {c : Ex} {body : List St} : wpS P C (.while_ c body) ρ H K R X = ∃ k, whileL (fun ρ' H' K₁ K₂ => wpE P C c ρ' H' (fun v H'' => okB (truth v) fun t => if t then wpSs P C body ρ' H'' K₁ R (fun _ _ _ => False) else K₂ ρ' H'') (fun _ _ => False)) k ρ H K := rfl
theorem wpS_ret {e : Ex} : wpS P C (.ret e) ρ H K R X = wpE P C e ρ H R (X ρ) := rfl
theorem wpS_raise {c : Nat} : wpS P C (.raise c) ρ H K R X = (P.q = false ∧ X ρ c H) := rfl
theorem wpS_try {body h : List St} {cls : Nat} {as_ : Option Nat} : wpS P C (.try_ body cls as_ h) ρ H K R X = (P.q = false ∧ wpSs P C body ρ H K R (fun ρ' c H' => (P.sub c c && P.sub c cls) = true ∧ wpSs (P.at true) C h (as_.elim ρ' fun i => ρ'.set i (some (.exc c))) H' (fun ρ'' H'' => K (as_.elim ρ'' fun i => ρ''.set i none) H'') R (fun _ _ _ => False))) := rfl
theorem wpS_freeze {i : Nat} : wpS P C (.freeze i) ρ H K R X = match ρ[i]? with
      | some (some v) => match freezeV v H with | some (v', H') => K (ρ.set i (some v')) H' | none => False
      | _ => False := rfl
theorem wpSs_cons {s : St} {ss : List St} : wpSs P C (s :: ss) ρ H K R X = wpS P C s ρ H (fun ρ' H' => wpSs P C ss ρ' H' K R X) R X := rfl
end
theorem callF_succ {n f : Nat} {args : List V} : callF P (n + 1) P.q f args H Q X = match P.fns f with
    | some fn => args.length = fn.arity ∧
        wpSs P (callF P n) fn.body (args.map some ++ List.replicate fn.extra none) H (fun _ H' => Ret H Q .none H') (fun v H' => Ret H Q v H') (fun _ => RetX H X)
    | none => False := rfl
theorem callF_at {n f : Nat} {q : Bool} {args : List V} : callF P (n + 1) q f args H Q X = match P.fns f with
    | some fn => args.length = fn.arity ∧
        wpSs (P.at q) (callF P n) fn.body (args.map some ++ List.replicate fn.extra none) H (fun _ H' => Ret H Q .none H') (fun v H' => Ret H Q v H') (fun _ => RetX H X)
    | none => False := rfl
end

end Mine

end
noncomputable section
namespace Mine
open PySem

theorem okQ {P : Prog} {mu : Bool} {p : Prim} {vs : List V} {H : AH} {Q : QE} (q : okE (primQ P mu p vs H) Q) : (p.loud = true → P.q = false) ∧ okE (primM P mu p vs H) Q := by
  unfold primQ at q
  cases hq : (p.loud && P.q) with
  | false =>
    rw [hq] at q
    exact ⟨fun h => by rw [h] at hq; exact hq, q⟩
  | true => rw [hq] at q; exact q.elim
theorem srcQ_is {q : Bool} {H : AH} {v : V} {items : List V} (h : srcQ q H v = some items) : src H v = some items ∧ (q = true → v.isRng = true) := by
  unfold srcQ at h
  cases hq : (!v.isRng && q) with
  | false =>
    rw [hq] at h
    refine ⟨h, fun e => ?_⟩
    try clear h
    subst e
    cases hr : v.isRng with
    | true => rfl
    | false => rw [hr] at hq; cases hq
  | true => rw [hq] at h; cases h
theorem callF_hush {P : Prog} {q : Bool} : ∀ n, callF (P.at q) n = callF P n
  | 0 => rfl
  | n + 1 => by
    funext q' f vs H Q X
    rw [callF_at, callF_at, callF_hush n]
end Mine

end
noncomputable section
namespace Mine
open PySem PySem.Calls PyProof.Rows

abbrev Adr := List (Option Addr)
abbrev HP := PySem.Heap

set_option genInjectivity false in
/-- what stands fast through the whole run of a law -/
structure Cx where
  prog : Program
  w : World
  base : HP
  mg : Str → Option Value
  mb : Str → Option Value
  P : Prog
  os : OsState
  fad : Nat → Addr
  fdat : Nat → FuncData
  xcls : Nat → Addr
  ccls : Nat → Addr

/-- the same text; an exception is at hand, more of the heap stands fast -/
abbrev Cx.to (c : Cx) (q : Bool) (b : HP) : Cx := { c with P := c.P.at q, base := b }

/-- no text, list, dict is longer -/
noncomputable def bnd : Nat := 2 ^ 40
abbrev Cx.M (c : Cx) : Model := model c.prog c.w
abbrev Cx.kd (c : Cx) : KeyKind c.prog c.w Str := strKind c.prog c.w

/-- a text's signs as the model has them -/
noncomputable def toS (s : List Char) : Str := ⟨(s.map Char.toNat).toArray⟩
theorem toS_inj {a b : List Char} (h : toS a = toS b) : a = b := by
  have h1 : (a.map Char.toNat) = b.map Char.toNat := by
    have := congrArg (fun x : Str => x.cps.toList) h
    simpa [toS] using this
  exact (List.map_inj_right (fun x y e => Char.toNat_inj.mp e)).mp h1

/-- a test ahead -/
theorem ite_some {α : Type} {p : Prop} [Decidable p] {a : Option α} {x : α} (h : (if p then a else none) = some x) : p ∧ a = some x := by
  by_cases hp : p
  · rw [if_pos hp] at h; exact ⟨hp, h⟩
  · rw [if_neg hp] at h; cases h
theorem ite_is {α : Type} {p : Prop} [Decidable p] {a x : α} (h : (if p then some a else none) = some x) : p ∧ a = x := by
  have h := ite_some h; exact ⟨h.1, Option.some.inj h.2⟩
theorem bind_is {α β : Type} {o : Option α} {f : α → Option β} {x : β} (h : o.bind f = some x) : ∃ a, o = some a ∧ f a = some x := by
  cases o with
  | none => cases h
  | some a => exact ⟨a, rfl, h⟩
theorem map_is {α β : Type} {o : Option α} {f : α → β} {x : β} (h : o.map f = some x) : ∃ a, o = some a ∧ f a = x := by
  cases o with
  | none => cases h
  | some a => exact ⟨a, rfl, Option.some.inj h⟩
theorem O.lst_is {o : O} {vs : List V} (h : o.lst = some vs) : o = .list vs := by
  cases o with
  | list ws => exact congrArg _ (Option.some.inj h)
  | _ => cases h
theorem O.dct_is {o : O} {d : List (List Char) × List V} (h : o.dct = some d) : o = .dict d.1 d.2 := by
  cases o with
  | dict ks ws => cases h; rfl
  | _ => cases h
theorem V.txt_is {v : V} {s : List Char} (h : v.txt = some s) : v = .str s := by
  cases v with
  | str t => exact congrArg _ (Option.some.inj h)
  | _ => cases h
theorem V.kind_is {v : V} {k : Nat} (h : v.kind = some k) : v = .exc k := by
  cases v <;> first | (cases h; rfl) | cases h
theorem V.num_is {v : V} {i : Int} (h : v.num = some i) : v = .int i := by
  cases v with
  | int t => exact congrArg _ (Option.some.inj h)
  | _ => cases h
theorem V.at_is {v : V} {i : Nat} (h : v.at = some i) : v = .ref i := by
  cases v with
  | ref t => exact congrArg _ (Option.some.inj h)
  | _ => cases h
theorem V.frz_is {v : V} {vs : List V} (h : v.frz = some vs) : v = .lst vs := by
  cases v with
  | lst t => exact congrArg _ (Option.some.inj h)
  | _ => cases h
theorem heapL_is {H : AH} {v : V} {p : Nat × List V} (h : heapL H v = some p) : v = .ref p.1 ∧ H[p.1]? = some (.list p.2) := by
  refine ea1_2 (bind_is h) ?_
  intro i h1 h2
  try clear h
  refine ea1_2 (bind_is h2) ?_
  intro vs h3 h4
  try clear h2
  refine ea1_2 (bind_is h3) ?_
  intro o h5 h6
  try clear h3
  try clear o; try clear vs; try clear i
  cases h4
  exact ⟨V.at_is h1, by rw [h5, O.lst_is h6]⟩
/-- whose contents a view shows -/
inductive VwR (H : AH) (vs : List V) : V → Prop
  | lst : VwR H vs (.lst vs)
  | ref {i : Nat} : H[i]? = some (.list vs) → VwR H vs (.ref i)
theorem view_is {H : AH} {v : V} {vs : List V} (h : view H v = some vs) : VwR H vs v := by
  cases v with
  | lst ws => cases h; exact .lst
  | ref i => obtain ⟨o, h1, h2⟩ := bind_is h; exact .ref (by rw [h1, O.lst_is h2])
  | _ => cases h
inductive DwR (H : AH) (d : List (List Char) × List V) : V → Prop
  | dct : DwR H d (.dct d.1 d.2)
  | ref {i : Nat} : H[i]? = some (.dict d.1 d.2) → DwR H d (.ref i)
theorem dview_is {H : AH} {v : V} {d : List (List Char) × List V} (h : dview H v = some d) : DwR H d v := by
  cases v with
  | dct ks ws => cases h; exact .dct
  | ref i => obtain ⟨o, h1, h2⟩ := bind_is h; exact .ref (by rw [h1, O.dct_is h2])
  | _ => cases h

mutual
inductive VR (c : Cx) (as : Adr) (X : List Addr) (h : HP) : V → Value → Prop
  | none : VR c as X h .none .none
  | bool (b : Bool) : VR c as X h (.bool b) (.bool b)
  | int (i : Int) (t : Tok) : VR c as X h (.int i) (.int i t)
  | str (s : List Char) (t : Tok) : s.length ≤ bnd → VR c as X h (.str s) (.str (toS s) t)
  | tup {a : Addr} {items : Array Value} {n : Nat} {vs : List V} : some a ∉ as → a ∉ X → h.get? a = some { cls := .type "tuple", data := .seq items n } → VRs c as X h vs items.toList → vs.length ≤ bnd → VR c as X h (.tup vs) (.ref a)
  | lst {a : Addr} {items : Array Value} {vs : List V} : some a ∉ as → a ∉ X → h.PlainList a items → VRs c as X h vs items.toList → vs.length ≤ bnd → VR c as X h (.lst vs) (.ref a)
  | dct {a : Addr} {ks : List (List Char)} {vs : List V} {cs : List Value} : some a ∉ as → a ∉ X → (a == sysModules) = false → h.DictOf c.kd a ((ks.map toS).zip cs) → ks.length = cs.length → VRs c as X h vs cs → vs.length ≤ bnd → VR c as X h (.dct ks vs) (.ref a)
  | rng {r : Addr} {a b : Int} {t₀ t₁ t₂ : Tok} : some r ∉ as → r ∉ X → IsRange h r a b 1 t₀ t₁ t₂ → smallInt a = true → smallInt b = true → VR c as X h (.rng a b) (.ref r)
  | exc {a : Addr} {o : Obj} {k : Nat} : some a ∉ as → a ∉ X → h.get? a = some o → o.cls = .ref (c.xcls k) → VR c as X h (.exc k) (.ref a)
  | refD {i : Nat} {cv : Value} : as[i]? = some Option.none → VR c as X h (.ref i) cv
  | ref {i : Nat} {a : Addr} : as[i]? = some (some a) → VR c as X h (.ref i) (.ref a)
inductive VRs (c : Cx) (as : Adr) (X : List Addr) (h : HP) : List V → List Value → Prop
  | nil : VRs c as X h [] []
  | cons {v : V} {vs : List V} {x : Value} {cs : List Value} : VR c as X h v x → VRs c as X h vs cs → VRs c as X h (v :: vs) (x :: cs)
end

/-- what a value of each shape stands for, one by one -/
inductive StrR (s : List Char) : Value → Prop
  | str (t : Tok) : s.length ≤ bnd → StrR s (.str (toS s) t)
inductive IntR (i : Int) : Value → Prop
  | int (t : Tok) : IntR i (.int i t)
inductive TupR (c : Cx) (as : Adr) (X : List Addr) (h : HP) (vs : List V) : Value → Prop
  | tup {a : Addr} {items : Array Value} {n : Nat} : some a ∉ as → a ∉ X → h.get? a = some { cls := .type "tuple", data := .seq items n } → VRs c as X h vs items.toList → vs.length ≤ bnd → TupR c as X h vs (.ref a)
inductive LstR (c : Cx) (as : Adr) (X : List Addr) (h : HP) (vs : List V) : Value → Prop
  | lst {a : Addr} {items : Array Value} : some a ∉ as → a ∉ X → h.PlainList a items → VRs c as X h vs items.toList → vs.length ≤ bnd → LstR c as X h vs (.ref a)
inductive DctR (c : Cx) (as : Adr) (X : List Addr) (h : HP) (ks : List (List Char)) (vs : List V) : Value → Prop
  | dct {a : Addr} {cs : List Value} : some a ∉ as → a ∉ X → (a == sysModules) = false → h.DictOf c.kd a ((ks.map toS).zip cs) → ks.length = cs.length → VRs c as X h vs cs → vs.length ≤ bnd → DctR c as X h ks vs (.ref a)
inductive RngR (as : Adr) (X : List Addr) (h : HP) (a b : Int) : Value → Prop
  | rng {r : Addr} {t₀ t₁ t₂ : Tok} : some r ∉ as → r ∉ X → IsRange h r a b 1 t₀ t₁ t₂ → smallInt a = true → smallInt b = true → RngR as X h a b (.ref r)
inductive RefR (as : Adr) (i : Nat) : Value → Prop
  | refD {cv : Value} : as[i]? = some Option.none → RefR as i cv
  | ref {a : Addr} : as[i]? = some (some a) → RefR as i (.ref a)
inductive ExcR (c : Cx) (as : Adr) (X : List Addr) (h : HP) (k : Nat) : Value → Prop
  | exc {a : Addr} {o : Obj} : some a ∉ as → a ∉ X → h.get? a = some o → o.cls = .ref (c.xcls k) → ExcR c as X h k (.ref a)
noncomputable def VI (c : Cx) (as : Adr) (X : List Addr) (h : HP) (v : V) (cv : Value) : Prop := match v with
  | .none => cv = .none
  | .bool b => cv = .bool b
  | .int i => IntR i cv
  | .str s => StrR s cv
  | .tup vs => TupR c as X h vs cv
  | .lst vs => LstR c as X h vs cv
  | .dct ks vs => DctR c as X h ks vs cv
  | .rng a b => RngR as X h a b cv
  | .exc k => ExcR c as X h k cv
  | .ref i => RefR as i cv
theorem VR.inv {c : Cx} {as : Adr} {X : List Addr} {h : HP} {v : V} {cv : Value} (r : VR c as X h v cv) : VI c as X h v cv := by
  cases r with
  | none => exact rfl
  | bool b => exact rfl
  | int i t => exact .int t
  | str s t hb => exact .str t hb
  | tup h1 h2 h3 h4 h5 => exact .tup h1 h2 h3 h4 h5
  | lst h1 h2 h3 h4 h5 => exact .lst h1 h2 h3 h4 h5
  | dct h1 h2 h3 h4 h5 h6 h7 => exact .dct h1 h2 h3 h4 h5 h6 h7
  | rng h1 h2 h3 h4 h5 => exact .rng h1 h2 h3 h4 h5
  | exc h1 h2 h3 h4 => exact .exc h1 h2 h3 h4
  | refD h1 => exact .refD h1
  | ref h1 => exact .ref h1

section
variable {c : Cx} {as as' : Adr} {X : List Addr} {h h' : HP}
theorem VRs.length : ∀ {vs : List V} {cs : List Value}, VRs c as X h vs cs → vs.length = cs.length
  | _, _, .nil => rfl
  | _, _, .cons _ r => by rw [List.length_cons, List.length_cons, r.length]
theorem VRs.get : ∀ {vs : List V} {cs : List Value} {j : Nat} {v : V}, VRs c as X h vs cs → vs[j]? = some v → ∃ x, cs[j]? = some x ∧ VR c as X h v x
  | _, _, _, _, .nil, e => by simp at e
  | _, _, 0, _, .cons x _, e => by simp at e; subst e; exact ⟨_, rfl, x⟩
  | _, _, j + 1, _, .cons _ r, e => by simp only [List.getElem?_cons_succ] at e ⊢; exact r.get e
theorem VRs.get' : ∀ {vs : List V} {cs : List Value} {j : Nat} {x : Value}, VRs c as X h vs cs → cs[j]? = some x → ∃ v, vs[j]? = some v ∧ VR c as X h v x
  | _, _, _, _, .nil, e => by simp at e
  | _, _, 0, _, .cons x _, e => by simp at e; subst e; exact ⟨_, rfl, x⟩
  | _, _, j + 1, _, .cons _ r, e => by simp only [List.getElem?_cons_succ] at e ⊢; exact r.get' e
theorem VRs.append : ∀ {vs ws : List V} {cs ds : List Value}, VRs c as X h vs cs → VRs c as X h ws ds → VRs c as X h (vs ++ ws) (cs ++ ds)
  | _, _, _, _, .nil, k => k
  | _, _, _, _, .cons x r, k => .cons x (r.append k)
theorem VRs.take : ∀ {vs : List V} {cs : List Value} (n : Nat), VRs c as X h vs cs → VRs c as X h (vs.take n) (cs.take n)
  | _, _, 0, _ => by simp only [List.take_zero]; exact .nil
  | _, _, n + 1, .nil => by simp only [List.take_nil]; exact .nil
  | _, _, n + 1, .cons x r => by simp only [List.take_succ_cons]; exact .cons x (r.take n)
theorem VRs.drop : ∀ {vs : List V} {cs : List Value} (n : Nat), VRs c as X h vs cs → VRs c as X h (vs.drop n) (cs.drop n)
  | _, _, 0, k => k
  | _, _, n + 1, .nil => by simp only [List.drop_nil]; exact .nil
  | _, _, n + 1, .cons x r => by simp only [List.drop_succ_cons]; exact r.drop n
theorem VRs.reverse : ∀ {vs : List V} {cs : List Value}, VRs c as X h vs cs → VRs c as X h vs.reverse cs.reverse
  | _, _, .nil => .nil
  | _, _, .cons x r => by simp only [List.reverse_cons]; exact r.reverse.append (.cons x .nil)
theorem VRs.set : ∀ {vs : List V} {cs : List Value} {v : V} {x : Value} (n : Nat), VRs c as X h vs cs → VR c as X h v x → VRs c as X h (vs.set n v) (cs.set n x)
  | _, _, _, _, _, .nil, _ => by simp only [List.set_nil]; exact .nil
  | _, _, _, _, 0, .cons _ r, k => by simp only [List.set_cons_zero]; exact .cons k r
  | _, _, _, _, n + 1, .cons x r, k => by simp only [List.set_cons_succ]; exact .cons x (r.set n k)
theorem VRs.replicate {v : V} {x : Value} (k : VR c as X h v x) : ∀ n : Nat, VRs c as X h (List.replicate n v) (List.replicate n x)
  | 0 => .nil
  | n + 1 => by simp only [List.replicate_succ]; exact .cons k (VRs.replicate k n)
end

/-- an object as it was; a frame's slots may be others -/
/- a frame stands twice in X -/
noncomputable def SameO (X : List Addr) (b : Addr) (o o' : Obj) : Prop := o' = o ∨ (2 ≤ X.count b ∧ (∃ es n, o.data = .dict es n) ∧ ∃ sl, o' = { o with slots := sl })
theorem SameO.trans {X : List Addr} {b : Addr} {o₁ o₂ o₃ : Obj} (x : SameO X b o₁ o₂) (y : SameO X b o₂ o₃) : SameO X b o₁ o₃ := by
  rcases x with rfl | ⟨h1, h2, sl, rfl⟩
  · exact y
  · try clear x
    rcases y with rfl | ⟨_, _, sl', rfl⟩
    · exact .inr ⟨h1, h2, sl, rfl⟩
    · exact .inr ⟨h1, h2, sl', rfl⟩
theorem SameO.eq {X : List Addr} {b : Addr} {o o' : Obj} (x : SameO X b o o') (h : ∀ es n, o.data ≠ .dict es n) : o' = o := by
  rcases x with e | ⟨_, ⟨es, n, h1⟩, _⟩
  · exact e
  · exact absurd h1 (h es n)
theorem SameO.out {X : List Addr} {b : Addr} {o o' : Obj} (x : SameO X b o o') (h : b ∉ X) : o' = o := by
  rcases x with e | ⟨h1, _⟩
  · exact e
  · rw [List.count_eq_zero_of_not_mem h] at h1; cases h1
theorem SameO.mono {X Y : List Addr} {b : Addr} {o o' : Obj} (x : SameO X b o o') (h : 2 ≤ X.count b → 2 ≤ Y.count b) : SameO Y b o o' := x.imp id fun ⟨a, r⟩ => ⟨h a, r⟩

/-- what is not among the addresses stays -/
noncomputable def Kept (as : Adr) (X : List Addr) (h h' : HP) : Prop := ∀ b o, h.get? b = some o → some b ∉ as → ∃ o', h'.get? b = some o' ∧ SameO X b o o'
theorem Kept.refl (as : Adr) (X : List Addr) (h : HP) : Kept as X h h := fun _ o e _ => ⟨o, e, .inl rfl⟩
/-- the same, but for the addresses of Y too -/
noncomputable def KeptX (as : Adr) (X Y : List Addr) (h h' : HP) : Prop := ∀ b o, h.get? b = some o → some b ∉ as → b ∉ Y → ∃ o', h'.get? b = some o' ∧ SameO X b o o'
/-- what values lean on stays -/
noncomputable def VK (as : Adr) (X : List Addr) (h h' : HP) : Prop := ∀ b o, h.get? b = some o → some b ∉ as → b ∉ X → h'.get? b = some o
theorem Kept.y {as : Adr} {X : List Addr} {h h' : HP} (k : Kept as X h h') (Y : List Addr) : KeptX as X Y h h' := fun b o e hb _ => k b o e hb
theorem Kept.x {as : Adr} {X : List Addr} {h h' : HP} (k : Kept as X h h') : VK as X h h' := fun b o e hb hx => by
  refine ea1_2 (k b o e hb) ?_
  intro o' e' s
  rw [e', s.out hx]
theorem KeptX.v {as : Adr} {X Y : List Addr} {h h' : HP} (k : KeptX as X Y h h') (hY : ∀ b ∈ Y, b ∈ X) : VK as X h h' := fun b o e hb hx => by
  refine ea1_2 (k b o e hb fun q => hx (hY b q)) ?_
  intro o' e' s
  rw [e', s.out hx]

structure Ext (as : Adr) (h : HP) (as' : Adr) : Prop where
  old : ∀ (i : Nat) (x : Option Addr), as[i]? = some x → as'[i]? = some x ∨ as'[i]? = some none
  new : ∀ a, some a ∈ as' → some a ∈ as ∨ h.get? a = none
theorem Ext.refl (as : Adr) (h : HP) : Ext as h as := ⟨fun _ _ e => .inl e, fun _ e => .inl e⟩
theorem Ext.trans {as as₁ as₂ : Adr} {X : List Addr} {h h₁ : HP} (x : Ext as h as₁) (k : Kept as X h h₁) (y : Ext as₁ h₁ as₂) : Ext as h as₂ := by
  refine ⟨fun i a e => ?_, fun a ha => ?_⟩
  · try clear k
    rcases x.old i a e with e1 | e1
    · try clear x
      rcases y.old i _ e1 with e2 | e2
      · exact .inl e2
      · exact .inr e2
    · rcases y.old i _ e1 with e2 | e2
      · exact .inr e2
      · exact .inr e2
  · rcases y.new a ha with e1 | e1
    · exact x.new a e1
    · by_cases hm : some a ∈ as
      · exact .inl hm
      · try clear y
        cases hq : h.get? a with
        | none => exact .inr rfl
        | some o => obtain ⟨o', e, _⟩ := k a o hq hm; rw [e] at e1; cases e1
theorem Kept.trans {as as₁ : Adr} {X : List Addr} {h h₁ h₂ : HP} (k : Kept as X h h₁) (x : Ext as h as₁) (k' : Kept as₁ X h₁ h₂) : Kept as X h h₂ := fun b o e hb => by
  refine ea1_2 (k b o e hb) ?_
  intro o₁ e₁ s₁
  have hb1 : some b ∉ as₁ := fun q => by
    rcases x.new b q with q | q
    · exact hb q
    · rw [e] at q; cases q
  refine ea1_2 (k' b o₁ e₁ hb1) ?_
  intro o₂ e₂ s₂
  exact ⟨o₂, e₂, s₁.trans s₂⟩

theorem IsRange.same {h h' : HP} {r : Addr} {a b : Int} {t₀ t₁ t₂ : Tok} (x : IsRange h r a b 1 t₀ t₁ t₂) (k : ∀ o, h.get? r = some o → h'.get? r = some o) : IsRange h' r a b 1 t₀ t₁ t₂ := k _ x

theorem KeptX.get {as : Adr} {X Y : List Addr} {h h' : HP} (k : KeptX as X Y h h') {b : Addr} {o : Obj} (e : h.get? b = some o) (hb : some b ∉ as) (hx : b ∉ Y) (hc : ∀ es n, o.data ≠ .dict es n) : h'.get? b = some o := by
  refine ea1_2 (k b o e hb hx) ?_
  intro o' e' s
  try clear k; try clear e; try clear hb; try clear hx
  rw [e', s.eq hc]
theorem Kept.get {as : Adr} {X : List Addr} {h h' : HP} (k : Kept as X h h') {b : Addr} {o : Obj} (e : h.get? b = some o) (hb : some b ∉ as) (hc : ∀ es n, o.data ≠ .dict es n) : h'.get? b = some o := by
  refine ea1_2 (k b o e hb) ?_
  intro o' e' s
  try clear k; try clear e; try clear hb
  rw [e', s.eq hc]
theorem Ext.out {as as' : Adr} {h : HP} (x : Ext as h as') {b : Addr} {o : Obj} (e : h.get? b = some o) (hb : some b ∉ as) : some b ∉ as' := fun q => by
  rcases x.new b q with q | q
  · exact hb q
  · rw [e] at q; cases q
theorem DictOf.same {c : Cx} {h h' : HP} {a : Addr} {kvs : List (Str × Value)} (x : h.DictOf c.kd a kvs) (k : ∀ o, h.get? a = some o → h'.get? a = some o) : h'.DictOf c.kd a kvs := by
  refine ea3_3 x ?_
  try clear x
  intro o es ep ho hx r
  exact ⟨o, es, ep, k o ho, hx, r⟩

theorem VRs.all {c : Cx} {as : Adr} {X : List Addr} {h : HP} {P : V → Value → Prop} {vs : List V} {cs : List Value} (r : VRs c as X h vs cs) (R : List V → List Value → Prop) (hn : R [] []) (hc : ∀ v x vs cs, VR c as X h v x → R vs cs → R (v :: vs) (x :: cs)) : R vs cs :=
  VRs.rec (motive_1 := fun _ _ _ => True) (motive_2 := fun vs cs _ => R vs cs) trivial (fun _ => trivial) (fun _ _ => trivial) (fun _ _ _ => trivial) (fun _ _ _ _ _ _ => trivial) (fun _ _ _ _ _ _ => trivial) (fun _ _ _ _ _ _ _ _ => trivial) (fun _ _ _ _ _ => trivial) (fun _ _ _ _ => trivial) (fun _ => trivial) (fun _ => trivial) hn (fun a _ _ ih => hc _ _ _ _ a ih) r
/-- other addresses, another heap: what a value leans on stays -/
theorem VR.gen {c : Cx} {as as' : Adr} {X X' : List Addr} {h h' b : HP} {q : Bool} (hk : ∀ a o, some a ∉ as → a ∉ X → h.get? a = some o → some a ∉ as' ∧ a ∉ X' ∧ h'.get? a = some o)
    (hr : ∀ (i : Nat) x, as[i]? = some x → as'[i]? = some x ∨ as'[i]? = some Option.none) {v : V} {y : Value} (r : VR c as X h v y) : VR (c.to q b) as' X' h' v y := by
  refine VR.rec (motive_1 := fun v y _ => VR (c.to q b) as' X' h' v y) (motive_2 := fun vs cs _ => VRs (c.to q b) as' X' h' vs cs) .none .bool .int .str
    (fun ha hx ho _ hb ih => ?_) (fun ha hx hp _ hb ih => ?_) (fun ha hx hsm hd hl _ hb ih => ?_) (fun hr hx hi h1 h2 => ?_) (fun ha hx ho hc => ?_) (fun e => ?_) (fun e => ?_) .nil (fun _ _ i1 i2 => .cons i1 i2) r
  · refine ea0_3 (hk _ _ ha hx ho) ?_
    intro q1 q2 q3
    try clear hk
    exact .tup q1 q2 q3 ih hb
  · obtain ⟨m, ho⟩ := hp
    refine ea0_3 (hk _ _ ha hx ho) ?_
    intro q1 q2 q3
    try clear hk; try clear ho
    exact .lst q1 q2 ⟨m, q3⟩ ih hb
  · refine ea3_3 hd ?_
    try clear hd
    intro o es ep ho hx' r
    refine ea0_3 (hk _ _ ha hx ho) ?_
    intro q1 q2 q3
    try clear hk; try clear ho
    exact .dct q1 q2 hsm ⟨o, es, ep, q3, hx', r⟩ hl ih hb
  · have hi0 := hi
    refine ea0_3 (hk _ _ hr hx hi0) ?_
    intro q1 q2 q3
    try clear hk; try clear hr; try clear hi0
    exact .rng q1 q2 q3 h1 h2
  · refine ea0_3 (hk _ _ ha hx ho) ?_
    intro q1 q2 q3
    try clear hk
    exact .exc q1 q2 q3 hc
  · rcases hr _ _ e with q | q
    · exact .refD q
    · exact .refD q
  · rcases hr _ _ e with q | q
    · exact .ref q
    · exact .refD q
theorem VRs.gen {c : Cx} {as as' : Adr} {X X' : List Addr} {h h' b : HP} {q : Bool} (hk : ∀ a o, some a ∉ as → a ∉ X → h.get? a = some o → some a ∉ as' ∧ a ∉ X' ∧ h'.get? a = some o)
    (hr : ∀ (i : Nat) x, as[i]? = some x → as'[i]? = some x ∨ as'[i]? = some none) {vs : List V} {cs : List Value} (r : VRs c as X h vs cs) : VRs (c.to q b) as' X' h' vs cs :=
  VRs.all (P := fun _ _ => True) r (fun vs cs => VRs (c.to q b) as' X' h' vs cs) .nil (fun _ _ _ _ a ih => .cons (VR.gen hk hr a) ih)

theorem VR.keepX {c : Cx} {as as' : Adr} {X : List Addr} {h h' : HP} (k : VK as X h h') (x : Ext as h as') {v : V} {y : Value} (r : VR c as X h v y) : VR c as' X h' v y :=
  VR.gen (fun _ _ ha hx ho => ⟨x.out ho ha, hx, k _ _ ho ha hx⟩) x.old r
theorem VRs.keepX {c : Cx} {as as' : Adr} {X : List Addr} {h h' : HP} (k : VK as X h h') (x : Ext as h as') {v : List V} {y : List Value} (r : VRs c as X h v y) : VRs c as' X h' v y :=
  VRs.gen (fun _ _ ha hx ho => ⟨x.out ho ha, hx, k _ _ ho ha hx⟩) x.old r
theorem VR.keep {c : Cx} {as as' : Adr} {X : List Addr} {h h' : HP} (k : Kept as X h h') (x : Ext as h as') {v : V} {y : Value} (z : VR c as X h v y) : VR c as' X h' v y := z.keepX k.x x
theorem VRs.keep {c : Cx} {as as' : Adr} {X : List Addr} {h h' : HP} (k : Kept as X h h') (x : Ext as h as') {v : List V} {y : List Value} (z : VRs c as X h v y) : VRs c as' X h' v y := z.keepX k.x x
/-- other frames: what is there lies in none that is made later; fewer frames -/
theorem VR.frames {c : Cx} {as : Adr} {X Y : List Addr} {h : HP} (hy : ∀ b o, h.get? b = some o → b ∉ X → b ∉ Y) {v : V} {y : Value} (r : VR c as X h v y) : VR c as Y h v y :=
  VR.gen (fun _ _ ha hx ho => ⟨ha, hy _ _ ho hx, ho⟩) (fun _ _ e => .inl e) r
theorem VRs.frames {c : Cx} {as : Adr} {X Y : List Addr} {h : HP} (hy : ∀ b o, h.get? b = some o → b ∉ X → b ∉ Y) {v : List V} {y : List Value} (r : VRs c as X h v y) : VRs c as Y h v y :=
  VRs.gen (fun _ _ ha hx ho => ⟨ha, hy _ _ ho hx, ho⟩) (fun _ _ e => .inl e) r

/-- an instance of the text's class, and where its names lie -/
inductive InstAt (c : Cx) (as : Adr) (h : HP) (a : Addr) (k d : Nat) : Prop
  | mk (dx : Addr) (ob : Obj) : as[d]? = some (some dx) → h.get? a = some ob → ob.cls = .ref (c.ccls k) → ob.dict = some dx → (∀ cd, ob.data ≠ .cls cd) → InstAt c as h a k d
/-- an abstract object lies at an address -/
noncomputable def OR (c : Cx) (as : Adr) (X : List Addr) (h : HP) (a : Addr) : O → Prop
  | .list vs => vs.length ≤ bnd ∧ ∃ items, h.PlainList a items ∧ VRs c as X h vs items.toList
  | .dict ks vs => vs.length ≤ bnd ∧ (a == sysModules) = false ∧ ∃ cs, h.DictOf c.kd a ((ks.map toS).zip cs) ∧ ks.length = cs.length ∧ VRs c as X h vs cs
  | .inst k d => InstAt c as h a k d
  | .ns ks vs => vs.length ≤ bnd ∧ ∃ cs mA, h.Ns1 a mA ∧ ks.length = cs.length ∧ VRs c as X h vs cs ∧ ∀ n, mA n = ((ks.map toS).zip cs).lookup n
  | .dead => False

structure SR (c : Cx) (as : Adr) (X : List Addr) (H : AH) (s : Shared) : Prop where
  len : as.length = H.length
  stays : c.base.StaysIn s.heap
  gens : s.gens = #[]
  os : s.os = c.os
  objs : ∀ (i : Nat) (a : Addr), as[i]? = some (some a) → c.base.get? a = none ∧ a ∉ X ∧ ∃ o, H[i]? = some o ∧ OR c as X s.heap a o
  inj : ∀ (i j : Nat) (a : Addr), as[i]? = some (some a) → as[j]? = some (some a) → i = j
  dead : ∀ i : Nat, as[i]? = some none → H[i]? = some .dead
  xs : ∀ b ∈ X, ∃ o, s.heap.get? b = some o

theorem OR.keepX {c : Cx} {as : Adr} {X : List Addr} {h h' : HP} {a : Addr} {o : O} (k : VK as X h h') (ha : ∀ ob, h.get? a = some ob → h'.get? a = some ob) : OR c as X h a o → OR c as X h' a o := by
  intro x
  cases o with
  | list vs =>
    obtain ⟨hb, items, ⟨n, e⟩, r⟩ := x
    exact ⟨hb, items, ⟨n, ha _ e⟩, r.keepX k (.refl ..)⟩
  | dict ks vs =>
    refine ea0_3 x ?_
    try clear x
    intro hb hsm r_3
    refine ea1_3 r_3 ?_
    try clear r_3
    intro cs hd hl r
    exact ⟨hb, hsm, cs, DictOf.same hd ha, hl, r.keepX k (.refl ..)⟩
  | inst k d =>
    obtain ⟨dx, ob, e1, e2, r1, r2, r3⟩ := x
    exact ⟨dx, ob, e1, ha _ e2, r1, r2, r3⟩
  | ns ks vs =>
    obtain ⟨hb, cs, mA, hn, hl, r, hm⟩ := x
    exact ⟨hb, cs, mA, hn.at ha, hl, r.keepX k (.refl ..), hm⟩
  | dead => exact x.elim
theorem OR.here {c : Cx} {as : Adr} {X : List Addr} {h : HP} {a : Addr} {o : O} (x : OR c as X h a o) : ∃ ob, h.get? a = some ob := by
  cases o with
  | list vs => obtain ⟨_, _, ⟨n, e⟩, _⟩ := x; exact ⟨_, e⟩
  | dict ks vs => obtain ⟨_, _, _, ⟨o, _, _, e, hx, _⟩, _⟩ := x; exact ⟨_, e⟩
  | inst k d => obtain ⟨_, _, _, e⟩ := x; exact ⟨_, e⟩
  | ns ks vs => obtain ⟨_, _, _, ⟨o, _, _, e, _⟩, _⟩ := x; exact ⟨o, e⟩
  | dead => exact x.elim
theorem OR.frames {c : Cx} {as : Adr} {X Y : List Addr} {h : HP} {a : Addr} {o : O} (hy : ∀ b o, h.get? b = some o → b ∉ X → b ∉ Y) : OR c as X h a o → OR c as Y h a o := by
  intro x
  cases o with
  | list vs => obtain ⟨hb, items, hp, r⟩ := x; exact ⟨hb, items, hp, r.frames hy⟩
  | dict ks vs => obtain ⟨hb, hsm, cs, hd, hl, r⟩ := x; exact ⟨hb, hsm, cs, hd, hl, r.frames hy⟩
  | inst k d => exact x
  | ns ks vs => obtain ⟨hb, cs, mA, hn, hl, r, hm⟩ := x; exact ⟨hb, cs, mA, hn, hl, r.frames hy, hm⟩
  | dead => exact x.elim

/-- a part of a heap -/
noncomputable def only (h : HP) (p : Addr → Bool) : HP := { h with objs := h.objs.mapIdx fun i o => if p i = true then o else { cls := .none, dict := none, data := .freed, slots := #[] } }
theorem only_get {h : HP} {p : Addr → Bool} (a : Addr) : (only h p).get? a = if p a = true then h.get? a else none := by
  unfold only Heap.get?
  simp only [Array.getElem?_mapIdx]
  cases he : h.objs[a]? with
  | none => simp
  | some o =>
    by_cases hp : p a = true
    · simp [hp]
    · simp [hp]

/-- a heap that has all that was, and maybe more -/
noncomputable def Grown (h h' : HP) : Prop := ∀ b o, h.get? b = some o → h'.get? b = some o
theorem Grown.refl (h : HP) : Grown h h := fun _ _ e => e
theorem Grown.push (h : HP) (o : Obj) : Grown h (h.push o) := fun _ _ e => Heap.get?_push_of_some _ e
theorem Grown.trans {h h' h'' : HP} (a : Grown h h') (b : Grown h' h'') : Grown h h'' := fun x o e => b x o (a x o e)
theorem Grown.kept {h h' : HP} (g : Grown h h') (as : Adr) (X : List Addr) : Kept as X h h' := fun b o e _ => ⟨o, g b o e, .inl rfl⟩
/-- nothing of the abstract heap changes: the frames may -/
theorem SR.keepX {c : Cx} {as : Adr} {X : List Addr} {H : AH} {s s' : Shared} (x : SR c as X H s) (k : VK [] X s.heap s'.heap) (hst : c.base.StaysIn s'.heap) (hx : ∀ b ∈ X, ∃ o, s'.heap.get? b = some o) (hg : s'.gens = s.gens) (ho : s'.os = s.os) : SR c as X H s' where
  len := x.len
  stays := hst
  gens := hg.trans x.gens
  os := ho.trans x.os
  objs := fun i a e => by
    refine ea0_3 (x.objs i a e) ?_
    intro h1 h2 r_3
    refine ea1_2 r_3 ?_
    try clear r_3
    intro o h3 h4
    exact ⟨h1, h2, o, h3, h4.keepX (fun b o e _ hb => k b o e (fun q => nomatch q) hb) fun ob e => k _ _ e (fun q => nomatch q) h2⟩
  inj := x.inj
  dead := x.dead
  xs := hx
theorem SR.grow {c : Cx} {as : Adr} {X : List Addr} {H : AH} {s s' : Shared} (x : SR c as X H s) (g : Grown s.heap s'.heap) (hg : s'.gens = s.gens) (ho : s'.os = s.os) : SR c as X H s' :=
  x.keepX (g.kept [] X).x (fun b o e => g b o (x.stays b o e)) (fun b hb => let ⟨o, e⟩ := x.xs b hb; ⟨o, g b o e⟩) hg ho
theorem SR.frames {c : Cx} {as : Adr} {X Y : List Addr} {H : AH} {s : Shared} (x : SR c as X H s) (hy : ∀ b o, s.heap.get? b = some o → b ∉ X → b ∉ Y) (hx : ∀ b ∈ Y, ∃ o, s.heap.get? b = some o) : SR c as Y H s where
  len := x.len
  stays := x.stays
  gens := x.gens
  os := x.os
  objs := fun i a e => by
    refine ea0_3 (x.objs i a e) ?_
    intro h1 h2 r_3
    refine ea1_2 r_3 ?_
    try clear r_3
    intro o h3 h4
    obtain ⟨ob, e'⟩ := h4.here
    exact ⟨h1, hy _ _ e' h2, o, h3, OR.frames hy h4⟩
  inj := x.inj
  dead := x.dead
  xs := hx

/-- what an expression's evaluation hands on -/
inductive Res (c : Cx) (as : Adr) (X : List Addr) (h : HP) (Q : QE) (x : Value) (s' : Shared) : Prop
  | mk (v : V) (H' : AH) (as' : Adr) : Ext as h as' → SR c as' X H' s' → Kept as X h s'.heap → VR c as' X s'.heap v x → Q v H' → Res c as X h Q x s'

theorem Res.grow {c : Cx} {as : Adr} {X : List Addr} {H : AH} {s s' : Shared} {Q : QE} {v : V} {x : Value} (S : SR c as X H s) (g : Grown s.heap s'.heap) (hg : s'.gens = s.gens) (ho : s'.os = s.os) (hv : VR c as X s'.heap v x) (q : Q v H) : Res c as X s.heap Q x s' :=
  ⟨v, H, as, .refl .., S.grow g hg ho, g.kept as X, hv, q⟩
theorem Res.now {c : Cx} {as : Adr} {X : List Addr} {H : AH} {s : Shared} {Q : QE} {v : V} {x : Value} {tk : Nat} (S : SR c as X H s) (hv : VR c as X s.heap v x) (q : Q v H) : Res c as X s.heap Q x { s with toks := tk } :=
  Res.grow (s' := { s with toks := tk }) S (.refl _) rfl rfl hv q
theorem VR.grow {c : Cx} {as : Adr} {X : List Addr} {h h' : HP} {v : V} {x : Value} (g : Grown h h') (k : VR c as X h v x) : VR c as X h' v x := k.keep (g.kept as X) (.refl ..)
theorem VRs.grow {c : Cx} {as : Adr} {X : List Addr} {h h' : HP} {v : List V} {x : List Value} (g : Grown h h') (k : VRs c as X h v x) : VRs c as X h' v x := k.keep (g.kept as X) (.refl ..)

/-- of no other's -/
noncomputable def Fr (as : Adr) (h : HP) (a : Addr) : Prop := some a ∈ as ∨ h.get? a = none
theorem Kept.less {as : Adr} {X Y : List Addr} {h h' : HP} (k : Kept as Y h h') (hY : ∀ b, 2 ≤ Y.count b → 2 ≤ X.count b ∨ Fr as h b) : Kept as X h h' := fun b o e hb => by
  refine ea1_2 (k b o e hb) ?_
  intro o' e' s
  exact ⟨o', e', s.mono fun q => (hY b q).elim id fun r => r.elim (fun r => absurd r hb) fun r => by rw [r] at e; cases e⟩
theorem Kept.more {as : Adr} {X Y : List Addr} {h h' : HP} (k : Kept as X h h') (hY : ∀ b, X.count b ≤ Y.count b) : Kept as Y h h' := fun b o e hb => by
  refine ea1_2 (k b o e hb) ?_
  intro o' e' s
  exact ⟨o', e', s.mono fun q => Nat.le_trans q (hY b)⟩
theorem Kept.one {as : Adr} {a : Addr} {X : List Addr} {h h' : HP} {o : Obj} (k : Kept as (a :: X) h h') (hx : a ∉ X) (e : h.get? a = some o) (ha : some a ∉ as) : h'.get? a = some o := by
  refine ea1_2 (k a o e ha) ?_
  intro o' e' s
  try clear k; try clear e; try clear ha
  rcases s with rfl | ⟨q, _⟩
  · exact e'
  · rw [List.count_cons_self, List.count_eq_zero_of_not_mem hx] at q; exact absurd q (by decide)
theorem cnt1 {a b : Addr} {X : List Addr} (h : 2 ≤ (a :: X).count b) : b = a ∨ 2 ≤ X.count b := by
  by_cases e : b = a
  · exact .inl e
  · rw [List.count_cons_of_ne (Ne.symm e)] at h; exact .inr h
theorem Kept.fr {as : Adr} {X : List Addr} {h h' : HP} {a : Addr} (k : Kept as X h h') (ha : h'.get? a = none) : Fr as h a := by
  by_cases hm : some a ∈ as
  · exact .inl hm
  · cases hq : h.get? a with
    | none => exact .inr hq
    | some o => obtain ⟨o', e, _⟩ := k a o hq hm; rw [e] at ha; cases ha

theorem Fr.lift {as as₁ : Adr} {X : List Addr} {h h₁ : HP} {a : Addr} (e : Ext as h as₁) (k : Kept as X h h₁) (x : Fr as₁ h₁ a) : Fr as h a := x.elim (e.new a) k.fr
end Mine

end
noncomputable section
namespace Mine
open PySem PySem.Calls PyProof.Rows

section
variable {c : Cx} {A : Around} {E : Value → Shared → Prop} {s : Shared} {as : Adr} {X : List Addr} {H : AH} {Q : QE}

theorem sizeOf'_le : sizeOf' ≤ sizeLine := by rw [sizeLine_eq]; decide
theorem sizeOf'_bnd : sizeOf' + 5 ≤ bnd := by decide
theorem bnd_lt : (bnd : Int) < 2 ^ 62 := by decide

theorem natAbs_small {i : Int} (h : smallInt i = true) : i.natAbs < 2 ^ 41 := by
  simp only [smallInt, decide_eq_true_eq] at h
  lia
theorem log2_small {i : Int} (h : i.natAbs < 2 ^ 41) : i.natAbs.log2 < 41 := by
  by_cases h0 : i.natAbs = 0
  · rw [h0]; decide
  · exact (Nat.log2_lt h0).mpr h
theorem log2_div {i : Int} (h : 0 < i ∧ i ≤ 10 ^ 12) : i.natAbs.log2 < 9000 := by
  have := log2_small (i := i) (by lia)
  (exact Nat.lt_of_lt_of_le (by assumption) (by decide))
theorem bits_small {i : Int} (h : smallInt i = true) : Builtin.Int.intBits i ≤ 64 := by
  have := log2_small (natAbs_small h)
  unfold Builtin.Int.intBits
  split <;> (first | decide | lia)

theorem fresh_out (S : SR c as X H s) : some s.heap.objs.size ∉ as := fun q => by
  obtain ⟨i, hi⟩ := List.getElem?_of_mem q
  refine ea0_3 (S.objs i _ hi) ?_
  intro _ _ r_3
  refine ea1_2 r_3 ?_
  try clear r_3
  intro o _ ho
  obtain ⟨ob, e⟩ := OR.here ho
  exact absurd (Heap.lt_size e) (Nat.lt_irrefl _)
theorem fresh_x (S : SR c as X H s) : s.heap.objs.size ∉ X := fun q => by
  obtain ⟨o, e⟩ := S.xs _ q
  exact absurd (Heap.lt_size e) (Nat.lt_irrefl _)

/-- a new tuple -/
theorem res_tuple {items : Array Value} {vs : List V} {n : Nat} (S : SR c as X H s) (hv : VRs c as X s.heap vs items.toList) (hb : vs.length ≤ bnd) (q : Q (.tup vs) H) :
    Res c as X s.heap Q (.ref s.heap.objs.size) { s with heap := s.heap.push { cls := .type "tuple", data := .seq items n } } :=
  Res.grow (s' := { s with heap := s.heap.push { cls := .type "tuple", data := .seq items n } }) S (.push _ _) rfl rfl (.tup (fresh_out S) (fresh_x S) (Heap.get?_push_size _ rfl) (hv.grow (.push _ _)) hb) q
theorem res_list {items : Array Value} {vs : List V} {n : Nat} (S : SR c as X H s) (hv : VRs c as X s.heap vs items.toList) (hb : vs.length ≤ bnd) (q : Q (.lst vs) H) :
    Res c as X s.heap Q (.ref s.heap.objs.size) { s with heap := s.heap.push { cls := .type "list", data := .seq items n } } :=
  Res.grow (s' := { s with heap := s.heap.push { cls := .type "list", data := .seq items n } }) S (.push _ _) rfl rfl (.lst (fresh_out S) (fresh_x S) ⟨n, Heap.get?_push_size _ rfl⟩ (hv.grow (.push _ _)) hb) q

/-- a list's contents in the heap -/
inductive ViewAt (c : Cx) (as : Adr) (X : List Addr) (h : HP) (vs : List V) (x : Value) : Prop
  | mk (a : Addr) (items : Array Value) : x = .ref a → h.PlainList a items → VRs c as X h vs items.toList → vs.length ≤ bnd → a ∉ X → ViewAt c as X h vs x
theorem view_at {v : V} {x : Value} {vs : List V} (S : SR c as X H s) (hv : VR c as X s.heap v x) (e : view H v = some vs) : ViewAt c as X s.heap vs x := by
  cases view_is e with
  | lst => cases hv.inv with | lst ha hx hp r hb => exact ⟨_, _, rfl, hp, r, hb, hx⟩
  | ref ho' =>
    try clear e
    cases hv.inv with
    | ref hi =>
      refine ea0_3 (S.objs _ _ hi) ?_
      intro _ hx r_3
      refine ea1_2 r_3 ?_
      try clear r_3
      intro o ho hr
      try clear S
      try clear o; try clear hv
      replace ho := ho.symm.trans ho'
      cases ho
      exact ⟨_, hr.2.choose, rfl, hr.2.choose_spec.1, hr.2.choose_spec.2, hr.1, hx⟩
    | refD hi => cases (S.dead _ hi).symm.trans ho'

inductive DictAt (c : Cx) (as : Adr) (X : List Addr) (h : HP) (d : List (List Char) × List V) (x : Value) : Prop
  | mk (a : Addr) (cs : List Value) : x = .ref a → (a == sysModules) = false → h.DictOf c.kd a ((d.1.map toS).zip cs) → d.1.length = cs.length → VRs c as X h d.2 cs → d.2.length ≤ bnd → DictAt c as X h d x
theorem dview_at {v : V} {x : Value} {d : List (List Char) × List V} (S : SR c as X H s) (hv : VR c as X s.heap v x) (e : dview H v = some d) : DictAt c as X s.heap d x := by
  cases dview_is e with
  | dct => cases hv.inv with | dct ha _ hsm hp hl r hb => exact ⟨_, _, rfl, hsm, hp, hl, r, hb⟩
  | ref ho' =>
    try clear e
    cases hv.inv with
    | ref hi =>
      refine ea0_3 (S.objs _ _ hi) ?_
      intro _ _ r_3
      refine ea1_2 r_3 ?_
      try clear r_3
      intro o ho hr
      try clear S
      try clear o; try clear hv
      replace ho := ho.symm.trans ho'
      cases ho
      refine ea0_3 hr ?_
      try clear hr
      intro hb hsm r_3
      refine ea1_3 r_3 ?_
      try clear r_3
      intro cs hp hl r
      exact ⟨_, cs, rfl, hsm, hp, hl, r, hb⟩
    | refD hi => cases (S.dead _ hi).symm.trans ho'

theorem toS_append (a b : List Char) : toS a ++ toS b = toS (a ++ b) := by
  show Str.append _ _ = _
  simp [toS, Str.append]
theorem toS_length (a : List Char) : (toS a).length = a.length := by simp [toS, Str.length]

theorem p_add_list {x y : V} {cx cy : Value} {xs ys : List V} (S : SR c as X H s) (hx : VR c as X s.heap x cx) (hy : VR c as X s.heap y cy) (ex : view H x = some xs) (ey : view H y = some ys)
    (hz : xs.length + ys.length ≤ sizeOf') (q : Q (.lst (xs ++ ys)) H) : wpAny c.M A (binaryOp .Add cx cy) (Res c as X s.heap Q) E s := by
  replace hx := view_at S hx ex
  obtain ⟨a, its, rfl, ⟨n, ha⟩, ra, _⟩ := hx
  try clear ex
  replace hy := view_at S hy ey
  obtain ⟨b, its', rfl, ⟨n', hb⟩, rb, _⟩ := hy
  try clear ey
  have l1 := ra.length
  have l2 := rb.length
  refine P.add_list ha hb (res_list S ?_ (by rw [List.length_append]; have := sizeOf'_bnd; (exact Nat.le_trans (by assumption) (by decide))) q) ?_
  · rw [Array.toList_append]; exact ra.append rb
  · have := sizeOf'_le
    simp only [Array.length_toList] at l1 l2
    lia
noncomputable def opOf : Bop → Operator
  | .add => .Add | .sub => .Sub | .mul => .Mult | .fdiv => .FloorDiv | .mod => .Mod | .pow => .Pow
inductive Int2R (f : Int → Int → Option Int) : V → V → V → Prop
  | mk {a b z : Int} : f a b = some z → Int2R f (.int a) (.int b) (.int z)
theorem int2_some {f : Int → Int → Option Int} {x y r : V} (e : int2 f x y = some r) : Int2R f x y r := by
  cases x with
  | int a =>
    cases y with
    | int b =>
      obtain ⟨z, h1, h2⟩ := map_is e
      exact h2 ▸ .mk h1
    | _ => cases e
  | _ => cases e
inductive AddR (H : AH) : V → V → V → Prop
  | int (a b : Int) : AddR H (.int a) (.int b) (.int (a + b))
  | str {a b : List Char} : a.length + b.length ≤ sizeOf' → AddR H (.str a) (.str b) (.str (a ++ b))
  | lst {x y : V} {xs ys : List V} : view H x = some xs → view H y = some ys → xs.length + ys.length ≤ sizeOf' → AddR H x y (.lst (xs ++ ys))
theorem addL_some {x y r : V} (e : addL H x y = some r) : AddR H x y r := by
  refine ea1_2 (bind_is e) ?_
  clear e
  intro xs h1 e
  refine ea1_2 (bind_is e) ?_
  clear e
  intro ys h2 e
  exact (ite_is e).2 ▸ .lst h1 h2 (ite_is e).1
theorem addV_some {x y r : V} (e : addV H x y = some r) : AddR H x y r := by
  cases x with
  | int i =>
    cases int2_some e with
    | mk h => cases h; exact .int _ _
  | str a =>
    cases y with
    | str b => exact (ite_is e).2 ▸ .str (ite_is e).1
    | _ => cases e
  | _ => exact addL_some e
theorem p_binop {o : Bop} {op : Operator} {x y r : V} {cx cy : Value} (S : SR c as X H s) (hx : VR c as X s.heap x cx) (hy : VR c as X s.heap y cy)
    (ho : op = opOf o)
    (e : binop o x y H = some r) (q : Q r H) : wpAny c.M A (binaryOp op cx cy) (Res c as X s.heap Q) E s := by
  subst ho
  have hI : ∀ {f : Int → Int → Option Int}, int2 f x y = some r → (∀ {a b z : Int} {t t' : Tok}, f a b = some z → Q (.int z) H → wpAny c.M A (binaryOp (opOf o) (.int a t) (.int b t')) (Res c as X s.heap Q) E s) → wpAny c.M A (binaryOp (opOf o) cx cy) (Res c as X s.heap Q) E s := fun e k => by
    cases int2_some e with
    | mk h =>
      cases hx.inv
      cases hy.inv
      exact k h q
  cases o with
  | add =>
    clear hI
    cases addV_some e with
    | int a b =>
      cases hx.inv
      cases hy.inv
      exact add_int (Res.now S (.int _ _) q)
    | str h =>
      cases hx.inv
      cases hy.inv
      refine add_str (fun t' tk => ?_) ?_
      · rw [toS_append]; exact Res.now S (.str _ _ (by rw [List.length_append]; exact Nat.le_trans h (Nat.le_trans (Nat.le_add_right _ 5) sizeOf'_bnd))) q
      · rw [toS_length, toS_length]; exact Nat.le_trans h sizeOf'_le
    | lst h1 h2 h => exact p_add_list S hx hy h1 h2 h q
  | sub => exact hI e fun h q => by cases h; exact sub_int (Res.now S (.int _ _) q)
  | mul =>
    exact hI e fun h q => by
      obtain ⟨h5, rfl⟩ := ite_is h
      exact PyProof.Rows.mul_int (Res.now S (.int _ _) q) (.of_left (bits_small (Bool.and_eq_true_iff.mp h5).1))
  | fdiv =>
    exact hI e fun h q => by
      obtain ⟨h5, rfl⟩ := ite_is h
      refine PyProof.Rows.floordiv_int (Int.ne_of_gt h5.1) ?_ (.inl (PyProof.noPylong_of_log2 (log2_div h5)))
      rw [Int.fdiv_eq_ediv_of_nonneg _ (Int.le_of_lt h5.1)]; exact Res.now S (.int _ _) q
  | mod =>
    exact hI e fun h q => by
      obtain ⟨h5, rfl⟩ := ite_is h
      refine PyProof.Rows.mod_int (Int.ne_of_gt h5) ?_
      rw [Int.fmod_eq_emod_of_nonneg _ (Int.le_of_lt h5)]; exact Res.now S (.int _ _) q
  | pow =>
    exact hI e fun h q => by
      obtain ⟨⟨rfl, h1, h2⟩, rfl⟩ := ite_is h
      exact pow_int_small h1 (by (exact Int.le_trans (by assumption) (by decide))) (by decide) (Res.now S (.int _ _) q)

mutual
noncomputable def toP : V → PyData
  | .none => .none
  | .bool b => .bool b
  | .int i => .int i
  | .str x => .str (toS x)
  | .tup vs => .tuple (toPs vs)
  | .lst vs => .list (toPs vs)
  | .dct _ _ | .rng _ _ | .ref _ | .exc _ => .none
noncomputable def toPs : List V → List PyData
  | [] => []
  | v :: vs => toP v :: toPs vs
end
theorem strOk_toS (s : List Char) : PyData.strOk (toS s) = true := by
  simp only [PyData.strOk, toS, Array.all_eq_true]
  intro i hi
  simp only [List.size_toArray, List.length_map] at hi
  have h : ((s.map Char.toNat).toArray)[i] = (s[i]).toNat := by simp
  have hv := (s[i]).valid
  simp only [UInt32.isValidChar, Nat.isValidChar] at hv
  simp only [decide_eq_true_eq]
  have : ((s.map Char.toNat).toArray)[i] < 0x110000 := by
    rw [h]
    show (s[i]).val.toNat < _
    lia
  simpa using this
mutual
theorem toP_ok : ∀ v : V, v.data = true → (toP v).canLay0 = true ∧ (toP v).depth = v.depth
  | .none, _ => ⟨rfl, rfl⟩
  | .bool _, _ => ⟨rfl, rfl⟩
  | .int _, _ => ⟨rfl, rfl⟩
  | .str s, _ => ⟨strOk_toS s, rfl⟩
  | .tup vs, h => ⟨(toPs_ok vs h).1, congrArg (· + 1) (toPs_ok vs h).2⟩
  | .lst vs, h => ⟨(toPs_ok vs h).1, congrArg (· + 1) (toPs_ok vs h).2⟩
  | .dct _ _, h => nomatch h
  | .rng _ _, h => nomatch h
  | .ref _, h => nomatch h
  | .exc _, h => nomatch h
theorem toPs_ok : ∀ vs : List V, V.datas vs = true → PyData.canLayAll0 (toPs vs) = true ∧ PyData.depthAll (toPs vs) = V.depths vs
  | [], _ => ⟨rfl, rfl⟩
  | v :: vs, h => by
    have h' := Bool.and_eq_true_iff.mp h
    have a := toP_ok v h'.1
    have b := toPs_ok vs h'.2
    exact ⟨Bool.and_eq_true_iff.mpr ⟨a.1, b.1⟩, congr (congrArg max a.2) b.2⟩
end
theorem reads_of {c : Cx} {as : Adr} {X : List Addr} {h : HP} {v : V} {x : Value} (r : VR c as X h v x) : v.data = true → ∃ l, Reads h x (toP v) l :=
  VR.rec (motive_1 := fun v x _ => v.data = true → ∃ l, Reads h x (toP v) l) (motive_2 := fun vs xs _ => V.datas vs = true → ∃ l, ReadsAll h xs (toPs vs) l)
    (fun _ => ⟨_, .none⟩) (fun b _ => ⟨_, .bool b⟩) (fun i t _ => ⟨_, .int i t⟩) (fun s t _ _ => ⟨_, .str _ t⟩)
    (fun _ _ ho _ _ ih hd => (ih hd).elim fun l q => ⟨l, .tuple ho rfl rfl q⟩) (fun _ _ hp _ _ ih hd => hp.elim fun _ ho => (ih hd).elim fun _ q => ⟨_, .list ho rfl rfl q⟩)
    (fun _ _ _ _ _ _ _ _ hd => absurd hd Bool.false_ne_true) (fun _ _ _ _ _ hd => absurd hd Bool.false_ne_true) (fun _ _ _ _ hd => absurd hd Bool.false_ne_true) (fun _ hd => absurd hd Bool.false_ne_true) (fun _ hd => absurd hd Bool.false_ne_true)
    (fun _ => ⟨_, .nil⟩) (fun _ _ i1 i2 hd => (i1 (Bool.and_eq_true_iff.mp hd).1).elim fun _ q => (i2 (Bool.and_eq_true_iff.mp hd).2).elim fun _ q' => ⟨_, .cons q q'⟩) r
theorem reads_all {c : Cx} {as : Adr} {X : List Addr} {h : HP} {vs : List V} {xs : List Value} (r : VRs c as X h vs xs) : V.datas vs = true → ∃ l, ReadsAll h xs (toPs vs) l :=
  VRs.all (P := fun _ _ => True) r (fun vs xs => V.datas vs = true → ∃ l, ReadsAll h xs (toPs vs) l) (fun _ => ⟨_, .nil⟩) fun _ _ _ _ a ih hd => (reads_of a (Bool.and_eq_true_iff.mp hd).1).elim fun _ q => (ih (Bool.and_eq_true_iff.mp hd).2).elim fun _ q' => ⟨_, .cons q q'⟩
theorem toS_beq (a b : List Char) : (toS a == toS b) = (a == b) := by
  by_cases h : a = b
  · try clear a; try clear b
    subst h; simp
  · have : toS a ≠ toS b := fun e => h (toS_inj e)
    rw [beq_eq_false_iff_ne.mpr h, beq_eq_false_iff_ne.mpr this]
mutual
theorem eqv_toP : ∀ v w : V, v.data = true → w.data = true → PyData.eqv (toP v) (toP w) = eqV v w
  | .lst vs, w, hv, hw => by
    cases w with
    | lst ws => exact eqvs_toP vs ws hv hw
    | _ => first | rfl | cases hw
  | .tup vs, w, hv, hw => by
    cases w with
    | tup ws => exact eqvs_toP vs ws hv hw
    | _ => first | rfl | cases hw
  | .none, w, _, hw => by cases w <;> first | rfl | cases hw
  | .bool _, w, _, hw => by cases w <;> first | rfl | cases hw
  | .int _, w, _, hw => by cases w <;> first | rfl | cases hw
  | .str _, w, _, hw => by cases w <;> first | rfl | (cases hw; done) | exact toS_beq _ _
  | .dct _ _, _, h, _ => nomatch h
  | .rng _ _, _, h, _ => nomatch h
  | .ref _, _, h, _ => nomatch h
  | .exc _, _, h, _ => nomatch h
theorem eqvs_toP : ∀ vs ws : List V, V.datas vs = true → V.datas ws = true → PyData.eqvAll (toPs vs) (toPs ws) = eqVs vs ws
  | [], [], _, _ => rfl
  | [], _ :: _, _, _ => rfl
  | _ :: _, [], _, _ => rfl
  | v :: vs, w :: ws, hv, hw => by
    have h1 := Bool.and_eq_true_iff.mp hv
    have h2 := Bool.and_eq_true_iff.mp hw
    exact congr (congrArg and (eqv_toP v w h1.1 h2.1)) (eqvs_toP vs ws h1.2 h2.2)
end
theorem any_toP (w : V) (hw : w.data = true) : ∀ vs : List V, V.datas vs = true → ((toPs vs).any fun y => PyData.eqv y (toP w)) = vs.any fun y => eqV y w
  | [], _ => rfl
  | v :: vs, h => by
    have h1 := Bool.and_eq_true_iff.mp h
    exact congr (congrArg or (eqv_toP v w h1.1 hw)) (any_toP w hw vs h1.2)

theorem rdD_is {v v' : V} (e : rdD v = some v') : (V.data v && decide (V.depth v ≤ 50)) = true ∧ v' = v := ⟨(ite_is e).1, (ite_is e).2.symm⟩
theorem rd_is {v v' : V} (e : rd H v = some v') : (∃ vs, view H v = some vs ∧ okD vs = true ∧ v' = .lst vs) ∨ (V.data v && decide (V.depth v ≤ 50)) = true ∧ v' = v := by
  cases v with
  | ref i => obtain ⟨vs, h1, e⟩ := bind_is e; exact .inl ⟨vs, h1, (ite_is e).1, (ite_is e).2.symm⟩
  | _ => exact .inr (rdD_is e)
theorem okD_is {vs : List V} (h : okD vs = true) : V.datas vs = true ∧ V.depths vs ≤ 50 := ⟨(Bool.and_eq_true_iff.mp h).1, of_decide_eq_true (Bool.and_eq_true_iff.mp h).2⟩
inductive RdAt (h : HP) (v' : V) (x : Value) : Prop
  | mk : v'.data = true → v'.depth ≤ 51 → (l : List Addr) → Reads h x (toP v') l → RdAt h v' x
theorem rd_at {v v' : V} {x : Value} (S : SR c as X H s) (hv : VR c as X s.heap v x) (e : rd H v = some v') : RdAt s.heap v' x := by
  rcases rd_is e with ⟨vs, hvs, hd, rfl⟩ | ⟨hd, rfl⟩
  · have hd := okD_is hd
    try clear e
    replace S := view_at S hv hvs
    obtain ⟨a, items, rfl, ⟨n, ho⟩, r, _⟩ := S
    try clear hv
    obtain ⟨l, q⟩ := reads_all r hd.1
    try clear r
    exact ⟨hd.1, Nat.succ_le_succ hd.2, _, .list ho rfl rfl q⟩
  · have hd := Bool.and_eq_true_iff.mp hd
    obtain ⟨l, q⟩ := reads_of hv hd.1
    try clear hv
    exact ⟨hd.1, Nat.le_succ_of_le (of_decide_eq_true hd.2), l, q⟩

theorem p_eq {x y x' y' : V} {cx cy : Value} (S : SR c as X H s) (hx : VR c as X s.heap x cx) (hy : VR c as X s.heap y cy) (ex : rd H x = some x') (ey : rd H y = some y') (hu : A.units + 64 < cLine)
    (q : Q (.bool (eqV x' y')) H) : wpAny c.M A (compareOp .Eq cx cy) (Res c as X s.heap Q) E s := by
  obtain ⟨d1, d2, l1, r1⟩ := rd_at S hx ex
  try clear hx; try clear ex
  obtain ⟨d3, d4, l2, r2⟩ := rd_at S hy ey
  try clear hy; try clear ey
  have o1 := toP_ok _ d1
  have o2 := toP_ok _ d3
  refine eq_dataH r1 r2 ?_ ?_ hu ?_
  · unfold SeqAt.shaped; rw [o1.1, Bool.true_and, o1.2]; exact decide_eq_true (by (exact Nat.le_trans (by assumption) (by decide)))
  · unfold SeqAt.shaped; rw [o2.1, Bool.true_and, o2.2]; exact decide_eq_true (by (exact Nat.le_trans (by assumption) (by decide)))
  · rw [eqv_toP _ _ d1 d3]; exact Res.now (tk := s.toks) S (.bool _) q
theorem p_ne {x y x' y' : V} {cx cy : Value} (S : SR c as X H s) (hx : VR c as X s.heap x cx) (hy : VR c as X s.heap y cy) (ex : rd H x = some x') (ey : rd H y = some y') (hu : A.units + 64 < cLine)
    (q : Q (.bool (!eqV x' y')) H) : wpAny c.M A (compareOp .NotEq cx cy) (Res c as X s.heap Q) E s := by
  obtain ⟨d1, d2, l1, r1⟩ := rd_at S hx ex
  try clear hx; try clear ex
  obtain ⟨d3, d4, l2, r2⟩ := rd_at S hy ey
  try clear hy; try clear ey
  have o1 := toP_ok _ d1
  have o2 := toP_ok _ d3
  refine ne_dataH r1 r2 ?_ ?_ hu ?_
  · unfold SeqAt.shaped; rw [o1.1, Bool.true_and, o1.2]; exact decide_eq_true (by (exact Nat.le_trans (by assumption) (by decide)))
  · unfold SeqAt.shaped; rw [o2.1, Bool.true_and, o2.2]; exact decide_eq_true (by (exact Nat.le_trans (by assumption) (by decide)))
  · rw [eqv_toP _ _ d1 d3]; exact Res.now (tk := s.toks) S (.bool _) q

theorem isV_is {x y : V} {cx cy : Value} {b : Bool} (S : SR c as X H s) (hx : VR c as X s.heap x cx) (hy : VR c as X s.heap y cy) (e : isV H x y = some b) : plainIs cx cy = true ∧ (cx == cy) = b := by
  cases y with
  | none =>
    cases hy.inv
    have e' : isNone? H x = some b := e
    clear hy e
    cases hx with
    | ref _ => exact (ite_is e').2 ▸ ⟨rfl, rfl⟩
    | refD hi => exact absurd (ite_is e').1 (by simp [live, S.dead _ hi])
    | rng => cases e'
    | exc => cases e'
    | _ => cases e'; exact ⟨rfl, rfl⟩
  | _ => cases e

theorem found_char (s : List Char) (ch : Char) : (!(Builtin.Str.occurrences (toS s) (toS [ch]) 0 (toS s).length 1).isEmpty) = s.contains ch := by
  have e : toS [ch] = ⟨#[ch.toNat]⟩ := rfl
  rw [e, StrLaws.found_one]
  rw [Bool.eq_iff_iff]
  simp only [decide_eq_true_eq, List.contains_iff_mem, toS, List.mem_map]
  constructor
  · rintro ⟨a, ha, e⟩
    rw [← Char.toNat_inj.mp e]; exact ha
  · intro h; exact ⟨ch, h, rfl⟩

theorem kd_is (k : List Char) (t : Tok) : c.kd.is (toS k) (.str (toS k) t) = true := strKind_is c.prog c.w (toS k) t

theorem valueAt_zip {h : HP} (k : List Char) : ∀ (ks : List (List Char)) (vs : List V) (cs : List Value), ks.length = cs.length → VRs c as X h vs cs →
    (match dget k ks vs with | some v => ∃ x, valueAt ((ks.map toS).zip cs) (toS k) = some x ∧ VR c as X h v x | none => k ∉ ks ∧ valueAt ((ks.map toS).zip cs) (toS k) = none)
  | [], _, _, _, _ => ⟨(fun h => nomatch h), rfl⟩
  | k' :: ks, [], _, hl, r => by cases r; simp at hl
  | k' :: ks, v :: vs, [], hl, r => by cases r
  | k' :: ks, v :: vs, x :: cs, hl, r' => by
    obtain ⟨hx, r⟩ : VR c as X h v x ∧ VRs c as X h vs cs := by cases r' with | cons a b => exact ⟨a, b⟩
    have ih := valueAt_zip k ks vs cs (by simpa using hl) r
    by_cases e : k = k'
    · subst e
      rw [show dget k (k :: ks) (v :: vs) = some v from if_pos rfl]
      exact ⟨x, by simp [valueAt], hx⟩
    · have e' : toS k' ≠ toS k := fun q => e (toS_inj q).symm
      have e2 : valueAt (((k' :: ks).map toS).zip (x :: cs)) (toS k) = valueAt ((ks.map toS).zip cs) (toS k) := by
        simp [valueAt, e']
      rw [e2]
      rw [show dget k (k' :: ks) (v :: vs) = dget k ks vs from if_neg e]
      cases hd : dget k ks vs with
      | some v' => rw [hd] at ih; exact ih
      | none => rw [hd] at ih; exact ⟨by simp only [List.mem_cons, not_or]; exact ⟨e, ih.1⟩, ih.2⟩
theorem dget_some_mem {k : List Char} : ∀ {ks : List (List Char)} {vs : List V} {v : V}, dget k ks vs = some v → k ∈ ks
  | k' :: ks, v' :: vs, v, e => by
    if h : k = k' then exact h ▸ .head _
    else exact .tail _ (dget_some_mem ((if_neg h).symm.trans e))
  | [], _, _, e => nomatch e
  | _ :: _, [], _, e => nomatch e
theorem has_key {k : List Char} {ks : List (List Char)} {vs : List V} {cs : List Value} (hl : ks.length = cs.length) (r : VRs c as X s.heap vs cs) : (valueAt ((ks.map toS).zip cs) (toS k)).isSome = ks.contains k := by
  have h := valueAt_zip k ks vs cs hl r
  try clear r; try clear hl
  cases hd : dget k ks vs with
  | some v =>
    rw [hd] at h
    refine ea1_2 h ?_
    try clear h
    intro x e _
    rw [e]
    exact (List.contains_iff_mem.mpr (dget_some_mem hd)).symm
  | none =>
    rw [hd] at h
    rw [h.2]
    have : ¬ ks.contains k = true := fun q => h.1 (List.contains_iff_mem.mp q)
    simpa using this

theorem in_room {a b k : Nat} (h : a ≤ 50) (hu : k + 64 < cLine) : k + 1 + min a b < cLine :=
  Nat.lt_of_le_of_lt (Nat.add_le_add_left (Nat.le_trans (Nat.min_le_left a b) h) (k + 1)) (Nat.lt_of_le_of_lt (show k + 1 + 50 ≤ k + 64 from by rw [Nat.add_assoc]; exact Nat.add_le_add_left (by decide) _) hu)
theorem inV_is {x y : V} {b : Bool} (e : inV H x y = some b) : (∃ t ch, x = .str [ch] ∧ y = .str t ∧ b = t.contains ch) ∨ (∃ vs, y = .tup vs ∧ inL H x vs = some b) ∨ (∃ vs, view H y = some vs ∧ inL H x vs = some b) ∨ ∃ d k, x = .str k ∧ dview H y = some d ∧ b = d.1.contains k := by
  have h : inO H x y (view H y) = some b → (∃ vs, view H y = some vs ∧ inL H x vs = some b) ∨ ∃ d k, x = .str k ∧ dview H y = some d ∧ b = d.1.contains k := fun e => by
    cases hv : view H y with
    | some vs => rw [hv] at e; exact .inl ⟨vs, rfl, e⟩
    | none =>
      rw [hv] at e
      replace e := bind_is e
      refine ea1_2 e ?_
      try clear e
      intro d h1 e
      replace e := map_is e
      refine ea1_2 e ?_
      try clear e
      intro k h2 q_3
      subst q_3
      exact .inr ⟨d, k, V.txt_is h2, h1, rfl⟩
  cases y with
  | str t =>
    replace e := bind_is e
    refine ea1_2 e ?_
    try clear e
    intro s' h1 e
    cases s' with
    | nil => cases e
    | cons ch r =>
      try clear s'
      cases r with
      | nil => exact .inl ⟨t, ch, V.txt_is h1, rfl, (Option.some.inj e).symm⟩
      | cons => cases e
  | tup vs => exact .inr (.inl ⟨vs, rfl, e⟩)
  | _ => exact .inr (.inr (h e))
theorem p_in {x y : V} {cx cy : Value} {b : Bool} (S : SR c as X H s) (hx : VR c as X s.heap x cx) (hy : VR c as X s.heap y cy) (e : inV H x y = some b) (hu : A.units + 64 < cLine) :
    (Q (.bool b) H → wpAny c.M A (compareOp .In cx cy) (Res c as X s.heap Q) E s) ∧ (Q (.bool !b) H → wpAny c.M A (compareOp .NotIn cx cy) (Res c as X s.heap Q) E s) := by
  rcases inV_is e with ⟨t, ch, rfl, rfl, rfl⟩ | ⟨vs, rfl, e⟩ | ⟨vs, ev, e⟩ | ⟨d, k, rfl, hdv, rfl⟩
  · try clear e; try clear hu
    replace hx := hx.inv; cases hy.inv
    cases hx
    refine ⟨fun q => in_str ?_, fun q => notIn_str ?_⟩
    · rw [found_char]; exact Res.now (tk := s.toks) S (.bool _) q
    · rw [found_char]; exact Res.now (tk := s.toks) S (.bool _) q
  · replace e := bind_is e
    refine ea1_2 e ?_
    try clear e
    intro x' ex e
    replace e := ite_is e
    obtain ⟨hd, rfl⟩ := e
    have hd := (okD_is hd).1; have hdd := (okD_is ‹_›).2
    obtain ⟨d1, d2, l1, r1⟩ := rd_at S hx ex
    try clear hx; try clear ex
    obtain ⟨l2, r2⟩ := reads_of hy hd
    try clear hy
    have o1 := toP_ok _ d1
    have o2 := toPs_ok _ hd
    have hm : A.units + 1 + min (PyData.depthAll (toPs vs)) (toP x').depth < cLine := by rw [o2.2]; exact in_room hdd hu
    refine ⟨fun q => SeqAt.in_tuple_reads r2 r1 o2.1 o1.1 hm ?_, fun q => SeqAt.notIn_tuple_reads r2 r1 o2.1 o1.1 hm ?_⟩
    · rw [any_toP _ d1 _ hd]; exact Res.now (tk := s.toks) S (.bool _) q
    · rw [any_toP _ d1 _ hd]; exact Res.now (tk := s.toks) S (.bool _) q
  · replace e := bind_is e
    refine ea1_2 e ?_
    try clear e
    intro x' ex e
    replace e := ite_is e
    obtain ⟨hd, rfl⟩ := e
    have hd := (okD_is hd).1; have hdd := (okD_is ‹_›).2
    obtain ⟨d1, d2, l1, r1⟩ := rd_at S hx ex
    try clear hx; try clear ex
    try clear l1; try clear d2; try clear e
    replace hy := view_at S hy ev
    obtain ⟨a, items, rfl, ⟨n, ho⟩, r, _⟩ := hy
    obtain ⟨l2, r2⟩ := reads_all r hd
    try clear r
    have r3 : Reads s.heap (.ref a) (.list (toPs vs)) (a :: l2) := .list ho rfl rfl r2
    have o1 := toP_ok _ d1
    have o2 := toPs_ok _ hd
    have hm : A.units + 1 + min (PyData.depthAll (toPs vs)) (toP x').depth < cLine := by rw [o2.2]; exact in_room hdd hu
    refine ⟨fun q => SeqAt.in_list_reads r3 r1 o2.1 o1.1 hm ?_, fun q => SeqAt.notIn_list_reads r3 r1 o2.1 o1.1 hm ?_⟩
    · rw [any_toP _ d1 _ hd]; exact Res.now (tk := s.toks) S (.bool _) q
    · rw [any_toP _ d1 _ hd]; exact Res.now (tk := s.toks) S (.bool _) q
  · cases hx.inv
    replace hy := dview_at S hy hdv
    obtain ⟨a, cs, rfl, hsm, hd, hl, r, _⟩ := hy
    refine ⟨fun q => wpAny_in_of (knd := c.kd) (kd_is _ _) hsm hd.mapOf ?_, fun q => wpAny_notIn_of (knd := c.kd) (kd_is _ _) hsm hd.mapOf ?_⟩
    · rw [has_key hl r]; exact Res.now S (.bool _) q
    · rw [has_key hl r]; exact Res.now S (.bool _) q

noncomputable def copOf : Cop → CmpOp
  | .eq => .Eq | .ne => .NotEq | .lt => .Lt | .le => .LtE | .gt => .Gt | .ge => .GtE | .is => .Is | .isnot => .IsNot | .in_ => .In | .notin => .NotIn

theorem cmpI_some {f : Int → Int → Bool} {x y : V} {b : Bool} (e : cmpI f x y = some b) : ∃ i j, x = .int i ∧ y = .int j ∧ b = f i j := by
  cases x <;> first | cases e | skip
  cases y <;> first | (cases e; done) | skip
  exact ⟨_, _, rfl, rfl, (Option.some.inj e).symm⟩
theorem p_cmp {o : Cop} {x y : V} {cx cy : Value} {b : Bool} (S : SR c as X H s) (hx : VR c as X s.heap x cx) (hy : VR c as X s.heap y cy) (hu : A.units + 64 < cLine)
    (e : cmpop o x y H = some b) (q : Q (.bool b) H) : wpAny c.M A (compareOp (copOf o) cx cy) (Res c as X s.heap Q) E s := by
  cases o with
  | eq =>
    replace e := Option.bind_eq_some_iff.mp e
    refine ea1_2 e ?_
    try clear e
    intro x' h1 e
    try clear x'
    replace e := Option.map_eq_some_iff.mp e
    refine ea1_2 e ?_
    try clear e
    intro y' h2 q_3
    subst q_3
    exact p_eq S hx hy h1 h2 hu q
  | ne =>
    replace e := Option.map_eq_some_iff.mp e
    refine ea1_2 e ?_
    try clear e
    intro z e1 q_3
    subst q_3
    replace e1 := Option.bind_eq_some_iff.mp e1
    refine ea1_2 e1 ?_
    try clear e1
    intro x' h1 e1
    try clear x'; try clear z; try clear e
    replace e1 := Option.map_eq_some_iff.mp e1
    refine ea1_2 e1 ?_
    try clear e1
    intro y' h2 q_3
    subst q_3
    exact p_ne S hx hy h1 h2 hu q
  | lt => obtain ⟨a, b, rfl, rfl, rfl⟩ := cmpI_some e; cases hx.inv; cases hy.inv; exact lt_int (Res.now (tk := s.toks) S (.bool _) q)
  | le => obtain ⟨a, b, rfl, rfl, rfl⟩ := cmpI_some e; cases hx.inv; cases hy.inv; exact le_int (Res.now (tk := s.toks) S (.bool _) q)
  | gt => obtain ⟨a, b, rfl, rfl, rfl⟩ := cmpI_some e; cases hx.inv; cases hy.inv; exact gt_int (Res.now (tk := s.toks) S (.bool _) q)
  | ge => obtain ⟨a, b, rfl, rfl, rfl⟩ := cmpI_some e; cases hx.inv; cases hy.inv; exact ge_int (Res.now (tk := s.toks) S (.bool _) q)
  | is =>
    obtain ⟨h1, h2⟩ := isV_is S hx hy e
    try clear hx; try clear hy; try clear e
    exact wpAny_is_plain h1 (by rw [h2]; exact Res.now (tk := s.toks) S (.bool _) q)
  | isnot =>
    try clear hu
    replace e := Option.map_eq_some_iff.mp e
    refine ea1_2 e ?_
    try clear e
    intro b' h0 q_3
    subst q_3
    obtain ⟨h1, h2⟩ := isV_is S hx hy h0
    try clear hx; try clear hy; try clear h0
    exact wpAny_isNot_plain h1 (by rw [h2]; exact Res.now (tk := s.toks) S (.bool _) q)
  | in_ => exact (p_in S hx hy e hu).1 q
  | notin =>
    replace e := Option.map_eq_some_iff.mp e
    refine ea1_2 e ?_
    try clear e
    intro b' h0 q_3
    subst q_3
    exact (p_in S hx hy h0 hu).2 q

end
end Mine

end
noncomputable section
namespace Mine
open PySem PySem.Calls PyProof.Rows

noncomputable def OVR (c : Cx) (as : Adr) (X : List Addr) (h : HP) (o : Option V) (y : Option Value) : Prop := ∀ v, o = some v → ∃ x, y = some x ∧ VR c as X h v x

structure FR (c : Cx) (as : Adr) (X : List Addr) (h : HP) (env : Env) (tab : List (Str × Nat)) (ρ : Fm) : Prop where
  kind : env.scope.kind = .function
  glob : env.globals = mainGlobals
  bi : env.builtins = builtinsNs
  lx : env.locals ∈ X
  lout : some env.locals ∉ as
  lb : c.base.get? env.locals = none
  ns : ∃ m, h.Ns env.locals m ∧ ∀ x i, tab.lookup x = some i → env.kindOf x = some .local → OVR c as X h ((ρ[i]?).join) (m x)
  cells : ∀ x i, tab.lookup x = some i → (env.kindOf x = some .cell ∨ env.kindOf x = some .free) →
    ∃ a y, env.cells.lookup x = some a ∧ a ∈ X ∧ some a ∉ as ∧ c.base.get? a = none ∧ a ≠ env.locals ∧ h.IsCell a y ∧ OVR c as X h ((ρ[i]?).join) y
  apart : ∀ x y a, env.cells.lookup x = some a → env.cells.lookup y = some a → x = y
  inj : ∀ x y i, tab.lookup x = some i → tab.lookup y = some i → x = y

theorem OVR.keepX {c : Cx} {as as' : Adr} {X : List Addr} {h h' : HP} {o : Option V} {y : Option Value} (k : VK as X h h') (x : Ext as h as') (z : OVR c as X h o y) : OVR c as' X h' o y :=
  fun v e => let ⟨q, e1, e2⟩ := z v e; ⟨q, e1, e2.keepX k x⟩
theorem Ns.same {X : List Addr} {h h' : HP} {L : Addr} {m : Str → Option Value} (n : h.Ns L m) (k : ∀ o, h.get? L = some o → ∃ o', h'.get? L = some o' ∧ SameO X L o o') : h'.Ns L m := by
  refine ea3_2 n ?_
  try clear n
  intro o es ep e r
  refine ea1_2 (k o e) ?_
  intro o' e' s
  try clear k; try clear o; try clear e
  refine ⟨o', es, ep, e', ?_⟩
  try clear e'; try clear o'; try clear ep; try clear es; try clear n
  rcases s with rfl | ⟨_, _, sl, rfl⟩ <;> exact r
theorem IsCell.same {X : List Addr} {h h' : HP} {a : Addr} {y : Option Value} (n : h.IsCell a y) (k : ∀ o, h.get? a = some o → ∃ o', h'.get? a = some o' ∧ SameO X a o o') : h'.IsCell a y := by
  refine ea1_2 n ?_
  try clear n
  intro o e r
  refine ea1_2 (k o e) ?_
  intro o' e' s
  try clear k; try clear o; try clear e
  refine ⟨o', e', ?_⟩
  try clear e'; try clear o'; try clear n
  rcases s with rfl | ⟨_, _, sl, rfl⟩ <;> exact r

theorem FR.keep {c : Cx} {as as' : Adr} {X : List Addr} {h h' : HP} {env : Env} {tab : List (Str × Nat)} {ρ : Fm} (F : FR c as X h env tab ρ) (k : Kept as X h h') (x : Ext as h as') : FR c as' X h' env tab ρ where
  kind := F.kind
  glob := F.glob
  bi := F.bi
  lx := F.lx
  lout := by
    refine ea1_2 F.ns ?_
    intro m p_2 _
    obtain ⟨o, _, _, e, _⟩ := p_2
    exact x.out e F.lout
  lb := F.lb
  ns := by
    refine ea1_2 F.ns ?_
    intro m n r
    exact ⟨m, Ns.same n fun o e => k _ o e F.lout, fun y i h1 h2 => (r y i h1 h2).keepX k.x x⟩
  cells := fun y i h1 h2 => by
    refine ea2_7 (F.cells y i h1 h2) ?_
    intro a z e1 e2 e3 e4 e5 e6 e7
    try clear F
    have e6' := e6
    refine ea1_2 e6' ?_
    try clear e6'
    intro o eo _
    exact ⟨a, z, e1, e2, x.out eo e3, e4, e5, IsCell.same e6 fun o e => k _ o e e3, e7.keepX k.x x⟩
  apart := F.apart
  inj := F.inj

section
variable {c : Cx} {A : Around} {E : Value → Shared → Prop} {s : Shared} {as : Adr} {X : List Addr} {H : AH} {Q : QE} {env : Env} {tab : List (Str × Nat)} {ρ : Fm}

theorem n_load {x : Str} {i : Nat} {v : V} {M : Model} (S : SR c as X H s) (F : FR c as X s.heap env tab ρ) (ht : tab.lookup x = some i) (hk : env.kindOf x = some .local ∨ env.kindOf x = some .cell ∨ env.kindOf x = some .free)
    (hv : ρ[i]? = some (some v)) (hn : (x == ("__classdict__" : Str)) = false) (q : Q v H) : wpAny M A (loadName env x) (Res c as X s.heap Q) E s := by
  rcases hk with hk | hk
  · refine ea1_2 F.ns ?_
    intro m n r
    refine ea1_2 (r x i ht hk v (by rw [hv]; rfl)) ?_
    intro y e1 e2
    try clear r; try clear ht; try clear hv
    exact wpAny_loadName_local F.kind hk n e1 (Res.now (tk := s.toks) S e2 q)
  · refine ea2_7 (F.cells x i ht hk) ?_
    intro a z e1 e2 e3 e4 e5 e6 e7
    try clear ht
    try clear e5; try clear e4; try clear e3; try clear e2; try clear z; try clear a
    replace e7 := e7 v (by rw [hv]; rfl)
    refine ea1_2 e7 ?_
    try clear e7
    intro y q_2 e8
    subst q_2
    try clear hv
    try clear y; try clear e7
    rcases hk with hk | hk
    · exact wpAny_loadName_cell F.kind hk e1 e6 (Res.now (tk := s.toks) S e8 q)
    · exact wpAny_loadName_free F.kind hk e1 e6 (Res.now (tk := s.toks) S e8 q) hn

/-- a step that may turn this frame's own objects -/
inductive StepF (c : Cx) (as : Adr) (X : List Addr) (H : AH) (env : Env) (tab : List (Str × Nat)) (h : HP) (ρ' : Fm) (s' : Shared) : Prop
  | mk : SR c as X H s' → KeptX as X (env.locals :: env.cells.map (·.2)) h s'.heap → FR c as X s'.heap env tab ρ' → StepF c as X H env tab h ρ' s'

theorem set_join (ρ : Fm) (i j : Nat) (v : V) (hi : i < ρ.length) : (((ρ.set i (some v))[j]?).join) = if i = j then some v else (ρ[j]?).join := by
  by_cases h : i = j
  · try clear v; try clear ρ; try clear i; try clear j
    subst h; simp [hi]
  · simp [h]

theorem n_store {x : Str} {i : Nat} {v : V} {cv : Value} {M : Model} {R : Unit → Shared → Prop} (S : SR c as X H s) (F : FR c as X s.heap env tab ρ) (ht : tab.lookup x = some i) (hk : env.kindOf x = some .local ∨ env.kindOf x = some .cell)
    (hi : i < ρ.length) (hv : VR c as X s.heap v cv) (r : ∀ s', StepF c as X H env tab s.heap (ρ.set i (some v)) s' → R () s') : wpAny M A (storeName env x cv) R E s := by
  rcases hk with hk | hk
  · refine ea1_2 F.ns ?_
    intro m n rr
    refine wpAny_storeName_local hk n (fun h' n' sb => r _ ?_) (by rw [F.kind]; rfl)
    have K0 : ∀ b o, s.heap.get? b = some o → b ≠ env.locals → h'.get? b = some o := fun b o e hb => (sb.2 b hb).trans e
    have KX : VK as X s.heap h' := fun b o e _ hb => K0 b o e (fun q => hb (q ▸ F.lx))
    have hL' : ∃ o, h'.get? env.locals = some o := let ⟨o, _, _, e, _⟩ := n'; ⟨o, e⟩
    refine ⟨S.keepX (s' := { s with heap := h', toks := s.toks + 1 }) (fun b o e _ hb => K0 b o e (fun q => hb (q ▸ F.lx))) (fun b o e => K0 b o (S.stays b o e) fun q => ?_) (fun b hb => ?_) rfl rfl, fun b o e _ hb => ⟨o, K0 b o e (fun q => hb (q ▸ .head _)), .inl rfl⟩, ?_⟩
    · try clear hL'; try clear KX; try clear K0; try clear rr; try clear n; try clear m; try clear ht; try clear S; try clear hk; try clear r; try clear hv; try clear hi
      subst q; rw [F.lb] at e; cases e
    · by_cases q : b = env.locals
      · rw [q]; exact hL'
      · obtain ⟨o, e⟩ := S.xs b hb
        try clear S
        exact ⟨o, K0 b o e q⟩
    · refine ⟨F.kind, F.glob, F.bi, F.lx, F.lout, F.lb, ⟨_, n', fun y j h1 h2 => ?_⟩, fun y j h1 h2 => ?_, F.apart, F.inj⟩
      · rw [set_join _ _ _ _ hi]
        by_cases hxy : y = x
        · try clear F
          subst hxy
          rw [ht] at h1; cases h1
          simp only [if_true]
          intro v' e'; cases e'
          exact ⟨cv, rfl, hv.keepX KX (.refl ..)⟩
        · have : i ≠ j := fun q => hxy (F.inj _ _ j h1 (q ▸ ht))
          simp only [if_neg this, if_neg hxy]
          exact (rr y j h1 h2).keepX KX (.refl ..)
      · refine ea2_7 (F.cells y j h1 h2) ?_
        intro a z e1 e2 e3 e4 e5 e6 e7
        have hne : y ≠ x := fun q => by subst q; rw [hk] at h2; rcases h2 with h2 | h2 <;> cases h2
        have : i ≠ j := fun q => hne (F.inj _ _ j h1 (q ▸ ht))
        refine ⟨a, z, e1, e2, e3, e4, e5, IsCell.same (X := X) e6 fun o e => ⟨o, K0 _ o e e5, .inl rfl⟩, ?_⟩
        rw [set_join _ _ _ _ hi, if_neg this]
        exact e7.keepX KX (.refl ..)
  · refine ea2_7 (F.cells x i ht (.inl hk)) ?_
    intro a z e1 e2 e3 e4 e5 e6 e7
    refine wpAny_storeName_cell F.kind hk e1 e6 fun h' c' sb => r _ ?_
    have K0 : ∀ b o, s.heap.get? b = some o → b ≠ a → h'.get? b = some o := fun b o e hb => (sb.2 b hb).trans e
    have KX : VK as X s.heap h' := fun b o e _ hb => K0 b o e (fun q => hb (q ▸ e2))
    have hL' : ∃ o, h'.get? a = some o := let ⟨o, e, _⟩ := c'; ⟨o, e⟩
    refine ⟨S.keepX (s' := { s with heap := h' }) (fun b o e _ hb => K0 b o e (fun q => hb (q ▸ e2))) (fun b o e => K0 b o (S.stays b o e) fun q => ?_) (fun b hb => ?_) rfl rfl, fun b o e _ hb => ⟨o, K0 b o e (fun q => hb (q ▸ .tail _ ?_)), .inl rfl⟩, ?_⟩
    · try clear e7; try clear e6; try clear e5; try clear e3; try clear e2; try clear e1; try clear z; try clear a
      subst q; rw [e4] at e; cases e
    · by_cases q : b = a
      · rw [q]; exact hL'
      · obtain ⟨o, e⟩ := S.xs b hb
        try clear S
        exact ⟨o, K0 b o e q⟩
    · exact List.mem_map.mpr ⟨(x, a), mem_of_lookup e1, rfl⟩
    · refine ea1_2 F.ns ?_
      intro m n rr
      refine ⟨F.kind, F.glob, F.bi, F.lx, F.lout, F.lb, ⟨_, Ns.same (X := X) n fun o e => ⟨o, K0 _ o e (Ne.symm e5), .inl rfl⟩, fun y j h1 h2 => ?_⟩, fun y j h1 h2 => ?_, F.apart, F.inj⟩
      · have hne : y ≠ x := fun q => by subst q; rw [hk] at h2; cases h2
        have : i ≠ j := fun q => hne (F.inj _ _ j h1 (q ▸ ht))
        rw [set_join _ _ _ _ hi, if_neg this]
        exact (rr y j h1 h2).keepX KX (.refl ..)
      · refine ea2_7 (F.cells y j h1 h2) ?_
        intro a' z' f1 f2 f3 f4 f5 f6 f7
        by_cases hxy : y = x
        · try clear f7; try clear f6; try clear f5; try clear f4; try clear f3; try clear f2; try clear f1; try clear z'; try clear a'; try clear rr; try clear n; try clear m
          subst hxy
          rw [ht] at h1; cases h1
          refine ⟨a, _, e1, e2, e3, e4, e5, c', ?_⟩
          rw [set_join _ _ _ _ hi, if_pos rfl]
          intro v' e'; cases e'
          exact ⟨cv, rfl, hv.keepX KX (.refl ..)⟩
        · have : i ≠ j := fun q => hxy (F.inj _ _ j h1 (q ▸ ht))
          have haa : a' ≠ a := fun q => hxy (F.apart y x a (q ▸ f1) e1)
          refine ⟨a', z', f1, f2, f3, f4, f5, IsCell.same (X := X) f6 fun o e => ⟨o, K0 _ o e haa, .inl rfl⟩, ?_⟩
          rw [set_join _ _ _ _ hi, if_neg this]
          exact f7.keepX KX (.refl ..)
end
end Mine

end
noncomputable section
namespace Mine
open PySem PySem.Calls PyProof.Rows

/-- an exception object; the head of its traceback -/
inductive ExcS (h : HP) (e : Addr) (cls : Value) : Option Addr → Prop
  | fresh {oe : Obj} {vs : Array Value} : h.get? e = some oe → oe.cls = cls → oe.data = .fields vs → vs.size = 6 → vs[1]? = some .none → vs[2]? = some .none → ExcS h e cls none
  | traced {oe oT : Obj} {vs ts : Array Value} {T : Addr} : h.get? e = some oe → oe.cls = cls → oe.data = .fields vs → vs.size = 6 → vs[1]? = some (.ref T) → vs[2]? = some .none →
      T ≠ e → h.get? T = some oT → oT.data = .fields ts → 3 < ts.size → ExcS h e cls (some T)
/-- all but S stays; frames may turn their slots; nothing goes -/
noncomputable def Touch (S F : List Addr) (h h' : HP) : Prop := ∀ b o, h.get? b = some o → ∃ o', h'.get? b = some o' ∧ (b ∈ S ∨ o' = o ∨ b ∈ F ∧ ∃ sl, o' = { o with slots := sl })
theorem Touch.refl (S F : List Addr) (h : HP) : Touch S F h h := fun _ o e => ⟨o, e, .inr (.inl rfl)⟩
theorem Touch.trans {S F : List Addr} {h h₁ h₂ : HP} (x : Touch S F h h₁) (y : Touch S F h₁ h₂) : Touch S F h h₂ := fun b o e => by
  refine ea1_2 (x b o e) ?_
  intro o₁ e₁ q₁
  refine ea1_2 (y b o₁ e₁) ?_
  intro o₂ e₂ q₂
  refine ⟨o₂, e₂, ?_⟩
  rcases q₁ with q₁ | rfl | ⟨hF, sl, rfl⟩
  · exact .inl q₁
  · exact q₂
  · rcases q₂ with q₂ | rfl | ⟨_, sl', rfl⟩
    · exact .inl q₂
    · exact .inr (.inr ⟨hF, sl, rfl⟩)
    · exact .inr (.inr ⟨hF, sl', rfl⟩)
theorem Touch.mono {S S' F : List Addr} {h h' : HP} (x : Touch S F h h') (hS : ∀ b ∈ S, b ∈ S') : Touch S' F h h' := fun b o e => let ⟨o', e', q⟩ := x b o e; ⟨o', e', q.imp (hS b) id⟩
theorem Touch.out {S F : List Addr} {h h' : HP} (x : Touch S F h h') {b : Addr} {o : Obj} (e : h.get? b = some o) (hb : b ∉ S) : ∃ o', h'.get? b = some o' ∧ (o' = o ∨ b ∈ F ∧ ∃ sl, o' = { o with slots := sl }) :=
  let ⟨o', e', q⟩ := x b o e; ⟨o', e', q.resolve_left hb⟩
theorem Touch.frames {S : List Addr} {h h' base : HP} {l : List Env} (x : Touch S (l.filterMap (·.frame)) h h') (hS : ∀ b ∈ S, ∀ o, h.get? b = some o → ∃ vs, o.data = .fields vs) (hl : h.FunFrames base l) : h'.FunFrames base l :=
  hl.of_keeps fun b o e hn => by
    obtain ⟨o', e', q⟩ := x.out e fun hb => by obtain ⟨vs, hd⟩ := hS b hb o e; exact hn vs hd
    rcases q with rfl | ⟨_, sl, rfl⟩
    · exact ⟨_, e', rfl⟩
    · exact ⟨_, e', rfl⟩

section
variable {M : Model} {A : Around} {E : Value → Shared → Prop} {s : Shared} {base : HP} {env env₀ : Env} {outer : List Env} {L e : Addr} {cls : Value} {t : Option Addr}

theorem frameOf_of {Q : Value → Shared → Prop} (hfr : A.frames = some (env₀ :: outer)) (hl : s.heap.FunFrames base (env₀ :: outer)) (hf₀ : env₀.frame = some L) (hf : env.frame = some L)
    (h : ∀ h', Heap.SlotsOnly ((env₀ :: outer).filterMap (·.frame)) s.heap h' → Q (.ref L) { s with heap := h' }) : wpAny M A (PySem.frameOf env) Q E s := by
  unfold PySem.frameOf
  refine wpAny_bind (wpAny_frameEnvs hfr ?_)
  have hdw : ((env₀ :: outer).dropWhile fun x => x.frame != env.frame) = env₀ :: outer := by rw [List.dropWhile_cons_of_neg]; rw [hf₀, hf]; simp
  rw [hdw]
  unfold frameObject
  refine wpAny_bind (wpAny_bind (wpAny_readyFrames_fun hl fun h₁ hs₁ => wpAny_pure ?_))
  rw [hf₀]
  exact wpAny_pure (h h₁ hs₁)
theorem entry_exc {oe : Obj} {vs : Array Value} {head : Value} {hadNext : Bool} {Q : Unit → Shared → Prop}
    (hfr : A.frames = some (env₀ :: outer)) (hl : s.heap.FunFrames base (env₀ :: outer)) (hf₀ : env₀.frame = some L) (hf : env.frame = some L)
    (he : s.heap.get? e = some oe) (hc : oe.cls = cls) (hd : oe.data = .fields vs) (hsz : vs.size = 6) (h2 : vs[2]? = some .none)
    (h : ∀ h' T, ExcS h' e cls (some T) → s.heap.get? T = none → Touch [e] ((env₀ :: outer).filterMap (·.frame)) s.heap h' → Q () { s with heap := h' }) :
    wpAny M A (do let a ← PySem.frameOf env; let pl ← entryPlaceOf L hadNext; let b ← EntryCells.newEntry head a .none (rawInt L) .none pl; setField (.ref e) 1 b) Q E s := by
  have hene : e ∉ (env₀ :: outer).filterMap (·.frame) := fun hm => by
    obtain ⟨_, o, ho, hnf⟩ := hl.mem hm
    try clear hl
    rw [he] at ho; cases ho; exact hnf vs hd
  refine wpAny_bind (frameOf_of hfr hl hf₀ hf fun h₁ hs₁ => ?_)
  refine wpAny_bind (wpAny_entryPlaceOf fun pl hpl => ?_)
  unfold EntryCells.newEntry newFields
  refine wpAny_bind (wpAny_newObj_type ?_ (hpl.sizeOk5 _ _ _ _ _))
  have he₁ : h₁.get? e = some oe := (hs₁.2.1 e hene).trans he
  have he₂ := Heap.get?_push_of_some (h := h₁) { cls := .type "traceback", dict := none, data := .fields ([head, .ref L, .none, rawInt L, .none] ++ (if pl.isEmpty then List.replicate 6 Value.none else pl)).toArray } he₁
  refine wpAny_setField he₂ hd (by lia) (h _ h₁.objs.size ?_ (Heap.get?_none_of_le (by rw [hs₁.1]; exact Nat.le_refl _)) fun b o hb => ?_)
  · have hTe : h₁.objs.size ≠ e := Nat.ne_of_gt (Heap.lt_size he₁)
    have hd₃ := Obj.data_mapFields hd (·.setIfInBounds 1 (Value.ref h₁.objs.size))
    refine .traced (Heap.get?_update_self _ he₂ (Obj.isFreed_of_fields hd₃)) ((Obj.cls_mapFields _ _).trans hc) hd₃ (by rw [Array.size_setIfInBounds]; exact hsz) (by simp [hsz]) (by rw [Array.getElem?_setIfInBounds_ne (by decide)]; exact h2) hTe
      ((Heap.get?_update_other _ _ (Ne.symm hTe)).trans (Heap.get?_push_size h₁ rfl)) rfl (by simp only [List.size_toArray, List.length_append, List.length_cons, List.length_nil]; lia)
  · by_cases hbe' : b = e
    · try clear he₁; try clear hc; try clear h2; try clear hf; try clear hsz; try clear hf₀; try clear he; try clear hfr; try clear h
      subst hbe'
      exact ⟨_, Heap.get?_update_self _ he₂ (Obj.isFreed_of_fields (Obj.data_mapFields hd (·.setIfInBounds 1 (Value.ref h₁.objs.size)))), .inl (.head _)⟩
    by_cases hF : b ∈ (env₀ :: outer).filterMap (·.frame)
    · obtain ⟨sl, hs⟩ := hs₁.2.2 b o hb
      exact ⟨_, (Heap.get?_update_other _ _ (Ne.symm hbe')).trans (Heap.get?_push_of_some _ hs), .inr (.inr ⟨hF, sl, rfl⟩)⟩
    · exact ⟨o, (Heap.get?_update_other _ _ (Ne.symm hbe')).trans (Heap.get?_push_of_some _ ((hs₁.2.1 b hF).trans hb)), .inr (.inl rfl)⟩
theorem note_exc {Q : Unit → Shared → Prop} (hfr : A.frames = some (env₀ :: outer)) (hl : s.heap.FunFrames base (env₀ :: outer)) (hf₀ : env₀.frame = some L) (hf : env.frame = some L) (x : ExcS s.heap e cls t)
    (h : ∀ h' T, ExcS h' e cls (some T) → (t = some T ∨ s.heap.get? T = none) → Touch (e :: t.toList) ((env₀ :: outer).filterMap (·.frame)) s.heap h' → Q () { s with heap := h' }) : wpAny M A (noteFrame (.ref e) env) Q E s := by
  unfold noteFrame
  simp only [hf]
  cases x with
  | fresh he hc hd hsz h1 h2 =>
    refine wpAny_bind (wpAny_field he hd h1 ?_)
    rw [if_neg (by decide)]
    exact entry_exc hfr hl hf₀ hf he hc hd hsz h2 fun h' T x q k => h h' T x (.inr q) k
  | @traced oe oT vs ts T he hc hd hsz h1 h2 hTe hT hdT hts =>
    refine wpAny_bind (wpAny_field he hd h1 ?_)
    rw [if_pos (show (Value.ref T != Value.none) = true from by simp)]
    obtain ⟨fl, h3⟩ : ∃ fl, ts[3]? = some fl := ⟨ts[3], by simp [hts]⟩
    refine wpAny_bind (wpAny_field hT hdT h3 ?_)
    by_cases hfl : (fl == rawInt L) = true
    · rw [if_pos hfl]
      exact wpAny_pure (h _ T (.traced he hc hd hsz h1 h2 hTe hT hdT hts) (.inl rfl) (Touch.refl _ _ _))
    · rw [if_neg hfl]
      refine wpAny_bind (wpAny_setField hT hdT hts ?_)
      have other : ∀ b, b ≠ T → (s.heap.update T (Obj.mapFields (·.setIfInBounds 3 Value.none))).get? b = s.heap.get? b := fun b hb => Heap.get?_update_other _ _ (Ne.symm hb)
      have k0 : Touch [e, T] ((env₀ :: outer).filterMap (·.frame)) s.heap (s.heap.update T (Obj.mapFields (·.setIfInBounds 3 Value.none))) := fun b o hb => by
        by_cases q : b = T
        · try clear other; try clear ts; try clear h3; try clear fl; try clear hf; try clear hl; try clear hf₀; try clear x; try clear hfr; try clear h
          subst q
          exact ⟨_, Heap.get?_update_self _ hT (Obj.isFreed_of_fields (Obj.data_mapFields hdT _)), .inl (.tail _ (.head _))⟩
        · exact ⟨o, (other b q).trans hb, .inr (.inl rfl)⟩
      refine entry_exc hfr (k0.frames (fun b hb o ho => ?_) hl) hf₀ hf ((other e (Ne.symm hTe)).trans he) hc hd hsz h2 fun h' T' x q k => h h' T' x (.inr ?_) (k0.trans (k.mono fun b q => ?_))
      · rcases List.mem_cons.mp hb with rfl | hb
        · rw [he] at ho; cases ho; exact ⟨vs, hd⟩
        · rcases List.mem_cons.mp hb with rfl | hb
          · rw [hT] at ho; cases ho; exact ⟨ts, hdT⟩
          · cases hb
      · by_cases hq : T' = T
        · subst hq
          have := Heap.get?_update_self (Obj.mapFields (·.setIfInBounds 3 Value.none)) hT (Obj.isFreed_of_fields (Obj.data_mapFields hdT _))
          rw [q] at this; cases this
        · rw [← other T' hq]; exact q
      · rcases List.mem_cons.mp q with rfl | q
        · exact .head _
        · cases q
theorem flight_exc {fr : Option Addr} {T : Addr} {Q : Unit → Shared → Prop} (x : ExcS s.heap e cls (some T))
    (h : ∀ h', ExcS h' e cls (some T) → (∀ b, b ≠ T → h'.get? b = s.heap.get? b) → Q () { s with heap := h' }) : wpAny M A (setFlight (.ref e) fr) Q E s := by
  cases x with
  | @traced oe oT vs ts _ he hc hd hsz h1 h2 hTe hT hdT hts =>
    unfold setFlight
    refine wpAny_bind (wpAny_field he hd h1 ?_)
    rw [if_pos (show (Value.ref T != Value.none) = true from by simp)]
    have other : ∀ b, b ≠ T → (s.heap.update T (Obj.mapFields (·.setIfInBounds 3 (fr.elim .none fun f => rawInt f)))).get? b = s.heap.get? b := fun b hb => Heap.get?_update_other _ _ (Ne.symm hb)
    refine wpAny_setField hT hdT hts (h _ (.traced ((other e (Ne.symm hTe)).trans he) hc hd hsz h1 h2 hTe (Heap.get?_update_self _ hT (Obj.isFreed_of_fields (Obj.data_mapFields hdT _))) (Obj.data_mapFields hdT _) (by rw [Array.size_setIfInBounds]; exact hts)) other)
end

/-- where an exception's objects lie -/
noncomputable def Apart (c : Cx) (as₀ : Adr) (h₀ : HP) (as : Adr) (X : List Addr) (a : Addr) : Prop := Fr as₀ h₀ a ∧ some a ∉ as ∧ a ∉ X ∧ c.base.get? a = none
/-- an exception on its way: its object and its traceback's stand among the frames' -/
inductive ERes (c : Cx) (as : Adr) (X : List Addr) (h : HP) (XX : XE) (x : Value) (s' : Shared) : Prop
  | mk (k : Nat) (H' : AH) (as' : Adr) (e : Addr) (t : Option Addr) (ts : List Addr) : x = .ref e → Ext as h as' → SR c as' (e :: (ts ++ X)) H' s' → Kept as X h s'.heap → ExcS s'.heap e (.ref (c.xcls k)) t → (∀ T, t = some T → T ∈ ts) → (∀ a ∈ e :: ts, Apart c as h as' X a) → XX k H' → ERes c as X h XX x s'
theorem ERes.lift {c : Cx} {as as₁ : Adr} {X : List Addr} {h h₁ : HP} {s' : Shared} {XX : XE} {x : Value} (e : Ext as h as₁) (k : Kept as X h h₁) (r : ERes c as₁ X h₁ XX x s') : ERes c as X h XX x s' := by
  obtain ⟨n, H', as', a, t, ts, hx, e', S, k', ex, ht, ap, q⟩ := r
  exact ⟨n, H', as', a, t, ts, hx, e.trans k e', S, k.trans e k', ex, ht, fun b hb => ⟨(ap b hb).1.lift e k, (ap b hb).2⟩, q⟩
/-- the frames of the run, from the inmost one on -/
structure FrE (c : Cx) (X : List Addr) (as : Adr) (h : HP) (env : Env) : Prop where
  kind : env.scope.kind ≠ .module
  there : ∃ L o es n, env.frame = some L ∧ c.base.get? L = none ∧ 2 ≤ X.count L ∧ some L ∉ as ∧ h.get? L = some o ∧ o.data = .dict es n
noncomputable def FrOk (c : Cx) (A : Around) (X : List Addr) (as : Adr) (h : HP) (l : List Env) : Prop := A.frames = some l ∧ ∀ env ∈ l, FrE c X as h env
theorem FrE.keep {c : Cx} {X : List Addr} {as as' : Adr} {h h' : HP} {env : Env} (f : FrE c X as h env) (e : Ext as h as') (k : Kept as X h h') : FrE c X as' h' env := by
  refine ea4_6 f.there ?_
  intro L o es n h1 h2 h3 h4 h5 h6
  refine ea1_2 (k L o h5 h4) ?_
  intro o' e' s
  try clear k; try clear o
  refine ⟨f.kind, L, o', es, n, h1, h2, h3, e.out h5 h4, e', ?_⟩
  try clear e'; try clear o'; try clear h5; try clear h4; try clear h3; try clear h2; try clear h1; try clear n; try clear es; try clear L; try clear f; try clear e
  rcases s with rfl | ⟨_, _, sl, rfl⟩
  · exact h6
  · exact h6
theorem FrOk.keep {c : Cx} {A : Around} {X : List Addr} {as as' : Adr} {h h' : HP} {l : List Env} (f : FrOk c A X as h l) (e : Ext as h as') (k : Kept as X h h') : FrOk c A X as' h' l := ⟨f.1, fun env he => (f.2 env he).keep e k⟩
theorem FrOk.fun {c : Cx} {X : List Addr} {as : Adr} {h : HP} : ∀ {l : List Env}, (∀ env ∈ l, FrE c X as h env) → h.FunFrames c.base l
  | [], _ => trivial
  | env :: l, f => by
    refine ea4_6 ((f env (.head _)).there) ?_
    intro L o es n h1 h2 h3 h4 h5 h6
    exact ⟨(f env (.head _)).kind, ⟨L, o, h1, h2, h5, fun vs q => by rw [h6] at q; cases q⟩, FrOk.fun fun e he => f e (.tail _ he)⟩
theorem FrOk.touch {c : Cx} {X : List Addr} {as as' : Adr} {S : List Addr} {h h₀ h' : HP} {l : List Env} (f : ∀ env ∈ l, FrE c X as' h env) (k : Kept as X h₀ h) (x : Touch S (l.filterMap (·.frame)) h h') (hS : ∀ a ∈ S, Fr as h₀ a) : Kept as X h₀ h' := fun b o e hb => by
  refine ea1_2 (k b o e hb) ?_
  intro o₁ e₁ s₁
  have hn : b ∉ S := fun q => (hS b q).elim (fun r => hb r) fun r => by rw [r] at e; cases e
  refine ea1_2 (x.out e₁ hn) ?_
  intro o₂ e₂ s₂
  refine ⟨o₂, e₂, s₁.trans ?_⟩
  rcases s₂ with rfl | ⟨hF, sl, rfl⟩
  · exact .inl rfl
  · refine ea1_2 (List.mem_filterMap.mp hF) ?_
    intro env he hf
    refine ea4_6 ((f env he).there) ?_
    intro L o es n h1 h2 h3 h4 h5 h6
    cases h1.symm.trans hf
    cases h5.symm.trans e₁
    exact .inr ⟨h3, ⟨es, n, h6⟩, sl, rfl⟩
/-- the frame that runs stands on top -/
inductive EnvFr (c : Cx) (A : Around) (X : List Addr) (as : Adr) (h : HP) (env : Env) : Prop
  | mk (env₀ : Env) (outer : List Env) (L : Addr) : A.frames = some (env₀ :: outer) → (∀ e ∈ env₀ :: outer, FrE c X as h e) → env₀.frame = some L → env.frame = some L → EnvFr c A X as h env
theorem EnvFr.keep {c : Cx} {A : Around} {X : List Addr} {as as' : Adr} {h h' : HP} {env : Env} (f : EnvFr c A X as h env) (e : Ext as h as') (k : Kept as X h h') : EnvFr c A X as' h' env := by
  obtain ⟨env₀, outer, L, h1, h2, h3, h4⟩ := f
  exact ⟨env₀, outer, L, h1, fun a ha => (h2 a ha).keep e k, h3, h4⟩
theorem FrE.grow {c : Cx} {X X' : List Addr} {as : Adr} {h h' : HP} {env : Env} (f : FrE c X as h env) (g : Grown h h') (hX : ∀ b, X.count b ≤ X'.count b) : FrE c X' as h' env := by
  refine ea4_6 f.there ?_
  intro L o es n h1 h2 h3 h4 h5 h6
  exact ⟨f.kind, L, o, es, n, h1, h2, Nat.le_trans h3 (hX L), h4, g _ _ h5, h6⟩
theorem EnvFr.grow {c : Cx} {A : Around} {X X' : List Addr} {as : Adr} {h h' : HP} {env : Env} (f : EnvFr c A X as h env) (g : Grown h h') (hX : ∀ b, X.count b ≤ X'.count b) : EnvFr c A X' as h' env := by
  obtain ⟨env₀, outer, L, h1, h2, h3, h4⟩ := f
  exact ⟨env₀, outer, L, h1, fun a ha => (h2 a ha).grow g hX, h3, h4⟩
theorem EnvFr.env {c : Cx} {A : Around} {X : List Addr} {as : Adr} {h : HP} {env env' : Env} (f : EnvFr c A X as h env) (e : env'.frame = env.frame) : EnvFr c A X as h env' := by
  obtain ⟨env₀, outer, L, h1, h2, h3, h4⟩ := f
  exact ⟨env₀, outer, L, h1, h2, h3, e.trans h4⟩
theorem EnvFr.all {c : Cx} {A : Around} {X : List Addr} {as : Adr} {h : HP} {env : Env} (f : EnvFr c A X as h env) : ∃ l, FrOk c A X as h l := by
  obtain ⟨env₀, outer, L, h1, h2, h3, h4⟩ := f
  exact ⟨_, h1, h2⟩
theorem SR.note {c : Cx} {as : Adr} {X Y S F : List Addr} {H : AH} {s : Shared} {h' : HP} (x : SR c as X H s) (k : Touch S F s.heap h') (hS : ∀ b ∈ S, b ∈ X ∧ c.base.get? b = none) (hF : ∀ b ∈ F, b ∈ X ∧ c.base.get? b = none) (hXY : ∀ b ∈ X, b ∈ Y) (hY : ∀ b ∈ Y, b ∈ X ∨ s.heap.get? b = none) (hy : ∀ b ∈ Y, ∃ o, h'.get? b = some o) : SR c as Y H { s with heap := h' } where
  len := x.len
  stays := fun b o e => by
    obtain ⟨o', e', q⟩ := k.out (x.stays b o e) fun q => by rw [(hS b q).2] at e; cases e
    rcases q with rfl | ⟨q, _⟩
    · exact e'
    · rw [(hF b q).2] at e; cases e
  gens := x.gens
  os := x.os
  objs := fun i a e => by
    refine ea0_3 (x.objs i a e) ?_
    intro h1 h2 r_3
    refine ea1_2 r_3 ?_
    try clear r_3
    intro o h3 h4
    have fy : ∀ b o, s.heap.get? b = some o → b ∉ X → b ∉ Y := fun b o e hb q => (hY b q).elim hb fun r => by rw [r] at e; cases e
    have ex : ∀ b o, s.heap.get? b = some o → b ∉ X → h'.get? b = some o := fun b o e hb => by
      refine ea1_2 (k.out e fun q => hb (hS b q).1) ?_
      intro o' e' q
      rcases q with rfl | ⟨q, _⟩
      · exact e'
      · exact absurd (hF b q).1 hb
    obtain ⟨ob, hob⟩ := h4.here
    exact ⟨h1, fy _ _ hob h2, o, h3, (OR.frames fy h4).keepX (fun b o e _ hb => ex b o e fun q => hb (hXY b q)) fun ob e => ex _ _ e h2⟩
  inj := x.inj
  dead := x.dead
  xs := hy
theorem FrE.mem {c : Cx} {X : List Addr} {as : Adr} {h : HP} {l : List Env} (f : ∀ env ∈ l, FrE c X as h env) {b : Addr} (hb : b ∈ l.filterMap (·.frame)) : b ∈ X ∧ c.base.get? b = none := by
  refine ea1_2 (List.mem_filterMap.mp hb) ?_
  intro env he hf
  try clear hb
  refine ea4_6 ((f env he).there) ?_
  intro L o es n h1 h2 h3 h4 h5 h6
  try clear f; try clear env; try clear he
  replace h1 := h1.symm.trans hf
  cases h1
  exact ⟨List.count_pos_iff.mp (Nat.lt_of_lt_of_le (by decide) h3), h2⟩
noncomputable def Trc (x : Value) (h : HP) : Prop := ∃ e T cls, x = .ref e ∧ ExcS h e cls (some T)
/-- data of objects that are no records stay -/
noncomputable def Dat (h h' : HP) : Prop := ∀ b o, h.get? b = some o → (∀ vs, o.data ≠ .fields vs) → ∃ o', h'.get? b = some o' ∧ o'.data = o.data
theorem Dat.ns {h h' : HP} {L : Addr} {m : Str → Option Value} (d : Dat h h') (n : h.Ns L m) : h'.Ns L m := by
  refine ea3_3 n ?_
  try clear n
  intro o es ep e hd r
  obtain ⟨o', e', hd'⟩ := d L o e fun vs q => by rw [hd] at q; cases q
  try clear d; try clear o; try clear e
  exact ⟨o', es, ep, e', hd'.trans hd, r⟩
theorem ExcS.fields {h : HP} {e : Addr} {cls : Value} {t : Option Addr} (x : ExcS h e cls t) : ∀ b ∈ e :: t.toList, ∀ o, h.get? b = some o → ∃ vs, o.data = .fields vs := fun b hb o ho => by
  cases x with
  | fresh he hc hd =>
    rcases List.mem_cons.mp hb with rfl | hb
    · cases he.symm.trans ho; exact ⟨_, hd⟩
    · cases hb
  | traced he hc hd hsz v1 v2 hTe hT hdT =>
    rcases List.mem_cons.mp hb with rfl | hb
    · cases he.symm.trans ho; exact ⟨_, hd⟩
    · cases List.mem_singleton.mp hb
      cases hT.symm.trans ho; exact ⟨_, hdT⟩
theorem Touch.dat {S F : List Addr} {h h' : HP} (x : Touch S F h h') (hS : ∀ b ∈ S, ∀ o, h.get? b = some o → ∃ vs, o.data = .fields vs) : Dat h h' := fun b o e hn => by
  obtain ⟨o', e', q⟩ := x.out e fun q => by obtain ⟨vs, hd⟩ := hS b q o e; exact hn vs hd
  rcases q with rfl | ⟨_, sl, rfl⟩
  · exact ⟨_, e', rfl⟩
  · exact ⟨_, e', rfl⟩
/-- an exception is noted at a frame: it is still on its way -/
theorem ERes.note {c : Cx} {A : Around} {X : List Addr} {as : Adr} {h : HP} {env : Env} {XX : XE} {x : Value} {s' : Shared} {E : Value → Shared → Prop} {Q : Unit → Shared → Prop} (r : ERes c as X h XX x s') (hf : ∀ as' H' Z, Ext as h as' → Kept as X h s'.heap → SR c as' Z H' s' → (∀ b ∈ X, b ∈ Z) → EnvFr c A X as' s'.heap env)
    (q : ∀ s'', ERes c as X h XX x s'' → Trc x s''.heap → Dat s'.heap s''.heap → Q () s'') : wpAny c.M A (noteFrame x env) Q E s' := by
  obtain ⟨k, H', as', e, t, ts, rfl, e', S, k', ex, ht, ap, w⟩ := r
  obtain ⟨env₀, outer, L, h1, h2, h3, h4⟩ := hf as' H' _ e' k' S fun b hb => .tail _ (List.mem_append_right _ hb)
  try clear hf
  refine note_exc h1 (FrOk.fun h2) h3 h4 ex fun h'' T ex' hT tc => q _ ?_ ⟨e, T, _, rfl, ex'⟩ (tc.dat ex.fields)
  have hSm : ∀ a ∈ e :: t.toList, a ∈ e :: ts := fun a ha => by
    try clear h4; try clear h3; try clear h2; try clear h1; try clear L; try clear outer; try clear env₀; try clear w; try clear ap; try clear ex; try clear k'; try clear S; try clear e'; try clear ts; try clear t; try clear e; try clear as'; try clear H'; try clear k; try clear q; try clear r
    rcases List.mem_cons.mp ha with rfl | ha
    · exact .head _
    · exact .tail _ (ht a (Option.mem_toList.mp ha))
  have K' : Kept as X h h'' := FrOk.touch h2 k' tc fun a ha => (ap a (hSm a ha)).1
  have hS : ∀ b ∈ e :: t.toList, b ∈ e :: (ts ++ X) ∧ c.base.get? b = none := fun b hb => ⟨by
    try clear K'; try clear ht
    rcases List.mem_cons.mp (hSm b hb) with rfl | hb
    · exact .head _
    · exact .tail _ (List.mem_append_left _ hb), (ap b (hSm b hb)).2.2.2⟩
  have hF : ∀ b ∈ (env₀ :: outer).filterMap (·.frame), b ∈ e :: (ts ++ X) ∧ c.base.get? b = none := fun b hb => ⟨.tail _ (List.mem_append_right _ (FrE.mem h2 hb).1), (FrE.mem h2 hb).2⟩
  have hex : ∀ b ∈ e :: (ts ++ X), ∃ o, h''.get? b = some o := fun b hb => by
    obtain ⟨o, eo⟩ := S.xs b hb
    try clear S
    refine ea1_2 (tc b o eo) ?_
    intro o' eo' _
    try clear o; try clear eo
    exact ⟨o', eo'⟩
  rcases hT with rfl | hT
  · exact ⟨k, H', as', e, some T, ts, rfl, e', S.note tc hS hF (fun _ q => q) (fun _ q => .inl q) hex, K', ex', ht, ap, w⟩
  · refine ⟨k, H', as', e, some T, T :: ts, rfl, e', S.note tc hS hF (fun b hb => ?_) (fun b hb => ?_) (fun b hb => ?_), K', ex', fun T' q => by cases q; exact .head _, fun a ha => ?_, w⟩
    · try clear hF
      rcases List.mem_cons.mp hb with rfl | hb
      · exact .head _
      · exact .tail _ (.tail _ hb)
    · rcases List.mem_cons.mp hb with rfl | hb
      · exact .inl (.head _)
      · rcases List.mem_cons.mp hb with rfl | hb
        · exact .inr hT
        · exact .inl (.tail _ hb)
    · rcases List.mem_cons.mp hb with rfl | hb
      · exact hex _ (.head _)
      · rcases List.mem_cons.mp hb with rfl | hb
        · cases ex' with | traced he hc hd hsz v1 v2 hTe hTT => exact ⟨_, hTT⟩
        · exact hex _ (.tail _ hb)
    · rcases List.mem_cons.mp ha with rfl | ha
      · exact ap _ (.head _)
      · rcases List.mem_cons.mp ha with rfl | ha
        · refine ⟨k'.fr hT, fun q => ?_, fun q => ?_, ?_⟩
          · obtain ⟨i, hi⟩ := List.getElem?_of_mem q
            try clear q
            refine ea0_3 (S.objs i _ hi) ?_
            intro _ _ r_3
            refine ea1_2 r_3 ?_
            try clear r_3
            intro o _ ho
            try clear S; try clear i; try clear hi
            obtain ⟨ob, e⟩ := ho.here
            try clear ho
            rw [hT] at e; cases e
          · obtain ⟨o, e⟩ := S.xs _ (.tail _ (List.mem_append_right _ q))
            try clear S; try clear q
            rw [hT] at e; cases e
          · try clear e
            cases hb : c.base.get? a with
            | none => rfl
            | some o => rw [S.stays a o hb] at hT; cases hT
        · exact ap _ (.tail _ ha)
theorem ExcS.uniq {h : HP} {e : Addr} {cls cls' : Value} {t t' : Option Addr} (x : ExcS h e cls t) (y : ExcS h e cls' t') : t = t' := by
  cases x with
  | fresh a1 a2 a3 a4 a5 a6 =>
    try clear x
    cases y with
    | fresh => rfl
    | traced b1 b2 b3 b4 b5 =>
      try clear y
      cases a1.symm.trans b1
      cases a3.symm.trans b3
      cases a5.symm.trans b5
  | traced a1 a2 a3 a4 a5 =>
    cases y with
    | fresh b1 b2 b3 b4 b5 =>
      cases a1.symm.trans b1
      cases a3.symm.trans b3
      cases a5.symm.trans b5
    | traced b1 b2 b3 b4 b5 =>
      cases a1.symm.trans b1
      cases a3.symm.trans b3
      cases a5.symm.trans b5
      rfl
/-- the mark of the frame in which it flies -/
theorem ERes.fly {c : Cx} {A : Around} {X : List Addr} {as : Adr} {h : HP} {XX : XE} {x : Value} {s' : Shared} {E : Value → Shared → Prop} {fr : Option Addr} {Q : Unit → Shared → Prop} (r : ERes c as X h XX x s') (tr : Trc x s'.heap) (q : ∀ s'', ERes c as X h XX x s'' → Trc x s''.heap → Q () s'') : wpAny c.M A (setFlight x fr) Q E s' := by
  obtain ⟨k, H', as', e, t, ts, rfl, e', S, k', ex, ht, ap, w⟩ := r
  refine ea3_2 tr ?_
  try clear tr
  intro e₁ T cls he ex₁
  try clear cls; try clear e₁; try clear t; try clear tr; try clear r
  cases he
  replace ex₁ := ex.uniq ex₁
  obtain rfl := ex₁
  refine flight_exc ex fun h'' ex' hk => q _ ?_ ⟨e, T, _, rfl, ex'⟩
  have tc : Touch [T] [] s'.heap h'' := fun b o eb => by
    by_cases hb : b = T
    · try clear ex₁; try clear T; try clear w; try clear ap; try clear ht; try clear ex; try clear k'; try clear S; try clear e'; try clear ts; try clear e; try clear as'; try clear H'; try clear k; try clear q
      subst hb
      cases ex' with | traced he hc hd hsz v1 v2 hTe hTT => exact ⟨_, hTT, .inl (.head _)⟩
    · exact ⟨o, (hk b hb).trans eb, .inr (.inl rfl)⟩
  have hT : T ∈ ts := ht T rfl
  refine ⟨k, H', as', e, some T, ts, rfl, e', S.note tc (fun b hb => ?_) (fun b hb => nomatch hb) (fun _ q => q) (fun _ q => .inl q) (fun b hb => ?_), fun b o eb hb => ?_, ex', ht, ap, w⟩
  · try clear he
    cases List.mem_singleton.mp hb
    exact ⟨.tail _ (List.mem_append_left _ hT), (ap T (.tail _ hT)).2.2.2⟩
  · obtain ⟨o, eo⟩ := S.xs b hb
    try clear S
    refine ea1_2 (tc b o eo) ?_
    intro o' eo' _
    try clear o; try clear eo
    exact ⟨o', eo'⟩
  · refine ea1_2 (k' b o eb hb) ?_
    intro o₁ e₁ s₁
    try clear k'
    have hbT : b ≠ T := fun q => by
      try clear s₁; try clear o₁; try clear e₁
      subst q
      rcases (ap b (.tail _ hT)).1 with q | q
      · exact hb q
      · rw [q] at eb; cases eb
    exact ⟨o₁, (hk b hbT).trans e₁, s₁⟩
theorem ERes.back {c : Cx} {A : Around} {X : List Addr} {as : Adr} {h : HP} {env : Env} {XX : XE} {x : Value} {s' : Shared} {E : Value → Shared → Prop} (r : ERes c as X h XX x s') (tr : Trc x s'.heap) (q : ∀ s'', ERes c as X h XX x s'' → Trc x s''.heap → E x s'') : cameBackBy c.M A env E x s' := by
  unfold cameBackBy
  refine ea3_2 (id tr) ?_
  intro e T cls q_4 ex
  subst q_4
  try clear cls; try clear e
  cases ex with
  | traced he hc hd hsz v1 v2 hTe hTT =>
    refine wpAny_bind (wpAny_field he hd v1 ?_)
    rw [if_neg (show ¬ ((Value.ref T == Value.none) = true) from Bool.false_ne_true)]
    exact r.fly tr q
/-- fewer frames -/
theorem ERes.less {c : Cx} {X Y : List Addr} {as : Adr} {h : HP} {XX : XE} {x : Value} {s' : Shared} (r : ERes c as Y h XX x s') (hXY : ∀ b ∈ X, b ∈ Y) (hY : ∀ b, 2 ≤ Y.count b → 2 ≤ X.count b ∨ Fr as h b) : ERes c as X h XX x s' := by
  obtain ⟨k, H', as', e, t, ts, rfl, e', S, k', ex, ht, ap, w⟩ := r
  have sub : ∀ b ∈ e :: (ts ++ X), b ∈ e :: (ts ++ Y) := fun b hb => by
    try clear w; try clear ap; try clear ht; try clear ex; try clear k'; try clear S; try clear e'; try clear ts; try clear t; try clear e; try clear as'; try clear H'; try clear k; try clear r; try clear hY
    rcases List.mem_cons.mp hb with rfl | hb
    · exact .head _
    · rcases List.mem_append.mp hb with hb | hb
      · exact .tail _ (List.mem_append_left _ hb)
      · exact .tail _ (List.mem_append_right _ (hXY b hb))
  exact ⟨k, H', as', e, t, ts, rfl, e', ⟨S.len, S.stays, S.gens, S.os, fun i a q => let ⟨h1, h2, o, h3, h4⟩ := S.objs i a q; ⟨h1, fun q => h2 (sub a q), o, h3, OR.frames (fun b _ _ hb q => hb (sub b q)) h4⟩, S.inj, S.dead, fun b hb => S.xs b (sub b hb)⟩, k'.less hY, ex, ht, fun a ha => ⟨(ap a ha).1, (ap a ha).2.1, fun q => (ap a ha).2.2.1 (hXY a q), (ap a ha).2.2.2⟩, w⟩
theorem ExcS.keep {h h' : HP} {e : Addr} {cls : Value} {t : Option Addr} (x : ExcS h e cls t) (k : ∀ b ∈ e :: t.toList, ∀ o, h.get? b = some o → h'.get? b = some o) : ExcS h' e cls t := by
  cases x with
  | fresh he hc hd hsz h1 h2 => exact .fresh (k _ (.head _) _ he) hc hd hsz h1 h2
  | traced he hc hd hsz h1 h2 hTe hT hdT hts => exact .traced (k _ (.head _) _ he) hc hd hsz h1 h2 hTe (k _ (.tail _ (.head _)) _ hT) hdT hts
theorem ERes.pass {α : Type} {c : Cx} {A : Around} {X : List Addr} {as : Adr} {h : HP} {env : Env} {XX : XE} {x : Value} {s' : Shared} {what : String} {Q : α → Shared → Prop} {E : Value → Shared → Prop} (r : ERes c as X h XX x s') (tr : Trc x s'.heap) (q : ∀ s'', ERes c as X h XX x s'' → Trc x s''.heap → E x s'') : wpAny c.M A (PySem.passOn what x env : Sem α) Q E s' := by
  unfold PySem.passOn
  refine ea3_2 (id tr) ?_
  intro e T cls q_4 ex
  subst q_4
  try clear cls; try clear e
  cases ex with
  | traced he hc hd hsz v1 v2 hTe hTT =>
    refine wpAny_bind (wpAny_field he hd v1 ?_)
    rw [if_neg (show ¬ ((Value.ref T == Value.none) = true) from Bool.false_ne_true)]
    exact wpAny_bind (r.fly tr fun s'' er tr' => wpAny_throw (q s'' er tr'))
end Mine

end
noncomputable section
namespace Mine
open PySem PySem.Calls PyProof.Rows

/-- the classes above an own exception class: ValueError's -/
abbrev bmV : List Value := [.type "ValueError", .type "Exception", .type "BaseException", .type "object"]
noncomputable def xNames : List Str := ["__init__", "__getattribute__", "__getattr__", "__class__"]
inductive XTail (h : HP) : List Value → Prop
  | base : XTail h bmV
  | own {A : Addr} {c0 : Value} {dd : Option Addr} {cd : ClassData} {sl : Array (Option Value)} {mA : Str → Option Value} {tl : List Value} :
      h.get? A = some { cls := c0, dict := dd, data := .cls cd, slots := sl } → h.Ns cd.ns mA → (∀ n ∈ xNames, mA n = none) → XTail h tl → XTail h (.ref A :: tl)
theorem XTail.tail {h : HP} {tl : List Value} (T : XTail h tl) : OwnTail h bmV tl := by
  induction T with
  | base => exact .base
  | own hA hN hq _ ih => exact .own hA hN (hq _ (.head _)) ih
theorem XTail.keeps {h h' : HP} {tl : List Value} (T : XTail h tl) (hk : h.StaysIn h') : XTail h' tl := by
  induction T with
  | base => exact .base
  | own hA hN hq _ ih => exact .own (hk _ _ hA) (hN.keeps hk) hq ih
/-- an exception class of the text's own; its classes above -/
inductive XC (h : HP) (C : Addr) (bm : List Value) : Prop
  | mk {nm q : Str} {N : Addr} {bs : List Value} {hdct : Bool} {sn : List Str} {sub : List Value} {ab : Bool} {col : Option Bool} {dd : Option Addr} {k0 k1 k2 k3 k5 : Option Value} {mN : Str → Option Value} :
      h.get? C = some (excClassObj nm q C N bs bm hdct sn sub ab col dd k0 k1 k2 k3 k5 "ValueError.__new__") → h.Ns N mN → (∀ n ∈ xNames, mN n = none) → XTail h bm → XC h C bm
theorem XC.keeps {h h' : HP} {C : Addr} {bm : List Value} (x : XC h C bm) (hk : h.StaysIn h') : XC h' C bm := by
  obtain ⟨hC, hN, hq, T⟩ := x
  exact ⟨hk _ _ hC, hN.keeps hk, hq, T.keeps hk⟩
theorem XTail.has {h : HP} {tl : List Value} {v : Value} (T : XTail h tl) (hv : bmV.contains v = true) : tl.contains v = true := by
  induction T with
  | base => exact hv
  | own _ _ _ _ ih => rw [List.contains_cons, ih, Bool.or_true]

section
variable {M : Model} {A : Around} {E : Value → Shared → Prop} {h : HP} {g : Array GenState} {d : Drawn} {t : Nat} {os : OsState}
theorem lookAlong_x {tl : List Value} {n : Str} {y : Option Value} {Q : Option Value → Shared → Prop} (hn : n ∈ xNames) (T : XTail h tl) (hrest : lookupAlong bmV n = pure y) (hq : Q y ⟨h, g, d, t, os⟩) :
    wpAny M A (lookupAlong tl n) Q E ⟨h, g, d, t, os⟩ := by
  induction T with
  | base => rw [hrest]; exact wpAny_pure hq
  | own hA hN hni _ ih =>
    rw [lookupAlong_cons]
    refine wpAny_bind (wpAny_classOwn_cls hA hN ?_)
    rw [hni n hn]
    exact ih
theorem look_x {C : Addr} {bm : List Value} {n : Str} {y : Option Value} {Q : Option Value → Shared → Prop} (hn : n ∈ xNames) (x : XC h C bm) (hB : typeLookup (.type "ValueError") n = pure y) (hq : Q y ⟨h, g, d, t, os⟩) :
    wpAny M A (typeLookup (.ref C) n) Q E ⟨h, g, d, t, os⟩ := by
  obtain ⟨hC, hN, hmN, T⟩ := x
  have hrest : lookupAlong bmV n = pure y := by rw [typeLookup_eq, F.attrBase_ValueError.mro] at hB; exact hB
  rw [typeLookup_eq]
  refine wpAny_bind (wpAny_mroOf_exc hC ?_)
  rw [lookupAlong_cons]
  refine wpAny_bind (wpAny_classOwn_exc hC hN ?_)
  rw [hmN n hn]
  exact lookAlong_x hn T hrest hq
theorem sub_x {C : Addr} {bm : List Value} {b : Value} {Q : Bool → Shared → Prop} (x : XC h C bm) (hq : Q ((Value.ref C :: bm).contains b) ⟨h, g, d, t, os⟩) : wpAny M A (isSubtype (.ref C) b) Q E ⟨h, g, d, t, os⟩ := by
  obtain ⟨hC, hN, hmN, T⟩ := x
  exact wpAny_isSubtype_exc hC hq
theorem XC.base {C : Addr} {bm : List Value} (x : XC h C bm) {v : Value} (hv : bmV.contains v = true) : (Value.ref C :: bm).contains v = true := by
  obtain ⟨hC, hN, hmN, T⟩ := x
  rw [List.contains_cons, T.has hv, Bool.or_true]
theorem XC.obj {C : Addr} {bm : List Value} (x : XC h C bm) : ∃ o, h.get? C = some o ∧ o.cls = .type "type" ∧ ∃ cd, o.data = .cls cd := by
  obtain ⟨hC, hN, hmN, T⟩ := x
  exact ⟨_, hC, rfl, _, rfl⟩
/-- an except clause of the text's own class -/
theorem match_x {e C D : Addr} {bm bm' : List Value} {oe : Obj} {Q : Bool → Shared → Prop} (x : XC h C bm) (y : XC h D bm') (he : h.get? e = some oe) (hcls : oe.cls = .ref C) (hs : (Value.ref C :: bm).contains (.ref D) = true) (hq : Q true ⟨h, g, d, t, os⟩) :
    wpAny M A (excMatches (.ref e) (.ref D)) Q E ⟨h, g, d, t, os⟩ := by
  have hcB := y.base (v := .type "BaseException") (by decide)
  obtain ⟨hC, hN, hmN, T⟩ := x
  obtain ⟨hD, hN', hmN', T'⟩ := y
  have f := tc_notTuple
  unfold excMatches
  repeat (first | (with_reducible refine wpAny_loadPart_at he ?_; rw [hcls]) | with_reducible refine wpAny_loadPart_at hD ?_ | (with_reducible refine wpAny_isSubtype_exc hD ?_; rw [hcB]) | (with_reducible refine wpAny_isSubtype_exc hC ?_; rw [hs]) | wp_step)
  exact hq
end

section
variable {prog : Program} {w : World} {A : Around} {E : Value → Shared → Prop} {h : HP} {g : Array GenState} {d : Drawn} {t : Nat} {os : OsState} {a C D : Addr} {o : Obj} {bm bm' : List Value}
theorem class_get_x {R : Result → Shared → Prop} (x : XC h C bm) (hx : h.get? a = some o) (hc : o.cls = .ref C) (hq : R (.ok (.ret (.ref C))) ⟨h, g, d, t, os⟩) :
    codeAny (model prog w) A (.call (.builtin "getset_descriptor.__get__") ⟨[.builtin "object.__class__", .ref a, .ref C], []⟩) R ⟨h, g, d, t, os⟩ := by
  have hT5 : (⟨h, g, d, t, os⟩ : Shared).TypeIs (.builtin "object.__class__") "getset_descriptor" := F.typeOf_object_class
  have hcB : (Value.ref C :: bm).contains (.type (".".intercalate ("object.__class__".cutAt '.').dropLast)) = true := by
    rw [F.owner_object_class]; exact x.base (by decide)
  refine codeAny_call_builtin F.slot_gs_get.plain F.entry_gs_get (F.slot_gs_get.check _ _ _ _ _ _ _ _ hT5 (F.args_gs_get _ _ _) ?_)
  repeat (any_goals (first | assumption | (with_reducible refine wpAny_loadPart_at hx ?_; rw [hc]) | (with_reducible refine sub_x x ?_; rw [hcB]) | wp_step))
  refine ⟨Code.quiet_builtin _ (by decide +kernel), codeAny_builtin F.entry_object_class ?_⟩
  repeat (any_goals (first | assumption | (with_reducible refine wpAny_loadPart_at hx ?_; rw [hc]) | wp_step))
theorem check_ga_x {M : Model} {nameV : Value} {Q : Unit → Shared → Prop} (x : XC h C bm) (hx : h.get? a = some o) (hc : o.cls = .ref C) (hq : Q () ⟨h, g, d, t, os⟩) : wpAny M A (checkBuiltinCall "BaseException.__getattribute__" ⟨[.ref a, nameV], []⟩) Q E ⟨h, g, d, t, os⟩ := by
  have hk : builtinKind "BaseException.__getattribute__" = some .slot := by decide +kernel
  have hsplit : splitId "BaseException.__getattribute__" = some ("BaseException", "__getattribute__") := by decide +kernel
  have hcB := x.base (v := .type "BaseException") (by decide)
  have ha := F.args_bexc_ga (.ref a) nameV
  simp only [checkBuiltinCall, hk, hsplit]
  refine wpAny_bind ?_
  · unfold isInstance
    repeat (first | (with_reducible refine wpAny_loadPart_at hx ?_; rw [hc]) | (with_reducible refine sub_x x ?_; rw [hcB]) | wp_step)
    exact hq
theorem lk_v_class : typeLookup (.type "ValueError") "__class__" = pure (some (.builtin "object.__class__")) := by rw [typeLookup_type, builtinLookup_eq_fast]; kernel_rfl
theorem class_entry_x {tk : Tok} {Q : Fin → Shared → Prop} (x : XC h C bm) (hx : h.get? a = some o) (hc : o.cls = .ref C) (hq : Q (.done (.ret (.ref C))) ⟨h, g, d, t, os⟩) :
    wpAny (model prog w) A (Builtin.«object.__getattribute__» ⟨[.ref a, .str "__class__" tk], []⟩) Q E ⟨h, g, d, t, os⟩ := by
  have hT5 : (⟨h, g, d, t, os⟩ : Shared).TypeIs (.builtin "object.__class__") "getset_descriptor" := F.typeOf_object_class
  have f5 := F.typeOf_object_class
  have f6 := F.slot_gs_get.lookup
  have f7 := F.slot_gs_set.lookup
  have hm : ("__class__" : Str) ∈ xNames := .tail _ (.tail _ (.tail _ (.head _)))
  repeat (any_goals (first | assumption | (with_reducible refine wpAny_loadPart_at hx ?_; rw [hc]) | with_reducible refine look_x hm x lk_v_class ?_ | wp_step))
  refine class_get_x x hx hc ?_
  repeat (any_goals (first | assumption | wp_step))
theorem class_by_x {tk : Tok} {Q : Value → Shared → Prop} (x : XC h C bm) (hx : h.get? a = some o) (hc : o.cls = .ref C) (hq : Q (.ref C) ⟨h, g, d, t, os⟩) :
    wpAny (model prog w) A (getAttrBy (.ref a) (.str "__class__" tk) false) Q E ⟨h, g, d, t, os⟩ := by
  have FB := F.attrBase_ValueError
  have f3 := FB.ga.bind (.ref a)
  have hx2 : (Value.builtin "BaseException.__getattribute__" == Value.builtin "object.__getattribute__") = false := by decide +kernel
  have hx1 : (onTheHeap (Value.ref C) && Value.builtin "BaseException.__getattribute__" == Value.builtin "object.__getattribute__") = false := by rw [hx2]; rfl
  have hm1 : ("__getattribute__" : Str) ∈ xNames := .tail _ (.head _)
  have hm2 : ("__getattr__" : Str) ∈ xNames := .tail _ (.tail _ (.head _))
  repeat (any_goals (first | assumption | (with_reducible refine wpAny_loadPart_at hx ?_; rw [hc]) | with_reducible refine look_x hm1 x FB.ga.lookup ?_ | with_reducible refine look_x hm2 x FB.noGetattr ?_ | wp_step))
  refine codeAny_call_builtin FB.ga.plain F.entry_bexc_ga (check_ga_x x hx hc (class_entry_x x hx hc ?_))
  repeat (any_goals (first | assumption | wp_step))
theorem class_attr_x {Q : Option Value → Shared → Prop} (x : XC h C bm) (hx : h.get? a = some o) (hc : o.cls = .ref C) (hq : Q (some (.ref C)) ⟨h, g, d, t + 1, os⟩) : wpAny (model prog w) A (getAttr? (.ref a) "__class__") Q E ⟨h, g, d, t, os⟩ := by
  unfold getAttr? getAttrBy?
  repeat (any_goals (first | assumption | with_reducible apply class_by_x x hx hc | wp_step))
theorem isi_nested_x {dep : Int} {tk : Tok} {Q : Fin → Shared → Prop} (x : XC h C bm) (y : XC h D bm') (hx : h.get? a = some o) (hc : o.cls = .ref C) (hq : ∀ t', Q (.done (.ret (.bool ((Value.ref C :: bm).contains (.ref D))))) ⟨h, g, d, t', os⟩) :
    wpAny (model prog w) A (Builtin.«isinstance.nested» ⟨[.ref a, .ref D, .int dep tk], []⟩) Q E ⟨h, g, d, t, os⟩ := by
  obtain ⟨oD, hoD, hcD, cdD, hdD⟩ := y.obj
  try clear y
  obtain ⟨oC, hoC, hcC, cdC, hdC⟩ := x.obj
  by_cases hCD : C = D
  · subst hCD
    have e : (Value.ref C :: bm).contains (.ref C) = true := by simp
    rw [e] at hq
    have hq0 := hq t
    have hb : (Value.ref C == Value.ref C) = true := by simp
    repeat (any_goals (first | assumption | (with_reducible refine wpAny_loadPart_at hx ?_; rw [hc]) | wp_step))
  · have hne : (Value.ref C == Value.ref D) = false := by simpa using hCD
    have f1 := tc_notTuple
    cases hb : (Value.ref C :: bm).contains (.ref D) with
    | true =>
      rw [hb] at hq
      have hq0 := hq t
      repeat (any_goals (first | assumption | (with_reducible refine wpAny_loadPart_at hx ?_; rw [hc]) | (with_reducible refine wpAny_loadPart_at hoD ?_; try rw [hcD]) | (with_reducible refine sub_x x ?_; rw [hb]) | wp_step))
    | false =>
      rw [hb] at hq
      have hq0 := hq (t + 1)
      repeat (any_goals (first | assumption | (with_reducible refine wpAny_loadPart_at hx ?_; rw [hc]) | (with_reducible refine wpAny_loadPart_at hoD ?_; try rw [hcD]) | (with_reducible refine sub_x x ?_; rw [hb]) | (with_reducible refine class_attr_x x hx hc ?_) | wp_step))
theorem isi_nested_v {dep : Int} {tk : Tok} {Q : Fin → Shared → Prop} (x : XC h C bm) (hx : h.get? a = some o) (hc : o.cls = .ref C) (hq : Q (.done (.ret (.bool true))) ⟨h, g, d, t, os⟩) :
    wpAny (model prog w) A (Builtin.«isinstance.nested» ⟨[.ref a, .type "ValueError", .int dep tk], []⟩) Q E ⟨h, g, d, t, os⟩ := by
  have hne : (Value.ref C == Value.type "ValueError") = false := rfl
  have hb := x.base (v := .type "ValueError") (by decide)
  have hty : typeOf (.type "ValueError") = pure (.type "type") := by kernel_rfl
  repeat (any_goals (first | assumption | (with_reducible refine wpAny_loadPart_at hx ?_; rw [hc]) | (with_reducible refine sub_x x ?_; rw [hb]) | wp_step))
end
section
variable {prog : Program} {w : World} {A : Around} {E : Value → Shared → Prop} {s : Shared} {a C D : Addr} {o : Obj} {bm bm' : List Value} {Q : Value → Shared → Prop}
theorem isi_own_x (x : XC s.heap C bm) (y : XC s.heap D bm') (hx : s.heap.get? a = some o) (hc : o.cls = .ref C) (hq : ∀ tk, Q (.bool ((Value.ref C :: bm).contains (.ref D))) { s with toks := tk }) :
    wpAny (model prog w) A (call (.builtin "isinstance") [.ref a, .ref D]) Q E s :=
  call_isinstance (S := fun _ R s => (XC s.heap C bm ∧ XC s.heap D bm' ∧ s.heap.get? a = some o) ∧ ∀ tk, R (.ok (.ret (.bool ((Value.ref C :: bm).contains (.ref D))))) { s with toks := tk })
    (fun _ _ _ _ _ hs => isinstance_outer (isi_nested_x hs.1.1 hs.1.2.1 hs.1.2.2 hc hs.2) nofun) ⟨⟨x, y, hx⟩, hq⟩
theorem isi_val_x (x : XC s.heap C bm) (hx : s.heap.get? a = some o) (hc : o.cls = .ref C) (hq : ∀ tk, Q (.bool true) { s with toks := tk }) :
    wpAny (model prog w) A (call (.builtin "isinstance") [.ref a, .type "ValueError"]) Q E s :=
  call_isinstance (S := fun _ R s => (XC s.heap C bm ∧ s.heap.get? a = some o) ∧ R (.ok (.ret (.bool true))) s)
    (fun _ _ _ _ _ hs => isinstance_outer (isi_nested_v hs.1.1 hs.1.2 hc hs.2) nofun) ⟨⟨x, hx⟩, hq s.toks⟩
end
end Mine

end
noncomputable section
namespace Mine
open PySem PySem.Calls PyProof.Rows

section
variable {c : Cx} {A : Around} {E : Value → Shared → Prop} {s : Shared} {as : Adr} {X : List Addr} {H H' : AH} {Q : QE}

theorem VRs.len_arr {vs : List V} {items : Array Value} {h : HP} (r : VRs c as X h vs items.toList) : items.size = vs.length := by
  have := r.length
  simp only [Array.length_toList] at this
  exact this.symm

/-- x is a list nobody else has -/
inductive FreshL (c : Cx) (as : Adr) (X : List Addr) (s : Shared) (vs : List V) (x : Value) (s' : Shared) : Prop
  | mk (a : Addr) (items : Array Value) : x = .ref a → s.heap.get? a = none → c.base.get? a = none → Grown s.heap s'.heap → s'.gens = s.gens → s'.os = s.os → s'.heap.PlainList a items → VRs c as X s.heap vs items.toList → vs.length ≤ bnd → FreshL c as X s vs x s'

theorem SR.not_as (S : SR c as X H s) {a : Addr} (hn : s.heap.get? a = none) : some a ∉ as := fun q => by
  obtain ⟨i, hi⟩ := List.getElem?_of_mem q
  refine ea0_3 (S.objs i _ hi) ?_
  intro _ _ r_3
  refine ea1_2 r_3 ?_
  try clear r_3
  intro o _ ho
  obtain ⟨ob, e⟩ := OR.here ho
  rw [hn] at e; cases e
theorem SR.not_x (S : SR c as X H s) {a : Addr} (hn : s.heap.get? a = none) : a ∉ X := fun q => by
  obtain ⟨o, e⟩ := S.xs _ q
  rw [hn] at e; cases e
theorem SR.base_none (S : SR c as X H s) {a : Addr} (hn : s.heap.get? a = none) : c.base.get? a = none := by
  cases h : c.base.get? a with
  | none => rfl
  | some o => rw [S.stays a o h] at hn; cases hn
theorem get_fresh (h : HP) : h.get? h.objs.size = none := by
  cases e : h.get? h.objs.size with
  | none => rfl
  | some o => exact absurd (Heap.lt_size e) (Nat.lt_irrefl _)

theorem FreshL.frozen {vs : List V} {x : Value} {s' : Shared} (S : SR c as X H s) (f : FreshL c as X s vs x s') (q : Q (.lst vs) H) : Res c as X s.heap Q x s' := by
  obtain ⟨a, items, rfl, hn, hb, g, hg, hos, ⟨n, hp⟩, r, hl⟩ := f
  exact Res.grow S g hg hos (.lst (S.not_as hn) (S.not_x hn) ⟨n, hp⟩ (r.grow g) hl) q

theorem ext_snoc (as : Adr) (h : HP) (a : Addr) (hn : h.get? a = none) : Ext as h (as ++ [some a]) :=
  ⟨fun i y e => .inl (by rw [List.getElem?_append_left (List.getElem?_eq_some_iff.mp e).1]; exact e), fun b hb => by
    rcases List.mem_append.mp hb with q | q
    · exact .inl q
    · simp only [List.mem_singleton, Option.some.injEq] at q; subst q; exact .inr hn⟩

theorem OR.keepE {as' : Adr} {h h' : HP} {a : Addr} {o : O} (k : VK as X h h') (x : Ext as h as') (hnd : ∀ (i : Nat) (b : Addr), as[i]? = some (some b) → as'[i]? = some (some b))
    (ha : ∀ ob, h.get? a = some ob → h'.get? a = some ob) : OR c as X h a o → OR c as' X h' a o := by
  intro z
  try clear i; try clear b
  cases o with
  | list vs => obtain ⟨hb, items, ⟨n, e⟩, r⟩ := z; exact ⟨hb, items, ⟨n, ha _ e⟩, r.keepX k x⟩
  | dict ks vs => obtain ⟨hb, hsm, cs, hd, hl, r⟩ := z; exact ⟨hb, hsm, cs, DictOf.same hd ha, hl, r.keepX k x⟩
  | inst k d => obtain ⟨dx, ob, e1, e2, r1, r2, r3⟩ := z; exact ⟨dx, ob, hnd _ _ e1, ha _ e2, r1, r2, r3⟩
  | ns ks vs => obtain ⟨hb, cs, mA, hn, hl, r, hm⟩ := z; exact ⟨hb, cs, mA, hn.at ha, hl, r.keepX k x, hm⟩
  | dead => exact z.elim

/-- a new object of the abstract heap -/
theorem SR.alloc {s' : Shared} {a : Addr} {o : O} (S : SR c as X H s) (hn : s.heap.get? a = none) (g : Grown s.heap s'.heap) (hg : s'.gens = s.gens) (hos : s'.os = s.os) (ho : OR c (as ++ [some a]) X s'.heap a o) :
    SR c (as ++ [some a]) X (H ++ [o]) s' where
  len := by simp [S.len]
  stays := fun b o e => g b o (S.stays b o e)
  gens := hg.trans S.gens
  os := hos.trans S.os
  objs := fun i b hi => by
    by_cases hlt : i < as.length
    · rw [List.getElem?_append_left hlt] at hi
      refine ea0_3 (S.objs i b hi) ?_
      intro h1 h2 r_3
      refine ea1_2 r_3 ?_
      try clear r_3
      intro o' h3 h4
      refine ⟨h1, h2, o', by rw [List.getElem?_append_left (by rw [← S.len]; exact hlt)]; exact h3, ?_⟩
      exact h4.keepE (g.kept as X).x (ext_snoc as _ a hn) (fun j b' e => by rw [List.getElem?_append_left (List.getElem?_eq_some_iff.mp e).1]; exact e) fun ob e => g b ob e
    · have hi' : i = as.length := by
        have := (List.getElem?_eq_some_iff.mp hi).1
        simp at this; lia
      subst hi'
      simp at hi
      subst hi
      exact ⟨S.base_none hn, S.not_x hn, o, by simp [S.len], ho⟩
  inj := fun i j b hi hj => by
    have key : ∀ k : Nat, (as ++ [some a])[k]? = some (some b) → (as[k]? = some (some b)) ∨ (k = as.length ∧ b = a) := fun k hk => by
      by_cases hlt : k < as.length
      · rw [List.getElem?_append_left hlt] at hk; exact .inl hk
      · have hk' : k = as.length := by
          have := (List.getElem?_eq_some_iff.mp hk).1
          simp at this; lia
        subst hk'
        simp at hk
        exact .inr ⟨rfl, hk.symm⟩
    rcases key i hi with h1 | ⟨h1, h1'⟩ <;> rcases key j hj with h2 | ⟨h2, h2'⟩
    · exact S.inj i j b h1 h2
    · subst h2'; exact absurd (List.mem_of_getElem? h1) (S.not_as hn)
    · subst h1'; exact absurd (List.mem_of_getElem? h2) (S.not_as hn)
    · rw [h1, h2]
  dead := fun i hi => by
    by_cases hlt : i < as.length
    · rw [List.getElem?_append_left hlt] at hi
      rw [List.getElem?_append_left (by rw [← S.len]; exact hlt)]; exact S.dead i hi
    · have hi' : i = as.length := by
        have := (List.getElem?_eq_some_iff.mp hi).1
        simp at this; lia
      subst hi'
      simp at hi
  xs := fun b hb => let ⟨o, e⟩ := S.xs b hb; ⟨o, g b o e⟩

theorem FreshL.thawed {vs : List V} {x : Value} {s' : Shared} (S : SR c as X H s) (f : FreshL c as X s vs x s') (q : Q (.ref H.length) (H ++ [.list vs])) : Res c as X s.heap Q x s' := by
  obtain ⟨a, items, rfl, hn, hb, g, hg, hos, hp, r, hl⟩ := f
  have E := ext_snoc as s.heap a hn
  refine ⟨.ref H.length, _, as ++ [some a], E, S.alloc (o := .list vs) hn g hg hos ⟨hl, items, hp, r.keep (g.kept as X) E⟩, g.kept as X, .ref ?_, q⟩
  rw [← S.len]; simp

theorem fresh_either {mu : Bool} {p : Prim} {us ws : List V} {t : Sem Value} (S : SR c as X H s) (hp : prim c.P p us H = some (.lst ws, H)) (hw : ∀ R : Value → Shared → Prop, (∀ x s', FreshL c as X s ws x s' → R x s') → wpAny c.M A t R E s)
    (q : okE (primM c.P mu p us H) Q) : wpAny c.M A t (Res c as X s.heap Q) E s := by
  cases mu with
  | false =>
    simp only [primM, hp, okE, Bool.false_eq_true, if_false] at q
    exact hw _ fun x s' f => f.frozen S q
  | true =>
    unfold primM at q
    simp only [if_true] at q
    split at q
    · simp only [hp, Option.bind_some, thaw, okE] at q
      exact hw _ fun x s' f => f.thawed S q
    · exact q.elim

theorem lenV_is {v : V} {n : Nat} (e : lenV H v = some n) : (∃ s, v = .str s ∧ n = s.length) ∨ (∃ vs, v = .tup vs ∧ n = vs.length) ∨ (∃ vs, view H v = some vs ∧ n = vs.length) ∨ ∃ d, dview H v = some d ∧ n = d.1.length := by
  have h : lenO ((dview H v).map fun d => d.1.length) (view H v) = some n → (∃ vs, view H v = some vs ∧ n = vs.length) ∨ ∃ d, dview H v = some d ∧ n = d.1.length := fun e => by
    cases hv : view H v with
    | some vs => rw [hv] at e; exact .inl ⟨vs, rfl, (Option.some.inj e).symm⟩
    | none => rw [hv] at e; obtain ⟨d, h1, h2⟩ := map_is e; exact .inr ⟨d, h1, h2.symm⟩
  cases v with
  | str s => exact .inl ⟨s, rfl, (Option.some.inj e).symm⟩
  | tup vs => exact .inr (.inl ⟨vs, rfl, (Option.some.inj e).symm⟩)
  | _ => exact .inr (.inr (h e))
theorem bnd_le {n : Nat} (h : n ≤ bnd) : (n : Int) < 2 ^ 63 := Int.lt_trans (Int.lt_of_le_of_lt (Int.ofNat_le.mpr h) bnd_lt) (by decide)
theorem sz_bnd {n : Nat} (h : n ≤ sizeOf') : n ≤ bnd := Nat.le_trans h (Nat.le_trans (Nat.le_add_right _ 5) sizeOf'_bnd)
theorem p_len {v r : V} {cv : Value} (S : SR c as X H s) (hv : VR c as X s.heap v cv) (e : pLen [v] H = some (r, H')) (q : Q r H') : wpAny c.M A (call (.builtin "len") [cv]) (Res c as X s.heap Q) E s := by
  refine ea1_2 (map_is e) ?_
  intro n e1 e2
  try clear e
  cases e2
  have F := fun t tk => Res.now (tk := tk) S (VR.int n t) q
  try clear e2; try clear n; try clear q
  rcases lenV_is e1 with ⟨s, rfl, rfl⟩ | ⟨vs, rfl, rfl⟩ | ⟨vs, hvs, rfl⟩ | ⟨d, hd, rfl⟩
  · try clear e1; try clear S
    cases hv.inv with
    | str _ hs =>
      refine len_str ?_ ?_
      · rw [toS_length]; exact Int.not_le.mpr (bnd_le hs)
      · rw [toS_length]; exact F _ _
  · cases hv.inv with
    | tup h1 h2 h3 r hs =>
      have hl := r.len_arr
      refine P.len_tuple h3 ?_ ?_
      · rw [hl]; exact Int.not_le.mpr (bnd_le hs)
      · rw [hl]; exact F _ _
  · replace S := view_at S hv hvs
    obtain ⟨a, items, rfl, hp, r, hs⟩ := S
    try clear hv
    have hl := r.len_arr
    refine call_len_list hp.isList ?_ ?_
    · rw [hl]; exact bnd_le hs
    · rw [hl]; exact F _ _
  · replace S := dview_at S hv hd
    obtain ⟨a, cs, rfl, hsm, hp, hl, r, hs⟩ := S
    try clear hv
    have hlz : ((d.1.map toS).zip cs).length = d.1.length := by rw [List.length_zip, List.length_map, ← hl, Nat.min_self]
    refine call_len_dict (knd := c.kd) hsm hp ?_ ?_
    · rw [hlz, hl, ← r.length]; exact bnd_le hs
    · rw [hlz]; exact F _ _

noncomputable def tyName : Ty → String
  | .int => "int" | .bool => "bool" | .str => "str" | .list => "list" | .tuple => "tuple" | .valueError => "ValueError" | .cls _ => ""
theorem isi_int {t : Ty} {R : Value → Shared → Prop} {i : Int} {u : Tok} (ht : t ≠ .valueError ∧ ∀ k, t ≠ .cls k) (F : ∀ tk, R (.bool (t == .int)) { s with toks := tk }) : wpAny c.M A (call (.builtin "isinstance") [.int i u, .type (tyName t)]) R E s := by
  cases t <;> first | exact IsiPair.int_int (F _) | exact IsiPair.int_bool (F _) | exact IsiPair.int_str (F _) | exact IsiPair.int_list (F _) | exact IsiPair.int_tuple (F _) | exact absurd rfl ht.1 | exact absurd rfl (ht.2 _)
theorem isi_bool {t : Ty} {R : Value → Shared → Prop} {b : Bool} (ht : t ≠ .valueError ∧ ∀ k, t ≠ .cls k) (F : ∀ tk, R (.bool (t == .int || t == .bool)) { s with toks := tk }) : wpAny c.M A (call (.builtin "isinstance") [.bool b, .type (tyName t)]) R E s := by
  cases t <;> first | exact IsiPair.bool_int (F _) | exact IsiPair.bool_bool (F _) | exact IsiPair.bool_str (F _) | exact IsiPair.bool_list (F _) | exact IsiPair.bool_tuple (F _) | exact absurd rfl ht.1 | exact absurd rfl (ht.2 _)
theorem isi_str {t : Ty} {R : Value → Shared → Prop} {x : Str} {u : Tok} (ht : t ≠ .valueError ∧ ∀ k, t ≠ .cls k) (F : ∀ tk, R (.bool (t == .str)) { s with toks := tk }) : wpAny c.M A (call (.builtin "isinstance") [.str x u, .type (tyName t)]) R E s := by
  cases t <;> first | exact IsiPair.str_int (F _) | exact IsiPair.str_bool (F _) | exact IsiPair.str_str (F _) | exact IsiPair.str_list (F _) | exact IsiPair.str_tuple (F _) | exact absurd rfl ht.1 | exact absurd rfl (ht.2 _)
theorem isi_tuple {t : Ty} {R : Value → Shared → Prop} {a : Addr} {its : Array Value} {n : Nat} (ho : s.heap.get? a = some { cls := .type "tuple", data := .seq its n }) (ht : t ≠ .valueError ∧ ∀ k, t ≠ .cls k) (F : ∀ tk, R (.bool (t == .tuple)) { s with toks := tk }) : wpAny c.M A (call (.builtin "isinstance") [.ref a, .type (tyName t)]) R E s := by
  cases t <;> first | exact IsiPair.tuple_int ho rfl (F _) | exact IsiPair.tuple_bool ho rfl (F _) | exact IsiPair.tuple_str ho rfl (F _) | exact IsiPair.tuple_list ho rfl (F _) | exact IsiPair.tuple_tuple ho rfl (F _) | exact absurd rfl ht.1 | exact absurd rfl (ht.2 _)
theorem isi_list {t : Ty} {R : Value → Shared → Prop} {a : Addr} {its : Array Value} {n : Nat} (ho : s.heap.get? a = some { cls := .type "list", data := .seq its n }) (ht : t ≠ .valueError ∧ ∀ k, t ≠ .cls k) (F : ∀ tk, R (.bool (t == .list)) { s with toks := tk }) : wpAny c.M A (call (.builtin "isinstance") [.ref a, .type (tyName t)]) R E s := by
  cases t <;> first | exact IsiPair.list_int ho rfl (F _) | exact IsiPair.list_bool ho rfl (F _) | exact IsiPair.list_str ho rfl (F _) | exact IsiPair.list_list ho rfl (F _) | exact IsiPair.list_tuple ho rfl (F _) | exact absurd rfl ht.1 | exact absurd rfl (ht.2 _)
theorem isi_NoneType {t : Ty} {R : Value → Shared → Prop} (ht : t ≠ .valueError ∧ ∀ k, t ≠ .cls k) (F : ∀ tk, R (.bool false) { s with toks := tk }) : wpAny c.M A (call (.builtin "isinstance") [.none, .type (tyName t)]) R E s := by
  cases t <;> first | exact IsiPair.NoneType_int (F _) | exact IsiPair.NoneType_bool (F _) | exact IsiPair.NoneType_str (F _) | exact IsiPair.NoneType_list (F _) | exact IsiPair.NoneType_tuple (F _) | exact absurd rfl ht.1 | exact absurd rfl (ht.2 _)
theorem isi_dict {t : Ty} {R : Value → Shared → Prop} {a : Addr} {o : Obj} (ho : s.heap.get? a = some o) (hx : o.cls = .type "dict") (ht : t ≠ .valueError ∧ ∀ k, t ≠ .cls k) (F : ∀ tk, R (.bool false) { s with toks := tk }) : wpAny c.M A (call (.builtin "isinstance") [.ref a, .type (tyName t)]) R E s := by
  cases t <;> first | exact IsiPair.dict_int ho hx (F _) | exact IsiPair.dict_bool ho hx (F _) | exact IsiPair.dict_str ho hx (F _) | exact IsiPair.dict_list ho hx (F _) | exact IsiPair.dict_tuple ho hx (F _) | exact absurd rfl ht.1 | exact absurd rfl (ht.2 _)
theorem p_isinst {v r : V} {t : Ty} {cv : Value} (S : SR c as X H s) (hv : VR c as X s.heap v cv) (ht : t ≠ .valueError ∧ ∀ k, t ≠ .cls k) (e : pIsinst t [v] H = some (r, H')) (q : Q r H') :
    wpAny c.M A (call (.builtin "isinstance") [cv, .type (tyName t)]) (Res c as X s.heap Q) E s := by
  refine ea1_2 (map_is e) ?_
  intro b e1 e2
  try clear e
  cases e2
  have F := fun tk => Res.now (tk := tk) S (VR.bool b) q
  try clear e2; try clear b; try clear q
  cases v with
  | int i => cases hv.inv; cases e1; exact isi_int ht F
  | bool i => cases hv.inv; cases e1; exact isi_bool ht F
  | str i => cases hv.inv; cases e1; exact isi_str ht F
  | none => cases hv.inv; cases e1; exact isi_NoneType ht F
  | tup vs => cases hv.inv with | tup _ _ ho _ _ => cases e1; exact isi_tuple ho ht F
  | lst vs => cases hv.inv with | lst _ _ hp _ _ => cases e1; obtain ⟨n, ho⟩ := hp; exact isi_list ho ht F
  | dct ks vs => cases hv.inv with | dct _ _ _ hp _ _ _ => cases e1; obtain ⟨o, es, ep, ho, hx, _⟩ := hp; exact isi_dict ho hx.1 ht F
  | ref i =>
    replace e1 := bind_is e1
    refine ea1_2 e1 ?_
    try clear e1
    intro o ho' e1
    cases hv.inv with
    | ref hi =>
      refine ea0_3 (S.objs _ _ hi) ?_
      intro _ _ r_3
      refine ea1_2 r_3 ?_
      try clear r_3
      intro o ho hr
      try clear S
      try clear hv
      replace ho := ho.symm.trans ho'
      cases ho
      try clear ho; try clear ho'
      cases o with
      | list vs => cases e1; obtain ⟨_, items, ⟨n, hg⟩, _⟩ := hr; exact isi_list hg ht F
      | dict ks vs => cases e1; obtain ⟨_, _, cs, ⟨o, es, ep, hg, hx, _⟩, _⟩ := hr; exact isi_dict hg hx.1 ht F
      | _ => cases e1
    | refD hi => cases (S.dead _ hi).symm.trans ho'; cases e1
  | _ => cases e1

theorem p_range1 {v r : V} {cv : Value} (S : SR c as X H s) (hv : VR c as X s.heap v cv) (e : pRange1 [v] H = some (r, H')) (q : Q r H') : wpAny c.M A (call (.type "range") [cv]) (Res c as X s.heap Q) E s := by
  replace e := bind_is e
  refine ea1_2 e ?_
  try clear e
  intro b h1 e
  replace h1 := V.num_is h1
  cases h1
  replace e := ite_is e
  obtain ⟨hsm, e⟩ := e
  cases e
  cases hv.inv
  refine call_range_1 ?_
  exact Res.grow (s' := { s with heap := _, toks := _ }) S (.push _ _) rfl rfl (.rng (fresh_out S) (fresh_x S) (IsRange.new ..) (by decide) hsm) q
theorem p_range2 {v w r : V} {cv cw : Value} (S : SR c as X H s) (hv : VR c as X s.heap v cv) (hw : VR c as X s.heap w cw) (e : pRange2 [v, w] H = some (r, H')) (q : Q r H') : wpAny c.M A (call (.type "range") [cv, cw]) (Res c as X s.heap Q) E s := by
  replace e := bind_is e
  refine ea1_2 e ?_
  try clear e
  intro a h1 e
  replace e := bind_is e
  refine ea1_2 e ?_
  try clear e
  intro b h2 e
  try clear b; try clear a
  replace h1 := V.num_is h1
  cases h1
  try clear h1
  replace h2 := V.num_is h2
  cases h2
  replace e := ite_is e
  obtain ⟨hsm, e⟩ := e
  have hsm := Bool.and_eq_true_iff.mp hsm
  try clear h2
  cases e
  try clear e
  cases hv.inv
  try clear hv
  cases hw.inv
  refine call_range_2 ?_
  exact Res.grow (s' := { s with heap := _, toks := _ }) S (.push _ _) rfl rfl (.rng (fresh_out S) (fresh_x S) (IsRange.new ..) hsm.1 hsm.2) q
theorem rangeSize_eq (a b : Int) : Builtin.Range.rangeSize a b 1 = ((b - a).toNat : Nat) := by
  unfold Builtin.Range.rangeSize
  simp only [show (1 : Int) > 0 from by decide, if_true]
  split <;> lia
theorem vrs_range {h : HP} {acc : Array Value} {a : Int} {n : Nat} (hi : ItemsOf (fun i v => ∃ t, v = Value.int (a + i * 1) t) acc n) : VRs c as X h ((List.range n).map fun (i : Nat) => V.int (a + i)) acc.toList := by
  obtain ⟨h1, h2⟩ := hi
  subst h1
  have key : ∀ (l : List Value) (k : Nat), (∀ j v, l[j]? = some v → ∃ t, v = Value.int (a + ((k + j : Nat) : Int)) t) → VRs c as X h ((List.range' k l.length).map fun (i : Nat) => V.int (a + i)) l := by
    intro l
    induction l with
    | nil => intro k _; exact .nil
    | cons x l ih =>
      intro k hx
      obtain ⟨t, e⟩ := hx 0 x rfl
      subst e
      rw [List.length_cons, List.range'_succ, List.map_cons]
      refine .cons (by simpa using VR.int _ _) (ih (k + 1) fun j v hv => ?_)
      obtain ⟨t, e⟩ := hx (j + 1) v (by simpa using hv)
      exact ⟨t, by rw [e]; congr 2; lia⟩
  have := key acc.toList 0 fun j v hv => by
    obtain ⟨t, e⟩ := h2 j v (by simpa using hv)
    try clear h2
    exact ⟨t, by rw [e]; simp⟩
  rw [List.range_eq_range']
  simpa using this
theorem range_small {a b : Int} (ha : smallInt a = true) (hb : smallInt b = true) : Builtin.Range.small a b 1 = true := by
  simp only [smallInt, decide_eq_true_eq] at ha hb
  have f : ∀ i : Int, -10 ^ 14 ≤ i → i ≤ 10 ^ 14 → Builtin.Range.rangeFitsLong i = true := fun i h1 h2 => by
    simp only [Builtin.Range.rangeFitsLong, Bool.and_eq_true, decide_eq_true_eq]; lia
  have hs := rangeSize_eq a b
  unfold Builtin.Range.small
  rw [f a (by lia) (by lia), f b (by lia) (by lia), f 1 (by decide) (by decide), f _ (by rw [hs]; lia) (by rw [hs]; lia)]
  simp only [show (1 : Int) > 0 from by decide, if_true, f (b + (1 - 1)) (by lia) (by lia), Bool.or_true, Bool.and_true]
theorem rngL_length (a b : Int) : (rngL a b).length = (b - a).toNat := by simp [rngL]
theorem freshL_G {h' : HP} {tk n : Nat} {items : Array Value} {vs : List V} (S : SR c as X H s) (g : Grown s.heap h') (ho : h'.get? s.heap.objs.size = some { cls := .type "list", data := .seq items n }) (hv : VRs c as X s.heap vs items.toList) (hb : vs.length ≤ bnd) :
    FreshL c as X s vs (.ref s.heap.objs.size) { s with heap := h', toks := tk } :=
  ⟨_, items, rfl, get_fresh _, S.base_none (get_fresh _), g, rfl, rfl, ⟨n, ho⟩, hv, hb⟩
theorem listV_is {v : V} {ws : List V} (e : listV H v = some (.lst ws)) : (∃ a b, v = .rng a b ∧ (b - a).toNat ≤ sizeOf' ∧ ws = rngL a b) ∨ (v = .tup ws ∧ ws.length ≤ sizeOf') ∨ view H v = some ws ∧ ws.length ≤ sizeOf' := by
  have h : ((view H v).bind fun vs => if vs.length ≤ sizeOf' then some (V.lst vs) else none) = some (.lst ws) → view H v = some ws ∧ ws.length ≤ sizeOf' := fun e => by
    replace e := bind_is e
    refine ea1_2 e ?_
    try clear e
    intro vs h1 e
    try clear vs
    cases (ite_is e).2
    exact ⟨h1, (ite_is e).1⟩
  cases v with
  | rng a b => cases (ite_is e).2; exact .inl ⟨a, b, rfl, (ite_is e).1, rfl⟩
  | tup vs => cases (ite_is e).2; exact .inr (.inl ⟨rfl, (ite_is e).1⟩)
  | _ => exact .inr (.inr (h e))
theorem p_list {v : V} {ws : List V} {cv : Value} {R : Value → Shared → Prop} (hh : A.handled = none) (S : SR c as X H s) (hv : VR c as X s.heap v cv) (e : pList [v] H = some (.lst ws, H')) (hR : ∀ x s', FreshL c as X s ws x s' → R x s') :
    wpAny c.M A (call (.type "list") [cv]) R E s := by
  have hz := sizeOf'_bnd
  have hz2 := sizeOf'_le
  refine ea1_2 (map_is e) ?_
  intro r e1 e2
  try clear e
  cases e2
  rcases listV_is e1 with ⟨a, b, rfl, hb, rfl⟩ | ⟨rfl, hb⟩ | ⟨hvs, hb⟩
  · cases hv.inv with
    | rng h1 h2 h3 h4 h5 =>
      refine call_list_range hh h3 ?_ (rangeSize_eq a b) ?_ fun h' tk acc c' g ho hi => ?_
      · exact range_small h4 h5
      · rw [sizeLine_eq] at hz2; (exact Nat.le_trans (by assumption) (by decide))
      · exact hR _ _ (freshL_G S g ho (vrs_range hi) (by rw [rngL_length]; exact sz_bnd hb))
  · try clear e2; try clear e1; try clear hz; try clear hh
    cases hv.inv with
    | tup h1 h2 h3 r hs =>
      have hl := r.len_arr
      refine call_list_seq _ (.inr rfl) h3 rfl rfl (fun h' c' g ho => ?_) (by rw [hl]; exact Nat.le_trans hb hz2)
      exact hR _ _ (freshL_G (tk := s.toks) S g ho r hs)
  · replace hv := view_at S hv hvs
    obtain ⟨a, items, rfl, ⟨n, hp⟩, r, hs⟩ := hv
    have hl := r.len_arr
    refine call_list_seq _ (.inl rfl) hp rfl rfl (fun h' c' g ho => ?_) (by rw [hl]; exact Nat.le_trans hb hz2)
    exact hR _ _ (freshL_G (tk := s.toks) S g ho r hs)
theorem p_intb {r : V} {cv : Value} {b : Bool} (S : SR c as X H s) (hv : VR c as X s.heap (.bool b) cv) (e : pInt [.bool b] H = some (r, H')) (q : Q r H') : wpAny c.M A (call (.type "int") [cv]) (Res c as X s.heap Q) E s := by
  cases e
  try clear e
  cases hv.inv
  exact call_int_bool (Res.now S (.int _ _) q)
theorem bools_some : ∀ {vs : List V} {bs : List Bool}, bools? vs = some bs → vs = bs.map V.bool
  | [], bs, h => by cases h; rfl
  | v :: vs, bs, h => by
    cases v with
    | bool b =>
      refine ea1_2 (Option.map_eq_some_iff.mp h) ?_
      intro r h1 q_3
      subst q_3
      rw [bools_some h1]; rfl
    | _ => cases h
theorem p_all {v r : V} {cv : Value} (hh : A.handled = none) (S : SR c as X H s) (hv : VR c as X s.heap v cv) (e : pAll [v] H = some (r, H')) (q : Q r H') : wpAny c.M A (call (.builtin "all") [cv]) (Res c as X s.heap Q) E s := by
  refine ea1_2 (Option.map_eq_some_iff.mp e) ?_
  intro bs h1 h2
  cases h2
  refine ea1_2 (Option.bind_eq_some_iff.mp h1) ?_
  intro vs h3 h4
  try clear h1
  try clear vs; try clear h2
  replace hv := view_at S hv h3
  obtain ⟨a, items, rfl, hp, r, hs⟩ := hv
  try clear h3
  have hvs := bools_some h4
  try clear hs; try clear h4; try clear hv
  subst hvs
  have hl := r.len_arr
  rw [List.length_map] at hl
  have hin : some a ≠ some s.heap.objs.size := fun q => by
    obtain ⟨n, e⟩ := hp
    try clear n; try clear hl; try clear hvs; try clear r; try clear hp; try clear items; try clear a; try clear bs; try clear S; try clear hh
    cases q
    exact absurd (Heap.lt_size e) (Nat.lt_irrefl _)
  refine call_all_walk (wpAny_pyIter_list hp.isList ?_)
  refine ⟨_, _, _, _, _, _, fun i => (bs[i]?).getD true, rfl, Walks.list (A := A.in1) hh s.heap.objs.size a (fun q => hin (congrArg some q)) items, ⟨⟨_, Heap.get?_push_size _ rfl, rfl, rfl⟩, let ⟨o, e, r⟩ := hp.isList; ⟨o, Heap.get?_push_of_some _ e, r⟩⟩, ?_, fun h' tk hk => ?_⟩
  · intro i v s' Q' E' hi hq
    rw [← Array.getElem?_toList] at hi
    refine ea1_2 (r.get' hi) ?_
    intro w hw hvw
    try clear r
    rw [List.getElem?_map, Option.map_eq_some_iff] at hw
    try clear w; try clear e; try clear q
    refine ea1_2 hw ?_
    try clear hw
    intro b hb q_3
    subst q_3
    try clear b; try clear hw
    cases hvw.inv
    dsimp only at hq
    rw [hb] at hq
    exact wpAny_truthy_bool hq
  · have g : Grown s.heap h' := fun b o e => hk b o (fun q => by simp at q; subst q; exact absurd (Heap.lt_size e) (Nat.lt_irrefl _)) (Heap.get?_push_of_some _ e)
    have hr : (List.range items.size).all (fun i => (bs[i]?).getD true) = bs.all id := by
      rw [hl, Bool.eq_iff_iff, List.all_eq_true, List.all_eq_true]
      constructor
      · intro z b hb
        obtain ⟨i, hi⟩ := List.getElem?_of_mem hb
        have := z i (List.mem_range.mpr (List.getElem?_eq_some_iff.mp hi).1)
        rw [hi] at this
        exact this
      · intro z i _
        try clear g
        cases hi : bs[i]? with
        | none => rfl
        | some b => exact z b (List.mem_of_getElem? hi)
    rw [hr]
    exact Res.grow (s' := { s with heap := h', toks := tk }) S g rfl rfl (.bool _) q
theorem min_vr {a b : Int} {t u : Tok} {h : HP} : VR c as X h (.int (min a b)) (if b < a then .int b u else .int a t) := by
  split
  · rw [show min a b = b by lia]; exact .int _ _
  · rw [show min a b = a by lia]; exact .int _ _
theorem p_min {v w r : V} {cv cw : Value} (hh : A.handled = none) (S : SR c as X H s) (hv : VR c as X s.heap v cv) (hw : VR c as X s.heap w cw) (e : pMin [v, w] H = some (r, H')) (q : Q r H') : wpAny c.M A (call (.builtin "min") [cv, cw]) (Res c as X s.heap Q) E s := by
  replace e := bind_is e
  refine ea1_2 e ?_
  try clear e
  intro a h1 e
  replace e := map_is e
  refine ea1_2 e ?_
  try clear e
  intro b h2 e
  try clear b; try clear a
  replace h1 := V.num_is h1
  cases h1
  try clear h1
  replace h2 := V.num_is h2
  cases h2
  try clear h2
  replace e := e; cases hv.inv; cases hw.inv
  cases e
  refine min_two_ints hh fun h' tk g => ?_
  refine Res.grow (s' := { s with heap := h', toks := tk }) S g rfl rfl ?_ q
  exact min_vr
theorem max_vr {a b : Int} {t u : Tok} {h : HP} : VR c as X h (.int (max a b)) (if a < b then .int b u else .int a t) := by
  split
  · rw [show max a b = b by lia]; exact .int _ _
  · rw [show max a b = a by lia]; exact .int _ _
theorem p_max {v w r : V} {cv cw : Value} (hh : A.handled = none) (S : SR c as X H s) (hv : VR c as X s.heap v cv) (hw : VR c as X s.heap w cw) (e : pMax [v, w] H = some (r, H')) (q : Q r H') : wpAny c.M A (call (.builtin "max") [cv, cw]) (Res c as X s.heap Q) E s := by
  replace e := bind_is e
  refine ea1_2 e ?_
  try clear e
  intro a h1 e
  replace e := map_is e
  refine ea1_2 e ?_
  try clear e
  intro b h2 e
  try clear b; try clear a
  replace h1 := V.num_is h1
  cases h1
  try clear h1
  replace h2 := V.num_is h2
  cases h2
  try clear h2
  replace e := e; cases hv.inv; cases hw.inv
  cases e
  refine max_two_ints hh fun h' tk g => ?_
  refine Res.grow (s' := { s with heap := h', toks := tk }) S g rfl rfl ?_ q
  exact max_vr
theorem idx_seq {n : Nat} {i : Int} {j : Nat} (h : idx n i = some j) : seqIndex? i n = some j ∧ j < n ∧ (0 ≤ i → (i : Int) = j) ∧ (i < 0 → i + n = j) := by
  by_cases h0 : 0 ≤ i
  · have e : (if 0 ≤ i then (if i < n then some i.toNat else none) else (if 0 ≤ i + n then some (i + n).toNat else none)) = some j := h
    rw [if_pos h0] at e
    replace e := ite_is e
    obtain ⟨h1, rfl⟩ := e
    exact ⟨PySem.seqIndex_of h0 h1, by lia, fun _ => by lia, fun q => absurd h0 (Int.not_le.mpr q)⟩
  · have e : (if 0 ≤ i then (if i < n then some i.toNat else none) else (if 0 ≤ i + n then some (i + n).toNat else none)) = some j := h
    rw [if_neg h0] at e
    replace e := ite_is e
    obtain ⟨h1, rfl⟩ := e
    exact ⟨PySem.seqIndex_neg (by (exact Int.not_le.mp (by assumption))) (by lia), by lia, fun q => absurd q h0, fun _ => by lia⟩

theorem sub_plain {slice : Expr} (h : ∀ a b p, slice ≠ .Slice a b none p) (o i : Value) : subscripted slice false o i = operate [o, i] (getItem o i) := by
  try clear o; try clear i
  cases slice with
  | Slice a b st p =>
    cases st with
    | none => exact absurd rfl (h a b p)
    | some e => rfl
  | _ => rfl

theorem pi_str {t : List Char} {i : Int} {r : V} {cv : Value} {u : Tok} {value slice : Expr} (hsl : ∀ a b p, slice ≠ .Slice a b none p) (S : SR c as X H s) (hv : VR c as X s.heap (.str t) cv) (e : itemI H (.str t) i = some r) (q : Q r H) :
    wpAny c.M A (subscriptTail value slice cv (.int i u)) (Res c as X s.heap Q) E s := by
  have hb := bnd_lt
  refine ea1_2 (Option.bind_eq_some_iff.mp e) ?_
  intro j h1 h2
  try clear e
  replace h2 := Option.map_eq_some_iff.mp h2
  refine ea1_2 h2 ?_
  try clear h2
  intro ch h3 q_3
  subst q_3
  cases hv.inv with
  | str t hs =>
    refine ea0_4 (idx_seq h1) ?_
    intro g1 g2 g3 g4
    try clear h1
    refine tail_any (typeIs_str _ _ _) slot_str_getitem.lookup (getItem_str ?_ (c := ch.toNat) ?_ ?_) (sub_plain hsl _ _)
    · simp only [Bool.or_eq_false_iff, decide_eq_false_iff_not]; lia
    · rw [toS_length, g1]; simp [toS, h3]
    · exact Res.now S (.str [ch] _ (by simp [bnd])) q
theorem pi_tup {vs : List V} {i : Int} {r : V} {cv : Value} {u : Tok} {value slice : Expr} (hsl : ∀ a b p, slice ≠ .Slice a b none p) (S : SR c as X H s) (hv : VR c as X s.heap (.tup vs) cv) (e : itemI H (.tup vs) i = some r) (q : Q r H) :
    wpAny c.M A (subscriptTail value slice cv (.int i u)) (Res c as X s.heap Q) E s := by
  have hb := bnd_lt
  refine ea1_2 (Option.bind_eq_some_iff.mp e) ?_
  intro j h1 h3
  try clear e
  cases hv.inv with
  | tup k1 k2 k3 rr hs =>
    refine ea0_4 (idx_seq h1) ?_
    intro g1 g2 g3 g4
    try clear h1
    refine ea1_2 (rr.get h3) ?_
    intro y e1 e2
    try clear h3
    have hl := rr.len_arr
    refine tail_any (T := "tuple") ⟨_, k3, rfl⟩ slot_tuple_getitem.lookup (P.getItem_tuple k3 (by lia) (by lia) (by rw [hl]; exact g1) (by simpa using e1) ?_) (sub_plain hsl _ _)
    exact Res.now (tk := s.toks) S e2 q
theorem pi_view {v : V} {i : Int} {r : V} {cv : Value} {u : Tok} {value slice : Expr} (hsl : ∀ a b p, slice ≠ .Slice a b none p) (S : SR c as X H s) (hv : VR c as X s.heap v cv) (e : ((view H v).bind fun vs => (idx vs.length i).bind fun j => vs[j]?) = some r) (q : Q r H) :
    wpAny c.M A (subscriptTail value slice cv (.int i u)) (Res c as X s.heap Q) E s := by
  have hb := bnd_lt
  replace e := Option.bind_eq_some_iff.mp e
  refine ea1_2 e ?_
  try clear e
  intro vs hvs e
  refine ea1_2 (Option.bind_eq_some_iff.mp e) ?_
  intro j h1 h3
  try clear e
  replace hv := view_at S hv hvs
  obtain ⟨a, items, rfl, hp, rr, hs⟩ := hv
  try clear hvs
  refine ea0_4 (idx_seq h1) ?_
  intro g1 g2 g3 g4
  try clear h1
  refine ea1_2 (rr.get h3) ?_
  intro y e1 e2
  try clear h3
  have hl := rr.len_arr
  have fin := Res.now (tk := s.toks) S e2 q
  refine tail_any hp.isList.typeIs slot_list_getitem.lookup ?_ (sub_plain hsl _ _)
  by_cases h0 : 0 ≤ i
  · refine wpAny_getItem_list hp.isList h0 (by lia) ?_ fin
    have := g3 h0
    rw [show i.toNat = j by lia]; simpa using e1
  · refine wpAny_getItem_list_neg hp.isList (by (exact Int.not_le.mp (by assumption))) (by lia) (by lia) ?_ fin
    have := g4 (by (exact Int.not_le.mp (by assumption)))
    rw [hl, show (i + vs.length).toNat = j by lia]; simpa using e1
theorem p_item {v w r : V} {cv cw : Value} {value slice : Expr} (hsl : ∀ a b p, slice ≠ .Slice a b none p) (S : SR c as X H s) (hv : VR c as X s.heap v cv) (hw : VR c as X s.heap w cw) (e : pItem [v, w] H = some (r, H')) (q : Q r H') :
    wpAny c.M A (subscriptTail value slice cv cw) (Res c as X s.heap Q) E s := by
  refine ea1_2 (Option.map_eq_some_iff.mp e) ?_
  intro z e1 h
  try clear z
  cases h
  clear e
  have e := e1
  try clear h
  cases w with
  | int i =>
    try clear e1
    cases hw.inv
    try clear hw
    cases v with
    | str t => exact pi_str hsl S hv e q
    | tup vs => exact pi_tup hsl S hv e q
    | _ => exact pi_view hsl S hv e q
  | str k =>
    refine ea1_2 (Option.bind_eq_some_iff.mp e) ?_
    intro d hd h3
    try clear e
    cases hw.inv
    replace hv := dview_at S hv hd
    obtain ⟨a, cs, rfl, hsm, hp, hl, rr, hs⟩ := hv
    try clear hd
    have hz : ∃ y, valueAt ((d.1.map toS).zip cs) (toS k) = some y ∧ VR c as X s.heap r y := by
      have hz := valueAt_zip k d.1 d.2 cs hl rr
      rw [h3] at hz
      exact hz
    refine ea1_2 hz ?_
    try clear hz
    intro y e1 e2
    have hm := hp.mapOf
    exact tail_any hm.typeIs slot_dict_getitem.lookup (wpAny_getItem_of (knd := c.kd) (kd_is _ _) hm e1 (Res.now S e2 q)) (sub_plain hsl _ _)
  | _ => cases e

theorem p_mklist {vs : List V} {cs : List Value} {ws : List V} {R : Value → Shared → Prop} (S : SR c as X H s) (hv : VRs c as X s.heap vs cs) (e : pMklist vs H = some (.lst ws, H')) (hR : ∀ x s', FreshL c as X s ws x s' → R x s') : wpAny c.M A (newList cs) R E s := by
  replace e := ite_is e
  obtain ⟨hb, e⟩ := e
  cases e
  refine wpAny_newObj_type ?_ (by show cs.toArray.size ≤ sizeLine; rw [List.size_toArray, ← hv.length]; exact Nat.le_trans hb sizeOf'_le)
  exact hR _ _ (freshL_G (tk := s.toks) S (.push _ _) (Heap.get?_push_size _ rfl) hv (sz_bnd hb))
theorem p_mktup {vs : List V} {cs : List Value} {r : V} (S : SR c as X H s) (hv : VRs c as X s.heap vs cs) (e : pMktup vs H = some (r, H')) (q : Q r H') : wpAny c.M A (newTuple cs) (Res c as X s.heap Q) E s := by
  replace e := ite_is e
  obtain ⟨hb, e⟩ := e
  cases e
  refine wpAny_newObj_type ?_ (by show cs.toArray.size ≤ sizeLine; rw [List.size_toArray, ← hv.length]; exact Nat.le_trans hb sizeOf'_le)
  exact res_tuple S hv (sz_bnd hb) q

theorem SR.kept1 {i : Nat} {a : Addr} {h h' : HP} (hi : as[i]? = some (some a)) (hk : ∀ b o, h.get? b = some o → b ≠ a → h'.get? b = some o) : Kept as X h h' :=
  fun b o e hb => ⟨o, hk b o e fun q => hb (q ▸ List.mem_of_getElem? hi), .inl rfl⟩

/-- one object of the abstract heap changes -/
theorem SR.upd {s' : Shared} {i : Nat} {a : Addr} {o' : O} (S : SR c as X H s) (hi : as[i]? = some (some a)) (hk : ∀ b o, s.heap.get? b = some o → b ≠ a → s'.heap.get? b = some o)
    (hg : s'.gens = s.gens) (hos : s'.os = s.os) (ho : OR c as X s'.heap a o') : SR c as X (H.set i o') s' where
  len := by rw [List.length_set]; exact S.len
  stays := fun b o e => hk b o (S.stays b o e) fun q => by
    have := (S.objs i a hi).1
    rw [q, this] at e; cases e
  gens := hg.trans S.gens
  os := hos.trans S.os
  objs := fun j b hj => by
    refine ea0_3 (S.objs j b hj) ?_
    intro h1 h2 r_3
    refine ea1_2 r_3 ?_
    try clear r_3
    intro o h3 h4
    refine ⟨h1, h2, ?_⟩
    by_cases hij : i = j
    · subst hij
      rw [hi] at hj; cases hj
      have hl : i < H.length := by rw [← S.len]; exact (List.getElem?_eq_some_iff.mp hi).1
      exact ⟨o', by simp [hl], ho⟩
    · have hba : b ≠ a := fun q => hij (S.inj i j a hi (q ▸ hj))
      refine ⟨o, by rw [List.getElem?_set_ne hij]; exact h3, h4.keepX (SR.kept1 (X := X) hi hk).x fun ob e => hk b ob e hba⟩
  inj := S.inj
  dead := fun j hj => by
    have hij : i ≠ j := fun q => by subst q; rw [hi] at hj; cases hj
    rw [List.getElem?_set_ne hij]; exact S.dead j hj
  xs := fun b hb => by
    obtain ⟨o, e⟩ := S.xs b hb
    exact ⟨o, hk b o e fun q => (S.objs i a hi).2.1 (q ▸ hb)⟩

theorem res_upd {s' : Shared} {i : Nat} {a : Addr} {o' : O} {v : V} {x : Value} (S : SR c as X H s) (hi : as[i]? = some (some a)) (hk : ∀ b o, s.heap.get? b = some o → b ≠ a → s'.heap.get? b = some o)
    (hg : s'.gens = s.gens) (hos : s'.os = s.os) (ho : OR c as X s'.heap a o') (hv : VR c as X s'.heap v x) (q : Q v (H.set i o')) : Res c as X s.heap Q x s' :=
  ⟨v, _, as, .refl .., S.upd hi hk hg hos ho, SR.kept1 hi hk, hv, q⟩

/-- a reference to a living object -/
inductive RefAt (c : Cx) (as : Adr) (X : List Addr) (h : HP) (i : Nat) (o : O) (x : Value) : Prop
  | mk (a : Addr) : x = .ref a → as[i]? = some (some a) → OR c as X h a o → RefAt c as X h i o x
theorem ref_at {i : Nat} {x : Value} {o : O} (S : SR c as X H s) (hv : VR c as X s.heap (.ref i) x) (ho : H[i]? = some o) (hd : o ≠ .dead) : RefAt c as X s.heap i o x := by
  cases hv.inv with
  | ref hi =>
    refine ea0_3 (S.objs _ _ hi) ?_
    intro _ _ r_3
    refine ea1_2 r_3 ?_
    try clear r_3
    intro o' h3 h4
    try clear S
    rw [ho] at h3; cases h3
    exact ⟨_, rfl, hi, h4⟩
  | refD hi => rw [S.dead _ hi] at ho; cases ho; exact absurd rfl hd

theorem p_append {v x r : V} {cv cx : Value} (S : SR c as X H s) (hv : VR c as X s.heap v cv) (hx : VR c as X s.heap x cx) (e : pAppend [v, x] H = some (r, H')) (q : Q r H') :
    wpAny c.M A (call (.builtin "list.append") [cv, cx]) (Res c as X s.heap Q) E s := by
  refine ea1_2 (bind_is e) ?_
  intro p_1 h0 e0
  obtain ⟨i, vs⟩ := p_1
  try clear e
  obtain ⟨hz, e1⟩ := ite_is e0
  try clear e0
  replace h0 := heapL_is h0
  obtain ⟨rfl, hvs⟩ := h0
  cases e1
  replace hv := ref_at S hv hvs (fun h => nomatch h)
  obtain ⟨a, rfl, hi, hb, items, hp, rr⟩ := hv
  try clear hvs
  refine wpAny_list_append_plain hp (fun h' hp' sb => ?_) (by rw [rr.len_arr]; have := sizeOf'_le; lia)
  have hk : ∀ b o, s.heap.get? b = some o → b ≠ a → h'.get? b = some o := fun b o e hb => (sb.2 b hb).trans e
  have K := SR.kept1 (X := X) hi hk
  refine res_upd (s' := { s with heap := h' }) (o' := .list _) S hi hk rfl rfl ⟨?_, _, hp', ?_⟩ .none q
  · rw [List.length_append, List.length_singleton]; have := sizeOf'_bnd; lia
  · rw [Array.toList_push]
    exact (rr.keep K (.refl ..)).append (.cons (hx.keep K (.refl ..)) .nil)
theorem drop_last {items : Array Value} : (items.eraseIdxIfInBounds (items.size - 1)).toList = items.toList.dropLast := by
  obtain ⟨l⟩ := items
  cases l with
  | nil => rfl
  | cons x l =>
    simp only [Array.eraseIdxIfInBounds, List.size_toArray]
    have : (x :: l).length - 1 < (x :: l).length := by simp
    simp only [this, dif_pos]
    simp [List.dropLast_eq_take, List.eraseIdx_eq_take_drop_succ]
theorem p_pop {v r : V} {cv : Value} (S : SR c as X H s) (hv : VR c as X s.heap v cv) (e : pPop [v] H = some (r, H')) (q : Q r H') :
    wpAny c.M A (call (.builtin "list.pop") [cv]) (Res c as X s.heap Q) E s := by
  refine ea1_2 (bind_is e) ?_
  intro p_1 h0 e0
  obtain ⟨i, vs⟩ := p_1
  try clear e
  obtain ⟨hz, e1⟩ := ite_some e0
  try clear e0
  refine ea1_2 (map_is e1) ?_
  intro x h1 h2
  try clear e1
  replace h0 := heapL_is h0
  obtain ⟨rfl, hvs⟩ := h0
  cases h2
  replace hv := ref_at S hv hvs (fun h => nomatch h)
  obtain ⟨a, rfl, hi, hb, items, ⟨n, hp⟩, rr⟩ := hv
  try clear hvs
  have hl := rr.len_arr
  obtain ⟨y, e1, e2⟩ := rr.get (List.getLast?_eq_getElem?.symm.trans h1)
  try clear h1
  have hy : items[items.size - 1]? = some y := by rw [hl, ← Array.getElem?_toList]; exact e1
  refine call_meets PySem.F.slot_list_pop ⟨_, hp, rfl⟩ PySem.F.entry_list_pop (PySem.F.args_list_pop_1 _) (PySem.MeetsSeq.list_pop_last a _ n y hy (by rw [hl]; have := sizeOf'_le; lia)) ⟨hp, ?_⟩
  have hk : ∀ b o, s.heap.get? b = some o → b ≠ a → (s.heap.update a (Obj.mapSeq fun xs => xs.eraseIdxIfInBounds (items.size - 1))).get? b = some o := fun b o e hb => (Heap.get?_update_other _ _ (Ne.symm hb)).trans e
  have K := SR.kept1 (X := X) hi hk
  refine res_upd (s' := { s with heap := s.heap.update a (Obj.mapSeq fun xs => xs.eraseIdxIfInBounds (items.size - 1)) }) (o' := .list _) S hi hk rfl rfl ⟨?_, _, ⟨_, PySem.IsL.update hp fun xs => xs.eraseIdxIfInBounds (items.size - 1)⟩, ?_⟩ (e2.keep K (.refl ..)) q
  · rw [List.length_dropLast]; exact Nat.le_trans (Nat.sub_le _ _) hb
  · rw [drop_last, List.dropLast_eq_take, List.dropLast_eq_take, ← rr.length]
    exact (rr.keep K (.refl ..)).take _
end
end Mine

end
noncomputable section
namespace Mine
open PySem PySem.Calls PyProof.Rows
section
variable {c : Cx} {A : Around} {E : Value → Shared → Prop} {s : Shared} {as : Adr} {X : List Addr} {H H' : AH} {Q : QE}
theorem p_pop0 {v w r : V} {cv cw : Value} (S : SR c as X H s) (hv : VR c as X s.heap v cv) (hw : VR c as X s.heap w cw) (e : pPop0 [v, w] H = some (r, H')) (q : Q r H') :
    wpAny c.M A (call (.builtin "list.pop") [cv, cw]) (Res c as X s.heap Q) E s := by
  refine ea1_2 (bind_is e) ?_
  intro p_1 h0 e0
  obtain ⟨i, vs⟩ := p_1
  try clear e
  refine ea1_2 (bind_is e0) ?_
  intro n hn e1
  try clear e0
  obtain ⟨⟨rfl, hz⟩, e2⟩ := ite_some e1
  refine ea1_2 (map_is e2) ?_
  intro x h1 h2
  replace h0 := heapL_is h0
  obtain ⟨rfl, hvs⟩ := h0
  replace hn := V.num_is hn
  cases hn
  cases h2
  replace hv := ref_at S hv hvs (fun h => nomatch h)
  obtain ⟨a, rfl, hi, hb, items, ⟨k, hp⟩, rr⟩ := hv
  try clear hvs
  cases hw.inv with
  | int u =>
    cases vs with
    | nil => cases h1
    | cons x' vs =>
      cases h1
      have hl := rr.len_arr
      refine ea1_2 (rr.get (j := 0) rfl) ?_
      intro y e1 e2
      have hy : items[0]? = some y := by rw [← Array.getElem?_toList]; exact e1
      have hpos : 0 < items.size := by rw [hl]; exact Nat.succ_pos _
      have hk0 : seqIndex? (0 : Int) items.size = some 0 := by
        unfold seqIndex?
        simp [hpos]
      refine call_meets PySem.F.slot_list_pop ⟨_, hp, rfl⟩ PySem.F.entry_list_pop (PySem.F.args_list_pop_2 _ _) (PySem.MeetsSeq.list_pop_at a _ k 0 u 0 y (by decide) hk0 hy (by rw [hl]; have := sizeOf'_le; lia)) ⟨hp, ?_⟩
      have hk : ∀ b o, s.heap.get? b = some o → b ≠ a → (s.heap.update a (Obj.mapSeq fun xs => xs.eraseIdxIfInBounds 0)).get? b = some o := fun b o e hb => (Heap.get?_update_other _ _ (Ne.symm hb)).trans e
      have K := SR.kept1 (X := X) hi hk
      refine res_upd (s' := { s with heap := s.heap.update a (Obj.mapSeq fun xs => xs.eraseIdxIfInBounds 0) }) (o' := .list _) S hi hk rfl rfl ⟨?_, _, ⟨_, PySem.IsL.update hp fun xs => xs.eraseIdxIfInBounds 0⟩, ?_⟩ (e2.keep K (.refl ..)) q
      · exact Nat.le_of_succ_le hb
      · have ht : (items.eraseIdxIfInBounds 0).toList = items.toList.drop 1 := by
          rw [Array.eraseIdxIfInBounds, dif_pos hpos, Array.toList_eraseIdx, List.eraseIdx_zero, List.drop_one]
        rw [ht]
        exact (rr.keep K (.refl ..)).drop 1
theorem heapD_is {v : V} {p : Nat × (List (List Char) × List V)} (h : heapD H v = some p) : v = .ref p.1 ∧ H[p.1]? = some (.dict p.2.1 p.2.2) := by
  refine ea1_2 (bind_is h) ?_
  intro i h1 h2
  try clear h
  refine ea1_2 (bind_is h2) ?_
  intro d h3 h4
  try clear h2
  refine ea1_2 (bind_is h3) ?_
  intro o h5 h6
  try clear h3
  try clear d; try clear i
  cases h4
  try clear h4
  cases o with
  | dict ks vs => cases h6; cases v with
    | ref j => cases h1; exact ⟨rfl, h5⟩
    | _ => cases h1
  | _ => cases h6
theorem without_ddel {k : List Char} {h : HP} : ∀ {ks : List (List Char)} {vs : List V} {cs : List Value}, ks.length = cs.length → (ks.map toS).Nodup → VRs c as X h vs cs →
    ∃ cs', without ((ks.map toS).zip cs) (toS k) = ((ddel k ks vs).1.map toS).zip cs' ∧ (ddel k ks vs).1.length = cs'.length ∧ VRs c as X h (ddel k ks vs).2 cs' ∧ cs'.length ≤ cs.length := by
  intro ks
  induction ks with
  | nil => intro vs cs hl _ r; exact ⟨[], rfl, rfl, .nil, Nat.zero_le _⟩
  | cons k' ks ih =>
    intro vs cs hl hn r
    cases r with
    | nil => cases hl
    | @cons v vs x cs hx r =>
      have hn' := List.nodup_cons.mp hn
      have hl' := Nat.succ.inj hl
      refine ea1_4 (ih hl' hn'.2 r) ?_
      intro cs' e1 e2 e3 e4
      by_cases hk : k = k'
      · subst hk
        have ed : ddel k (k :: ks) (v :: vs) = (ks, vs) := if_pos rfl
        rw [ed]
        refine ⟨cs, ?_, hl', r, Nat.le_succ _⟩
        show List.filter _ ((toS k, x) :: (ks.map toS).zip cs) = _
        rw [List.filter_cons_of_neg (by simp)]
        refine List.filter_eq_self.mpr fun p hp => decide_eq_true fun q => hn'.1 ?_
        rw [← q]
        exact (List.of_mem_zip hp).1
      · have ed : ddel k (k' :: ks) (v :: vs) = (k' :: (ddel k ks vs).1, v :: (ddel k ks vs).2) := if_neg hk
        rw [ed]
        refine ⟨x :: cs', ?_, congrArg Nat.succ e2, .cons hx e3, Nat.succ_le_succ e4⟩
        show List.filter _ ((toS k', x) :: (ks.map toS).zip cs) = (toS k', x) :: ((ddel k ks vs).1.map toS).zip cs'
        exact (List.filter_cons_of_pos (p := fun kv : Str × Value => decide (kv.1 ≠ toS k)) (a := (toS k', x)) (decide_eq_true fun q => hk (toS_inj q).symm)).trans (congrArg _ e1)
theorem p_dpop {v w r : V} {cv cw : Value} (S : SR c as X H s) (hv : VR c as X s.heap v cv) (hw : VR c as X s.heap w cw) (e : pDpop [v, w] H = some (r, H')) (q : Q r H') :
    wpAny c.M A (call (.builtin "dict.pop") [cv, cw]) (Res c as X s.heap Q) E s := by
  refine ea1_2 (bind_is e) ?_
  intro p_1 h0 e0
  obtain ⟨i, ks, vs⟩ := p_1
  try clear e
  refine ea1_2 (bind_is e0) ?_
  intro k hn e1
  try clear e0
  obtain ⟨hsz, e2⟩ := ite_some e1
  refine ea1_2 (map_is e2) ?_
  intro x h1 h2
  replace h0 := heapD_is h0
  obtain ⟨rfl, hob⟩ := h0
  cases V.txt_is hn
  cases h2
  replace hv := ref_at S hv hob (fun h => nomatch h)
  obtain ⟨a, rfl, ha, hb, hsm, cs, hd, hl, rr⟩ := hv
  try clear hob
  cases hw.inv with
  | str _ hs =>
    have hn : (ks.map toS).Nodup := by
      refine ea3_6 hd ?_
      try clear hd
      intro _ _ _ _ _ _ _ _ hn
      rw [List.map_fst_zip (by simp [hl])] at hn
      exact hn
    have hz := valueAt_zip k ks vs cs hl rr
    rw [h1] at hz
    refine ea1_2 hz ?_
    try clear hz
    intro y hy hvy
    have h2 := rr.length
    refine call_meetsIn PySem.F.slot_dict_pop hd.typeIs PySem.F.entry_dict_pop (PySem.F.args_dict_pop_2 _ _) (meets_dict_pop_there c.kd a (kd_is _ _) [] (.inl rfl) rfl) ⟨_, y, hd, ?_, hy, fun h' hd' sb => ?_⟩
    · rw [List.length_zip, List.length_map, ← hl, Nat.min_self]; exact Nat.le_trans hsz sizeOf'_le
    · have hk : ∀ b o, s.heap.get? b = some o → b ≠ a → h'.get? b = some o := fun b o e hb => (sb.2 b hb).trans e
      have K := SR.kept1 (X := X) ha hk
      refine ea1_4 (without_ddel (k := k) hl hn (rr.keep K (.refl ..))) ?_
      intro cs' e1 e2 e3 e4
      try clear k; try clear hl; try clear hn; try clear rr
      rw [e1] at hd'
      have e5 := e3.length
      exact res_upd (s' := { s with heap := h', toks := _ }) (o' := .dict _ _) S ha hk rfl rfl ⟨by lia, hsm, cs', hd', e2, e3⟩ (hvy.keep K (.refl ..)) q
theorem toPs_get {vs : List V} {m : Nat} (h : m < vs.length) : (toPs vs)[m]? = some (toP vs[m]) := by
  induction vs generalizing m with
  | nil => cases h
  | cons v vs ih => cases m with
    | zero => rfl
    | succ m => exact ih (Nat.lt_of_succ_lt_succ h)
theorem datas_get {vs : List V} {m : Nat} (h : V.datas vs = true) (hm : m < vs.length) : vs[m].data = true := by
  induction vs generalizing m with
  | nil => cases hm
  | cons v vs ih =>
    have h' := Bool.and_eq_true_iff.mp h
    try clear h
    cases m with
    | zero => exact h'.1
    | succ m => exact ih h'.2 (Nat.lt_of_succ_lt_succ hm)
theorem V.tpl_is {v : V} {vs : List V} (h : v.tpl = some vs) : v = .tup vs := by
  cases v with
  | tup => cases h; rfl
  | _ => cases h
theorem wpAny_forIn_rng {M : Model} {β : Type} {r : Std.Legacy.Range} (f : Nat → β → Sem (ForInStep β)) (I : List Nat → β → Shared → Prop) (Q : β → Shared → Prop)
    (turn : ∀ x rest b s, I (x :: rest) b s → wpAny M A (f x b) (fun r s' => match r with | .yield b' => I rest b' s' | .done b' => Q b' s') E s)
    (fin : ∀ b s, I [] b s → Q b s) (b : β) (h : I (List.range' r.start r.size r.step) b s) : wpAny M A (forIn r b f) Q E s := by
  rw [Std.Legacy.Range.forIn_eq_forIn_range']
  exact wpAny_forIn_list f I Q turn fin _ b h
open PySem.SeqAt PySem.MeetsSeq2 in
theorem tuple_indexAt (l : Addr) (items : Array Value) (n : Nat) (x : Value) (e : Value → Bool) (j : Nat) (hj : j < items.size) (hit : e items[j] = true) (hno : ∀ m (hm : m < items.size), m < j → e items[m] = false) :
    Meets (Builtin.«tuple.index» ⟨[.ref l, x], []⟩)
      (fun A R s => s.heap.get? l = some { cls := .type "tuple", data := .seq items n } ∧ (∀ y, y ∈ items → EqAt A.in1 s y x (e y)) ∧ R (.ok (.ret (.int j s.toks))) { s with toks := s.toks + 1 }) :=
  .of_wp fun prog w A R s h => by
    obtain ⟨hp, g, d, tk, os⟩ := s; obtain ⟨hl, he, h⟩ := h
    wp_walk using PySem.AutoSeq1.wpAny_loadPart' hl, wpAny_forIn_rng _ (fun rest b s' => b.1 = none ∧ s' = ⟨hp, g, d, tk, os⟩ ∧ ∃ i, i ≤ j ∧ rest = List.range' i (items.size - i)) _
    case turn =>
      rintro m rest b s' ⟨_, rfl, i, hij, hr⟩
      obtain ⟨k, hk⟩ : ∃ k, items.size - i = k + 1 := ⟨items.size - i - 1, by lia⟩
      rw [hk, List.range'_succ] at hr
      cases hr
      have hlt : m < items.size := by (exact Nat.lt_of_le_of_lt (by assumption) (by assumption))
      rw [Array.getElem?_eq_getElem hlt]
      refine wpAny_bind (he _ (Array.getElem_mem hlt) prog w _ _ ?_)
      by_cases hi : m = j
      · subst hi
        rw [hit]
        wp_walk
        exact ⟨_, rfl, h⟩
      · rw [hno m hlt (by lia)]
        wp_walk
        exact ⟨rfl, rfl, m + 1, by lia, by rw [show items.size - (m + 1) = k by lia]⟩
    case fin =>
      rintro b s' ⟨_, _, i, hij, hr⟩
      have := congrArg List.length hr
      rw [List.length_range', List.length_nil] at this
      lia
    case h => exact ⟨rfl, rfl, 0, Nat.zero_le _, by simp [Std.Legacy.Range.size]⟩
open PySem.SeqAt in
theorem p_index {v w r : V} {cv cw : Value} (S : SR c as X H s) (hv : VR c as X s.heap v cv) (hw : VR c as X s.heap w cw) (e : pIndex [v, w] H = some (r, H')) (q : Q r H') (hu : A.units + 64 < cLine) :
    wpAny c.M A (call (.builtin "tuple.index") [cv, cw]) (Res c as X s.heap Q) E s := by
  refine ea1_2 (bind_is e) ?_
  intro vs h1 e1
  try clear e
  refine ea1_2 (bind_is e1) ?_
  intro x' ex e2
  try clear e1
  obtain ⟨hok, e3⟩ := ite_some e2
  try clear e2
  refine ea1_2 (map_is e3) ?_
  intro k hk e4
  try clear e3
  cases e4
  try clear e4
  replace h1 := V.tpl_is h1
  cases h1
  obtain ⟨hd, hdd⟩ := okD_is hok
  try clear hok
  obtain ⟨d1, d2, l1, r1⟩ := rd_at S hw ex
  try clear hw; try clear ex
  try clear l1; try clear d2; try clear h1
  cases hv.inv with
  | @tup a items n t1 t2 t3 rr t5 =>
    obtain ⟨l2, r2⟩ := reads_all rr hd
    have o1 := toP_ok _ d1
    have o2 := toPs_ok _ hd
    have hm : A.units + 1 + min (PyData.depthAll (toPs vs)) (toP x').depth < cLine := by rw [o2.2]; exact in_room hdd hu
    have hl := rr.len_arr
    obtain ⟨hlt, hit, hno⟩ := List.findIdx?_eq_some_iff_getElem.mp hk
    try clear hk
    have hrd := readsAll_map _ _ _ o2.1 r2
    have he : ∀ m (hm : m < items.size) (hm' : m < vs.length), PyData.eqv (readOf s.heap items[m]) (toP x') = eqV vs[m] x' := fun m hm hm' => by
      have h3 : (items.toList.map (readOf s.heap))[m]? = (toPs vs)[m]? := by rw [hrd]
      rw [toPs_get hm', List.getElem?_map, Array.getElem?_toList, Array.getElem?_eq_getElem hm] at h3
      rw [Option.some.inj h3]
      exact eqv_toP _ _ (datas_get hd hm') d1
    refine call_meets PySem.F.slot_tuple_index ⟨_, t3, rfl⟩ PySem.F.entry_tuple_index (PySem.F.args_tuple_index_2 _ _) (tuple_indexAt a items n cw (fun y => PyData.eqv (readOf s.heap y) (toP x')) k (by rw [hl]; exact hlt) ?_ ?_) ⟨t3, items_eqAt r2 r1 o2.1 o1.1 hm, ?_⟩
    · exact (he k _ hlt).trans hit
    · intro m hm hmk
      exact (he m hm (hl ▸ hm)).trans (by simpa using hno m hmk)
    · exact Res.now (tk := s.toks + 1) S (.int _ _) q
end
end Mine

end
noncomputable section
namespace Mine
open PySem PySem.Calls PyProof.Rows

section
variable {c : Cx} {A : Around} {E : Value → Shared → Prop} {s : Shared} {as : Adr} {X : List Addr} {H H' : AH} {Q : QE}
theorem p_int {v r : V} {cv : Value} (S : SR c as X H s) (hv : VR c as X s.heap v cv) (e : pInt [v] H = some (r, H')) (q : Q r H') : wpAny c.M A (call (.type "int") [cv]) (Res c as X s.heap Q) E s := by
  cases v with
  | bool b => exact p_intb S hv e q
  | _ => cases e

theorem strs_some : ∀ {vs : List V} {ss : List (List Char)}, strs? vs = some ss → vs = ss.map V.str
  | [], ss, h => by cases h; rfl
  | v :: vs, ss, h => by
    cases v with
    | str t =>
      refine ea1_2 (Option.map_eq_some_iff.mp h) ?_
      intro r h1 q_3
      subst q_3
      rw [strs_some h1]; rfl
    | _ => cases h
theorem strsAre_of {h : HP} : ∀ {ss : List (List Char)} {xs : List Value}, VRs c as X h (ss.map V.str) xs → StrsAre xs (ss.map toS)
  | [], _, r => by cases r; exact .nil
  | t :: ss, _, r => by
    cases r with
    | cons a r => cases a; exact .cons _ _ (strsAre_of r)
theorem call_extend {a b : Addr} {xs ys : Array Value} {m : Nat} {R : Value → Shared → Prop} (hl : s.heap.PlainList a xs) (hb : s.heap.get? b = some { cls := .type "list", data := .seq ys m }) (hz : xs.size + ys.size ≤ sizeLine)
    (h : ∀ h', h'.PlainList a (xs ++ ys) → Heap.SameBut a s.heap h' → R .none { s with heap := h' }) : wpAny c.M A (call (.builtin "list.extend") [.ref a, .ref b]) R E s := by
  obtain ⟨n, ho⟩ := hl
  refine wpAny_call_entry F.slot_list_extend ⟨_, ho, rfl⟩ F.entry_list_extend ?_ (F.args_list_extend_2 _ _)
  show wpAny _ _ (Builtin.List.listExtendWith (.ref a) (.ref b) .none) _ _ s
  unfold Builtin.List.listExtendWith
  refine wpAny_bind (wpAny_typeOf ⟨_, hb, rfl⟩ ?_)
  have h1 : (Builtin.List.listSameRef (.ref a) (.ref b) || Value.type "list" == Value.type "list" || Value.type "list" == Value.type "tuple") = true := by simp
  simp only [h1, if_true]
  refine wpAny_bind ?_
  unfold Builtin.List.listItems
  refine wpAny_bind (wpAny_seqItems hb rfl (wpAny_pure ?_))
  refine wpAny_bind ?_
  refine wpAny_bind (wpAny_seqItems ho rfl (wpAny_pure ?_))
  have h2 : (!xs.isEmpty && Builtin.List.listTooLong (xs.size + ys.size)) = false := by
    rw [show Builtin.List.listTooLong (xs.size + ys.size) = decide (xs.size + ys.size > sizeLine) from rfl, decide_eq_false (show ¬ (xs.size + ys.size > sizeLine) by (exact Nat.not_lt.mpr (by assumption))), Bool.and_false]
  simp only [h2, Bool.false_eq_true, if_false]
  show wpAny _ _ (updateSeq a (· ++ ys) >>= fun _ => ret .none) _ _ s
  refine wpAny_bind (wpAny_updateSeq ho rfl ?_ (by (exact Nat.le_trans (Nat.le_add_right _ _) (by assumption))) (by rw [Array.size_append]; (exact Nat.le_succ_of_le (by assumption))))
  exact wpAny_pure ⟨.none, rfl, h _ ⟨_, Heap.get?_update_self _ ho rfl⟩ (Heap.SameBut.update ..)⟩
theorem p_extend {v w r : V} {cv cw : Value} (S : SR c as X H s) (hv : VR c as X s.heap v cv) (hw : VR c as X s.heap w cw) (e : pExtend [v, w] H = some (r, H')) (q : Q r H') : wpAny c.M A (call (.builtin "list.extend") [cv, cw]) (Res c as X s.heap Q) E s := by
  refine ea1_2 (bind_is e) ?_
  clear e
  intro p h0 e0
  refine ea1_2 (bind_is e0) ?_
  clear e0
  intro ys h1 e1
  obtain ⟨hz, e2⟩ := ite_is e1
  clear e1
  obtain ⟨i, vs⟩ := p
  replace h0 := heapL_is h0
  obtain ⟨rfl, hob⟩ := h0
  cases e2
  replace hv := ref_at S hv hob (fun h => nomatch h)
  obtain ⟨a, rfl, hi, hb, items, hp, rr⟩ := hv
  clear hob
  replace hw := view_at S hw h1
  obtain ⟨b, its, rfl, ⟨m, hm⟩, r2, _⟩ := hw
  clear h1
  refine call_extend hp hm (by rw [rr.len_arr, r2.len_arr]; exact Nat.le_trans hz sizeOf'_le) fun h' hp' sb => ?_
  have hk : ∀ b o, s.heap.get? b = some o → b ≠ a → h'.get? b = some o := fun b o e hb => (sb.2 b hb).trans e
  have K := SR.kept1 (X := X) hi hk
  refine res_upd (s' := { s with heap := h' }) (o' := .list _) S hi hk rfl rfl ⟨?_, _, hp', ?_⟩ .none q
  · rw [List.length_append]; exact sz_bnd hz
  · rw [Array.toList_append]
    exact (rr.keep K (.refl ..)).append (r2.keep K (.refl ..))
end
end Mine

end
noncomputable section
namespace Mine
open PySem PySem.Calls PyProof.Rows

inductive Gl where
  | fn (f : Nat)
  | cst (v : V)
  | bi (b : String)
  | ty (t : String)
  | exc (c : Nat)
  | cls (ms : List (Str × Nat)) (ats : List Str) (f : Nat)

set_option genInjectivity false in
/-- what the compiler knows of a block -/
structure Tb where
  gl : List (Str × Gl)
  meths : List (Str × Nat)
  names : List (Str × NameKind)
  tab : List (Str × Nat)
  n : Nat
  mu : List (Nat × Nat)
  fz : List (Nat × List Nat)

noncomputable def Tb.isMu (T : Tb) (p : Pos) : Bool := T.mu.contains (p.line, p.col)

noncomputable def fromS (s : Str) : Option (List Char) :=
  if toS (s.cps.toList.map Char.ofNat) = s ∧ (s.cps.toList.map Char.ofNat).length ≤ 1000 then some (s.cps.toList.map Char.ofNat) else none
noncomputable def cConst : Const → Option Ex
  | .none => some (.cst .none)
  | .bool b => some (.cst (.bool b))
  | .int i => some (.cst (.int i))
  | .str s => (fromS s).map fun l => .cst (.str l)
  | _ => none
noncomputable def Tb.var (T : Tb) (x : Str) : Option Nat :=
  if x == ("__debug__" : Str) || x == ("__classdict__" : Str) then none else
  if T.names.lookup x = some .local ∨ T.names.lookup x = some .cell ∨ T.names.lookup x = some .free then T.tab.lookup x else none
noncomputable def Tb.glob (T : Tb) (x : Str) : Option Gl :=
  if x == ("__debug__" : Str) then none else
  if T.names.lookup x = some .globalImplicit then T.gl.lookup x else none
noncomputable def glE : Option Gl → Option Ex
  | some (.cst v) => some (.cst v)
  | _ => none
noncomputable def varE (o : Option Ex) : Option Nat → Option Ex
  | some i => some (.var i)
  | none => o
noncomputable def cName (T : Tb) (x : Str) : Option Ex := varE (glE (T.glob x)) (T.var x)
noncomputable def bopOf : Operator → Option Bop
  | .Add => some .add | .Sub => some .sub | .Mult => some .mul | .FloorDiv => some .fdiv | .Mod => some .mod | .Pow => some .pow
  | _ => none
noncomputable def copOf? : CmpOp → Cop
  | .Eq => .eq | .NotEq => .ne | .Lt => .lt | .LtE => .le | .Gt => .gt | .GtE => .ge | .Is => .is | .IsNot => .isnot | .In => .in_ | .NotIn => .notin
noncomputable def mapO {α β : Type} (f : α → Option β) : List α → Option (List β)
  | [] => some []
  | a :: r => (f a).bind fun b => (mapO f r).map (b :: ·)
noncomputable def mkB (op : BoolOp) (x y : Ex) : Ex := match op with
  | .And => .and x y
  | .Or => .or x y
/-- the next one is asked -/
noncomputable def goes (op : BoolOp) (t : Bool) : Bool := match op with
  | .And => t
  | .Or => !t
theorem wpE_mkB {P : Prog} {C : Calls} {op : BoolOp} {x y : Ex} {ρ : Fm} {H : AH} {Q : QE} {X : XE} : wpE P C (mkB op x y) ρ H Q X = wpE P C x ρ H (fun v H' => okB (truth v) fun t => if goes op t then wpE P C y ρ H' Q X else Q (.bool t) H') X := by cases op <;> rfl
noncomputable def boolEx (op : BoolOp) : List Ex → Option Ex
  | [] => none
  | [x] => some x
  | x :: r => (boolEx op r).map (mkB op x)

noncomputable def tyOf (t : String) : Option Ty :=
  if t = "int" then some .int else if t = "bool" then some .bool else if t = "str" then some .str else if t = "list" then some .list else if t = "tuple" then some .tuple else none
/-- a call of a built-in function or type -/
noncomputable def biPrim (b : String) (n : Nat) : Option Prim :=
  if b = "len" ∧ n = 1 then some .len else
  if b = "all" ∧ n = 1 then some .all else
  if b = "min" ∧ n = 2 then some .min else if b = "max" ∧ n = 2 then some .max else
  none
noncomputable def tyPrim (t : String) (n : Nat) : Option Prim :=
  if t = "range" ∧ n = 1 then some .range1 else
  if t = "range" ∧ n = 2 then some .range2 else
  if t = "list" ∧ n = 1 then some .list else
  if t = "int" ∧ n = 1 then some .int else
  none
/-- the constant 0 alone -/
noncomputable def zeroA : List Expr → Bool
  | [.Constant (.int i) _ _] => decide (i = 0)
  | _ => false
noncomputable def methPrim (m : Str) (n : Nat) (z : Bool) : Option (Mt × Prim) :=
  if m = Str.ofString "append" ∧ n = 1 then some (.list, .append) else
  if m = Str.ofString "pop" ∧ n = 0 then some (.list, .pop) else
  if m = Str.ofString "pop" ∧ n = 1 ∧ z = true then some (.list, .pop0) else
  if m = Str.ofString "pop" ∧ n = 1 then some (.dict, .dpop) else
  if m = Str.ofString "index" ∧ n = 1 then some (.tup, .index) else
  if m = Str.ofString "extend" ∧ n = 1 then some (.list, .extend) else
  none

noncomputable def oneL {α β : Type} (f : α → Option β) : List α → Option β
  | [t] => f t
  | _ => none
noncomputable def twoL {α β : Type} (f : α → α → Option β) : List α → Option β
  | [a, b] => f a b
  | _ => none
noncomputable def nilL {α β : Type} (r : Option β) : List α → Option β
  | [] => r
  | _ :: _ => none
noncomputable def nmE : Expr → Option Str
  | .Name x _ => some x
  | _ => none
theorem nmE_some {e : Expr} {x : Str} (h : nmE e = some x) : ∃ p, e = .Name x p := by
  cases e <;> first | (cases h; exact ⟨_, rfl⟩) | cases h
theorem oneL_some {α β : Type} {f : α → Option β} {l : List α} {x : β} (h : oneL f l = some x) : ∃ t, l = [t] ∧ f t = some x := by
  match l, h with
  | [t], h => exact ⟨t, rfl, h⟩
theorem twoL_some {α β : Type} {f : α → α → Option β} {l : List α} {x : β} (h : twoL f l = some x) : ∃ a b, l = [a, b] ∧ f a b = some x := by
  match l, h with
  | [a, b], h => exact ⟨a, b, rfl, h⟩
theorem nilL_some {α β : Type} {r : Option β} {l : List α} {x : β} (h : nilL r l = some x) : l = [] ∧ r = some x := by
  match l, h with
  | [], h => exact ⟨rfl, h⟩
theorem nite_some {α : Type} {b : Bool} {a : Option α} {x : α} (h : (if b = true then none else a) = some x) : b = false ∧ a = some x := by
  cases b with
  | false => exact ⟨rfl, h⟩
  | true => cases h

noncomputable def isSlice : Expr → Bool
  | .Slice .. => true
  | _ => false
noncomputable def isComp : Expr → Bool
  | .ListComp .. | .SetComp .. | .DictComp .. => true
  | _ => false

/-- a comprehension's block is plain, and all that it takes from outside lies in cells -/
noncomputable def compOk (T : Tb) (x : Str) (sc : Scope) : Bool :=
  decide (sc.kind = .function) && T.tab.all (fun p => decide (p.2 < T.n)) && decide (sc.names.lookup x = some .local) &&
  sc.names.all (fun p => decide (sc.names.lookup p.1 = some p.2) && (match p.2 with
    | .local => decide (p.1 = x) || (T.tab.lookup p.1).isNone
    | .cell => false
    | .free => (decide (T.names.lookup p.1 = some .cell) || decide (T.names.lookup p.1 = some .free)) && (T.tab.lookup p.1).isSome && decide (p.1 ≠ x)
    | _ => true))

noncomputable def attrOk : Expr → Bool
  | .Call .. => false
  | _ => true

noncomputable def keyOf : Option Expr → Option (List Char)
  | some (.Constant (.str s) _ _) => fromS s
  | _ => none

abbrev RecE := Tb → Expr → Option Ex
noncomputable def clsGl : Gl → Option (List (Str × Nat) × List Str × Nat)
  | .cls ms ats f => some (ms, ats, f)
  | _ => none
theorem clsGl_some {g : Gl} {q : List (Str × Nat) × List Str × Nat} (h : clsGl g = some q) : g = .cls q.1 q.2.1 q.2.2 := by
  cases g with
  | cls ms ats f => cases h; rfl
  | _ => cases h
noncomputable def clOf : List (Str × Gl) → Option (List (Str × Nat) × List Str × Nat)
  | [] => none
  | p :: l => if (clsGl p.2).isSome = true then clsGl p.2 else clOf l
theorem clOf_some {gl : List (Str × Gl)} {q : List (Str × Nat) × List Str × Nat} (h : clOf gl = some q) : ∃ x, (x, Gl.cls q.1 q.2.1 q.2.2) ∈ gl := by
  induction gl with
  | nil => cases h
  | cons p l ih =>
    have h : (if (clsGl p.2).isSome = true then clsGl p.2 else clOf l) = some q := h
    by_cases hs : (clsGl p.2).isSome = true
    · rw [if_pos hs] at h
      obtain ⟨x, g⟩ := p
      try clear g
      replace h := clsGl_some h
      cases h
      exact ⟨x, .head _⟩
    · rw [if_neg hs] at h
      obtain ⟨x, hx⟩ := ih h
      try clear h
      exact ⟨x, .tail _ hx⟩
noncomputable def cAttr (r : Expr → Option Ex) (T : Tb) (o : Expr) (name : Str) : Option (Ex × List Char) := if attrOk o = true then (clOf T.gl).bind fun q => if q.2.1.contains name = true then (fromS name).bind fun nm => (r o).map fun a => (a, nm) else none else none
noncomputable def cMeth (r : Expr → Option Ex) (T : Tb) (o : Expr) (name : Str) (args : List Expr) : Option Ex := if args.length < 30 then (clOf T.gl).bind fun q => (q.1.lookup name).bind fun g => (fromS name).bind fun nm => (r o).bind fun a => (mapO r args).map fun es => .meth 0 g nm a es else none
abbrev compTb (T : Tb) (x : Str) (sc : Scope) : Tb := { T with names := sc.names, tab := (x, T.n) :: T.tab, n := T.n + 1 }
noncomputable def cUn (op : UnaryOp) (a : Ex) : Option Ex := match op with
  | .Not => some (.prim false .not [a])
  | .USub => some (.prim false .neg [a])
  | _ => none
noncomputable def cCmp (r : Expr → Option Ex) (l : Expr) (ops : List CmpOp) (rs : List Expr) : Option Ex := match ops with
  | [op] => oneL (fun x => (r l).bind fun a => (r x).map fun b => .prim false (.cop (copOf? op)) [a, b]) rs
  | [o₁, o₂] => twoL (fun m x => (r l).bind fun a => (r m).bind fun b => (r x).map fun c => .cmp2 a (copOf? o₁) b (copOf? o₂) c) rs
  | _ => none
noncomputable def tyGl : Gl → Option String
  | .ty tn => some tn
  | _ => none
theorem tyGl_some {g : Gl} {tn : String} (h : tyGl g = some tn) : g = .ty tn := by
  cases g <;> first | (cases h; rfl) | cases h
noncomputable def excGl : Gl → Option Nat
  | .exc k => some k
  | _ => none
theorem excGl_some {g : Gl} {k : Nat} (h : excGl g = some k) : g = .exc k := by
  cases g <;> first | (cases h; rfl) | cases h
noncomputable def isiT (tn : String) : Option Prim := if tn = "ValueError" then some (.isX none) else (tyOf tn).map Prim.isinst
noncomputable def isiP (g : Gl) : Option Prim := match g with
  | .ty tn => isiT tn
  | .exc j => some (.isX (some j))
  | _ => none
/-- isinstance(x, T) -/
noncomputable def cIsi (r : Expr → Option Ex) (T : Tb) (args : List Expr) : Option Ex :=
  twoL (fun x y => (nmE y).bind fun t => (T.glob t).bind fun g => (isiP g).bind fun p => (r x).map fun a => .prim false p [a]) args
noncomputable def cGl (r : Expr → Option Ex) (T : Tb) (args : List Expr) (pos : Pos) (g : Gl) : Option Ex := match g with
  | .fn i => (mapO r args).map fun es => .call i es
  | .bi b => if b = "isinstance" then cIsi r T args else (biPrim b args.length).bind fun p => (mapO r args).map fun es => .prim false p es
  | .ty t => (tyPrim t args.length).bind fun p => (mapO r args).map fun es => .prim (T.isMu pos) p es
  | .cls _ _ f => oneL (fun x => (r x).map fun a => .new 0 f [a]) args
  | _ => none
noncomputable def cCall (r : Expr → Option Ex) (T : Tb) (f : Expr) (args : List Expr) (kws : List Keyword) (pos : Pos) : Option Ex := nilL (match f with
    | .Name g _ => (T.glob g).bind (cGl r T args pos)
    | .Attribute o name apos => if attrOk o = true ∧ apos.endLine = pos.line then
        if (methPrim name args.length (zeroA args)).isSome = true then (methPrim name args.length (zeroA args)).bind fun tp => (r o).bind fun a => (mapO r args).map fun es => .mcall tp.1 (T.isMu pos && tp.2.fresh) tp.2 a es else cMeth r T o name args
        else none
    | _ => none) kws
/-- a comprehension's tests: none or one -/
noncomputable def cIfs (r : Expr → Option Ex) : List Expr → Option (Option Ex)
  | [] => some none
  | t :: l => nilL ((r t).map some) l
noncomputable def cComp (r : RecE) (T : Tb) (elt : Expr) (gens : List Comprehension) (sc : Scope) (pos : Pos) : Option Ex := oneL (fun g => (nmE g.target).bind fun x => if g.is_async = 0 ∧ compOk T x sc = true then
      (r T g.iter).bind fun i => (r (compTb T x sc) elt).bind fun b => (cIfs (r (compTb T x sc)) g.ifs).map fun q => .comp (T.isMu pos) b i q
      else none) gens
/-- {k: v} -/
noncomputable def cDict1 (r : Expr → Option Ex) (mu : Bool) (ks : List (Option Expr)) (vs : List Expr) : Option Ex :=
  oneL (fun k => k.bind fun ke => oneL (fun ve => (r ke).bind fun a => (r ve).map fun b => .prim mu .mkdict1 [a, b]) vs) ks
noncomputable def cDict (r : Expr → Option Ex) (mu : Bool) (ks : List (Option Expr)) (vs : List Expr) : Option Ex :=
  if ks.length = vs.length ∧ ks.length ≤ 15 then (mapO keyOf ks).bind fun kcs => (mapO r vs).map fun xs => .prim mu (.mkdict kcs) xs else none
noncomputable def cOpt (r : Expr → Option Ex) (o : Option Expr) : Option Ex := match o with
  | none => some (.cst .none)
  | some e => r e
noncomputable def cSub (r : Expr → Option Ex) (v sl : Expr) : Option Ex := match sl with
  | .Slice lo hi st _ =>
    if st.isNone then (r v).bind fun a => (cOpt r lo).bind fun b => (cOpt r hi).map fun c => .prim false .slice [a, b, c] else none
  | sl => if isSlice sl then none else (r v).bind fun a => (r sl).map fun b => .prim false .item [a, b]

noncomputable def cE : Nat → Tb → Expr → Option Ex
  | 0, _, _ => none
  | k + 1, T, e => match e with
    | .Constant c _ _ => cConst c
    | .Name x _ => cName T x
    | .BinOp l op r pos => (bopOf op).bind fun o => (cE k T l).bind fun a => (cE k T r).map fun b => .prim (T.isMu pos) (.bop o) [a, b]
    | .UnaryOp op x _ => (cE k T x).bind (cUn op)
    | .BoolOp op vs _ => (mapO (cE k T) vs).bind (boolEx op)
    | .Compare l ops rs _ => cCmp (cE k T) l ops rs
    | .Call f args kws pos => cCall (cE k T) T f args kws pos
    | .Subscript v sl _ => cSub (cE k T) v sl
    | .List es pos => (mapO (cE k T) es).map fun xs => .prim (T.isMu pos) .mklist xs
    | .Tuple es _ _ => (mapO (cE k T) es).map fun xs => .prim false .mktup xs
    | .Dict ks vs pos => if (cDict (cE k T) (T.isMu pos) ks vs).isSome = true then cDict (cE k T) (T.isMu pos) ks vs else cDict1 (cE k T) (T.isMu pos) ks vs
    | .ListComp elt gens sc pos => cComp (cE k) T elt gens sc pos
    | .Attribute o name _ => (cAttr (cE k T) T o name).map fun q => .prim false (.attr q.2) [q.1]
    | _ => none

noncomputable def Tb.slot (T : Tb) (x : Str) : Option Nat :=
  match T.names.lookup x with
  | some .local | some .cell => match T.tab.lookup x with
    | some i => if i < T.n then some i else none
    | none => none
  | _ => none

noncomputable def withFz (_ : Tb) (_ : Nat) (s : St) : List St := [s]

noncomputable def flatO : Option (List (List St)) → Option (List St)
  | some l => some l.flatten
  | none => none

noncomputable def cTgt2 (T : Tb) (a b : Expr) : Option (List Nat) := (nmE a).bind fun x => (nmE b).bind fun y => (T.slot x).bind fun i => (T.slot y).map fun j => [i, j]
/-- a target: a name, or a pair of names -/
noncomputable def cTgt (T : Tb) (t : Expr) : Option (Nat ⊕ List Nat) := match t with
  | .Name x _ => (T.slot x).map .inl
  | .Tuple es _ _ => (twoL (cTgt2 T) es).map .inr
  | _ => none
noncomputable def isRev (T : Tb) (f : Expr) : Bool := (nmE f).any fun x => (T.glob x).any fun g => tyGl g == some "reversed"
/-- what a loop goes over: e, or reversed(e) -/
noncomputable def cIt (r : Expr → Option Ex) (T : Tb) (e : Expr) : Option (Bool × Ex) := match e with
  | .Call f args kws p => if isRev T f = true then nilL (oneL (fun a => (r a).map fun x => (true, x)) args) kws else (r (.Call f args kws p)).map fun x => (false, x)
  | e => (r e).map fun x => (false, x)
noncomputable def isCall : Expr → Bool
  | .Call .. => true
  | _ => false
noncomputable def cPair (r : Expr → Option Ex) (T : Tb) (es : List Expr) (v : Expr) : Option St := 
  if isCall v then (twoL (cTgt2 T) es).bind fun is => (r v).map fun e => .asgTup is e else none
noncomputable def cAsg (r : Expr → Option Ex) (T : Tb) (t v : Expr) (l : Nat) : Option (List St) := match t with
  | .Name x _ => (T.slot x).bind fun i => (r v).map fun e => withFz T l (.asg i e)
  | .Tuple es _ _ => (cPair r T es v).map fun s => withFz T l s
  | .Subscript o i _ => if isComp v then none else (r v).bind fun ev => (r o).bind fun eo => (r i).map fun ei => withFz T l (.setItem eo ei ev)
  | .Attribute o name _ => if isComp v then none else (r v).bind fun ev => (cAttr r T o name).map fun q => withFz T l (.setAttr q.1 q.2 ev)
  | _ => none

noncomputable def strC : Expr → Option Str
  | .Constant c _ _ => (match c with | .str s => some s | _ => none)
  | _ => none
theorem strC_some {e : Expr} {s : Str} (h : strC e = some s) : ∃ k p, e = .Constant (.str s) k p := by
  cases e with
  | Constant c k p => cases c <;> first | (cases h; exact ⟨_, _, rfl⟩) | cases h
  | _ => cases h
/-- C("..") of an own exception class -/
noncomputable def cRz (T : Tb) (e : Expr) : Option Nat := match e with
  | .Call f args kws _ => nilL (oneL (fun a => (strC a).bind fun _ => (nmE f).bind fun x => (T.glob x).bind excGl) args) kws
  | _ => none
noncomputable def cRaise (T : Tb) (e cause : Option Expr) : Option Nat := if cause.isNone = true then e.bind (cRz T) else none
noncomputable def cAs (T : Tb) : Option Str → Option (Option Nat)
  | none => some none
  | some y => if T.names.lookup y = some .local then (T.slot y).map some else none
noncomputable def cHd (T : Tb) (r : List Stmt → Option (List St)) (h : ExceptHandler) : Option (Nat × Option Nat × List St) := match h with
  | .ExceptHandler t nm body _ => t.bind fun t => (nmE t).bind fun x => (T.glob x).bind fun g => (excGl g).bind fun j => (cAs T nm).bind fun a => if body.isEmpty = true then none else (r body).map fun xs => (j, a, xs)
noncomputable def cS : Nat → Tb → Stmt → Option (List St)
  | 0, _, _ => none
  | k + 1, T, s => match s with
    | .Assign ts v pos => oneL (fun t => cAsg (cE k T) T t v pos.line) ts
    | .While t body els pos => nilL ((cE k T t).bind fun c => (flatO (mapO (cS k T) body)).map fun xs => withFz T pos.line (.while_ c xs)) els
    | .Expr v pos => if isComp v then none else (cE k T v).map fun e => withFz T pos.line (.expr e)
    | .If t a b pos => (cE k T t).bind fun c => (flatO (mapO (cS k T) a)).bind fun xs => (flatO (mapO (cS k T) b)).map fun ys => withFz T pos.line (.ite c xs ys)
    | .For t it body els pos => nilL ((cTgt T t).bind fun tg => (cIt (cE k T) T it).bind fun q => (flatO (mapO (cS k T) body)).map fun xs => withFz T pos.line (.forIn q.1 tg q.2 xs)) els
    | .Return v _ => (match v with
      | some e => (cE k T e).map fun x => [.ret x]
      | none => some [.ret (.cst .none)])
    | .Raise e cause _ => (cRaise T e cause).map fun j => [.raise j]
    | .Try body hs els fin pos => nilL (nilL (oneL (fun h => (flatO (mapO (cS k T) body)).bind fun bs => (cHd T (fun b => flatO (mapO (cS k T) b)) h).map fun q => withFz T pos.line (.try_ bs q.1 q.2.1 q.2.2)) hs) fin) els
    | _ => none
noncomputable def cSs (k : Nat) (T : Tb) (b : List Stmt) : Option (List St) := flatO (mapO (cS k T) b)

end Mine

end
noncomputable section
namespace Mine
open PySem PySem.Calls PyProof.Rows

inductive ResL (c : Cx) (as : Adr) (X : List Addr) (h : HP) (Q : List V → AH → Prop) (xs : List Value) (s' : Shared) : Prop
  | mk (vs : List V) (H' : AH) (as' : Adr) : Ext as h as' → SR c as' X H' s' → Kept as X h s'.heap → VRs c as' X s'.heap vs xs → Q vs H' → ResL c as X h Q xs s'
inductive ResB (c : Cx) (as : Adr) (X : List Addr) (h : HP) (Q : Bool → AH → Prop) (b : Bool) (s' : Shared) : Prop
  | mk (H' : AH) (as' : Adr) : Ext as h as' → SR c as' X H' s' → Kept as X h s'.heap → Q b H' → ResB c as X h Q b s'

section
variable {c : Cx} {as as₁ : Adr} {X : List Addr} {h h₁ : HP} {s' : Shared}
theorem Res.lift {Q : QE} {x : Value} (e : Ext as h as₁) (k : Kept as X h h₁) (r : Res c as₁ X h₁ Q x s') : Res c as X h Q x s' := by
  obtain ⟨v, H', as', e', S, k', hv, q⟩ := r
  exact ⟨v, H', as', e.trans k e', S, k.trans e k', hv, q⟩
theorem ResL.lift {Q : List V → AH → Prop} {x : List Value} (e : Ext as h as₁) (k : Kept as X h h₁) (r : ResL c as₁ X h₁ Q x s') : ResL c as X h Q x s' := by
  obtain ⟨v, H', as', e', S, k', hv, q⟩ := r
  exact ⟨v, H', as', e.trans k e', S, k.trans e k', hv, q⟩
theorem ResB.lift {Q : Bool → AH → Prop} {x : Bool} (e : Ext as h as₁) (k : Kept as X h h₁) (r : ResB c as₁ X h₁ Q x s') : ResB c as X h Q x s' := by
  obtain ⟨H', as', e', S, k', q⟩ := r
  exact ⟨H', as', e.trans k e', S, k.trans e k', q⟩
end

/-- an exception that was raised while none was at hand -/
noncomputable def HOk (b : HP) (e : Addr) : Prop := ∃ o vs, b.get? e = some o ∧ o.data = .fields vs ∧ vs[2]? = some .none
structure ACk (c : Cx) (A : Around) (n : Nat) : Prop where
  hh : c.P.q = false → A.handled = none
  hx : c.P.q = true → ∃ e, A.handled = some (.ref e) ∧ HOk c.base e
  hd : A.depth + 2 * n + 5 ≤ recursionLimit
  hu : A.units + 10 * n + 300 < cLine
/-- with room for one more frame of the machine's own -/
structure AOk (c : Cx) (A : Around) (n : Nat) : Prop extends ACk c A n where
  hr : A.depth + 2 * n + 6 ≤ recursionLimit
  hw : A.units + 10 * n + 305 < cLine
theorem AOk.u64 {c : Cx} {A : Around} {n : Nat} (a : AOk c A n) : A.units + 64 < cLine := by have := a.hu; lia

/-- the block's names are of the kinds that the compiler took them for -/
structure KOk (T : Tb) (env : Env) : Prop where
  loc : ∀ x, T.names.lookup x = some .local → env.kindOf x = some .local
  cell : ∀ x, T.names.lookup x = some .cell → env.kindOf x = some .cell
  free : ∀ x, T.names.lookup x = some .free → env.kindOf x = some .free ∨ env.kindOf x = some .cell
  glob : ∀ x, T.names.lookup x = some .globalImplicit → env.kindOf x = some .globalImplicit

structure Rdy (c : Cx) (T : Tb) (env : Env) (A : Around) (n : Nat) (s : Shared) (as : Adr) (X : List Addr) (H : AH) (ρ : Fm) : Prop where
  a : AOk c A n
  S : SR c as X H s
  F : FR c as X s.heap env T.tab ρ
  K : KOk T env
  len : ρ.length = T.n
  fr : EnvFr c A X as s.heap env
theorem Rdy.next {c : Cx} {T : Tb} {env : Env} {A : Around} {n : Nat} {s s₁ : Shared} {as as₁ : Adr} {X : List Addr} {H H₁ : AH} {ρ : Fm} (R : Rdy c T env A n s as X H ρ)
    (e : Ext as s.heap as₁) (k : Kept as X s.heap s₁.heap) (S : SR c as₁ X H₁ s₁) : Rdy c T env A n s₁ as₁ X H₁ ρ :=
  ⟨R.a, S, R.F.keep k e, R.K, R.len, R.fr.keep e k⟩

noncomputable def GlOk (c : Cx) (x : Str) : Gl → Prop
  | .fn f => c.mg x = some (.ref (c.fad f))
  | .cst v => ∃ y, c.mg x = some y ∧ ∀ as X h, VR c as X h v y
  | .bi b => c.mg x = none ∧ c.mb x = some (.builtin b)
  | .ty t => c.mg x = none ∧ c.mb x = some (.type t)
  | .exc k => c.mg x = some (.ref (c.xcls k)) ∧ c.P.sub k k = true
  | .cls _ _ _ => c.mg x = some (.ref (c.ccls 0))
/-- the text's class: its methods, the names of its instances, the method that makes one ready -/
inductive CK (c : Cx) (ms : List (Str × Nat)) (ats : List Str) (f : Nat) : Prop
  | mk {N : Addr} {mN : Str → Option Value} : ClsAt c.base (c.ccls 0) N mN → mN "__setattr__" = none → mN "__getattribute__" = none → mN "__getattr__" = none → (∀ n ∈ ats, mN n = none ∧ typeLookup (.type "object") n = pure none) →
      (∀ n g, ms.lookup n = some g → mN n = some (.ref (c.fad g)) ∧ (∃ o, c.base.get? (c.fad g) = some o ∧ o.cls = .type "function") ∧ (∃ y, typeLookup (.type "object") n = pure y) ∧ ∃ fn, c.P.fns g = some fn) → mN "__init__" = some (.ref (c.fad f)) → (∃ o, c.base.get? (c.fad f) = some o ∧ o.cls = .type "function") → (∃ fn, c.P.fns f = some fn) → CK c ms ats f
theorem CK.to {c : Cx} {ms : List (Str × Nat)} {ats : List Str} {f : Nat} {q : Bool} {b : HP} (x : CK c ms ats f) (hst : c.base.StaysIn b) : CK (c.to q b) ms ats f := by
  obtain ⟨h1, h2, h3, h4, h5, h6, h7, ⟨o, h8, h9⟩, h10⟩ := x
  exact ⟨h1.keeps hst, h2, h3, h4, h5, fun n g e => let ⟨e1, ⟨o, e2, e3⟩, e4⟩ := h6 n g e; ⟨e1, ⟨o, hst _ _ e2, e3⟩, e4⟩, h7, ⟨o, hst _ _ h8, h9⟩, h10⟩

/-- a call of a compiled function with a budget of n -/
structure SC (c : Cx) (n : Nat) : Prop where
  run : ∀ {f : Nat} {fn : Fn} {A : Around} {s : Shared} {as : Adr} {X : List Addr} {H : AH} {vs : List V} {xs : List Value} {Q : QE} {XX : XE},
  c.P.fns f = some fn → ACk c A n → (∃ l, FrOk c A X as s.heap l) → SR c as X H s → VRs c as X s.heap vs xs → callF c.P n c.P.q f vs H Q XX → wpAny c.M A (call (.ref (c.fad f)) xs) (Res c as X s.heap Q) (ERes c as X s.heap XX) s

structure Cok (c : Cx) (gl : List (Str × Gl)) : Prop where
  g : c.base.Ns mainGlobals c.mg
  b : c.base.Ns builtinsNs c.mb
  nolim : c.base.NoLimit
  x : ∀ k, c.P.sub k k = true → ∃ bm, XC c.base (c.xcls k) bm ∧ ∀ x j, gl.lookup x = some (.exc j) → (Value.ref (c.xcls k) :: bm).contains (.ref (c.xcls j)) = c.P.sub k j
  cl : ∀ x ms ats f, (x, Gl.cls ms ats f) ∈ gl → CK c ms ats f
  gl : ∀ x v, gl.lookup x = some v → GlOk c x v
  fobj : ∀ f fn, c.P.fns f = some fn → ∃ o, c.base.get? (c.fad f) = some o ∧ o.data = .func (c.fdat f)
theorem Cok.to {c : Cx} {gl : List (Str × Gl)} {q : Bool} {b : HP} (C : Cok c gl) (hst : c.base.StaysIn b) : Cok (c.to q b) gl where
  g := C.g.keeps hst
  b := C.b.keeps hst
  nolim := C.nolim.keeps hst
  gl := fun x v h => by
    have := C.gl x v h
    cases v with
    | cst v =>
      refine ea1_2 this ?_
      try clear this
      intro y e r
      exact ⟨y, e, fun as X h => VR.gen (fun a o ha hx ho => ⟨ha, hx, ho⟩) (fun _ _ e => .inl e) (r as X h)⟩
    | _ => exact this
  cl := fun x ms ats f h => (C.cl x ms ats f h).to hst
  fobj := fun f fn h => let ⟨o, e, d⟩ := C.fobj f fn h; ⟨o, hst _ _ e, d⟩
  x := fun k h => let ⟨bm, y, r⟩ := C.x k h; ⟨bm, y.keeps hst, r⟩

structure SE (c : Cx) (n : Nat) (T : Tb) (e : Expr) (ex : Ex) : Prop where
  run : ∀ {env : Env} {A : Around} {s : Shared} {as : Adr} {X : List Addr} {H : AH} {ρ : Fm} {Q : QE} {XX : XE},
  Rdy c T env A n s as X H ρ → wpE c.P (callF c.P n) ex ρ H Q XX → wpAny c.M A (eval e env) (Res c as X s.heap Q) (ERes c as X s.heap XX) s
structure ST (c : Cx) (n : Nat) (T : Tb) (e : Expr) (ex : Ex) : Prop where
  run : ∀ {env : Env} {A : Around} {s : Shared} {as : Adr} {X : List Addr} {H : AH} {ρ : Fm} {P : QE} {Q : Bool → AH → Prop} {XX : XE}, (∀ v H, P v H → okB (truth v) fun b => Q b H) →
  Rdy c T env A n s as X H ρ → wpE c.P (callF c.P n) ex ρ H P XX → wpAny c.M A (isTrue e env (eval e env)) (ResB c as X s.heap Q) (ERes c as X s.heap XX) s

section
variable {c : Cx} {n : Nat} {T : Tb} {gl : List (Str × Gl)}

/-- two values, one behind the other -/
theorem se_two {e₁ e₂ : Expr} {x₁ x₂ : Ex} {env : Env} {A : Around} {s : Shared} {as : Adr} {X : List Addr} {H : AH} {ρ : Fm} {XX : XE} {W : V → V → AH → Prop} {t : Value → Value → Sem Value} {Q : QE}
    (h₁ : SE c n T e₁ x₁) (h₂ : SE c n T e₂ x₂) (R : Rdy c T env A n s as X H ρ)
    (w : wpE c.P (callF c.P n) x₁ ρ H (fun v H' => wpE c.P (callF c.P n) x₂ ρ H' (fun v' H'' => W v v' H'') XX) XX)
    (tail : ∀ {s' : Shared} {as' : Adr} {H' : AH} {v v' : V} {y y' : Value}, SR c as' X H' s' → VR c as' X s'.heap v y → VR c as' X s'.heap v' y' → W v v' H' → wpAny c.M A (t y y') (Res c as' X s'.heap Q) (ERes c as' X s'.heap XX) s') :
    wpAny c.M A (eval e₁ env) (fun y s₁ => wpAny c.M A (eval e₂ env) (fun y' s₂ => wpAny c.M A (t y y') (Res c as X s.heap Q) (ERes c as X s.heap XX) s₂) (ERes c as X s.heap XX) s₁) (ERes c as X s.heap XX) s := by
  refine wpAny_mono (h₁.run R w) (fun y s₁ r => ?_) fun _ _ e => e
  obtain ⟨v, H₁, as₁, e1, S1, k1, hv, w1⟩ := r
  refine wpAny_mono (h₂.run (R.next e1 k1 S1) w1) (fun y' s₂ r => ?_) fun _ _ e => e.lift e1 k1
  obtain ⟨v', H₂, as₂, e2, S2, k2, hv', w2⟩ := r
  refine wpAny_mono (tail S2 (hv.keep k2 e2) hv' w2) (fun x s₃ r => ?_) fun _ _ e => (e.lift e2 k2).lift e1 k1
  exact (r.lift e2 k2).lift e1 k1

theorem primM_false {p : Prim} {vs : List V} {H : AH} : primM c.P false p vs H = prim c.P p vs H := rfl


theorem ge_of {x : Str} {g : Gl} (h : T.glob x = some g) : T.names.lookup x = some .globalImplicit ∧ T.gl.lookup x = some g ∧ (x == ("__debug__" : Str)) = false := by
  replace h := nite_some h
  obtain ⟨hd, h⟩ := h
  obtain ⟨h1, h2⟩ := ite_some h
  try clear h
  exact ⟨h1, h2, hd⟩

theorem n_glob {x : Str} {pos : Pos} {g : Gl} {env : Env} {A : Around} {s : Shared} {as : Adr} {X : List Addr} {H : AH} {ρ : Fm} {R : Value → Shared → Prop} {E : Value → Shared → Prop} {y : Value}
    (C : Cok c T.gl) (h : T.glob x = some g) (Rd : Rdy c T env A n s as X H ρ) (hy : c.mg x = some y ∨ (c.mg x = none ∧ c.mb x = some y)) (r : R y s) : wpAny c.M A (eval (.Name x pos) env) R E s := by
  refine ea0_3 (ge_of h) ?_
  intro h1 h2 h3
  try clear h
  refine Name_function_global Rd.F.kind (Rd.K.glob x h1) ?_ h3
  have hg : s.heap.Ns env.globals c.mg := by rw [Rd.F.glob]; exact C.g.keeps Rd.S.stays
  have hb : s.heap.Ns env.builtins c.mb := by rw [Rd.F.bi]; exact C.b.keeps Rd.S.stays
  try clear h3; try clear h2; try clear h1; try clear C; try clear Rd
  rcases hy with hy | ⟨hy, hy'⟩
  · exact loadGlobal_global hg hy r
  · exact loadGlobal_builtin hg hy hb hy' r

theorem var_of {x : Str} {i : Nat} (h : T.var x = some i) : T.tab.lookup x = some i ∧ (T.names.lookup x = some .local ∨ T.names.lookup x = some .cell ∨ T.names.lookup x = some .free) ∧ (x == ("__debug__" : Str)) = false ∧ (x == ("__classdict__" : Str)) = false := by
  replace h := nite_some h
  obtain ⟨hd, h⟩ := h
  obtain ⟨h1, h2⟩ := ite_some h
  try clear h
  exact ⟨h2, h1, Bool.or_eq_false_iff.mp hd⟩

theorem fromS_ok {s : Str} {l : List Char} (h : fromS s = some l) : toS l = s ∧ l.length ≤ bnd := by
  replace h := ite_is h
  obtain ⟨hh, rfl⟩ := h
  exact ⟨hh.1, Nat.le_trans hh.2 (by decide)⟩

theorem se_const {cst : Const} {kk : Nat} {pos : Pos} {ex : Ex} (h : cConst cst = some ex) : SE c n T (.Constant cst kk pos) ex := by
  refine ⟨?_⟩
  intro env A s as X H ρ Q XX R w
  cases cst with
  | none => cases h; exact wpAny_pure (Res.now (tk := s.toks) R.S .none w)
  | bool => cases h; exact wpAny_pure (Res.now (tk := s.toks) R.S (.bool _) w)
  | int => cases h; exact wpAny_Constant_int (Res.now R.S (.int _ _) w)
  | str =>
    refine ea1_2 (map_is h) ?_
    intro l h1 h2
    try clear h
    try clear l
    cases h2
    obtain ⟨h3, h4⟩ := fromS_ok h1
    try clear h1
    refine Constant_str ?_
    rw [← h3]
    exact Res.now R.S (.str _ _ h4) w
  | _ => cases h

theorem cName_is {x : Str} {ex : Ex} (h : cName T x = some ex) : (∃ i, T.var x = some i ∧ ex = .var i) ∨ ∃ v, T.glob x = some (.cst v) ∧ ex = .cst v := by
  have h : varE (glE (T.glob x)) (T.var x) = some ex := h
  cases hv : T.var x with
  | some i => rw [hv] at h; exact .inl ⟨i, rfl, (Option.some.inj h).symm⟩
  | none =>
    rw [hv] at h
    cases hg : T.glob x with
    | none => rw [hg] at h; cases h
    | some g =>
      rw [hg] at h
      cases g with
      | cst v => exact .inr ⟨v, rfl, (Option.some.inj h).symm⟩
      | _ => cases h
theorem wpE_var_is {P : Prog} {C : Calls} {i : Nat} {ρ : Fm} {H : AH} {Q : QE} {XX : XE} (w : wpE P C (.var i) ρ H Q XX) : ∃ v, ρ[i]? = some (some v) ∧ Q v H := by
  rw [wpE_var] at w
  match h : ρ[i]?, w with
  | some (some v), w => exact ⟨v, rfl, w⟩
theorem se_name {x : Str} {pos : Pos} {ex : Ex} (C : Cok c T.gl) (h : cName T x = some ex) : SE c n T (.Name x pos) ex := by
  refine ⟨?_⟩
  intro env A s as X H ρ Q XX R w
  rcases cName_is h with ⟨i, hi, rfl⟩ | ⟨v, hg, rfl⟩
  · refine ea0_4 (var_of hi) ?_
    intro h1 h2 h3 h4
    refine ea1_2 (wpE_var_is w) ?_
    intro v hv w
    refine wpAny_Name (n_load R.S R.F h1 ?_ hv h4 w) h3
    try clear w; try clear hv; try clear v; try clear h4; try clear h3; try clear h1; try clear C; try clear h
    rcases h2 with h2 | h2 | h2
    · exact .inl (R.K.loc x h2)
    · exact .inr (.inl (R.K.cell x h2))
    · rcases R.K.free x h2 with q | q
      · exact .inr (.inr q)
      · exact .inr (.inl q)
  · refine ea0_3 (ge_of hg) ?_
    intro h1 h2 h3
    refine ea1_2 (C.gl x _ h2) ?_
    intro y e1 e2
    try clear h2
    exact n_glob C hg R (.inl e1) (Res.now (tk := s.toks) R.S (e2 _ _ _) w)

theorem se_two_prim {e₁ e₂ : Expr} {x₁ x₂ : Ex} {p : Prim} {mu : Bool} {env : Env} {A : Around} {s : Shared} {as : Adr} {X : List Addr} {H : AH} {ρ : Fm} {XX : XE} {t : Value → Value → Sem Value} {Q : QE}
    (h₁ : SE c n T e₁ x₁) (h₂ : SE c n T e₂ x₂) (R : Rdy c T env A n s as X H ρ) (w : wpE c.P (callF c.P n) (.prim mu p [x₁, x₂]) ρ H Q XX)
    (tail : ∀ {s' : Shared} {as' : Adr} {H' : AH} {v v' : V} {y y' : Value}, SR c as' X H' s' → VR c as' X s'.heap v y → VR c as' X s'.heap v' y' → okE (primQ c.P mu p [v, v'] H') Q → wpAny c.M A (t y y') (Res c as' X s'.heap Q) (ERes c as' X s'.heap XX) s') :
    wpAny c.M A (eval e₁ env) (fun y s₁ => wpAny c.M A (eval e₂ env) (fun y' s₂ => wpAny c.M A (t y y') (Res c as X s.heap Q) (ERes c as X s.heap XX) s₂) (ERes c as X s.heap XX) s₁) (ERes c as X s.heap XX) s := by
  rw [wpE_prim, wpEs_cons] at w
  simp only [wpEs_cons, wpEs_nil] at w
  exact se_two (W := fun v v' H' => okE (primQ c.P mu p [v, v'] H') Q) h₁ h₂ R w tail

theorem okE_some {r : Option (V × AH)} {Q : QE} (h : okE r Q) : ∃ v H', r = some (v, H') ∧ Q v H' := by
  cases r with
  | none => exact h.elim
  | some p => exact ⟨p.1, p.2, rfl, h⟩
theorem okB_some {r : Option Bool} {K : Bool → Prop} (h : okB r K) : ∃ b, r = some b ∧ K b := by
  cases r with
  | none => exact h.elim
  | some p => exact ⟨p, rfl, h⟩

theorem bopOf_eq {op : Operator} {o : Bop} (h : bopOf op = some o) : op = opOf o := by
  cases op <;> cases h <;> rfl

theorem se_binop {l r : Expr} {op : Operator} {o : Bop} {pos : Pos} {a b : Ex} {mu : Bool} (ho : bopOf op = some o) (h₁ : SE c n T l a) (h₂ : SE c n T r b) : SE c n T (.BinOp l op r pos) (.prim mu (.bop o) [a, b]) := by
  refine ⟨?_⟩
  intro env A s as X H ρ Q XX R w
  refine wpAny_BinOp (se_two_prim h₁ h₂ R w fun S hv hv' q => ?_)
  try clear h₁; try clear h₂
  cases mu with
  | false =>
    refine ea2_2 (okE_some q) ?_
    intro v H' e q'
    refine ea1_2 (Option.map_eq_some_iff.mp (show (binop o _ _ _).map _ = _ from e)) ?_
    intro z e1 e2
    try clear e
    try clear z; try clear H'; try clear v
    cases e2
    exact p_binop S hv hv' (bopOf_eq ho) e1 q'
  | true => exact q.elim

inductive A2 {α β : Type} (R : α → β → Prop) : List α → List β → Prop
  | nil : A2 R [] []
  | cons {a : α} {b : β} {l : List α} {m : List β} : R a b → A2 R l m → A2 R (a :: l) (b :: m)
theorem mapO_A2 {α β : Type} {f : α → Option β} {R : α → β → Prop} (hf : ∀ a b, f a = some b → R a b) : ∀ {l : List α} {m : List β}, mapO f l = some m → A2 R l m
  | [], m, h => by cases h; exact .nil
  | a :: l, m, h => by
    refine ea1_2 (bind_is (show ((f a).bind fun b => (mapO f l).map (b :: ·)) = some m from h)) ?_
    intro b h1 h
    refine ea1_2 (map_is h) ?_
    intro s h2 q_3
    subst q_3
    exact .cons (hf _ _ h1) (mapO_A2 hf h2)

theorem truth_bool {v : V} {b : Bool} (h : truth v = some b) : v = .bool b := by
  cases v with
  | bool => exact congrArg _ (Option.some.inj h)
  | _ => cases h

/-- the truth of an expression's value, where no test of its own is made of it -/
theorem st_plain {e : Expr} {ex : Ex} (hp : ∀ env whole, isTrue e env whole = (do let v ← whole; standAt e.pos; holding [v] (truthy v))) (h : SE c n T e ex) : ST c n T e ex := by
  refine ⟨?_⟩
  intro env A s as X H ρ P Q XX hP R w
  rw [hp]
  refine wpAny_bind (wpAny_mono (h.run R w) (fun y s₁ r => wpAny_bind (wpAny_standAt (wpAny_holding ?_))) fun _ _ e => e)
  obtain ⟨v, H₁, as₁, e1, S1, k1, hv, q⟩ := r
  replace q := okB_some (hP _ _ q)
  refine ea1_2 q ?_
  clear q
  intro b hb q
  clear h hp hP w
  cases truth_bool hb
  cases hv.inv
  exact wpAny_truthy_bool ⟨H₁, as₁, e1, S1, k1, q⟩

theorem se_not {x : Expr} {pos : Pos} {a : Ex} (h : SE c n T x a) : SE c n T (.UnaryOp .Not x pos) (.prim false .not [a]) := by
  refine ⟨?_⟩
  intro env A s as X H ρ Q XX R w
  rw [wpE_prim, wpEs_cons] at w
  simp only [wpEs_nil] at w
  refine wpAny_UnaryOp (wpAny_mono (h.run R w) (fun y s₁ r => ?_) fun _ _ e => e)
  obtain ⟨v, H₁, as₁, e1, S1, k1, hv, q⟩ := r
  refine ea2_2 (okE_some q) ?_
  intro v' H' e q'
  try clear q
  refine ea1_2 (map_is (show (truth v).map _ = _ from e)) ?_
  intro b e2 e3
  try clear v; try clear e
  try clear b; try clear H'; try clear v'; try clear as₁; try clear H₁; try clear h
  replace e2 := truth_bool e2
  cases e2
  try clear e2
  cases e3
  try clear e3
  cases hv.inv
  exact not_of (wpAny_truthy_bool ((Res.now (tk := s₁.toks) S1 (.bool _) q').lift e1 k1))
theorem st_not {x : Expr} {pos : Pos} {a : Ex} (h : ST c n T x a) : ST c n T (.UnaryOp .Not x pos) (.prim false .not [a]) := by
  refine ⟨?_⟩
  intro env A s as X H ρ P Q XX hP R w
  rw [wpE_prim, wpEs_cons] at w
  simp only [wpEs_nil] at w
  refine wpAny_isTrue_Not (wpAny_mono (h.run (Q := fun b H' => Q (!b) H') (fun v H' q => ?_) R w) (fun b s₁ r => let ⟨H₁, as₁, e1, S1, k1, q⟩ := r; ⟨H₁, as₁, e1, S1, k1, q⟩) fun _ _ e => e)
  clear h w R
  refine ea2_2 (okE_some q) ?_
  intro r H'' e q
  refine ea1_2 (map_is (show (truth v).map _ = _ from e)) ?_
  intro b e2 e3
  clear e
  cases e3
  rw [e2]
  exact hP _ _ q
theorem se_neg {x : Expr} {pos : Pos} {a : Ex} (h : SE c n T x a) : SE c n T (.UnaryOp .USub x pos) (.prim false .neg [a]) := by
  refine ⟨?_⟩
  intro env A s as X H ρ Q XX R w
  rw [wpE_prim, wpEs_cons] at w
  simp only [wpEs_nil] at w
  refine wpAny_UnaryOp (wpAny_mono (h.run R w) (fun y s₁ r => ?_) fun _ _ e => e)
  obtain ⟨v, H₁, as₁, e1, S1, k1, hv, q⟩ := r
  refine ea2_2 (okE_some q) ?_
  intro v' H' e q'
  try clear q
  refine ea1_2 (map_is (show v.num.map _ = _ from e)) ?_
  intro i e2 e3
  try clear v; try clear e
  try clear i; try clear H'; try clear v'; try clear as₁; try clear H₁; try clear h
  replace e2 := V.num_is e2
  cases e2
  try clear e2
  cases e3
  try clear e3
  cases hv.inv
  exact PyProof.Rows.neg_int ((Res.now S1 (.int _ _) q').lift e1 k1)

theorem boolOp_cons {pos : Pos} {op : BoolOp} {e₁ e₂ : Expr} {es : List Expr} {env : Env} : boolOp pos op (evalEach (e₁ :: e₂ :: es) env) = (do
    let v ← eval e₁ env
    standAt pos
    let t ← holding [v] (truthy v)
    if goes op t then boolOp pos op (evalEach (e₂ :: es) env) else pure v) := by
  show (eval e₁ env >>= fun v => standAt pos >>= fun _ => holding [v] (truthy v) >>= fun t => _) = _
  congr 1; funext v; congr 1; funext _; congr 1; funext t
  cases op <;> cases t <;> rfl
theorem se_bool {op : BoolOp} {pos : Pos} {env : Env} {A : Around} {X : List Addr} {ρ : Fm} {XX : XE} {es : List Expr} {xs : List Ex} (h : A2 (SE c n T) es xs) : ∀ {ex : Ex} {s : Shared} {as : Adr} {H : AH} {Q : QE}, boolEx op xs = some ex →
    Rdy c T env A n s as X H ρ → wpE c.P (callF c.P n) ex ρ H Q XX → wpAny c.M A (boolOp pos op (evalEach es env)) (Res c as X s.heap Q) (ERes c as X s.heap XX) s := by
  induction h with
  | nil => intro ex s as H Q h; cases h
  | cons h₁ h₂ ih =>
    intro ex s as H Q h R w
    cases h₂ with
    | nil => cases h; exact h₁.run R w
    | cons h₂ h₃ =>
      refine ea1_2 (map_is h) ?_
      clear h
      intro y hy hex
      subst hex
      rw [wpE_mkB] at w
      rw [boolOp_cons]
      refine wpAny_bind (wpAny_mono (h₁.run R w) (fun v s₁ r => ?_) fun _ _ e => e)
      obtain ⟨v, H₁, as₁, e1, S1, k1, hv, q⟩ := r
      refine ea1_2 (okB_some q) ?_
      clear q w h₁
      intro b hb q
      cases truth_bool hb
      cases hv.inv
      refine wpAny_bind (wpAny_standAt (wpAny_bind (wpAny_holding (wpAny_truthy_bool ?_))))
      by_cases g : goes op b = true
      · rw [if_pos g] at q ⊢; exact wpAny_mono (ih hy (R.next e1 k1 S1) q) (fun _ _ r => r.lift e1 k1) fun _ _ e => e.lift e1 k1
      · rw [if_neg g] at q ⊢; exact wpAny_pure ((Res.now (tk := s₁.toks) S1 (.bool _) q).lift e1 k1)
theorem allTrue_cons {op : BoolOp} {e₁ : Expr} {es : List Expr} {env : Env} : allTrue op (e₁ :: es) env = (do
    let t ← isTrue e₁ env (eval e₁ env)
    if goes op t then allTrue op es env else pure t) := by
  rw [arm_allTrue_cons]
  congr 1; funext t
  cases op <;> cases t <;> rfl
theorem st_bool {op : BoolOp} {env : Env} {A : Around} {X : List Addr} {ρ : Fm} {XX : XE} {es : List Expr} {xs : List Ex} (h : A2 (ST c n T) es xs) : ∀ {ex : Ex} {s : Shared} {as : Adr} {H : AH} {P : QE} {Q : Bool → AH → Prop}, boolEx op xs = some ex → (∀ v H, P v H → okB (truth v) fun b => Q b H) →
    Rdy c T env A n s as X H ρ → wpE c.P (callF c.P n) ex ρ H P XX → wpAny c.M A (allTrue op es env) (ResB c as X s.heap Q) (ERes c as X s.heap XX) s := by
  induction h with
  | nil => intro ex s as H P Q h; cases h
  | cons h₁ h₂ ih =>
    intro ex s as H P Q h hP R w
    rw [allTrue_cons]
    cases h₂ with
    | nil =>
      cases h
      refine wpAny_bind (wpAny_mono (h₁.run hP R w) (fun b s₁ r => ?_) fun _ _ e => e)
      by_cases g : goes op b = true
      · rw [if_pos g]; cases op <;> cases b <;> first | exact wpAny_pure r | cases g
      · rw [if_neg g]; exact wpAny_pure r
    | cons h₂ h₃ =>
      refine ea1_2 (map_is h) ?_
      clear h
      intro y hy hex
      subst hex
      rw [wpE_mkB] at w
      refine wpAny_bind (wpAny_mono (h₁.run (Q := fun t H' => if goes op t then wpE c.P (callF c.P n) y ρ H' P XX else P (.bool t) H') (fun _ _ q => q) R w) (fun b s₁ r => ?_) fun _ _ e => e)
      obtain ⟨H₁, as₁, e1, S1, k1, q⟩ := r
      clear w h₁
      by_cases g : goes op b = true
      · rw [if_pos g] at q ⊢; exact wpAny_mono (ih hy hP (R.next e1 k1 S1) q) (fun _ _ r => r.lift e1 k1) fun _ _ e => e.lift e1 k1
      · rw [if_neg g] at q ⊢; exact wpAny_pure ⟨H₁, as₁, e1, S1, k1, hP _ _ q⟩

theorem copOf_eq (op : CmpOp) : copOf (copOf? op) = op := by cases op <;> rfl

theorem p_cmp' {A : Around} {E : Value → Shared → Prop} {s : Shared} {as : Adr} {X : List Addr} {H : AH} {Q : QE} {op : CmpOp} {x y : V} {cx cy : Value} {b : Bool} (S : SR c as X H s) (hx : VR c as X s.heap x cx) (hy : VR c as X s.heap y cy) (hu : A.units + 64 < cLine)
    (e : cmpop (copOf? op) x y H = some b) (q : Q (.bool b) H) : wpAny c.M A (compareOp op cx cy) (Res c as X s.heap Q) E s := by
  have h := p_cmp (A := A) (E := E) S hx hy hu e q
  rw [copOf_eq] at h
  exact h
theorem se_cmp {l r : Expr} {op : CmpOp} {pos : Pos} {a b : Ex} (hm : behindInMarks op r = false) (h₁ : SE c n T l a) (h₂ : SE c n T r b) : SE c n T (.Compare l [op] [r] pos) (.prim false (.cop (copOf? op)) [a, b]) := by
  refine ⟨?_⟩
  intro env A s as X H ρ Q XX R w
  refine wpAny_Compare1 (se_two_prim h₁ h₂ R w fun S hv hv' q => ?_) hm
  refine ea2_2 (okE_some q) ?_
  intro v H' e q'
  refine ea1_2 (map_is (show (cmpop (copOf? op) _ _ _).map _ = _ from e)) ?_
  intro z e1 e2
  try clear e
  try clear z; try clear H'; try clear v; try clear h₁; try clear h₂; try clear hm
  cases e2
  exact p_cmp' S hv hv' R.a.u64 e1 q'
theorem st_cmp {l r : Expr} {op : CmpOp} {pos : Pos} {a b : Ex} (hm : behindInMarks op r = false) (h₁ : SE c n T l a) (h₂ : SE c n T r b) : ST c n T (.Compare l [op] [r] pos) (.prim false (.cop (copOf? op)) [a, b]) := by
  refine ⟨?_⟩
  intro env A s as X H ρ P Q XX hP R w
  refine wpAny_isTrue_Compare1 ?_ hm
  rw [wpE_prim, wpEs_cons] at w
  simp only [wpEs_cons, wpEs_nil] at w
  refine wpAny_mono (h₁.run R w) (fun y s₁ r => ?_) fun _ _ e => e
  obtain ⟨v, H₁, as₁, e1, S1, k1, hv, w1⟩ := r
  refine wpAny_mono (h₂.run (R.next e1 k1 S1) w1) (fun y' s₂ r => ?_) fun _ _ e => e.lift e1 k1
  obtain ⟨v', H₂, as₂, e2, S2, k2, hv', w2⟩ := r
  refine ea2_2 (okE_some w2) ?_
  intro z H' e q'
  try clear w2
  refine ea1_2 (map_is (show (cmpop (copOf? op) v v' _).map _ = _ from e)) ?_
  intro t e3 e4
  try clear v; try clear v'; try clear e
  try clear H'; try clear z; try clear as₂; try clear H₂; try clear w1; try clear S1; try clear as₁; try clear H₁; try clear h₁; try clear h₂; try clear hm
  cases e4
  replace q' := okB_some (hP _ _ q')
  refine ea1_2 q' ?_
  try clear q'
  intro t' h5 q'
  try clear t'; try clear e4
  cases h5
  have := p_cmp' (A := A) (E := ERes c as X s.heap XX) (Q := fun v H => v = .bool t ∧ Q t H) S2 (hv.keep k2 e2) hv' R.a.u64 e3 ⟨rfl, q'⟩
  refine wpAny_mono this (fun x s₃ r => ?_) fun _ _ e => e
  try clear h5; try clear e3; try clear t; try clear q'; try clear hv'; try clear S2; try clear hv
  obtain ⟨v3, H3, as3, e6, S3, k3, hv3, rfl, q3⟩ := r
  try clear v3
  cases hv3.inv
  exact wpAny_truthy_bool ((ResB.lift e1 k1 (ResB.lift e2 k2 ⟨H3, as3, e6, S3, k3, q3⟩)))

theorem cmp2_run {l m : Expr} {o₁ o₂ : CmpOp} {a b d : Ex} (h₁ : SE c n T l a) (h₂ : SE c n T m b)
    {env : Env} {A : Around} {s : Shared} {as : Adr} {X : List Addr} {H : AH} {ρ : Fm} {Q : QE} {XX : XE} (R : Rdy c T env A n s as X H ρ) (w : wpE c.P (callF c.P n) (.cmp2 a (copOf? o₁) b (copOf? o₂) d) ρ H Q XX)
    {α : Type} {k₁ : Value → Value → Value → Sem α} {R₀ : α → Shared → Prop}
    (no : ∀ {s' : Shared} {as' : Adr} {H' : AH} {y y' : Value}, Ext as s.heap as' → Kept as X s.heap s'.heap → SR c as' X H' s' → Q (.bool false) H' → wpAny c.M A (k₁ y y' (.bool false)) R₀ (ERes c as X s.heap XX) s')
    (yes : ∀ {s' : Shared} {as' : Adr} {H' : AH} {v' : V} {y y' : Value}, Ext as s.heap as' → Kept as X s.heap s'.heap → SR c as' X H' s' → VR c as' X s'.heap v' y' →
      wpE c.P (callF c.P n) d ρ H' (fun z H₃ => okB (cmpop (copOf? o₂) v' z H₃) fun t' => Q (.bool t') H₃) XX → wpAny c.M A (k₁ y y' (.bool true)) R₀ (ERes c as X s.heap XX) s') :
    wpAny c.M A (eval l env) (fun y s₁ => wpAny c.M A (eval m env) (fun y' s₂ => wpAny c.M A (compareOp o₁ y y') (fun x s₃ => wpAny c.M A (k₁ y y' x) R₀ (ERes c as X s.heap XX) s₃) (ERes c as X s.heap XX) s₂) (ERes c as X s.heap XX) s₁) (ERes c as X s.heap XX) s := by
  rw [wpE_cmp2] at w
  refine wpAny_mono (h₁.run R w) (fun y s₁ r => ?_) fun _ _ e => e
  obtain ⟨v, H₁, as₁, e1, S1, k1, hv, w1⟩ := r
  refine wpAny_mono (h₂.run (R.next e1 k1 S1) w1) (fun y' s₂ r => ?_) fun _ _ e => e.lift e1 k1
  obtain ⟨v', H₂, as₂, e2, S2, k2, hv', w2⟩ := r
  refine ea1_2 (okB_some w2) ?_
  intro t e3 q
  try clear w2
  have := p_cmp' (A := A) (E := ERes c as X s.heap XX) (Q := fun v H => v = .bool t ∧ H = H₂) S2 (hv.keep k2 e2) hv' R.a.u64 e3 ⟨rfl, rfl⟩
  refine wpAny_mono this (fun x s₃ r => ?_) fun _ _ e => e
  try clear e3; try clear S2; try clear as₂; try clear H₂; try clear v'; try clear w1; try clear hv; try clear S1; try clear as₁; try clear H₁; try clear v; try clear h₁; try clear R; try clear h₂; try clear w
  obtain ⟨v3, H3, as3, e6, S3, k3, hv3, rfl, rfl⟩ := r
  try clear as3; try clear H3; try clear v3
  cases hv3.inv
  have E := (e1.trans k1 e2).trans (k1.trans e1 k2) e6
  have K := (k1.trans e1 k2).trans (e1.trans k1 e2) k3
  try clear hv3; try clear k2; try clear e2; try clear k1; try clear e1
  cases t with
  | false => exact no E K S3 q
  | true => exact yes E K S3 (hv'.keep k3 e6) q

theorem se_cmp2 {l m r : Expr} {o₁ o₂ : CmpOp} {pos : Pos} {a b d : Ex} (hm : behindInMarks o₂ r = false) (h₁ : SE c n T l a) (h₂ : SE c n T m b) (h₃ : SE c n T r d) : SE c n T (.Compare l [o₁, o₂] [m, r] pos) (.cmp2 a (copOf? o₁) b (copOf? o₂) d) := by
  refine ⟨?_⟩
  intro env A s as X H ρ Q XX R w
  have e0 : eval (.Compare l [o₁, o₂] [m, r] pos) env = (do
      let x ← eval l env
      let y ← holding [x] (eval m env)
      standAt pos
      let z ← holding [x, y] (compareOp o₁ x y)
      release [x, y] [z]
      if ← holding [z, y] (truthy z) then (do
        let u ← holding [y] (eval r env)
        standAt pos
        operate [y, u] (compareOp o₂ y u)) else pure z) := by
    have : eval (.Compare l [o₁, o₂] [m, r] pos) env = (do compareChain pos (← eval l env) [o₁, o₂] [eval m env, markedBehindIn o₂ r (eval r env)]) := rfl
    rw [this, markedBehindIn_of_false hm]
    rfl
  rw [e0]
  have hrun := cmp2_run (k₁ := fun x y z => (do
      release [x, y] [z]
      if ← holding [z, y] (truthy z) then (do
        let u ← holding [y] (eval r env)
        standAt pos
        operate [y, u] (compareOp o₂ y u)) else pure z)) (R₀ := Res c as X s.heap Q) h₁ h₂ R w ?_ ?_
  · refine wpAny_bind (wpAny_mono hrun (fun x s₁ r => wpAny_bind (wpAny_holding (wpAny_mono r (fun y s₂ r => wpAny_bind (wpAny_standAt (wpAny_bind (wpAny_holding r)))) fun _ _ e => e))) fun _ _ e => e)
  · intro s' as' H' y y' E K S q
    refine wpAny_bind (wpAny_release (wpAny_bind (wpAny_holding (wpAny_truthy_bool ?_))))
    exact wpAny_pure ((Res.now (tk := s'.toks) S (.bool _) q).lift E K)
  · intro s' as' H' v' y y' E K S hv' w3
    refine wpAny_bind (wpAny_release (wpAny_bind (wpAny_holding (wpAny_truthy_bool ?_))))
    refine wpAny_bind (wpAny_holding (wpAny_mono (h₃.run (R.next E K S) w3) (fun u s₂ r => ?_) fun _ _ e => e.lift E K))
    obtain ⟨v4, H4, as4, e4, S4, k4, hv4, q4⟩ := r
    refine ea1_2 (okB_some q4) ?_
    intro t e5 q5
    try clear q4
    refine wpAny_bind (wpAny_standAt (wpAny_operating ?_))
    have := p_cmp' (A := A) (E := ERes c as X s.heap XX) S4 (hv'.keep k4 e4) hv4 R.a.u64 e5 q5
    exact wpAny_mono this (fun _ _ r => (r.lift e4 k4).lift E K) fun _ _ e => e

theorem st_cmp2 {l m r : Expr} {o₁ o₂ : CmpOp} {pos : Pos} {a b d : Ex} (hm : behindInMarks o₂ r = false) (h₁ : SE c n T l a) (h₂ : SE c n T m b) (h₃ : SE c n T r d) : ST c n T (.Compare l [o₁, o₂] [m, r] pos) (.cmp2 a (copOf? o₁) b (copOf? o₂) d) := by
  refine ⟨?_⟩
  intro env A s as X H ρ P Q XX hP R w
  have e0 : isTrue (.Compare l [o₁, o₂] [m, r] pos) env (eval (.Compare l [o₁, o₂] [m, r] pos) env) = (do
      let x ← eval l env
      let y ← holding [x] (eval m env)
      standAt pos
      let z ← holding [x, y] (compareOp o₁ x y)
      release [x, y] [z]
      if ← holding [z, y] (truthy z) then (do
        let u ← holding [y] (eval r env)
        standAt pos
        let z' ← operate [y, u] (compareOp o₂ y u)
        holding [z'] (truthy z')) else pure false) := by
    have : isTrue (.Compare l [o₁, o₂] [m, r] pos) env (eval (.Compare l [o₁, o₂] [m, r] pos) env) = (do testChain pos (← eval l env) [o₁, o₂] [eval m env, markedBehindIn o₂ r (eval r env)]) := rfl
    rw [this, markedBehindIn_of_false hm]
    rfl
  rw [e0]
  have hrun := cmp2_run (k₁ := fun x y z => (do
      release [x, y] [z]
      if ← holding [z, y] (truthy z) then (do
        let u ← holding [y] (eval r env)
        standAt pos
        let z' ← operate [y, u] (compareOp o₂ y u)
        holding [z'] (truthy z')) else pure false)) (R₀ := ResB c as X s.heap Q) h₁ h₂ R w ?_ ?_
  · refine wpAny_bind (wpAny_mono hrun (fun x s₁ r => wpAny_bind (wpAny_holding (wpAny_mono r (fun y s₂ r => wpAny_bind (wpAny_standAt (wpAny_bind (wpAny_holding r)))) fun _ _ e => e))) fun _ _ e => e)
  · intro s' as' H' y y' E K S q
    refine wpAny_bind (wpAny_release (wpAny_bind (wpAny_holding (wpAny_truthy_bool ?_))))
    exact wpAny_pure ⟨H', as', E, S, K, hP _ _ q⟩
  · intro s' as' H' v' y y' E K S hv' w3
    refine wpAny_bind (wpAny_release (wpAny_bind (wpAny_holding (wpAny_truthy_bool ?_))))
    refine wpAny_bind (wpAny_holding (wpAny_mono (h₃.run (R.next E K S) w3) (fun u s₂ r => ?_) fun _ _ e => e.lift E K))
    obtain ⟨v4, H4, as4, e4, S4, k4, hv4, q4⟩ := r
    refine ea1_2 (okB_some q4) ?_
    intro t e5 q5
    try clear q4
    refine wpAny_bind (wpAny_standAt (wpAny_bind (wpAny_operating ?_)))
    have := p_cmp' (A := A) (E := ERes c as X s.heap XX) (Q := fun v H => v = .bool t ∧ Q t H) S4 (hv'.keep k4 e4) hv4 R.a.u64 e5 ⟨rfl, hP _ _ q5⟩
    refine wpAny_mono this (fun _ _ r => ?_) fun _ _ e => e
    try clear q5; try clear e5; try clear t; try clear hv4; try clear S4; try clear as4; try clear H4; try clear v4; try clear h₁; try clear h₃; try clear h₂; try clear hm
    obtain ⟨v3, H3, as3, e6, S3, k3, hv3, rfl, q3⟩ := r
    try clear v3
    cases hv3.inv
    exact wpAny_holding (wpAny_truthy_bool (ResB.lift E K (ResB.lift e4 k4 ⟨H3, as3, e6, S3, k3, q3⟩)))

noncomputable def NS (e : Expr) : Prop := ∀ a p, e ≠ .Starred a p
theorem star_ns {e : Expr} (h : NS e) (r : List Expr) (env : Env) : starEach (e :: r) env = (false, eval e env) :: starEach r env := by
  try clear r; try clear env
  cases e with
  | Starred a p => exact absurd rfl (h a p)
  | _ => rfl

abbrev SEs (c : Cx) (n : Nat) (T : Tb) (es : List Expr) (xs : List Ex) : Prop := A2 (fun e x => SE c n T e x ∧ NS e) es xs

theorem se_args {pos : Pos} {env : Env} {A : Around} {X : List Addr} {ρ : Fm} {XX : XE} {es : List Expr} {xs : List Ex} (h : SEs c n T es xs) : ∀ {s : Shared} {as : Adr} {H : AH} {Q : List V → AH → Prop}, Rdy c T env A n s as X H ρ →
    wpEs c.P (callF c.P n) xs ρ H Q XX → wpAny c.M A (spliced (backTo pos (starEach es env))) (ResL c as X s.heap (fun vs H' => vs.length = xs.length ∧ Q vs H')) (ERes c as X s.heap XX) s := by
  induction h with
  | nil => exact fun R w => spliced_nil ⟨[], _, _, .refl .., R.S, Kept.refl _ _ _, .nil, rfl, w⟩
  | cons h₁ _ ih =>
    intro s as H Q R w
    rw [star_ns h₁.2]
    refine spliced_cons ?_
    rw [wpEs_cons] at w
    refine wpAny_mono (h₁.1.run R w) (fun y s₁ r => ?_) fun _ _ e => e
    obtain ⟨v, H₁, as₁, e1, S1, k1, hv, w1⟩ := r
    refine wpAny_mono (ih (R.next e1 k1 S1) w1) (fun ys s₂ r => ?_) fun _ _ e => e.lift e1 k1
    obtain ⟨vs, H₂, as₂, e2, S2, k2, hvs, hl, q⟩ := r
    exact ⟨v :: vs, H₂, as₂, e1.trans k1 e2, S2, k1.trans e1 k2, .cons (hv.keep k2 e2) hvs, congrArg Nat.succ hl, q⟩

theorem se_evalArgs {f : Value} {pos : Pos} {env : Env} {A : Around} {X : List Addr} {ρ : Fm} {XX : XE} {es : List Expr} {xs : List Ex} {s : Shared} {as : Adr} {H : AH} {Q : List V → AH → Prop} (h : SEs c n T es xs) (R : Rdy c T env A n s as X H ρ)
    (w : wpEs c.P (callF c.P n) xs ρ H Q XX) : wpAny c.M A (evalArgs f true (backTo pos (starEach es env)) []) (fun a s' => a.kw = [] ∧ ResL c as X s.heap (fun vs H' => vs.length = xs.length ∧ Q vs H') a.pos s') (ERes c as X s.heap XX) s := by
  have hr := se_args (pos := pos) h R w
  cases h with
  | nil => exact evalArgs_kw_nil (keywords := []) rfl (wpAny_evalAll_nil ⟨rfl, ⟨[], H, as, .refl .., R.S, Kept.refl _ _ _, .nil, rfl, w⟩⟩)
  | cons h₁ h₂ =>
    rw [star_ns h₁.2] at hr ⊢
    exact evalArgs_plain (wpAny_mono hr (fun vs s' r => ⟨rfl, r⟩) fun _ _ e => e)

theorem no_star {es : List Expr} {xs : List Ex} {pos : Pos} {env : Env} (h : SEs c n T es xs) : (backTo pos (starEach es env)).any (·.1) = false := by
  induction h with
  | nil => rfl
  | cons h₁ _ ih => rw [star_ns h₁.2]; exact ih

/-- a call of a def of the text -/
theorem se_call {g : Str} {p pos : Pos} {args : List Expr} {xs : List Ex} {f : Nat} (C : Cok c T.gl) (sc : SC c n) (hg : T.glob g = some (.fn f)) (hf : ∃ fn, c.P.fns f = some fn) (h : SEs c n T args xs) : SE c n T (.Call (.Name g p) args [] pos) (.call f xs) := by
  refine ⟨?_⟩
  intro env A s as X H ρ Q XX R w
  obtain ⟨fn, hf⟩ := hf
  rw [wpE_call] at w
  have e1 := C.gl g _ (ge_of hg).2.1
  refine wpAny_Call_Name_kw (n_glob C hg R (.inl e1) ?_)
  refine callWith_function (o := (C.fobj f fn hf).choose) (fd := c.fdat f) (wpAny_mono (se_evalArgs h R w) (fun a s₁ r => ?_) fun _ _ e => e)
  obtain ⟨hk, vs, H₁, as₁, e1, S1, k1, hvs, _, q⟩ := r
  have ho := (C.fobj f fn hf).choose_spec
  refine ⟨⟨S1.stays _ _ ho.1, ho.2⟩, ?_⟩
  rw [hk]
  exact wpAny_mono (sc.run hf R.a.toACk (R.fr.keep e1 k1).all S1 hvs q) (fun _ _ r => r.lift e1 k1) fun _ _ e => e.lift e1 k1

/-- a call of a built-in function -/
theorem se_bi {g : Str} {b : String} {p pos : Pos} {args : List Expr} {xs : List Ex} {pr : Prim} (C : Cok c T.gl) (hg : T.glob g = some (.bi b)) (h : SEs c n T args xs)
    (tail : ∀ {A : Around} {s : Shared} {as : Adr} {X : List Addr} {H : AH} {Q : QE} {XX : XE} {vs : List V} {ys : List Value}, AOk c A n → SR c as X H s → VRs c as X s.heap vs ys → vs.length = xs.length → okE (primQ c.P false pr vs H) Q → wpAny c.M A (call (.builtin b) ys) (Res c as X s.heap Q) (ERes c as X s.heap XX) s) :
    SE c n T (.Call (.Name g p) args [] pos) (.prim false pr xs) := by
  refine ⟨?_⟩
  intro env A s as X H ρ Q XX R w
  rw [wpE_prim] at w
  have e1 := C.gl g _ (ge_of hg).2.1
  refine wpAny_Call_Name_kw (n_glob C hg R (.inr e1) ?_)
  refine callWith_builtin (no_star h) (wpAny_mono (se_evalArgs h R w) (fun a s₁ r => ?_) fun _ _ e => e)
  obtain ⟨hk, vs, H₁, as₁, e1, S1, k1, hvs, hl, q⟩ := r
  rw [hk]
  exact wpAny_mono (tail R.a S1 hvs hl q) (fun _ _ r => r.lift e1 k1) fun _ _ e => e.lift e1 k1
/-- a call of a built-in type -/
theorem se_ty {g : Str} {b : String} {p pos : Pos} {args : List Expr} {xs : List Ex} {pr : Prim} {mu : Bool} (C : Cok c T.gl) (hg : T.glob g = some (.ty b)) (h : SEs c n T args xs)
    (tail : ∀ {A : Around} {s : Shared} {as : Adr} {X : List Addr} {H : AH} {Q : QE} {XX : XE} {vs : List V} {ys : List Value}, AOk c A n → SR c as X H s → VRs c as X s.heap vs ys → vs.length = xs.length → okE (primQ c.P mu pr vs H) Q → wpAny c.M A (call (.type b) ys) (Res c as X s.heap Q) (ERes c as X s.heap XX) s) :
    SE c n T (.Call (.Name g p) args [] pos) (.prim mu pr xs) := by
  refine ⟨?_⟩
  intro env A s as X H ρ Q XX R w
  rw [wpE_prim] at w
  have e1 := C.gl g _ (ge_of hg).2.1
  refine wpAny_Call_Name_kw (n_glob C hg R (.inr e1) ?_)
  refine PySem.callWith_type (no_star h) (wpAny_mono (se_evalArgs h R w) (fun a s₁ r => ?_) fun _ _ e => e)
  obtain ⟨hk, vs, H₁, as₁, e1, S1, k1, hvs, hl, q⟩ := r
  rw [hk]
  exact wpAny_mono (tail R.a S1 hvs hl q) (fun _ _ r => r.lift e1 k1) fun _ _ e => e.lift e1 k1

theorem len1 {vs : List V} {ys : List Value} {as : Adr} {X : List Addr} {hp : HP} (h : VRs c as X hp vs ys) (hl : vs.length = 1) : ∃ v y, vs = [v] ∧ ys = [y] ∧ VR c as X hp v y := by
  cases h with
  | nil => simp at hl
  | cons a r =>
    try clear h
    cases r with
    | nil => exact ⟨_, _, rfl, rfl, a⟩
    | cons _ _ => simp at hl
theorem len2 {vs : List V} {ys : List Value} {as : Adr} {X : List Addr} {hp : HP} (h : VRs c as X hp vs ys) (hl : vs.length = 2) : ∃ v v' y y', vs = [v, v'] ∧ ys = [y, y'] ∧ VR c as X hp v y ∧ VR c as X hp v' y' := by
  cases h with
  | nil => simp at hl
  | cons a r =>
    try clear h
    cases r with
    | nil => simp at hl
    | cons b r =>
      cases r with
      | nil => exact ⟨_, _, _, _, rfl, rfl, a, b⟩
      | cons _ _ => simp at hl
theorem A2.length {α β : Type} {R : α → β → Prop} {l : List α} {m : List β} (h : A2 R l m) : l.length = m.length := by
  induction h with
  | nil => rfl
  | cons _ _ ih => rw [List.length_cons, List.length_cons, ih]

theorem pList_lst {v r : V} {H H' : AH} (h : pList [v] H = some (r, H')) : ∃ ws, r = .lst ws ∧ H' = H := by
  refine ea1_2 (map_is h) ?_
  intro r' h1 h2
  try clear h
  try clear r'
  cases h2
  have hv : ((view H v).bind fun vs => if vs.length ≤ sizeOf' then some (V.lst vs) else none) = some r → ∃ ws, r = .lst ws := fun e => by
    refine ea1_2 (bind_is e) ?_
    intro vs _ e
    exact ⟨vs, (ite_is e).2.symm⟩
  have key : ∃ ws, r = .lst ws := by
    try clear h2
    cases v with
    | rng a b => exact ⟨_, (ite_is h1).2.symm⟩
    | tup vs => exact ⟨_, (ite_is h1).2.symm⟩
    | _ => exact hv h1
  exact ⟨key.choose, key.choose_spec, rfl⟩

theorem se_biPrim {g : Str} {b : String} {p pos : Pos} {args : List Expr} {xs : List Ex} {pr : Prim} (C : Cok c T.gl) (hg : T.glob g = some (.bi b)) (h : SEs c n T args xs) (hp : biPrim b args.length = some pr) : SE c n T (.Call (.Name g p) args [] pos) (.prim false pr xs) := by
  have hl := h.length
  unfold biPrim at hp
  split at hp
  · rename_i q; cases hp
    obtain ⟨rfl, hn⟩ := q
    refine se_bi C hg h fun a S hv hl' q => ?_
    refine ea2_3 (len1 hv (by lia)) ?_
    intro v y q_3 q_4 hv1
    subst q_3
    subst q_4
    refine ea2_2 (okE_some q) ?_
    intro r H' e q'
    exact p_len S hv1 e q'
  split at hp
  · rename_i q; cases hp
    obtain ⟨rfl, hn⟩ := q
    refine se_bi C hg h fun a S hv hl' q => ?_
    refine ea2_3 (len1 hv (by lia)) ?_
    intro v y q_3 q_4 hv1
    subst q_3
    subst q_4
    obtain ⟨hq, q⟩ := okQ q
    refine ea2_2 (okE_some q) ?_
    intro r H' e q'
    try clear q
    exact p_all (a.hh (hq rfl)) S hv1 e q'
  split at hp
  · rename_i q; cases hp
    obtain ⟨rfl, hn⟩ := q
    refine se_bi C hg h fun a S hv hl' q => ?_
    obtain ⟨v, v', y, y', rfl, rfl, hv, hv'⟩ := len2 hv (by lia)
    obtain ⟨hq, q⟩ := okQ q
    obtain ⟨r, H', e, q'⟩ := okE_some q
    try clear q
    exact p_min (a.hh (hq rfl)) S hv hv' e q'
  split at hp
  · rename_i q; cases hp
    obtain ⟨rfl, hn⟩ := q
    refine se_bi C hg h fun a S hv hl' q => ?_
    obtain ⟨v, v', y, y', rfl, rfl, hv, hv'⟩ := len2 hv (by lia)
    obtain ⟨hq, q⟩ := okQ q
    obtain ⟨r, H', e, q'⟩ := okE_some q
    try clear q
    exact p_max (a.hh (hq rfl)) S hv hv' e q'
  try clear hl; try clear C; try clear hg; try clear h
  cases hp

theorem prim_of_M {pr : Prim} {mu : Bool} {vs : List V} {H : AH} {Q : QE} (q : okE (primM c.P mu pr vs H) Q) : ∃ r H', prim c.P pr vs H = some (r, H') := by
  refine ea2_2 (okE_some q) ?_
  intro r H' e _
  try clear q
  cases mu with
  | false => exact ⟨r, H', e⟩
  | true =>
    replace e := ite_some (show (if pr.fresh = true then _ else none) = _ from e)
    obtain ⟨_, e⟩ := e
    refine ea1_2 (bind_is e) ?_
    intro z e1 _
    try clear e
    exact ⟨z.1, z.2, e1⟩
theorem nofresh {pr : Prim} {mu : Bool} {vs : List V} {H : AH} {Q : QE} (hf : pr.fresh = false) (q : okE (primM c.P mu pr vs H) Q) : okE (prim c.P pr vs H) Q := by
  cases mu with
  | false => exact q
  | true =>
    have q : okE (if pr.fresh = true then (prim c.P pr vs H).bind fun r => thaw r.1 r.2 else none) Q := q
    rw [hf] at q
    exact q.elim

theorem se_tyPrim {g : Str} {b : String} {p pos : Pos} {args : List Expr} {xs : List Ex} {pr : Prim} {mu : Bool} (C : Cok c T.gl) (hg : T.glob g = some (.ty b)) (h : SEs c n T args xs) (hp : tyPrim b args.length = some pr) : SE c n T (.Call (.Name g p) args [] pos) (.prim mu pr xs) := by
  have hl := h.length
  unfold tyPrim at hp
  split at hp
  · rename_i q; cases hp
    obtain ⟨rfl, hn⟩ := q
    refine se_ty C hg h fun a S hv hl' q => ?_
    refine ea2_3 (len1 hv (by lia)) ?_
    intro v y q_3 q_4 hv1
    subst q_3
    subst q_4
    refine ea2_2 (okE_some (nofresh rfl q)) ?_
    intro r H' e q'
    exact p_range1 S hv1 e q'
  split at hp
  · rename_i q; cases hp
    obtain ⟨rfl, hn⟩ := q
    refine se_ty C hg h fun a S hv hl' q => ?_
    obtain ⟨v, v', y, y', rfl, rfl, hv, hv'⟩ := len2 hv (by lia)
    obtain ⟨r, H', e, q'⟩ := okE_some (nofresh rfl q)
    exact p_range2 S hv hv' e q'
  split at hp
  · rename_i q; cases hp
    obtain ⟨rfl, hn⟩ := q
    refine se_ty C hg h fun a S hv hl' q => ?_
    refine ea2_3 (len1 hv (by lia)) ?_
    intro v y q_3 q_4 hv1
    subst q_3
    subst q_4
    obtain ⟨hq, q⟩ := okQ q
    refine ea2_1 (prim_of_M q) ?_
    intro r H' e
    try clear H'; try clear r; try clear y; try clear v; try clear hn; try clear hl; try clear C; try clear hg; try clear h; try clear hp
    refine ea1_2 (pList_lst e) ?_
    intro ws q_2 q_3
    subst q_2
    subst q_3
    exact fresh_either S e (fun R hR => p_list (a.hh (hq rfl)) S hv1 e hR) q
  split at hp
  · rename_i q; cases hp
    obtain ⟨rfl, hn⟩ := q
    refine se_ty C hg h fun a S hv hl' q => ?_
    refine ea2_3 (len1 hv (by lia)) ?_
    intro v y q_3 q_4 hv1
    subst q_3
    subst q_4
    refine ea2_2 (okE_some (nofresh rfl q)) ?_
    intro r H' e q'
    exact p_int S hv1 e q'
  cases hp

theorem tyOf_eq {t : String} {ty : Ty} (h : tyOf t = some ty) : tyName ty = t ∧ ty ≠ .valueError ∧ ∀ k, ty ≠ .cls k := by
  unfold tyOf at h
  (repeat' split at h) <;> first | (cases h; subst_vars; exact ⟨rfl, by simp, by simp⟩) | cases h

theorem se_isinst {g t : Str} {tn : String} {ty : Ty} {p p' pos : Pos} {x : Expr} {a : Ex} (C : Cok c T.gl) (hg : T.glob g = some (.bi "isinstance")) (ht : T.glob t = some (.ty tn)) (hty : tyOf tn = some ty) (h : SE c n T x a) (hns : NS x) :
    SE c n T (.Call (.Name g p) [x, .Name t p'] [] pos) (.prim false (.isinst ty) [a]) := by
  refine ⟨?_⟩
  intro env A s as X H ρ Q XX R w
  rw [wpE_prim, wpEs_cons] at w
  simp only [wpEs_nil] at w
  have e1 := C.gl g _ (ge_of hg).2.1
  have e2 := C.gl t _ (ge_of ht).2.1
  refine wpAny_Call_Name_kw (n_glob C hg R (.inr e1) ?_)
  have hst : starEach [x, .Name t p'] env = [(false, eval x env), (false, eval (.Name t p') env)] := by rw [star_ns hns]; rfl
  rw [hst]
  refine callWith_builtin rfl (evalArgs_plain (spliced_cons (wpAny_mono (h.run R w) (fun y s₁ r => ?_) fun _ _ e => e)))
  obtain ⟨v, H₁, as₁, x1, S1, k1, hv, q⟩ := r
  refine spliced_cons (n_glob C ht (R.next x1 k1 S1) (.inr e2) (spliced_nil ?_))
  refine ea2_2 (okE_some q) ?_
  intro z H' e q'
  try clear q
  refine ea0_3 (tyOf_eq hty) ?_
  intro h1 h2 h3
  try clear hty
  have hp := p_isinst (A := A) (E := ERes c as₁ X s₁.heap XX) S1 hv ⟨h2, h3⟩ e q'
  rw [h1] at hp
  exact wpAny_mono hp (fun _ _ r => r.lift x1 k1) fun _ _ e => e.lift x1 k1

theorem se_isX {g t : Str} {gv : Gl} {j : Option Nat} {p p' pos : Pos} {x : Expr} {a : Ex} (C : Cok c T.gl) (hg : T.glob g = some (.bi "isinstance")) (ht : T.glob t = some gv) (hj : (gv = .ty "ValueError" ∧ j = none) ∨ ∃ i, gv = .exc i ∧ j = some i) (h : SE c n T x a) (hns : NS x) :
    SE c n T (.Call (.Name g p) [x, .Name t p'] [] pos) (.prim false (.isX j) [a]) := by
  refine ⟨?_⟩
  intro env A s as X H ρ Q XX R w
  rw [wpE_prim, wpEs_cons] at w
  simp only [wpEs_nil] at w
  have e1 := C.gl g _ (ge_of hg).2.1
  obtain ⟨y, hy, hjy⟩ : ∃ y, (c.mg t = some y ∨ (c.mg t = none ∧ c.mb t = some y)) ∧ ((y = .type "ValueError" ∧ j = none) ∨ ∃ i, y = .ref (c.xcls i) ∧ j = some i ∧ c.P.sub i i = true ∧ T.gl.lookup t = some (.exc i)) := by
    have e2 := C.gl t _ (ge_of ht).2.1
    try clear T; try clear j; try clear ValueError; try clear t; try clear c; try clear hjy; try clear hy; try clear y; try clear e1; try clear hg; try clear hns; try clear C; try clear h
    rcases hj with ⟨rfl, rfl⟩ | ⟨i, rfl, rfl⟩
    · exact ⟨_, .inr e2, .inl ⟨rfl, rfl⟩⟩
    · exact ⟨_, .inl e2.1, .inr ⟨i, rfl, rfl, e2.2, (ge_of ht).2.1⟩⟩
  refine wpAny_Call_Name_kw (n_glob C hg R (.inr e1) ?_)
  have hst : starEach [x, .Name t p'] env = [(false, eval x env), (false, eval (.Name t p') env)] := by rw [star_ns hns]; rfl
  rw [hst]
  refine callWith_builtin rfl (evalArgs_plain (spliced_cons (wpAny_mono (h.run R w) (fun z s₁ r => ?_) fun _ _ e => e)))
  obtain ⟨v, H₁, as₁, x1, S1, k1, hv, q⟩ := r
  refine spliced_cons (n_glob C ht (R.next x1 k1 S1) hy (spliced_nil ?_))
  refine ea2_2 (okE_some q) ?_
  intro z' H' e q'
  try clear q
  replace e := bind_is (show v.kind.bind _ = some (z', H') from e)
  refine ea1_2 e ?_
  try clear e
  intro k hk e
  try clear as₁; try clear hst; try clear ht; try clear hj
  replace hk := V.kind_is hk
  cases hk
  replace e := ite_is e
  obtain ⟨hkk, e⟩ := e
  try clear hk
  cases e
  obtain ⟨ha, hX, ho, hcl⟩ := hv.inv
  try clear hv
  refine ea1_2 (C.x k hkk) ?_
  intro bm xk xs
  try clear k; try clear hkk
  have fin : ∀ tk b, Q (.bool b) H₁ → Res c as X s.heap Q (.bool b) { s₁ with toks := tk } := fun tk b qq => (Res.now (tk := tk) S1 (.bool b) qq).lift x1 k1
  try clear bm; try clear hX; try clear ha; try clear e; try clear k1; try clear x1; try clear H₁
  rcases hjy with ⟨rfl, rfl⟩ | ⟨i, rfl, rfl, hi, hl⟩
  · exact isi_val_x (xk.keeps S1.stays) ho hcl fun tk => fin tk _ q'
  · refine ea1_2 (C.x i hi) ?_
    intro bm' xi _
    try clear C
    refine isi_own_x (xk.keeps S1.stays) (xi.keeps S1.stays) ho hcl fun tk => ?_
    rw [xs t i hl]
    exact fin tk _ q'
theorem se_item {v sl : Expr} {pos : Pos} {a b : Ex} (hs : isSlice sl = false) (h₁ : SE c n T v a) (h₂ : SE c n T sl b) : SE c n T (.Subscript v sl pos) (.prim false .item [a, b]) := by
  refine ⟨?_⟩
  intro env A s as X H ρ Q XX R w
  refine Subscript_ (se_two_prim h₁ h₂ R w fun S hv hv' q => ?_)
  refine ea2_2 (okE_some q) ?_
  intro r H' e q'
  exact p_item (fun x y p e => by subst e; cases hs) S hv hv' e q'

theorem se_list {es : List Expr} {pos : Pos} {xs : List Ex} {mu : Bool} (h : SEs c n T es xs) : SE c n T (.List es pos) (.prim mu .mklist xs) := by
  refine ⟨?_⟩
  intro env A s as X H ρ Q XX R w
  rw [wpE_prim] at w
  refine List_ (wpAny_mono (se_args h R w) (fun ys s₁ r => ?_) fun _ _ e => e)
  obtain ⟨vs, H₁, as₁, e1, S1, k1, hvs, _, q⟩ := r
  have hsome : ∃ ws, prim c.P .mklist vs H₁ = some (.lst ws, H₁) := by
    refine ea2_1 (prim_of_M q) ?_
    intro r H' e
    try clear q
    exact ⟨vs, if_pos (ite_is e).1⟩
  obtain ⟨ws, e⟩ := hsome
  refine wpAny_mono (fresh_either S1 e (fun R hR => p_mklist S1 hvs e hR) q) (fun _ _ r => r.lift e1 k1) fun _ _ (e : ERes c as₁ X s₁.heap XX _ _) => e.lift e1 k1
theorem se_tup {es : List Expr} {pos : Pos} {xs : List Ex} {kk : Nat} (h : SEs c n T es xs) : SE c n T (.Tuple es kk pos) (.prim false .mktup xs) := by
  refine ⟨?_⟩
  intro env A s as X H ρ Q XX R w
  rw [wpE_prim] at w
  refine Tuple_ (wpAny_mono (se_args h R w) (fun ys s₁ r => ?_) fun _ _ e => e)
  obtain ⟨vs, H₁, as₁, e1, S1, k1, hvs, _, q⟩ := r
  refine ea2_2 (okE_some q) ?_
  intro z H' e q'
  try clear q
  exact wpAny_mono (p_mktup S1 hvs e q') (fun _ _ r => r.lift e1 k1) fun _ _ (e : ERes c as₁ X s₁.heap XX _ _) => e.lift e1 k1

end
end Mine

end
noncomputable section
namespace Mine
open PySem PySem.Calls PyProof.Rows

theorem SR.turn {c : Cx} {as : Adr} {X Y : List Addr} {H : AH} {s s' : Shared} (x : SR c as X H s) (k : VK [] X s.heap s'.heap) (hst : c.base.StaysIn s'.heap) (hY : ∀ b ∈ Y, b ∈ X)
    (hx : ∀ b ∈ Y, ∃ o, s'.heap.get? b = some o) (hg : s'.gens = s.gens) (ho : s'.os = s.os) : SR c as Y H s' where
  len := x.len
  stays := hst
  gens := hg.trans x.gens
  os := ho.trans x.os
  objs := fun i a e => by
    refine ea0_3 (x.objs i a e) ?_
    intro h1 h2 r_3
    refine ea1_2 r_3 ?_
    try clear r_3
    intro o h3 h4
    exact ⟨h1, fun q => h2 (hY _ q), o, h3, (h4.keepX (fun b o e _ hb => k b o e (fun q => nomatch q) hb) fun ob e => k _ _ e (fun q => nomatch q) h2).frames fun b _ _ hb q => hb (hY _ q)⟩
  inj := x.inj
  dead := x.dead
  xs := hx

/-- all but some addresses as before -/
noncomputable def But (Y : List Addr) (h h' : HP) : Prop := ∀ b o, b ∉ Y → h.get? b = some o → h'.get? b = some o
theorem But.kept {Y : List Addr} {h h' : HP} (k : But Y h h') (as : Adr) (X : List Addr) : KeptX as X Y h h' := fun b o e _ hy => ⟨o, k b o hy e, .inl rfl⟩
theorem But.vk {X Y : List Addr} {h h' : HP} (k : But Y h h') (as : Adr) (hY : ∀ b ∈ Y, b ∈ X) : VK as X h h' := fun b o e _ hx => k b o (fun q => hx (hY b q)) e
theorem But.stays {c : Cx} {as : Adr} {X Y : List Addr} {H : AH} {s : Shared} {h' : HP} (S : SR c as X H s) (k : But Y s.heap h') (hY : ∀ b ∈ Y, c.base.get? b = none) : c.base.StaysIn h' := fun b o e =>
  k b o (fun q => by rw [hY _ q] at e; cases e) (S.stays b o e)
theorem SR.but {c : Cx} {as : Adr} {X Y Z : List Addr} {H : AH} {s s' : Shared} (S : SR c as X H s) (k : But Z s.heap s'.heap) (hZ : ∀ b ∈ Z, b ∈ X ∧ c.base.get? b = none) (hY : ∀ b ∈ Y, b ∈ X)
    (hx : ∀ b ∈ Y, b ∈ Z → ∃ o, s'.heap.get? b = some o) (hg : s'.gens = s.gens) (ho : s'.os = s.os) : SR c as Y H s' :=
  S.turn (k.vk [] fun b q => (hZ b q).1) (k.stays S fun b q => (hZ b q).2) hY (fun b hb => by
    by_cases hz : b ∈ Z
    · exact hx b hb hz
    · obtain ⟨o, e⟩ := S.xs b (hY b hb)
      exact ⟨o, k b o hz e⟩) hg ho

theorem OVR.frames {c : Cx} {as : Adr} {X Y : List Addr} {h : HP} {o : Option V} {y : Option Value} (hy : ∀ b o, h.get? b = some o → b ∉ X → b ∉ Y) (z : OVR c as X h o y) : OVR c as Y h o y :=
  fun v e => let ⟨q, e1, e2⟩ := z v e; ⟨q, e1, e2.frames hy⟩
theorem FR.frames {c : Cx} {as : Adr} {X Y : List Addr} {h : HP} {env : Env} {tab : List (Str × Nat)} {ρ : Fm} (F : FR c as X h env tab ρ) (hXY : ∀ b ∈ X, b ∈ Y) (hy : ∀ b o, h.get? b = some o → b ∉ X → b ∉ Y) : FR c as Y h env tab ρ where
  kind := F.kind
  glob := F.glob
  bi := F.bi
  lx := hXY _ F.lx
  lout := F.lout
  lb := F.lb
  ns := by
    refine ea1_2 F.ns ?_
    intro m n r
    exact ⟨m, n, fun x i h1 h2 => (r x i h1 h2).frames hy⟩
  cells := fun x i h1 h2 => by
    refine ea2_7 (F.cells x i h1 h2) ?_
    intro a y e1 e2 e3 e4 e5 e6 e7
    exact ⟨a, y, e1, hXY _ e2, e3, e4, e5, e6, e7.frames hy⟩
  apart := F.apart
  inj := F.inj

/-- a frame's own objects lie elsewhere -/
noncomputable def Away (Y : List Addr) (env : Env) (tab : List (Str × Nat)) : Prop :=
  env.locals ∉ Y ∧ ∀ x i, tab.lookup x = some i → (env.kindOf x = some .cell ∨ env.kindOf x = some .free) → ∀ a, env.cells.lookup x = some a → a ∉ Y
theorem FR.away {c : Cx} {as : Adr} {X Y : List Addr} {h : HP} {env : Env} {tab : List (Str × Nat)} {ρ : Fm} (F : FR c as X h env tab ρ) (hY : ∀ b ∈ Y, b ∉ X) : Away Y env tab :=
  ⟨fun q => hY _ q F.lx, fun x i h1 h2 a e q => by
    refine ea2_3 (F.cells x i h1 h2) ?_
    intro a' y e1 e2 _
    rw [e1] at e; cases e
    exact hY _ q e2⟩
theorem FR.keepY {c : Cx} {as : Adr} {X Y : List Addr} {h h' : HP} {env : Env} {tab : List (Str × Nat)} {ρ : Fm} (F : FR c as X h env tab ρ) (k : KeptX as X Y h h') (hY : ∀ b ∈ Y, b ∈ X) (aw : Away Y env tab) : FR c as X h' env tab ρ where
  kind := F.kind
  glob := F.glob
  bi := F.bi
  lx := F.lx
  lout := F.lout
  lb := F.lb
  ns := by
    refine ea1_2 F.ns ?_
    intro m n r
    exact ⟨m, Ns.same n fun o e => k _ o e F.lout aw.1, fun y i h1 h2 => (r y i h1 h2).keepX (k.v hY) (.refl ..)⟩
  cells := fun y i h1 h2 => by
    refine ea2_7 (F.cells y i h1 h2) ?_
    intro a z e1 e2 e3 e4 e5 e6 e7
    exact ⟨a, z, e1, e2, e3, e4, e5, IsCell.same e6 fun o e => k _ o e e3 (aw.2 y i h1 h2 a e1), e7.keepX (k.v hY) (.refl ..)⟩
  apart := F.apart
  inj := F.inj

/-- an iterator that stands ahead of the k-th item -/
noncomputable def ItC (h : HP) (I : Addr) : V → Value → Nat → Prop
  | .tup _, y, k => ∃ a, y = .ref a ∧ h.IsTupleIter I a k
  | .str _, y, k => ∃ x t, y = .str x t ∧ (h.IsStrIter I "str_ascii_iterator" x t k ∨ h.IsStrIter I "str_iterator" x t k)
  | .rng a b, _, k => IsRangeIter h I (a + (k : Nat) * 1) (((b - a).toNat : Int) - (k : Nat)) 1
  | .lst _, y, k => ∃ a, y = .ref a ∧ h.IsListIter I a k
  | .ref _, y, k => ∃ a, y = .ref a ∧ h.IsListIter I a k
  | _, _, _ => False

theorem ItC.here {h : HP} {I : Addr} {v : V} {y : Value} {k : Nat} (x : ItC h I v y k) : ∃ o, h.get? I = some o ∧ ∃ vs, o.data = .fields vs := by
  cases v <;> try exact x.elim
  · obtain ⟨x, t, _, h1 | h1⟩ := x
    · refine ea1_2 h1 ?_
      try clear h1
      intro o e r
      exact ⟨o, e, _, r.2⟩
    · refine ea1_2 h1 ?_
      try clear h1
      intro o e r
      exact ⟨o, e, _, r.2⟩
  · refine ea1_2 x ?_
    try clear x
    intro a _ r_3
    refine ea1_2 r_3 ?_
    try clear r_3
    intro o e r
    exact ⟨o, e, _, r.2⟩
  · refine ea1_2 x ?_
    try clear x
    intro a _ r_3
    refine ea1_2 r_3 ?_
    try clear r_3
    intro o e r
    exact ⟨o, e, _, r.2⟩
  · exact ⟨_, x, _, rfl⟩
  · refine ea1_2 x ?_
    try clear x
    intro a _ r_3
    refine ea1_2 r_3 ?_
    try clear r_3
    intro o e r
    exact ⟨o, e, _, r.2⟩
theorem ItC.at {h h' : HP} {I : Addr} {v : V} {y : Value} {k : Nat} (x : ItC h I v y k) (e : ∀ o, h.get? I = some o → (∀ es n, o.data ≠ .dict es n) → h'.get? I = some o) : ItC h' I v y k := by
  obtain ⟨ob, eo, vs, hc⟩ := x.here
  have e0 : ∀ o, h.get? I = some o → h'.get? I = some o := fun o q => e o q fun es n hd => by rw [eo] at q; cases q; rw [hc] at hd; cases hd
  cases v <;> try exact x.elim
  · obtain ⟨x, t, hy, h1 | h1⟩ := x
    · refine ea1_2 h1 ?_
      try clear h1
      intro o q r
      exact ⟨x, t, hy, .inl ⟨o, e0 o q, r⟩⟩
    · refine ea1_2 h1 ?_
      try clear h1
      intro o q r
      exact ⟨x, t, hy, .inr ⟨o, e0 o q, r⟩⟩
  · refine ea1_2 x ?_
    try clear x
    intro a hy r_3
    refine ea1_2 r_3 ?_
    try clear r_3
    intro o q r
    exact ⟨a, hy, o, e0 o q, r⟩
  · refine ea1_2 x ?_
    try clear x
    intro a hy r_3
    refine ea1_2 r_3 ?_
    try clear r_3
    intro o q r
    exact ⟨a, hy, o, e0 o q, r⟩
  · exact e0 _ x
  · refine ea1_2 x ?_
    try clear x
    intro a hy r_3
    refine ea1_2 r_3 ?_
    try clear r_3
    intro o q r
    exact ⟨a, hy, o, e0 o q, r⟩

/-- no exception is at hand; or one is, and a range is gone over -/
inductive Hd (A : Around) (h : HP) (v : V) : Prop
  | no : A.handled = none → Hd A h v
  | rng (e : Addr) : v.isRng = true → A.handled = some (.ref e) → HOk h e → Hd A h v
theorem Hd.plain {A : Around} {h : HP} {v : V} (x : Hd A h v) (hv : v.isRng = false) : A.handled = none := by
  cases x with
  | no h => exact h
  | rng e h => rw [hv] at h; cases h
theorem AOk.hand {c : Cx} {A : Around} {n : Nat} {as : Adr} {X : List Addr} {H : AH} {s : Shared} {v : V} {items : List V} (a : AOk c A n) (S : SR c as X H s) (h : srcQ c.P.q H v = some items) : Hd A s.heap v := by
  cases hq : c.P.q with
  | false => exact .no (a.hh hq)
  | true =>
    refine ea1_2 (a.hx hq) ?_
    intro e h1 r_3
    refine ea2_3 r_3 ?_
    try clear r_3
    intro o vs h2 h3 h4
    exact .rng e ((srcQ_is h).2 hq) h1 ⟨o, vs, S.stays _ _ h2, h3, h4⟩
theorem unchain_entry : entryFor table "proto.unchain" = some Builtin.«proto.unchain» := entryFor_of_fast (by kernel_rfl)
theorem range_end_h {prog : Program} {w : World} {A : Around} {E : Value → Shared → Prop} {s : Shared} {it : Addr} {x left step : Int} {e : Addr} {Q : Option Value → Shared → Prop} (hh : A.handled = some (.ref e)) (he : HOk s.heap e) (hit : IsRangeIter s.heap it x left step) (hleft : left ≤ 0)
    (hQ : ∀ h', Heap.ExtBut it s.heap h' → Q none { s with heap := h' }) : wpAny (model prog w) A (pyNext (.ref it)) Q E s := by
  have hT : s.TypeIs (.ref it) "range_iterator" := ⟨_, hit, rfl⟩
  unfold pyNext
  refine wpAny_bind (wpAny_attempt (wpAny_callSpecial?_slot (name := Str.ofString "__next__") hT F.slot_range_iterator_next
    (wpAny_call_entry F.slot_range_iterator_next hT F.entry_range_iterator_next ?_ (F.args_range_iterator_next_1 _))))
  show wpAny _ _ (field (.ref it) 0 >>= _) _ _ s
  refine wpAny_bind (wpAny_field hit rfl (x := rawInt x) rfl ?_)
  show wpAny _ _ (field (.ref it) 1 >>= _) _ _ s
  refine wpAny_bind (wpAny_field hit rfl (x := rawInt left) rfl ?_)
  show wpAny _ _ (field (.ref it) 2 >>= _) _ _ s
  refine wpAny_bind (wpAny_field hit rfl (x := rawInt step) rfl ?_)
  show wpAny _ _ (if left ≤ 0 then _ else _) _ _ s
  rw [if_pos hleft]
  refine wpAny_bind (wpAny_rule ?_)
  refine wpAny_bind ?_
  show wpAny _ _ (newExc (.type "StopIteration") [] >>= _) _ _ _
  refine wpAny_bind ?_
  simp only [newExc, newTuple]
  refine wpAny_bind (wpAny_newObj_type ?_ (by size_fits))
  refine wpAny_bind (m := firstArgMember _ _) (wpAny_of_eq (a := Value.none) (by first | rfl | (simp only [firstArgMember]; rfl)) ?_)
  refine wpAny_newObj_type ?_ (by size_fits)
  simp only [raiseNew]
  refine wpAny_bind (wpAny_handled ?_)
  rw [show A.in1.handled = some (.ref e) from hh]
  refine ea2_3 he ?_
  try clear he
  intro o vs ho hd h2
  have ho1 := Heap.get?_push_of_some { cls := Value.type "tuple", data := Data.seq #[] } ho
  have ext1 : ∀ b o, s.heap.get? b = some o → (s.heap.push { cls := Value.type "tuple", data := Data.seq #[] }).get? b = some o := fun b o h => Heap.get?_push_of_some _ h
  generalize s.heap.push { cls := Value.type "tuple", data := Data.seq #[] } = h1 at ho1 ext1 ⊢
  have hlt := Heap.lt_size ho1
  have hne : (Value.ref e != Value.ref h1.objs.size) = true := by
    have : e ≠ h1.objs.size := Nat.ne_of_lt hlt
    simpa using this
  show wpAny _ _ (if (Value.ref e != Value.ref h1.objs.size) = true then _ else _) _ _ _
  rw [if_pos hne]
  refine wpAny_bind (wpAny_holding (wpAny_runValue (codeAny_builtin unchain_entry ?_)))
  show wpAny _ _ (field (.ref e) 2 >>= _) _ _ _
  refine wpAny_bind (wpAny_field (Heap.get?_push_of_some _ ho1) hd h2 ?_)
  refine wpAny_pure ?_
  refine wpAny_bind (m := updateField _ _ _) (wpAny_setField (a := h1.objs.size) (Heap.get?_push_size h1 rfl) rfl (by rw [Array.size_append]; exact Nat.lt_of_lt_of_le (by decide) (Nat.le_add_right 6 _)) (wpAny_throw ?_))
  refine wpAny_bind (wpAny_isInstance (T := "StopIteration") (b := true) ⟨_, Heap.get?_update_self _ (Heap.get?_push_size h1 rfl) rfl, rfl⟩ isSubtype_stop ?_)
  refine wpAny_pure (hQ _ fun b o hb hbo => ?_)
  have hb1 := ext1 b o hbo
  exact (Heap.get?_update_other _ _ (Nat.ne_of_gt (Heap.lt_size hb1))).trans (Heap.get?_push_of_some _ hb1)
section
variable {c : Cx} {A : Around} {E : Value → Shared → Prop} {s : Shared} {as : Adr} {X : List Addr} {H : AH}


inductive SrcAt (c : Cx) (as : Adr) (X : List Addr) (h : HP) : List V → V → Value → Prop
  | str (xs : List Char) (t : Tok) : SrcAt c as X h (xs.map fun c => V.str [c]) (.str xs) (.str (toS xs) t)
  | tup {a : Addr} {its : Array Value} {n : Nat} {vs : List V} : a ∉ X → h.get? a = some { cls := .type "tuple", data := .seq its n } → VRs c as X h vs its.toList → SrcAt c as X h vs (.tup vs) (.ref a)
  | seq {a : Addr} {its : Array Value} {vs : List V} {v : V} : (∀ h' I k, ItC h' I v (.ref a) k = ∃ b, Value.ref a = .ref b ∧ h'.IsListIter I b k) → v.isRng = false → a ∉ X → h.PlainList a its → VRs c as X h vs its.toList → SrcAt c as X h vs v (.ref a)
  | rng {a b : Int} {y : Value} : RngR as X h a b y → SrcAt c as X h (rngL a b) (.rng a b) y
theorem src_at {v : V} {y : Value} {items : List V} (S : SR c as X H s) (hv : VR c as X s.heap v y) (hs : src H v = some items) : SrcAt c as X s.heap items v y := by
  have hw : view H v = some items → (∀ a h' I k, ItC h' I v (.ref a) k = ∃ b, Value.ref a = .ref b ∧ h'.IsListIter I b k) → v.isRng = false → SrcAt c as X s.heap items v y := fun e q hr => by
    obtain ⟨a, its, rfl, hp, r, _, hx⟩ := view_at S hv e
    exact .seq (q a) hr hx hp r
  cases v with
  | str xs => cases hs; cases hv.inv; exact .str _ _
  | tup vs => cases hs; cases hv.inv with | tup _ h2 h3 h4 _ => exact .tup h2 h3 h4
  | rng a b => cases hs; exact .rng hv.inv
  | lst vs => exact hw hs (fun _ _ _ _ => rfl) rfl
  | ref i => exact hw hs (fun _ _ _ _ => rfl) rfl
  | _ => cases hs

theorem it_start {v : V} {y : Value} {items : List V} {Q : Value → Shared → Prop} (S : SR c as X H s) (hv : VR c as X s.heap v y) (hs : src H v = some items)
    (hQ : ∀ o, ItC (s.heap.push o) s.heap.objs.size v y 0 → Q (.ref s.heap.objs.size) { s with heap := s.heap.push o }) : wpAny c.M A (pyIter y) Q E s := by
  cases src_at S hv hs with
  | str x t =>
    cases ha : (toS x).cps.all (· < 128)
    · exact wpAny_pyIter_wide ha (hQ _ ⟨_, _, rfl, .inr ⟨_, Heap.get?_push_size _ rfl, rfl, rfl⟩⟩)
    · exact wpAny_pyIter_ascii ha (hQ _ ⟨_, _, rfl, .inl ⟨_, Heap.get?_push_size _ rfl, rfl, rfl⟩⟩)
  | tup h2 h3 h4 => exact wpAny_pyIter_tuple ⟨_, h3, rfl, _, rfl⟩ (hQ _ ⟨_, rfl, _, Heap.get?_push_size _ rfl, rfl, rfl⟩)
  | seq q _ h2 h3 h4 => exact wpAny_pyIter_list h3.isList (hQ _ ((q _ _ _).mpr ⟨_, rfl, _, Heap.get?_push_size _ rfl, rfl, rfl⟩))
  | @rng a b _ r =>
    cases r with
    | rng h1 h2 h3 h4 h5 =>
      refine wpAny_pyIter_range h3 (range_small h4 h5) (hQ _ ?_)
      show IsRangeIter _ _ _ _ _
      rw [rangeSize_eq, show a + ((0 : Nat) : Int) * 1 = a by lia, show ((b - a).toNat : Int) - ((0 : Nat) : Int) = ((b - a).toNat : Int) by lia]
      exact Heap.get?_push_size _ rfl

theorem rngL_get {a b : Int} {k : Nat} {x : V} (h : (rngL a b)[k]? = some x) : x = .int (a + k) ∧ k < (b - a).toNat := by
  simp only [rngL, List.getElem?_map, Option.map_eq_some_iff] at h
  refine ea1_2 h ?_
  try clear h
  intro i h1 q_3
  subst q_3
  rw [List.getElem?_eq_some_iff] at h1
  obtain ⟨h1, h2⟩ := h1
  simp at h1 h2
  subst h2
  exact ⟨rfl, by lia⟩

theorem it_next {v : V} {y : Value} {items : List V} {x : V} {k : Nat} {I : Addr} {Q : Option Value → Shared → Prop} (hd : Hd A s.heap v) (S : SR c as X H s) (hI : I ∈ X) (hb : c.base.get? I = none) (hv : VR c as X s.heap v y) (hi : ItC s.heap I v y k)
    (hs : src H v = some items) (hk : items[k]? = some x)
    (hQ : ∀ z h' tk, But [I] s.heap h' → VR c as X h' x z → VR c as X h' v y → ItC h' I v y (k + 1) → SR c as X H { s with heap := h', toks := tk } → Q (some z) { s with heap := h', toks := tk }) : wpAny c.M A (pyNext (.ref I)) Q E s := by
  have fin : ∀ z h' tk, But [I] s.heap h' → VR c as X s.heap x z → ItC h' I v y (k + 1) → Q (some z) { s with heap := h', toks := tk } := fun z h' tk b hz hit => by
    have kx : VK as X s.heap h' := b.vk as (by simpa using hI)
    exact hQ z h' tk b (hz.keepX kx (.refl ..)) (hv.keepX kx (.refl ..)) hit (S.but (s' := { s with heap := h', toks := tk }) b (by simpa using ⟨hI, hb⟩) (fun _ q => q) (fun b hb hz => by simp at hz; subst hz; obtain ⟨o, e, _⟩ := hit.here; exact ⟨o, e⟩) rfl rfl)
  cases src_at S hv hs with
  | str xs t =>
    refine ea2_2 hi ?_
    try clear hi
    intro x' t' e hit
    cases e
    rw [List.getElem?_map] at hk
    refine ea1_2 (map_is hk) ?_
    intro ch hch q_3
    subst q_3
    have hlt : k < (toS xs).cps.size := by rw [show (toS xs).cps.size = (toS xs).length from rfl, toS_length]; exact (List.getElem?_eq_some_iff.mp hch).1
    have hsign : ∀ z, SignAt (toS xs) k z → VR c as X s.heap (.str [ch]) z := by
      rintro z ⟨q, u, hq, rfl⟩
      simp [toS, hch] at hq
      subst hq
      exact .str [ch] u (by simp [bnd])
    have hh := hd.plain rfl
    rcases hit with hit | hit
    · exact (Walks.strAscii hh I (toS xs) t).item k s Q E hlt hit fun z h' tk hz st b => fin z h' tk b (hsign z hz) ⟨_, _, rfl, .inl st⟩
    · exact (Walks.strWide hh I (toS xs) t).item k s Q E hlt hit fun z h' tk hz st b => fin z h' tk b (hsign z hz) ⟨_, _, rfl, .inr st⟩
  | @tup a its n _ h2 h3 h4 =>
    refine ea1_2 hi ?_
    try clear hi
    intro a' e hit
    cases e
    refine ea1_2 (h4.get hk) ?_
    intro z hz hzr
    rw [Array.getElem?_toList] at hz
    refine (Walks.tuple (hd.plain rfl) I a (fun q => h2 (q ▸ hI)) its).item k s Q E (Array.getElem?_eq_some_iff.mp hz).1 ⟨hit, _, h3, rfl, _, rfl⟩ fun z' h' tk hz' st b => fin z' h' tk b ?_ ⟨_, rfl, st.1⟩
    rw [hz] at hz'; cases hz'; exact hzr
  | @seq a its _ _ q hr h2 h3 h4 =>
    refine ea1_2 ((q _ _ _).mp hi) ?_
    intro a' e hit
    cases e
    refine ea1_2 (h4.get hk) ?_
    intro z hz hzr
    rw [Array.getElem?_toList] at hz
    refine (Walks.list (hd.plain hr) I a (fun q => h2 (q ▸ hI)) its).item k s Q E (Array.getElem?_eq_some_iff.mp hz).1 ⟨hit, h3.isList⟩ fun z' h' tk hz' st b => fin z' h' tk b ?_ ((q _ _ _).mpr ⟨_, rfl, st.1⟩)
    rw [hz] at hz'; cases hz'; exact hzr
  | @rng a b _ r =>
    obtain ⟨rfl, hlt⟩ := rngL_get hk
    have hi' : IsRangeIter s.heap I (a + (k : Nat) * 1) (((b - a).toNat : Int) - (k : Nat)) 1 := hi
    refine wpAny_pyNext_range_item hi' (by lia) fun h' hit' hs' => ?_
    refine fin _ h' _ (fun b o hb e => hs'.extBut b o (fun h => hb (by simp [h])) e) ?_ ?_
    · rw [Int.mul_one]
      exact .int _ _
    · show IsRangeIter _ _ _ _ _
      have e1 : a + ((k + 1 : Nat) : Int) * 1 = a + (k : Int) * 1 + 1 := by lia
      have e2 : ((b - a).toNat : Int) - ((k + 1 : Nat) : Int) = ((b - a).toNat : Int) - (k : Int) - 1 := by lia
      rw [e1, e2]; exact hit'

theorem it_done {v : V} {y : Value} {items : List V} {k : Nat} {I : Addr} {Q : Option Value → Shared → Prop} (hd : Hd A s.heap v) (S : SR c as X H s) (hI : I ∈ X) (hv : VR c as X s.heap v y) (hi : ItC s.heap I v y k)
    (hs : src H v = some items) (hk : items.length = k)
    (hQ : ∀ h' tk, But [I] s.heap h' → Q none { s with heap := h', toks := tk }) : wpAny c.M A (pyNext (.ref I)) Q E s := by
  subst hk
  cases src_at S hv hs with
  | str xs t =>
    refine ea2_2 hi ?_
    try clear hi
    intro x' t' e hit
    cases e
    rw [List.length_map, ← toS_length] at hit
    have hh := hd.plain rfl
    rcases hit with hit | hit
    · exact (Walks.strAscii hh I (toS xs) t).done s Q E hit hQ
    · exact (Walks.strWide hh I (toS xs) t).done s Q E hit hQ
  | @tup a its n _ h2 h3 h4 =>
    refine ea1_2 hi ?_
    try clear hi
    intro a' e hit
    cases e
    rw [h4.length, Array.length_toList] at hit
    exact (Walks.tuple (hd.plain rfl) I a (fun q => h2 (q ▸ hI)) its).done s Q E ⟨hit, _, h3, rfl, _, rfl⟩ hQ
  | @seq a its _ _ q hr h2 h3 h4 =>
    refine ea1_2 ((q _ _ _).mp hi) ?_
    intro a' e hit
    cases e
    rw [h4.length, Array.length_toList] at hit
    exact (Walks.list (hd.plain hr) I a (fun q => h2 (q ▸ hI)) its).done s Q E ⟨hit, h3.isList⟩ hQ
  | @rng a b _ r =>
    have hi' : IsRangeIter s.heap I (a + ((rngL a b).length : Nat) * 1) (((b - a).toNat : Int) - ((rngL a b).length : Nat)) 1 := hi
    rw [rngL_length] at hi'
    cases hd with
    | no hh => exact (Walks.range hh I a 1 (b - a).toNat).done s Q E hi' hQ
    | rng e _ hh he => exact range_end_h hh he hi' (by lia) fun h' he' => hQ h' s.toks fun b o hb e => he' b o (fun h => hb (by simp [h])) e
end
end Mine

end
noncomputable section
namespace Mine
open PySem PySem.Calls PyProof.Rows

theorem rv_owner : Manifest.owners.lookup (String.ofList ['d', 'e', 's', 'r', 'e', 'v', 'e', 'r'].reverse) = some Manifest.sig_reversed := by kernel_rfl
theorem rv_slot : Slot "reversed" "__next__" "reversed.__next__" :=
  .of (owner := "reversed") (n := "__next__") (by rw [typeLookup_type, builtinLookup_eq_fast]; kernel_rfl) (by decide +kernel) (by decide +kernel) (by decide +kernel)
    (by first | exact .inl (by decide +kernel) | exact .inr (by decide +kernel)) (by rw [isSubtype_type]; kernel_rfl)
theorem rv_entry : entryFor table "reversed.__next__" = some Builtin.«reversed.__next__» := entryFor_of_tree (by kernel_rfl)
theorem rv_args (a : Value) : argsOk "reversed.__next__" ⟨[a], []⟩ := by
  unfold argsOk; rw [signature?_of (id := "reversed.__next__") (n := ['_', '_', 't', 'x', 'e', 'n', '_', '_']) (o := ['d', 'e', 's', 'r', 'e', 'v', 'e', 'r']) (by kernel_rfl) rv_owner]; kernel_rfl
theorem rv_slot_iter : Slot "reversed" "__iter__" "reversed.__iter__" :=
  .of (owner := "reversed") (n := "__iter__") (by rw [typeLookup_type, builtinLookup_eq_fast]; kernel_rfl) (by decide +kernel) (by decide +kernel) (by decide +kernel)
    (by first | exact .inl (by decide +kernel) | exact .inr (by decide +kernel)) (by rw [isSubtype_type]; kernel_rfl)
theorem rv_args_iter (a : Value) : argsOk "reversed.__iter__" ⟨[a], []⟩ := by
  unfold argsOk; rw [signature?_of (id := "reversed.__iter__") (n := ['_', '_', 'r', 'e', 't', 'i', '_', '_']) (o := ['d', 'e', 's', 'r', 'e', 'v', 'e', 'r']) (by kernel_rfl) rv_owner]; kernel_rfl
theorem rv_entry_iter : entryFor table "reversed.__iter__" = some Builtin.«dict_keyiterator.__iter__» :=
  entryFor_alias (id' := "dict_keyiterator.__iter__") (by kernel_rfl) (by first | rfl | decide +kernel | (unfold String.splitOn; simp +decide [String.splitOnAux])) (by decide +kernel) (by kernel_rfl)
theorem rv_init : Slot "reversed" "__init__" "object.__init__" :=
  .of (owner := "object") (n := "__init__") (by rw [typeLookup_type, builtinLookup_eq_fast]; kernel_rfl) (by decide +kernel) (by decide +kernel) (by decide +kernel)
    (by first | exact .inl (by decide +kernel) | exact .inr (by decide +kernel)) (by rw [isSubtype_type]; kernel_rfl)
theorem rv_called : TypeCalled "reversed" "reversed.__new__" "object.__init__" where
  notType := by decide +kernel
  canCreate := PySem.F.create_reversed
  mro := ⟨_, _, PySem.F.mro_reversed⟩
  made := PySem.F.made_reversed
  plain := PySem.F.plain_reversed_new
  sub := PySem.F.sub_reversed_self
  init := rv_init
theorem rv_no : typeLookup (.type "tuple") "__reversed__" = pure none := by rw [typeLookup_type, builtinLookup_eq_fast]; kernel_rfl
theorem rv_nodict : isSubtype (.type "tuple") (.type "dict") = pure false := by rw [isSubtype_type]; kernel_rfl
section
variable {prog : Program} {w : World} {A : Around} {E : Value → Shared → Prop} {s : Shared}
noncomputable def rvObj (t : Value) (i : Int) : Obj := { cls := .type "reversed", data := .fields #[t, rawInt i] }
theorem rv_make {t : Addr} {items : Array Value} {Q : Value → Shared → Prop} (ht : IsTup s.heap t items) (hz : (items.size : Int) < 2 ^ 63)
    (h : ∀ tk, Q (.ref s.heap.objs.size) { s with heap := s.heap.push (rvObj (.ref t) ((items.size : Int) - 1)), toks := tk }) : wpAny (model prog w) A (call (.type "reversed") [.ref t]) Q E s := by
  refine callType_new (S := fun A' R s => IsTup s.heap t items ∧ ∀ tk, R (.ok (.ret (.ref s.heap.objs.size))) { s with heap := s.heap.push (rvObj (.ref t) ((items.size : Int) - 1)), toks := tk }) rv_called (by decide) (PySem.F.typeCall_reversed_1 _) (PySem.F.newCall_reversed_1 _) (fun obj => PySem.F.args_object_init_2 obj _) PySem.F.entry_reversed_new ?_ ⟨ht, fun tk => ⟨⟨_, Heap.get?_push_size _ rfl, rfl⟩, h tk⟩⟩
  refine .of_wp fun prog w A R s h => ?_
  obtain ⟨ht, h⟩ := h
  unfold Builtin.«reversed.__new__»
  refine wpAny_bind (wpAny_of_eq (newClass_reversed _) ?_)
  try dsimp only
  refine wpAny_bind (wpAny_of_eq (a := ()) (by first | rfl | kernel_rfl) ?_)
  refine wpAny_bind (wpAny_of_eq (a := ()) (by first | rfl | kernel_rfl) ?_)
  try dsimp only
  refine wpAny_bind (wpAny_specialOf ht.typeIs rv_no ?_)
  try dsimp only
  refine wpAny_bind ?_
  show wpAny _ _ (isInstance (.ref t) (.type "dict") >>= _) _ _ s
  refine wpAny_bind (wpAny_isInstance (T := "tuple") (b := false) ht.typeIs rv_nodict ?_)
  show wpAny _ _ (specialOf (.ref t) "__getitem__" >>= _) _ _ s
  refine wpAny_bind (wpAny_specialOf ht.typeIs slot_tuple_getitem.lookup ?_)
  refine wpAny_pure ?_
  show wpAny _ _ (call (.builtin "len") [.ref t] >>= _) _ _ s
  refine wpAny_bind (len_tuple ht hz ?_)
  refine wpAny_bind (wpAny_of_eq (a := some (items.size : Int)) rfl ?_)
  dsimp only
  refine wpAny_bind ?_
  unfold Builtin.SmallTypes.newRecord
  refine wpAny_newObj_type (wpAny_pure ⟨_, rfl, h _⟩)
theorem rv_iter {I : Addr} {t : Value} {i : Int} {Q : Value → Shared → Prop} (hit : s.heap.get? I = some (rvObj t i)) (h : Q (.ref I) s) : wpAny (model prog w) A (pyIter (.ref I)) Q E s := by
  have hT : s.TypeIs (.ref I) "reversed" := ⟨_, hit, rfl⟩
  refine wpAny_pyIter_slot hT rv_slot_iter (wpAny_call_entry rv_slot_iter hT rv_entry_iter ?_ (rv_args_iter _))
  show wpAny _ _ (ret (.ref I)) _ _ s
  exact wpAny_pure ⟨_, rfl, "reversed", _, hT, rv_slot.lookup, h⟩
theorem rv_next {I t : Addr} {i : Nat} {items : Array Value} {x : Value} {Q : Option Value → Shared → Prop} (hit : s.heap.get? I = some (rvObj (.ref t) (i : Int))) (ht : IsTup s.heap t items) (hi : (i : Int) < 2 ^ 63) (hx : items[i]? = some x)
    (hQ : ∀ h' tk, h'.get? I = some (rvObj (.ref t) ((i : Int) - 1)) → Heap.SameBut I s.heap h' → Q (some x) { s with heap := h', toks := tk }) : wpAny (model prog w) A (pyNext (.ref I)) Q E s := by
  have hT : s.TypeIs (.ref I) "reversed" := ⟨_, hit, rfl⟩
  unfold pyNext
  refine wpAny_bind (wpAny_attempt (wpAny_callSpecial?_slot (name := Str.ofString "__next__") hT rv_slot
    (wpAny_call_entry rv_slot hT rv_entry ?_ (rv_args _))))
  unfold Builtin.«reversed.__next__»
  refine wpAny_bind (wpAny_of_eq (a := (Value.ref I, [])) rfl ?_)
  try dsimp only
  refine wpAny_bind (wpAny_field hit rfl (x := .ref t) rfl ?_)
  refine wpAny_bind (wpAny_field hit rfl (x := rawInt (i : Int)) rfl ?_)
  show wpAny _ _ (if (i : Int) < 0 then _ else _) _ _ s
  rw [if_neg (by lia)]
  show wpAny _ _ (specialOf (.ref t) "__getitem__" >>= _) _ _ s
  refine wpAny_bind (wpAny_specialOf ht.typeIs slot_tuple_getitem.lookup ?_)
  try dsimp only
  rw [if_neg (show ¬ ((some (Value.builtin "tuple.__getitem__")).isNone = true) from Bool.false_ne_true)]
  have hz := (Array.getElem?_eq_some_iff.mp hx).1
  refine wpAny_bind (wpAny_mkInt ?_)
  refine wpAny_bind (wpAny_attempt (getItem_tuple (s := { s with toks := s.toks + 1 }) ht (by lia) hi (j := i) (by unfold seqIndex?; simp; lia) hx ?_))
  dsimp only
  refine wpAny_bind (wpAny_field hit rfl (x := rawInt (i : Int)) rfl ?_)
  show wpAny _ _ (setField (.ref I) 1 (rawInt ((i : Int) - 1)) >>= _) _ _ _
  refine wpAny_bind (wpAny_setField hit rfl (by simp) ?_)
  refine wpAny_pure ⟨x, rfl, wpAny_pure (hQ _ _ ?_ (Heap.SameBut.update ..))⟩
  exact Heap.get?_update_self _ hit rfl
theorem rv_end {I : Addr} {t : Value} {Q : Option Value → Shared → Prop} (hh : A.handled = none) (hit : s.heap.get? I = some (rvObj t (-1)))
    (hQ : ∀ h', Heap.ExtBut I s.heap h' → Q none { s with heap := h' }) : wpAny (model prog w) A (pyNext (.ref I)) Q E s := by
  have hT : s.TypeIs (.ref I) "reversed" := ⟨_, hit, rfl⟩
  unfold pyNext
  refine wpAny_bind (wpAny_attempt (wpAny_callSpecial?_slot (name := Str.ofString "__next__") hT rv_slot
    (wpAny_call_entry rv_slot hT rv_entry ?_ (rv_args _))))
  unfold Builtin.«reversed.__next__»
  refine wpAny_bind (wpAny_of_eq (a := (Value.ref I, [])) rfl ?_)
  try dsimp only
  refine wpAny_bind (wpAny_field hit rfl (x := t) rfl ?_)
  refine wpAny_bind (wpAny_field hit rfl (x := rawInt (-1)) rfl ?_)
  show wpAny _ _ (if (-1 : Int) < 0 then _ else _) _ _ s
  rw [if_pos (by decide)]
  refine wpAny_bind (wpAny_rule ?_)
  refine wpAny_bind ?_
  show wpAny _ _ (setField (.ref I) 1 (rawInt (-1)) >>= _) _ _ _
  refine wpAny_bind (wpAny_setField hit rfl (by simp) ?_)
  refine wpAny_setField (Heap.get?_update_self _ hit rfl) rfl (by simp) ?_
  have hx : Heap.ExtBut I s.heap ((s.heap.update I (Obj.mapFields fun x => x.setIfInBounds 1 (rawInt (-1)))).update I (Obj.mapFields fun x => x.setIfInBounds 0 Value.none)) :=
    fun b o hb e => (Heap.get?_update_other _ _ (Ne.symm hb)).trans ((Heap.get?_update_other _ _ (Ne.symm hb)).trans e)
  generalize (s.heap.update I (Obj.mapFields fun x => x.setIfInBounds 1 (rawInt (-1)))).update I (Obj.mapFields fun x => x.setIfInBounds 0 Value.none) = h2 at hx ⊢
  refine wpAny_bind ?_
  show wpAny _ _ (newExc (.type "StopIteration") [] >>= _) _ _ _
  refine wpAny_bind ?_
  simp only [newExc, newTuple]
  refine wpAny_bind (wpAny_newObj_type ?_ (by size_fits))
  refine wpAny_bind (m := firstArgMember _ _) (wpAny_of_eq (a := Value.none) (by first | rfl | (simp only [firstArgMember]; rfl)) ?_)
  refine wpAny_newObj_type ?_ (by size_fits)
  simp only [raiseNew]
  refine wpAny_bind (wpAny_handled ?_)
  rw [show A.in1.handled = none from hh]
  refine wpAny_bind (wpAny_pure (wpAny_throw ?_))
  refine wpAny_bind (wpAny_isInstance (T := "StopIteration") (b := true) ⟨_, Heap.get?_push_size _ rfl, rfl⟩ isSubtype_stop ?_)
  exact wpAny_pure (hQ _ ((hx.push _).push _))
end

/-- an iterator that goes backwards -/
noncomputable def RvC (h : HP) (I : Addr) : V → Value → Nat → Prop
  | .tup vs, y, k => ∃ a, y = .ref a ∧ h.get? I = some (rvObj (.ref a) ((vs.length : Int) - 1 - (k : Int)))
  | .lst vs, y, k => ∃ a, y = .ref a ∧ k ≤ vs.length ∧ h.IsRevIter I a ((vs.length : Int) - 1 - (k : Int))
  | _, _, _ => False
theorem RvC.here {h : HP} {I : Addr} {v : V} {y : Value} {k : Nat} (x : RvC h I v y k) : ∃ o, h.get? I = some o ∧ ∃ vs, o.data = .fields vs := by
  cases v with
  | tup vs => obtain ⟨a, _, e⟩ := x; exact ⟨_, e, _, rfl⟩
  | lst vs => obtain ⟨a, _, _, o, e, r⟩ := x; exact ⟨o, e, _, r.2⟩
  | _ => exact x.elim
theorem RvC.at {h h' : HP} {I : Addr} {v : V} {y : Value} {k : Nat} (x : RvC h I v y k) (e : ∀ o, h.get? I = some o → (∀ es n, o.data ≠ .dict es n) → h'.get? I = some o) : RvC h' I v y k := by
  cases v with
  | tup vs => obtain ⟨a, hy, q⟩ := x; exact ⟨a, hy, e _ q fun _ _ h => nomatch h⟩
  | lst vs => obtain ⟨a, hy, hk, o, q, r⟩ := x; exact ⟨a, hy, hk, o, e o q (fun es n hd => by rw [r.2] at hd; cases hd), r⟩
  | _ => exact x.elim
/-- an iterator that goes forwards or backwards -/
noncomputable def ItD (rev : Bool) (h : HP) (I : Addr) (v : V) (y : Value) (k : Nat) : Prop := match rev with
  | true => RvC h I v y k
  | false => ItC h I v y k
inductive RevIs (q : Bool) (items : List V) : V → Prop
  | tup {vs : List V} : q = false → items = vs.reverse → RevIs q items (.tup vs)
  | lst {vs : List V} : q = false → items = vs.reverse → RevIs q items (.lst vs)
theorem rev_is {q : Bool} {H : AH} {v : V} {items : List V} (h : srcD true q H v = some items) : RevIs q items v := by
  cases q with
  | true => cases h
  | false =>
    cases v with
    | tup vs => exact .tup rfl (Option.some.inj h).symm
    | lst vs => exact .lst rfl (Option.some.inj h).symm
    | _ => cases h
theorem AOk.handD {c : Cx} {A : Around} {n : Nat} {as : Adr} {X : List Addr} {H : AH} {s : Shared} {rev : Bool} {v : V} {items : List V} (a : AOk c A n) (S : SR c as X H s) (h : srcD rev c.P.q H v = some items) : Hd A s.heap v := by
  cases rev with
  | false => exact a.hand S h
  | true => cases rev_is h with
    | tup hq => exact .no (a.hh hq)
    | lst hq => exact .no (a.hh hq)
theorem ItD.here {rev : Bool} {h : HP} {I : Addr} {v : V} {y : Value} {k : Nat} (x : ItD rev h I v y k) : ∃ o, h.get? I = some o ∧ ∃ vs, o.data = .fields vs := by
  cases rev with
  | true => exact RvC.here x
  | false => exact ItC.here x
theorem ItD.at {rev : Bool} {h h' : HP} {I : Addr} {v : V} {y : Value} {k : Nat} (x : ItD rev h I v y k) (e : ∀ o, h.get? I = some o → (∀ es n, o.data ≠ .dict es n) → h'.get? I = some o) : ItD rev h' I v y k := by
  cases rev with
  | true => exact RvC.at x e
  | false => exact ItC.at x e
/-- iterators that hand out tuples of their own -/
noncomputable def owners : List String := ["enumerate", "zip", "dict_itemiterator", "dict_reverseitemiterator", "odict_iterator", "itertools.zip_longest", "itertools.pairwise"]
inductive NoOwn (h : HP) (I : Addr) : Prop
  | mk {o : Obj} {n : String} : h.get? I = some o → o.cls = .type n → owners.contains n = false → NoOwn h I
theorem ItD.cls {rev : Bool} {h : HP} {I : Addr} {v : V} {y : Value} {k : Nat} (x : ItD rev h I v y k) : NoOwn h I := by
  cases rev with
  | true =>
    cases v with
    | tup vs => obtain ⟨a, _, e⟩ := x; exact .mk e rfl (by decide +kernel)
    | lst vs => obtain ⟨a, _, _, o, e, r⟩ := x; exact .mk e r.1 (by decide +kernel)
    | _ => exact x.elim
  | false =>
    cases v with
    | str => 
      obtain ⟨x, t, _, h1 | h1⟩ := x
      · refine ea1_2 h1 ?_
        try clear h1
        intro o e r
        exact .mk e r.1 (by decide +kernel)
      · refine ea1_2 h1 ?_
        try clear h1
        intro o e r
        exact .mk e r.1 (by decide +kernel)
    | rng => exact .mk x rfl (by decide +kernel)
    | tup | lst | ref => obtain ⟨a, _, o, e, r⟩ := x; exact .mk e r.1 (by decide +kernel)
    | _ => exact x.elim
theorem let_go {prog : Program} {w : World} {A : Around} {E : Value → Shared → Prop} {s : Shared} {te : Expr} {I : Addr} {z : Value} {Q : Unit → Shared → Prop} (h : NoOwn s.heap I) (q : Q () s) : wpAny (model prog w) A (letOwnedTupleGo te (.ref I) z) Q E s := by
  obtain ⟨e, hc, hn⟩ := h
  have F : wpAny (model prog w) A (do
      let (.ref r, .ref a) := (Value.ref I, z) | return
      let o ← load r
      match o.cls, o.data with
      | .type n, .fields vs =>
        if owners.contains n && vs[0]? == some (rawInt a) then
          rule "for.unpacks-the-owned-tuple"
          updateField r 0 .none
      | _, _ => pure ()) Q E s := by
    cases z with
    | ref a =>
      refine wpAny_bind (wpAny_load e ?_)
      rw [hc]
      split
      · rename_i n' vs h1 h2
        cases h1
        rw [hn]
        exact wpAny_pure q
      · exact wpAny_pure q
    | _ => exact wpAny_pure q
  cases te <;> first | exact wpAny_pure q | exact F
section
variable {c : Cx} {A : Around} {E : Value → Shared → Prop} {s : Shared} {as : Adr} {X : List Addr} {H : AH}
theorem rev_at {vs : List V} {k : Nat} {x : V} (h : vs.reverse[k]? = some x) : vs[vs.length - 1 - k]? = some x ∧ k < vs.length := by
  have hk : k < vs.length := by rw [← List.length_reverse]; exact (List.getElem?_eq_some_iff.mp h).1
  rw [List.getElem?_reverse hk] at h
  exact ⟨h, hk⟩
theorem rev_i {n k : Nat} (h : k < n) : (n : Int) - 1 - (k : Int) = ((n - 1 - k : Nat) : Int) := by lia
theorem id_next {rev q : Bool} {v : V} {y : Value} {items : List V} {x : V} {k : Nat} {I : Addr} {Q : Option Value → Shared → Prop} (hd : Hd A s.heap v) (S : SR c as X H s) (hI : I ∈ X) (hb : c.base.get? I = none) (hv : VR c as X s.heap v y) (hi : ItD rev s.heap I v y k)
    (hs : srcD rev q H v = some items) (hk : items[k]? = some x)
    (hQ : ∀ z h' tk, But [I] s.heap h' → VR c as X h' x z → VR c as X h' v y → ItD rev h' I v y (k + 1) → SR c as X H { s with heap := h', toks := tk } → Q (some z) { s with heap := h', toks := tk }) : wpAny c.M A (pyNext (.ref I)) Q E s := by
  cases rev with
  | false => exact it_next hd S hI hb hv hi (srcQ_is hs).1 hk hQ
  | true =>
    have fin : ∀ z h' tk, But [I] s.heap h' → VR c as X s.heap x z → RvC h' I v y (k + 1) → Q (some z) { s with heap := h', toks := tk } := fun z h' tk b hz hit => by
      have kx : VK as X s.heap h' := b.vk as (by simpa using hI)
      exact hQ z h' tk b (hz.keepX kx (.refl ..)) (hv.keepX kx (.refl ..)) hit (S.but (s' := { s with heap := h', toks := tk }) b (by simpa using ⟨hI, hb⟩) (fun _ q => q) (fun b hb hz => by simp at hz; subst hz; obtain ⟨o, e, _⟩ := hit.here; exact ⟨o, e⟩) rfl rfl)
    clear hQ
    cases rev_is hs with
    | @tup vs _ e =>
      subst e
      obtain ⟨hx, hk⟩ := rev_at hk
      refine ea1_2 hi ?_
      try clear hi
      intro a q_2 hit
      subst q_2
      cases hv.inv with
      | @tup _ its n h1 h2 h3 h4 h5 =>
        refine ea1_2 (h4.get hx) ?_
        intro z hz hzr
        rw [Array.getElem?_toList] at hz
        rw [rev_i hk] at hit
        refine rv_next hit ⟨_, h3, rfl, _, rfl⟩ (bnd_le (Nat.le_trans (Nat.sub_le _ _) (Nat.le_trans (Nat.sub_le _ _) h5))) hz fun h' tk hg hs' => fin z h' tk (fun b o hb e => hs'.extBut b o (fun h => hb (by rw [h]; exact .head _)) e) hzr ⟨a, rfl, ?_⟩
        rw [hg, ← rev_i hk, show (vs.length : Int) - 1 - ((k + 1 : Nat) : Int) = (vs.length : Int) - 1 - (k : Int) - 1 by lia]
    | @lst vs _ e =>
      subst e
      obtain ⟨hx, hk⟩ := rev_at hk
      refine ea1_3 hi ?_
      try clear hi
      intro a q_2 _ hit
      subst q_2
      cases hv.inv with
      | @lst _ its h1 h2 h3 h4 h5 =>
        refine ea1_2 (h4.get hx) ?_
        intro z hz hzr
        rw [Array.getElem?_toList] at hz
        have hl : vs.length = its.size := h4.length.trans Array.length_toList
        refine (Walks.listRev (hd.plain rfl) I a (fun q => h2 (q ▸ hI)) its).item k s Q E (hl ▸ hk) ⟨Nat.le_of_lt (hl ▸ hk), hl ▸ hit, h3.isList⟩ fun z' h' tk hz' st b => fin z' h' tk b ?_ ⟨_, rfl, hk, by rw [hl]; exact st.2.1⟩
        rw [← hl, hz] at hz'; cases hz'; exact hzr
/-- reversed(..) of a tuple or a list -/
theorem rv_start {q : Bool} {v : V} {y : Value} {items : List V} {Q : Value → Shared → Prop} (hv : VR c as X s.heap v y) (hs : srcD true q H v = some items)
    (hQ : ∀ o tk, ItD true (s.heap.push o) s.heap.objs.size v y 0 → Q (.ref s.heap.objs.size) { s with heap := s.heap.push o, toks := tk }) : wpAny c.M A (call (.type "reversed") [y]) Q E s := by
  have z : ∀ n : Nat, (n : Int) - 1 - ((0 : Nat) : Int) = (n : Int) - 1 := fun n => Int.sub_zero _
  cases rev_is hs with
  | @tup vs _ e =>
    cases hv.inv with
    | @tup a its n h1 h2 h3 h4 h5 =>
      have hl : vs.length = its.size := h4.length.trans Array.length_toList
      exact rv_make ⟨_, h3, rfl, _, rfl⟩ (bnd_le (hl ▸ h5)) fun tk => hQ _ tk ⟨a, rfl, by rw [z, hl]; exact Heap.get?_push_size _ rfl⟩
  | @lst vs _ e =>
    cases hv.inv with
    | @lst a its h1 h2 h3 h4 h5 =>
      have hl : vs.length = its.size := h4.length.trans Array.length_toList
      exact call_reversed_list h3.isList (hQ _ s.toks ⟨a, rfl, Nat.zero_le _, by rw [z, hl]; exact ⟨_, Heap.get?_push_size _ rfl, rfl, rfl⟩⟩)
theorem rv_it {v : V} {y : Value} {k : Nat} {I : Addr} {Q : Value → Shared → Prop} (h : ItD true s.heap I v y k) (q : Q (.ref I) s) : wpAny c.M A (pyIter (.ref I)) Q E s := by
  cases v with
  | tup vs => obtain ⟨a, _, e⟩ := h; exact rv_iter e q
  | lst vs => obtain ⟨a, _, _, e⟩ := h; exact wpAny_pyIter_revIter e q
  | _ => exact h.elim
theorem id_done {rev q : Bool} {v : V} {y : Value} {items : List V} {k : Nat} {I : Addr} {Q : Option Value → Shared → Prop} (hd : Hd A s.heap v) (S : SR c as X H s) (hI : I ∈ X) (hv : VR c as X s.heap v y) (hi : ItD rev s.heap I v y k)
    (hs : srcD rev q H v = some items) (hk : items.length = k)
    (hQ : ∀ h' tk, But [I] s.heap h' → Q none { s with heap := h', toks := tk }) : wpAny c.M A (pyNext (.ref I)) Q E s := by
  cases rev with
  | false => exact it_done hd S hI hv hi (srcQ_is hs).1 hk hQ
  | true =>
    subst hk
    cases rev_is hs with
    | @tup vs _ e =>
      subst e
      refine ea1_2 hi ?_
      try clear hi
      intro a q_2 hit
      subst q_2
      rw [List.length_reverse, show (vs.length : Int) - 1 - (vs.length : Int) = -1 by lia] at hit
      exact rv_end (hd.plain rfl) hit fun h' hx => hQ h' s.toks fun b o hb e => hx b o (fun h => hb (by rw [h]; exact .head _)) e
    | @lst vs _ e =>
      subst e
      refine ea1_3 hi ?_
      try clear hi
      intro a q_2 _ hit
      subst q_2
      cases hv.inv with
      | @lst _ its h1 h2 h3 h4 h5 =>
        have hl : vs.length = its.size := h4.length.trans Array.length_toList
        rw [List.length_reverse, hl] at hit
        exact (Walks.listRev (hd.plain rfl) I a (fun q => h2 (q ▸ hI)) its).done s Q E ⟨Nat.le_refl _, hit, h3.isList⟩ hQ
end
end Mine

end
noncomputable section
namespace Mine
open PySem PySem.Calls PyProof.Rows

theorem Kept.but {as : Adr} {X : List Addr} {h₀ h h' : HP} {Y : List Addr} (k : Kept as X h₀ h) (b : But Y h h') (hY : ∀ a ∈ Y, Fr as h₀ a) : Kept as X h₀ h' := fun x o e hx => by
  refine ea1_2 (k x o e hx) ?_
  intro o' e' s
  exact ⟨o', b x o' (fun q => by rcases hY _ q with r | r; exact hx r; rw [r] at e; cases e) e', s⟩
structure CompF (T : Tb) (x : Str) (sc : Scope) : Prop where
  kind : sc.kind = .function
  tabs : ∀ y i, T.tab.lookup y = some i → i < T.n
  hx : sc.names.lookup x = some .local
  names : ∀ p ∈ sc.names, sc.names.lookup p.1 = some p.2
  loc : ∀ y, sc.names.lookup y = some .local → y = x ∨ T.tab.lookup y = none
  nocell : ∀ p ∈ sc.names, p.2 ≠ .cell
  free : ∀ y, sc.names.lookup y = some .free → (T.names.lookup y = some .cell ∨ T.names.lookup y = some .free) ∧ (∃ i, T.tab.lookup y = some i) ∧ y ≠ x

theorem compF {T : Tb} {x : Str} {sc : Scope} (h : compOk T x sc = true) : CompF T x sc := by
  simp only [compOk, Bool.and_eq_true, decide_eq_true_eq, List.all_eq_true] at h
  obtain ⟨⟨⟨h1, h2⟩, h3⟩, h4⟩ := h
  refine ⟨h1, fun y i e => h2 _ (mem_of_lookup e), h3, fun p hp => (h4 p hp).1, fun y e => ?_, fun p hp e => ?_, fun y e => ?_⟩
  · have := (h4 _ (mem_of_lookup e)).2
    simpa using this
  · have := (h4 p hp).2
    rw [e] at this
    simp at this
  · have := (h4 _ (mem_of_lookup e)).2
    simp only [Bool.and_eq_true, Bool.or_eq_true, decide_eq_true_eq] at this
    exact ⟨this.1.1, Option.isSome_iff_exists.mp this.1.2, this.2⟩

theorem lookup_relabel {env : Env} : ∀ (names : List (Str × NameKind)) (x : Str),
    (names.map fun (n, k) => if (k == NameKind.free && env.scope.kind == .function && env.kindOf n == some .cell) then (n, NameKind.cell) else (n, k)).lookup x =
      (names.lookup x).map fun k => if (k == NameKind.free && env.scope.kind == .function && env.kindOf x == some .cell) then NameKind.cell else k
  | [], _ => rfl
  | (n, k) :: r, x => by
    have ih := lookup_relabel (env := env) r x
    show List.lookup x ((if (k == NameKind.free && env.scope.kind == .function && env.kindOf n == some .cell) = true then (n, NameKind.cell) else (n, k)) :: _) = _
    cases hx : x == n with
    | true =>
      have hxn : x = n := by simpa using hx
      subst hxn
      simp only [List.lookup_cons, hx, Option.map_some]
      by_cases hc : (k == NameKind.free && env.scope.kind == .function && env.kindOf x == some .cell) = true
      · rw [if_pos hc, if_pos hc, List.lookup_cons, hx]
      · rw [if_neg hc, if_neg hc, List.lookup_cons, hx]
    | false =>
      simp only [List.lookup_cons, hx]
      by_cases hc : (k == NameKind.free && env.scope.kind == .function && env.kindOf n == some .cell) = true
      · rw [if_pos hc]; simp only [List.lookup_cons, hx]; exact ih
      · rw [if_neg hc]; simp only [List.lookup_cons, hx]; exact ih

theorem closure_of {sc : Scope} {env : Env} (hn : ∀ p ∈ sc.names, sc.names.lookup p.1 = some p.2) (hf : ∀ y, sc.names.lookup y = some .free → ∃ a, env.cells.lookup y = some a) :
    ∃ cl, closureFor sc env = pure cl ∧ (∀ y a, cl.lookup y = some a → env.cells.lookup y = some a) ∧ (∀ y, sc.names.lookup y = some .free → cl.lookup y = env.cells.lookup y) := by
  have go : ∀ (names : List (Str × NameKind)) (acc : List (Str × Addr)), (∀ p ∈ names, p.2 = .free → ∃ a, env.cells.lookup p.1 = some a) → (∀ y a, acc.lookup y = some a → env.cells.lookup y = some a) →
      ∃ cl, (forIn names acc fun p cs => (if (p.2 == NameKind.free) = true then do let a ← cellOf env p.1; pure (ForInStep.yield ((p.1, a) :: cs)) else pure (ForInStep.yield cs) : Sem _)) = pure cl ∧
        (∀ y a, cl.lookup y = some a → env.cells.lookup y = some a) ∧ (∀ p ∈ names, p.2 = .free → ∃ a, cl.lookup p.1 = some a) ∧ (∀ y a, acc.lookup y = some a → ∃ a, cl.lookup y = some a) := by
    intro names
    induction names with
    | nil => exact fun acc _ h2 => ⟨acc, rfl, h2, by simp, fun y a e => ⟨a, e⟩⟩
    | cons p r ih =>
      intro acc h1 h2
      by_cases hp : p.2 = .free
      · obtain ⟨a, ha⟩ := h1 p (.head _) hp
        have h2' : ∀ y b, ((p.1, a) :: acc).lookup y = some b → env.cells.lookup y = some b := fun y b e => by
          rw [List.lookup_cons] at e
          try clear a; try clear hf; try clear hn
          cases hy : y == p.1 with
          | true => rw [hy] at e; simp only [Option.some.injEq] at e; subst e; rw [beq_iff_eq] at hy; rw [hy]; exact ha
          | false => rw [hy] at e; exact h2 y b e
        refine ea1_4 (ih ((p.1, a) :: acc) (fun q hq => h1 q (.tail _ hq)) h2') ?_
        intro cl e1 e2 e3 e4
        refine ⟨cl, ?_, e2, fun q hq hqf => ?_, fun y b e => ?_⟩
        · rw [List.forIn_cons]
          simp only [hp, BEq.rfl, if_true, cellOf, ha]
          exact e1
        · try clear e2; try clear e1; try clear cl; try clear ha
          cases hq with
          | head => exact e4 p.1 a (by simp [List.lookup_cons])
          | tail _ hq => exact e3 q hq hqf
        · by_cases hy : y = p.1
          · try clear e3
            subst hy; exact e4 p.1 a (by simp [List.lookup_cons])
          · exact e4 y b (by rw [List.lookup_cons, show (y == p.1) = false by simpa using hy]; exact e)
      · refine ea1_4 (ih acc (fun q hq => h1 q (.tail _ hq)) h2) ?_
        intro cl e1 e2 e3 e4
        refine ⟨cl, ?_, e2, fun q hq hqf => ?_, e4⟩
        · rw [List.forIn_cons]
          have : (p.2 == NameKind.free) = false := by simpa using hp
          simp only [this, Bool.false_eq_true, if_false]
          exact e1
        · try clear e4; try clear e2; try clear e1; try clear cl
          cases hq with
          | head => exact absurd hqf hp
          | tail _ hq => exact e3 q hq hqf
  refine ea1_4 (go sc.names [] (fun p hp hpf => hf p.1 (by rw [hn p hp, hpf])) (by simp)) ?_
  intro cl e1 e2 e3 _
  try clear hf; try clear hn
  refine ⟨cl, ?_, e2, fun y hy => ?_⟩
  · unfold closureFor
    simp only [bind_pure_comp] at e1 ⊢
    first
      | (rw [e1]; rfl)
      | (simp only [bind_pure_comp]; erw [e1]; rfl)
  · obtain ⟨a, ha⟩ := e3 (y, .free) (mem_of_lookup hy) rfl
    try clear e3
    rw [ha, e2 y a ha]

/-- where a comprehension's objects lie -/
structure Ls (c : Cx) (env : Env) (tab : List (Str × Nat)) (as₀ : Adr) (h₀ : HP) (X : List Addr) (I C D : Addr) : Prop where
  ic : I ≠ C
  id : I ≠ D
  cd : C ≠ D
  bi : c.base.get? I = none
  bc : c.base.get? C = none
  bd : c.base.get? D = none
  hi : Fr as₀ h₀ I
  hc : Fr as₀ h₀ C
  hd : Fr as₀ h₀ D
  dx : D ∉ X
  cx : C ∉ X
  aw : Away [I, C, D] env tab

structure Lp (c : Cx) (T : Tb) (env : Env) (as₀ : Adr) (h₀ : HP) (X : List Addr) (ρ : Fm) (I C D : Addr) (v : V) (y : Value) (k : Nat) (acc : List V) (arr : Array Value) (s : Shared) (as : Adr) (H : AH) : Prop where
  S : SR c as (I :: C :: D :: X) H s
  F : FR c as (I :: C :: D :: X) s.heap env T.tab ρ
  hv : VR c as (I :: C :: D :: X) s.heap v y
  hi : ItC s.heap I v y k
  hD : s.heap.PlainList D arr
  hacc : VRs c as (I :: C :: D :: X) s.heap acc arr.toList
  hl : acc.length ≤ k
  hC : ∃ m, s.heap.Ns C m
  oi : some I ∉ as
  oc : some C ∉ as
  od : some D ∉ as
  E : Ext as₀ h₀ as
  K : Kept as₀ (I :: C :: D :: X) h₀ s.heap

section
variable {c : Cx} {T : Tb} {env : Env} {as₀ : Adr} {h₀ : HP} {X : List Addr} {ρ : Fm} {I C D : Addr} {v : V} {y : Value} {k : Nat} {acc : List V} {arr : Array Value} {s : Shared} {as : Adr} {H : AH}

theorem Lp.eval {s' : Shared} {as' : Adr} {H' : AH} (L : Lp c T env as₀ h₀ X ρ I C D v y k acc arr s as H) (e : Ext as s.heap as') (kp : Kept as (I :: C :: D :: X) s.heap s'.heap) (S : SR c as' (I :: C :: D :: X) H' s') : Lp c T env as₀ h₀ X ρ I C D v y k acc arr s' as' H' where
  S := S
  F := L.F.keep kp e
  hv := L.hv.keep kp e
  hi := L.hi.at fun o q hc => kp.get q L.oi hc
  hD := by obtain ⟨n, q⟩ := L.hD; exact ⟨n, kp.get q L.od (by simp)⟩
  hacc := L.hacc.keep kp e
  hl := L.hl
  hC := by obtain ⟨m, q⟩ := L.hC; exact ⟨m, Ns.same q fun o e => kp _ o e L.oc⟩
  oi := by obtain ⟨o, q, _⟩ := L.hi.here; exact e.out q L.oi
  oc := by obtain ⟨m, o, _, _, q, _⟩ := L.hC; exact e.out q L.oc
  od := by obtain ⟨n, q⟩ := L.hD; exact e.out q L.od
  E := L.E.trans L.K e
  K := L.K.trans L.E kp

/-- what is not of the run's own objects -/
theorem Lp.but {s' : Shared} {Z : List Addr} (W : Ls c env T.tab as₀ h₀ X I C D) (L : Lp c T env as₀ h₀ X ρ I C D v y k acc arr s as H) (b : But Z s.heap s'.heap) (hZ : ∀ a ∈ Z, a ∈ [I, C, D]) :
    VK as (I :: C :: D :: X) s.heap s'.heap ∧ FR c as (I :: C :: D :: X) s'.heap env T.tab ρ ∧ Kept as₀ (I :: C :: D :: X) h₀ s'.heap := by
  refine ⟨b.vk as fun a ha => ?_, L.F.keepY (Y := Z) (b.kept as _) (fun a ha => ?_) ⟨fun q => W.aw.1 (hZ _ q), fun x i h1 h2 a e q => W.aw.2 x i h1 h2 a e (hZ _ q)⟩, L.K.but b fun a ha => ?_⟩
  · have := hZ a ha; simp at this; rcases this with h | h | h <;> simp [h]
  · have := hZ a ha; simp at this; rcases this with h | h | h <;> simp [h]
  · have := hZ a ha
    simp at this
    try clear hZ; try clear L; try clear b
    rcases this with rfl | rfl | rfl
    · exact W.hi
    · exact W.hc
    · exact W.hd

theorem Lp.next {h' : HP} {tk : Nat} (W : Ls c env T.tab as₀ h₀ X I C D) (L : Lp c T env as₀ h₀ X ρ I C D v y k acc arr s as H) (b : But [I] s.heap h') (hv : VR c as (I :: C :: D :: X) h' v y) (hi : ItC h' I v y (k + 1))
    (S : SR c as (I :: C :: D :: X) H { s with heap := h', toks := tk }) : Lp c T env as₀ h₀ X ρ I C D v y (k + 1) acc arr { s with heap := h', toks := tk } as H := by
  refine ea0_3 (L.but (s' := { s with heap := h', toks := tk }) W b (by simp)) ?_
  intro b1 b2 b3
  refine ⟨S, b2, hv, hi, ?_, L.hacc.keepX b1 (.refl ..), by have := L.hl; (exact Nat.le_succ_of_le (by assumption)), ?_, L.oi, L.oc, L.od, L.E, b3⟩
  · obtain ⟨n, q⟩ := L.hD; exact ⟨n, b _ _ (by simpa using Ne.symm W.id) q⟩
    try clear L; try clear b; try clear W
  · obtain ⟨m, q⟩ := L.hC; exact ⟨m, Ns.same (X := []) q fun o e => ⟨o, b _ _ (by simpa using Ne.symm W.ic) e, .inl rfl⟩⟩
    try clear L; try clear b; try clear W

theorem Lp.store {h' : HP} {tk : Nat} {m : Str → Option Value} (W : Ls c env T.tab as₀ h₀ X I C D) (L : Lp c T env as₀ h₀ X ρ I C D v y k acc arr s as H) (b : But [C] s.heap h') (hm : h'.Ns C m) :
    Lp c T env as₀ h₀ X ρ I C D v y k acc arr { s with heap := h', toks := tk } as H := by
  refine ea0_3 (L.but (s' := { s with heap := h', toks := tk }) W b (by simp)) ?_
  intro b1 b2 b3
  refine ⟨L.S.but (s' := { s with heap := h', toks := tk }) b (by simpa using W.bc) (fun _ q => q) (fun a ha hz => ?_) rfl rfl, b2, L.hv.keepX b1 (.refl ..), L.hi.at fun o e _ => b _ _ (by simpa using W.ic) e, ?_, L.hacc.keepX b1 (.refl ..), L.hl, ⟨m, hm⟩, L.oi, L.oc, L.od, L.E, b3⟩
  · simp at hz; subst hz; obtain ⟨o, _, _, e, _⟩ := hm; exact ⟨o, e⟩
  · obtain ⟨n, q⟩ := L.hD; exact ⟨n, b _ _ (by simpa using Ne.symm W.cd) q⟩
    try clear L; try clear b; try clear W

theorem Lp.push {h' : HP} {z : V} {zc : Value} (W : Ls c env T.tab as₀ h₀ X I C D) (L : Lp c T env as₀ h₀ X ρ I C D v y k acc arr s as H) (b : But [D] s.heap h') (hp : h'.PlainList D (arr.push zc)) (hz : VR c as (I :: C :: D :: X) s.heap z zc) (hl : acc.length + 1 ≤ k) :
    Lp c T env as₀ h₀ X ρ I C D v y k (acc ++ [z]) (arr.push zc) { s with heap := h' } as H := by
  refine ea0_3 (L.but (s' := { s with heap := h' }) W b (by simp)) ?_
  intro b1 b2 b3
  refine ⟨L.S.but (s' := { s with heap := h' }) b (by simpa using W.bd) (fun _ q => q) (fun a ha hz => ?_) rfl rfl, b2, L.hv.keepX b1 (.refl ..), L.hi.at fun o e _ => b _ _ (by simpa using W.id) e, hp, ?_, by simpa using hl, ?_, L.oi, L.oc, L.od, L.E, b3⟩
  · simp at hz; subst hz; obtain ⟨n, e⟩ := hp; exact ⟨_, e⟩
  · rw [Array.toList_push]; exact (L.hacc.keepX b1 (.refl ..)).append (.cons (hz.keepX b1 (.refl ..)) .nil)
  · obtain ⟨m, q⟩ := L.hC; exact ⟨m, Ns.same (X := []) q fun o e => ⟨o, b _ _ (by simpa using W.cd) e, .inl rfl⟩⟩
    try clear L; try clear b; try clear W

/-- the comprehension's own block stands ready -/
theorem Lp.rdy {A : Around} {n : Nat} {x : Str} {sc : Scope} {cl : List (Str × Addr)} {u : V} {uc : Value} {m : Str → Option Value} (W : Ls c env T.tab as₀ h₀ X I C D) (L : Lp c T env as₀ h₀ X ρ I C D v y k acc arr s as H) (a : AOk c A n) (fr : EnvFr c A X as₀ h₀ env) (K : KOk T env) (hlen : ρ.length = T.n)
    (ok : CompF T x sc) (hcl : ∀ y a, cl.lookup y = some a → env.cells.lookup y = some a) (hcl' : ∀ y, sc.names.lookup y = some .free → cl.lookup y = env.cells.lookup y) (hm : s.heap.Ns C m) (hmx : m x = some uc) (hu : VR c as (I :: C :: D :: X) s.heap u uc) :
    Rdy c { T with names := sc.names, tab := (x, T.n) :: T.tab, n := T.n + 1 } (compEnvC sc cl C env) A n s as (I :: C :: D :: X) H (ρ ++ [some u]) := by
  have kind : ∀ y, (compEnvC sc cl C env).kindOf y = (sc.names.lookup y).map fun k => if (k == NameKind.free && env.scope.kind == .function && env.kindOf y == some .cell) then NameKind.cell else k := fun y => lookup_relabel sc.names y
  have notcell : ∀ y, sc.names.lookup y ≠ some .cell := fun y e => ok.nocell _ (mem_of_lookup e) rfl
  have kfree : ∀ y, ((compEnvC sc cl C env).kindOf y = some .cell ∨ (compEnvC sc cl C env).kindOf y = some .free) → sc.names.lookup y = some .free := fun y e => by
    rw [kind] at e
    try clear kind; try clear hu; try clear hcl; try clear hcl'; try clear ok; try clear hmx; try clear hlen; try clear K; try clear W; try clear hm; try clear fr; try clear L; try clear a
    cases hq : sc.names.lookup y with
    | none => rw [hq] at e; simp at e
    | some kk =>
      rw [hq] at e
      cases kk with
      | free => rfl
      | cell => exact absurd hq (notcell y)
      | _ => simp at e
  have kloc : ∀ y, (compEnvC sc cl C env).kindOf y = some .local → sc.names.lookup y = some .local := fun y e => by
    rw [kind] at e
    try clear notcell
    cases hq : sc.names.lookup y with
    | none => rw [hq] at e; simp at e
    | some kk =>
      rw [hq] at e
      cases kk with
      | «local» => rfl
      | free =>
        simp only [Option.map_some, Option.some.injEq] at e
        split at e <;> cases e
      | _ => simp at e
  refine ⟨a, L.S, ?_, ?_, ?_, ((fr.grow (.refl _) fun b => Nat.le_trans List.count_le_count_cons (Nat.le_trans List.count_le_count_cons List.count_le_count_cons)).keep L.E L.K).env rfl⟩
  · refine ⟨ok.kind, L.F.glob, L.F.bi, by simp [compEnvC], L.oc, W.bc, ⟨m, hm, fun z i h1 h2 => ?_⟩, fun z i h1 h2 => ?_, fun z z' b h1 h2 => L.F.apart z z' b (hcl _ _ h1) (hcl _ _ h2), fun z z' i h1 h2 => ?_⟩
    · have hz := ok.loc z (kloc z h2)
      have hzx : z = x := by
        rcases hz with hz | hz
        · exact hz
        · rw [List.lookup_cons] at h1
          cases hb : z == x with
          | true => simpa using hb
          | false => rw [hb] at h1; simp only at h1; rw [hz] at h1; cases h1
      try clear hz
      subst hzx
      simp only [List.lookup_cons, BEq.rfl, Option.some.injEq] at h1
      subst h1
      rw [hmx, ← hlen]
      intro w ew
      simp at ew
      subst ew
      exact ⟨uc, rfl, hu⟩
    · have hz := kfree z h2
      refine ea0_3 (ok.free z hz) ?_
      intro h3 p_2 h5
      obtain ⟨j, h4⟩ := p_2
      have hzi : T.tab.lookup z = some i := by
        rw [List.lookup_cons, show (z == x) = false by simpa using h5] at h1; exact h1
      have hek : env.kindOf z = some .cell ∨ env.kindOf z = some .free := by
        try clear h5; try clear h4; try clear j
        rcases h3 with h3 | h3
        · exact .inl (K.cell z h3)
        · rcases K.free z h3 with q | q
          · exact .inr q
          · exact .inl q
      refine ea2_7 (L.F.cells z i hzi hek) ?_
      intro a yy e1 e2 e3 e4 e5 e6 e7
      try clear L
      have hi := ok.tabs z i hzi
      refine ⟨a, yy, (hcl' z hz).trans e1, e2, e3, e4, fun q => W.aw.2 z i hzi hek a e1 (by rw [q]; simp [compEnvC]), e6, ?_⟩
      rw [List.getElem?_append_left (by lia)]
      exact e7
    · rw [List.lookup_cons] at h1 h2
      cases hb : z == x with
      | true =>
        cases hb' : z' == x with
        | true => rw [beq_iff_eq] at hb hb'; rw [hb, hb']
        | false =>
          rw [hb] at h1; rw [hb'] at h2
          simp only [Option.some.injEq] at h1 h2
          have := ok.tabs _ _ h2
          lia
      | false =>
        cases hb' : z' == x with
        | true =>
          rw [hb] at h1; rw [hb'] at h2
          simp only [Option.some.injEq] at h1 h2
          have := ok.tabs _ _ h1
          lia
        | false => rw [hb] at h1; rw [hb'] at h2; exact L.F.inj z z' i h1 h2
  · refine ⟨fun z hz => ?_, fun z hz => absurd hz (notcell z), fun z hz => ?_, fun z hz => ?_⟩
    · rw [kind, hz]; rfl
    · rw [kind, hz]
      simp only [Option.map_some]
      split
      · exact .inr rfl
      · exact .inl rfl
    · rw [kind, hz]; rfl
  · simp [hlen]

/-- one turn's tests and element -/
noncomputable def turnF (P : Prog) (Cs : Calls) (elt : Ex) (cond : Option Ex) (ρ : Fm) (XX : XE) : V → AH → (Option V → AH → Prop) → Prop := fun x H' K => match cond with
  | none => wpE P Cs elt (ρ ++ [some x]) H' (fun y H'' => K (some y) H'') XX
  | some q => wpE P Cs q (ρ ++ [some x]) H' (fun b H₂ => okB (truth b) fun t => if t then wpE P Cs elt (ρ ++ [some x]) H₂ (fun y H'' => K (some y) H'') XX else K none H₂) XX

theorem wpE_comp' {P : Prog} {Cs : Calls} {ρ : Fm} {H : AH} {Q : QE} {XX : XE} {mu : Bool} {elt it : Ex} {cond : Option Ex} : wpE P Cs (.comp mu elt it cond) ρ H Q XX = wpE P Cs it ρ H (fun v H₁ => ∃ items, srcQ P.q H₁ v = some items ∧ items.length ≤ sizeOf' ∧
      compL (turnF P Cs elt cond ρ XX) (fun H' => srcQ P.q H' v = some items) items [] H₁ (fun ys H₂ => okE (if mu then thaw (.lst ys) H₂ else some (.lst ys, H₂)) Q)) XX := by
  cases cond <;> rfl

theorem drop_cons {α : Type} {l : List α} {k : Nat} {x : α} (h : l[k]? = some x) : l.drop k = x :: l.drop (k + 1) := by
  obtain ⟨h1, h2⟩ := List.getElem?_eq_some_iff.mp h
  try clear h
  rw [List.drop_eq_getElem_cons h1, h2]

theorem ERes.nsC {as : Adr} {Y : List Addr} {h : HP} {XX : XE} {x : Value} {s' : Shared} (r : ERes c as Y h XX x s') (hC : ∃ m, h.Ns C m) (oc : some C ∉ as) : ∃ m, s'.heap.Ns C m := by
  obtain ⟨k, H', as', e, t, ts, _, e', S, k', ex, ht, ap, w⟩ := r
  obtain ⟨m, n⟩ := hC
  exact ⟨m, Ns.same n fun o e => k' _ o e oc⟩
theorem comp_loop {A : Around} {n : Nat} {x : Str} {px : Pos} {elt iter : Expr} {ifs : List Expr} {sc : Scope} {pos : Pos} {cl : List (Str × Addr)} {b : Ex} {cond : Option Ex} {XX : XE} {items : List V} {QQ : List V → AH → Prop} {R : Result → Shared → Prop}
    (W : Ls c env T.tab as₀ h₀ X I C D) (a : AOk c A n) (fr : EnvFr c A X as₀ h₀ env) (K : KOk T env) (hlen : ρ.length = T.n)
    (ok : CompF T x sc) (hcl : ∀ y a, cl.lookup y = some a → env.cells.lookup y = some a) (hcl' : ∀ y, sc.names.lookup y = some .free → cl.lookup y = env.cells.lookup y)
    (he : SE c n { T with names := sc.names, tab := (x, T.n) :: T.tab, n := T.n + 1 } elt b)
    (hc : (ifs = [] ∧ cond = none) ∨ ∃ t q, ifs = [t] ∧ cond = some q ∧ ST c n { T with names := sc.names, tab := (x, T.n) :: T.tab, n := T.n + 1 } t q)
    (hsz : items.length ≤ sizeOf')
    (L : Lp c T env as₀ h₀ X ρ I C D v y k acc arr s as H)
    (w : compL (turnF c.P (callF c.P n) b cond ρ XX) (fun H' => srcQ c.P.q H' v = some items) (items.drop k) acc H QQ) (hk : k ≤ items.length)
    (hR : ∀ k' acc' arr' s' as' H' tk h', Lp c T env as₀ h₀ X ρ I C D v y k' acc' arr' s' as' H' → k' ≤ items.length → But [I] s'.heap h' → QQ acc' H' → R (.ok .next) { s' with heap := h', toks := tk })
    (hX : ∀ x s', ERes c as₀ (I :: C :: D :: X) h₀ XX x s' → Trc x s'.heap → (∃ m, s'.heap.Ns C m) → R (.error x) s') :
    codeAny c.M A (.compLoop (.ListComp elt [⟨.Name x px, iter, ifs, 0⟩] sc pos) 0 (.ref I) (.ref D) (compEnvC sc cl C env)) R s := by
  refine codeAny_compLoop_tests (fun m s' => ∃ k acc arr as H, m = items.length - k ∧ k ≤ items.length ∧ Lp c T env as₀ h₀ X ρ I C D v y k acc arr s' as H ∧
    compL (turnF c.P (callF c.P n) b cond ρ XX) (fun H' => srcQ c.P.q H' v = some items) (items.drop k) acc H QQ) ?_ (items.length - k) ⟨k, acc, arr, as, H, rfl, hk, L, w⟩
  clear L w hk
  intro m s h0
  refine ea5_4 h0 ?_
  clear h0
  intro k acc arr as H q_0 hk L w
  subst q_0
  cases hx : items[k]? with
  | none =>
    have hkl : items.length = k := by
      have := List.getElem?_eq_none_iff.mp hx
      lia
    rw [List.drop_eq_nil_of_le (by (exact Nat.le_of_eq (by assumption)))] at w
    refine it_done (a.hand L.S w.1) L.S (by simp) L.hv L.hi (srcQ_is w.1).1 hkl fun h' tk hb => ?_
    exact hR k acc arr s as H tk h' L hk hb w.2
  | some u =>
    have hlt := (List.getElem?_eq_some_iff.mp hx).1
    rw [drop_cons hx] at w
    refine it_next (a.hand L.S w.1) L.S (by simp) W.bi L.hv L.hi (srcQ_is w.1).1 hx fun z h₁ tk₁ b₁ hu₁ hv₁ hi₁ S₁ => ?_
    have L₁ := L.next W b₁ hv₁ hi₁ S₁
    obtain ⟨m, hm⟩ := L₁.hC
    have hkx : (compEnvC sc cl C env).kindOf x = some .local := lookup_relabel_local ok.hx
    refine wpAny_assign_Name (wpAny_storeName_local hkx hm (fun h₂ hm₂ hs₂ => ?_) (by show (sc.kind == .class || (sc.kind == .module && _)) = false; rw [ok.kind]; rfl))
    have b₂ : But [C] h₁ h₂ := fun q o hq e => (hs₂.2 q (by simpa [compEnvC] using hq)).trans e
    have L₂ := L₁.store (tk := tk₁ + 1) W b₂ hm₂
    have hu₂ : VR c as (I :: C :: D :: X) h₂ u z := hu₁.keepX (b₂.vk as (by simp)) (.refl ..)
    have r₂ := L₂.rdy W a fr K hlen ok hcl hcl' hm₂ (by simp) hu₂
    have w2 := w.2
    have nt : ∀ x s', ERes c as₀ (I :: C :: D :: X) h₀ XX x s' → (∃ m, s'.heap.Ns C m) → notedBy c.M A (compEnvC sc cl C env) (fun e s' => R (.error e) s') x s' := fun x s' er ⟨m, hm⟩ => er.note (fun as' _ _ e k _ _ => ((fr.grow (.refl _) fun b => Nat.le_trans List.count_le_count_cons (Nat.le_trans List.count_le_count_cons List.count_le_count_cons)).keep e k).env rfl) fun s'' er' tr d => hX x s'' er' tr ⟨m, d.ns hm⟩
    -- behind the element
    have step : ∀ {s₃ : Shared} {as₃ : Adr} {H₃ : AH} {E' : Value → Shared → Prop}, (∀ x s', ERes c as₀ (I :: C :: D :: X) h₀ XX x s' → (∃ m, s'.heap.Ns C m) → E' x s') → Lp c T env as₀ h₀ X ρ I C D v y (k + 1) acc arr s₃ as₃ H₃ → Rdy c { T with names := sc.names, tab := (x, T.n) :: T.tab, n := T.n + 1 } (compEnvC sc cl C env) A n s₃ as₃ (I :: C :: D :: X) H₃ (ρ ++ [some u]) →
        wpE c.P (callF c.P n) b (ρ ++ [some u]) H₃ (fun y H'' => compL (turnF c.P (callF c.P n) b cond ρ XX) (fun H' => srcQ c.P.q H' v = some items) (items.drop (k + 1)) (acc ++ [y]) H'' QQ) XX →
        wpAny c.M A (eval elt (compEnvC sc cl C env)) (fun x s₄ =>
              wpAny c.M A (call (.builtin "list.append") [.ref D, x]) (fun _ s₅ => ∃ m, m < items.length - k ∧ ∃ k acc arr as H, m = items.length - k ∧ k ≤ items.length ∧ Lp c T env as₀ h₀ X ρ I C D v y k acc arr s₅ as H ∧
                compL (turnF c.P (callF c.P n) b cond ρ XX) (fun H' => srcQ c.P.q H' v = some items) (items.drop k) acc H QQ) E' s₄) E' s₃ := by
      intro s₃ as₃ H₃ E' hE L₃ r₃ w₃
      refine wpAny_mono (he.run r₃ w₃) (fun zc s₄ r => ?_) fun _ _ e => hE _ _ (e.lift L₃.E L₃.K) (e.nsC L₃.hC L₃.oc)
      obtain ⟨zv, H₄, as₄, e₄, S₄, k₄, hz₄, w₄⟩ := r
      have L₄ := L₃.eval e₄ k₄ S₄
      have hsl : arr.size ≤ sizeLine := by
        have h1 := L₄.hacc.length
        have h2 := L₄.hl
        have h3 := sizeOf'_le
        have h5 : arr.toList.length = arr.size := Array.length_toList
        have h4 := L.hl
        rw [h5] at h1
        rw [← h1]
        lia
      refine wpAny_list_append_plain (hsz := hsl) L₄.hD fun h₅ hp₅ hs₅ => ?_
      have b₅ : But [D] s₄.heap h₅ := fun q o hq e => (hs₅.2 q (by simpa using hq)).trans e
      exact ⟨items.length - (k + 1), by lia, k + 1, _, _, as₄, H₄, rfl, by lia, L₄.push W b₅ hp₅ hz₄ (by have := L.hl; (exact Nat.succ_le_succ (by assumption))), w₄⟩
    rcases hc with ⟨rfl, rfl⟩ | ⟨t, q, rfl, rfl, ht⟩
    · refine wpAny_tests_nil ?_
      simp only [if_true]
      exact step nt L₂ r₂ w2
    · refine wpAny_tests_one (wpAny_mono (ht.run (Q := fun t H₂ => if t then wpE c.P (callF c.P n) b (ρ ++ [some u]) H₂ (fun y H'' => compL (turnF c.P (callF c.P n) b (some q) ρ XX) (fun H' => srcQ c.P.q H' v = some items) (items.drop (k + 1)) (acc ++ [y]) H'' QQ) XX
        else compL (turnF c.P (callF c.P n) b (some q) ρ XX) (fun H' => srcQ c.P.q H' v = some items) (items.drop (k + 1)) acc H₂ QQ) (fun _ _ q => q) r₂ w2) (fun bb s₃ r => ?_) fun _ _ e => nt _ _ (e.lift L₂.E L₂.K) (e.nsC L₂.hC L₂.oc))
      obtain ⟨H₃, as₃, e₃, S₃, k₃, w₃⟩ := r
      have L₃ := L₂.eval e₃ k₃ S₃
      cases bb with
      | true =>
        simp only [if_true] at w₃ ⊢
        exact step nt L₃ (r₂.next e₃ k₃ S₃) w₃
      | false =>
        simp only [Bool.false_eq_true, if_false] at w₃ ⊢
        exact ⟨items.length - (k + 1), by lia, k + 1, _, _, as₃, H₃, rfl, by lia, L₃, w₃⟩
end

theorem SR.opens {c : Cx} {as : Adr} {X Y : List Addr} {H : AH} {s s' : Shared} (x : SR c as X H s) (g : Grown s.heap s'.heap) (hX : ∀ b ∈ Y, b ∈ X ∨ s.heap.get? b = none) (hx : ∀ b ∈ Y, ∃ o, s'.heap.get? b = some o) (hg : s'.gens = s.gens) (ho : s'.os = s.os) : SR c as Y H s' where
  len := x.len
  stays := fun b o e => g b o (x.stays b o e)
  gens := hg.trans x.gens
  os := ho.trans x.os
  objs := fun i a e => by
    refine ea0_3 (x.objs i a e) ?_
    intro h1 h2 r_3
    refine ea1_2 r_3 ?_
    try clear r_3
    intro o h3 h4
    obtain ⟨ob, hob⟩ := h4.here
    have hy : ∀ b o, s.heap.get? b = some o → b ∉ X → b ∉ Y := fun b o e hb q => by
      rcases hX b q with r | r
      · exact hb r
      · rw [r] at e; cases e
    exact ⟨h1, hy _ _ hob h2, o, h3, (h4.frames hy).keepX (g.kept as Y).x fun ob e => g _ _ e⟩
  inj := x.inj
  dead := x.dead
  xs := hx
theorem FR.opens {c : Cx} {as : Adr} {X Y : List Addr} {h h' : HP} {env : Env} {tab : List (Str × Nat)} {ρ : Fm} (F : FR c as X h env tab ρ) (g : Grown h h') (hXY : ∀ b ∈ X, b ∈ Y) (hX : ∀ b ∈ Y, b ∈ X ∨ h.get? b = none) : FR c as Y h' env tab ρ :=
  (F.frames hXY fun b o e hb q => by
    rcases hX b q with r | r
    · exact hb r
    · rw [r] at e; cases e).keep (g.kept as Y) (.refl ..)
theorem VR.opens {c : Cx} {as : Adr} {X Y : List Addr} {h h' : HP} {v : V} {y : Value} (F : VR c as X h v y) (g : Grown h h') (hX : ∀ b ∈ Y, b ∈ X ∨ h.get? b = Option.none) : VR c as Y h' v y :=
  (F.frames fun b o e hb q => by
    rcases hX b q with r | r
    · exact hb r
    · rw [r] at e; cases e).grow g

theorem adopt_k {as : Adr} {X Y : List Addr} {a : Addr} {h : HP} (ha : a ∈ X) (hY : ∀ b ∈ Y, b ∈ X) : ∀ b (o : Obj), some b ∉ as → b ∉ X → h.get? b = some o → some b ∉ as ++ [some a] ∧ b ∉ Y ∧ h.get? b = some o := fun b o h1 h2 h3 =>
  ⟨by simp only [List.mem_append, List.mem_singleton, Option.some.injEq, not_or]; exact ⟨h1, fun q => h2 (q ▸ ha)⟩, fun q => h2 (hY _ q), h3⟩
theorem adopt_r {as : Adr} {a : Addr} : ∀ (i : Nat) (x : Option Addr), as[i]? = some x → (as ++ [some a])[i]? = some x ∨ (as ++ [some a])[i]? = some none := fun i x e => .inl (by rw [List.getElem?_append_left (List.getElem?_eq_some_iff.mp e).1]; exact e)
/-- an address that no value has becomes an object's -/
theorem VR.adopt {c : Cx} {as : Adr} {X Y : List Addr} {h : HP} {a : Addr} (ha : a ∈ X) (hY : ∀ b ∈ Y, b ∈ X) {v : V} {y : Value} (r : VR c as X h v y) : VR c (as ++ [some a]) Y h v y := VR.gen (adopt_k ha hY) adopt_r r
theorem VRs.adopt {c : Cx} {as : Adr} {X Y : List Addr} {h : HP} {a : Addr} (ha : a ∈ X) (hY : ∀ b ∈ Y, b ∈ X) {v : List V} {y : List Value} (r : VRs c as X h v y) : VRs c (as ++ [some a]) Y h v y := VRs.gen (adopt_k ha hY) adopt_r r
theorem OR.adopt {c : Cx} {as : Adr} {X Y : List Addr} {h : HP} {a b : Addr} {o : O} (ha : a ∈ X) (hY : ∀ b ∈ Y, b ∈ X) (x : OR c as X h b o) : OR c (as ++ [some a]) Y h b o := by
  cases o with
  | list vs => obtain ⟨hb, items, hp, r⟩ := x; exact ⟨hb, items, hp, r.adopt ha hY⟩
  | dict ks vs => obtain ⟨hb, hsm, cs, hd, hl, r⟩ := x; exact ⟨hb, hsm, cs, hd, hl, r.adopt ha hY⟩
  | inst k d => obtain ⟨dx, ob, e1, r0, r1, r2, r3⟩ := x; exact ⟨dx, ob, by rw [List.getElem?_append_left (List.getElem?_eq_some_iff.mp e1).1]; exact e1, r0, r1, r2, r3⟩
  | ns ks vs => obtain ⟨hb, cs, mA, hn, hl, r, hm⟩ := x; exact ⟨hb, cs, mA, hn, hl, r.adopt ha hY, hm⟩
  | dead => exact x.elim
theorem SR.adopt {c : Cx} {as : Adr} {X Y : List Addr} {H : AH} {s : Shared} {a : Addr} {o : O} (S : SR c as X H s) (ha : a ∈ X) (hb : c.base.get? a = none) (hY : ∀ b ∈ Y, b ∈ X) (haY : a ∉ Y) (ho : OR c (as ++ [some a]) Y s.heap a o) : SR c (as ++ [some a]) Y (H ++ [o]) s where
  len := by simp [S.len]
  stays := S.stays
  gens := S.gens
  os := S.os
  objs := fun i b e => by
    by_cases hi : i < as.length
    · rw [List.getElem?_append_left hi] at e
      refine ea0_3 (S.objs i b e) ?_
      intro h1 h2 r_3
      refine ea1_2 r_3 ?_
      try clear r_3
      intro ob h3 h4
      exact ⟨h1, fun q => h2 (hY _ q), ob, by rw [List.getElem?_append_left (S.len ▸ hi)]; exact h3, h4.adopt ha hY⟩
    · have hi' : i = as.length := by
        have := (List.getElem?_eq_some_iff.mp e).1
        simp at this
        lia
      subst hi'
      simp at e
      subst e
      exact ⟨hb, haY, o, by rw [S.len]; simp, ho⟩
  inj := fun i j b e1 e2 => by
    have hne : ∀ i, i < as.length → as[i]? = some (some a) → False := fun i _ e => by
      refine ea0_3 (S.objs i a e) ?_
      intro _ h2 _
      exact h2 ha
    have hlt : ∀ i, (as ++ [some a])[i]? = some (some b) → i < as.length ∨ (i = as.length ∧ b = a) := fun i e => by
      by_cases hi : i < as.length
      · exact .inl hi
      · have := (List.getElem?_eq_some_iff.mp e).1
        simp at this
        have hi' : i = as.length := by lia
        subst hi'
        simp at e
        exact .inr ⟨rfl, e.symm⟩
    rcases hlt i e1 with h1 | ⟨h1, rfl⟩
    · rw [List.getElem?_append_left h1] at e1
      rcases hlt j e2 with h2 | ⟨h2, rfl⟩
      · rw [List.getElem?_append_left h2] at e2; exact S.inj i j b e1 e2
      · exact (hne i h1 e1).elim
    · rcases hlt j e2 with h2 | ⟨h2, _⟩
      · rw [List.getElem?_append_left h2] at e2; exact (hne j h2 e2).elim
      · lia
  dead := fun i e => by
    by_cases hi : i < as.length
    · rw [List.getElem?_append_left hi] at e
      rw [List.getElem?_append_left (S.len ▸ hi)]
      exact S.dead i e
    · have := (List.getElem?_eq_some_iff.mp e).1
      simp at this
      have hi' : i = as.length := by lia
      subst hi'
      simp at e
  xs := fun b hb => S.xs b (hY b hb)

theorem OVR.adopt {c : Cx} {as : Adr} {X Y : List Addr} {h : HP} {a : Addr} {o : Option V} {y : Option Value} (ha : a ∈ X) (hY : ∀ b ∈ Y, b ∈ X) (z : OVR c as X h o y) : OVR c (as ++ [some a]) Y h o y :=
  fun v e => let ⟨q, e1, e2⟩ := z v e; ⟨q, e1, e2.adopt ha hY⟩
theorem FR.narrow {c : Cx} {as : Adr} {X Y Z : List Addr} {h : HP} {env : Env} {tab : List (Str × Nat)} {ρ : Fm} (F : FR c as X h env tab ρ) (hY : ∀ b ∈ Y, b ∈ X) (hZ : ∀ b ∈ X, b ∈ Y ∨ b ∈ Z) (aw : Away Z env tab) : FR c as Y h env tab ρ where
  kind := F.kind
  glob := F.glob
  bi := F.bi
  lx := (hZ _ F.lx).resolve_right aw.1
  lout := F.lout
  lb := F.lb
  ns := by
    refine ea1_2 F.ns ?_
    intro m n r
    try clear F
    exact ⟨m, n, fun y i h1 h2 => (r y i h1 h2).frames fun b _ _ hb q => hb (hY _ q)⟩
  cells := fun y i h1 h2 => by
    refine ea2_7 (F.cells y i h1 h2) ?_
    intro a z e1 e2 e3 e4 e5 e6 e7
    try clear F
    exact ⟨a, z, e1, (hZ _ e2).resolve_right (aw.2 y i h1 h2 a e1), e3, e4, e5, e6, e7.frames fun b _ _ hb q => hb (hY _ q)⟩
  apart := F.apart
  inj := F.inj
theorem FR.adopt {c : Cx} {as : Adr} {X Y Z : List Addr} {h : HP} {a : Addr} {env : Env} {tab : List (Str × Nat)} {ρ : Fm} (F : FR c as X h env tab ρ) (ha : a ∈ X) (hY : ∀ b ∈ Y, b ∈ X) (hZ : ∀ b ∈ X, b ∈ Y ∨ b ∈ Z) (aw : Away Z env tab) (haZ : a ∈ Z) : FR c (as ++ [some a]) Y h env tab ρ where
  kind := F.kind
  glob := F.glob
  bi := F.bi
  lx := (hZ _ F.lx).resolve_right aw.1
  lout := by simp only [List.mem_append, List.mem_singleton, Option.some.injEq, not_or]; exact ⟨F.lout, fun q => aw.1 (q ▸ haZ)⟩
  lb := F.lb
  ns := by
    refine ea1_2 F.ns ?_
    intro m n r
    try clear F
    exact ⟨m, n, fun y i h1 h2 => (r y i h1 h2).adopt ha hY⟩
  cells := fun y i h1 h2 => by
    refine ea2_7 (F.cells y i h1 h2) ?_
    intro a' z e1 e2 e3 e4 e5 e6 e7
    try clear F
    have hz := aw.2 y i h1 h2 a' e1
    exact ⟨a', z, e1, (hZ _ e2).resolve_right hz, by simp only [List.mem_append, List.mem_singleton, Option.some.injEq, not_or]; exact ⟨e3, fun q => hz (q ▸ haZ)⟩, e4, e5, e6, e7.adopt ha hY⟩
  apart := F.apart
  inj := F.inj

theorem it_self {prog : Program} {w : World} {A : Around} {E : Value → Shared → Prop} {s : Shared} {I : Addr} {v : V} {y : Value} {k : Nat} {Q : Value → Shared → Prop} (hi : ItC s.heap I v y k) (h : Q (.ref I) s) : wpAny (model prog w) A (pyIter (.ref I)) Q E s := by
  cases v <;> try exact hi.elim
  · obtain ⟨x, t, _, h1 | h1⟩ := hi
    · exact wpAny_pyIter_striter_ascii h1 h
    · exact wpAny_pyIter_striter_wide h1 h
  · refine ea1_2 hi ?_
    try clear hi
    intro a _ h1
    exact wpAny_pyIter_tupleiter h1 h
    try clear hi; try clear h
  · refine ea1_2 hi ?_
    try clear hi
    intro a _ h1
    exact wpAny_pyIter_listiter h1 h
    try clear hi; try clear h
  · exact wpAny_pyIter_rangeiter hi h
  · refine ea1_2 hi ?_
    try clear hi
    intro a _ h1
    exact wpAny_pyIter_listiter h1 h
    try clear hi; try clear h

/-- a value, with the comprehension's own names still there -/
noncomputable def ResC (c : Cx) (as : Adr) (X : List Addr) (h : HP) (env : Env) (tab : List (Str × Nat)) (ρ : Fm) (C : Addr) (Q : QE) (x : Value) (s' : Shared) : Prop :=
  ∃ v H' as', Ext as h as' ∧ SR c as' (C :: X) H' s' ∧ Kept as X h s'.heap ∧ VR c as' (C :: X) s'.heap v x ∧ Q v H' ∧ FR c as' (C :: X) s'.heap env tab ρ

theorem Res.drop {c : Cx} {as : Adr} {X : List Addr} {h : HP} {C : Addr} {Q : QE} {x : Value} {s' : Shared} {h' : HP} (r : Res c as (C :: X) h Q x s') (hC : Fr as h C) (hb : c.base.get? C = none) (hX : C ∉ X) (hs : Heap.SameBut C s'.heap h') : Res c as X h Q x { s' with heap := h' } := by
  obtain ⟨v, H', as', e, S, k, hv, q⟩ := r
  have b : But [C] s'.heap h' := fun q o hq e => (hs.2 q (by simpa using hq)).trans e
  exact ⟨v, H', as', e, S.but (s' := { s' with heap := h' }) b (by simpa using hb) (fun _ q => .tail _ q) (fun a ha hz => by simp at hz; subst hz; exact (hX ha).elim) rfl rfl, (k.but b (by simpa using hC)).less (fun a ha => (cnt1 ha).elim (fun q => .inr (q ▸ hC)) .inl),
    (hv.keepX (b.vk as' (by simp)) (.refl ..)).frames fun b _ _ hb q => hb (.tail _ q), q⟩

section
variable {c : Cx} {T : Tb} {env : Env} {X : List Addr} {ρ : Fm} {s : Shared} {as : Adr} {H : AH} {E : Value → Shared → Prop}

theorem comp_block {A : Around} {n : Nat} {x : Str} {px : Pos} {elt iter : Expr} {ifs : List Expr} {sc : Scope} {pos : Pos} {cl : List (Str × Addr)} {b : Ex} {cond : Option Ex} {XX : XE} {mu : Bool} {Q : QE} {RR : Value → Addr → Result → Shared → Prop}
    {v : V} {y : Value} {s₁ : Shared} {as₁ : Adr} {H₁ : AH}
    (R : Rdy c T env A n s as X H ρ)
    (ok : CompF T x sc) (hcl : ∀ y a, cl.lookup y = some a → env.cells.lookup y = some a) (hcl' : ∀ y, sc.names.lookup y = some .free → cl.lookup y = env.cells.lookup y)
    (he : SE c n { T with names := sc.names, tab := (x, T.n) :: T.tab, n := T.n + 1 } elt b)
    (hc : (ifs = [] ∧ cond = none) ∨ ∃ t q, ifs = [t] ∧ cond = some q ∧ ST c n { T with names := sc.names, tab := (x, T.n) :: T.tab, n := T.n + 1 } t q)
    (e1 : Ext as s.heap as₁) (k1 : Kept as X s.heap s₁.heap) (S1 : SR c as₁ X H₁ s₁) (hv : VR c as₁ X s₁.heap v y)
    (w : ∃ items, srcQ c.P.q H₁ v = some items ∧ items.length ≤ sizeOf' ∧ compL (turnF c.P (callF c.P n) b cond ρ XX) (fun H' => srcQ c.P.q H' v = some items) items [] H₁ (fun ys H₂ => okE (if mu then thaw (.lst ys) H₂ else some (.lst ys, H₂)) Q))
    (hRR : ∀ D C s', Fr as s.heap C → C ∉ X → c.base.get? C = none → (∃ m, s'.heap.Ns C m) → ResC c as X s.heap env T.tab ρ C Q (.ref D) s' → RR (.ref D) C (.ok .next) s')
    (hRX : ∀ D C x s', Fr as s.heap C → C ∉ X → c.base.get? C = none → (∃ m, s'.heap.Ns C m) → ERes c as (C :: X) s.heap XX x s' → Trc x s'.heap → RR (.ref D) C (.error x) s') :
    wpAny c.M A (pyIter y) (fun it s₂ => wpAny c.M A (newList []) (fun acc s₃ => wpAny c.M A (newFunctionEnv sc env.globals cl [] env.qual none .none (some env)) (fun cenv s₄ =>
      codeAny c.M A (.compStart (.ListComp elt [⟨.Name x px, iter, ifs, 0⟩] sc pos) 0 it acc { cenv with scope := relabel sc env }) (RR acc cenv.locals) s₄) E s₃) E s₂) E s₁ := by
  refine ea1_3 w ?_
  try clear w
  intro items hsrc hsz w
  refine it_start S1 hv (srcQ_is hsrc).1 fun o hi => ?_
  refine wpAny_newObj_type (wpAny_newFunctionEnv ok.nocell (by intro y hy; simp at hy) (fun h₁ hns₁ hsb₁ => ?_) ok.kind)
  dsimp only at hns₁ hsb₁ ⊢
  generalize hI : s₁.heap.objs.size = I at hi ⊢
  have hfI : s₁.heap.get? I = none := hI ▸ get_fresh _
  generalize hH1 : s₁.heap.push o = G1 at hi hns₁ hsb₁ ⊢
  have gI : Grown s₁.heap G1 := hH1 ▸ .push _ _
  generalize hD : G1.objs.size = D at hns₁ hsb₁ ⊢
  have hfD : G1.get? D = none := hD ▸ get_fresh _
  generalize hH2 : G1.push { cls := .type "list", dict := none, data := .seq ([] : List Value).toArray } = G2 at hns₁ hsb₁ ⊢
  have gD : Grown G1 G2 := hH2 ▸ .push _ _
  have hlD : G2.get? D = some { cls := .type "list", dict := none, data := .seq ([] : List Value).toArray } := by rw [← hH2, ← hD]; exact Heap.get?_push_size _ rfl
  generalize hC : G2.objs.size = C at hns₁ hsb₁ ⊢
  have hfC : G2.get? C = none := hC ▸ get_fresh _
  have g3 : Grown G2 h₁ := fun q o e => hsb₁.extBut q o (fun h => by subst h; rw [hfC] at e; cases e) (Heap.get?_push_of_some _ e)
  have nI : G1.get? I ≠ none := by obtain ⟨o, e, _⟩ := hi.here; rw [e]; simp
  have hID : I ≠ D := fun h => nI (h ▸ hfD)
  have hIC : I ≠ C := fun h => by
    refine ea1_2 hi.here ?_
    intro o e _
    rw [h] at e
    rw [gD _ _ e] at hfC; cases hfC
  have hCD : C ≠ D := fun h => by rw [h, hlD] at hfC; cases hfC
  have hf1 : ∀ q, G1.get? q = none → s₁.heap.get? q = none := fun q e => by
    cases hq : s₁.heap.get? q with
    | none => rfl
    | some o => rw [gI _ _ hq] at e; cases e
  have hf2 : ∀ q, G2.get? q = none → s₁.heap.get? q = none := fun q e => hf1 q (by
    cases hq : G1.get? q with
    | none => rfl
    | some o => rw [gD _ _ hq] at e; cases e)
  have fC : s₁.heap.get? C = none := hf2 _ hfC
  have fD : s₁.heap.get? D = none := hf1 _ hfD
  have g13 : Grown s₁.heap h₁ := (gI.trans gD).trans g3
  have hX' : ∀ b ∈ I :: C :: D :: X, b ∈ X ∨ s₁.heap.get? b = none := fun b hb => by
    simp only [List.mem_cons] at hb
    rcases hb with rfl | rfl | rfl | hb
    · exact .inr hfI
    · exact .inr fC
    · exact .inr fD
    · exact .inl hb
  have F1 := R.F.keep k1 e1
  have aw : Away [I, C, D] env T.tab := F1.away fun b hb => by
    simp only [List.mem_cons, List.not_mem_nil, or_false] at hb
    rcases hb with rfl | rfl | rfl
    · exact S1.not_x hfI
    · exact S1.not_x fC
    · exact S1.not_x fD
  have W : Ls c env T.tab as s.heap X I C D := ⟨hIC, hID, hCD, S1.base_none hfI, S1.base_none fC, S1.base_none fD, k1.fr hfI, k1.fr fC, k1.fr fD, S1.not_x fD, S1.not_x fC, aw⟩
  have L : Lp c T env as s.heap X ρ I C D v y 0 [] #[] { s₁ with heap := h₁, toks := s₁.toks + ([] : List (Str × Value)).length } as₁ H₁ := by
    refine ⟨S1.opens (s' := { s₁ with heap := h₁, toks := s₁.toks + ([] : List (Str × Value)).length }) g13 hX' (fun b hb => ?_) rfl rfl, F1.opens g13 (fun b hb => by simp [hb]) hX', hv.opens g13 hX', hi.at fun o e _ => g3 _ _ (gD _ _ e), ⟨_, g3 _ _ hlD⟩, .nil, by simp, ⟨_, hns₁⟩, S1.not_as hfI, S1.not_as fC, S1.not_as fD, e1, (k1.more fun b => Nat.le_trans List.count_le_count_cons (Nat.le_trans List.count_le_count_cons List.count_le_count_cons)).trans e1 (g13.kept as₁ _)⟩
    simp only [List.mem_cons] at hb
    rcases hb with rfl | rfl | rfl | hb
    · refine ea1_2 hi.here ?_
      intro o e _
      exact ⟨o, g3 _ _ (gD _ _ e)⟩
    · refine ea3_2 hns₁ ?_
      try clear hns₁
      intro o _ _ e _
      exact ⟨o, e⟩
    · exact ⟨_, g3 _ _ hlD⟩
    · obtain ⟨o, e⟩ := S1.xs b hb; exact ⟨o, g13 _ _ e⟩
  have loop : codeAny c.M A (.compLoop (.ListComp elt [⟨.Name x px, iter, ifs, 0⟩] sc pos) 0 (.ref I) (.ref D) (compEnvC sc cl C env)) (RR (.ref D) C) { s₁ with heap := h₁, toks := s₁.toks + ([] : List (Str × Value)).length } := by
    refine comp_loop W R.a R.fr R.K R.len ok hcl hcl' he hc hsz L w (Nat.zero_le _) (fun k' acc' arr' s' as' H' tk h' L' hk' bI q => ?_) fun x s' er tr hm => hRX D C x s' W.hc W.cx W.bc hm (er.less (fun b hb => ?_) fun b hb => ?_) tr
    rotate_left
    · rcases List.mem_cons.mp hb with rfl | hb
      · exact .tail _ (.head _)
      · exact .tail _ (.tail _ (.tail _ hb))
    · rcases cnt1 hb with rfl | hb
      · exact .inr W.hi
      rcases cnt1 hb with rfl | hb
      · exact .inr W.hc
      rcases cnt1 hb with rfl | hb
      · exact .inr W.hd
      · exact .inl (Nat.le_trans hb List.count_le_count_cons)
    have hCI : ∃ m, h'.Ns C m := by obtain ⟨m, q⟩ := L'.hC; exact ⟨m, Ns.same (X := []) q fun o e => ⟨o, bI _ _ (by simpa using Ne.symm hIC) e, .inl rfl⟩⟩
    refine hRR D C _ W.hc W.cx W.bc hCI ?_
    refine ea0_3 (L'.but (s' := { s' with heap := h', toks := tk }) W bI (by simp)) ?_
    intro b1 b2 b3
    have hpD : h'.PlainList D arr' := by obtain ⟨n, q⟩ := L'.hD; exact ⟨n, bI _ _ (by simpa using Ne.symm hID) q⟩
    have hbn : acc'.length ≤ bnd := by
      have h1 := L'.hl
      have h2 := sizeOf'_bnd
      lia
    have hacc := L'.hacc.keepX b1 (.refl ..)
    have hDC : D ∉ C :: X := by simp only [List.mem_cons, not_or]; exact ⟨Ne.symm hCD, W.dx⟩
    have hsub : ∀ b ∈ C :: X, b ∈ I :: C :: D :: X := fun b hb => by
      simp only [List.mem_cons] at hb ⊢
      rcases hb with rfl | hb
      · exact .inr (.inl rfl)
      · exact .inr (.inr (.inr hb))
    have hZ : ∀ b ∈ I :: C :: D :: X, b ∈ C :: X ∨ b ∈ [I, C, D] := fun b hb => by
      simp only [List.mem_cons] at hb ⊢
      rcases hb with rfl | rfl | rfl | hb
      · simp
      · simp
      · simp
      · simp [hb]
    have hsub' : ∀ b ∈ C :: X, b ∈ C :: D :: X := fun b hb => by
      simp only [List.mem_cons] at hb ⊢
      rcases hb with rfl | hb
      · exact .inl rfl
      · exact .inr (.inr hb)
    have hZ' : ∀ b ∈ C :: D :: X, b ∈ C :: X ∨ b ∈ [I, C, D] := fun b hb => hZ b (.tail _ hb)
    -- without the iterator
    have S3 : SR c as' (C :: D :: X) H' { s' with heap := h', toks := tk } := L'.S.but (s' := { s' with heap := h', toks := tk }) bI (by simpa using W.bi) (fun b hb => .tail _ hb) (fun b hb hz => by
      simp only [List.mem_singleton] at hz
      subst hz
      have : b ∈ C :: D :: X := hb
      simp only [List.mem_cons] at this
      rcases this with h | h | h
      · exact (hIC h).elim
      · exact (hID h).elim
      · exact (S1.not_x hfI h).elim) rfl rfl
    have F3 : FR c as' (C :: D :: X) h' env T.tab ρ := b2.narrow (Z := [I, C, D]) (fun b hb => .tail _ hb) (fun b hb => by
      cases hb with
      | head => exact .inr (by simp)
      | tail _ hb => exact .inl hb) aw
    have hacc3 : VRs c as' (C :: D :: X) h' acc' arr'.toList := hacc.frames fun b _ _ hb q => hb (.tail _ q)
    have b3' := b3.less (X := X) fun a ha => by
      rcases cnt1 ha with rfl | ha
      · exact .inr W.hi
      rcases cnt1 ha with rfl | ha
      · exact .inr W.hc
      rcases cnt1 ha with rfl | ha
      · exact .inr W.hd
      · exact .inl ha
    cases mu with
    | false =>
      refine ⟨.lst acc', H', as', L'.E, S3.turn (s' := { s' with heap := h', toks := tk }) (fun b o e _ _ => e) S3.stays hsub' (fun b hb => S3.xs b (hsub' b hb)) rfl rfl, b3', ?_, q, F3.narrow hsub' hZ' aw⟩
      exact .lst L'.od hDC hpD (hacc3.frames fun b _ _ hb q => hb (hsub' b q)) hbn
    | true =>
      have hDin : D ∈ C :: D :: X := by simp
      have q' : Q (.ref H'.length) (H' ++ [.list acc']) := q
      refine ⟨.ref H'.length, H' ++ [.list acc'], as' ++ [some D], ⟨fun i z e => ?_, fun z hz => ?_⟩, S3.adopt (o := .list acc') hDin W.bd hsub' hDC ⟨hbn, arr', hpD, hacc3.adopt hDin hsub'⟩, b3', .ref ?_, q', F3.adopt hDin hsub' hZ' aw (by simp)⟩
      · rcases L'.E.old i z e with r | r
        · exact .inl (by rw [List.getElem?_append_left (List.getElem?_eq_some_iff.mp r).1]; exact r)
        · exact .inr (by rw [List.getElem?_append_left (List.getElem?_eq_some_iff.mp r).1]; exact r)
      · rcases List.mem_append.mp hz with r | r
        · exact L'.E.new z r
        · simp only [List.mem_singleton, Option.some.injEq] at r
          subst r
          exact W.hd
      · rw [← S3.len]; simp
  exact codeAny_compStart_list loop (it_self L.hi loop)

noncomputable def NSet (e : Expr) : Prop := ∀ a k p, e ≠ .Set a k p
theorem folded_ns {e : Expr} (h : NSet e) (env : Env) (x : Value) : foldedSetIterable e env x = pure x := by
  try clear x; try clear env
  cases e with
  | Set a k p => exact absurd rfl (h a k p)
  | _ => rfl

theorem ResC.drop {C : Addr} {Q : QE} {x : Value} {s' : Shared} {h' : HP} (r : ResC c as X s.heap env T.tab ρ C Q x s') (hC : Fr as s.heap C) (hb : c.base.get? C = none) (hX : C ∉ X) (hs : Heap.SameBut C s'.heap h') : Res c as X s.heap Q x { s' with heap := h' } := by
  refine ea3_6 r ?_
  try clear r
  intro v H' as' e S k hv q _
  exact Res.drop ⟨v, H', as', e, S, k.more (fun _ => List.count_le_count_cons), hv, q⟩ hC hb hX hs

theorem free_cells {sc : Scope} {x : Str} (F : FR c as X s.heap env T.tab ρ) (K : KOk T env) (ok : CompF T x sc) : ∀ y, sc.names.lookup y = some .free → ∃ a, env.cells.lookup y = some a := fun y hy => by
  refine ea0_3 (ok.free y hy) ?_
  intro h3 p_2 h5
  obtain ⟨j, h4⟩ := p_2
  have hek : env.kindOf y = some .cell ∨ env.kindOf y = some .free := by
    try clear F; try clear ok
    rcases h3 with h3 | h3
    · exact .inl (K.cell y h3)
    · rcases K.free y h3 with q | q
      · exact .inr q
      · exact .inl q
  refine ea2_2 (F.cells y j h4 hek) ?_
  intro a _ e1 _
  try clear F
  exact ⟨a, e1⟩

theorem ERes.drop {C : Addr} {XX : XE} {x : Value} {s' : Shared} {h' : HP} (r : ERes c as (C :: X) s.heap XX x s') (tr : Trc x s'.heap) (hC : Fr as s.heap C) (hb : c.base.get? C = none) (hX : C ∉ X) (hs : Heap.SameBut C s'.heap h') : ERes c as X s.heap XX x { s' with heap := h' } ∧ Trc x h' := by
  obtain ⟨k, H', as', e, t, ts, rfl, e', S, k', ex, ht, ap, w⟩ := r
  refine ea3_2 tr ?_
  try clear tr
  intro e₁ T cls he ex₁
  try clear cls; try clear e₁; try clear r; try clear tr
  cases he
  have b : But [C] s'.heap h' := fun q o hq e => (hs.2 q (by simpa using hq)).trans e
  have hne : ∀ a ∈ e :: ts, a ≠ C := fun a ha q => (ap a ha).2.2.1 (q ▸ .head _)
  have kE : ∀ {t : Option Addr}, (∀ T, t = some T → T ∈ ts) → ∀ a ∈ e :: t.toList, ∀ o, s'.heap.get? a = some o → h'.get? a = some o := fun {t} ht a ha o q => b a o (by
    rw [List.mem_singleton]
    try clear b; try clear ex₁; try clear he; try clear T; try clear w; try clear ap; try clear ex; try clear k'; try clear S; try clear e'; try clear ts; try clear t; try clear e; try clear as'; try clear H'; try clear k; try clear hb; try clear hX; try clear hC; try clear hs
    rcases List.mem_cons.mp ha with rfl | ha
    · exact hne _ (.head _)
    · exact hne _ (.tail _ (ht a (Option.mem_toList.mp ha)))) q
  have hY : ∀ a ∈ e :: (ts ++ X), a ≠ C := fun a ha => by
    try clear ht
    rcases List.mem_cons.mp ha with rfl | ha
    · exact hne _ (.head _)
    · rcases List.mem_append.mp ha with ha | ha
      · exact hne _ (.tail _ ha)
      · exact fun q => hX (q ▸ ha)
  try clear hne
  replace ex₁ := ex.uniq ex₁
  obtain rfl := ex₁
  refine ⟨⟨k, H', as', e, some T, ts, rfl, e', S.but (s' := { s' with heap := h' }) b (fun a ha => ?_) (fun a ha => ?_) (fun a ha hz => absurd (List.mem_singleton.mp hz) (hY a ha)) rfl rfl, (k'.but b (by simpa using hC)).less (fun a ha => (cnt1 ha).elim (fun q => .inr (q ▸ hC)) .inl), ex.keep (kE ht), ht, fun a ha => ⟨(ap a ha).1, (ap a ha).2.1, fun q => (ap a ha).2.2.1 (.tail _ q), (ap a ha).2.2.2⟩, w⟩, e, T, _, rfl, ex.keep (kE ht)⟩
  · cases List.mem_singleton.mp ha
    exact ⟨.tail _ (List.mem_append_right _ (.head _)), hb⟩
  · rcases List.mem_cons.mp ha with rfl | ha
    · exact .head _
    · rcases List.mem_append.mp ha with ha | ha
      · exact .tail _ (List.mem_append_left _ ha)
      · exact .tail _ (List.mem_append_right _ (.tail _ ha))
theorem err_post {A : Around} {C : Addr} {XX : XE} {x acc : Value} {s' : Shared} {use : Option (Value → Sem Unit)} {Qf : Value → Shared → Prop} (hC : Fr as s.heap C) (hX : C ∉ X) (hb : c.base.get? C = none) (hm : ∃ m, s'.heap.Ns C m) (r : ERes c as (C :: X) s.heap XX x s') (tr : Trc x s'.heap) : compPost c.M A (ERes c as X s.heap XX) use Qf acc C (.error x) s' := by
  obtain ⟨m, hm⟩ := hm
  have key : ∃ m, s'.heap.Ns C m ∧ ∀ h', Heap.SameBut C s'.heap h' → ∀ cenv : Env, cenv.locals = C → wpAny c.M A (PySem.passOn "comprehension.variables-let-go" x cenv : Sem Value) (fun _ _ => False) (ERes c as X s.heap XX) { s' with heap := h' } :=
    ⟨m, hm, fun h' hs cenv _ => (r.drop tr hC hb hX hs).1.pass (r.drop tr hC hb hX hs).2 fun _ er _ => er⟩
  try clear m; try clear hb; try clear hX; try clear hC; try clear r; try clear hm; try clear tr
  cases use with
  | none => exact key
  | some u => exact key

theorem se_comp {n : Nat} {x : Str} {px : Pos} {elt iter : Expr} {ifs : List Expr} {sc : Scope} {pos : Pos} {b i : Ex} {cond : Option Ex} {mu : Bool}
    (ok : CompF T x sc) (hns : NSet iter) (hi : SE c n T iter i)
    (he : SE c n { T with names := sc.names, tab := (x, T.n) :: T.tab, n := T.n + 1 } elt b)
    (hc : (ifs = [] ∧ cond = none) ∨ ∃ t q, ifs = [t] ∧ cond = some q ∧ ST c n { T with names := sc.names, tab := (x, T.n) :: T.tab, n := T.n + 1 } t q) :
    SE c n T (.ListComp elt [⟨.Name x px, iter, ifs, 0⟩] sc pos) (.comp mu b i cond) := by
  refine ⟨?_⟩
  intro env A s as X H ρ Q XX R w
  rw [wpE_comp'] at w
  refine ea1_3 (closure_of (env := env) ok.names (free_cells R.F R.K ok)) ?_
  intro cl hclos hcl hcl'
  rw [eval_ListComp]
  refine wpAny_comprehension_free (use := none) rfl (folded_ns hns env) hclos ok.kind (fun p hp hl => by rw [ok.names p hp, hl]) (wpAny_mono (hi.run R w) (fun y s₁ r => ?_) fun _ _ e => e)
  obtain ⟨v, H₁, as₁, e1, S1, k1, hv, w1⟩ := r
  refine comp_block (RR := fun acc C => compPost c.M A (ERes c as X s.heap XX) none (Res c as X s.heap Q) acc C) R ok hcl hcl' he hc e1 k1 S1 hv w1 (fun D C s' h1 h2 h3 h4 h5 => ?_) fun D C x s' h1 h2 h3 h4 h5 h6 => err_post h1 h2 h3 h4 h5 h6
  obtain ⟨m, hm⟩ := h4
  exact ⟨m, hm, fun h' hs' => h5.drop h1 h3 h2 hs'⟩

/-- a comprehension whose value goes at once into a name of the block -/
theorem use_comp {n : Nat} {x : Str} {px : Pos} {elt iter : Expr} {ifs : List Expr} {sc : Scope} {pos : Pos} {b i : Ex} {cond : Option Ex} {mu : Bool} {A : Around} {Q : QE} {XX : XE} {u : Value → Sem Unit} {Qf : Value → Shared → Prop}
    (ok : CompF T x sc) (hns : NSet iter) (hi : SE c n T iter i)
    (he : SE c n { T with names := sc.names, tab := (x, T.n) :: T.tab, n := T.n + 1 } elt b)
    (hc : (ifs = [] ∧ cond = none) ∨ ∃ t q, ifs = [t] ∧ cond = some q ∧ ST c n { T with names := sc.names, tab := (x, T.n) :: T.tab, n := T.n + 1 } t q)
    (R : Rdy c T env A n s as X H ρ) (w : wpE c.P (callF c.P n) (.comp mu b i cond) ρ H Q XX)
    (hu : ∀ D C s', Fr as s.heap C → C ∉ X → c.base.get? C = none → (∃ m, s'.heap.Ns C m) → ResC c as X s.heap env T.tab ρ C Q (.ref D) s' →
      wpAny c.M A (u (.ref D)) (fun _ s'' => ∃ m, s''.heap.Ns C m ∧ ∀ h', Heap.SameBut C s''.heap h' → Qf .none { s'' with heap := h' }) (ERes c as X s.heap XX) s') :
    wpAny c.M A (comprehension (.ListComp elt [⟨.Name x px, iter, ifs, 0⟩] sc pos) sc env (firstIterPos [⟨.Name x px, iter, ifs, 0⟩] pos) (newList []) false (eval iter env) (some u)) Qf (ERes c as X s.heap XX) s := by
  rw [wpE_comp'] at w
  refine ea1_3 (closure_of (env := env) ok.names (free_cells R.F R.K ok)) ?_
  intro cl hclos hcl hcl'
  refine wpAny_comprehension_free (use := some u) rfl (folded_ns hns env) hclos ok.kind (fun p hp hl => by rw [ok.names p hp, hl]) (wpAny_mono (hi.run R w) (fun y s₁ r => ?_) fun _ _ e => e)
  obtain ⟨v, H₁, as₁, e1, S1, k1, hv, w1⟩ := r
  exact comp_block (RR := fun acc C => compPost c.M A (ERes c as X s.heap XX) (some u) Qf acc C) R ok hcl hcl' he hc e1 k1 S1 hv w1 (fun D C s' h1 h2 h3 h4 h5 => hu D C s' h1 h2 h3 h4 h5) fun D C x s' h1 h2 h3 h4 h5 h6 => err_post h1 h2 h3 h4 h5 h6
end
end Mine

end
noncomputable section
namespace Mine
open PySem PySem.Calls PyProof.Rows

section
variable {c : Cx} {n : Nat} {T : Tb}

theorem attr_base {o : Expr} {name : Str} {env : Env} {w : Sem Value} (h : attrOk o = true) : attributeBase o name env w = w := by
  cases o <;> first | rfl | cases h

noncomputable def mtName : Mt → String
  | .list => "list"
  | .dict => "dict"
  | .str => "str"
  | .tup => "tuple"

theorem all_nostar {pos : Pos} {env : Env} {args : List Expr} {xs : List Ex} (h : SEs c n T args xs) : (backTo pos (starEach args env)).all (fun x => !x.1) = true := by
  induction h with
  | nil => rfl
  | cons h₁ _ ih => rw [star_ns h₁.2]; exact ih

theorem hasTy_type {as : Adr} {X : List Addr} {H : AH} {s : Shared} {v : V} {y : Value} {t : Mt} (S : SR c as X H s) (hv : VR c as X s.heap v y) (h : hasTy H v t = true) :
    s.TypeIs y (mtName t) ∧ (∀ a, y = .ref a → ∃ ob, s.heap.get? a = some ob ∧ ob.dict = none) := by
  cases t with
  | str =>
    replace h := Option.isSome_iff_exists.mp h
    obtain ⟨x, h⟩ := h
    try clear x; try clear S
    replace h := V.txt_is h
    cases h
    try clear h
    cases hv.inv
    exact ⟨typeIs_str _ _ _, fun _ e => nomatch e⟩
  | list =>
    replace h := Option.isSome_iff_exists.mp h
    obtain ⟨x, h⟩ := h
    try clear x
    replace S := view_at S hv h
    obtain ⟨a, its, rfl, ⟨n, e⟩, _⟩ := S
    try clear hv; try clear h
    exact ⟨⟨_, e, rfl⟩, fun a q => by cases q; exact ⟨_, e, rfl⟩⟩
  | dict =>
    replace h := Option.isSome_iff_exists.mp h
    obtain ⟨x, h⟩ := h
    try clear x
    replace S := dview_at S hv h
    obtain ⟨a, cs, rfl, _, ⟨o, es, ep, e, hx, _⟩, _⟩ := S
    try clear hv; try clear h
    exact ⟨⟨_, e, hx.1⟩, fun a q => by cases q; exact ⟨_, e, hx.2.1⟩⟩
  | tup =>
    replace h := Option.isSome_iff_exists.mp h
    obtain ⟨x, h⟩ := h
    try clear x
    replace h := V.tpl_is h
    cases h
    try clear h
    cases hv.inv with
    | tup _ _ e _ _ => exact ⟨⟨_, e, rfl⟩, fun a q => by cases q; exact ⟨_, e, rfl⟩⟩

theorem se_mcall {o : Expr} {name : Str} {apos pos : Pos} {args : List Expr} {a : Ex} {xs : List Ex} {t : Mt} {mu : Bool} {pr : Prim} {id : String} (hat : attrOk o = true) (hl : apos.endLine = pos.line) (hlt : args.length < 20) (h : SE c n T o a) (hs : SEs c n T args xs)
    (pa : PlainAttrs (mtName t)) (slot : Slot (mtName t) name id) (hty : typeOf (.builtin id) = pure (.type "method_descriptor"))
    (tail : ∀ {A : Around} {s : Shared} {as : Adr} {X : List Addr} {H : AH} {Q : QE} {XX : XE} {v : V} {y : Value} {vs : List V} {ys : List Value}, AOk c A n → SR c as X H s → VR c as X s.heap v y → VRs c as X s.heap vs ys → vs.length = xs.length → okE (primQ c.P mu pr (v :: vs) H) Q →
      wpAny c.M A (call (.builtin id) (y :: ys)) (Res c as X s.heap Q) (ERes c as X s.heap XX) s) :
    SE c n T (.Call (.Attribute o name apos) args [] pos) (.mcall t mu pr a xs) := by
  refine ⟨?_⟩
  intro env A s as X H ρ Q XX R w
  rw [wpE_mcall] at w
  refine wpAny_Call_method_lateS (attr_base hat) ?_ (by simpa using hl) (wpAny_mono (h.run R w) (fun ov s₁ r => ?_) fun _ _ e => e)
  · rw [all_nostar hs]
    exact decide_eq_true (Nat.lt_of_lt_of_le hlt (by decide))
  · obtain ⟨v, H₁, as₁, e1, S1, k1, hv, ht, w1⟩ := r
    obtain ⟨h1, h2⟩ := hasTy_type S1 hv ht
    try clear ht
    refine ⟨mtName t, id, pa, slot, hty, h1, h2, ?_⟩
    have R1 := R.next e1 k1 S1
    refine callWith_builtin (no_star hs) (wpAny_mono (se_evalArgs hs R1 w1) (fun ar s₂ r => ?_) fun _ _ e => e.lift e1 k1)
    obtain ⟨hk, vs, H₂, as₂, e2, S2, k2, hvs, hln, q⟩ := r
    rw [hk]
    exact wpAny_mono (tail R.a S2 (hv.keep k2 e2) hvs hln q) (fun _ _ r => (r.lift e2 k2).lift e1 k1) fun _ _ e => (e.lift e2 k2).lift e1 k1

/-- a method with one argument -/
theorem se_m1 {o : Expr} {name : Str} {apos pos : Pos} {args : List Expr} {a : Ex} {xs : List Ex} {t : Mt} {mu : Bool} {pr : Prim} {id : String} (hat : attrOk o = true) (hl : apos.endLine = pos.line) (h : SE c n T o a) (hs : SEs c n T args xs) (hn : args.length = 1)
    (hmu : mu = true → pr.fresh = true) (hf : pr.fresh = false) (pa : PlainAttrs (mtName t)) (slot : Slot (mtName t) name id) (hty : typeOf (.builtin id) = pure (.type "method_descriptor"))
    (tail : ∀ {A : Around} {s : Shared} {as : Adr} {X : List Addr} {H H' : AH} {Q : QE} {XX : XE} {v w r : V} {y z : Value}, AOk c A n → SR c as X H s → VR c as X s.heap v y → VR c as X s.heap w z → prim c.P pr [v, w] H = some (r, H') → Q r H' →
      wpAny c.M A (call (.builtin id) [y, z]) (Res c as X s.heap Q) (ERes c as X s.heap XX) s) : SE c n T (.Call (.Attribute o name apos) args [] pos) (.mcall t mu pr a xs) := by
  cases mu with
  | true => exact absurd (hmu rfl) (by rw [hf]; decide)
  | false =>
    refine se_mcall hat hl (by rw [hn]; decide) h hs pa slot hty fun a S hv hvs hln q => ?_
    try clear hmu; try clear hl; try clear hf; try clear hat; try clear hty; try clear pa; try clear slot; try clear h
    replace hs := len1 hvs (hln.trans (hs.length.symm.trans hn))
    refine ea2_3 hs ?_
    try clear hs
    intro v y q_3 q_4 hv1
    subst q_3
    subst q_4
    try clear hn
    refine ea2_2 (okE_some q) ?_
    intro r H' e q'
    exact tail a S hv hv1 (nite_some e).2 q'
theorem se_methPrim {o : Expr} {name : Str} {apos pos : Pos} {args : List Expr} {a : Ex} {xs : List Ex} {t : Mt} {mu : Bool} {pr : Prim} (hat : attrOk o = true) (hl : apos.endLine = pos.line) (h : SE c n T o a) (hs : SEs c n T args xs)
    {z : Bool} (hp : methPrim name args.length z = some (t, pr)) (hmu : mu = true → pr.fresh = true) : SE c n T (.Call (.Attribute o name apos) args [] pos) (.mcall t mu pr a xs) := by
  have hxl := hs.length
  unfold methPrim at hp
  split at hp
  · rename_i q; cases hp; cases q.1
    exact se_m1 hat hl h hs q.2 hmu rfl F.plainAttrs_list F.slot_list_append F.type_list_append fun _ S hv hw e q => p_append S hv hw e q
  split at hp
  · rename_i q; cases hp
    obtain ⟨rfl, hn⟩ := q
    have hmu' : mu = false := by cases mu; rfl; cases hmu rfl
    subst hmu'
    refine se_mcall hat hl (by lia) h hs F.plainAttrs_list F.slot_list_pop F.type_list_pop fun _ S hv hvs hln q => ?_
    cases hvs with
    | cons _ _ => simp at hln; lia
    | nil =>
      refine ea2_2 (okE_some q) ?_
      intro r H' e q'
      exact p_pop S hv e q'
  split at hp
  · rename_i q; cases hp; cases q.1
    exact se_m1 hat hl h hs q.2.1 hmu rfl F.plainAttrs_list F.slot_list_pop F.type_list_pop fun a S hv hw e q => p_pop0 S hv hw e q
  split at hp
  · rename_i q; cases hp; cases q.1
    exact se_m1 hat hl h hs q.2 hmu rfl F.plainAttrs_dict F.slot_dict_pop F.type_dict_pop fun a S hv hw e q => p_dpop S hv hw e q
  split at hp
  · rename_i q; cases hp; cases q.1
    exact se_m1 hat hl h hs q.2 hmu rfl F.plainAttrs_tuple F.slot_tuple_index F.type_tuple_index fun a S hv hw e q => p_index S hv hw e q a.u64
  split at hp
  · rename_i q; cases hp; cases q.1
    exact se_m1 hat hl h hs q.2 hmu rfl F.plainAttrs_list F.slot_list_extend F.type_list_extend fun a S hv hw e q => p_extend S hv hw e q
  cases hp
end
end Mine

end
noncomputable section
namespace Mine
open PySem PySem.Calls PyProof.Rows

theorem O.ins_is {o : O} {d : Nat} (h : o.ins = some d) : o = .inst 0 d := by
  cases o with
  | inst c d' => obtain ⟨rfl, rfl⟩ := ite_is h; rfl
  | _ => cases h
theorem O.nms_is {o : O} {q : List (List Char) × List V} (h : o.nms = some q) : o = .ns q.1 q.2 := by
  cases o with
  | ns ks vs => cases h; rfl
  | _ => cases h
theorem insOf_is {H : AH} {v : V} {d : Nat} {ks : List (List Char)} {vs : List V} (h : insOf H v = some (d, ks, vs)) : ∃ i, v = .ref i ∧ H[i]? = some (.inst 0 d) ∧ H[d]? = some (.ns ks vs) := by
  replace h := bind_is h
  refine ea1_2 h ?_
  try clear h
  intro i h1 h
  replace h := bind_is h
  refine ea1_2 h ?_
  try clear h
  intro d' h2 h
  replace h := map_is h
  refine ea1_2 h ?_
  try clear h
  intro q h3 h
  try clear q; try clear d'
  cases h
  refine ea1_2 (bind_is h2) ?_
  intro o e1 e2
  try clear h2
  refine ea1_2 (bind_is h3) ?_
  intro o' e3 e4
  try clear h3
  try clear o'; try clear o; try clear h
  replace e2 := O.ins_is e2
  cases e2
  try clear e2
  replace e4 := O.nms_is e4
  cases e4
  exact ⟨i, V.at_is h1, e1, e3⟩
/-- an instance, its names' values -/
inductive Ins (c : Cx) (as : Adr) (X : List Addr) (h : HP) (d : Nat) (ks : List (List Char)) (vs : List V) : Value → Prop
  | mk {x dx : Addr} {ob : Obj} {cs : List Value} {mA : Str → Option Value} : as[d]? = some (some dx) → h.get? x = some ob → ob.cls = .ref (c.ccls 0) → ob.dict = some dx → (∀ cd, ob.data ≠ .cls cd) → dx ≠ x → h.Ns1 dx mA → ks.length = cs.length → VRs c as X h vs cs → vs.length ≤ bnd →
      (∀ n, mA n = ((ks.map toS).zip cs).lookup n) → some x ∈ as → Ins c as X h d ks vs (.ref x)
section
variable {c : Cx} {A : Around} {E : Value → Shared → Prop} {s : Shared} {as : Adr} {X : List Addr} {H H' : AH} {Q : QE}
theorem ins_of {v : V} {cv : Value} {d : Nat} {ks : List (List Char)} {vs : List V} (S : SR c as X H s) (hv : VR c as X s.heap v cv) (h : insOf H v = some (d, ks, vs)) : Ins c as X s.heap d ks vs cv := by
  replace h := insOf_is h
  refine ea1_3 h ?_
  try clear h
  intro i q_2 h1 h2
  subst q_2
  try clear i; try clear h
  cases hv.inv with
  | refD e => rw [S.dead _ e] at h1; cases h1
  | ref e =>
    refine ea0_3 (S.objs _ _ e) ?_
    intro _ _ r_3
    refine ea1_2 r_3 ?_
    try clear r_3
    intro o e1 e2
    try clear o; try clear hv
    replace e1 := h1.symm.trans e1
    cases e1
    obtain ⟨dx, ob, f1, f2, f3, f4, f5⟩ := e2
    refine ea0_3 (S.objs _ _ f1) ?_
    intro _ _ r_3
    refine ea1_2 r_3 ?_
    try clear r_3
    intro o e3 e4
    try clear ob; try clear dx; try clear e2; try clear e1; try clear o
    replace e3 := h2.symm.trans e3
    cases e3
    obtain ⟨hb, cs, mA, hn, hl, r, hm⟩ := e4
    refine ⟨f1, f2, f3, f4, f5, fun q => ?_, hn, hl, r, hb, hm, List.mem_of_getElem? e⟩
    try clear hm; try clear r; try clear hl; try clear hn; try clear mA; try clear cs; try clear hb; try clear e4; try clear e3; try clear f5; try clear f4; try clear f3; try clear f2
    subst q
    replace S := S.inj _ _ _ e f1
    cases S
    rw [h1] at h2; cases h2
theorem Ins.inst {x dx : Addr} {ob : Obj} {mA : Str → Option Value} {h : HP} (f2 : h.get? x = some ob) (f3 : ob.cls = .ref (c.ccls 0)) (f4 : ob.dict = some dx) (f5 : ∀ cd, ob.data ≠ .cls cd) (hne : dx ≠ x) (hn : h.Ns1 dx mA) : h.Inst x (c.ccls 0) mA := ⟨ob, f2, f3, f5, .inr ⟨dx, f4, hne, hn⟩⟩
theorem dget_lookup {h : HP} {n : List Char} : ∀ {ks : List (List Char)} {vs : List V} {cs : List Value} {v : V}, VRs c as X h vs cs → dget n ks vs = some v → ∃ y, ((ks.map toS).zip cs).lookup (toS n) = some y ∧ VR c as X h v y := by
  intro ks
  induction ks with
  | nil => intro vs cs v r e; cases vs <;> cases e
  | cons k ks ih =>
    intro vs cs v r e
    cases r with
    | nil => cases e
    | @cons w ws y ys a r =>
      have e : (if n = k then some w else dget n ks ws) = some v := e
      rw [List.map_cons, List.zip_cons_cons, List.lookup_cons]
      by_cases hk : n = k
      · rw [if_pos hk] at e
        cases e
        rw [hk, beq_self_eq_true]
        exact ⟨y, rfl, a⟩
      · rw [if_neg hk] at e
        have : (toS n == toS k) = false := by
          rw [beq_eq_false_iff_ne]
          exact fun q => hk (toS_inj q)
        rw [this]
        exact ih r e
theorem handed {h : HP} {v : V} {y : Value} (S : SR c as X H s) (r : VR c as X h v y) (ha : aliveV H v = true) : handedOut y = pure y := by
  cases r with
  | @refD i cv e =>
    have : ((H[i]?).any O.alive) = true := ha
    rw [S.dead i e] at this
    try clear ha; try clear S; try clear r
    cases this
  | _ => rfl
theorem p_attr {v r : V} {cv : Value} {nm : List Char} {ms : List (Str × Nat)} {ats : List Str} {f : Nat} (K : CK c ms ats f) (hat : toS nm ∈ ats) (S : SR c as X H s) (hv : VR c as X s.heap v cv) (e : pAttr nm [v] H = some (r, H')) (q : Q r H') : wpAny c.M A (getAttr cv (toS nm) true) (Res c as X s.heap Q) E s := by
  refine ea1_2 (bind_is (show (insOf H v).bind _ = some (r, H') from e)) ?_
  intro p h1 h2
  try clear e
  refine ea1_2 (bind_is h2) ?_
  intro r' h3 h4
  try clear h2
  obtain ⟨ha, h5⟩ := ite_is h4
  try clear h4
  try clear r'; try clear p
  cases h5
  obtain ⟨hC, k1, k2, k3, k4, _, _, _, _⟩ := K
  obtain ⟨nmC, qC, bs, sn, sub, col, dd, z0, z1, z2, z3, z5, hCo⟩ := (hC.keeps S.stays).obj
  obtain ⟨f1, f2, f3, f4, f5, hne, hn, hl, rv, hb, hm, _⟩ := ins_of S hv h1
  try clear hv; try clear h1
  refine ea1_2 (dget_lookup rv h3) ?_
  intro y e1 e2
  try clear rv; try clear h3
  obtain ⟨hp, g, d, t, os⟩ := s
  exact load_attr hCo (hC.keeps S.stays).ns k2 (k4 _ hat).1 (k4 _ hat).2 (Ins.inst f2 f3 f4 f5 hne hn) ((hm _).trans e1) (handed S e2 ha) (Res.now (tk := t + 1) S e2 q)
theorem dput_lookup {h : HP} {n : List Char} {x : V} {y : Value} (hx : VR c as X h x y) : ∀ {ks : List (List Char)} {vs : List V} {cs : List Value}, VRs c as X h vs cs → ks.length = cs.length →
    ∃ cs', (dput n x ks vs).1.length = cs'.length ∧ VRs c as X h (dput n x ks vs).2 cs' ∧ (dput n x ks vs).2.length ≤ vs.length + 1 ∧ ∀ m, (((dput n x ks vs).1.map toS).zip cs').lookup m = if m = toS n then some y else ((ks.map toS).zip cs).lookup m := by
  have one : ∀ m, (([n].map toS).zip [y]).lookup m = if m = toS n then some y else none := fun m => by
    show (match m == toS n with | true => some y | false => none) = _
    by_cases hm : m = toS n
    · rw [if_pos hm, hm, beq_self_eq_true]
    · rw [if_neg hm, beq_eq_false_iff_ne.mpr hm]
  intro ks
  induction ks with
  | nil =>
    intro vs cs r hl
    have : dput n x [] vs = ([n], [x]) := by cases vs <;> rfl
    rw [this]
    exact ⟨[y], rfl, .cons hx .nil, Nat.le_add_left _ _, one⟩
  | cons k ks ih =>
    intro vs cs r hl
    cases r with
    | nil => cases hl
    | @cons w ws z zs a r =>
      have hl' : ks.length = zs.length := by simpa using hl
      have e : dput n x (k :: ks) (w :: ws) = if n = k then (k :: ks, x :: ws) else (k :: (dput n x ks ws).1, w :: (dput n x ks ws).2) := rfl
      by_cases hk : n = k
      · rw [e, if_pos hk]
        try clear e; try clear hl'
        subst hk
        refine ⟨y :: zs, hl, .cons hx r, Nat.le_add_right _ _, fun m => ?_⟩
        rw [List.map_cons, List.zip_cons_cons, List.zip_cons_cons, List.lookup_cons, List.lookup_cons]
        by_cases hm : m = toS n
        · rw [if_pos hm, hm, beq_self_eq_true]
        · rw [if_neg hm, beq_eq_false_iff_ne.mpr hm]
      · rw [e, if_neg hk]
        refine ea1_4 (ih r hl') ?_
        intro cs' h1 h2 h3 h4
        try clear hl'
        refine ⟨z :: cs', congrArg Nat.succ h1, .cons a h2, Nat.succ_le_succ h3, fun m => ?_⟩
        rw [List.map_cons, List.map_cons, List.zip_cons_cons, List.zip_cons_cons, List.lookup_cons, List.lookup_cons, h4]
        by_cases hm : m = toS k
        · have hmn : m ≠ toS n := fun q => hk (toS_inj (q.symm.trans hm))
          rw [if_neg hmn, if_neg hmn, hm, beq_self_eq_true]
        · rw [beq_eq_false_iff_ne.mpr hm]
theorem lookup_in {ks : List (List Char)} {cs : List Value} {m : Str} (h : ((ks.map toS).zip cs).lookup m ≠ none) : m ∈ ks.map toS := by
  cases e : ((ks.map toS).zip cs).lookup m with
  | none => exact absurd e h
  | some y => exact (List.of_mem_zip (mem_of_lookup e)).1
theorem Obj.same {a b : Obj} (h1 : a.cls = b.cls) (h2 : a.data = b.data) (h3 : a.slots = b.slots) (h4 : a.dict = b.dict) : a = b := by
  cases a; cases b
  replace h1 := h1; cases h2; cases h3; cases h4
  cases h1
  rfl
theorem p_setAttr {v x : V} {cv cx : Value} {nm : List Char} {ms : List (Str × Nat)} {ats : List Str} {f : Nat} {R : Unit → Shared → Prop} (K : CK c ms ats f) (hat : toS nm ∈ ats) (S : SR c as X H s) (hv : VR c as X s.heap v cv) (hx : VR c as X s.heap x cx) (e : setAttrV v nm x H = some H')
    (r : ∀ s', SR c as X H' s' → Kept as X s.heap s'.heap → R () s') : wpAny c.M A (setAttr cv (toS nm) cx) R E s := by
  refine ea1_2 (bind_is (show (insOf H v).bind _ = some H' from e)) ?_
  intro p h1 h2
  obtain ⟨hlen, h3⟩ := ite_is h2
  subst h3
  obtain ⟨d, ks, vs⟩ := p
  obtain ⟨hC, k1, k2, k3, k4, _, _, _, _⟩ := K
  have hCk := hC.keeps S.stays
  obtain ⟨nmC, qC, bs, sn, sub, col, dd, z0, z1, z2, z3, z5, hCo⟩ := hCk.obj
  obtain ⟨f1, f2, f3, f4, f5, hne, hn, hl, rv, hb, hm, hxa⟩ := ins_of S hv h1
  try clear hv
  rename_i xa dx ob cs mA
  have hcb := hC.obj
  obtain ⟨_, _, _, _, _, _, _, _, _, _, _, _, hC0⟩ := hcb
  have hxC : xa ≠ c.ccls 0 := fun q => by
    obtain ⟨i, hi⟩ := List.getElem?_of_mem hxa
    try clear hxa
    rw [q] at hi
    rw [(S.objs i _ hi).1] at hC0; cases hC0
  obtain ⟨hp, g, dr, t, os⟩ := s
  refine store_attr PySem.F.store_object hCo hCk.ns k1 (k4 _ hat).1 (k4 _ hat).2 hxC (Ins.inst f2 f3 f4 f5 hne hn) (fun h' tk' I' hk hsame => ?_) (ns := ks.map toS) (fun y hy => lookup_in (by rw [← hm]; exact hy)) (by rw [List.length_map]; exact Nat.le_trans hlen (by decide))
  refine ea1_5 (hsame ob f2) ?_
  intro o₁ e₁ q1 q2 q3 q4
  have hob : o₁ = ob := Obj.same q1 q2 q3 ((q4 dx f4).trans f4.symm)
  subst hob
  have kk : ∀ b o, hp.get? b = some o → b ≠ dx → h'.get? b = some o := fun b o e hb => by
    by_cases hbx : b = xa
    · try clear hob; try clear q4; try clear q3; try clear q2; try clear q1; try clear o₁; try clear os; try clear t; try clear dr; try clear g; try clear hp; try clear hC0; try clear hcb; try clear hm; try clear hb; try clear rv; try clear hl; try clear hn; try clear hne; try clear f5; try clear f4; try clear f3; try clear f1; try clear hCo; try clear z5; try clear z3; try clear z2; try clear z1; try clear z0; try clear dd; try clear col; try clear sub; try clear sn; try clear bs; try clear qC; try clear nmC; try clear hCk; try clear k4; try clear k3; try clear k2; try clear k1; try clear hC; try clear vs; try clear ks; try clear d; try clear h3; try clear hlen; try clear h2; try clear h1; try clear p; try clear hx; try clear r; try clear hat; try clear K; try clear S
      subst hbx; cases f2.symm.trans e; exact e₁
    · exact hk b o hbx (fun o₀ d' g1 g2 => by cases f2.symm.trans g1; cases f4.symm.trans g2; exact hb) e
  refine ea1_4 I' ?_
  try clear I'
  intro o' g1 _ _ g4
  replace e₁ := e₁.symm.trans g1
  cases e₁
  have hns : h'.Ns1 dx (fun y => if y = toS nm then some cx else mA y) := by
    try clear g1; try clear o'; try clear e₁; try clear f2; try clear e
    rcases g4 with ⟨g4, _⟩ | ⟨d', g4, _, g5⟩
    · rw [f4] at g4; cases g4
    · cases f4.symm.trans g4; exact g5
  have vk : VK as X hp h' := fun b o e ha _ => kk b o e fun q => ha (q ▸ List.mem_of_getElem? f1)
  refine ea1_4 (dput_lookup (n := nm) hx rv hl) ?_
  intro cs' d1 d2 d3 d4
  try clear hx
  refine r _ (S.upd (s' := ⟨h', g, dr, tk', os⟩) f1 kk rfl rfl ⟨Nat.le_trans d3 ?_, cs', _, hns, d1, d2.keepX vk (.refl ..), fun m => ?_⟩) (SR.kept1 f1 kk)
  · have h1 : vs.length = ks.length := rv.length.trans hl.symm
    have h2 : (1001 : Nat) ≤ bnd := by decide
    have h3 : ks.length ≤ 1000 := hlen
    rw [h1]
    exact Nat.le_trans (Nat.succ_le_succ h3) h2
  · rw [d4]
    show (if m = toS nm then some cx else mA m) = _
    rw [hm]
end
section
variable {c : Cx} {n : Nat} {T : Tb} {ms : List (Str × Nat)} {ats : List Str} {f : Nat}
theorem spliced_one {M : Model} {A : Around} {E : Value → Shared → Prop} {s : Shared} {env : Env} {pos : Pos} {x : Expr} {Q : List Value → Shared → Prop} (hs : starEach [x] env = (false, eval x env) :: starEach [] env) (h : wpAny M A (eval x env) (fun y s₁ => Q [y] s₁) E s) : wpAny M A (spliced (backTo pos (starEach [x] env))) Q E s := by
  rw [hs]
  exact spliced_cons (wpAny_mono h (fun _ _ q => spliced_nil q) fun _ _ e => e)
theorem se_attr {o : Expr} {nm : List Char} {pos : Pos} {a : Ex} (K : CK c ms ats f) (hat : toS nm ∈ ats) (hok : attrOk o = true) (h : SE c n T o a) : SE c n T (.Attribute o (toS nm) pos) (.prim false (.attr nm) [a]) := by
  refine ⟨?_⟩
  intro env A s as X H ρ Q XX R w
  rw [wpE_prim, wpEs_cons] at w
  simp only [wpEs_nil] at w
  rw [arm_eval_Attribute, attr_base hok]
  refine wpAny_bind (wpAny_mono (h.run R w) (fun y s₁ r => wpAny_bind (wpAny_standAt (wpAny_bind (wpAny_holding ?_)))) fun _ _ e => e)
  obtain ⟨v, H₁, as₁, e1, S1, k1, hv, q⟩ := r
  refine ea2_2 (okE_some q) ?_
  intro z H' e q'
  try clear q
  exact wpAny_mono (p_attr (E := ERes c as₁ X s₁.heap XX) K hat S1 hv e q') (fun _ _ r => wpAny_bind (wpAny_letTemporaryGo (wpAny_pure (r.lift e1 k1)))) fun _ _ e => e.lift e1 k1
theorem se_meth {o : Expr} {nm : List Char} {g : Nat} {apos pos : Pos} {args : List Expr} {a : Ex} {xs : List Ex} (K : CK c ms ats f) (C : Cok c T.gl) (sc : SC c n) (hg : ms.lookup (toS nm) = some g) (hok : attrOk o = true) (hline : apos.endLine = pos.line) (hlt : args.length < 30) (h : SE c n T o a) (hs : SEs c n T args xs) :
    SE c n T (.Call (.Attribute o (toS nm) apos) args [] pos) (.meth 0 g nm a xs) := by
  refine ⟨?_⟩
  intro env A s as X H ρ Q XX R w
  rw [wpE_meth] at w
  rw [arm_eval_Call, attr_base hok]
  refine wpAny_bind (wpAny_mono (h.run R w) (fun y s₁ r => wpAny_bind (wpAny_standAt ?_)) fun _ _ e => e)
  obtain ⟨v, H₁, as₁, e1, S1, k1, hv, hm, w1⟩ := r
  have hform : methodCallForm (args.length + ([] : List Keyword).length) (backTo pos (starEach args env)) (backToKw pos (keywordEach [] env)) = true := by
    show ((backTo pos (starEach args env)).all (fun x => !x.1) && true && decide (args.length + 0 + 0 < 30)) = true
    rw [all_nostar hs]
    exact decide_eq_true hlt
  have hpos : methodCallPos true o env apos pos = pure pos := by unfold methodCallPos; simp [hline]
  obtain ⟨hC, k1', k2, k3, k4, k5, _, _, _⟩ := K
  obtain ⟨m1, ⟨of, m2, m3⟩, ⟨yB, m4⟩, fn, hf⟩ := k5 _ _ hg
  try clear k5; try clear hg
  have hCk := hC.keeps S1.stays
  obtain ⟨nmC, qC, bs, sn, sub, col, dd, z0, z1, z2, z3, z5, hCo⟩ := hCk.obj
  unfold methodCall
  rw [hform]
  have R1 := R.next e1 k1 S1
  obtain ⟨p, hi, hnot⟩ : ∃ p, insOf H₁ v = some p ∧ (!p.2.1.contains nm) = true := by
    unfold hasMeth at hm
    try clear nm; try clear hnot; try clear hi; try clear R1; try clear hCo; try clear z5; try clear z3; try clear z2; try clear z1; try clear z0; try clear dd; try clear col; try clear sub; try clear sn; try clear bs; try clear qC; try clear nmC; try clear hCk; try clear hf; try clear fn; try clear m4; try clear yB; try clear m3; try clear m2; try clear of; try clear m1; try clear k4; try clear k3; try clear k2; try clear k1'; try clear hC; try clear hpos; try clear w1; try clear hv; try clear k1; try clear S1; try clear e1; try clear as₁; try clear hlt; try clear sc; try clear hline; try clear K; try clear C; try clear hs; try clear h; try clear hok
    cases hq : insOf H₁ v with
    | none => rw [hq] at hm; cases hm
    | some p => rw [hq] at hm; exact ⟨p, rfl, hm⟩
  obtain ⟨d, ks, vs⟩ := p
  obtain ⟨f1, f2, f3, f4, f5, hne, hn, hl, rv, hb, hmA, hxa⟩ := ins_of S1 hv hi
  try clear hi
  rename_i xa dx ob cs mA
  have hsh : mA (toS nm) = none := by
    rw [hmA]
    try clear hxa; try clear hmA; try clear hb; try clear rv; try clear hl; try clear hn; try clear hne; try clear f5; try clear f4; try clear f3; try clear f2; try clear f1; try clear vs; try clear d; try clear insOf; try clear p; try clear hm; try clear H₁; try clear v
    cases e : ((ks.map toS).zip cs).lookup (toS nm) with
    | none => rfl
    | some y =>
      refine ea1_2 (List.mem_map.mp (lookup_in (ks := ks) (cs := cs) (m := toS nm) (by rw [e]; nofun))) ?_
      intro k hk e'
      try clear k
      replace e' := toS_inj e'
      cases e'
      have : ks.contains nm = true := List.contains_iff_mem.mpr hk
      rw [this] at hnot; cases hnot
  obtain ⟨hp, gg, dr, tt, os⟩ := s₁
  refine wpAny_bind (wpAny_holding (method_of hCo hCk.ns k2 k3 m1 (S1.stays _ _ m2) m3 m4 (Ins.inst f2 f3 f4 f5 hne hn) hsh ?_))
  refine wpAny_bind (wpAny_of_eq hpos ?_)
  refine callWith_function (o := of) (fd := c.fdat g) (wpAny_mono (se_evalArgs hs R1 w1) (fun ar s₂ r => ?_) fun _ _ e => e.lift e1 k1)
  obtain ⟨hk, vs', H₂, as₂, e2, S2, k2, hvs, _, q⟩ := r
  refine ea1_2 (C.fobj g fn hf) ?_
  intro o' g1 g2
  try clear C; try clear fn
  try clear o'; try clear as₂; try clear H₂; try clear vs'; try clear os; try clear tt; try clear dr; try clear gg; try clear hp; try clear ks
  replace g1 := m2.symm.trans g1
  cases g1
  refine ⟨⟨S2.stays _ _ m2, g2⟩, ?_⟩
  rw [hk]
  exact wpAny_mono (sc.run hf R.a.toACk (R1.fr.keep e2 k2).all S2 (.cons (hv.keep k2 e2) hvs) q) (fun _ _ r => (r.lift e2 k2).lift e1 k1) fun _ _ e => (e.lift e2 k2).lift e1 k1
theorem se_new {g : Str} {p pos : Pos} {x : Expr} {a : Ex} (C : Cok c T.gl) (sc : SC c n) (hg : T.glob g = some (.cls ms ats f)) (h : SE c n T x a) (hns : NS x) : SE c n T (.Call (.Name g p) [x] [] pos) (.new 0 f [a]) := by
  refine ⟨?_⟩
  intro env A s as X H ρ Q XX R w
  rw [wpE_new, wpEs_cons] at w
  simp only [wpEs_nil] at w
  have e1 := C.gl g _ (ge_of hg).2.1
  obtain ⟨hC, _, _, _, _, _, hi, ⟨oI, hfI, hfc⟩, fn, hfn⟩ := C.cl g ms ats f (mem_of_lookup (ge_of hg).2.1)
  refine wpAny_Call_Name_kw (n_glob C hg R (.inl e1) ?_)
  refine callWith_cls hC (spliced_one (star_ns hns [] env) (wpAny_mono (h.run R w) (fun y s₁ r => ?_) fun _ _ e => e)) (star_ns hns [] env) rfl
  obtain ⟨v, H₁, as₁, e1, S1, k1, hv, q⟩ := r
  refine ⟨S1.stays, ?_⟩
  have hCk := hC.keeps S1.stays
  obtain ⟨nmC, qC, bs, sn, sub, col, dd, z0, z1, z2, z3, z5, hCo⟩ := hCk.obj
  obtain ⟨hp, gg, dr, tt, os⟩ := s₁
  refine wpAny_call_obj_init PySem.F.objNew hCo hCk.ns hi (S1.stays _ _ hfI) hfc fun h' xa dx Mk => ?_
  refine ea1_4 Mk.inst ?_
  intro ob hx hcx hncx hdx
  have hdd := Mk.dict ob hx
  obtain ⟨hnsd, hne⟩ : h'.Ns1 dx (fun _ => none) ∧ dx ≠ xa := by
    try clear xa; try clear dx; try clear h'; try clear hne; try clear hnsd; try clear hncx; try clear hcx; try clear hx; try clear ob; try clear os; try clear tt; try clear dr; try clear gg; try clear hp; try clear hCo; try clear z5; try clear z3; try clear z2; try clear z1; try clear z0; try clear dd; try clear col; try clear sub; try clear sn; try clear bs; try clear qC; try clear nmC; try clear hCk; try clear q; try clear hv; try clear k1; try clear S1; try clear as₁; try clear H₁; try clear v; try clear hfn; try clear fn; try clear hfc; try clear hfI; try clear oI; try clear hi; try clear hC; try clear e1; try clear sc; try clear hns; try clear C; try clear hg; try clear h
    rcases hdx with ⟨hn0, _⟩ | ⟨d', hd', hne', hns'⟩
    · rw [hn0] at hdd; cases hdd
    · try clear hdx
      cases hd'.symm.trans hdd; exact ⟨hns', hne'⟩
  have hg1 : ∀ b, (only h' fun b => b != xa).get? b = if (b != xa) = true then h'.get? b else none := fun b => only_get b
  generalize (only h' fun b => b != xa) = h₁ at hg1
  have ne1 : ∀ b, b ≠ xa → h₁.get? b = h'.get? b := fun b hb => by rw [hg1, if_pos (by simpa using hb)]
  have no1 : h₁.get? xa = none := by rw [hg1, if_neg (by simp)]
  have g1 : Grown hp h₁ := fun b o e => by
    rw [ne1 b fun q => by rw [q, Mk.newX] at e; cases e]
    exact Mk.keeps b o e
  have g2 : Grown h₁ h' := fun b o e => by
    rw [ne1 b fun q => by rw [q, no1] at e; cases e] at e
    exact e
  have Sd := S1.alloc (s' := ⟨h₁, gg, dr, tt, os⟩) (a := dx) (o := .ns [] []) Mk.newD g1 rfl rfl ⟨Nat.zero_le _, [], fun _ => none, hnsd.at fun o e => by rw [ne1 dx hne]; exact e, rfl, .nil, fun _ => rfl⟩
  have Sx := Sd.alloc (s' := ⟨h', gg, dr, tt, os⟩) (a := xa) (o := .inst 0 H₁.length) no1 g2 rfl rfl ⟨dx, ob, by rw [← S1.len]; simp, hx, hcx, hdd, hncx⟩
  have E1 : Ext as₁ hp (as₁ ++ [some dx]) := ext_snoc as₁ _ dx Mk.newD
  have K1 : Kept as₁ X hp h₁ := g1.kept as₁ X
  have E2 : Ext (as₁ ++ [some dx]) h₁ (as₁ ++ [some dx] ++ [some xa]) := ext_snoc _ _ xa no1
  have K2 : Kept (as₁ ++ [some dx]) X h₁ h' := g2.kept _ X
  have E3 := E1.trans K1 E2
  have K3 := K1.trans E1 K2
  have hix : (as₁ ++ [some dx] ++ [some xa])[H₁.length + 1]? = some (some xa) := by rw [← S1.len]; simp
  have fr : ∃ l, FrOk c (A.under (.builtin "type.__call__" ⟨.ref (c.ccls 0) :: [y], []⟩)) X (as₁ ++ [some dx] ++ [some xa]) h' l := by
    obtain ⟨l, hl⟩ := (R.fr.keep e1 k1).all
    try clear e1; try clear k1
    exact ⟨l, hl.1, (hl.keep E3 K3).2⟩
  have ack : ACk c (A.under (.builtin "type.__call__" ⟨.ref (c.ccls 0) :: [y], []⟩)) n := ⟨R.a.hh, R.a.hx, by
    have := R.a.hr
    show A.depth + 1 + 2 * n + 5 ≤ recursionLimit
    lia, by
    have := R.a.hw
    show A.units + 1 + 10 * n + 300 < cLine
    lia⟩
  have w2 : callF c.P n c.P.q f [.ref (H₁.length + 1), v] (H₁ ++ [.ns [] []] ++ [.inst 0 H₁.length]) (fun v H'' => v = .none ∧ Q (.ref (H₁.length + 1)) H'') XX := by
    rw [List.append_assoc]; exact q
  refine wpAny_mono (sc.run hfn ack fr Sx (.cons (.ref hix) (.cons (hv.keep K3 E3) .nil)) w2) (fun r s' q => ?_) fun _ _ e => (e.lift E3 K3).lift e1 k1
  try clear K2; try clear E2; try clear K1; try clear E1; try clear Sx; try clear Sd; try clear no1; try clear ne1; try clear hg1; try clear hdd
  obtain ⟨z, H', as', e', S', k', hz, rfl, q⟩ := q
  refine ⟨hz.inv, (Res.lift E3 K3 ⟨_, H', as', e', S', k', ?_, q⟩).lift e1 k1⟩
  try clear hz; try clear k'; try clear S'; try clear as'; try clear H'; try clear z; try clear K3; try clear E3
  rcases e'.old _ _ hix with q | q
  · exact .ref q
  · exact .refD q
end
end Mine

end
noncomputable section
namespace Mine
open PySem PySem.Calls PyProof.Rows

section
variable {c : Cx} {n : Nat} {T : Tb}

noncomputable def KeyOk (e : Option Expr) (k : List Char) : Prop := ∃ x kk p, e = some (.Constant (.str x) kk p) ∧ fromS x = some k

theorem keyOf_ok {e : Option Expr} {k : List Char} (h : keyOf e = some k) : KeyOk e k := by
  unfold keyOf at h
  split at h
  · exact ⟨_, _, _, rfl, h⟩
  · cases h

theorem se_pairs {pos : Pos} {env : Env} {A : Around} {X : List Addr} {ρ : Fm} {XX : XE} {ks : List (Option Expr)} {kcs : List (List Char)} (hk : A2 KeyOk ks kcs) : ∀ {es : List Expr} {xs : List Ex} {s : Shared} {as : Adr} {H : AH} {Q : List V → AH → Prop}, SEs c n T es xs → ks.length = es.length → Rdy c T env A n s as X H ρ →
    wpEs c.P (callF c.P n) xs ρ H Q XX → wpAny c.M A (evalPairs (pairTrees ks es env pos)) (fun ps s' => ∃ ys, Carries c.kd ps ((kcs.map toS).zip ys) ∧ kcs.length = ys.length ∧ ResL c as X s.heap Q ys s') (ERes c as X s.heap XX) s := by
  induction hk with
  | nil =>
    intro es xs s as H Q h hl R w
    cases h with
    | nil => exact pairTrees_nil_walk ⟨[], trivial, rfl, [], H, as, .refl .., R.S, Kept.refl _ _ _, .nil, w⟩
    | cons _ _ => simp at hl
  | cons h₁ h₂ ih =>
    intro es xs s as H Q h hl R w
    cases h with
    | nil => simp at hl
    | cons g₁ g₂ =>
      refine ea3_2 h₁ ?_
      try clear h₁
      intro x kk p q_4 hk
      subst q_4
      obtain ⟨h3, h4⟩ := fromS_ok hk
      try clear hk
      rw [wpEs_cons] at w
      refine pairTrees_cons_walk (Constant_str ?_)
      have R1 : Rdy c T env A n { s with toks := s.toks + 1 } as X H ρ := R.next (.refl ..) (Kept.refl _ _ _) (R.S.grow (.refl _) rfl rfl)
      refine wpAny_mono (g₁.1.run R1 w) (fun y s₁ r => ?_) fun _ _ e => e
      obtain ⟨v, H₁, as₁, e1, S1, k1, hv, w1⟩ := r
      refine wpAny_mono (ih g₂ (by simpa using hl) (R1.next e1 k1 S1) w1) (fun ps s₂ r => ?_) fun _ _ e => e.lift e1 k1
      refine ea1_3 r ?_
      try clear r
      intro ys hc hy p_4
      obtain ⟨vs, H₂, as₂, e2, S2, k2, hvs, q⟩ := p_4
      refine ⟨y :: ys, ⟨?_, rfl, hc⟩, by simp [hy], v :: vs, H₂, as₂, e1.trans k1 e2, S2, k1.trans e1 k2, .cons (hv.keep k2 e2) hvs, q⟩
      rw [← h3]
      exact kd_is _ _

theorem sys_fresh {gl : List (Str × Gl)} {s : Shared} {as : Adr} {X : List Addr} {H : AH} (C : Cok c gl) (S : SR c as X H s) : (s.heap.objs.size == sysModules) = false := by
  refine ea3_2 C.g ?_
  intro o es ep e _
  try clear C
  have h2 := Heap.lt_size (S.stays _ _ e)
  have h3 : mainGlobals = 3 := rfl
  have h1 : sysModules = 1 := rfl
  rw [h3] at h2
  rw [h1]
  exact beq_eq_false_iff_ne.mpr fun q => by rw [q] at h2; exact absurd h2 (by decide)

theorem mkd_some {kcs : List (List Char)} {vs : List V} {H : AH} {Q : QE} {mu : Bool} (q : okE (primM c.P mu (.mkdict kcs) vs H) Q) : (kcs.length = vs.length ∧ kcs.length ≤ 15 ∧ kcs.Nodup) ∧ (if mu then Q (.ref H.length) (H ++ [.dict kcs vs]) else Q (.dct kcs vs) H) := by
  refine ea2_1 (prim_of_M q) ?_
  intro r H' e
  have e' : pMkdict kcs vs H = some (r, H') := e
  unfold pMkdict at e'
  by_cases h : kcs.length = vs.length ∧ kcs.length ≤ 15 ∧ kcs.Nodup
  · refine ⟨h, ?_⟩
    have hp : prim c.P (.mkdict kcs) vs H = some (.dct kcs vs, H) := if_pos h
    try clear e'; try clear e; try clear H'; try clear r
    cases mu with
    | false => rw [primM_false, hp] at q; exact q
    | true =>
      unfold primM at q
      rw [if_pos rfl, show (Prim.mkdict kcs).fresh = true from rfl, if_pos rfl, hp] at q
      exact q
  · rw [if_neg h] at e'; cases e'
theorem dict_res {a : Addr} {mu : Bool} {s₀ : Shared} {s' : Shared} {as as₂ : Adr} {X : List Addr} {H : AH} {Q : QE} {kcs : List (List Char)} {vs : List V} {ys : List Value} (ha : s₀.heap.get? a = none) (hx : a ∉ X) (ho : some a ∉ as₂) (hsm : (a == sysModules) = false) (hb : c.base.get? a = none)
    (E : Ext as s₀.heap as₂) (K : Kept as X s₀.heap s'.heap) (S : SR c as₂ (a :: X) H s') (hd : s'.heap.DictOf c.kd a ((kcs.map toS).zip ys)) (hy : kcs.length = ys.length) (hv : VRs c as₂ (a :: X) s'.heap vs ys) (hl : vs.length ≤ bnd)
    (q : if mu then Q (.ref H.length) (H ++ [.dict kcs vs]) else Q (.dct kcs vs) H) : Res c as X s₀.heap Q (.ref a) s' := by
  cases mu with
  | false =>
    have q' : Q (.dct kcs vs) H := q
    exact ⟨_, H, as₂, E, S.frames (fun b _ _ hb q => hb (.tail _ q)) fun b hb => S.xs b (.tail _ hb), K, .dct ho hx hsm hd hy (hv.frames fun b _ _ hb q => hb (.tail _ q)) hl, q'⟩
  | true =>
    have q' : Q (.ref H.length) (H ++ [.dict kcs vs]) := q
    have hsub : ∀ b ∈ X, b ∈ a :: X := fun b hb => .tail _ hb
    refine ⟨.ref H.length, H ++ [.dict kcs vs], as₂ ++ [some a], ⟨fun i z e => ?_, fun z hz => ?_⟩, S.adopt (o := .dict kcs vs) (.head _) hb hsub hx ⟨hl, hsm, ys, hd, hy, hv.adopt (.head _) hsub⟩, K, .ref ?_, q'⟩
    · try clear hsub; try clear q'; try clear K; try clear hy; try clear q; try clear hx; try clear S; try clear hd; try clear hl; try clear hsm; try clear hv; try clear hb; try clear ho; try clear ha
      rcases E.old i z e with r | r
      · exact .inl (by rw [List.getElem?_append_left (List.getElem?_eq_some_iff.mp r).1]; exact r)
      · exact .inr (by rw [List.getElem?_append_left (List.getElem?_eq_some_iff.mp r).1]; exact r)
    · rcases List.mem_append.mp hz with r | r
      · exact E.new z r
      · simp at r; subst r; exact .inr ha
    · rw [← S.len]; simp

/-- a dict display with keys: its pairs, then the dict -/
theorem dict_tail {ks : List (Option Expr)} {es : List Expr} {pos : Pos} {mu : Bool} {env : Env} {A : Around} {s : Shared} {as : Adr} {X : List Addr} {H : AH} {ρ : Fm} {Q : QE} {XX : XE} (C : Cok c T.gl) (hall : ks.all (·.isSome) = true) (hl : ks.length = es.length) (h0 : ks ≠ []) (h15 : ks.length ≤ 15) (R : Rdy c T env A n s as X H ρ)
    (hp : ∀ {s₁ : Shared} {X₁ : List Addr}, Rdy c T env A n s₁ as X₁ H ρ → wpAny c.M A (evalPairs (pairTrees ks es env pos)) (fun ps s' => ∃ kcs ys, Carries c.kd ps ((kcs.map toS).zip ys) ∧ kcs.length = ys.length ∧ kcs.Nodup ∧ ResL c as X₁ s₁.heap (fun vs H' => vs.length ≤ 15 ∧ if mu then Q (.ref H'.length) (H' ++ [.dict kcs vs]) else Q (.dct kcs vs) H') ys s') (ERes c as X₁ s₁.heap XX) s₁) :
    wpAny c.M A (eval (.Dict ks es pos) env) (Res c as X s.heap Q) (ERes c as X s.heap XX) s := by
  have hX : ∀ b ∈ s.heap.objs.size :: X, b ∈ X ∨ s.heap.get? b = none := fun b hb => by
    try clear h15; try clear hall; try clear h0; try clear C; try clear R; try clear hp; try clear hl
    cases hb with
    | head => exact .inr (get_fresh _)
    | tail _ h => exact .inl h
  have hbase : c.base.get? s.heap.objs.size = none := R.S.base_none (get_fresh _)
  have S1 : SR c as (s.heap.objs.size :: X) H { s with heap := s.heap.push { cls := .type "dict", data := .dict #[] } } := R.S.opens (.push _ _) hX (fun b hb => by
    try clear hbase
    cases hb with
    | head => exact ⟨_, Heap.get?_push_size _ rfl⟩
    | tail _ h => obtain ⟨o, e⟩ := R.S.xs b h; exact ⟨o, Heap.get?_push_of_some _ e⟩) rfl rfl
  have g0 : Grown s.heap (s.heap.push { cls := .type "dict", data := .dict #[] }) := .push _ _
  refine wpAny_Dict_walk (knd := c.kd) hall hl h0 h15 ?_
  have R1 : Rdy c T env A n _ as (s.heap.objs.size :: X) H ρ := ⟨R.a, S1, R.F.opens g0 (fun b h => .tail _ h) hX, R.K, R.len, R.fr.grow g0 fun _ => List.count_le_count_cons⟩
  refine wpAny_mono (hp R1) (fun ps s₂ r => ?_) fun _ _ e => (e.lift (Ext.refl as s.heap) (g0.kept as _)).less (fun _ q => .tail _ q) fun b hb => (cnt1 hb).elim (fun q => .inr (.inr (q ▸ get_fresh _))) .inl
  clear hp S1 hX R1 hall hl h0 h15
  refine ea2_4 r ?_
  try clear r
  intro kcs ys hc hy hnd p_6
  obtain ⟨vs, H₂, as₂, e2, S2, k2, hvs, hl, q⟩ := p_6
  refine ⟨_, hc, DictOf.same (Heap.DictOf.new _) (fun o e => k2.one (fresh_x R.S) e (fresh_out R.S)), fun h' hd sb => ?_⟩
  have hn : (((kcs.map toS).zip ys).map (·.1)).Nodup := by
    rw [List.map_fst_zip (by rw [List.length_map, hy]; exact Nat.le_refl _)]
    exact List.Pairwise.map _ (fun a b hab e => hab (toS_inj e)) hnd
  rw [merged_nil_of_nodup _ hn] at hd
  clear hc hn hnd
  have b : But [s.heap.objs.size] s₂.heap h' := fun q o hq e => (sb.2 q (by simpa using hq)).trans e
  have kx : Kept as X s.heap s₂.heap := ((g0.kept as _).trans (.refl ..) k2).less fun b hb => (cnt1 hb).elim (fun q => .inr (.inr (q ▸ get_fresh _))) .inl
  have ex : Ext as s.heap as₂ := (Ext.refl as s.heap).trans (g0.kept as X) e2
  refine dict_res (s' := { s₂ with heap := h', toks := _ }) (get_fresh _) (fresh_x R.S) (e2.out (Heap.get?_push_size _ rfl) (fresh_out R.S)) (sys_fresh C R.S) hbase ex (kx.but b (by intro a ha; simp at ha; subst ha; exact .inr (get_fresh _)))
    (S2.but (s' := { s₂ with heap := h', toks := _ }) b (by simpa using hbase) (fun _ q => q) (fun a _ hz => by simp at hz; subst hz; obtain ⟨o, _, _, e, _⟩ := hd; exact ⟨o, e⟩) rfl rfl) hd hy (hvs.keepX (b.vk as₂ (by simp)) (.refl ..)) (Nat.le_trans hl (by decide)) q
theorem se_dict {ks : List (Option Expr)} {kcs : List (List Char)} {es : List Expr} {xs : List Ex} {pos : Pos} {mu : Bool} (C : Cok c T.gl) (hk : A2 KeyOk ks kcs) (h : SEs c n T es xs) (hl : ks.length = es.length) (h15 : ks.length ≤ 15) :
    SE c n T (.Dict ks es pos) (.prim mu (.mkdict kcs) xs) := by
  refine ⟨?_⟩
  intro env A s as X H ρ Q XX R w
  rw [wpE_prim] at w
  by_cases h0 : ks = []
  · try clear h15
    subst h0
    cases hk
    try clear hk
    cases h with
    | cons _ _ => cases hl
    | nil =>
      rw [wpEs_nil] at w
      obtain ⟨hq, q⟩ := mkd_some w
      have hX : ∀ b ∈ s.heap.objs.size :: X, b ∈ X ∨ s.heap.get? b = none := fun b hb => by
        try clear q; try clear hq; try clear C; try clear hl
        cases hb with
        | head => exact .inr (get_fresh _)
        | tail _ h => exact .inl h
      have S1 : SR c as (s.heap.objs.size :: X) H { s with heap := s.heap.push { cls := .type "dict", data := .dict #[] } } := R.S.opens (.push _ _) hX (fun b hb => by
        cases hb with
        | head => exact ⟨_, Heap.get?_push_size _ rfl⟩
        | tail _ h => obtain ⟨o, e⟩ := R.S.xs b h; exact ⟨o, Heap.get?_push_of_some _ e⟩) rfl rfl
      exact wpAny_Dict_empty (dict_res (ys := []) (get_fresh _) (fresh_x R.S) (fresh_out R.S) (sys_fresh C R.S) (R.S.base_none (get_fresh _)) (.refl ..) (Grown.kept (.push _ _) as X) S1 (Heap.DictOf.new _) rfl .nil (Nat.zero_le _) q)
  · have hall : ks.all (·.isSome) = true := by
      clear h0 h15 hl w
      induction hk with
      | nil => rfl
      | cons a _ ih => obtain ⟨_, _, _, rfl, _⟩ := a; exact ih
    refine dict_tail (mu := mu) C hall hl h0 h15 R fun R1 => wpAny_mono (se_pairs hk h hl R1 w) (fun ps s₂ r => ?_) fun _ _ e => e
    refine ea1_3 r ?_
    try clear r
    intro ys hc hy p_4
    obtain ⟨vs, H₂, as₂, e2, S2, k2, hvs, q⟩ := p_4
    replace q := mkd_some q
    obtain ⟨hq, q⟩ := q
    exact ⟨kcs, ys, hc, hy, hq.2.2, vs, H₂, as₂, e2, S2, k2, hvs, hq.1 ▸ hq.2.1, q⟩
theorem mkd1_some {k v : V} {H : AH} {Q : QE} {mu : Bool} (q : okE (primM c.P mu .mkdict1 [k, v] H) Q) : ∃ kc, k = .str kc ∧ if mu then Q (.ref H.length) (H ++ [.dict [kc] [v]]) else Q (.dct [kc] [v]) H := by
  refine ea2_1 (prim_of_M q) ?_
  intro r H' e
  refine ea1_2 (map_is (show Option.map _ k.txt = _ from e)) ?_
  intro kc h1 _
  try clear e
  try clear H'; try clear r
  replace h1 := V.txt_is h1
  cases h1
  refine ⟨kc, rfl, ?_⟩
  try clear h1; try clear kc
  cases mu with
  | false => exact q
  | true => exact q
theorem se_dict1 {ke ve : Expr} {a b : Ex} {pos : Pos} {mu : Bool} (C : Cok c T.gl) (hk : SE c n T ke a) (hv : SE c n T ve b) : SE c n T (.Dict [some ke] [ve] pos) (.prim mu .mkdict1 [a, b]) := by
  refine ⟨?_⟩
  intro env A s as X H ρ Q XX R w
  rw [wpE_prim, wpEs_cons] at w
  refine dict_tail (mu := mu) C rfl rfl (fun h => nomatch h) (show 1 ≤ 15 by decide) R fun R1 => pairTrees_cons_walk (wpAny_mono (hk.run R1 w) (fun y s₁ r => ?_) fun _ _ e => e)
  obtain ⟨kv, H₁, as₁, e1, S1, k1, hkv, w1⟩ := r
  rw [wpEs_cons] at w1
  refine wpAny_mono (hv.run (R1.next e1 k1 S1) w1) (fun z s₂ r => pairTrees_nil_walk ?_) fun _ _ e => e.lift e1 k1
  obtain ⟨v, H₂, as₂, e2, S2, k2, hvv, q⟩ := r
  replace q := mkd1_some (okQ q).2
  refine ea1_2 q ?_
  try clear q
  intro kc q_2 q1
  subst q_2
  cases hkv.inv
  exact ⟨[kc], [z], ⟨kd_is _ _, rfl, trivial⟩, rfl, List.pairwise_singleton _ _, [v], H₂, as₂, e1.trans k1 e2, S2, k1.trans e1 k2, .cons hvv .nil, (show 1 ≤ 15 by decide), q1⟩
end
end Mine

end
noncomputable section
namespace Mine
open PySem PySem.Calls PyProof.Rows
section
variable {c : Cx} {n : Nat} {T : Tb}
structure SO (c : Cx) (n : Nat) (T : Tb) (o : Option Expr) (ex : Ex) : Prop where
  run : ∀ {env : Env} {A : Around} {s : Shared} {as : Adr} {X : List Addr} {H : AH} {ρ : Fm} {Q : QE} {XX : XE},
  Rdy c T env A n s as X H ρ → wpE c.P (callF c.P n) ex ρ H Q XX → wpAny c.M A (evalPart o env) (Res c as X s.heap Q) (ERes c as X s.heap XX) s
theorem opt_ok {r : Expr → Option Ex} {o : Option Expr} {ex : Ex} (ih : ∀ {e : Expr} {ex : Ex}, r e = some ex → SE c n T e ex) (h : cOpt r o = some ex) : SO c n T o ex := by
  cases o with
  | none =>
    try clear ih
    cases h
    exact ⟨fun R w => wpAny_pure (Res.now (tk := _) R.S .none w)⟩
  | some e => exact ⟨fun R w => (ih h).run R w⟩

theorem clip_int (n : Nat) (i : Int) : ((clip n i : Nat) : Int) = max 0 (min (if i < 0 then i + n else i) n) := by
  unfold clip
  by_cases h : i < 0
  · rw [if_pos h, if_pos h]
    by_cases h2 : i + n < 0
    · rw [if_pos h2]; lia
    · rw [if_neg h2]; lia
  · rw [if_neg h, if_neg h]
    by_cases h2 : i < n
    · rw [if_pos h2]; lia
    · rw [if_neg h2]; lia
theorem idx_str (lo hi : Option Int) (n : Nat) : Builtin.Str.strSliceIndices lo hi 1 n = (List.range (hiN n hi - loN n lo)).map (loN n lo + ·) := by
  rw [← sliceRange_one]
  have e1 : ∀ a b a' b' : Int, a = a' → b = b' → sliceRange a b 1 = sliceRange a' b' 1 := fun _ _ _ _ h h' => by rw [h, h']
  refine e1 _ _ _ _ ?_ ?_
  · try clear e1; try clear hi
    cases lo with
    | none => rfl
    | some i => exact (clip_int n i).symm
  · try clear lo
    cases hi with
    | none => rfl
    | some i => exact (clip_int n i).symm
theorem slice_take {α : Type} (xs : List α) (a b : Nat) : (xs.drop a).take (b - a) = sliceL xs a b := by
  unfold sliceL
  rw [List.drop_take]
theorem hiN_le (n : Nat) (o : Option Int) : hiN n o ≤ n := by
  cases o with
  | none => exact Nat.le_refl _
  | some i => have := clip_int n i; show clip n i ≤ n; lia
theorem txt_slice (xs : List Char) (lo hi : Option Int) : Txt.slice (toS xs) lo hi = toS (sliceL xs (loN xs.length lo) (hiN xs.length hi)) := by
  unfold Txt.slice
  rw [toS_length, idx_str, pick_run]
  have e : (toS xs).cps.toList = xs.map Char.toNat := by simp [toS]
  have hh := hiN_le xs.length hi
  split
  · rename_i h
    simp only [BEq.rfl, Bool.true_and, List.length_map, List.length_range, beq_iff_eq] at h
    by_cases h0 : xs.length = 0
    · have : xs = [] := List.length_eq_zero_iff.mp h0
      try clear hh; try clear e; try clear hi; try clear lo; try clear xs
      subst this
      simp [sliceL]
    · have h1 : loN xs.length lo = 0 := by lia
      have h2 : hiN xs.length hi = xs.length := by lia
      rw [h1, h2, sliceL, List.take_length]; rfl
  · rw [e, slice_take]
    unfold toS
    simp [sliceL, List.map_take, List.map_drop]
theorem pick_items (items : Array Value) (lo hi : Option Int) : (slicePick items lo hi none).toList = sliceL items.toList (loN items.size lo) (hiN items.size hi) := by
  unfold slicePick
  have e1 : (sliceBounds lo hi none items.size).1 = ((loN items.size lo : Nat) : Int) := by
    try clear hi; try clear items
    cases lo with
    | none => rfl
    | some i => exact (clip_int _ i).symm
  have e2 : (sliceBounds lo hi none items.size).2.1 = ((hiN items.size hi : Nat) : Int) := by
    try clear lo
    cases hi with
    | none => rfl
    | some i => exact (clip_int _ i).symm
  rw [e1, e2, show (sliceBounds lo hi none items.size).2.2 = 1 from rfl, sliceRange_one, pick_run, slice_take]
theorem VRs.slice {as : Adr} {X : List Addr} {h : HP} {vs : List V} {cs : List Value} (r : VRs c as X h vs cs) (a b : Nat) : VRs c as X h (sliceL vs a b) (sliceL cs a b) := (r.take b).drop a

theorem part_of {as : Adr} {X : List Addr} {h : HP} {v : V} {y : Value} {o : Option Int} (hv : VR c as X h v y) (e : partOf v = some o) : IsPart y o ∧ ∃ l : Option (Int × Tok), y = partValue l ∧ l.map (·.1) = o := by
  cases v <;> first | (cases e; done) | skip
  · cases hv.inv; cases e; exact ⟨.none, none, rfl, rfl⟩
  · cases hv.inv; cases e; exact ⟨.int _ _, some (_, _), rfl, rfl⟩

section
variable {A : Around} {E : Value → Shared → Prop} {s : Shared} {as : Adr} {X : List Addr} {H : AH} {Q : QE} {v r : V} {lo hi : Option Int} {y yl yu : Value}
abbrev slObj (yl yu : Value) : Obj := { cls := .type "slice", data := .fields #[yl, yu, .none] }
theorem sl_str {t : List Char} (hsz : t.length ≤ sizeOf') (S : SR c as X H s) (hv : VR c as X s.heap (.str t) y) (pl : ∃ l : Option (Int × Tok), yl = partValue l ∧ l.map (·.1) = lo) (pu : ∃ l : Option (Int × Tok), yu = partValue l ∧ l.map (·.1) = hi)
    (q : Q (.str (sliceL t (loN t.length lo) (hiN t.length hi))) H) : ItemOn c.M A E y (.ref s.heap.objs.size) (Res c as X s.heap Q) { s with heap := s.heap.push (slObj yl yu) } := by
  refine ea1_2 pl ?_
  try clear pl
  intro l q_2 q_3
  subst q_2
  subst q_3
  refine ea1_2 pu ?_
  try clear pu
  intro u q_2 q_3
  subst q_2
  subst q_3
  cases hv.inv with
  | str tk hb =>
    refine ⟨"str", _, F.slot_str_getitem.lookup, typeIs_str _ _ _, wpAny_getItem_str_slice (l := l) (u := u) (st := none) ⟨_, Heap.get?_push_size _ rfl, rfl, rfl⟩ rfl ?_⟩
    have hl : (sliceL t (loN t.length (l.map (·.1))) (hiN t.length (u.map (·.1)))).length ≤ t.length := by unfold sliceL; rw [List.length_drop, List.length_take]; lia
    have fin : ∀ t' k, Res c as X s.heap Q (.str (Txt.slice (toS t) (l.map (·.1)) (u.map (·.1))) t') { s with heap := s.heap.push (slObj (partValue l) (partValue u)), toks := k } := fun t' k => by
      rw [txt_slice]
      exact Res.grow (s' := { s with heap := s.heap.push (slObj (partValue l) (partValue u)), toks := k }) S (.push _ _) rfl rfl (.str _ _ (by (exact Nat.le_trans (by assumption) (by assumption)))) q
    refine post_val_or_str (c := _) ⟨?_, fun t' k => fin t' k⟩
    show (Txt.slice (toS t) (l.map (·.1)) (u.map (·.1))).length ≤ sizeLine
    rw [txt_slice, toS_length]
    have := sizeOf'_le
    lia
theorem sl_view (S : SR c as X H s) (hv : VR c as X s.heap v y) (pl : IsPart yl lo) (pu : IsPart yu hi) (e : ((view H v).bind fun t => if t.length ≤ sizeOf' then some (V.lst (sliceL t (loN t.length lo) (hiN t.length hi))) else none) = some r)
    (q : Q r H) : ItemOn c.M A E y (.ref s.heap.objs.size) (Res c as X s.heap Q) { s with heap := s.heap.push (slObj yl yu) } := by
  replace e := Option.bind_eq_some_iff.mp e
  refine ea1_2 e ?_
  try clear e
  intro vs hvs e
  split at e
  · rename_i hz
    cases e
    replace hv := view_at S hv hvs
    obtain ⟨a, items, rfl, hp, rr, hs⟩ := hv
    try clear hvs
    have hl := rr.len_arr
    have hz2 := sizeOf'_le
    have hz3 := sizeOf'_bnd
    have hp' : (s.heap.push (slObj yl yu)).IsList a items := let ⟨o, e, r⟩ := hp.isList; ⟨o, Heap.get?_push_of_some _ e, r⟩
    refine ⟨"list", _, slot_list_getitem.lookup, hp'.typeIs, wpAny_getItem_list_slice hp' (Heap.IsSliceOf.new ..) pl pu .none (by simp) ?_ (by lia)⟩
    have g : Grown s.heap ((s.heap.push (slObj yl yu)).push { cls := .type "list", data := .seq (slicePick items lo hi none) }) := (Grown.push _ _).trans (Grown.push _ _)
    have S1 : SR c as X H { s with heap := s.heap.push (slObj yl yu) } := S.grow (.push _ _) rfl rfl
    have hr : VRs c as X s.heap (sliceL vs (loN vs.length lo) (hiN vs.length hi)) (slicePick items lo hi none).toList := by
      rw [pick_items, hl]
      exact rr.slice _ _
    have hlen : (sliceL vs (loN vs.length lo) (hiN vs.length hi)).length ≤ vs.length := by unfold sliceL; rw [List.length_drop, List.length_take]; lia
    exact Res.grow (s' := { s with heap := _ }) S g rfl rfl (.lst (fresh_out S1) (fresh_x S1) ⟨_, Heap.get?_push_size _ rfl⟩ (hr.grow g) (by (exact Nat.le_trans (by assumption) (by assumption)))) q
  · try clear vs; try clear pu; try clear hv; try clear S; try clear pl; try clear q
    cases e
end
theorem se_slice {ve : Expr} {q p : Pos} {lo hi : Option Expr} {a b d : Ex} (h₁ : SE c n T ve a) (h₂ : SO c n T lo b) (h₃ : SO c n T hi d) : SE c n T (.Subscript ve (.Slice lo hi none q) p) (.prim false .slice [a, b, d]) := by
  refine ⟨?_⟩
  intro env A s as X H ρ Q XX R w
  rw [wpE_prim, wpEs_cons] at w
  refine Subscript_ (wpAny_mono (h₁.run R w) (fun y s₁ r => ?_) fun _ _ e => e)
  obtain ⟨v, H₁, as₁, e1, S1, k1, hv, w1⟩ := r
  rw [wpEs_cons] at w1
  have R1 := R.next e1 k1 S1
  refine wpAny_Slice (wpAny_mono (h₂.run R1 w1) (fun yl s₂ r => ?_) fun _ _ e => e.lift e1 k1)
  obtain ⟨vl, H₂, as₂, e2, S2, k2, hvl, w2⟩ := r
  rw [wpEs_cons] at w2
  refine wpAny_mono (h₃.run (R1.next e2 k2 S2) w2) (fun yu s₃ r => ?_) fun _ _ e => (e.lift e2 k2).lift e1 k1
  obtain ⟨vu, H₃, as₃, e3, S3, k3, hvu, w3⟩ := r
  rw [wpEs_nil] at w3
  refine wpAny_pure ?_
  have hv3 := (hv.keep k2 e2).keep k3 e3
  have hvl3 := hvl.keep k3 e3
  refine ea2_2 (okE_some w3) ?_
  intro r H' e q'
  try clear w3
  replace e := Option.bind_eq_some_iff.mp (show (partOf vl).bind _ = _ from e)
  refine ea1_2 e ?_
  try clear e
  intro lo' hlo e
  replace e := Option.bind_eq_some_iff.mp e
  refine ea1_2 e ?_
  try clear e
  intro hi' hhi e
  refine ea1_2 (Option.map_eq_some_iff.mp e) ?_
  intro r' er h
  try clear e
  try clear r'; try clear H'; try clear H₃; try clear vu; try clear w2; try clear hvl; try clear S2; try clear as₂; try clear H₂; try clear R1; try clear w1; try clear hv; try clear S1; try clear as₁; try clear H₁; try clear h₁; try clear h₃; try clear h₂
  cases h
  obtain ⟨pl1, pl2⟩ := part_of hvl3 hlo
  try clear hvl3; try clear hlo
  obtain ⟨pu1, pu2⟩ := part_of hvu hhi
  try clear hvu; try clear hhi
  have up : ∀ {x : Value} {s' : Shared}, Res c as₃ X s₃.heap Q x s' → Res c as X s.heap Q x s' := fun z => ((z.lift e3 k3).lift e2 k2).lift e1 k1
  have fin : ItemOn c.M A (ERes c as X s.heap XX) y (.ref s₃.heap.objs.size) (Res c as₃ X s₃.heap Q) { s₃ with heap := s₃.heap.push (slObj yl yu) } := by
    try clear up; try clear h; try clear k3; try clear e3; try clear as₃; try clear k2; try clear e2; try clear k1; try clear e1
    cases v with
    | str t =>
      have e' : (if t.length ≤ sizeOf' then some (V.str (sliceL t (loN t.length lo') (hiN t.length hi'))) else none) = some r := er
      split at e'
      · rename_i hz; cases e'; exact sl_str hz S3 hv3 pl2 pu2 q'
      · try clear pu2; try clear pu1; try clear pl2; try clear pl1; try clear er; try clear hi'; try clear lo'; try clear q'; try clear r; try clear hv3; try clear S3; try clear v
        cases e'
    | _ => exact sl_view S3 hv3 pl1 pu1 er q'
  refine ea2_3 fin ?_
  try clear fin
  intro T' id f1 f2 f3
  exact tail_any f2 f1 (wpAny_mono f3 (fun _ _ z => up z) fun _ _ z => z) rfl
end
end Mine

end
noncomputable section
namespace Mine
open PySem PySem.Calls PyProof.Rows

structure EOk (c : Cx) (n : Nat) (T : Tb) (e : Expr) (ex : Ex) : Prop where
  se : SE c n T e ex
  st : ST c n T e ex
  ns : NS e
  nset : NSet e

section
variable {c : Cx} {n : Nat} {gl : List (Str × Gl)}

theorem behind_ns {op : CmpOp} {e : Expr} (h : NSet e) : behindInMarks op e = false := by
  cases e with
  | Set a k p => exact absurd rfl (h a k p)
  | _ => rfl

theorem A2.imp {α β : Type} {R R' : α → β → Prop} (hi : ∀ a b, R a b → R' a b) {l : List α} {m : List β} (h : A2 R l m) : A2 R' l m := by
  induction h with
  | nil => exact .nil
  | cons x _ ih => exact .cons (hi _ _ x) ih

theorem plain_ok {r : Expr → Option Ex} {T : Tb} {v sl : Expr} {p : Pos} {ex : Ex} (ih : ∀ {e : Expr} {ex : Ex}, r e = some ex → SE c n T e ex ∧ NS e) (hs : isSlice sl = false) (h : ((r v).bind fun a => (r sl).map fun b => Ex.prim false .item [a, b]) = some ex) : SE c n T (.Subscript v sl p) ex := by
  replace h := Option.bind_eq_some_iff.mp h
  refine ea1_2 h ?_
  try clear h
  intro a h1 h
  try clear a
  replace h := Option.map_eq_some_iff.mp h
  refine ea1_2 h ?_
  try clear h
  intro b h2 q_3
  subst q_3
  exact se_item hs (ih h1).1 (ih h2).1
theorem slice_ok {r : Expr → Option Ex} {T : Tb} {v : Expr} {lo hi st : Option Expr} {q p : Pos} {ex : Ex} (ih : ∀ {e : Expr} {ex : Ex}, r e = some ex → SE c n T e ex ∧ NS e) (h : cSub r v (.Slice lo hi st q) = some ex) : SE c n T (.Subscript v (.Slice lo hi st q) p) ex := by
  replace h := ite_some h
  obtain ⟨hn, h⟩ := h
  rw [Option.isNone_iff_eq_none] at hn
  subst hn
  replace h := Option.bind_eq_some_iff.mp h
  refine ea1_2 h ?_
  try clear h
  intro a h1 h
  replace h := Option.bind_eq_some_iff.mp h
  refine ea1_2 h ?_
  try clear h
  intro b h2 h
  try clear b; try clear a; try clear hn
  replace h := Option.map_eq_some_iff.mp h
  refine ea1_2 h ?_
  try clear h
  intro d h3 q_3
  subst q_3
  exact se_slice (ih h1).1 (opt_ok (fun q => (ih q).1) h2) (opt_ok (fun q => (ih q).1) h3)
theorem sub_ok {r : Expr → Option Ex} {T : Tb} {v sl : Expr} {p : Pos} {ex : Ex} (ih : ∀ {e : Expr} {ex : Ex}, r e = some ex → SE c n T e ex ∧ NS e) (h : cSub r v sl = some ex) : SE c n T (.Subscript v sl p) ex := by
  cases sl with
  | Slice lo hi st q =>
    exact slice_ok ih h
  | _ => exact plain_ok ih rfl h

theorem eok_plain {T : Tb} {e : Expr} {ex : Ex} (h : SE c n T e ex) (hp : ∀ env whole, isTrue e env whole = (do let v ← whole; standAt e.pos; holding [v] (truthy v))) (ns : NS e) (nset : NSet e) : EOk c n T e ex := ⟨h, st_plain hp h, ns, nset⟩

abbrev okNS (e : Expr) : Prop := NS e ∧ NSet e

theorem glob_ok {k : Nat} {T : Tb} {g : Str} {p : Pos} {gv : Gl} {args : List Expr} {pos : Pos} {ex : Ex} (C : Cok c T.gl) (sc : SC c n) (hf : ∀ x f, T.gl.lookup x = some (.fn f) → ∃ fn, c.P.fns f = some fn) (ih : ∀ {e : Expr} {ex : Ex}, cE k T e = some ex → EOk c n T e ex)
    (h1 : T.glob g = some gv) (h : cGl (cE k T) T args pos gv = some ex) : SE c n T (.Call (.Name g p) args [] pos) ex := by
  have ihE : ∀ {es : List Expr} {xs : List Ex}, mapO (cE k T) es = some xs → SEs c n T es xs := fun q => mapO_A2 (R := fun e x => SE c n T e x ∧ NS e) (fun _ _ q => ⟨(ih q).se, (ih q).ns⟩) q
  cases gv with
  | fn i =>
    try clear ih
    replace h := Option.map_eq_some_iff.mp h
    refine ea1_2 h ?_
    try clear h
    intro es h2 q_3
    subst q_3
    exact se_call C sc h1 (hf _ _ (ge_of h1).2.1) (ihE h2)
  | bi b =>
    by_cases hb : b = "isinstance"
    · try clear ihE; try clear sc; try clear hf
      subst hb
      have e : cGl (cE k T) T args pos (.bi "isinstance") = cIsi (cE k T) T args := rfl
      replace h := twoL_some (e.symm.trans h)
      refine ea2_2 h ?_
      try clear h
      intro x y q_3 h
      subst q_3
      replace h := Option.bind_eq_some_iff.mp h
      refine ea1_2 h ?_
      try clear h
      intro t h5 h
      try clear t; try clear y; try clear x
      replace h5 := nmE_some h5
      obtain ⟨p', rfl⟩ := h5
      replace h := Option.bind_eq_some_iff.mp h
      refine ea1_2 h ?_
      try clear h
      intro g2 h2 h
      replace h := Option.bind_eq_some_iff.mp h
      refine ea1_2 h ?_
      try clear h
      intro pr h6 h
      replace h := Option.map_eq_some_iff.mp h
      refine ea1_2 h ?_
      try clear h
      intro a h3 q_3
      subst q_3
      try clear a; try clear h
      cases g2 with
      | ty tn =>
        by_cases hv : tn = "ValueError"
        · try clear pr; try clear h4; try clear ty; try clear tn; try clear g2
          subst hv
          cases h6
          exact se_isX C h1 h2 (.inl ⟨rfl, rfl⟩) (ih h3).se (ih h3).ns
        · replace h6 := Option.map_eq_some_iff.mp ((if_neg hv).symm.trans h6 : (tyOf tn).map Prim.isinst = some pr)
          refine ea1_2 h6 ?_
          try clear h6
          intro ty h4 q_3
          subst q_3
          try clear tn; try clear pr
          exact se_isinst C h1 h2 h4 (ih h3).se (ih h3).ns
      | exc j => cases h6; exact se_isX C h1 h2 (.inr ⟨j, rfl, rfl⟩) (ih h3).se (ih h3).ns
      | _ => cases h6
    · have e : cGl (cE k T) T args pos (.bi b) = ((biPrim b args.length).bind fun p => (mapO (cE k T) args).map fun es => Ex.prim false p es) := by
        show (if b = "isinstance" then _ else _) = _
        exact if_neg hb
      replace h := Option.bind_eq_some_iff.mp (e.symm.trans h)
      refine ea1_2 h ?_
      try clear h
      intro p h2 h
      try clear p
      replace h := Option.map_eq_some_iff.mp h
      refine ea1_2 h ?_
      try clear h
      intro es h3 q_3
      subst q_3
      exact se_biPrim C h1 (ihE h3) h2
  | ty t =>
    replace h := Option.bind_eq_some_iff.mp h
    refine ea1_2 h ?_
    try clear h
    intro p h2 h
    try clear p
    replace h := Option.map_eq_some_iff.mp h
    refine ea1_2 h ?_
    try clear h
    intro es h3 q_3
    subst q_3
    exact se_tyPrim C h1 (ihE h3) h2
  | cls ms ats f =>
    replace h := oneL_some h
    refine ea1_2 h ?_
    try clear h
    intro x q_2 h2
    subst q_2
    try clear x; try clear h
    replace h2 := map_is h2
    refine ea1_2 h2 ?_
    try clear h2
    intro a h3 q_3
    subst q_3
    exact se_new C sc h1 (ih h3).se (ih h3).ns
  | _ => cases h
theorem cAttr_is {r : Expr → Option Ex} {T : Tb} {o : Expr} {name : Str} {q : Ex × List Char} (h : cAttr r T o name = some q) : ∃ x ms ats f a, (x, Gl.cls ms ats f) ∈ T.gl ∧ toS q.2 ∈ ats ∧ attrOk o = true ∧ name = toS q.2 ∧ r o = some a ∧ q.1 = a := by
  obtain ⟨hok, h1⟩ := ite_some h
  try clear h
  refine ea1_2 (bind_is h1) ?_
  intro p h2 h3
  try clear h1
  obtain ⟨hin, h4⟩ := ite_some h3
  try clear h3
  refine ea1_2 (bind_is h4) ?_
  intro nm h5 h6
  try clear h4
  try clear nm; try clear p
  replace h6 := map_is h6
  refine ea1_2 h6 ?_
  try clear h6
  intro a h7 q_3
  subst q_3
  obtain ⟨x, hx⟩ := clOf_some h2
  try clear h2
  have e := (fromS_ok h5).1
  exact ⟨x, _, _, _, a, hx, e ▸ List.contains_iff_mem.mp hin, hok, e.symm, h7, rfl⟩
theorem call_ok {k : Nat} {T : Tb} {f : Expr} {args : List Expr} {kws : List Keyword} {pos : Pos} {ex : Ex} (C : Cok c T.gl) (sc : SC c n) (hf : ∀ x f, T.gl.lookup x = some (.fn f) → ∃ fn, c.P.fns f = some fn) (ih : ∀ {e : Expr} {ex : Ex}, cE k T e = some ex → EOk c n T e ex)
    (h : cCall (cE k T) T f args kws pos = some ex) : SE c n T (.Call f args kws pos) ex := by
  replace h := nilL_some h
  obtain ⟨rfl, h⟩ := h
  cases f with
  | Name g p =>
    replace h := Option.bind_eq_some_iff.mp h
    refine ea1_2 h ?_
    try clear h
    intro gv h1 h
    exact glob_ok C sc hf ih h1 h
  | Attribute o name apos =>
    replace h := ite_some h
    obtain ⟨hc, h⟩ := h
    by_cases hmp : (methPrim name args.length (zeroA args)).isSome = true
    rotate_left
    · have h' := (if_neg hmp).symm.trans h
      obtain ⟨hlt, h1⟩ := ite_some h'
      try clear h'
      refine ea1_2 (bind_is h1) ?_
      intro q h2 h3
      try clear h1
      refine ea1_2 (bind_is h3) ?_
      intro g h4 h5
      try clear h3
      refine ea1_2 (bind_is h5) ?_
      intro nm h6 h7
      try clear h5
      refine ea1_2 (bind_is h7) ?_
      intro a h8 h9
      try clear h7
      try clear a; try clear nm; try clear g; try clear q; try clear h; try clear hf
      replace h9 := map_is h9
      refine ea1_2 h9 ?_
      try clear h9
      intro es h10 q_3
      subst q_3
      obtain ⟨x, hx⟩ := clOf_some h2
      try clear h2
      try clear es; try clear h9
      replace h6 := (fromS_ok h6).1
      cases h6
      exact se_meth (C.cl x _ _ _ hx) C sc h4 hc.1 hc.2 hlt (ih h8).se (mapO_A2 (R := fun e x => SE c n T e x ∧ NS e) (fun _ _ q => ⟨(ih q).se, (ih q).ns⟩) h10)
    have h := (if_pos hmp).symm.trans h
    replace h := Option.bind_eq_some_iff.mp h
    refine ea1_2 h ?_
    try clear h
    intro tp h1 h
    replace h := Option.bind_eq_some_iff.mp h
    refine ea1_2 h ?_
    try clear h
    intro a h2 h
    try clear a; try clear tp; try clear sc; try clear C
    replace h := Option.map_eq_some_iff.mp h
    refine ea1_2 h ?_
    try clear h
    intro es h3 q_3
    subst q_3
    exact se_methPrim hc.1 hc.2 (ih h2).se (mapO_A2 (R := fun e x => SE c n T e x ∧ NS e) (fun _ _ q => ⟨(ih q).se, (ih q).ns⟩) h3) h1 fun q => (Bool.and_eq_true_iff.mp q).2
  | _ => cases h

inductive CompR (c : Cx) (n : Nat) (T : Tb) (elt : Expr) (scope : Scope) : List Comprehension → Ex → Prop
  | mk {x : Str} {px : Pos} {iter : Expr} {ifs : List Expr} {b i : Ex} {cond : Option Ex} {mu : Bool} : CompF T x scope → NSet iter → SE c n T iter i → SE c n (compTb T x scope) elt b →
      ((ifs = [] ∧ cond = none) ∨ ∃ t q, ifs = [t] ∧ cond = some q ∧ ST c n (compTb T x scope) t q) → CompR c n T elt scope [⟨.Name x px, iter, ifs, 0⟩] (.comp mu b i cond)
theorem ifs_some {r : Expr → Option Ex} {l : List Expr} {q : Option Ex} (h : cIfs r l = some q) : (l = [] ∧ q = none) ∨ ∃ t x, l = [t] ∧ q = some x ∧ r t = some x := by
  cases l with
  | nil => cases h; exact .inl ⟨rfl, rfl⟩
  | cons t l =>
    replace h := nilL_some h
    obtain ⟨rfl, h⟩ := h
    replace h := Option.map_eq_some_iff.mp h
    refine ea1_2 h ?_
    try clear h
    intro x h1 q_3
    subst q_3
    exact .inr ⟨t, x, rfl, rfl, h1⟩
theorem comp_ok {k : Nat} {T : Tb} {elt : Expr} {gens : List Comprehension} {scope : Scope} {pos : Pos} {ex : Ex} (ih : ∀ {T' : Tb} {e : Expr} {ex : Ex}, T'.gl = T.gl → cE k T' e = some ex → EOk c n T' e ex) (h : cComp (cE k) T elt gens scope pos = some ex) :
    CompR c n T elt scope gens ex := by
  replace h := oneL_some h
  refine ea1_2 h ?_
  try clear h
  intro p_1 q_2 h
  subst q_2
  obtain ⟨t, it, ifs, ia⟩ := p_1
  replace h := Option.bind_eq_some_iff.mp h
  refine ea1_2 h ?_
  try clear h
  intro x h1 h
  replace h := ite_some h
  obtain ⟨hc, h⟩ := h
  replace h := Option.bind_eq_some_iff.mp h
  refine ea1_2 h ?_
  try clear h
  intro i h2 h
  replace h := Option.bind_eq_some_iff.mp h
  refine ea1_2 h ?_
  try clear h
  intro b h3 h
  try clear b; try clear i; try clear ia; try clear ifs; try clear it
  refine ea1_2 (Option.map_eq_some_iff.mp h) ?_
  intro q h4 q_3
  subst q_3
  try clear q
  replace h1 := nmE_some h1
  obtain ⟨px, rfl⟩ := h1
  try clear px; try clear h1
  obtain ⟨rfl, hok⟩ := hc
  refine .mk (compF hok) (ih rfl h2).nset (ih rfl h2).se (ih (T' := compTb T x scope) rfl h3).se ?_
  try clear hok; try clear h3; try clear h2; try clear hc
  rcases ifs_some h4 with h | ⟨t, y, h5, h6, h7⟩
  · exact .inl h
  · exact .inr ⟨t, y, h5, h6, (ih (T' := compTb T x scope) rfl h7).st⟩
theorem cmp_ok {r : Expr → Option Ex} {T : Tb} {l : Expr} {ops : List CmpOp} {rs : List Expr} {p : Pos} {ex : Ex} (ih : ∀ {e : Expr} {ex : Ex}, r e = some ex → EOk c n T e ex) (h : cCmp r l ops rs = some ex) : SE c n T (.Compare l ops rs p) ex ∧ ST c n T (.Compare l ops rs p) ex := by
  match ops, h with
  | [op], h =>
    refine ea1_2 (oneL_some h) ?_
    intro x q_2 h
    subst q_2
    refine ea1_2 (Option.bind_eq_some_iff.mp h) ?_
    intro a h1 h
    refine ea1_2 (Option.map_eq_some_iff.mp h) ?_
    intro b h2 q_3
    subst q_3
    exact ⟨se_cmp (behind_ns (ih h2).nset) (ih h1).se (ih h2).se, st_cmp (behind_ns (ih h2).nset) (ih h1).se (ih h2).se⟩
  | [o₁, o₂], h =>
    refine ea2_2 (twoL_some h) ?_
    intro m x q_3 h
    subst q_3
    refine ea1_2 (Option.bind_eq_some_iff.mp h) ?_
    intro a h1 h
    refine ea1_2 (Option.bind_eq_some_iff.mp h) ?_
    intro b h2 h
    refine ea1_2 (Option.map_eq_some_iff.mp h) ?_
    intro d h3 q_3
    subst q_3
    exact ⟨se_cmp2 (behind_ns (ih h3).nset) (ih h1).se (ih h2).se (ih h3).se, st_cmp2 (behind_ns (ih h3).nset) (ih h1).se (ih h2).se (ih h3).se⟩

theorem cE_ok (C : Cok c gl) (sc : SC c n) (hf : ∀ x f, gl.lookup x = some (.fn f) → ∃ fn, c.P.fns f = some fn) (k : Nat) : ∀ {T : Tb} {e : Expr} {ex : Ex}, T.gl = gl → cE k T e = some ex → EOk c n T e ex := by
  induction k with
  | zero => intro T e ex _ h; cases h
  | succ k ih =>
    intro T e ex hg h
    subst hg
    have ihs : ∀ {es : List Expr} {xs : List Ex}, mapO (cE k T) es = some xs → A2 (EOk c n T) es xs := fun q => mapO_A2 (R := EOk c n T) (fun _ _ q => ih rfl q) q
    have ihE : ∀ {es : List Expr} {xs : List Ex}, mapO (cE k T) es = some xs → SEs c n T es xs := fun q => (ihs q).imp fun _ _ x => ⟨x.se, x.ns⟩
    cases e with
    | Constant a b d => exact eok_plain (se_const h) (fun _ _ => rfl) nofun nofun
    | Name a b => exact eok_plain (se_name C h) (fun _ _ => rfl) nofun nofun
    | BinOp l op r pos =>
      refine ea1_2 (Option.bind_eq_some_iff.mp h) ?_
      intro o h1 h
      replace h := Option.bind_eq_some_iff.mp h
      refine ea1_2 h ?_
      try clear h
      intro a h2 h
      try clear a; try clear o; try clear ihE; try clear ihs; try clear hf; try clear sc; try clear k; try clear C
      replace h := Option.map_eq_some_iff.mp h
      refine ea1_2 h ?_
      try clear h
      intro b h3 q_3
      subst q_3
      exact eok_plain (se_binop h1 (ih rfl h2).se (ih rfl h3).se) (fun _ _ => rfl) nofun nofun
    | UnaryOp op x p =>
      refine ea1_2 (Option.bind_eq_some_iff.mp h) ?_
      intro a h1 h
      try clear a
      cases op with
      | Not => cases h; exact ⟨se_not (ih rfl h1).se, st_not (ih rfl h1).st, nofun, nofun⟩
      | USub => cases h; exact eok_plain (se_neg (ih rfl h1).se) (fun _ _ => rfl) nofun nofun
      | _ => cases h
    | BoolOp op vs p =>
      refine ea1_2 (Option.bind_eq_some_iff.mp h) ?_
      intro xs h1 h2
      have q := ihs h1
      refine ⟨⟨?_⟩, ⟨?_⟩, nofun, nofun⟩
      · intro env A s as X H ρ Q XX R w
        exact se_bool (q.imp fun _ _ x => x.se) h2 R w
      · intro env A s as X H ρ P Q XX hP R w
        exact st_bool (q.imp fun _ _ x => x.st) h2 hP R w
    | Compare l ops rs p =>
      obtain ⟨h1, h2⟩ := cmp_ok (fun q => ih rfl q) h
      exact ⟨h1, h2, nofun, nofun⟩
    | Call f args kws pos => exact eok_plain (call_ok C sc hf (fun q => ih rfl q) h) (fun _ _ => rfl) nofun nofun
    | Subscript v sl p => exact eok_plain (sub_ok (fun q => ⟨(ih rfl q).se, (ih rfl q).ns⟩) h) (fun _ _ => rfl) nofun nofun
    | List es pos =>
      refine ea1_2 (Option.map_eq_some_iff.mp h) ?_
      intro xs h1 q_3
      subst q_3
      exact eok_plain (se_list (ihE h1)) (fun _ _ => rfl) nofun nofun
    | Tuple es kk pos =>
      refine ea1_2 (Option.map_eq_some_iff.mp h) ?_
      intro xs h1 q_3
      subst q_3
      exact eok_plain (se_tup (ihE h1)) (fun _ _ => rfl) nofun nofun
    | Dict ks vs p =>
      by_cases hs : (cDict (cE k T) (T.isMu p) ks vs).isSome = true
      · replace h := (if_pos hs).symm.trans h
        clear hs
        obtain ⟨hc, h⟩ := ite_some h
        replace h := Option.bind_eq_some_iff.mp h
        refine ea1_2 h ?_
        try clear h
        intro kcs h1 h
        try clear kcs
        replace h := Option.map_eq_some_iff.mp h
        refine ea1_2 h ?_
        try clear h
        intro xs h2 q_3
        subst q_3
        exact eok_plain (se_dict C (mapO_A2 (R := KeyOk) (fun _ _ q => keyOf_ok q) h1) (ihE h2) hc.1 hc.2) (fun _ _ => rfl) nofun nofun
      · replace h := (if_neg hs).symm.trans h
        clear hs
        refine ea1_2 (oneL_some h) ?_
        intro ko q_2 h5
        subst q_2
        try clear ko
        replace h5 := bind_is h5
        refine ea1_2 h5 ?_
        try clear h5
        intro ke q_2 h6
        subst q_2
        try clear ke; try clear h5
        replace h6 := oneL_some h6
        refine ea1_2 h6 ?_
        try clear h6
        intro ve q_2 h7
        subst q_2
        refine ea1_2 (bind_is h7) ?_
        intro a h1 h8
        try clear h7
        try clear a; try clear ve; try clear h6
        replace h8 := map_is h8
        refine ea1_2 h8 ?_
        try clear h8
        intro b h2 q_3
        subst q_3
        exact eok_plain (se_dict1 C (ih rfl h1).se (ih rfl h2).se) (fun _ _ => rfl) nofun nofun
    | ListComp elt gens scope pos =>
      obtain ⟨ok, hns, hi, he, hc⟩ := comp_ok (fun a q => ih a q) h
      exact eok_plain (se_comp ok hns hi he hc) (fun _ _ => rfl) nofun nofun
    | Attribute o name pos =>
      refine ea1_2 (map_is h) ?_
      intro q h1 q_3
      subst q_3
      refine ea5_6 (cAttr_is h1) ?_
      intro x ms ats f a hx hat hok e1 e2 e3
      try clear h1
      try clear a; try clear f; try clear ats; try clear ms; try clear q
      subst e1
      exact eok_plain (e3 ▸ se_attr (C.cl x _ _ _ hx) hat hok (ih rfl e2).se) (fun _ _ => rfl) nofun nofun
    | _ => cases h
end
end Mine

end
noncomputable section
namespace Mine
open PySem PySem.Calls PyProof.Rows

/-- a frame's own objects -/
abbrev own (env : Env) : List Addr := env.locals :: env.cells.map (·.2)
/-- a frame's own objects, the frame twice -/
abbrev own2 (env : Env) : List Addr := env.locals :: own env

theorem FR.away' {c : Cx} {as : Adr} {X : List Addr} {h : HP} {env : Env} {tab : List (Str × Nat)} {ρ : Fm} {a : Addr} (_F : FR c as X h env tab ρ) (ha : a ∉ own env) : Away [a] env tab :=
  ⟨fun q => ha (by simp at q; rw [← q]; exact .head _), fun x i h1 h2 b e q => ha (by simp at q; subst q; exact .tail _ (List.mem_map.mpr ⟨(x, b), mem_of_lookup e, rfl⟩))⟩

theorem FR.gen {c : Cx} {as : Adr} {X X' Z : List Addr} {h h' b : HP} {q : Bool} {env : Env} {tab : List (Str × Nat)} {ρ : Fm} (F : FR c as X h env tab ρ)
    (hO : ∀ a ∈ own env, a ∈ X → c.base.get? a = none → a ∈ X' ∧ b.get? a = none ∧ ∀ o, h.get? a = some o → ∃ o', h'.get? a = some o' ∧ SameO Z a o o')
    (hk : ∀ a o, some a ∉ as → a ∉ X → h.get? a = some o → a ∉ X' ∧ h'.get? a = some o) : FR (c.to q b) as X' h' env tab ρ := by
  have hv : ∀ {o y}, OVR c as X h o y → OVR (c.to q b) as X' h' o y := fun z v e => by
    refine ea1_2 (z v e) ?_
    intro x e1 e2
    exact ⟨x, e1, VR.gen (fun a o ha hx ho => ⟨ha, hk a o ha hx ho⟩) (fun _ _ e => .inl e) e2⟩
  refine ea0_3 (hO env.locals (.head _) F.lx F.lb) ?_
  intro l1 l2 l3
  refine ⟨F.kind, F.glob, F.bi, l1, F.lout, l2, ?_, fun y i h1 h2 => ?_, F.apart, F.inj⟩
  · refine ea1_2 F.ns ?_
    intro m n r
    try clear F
    exact ⟨m, Ns.same n l3, fun y i h1 h2 => hv (r y i h1 h2)⟩
  · refine ea2_7 (F.cells y i h1 h2) ?_
    intro a z e1 e2 e3 e4 e5 e6 e7
    try clear F
    refine ea0_3 (hO a (.tail _ (List.mem_map.mpr ⟨(y, a), mem_of_lookup e1, rfl⟩)) e2 e4) ?_
    intro l1 l2 l3
    try clear hO; try clear e2; try clear e4
    exact ⟨a, z, e1, l1, e3, l2, e5, IsCell.same e6 l3, hv e7⟩
noncomputable def ResS (c : Cx) (as : Adr) (X : List Addr) (h : HP) (T : Tb) (env : Env) (K : KS) (R : QE) (f : Flow) (s' : Shared) : Prop :=
  match f with
  | .next => ∃ ρ' H' as', Ext as h as' ∧ SR c as' X H' s' ∧ KeptX as X (own env) h s'.heap ∧ FR c as' X s'.heap env T.tab ρ' ∧ ρ'.length = T.n ∧ K ρ' H'
  | .ret x => ∃ v H' as', Ext as h as' ∧ SR c as' X H' s' ∧ KeptX as X (own env) h s'.heap ∧ VR c as' X s'.heap v x ∧ (∃ m, s'.heap.Ns env.locals m) ∧ R v H'
  | _ => False

/-- an exception at a statement: the names stand as they stood there -/
inductive EResS (c : Cx) (as : Adr) (X : List Addr) (h : HP) (T : Tb) (env : Env) (XX : XS) (x : Value) (s' : Shared) : Prop
  | mk (k : Nat) (H' : AH) (as' : Adr) (e : Addr) (t : Option Addr) (ts : List Addr) (ρ' : Fm) : x = .ref e → Ext as h as' → SR c as' (e :: (ts ++ X)) H' s' → KeptX as X (own env) h s'.heap → ExcS s'.heap e (.ref (c.xcls k)) t → (∀ T, t = some T → T ∈ ts) → (∀ a ∈ e :: ts, Apart c as h as' X a) → FR c as' (e :: (ts ++ X)) s'.heap env T.tab ρ' → ρ'.length = T.n → XX ρ' k H' → EResS c as X h T env XX x s'
/-- a frame's objects among all -/
structure Own (A : Around) (X : List Addr) (env : Env) : Prop where
  mem : ∀ b ∈ own env, b ∈ X
  fr : env.frame = some env.locals
  out : ∀ l, A.frames = some l → ∀ e ∈ l, ∀ L, e.frame = some L → L ∉ env.cells.map (·.2)
theorem Own.more {A : Around} {X : List Addr} {env : Env} {I : Addr} (o : Own A X env) : Own A (I :: X) env := ⟨fun b hb => .tail _ (o.mem b hb), o.fr, o.out⟩
theorem EnvFr.step {c : Cx} {A : Around} {X : List Addr} {as as' : Adr} {h h' : HP} {env : Env} {tab : List (Str × Nat)} {ρ : Fm} {X' : List Addr} (f : EnvFr c A X as h env) (o : Own A X env) (E : Ext as h as') (k : KeptX as X (own env) h h') (F : FR c as' X' h' env tab ρ) : EnvFr c A X as' h' env := by
  obtain ⟨env₀, outer, L, h1, h2, h3, h4⟩ := f
  refine ⟨env₀, outer, L, h1, fun a ha => ⟨(h2 a ha).kind, ?_⟩, h3, h4⟩
  refine ea4_6 ((h2 a ha).there) ?_
  intro L' ob es n q1 q2 q3 q4 q5 q6
  try clear h2
  by_cases hL : L' = env.locals
  · try clear q6; try clear q5; try clear q4; try clear n; try clear es; try clear ob; try clear L'; try clear h4; try clear h3; try clear h1; try clear L; try clear outer; try clear env₀; try clear o; try clear E; try clear k; try clear f
    subst hL
    refine ea1_2 F.ns ?_
    intro m p_2 _
    obtain ⟨ob', es', ep, e1, e2, _⟩ := p_2
    exact ⟨_, ob', es', ep, q1, q2, q3, F.lout, e1, e2⟩
  · obtain ⟨ob', e1, s⟩ := k L' ob q5 q4 fun q => by
      try clear s; try clear e1; try clear ob'; try clear q3; try clear q2; try clear F
      cases q with
      | head => exact hL rfl
      | tail _ q => exact o.out _ h1 a ha L' q1 q
    refine ⟨L', ob', es, n, q1, q2, q3, E.out q5 q4, e1, ?_⟩
    try clear q1
    rcases s with rfl | ⟨_, _, sl, rfl⟩
    · exact q6
    · exact q6
theorem KeptX.trans {as as₁ : Adr} {X Y : List Addr} {h h₁ h₂ : HP} (k : KeptX as X Y h h₁) (x : Ext as h as₁) (k' : KeptX as₁ X Y h₁ h₂) : KeptX as X Y h h₂ := fun b o e hb hy => by
  refine ea1_2 (k b o e hb hy) ?_
  intro o₁ e₁ s₁
  refine ea1_2 (k' b o₁ e₁ (x.out e hb) hy) ?_
  intro o₂ e₂ s₂
  exact ⟨o₂, e₂, s₁.trans s₂⟩
theorem Ext.transX {as as₁ as₂ : Adr} {X Y : List Addr} {h h₁ : HP} (x : Ext as h as₁) (k : KeptX as X Y h h₁) (hY : ∀ b ∈ Y, ∃ o, h₁.get? b = some o) (y : Ext as₁ h₁ as₂) : Ext as h as₂ := by
  refine ⟨fun i a e => ?_, fun a ha => ?_⟩
  · try clear k; try clear hY
    rcases x.old i a e with e1 | e1
    · try clear x
      rcases y.old i _ e1 with e2 | e2
      · exact .inl e2
      · exact .inr e2
    · rcases y.old i _ e1 with e2 | e2
      · exact .inr e2
      · exact .inr e2
  · rcases y.new a ha with e1 | e1
    · exact x.new a e1
    · by_cases hm : some a ∈ as
      · exact .inl hm
      · try clear y
        cases hq : h.get? a with
        | none => exact .inr rfl
        | some o =>
          by_cases hy : a ∈ Y
          · obtain ⟨o', e⟩ := hY a hy; rw [e] at e1; cases e1
            try clear hY
          · refine ea1_2 (k a o hq hm hy) ?_
            intro o' e _
            rw [e] at e1; cases e1
            try clear k
theorem KeptX.less {as : Adr} {X X' Y : List Addr} {h h' : HP} (k : KeptX as X' Y h h') (hX : ∀ b, 2 ≤ X'.count b → 2 ≤ X.count b ∨ Fr as h b) : KeptX as X Y h h' := fun b o e hb hy => by
  refine ea1_2 (k b o e hb hy) ?_
  intro o' e' s
  exact ⟨o', e', s.mono fun q => (hX b q).elim id fun r => r.elim (fun r => absurd r hb) fun r => by rw [r] at e; cases e⟩
theorem KeptX.more {as : Adr} {X X' Y : List Addr} {h h' : HP} (k : KeptX as X Y h h') (hX : ∀ b, X.count b ≤ X'.count b) : KeptX as X' Y h h' := fun b o e hb hy => by
  refine ea1_2 (k b o e hb hy) ?_
  intro o' e' s
  exact ⟨o', e', s.mono fun q => Nat.le_trans q (hX b)⟩
theorem KeptX.fr {as : Adr} {X Y : List Addr} {h h' : HP} {a : Addr} (k : KeptX as X Y h h') (hY : ∀ b ∈ Y, ∃ o, h'.get? b = some o) (ha : h'.get? a = none) : Fr as h a := by
  by_cases hm : some a ∈ as
  · exact .inl hm
  · cases hq : h.get? a with
    | none => exact .inr hq
    | some o =>
      by_cases hy : a ∈ Y
      · obtain ⟨o', e⟩ := hY a hy; rw [e] at ha; cases ha
        try clear hY; try clear ha
      · refine ea1_2 (k a o hq hm hy) ?_
        intro o' e _
        rw [e] at ha; cases ha
        try clear k; try clear ha
theorem KeptX.but {as : Adr} {X Y Z : List Addr} {h₀ h h' : HP} (k : KeptX as X Y h₀ h) (b : But Z h h') (hZ : ∀ a ∈ Z, Fr as h₀ a)   : KeptX as X Y h₀ h' := fun x o e hx hy => by
  refine ea1_2 (k x o e hx hy) ?_
  intro o' e' s
  exact ⟨o', b x o' (fun q => by rcases hZ _ q with r | r; exact hx r; rw [r] at e; cases e) e', s⟩

theorem ResS.lift {c : Cx} {as as₁ : Adr} {X : List Addr} {h h₁ : HP} {T : Tb} {env : Env} {K : KS} {R : QE} {f : Flow} {s' : Shared} (e : Ext as h as₁) (k : KeptX as X (own env) h h₁) (hY : ∀ b ∈ own env, ∃ o, h₁.get? b = some o) (r : ResS c as₁ X h₁ T env K R f s') : ResS c as X h T env K R f s' := by
  cases f with
  | next =>
    refine ea3_6 r ?_
    try clear r
    intro ρ' H' as' e' S k' F hl q
    exact ⟨ρ', H', as', e.transX k hY e', S, k.trans e k', F, hl, q⟩
  | ret x =>
    refine ea3_5 r ?_
    try clear r
    intro v H' as' e' S k' hv q
    exact ⟨v, H', as', e.transX k hY e', S, k.trans e k', hv, q⟩
  | _ => exact r.elim
theorem EResS.lift {c : Cx} {as as₁ : Adr} {X : List Addr} {h h₁ : HP} {T : Tb} {env : Env} {XX : XS} {x : Value} {s' : Shared} (e : Ext as h as₁) (k : KeptX as X (own env) h h₁) (hY : ∀ b ∈ own env, ∃ o, h₁.get? b = some o) (r : EResS c as₁ X h₁ T env XX x s') : EResS c as X h T env XX x s' := by
  obtain ⟨n, H', as', a, t, ts, ρ', hx, e', S, k', ex, ht, ap, F, hl, q⟩ := r
  refine ⟨n, H', as', a, t, ts, ρ', hx, e.transX k hY e', S, k.trans e k', ex, ht, fun b hb => ⟨?_, (ap b hb).2⟩, F, hl, q⟩
  try clear hl; try clear F; try clear ht; try clear ex; try clear k'; try clear S; try clear e'; try clear hx; try clear ρ'; try clear ts; try clear t; try clear a; try clear as'; try clear H'; try clear n; try clear r
  rcases (ap b hb).1 with q | q
  · try clear ap; try clear k; try clear hY
    rcases e.new b q with q | q
    · exact .inl q
    · exact .inr q
  · exact k.fr hY q
theorem ERes.none {c : Cx} {as : Adr} {X : List Addr} {h : HP} {x : Value} {s' : Shared} (r : ERes c as X h (fun _ _ => False) x s') : False := by
  obtain ⟨_, _, _, _, _, _, _, _, _, _, _, _, _, q⟩ := r
  exact q
theorem EResS.none {c : Cx} {as : Adr} {X : List Addr} {h : HP} {T : Tb} {env : Env} {x : Value} {s' : Shared} (r : EResS c as X h T env (fun _ _ _ => False) x s') : False := by
  obtain ⟨_, _, _, _, _, _, _, _, _, _, _, _, _, _, _, _, q⟩ := r
  exact q
theorem ERes.toS {c : Cx} {as : Adr} {X : List Addr} {h : HP} {T : Tb} {env : Env} {XX : XS} {x : Value} {s' : Shared} {ρ : Fm} (r : ERes c as X h (XX ρ) x s') (F : FR c as X h env T.tab ρ) (hl : ρ.length = T.n) : EResS c as X h T env XX x s' := by
  obtain ⟨n, H', as', a, t, ts, hx, e', S, k', ex, ht, ap, q⟩ := r
  have hc : ∀ b, X.count b ≤ (a :: (ts ++ X)).count b := fun b => Nat.le_trans (by rw [List.count_append]; exact Nat.le_add_left _ _) List.count_le_count_cons
  have F' : FR c as (a :: (ts ++ X)) h env T.tab ρ := F.gen (q := c.P.q) (b := c.base) (Z := X) (fun b _ hx hb => ⟨.tail _ (List.mem_append_right _ hx), hb, fun o e => ⟨o, e, .inl rfl⟩⟩) fun b o hb hx hh => ⟨fun q => ?_, hh⟩
  · exact ⟨n, H', as', a, t, ts, ρ, hx, e', S, k'.y _, ex, ht, ap, F'.keep (k'.more hc) e', hl, q⟩
  · have : b ∈ a :: ts := by
      try clear F'; try clear hc; try clear ap; try clear ht; try clear ex; try clear k'; try clear S; try clear e'; try clear ts; try clear t; try clear a; try clear as'; try clear H'; try clear n; try clear F; try clear hl; try clear r
      rcases List.mem_cons.mp q with rfl | q
      · exact .head _
      · exact .tail _ ((List.mem_append.mp q).resolve_right hx)
    try clear hx
    rcases (ap b this).1 with q | q
    · exact hb q
    · rw [q] at hh; cases hh
theorem ResS.mono {c : Cx} {as : Adr} {X : List Addr} {h : HP} {T : Tb} {env : Env} {K K' : KS} {R : QE} {f : Flow} {s' : Shared} (r : ResS c as X h T env K R f s') (hK : ∀ ρ H, K ρ H → K' ρ H) : ResS c as X h T env K' R f s' := by
  cases f with
  | next =>
    refine ea3_6 r ?_
    try clear r
    intro ρ' H' as' e' S k' F hl q
    exact ⟨ρ', H', as', e', S, k', F, hl, hK _ _ q⟩
  | ret x => exact r
  | _ => exact r.elim

structure SS (c : Cx) (n : Nat) (T : Tb) (st : Stmt) (sts : List St) : Prop where
  run : ∀ {env : Env} {A : Around} {s : Shared} {as : Adr} {X : List Addr} {H : AH} {ρ : Fm} {K : KS} {R : QE} {XX : XS},
    Rdy c T env A n s as X H ρ → Own A X env → wpSs c.P (callF c.P n) sts ρ H K R XX → wpAny c.M A (exec st env) (ResS c as X s.heap T env K R) (EResS c as X s.heap T env XX) s
structure SB (c : Cx) (n : Nat) (T : Tb) (b : List Stmt) (sts : List St) : Prop where
  run : ∀ {env : Env} {A : Around} {s : Shared} {as : Adr} {X : List Addr} {H : AH} {ρ : Fm} {K : KS} {R : QE} {XX : XS},
    Rdy c T env A n s as X H ρ → Own A X env → wpSs c.P (callF c.P n) sts ρ H K R XX → wpAny c.M A (execs b env) (ResS c as X s.heap T env K R) (EResS c as X s.heap T env XX) s

theorem wpSs_append {P : Prog} {C : Calls} {R : QE} {X : XS} {ys : List St} {K : KS} : ∀ {xs : List St} {ρ : Fm} {H : AH}, wpSs P C (xs ++ ys) ρ H K R X = wpSs P C xs ρ H (fun ρ' H' => wpSs P C ys ρ' H' K R X) R X
  | [], _, _ => rfl
  | s :: xs, ρ, H => by
    rw [List.cons_append, wpSs_cons, wpSs_cons]
    congr 1
    funext ρ' H'
    exact wpSs_append

section
variable {c : Cx} {n : Nat} {T : Tb}

theorem Rdy.step {env : Env} {A : Around} {s s₁ : Shared} {as as₁ : Adr} {X : List Addr} {H H₁ : AH} {ρ ρ₁ : Fm} (R : Rdy c T env A n s as X H ρ) (hY : Own A X env) (e : Ext as s.heap as₁) (k : KeptX as X (own env) s.heap s₁.heap) (S : SR c as₁ X H₁ s₁) (F : FR c as₁ X s₁.heap env T.tab ρ₁) (hl : ρ₁.length = T.n) : Rdy c T env A n s₁ as₁ X H₁ ρ₁ := ⟨R.a, S, F, R.K, hl, R.fr.step hY e k F⟩

theorem sb_of {b : List Stmt} {xss : List (List St)} (h : A2 (SS c n T) b xss) : SB c n T b xss.flatten := by
  induction h with
  | nil =>
    refine ⟨?_⟩
    intro env A s as X H ρ K R XX r hY w
    exact wpAny_execs_nil ⟨ρ, H, as, .refl .., r.S, fun b o e _ _ => ⟨o, e, .inl rfl⟩, r.F, r.len, w⟩
  | @cons st xs l m h₁ _ ih =>
    refine ⟨?_⟩
    intro env A s as X H ρ K R XX r hY w
    rw [List.flatten_cons, wpSs_append] at w
    refine wpAny_execs_cons (wpAny_mono (h₁.run r hY w) (fun f s₁ q => ?_) fun _ _ e => e)
    try clear h
    cases f with
    | next =>
      refine ea3_6 q ?_
      try clear q
      intro ρ₁ H₁ as₁ e1 S1 k1 F1 hl1 w1
      exact wpAny_mono (ih.run (r.step hY e1 k1 S1 F1 hl1) hY w1) (fun f s₂ q => q.lift e1 k1 fun b hb => S1.xs b (hY.mem b hb)) fun _ _ e => e.lift e1 k1 fun b hb => S1.xs b (hY.mem b hb)
    | ret x => exact q
    | _ => exact q.elim

/-- a value of an expression goes on as a statement's -/
theorem Res.toS {env : Env} {as : Adr} {X : List Addr} {h : HP} {K : KS} {Q : QE} {x : Value} {s' : Shared} {ρ : Fm} (F : FR c as X h env T.tab ρ) (r : Res c as X h Q x s') : ResS c as X h T env K Q (.ret x) s' := by
  obtain ⟨v, H', as', e, S, k, hv, q⟩ := r
  refine ea1_2 F.ns ?_
  intro m hn _
  exact ⟨v, H', as', e, S, k.y _, hv, ⟨m, Ns.same hn fun o e => k _ o e F.lout⟩, q⟩

theorem ss_ret {e : Expr} {ex : Ex} {pos : Pos} (h : SE c n T e ex) : SS c n T (.Return (some e) pos) [.ret ex] := by
  refine ⟨?_⟩
  intro env A s as X H ρ K R XX r hY w
  rw [wpSs_cons, wpS_ret] at w
  exact wpAny_Return_some (wpAny_mono (h.run r w) (fun _ _ q => q.toS r.F) fun _ _ e => e.toS r.F r.len)
theorem ss_ret0 {pos : Pos} : SS c n T (.Return none pos) [.ret (.cst .none)] := by
  refine ⟨?_⟩
  intro env A s as X H ρ K R XX r hY w
  rw [wpSs_cons, wpS_ret, wpE_cst] at w
  exact wpAny_Return_none ⟨.none, H, as, .refl .., r.S, fun b o e _ _ => ⟨o, e, .inl rfl⟩, .none, let ⟨m, hn, _⟩ := r.F.ns; ⟨m, hn⟩, w⟩

/-- one statement as it is -/
structure S1 (c : Cx) (n : Nat) (T : Tb) (st : Stmt) (x : St) : Prop where
  run : ∀ {env : Env} {A : Around} {s : Shared} {as : Adr} {X : List Addr} {H : AH} {ρ : Fm} {K : KS} {R : QE} {XX : XS},
    Rdy c T env A n s as X H ρ → Own A X env → wpS c.P (callF c.P n) x ρ H K R XX → wpAny c.M A (exec st env) (ResS c as X s.heap T env K R) (EResS c as X s.heap T env XX) s

theorem s1_expr {e : Expr} {ex : Ex} {pos : Pos} (hc : isComp e = false) (h : SE c n T e ex) : S1 c n T (.Expr e pos) (.expr ex) := by
  refine ⟨?_⟩
  intro env A s as X H ρ K R XX r hY w
  rw [wpS_expr] at w
  have hi : interactive env = false := by unfold interactive; rw [r.F.kind]; rfl
  have hs : swapsWith e none pos.line env = pure false := by cases e <;> first | rfl | cases hc
  rw [exec_Expr env e pos hi hs]
  refine wpAny_bind (wpAny_standAt (wpAny_bind (wpAny_mono (h.run r w) (fun v s₁ q => ?_) fun _ _ e => e.toS r.F r.len)))
  obtain ⟨v, H', as', e, S, k, hv, q⟩ := q
  exact wpAny_dropValue ⟨ρ, H', as', e, S, k.y _, r.F.keep k e, r.len, q⟩

theorem s1_if {t : Expr} {ex : Ex} {a b : List Stmt} {xs ys : List St} {pos : Pos} (h : ST c n T t ex) (ha : SB c n T a xs) (hb : SB c n T b ys) : S1 c n T (.If t a b pos) (.ite ex xs ys) := by
  refine ⟨?_⟩
  intro env A s as X H ρ K R XX r hY w
  rw [wpS_ite] at w
  refine wpAny_If (wpAny_mono (h.run (Q := fun t H' => if t then wpSs c.P (callF c.P n) xs ρ H' K R XX else wpSs c.P (callF c.P n) ys ρ H' K R XX) (fun _ _ q => q) r w) (fun t s₁ q => ?_) fun _ _ e => e.toS r.F r.len)
  obtain ⟨H', as', e, S, k, q⟩ := q
  have r' := r.next e k S
  try clear as'; try clear H'; try clear h
  cases t with
  | true =>
    simp only [if_true] at q ⊢
    exact wpAny_mono (ha.run r' hY q) (fun _ _ q => q.lift e (k.y _) fun b hb => S.xs b (hY.mem b hb)) fun _ _ e' => e'.lift e (k.y _) fun b hb => S.xs b (hY.mem b hb)
  | false =>
    simp only [Bool.false_eq_true, if_false] at q ⊢
    exact wpAny_mono (hb.run r' hY q) (fun _ _ q => q.lift e (k.y _) fun b hb => S.xs b (hY.mem b hb)) fun _ _ e' => e'.lift e (k.y _) fun b hb => S.xs b (hY.mem b hb)

theorem slot_of {x : Str} {i : Nat} {env : Env} (K : KOk T env) (h : T.slot x = some i) : T.tab.lookup x = some i ∧ (env.kindOf x = some .local ∨ env.kindOf x = some .cell) ∧ i < T.n := by
  unfold Tb.slot at h
  split at h
  · rename_i hk
    split at h
    · rename_i j hj
      split at h
      · cases h; exact ⟨hj, .inl (K.loc x hk), by assumption⟩
      · try clear K
        cases h
    · cases h
  · rename_i hk
    split at h
    · rename_i j hj
      split at h
      · cases h; exact ⟨hj, .inr (K.cell x hk), by assumption⟩
      · cases h
    · cases h
  · cases h

theorem s1_asg {x : Str} {i : Nat} {px pos : Pos} {e : Expr} {ex : Ex} (hi : T.slot x = some i) (h : SE c n T e ex) {env : Env} {A : Around} {s : Shared} {as : Adr} {X : List Addr} {H : AH} {ρ : Fm} {K : KS} {R : QE} {XX : XS}
    (r : Rdy c T env A n s as X H ρ) (hY : Own A X env) (w : wpS c.P (callF c.P n) (.asg i ex) ρ H K R XX) (hs : swapsWith e (some (.Name x px)) pos.line env = pure false) :
    wpAny c.M A (exec (.Assign [.Name x px] e pos) env) (ResS c as X s.heap T env K R) (EResS c as X s.heap T env XX) s := by
  refine ea0_3 (slot_of r.K hi) ?_
  intro h1 h2 h3
  try clear hi
  rw [wpS_asg] at w
  refine wpAny_Assign_Name (wpAny_mono (h.run r w) (fun y s₁ q => ?_) fun _ _ e => e.toS r.F r.len) hs
  obtain ⟨v, H₁, as₁, e1, S1, k1, hv, hl, q⟩ := q
  refine n_store S1 (r.F.keep k1 e1) h1 h2 hl hv fun s₂ st => ?_
  obtain ⟨S2, k2, F2⟩ := st
  exact ResS.lift e1 (k1.y _) (fun b hb => S1.xs b (hY.mem b hb)) ⟨_, H₁, as₁, .refl .., S2, k2, F2, by rw [List.length_set]; exact r.len, q⟩
end
end Mine

end
noncomputable section
namespace Mine
open PySem PySem.Calls PyProof.Rows

theorem OR.gen {c : Cx} {as : Adr} {X X' : List Addr} {h h' b : HP} {q : Bool} {a : Addr} {o : O} (hk : ∀ a o, some a ∉ as → a ∉ X → h.get? a = some o → a ∉ X' ∧ h'.get? a = some o) (ha : ∀ ob, h.get? a = some ob → h'.get? a = some ob) (x : OR c as X h a o) : OR (c.to q b) as X' h' a o := by
  have hv : ∀ {vs cs}, VRs c as X h vs cs → VRs (c.to q b) as X' h' vs cs := fun r => VRs.gen (fun a o ha hx ho => ⟨ha, hk a o ha hx ho⟩) (fun _ _ e => .inl e) r
  try clear hk
  cases o with
  | list vs => obtain ⟨hb, items, ⟨n, e⟩, r⟩ := x; exact ⟨hb, items, ⟨n, ha _ e⟩, hv r⟩
  | dict ks vs => obtain ⟨hb, hs, cs, ⟨o, es, ep, e, rr⟩, hl, r⟩ := x; exact ⟨hb, hs, cs, ⟨o, es, ep, ha _ e, rr⟩, hl, hv r⟩
  | inst k d => obtain ⟨dx, ob, e, e', r1, r2, r3⟩ := x; exact ⟨dx, ob, e, ha _ e', r1, r2, r3⟩
  | ns ks vs => obtain ⟨hb, cs, mA, hn, hl, r, hm⟩ := x; exact ⟨hb, cs, mA, hn.at ha, hl, hv r, hm⟩
  | dead => exact x.elim
theorem SR.gen {c : Cx} {as : Adr} {X X' : List Addr} {H : AH} {s s' : Shared} {b : HP} {q : Bool} (S : SR c as X H s) (hb : b.StaysIn s'.heap)
    (hn : ∀ a, some a ∈ as → a ∉ X → c.base.get? a = none → b.get? a = none ∧ a ∉ X' ∧ ∀ o, s.heap.get? a = some o → s'.heap.get? a = some o)
    (hk : ∀ a o, some a ∉ as → a ∉ X → s.heap.get? a = some o → a ∉ X' ∧ s'.heap.get? a = some o) (hx : ∀ b ∈ X', ∃ o, s'.heap.get? b = some o) (hg : s'.gens = s.gens) (ho : s'.os = s.os) : SR (c.to q b) as X' H s' where
  len := S.len
  stays := hb
  gens := hg.trans S.gens
  os := ho.trans S.os
  objs := fun i a e => by
    refine ea0_3 (S.objs i a e) ?_
    intro h1 h2 r_3
    refine ea1_2 r_3 ?_
    try clear r_3
    intro o h3 h4
    refine ea0_3 (hn a (List.mem_of_getElem? e) h2 h1) ?_
    intro n1 n2 n3
    exact ⟨n1, n2, o, h3, OR.gen hk n3 h4⟩
  inj := S.inj
  dead := S.dead
  xs := hx
theorem stays_none {h b : HP} (hst : h.StaysIn b) {a : Addr} (hb : b.get? a = none) : h.get? a = none := by
  cases e : h.get? a with
  | none => rfl
  | some o => rw [hst a o e] at hb; cases hb
/-- back to a smaller ground -/
theorem SR.back {c : Cx} {as : Adr} {X : List Addr} {H : AH} {s : Shared} {b : HP} {q : Bool} (S : SR (c.to q b) as X H s) (hst : c.base.StaysIn b) : SR c as X H s :=
  SR.gen (c := c.to q b) (q := c.P.q) (b := c.base) (s' := s) S (fun a o e => S.stays a o (hst a o e)) (fun a _ hx hb => ⟨stays_none hst hb, hx, fun o e => e⟩) (fun a o ha hx e => ⟨hx, e⟩) S.xs rfl rfl
theorem FR.back {c : Cx} {as : Adr} {X : List Addr} {h b : HP} {q : Bool} {env : Env} {tab : List (Str × Nat)} {ρ : Fm} (F : FR (c.to q b) as X h env tab ρ) (hst : c.base.StaysIn b) : FR c as X h env tab ρ :=
  FR.gen (c := c.to q b) (q := c.P.q) (b := c.base) (Z := X) F (fun a _ hx hb => ⟨hx, stays_none hst hb, fun o e => ⟨o, e, .inl rfl⟩⟩) fun a o ha hx e => ⟨hx, e⟩
theorem VR.back {c : Cx} {as : Adr} {X : List Addr} {h b : HP} {q : Bool} {v : V} {y : Value} (r : VR (c.to q b) as X h v y) : VR c as X h v y :=
  VR.gen (c := c.to q b) (q := c.P.q) (b := c.base) (fun a o ha hx ho => ⟨ha, hx, ho⟩) (fun _ _ e => .inl e) r
theorem ResS.back {c : Cx} {as : Adr} {X : List Addr} {h b : HP} {q : Bool} {T : Tb} {env : Env} {K : KS} {R : QE} {f : Flow} {s' : Shared} (r : ResS (c.to q b) as X h T env K R f s') (hst : c.base.StaysIn b) : ResS c as X h T env K R f s' := by
  cases f with
  | next =>
    refine ea3_6 r ?_
    try clear r
    intro ρ' H' as' e' S k' F hl q
    exact ⟨ρ', H', as', e', S.back hst, k', F.back hst, hl, q⟩
  | ret x =>
    refine ea3_6 r ?_
    try clear r
    intro v H' as' e' S k' hv hn q
    exact ⟨v, H', as', e', S.back hst, k', hv.back, hn, q⟩
  | _ => exact r.elim

section
variable {c : Cx} {n : Nat} {T : Tb}
theorem s1_raise {x m : Str} {k kk : Nat} {np mp cpos pos : Pos} (C : Cok c T.gl) (hg : T.glob x = some (.exc k)) : S1 c n T (.Raise (some (.Call (.Name x np) [.Constant (.str m) kk mp] [] cpos)) none pos) (.raise k) := by
  refine ⟨?_⟩
  intro env A s as X H ρ K R XX r hY w
  rw [wpS_raise] at w
  obtain ⟨hq, w⟩ := w
  obtain ⟨hm, hk⟩ := C.gl x _ (ge_of hg).2.1
  refine ea1_2 (C.x k hk) ?_
  intro bm xc _
  try clear hk
  have xb : (bm).contains (.type "BaseException") = true := by obtain ⟨_, _, _, tl⟩ := xc; exact tl.has (by decide)
  obtain ⟨hC, hN, hmN, tl⟩ := xc.keeps r.S.stays
  try clear xc
  refine wpAny_Raise_call_subT F.excBase_ValueError xb (r.a.hh hq) rfl (hmN _ (.head _)) (n_glob C hg r (.inl hm) ⟨rfl, evalArgs_plain (spliced_cons (Constant_str (k := kk) (pos := mp) (spliced_nil ⟨rfl, (by decide : 1 ≤ sizeLine), hC, hN, tl.tail, fun h' e me => ?_⟩)))⟩)
  refine ea1_3 me.there ?_
  intro t he ht _
  have g : Grown s.heap h' := me.keeps
  have hX : ∀ b ∈ e :: ([] ++ X), b ∈ X ∨ s.heap.get? b = none := fun b hb => by
    try clear g; try clear ht; try clear he; try clear t; try clear tl; try clear hmN; try clear hN; try clear hC; try clear xb; try clear bm; try clear hm; try clear w; try clear hq; try clear hg; try clear C
    cases hb with
    | head => exact .inr me.new
    | tail _ hb => exact .inl hb
  refine ⟨k, H, as, e, none, [], ρ, rfl, .refl .., r.S.opens (s' := { s with heap := h', toks := _ }) g hX (fun b hb => ?_) rfl rfl, (g.kept as X).y _, .fresh he rfl rfl rfl rfl rfl, nofun, fun a ha => ?_, r.F.opens g (fun b hb => .tail _ hb) hX, r.len, w⟩
  · cases hb with
    | head => exact ⟨_, he⟩
    | tail _ hb => obtain ⟨o, eo⟩ := r.S.xs b hb; exact ⟨o, g _ _ eo⟩
  · cases ha with
    | head => exact ⟨.inr me.new, r.S.not_as me.new, r.S.not_x me.new, r.S.base_none me.new⟩
    | tail _ ha => cases ha

/-- a name goes -/
theorem n_drop {x : Str} {env : Env} {A : Around} {E : Value → Shared → Prop} {s : Shared} {as : Adr} {X : List Addr} {H : AH} {pos : Pos} {m : Str → Option Value} {R : Unit → Shared → Prop} (S : SR c as X H s) (kind : env.scope.kind = .function) (lx : env.locals ∈ X) (lb : c.base.get? env.locals = none) (hk : env.kindOf x = some .local) (hn : s.heap.Ns env.locals m)
    (r : ∀ h' v tk, h'.Ns env.locals (fun y => if y = x then v else m y) → SR c as X H { s with heap := h', toks := tk } → (∀ b o, s.heap.get? b = some o → b ≠ env.locals → h'.get? b = some o) → R () { s with heap := h', toks := tk }) : wpAny c.M A (do bindName env x .none; unbindBehindTheSuite env x pos) R E s := by
  refine wpAny_nameGoes_keeps hk hn (by rw [kind]; rfl) fun h' v hn' sb => r h' v _ hn' ?_ ?_
  · have K0 : ∀ b o, s.heap.get? b = some o → b ≠ env.locals → h'.get? b = some o := fun b o e hb => (sb.2 b hb).trans e
    refine S.keepX (s' := { s with heap := h', toks := s.toks + 1 }) (fun b o e _ hb => K0 b o e (fun q => hb (q ▸ lx))) (fun b o e => K0 b o (S.stays b o e) fun q => ?_) (fun b hb => ?_) rfl rfl
    · try clear K0; try clear hk; try clear hn; try clear S; try clear kind; try clear r; try clear lx
      subst q; rw [lb] at e; cases e
    · by_cases q : b = env.locals
      · rw [q]; obtain ⟨o, _, _, e, _⟩ := hn'; exact ⟨o, e⟩
      · obtain ⟨o, e⟩ := S.xs b hb
        try clear S
        exact ⟨o, K0 b o e q⟩
  · exact fun b o e hb => (sb.2 b hb).trans e
/-- behind a handler its name goes -/
theorem ResS.drop {x : Str} {i : Nat} {env : Env} {A : Around} {E : Value → Shared → Prop} {as : Adr} {X : List Addr} {h : HP} {K : KS} {R : QE} {f : Flow} {s' : Shared} {pos : Pos} (ht : T.tab.lookup x = some i) (hk : env.kindOf x = some .local) (kind : env.scope.kind = .function) (lx : env.locals ∈ X) (lb : c.base.get? env.locals = none) (hY : ∀ b ∈ own env, b ∈ X)
    (r : ResS c as X h T env (fun ρ H => K (ρ.set i none) H) R f s') : wpAny c.M A (do bindName env x .none; unbindBehindTheSuite env x pos) (fun _ s'' => ResS c as X h T env K R f s'') E s' := by
  try clear hY
  cases f with
  | next =>
    refine ea3_6 r ?_
    try clear r
    intro ρ' H' as' e' S k' F hl q
    refine ea1_2 F.ns ?_
    intro m hn rr
    refine n_drop S kind lx lb hk hn fun h' v tk hn' S' K0 => ⟨_, H', as', e', S', k'.trans e' fun b o e _ hb => ⟨o, K0 b o e fun q => hb (q ▸ .head _), .inl rfl⟩, ?_, by rw [List.length_set]; exact hl, q⟩
    have KX : VK as' X s'.heap h' := fun b o e _ hb => K0 b o e (fun q => hb (q ▸ lx))
    have ov : ∀ {j y}, OVR c as' X s'.heap ((ρ'[j]?).join) y → j ≠ i → OVR c as' X h' (((ρ'.set i none)[j]?).join) y := fun {j y} z hj => by
      rw [List.getElem?_set_ne (Ne.symm hj)]; exact z.keepX KX (.refl ..)
    refine ⟨F.kind, F.glob, F.bi, F.lx, F.lout, F.lb, ⟨_, hn', fun y j h1 h2 => ?_⟩, fun y j h1 h2 => ?_, F.apart, F.inj⟩
    · by_cases hyx : y = x
      · try clear KX; try clear rr; try clear hn; try clear m; try clear q; try clear hl; try clear F; try clear k'; try clear S; try clear as'; try clear H'; try clear ρ'; try clear hk; try clear lb; try clear kind; try clear r; try clear lx
        subst hyx
        replace ht := ht.symm.trans h1
        cases ht
        intro v' e'
        rw [List.getElem?_set] at e'
        simp only [if_true] at e'
        split at e' <;> cases e'
      · simp only [if_neg hyx]
        exact ov (rr y j h1 h2) fun q => hyx (F.inj _ _ i (q ▸ h1) ht)
    · refine ea2_7 (F.cells y j h1 h2) ?_
      intro a z e1 e2 e3 e4 e5 e6 e7
      have hyx : y ≠ x := fun q => by subst q; rw [hk] at h2; rcases h2 with h2 | h2 <;> cases h2
      exact ⟨a, z, e1, e2, e3, e4, e5, IsCell.same (X := X) e6 fun o e => ⟨o, K0 _ o e e5, .inl rfl⟩, ov e7 fun q => hyx (F.inj _ _ i (q ▸ h1) ht)⟩
  | ret y =>
    refine ea3_6 r ?_
    try clear r
    intro v H' as' e' S k' hv p_8 q
    obtain ⟨m, hn⟩ := p_8
    refine n_drop S kind lx lb hk hn fun h' v' tk hn' S' K0 => ⟨v, H', as', e', S', k'.trans e' fun b o e _ hb => ⟨o, K0 b o e fun q => hb (q ▸ .head _), .inl rfl⟩, ?_, ⟨_, hn'⟩, q⟩
    exact hv.keepX (fun b o e _ hb => K0 b o e (fun q => hb (q ▸ lx))) (.refl ..)
  | _ => exact r.elim

/-- an exception that a try's body let out: the ground on which its handler stands -/
theorem caught {env env₀ : Env} {outer : List Env} {L : Addr} {A : Around} {s₀ s : Shared} {as as' : Adr} {X : List Addr} {H' : AH} {ρ' : Fm} {e : Addr} {ts S : List Addr} {h' : HP} {t' : Option Addr} {k : Nat}
    (aok : AOk c A n) (Kn : KOk T env) (hl : ρ'.length = T.n) (S' : SR c as' (e :: (ts ++ X)) H' s) (F' : FR c as' (e :: (ts ++ X)) s.heap env T.tab ρ') (k' : KeptX as X (own env) s₀.heap s.heap)
    (h1 : A.frames = some (env₀ :: outer)) (h2 : ∀ ev ∈ env₀ :: outer, FrE c X as' s.heap ev) (h3 : env₀.frame = some L) (h4 : env.frame = some L)
    (hY : Own A X env) (ap : ∀ a ∈ e :: ts, Apart c as s₀.heap as' X a) (tc : Touch S ((env₀ :: outer).filterMap (·.frame)) s.heap h') (hS : ∀ a ∈ S, a ∈ e :: ts ∨ s.heap.get? a = none) (ex : ExcS h' e (.ref (c.xcls k)) t') :
    ∃ b, c.base.StaysIn b ∧ Rdy (c.to true b) T env (A.mark (some (.ref e))) n { s with heap := h' } as' X H' ρ' ∧ VR (c.to true b) as' X h' (.exc k) (.ref e) ∧ KeptX as X (own env) s₀.heap h' := by
  have hF : ∀ a ∈ (env₀ :: outer).filterMap (·.frame), a ∈ X ∧ c.base.get? a = none := fun a ha => FrE.mem h2 ha
  have out : ∀ a o, s.heap.get? a = some o → a ∉ e :: ts → ∃ o', h'.get? a = some o' ∧ (o' = o ∨ a ∈ (env₀ :: outer).filterMap (·.frame) ∧ ∃ sl, o' = { o with slots := sl }) := fun a o ho ha => tc.out ho fun q => (hS a q).elim ha fun r => by rw [r] at ho; cases ho
  have inZ : ∀ a, a ∈ e :: ts ∨ a ∈ X → a ∈ e :: (ts ++ X) := fun a q => by
    try clear out; try clear hF; try clear S'; try clear h3; try clear h2; try clear hS; try clear h4; try clear h1; try clear F'; try clear aok; try clear ap; try clear Kn; try clear k'; try clear hl; try clear hY; try clear tc; try clear ex
    rcases q with q | q
    · rcases List.mem_cons.mp q with rfl | q
      · exact .head _
      · exact .tail _ (List.mem_append_left _ q)
    · exact .tail _ (List.mem_append_right _ q)
  have outX : ∀ a o, s.heap.get? a = some o → a ∉ e :: (ts ++ X) → h'.get? a = some o := fun a o ho ha => by
    refine ea1_2 (out a o ho fun q => ha (inZ a (.inl q))) ?_
    intro o' e1 q
    try clear out
    try clear o'
    rcases q with rfl | ⟨q, _⟩
    · exact e1
    · exact absurd (inZ a (.inr (hF a q).1)) ha
  have same : ∀ a o, s.heap.get? a = some o → a ∉ e :: ts → ∃ o', h'.get? a = some o' ∧ SameO X a o o' := fun a o ho ha => by
    refine ea1_2 (out a o ho ha) ?_
    intro o' e1 q
    try clear out
    refine ⟨o', e1, ?_⟩
    try clear e1; try clear o'
    rcases q with rfl | ⟨q, sl, rfl⟩
    · exact .inl rfl
    · refine ea1_2 (List.mem_filterMap.mp q) ?_
      intro ev he hf
      try clear q
      refine ea4_6 ((h2 ev he).there) ?_
      intro L' o' es m q1 q2 q3 q4 q5 q6
      try clear h2; try clear ev; try clear he
      try clear q4; try clear q2; try clear L'; try clear o'
      replace q1 := q1.symm.trans hf
      cases q1
      try clear q1; try clear hf
      replace q5 := q5.symm.trans ho
      cases q5
      exact .inr ⟨q3, ⟨es, m, q6⟩, sl, rfl⟩
  have eX : ∀ a, a ∈ X → a ∉ e :: ts := fun a ha q => (ap a q).2.2.1 ha
  have hb : ∀ a, (only h' fun a => (c.base.get? a).isSome || a == e).get? a = if ((c.base.get? a).isSome || a == e) = true then h'.get? a else none := fun a => only_get a
  generalize (only h' fun a => (c.base.get? a).isSome || a == e) = b at hb
  have hst : c.base.StaysIn b := fun a o eo => by
    rw [hb, if_pos (by rw [eo]; rfl)]
    obtain ⟨o', e1, q⟩ := out a o (S'.stays a o eo) fun q => by rw [(ap a q).2.2.2] at eo; cases eo
    try clear out; try clear S'; try clear ap
    try clear o'; try clear hb; try clear eX
    rcases q with rfl | ⟨q, _⟩
    · exact e1
    · rw [(hF a q).2] at eo; cases eo
  have hbn : ∀ a, c.base.get? a = none → a ≠ e → b.get? a = none := fun a h0 hne => by
    rw [hb, if_neg]
    rw [h0]
    simpa using hne
  have hbs : b.StaysIn h' := fun a o eo => by
    rw [hb] at eo
    split at eo
    · exact eo
    · cases eo
  have S₃ : SR (c.to true b) as' X H' { s with heap := h' } := S'.gen (s' := { s with heap := h' }) hbs (fun a _ hx h0 => ⟨hbn a h0 fun q => hx (q ▸ .head _), fun q => hx (inZ a (.inr q)), fun o eo => outX a o eo hx⟩) (fun a o _ hx eo => ⟨fun q => hx (inZ a (.inr q)), outX a o eo hx⟩) (fun a ha => by
    obtain ⟨o, eo⟩ := S'.xs a (inZ a (.inr ha))
    try clear S'
    refine ea1_2 (out a o eo (eX a ha)) ?_
    intro o' e1 _
    try clear out; try clear o; try clear eo; try clear eX
    exact ⟨o', e1⟩) rfl rfl
  have F₃ : FR (c.to true b) as' X h' env T.tab ρ' := F'.gen (Z := X) (fun a ha _ h0 => ⟨hY.mem a ha, hbn a h0 fun q => (ap e (.head _)).2.2.1 (q ▸ hY.mem a ha), fun o eo => same a o eo (eX a (hY.mem a ha))⟩) fun a o _ hx eo => ⟨fun q => hx (inZ a (.inr q)), outX a o eo hx⟩
  have he : ∃ oe vs, h'.get? e = some oe ∧ oe.cls = .ref (c.xcls k) ∧ oe.data = .fields vs ∧ vs[2]? = some .none := by
    try clear F₃
    cases ex with
    | fresh he hc hd hsz v1 v2 => exact ⟨_, _, he, hc, hd, v2⟩
    | traced he hc hd hsz v1 v2 => exact ⟨_, _, he, hc, hd, v2⟩
  refine ea2_4 he ?_
  try clear he
  intro oe vs he hc hd v2
  refine ⟨b, hst, ⟨⟨⟨nofun, fun _ => ⟨e, rfl, oe, vs, (hb e).trans (by rw [if_pos (by simp)]; exact he), hd, v2⟩, aok.hd, aok.hu⟩, aok.hr, aok.hw⟩, S₃, F₃, Kn, hl, ⟨env₀, outer, L, h1, fun ev hev => ⟨(h2 ev hev).kind, ?_⟩, h3, h4⟩⟩, .exc (ap e (.head _)).2.1 (ap e (.head _)).2.2.1 he hc, fun a o eo ha hy => ?_⟩
  · refine ea4_6 ((h2 ev hev).there) ?_
    intro L' o' es m q1 q2 q3 q4 q5 q6
    try clear h2
    have hLX : L' ∈ X := List.count_pos_iff.mp (Nat.lt_of_lt_of_le (by decide) q3)
    refine ea1_2 (same L' o' q5 (eX L' hLX)) ?_
    intro o'' e1 sm
    try clear o'; try clear q5; try clear eX
    refine ⟨L', o'', es, m, q1, hbn L' q2 fun q => (ap e (.head _)).2.2.1 (q ▸ hLX), q3, q4, e1, ?_⟩
    try clear e1; try clear o''; try clear hLX; try clear q4; try clear q3; try clear q2; try clear q1; try clear m; try clear es; try clear L'; try clear v2; try clear hd; try clear hc; try clear he; try clear vs; try clear oe
    rcases sm with rfl | ⟨_, _, sl, rfl⟩
    · exact q6
    · exact q6
  · refine ea1_2 (k' a o eo ha hy) ?_
    intro o₁ e₁ s₁
    try clear k'
    obtain ⟨o₂, e₂, s₂⟩ := same a o₁ e₁ fun q => (ap a q).1.elim ha fun r => by rw [r] at eo; cases eo
    try clear o₁; try clear e₁; try clear ap
    exact ⟨o₂, e₂, s₁.trans s₂⟩

theorem s1_try {x : Str} {j : Nat} {xp hp pos : Pos} {nm : Option Str} {as_ : Option Nat} {b : List Stmt} {h₀ : Stmt} {hs : List Stmt} {bs hss : List St} (C : Cok c T.gl) (hg : T.glob x = some (.exc j))
    (hnm : (nm = none ∧ as_ = none) ∨ ∃ y i, nm = some y ∧ as_ = some i ∧ T.slot y = some i ∧ T.names.lookup y = some .local) (hb : SB c n T b bs) (hh : ∀ b', c.base.StaysIn b' → SB (c.to true b') n T (h₀ :: hs) hss) :
    S1 c n T (.Try b [.ExceptHandler (some (.Name x xp)) nm (h₀ :: hs) hp] [] [] pos) (.try_ bs j as_ hss) := by
  refine ⟨?_⟩
  intro env A s as X H ρ K R XX r hY w
  rw [wpS_try] at w
  obtain ⟨hq, w⟩ := w
  refine wpAny_Try_except (wpAny_mono (hb.run r hY w) (fun f s₁ q => ?_) fun y s₁ q => ?_)
  · try clear w; try clear hq; try clear hh; try clear hg; try clear hnm; try clear hb; try clear C
    cases f with
    | next => exact wpAny_execs_nil q
    | _ => exact q
  obtain ⟨k, H', as', e, t, ts, ρ', rfl, e', S', k', ex, ht, ap, F', hl', hsub, w'⟩ := q
  obtain ⟨hsk, hsj⟩ := Bool.and_eq_true_iff.mp hsub
  try clear hsub
  obtain ⟨env₀, outer, L, h1, h2, h3, h4⟩ := r.fr.step hY e' k' F'
  have hS0 : ∀ a ∈ e :: t.toList, a ∈ e :: ts := fun a ha => by
    try clear h4; try clear h3; try clear h2; try clear h1; try clear L; try clear outer; try clear env₀; try clear hsj; try clear hsk; try clear w'; try clear hl'; try clear F'; try clear ap; try clear ex; try clear k'; try clear S'; try clear e'; try clear ρ'; try clear ts; try clear t; try clear e; try clear as'; try clear H'; try clear k
    rcases List.mem_cons.mp ha with rfl | ha
    · exact .head _
    · exact .tail _ (ht a (Option.mem_toList.mp ha))
  refine note_exc h1 (FrOk.fun h2) h3 h4 ex fun h₂ T₂ ex₂ hT tc₂ => ?_
  have hS : ∀ a ∈ T₂ :: e :: t.toList, a ∈ e :: ts ∨ s₁.heap.get? a = none := fun a ha => by
    rcases List.mem_cons.mp ha with rfl | ha
    · rcases hT with rfl | hT
      · exact .inl (.tail _ (ht _ rfl))
      · exact .inr hT
    · exact .inl (hS0 a ha)
  have fly : ∀ {h h' : HP}, Touch (T₂ :: e :: t.toList) ((env₀ :: outer).filterMap (·.frame)) s₁.heap h → ExcS h' e (.ref (c.xcls k)) (some T₂) → (∀ b, b ≠ T₂ → h'.get? b = h.get? b) → Touch (T₂ :: e :: t.toList) ((env₀ :: outer).filterMap (·.frame)) s₁.heap h' := fun {h h'} tc ex' hk => tc.trans fun b o eb => by
    by_cases hb : b = T₂
    · try clear ht
      subst hb
      cases ex' with | traced he hc hd hsz v1 v2 hTe hTT => exact ⟨_, hTT, .inl (.head _)⟩
    · exact ⟨o, (hk b hb).trans eb, .inr (.inl rfl)⟩
  refine flight_exc ex₂ fun h₃ ex₃ hk₃ => ?_
  have tc₃ := fly (tc₂.mono fun b q => .tail _ q) ex₃ hk₃
  have mk := fun {h' : HP} (tc : Touch (T₂ :: e :: t.toList) ((env₀ :: outer).filterMap (·.frame)) s₁.heap h') (ex' : ExcS h' e (.ref (c.xcls k)) (some T₂)) => caught r.a r.K hl' S' F' k' h1 h2 h3 h4 hY ap tc hS ex'
  refine ea1_4 (mk tc₃ ex₃) ?_
  intro b₃ st₃ r₃ _ _
  obtain ⟨hm, hj⟩ := C.gl x _ (ge_of hg).2.1
  refine ea1_2 ((C.to (q := true) st₃).x k hsk) ?_
  intro bm xk xs
  try clear hsk
  refine ea1_2 ((C.to (q := true) st₃).x j hj) ?_
  intro bm' xj _
  try clear hj
  have hcont : (Value.ref (c.xcls k) :: bm).contains (.ref (c.xcls j)) = true := (xs x j (ge_of hg).2.1).trans hsj
  refine wpAny_handleBy_cons (codeAny_handlers_test (n_glob (c := c.to true b₃) (C.to (q := true) st₃) hg r₃ (.inl hm) ?_)) nofun
  obtain ⟨oe, he, hcl⟩ : ∃ oe, h₃.get? e = some oe ∧ oe.cls = .ref (c.xcls k) := by
    cases ex₃ with | traced he hc => exact ⟨_, he, hc⟩
  refine match_x (xk.keeps r₃.S.stays) (xj.keeps r₃.S.stays) he hcl hcont ?_
  have own4 : ∀ {h : HP} {b : HP} {q : Bool} {A : Around} {m : Nat} {as : Adr} {H : AH} {ρ : Fm} {s : Shared}, Rdy (c.to q b) T env A m s as X H ρ → ∀ b ∈ own env, ∃ o, s.heap.get? b = some o := fun {_ _ _ _ _ _ _ _ _} r b hb => r.S.xs b (hY.mem b hb)
  have Y' : Own (A.mark (some (.ref e))) X env := ⟨hY.mem, hY.fr, hY.out⟩
  try clear own4; try clear h₃; try clear hcl; try clear he; try clear oe; try clear hcont; try clear xj; try clear bm'; try clear xs; try clear xk; try clear bm; try clear hm; try clear r₃; try clear st₃; try clear b₃; try clear e
  rcases hnm with ⟨rfl, rfl⟩ | ⟨y, i, rfl, rfl, hsl, hloc⟩
  · refine codeAny_handlers_suite (flight_exc ex₃ fun h₄ ex₄ hk₄ => ?_)
    refine ea1_4 (mk (fly tc₃ ex₄ hk₄) ex₄) ?_
    intro b₄ st₄ r₄ _ kx₄
    try clear mk; try clear tc₃
    have w4 : wpSs (c.to true b₄).P (callF (c.to true b₄).P n) hss ρ' H' K R (fun _ _ _ => False) := by rw [callF_hush]; exact w'
    refine wpAny_mono ((hh b₄ st₄).run r₄ Y' w4) (fun f s₅ q => ?_) fun _ _ e => e.none.elim
    exact (q.back st₄).lift e' kx₄ (fun b hb => r₄.S.xs b (hY.mem b hb))
  · refine ea0_3 (slot_of r.K hsl) ?_
    intro hx1 hx2 hx3
    have hloc' := r.K.loc y hloc
    refine codeAny_handlers_suite_as (flight_exc ex₃ fun h₄ ex₄ hk₄ => ?_)
    refine ea1_4 (mk (fly tc₃ ex₄ hk₄) ex₄) ?_
    intro b₄ st₄ r₄ hv₄ kx₄
    try clear mk; try clear tc₃
    refine n_store r₄.S r₄.F hx1 hx2 (by rw [hl']; exact hx3) hv₄ fun s₅ st => ?_
    obtain ⟨S5, k5, F5⟩ := st
    have r₅ := r₄.step Y' (.refl ..) k5 S5 F5 (by rw [List.length_set]; exact hl')
    have w4 : wpSs (c.to true b₄).P (callF (c.to true b₄).P n) hss (ρ'.set i (some (.exc k))) H' (fun ρ'' H'' => K (ρ''.set i none) H'') R (fun _ _ _ => False) := by rw [callF_hush]; exact w'
    refine wpAny_mono ((hh b₄ st₄).run r₅ Y' w4) (fun f s₆ q => ?_) fun _ _ e => e.none.elim
    have q' := ((q.back st₄).lift (.refl ..) k5 (fun b hb => S5.xs b (hY.mem b hb))).lift e' kx₄ (fun b hb => r₄.S.xs b (hY.mem b hb))
    exact q'.drop hx1 hloc' r.F.kind r.F.lx r.F.lb hY.mem
end
end Mine

end
noncomputable section
namespace Mine
open PySem PySem.Calls PyProof.Rows
section
variable {c : Cx} {n : Nat} {T : Tb}
theorem s1_while {t : Expr} {ex : Ex} {body : List Stmt} {xs : List St} {pos : Pos} (h : ST c n T t ex) (hb : SB c n T body xs) : S1 c n T (.While t body [] pos) (.while_ ex xs) := by
  refine ⟨?_⟩
  intro env A s as X H ρ K R XX r hY w
  rw [wpS_while] at w
  obtain ⟨k, w⟩ := w
  refine wpAny_While ?_
  have hown : ∀ {s' : Shared} {as' : Adr} {H' : AH}, SR c as' X H' s' → ∀ b ∈ own env, ∃ o, s'.heap.get? b = some o := fun S b hb => S.xs b (hY.mem b hb)
  refine codeAny_whileLoop (fun m s' => ∃ as' H' ρ', Ext as s.heap as' ∧ SR c as' X H' s' ∧ KeptX as X (own env) s.heap s'.heap ∧ FR c as' X s'.heap env T.tab ρ' ∧ ρ'.length = T.n ∧
    whileL (fun ρ' H' K₁ K₂ => wpE c.P (callF c.P n) ex ρ' H' (fun v H'' => okB (truth v) fun t => if t then wpSs c.P (callF c.P n) xs ρ' H'' K₁ R (fun _ _ _ => False) else K₂ ρ' H'') (fun _ _ => False)) m ρ' H' K) ?_ k
    ⟨as, H, ρ, .refl .., r.S, (Kept.refl _ _ _).y _, r.F, r.len, w⟩
  clear w
  intro m s' h0
  refine ea3_6 h0 ?_
  clear h0
  intro as' H' ρ' e S kx F hl w
  cases m with
  | zero => exact w.elim
  | succ m =>
    have r' : Rdy c T env A n s' as' X H' ρ' := r.step hY e kx S F hl
    refine wpAny_mono (h.run (fun _ _ q => q) r' w) (fun b s₂ q => ?_) fun _ _ e => e.none.elim
    obtain ⟨H₂, as₂, e2, S2, k2, q2⟩ := q
    have r2 := r'.next e2 k2 S2
    have ex2 : Ext as s.heap as₂ := e.transX kx (hown S) e2
    have kx2 : KeptX as X (own env) s.heap s₂.heap := kx.trans e (k2.y _)
    cases b with
    | true =>
      rw [if_pos rfl] at q2 ⊢
      refine wpAny_mono (hb.run r2 hY q2) (fun f s₃ q => ?_) fun _ _ e => e.none.elim
      try clear r2; try clear q2; try clear k2; try clear e2; try clear as₂; try clear H₂; try clear r'; try clear w; try clear k; try clear hb; try clear h
      cases f with
      | next =>
        refine ea3_6 q ?_
        try clear q
        intro ρ₃ H₃ as₃ e₃ S₃ k₃ F₃ hl₃ q₃
        exact ⟨m, Nat.lt_succ_self m, as₃, H₃, ρ₃, ex2.transX kx2 (hown S2) e₃, S₃, kx2.trans ex2 k₃, F₃, hl₃, q₃⟩
      | ret xv =>
        refine ea3_5 q ?_
        try clear q
        intro v' H₃ as₃ e₃ S₃ k₃ hv₃ q₃
        exact ⟨v', H₃, as₃, ex2.transX kx2 (hown S2) e₃, S₃, kx2.trans ex2 k₃, hv₃, q₃⟩
      | _ => exact q.elim
    | false =>
      rw [if_neg (by decide)] at q2 ⊢
      exact wpAny_execs_nil ⟨ρ', H₂, as₂, ex2, S2, kx2, r2.F, hl, q2⟩
theorem stored_ne {kvs : List (Str × Value)} {k k' : Str} {x y : Value} (h : k' ≠ k) : stored ((k', x) :: kvs) k y = (k', x) :: stored kvs k y := by
  unfold stored
  simp only [List.any_cons, h, decide_false, Bool.false_or, List.map_cons, if_false]
  split <;> rfl
theorem stored_eq {kvs : List (Str × Value)} {k : Str} {x y : Value} (h : k ∉ kvs.map (·.1)) : stored ((k, x) :: kvs) k y = (k, y) :: kvs := by
  unfold stored
  simp only [List.any_cons, decide_true, Bool.true_or, if_true, List.map_cons]
  congr 1
  conv => rhs; rw [← List.map_id kvs]
  refine List.map_congr_left fun p hp => ?_
  have : p.1 ≠ k := fun e => h (e ▸ List.mem_map_of_mem hp)
  simp [this]
theorem stored_dput {k : List Char} {v : V} {y : Value} {h : HP} {as : Adr} {X : List Addr} (hv : VR c as X h v y) {ks : List (List Char)} : ∀ {vs : List V} {cs : List Value}, ks.length = cs.length → (ks.map toS).Nodup → VRs c as X h vs cs →
    ∃ cs', stored ((ks.map toS).zip cs) (toS k) y = ((dput k v ks vs).1.map toS).zip cs' ∧ (dput k v ks vs).1.length = cs'.length ∧ VRs c as X h (dput k v ks vs).2 cs' ∧ cs'.length ≤ cs.length + 1 := by
  induction ks with
  | nil =>
    intro vs cs hl _ r
    cases r with
    | nil => exact ⟨[y], rfl, rfl, .cons hv .nil, Nat.le_refl _⟩
    | cons _ _ => cases hl
  | cons k' ks ih =>
    intro vs cs hl hn r
    cases r with
    | nil => cases hl
    | @cons w vs x cs hx r =>
      have hn' := List.nodup_cons.mp hn
      have hl' := Nat.succ.inj hl
      clear hn hl
      by_cases hk : k = k'
      · subst hk
        have ed : dput k v (k :: ks) (w :: vs) = (k :: ks, v :: vs) := if_pos rfl
        rw [ed]
        refine ⟨y :: cs, ?_, congrArg Nat.succ hl', .cons hv r, Nat.le_succ _⟩
        show stored ((toS k, x) :: (ks.map toS).zip cs) (toS k) y = _
        refine stored_eq ?_
        rw [List.map_fst_zip (by rw [List.length_map, hl']; exact Nat.le_refl _)]
        exact hn'.1
      · have ed : dput k v (k' :: ks) (w :: vs) = (k' :: (dput k v ks vs).1, w :: (dput k v ks vs).2) := if_neg hk
        rw [ed]
        refine ea1_4 (ih hl' hn'.2 r) ?_
        intro cs' e1 e2 e3 e4
        exact ⟨x :: cs', (stored_ne (fun e => hk (toS_inj e).symm)).trans (congrArg _ e1), congrArg Nat.succ e2, .cons hx e3, Nat.succ_le_succ e4⟩
/-- what a store into a dict does -/
inductive SetI (x : V) (H H' : AH) : V → V → Prop
  | mk {r : Nat} {k : List Char} {ks : List (List Char)} {vs : List V} : H[r]? = some (.dict ks vs) → ks.length ≤ sizeOf' → H' = H.set r (.dict (dput k x ks vs).1 (dput k x ks vs).2) → SetI x H H' (.ref r) (.str k)
theorem setItemV_some {o i x : V} {H H' : AH} (e : setItemV o i x H = some H') : SetI x H H' o i := by
  cases o with
  | ref r =>
    cases i with
    | str k =>
      have e' : setD r k x H H[r]? = some H' := e
      clear e
      cases ho : H[r]? with
      | none => rw [ho] at e'; cases e'
      | some ob =>
        rw [ho] at e'
        cases ob with
        | dict ks vs => exact .mk ho (ite_is e').1 (ite_is e').2.symm
        | _ => cases e'
    | _ => cases e
  | _ => cases e
theorem p_setItem {A : Around} {E : Value → Shared → Prop} {s : Shared} {as : Adr} {X : List Addr} {H H' : AH} {o i x : V} {co ci cx : Value} {R : Unit → Shared → Prop} (S : SR c as X H s) (ho : VR c as X s.heap o co) (hi : VR c as X s.heap i ci) (hx : VR c as X s.heap x cx) (e : setItemV o i x H = some H')
    (hR : ∀ s', SR c as X H' s' → Kept as X s.heap s'.heap → R () s') : wpAny c.M A (setItem co ci cx) R E s := by
  replace e := setItemV_some e
  cases e with
  | @mk r k ks vs hob hz q_9 =>
    subst q_9
    replace ho := ref_at S ho hob (by simp)
    obtain ⟨a, rfl, ha, hb, hsm, cs, hd, hl, rr⟩ := ho
    try clear hob
    cases hi
    have h1 := sizeOf'_le
    have h2 := sizeOf'_bnd
    have hn : (ks.map toS).Nodup := by
      refine ea3_6 hd ?_
      try clear hd
      intro _ _ _ _ _ _ _ _ hn
      rw [List.map_fst_zip (by simp [hl])] at hn
      exact hn
    refine wpAny_setItem_pairs (knd := c.kd) (kd_is _ _) hd (fun h' hd' sb => ?_) (by simp only [List.length_zip, List.length_map]; lia)
    have hk : ∀ b o, s.heap.get? b = some o → b ≠ a → h'.get? b = some o := fun b o e hb => (sb.2 b hb).trans e
    have K := SR.kept1 (X := X) ha hk
    refine ea1_4 (stored_dput (k := k) (hx.keep K (.refl ..)) hl hn (rr.keep K (.refl ..))) ?_
    intro cs' e1 e2 e3 e4
    try clear k; try clear hx; try clear hl; try clear rr
    rw [e1] at hd'
    have e5 := e3.length
    exact hR _ (S.upd (s' := { s with heap := h', toks := _ }) (o' := .dict _ _) ha hk rfl rfl ⟨by lia, hsm, cs', hd', e2, e3⟩) K
theorem s1_setI {o i v : Expr} {eo ei ev : Ex} {p' pos : Pos} (hc : isComp v = false) (h1 : SE c n T v ev) (h2 : SE c n T o eo) (h3 : SE c n T i ei) : S1 c n T (.Assign [.Subscript o i p'] v pos) (.setItem eo ei ev) := by
  refine ⟨?_⟩
  intro env A s as X H ρ K R XX r hY w
  rw [wpS_setItem] at w
  refine wpAny_Assign_Subscript (wpAny_mono (h1.run r w) (fun x s₁ q => ?_) fun _ _ e => e.toS r.F r.len) (by cases v <;> first | rfl | cases hc)
  obtain ⟨vx, H₁, as₁, e1, S1, k1, hvx, w1⟩ := q
  have r1 := r.next e1 k1 S1
  refine wpAny_mono (h2.run r1 w1) (fun y s₂ q => ?_) fun _ _ e => (e.lift e1 k1).toS r.F r.len
  obtain ⟨vo, H₂, as₂, e2, S2, k2, hvo, w2⟩ := q
  have r2 := r1.next e2 k2 S2
  refine wpAny_mono (h3.run r2 w2) (fun z s₃ q => ?_) fun _ _ e => ((e.lift e2 k2).lift e1 k1).toS r.F r.len
  obtain ⟨vi, H₃, as₃, e3, S3, k3, hvi, w3⟩ := q
  have r3 := r2.next e3 k3 S3
  try clear r2; try clear w2; try clear S2; try clear as₂; try clear H₂; try clear r1; try clear w1; try clear S1; try clear as₁; try clear H₁; try clear hc; try clear h2; try clear h3; try clear h1
  cases hs : setItemV vo vi vx H₃ with
  | none => rw [hs] at w3; exact w3.elim
  | some H' =>
    rw [hs] at w3
    refine p_setItem S3 (hvo.keep k3 e3) hvi ((hvx.keep k2 e2).keep k3 e3) hs fun s' S' k' => ?_
    have E1 := e1.trans k1 e2
    have K1 := k1.trans e1 k2
    exact ⟨ρ, H', as₃, E1.trans K1 e3, S', ((K1.trans E1 k3).trans (E1.trans K1 e3) k').y _, r3.F.keep k' (.refl ..), r.len, w3⟩
theorem inOrder2 {M : Model} {A : Around} {E : Value → Shared → Prop} {s : Shared} {f g : Value → Sem Unit} {a b : Value} {Q : Unit → Shared → Prop} (h : wpAny M A (f a) (fun _ s₁ => wpAny M A (g b) Q E s₁) E s) : wpAny M A (assignInOrder [f, g] [a, b]) Q E s :=
  assignInOrder_cons (wpAny_mono h (fun _ _ h₁ => assignInOrder_cons (wpAny_mono h₁ (fun _ _ h₂ => assignInOrder_nil h₂) fun _ _ e => e)) fun _ _ e => e)
/-- a value that is given to a target -/
structure Tgt (c : Cx) (T : Tb) (t : Expr) (tg : Nat ⊕ List Nat) : Prop where
  run : ∀ {env : Env} {A : Around} {s : Shared} {as : Adr} {X : List Addr} {H : AH} {ρ ρ' : Fm} {u : V} {z : Value} {E : Value → Shared → Prop} {Q : Unit → Shared → Prop}, KOk T env → ρ.length = T.n → (∀ b ∈ own env, b ∈ X) → SR c as X H s → FR c as X s.heap env T.tab ρ → VR c as X s.heap u z →
    (u.tpl.isSome = true → A.handled = none) → setTgt ρ tg u = some ρ' → (∀ s', StepF c as X H env T.tab s.heap ρ' s' → ρ'.length = T.n → Q () s') → wpAny c.M A (assign t env z) Q E s
theorem tgt_name {x : Str} {i : Nat} {px : Pos} (hi : T.slot x = some i) : Tgt c T (.Name x px) (.inl i) where
  run := fun {env A s as X H ρ ρ' u z E Q} K hl _ S F hv _ e q => by
    cases e
    refine ea0_3 (slot_of K hi) ?_
    intro h1 h2 h3
    exact wpAny_assign_Name (n_store S F h1 h2 (by rw [hl]; exact h3) hv fun s' st => q s' st (by rw [List.length_set]; exact hl))
/-- a pair taken apart -/
inductive Pair2 (c : Cx) (as : Adr) (X : List Addr) (h : HP) (ρ ρ' : Fm) (i j : Nat) : V → Value → Prop
  | mk {a : Addr} {ob : Obj} {n : Nat} {u v : V} {y z : Value} : ρ' = (ρ.set i (some u)).set j (some v) → h.get? a = some { cls := .type "tuple", data := .seq #[y, z] n } → VR c as X h u y → VR c as X h v z → Pair2 c as X h ρ ρ' i j (.tup [u, v]) (.ref a)
theorem pair2 {as : Adr} {X : List Addr} {h : HP} {ρ ρ' : Fm} {i j : Nat} {u : V} {z : Value} (hv : VR c as X h u z) (e : setTgt ρ (.inr [i, j]) u = some ρ') : Pair2 c as X h ρ ρ' i j u z := by
  cases u with
  | tup vs =>
    replace e := ite_is e
    obtain ⟨hl, e⟩ := e
    match vs, hl with
    | [a, b], _ =>
      try clear hl
      cases hv.inv with
      | @tup addr items nn t1 t2 t3 rr t5 =>
        obtain ⟨items⟩ := items
        try clear items; try clear hv
        cases rr with
        | cons ha rr =>
          cases rr with
          | cons hb rr =>
            cases rr
            exact .mk (ob := default) e.symm t3 ha hb
  | _ => cases e
theorem tgt_pair {x y : Str} {i j kk : Nat} {px py pt : Pos} (hi : T.slot x = some i) (hj : T.slot y = some j) : Tgt c T (.Tuple [.Name x px, .Name y py] kk pt) (.inr [i, j]) where
  run := fun {env A s as X H ρ ρ' u z E Q} K hl hY S F hv hh e q => by
    cases pair2 hv e with
    | @mk a _ n u v y z e1 t3 ha hb =>
      subst e1
      refine ea0_3 (slot_of K hi) ?_
      intro x1 x2 x3
      refine ea0_3 (slot_of K hj) ?_
      intro y1 y2 y3
      clear e hv hi hj
      refine assign_Tuple_tuple (hh rfl) ⟨_, t3, rfl, _, rfl⟩ rfl rfl fun h' eb => ?_
      have g : Grown s.heap h' := fun b o e => eb b o (fun q => by rw [q] at e; exact absurd (Heap.lt_size e) (Nat.lt_irrefl _)) e
      clear eb t3
      refine inOrder2 (wpAny_assign_Name (n_store (S.grow (s' := { s with heap := h' }) g rfl rfl) (F.keep (g.kept as _) (.refl ..)) x1 x2 (by rw [hl]; exact x3) (ha.grow g) fun s₂ st => ?_))
      obtain ⟨S2, k2, F2⟩ := st
      have hb2 : VR c as X s₂.heap v z := (hb.grow g).keepX (KeptX.v (Y := own env) k2 hY) (.refl ..)
      refine wpAny_assign_Name (n_store S2 F2 y1 y2 (by rw [List.length_set, hl]; exact y3) hb2 fun s₃ st => q s₃ ⟨st.1, ?_, st.3⟩ (by rw [List.length_set, List.length_set]; exact hl))
      exact (((g.kept as _).y _).trans (.refl ..) k2).trans (.refl ..) st.2
theorem s1_pair {x y : Str} {i j kk : Nat} {px py pt : Pos} {f : Expr} {args : List Expr} {kws : List Keyword} {p pos : Pos} {ex : Ex} (hi : T.slot x = some i) (hj : T.slot y = some j) (h : SE c n T (.Call f args kws p) ex) :
    S1 c n T (.Assign [.Tuple [.Name x px, .Name y py] kk pt] (.Call f args kws p) pos) (.asgTup [i, j] ex) := by
  refine ⟨?_⟩
  intro env A s as X H ρ K R XX r hY w
  rw [wpS_asgTup] at w
  refine Assign_Tuple (wpAny_mono (h.run r w) (fun v s₁ q => ?_) fun _ _ e => e.toS r.F r.len)
  obtain ⟨vv, H₁, as₁, e1, S1, k1, hv, hq, w1⟩ := q
  have r1 := r.next e1 k1 S1
  try clear h
  cases ht : setTgt ρ (.inr [i, j]) vv with
  | none => rw [ht] at w1; exact w1.elim
  | some ρ' =>
    rw [ht] at w1
    refine (tgt_pair hi hj).run r.K r.len hY.mem S1 r1.F hv (fun _ => r.a.hh hq) ht fun s₂ st hl => ?_
    obtain ⟨S2, k2, F2⟩ := st
    exact ⟨ρ', H₁, as₁, e1, S2, (k1.y _).trans e1 k2, F2, hl, w1⟩
theorem s1_setA {o v : Expr} {eo ev : Ex} {nm : List Char} {ms : List (Str × Nat)} {ats : List Str} {f : Nat} {p' pos : Pos} (K : CK c ms ats f) (hat : toS nm ∈ ats) (hc : isComp v = false) (h1 : SE c n T v ev) (h2 : SE c n T o eo) : S1 c n T (.Assign [.Attribute o (toS nm) p'] v pos) (.setAttr eo nm ev) := by
  refine ⟨?_⟩
  intro env A s as X H ρ Kk R XX r hY w
  rw [wpS_setAttr] at w
  refine plainObj_wpAny_Assign_Attribute (wpAny_mono (h1.run r w) (fun x s₁ q => ?_) fun _ _ e => e.toS r.F r.len) (by cases v <;> first | rfl | cases hc)
  obtain ⟨vx, H₁, as₁, e1, S1, k1, hvx, w1⟩ := q
  have r1 := r.next e1 k1 S1
  refine wpAny_mono (h2.run r1 w1) (fun y s₂ q => ?_) fun _ _ e => (e.lift e1 k1).toS r.F r.len
  obtain ⟨vo, H₂, as₂, e2, S2, k2, hvo, w2⟩ := q
  have r2 := r1.next e2 k2 S2
  try clear r1; try clear w1; try clear S1; try clear as₁; try clear H₁; try clear hc; try clear h1; try clear h2
  cases hs : setAttrV vo nm vx H₂ with
  | none => rw [hs] at w2; exact w2.elim
  | some H' =>
    rw [hs] at w2
    refine p_setAttr K hat S2 hvo (hvx.keep k2 e2) hs fun s' S' k' => ?_
    have E1 := e1.trans k1 e2
    have K1 := k1.trans e1 k2
    exact ⟨ρ, H', as₂, E1, S', (K1.trans E1 k').y _, r2.F.keep k' (.refl ..), r.len, w2⟩
end
end Mine

end
noncomputable section
namespace Mine
open PySem PySem.Calls PyProof.Rows

section
variable {c : Cx} {n : Nat} {T : Tb} {gl : List (Str × Gl)}

theorem comp_inv (C : Cok c gl) (sc : SC c n) (hf : ∀ x f, gl.lookup x = some (.fn f) → ∃ fn, c.P.fns f = some fn) {k : Nat} {elt : Expr} {gens : List Comprehension} {scope : Scope} {pos : Pos} {ex : Ex} (hg : T.gl = gl) (h : cE k T (.ListComp elt gens scope pos) = some ex) :
    CompR c n T elt scope gens ex := by
  cases k with
  | zero => cases h
  | succ k => exact comp_ok (fun a q => cE_ok C sc hf k (a.trans hg) q) h

theorem swaps_comp {elt : Expr} {gens : List Comprehension} {scope : Scope} {pos px : Pos} {x : Str} {l : Nat} {env : Env} : ∃ b, swapsWith (.ListComp elt gens scope pos) (some (.Name x px)) l env = pure b := ⟨_, rfl⟩
theorem swaps_no {e : Expr} {x : Str} {px : Pos} {l : Nat} {env : Env} (h : isComp e = false) : swapsWith e (some (.Name x px)) l env = pure false := by
  cases e <;> first | rfl | cases h

theorem asg_use {x y : Str} {j : Nat} {px py spos : Pos} {elt iter : Expr} {ifs : List Expr} {sc : Scope} {pos : Pos} {b i : Ex} {cond : Option Ex} {mu : Bool} {env : Env} {A : Around} {s : Shared} {as : Adr} {X : List Addr} {H : AH} {ρ : Fm} {K : KS} {R : QE} {XX : XS}
    (hj : T.slot y = some j) (ok : CompF T x sc) (hns : NSet iter) (hi : SE c n T iter i)
    (he : SE c n { T with names := sc.names, tab := (x, T.n) :: T.tab, n := T.n + 1 } elt b)
    (hc : (ifs = [] ∧ cond = none) ∨ ∃ t q, ifs = [t] ∧ cond = some q ∧ ST c n { T with names := sc.names, tab := (x, T.n) :: T.tab, n := T.n + 1 } t q)
    (r : Rdy c T env A n s as X H ρ) (hY : Own A X env) (w : wpS c.P (callF c.P n) (.asg j (.comp mu b i cond)) ρ H K R XX)
    (hs : swapsWith (.ListComp elt [⟨.Name x px, iter, ifs, 0⟩] sc pos) (some (.Name y py)) spos.line env = pure true) :
    wpAny c.M A (exec (.Assign [.Name y py] (.ListComp elt [⟨.Name x px, iter, ifs, 0⟩] sc pos) spos) env) (ResS c as X s.heap T env K R) (EResS c as X s.heap T env XX) s := by
  refine ea0_3 (slot_of r.K hj) ?_
  intro h1 h2 h3
  try clear hj
  rw [wpS_asg] at w
  rw [exec_Assign_Name_used _ _ _ _ hs]
  refine wpAny_bind (wpAny_standAt (wpAny_bind ?_))
  show wpAny _ A (do let _ ← comprehension (.ListComp elt [⟨.Name x px, iter, ifs, 0⟩] sc pos) sc env (firstIterPos [⟨.Name x px, iter, ifs, 0⟩] pos) (newList []) false (eval iter env) (some (assign (.Name y py) env))) _ _ s
  refine wpAny_bind (wpAny_mono (use_comp (Qf := fun _ s' => ResS c as X s.heap T env K R .next s') ok hns hi he hc r w ?_) (fun _ s' hq => wpAny_pure (wpAny_pure hq)) fun _ _ e => e.toS r.F r.len)
  intro D Ca s' fC cX bC hm q
  refine ea3_6 q ?_
  try clear q
  intro v H' as' e S k hv p_8 F
  obtain ⟨hl, q⟩ := p_8
  refine wpAny_assign_Name (n_store S F h1 h2 hl hv fun s'' st => ?_)
  obtain ⟨S2, k2, F2⟩ := st
  have hCown : Ca ∉ own env := fun q => cX (hY.mem _ q)
  have hCas : some Ca ∉ as' := fun q => by
    obtain ⟨i, hi⟩ := List.getElem?_of_mem q
    try clear q
    refine ea0_3 (S.objs i _ hi) ?_
    intro _ h2 _
    try clear S; try clear i; try clear hi
    exact h2 (.head _)
  obtain ⟨m, hm⟩ := hm
  refine ⟨m, Ns.same hm fun o e => k2 _ o e hCas hCown, fun h' hs' => ?_⟩
  have b' : But [Ca] s''.heap h' := fun q o hq e => (hs'.2 q (by simpa using hq)).trans e
  refine ⟨_, H', as', e, S2.but (s' := { s'' with heap := h' }) b' (by simpa using bC) (fun _ q => .tail _ q) (fun a ha hz => by simp at hz; subst hz; exact (cX ha).elim) rfl rfl, ?_, ?_, by rw [List.length_set]; exact r.len, q⟩
  · exact ((((k.more fun _ => List.count_le_count_cons).y _).trans e k2).but b' (by simpa using fC)).less fun b hb => (cnt1 hb).elim (fun q => .inr (q ▸ fC)) .inl
  · have aw : Away [Ca] env T.tab := F2.away' (by simpa using hCown)
    exact (F2.keepY (b'.kept as' _) (by simp) aw).narrow (Z := [Ca]) (fun b hb => .tail _ hb) (fun b hb => by
      try clear b'; try clear hm; try clear m; try clear hCown; try clear F2; try clear k2; try clear S2; try clear F; try clear hl; try clear hv; try clear k; try clear e; try clear as'; try clear H'; try clear v; try clear h3; try clear h2; try clear h1; try clear hc; try clear hns; try clear w; try clear hY; try clear ok; try clear he; try clear r; try clear hs
      cases hb with
      | head => exact .inr (by simp)
      | tail _ hb => exact .inl hb) aw

structure Fl (c : Cx) (T : Tb) (env : Env) (as₀ : Adr) (h₀ : HP) (X : List Addr) (rev : Bool) (I : Addr) (v : V) (y : Value) (k : Nat) (s : Shared) (as : Adr) (H : AH) (ρ : Fm) : Prop where
  S : SR c as (I :: X) H s
  F : FR c as (I :: X) s.heap env T.tab ρ
  hl : ρ.length = T.n
  hv : VR c as (I :: X) s.heap v y
  hi : ItD rev s.heap I v y k
  oi : some I ∉ as
  E : Ext as₀ h₀ as
  K : KeptX as₀ (I :: X) (own env) h₀ s.heap

/-- an iterator of a loop has done its work -/
theorem SR.less {c : Cx} {as : Adr} {X : List Addr} {H : AH} {s : Shared} {I : Addr} (S : SR c as (I :: X) H s) : SR c as X H s :=
  S.turn (fun b o e _ _ => e) S.stays (fun _ q => .tail _ q) (fun b hb => S.xs b (.tail _ hb)) rfl rfl

theorem tup_src {q : Bool} {H : AH} {v u : V} {items : List V} {rev : Bool} {k : Nat} (hs : srcD rev q H v = some items) (hx : items[k]? = some u) (hu : u.tpl.isSome = true) : v.isRng = false := by
  cases rev with
  | true => cases rev_is hs <;> rfl
  | false =>
    cases v with
    | rng a b =>
      replace hs := (srcQ_is hs).1
      cases hs
      try clear hs
      replace hx := List.mem_map.mp (List.mem_of_getElem? hx)
      refine ea1_2 hx ?_
      try clear hx
      intro i _ q_3
      subst q_3
      try clear i; try clear hx
      cases hu
    | _ => rfl
theorem for_loop {te : Expr} {tg : Nat ⊕ List Nat} {rev : Bool} {body : List Stmt} {xs : List St} {env : Env} {A : Around} {X : List Addr} {items : List V} {K : KS} {R : QE} {I : Addr} {as₀ : Adr} {h₀ : HP} {v : V} {y : Value} {s : Shared} {as : Adr} {H : AH} {ρ : Fm} {RR : Result → Shared → Prop} {Kn : KOk T env}
    (ht : Tgt c T te tg) (hb : SB c n T body xs) (a : AOk c A n) (fr : EnvFr c A X as₀ h₀ env) (hY : Own A X env) (bI : c.base.get? I = none) (fI : Fr as₀ h₀ I) (iX : I ∉ X)
    (L : Fl c T env as₀ h₀ X rev I v y 0 s as H ρ)
    (w : forL (fun x ρ' H' K' => match setTgt ρ' tg x with | some ρ'' => wpSs c.P (callF c.P n) xs ρ'' H' K' R (fun _ _ _ => False) | none => False) (fun H' => srcD rev c.P.q H' v = some items) items ρ H K)
    (hR : ∀ f s', ResS c as₀ X h₀ T env K R f s' → RR (.ok f) s') :
    codeAny c.M A (.forLoop te (.ref I) body [] env) RR s := by
  have iO : I ∉ own env := fun q => iX (hY.mem _ q)
  have lessI : ∀ b, 2 ≤ (I :: X).count b → 2 ≤ X.count b ∨ Fr as₀ h₀ b := fun b hb => (cnt1 hb).elim (fun q => .inr (q ▸ fI)) .inl
  refine codeAny_forLoop_any (fun m s' => ∃ k as H ρ, m = items.length - k ∧ k ≤ items.length ∧ Fl c T env as₀ h₀ X rev I v y k s' as H ρ ∧
    forL (fun x ρ' H' K' => match setTgt ρ' tg x with | some ρ'' => wpSs c.P (callF c.P n) xs ρ'' H' K' R (fun _ _ _ => False) | none => False) (fun H' => srcD rev c.P.q H' v = some items) (items.drop k) ρ H K) ?_ (items.length - 0) ⟨0, as, H, ρ, rfl, Nat.zero_le _, L, w⟩
  clear L w
  intro m s h0
  refine ea4_4 h0 ?_
  clear h0
  intro k as H ρ q_0 hk L w
  subst q_0
  cases hx : items[k]? with
  | none =>
    have hkl : items.length = k := Nat.le_antisymm (List.getElem?_eq_none_iff.mp hx) hk
    rw [List.drop_eq_nil_of_le (Nat.le_of_eq hkl)] at w
    refine id_done (a.handD L.S w.1) L.S (.head _) L.hv L.hi w.1 hkl fun h' tk b => ?_
    refine wpAny_execs_nil (hR _ _ ?_)
    have aw : Away [I] env T.tab := L.F.away' iO
    refine ⟨ρ, H, as, L.E, L.S.but (s' := { s with heap := h', toks := tk }) b (by simpa using bI) (fun _ q => .tail _ q) (fun a ha hz => by simp at hz; subst hz; exact (iX ha).elim) rfl rfl, (L.K.but b (by simpa using fI)).less lessI, ?_, L.hl, w.2⟩
    exact (L.F.keepY (b.kept as _) (by simp) aw).narrow (Z := [I]) (fun b hb => .tail _ hb) (fun b hb => by
      try clear hkl; try clear lessI; try clear iO; try clear a; try clear iX; try clear w; try clear hY; try clear hR; try clear fI; try clear ht; try clear L; try clear fr; try clear bI
      cases hb with
      | head => exact .inr (by simp)
      | tail _ hb => exact .inl hb) aw
  | some u =>
    have hlt := (List.getElem?_eq_some_iff.mp hx).1
    rw [drop_cons hx] at w
    refine id_next (a.handD L.S w.1) L.S (.head _) bI L.hv L.hi w.1 hx fun z h₁ tk₁ b₁ hu₁ hv₁ hi₁ S₁ => ?_
    refine let_go hi₁.cls ?_
    have aw : Away [I] env T.tab := L.F.away' iO
    have F₁ := L.F.keepY (b₁.kept as _) (by simp) aw
    have K₁ := L.K.but b₁ (by simpa using fI)
    obtain ⟨w1, w2⟩ := w
    try clear aw
    cases hst : setTgt ρ tg u with
    | none => rw [hst] at w2; exact w2.elim
    | some ρ₂ =>
      rw [hst] at w2
      refine ht.run Kn L.hl (fun b hb => .tail _ (hY.mem b hb)) S₁ F₁ hu₁ (fun hu => (a.handD L.S w1).plain (tup_src w1 hx hu)) hst fun s₂ st hl₂ => ?_
      obtain ⟨S₂, k₂, F₂⟩ := st
      have K₂ : KeptX as₀ (I :: X) (own env) h₀ s₂.heap := K₁.trans L.E k₂
      have r₂ : Rdy c T env A n s₂ as (I :: X) H ρ₂ := ⟨a, S₂, F₂, Kn, hl₂, (fr.step hY L.E (K₂.less lessI) F₂).grow (.refl _) fun b => List.count_le_count_cons⟩
      refine wpAny_mono (hb.run r₂ hY.more w2) (fun f s₃ q => ?_) fun _ _ e => e.none.elim
      have hI₂ : ItD rev s₂.heap I v y (k + 1) := hi₁.at fun o e hc => k₂.get e L.oi iO hc
      have hv₂ : VR c as (I :: X) s₂.heap v y := hv₁.keepX (KeptX.v (Y := own env) k₂ fun b hb => .tail _ (hY.mem b hb)) (.refl ..)
      have hown₂ : ∀ b ∈ own env, ∃ o, s₂.heap.get? b = some o := fun b hb => S₂.xs b (.tail _ (hY.mem b hb))
      try clear r₂; try clear F₂; try clear k₂; try clear S₂; try clear w2; try clear w1; try clear K₁; try clear F₁; try clear hb
      cases f with
      | next =>
        refine ea3_6 q ?_
        try clear q
        intro ρ₃ H₃ as₃ e₃ S₃ k₃ F₃ hl₃ q₃
        refine ⟨items.length - (k + 1), Nat.sub_lt_sub_left hlt (Nat.lt_succ_self k), k + 1, as₃, H₃, ρ₃, rfl, hlt, ⟨S₃, F₃, hl₃, ?_, ?_, ?_, L.E.transX K₂ hown₂ e₃, K₂.trans L.E k₃⟩, q₃⟩
        · exact hv₂.keepX (k₃.v fun b hb => .tail _ (hY.mem b hb)) e₃
        · exact hI₂.at fun o e hc => k₃.get e L.oi iO hc
        · refine ea1_2 hI₂.here ?_
          intro o e _
          exact e₃.out e L.oi
          try clear hI₂; try clear e₃; try clear L
      | ret xv =>
        refine ea3_5 q ?_
        try clear q
        intro v' H₃ as₃ e₃ S₃ k₃ hv₃ q₃
        exact hR _ _ ⟨v', H₃, as₃, L.E.transX K₂ hown₂ e₃, S₃.less, (K₂.trans L.E k₃).less lessI, hv₃.frames fun b _ _ hb q => hb (.tail _ q), q₃⟩
      | _ => exact q.elim
/-- the loop itemself, behind items iterator -/
theorem for_tail {te : Expr} {tg : Nat ⊕ List Nat} {rev : Bool} {body : List Stmt} {xs : List St} {env : Env} {A : Around} {X : List Addr} {items : List V} {K : KS} {R : QE} {v : V} {y : Value} {s s₁ : Shared} {as as₁ : Adr} {H H₁ : AH} {ρ : Fm} {o : Obj} {tk : Nat}
    (ht : Tgt c T te tg) (hb : SB c n T body xs) (r : Rdy c T env A n s as X H ρ) (hY : Own A X env) (e1 : Ext as s.heap as₁) (S1 : SR c as₁ X H₁ s₁) (k1 : Kept as X s.heap s₁.heap) (hv : VR c as₁ X s₁.heap v y)
    (hit : ItD rev (s₁.heap.push o) s₁.heap.objs.size v y 0)
    (w : forL (fun x ρ' H' K' => match setTgt ρ' tg x with | some ρ'' => wpSs c.P (callF c.P n) xs ρ'' H' K' R (fun _ _ _ => False) | none => False) (fun H' => srcD rev c.P.q H' v = some items) items ρ H₁ K) {RR : Result → Shared → Prop} (hR : ∀ f s', ResS c as X s.heap T env K R f s' → RR (.ok f) s') :
    codeAny c.M A (.forLoop te (.ref s₁.heap.objs.size) body [] env) RR { s₁ with heap := s₁.heap.push o, toks := tk } := by
  have hfI : s₁.heap.get? s₁.heap.objs.size = none := get_fresh _
  generalize s₁.heap.objs.size = I at hit hfI ⊢
  have g : Grown s₁.heap (s₁.heap.push o) := .push _ _
  have hX' : ∀ b ∈ I :: X, b ∈ X ∨ s₁.heap.get? b = none := fun b hb => by
    try clear g; try clear k1; try clear hv; try clear w; try clear hY; try clear hR; try clear ht; try clear e1; try clear hit; try clear r; try clear S1
    cases hb with
    | head => exact .inr hfI
    | tail _ hb => exact .inl hb
  have F1 := r.F.keep k1 e1
  refine for_loop (Kn := r.K) ht hb r.a r.fr hY (S1.base_none hfI) (k1.fr hfI) (S1.not_x hfI) (as₀ := as) (h₀ := s.heap) ⟨S1.opens (s' := { s₁ with heap := s₁.heap.push o, toks := tk }) g hX' (fun b hb => ?_) rfl rfl, F1.opens g (fun b hb => .tail _ hb) hX', r.len, hv.opens g hX', hit, S1.not_as hfI, e1, ((k1.trans e1 (g.kept as₁ _)).more fun _ => List.count_le_count_cons).y _⟩ w hR
  try clear F1; try clear hfI
  cases hb with
  | head => obtain ⟨o, e, _⟩ := hit.here; exact ⟨o, e⟩
  | tail _ hb => obtain ⟨o', e⟩ := S1.xs b hb; exact ⟨o', g _ _ e⟩

theorem s1_for {te : Expr} {tg : Nat ⊕ List Nat} {pos : Pos} {iter : Expr} {ex : Ex} {body : List Stmt} {xs : List St} (ht : Tgt c T te tg) (hns : NSet iter) (h : SE c n T iter ex) (hb : SB c n T body xs) :
    S1 c n T (.For te iter body [] pos) (.forIn false tg ex xs) := by
  refine ⟨?_⟩
  intro env A s as X H ρ K R XX r hY w
  rw [wpS_forIn] at w
  refine wpAny_For (wpAny_mono (h.run r w) (fun y s₁ q => ?_) fun _ _ e => e.toS r.F r.len) (folded_ns hns env)
  obtain ⟨v, H₁, as₁, e1, S1, k1, hv, items, hsrc, hsz, w⟩ := q
  exact it_start S1 hv (srcQ_is hsrc).1 fun o hit => for_tail (rev := false) (tk := s₁.toks) ht hb r hY e1 S1 k1 hv hit w fun f s' q => q
theorem wpEs_one {P : Prog} {C : Calls} {e : Ex} {ρ : Fm} {H : AH} {W : QE} {X : XE} : wpEs P C [e] ρ H (fun vs H' => W (vs.headD .none) H') X = wpE P C e ρ H W X := rfl
theorem s1_forRev {te : Expr} {tg : Nat ⊕ List Nat} {p p' pos : Pos} {g : Str} {e : Expr} {ex : Ex} {body : List Stmt} {xs : List St} (C : Cok c T.gl) (hg : T.glob g = some (.ty "reversed")) (ht : Tgt c T te tg) (h : SEs c n T [e] [ex]) (hb : SB c n T body xs) :
    S1 c n T (.For te (.Call (.Name g p) [e] [] p') body [] pos) (.forIn true tg ex xs) := by
  refine ⟨?_⟩
  intro env A s as X H ρ K R XX r hY w
  rw [wpS_forIn] at w
  have e1 := C.gl g _ (ge_of hg).2.1
  refine wpAny_For (wpAny_Call_Name_kw (n_glob C hg r (.inr e1) ?_)) (fun _ => rfl)
  rw [← wpEs_one] at w
  refine PySem.callWith_type (no_star h) (wpAny_mono (se_evalArgs h r w) (fun a s₁ q => ?_) fun _ _ e => e.toS r.F r.len)
  try clear C; try clear h; try clear hg
  obtain ⟨hk, vs, H₁, as₁, e1, S1, k1, hvs, hl, items, hsrc, hsz, w⟩ := q
  rw [hk]
  refine ea2_3 (len1 hvs hl) ?_
  intro v y e2 hy hv
  subst e2
  rw [hy]
  exact rv_start hv hsrc fun o tk hit => rv_it (s := { s₁ with heap := s₁.heap.push o, toks := tk }) hit (for_tail ht hb r hY e1 S1 k1 hv hit w fun f s' q => q)

/-- nobody changes this object from here on -/
theorem ss_fz {st : Stmt} {x : St} {l : Nat} (h : S1 c n T st x) : SS c n T st (withFz T l x) := by
  refine ⟨?_⟩
  intro env A s as X H ρ K R XX r hY w
  exact wpAny_mono (h.run r hY w) (fun _ _ q => q) fun _ _ e => e

theorem cE_setcomp {k : Nat} {T : Tb} {elt : Expr} {gens : List Comprehension} {scope : Scope} {pos : Pos} {ex : Ex} (h : cE k T (.SetComp elt gens scope pos) = some ex) : False := by
  cases k with
  | zero => cases h
  | succ k => cases h
theorem cE_dictcomp {k : Nat} {T : Tb} {elt elt' : Expr} {gens : List Comprehension} {scope : Scope} {pos : Pos} {ex : Ex} (h : cE k T (.DictComp elt elt' gens scope pos) = some ex) : False := by
  cases k with
  | zero => cases h
  | succ k => cases h

theorem s1_assign (C : Cok c gl) (sc : SC c n) (hf : ∀ x f, gl.lookup x = some (.fn f) → ∃ fn, c.P.fns f = some fn) {k : Nat} {x : Str} {px pos : Pos} {v : Expr} {i : Nat} {e : Ex} (hg : T.gl = gl) (h1 : T.slot x = some i) (h2 : cE k T v = some e) :
    S1 c n T (.Assign [.Name x px] v pos) (.asg i e) := by
  refine ⟨?_⟩
  intro env A s as X H ρ K R XX r hY w
  have he := cE_ok C sc hf k hg h2
  cases hcomp : isComp v with
  | false => exact s1_asg h1 he.se r hY w (swaps_no hcomp)
  | true =>
    cases v with
    | ListComp elt gens scope pos' =>
      obtain ⟨b, hb⟩ := swaps_comp (elt := elt) (gens := gens) (scope := scope) (pos := pos') (px := px) (x := x) (l := pos.line) (env := env)
      cases b with
      | false => exact s1_asg h1 he.se r hY w hb
      | true =>
        obtain ⟨ok, hns, hi, he', hc⟩ := comp_inv C sc hf hg h2
        try clear C; try clear sc; try clear hf; try clear hg; try clear h2
        exact asg_use h1 ok hns hi he' hc r hY w hb
    | SetComp elt gens scope pos' => exact (cE_setcomp h2).elim
    | DictComp elt elt' gens scope pos' => exact (cE_dictcomp h2).elim
    | _ => cases hcomp

theorem flatO_some {o : Option (List (List St))} {xs : List St} (h : flatO o = some xs) : ∃ l, o = some l ∧ xs = l.flatten := by
  cases o with
  | none => cases h
  | some l => cases h; exact ⟨l, rfl, rfl⟩
inductive Tgt2R (T : Tb) : List Expr → List Nat → Prop
  | mk {x y : Str} {px py : Pos} {i j : Nat} : T.slot x = some i → T.slot y = some j → Tgt2R T [.Name x px, .Name y py] [i, j]
theorem cTgt2_is {T : Tb} {es : List Expr} {is : List Nat} (h : twoL (cTgt2 T) es = some is) : Tgt2R T es is := by
  replace h := twoL_some h
  refine ea2_2 h ?_
  try clear h
  intro a b q_3 h
  subst q_3
  replace h := bind_is h
  refine ea1_2 h ?_
  try clear h
  intro x h1 h
  replace h := bind_is h
  refine ea1_2 h ?_
  try clear h
  intro y h2 h
  replace h := bind_is h
  refine ea1_2 h ?_
  try clear h
  intro i h3 h
  try clear i; try clear y; try clear x; try clear b; try clear a
  replace h := map_is h
  refine ea1_2 h ?_
  try clear h
  intro j h4 q_3
  subst q_3
  try clear j; try clear h
  replace h1 := nmE_some h1
  obtain ⟨px, rfl⟩ := h1
  try clear px; try clear h1
  replace h2 := nmE_some h2
  obtain ⟨py, rfl⟩ := h2
  exact .mk h3 h4
theorem cTgt_ok {T : Tb} {t : Expr} {tg : Nat ⊕ List Nat} (h : cTgt T t = some tg) : Tgt c T t tg := by
  cases t with
  | Name x p => obtain ⟨i, h1, rfl⟩ := map_is h; exact tgt_name h1
  | Tuple es k p =>
    replace h := map_is h
    refine ea1_2 h ?_
    try clear h
    intro is h1 q_3
    subst q_3
    try clear is; try clear h
    cases cTgt2_is h1 with
    | mk h3 h4 => exact tgt_pair h3 h4
  | _ => cases h
theorem isRev_is {T : Tb} {f : Expr} (h : isRev T f = true) : ∃ g p, f = .Name g p ∧ T.glob g = some (.ty "reversed") := by
  unfold isRev at h
  cases h1 : nmE f with
  | none => rw [h1] at h; cases h
  | some x =>
    rw [h1] at h
    obtain ⟨p, rfl⟩ := nmE_some h1
    have h : (T.glob x).any (fun g => tyGl g == some "reversed") = true := h
    cases h2 : T.glob x with
    | none => rw [h2] at h; cases h
    | some g =>
      rw [h2] at h
      exact ⟨x, p, rfl, by rw [h2, tyGl_some (eq_of_beq h)]⟩
theorem for_ok {k : Nat} {T : Tb} {t it : Expr} {tg : Nat ⊕ List Nat} {q : Bool × Ex} {body : List Stmt} {xs : List St} {pos : Pos} (C : Cok c T.gl) (ihe : ∀ {e : Expr} {ex : Ex}, cE k T e = some ex → EOk c n T e ex) (ht : Tgt c T t tg) (h : cIt (cE k T) T it = some q) (hb : SB c n T body xs) :
    S1 c n T (.For t it body [] pos) (.forIn q.1 tg q.2 xs) := by
  have F : ∀ {e : Expr}, ((cE k T e).map fun x => (false, x)) = some q → S1 c n T (.For t e body [] pos) (.forIn q.1 tg q.2 xs) := fun h => by
    refine ea1_2 (map_is h) ?_
    intro ex h1 q_3
    subst q_3
    exact s1_for ht (ihe h1).nset (ihe h1).se hb
  cases it with
  | Call f args kws p =>
    by_cases hr : isRev T f = true
    · have h : nilL (oneL (fun a => (cE k T a).map fun x => (true, x)) args) kws = some q := (if_pos hr).symm.trans h
      obtain ⟨rfl, h⟩ := nilL_some h
      refine ea1_2 (oneL_some h) ?_
      intro e q_2 h
      subst q_2
      refine ea1_2 (map_is h) ?_
      intro ex h1 q_3
      subst q_3
      refine ea2_2 (isRev_is hr) ?_
      intro g p' q_3 hg
      subst q_3
      exact s1_forRev C hg ht (.cons ⟨(ihe h1).se, (ihe h1).ns⟩ .nil) hb
    · exact F ((if_neg hr).symm.trans h)
  | _ => exact F h
theorem isCall_is {v : Expr} (h : isCall v = true) : ∃ f a k p, v = .Call f a k p := by
  cases v <;> first | exact ⟨_, _, _, _, rfl⟩ | cases h
theorem pair_ok {k : Nat} {T : Tb} {es : List Expr} {v : Expr} {kk : Nat} {pt pos : Pos} {s : St} (ihe : ∀ {e : Expr} {ex : Ex}, cE k T e = some ex → EOk c n T e ex) (h : cPair (cE k T) T es v = some s) : S1 c n T (.Assign [.Tuple es kk pt] v pos) s := by
  replace h := ite_some h
  obtain ⟨hc, h⟩ := h
  replace h := bind_is h
  refine ea1_2 h ?_
  try clear h
  intro is h1 h
  try clear is
  replace h := map_is h
  refine ea1_2 h ?_
  try clear h
  intro e h5 q_3
  subst q_3
  try clear e; try clear h
  replace hc := isCall_is hc
  refine ea4_1 hc ?_
  try clear hc
  intro f args kws p q_5
  subst q_5
  try clear p; try clear kws; try clear args; try clear f; try clear hc
  cases cTgt2_is h1 with
  | mk h3 h4 => exact s1_pair h3 h4 (ihe h5).se
theorem asg_ok (C : Cok c gl) (sc : SC c n) (hf : ∀ x f, gl.lookup x = some (.fn f) → ∃ fn, c.P.fns f = some fn) {k : Nat} {T : Tb} {t v : Expr} {pos : Pos} {sts : List St} (hg : T.gl = gl) (h : cAsg (cE k T) T t v pos.line = some sts) : SS c n T (.Assign [t] v pos) sts := by
  cases t with
  | Name x px =>
    replace h := Option.bind_eq_some_iff.mp h
    refine ea1_2 h ?_
    try clear h
    intro i h1 h
    try clear i
    replace h := Option.map_eq_some_iff.mp h
    refine ea1_2 h ?_
    try clear h
    intro e h2 q_3
    subst q_3
    exact ss_fz (s1_assign C sc hf hg h1 h2)
  | Tuple es kk pt =>
    replace h := Option.map_eq_some_iff.mp h
    refine ea1_2 h ?_
    try clear h
    intro s' hp q_3
    subst q_3
    exact ss_fz (pair_ok (fun q => cE_ok C sc hf k hg q) hp)
  | Subscript o i pp =>
    replace h := nite_some h
    obtain ⟨hc, h⟩ := h
    replace h := Option.bind_eq_some_iff.mp h
    refine ea1_2 h ?_
    try clear h
    intro ev h1 h
    replace h := Option.bind_eq_some_iff.mp h
    refine ea1_2 h ?_
    try clear h
    intro eo h2 h
    try clear eo; try clear ev
    replace h := Option.map_eq_some_iff.mp h
    refine ea1_2 h ?_
    try clear h
    intro ei h3 q_3
    subst q_3
    exact ss_fz (s1_setI hc (cE_ok C sc hf k hg h1).se (cE_ok C sc hf k hg h2).se (cE_ok C sc hf k hg h3).se)
  | Attribute o name pp =>
    obtain ⟨hc, h1⟩ := nite_some h
    try clear h
    refine ea1_2 (bind_is h1) ?_
    intro ev h2 h3
    try clear h1
    try clear ev
    replace h3 := map_is h3
    refine ea1_2 h3 ?_
    try clear h3
    intro q h4 q_3
    subst q_3
    try clear q; try clear h3
    subst hg
    refine ea5_6 (cAttr_is h4) ?_
    intro x ms ats f a hx hat hok e1 e2 e3
    try clear h4
    try clear hok; try clear a; try clear f; try clear ats; try clear ms; try clear hg
    subst e1
    exact ss_fz (e3 ▸ s1_setA (C.cl x _ _ _ hx) hat hc (cE_ok C sc hf k rfl h2).se (cE_ok C sc hf k rfl e2).se)
  | _ => cases h
theorem cRz_is {T : Tb} {e : Expr} {j : Nat} (h : cRz T e = some j) : ∃ x p m kk mp cp, e = .Call (.Name x p) [.Constant (.str m) kk mp] [] cp ∧ T.glob x = some (.exc j) := by
  cases e with
  | Call f args kws cp =>
    replace h := nilL_some h
    obtain ⟨rfl, h2⟩ := h
    try clear h
    replace h2 := oneL_some h2
    refine ea1_2 h2 ?_
    try clear h2
    intro a q_2 h3
    subst q_2
    refine ea1_2 (bind_is h3) ?_
    intro m h4 h5
    try clear h3
    refine ea1_2 (bind_is h5) ?_
    intro x h6 h7
    try clear h5
    refine ea1_2 (bind_is h7) ?_
    intro g h8 h9
    try clear h7
    try clear g; try clear a; try clear h2
    replace h4 := strC_some h4
    refine ea2_1 h4 ?_
    try clear h4
    intro kk mp q_3
    subst q_3
    try clear h4
    replace h6 := nmE_some h6
    obtain ⟨p, rfl⟩ := h6
    try clear h6
    replace h9 := excGl_some h9
    cases h9
    exact ⟨x, p, m, kk, mp, cp, rfl, h8⟩
  | _ => cases h
theorem cRz_some {T : Tb} {e cause : Option Expr} {j : Nat} (h : cRaise T e cause = some j) : ∃ x p m kk mp cp, e = some (.Call (.Name x p) [.Constant (.str m) kk mp] [] cp) ∧ cause = none ∧ T.glob x = some (.exc j) := by
  obtain ⟨hc, h1⟩ := ite_some h
  try clear h
  refine ea1_2 (bind_is h1) ?_
  intro e' h2 h3
  try clear h1
  try clear e'
  replace h3 := cRz_is h3
  refine ea6_2 h3 ?_
  try clear h3
  intro x p m kk mp cp q_7 h4
  subst q_7
  exact ⟨x, p, m, kk, mp, cp, h2, Option.isNone_iff_eq_none.mp hc, h4⟩
theorem cAs_some {T : Tb} {nm : Option Str} {a : Option Nat} (h : cAs T nm = some a) : (nm = none ∧ a = none) ∨ ∃ y i, nm = some y ∧ a = some i ∧ T.slot y = some i ∧ T.names.lookup y = some .local := by
  cases nm with
  | none => cases h; exact .inl ⟨rfl, rfl⟩
  | some y =>
    replace h := ite_some h
    obtain ⟨hl, h⟩ := h
    replace h := Option.map_eq_some_iff.mp h
    refine ea1_2 h ?_
    try clear h
    intro i h1 q_3
    subst q_3
    exact .inr ⟨y, i, rfl, rfl, h1, hl⟩
theorem try_ok (C : Cok c T.gl) {r : List Stmt → Option (List St)} {body : List Stmt} {bs : List St} {hd : ExceptHandler} {q : Nat × Option Nat × List St} {pos : Pos} (hb : SB c n T body bs) (h : cHd T r hd = some q) (hr : ∀ b' {b : List Stmt} {xs : List St}, c.base.StaysIn b' → r b = some xs → SB (c.to true b') n T b xs) :
    S1 c n T (.Try body [hd] [] [] pos) (.try_ bs q.1 q.2.1 q.2.2) := by
  cases hd with
  | ExceptHandler t nm b p =>
    replace h := Option.bind_eq_some_iff.mp h
    refine ea1_2 h ?_
    try clear h
    intro t q_2 h
    subst q_2
    replace h := Option.bind_eq_some_iff.mp h
    refine ea1_2 h ?_
    try clear h
    intro x h1 h
    replace h := Option.bind_eq_some_iff.mp h
    refine ea1_2 h ?_
    try clear h
    intro g h2 h
    replace h := Option.bind_eq_some_iff.mp h
    refine ea1_2 h ?_
    try clear h
    intro j h3 h
    replace h := Option.bind_eq_some_iff.mp h
    refine ea1_2 h ?_
    try clear h
    intro a h4 h
    replace h := nite_some h
    obtain ⟨hne, h⟩ := h
    try clear a; try clear j; try clear g; try clear x; try clear t
    replace h := Option.map_eq_some_iff.mp h
    refine ea1_2 h ?_
    try clear h
    intro xs h5 q_3
    subst q_3
    try clear xs; try clear h
    replace h1 := nmE_some h1
    obtain ⟨xp, rfl⟩ := h1
    try clear xp; try clear h1
    replace h3 := excGl_some h3
    cases h3
    try clear h3
    cases b with
    | nil => cases hne
    | cons h₀ hs => exact s1_try C h2 (cAs_some h4) hb fun b' hst => hr b' hst h5
abbrev Scs (c : Cx) (n : Nat) : Prop := ∀ q b, c.base.StaysIn b → SC (c.to q b) n
theorem cS_ok (k : Nat) : ∀ {c : Cx}, Cok c gl → Scs c n → (∀ x f, gl.lookup x = some (.fn f) → ∃ fn, c.P.fns f = some fn) → ∀ {T : Tb} {st : Stmt} {sts : List St}, T.gl = gl → cS k T st = some sts → SS c n T st sts := by
  induction k with
  | zero => intro c C scs hf T st sts _ h; cases h
  | succ k ih =>
    intro c C scs hf T st sts hg h
    have sc : SC c n := scs c.P.q c.base fun _ _ e => e
    have iht : ∀ b' {b : List Stmt} {xs : List St}, c.base.StaysIn b' → flatO (mapO (cS k T) b) = some xs → SB (c.to true b') n T b xs := fun b' {b xs} hst q => by
      try clear sc; try clear k
      refine ea1_2 (flatO_some q) ?_
      intro l hl q_3
      subst q_3
      exact sb_of (mapO_A2 (R := SS (c.to true b') n T) (fun _ _ q => ih (C.to (q := true) hst) (fun q b'' h => scs q b'' fun a o e => h a o (hst a o e)) hf hg q) hl)
    have ihb : ∀ {b : List Stmt} {xs : List St}, flatO (mapO (cS k T) b) = some xs → SB c n T b xs := fun {b xs} q => by
      refine ea1_2 (flatO_some q) ?_
      intro l hl q_3
      subst q_3
      exact sb_of (mapO_A2 (R := SS c n T) (fun _ _ q => ih C scs hf hg q) hl)
    have ihe : ∀ {e : Expr} {ex : Ex}, cE k T e = some ex → EOk c n T e ex := fun q => cE_ok C sc hf k hg q
    clear ih
    cases st with
    | Assign ts v pos =>
      try clear ihe
      refine ea1_2 (oneL_some h) ?_
      intro t q_2 h
      subst q_2
      exact asg_ok C sc hf hg h
    | While t body els pos =>
      obtain ⟨rfl, h⟩ := nilL_some h
      replace h := Option.bind_eq_some_iff.mp h
      refine ea1_2 h ?_
      try clear h
      intro ex h1 h
      try clear ex
      replace h := Option.map_eq_some_iff.mp h
      refine ea1_2 h ?_
      try clear h
      intro xs h2 q_3
      subst q_3
      exact ss_fz (s1_while (ihe h1).st (ihb h2))
    | Expr v pos =>
      obtain ⟨hc, h⟩ := nite_some h
      replace h := Option.map_eq_some_iff.mp h
      refine ea1_2 h ?_
      try clear h
      intro ex h1 q_3
      subst q_3
      exact ss_fz (s1_expr hc (ihe h1).se)
    | If t a b pos =>
      refine ea1_2 (Option.bind_eq_some_iff.mp h) ?_
      intro ex h1 h
      replace h := Option.bind_eq_some_iff.mp h
      refine ea1_2 h ?_
      try clear h
      intro xs h2 h
      try clear xs; try clear ex
      replace h := Option.map_eq_some_iff.mp h
      refine ea1_2 h ?_
      try clear h
      intro ys h3 q_3
      subst q_3
      exact ss_fz (s1_if (ihe h1).st (ihb h2) (ihb h3))
    | For t it body els pos =>
      obtain ⟨rfl, h⟩ := nilL_some h
      replace h := bind_is h
      refine ea1_2 h ?_
      try clear h
      intro tg h1 h
      replace h := bind_is h
      refine ea1_2 h ?_
      try clear h
      intro q h2 h
      try clear q; try clear tg
      replace h := map_is h
      refine ea1_2 h ?_
      try clear h
      intro xs h3 q_3
      subst q_3
      exact ss_fz (for_ok (hg ▸ C) ihe (cTgt_ok h1) h2 (ihb h3))
    | Return v p =>
      cases v with
      | some e =>
        refine ea1_2 (Option.map_eq_some_iff.mp h) ?_
        intro ex h1 q_3
        subst q_3
        exact ss_ret (ihe h1).se
      | none => cases h; exact ss_ret0
    | Raise a b p =>
      refine ea1_2 (Option.map_eq_some_iff.mp h) ?_
      intro j h1 q_3
      subst q_3
      try clear j
      replace h1 := cRz_some h1
      refine ea6_3 h1 ?_
      try clear h1
      intro x p m kk mp cp q_7 q_8 hx
      subst q_7
      subst q_8
      exact ⟨fun r hY w => (s1_raise (hg ▸ C) hx).run r hY w⟩
    | Try body hs els fin pos =>
      obtain ⟨rfl, h⟩ := nilL_some h
      replace h := nilL_some h
      obtain ⟨rfl, h⟩ := h
      replace h := oneL_some h
      refine ea1_2 h ?_
      try clear h
      intro hd q_2 h
      subst q_2
      replace h := Option.bind_eq_some_iff.mp h
      refine ea1_2 h ?_
      try clear h
      intro bs h1 h
      try clear bs; try clear hd
      replace h := Option.map_eq_some_iff.mp h
      refine ea1_2 h ?_
      try clear h
      intro q h2 q_3
      subst q_3
      exact ss_fz (try_ok (hg ▸ C) (ihb h1) h2 iht)
    | _ => cases h
theorem cSs_ok (C : Cok c gl) (sc : Scs c n) (hf : ∀ x f, gl.lookup x = some (.fn f) → ∃ fn, c.P.fns f = some fn) {k : Nat} {T : Tb} {b : List Stmt} {sts : List St} (hg : T.gl = gl) (h : cSs k T b = some sts) : SB c n T b sts := by
  replace h := flatO_some h
  refine ea1_2 h ?_
  try clear h
  intro l hl q_3
  subst q_3
  exact sb_of (mapO_A2 (R := SS c n T) (fun _ _ q => cS_ok k C sc hf hg q) hl)
end
end Mine

end
noncomputable section
namespace Mine
open PySem PySem.Calls PyProof.Rows

/-- a call of a def or a method -/
theorem call_cellsM {prog : Program} {w : World} {A : Around} {R : Result → Shared → Prop} {s : Shared} {name qual : Str} {params : Arguments} {body : List Stmt} {scope : Scope}
    {pm cd doc : Value} {a : Addr} {o : Obj} {args : List Value} {binds : List (Str × Value)}
    (hroom : A.depth < recursionLimit) (ho : s.heap.get? a = some o) (hdata : o.data = .func (methDef name qual params body scope pm cd doc)) (hlim : s.heap.NoLimit) (hcd : s.heap.CodeRec cd qual)
    (hbind : bindArgs (methDef name qual params body scope pm cd doc) ⟨args, []⟩ = pure binds)
    (hkind : ∀ x ∈ binds, scope.names.lookup x.1 = some .local ∨ (scope.names.lookup x.1 = some .cell ∧ ((cellsFrom (s.heap.objs.size + 1) scope.names []).lookup x.1).isSome = true))
    (h : ∀ h₁ tk, PyProof.Rows.Fr s.heap s.heap.objs.size h₁ (bindL (envOfC qual scope s.heap.objs.size a cd).kindOf binds fun _ => none) →
      Cl s.heap.objs.size (cellsFrom (s.heap.objs.size + 1) scope.names []) h₁ (bindC (envOfC qual scope s.heap.objs.size a cd).kindOf binds fun _ => none) →
      wpAny (model prog w) (A.deeper (envOfC qual scope s.heap.objs.size a cd)) (execs body (envOfC qual scope s.heap.objs.size a cd))
        (fun f s' => R (.ok (.ret (match f with | .ret v => v | _ => .none))) s')
        (fun e s' => wpAny (model prog w) (A.deeper (envOfC qual scope s.heap.objs.size a cd)) (leaving (envOfC qual scope s.heap.objs.size a cd) e)
          (fun _ s'' => R (.error e) s'') (fun e' s'' => R (.error e') s'') s')
        { s with heap := h₁, toks := tk })
    (hco : scope.isCoroutine = false) (hgen : scope.isGenerator = false) (hk : scope.kind = .function) :
    codeAny (model prog w) A (.call (.ref a) ⟨args, []⟩) R s := by
  refine codeAny_call_cells (fd := methDef name qual params body scope pm cd doc) hroom ho hdata hlim hcd rfl hbind rfl hkind (fun s₁ X => ?_) hco hgen hk
  refine ea2_2 X.done ?_
  intro h₁ tk q_3 _
  subst q_3
  exact h h₁ tk ⟨X.toInCall.ns, X.toInCall.keep, X.toInCall.fresh⟩ ⟨X.cell, X.apart, X.above⟩
set_option genInjectivity false in
/-- a function as it was compiled -/
structure FOk (c : Cx) (gl : List (Str × Gl)) (f : Nat) (fn : Fn) where
  name : Str
  qual : Str
  params : Arguments
  body : List Stmt
  scope : Scope
  pm : Value
  cd : Value
  doc : Value
  ps : List Str
  T : Tb
  k : Nat
  data : c.fdat f = methDef name qual params body scope pm cd doc
  code : c.base.CodeRec cd qual
  hgl : T.gl = gl
  names : T.names = scope.names
  hn : T.n = fn.arity + fn.extra
  hc : cSs k T body = some fn.body
  bind : ∀ xs : List Value, xs.length = fn.arity → bindArgs (methDef name qual params body scope pm cd doc) ⟨xs, []⟩ = pure (ps.zip xs)
  psl : ps.length = fn.arity
  psn : ps.Nodup
  psk : ∀ x ∈ ps, scope.names.lookup x = some .local ∨ scope.names.lookup x = some .cell
  tabn : (T.tab.map (·.2)).Nodup
  tabp : ∀ x i, T.tab.lookup x = some i → i < fn.arity → ps[i]? = some x
  keys : (scope.names.map (·.1)).Nodup
  nofree : ∀ p ∈ scope.names, p.2 ≠ .free
  kind : scope.kind = .function
  co : scope.isCoroutine = false
  gen : scope.isGenerator = false

theorem cells_keys : ∀ (names : List (Str × NameKind)) (n : Nat) (acc : List (Str × Addr)), ((cellsFrom n names acc).map (·.1)).Perm (((names.filter (fun p => p.2 == .cell)).map (·.1)) ++ acc.map (·.1))
  | [], n, acc => by simp [cellsFrom]
  | (x, k) :: r, n, acc => by
    unfold cellsFrom
    split
    · rename_i hk
      refine (cells_keys r (n + 1) ((x, n) :: acc)).trans ?_
      rw [List.filter_cons_of_pos (by simpa using hk)]
      simp only [List.map_cons, List.cons_append]
      exact List.perm_middle
    · rename_i hk
      rw [List.filter_cons_of_neg (by simpa using hk)]
      exact cells_keys r n acc
theorem cells_some : ∀ (names : List (Str × NameKind)) (n : Nat) (acc : List (Str × Addr)) (x : Str), ((x, NameKind.cell) ∈ names ∨ (∃ a, acc.lookup x = some a)) → ∃ a, (cellsFrom n names acc).lookup x = some a
  | [], n, acc, x, h => by
    rcases h with h | h
    · cases h
    · exact h
  | (y, k) :: r, n, acc, x, h => by
    unfold cellsFrom
    split
    · rename_i hk
      refine cells_some r (n + 1) ((y, n) :: acc) x ?_
      by_cases hxy : x = y
      · subst hxy; exact .inr ⟨n, by simp⟩
      · rcases h with h | ⟨a, h⟩
        · cases h with
          | head => exact absurd rfl hxy
          | tail _ h => exact .inl h
        · exact .inr ⟨a, by rw [List.lookup_cons, show (x == y) = false by simpa using hxy]; exact h⟩
    · rename_i hk
      refine cells_some r n acc x ?_
      rcases h with h | h
      · cases h with
        | head => exact absurd rfl hk
        | tail _ h => exact .inl h
      · exact .inr h
theorem lookup_of_mem {α β : Type} [BEq α] [LawfulBEq α] : ∀ {l : List (α × β)}, (l.map (·.1)).Nodup → ∀ {p : α × β}, p ∈ l → l.lookup p.1 = some p.2
  | q :: r, hn, p, h => by
    rw [List.map_cons, List.nodup_cons] at hn
    cases h with
    | head => obtain ⟨p1, p2⟩ := q; rw [List.lookup_cons, BEq.rfl]
    | tail _ h =>
      have : (p.1 == q.1) = false := by
        simp only [beq_eq_false_iff_ne, ne_eq]
        intro e
        exact hn.1 (e ▸ List.mem_map.mpr ⟨p, h, rfl⟩)
      obtain ⟨q1, q2⟩ := q
      rw [List.lookup_cons, this]
      exact lookup_of_mem hn.2 h

theorem inj_snd {α : Type} : ∀ {l : List (α × Nat)}, (l.map (·.2)).Nodup → ∀ {x y : α} {i : Nat}, (x, i) ∈ l → (y, i) ∈ l → x = y
  | q :: r, hn, x, y, i, h1, h2 => by
    rw [List.map_cons, List.nodup_cons] at hn
    cases h1 with
    | head =>
      cases h2 with
      | head => rfl
      | tail _ h2 => exact absurd (List.mem_map.mpr ⟨_, h2, rfl⟩) hn.1
    | tail _ h1 =>
      cases h2 with
      | head => exact absurd (List.mem_map.mpr ⟨_, h1, rfl⟩) hn.1
      | tail _ h2 => exact inj_snd hn.2 h1 h2

theorem bindL_other {kindOf : Str → Option NameKind} : ∀ {ps : List Str} {xs : List Value} {m : Str → Option Value} {x : Str}, x ∉ ps → bindL kindOf (ps.zip xs) m x = m x
  | [], _, m, x, _ => by simp [bindL]
  | _ :: _, [], m, x, _ => by simp [bindL]
  | p :: ps, y :: xs, m, x, h => by
    have h1 : x ≠ p := fun e => h (e ▸ .head _)
    have h2 : x ∉ ps := fun e => h (.tail _ e)
    simp only [List.zip_cons_cons, bindL]
    rw [bindL_other h2]
    split
    · simp [h1]
    · rfl
theorem bindL_at {kindOf : Str → Option NameKind} : ∀ {ps : List Str} {xs : List Value} {m : Str → Option Value} {x : Str} {i : Nat} {y : Value}, ps.Nodup → ps[i]? = some x → xs[i]? = some y → kindOf x = some .local → bindL kindOf (ps.zip xs) m x = some y
  | [], _, m, x, i, y, _, h, _, _ => by simp at h
  | _ :: _, [], m, x, i, y, _, _, h, _ => by simp at h
  | p :: ps, z :: xs, m, x, 0, y, hn, h1, h2, hk => by
    simp at h1 h2
    subst h1; subst h2
    simp only [List.zip_cons_cons, bindL]
    rw [bindL_other (List.nodup_cons.mp hn).1, if_pos hk]
    simp
  | p :: ps, z :: xs, m, x, i + 1, y, hn, h1, h2, hk => by
    simp only [List.zip_cons_cons, bindL]
    simp only [List.getElem?_cons_succ] at h1 h2
    exact bindL_at (List.nodup_cons.mp hn).2 h1 h2 hk
theorem bindC_other {kindOf : Str → Option NameKind} : ∀ {ps : List Str} {xs : List Value} {m : Str → Option Value} {x : Str}, x ∉ ps → bindC kindOf (ps.zip xs) m x = m x
  | [], _, m, x, _ => by simp [bindC]
  | _ :: _, [], m, x, _ => by simp [bindC]
  | p :: ps, y :: xs, m, x, h => by
    have h1 : x ≠ p := fun e => h (e ▸ .head _)
    have h2 : x ∉ ps := fun e => h (.tail _ e)
    simp only [List.zip_cons_cons, bindC]
    rw [bindC_other h2]
    split
    · rfl
    · simp [h1]
theorem bindC_at {kindOf : Str → Option NameKind} : ∀ {ps : List Str} {xs : List Value} {m : Str → Option Value} {x : Str} {i : Nat} {y : Value}, ps.Nodup → ps[i]? = some x → xs[i]? = some y → kindOf x ≠ some .local → bindC kindOf (ps.zip xs) m x = some y
  | [], _, m, x, i, y, _, h, _, _ => by simp at h
  | _ :: _, [], m, x, i, y, _, _, h, _ => by simp at h
  | p :: ps, z :: xs, m, x, 0, y, hn, h1, h2, hk => by
    simp at h1 h2
    subst h1; subst h2
    simp only [List.zip_cons_cons, bindC]
    rw [bindC_other (List.nodup_cons.mp hn).1, if_neg hk]
    simp
  | p :: ps, z :: xs, m, x, i + 1, y, hn, h1, h2, hk => by
    simp only [List.zip_cons_cons, bindC]
    simp only [List.getElem?_cons_succ] at h1 h2
    exact bindC_at (List.nodup_cons.mp hn).2 h1 h2 hk

theorem sc_succ {c : Cx} {n : Nat} {gl : List (Str × Gl)} (C : Cok c gl) (hf : ∀ x f, gl.lookup x = some (.fn f) → ∃ fn, c.P.fns f = some fn) (ok : ∀ f fn, c.P.fns f = some fn → Nonempty (FOk c gl f fn)) (sc : Scs c n) : SC c (n + 1) := by
  refine ⟨?_⟩
  intro f fn A s as X H vs xs Q XX hfn a fr S hvs w
  obtain ⟨K⟩ := ok f fn hfn
  rw [callF_succ, hfn] at w
  obtain ⟨hlen, w⟩ := w
  refine ea1_2 (C.fobj f fn hfn) ?_
  intro o ho hdata
  rw [K.data] at hdata
  have hxl : xs.length = fn.arity := by rw [← hvs.length]; exact hlen
  refine wpAny_call (call_cellsM (by have := a.hd; lia) (S.stays _ _ ho) hdata (C.nolim.keeps S.stays) (K.code.keeps S.stays) (K.bind xs hxl) (fun x hx => ?_) (fun h₁ tk F0 Cl0 => ?_) K.co K.gen K.kind)
  · have hx1 := (List.of_mem_zip hx).1
    rcases K.psk _ hx1 with q | q
    · exact .inl q
    · refine .inr ⟨q, ?_⟩
      obtain ⟨b, hb⟩ := cells_some K.scope.names (s.heap.objs.size + 1) [] x.1 (.inl (mem_of_lookup q))
      rw [hb]; rfl
  · have hfL : s.heap.get? s.heap.objs.size = none := get_fresh _
    generalize hL : s.heap.objs.size = L at F0 Cl0 hfL ⊢
    generalize henv : envOfC K.qual K.scope L (c.fad f) K.cd = env at F0 Cl0 ⊢
    have ecells : env.cells = cellsFrom (L + 1) K.scope.names [] := by rw [← henv]; rfl
    have eloc : env.locals = L := by rw [← henv]; rfl
    have ekind : ∀ x, env.kindOf x = K.scope.names.lookup x := fun x => by rw [← henv]; rfl
    have hcn : ((cellsFrom (L + 1) K.scope.names []).map (·.1)).Nodup := by
      refine (cells_keys K.scope.names (L + 1) []).symm.nodup ?_
      simp only [List.map_nil, List.append_nil]
      exact (List.filter_sublist.map _).nodup K.keys
    have hcl : ∀ p ∈ cellsFrom (L + 1) K.scope.names [], (cellsFrom (L + 1) K.scope.names []).lookup p.1 = some p.2 := fun p hp => lookup_of_mem hcn hp
    have habove : ∀ p ∈ cellsFrom (L + 1) K.scope.names [], L < p.2 := fun p hp => Cl0.above p.1 p.2 hp
    have hfresh : ∀ b, L ≤ b → s.heap.get? b = none := fun b hb => by
      cases e : s.heap.get? b with
      | none => rfl
      | some o => exact absurd (Heap.lt_size e) (by rw [hL]; exact Nat.not_lt.mpr hb)
    have hown : ∀ b ∈ own env, L ≤ b := fun b hb => by
      cases hb with
      | head => rw [eloc]; exact Nat.le_refl _
      | tail _ hb =>
        refine ea1_2 (List.mem_map.mp hb) ?_
        intro p hp q_3
        subst q_3
        rw [ecells] at hp
        exact Nat.le_of_lt (habove p hp)
    have g : Grown s.heap h₁ := F0.keep
    have ho2 : ∀ b ∈ own2 env, b ∈ own env := fun b hb => by
      cases hb with
      | head => exact .head _
      | tail _ hb => exact hb
    have hX' : ∀ b ∈ own2 env ++ X, b ∈ X ∨ s.heap.get? b = none := fun b hb => by
      rcases List.mem_append.mp hb with q | q
      · exact .inr (hfresh b (hown b (ho2 b q)))
      · exact .inl q
    have S1 : SR c as (own2 env ++ X) H { s with heap := h₁, toks := tk } := S.opens (s' := { s with heap := h₁, toks := tk }) g hX' (fun b hb => by
      rcases List.mem_append.mp hb with q | q
      · cases ho2 b q with
        | head => rw [eloc]; obtain ⟨o, _, _, e, _⟩ := F0.ns; exact ⟨o, e⟩
        | tail _ q =>
          refine ea1_2 (List.mem_map.mp q) ?_
          intro p hp q_3
          subst q_3
          rw [ecells] at hp
          refine ea1_2 (Cl0.cell p.1 p.2 (hcl p hp)) ?_
          intro o e _
          exact ⟨o, e⟩
      · obtain ⟨o, e⟩ := S.xs b q; exact ⟨o, g _ _ e⟩) rfl rfl
    have hvs1 : ∀ {i : Nat} {v : V}, vs[i]? = some v → ∃ y, xs[i]? = some y ∧ VR c as (own2 env ++ X) h₁ v y := fun e => by
      refine ea1_2 (hvs.get e) ?_
      intro y e1 e2
      exact ⟨y, e1, e2.opens g hX'⟩
    have hslot : ∀ {x : Str} {i : Nat} {v : V}, K.T.tab.lookup x = some i → ((vs.map some ++ List.replicate fn.extra none)[i]?).join = some v → ∃ y, K.ps[i]? = some x ∧ xs[i]? = some y ∧ VR c as (own2 env ++ X) h₁ v y := fun {x i v} ht e => by
      have hi : i < vs.length ∧ vs[i]? = some v := by
        by_cases hi : i < vs.length
        · rw [List.getElem?_append_left (by simpa using hi)] at e
          rw [List.getElem?_map] at e
          cases hq : vs[i]? with
          | none => rw [hq] at e; cases e
          | some v' => rw [hq] at e; simp at e; exact ⟨hi, by rw [e]⟩
        · exfalso
          rw [List.getElem?_append_right (by simpa using hi)] at e
          rw [List.getElem?_replicate] at e
          split at e <;> cases e
      refine ea1_2 (hvs1 hi.2) ?_
      intro y e1 e2
      exact ⟨y, K.tabp x i ht (by rw [← hlen]; exact hi.1), e1, e2⟩
    have F1 : FR c as (own2 env ++ X) h₁ env K.T.tab (vs.map some ++ List.replicate fn.extra none) := by
      refine ⟨by rw [← henv]; exact K.kind, by rw [← henv]; rfl, by rw [← henv]; rfl, by simp, ?_, ?_, ⟨_, by rw [eloc]; exact F0.ns, fun x i ht hk v e => ?_⟩, fun x i ht hk => ?_, fun x y b e1 e2 => ?_, fun x y i e1 e2 => ?_⟩
      · rw [eloc]; exact S.not_as hfL
      · rw [eloc]; exact S.base_none hfL
      · refine ea1_3 (hslot ht e) ?_
        intro y h1 h2 h3
        exact ⟨y, bindL_at K.psn h1 h2 hk, h3⟩
      · have hk' : K.scope.names.lookup x = some .cell := by
          rw [ekind] at hk
          rcases hk with hk | hk
          · exact hk
          · exact absurd rfl (K.nofree _ (mem_of_lookup hk))
        obtain ⟨b, hb⟩ := cells_some K.scope.names (L + 1) [] x (.inl (mem_of_lookup hk'))
        have hLb := Cl0.above x b (mem_of_lookup hb)
        have hnb := hfresh b (Nat.le_of_lt hLb)
        refine ⟨b, _, by rw [ecells]; exact hb, List.mem_append_left _ (.tail _ (.tail _ (List.mem_map.mpr ⟨(x, b), by rw [ecells]; exact mem_of_lookup hb, rfl⟩))), S.not_as hnb, S.base_none hnb, by rw [eloc]; exact Nat.ne_of_gt hLb, Cl0.cell x b hb, fun v e => ?_⟩
        refine ea1_3 (hslot ht e) ?_
        intro y h1 h2 h3
        exact ⟨y, bindC_at K.psn h1 h2 (by rw [ekind, hk']; simp), h3⟩
      · rw [ecells] at e1 e2
        exact name_of_addr Cl0.apart (mem_of_lookup e1) (mem_of_lookup e2)
      · have h1 := mem_of_lookup e1
        have h2 := mem_of_lookup e2
        have := inj_snd K.tabn h1 h2
        exact this
    have Kn : KOk K.T env := by
      refine ⟨fun x h => ?_, fun x h => ?_, fun x h => ?_, fun x h => ?_⟩
      · rw [ekind, ← K.names]; exact h
      · rw [ekind, ← K.names]; exact h
      · rw [ekind, ← K.names]; exact .inl h
      · rw [ekind, ← K.names]; exact h
    have a1 : AOk c (A.deeper env) n := ⟨⟨a.hh, a.hx, by have := a.hd; simp only [Around.deeper]; lia, by have := a.hu; simp only [Around.deeper]; lia⟩, by have := a.hd; simp only [Around.deeper]; lia, by have := a.hu; simp only [Around.deeper]; lia⟩
    refine ea1_2 fr ?_
    try clear fr
    intro l hfl hfe
    have efr : env.frame = some L := by rw [← henv]; rfl
    have hcnt : ∀ b, X.count b ≤ (own2 env ++ X).count b := fun b => by rw [List.count_append]; exact Nat.le_add_left _ _
    have hLX : L ∈ own2 env ++ X := List.mem_append_left _ (by rw [← eloc]; exact .head _)
    have fr1 : ∀ {as' : Adr} {Z : List Addr} {H' : AH} {s' : Shared} {tab : List (Str × Nat)} {ρ : Fm} {X' as'' : _}, Ext as s.heap as' → Kept as (own2 env ++ X) s.heap s'.heap → SR c as' Z H' s' → (∀ b ∈ own2 env ++ X, b ∈ Z) → FR c as'' X' s'.heap env tab ρ → EnvFr c (A.deeper env) (own2 env ++ X) as' s'.heap env := fun {as' Z H' s' tab ρ X' as''} e k S' hZ F' => by
      refine ⟨env, l, L, Around.frames_deeper hfl, fun ev hev => ?_, efr, efr⟩
      cases hev with
      | head =>
        refine ea1_2 F'.ns ?_
        intro m p_2 _
        refine ea3_3 p_2 ?_
        try clear p_2
        intro ob es ep e1 e2 _
        rw [eloc] at e1
        refine ⟨by rw [show env.scope.kind = .function from by rw [← henv]; exact K.kind]; decide, L, ob, es, ep, efr, S.base_none hfL, ?_, fun q => ?_, e1, e2⟩
        · rw [← eloc, List.count_append]
          exact Nat.le_trans (by rw [List.count_cons_self, List.count_cons_self]; exact Nat.le_add_left 2 _) (Nat.le_add_right _ _)
        · obtain ⟨i, hi⟩ := List.getElem?_of_mem q
          exact (S'.objs i _ hi).2.1 (hZ _ hLX)
      | tail _ hev => exact ((hfe ev hev).grow (.refl _) hcnt).keep e k
    have O1 : Own (A.deeper env) (own2 env ++ X) env := by
      refine ⟨fun b hb => List.mem_append_left _ (.tail _ hb), by rw [efr, eloc], fun l' hl' ev hev L' hL' q => ?_⟩
      cases (Around.frames_deeper (env := env) hfl).symm.trans hl'
      refine ea1_2 (List.mem_map.mp q) ?_
      intro p hp q_3
      subst q_3
      rw [ecells] at hp
      have hlt := habove p hp
      cases hev with
      | head => rw [efr] at hL'; cases hL'; exact Nat.lt_irrefl _ hlt
      | tail _ hev =>
        refine ea4_6 ((hfe ev hev).there) ?_
        intro L'' o' _ _ q1 _ _ _ q5 _
        cases q1.symm.trans hL'
        rw [hfresh _ (Nat.le_of_lt hlt)] at q5; cases q5
    have back : ∀ b, h₁.get? b = none → s.heap.get? b = none := fun b q => by
      cases hq : s.heap.get? b with
      | none => rfl
      | some o => rw [g _ _ hq] at q; cases q
    have hE1 : ∀ {as' : Adr}, Ext as h₁ as' → Ext as s.heap as' := fun e => ⟨e.old, fun b hb => (e.new b hb).imp id (back b)⟩
    have hK1 : ∀ {h' : HP}, KeptX as (own2 env ++ X) (own env) h₁ h' → Kept as (own2 env ++ X) s.heap h' := fun k b o e hb => k b o (g _ _ e) hb fun q => by rw [hfresh b (hown b q)] at e; cases e
    have hless : ∀ b, 2 ≤ (own2 env ++ X).count b → 2 ≤ X.count b ∨ Mine.Fr as s.heap b := fun b hb => by
      by_cases hm : b ∈ own2 env
      · exact .inr (.inr (hfresh b (hown b (ho2 b hm))))
      · rw [List.count_append, List.count_eq_zero_of_not_mem hm, Nat.zero_add] at hb
        exact .inl hb
    have R1 : Rdy c K.T env (A.deeper env) n { s with heap := h₁, toks := tk } as (own2 env ++ X) H (vs.map some ++ List.replicate fn.extra none) := ⟨a1, S1, F1, Kn, by rw [K.hn, List.length_append, List.length_map, List.length_replicate, hlen], fr1 (.refl ..) (g.kept _ _) S1 (fun _ q => q) F1⟩
    have hB := (cSs_ok C sc hf K.hgl K.hc).run R1 O1 w
    have fin : ∀ {v : V} {y : Value} {H' : AH} {as' : Adr} {s' : Shared}, Ext as h₁ as' → SR c as' (own2 env ++ X) H' s' → KeptX as (own2 env ++ X) (own env) h₁ s'.heap → VR c as' (own2 env ++ X) s'.heap v y → Q v H' → Res c as X s.heap Q y s' := fun {v y H' as' s'} e S' k hv q =>
      ⟨v, H', as', hE1 e, S'.turn (fun b o e _ _ => e) S'.stays (fun b hb => List.mem_append_right _ hb) (fun b hb => S'.xs b (List.mem_append_right _ hb)) rfl rfl, (hK1 k).less hless, hv.frames fun b _ _ hb q => hb (List.mem_append_right _ q), q⟩
    refine wpAny_mono hB (fun fl s' q => ?_) fun x s' r => ?_
    rotate_left
    · obtain ⟨k, H', as', e, t, ts, ρ', rfl, e', S', k', ex, ht, ap, F', hl', q⟩ := r
      have er : ERes c as (own2 env ++ X) s.heap XX (.ref e) s' := ⟨k, H', as', e, t, ts, rfl, hE1 e', S', hK1 k', ex, ht, fun a ha => ⟨(ap a ha).1.imp id (back a), (ap a ha).2⟩, q⟩
      unfold leaving
      refine wpAny_bind (er.note (fun as'' _ _ e'' k'' S'' hZ => fr1 e'' k'' S'' hZ F') fun s'' er' tr _ => er'.fly tr fun s₃ er₃ _ => ?_)
      exact er₃.less (fun b hb => List.mem_append_right _ hb) hless
    cases fl with
    | next =>
      refine ea3_6 q ?_
      try clear q
      intro ρ' H' as' e S' k _ _ q
      exact fin e S' k .none q
    | ret y =>
      refine ea3_6 q ?_
      try clear q
      intro v H' as' e S' k hv _ q
      exact fin e S' k hv q
    | _ => exact q.elim

theorem sc_zero {c : Cx} : SC c 0 := ⟨fun _ _ _ _ _ h => h.elim⟩
noncomputable def FOk.to {c : Cx} {gl : List (Str × Gl)} {f : Nat} {fn : Fn} {q : Bool} {b : HP} (K : FOk c gl f fn) (hst : c.base.StaysIn b) : FOk (c.to q b) gl f fn := { K with code := K.code.keeps hst }
theorem sc_all {gl : List (Str × Gl)} : ∀ (n : Nat) {c : Cx}, Cok c gl → (∀ x f, gl.lookup x = some (.fn f) → ∃ fn, c.P.fns f = some fn) → (∀ f fn, c.P.fns f = some fn → Nonempty (FOk c gl f fn)) → SC c n
  | 0, _, _, _, _ => sc_zero
  | n + 1, _, C, hf, ok => sc_succ C hf ok fun q b hst => sc_all n (C.to hst) hf fun f fn h => let ⟨K⟩ := ok f fn h; ⟨K.to hst⟩
end Mine

end
noncomputable section
namespace Mine
open PySem PySem.Calls PyProof.Rows

theorem zip_lookup : ∀ {ps : List Str} {xs : List Value}, ps.length = xs.length → ∀ {x : Str}, x ∈ ps → ((ps.zip xs).lookup x).isSome = true
  | [], _, _, x, h => by cases h
  | _ :: _, [], h, _, _ => by simp at h
  | p :: ps, y :: xs, hl, x, h => by
    rw [List.zip_cons_cons, List.lookup_cons]
    cases hx : x == p with
    | true => rfl
    | false =>
      simp only
      refine zip_lookup (by simpa using hl) ?_
      cases h with
      | head => simp at hx
      | tail _ h => exact h
theorem fm_congr {α β : Type} {f g : α → Option β} : ∀ {l : List α}, (∀ a ∈ l, f a = g a) → l.filterMap f = l.filterMap g
  | [], _ => rfl
  | a :: l, h => by rw [List.filterMap_cons, List.filterMap_cons, h a (.head _), fm_congr fun b hb => h b (.tail _ hb)]
theorem zip_filterMap : ∀ {ps : List Str} {xs : List Value}, ps.length = xs.length → ps.Nodup → ps.filterMap (fun n => ((ps.zip xs).lookup n).map (n, ·)) = ps.zip xs
  | [], [], _, _ => rfl
  | _ :: _, [], h, _ => by simp at h
  | [], _ :: _, h, _ => by simp at h
  | p :: ps, y :: xs, hl, hn => by
    have hn' := List.nodup_cons.mp hn
    rw [List.zip_cons_cons, List.filterMap_cons]
    simp only [List.lookup_cons, BEq.rfl, Option.map_some]
    congr 1
    have ih := zip_filterMap (xs := xs) (by simpa using hl) hn'.2
    have : ∀ n ∈ ps, ((match n == p with | true => some y | false => (ps.zip xs).lookup n).map (n, ·)) = ((ps.zip xs).lookup n).map (n, ·) := fun n h => by
      have : (n == p) = false := by simp; rintro rfl; exact hn'.1 h
      rw [this]
    exact (fm_congr this).trans ih

theorem bind_plain {name qual : Str} {params : Arguments} {body : List Stmt} {scope : Scope} {pm cd doc : Value} (h1 : params.posonlyargs = []) (h2 : params.vararg = none) (h3 : params.kwonlyargs = []) (h4 : params.kwarg = none)
    (hn : (params.args.map (·.arg)).Nodup) {xs : List Value} (hl : xs.length = (params.args.map (·.arg)).length) : bindArgs (methDef name qual params body scope pm cd doc) ⟨xs, []⟩ = pure ((params.args.map (·.arg)).zip xs) := by
  unfold bindArgs
  have hm : ((params.args.map (·.arg)).take ((params.args.map (·.arg)).length)).filter (fun n => (((params.args.map (·.arg)).zip xs).lookup n).isNone) = [] := by
    rw [List.take_length]
    refine List.filter_eq_nil_iff.mpr fun n hn' => ?_
    have := zip_lookup hl.symm hn'
    simp only [Option.isNone_iff_eq_none]
    intro e; rw [e] at this; cases this
  have hz := zip_filterMap hl.symm hn
  generalize hps : params.args.map (·.arg) = ps at *
  have hs : seqItems? Value.none = pure none := rfl
  simp only [methDef, h1, h2, h3, h4, List.map_nil, List.nil_append, List.append_nil, List.forIn_nil, pure_bind, hps, hs, Option.getD_none, List.drop_nil, List.length_nil, Nat.sub_zero, List.zip_nil_right, hm, hz]
  have hgt : ¬ (xs.length > ps.length) := by lia
  simp only [hgt, decide_false, Bool.false_and, Bool.false_eq_true, if_false, List.isEmpty_nil, Bool.not_true]

noncomputable def psOf (d : DefRec) : List Str := d.params.args.map (·.arg)
noncomputable def othersOf (d : DefRec) : List Str := (d.scope.names.filter fun p => (decide (p.2 = .local) || decide (p.2 = .cell)) && !(psOf d).contains p.1).map (·.1)
noncomputable def tbOf (gl : List (Str × Gl)) (mu : List (Nat × Nat)) (fz : List (Nat × List Nat)) (d : DefRec) : Tb :=
  { gl, meths := [], names := d.scope.names, tab := (psOf d ++ othersOf d).zipIdx, n := (psOf d).length + (othersOf d).length, mu, fz }
noncomputable def okRec (d : DefRec) : Bool :=
  d.params.posonlyargs.isEmpty && d.params.vararg.isNone && d.params.kwonlyargs.isEmpty && d.params.kwarg.isNone && decide (psOf d).Nodup &&
  (psOf d).all (fun x => decide (d.scope.names.lookup x = some .local) || decide (d.scope.names.lookup x = some .cell)) &&
  decide (d.scope.names.map (·.1)).Nodup && d.scope.names.all (fun p => decide (p.2 ≠ .free)) && decide (d.scope.kind = .function) && !d.scope.isCoroutine && !d.scope.isGenerator
noncomputable def fnOf (gl : List (Str × Gl)) (mu : List (Nat × Nat)) (fz : List (Nat × List Nat)) (d : DefRec) : Option Fn :=
  if okRec d then (cSs 60 (tbOf gl mu fz d) d.body).map fun b => ⟨(psOf d).length, (othersOf d).length, b⟩ else none

theorem zipIdx_snd {α : Type} (l : List α) : l.zipIdx.map (·.2) = List.range l.length := by
  rw [List.zipIdx_eq_zip_range', List.map_snd_zip (by simp)]
  rw [List.range_eq_range']
theorem zipIdx_at {l : List Str} {x : Str} {i : Nat} (h : l.zipIdx.lookup x = some i) : l[i]? = some x := by
  have := mem_of_lookup h
  have h2 := List.mem_zipIdx_iff_getElem?.mp this
  simpa using h2

theorem fok_of {c : Cx} {gl : List (Str × Gl)} {mu : List (Nat × Nat)} {fz : List (Nat × List Nat)} {d : DefRec} {f : Nat} {fn : Fn} {pm cd doc : Value} {qual : Str} (h : fnOf gl mu fz d = some fn) (hd : c.fdat f = methDef d.name qual d.params d.body d.scope pm cd doc)
    (hc : c.base.CodeRec cd qual) : Nonempty (FOk c gl f fn) := by
  unfold fnOf at h
  split at h
  · rename_i hok
    replace h := Option.map_eq_some_iff.mp h
    refine ea1_2 h ?_
    try clear h
    intro b hb q_3
    subst q_3
    simp only [okRec, Bool.and_eq_true, decide_eq_true_eq, List.isEmpty_iff, Option.isNone_iff_eq_none, List.all_eq_true, Bool.or_eq_true, Bool.not_eq_true'] at hok
    obtain ⟨⟨⟨⟨⟨⟨⟨⟨⟨⟨h1, h2⟩, h3⟩, h4⟩, h5⟩, h6⟩, h7⟩, h8⟩, h9⟩, h10⟩, h11⟩ := hok
    refine ⟨⟨d.name, qual, d.params, d.body, d.scope, pm, cd, doc, psOf d, tbOf gl mu fz d, 60, hd, hc, rfl, rfl, rfl, hb,
      fun xs hl => bind_plain h1 h2 h3 h4 h5 hl, rfl, h5, h6, ?_, fun x i hx hi => ?_, h7, h8, h9, h10, h11⟩⟩
    · show ((psOf d ++ othersOf d).zipIdx.map (·.2)).Nodup
      rw [zipIdx_snd]
      exact List.nodup_range
    · have := zipIdx_at (l := psOf d ++ othersOf d) hx
      rw [List.getElem?_append_left hi] at this
      exact this
  · try clear hd; try clear hc
    cases h

noncomputable def progOf (recs : List DefRec) (gl : List (Str × Gl)) (mu : List (Nat × Nat)) (fz : List (Nat × List Nat)) (cs : List (List Nat)) : Prog :=
  { fns := fun f => (recs[f]?).bind (fnOf gl mu fz), sub := subL cs, q := false }

/-- what is seen of the text's own exception classes -/
noncomputable def xqOk (h : HP) (x : Str) : Bool :=
  match h.clsAt mainGlobals x with
  | some (_, _, cd) => xNames.all fun n => (h.nsMap cd.ns n).isNone
  | none => false
noncomputable def gAt (h : HP) (n : Str) : Value := (h.nsMap mainGlobals n).getD .none
noncomputable def xsOk (owns : List OwnSpec) (h : HP) : Bool := h.isNs mainGlobals && owns.all fun o => h.ownExcOk o.name o.chain o.bm o.newId && xqOk h o.name && decide (o.bm = bmV) && (o.newId == "ValueError.__new__") && o.chain.all fun n => owns.any fun o' => o'.name == n
noncomputable def xsSub (owns : List OwnSpec) (h : HP) : List (List Bool) := owns.map fun o => owns.map fun o' => (gAt h o.name :: (o.chain.map (gAt h) ++ o.bm)).contains (gAt h o'.name)
noncomputable def subM (cs : List (List Nat)) (n : Nat) : List (List Bool) := (List.range n).map fun k => (List.range n).map fun j => subL cs k j
noncomputable def XSays (owns : List OwnSpec) (cs : List (List Nat)) (h : HP) : Prop :=
  ∃ mg, h.Ns mainGlobals mg ∧ ∀ (k : Nat) o, owns[k]? = some o → ∃ C bm, mg o.name = some (.ref C) ∧ XC h C bm ∧ ∀ (j : Nat) o', owns[j]? = some o' → (Value.ref C :: bm).contains ((mg o'.name).getD .none) = subL cs k j
theorem XSays.keeps {owns : List OwnSpec} {cs : List (List Nat)} {h h' : HP} (x : XSays owns cs h) (hk : ∀ b o, h.get? b = some o → h'.get? b = some o) : XSays owns cs h' := by
  refine ea1_2 x ?_
  try clear x
  intro mg hn r
  exact ⟨mg, hn.keeps hk, fun k o e => let ⟨C, bm, h1, h2, h3⟩ := r k o e; ⟨C, bm, h1, h2.keeps hk, h3⟩⟩
theorem xc_of {h : HP} {o : OwnSpec} (x : h.ownExcOk o.name o.chain o.bm o.newId = true) (y : xqOk h o.name = true) (_hb : o.bm = bmV) (hi : o.newId = "ValueError.__new__") :
    ∃ C, h.nsMap mainGlobals o.name = some (.ref C) ∧ ∀ _ : XTail h (o.chain.map (gAt h) ++ o.bm), XC h C (o.chain.map (gAt h) ++ o.bm) := by
  obtain ⟨C, N, nm, q, bs, hdct, sn, sub, ab, col, dd, k0, k1, k2, k3, k5, hg, hC, hN, _⟩ := Heap.ownExc_of_ok x
  try clear x
  refine ⟨C, hg, fun T => ⟨hi ▸ hC, hN, fun n hn => ?_, T⟩⟩
  unfold xqOk at y
  try clear hN; try clear k5; try clear k3; try clear k2; try clear k1; try clear k0; try clear dd; try clear col; try clear ab; try clear sub; try clear sn; try clear hdct; try clear bs; try clear q; try clear nm; try clear N; try clear C; try clear _hb; try clear hi
  cases hf : h.clsAt mainGlobals o.name with
  | none => rw [hf] at y; cases y
  | some z =>
    obtain ⟨C', o', cd'⟩ := z
    rw [hf] at y
    refine ea0_3 (Heap.clsAt_spec hf) ?_
    intro hn' ho' hd'
    rw [hg] at hn'
    try clear cd'; try clear o'; try clear hg
    obtain rfl : C = C' := by injection hn' with q1; injection q1
    rw [hC] at ho'
    try clear hn'; try clear C'; try clear hC; try clear C
    replace ho' := Option.some.inj ho'
    obtain rfl := ho'
    try clear ho'
    replace hd' := by injection hd'
    obtain rfl : _ = cd' := hd'
    exact Option.isNone_iff_eq_none.mp (List.all_eq_true.mp y n hn)
theorem xsays_of {owns : List OwnSpec} {cs : List (List Nat)} {h : HP} (e : (xsOk owns h, xsSub owns h) = (true, subM cs owns.length)) : XSays owns cs h := by
  have e1 := congrArg Prod.fst e
  have e2 := congrArg Prod.snd e
  obtain ⟨hn, hall⟩ := Bool.and_eq_true_iff.mp e1
  try clear e1
  have all : ∀ o ∈ owns, h.ownExcOk o.name o.chain o.bm o.newId = true ∧ xqOk h o.name = true ∧ o.bm = bmV ∧ o.newId = "ValueError.__new__" ∧ ∀ n ∈ o.chain, ∃ o' ∈ owns, o'.name = n := fun o ho => by
    have := List.all_eq_true.mp hall o ho
    simp only [Bool.and_eq_true, decide_eq_true_eq, beq_iff_eq] at this
    obtain ⟨⟨⟨⟨h1, h2⟩, h3⟩, h4⟩, h5⟩ := this
    refine ⟨h1, h2, h3, h4, fun n hn => ?_⟩
    refine ea1_2 (List.any_eq_true.mp (List.all_eq_true.mp h5 n hn)) ?_
    intro o' ho' q
    try clear h5; try clear hn
    exact ⟨o', ho', beq_iff_eq.mp q⟩
  have tail : ∀ (ch : List Str), (∀ n ∈ ch, ∃ o' ∈ owns, o'.name = n) → XTail h (ch.map (gAt h) ++ bmV) := fun ch => by
    induction ch with
    | nil => intro _; exact .base
    | cons n ch ih =>
      intro hc
      try clear hall; try clear e2; try clear e
      refine ea1_2 (hc n (.head _)) ?_
      intro o' ho' q_3
      subst q_3
      refine ea0_5 (all o' ho') ?_
      intro h1 h2 h3 h4 h5
      obtain ⟨C, N, nm, q, bs, hdct, sn, sub, ab, col, dd, k0, k1, k2, k3, k5, hg, hC, hN, _⟩ := Heap.ownExc_of_ok h1
      try clear h1
      have hq : ∀ n ∈ xNames, h.nsMap N n = none := fun n hn => by
        unfold xqOk at h2
        try clear hN; try clear k5; try clear k3; try clear k2; try clear k1; try clear k0; try clear dd; try clear col; try clear ab; try clear sub; try clear sn; try clear hdct; try clear bs; try clear q; try clear nm; try clear N; try clear C; try clear h5; try clear h4; try clear h3
        cases hf : h.clsAt mainGlobals o'.name with
        | none => rw [hf] at h2; cases h2
        | some z =>
          obtain ⟨C', o', cd'⟩ := z
          rw [hf] at h2
          refine ea0_3 (Heap.clsAt_spec hf) ?_
          intro hn' ho' hd'
          rw [hg] at hn'
          try clear cd'; try clear hg; try clear o'
          obtain rfl : C = C' := by injection hn' with q1; injection q1
          rw [hC] at ho'
          try clear hn'; try clear C'; try clear hC; try clear C
          replace ho' := Option.some.inj ho'
          obtain rfl := ho'
          try clear ho'
          replace hd' := by injection hd'
          obtain rfl : _ = cd' := hd'
          exact Option.isNone_iff_eq_none.mp (List.all_eq_true.mp h2 n hn)
      show XTail h ((h.nsMap mainGlobals o'.name).getD .none :: (ch.map (gAt h) ++ bmV))
      rw [hg]
      exact .own hC hN hq (ih fun n hn => hc n (.tail _ hn))
  refine ⟨_, .of_isNs hn, fun k o ho => ?_⟩
  refine ea0_5 (all o (List.mem_of_getElem? ho)) ?_
  intro h1 h2 h3 h4 h5
  refine ea1_2 (xc_of h1 h2 h3 h4) ?_
  intro C hg hx
  try clear h1; try clear h2; try clear h4
  refine ⟨C, _, hg, hx (by rw [h3]; exact tail o.chain h5), fun j o' ho' => ?_⟩
  have e3 := congrArg (fun l => (l[k]?.bind fun r => r[j]?)) e2
  have hk := (List.getElem?_eq_some_iff.mp ho).1
  have hj := (List.getElem?_eq_some_iff.mp ho').1
  simp only [xsSub, subM, List.getElem?_map, ho, ho', Option.map_some, Option.bind_some, List.getElem?_range hk, List.getElem?_range hj] at e3
  have e4 := Option.some.inj e3
  rw [← e4]
  show _ = (gAt h o.name :: _).contains _
  have hgC : gAt h o.name = .ref C := by unfold gAt; rw [hg]; rfl
  rw [hgC]
  rfl
noncomputable def xHook (owns : List OwnSpec) (cs : List (List Nat)) : PySem.W.Hook :=
  ⟨Bool × List (List Bool), fun s => (xsOk owns s.heap, xsSub owns s.heap), fun _ => (true, subM cs owns.length), fun _ h => XSays owns cs h, fun _ _ e => xsays_of e, fun _ _ _ x hk => x.keeps hk⟩

/-- what a global name is at the top -/
noncomputable def glBi (x : String) (g : Gl) : Prop := match g with
  | .bi b => bootBuiltins (Str.ofString x) = some (.builtin b)
  | .ty b => bootBuiltins (Str.ofString x) = some (.type b)
  | _ => False

/-- a name of the top that is bound to a def of it -/
noncomputable def glOfRecs (recs : List DefRec) : List (Str × Gl) := recs.zipIdx.map fun p => (p.1.name, .fn p.2)

noncomputable def bootOk (x : Str) : Gl → Bool
  | .bi b => (bootBuiltins x).any fun v => match v with | .builtin b' => b == b' | _ => false
  | .ty b => (bootBuiltins x).any fun v => match v with | .type b' => b == b' | _ => false
  | _ => false

/-- a name that the top binds to a number or a text -/
noncomputable def cstOk (p : Program) (x : Str) : V → Bool
  | .int i => (match valOf p x with | some (.int j) => decide (i = j) | _ => false)
  | .str t => (match valOf p x with | some (.str u) => decide (u = toS t) && decide (t.length ≤ 1000) | _ => false)
  | _ => false
theorem cst_ok {p : Program} {loose : List Str} {mean : ExcName → Option Value} {mg mb : Str → Option Value} {h : HP} (T : Top p loose mean mg mb h) {c : Cx} {x : Str} {v : V} (e : cstOk p x v = true) : ∃ y, mg x = some y ∧ ∀ as X h, VR c as X h v y := by
  unfold cstOk at e
  split at e
  · split at e
    · rename_i i _ j hj
      refine ea1_2 (T.const x _ hj) ?_
      intro y h1 h2
      try clear T
      have := of_decide_eq_true e
      try clear y; try clear e
      subst this
      cases h2 h with
      | int _ t => exact ⟨_, h1, fun _ _ _ => .int _ _⟩
    · cases e
  · split at e
    · rename_i t _ u hj
      refine ea1_2 (T.const x _ hj) ?_
      intro y h1 h2
      try clear T
      simp only [Bool.and_eq_true, decide_eq_true_eq] at e
      obtain ⟨rfl, e2⟩ := e
      have hb : (1000 : Nat) ≤ bnd := by decide
      cases h2 h with
      | str _ t => exact ⟨_, h1, fun _ _ _ => .str _ _ (by (exact Nat.le_trans (by assumption) (by decide)))⟩
    · cases e
  · cases e

/-- the address that a value names -/
noncomputable def refA : Value → Option Addr
  | .ref a => some a
  | _ => none
structure TopOk (p : Program) (loose : List Str) (csts : List (Str × V)) (bis : List (Str × Gl)) : Prop where
  csts : csts.all (fun q => cstOk p q.1 q.2) = true
  names : ((recsOf p).map (·.name)).Nodup
  boot : bis.all (fun q => bootOk q.1 q.2) = true
  free : bis.all (fun q => decide (q.1 ≠ "__name__") && decide (q.1 ∉ startupNames) && decide (q.1 ∉ loose) && decide (q.1 ∉ (recsOf p).map (·.name)) && decide (q.1 ∉ (litsOf p).map (·.1)) && decide (q.1 ∉ (clssOf p loose).map (·.name))) = true

theorem lookup_append {α β : Type} [BEq α] {x : α} : ∀ {l m : List (α × β)} {v : β}, (l ++ m).lookup x = some v → l.lookup x = some v ∨ m.lookup x = some v
  | [], _, _, h => .inr h
  | (y, w) :: l, m, v, h => by
    rw [List.cons_append, List.lookup_cons] at h
    rw [List.lookup_cons]
    cases hx : x == y with
    | true => rw [hx] at h; exact .inl h
    | false => rw [hx] at h; exact lookup_append h

theorem ints_vrs {c : Cx} {as : Adr} {X : List Addr} {h : HP} : ∀ {vs : List Value} {zs : List Int}, IntsAre vs zs → VRs c as X h (zs.map V.int) vs := by
  intro vs zs x
  induction x with
  | nil => exact .nil
  | cons n t _ ih => exact .cons (.int n t) ih

noncomputable def glC (csts : List (Str × V)) : List (Str × Gl) := csts.map fun q => (q.1, .cst q.2)
noncomputable def glX (owns : List OwnSpec) : List (Str × Gl) := owns.zipIdx.map fun p => (p.1.name, .exc p.2)
/-- the text's class: its methods stand behind the defs -/
noncomputable def kOf (p : Program) (loose : List Str) : Option ClsRec := (plainsOf p loose).head?
noncomputable def mRec (m : MethRec) : DefRec := ⟨m.name, m.params, m.body, m.scope, ⟨0, 0, 0, 0⟩⟩
noncomputable def recsX (p : Program) (loose : List Str) : List DefRec := recsOf p ++ (kOf p loose).elim [] fun k => k.meths.map mRec
noncomputable def initAt (k : ClsRec) : Nat := k.meths.findIdx fun m => m.name == ("__init__" : Str)
noncomputable def glK (p : Program) (k : ClsRec) : Str × Gl := (k.name, .cls (k.meths.zipIdx.map fun q => (q.1.name, (recsOf p).length + q.2)) k.statics ((recsOf p).length + initAt k))
noncomputable def glAll (p : Program) (loose : List Str) (csts : List (Str × V)) (bis : List (Str × Gl)) : List (Str × Gl) := glOfRecs (recsOf p) ++ (glX (ownsOf p) ++ ((kOf p loose).toList.map (glK p) ++ (glC csts ++ bis)))
/-- what «object» binds is in nobody's way -/
noncomputable def kOk (k : ClsRec) : Bool := (k.statics.all fun n => match fastLookup "object" n with | some none => true | _ => false) && (k.meths.all fun m => (fastLookup "object" m.name).isSome) && k.meths.any fun m => m.name == ("__init__" : Str)
theorem look_obj {n : Str} {y : Option Value} (h : fastLookup "object" n = some y) : typeLookup (.type "object") n = pure y := by rw [typeLookup_type, builtinLookup_eq_fast, h]
theorem idx_lookup {α β : Type} {f : α → Str} {g : Nat → β} {l : List α} {x : Str} {v : β} (h : (l.zipIdx.map fun p => (f p.1, g p.2)).lookup x = some v) : ∃ i d, v = g i ∧ l[i]? = some d ∧ f d = x := by
  refine ea1_2 (List.mem_map.mp (mem_of_lookup h)) ?_
  intro q hq e
  try clear h
  have h2 := List.mem_zipIdx_iff_getElem?.mp hq
  try clear hq
  cases e
  exact ⟨q.2, q.1, rfl, by simpa using h2, rfl⟩
/-- what a name of the text means -/
inductive GlR (p : Program) (loose : List Str) (bis : List (Str × Gl)) (x : Str) : Gl → Prop
  | fn {i : Nat} {d : DefRec} : (recsOf p)[i]? = some d → d.name = x → GlR p loose bis x (.fn i)
  | exc {i : Nat} {d : OwnSpec} : (ownsOf p)[i]? = some d → d.name = x → GlR p loose bis x (.exc i)
  | cls {k : ClsRec} {g : Gl} : kOf p loose = some k → (x, g) = glK p k → GlR p loose bis x g
  | cst {v : V} : cstOk p x v = true → GlR p loose bis x (.cst v)
  | bi {g : Gl} : bis.lookup x = some g → bootOk x g = true → GlR p loose bis x g
theorem gl_inv {p : Program} {loose : List Str} {csts : List (Str × V)} {bis : List (Str × Gl)} {x : Str} {g : Gl} (ok : TopOk p loose csts bis) (h : (glAll p loose csts bis).lookup x = some g) : GlR p loose bis x g := by
  rcases lookup_append h with h | h
  · refine ea2_3 (idx_lookup h) ?_
    intro i d e hd hn
    subst e
    exact .fn hd hn
  rcases lookup_append h with h | h
  · refine ea2_3 (idx_lookup h) ?_
    intro i d e hd hn
    subst e
    exact .exc hd hn
  rcases lookup_append h with h | h
  · refine ea1_2 (List.mem_map.mp (mem_of_lookup h)) ?_
    intro k hk e
    exact .cls (Option.mem_toList.mp hk) e.symm
  rcases lookup_append h with h | h
  · refine ea1_2 (List.mem_map.mp (mem_of_lookup h)) ?_
    intro q hq e
    cases e
    exact .cst (List.all_eq_true.mp ok.csts _ hq)
  · exact .bi h (List.all_eq_true.mp ok.boot _ (mem_of_lookup h))
theorem cls_inv {p : Program} {loose : List Str} {csts : List (Str × V)} {bis : List (Str × Gl)} {x : Str} {ms : List (Str × Nat)} {ats : List Str} {f : Nat} (ok : TopOk p loose csts bis) (h : (x, Gl.cls ms ats f) ∈ glAll p loose csts bis) : ∃ k, kOf p loose = some k ∧ (x, Gl.cls ms ats f) = glK p k := by
  have F : ∀ {α : Type} {l : List α} {f' : α → Str × Gl}, (x, Gl.cls ms ats f) ∈ l.map f' → (∀ q, f' q ≠ (x, Gl.cls ms ats f)) → False := fun h hq => (List.mem_map.mp h).elim fun q e => hq q e.2
  rcases List.mem_append.mp h with h | h
  · exact (F h fun _ e => by cases e).elim
  rcases List.mem_append.mp h with h | h
  · exact (F h fun _ e => by cases e).elim
  rcases List.mem_append.mp h with h | h
  · refine ea1_2 (List.mem_map.mp h) ?_
    intro k hk e
    exact ⟨k, Option.mem_toList.mp hk, e.symm⟩
  rcases List.mem_append.mp h with h | h
  · exact (F h fun _ e => by cases e).elim
  · exact absurd (List.all_eq_true.mp ok.boot _ h) Bool.false_ne_true
theorem boot_bi {x : Str} {b : String} (h : bootOk x (.bi b) = true) : bootBuiltins x = some (.builtin b) := by
  simp only [bootOk, Option.any_eq_true] at h
  refine ea1_2 h ?_
  intro v e1 e2
  rw [e1]
  split at e2
  · rw [eq_of_beq e2]
  · cases e2
theorem boot_ty {x : Str} {b : String} (h : bootOk x (.ty b) = true) : bootBuiltins x = some (.type b) := by
  simp only [bootOk, Option.any_eq_true] at h
  refine ea1_2 h ?_
  intro v e1 e2
  rw [e1]
  split at e2
  · rw [eq_of_beq e2]
  · cases e2
theorem top_law {p prog : Program} {w : World} {loose : List Str} {mean : ExcName → Option Value} {mg mb : Str → Option Value} {s : Shared} {bis : List (Str × Gl)} {csts : List (Str × V)} {mu : List (Nat × Nat)} {fz : List (Nat × List Nat)} {l : Addr} {items : Array Value} {zs : List Int} {d : DefRec} {f n : Nat} {fa : Addr} {cs : List (List Nat)}
    {Q E : Value → Shared → Prop}
    (T : Top p loose mean mg mb s.heap) (TC : TopC p loose mg s.heap) (hko : (kOf p loose).all kOk = true) (ok : TopOk p loose csts bis) (Y : XSays (ownsOf p) cs s.heap) (hcs : cs.length ≤ (ownsOf p).length) (hg : s.gens = #[]) (hd : (recsOf p)[f]? = some d) (hfa : mg d.name = some (.ref fa)) (hfn : ∃ fn, fnOf (glAll p loose csts bis) mu fz d = some fn)
    (hall : ∀ d ∈ recsX p loose, ∃ fn, fnOf (glAll p loose csts bis) mu fz d = some fn)
    (hl : s.heap.PlainList l items) (hi : IntsAre items.toList zs) (hlen : zs.length ≤ 63) (hn : n ≤ 300)
    (hlaw : callF (progOf (recsX p loose) (glAll p loose csts bis) mu fz cs) n false f [.lst (zs.map V.int)] [] (fun v _ => v = .bool true) (fun _ _ => False))
    (hR : ∀ s', (∀ b o, s.heap.get? b = some o → s'.heap.get? b = some o) → s'.os = s.os → s'.gens = #[] → Q (.bool true) s') :
    wpAny (model prog w) callerA (call (.ref fa) [.ref l]) Q E s := by
  obtain ⟨KC, KN, mN, hK⟩ : ∃ (C N : Addr) (mN : Str → Option Value), ∀ k, kOf p loose = some k → mg k.name = some (.ref C) ∧ PlainAt s.heap k C N mN := by
    try clear s; try clear PlainAt; try clear mg; try clear Value; try clear Option; try clear Str; try clear Addr; try clear hK; try clear KN; try clear KC; try clear hd; try clear hall; try clear Y; try clear hi; try clear hfn; try clear hcs; try clear hfa; try clear hko; try clear hn; try clear T; try clear hlen; try clear hR; try clear hl; try clear hlaw; try clear hg; try clear ok
    cases hk : kOf p loose with
    | none => exact ⟨0, 0, fun _ => none, nofun⟩
    | some k =>
      refine ea3_2 (TC k (List.mem_of_mem_head? hk)) ?_
      intro C N mN h1 h2
      try clear TC; try clear k
      exact ⟨C, N, mN, fun k' e => by cases e; exact ⟨h1, h2⟩⟩
  have hm : ∀ (i : Nat) d, (recsX p loose)[i]? = some d → (recsOf p)[i]? = some d ∨ ∃ k j m, kOf p loose = some k ∧ i = (recsOf p).length + j ∧ k.meths[j]? = some m ∧ d = mRec m := fun i d h => by
    by_cases hlt : i < (recsOf p).length
    · exact .inl ((List.getElem?_append_left hlt).symm.trans h)
    · have h := (List.getElem?_append_right (Nat.le_of_not_lt hlt)).symm.trans h
      try clear N; try clear C; try clear mN
      cases hk : kOf p loose with
      | none => rw [hk] at h; cases h
      | some k =>
        rw [hk] at h
        have h : (k.meths.map mRec)[i - (recsOf p).length]? = some d := h
        rw [List.getElem?_map] at h
        refine ea1_2 (Option.map_eq_some_iff.mp h) ?_
        intro m h1 h2
        try clear Option; try clear h
        exact .inr ⟨k, _, m, rfl, (Nat.add_sub_cancel' (Nat.le_of_not_lt hlt)).symm, h1, h2.symm⟩
  have pick : ∀ g : Nat, ∃ q : Addr × FuncData, ∀ d, (recsX p loose)[g]? = some d → (∃ qual o pm code doc, s.heap.get? q.1 = some o ∧ o.data = .func q.2 ∧ q.2 = methDef d.name qual d.params d.body d.scope pm code doc ∧ s.heap.CodeRec code qual ∧ ((recsOf p).length ≤ g → mN d.name = some (.ref q.1) ∧ o.cls = .type "function")) ∧ (g < (recsOf p).length → mg d.name = some (.ref q.1)) := fun g => by
    try clear kOf
    cases hq : (recsX p loose)[g]? with
    | none => exact ⟨(0, default), fun d e => by cases e⟩
    | some d =>
      try clear loose; try clear p
      rcases hm g d hq with h | ⟨k, j, m, hk, rfl, hj, rfl⟩
      · refine ea5_4 (T.fn d (List.mem_of_getElem? h)) ?_
        intro a o pm code doc h1 h2 h3 h4
        try clear T
        have hlt := (List.getElem?_eq_some_iff.mp h).1
        exact ⟨(a, _), fun d' e => by cases e; exact ⟨⟨d.name, o, pm, code, doc, h2, h3, rfl, h4, fun q => absurd hlt (Nat.not_lt.mpr q)⟩, fun _ => h1⟩⟩
      · refine ea5_5 ((hK k hk).2.meths m (List.mem_of_getElem? hj)) ?_
        intro f o pm cd doc h1 h2 h3 h4 h5
        try clear hK; try clear k
        exact ⟨(f, _), fun d' e => by cases e; exact ⟨⟨_, o, pm, cd, doc, h2, h4, rfl, h5, fun _ => ⟨h1, h3⟩⟩, fun q => absurd q (Nat.not_lt.mpr (Nat.le_add_right _ _))⟩⟩
  obtain ⟨F, hF⟩ := Classical.axiomOfChoice pick
  let c : Cx := { prog := prog, w := w, base := s.heap, mg := mg, mb := mb, P := progOf (recsX p loose) (glAll p loose csts bis) mu fz cs, os := s.os, fad := fun g => (F g).1, fdat := fun g => (F g).2, xcls := fun k => ((((ownsOf p)[k]?).bind fun o => mg o.name).bind refA).getD 0, ccls := fun _ => KC }
  have fns : ∀ g fn, c.P.fns g = some fn → ∃ d, (recsX p loose)[g]? = some d ∧ fnOf (glAll p loose csts bis) mu fz d = some fn := fun g fn h => Option.bind_eq_some_iff.mp h
  have inX : ∀ (i : Nat) d, (recsOf p)[i]? = some d → (recsX p loose)[i]? = some d := fun i d h => (List.getElem?_append_left (List.getElem?_eq_some_iff.mp h).1).trans h
  have has : ∀ (i : Nat) d, (recsX p loose)[i]? = some d → ∃ fn, c.P.fns i = some fn := fun i d h => by
    obtain ⟨fn, hfn⟩ := hall d (List.mem_of_getElem? h)
    try clear hall
    exact ⟨fn, by show ((recsX p loose)[i]?).bind _ = _; rw [h]; exact hfn⟩
  have hX : ∀ (k : Nat) o, (ownsOf p)[k]? = some o → mg o.name = some (.ref (c.xcls k)) ∧ ∃ bm, XC s.heap (c.xcls k) bm ∧ ∀ (j : Nat) o', (ownsOf p)[j]? = some o' → (Value.ref (c.xcls k) :: bm).contains (.ref (c.xcls j)) = subL cs k j := by
    refine ea1_2 Y ?_
    try clear Y
    intro mg' hn' r
    have hmg : mg' = mg := funext fun x => hn'.agree T.g x
    try clear hn'; try clear hxs; try clear hrecs; try clear inX; try clear fns; try clear hF; try clear F; try clear hfn
    subst hmg
    have hcl : ∀ (k : Nat) o, (ownsOf p)[k]? = some o → mg' o.name = some (.ref (c.xcls k)) := fun k o ho => by
      refine ea2_2 (r k o ho) ?_
      intro C bm h1 _
      try clear r
      show _ = some (Value.ref (((((ownsOf p)[k]?).bind fun o => mg' o.name).bind refA).getD 0))
      rw [ho, Option.bind_some, h1]
      rfl
    intro k o ho
    refine ea2_3 (r k o ho) ?_
    intro C bm h1 h2 h3
    try clear r
    have hC := h1.symm.trans (hcl k o ho)
    try clear hmg; try clear mg'; try clear k; try clear C
    cases hC
    refine ⟨h1, bm, h2, fun j o' ho' => ?_⟩
    rw [← h3 j o' ho', hcl j o' ho']
    rfl
  have hbis : ∀ x g, bis.lookup x = some g → bootOk x g = true ∧ mg x = none ∧ mb x = bootBuiltins x := fun x g h => by
    have hm := mem_of_lookup h
    have h1 := List.all_eq_true.mp ok.boot _ hm
    have h2 := List.all_eq_true.mp ok.free _ hm
    simp only [Bool.and_eq_true, decide_eq_true_eq] at h2
    exact ⟨h1, T.free x h2.1.1.1.1.2 h2.1.1.1.2 h2.1.1.2 h2.1.2 h2.2, T.builtins x h2.1.1.1.1.1⟩
  have hf : ∀ x g, (glAll p loose csts bis).lookup x = some (.fn g) → ∃ fn, c.P.fns g = some fn := fun x g h => by
    cases gl_inv ok h with
    | fn hd _ => exact has _ _ (inX _ _ hd)
    | cls _ e => cases e
    | bi _ h => exact absurd h Bool.false_ne_true
  have C : Cok c (glAll p loose csts bis) := by
    refine ⟨T.g, T.b, T.nolimit, fun k hk => ?_, fun x ms ats f h => ?_, fun x g h => ?_, fun g fn h => ?_⟩
    · obtain ⟨r, hr⟩ : ∃ r, cs[k]? = some r := by
        try clear hr
        cases hq : cs[k]? with
        | none => have hk' : (cs[k]?).any (·.contains k) = true := hk; rw [hq] at hk'; cases hk'
        | some r => exact ⟨r, rfl⟩
      have hlt : k < (ownsOf p).length := Nat.lt_of_lt_of_le (List.getElem?_eq_some_iff.mp hr).1 hcs
      obtain ⟨_, bm, h2, h3⟩ := hX k _ (List.getElem?_eq_getElem hlt)
      try clear k; try clear hlt
      refine ⟨bm, h2, fun x j h => ?_⟩
      try clear h2; try clear bm; try clear cs; try clear r
      cases gl_inv ok h with
      | exc hd _ => exact h3 j _ hd
      | cls _ e => cases e
      | bi _ h => exact absurd h Bool.false_ne_true
    · have hk := cls_inv ok h
      refine ea1_2 hk ?_
      try clear hk
      intro k hk e
      cases e
      obtain ⟨_, P⟩ := hK k hk
      try clear hK
      rw [hk] at hko
      replace hko := Bool.and_eq_true_iff.mp (show kOk k = true from hko)
      obtain ⟨hko, ki⟩ := hko
      obtain ⟨ks, km⟩ := Bool.and_eq_true_iff.mp hko
      try clear hko
      have hmeth : ∀ (j : Nat) m, k.meths[j]? = some m → mN m.name = some (.ref (c.fad ((recsOf p).length + j))) ∧ (∃ o, s.heap.get? (c.fad ((recsOf p).length + j)) = some o ∧ o.cls = .type "function") ∧ ∃ fn, c.P.fns ((recsOf p).length + j) = some fn := fun j m hj => by
        have hX : (recsX p loose)[(recsOf p).length + j]? = some (mRec m) := by
          unfold recsX
          rw [List.getElem?_append_right (Nat.le_add_right _ _), Nat.add_sub_cancel_left, hk]
          show (k.meths.map mRec)[j]? = _
          rw [List.getElem?_map, hj]; rfl
        obtain ⟨⟨_, o, _, _, _, e1, _, _, _, e5⟩, _⟩ := hF _ _ hX
        try clear hF
        obtain ⟨e6, e7⟩ := e5 (Nat.le_add_right _ _)
        try clear e5
        exact ⟨e6, ⟨o, e1, e7⟩, has _ _ hX⟩
      obtain ⟨mi, hmi, hni⟩ : ∃ mi, k.meths[initAt k]? = some mi ∧ mi.name = "__init__" := by
        refine ea1_2 (List.any_eq_true.mp ki) ?_
        intro m h1 h2
        try clear ki
        have hlt : k.meths.findIdx (fun m => m.name == ("__init__" : Str)) < k.meths.length := List.findIdx_lt_length.mpr ⟨m, h1, h2⟩
        exact ⟨k.meths[initAt k]'hlt, List.getElem?_eq_getElem hlt, eq_of_beq (List.findIdx_getElem (w := hlt))⟩
      refine ea0_3 (hmeth _ mi hmi) ?_
      intro i1 i2 i3
      try clear mi; try clear hmi
      refine ⟨P.cls, P.quiet _ (.head _), P.quiet _ (.tail _ (.head _)), P.quiet _ (.tail _ (.tail _ (.head _))), fun n hn => ⟨P.quiet n (List.mem_append_right _ hn), ?_⟩, fun n g e => ?_, hni ▸ i1, i2, i3⟩
      · have := List.all_eq_true.mp ks n hn
        try clear i3; try clear i2; try clear i1; try clear __init__; try clear initAt; try clear hni; try clear km; try clear ks; try clear P; try clear e; try clear hk; try clear k
        cases hq : fastLookup "object" n with
        | none => rw [hq] at this; cases this
        | some y =>
          cases y with
          | none => exact look_obj hq
          | some y => rw [hq] at this; cases this
      · replace p := idx_lookup (f := fun m : MethRec => m.name) (g := fun j => (recsOf p).length + j) e
        refine ea2_3 p ?_
        try clear p
        intro j m q_3 hj q_5
        subst q_3
        subst q_5
        try clear e
        refine ea0_3 (hmeth j m hj) ?_
        intro m1 m2 m3
        try clear j
        obtain ⟨y, hy⟩ := Option.isSome_iff_exists.mp (List.all_eq_true.mp km m (List.mem_of_getElem? hj))
        try clear Option; try clear km; try clear m; try clear hj
        exact ⟨m1, m2, ⟨y, look_obj hy⟩, m3⟩
    · cases gl_inv ok h with
      | fn hd e =>
        subst e
        exact (hF _ _ (inX _ _ hd)).2 (List.getElem?_eq_some_iff.mp hd).1
      | exc hd e =>
        subst e
        obtain ⟨h1, bm, _, h3⟩ := hX _ _ hd
        exact ⟨h1, (h3 _ _ hd).symm.trans (by simp)⟩
      | cls hk e =>
        cases e
        exact (hK _ hk).1
      | cst h1 => exact cst_ok T h1
      | bi hl hb =>
        refine ea0_3 (hbis x g hl) ?_
        intro _ h2 h3
        cases g with
        | bi b => exact ⟨h2, h3.trans (boot_bi hb)⟩
        | ty b => exact ⟨h2, h3.trans (boot_ty hb)⟩
        | _ => exact absurd hb Bool.false_ne_true
    · refine ea1_2 (fns g fn h) ?_
      intro d hd _
      try clear fns
      obtain ⟨⟨_, o, pm, code, doc, e1, e2, _⟩, _⟩ := hF g d hd
      try clear hF; try clear d; try clear hd
      exact ⟨o, e1, e2⟩
  have sc := sc_all n C hf (fun g fn h => by
    refine ea1_2 (fns g fn h) ?_
    intro d hd hfn
    try clear fns
    obtain ⟨⟨qual, o, pm, code, doc, e1, e2, e3, e4, _⟩, _⟩ := hF g d hd
    try clear hF; try clear d; try clear hd
    exact fok_of (qual := qual) hfn e3 e4)
  obtain ⟨fn, hfn⟩ := hfn
  have hfs : c.P.fns f = some fn := by show ((recsX p loose)[f]?).bind _ = _; rw [inX _ _ hd]; exact hfn
  have hfa' : c.fad f = fa := by
    have := (hF f d (inX _ _ hd)).2 (List.getElem?_eq_some_iff.mp hd).1
    rw [hfa] at this
    try clear hfs; try clear fn; try clear hfn
    cases this; rfl
  have S : SR c [] [] [] s := ⟨rfl, fun _ _ e => e, hg, rfl, by simp, by simp, by simp, by simp⟩
  have hv : ∀ {vs : List Value} {zs : List Int}, IntsAre vs zs → VRs c [] [] s.heap (zs.map V.int) vs := fun {vs zs} h => ints_vrs h
  have hbl : (zs.map V.int).length ≤ bnd := by
    rw [List.length_map]
    have : (63 : Nat) ≤ bnd := by decide
    (exact Nat.le_trans (by assumption) (by decide))
  have h1 : recursionLimit = 1000 := rfl
  have h2 : claimMargin ≤ 300 := by decide
  have aok : ACk c callerA n := ⟨fun _ => rfl, (fun h => nomatch h), (by simp only [callerA]; lia), (by simp only [callerA, cLine]; lia)⟩
  have run := sc.run hfs aok ⟨[], rfl, fun _ h => nomatch h⟩ S (.cons (.lst (by simp) (by simp) hl (hv hi) hbl) .nil) hlaw
  rw [hfa'] at run
  refine wpAny_mono run (fun y s' r => ?_) fun _ _ e => e.none.elim
  try clear run; try clear aok; try clear S
  obtain ⟨v, H', as', e, S', k, hv, rfl⟩ := r
  try clear e; try clear as'; try clear H'; try clear v; try clear k
  cases hv.inv
  exact hR s' S'.stays S'.os S'.gens
theorem top_law2 {p prog : Program} {w : World} {loose : List Str} {mean : ExcName → Option Value} {mg mb : Str → Option Value} {s : Shared} {bis : List (Str × Gl)} {csts : List (Str × V)} {mu : List (Nat × Nat)} {fz : List (Nat × List Nat)} {l : Addr} {items : Array Value} {zs : List Int} {nm : Str} {f n : Nat} {fa : Addr} {fns : List Fn} {cs : List (List Nat)}
    {Q E : Value → Shared → Prop}
    (T : Top p loose mean mg mb s.heap) (TC : TopC p loose mg s.heap) (hko : (kOf p loose).all kOk = true) (ok : TopOk p loose csts bis) (Y : XSays (ownsOf p) cs s.heap) (hcs : cs.length ≤ (ownsOf p).length) (hg : s.gens = #[]) (hfns : (recsX p loose).map (fnOf (glAll p loose csts bis) mu fz) = fns.map some) (hnm : ((recsOf p)[f]?).map (·.name) = some nm) (hfa : mg nm = some (.ref fa))
    (hl : s.heap.PlainList l items) (hi : IntsAre items.toList zs) (hlen : zs.length ≤ 63) (hn : n ≤ 300)
    (hlaw : callF (progX fns cs) n false f [.lst (zs.map V.int)] [] (fun v _ => v = .bool true) (fun _ _ => False))
    (hR : ∀ s', (∀ b o, s.heap.get? b = some o → s'.heap.get? b = some o) → s'.os = s.os → s'.gens = #[] → Q (.bool true) s') :
    wpAny (model prog w) callerA (call (.ref fa) [.ref l]) Q E s := by
  have hP : progOf (recsX p loose) (glAll p loose csts bis) mu fz cs = progX fns cs := by
    unfold progOf progX
    congr 1
    funext i
    have h := congrArg (·[i]?) hfns
    simp only [List.getElem?_map] at h
    try clear Y; try clear hi; try clear hcs; try clear hfa; try clear hko; try clear hn; try clear T; try clear hlen; try clear hR; try clear hl; try clear hnm; try clear hfns; try clear TC; try clear hlaw; try clear hg; try clear ok
    cases h1 : (recsX p loose)[i]? with
    | none =>
      rw [h1] at h
      cases h2 : fns[i]? with
      | none => rfl
      | some fn => rw [h2] at h; cases h
    | some d =>
      rw [h1] at h
      cases h2 : fns[i]? with
      | none => rw [h2] at h; cases h
      | some fn => rw [h2] at h; exact Option.some.inj h
  refine ea1_2 (Option.map_eq_some_iff.mp hnm) ?_
  intro d hd hdn
  try clear hnm
  have hall : ∀ d ∈ recsX p loose, ∃ fn, fnOf (glAll p loose csts bis) mu fz d = some fn := fun d hd => by
    have h := List.mem_map_of_mem (f := fnOf (glAll p loose csts bis) mu fz) hd
    rw [hfns] at h
    replace h := List.mem_map.mp h
    refine ea1_2 h ?_
    try clear h
    intro fn _ h
    exact ⟨fn, h.symm⟩
  subst hdn
  exact top_law T TC hko ok Y hcs hg hd hfa (hall d (List.mem_append_left _ (List.mem_of_getElem? hd))) hall hl hi hlen hn (hP ▸ hlaw) hR
end Mine

end
noncomputable section
namespace Mine
open PySem

theorem compL_pure {F : V → AH → (Option V → AH → Prop) → Prop} {ok : AH → Prop} {H : AH} {g : V → Option V} (hok : ok H) : ∀ {items acc : List V} {Q : List V → AH → Prop},
    (∀ x ∈ items, ∀ K : Option V → AH → Prop, K (g x) H → F x H K) → Q (acc ++ items.filterMap g) H → compL F ok items acc H Q
  | [], acc, Q, _, q => ⟨hok, by simpa using q⟩
  | x :: xs, acc, Q, hF, q => by
    refine ⟨hok, hF x (.head _) _ (compL_pure hok (fun y hy => hF y (.tail _ hy)) ?_)⟩
    cases hg : g x with
    | none => simpa [List.filterMap_cons, hg] using q
    | some y => simpa [List.filterMap_cons, hg] using q
theorem forL_inv {F : V → Fm → AH → KS → Prop} {ok : AH → Prop} {K : KS} (Inv : List V → Fm → AH → Prop) (step : ∀ v vs ρ H, Inv (v :: vs) ρ H → ok H ∧ ∀ K' : KS, (∀ ρ' H', Inv vs ρ' H' → K' ρ' H') → F v ρ H K') (fin : ∀ ρ H, Inv [] ρ H → ok H ∧ K ρ H) :
    ∀ {items : List V} {ρ : Fm} {H : AH}, Inv items ρ H → forL F ok items ρ H K
  | [], ρ, H, i => fin ρ H i
  | v :: vs, ρ, H, i => ⟨(step v vs ρ H i).1, (step v vs ρ H i).2 _ fun _ _ i' => forL_inv Inv step fin i'⟩

theorem ret_same {H H' : AH} {Q : QE} {v : V} (q : Q v H') : Ret H Q v H' := q

theorem datas_int (zs : List Int) : V.datas (zs.map V.int) = true := by
  induction zs with
  | nil => rfl
  | cons z zs ih => show (V.data (.int z) && V.datas _) = true; rw [ih]; rfl
theorem depths_int (zs : List Int) : V.depths (zs.map V.int) = 0 := by
  induction zs with
  | nil => rfl
  | cons z zs ih => show max (V.depth (.int z)) (V.depths _) = 0; rw [ih]; rfl
theorem eqVs_int : ∀ (xs ys : List Int), eqVs (xs.map V.int) (ys.map V.int) = decide (xs = ys)
  | [], [] => rfl
  | [], _ :: _ => rfl
  | _ :: _, [] => rfl
  | x :: xs, y :: ys => by
    show (eqV (.int x) (.int y) && eqVs _ _) = _
    rw [eqVs_int xs ys]
    show ((x == y) && _) = _
    by_cases h : x = y <;> by_cases h' : xs = ys <;> simp [h, h']

section
variable {P : Prog} {H : AH} {Q : QE} {a b : Int}
theorem pm_add : primM P false (.bop .add) [.int a, .int b] H = some (.int (a + b), H) := rfl
theorem pm_sub : primM P false (.bop .sub) [.int a, .int b] H = some (.int (a - b), H) := rfl
theorem pm_mul (ha : -10 ^ 12 ≤ a ∧ a ≤ 10 ^ 12) (hb : -10 ^ 12 ≤ b ∧ b ≤ 10 ^ 12) : primM P false (.bop .mul) [.int a, .int b] H = some (.int (a * b), H) := by
  show (int2 mulI (.int a) (.int b)).map _ = _
  have h1 : smallInt a = true := decide_eq_true ha
  have h2 : smallInt b = true := decide_eq_true hb
  show Option.map _ (Option.map V.int (if (smallInt a && smallInt b) = true then some (a * b) else none)) = _
  rw [h1, h2]; rfl
theorem pm_mod (hb : 0 < b) : primM P false (.bop .mod) [.int a, .int b] H = some (.int (a % b), H) := by
  show Option.map _ (Option.map V.int (if 0 < b then some (a % b) else none)) = _
  rw [if_pos hb]; rfl
theorem pm_fdiv (hb : 0 < b) (hb' : b ≤ 10 ^ 12) : primM P false (.bop .fdiv) [.int a, .int b] H = some (.int (a / b), H) := by
  show Option.map _ (Option.map V.int (if 0 < b ∧ b ≤ 10 ^ 12 then some (a / b) else none)) = _
  rw [if_pos ⟨hb, hb'⟩]; rfl
theorem pm_pow9 : primM P false (.bop .pow) [.int 10, .int 9] H = some (.int 1000000000, H) := rfl
theorem pm_adds {x y : List Char} (h : x.length + y.length ≤ sizeOf') : primM P false (.bop .add) [.str x, .str y] H = some (.str (x ++ y), H) := by
  show Option.map _ (if x.length + y.length ≤ sizeOf' then some (V.str (x ++ y)) else none) = _
  rw [if_pos h]; rfl
theorem pm_lt : primM P false (.cop .lt) [.int a, .int b] H = some (.bool (decide (a < b)), H) := rfl
theorem pm_gt : primM P false (.cop .gt) [.int a, .int b] H = some (.bool (decide (b < a)), H) := rfl
theorem pm_eq {x y x' y' : V} (h1 : rd H x = some x') (h2 : rd H y = some y') : primM P false (.cop .eq) [x, y] H = some (.bool (eqV x' y'), H) := by
  show Option.map _ ((rd H x).bind fun x => (rd H y).map fun y => eqV x y) = _
  rw [h1, h2]; rfl
theorem pm_ne {x y x' y' : V} (h1 : rd H x = some x') (h2 : rd H y = some y') : primM P false (.cop .ne) [x, y] H = some (.bool (!eqV x' y'), H) := by
  show Option.map _ (Option.map _ ((rd H x).bind fun x => (rd H y).map fun y => eqV x y)) = _
  rw [h1, h2]; rfl
theorem rd_int : rd H (.int a) = some (.int a) := rfl
theorem rd_str {s : List Char} : rd H (.str s) = some (.str s) := rfl
theorem rd_lst0 {vs : List V} (h1 : V.datas vs = true) (h2 : V.depths vs = 0) : rd H (.lst vs) = some (.lst vs) := by
  show (if (V.datas vs && decide (V.depths vs + 1 ≤ 50)) = true then some (V.lst vs) else none) = _
  rw [h1, h2]; rfl
theorem rd_tup0 {vs : List V} (h1 : V.datas vs = true) (h2 : V.depths vs = 0) : rd H (.tup vs) = some (.tup vs) := by
  show (if (V.datas vs && decide (V.depths vs + 1 ≤ 50)) = true then some (V.tup vs) else none) = _
  rw [h1, h2]; rfl
theorem rd_ints {zs : List Int} : rd H (.lst (zs.map V.int)) = some (.lst (zs.map V.int)) := rd_lst0 (datas_int zs) (depths_int zs)
theorem eqV_ints {xs ys : List Int} : eqV (.lst (xs.map V.int)) (.lst (ys.map V.int)) = decide (xs = ys) := eqVs_int xs ys
theorem pm_not {t : Bool} : primM P false .not [.bool t] H = some (.bool !t, H) := rfl
theorem pi_int_int : primM P false (.isinst .int) [.int a] H = some (.bool true, H) := rfl
theorem pi_int_bool : primM P false (.isinst .bool) [.int a] H = some (.bool false, H) := rfl
theorem pi_str_str {x : List Char} : primM P false (.isinst .str) [.str x] H = some (.bool true, H) := rfl
theorem pi_tup_tuple {x : List V} : primM P false (.isinst .tuple) [.tup x] H = some (.bool true, H) := rfl
theorem dec_rfl {xs : List Int} : decide (xs = xs) = true := decide_eq_true rfl
theorem pm_neg : primM P false .neg [.int a] H = some (.int (-a), H) := rfl
theorem pm_lenl {xs : List V} : primM P false .len [.lst xs] H = some (.int xs.length, H) := rfl
theorem pm_lens {xs : List Char} : primM P false .len [.str xs] H = some (.int xs.length, H) := rfl
theorem pm_lent {xs : List V} : primM P false .len [.tup xs] H = some (.int xs.length, H) := rfl
theorem pm_min : primM P false .min [.int a, .int b] H = some (.int (min a b), H) := rfl
theorem pm_range1 (h : -10 ^ 12 ≤ b ∧ b ≤ 10 ^ 12) : primM P false .range1 [.int b] H = some (.rng 0 b, H) := by
  have h1 : smallInt b = true := decide_eq_true h
  exact if_pos h1
theorem pm_mkl {vs : List V} (h : vs.length ≤ sizeOf') : primM P false .mklist vs H = some (.lst vs, H) := by
  exact if_pos h
theorem pm_mkt {vs : List V} (h : vs.length ≤ sizeOf') : primM P false .mktup vs H = some (.tup vs, H) := by
  exact if_pos h
theorem hE {p : Option (V × AH)} {v : V} {H' : AH} (e : p = some (v, H')) (q : Q v H') : okE p Q := by rw [e]; exact q
theorem hB {t : Bool} {K : Bool → Prop} (q : K t) : okB (truth (.bool t)) K := q
theorem sz (n : Nat) (h : n ≤ 1000) : n ≤ sizeOf' := Nat.le_trans h (by decide)
end

/-- the ints that pass a test -/
noncomputable def keepInt (p : Int → Bool) : V → Option V
  | .int z => if p z then some (.int z) else none
  | _ => none
section
variable {P : Prog} {C : Calls} {ρ : Fm} {H : AH} {K : KS} {R : QE} {X : XS} {ss : List St}
theorem st_asg {i : Nat} {e : Ex} (h : wpE P C e ρ H (fun v H' => i < ρ.length ∧ wpSs P C ss (ρ.set i (some v)) H' K R X) (X ρ)) : wpSs P C (.asg i e :: ss) ρ H K R X := h
theorem st_ite {c : Ex} {a b : List St} (h : wpE P C c ρ H (fun v H' => okB (truth v) fun t => if t then wpSs P C a ρ H' (fun ρ' H' => wpSs P C ss ρ' H' K R X) R X else wpSs P C b ρ H' (fun ρ' H' => wpSs P C ss ρ' H' K R X) R X) (X ρ)) : wpSs P C (.ite c a b :: ss) ρ H K R X := h
theorem st_nil (h : K ρ H) : wpSs P C [] ρ H K R X := h
/-- a test that is known -/
theorem it_t {p q : Prop} (h : p) : if true = true then p else q := by simpa using h
theorem it_f {p q : Prop} (h : q) : if false = true then p else q := by simpa using h
end
end Mine

end
noncomputable section
namespace Mine
open PySem
section
variable {P : Prog} {H : AH} {Q : QE} {a b : Int}
theorem hc_le {K : Bool → Prop} (q : K (decide (a ≤ b))) : okB (cmpop .le (.int a) (.int b) H) K := q
theorem pm_intb {t : Bool} : primM P false .int [.bool t] H = some (.int (if t then 1 else 0), H) := rfl
theorem pm_mkd0 : primM P false (.mkdict []) [] H = some (.dct [] [], H) := rfl
theorem bools_map : ∀ bs : List Bool, bools? (bs.map V.bool) = some bs
  | [] => rfl
  | b :: bs => by show (bools? (bs.map V.bool)).map _ = _; rw [bools_map bs]; rfl
theorem pm_all {bs : List Bool} : primM P false .all [.lst (bs.map V.bool)] H = some (.bool (bs.all id), H) := by
  show (bools? (bs.map V.bool)).map _ = _
  rw [bools_map]; rfl
theorem pm_in {c : Char} {s : List Char} : primM P false (.cop .in_) [.str [c], .str s] H = some (.bool (s.contains c), H) := rfl
/-- one of a list's values -/
theorem pm_pick {xs : List V} {i : Int} (h0 : 0 ≤ i) (h1 : i < xs.length) : ∃ v, v ∈ xs ∧ primM P false .item [.lst xs, .int i] H = some (v, H) := by
  have h2 : i.toNat < xs.length := by lia
  refine ⟨xs[i.toNat], List.getElem_mem h2, ?_⟩
  show ((idx xs.length i).bind _).map _ = _
  simp only [Option.bind_some, idx, h0, h1, if_true, List.getElem?_eq_getElem h2, Option.map_some]
theorem pm_t0 {v : V} {vs : List V} : primM P false .item [.tup (v :: vs), .int 0] H = some (v, H) := by
  show ((idx (v :: vs).length 0).bind _).map _ = _
  have : (0 : Int) < ((v :: vs).length : Nat) := by simp only [List.length_cons]; lia
  simp only [idx, Int.le_refl, this, if_true, Option.bind_some, Int.toNat_zero, List.getElem?_cons_zero, Option.map_some]
theorem pm_t1 {u v : V} {vs : List V} : primM P false .item [.tup (u :: v :: vs), .int 1] H = some (v, H) := by
  show ((idx (u :: v :: vs).length 1).bind _).map _ = _
  have : (1 : Int) < ((u :: v :: vs).length : Nat) := by simp only [List.length_cons]; lia
  simp only [idx, this, if_true, Option.bind_some, show (0 : Int) ≤ 1 from by decide, show Int.toNat 1 = 1 from rfl, List.getElem?_cons_zero, List.getElem?_cons_succ, Option.map_some]
end
/-- a value with nothing inside -/
noncomputable def atom : V → Prop
  | .none | .bool _ | .int _ | .str _ => True
  | _ => False
noncomputable def good : V → Prop
  | .none | .bool _ | .int _ | .str _ | .lst _ | .dct _ _ => True
  | .tup vs => ∀ v ∈ vs, atom v
  | _ => False
theorem datas_atoms : ∀ {vs : List V}, (∀ v ∈ vs, atom v) → V.datas vs = true ∧ V.depths vs = 0
  | [], _ => ⟨rfl, rfl⟩
  | v :: vs, h => by
    obtain ⟨h1, h2⟩ := datas_atoms fun w hw => h w (.tail _ hw)
    have ha := h v (.head _)
    refine ⟨?_, ?_⟩
    · show (V.data v && V.datas vs) = true
      rw [h1]
      cases v <;> first | exact ha.elim | rfl
    · show max (V.depth v) (V.depths vs) = 0
      rw [h2]
      cases v <;> first | exact ha.elim | rfl
end Mine

end
noncomputable section
namespace Mine
open PySem
section
variable {P : Prog} {H : AH} {Q : QE} {a b : Int}
theorem pm_sl_s {s : List Char} (h : s.length ≤ sizeOf') : primM P false .slice [.str s, .none, .int b] H = some (.str (sliceL s 0 (clip s.length b)), H) := by
  show Option.map _ (if s.length ≤ sizeOf' then _ else _) = _
  rw [if_pos h]; rfl
theorem pm_sl_s' {s : List Char} (h : s.length ≤ sizeOf') : primM P false .slice [.str s, .int a, .none] H = some (.str (sliceL s (clip s.length a) s.length), H) := by
  show Option.map _ (if s.length ≤ sizeOf' then _ else _) = _
  rw [if_pos h]; rfl
theorem strs_map : ∀ ss : List (List Char), strs? (ss.map V.str) = some ss
  | [] => rfl
  | s :: ss => by show (strs? (ss.map V.str)).map _ = _; rw [strs_map ss]; rfl
theorem okD_of {vs : List V} (h2 : V.datas vs = true) (h3 : V.depths vs ≤ 50) : okD vs = true := by
  show (V.datas vs && decide (V.depths vs ≤ 50)) = true
  rw [h2, decide_eq_true h3]; rfl
end
/-- a comprehension whose turns hand back one of many -/
theorem compL_rel {F : V → AH → (Option V → AH → Prop) → Prop} {ok : AH → Prop} {H : AH} {P : V → Prop} (hok : ok H) : ∀ {items acc : List V} {Q : List V → AH → Prop},
    (∀ x ∈ items, ∀ K : Option V → AH → Prop, (∀ y, P y → K (some y) H) → F x H K) → (∀ ys, ys.length = items.length → (∀ y ∈ ys, P y) → Q (acc ++ ys) H) → compL F ok items acc H Q
  | [], acc, Q, _, q => ⟨hok, by simpa using q [] rfl (by simp)⟩
  | x :: xs, acc, Q, hF, q => by
    refine ⟨hok, hF x (.head _) _ fun y hy => compL_rel hok (fun z hz => hF z (.tail _ hz)) fun ys hl hp => ?_⟩
    have := q (y :: ys) (by simp [hl]) (by
      intro z hz
      cases hz with
      | head => exact hy
      | tail _ h => exact hp z h)
    simpa using this

mutual
theorem eqV_self : ∀ v : V, v.data = true → eqV v v = true
  | .none, _ => rfl
  | .bool b, _ => beq_self_eq_true b
  | .int i, _ => beq_self_eq_true i
  | .str s, _ => beq_self_eq_true s
  | .tup vs, h => eqVs_self vs h
  | .lst vs, h => eqVs_self vs h
  | .dct _ _, h => nomatch h
  | .rng _ _, h => nomatch h
  | .ref _, h => nomatch h
  | .exc _, h => nomatch h
theorem eqVs_self : ∀ vs : List V, V.datas vs = true → eqVs vs vs = true
  | [], _ => rfl
  | v :: vs, h => by
    have h' : (V.data v && V.datas vs) = true := h
    rw [Bool.and_eq_true] at h'
    show (eqV v v && eqVs vs vs) = true
    rw [eqV_self v h'.1, eqVs_self vs h'.2]
    rfl
end
section
variable {P : Prog} {C : Calls} {ρ : Fm} {H : AH} {K : KS} {R : QE} {X : XE} {E : XS} {ss : List St} {a b c : Ex} {v x y z : V} {s t : Bool}
/-- an expression that changes nothing and yields v -/
noncomputable def Ev (P : Prog) (C : Calls) (ρ : Fm) (H : AH) (X : XE) (e : Ex) (v : V) : Prop := ∀ Q : QE, Q v H → wpE P C e ρ H Q X
theorem ev_eq {e : Ex} (h : Ev P C ρ H X e v) (q : v = x) : Ev P C ρ H X e x := q ▸ h
theorem ev_cst : Ev P C ρ H X (.cst v) v := fun _ q => q
theorem ev_var {i : Nat} (h : ρ[i]? = some (some v)) : Ev P C ρ H X (.var i) v := fun Q q => by rw [wpE_var, h]; exact q
theorem pq {p : Prim} {mu : Bool} {vs : List V} {r : Option (V × AH)} (e : primM P mu p vs H = r) (hl : (p.loud && P.q) = false) : primQ P mu p vs H = r := by
  unfold primQ
  rw [hl]
  exact e
theorem ev_p0 {p : Prim} (e : primM P false p [] H = some (z, H)) (hl : (p.loud && P.q) = false := by rfl) : Ev P C ρ H X (.prim false p []) z := fun _ q => hE (pq e hl) q
theorem ev_p1 {p : Prim} (h : Ev P C ρ H X a x) (e : primM P false p [x] H = some (z, H)) (hl : (p.loud && P.q) = false := by rfl) : Ev P C ρ H X (.prim false p [a]) z := fun _ q => h _ (hE (pq e hl) q)
theorem ev_p2 {p : Prim} (h : Ev P C ρ H X a x) (h2 : Ev P C ρ H X b y) (e : primM P false p [x, y] H = some (z, H)) (hl : (p.loud && P.q) = false := by rfl) : Ev P C ρ H X (.prim false p [a, b]) z := fun _ q => h _ (h2 _ (hE (pq e hl) q))
theorem ev_p3 {p : Prim} {u : V} (h : Ev P C ρ H X a x) (h2 : Ev P C ρ H X b y) (h3 : Ev P C ρ H X c u) (e : primM P false p [x, y, u] H = some (z, H)) (hl : (p.loud && P.q) = false := by rfl) : Ev P C ρ H X (.prim false p [a, b, c]) z := fun _ q => h _ (h2 _ (h3 _ (hE (pq e hl) q)))
theorem ev_not (h : Ev P C ρ H X a (.bool s)) : Ev P C ρ H X (.prim false .not [a]) (.bool !s) := ev_p1 h pm_not
theorem ev_or (h : Ev P C ρ H X a (.bool s)) (h2 : s = false → Ev P C ρ H X b (.bool t)) : Ev P C ρ H X (.or a b) (.bool (s || t)) := fun Q q => h _ (by
  cases s with
  | true => exact q
  | false => exact h2 rfl Q q)
theorem ev_and (h : Ev P C ρ H X a (.bool s)) (h2 : s = true → Ev P C ρ H X b (.bool t)) : Ev P C ρ H X (.and a b) (.bool (s && t)) := fun Q q => h _ (by
  cases s with
  | false => exact q
  | true => exact h2 rfl Q q)
theorem ev_in {i j k : Int} (h : Ev P C ρ H X a (.int i)) (h2 : Ev P C ρ H X b (.int j)) (h3 : Ev P C ρ H X c (.int k)) : Ev P C ρ H X (.cmp2 a .le b .le c) (.bool (decide (i ≤ j) && decide (j ≤ k))) := fun Q q => h _ (h2 _ (hc_le (by
  cases hd : decide (i ≤ j) with
  | false => rw [hd] at q; exact it_f q
  | true => rw [hd] at q; exact it_t (h3 _ (hc_le q)))))
theorem ev_call2 {f : Nat} (h : Ev P C ρ H X a x) (h2 : Ev P C ρ H X b y) (hc : ∀ Q : QE, Q v H → C P.q f [x, y] H Q X) : Ev P C ρ H X (.call f [a, b]) v := fun Q q => h _ (h2 _ (hc Q q))
theorem ev_call3 {f : Nat} (h : Ev P C ρ H X a x) (h2 : Ev P C ρ H X b y) (h3 : Ev P C ρ H X c z) (hc : ∀ Q : QE, Q v H → C P.q f [x, y, z] H Q X) : Ev P C ρ H X (.call f [a, b, c]) v := fun Q q => h _ (h2 _ (h3 _ (hc Q q)))
theorem ev_ret {e : Ex} (h : Ev P C ρ H (E ρ) e v) (q : R v H) : wpSs P C (.ret e :: ss) ρ H K R E := h _ q
theorem ev_asg {i : Nat} {e : Ex} (h : Ev P C ρ H (E ρ) e v) (hi : i < ρ.length) (k : wpSs P C ss (ρ.set i (some v)) H K R E) : wpSs P C (.asg i e :: ss) ρ H K R E := h _ ⟨hi, k⟩
theorem ev_ite {as bs : List St} (h : Ev P C ρ H (E ρ) c (.bool s)) (yes : s = true → wpSs P C as ρ H (fun ρ' H' => wpSs P C ss ρ' H' K R E) R E) (no : s = false → wpSs P C bs ρ H (fun ρ' H' => wpSs P C ss ρ' H' K R E) R E) : wpSs P C (.ite c as bs :: ss) ρ H K R E := h _ (by
  cases s with
  | false => exact no rfl
  | true => exact yes rfl)
/-- a test behind which the function hands back a constant -/
theorem ev_guard (h : Ev P C ρ H (E ρ) c (.bool s)) (no : s = true → R v H) (go : s = false → wpSs P C ss ρ H K R E) : wpSs P C (.ite c [.ret (.cst v)] [] :: ss) ρ H K R E := ev_ite h no go
end
end Mine

end
noncomputable section
namespace Mine
open PySem

/-! A runner of the small language on values with stand-ins: a text of one private sign stands for a name, `exc k` with 100 ≤ k for any value. -/

inductive Out (α : Type) where
  | val (a : α) (H : AH)
  | exc (c : Nat) (H : AH)
inductive OutS where
  | nxt (ρ : Fm) (H : AH)
  | ret (v : V) (H : AH)
  | exc (ρ : Fm) (c : Nat) (H : AH)
abbrev Rn (α : Type) := Option (Out α)
noncomputable def Rn.bind {α β : Type} (r : Rn α) (k : α → AH → Rn β) : Rn β := match r with
  | some (.val a H) => k a H
  | some (.exc c H) => some (.exc c H)
  | none => none
/-- an expression's run inside a statement -/
noncomputable def Rn.bindS {α : Type} (ρ : Fm) (r : Rn α) (k : α → AH → Option OutS) : Option OutS := match r with
  | some (.val a H) => k a H
  | some (.exc c H) => some (.exc ρ c H)
  | none => none
noncomputable def okR (r : Option (V × AH)) : Rn V := match r with | some (v, H) => some (.val v H) | none => none

noncomputable def nmC (c : Char) : Bool := Nat.ble 57344 c.toNat && Nat.ble c.toNat 57349
/-- a name's stand-in -/
noncomputable def isNm : List Char → Bool
  | [] => false
  | c :: t => t.isEmpty && nmC c

noncomputable def V.bol : V → Option Bool
  | .bool b => some b
  | _ => Option.none
noncomputable def V.non : V → Bool
  | .none => true
  | _ => false
mutual
/-- the same value, to the sign -/
noncomputable def same : V → V → Bool
  | .none, w => w.non
  | .bool b, w => w.bol == some b
  | .int i, w => w.num == some i
  | .str x, w => w.txt == some x
  | .ref i, w => w.at == some i
  | .tup xs, w => w.tpl.any (sames xs)
  | _, _ => false
noncomputable def sames : List V → List V → Bool
  | [], ys => ys.isEmpty
  | x :: xs, ys => ys.head?.any (same x) && sames xs ys.tail
end
mutual
/-- == is known: names meet names, other texts meet other texts -/
noncomputable def okEq : V → V → Bool
  | .str x, .str y => isNm x == isNm y
  | .lst xs, .lst ys => okEqs xs ys
  | .tup xs, .tup ys => okEqs xs ys
  | _, _ => true
noncomputable def okEqs : List V → List V → Bool
  | x :: xs, y :: ys => okEq x y && okEqs xs ys
  | _, _ => true
end
noncomputable def okKey (k : List Char) (ks : List (List Char)) : Bool := isNm k && ks.all isNm
noncomputable def gKey (H : AH) (v w : V) : Bool := (dview H v).all fun d => w.txt.all fun k => okKey k d.1
noncomputable def gL (H : AH) (x : V) (vs : List V) : Bool := (rd H x).all fun x' => vs.all fun y => okEq y x'
noncomputable def gIn (H : AH) (x c : V) : Bool := match c with
  | .str _ => false
  | .tup vs => gL H x vs
  | c => (view H c).all (gL H x) && gKey H c x
noncomputable def gCop (o : Cop) (a b : V) (H : AH) : Bool := match o with
  | .eq | .ne => (rd H a).all fun x => (rd H b).all fun y => okEq x y
  | .in_ | .notin => gIn H a b
  | _ => true
noncomputable def V.noTxt : V → Bool
  | .str _ => false
  | _ => true
noncomputable def V.low : V → Bool
  | .exc k => Nat.blt k 100
  | _ => true
noncomputable def gItem (H : AH) (v i : V) : Bool := match i with
  | .str _ => gKey H v i
  | _ => v.noTxt
noncomputable def gP (p : Prim) (vs : List V) (H : AH) : Bool := match p with
  | .bop _ | .len | .list | .slice => vs.head?.all V.noTxt
  | .cop o => (match vs with | [a, b] => gCop o a b H | _ => false)
  | .not | .neg | .isinst _ | .range1 | .range2 | .mklist | .mktup | .append | .pop | .pop0 | .extend | .attr _ => true
  | .isX _ => vs.head?.all V.low
  | .item => (match vs with | [v, i] => gItem H v i | _ => false)
  | .mkdict ks => ks.isEmpty
  | .mkdict1 => vs.head?.all fun k => k.txt.all isNm
  | .index => (match vs with | [v, x] => v.tpl.all (gL H x) | _ => false)
  | .dpop => (match vs with | [v, w] => gKey H v w | _ => false)
  | _ => false
noncomputable def primR (P : Prog) (mu : Bool) (p : Prim) (vs : List V) (H : AH) : Rn V := if gP p vs H = true then okR (primQ P mu p vs H) else none

/-- a constant without stand-ins -/
noncomputable def clean : V → Bool
  | .str s => !isNm s
  | .none | .bool _ | .int _ => true
  | _ => false

set_option genInjectivity false in
structure Ru where
  e : Bool → Ex → Fm → AH → Rn V
  es : Bool → List Ex → Fm → AH → Rn (List V)
  ss : Bool → List St → Fm → AH → Option OutS
  c : Bool → Nat → List V → AH → Rn V

noncomputable def tst (v : V) (a b : Unit → Rn V) : Rn V := match truth v with
  | some true => a ()
  | some false => b ()
  | none => none
noncomputable def tstS (v : V) (a b : Unit → Option OutS) : Option OutS := match truth v with
  | some true => a ()
  | some false => b ()
  | none => none

noncomputable def compR (F : V → AH → Rn (Option V)) (ok : AH → Bool) : List V → List V → AH → Rn (List V)
  | [], acc, H => if ok H = true then some (.val acc H) else none
  | v :: vs, acc, H => if ok H = true then (F v H).bind fun r H' => compR F ok vs (match r with | some x => acc ++ [x] | none => acc) H' else none
noncomputable def okSrc (rev q : Bool) (v : V) (items : List V) (H : AH) : Bool := match v with
  | .ref _ => (srcD rev q H v).any (sames items)
  | _ => true
noncomputable def srcR (rev q : Bool) (H : AH) (v : V) : Option (List V) := match v with
  | .str _ => none
  | v => (srcD rev q H v).bind fun items => if Nat.ble items.length sizeOf' = true then some items else none

noncomputable def stepE (P : Prog) (U : Ru) (q : Bool) (e : Ex) (ρ : Fm) (H : AH) : Rn V := match e with
  | .cst v => if clean v = true then some (.val v H) else none
  | .var i => (match ρ[i]? with | some (some v) => some (.val v H) | _ => none)
  | .prim mu p args => (U.es q args ρ H).bind fun vs H' => primR (P.at q) mu p vs H'
  | .and a b => (U.e q a ρ H).bind fun v H' => tst v (fun _ => U.e q b ρ H') (fun _ => some (.val (.bool false) H'))
  | .or a b => (U.e q a ρ H).bind fun v H' => tst v (fun _ => some (.val (.bool true) H')) (fun _ => U.e q b ρ H')
  | .cmp2 a o₁ b o₂ c => (U.e q a ρ H).bind fun x H₁ => (U.e q b ρ H₁).bind fun y H₂ => if gCop o₁ x y H₂ = true then
      (match cmpop o₁ x y H₂ with
        | some true => (U.e q c ρ H₂).bind fun z H₃ => if gCop o₂ y z H₃ = true then (match cmpop o₂ y z H₃ with | some t => some (.val (.bool t) H₃) | none => none) else none
        | some false => some (.val (.bool false) H₂)
        | none => none) else none
  | .call f args => (U.es q args ρ H).bind fun vs H' => U.c q f vs H'
  | .meth k f name o args => (U.e q o ρ H).bind fun v H₁ => if hasMeth H₁ k name v = true then (U.es q args ρ H₁).bind fun vs H' => U.c q f (v :: vs) H' else none
  | .mcall t mu p o args => (U.e q o ρ H).bind fun v H₁ => if hasTy H₁ v t = true then (U.es q args ρ H₁).bind fun vs H' => primR (P.at q) mu p (v :: vs) H' else none
  | .new c f args => (U.es q args ρ H).bind fun vs H' => (U.c q f (.ref (H'.length + 1) :: vs) (H' ++ [.ns [] [], .inst c H'.length])).bind fun v H'' => (match v with | .none => some (.val (.ref (H'.length + 1)) H'') | _ => none)
  | .comp mu elt it cond => (U.e q it ρ H).bind fun v H₁ => (match srcR false q H₁ v with
      | some items => (compR (fun x H' => match cond with
          | none => (U.e q elt (ρ ++ [some x]) H').bind fun y H'' => some (.val (some y) H'')
          | some c => (U.e q c (ρ ++ [some x]) H').bind fun b H₂ => (match truth b with
            | some true => (U.e q elt (ρ ++ [some x]) H₂).bind fun y H'' => some (.val (some y) H'')
            | some false => some (.val none H₂)
            | none => none)) (okSrc false q v items) items [] H₁).bind fun ys H₂ => okR (if mu then thaw (.lst ys) H₂ else some (.lst ys, H₂))
      | none => none)
noncomputable def stepEs (U : Ru) (q : Bool) (es : List Ex) (ρ : Fm) (H : AH) : Rn (List V) := match es with
  | [] => some (.val [] H)
  | e :: es => (U.e q e ρ H).bind fun v H' => (U.es q es ρ H').bind fun vs H'' => some (.val (v :: vs) H'')

/-- one turn of a loop, and what follows -/
noncomputable def stepW (o : OutS) (k : Fm → AH → Option OutS) : Option OutS := match o with
  | .nxt ρ H => k ρ H
  | .ret v H => some (.ret v H)
  | .exc _ _ _ => none
noncomputable def forR (F : V → Fm → AH → Option OutS) (ok : AH → Bool) : List V → Fm → AH → Option OutS
  | [], ρ, H => if ok H = true then some (.nxt ρ H) else none
  | v :: vs, ρ, H => if ok H = true then (F v ρ H).bind fun o => stepW o (forR F ok vs) else none
noncomputable def whileR (F : Fm → AH → Option (Bool × OutS)) : Nat → Fm → AH → Option OutS
  | 0, _, _ => none
  | k + 1, ρ, H => (F ρ H).bind fun p => stepW p.2 (if p.1 then whileR F k else fun ρ H => some (.nxt ρ H))
noncomputable def seqR (r : Option OutS) (k : Fm → AH → Option OutS) : Option OutS := match r with
  | some (.nxt ρ H) => k ρ H
  | r => r
noncomputable def gSetI (o i : V) (H : AH) : Bool := gKey H o i

noncomputable def whF (U : Ru) (q : Bool) (c : Ex) (body : List St) (ρ : Fm) (H : AH) : Option (Bool × OutS) := match U.e q c ρ H with
  | some (.val v H') => (truth v).bind fun t => if t then (U.ss q body ρ H').map fun r => (true, r) else some (false, .nxt ρ H')
  | _ => none
noncomputable def stepS (P : Prog) (U : Ru) (q : Bool) (s : St) (ρ : Fm) (H : AH) : Option OutS := match s with
  | .asg i e => (U.e q e ρ H).bindS ρ fun v H' => if Nat.blt i ρ.length = true then some (.nxt (ρ.set i (some v)) H') else none
  | .asgTup is e => (U.e q e ρ H).bindS ρ fun v H' => if q then none else (setTgt ρ (.inr is) v).bind fun ρ' => some (.nxt ρ' H')
  | .setItem o i e => (U.e q e ρ H).bindS ρ fun x H₁ => (U.e q o ρ H₁).bindS ρ fun ov H₂ => (U.e q i ρ H₂).bindS ρ fun iv H₃ => if gKey H₃ ov iv = true then ((setItemV ov iv x H₃).bind fun H' => some (.nxt ρ H')) else none
  | .setAttr o n e => (U.e q e ρ H).bindS ρ fun x H₁ => (U.e q o ρ H₁).bindS ρ fun ov H₂ => (setAttrV ov n x H₂).bind fun H' => some (.nxt ρ H')
  | .expr e => (U.e q e ρ H).bindS ρ fun _ H' => some (.nxt ρ H')
  | .ite c a b => (U.e q c ρ H).bindS ρ fun v H' => tstS v (fun _ => U.ss q a ρ H') (fun _ => U.ss q b ρ H')
  | .forIn rev tgt e body => (U.e q e ρ H).bindS ρ fun v H₁ => (srcR rev q H₁ v).bind fun items => forR (fun x ρ' H' => (setTgt ρ' tgt x).bind fun ρ'' => U.ss q body ρ'' H') (okSrc rev q v items) items ρ H₁
  | .while_ c body => whileR (whF U q c body) 100 ρ H
  | .ret e => (U.e q e ρ H).bindS ρ fun v H' => some (.ret v H')
  | .raise c => if q then none else some (.exc ρ c H)
  | .try_ body cls as_ h => if q then none else (match U.ss q body ρ H with
      | some (.exc ρ' c H') => if (P.sub c c && P.sub c cls) = true ∧ c < 100 then seqR (match U.ss true h (as_.elim ρ' fun i => ρ'.set i (some (.exc c))) H' with | some (.exc _ _ _) => none | r => r) (fun ρ'' H'' => some (.nxt (as_.elim ρ'' fun i => ρ''.set i none) H'')) else none
      | r => r)
  | .freeze _ => none
  | .pass => some (.nxt ρ H)
noncomputable def stepSs (P : Prog) (U : Ru) (q : Bool) (ss : List St) (ρ : Fm) (H : AH) : Option OutS := match ss with
  | [] => some (.nxt ρ H)
  | s :: ss => seqR (stepS P U q s ρ H) (U.ss q ss)

noncomputable def outR : Option OutS → Rn V
  | some (.nxt _ H) => some (.val .none H)
  | some (.ret v H) => some (.val v H)
  | some (.exc _ c H) => some (.exc c H)
  | none => none
noncomputable def stepC (P : Prog) (tab : Nat → List V → Option Bool) (U : Ru) (q : Bool) (f : Nat) (args : List V) (H : AH) : Rn V := match tab f args with
  | some b => if q then none else some (.val (.bool b) H)
  | none => match P.fns f with
    | some fn => if args.length = fn.arity then outR (U.ss q fn.body (args.map some ++ List.replicate fn.extra none) H) else none
    | none => none
noncomputable def step (P : Prog) (tab : Nat → List V → Option Bool) (U : Ru) : Ru := ⟨stepE P U, stepEs U, stepSs P U, stepC P tab U⟩
noncomputable def run (P : Prog) (tab : Nat → List V → Option Bool) : Nat → Ru
  | 0 => ⟨fun _ _ _ _ => none, fun _ _ _ _ => none, fun _ _ _ _ => none, fun _ _ _ _ => none⟩
  | n + 1 => step P tab (run P tab n)
end Mine

end
noncomputable section
namespace Mine
open PySem

set_option genInjectivity false in
/-- what the stand-ins stand for; the run's heap lies behind H0 -/
structure Sg where
  nm : Nat → List Char
  op : Nat → V
  H0 : AH
  inj : ∀ {i j : Nat}, i < 6 → j < 6 → nm i = nm j → i = j
  hop : ∀ k, (op k).at = none

section
variable (σ : Sg)
abbrev Sg.b : Nat := σ.H0.length
noncomputable def nmN : List Char → Nat
  | [] => 0
  | c :: _ => c.toNat - 57344
noncomputable def sgK (s : List Char) : List Char := if isNm s = true then σ.nm (nmN s) else s
mutual
noncomputable def sg : V → V
  | .none => .none
  | .bool b => .bool b
  | .int i => .int i
  | .str s => .str (sgK σ s)
  | .tup vs => .tup (sgs vs)
  | .lst vs => .lst (sgs vs)
  | .dct ks vs => .dct (ks.map (sgK σ)) (sgs vs)
  | .rng a b => .rng a b
  | .ref i => .ref (σ.b + i)
  | .exc k => if k < 100 then .exc k else σ.op k
noncomputable def sgs : List V → List V
  | [] => []
  | v :: vs => sg v :: sgs vs
end
noncomputable def sgO : O → O
  | .list vs => .list (vs.map (sg σ))
  | .dict ks vs => .dict (ks.map (sgK σ)) (vs.map (sg σ))
  | .inst c d => .inst c (σ.b + d)
  | .ns ks vs => .ns ks (vs.map (sg σ))
  | .dead => .dead
noncomputable def sgH (H : AH) : AH := σ.H0 ++ H.map (sgO σ)
noncomputable def sgF (ρ : Fm) : Fm := ρ.map (Option.map (sg σ))
noncomputable def sgR (r : V × AH) : V × AH := (sg σ r.1, sgH σ r.2)
end

/-- what comes out on one side comes out on the other, carried over -/
noncomputable def To {α β : Type} (f : α → β) (o : Option α) (o' : Option β) : Prop := ∀ a, o = some a → o' = some (f a)
namespace To
variable {α β γ δ : Type} {f : α → β} {g : γ → δ}
theorem none {o' : Option β} : To f .none o' := fun _ h => nomatch h
theorem some {a : α} {b : β} (h : f a = b) : To f (.some a) (.some b) := fun _ e => by cases e; rw [h]
theorem bind {o : Option α} {o' : Option β} {k : α → Option γ} {k' : β → Option δ} (h : To f o o') (hk : ∀ a, To g (k a) (k' (f a))) : To g (o.bind k) (o'.bind k') := fun c e => by
  refine ea1_2 (bind_is e) ?_
  intro a h1 h2
  rw [h a h1]
  exact hk a c h2
theorem bind' {o : Option α} {o' : Option β} {k : α → Option γ} {k' : β → Option δ} (h : To f o o') (hk : ∀ a, o = .some a → To g (k a) (k' (f a))) : To g (o.bind k) (o'.bind k') := fun c e => by
  refine ea1_2 (bind_is e) ?_
  intro a h1 h2
  rw [h a h1]
  exact hk a h1 c h2
theorem map {o : Option α} {o' : Option β} {k : α → γ} {k' : β → δ} (h : To f o o') (hk : ∀ a, k' (f a) = g (k a)) : To g (o.map k) (o'.map k') := fun c e => by
  refine ea1_2 (map_is e) ?_
  intro a h1 h2
  rw [h a h1, ← h2, ← hk a]
  rfl
theorem map' {o : Option α} {o' : Option β} {k : α → γ} {k' : β → δ} (h : To f o o') (hk : ∀ a, o = .some a → k' (f a) = g (k a)) : To g (o.map k) (o'.map k') := fun c e => by
  refine ea1_2 (map_is e) ?_
  intro a h1 h2
  rw [h a h1, ← h2, ← hk a h1]
  rfl
theorem ite {p p' : Prop} [Decidable p] [Decidable p'] {o : Option α} {o' : Option β} (hp : p → p') (h : To f o o') : To f (if p then o else .none) (if p' then o' else .none) := fun c e => by
  obtain ⟨h1, h2⟩ := ite_some e
  rw [if_pos (hp h1)]
  exact h c h2
end To

section
variable {σ : Sg} {H : AH}
theorem sgs_eq (vs : List V) : sgs σ vs = vs.map (sg σ) := by
  induction vs with
  | nil => rfl
  | cons v vs ih => exact congrArg (sg σ v :: ·) ih
theorem isNm_is {x : List Char} (h : isNm x = true) : ∃ c, x = [c] ∧ 57344 ≤ c.toNat ∧ c.toNat ≤ 57349 := by
  cases x with
  | nil => cases h
  | cons c t =>
    obtain ⟨h1, h2⟩ := Bool.and_eq_true_iff.mp h
    try clear h
    obtain ⟨h3, h4⟩ := Bool.and_eq_true_iff.mp h2
    try clear h2
    cases t with
    | nil => exact ⟨c, rfl, Nat.le_of_ble_eq_true h3, Nat.le_of_ble_eq_true h4⟩
    | cons _ _ => cases h1
theorem key_eq {x y : List Char} (hx : isNm x = true) (hy : isNm y = true) : sgK σ x = sgK σ y ↔ x = y := by
  refine ⟨fun e => ?_, fun e => by rw [e]⟩
  unfold sgK at e
  rw [if_pos hx, if_pos hy] at e
  replace hx := isNm_is hx
  refine ea1_3 hx ?_
  try clear hx
  intro c q_2 c1 c2
  subst q_2
  replace hy := isNm_is hy
  refine ea1_3 hy ?_
  try clear hy
  intro d q_2 d1 d2
  subst q_2
  have F : ∀ {n : Nat}, n ≤ 57349 → n - 57344 < 6 := fun h => Nat.lt_of_le_of_lt (Nat.sub_le_sub_right h 57344) (by decide)
  have e : c.toNat - 57344 = d.toNat - 57344 := σ.inj (F c2) (F d2) e
  rw [Char.toNat_inj.mp (show c.toNat = d.toNat by rw [← Nat.sub_add_cancel c1, e, Nat.sub_add_cancel d1])]
theorem sgK_not {x : List Char} (hx : isNm x = false) : sgK σ x = x := if_neg (by rw [hx]; exact Bool.false_ne_true)
theorem str_eq {x y : List Char} (h : (isNm x == isNm y) = true) : (sgK σ x == sgK σ y) = (x == y) := by
  cases hx : isNm x with
  | true =>
    have hy : isNm y = true := by rw [hx] at h; exact (eq_of_beq h).symm
    exact Bool.eq_iff_iff.mpr ⟨fun e => beq_iff_eq.mpr ((key_eq hx hy).mp (beq_iff_eq.mp e)), fun e => beq_iff_eq.mpr ((key_eq hx hy).mpr (beq_iff_eq.mp e))⟩
  | false =>
    have hy : isNm y = false := by rw [hx] at h; exact (eq_of_beq h).symm
    rw [sgK_not hx, sgK_not hy]

theorem data_sg (v : V) : v.data = true → (sg σ v).data = true ∧ (sg σ v).depth = v.depth := by
  induction v using V.rec (motive_2 := fun vs => V.datas vs = true → V.datas (sgs σ vs) = true ∧ V.depths (sgs σ vs) = V.depths vs) with
  | tup vs ih => exact fun h => ⟨(ih h).1, congrArg (· + 1) (ih h).2⟩
  | lst vs ih => exact fun h => ⟨(ih h).1, congrArg (· + 1) (ih h).2⟩
  | nil => exact ⟨rfl, rfl⟩
  | cons v vs i1 i2 =>
    rename_i h
    obtain ⟨h1, h2⟩ := Bool.and_eq_true_iff.mp h
    exact ⟨Bool.and_eq_true_iff.mpr ⟨(i1 h1).1, (i2 h2).1⟩, (show max (sg σ v).depth (V.depths (sgs σ vs)) = max v.depth (V.depths vs) from congr (congrArg max (i1 h1).2) (i2 h2).2)⟩
  | dct | rng | ref | exc => rintro ⟨⟩
  | _ => exact fun _ => ⟨rfl, rfl⟩
theorem datas_sg {vs : List V} (h : V.datas vs = true) : V.datas (sgs σ vs) = true ∧ V.depths (sgs σ vs) = V.depths vs := by
  have := data_sg (σ := σ) (.tup vs) h
  exact ⟨this.1, Nat.succ.inj this.2⟩
theorem eqV_sg (a : V) : ∀ b, a.data = true → b.data = true → okEq a b = true → eqV (sg σ a) (sg σ b) = eqV a b := by
  induction a using V.rec (motive_2 := fun xs => ∀ ys, V.datas xs = true → V.datas ys = true → okEqs xs ys = true → eqVs (sgs σ xs) (sgs σ ys) = eqVs xs ys) with
  | str x =>
    intro b _ hb h
    try clear a
    cases b with
    | str y => exact str_eq h
    | dct | rng | ref | exc => cases hb
    | _ => rfl
  | tup xs ih =>
    intro b ha hb h
    cases b with
    | tup ys => exact ih ys ha hb h
    | dct | rng | ref | exc => cases hb
    | _ => rfl
  | lst xs ih =>
    intro b ha hb h
    cases b with
    | lst ys => exact ih ys ha hb h
    | dct | rng | ref | exc => cases hb
    | _ => rfl
  | nil => rename_i ys _ _ _; cases ys <;> rfl
  | cons x xs i1 i2 =>
    rename_i ys ha hb h
    cases ys with
    | nil => rfl
    | cons y ys =>
      obtain ⟨a1, a2⟩ := Bool.and_eq_true_iff.mp ha
      obtain ⟨b1, b2⟩ := Bool.and_eq_true_iff.mp hb
      obtain ⟨h1, h2⟩ := Bool.and_eq_true_iff.mp h
      show (eqV (sg σ x) (sg σ y) && eqVs (sgs σ xs) (sgs σ ys)) = (eqV x y && eqVs xs ys)
      exact congr (congrArg and (i1 y a1 b1 h1)) (i2 ys a2 b2 h2)
  | dct | rng | ref | exc => rintro b ⟨⟩
  | _ => intro b _ hb _; cases b <;> first | rfl | cases hb

theorem get_to (i : Nat) : To (sgO σ) H[i]? (sgH σ H)[σ.b + i]? := fun a h => by
  unfold sgH
  rw [List.getElem?_append_right (Nat.le_add_right ..), Nat.add_sub_cancel_left, List.getElem?_map, h]
  rfl
theorem set_sg (i : Nat) (o : O) : (sgH σ H).set (σ.b + i) (sgO σ o) = sgH σ (H.set i o) := by
  unfold sgH
  rw [List.set_append_right _ _ (Nat.le_add_right ..), Nat.add_sub_cancel_left, List.map_set]
theorem len_sg : (sgH σ H).length = σ.b + H.length := by
  unfold sgH
  rw [List.length_append, List.length_map]
theorem app_sg (os : List O) : sgH σ H ++ os.map (sgO σ) = sgH σ (H ++ os) := by
  unfold sgH
  rw [List.map_append, List.append_assoc]
theorem lst_to (o : O) : To (List.map (sg σ)) o.lst (sgO σ o).lst := by
  cases o <;> first | exact .none | exact .some rfl
theorem dct_to (o : O) : To (fun d => (d.1.map (sgK σ), d.2.map (sg σ))) o.dct (sgO σ o).dct := by
  cases o <;> first | exact .none | exact .some rfl
theorem view_to (v : V) : To (List.map (sg σ)) (view H v) (view (sgH σ H) (sg σ v)) := by
  cases v with
  | lst vs => exact .some (sgs_eq vs).symm
  | ref i => exact .bind (get_to i) lst_to
  | _ => exact .none
theorem dview_to (v : V) : To (fun d => (d.1.map (sgK σ), d.2.map (sg σ))) (dview H v) (dview (sgH σ H) (sg σ v)) := by
  cases v with
  | dct ks vs => exact .some (by rw [sgs_eq])
  | ref i => exact .bind (get_to i) dct_to
  | _ => exact .none
theorem txt_to (v : V) : To (sgK σ) v.txt (sg σ v).txt := by cases v <;> first | exact .none | exact .some rfl
theorem num_to (v : V) : To id v.num (sg σ v).num := by cases v <;> first | exact .none | exact .some rfl
theorem at_to (v : V) : To (σ.b + ·) v.at (sg σ v).at := by cases v <;> first | exact .none | exact .some rfl
theorem tpl_to (v : V) : To (List.map (sg σ)) v.tpl (sg σ v).tpl := by cases v <;> first | exact .none | exact .some (sgs_eq _).symm
theorem truth_to (v : V) : To id (truth v) (truth (sg σ v)) := by cases v <;> first | exact .none | exact .some rfl
theorem part_to (v : V) : To id (partOf v) (partOf (sg σ v)) := by cases v <;> first | exact .none | exact .some rfl
theorem okD_sg {vs : List V} (h : okD vs = true) : okD (vs.map (sg σ)) = true := by
  obtain ⟨h1, h2⟩ := okD_is h
  try clear h
  rw [← sgs_eq]
  exact Bool.and_eq_true_iff.mpr ⟨(datas_sg h1).1, decide_eq_true (by rw [(datas_sg h1).2]; exact h2)⟩
theorem rdD_to {v : V} (h : (V.data v && decide (V.depth v ≤ 50)) = true) : (V.data (sg σ v) && decide (V.depth (sg σ v) ≤ 50)) = true := by
  obtain ⟨h1, h2⟩ := Bool.and_eq_true_iff.mp h
  try clear h
  exact Bool.and_eq_true_iff.mpr ⟨(data_sg v h1).1, decide_eq_true (by rw [(data_sg v h1).2]; exact of_decide_eq_true h2)⟩
theorem rdD_To (v : V) : To (sg σ) (rdD v) (rdD (sg σ v)) := .ite rdD_to (.some rfl)
theorem rd_to (v : V) : To (sg σ) (rd H v) (rd (sgH σ H) (sg σ v)) := by
  cases v with
  | ref i => exact .bind (view_to (.ref i)) fun vs => .ite okD_sg (.some (congrArg V.lst (sgs_eq vs)))
  | exc k => exact .none
  | dct | rng => exact .none
  | _ => exact rdD_To _
theorem rd_data {v x : V} (h : rd H v = some x) : x.data = true := by
  rcases rd_is h with ⟨vs, _, h2, rfl⟩ | ⟨h1, rfl⟩
  · exact (okD_is h2).1
  · exact (Bool.and_eq_true_iff.mp h1).1

theorem int2_to (f : Int → Int → Option Int) (a b : V) : To (sg σ) (int2 f a b) (int2 f (sg σ a) (sg σ b)) := by
  cases a with
  | int i =>
    try clear a
    cases b with
    | int j => exact .map (f := id) (fun _ h => h) fun _ => rfl
    | _ => exact .none
  | _ => exact .none
theorem len_map {vs : List V} {n : Nat} (h : vs.length ≤ n) : (vs.map (sg σ)).length ≤ n := by rw [List.length_map]; exact h
theorem len_map2 {vs ws : List V} {n : Nat} (h : vs.length + ws.length ≤ n) : (vs.map (sg σ)).length + (ws.map (sg σ)).length ≤ n := by rw [List.length_map, List.length_map]; exact h
theorem lst_sg (vs : List V) : V.lst (vs.map (sg σ)) = sg σ (.lst vs) := congrArg V.lst (sgs_eq vs).symm
theorem tup_sg (vs : List V) : V.tup (vs.map (sg σ)) = sg σ (.tup vs) := congrArg V.tup (sgs_eq vs).symm
theorem lst_app (xs ys : List V) : sg σ (.lst (xs ++ ys)) = .lst (xs.map (sg σ) ++ ys.map (sg σ)) := by rw [← lst_sg, List.map_append]
theorem addL_to (a b : V) : To (sg σ) (addL H a b) (addL (sgH σ H) (sg σ a) (sg σ b)) :=
  .bind (view_to a) fun xs => .bind (view_to b) fun ys => .ite len_map2 (.some (lst_app xs ys))
theorem addV_to {a : V} (b : V) (h : a.noTxt = true) : To (sg σ) (addV H a b) (addV (sgH σ H) (sg σ a) (sg σ b)) := by
  cases a with
  | int i => exact int2_to _ (.int i) b
  | str => cases h
  | lst xs => exact addL_to (.lst xs) b
  | ref i => exact addL_to (.ref i) b
  | _ => exact .none
theorem binop_to (o : Bop) {a : V} (b : V) (h : a.noTxt = true) : To (sg σ) (binop o a b H) (binop o (sg σ a) (sg σ b) (sgH σ H)) := by
  cases o with
  | add => exact addV_to b h
  | _ => exact int2_to _ a b

theorem ins_to (o : O) : To (σ.b + ·) o.ins (sgO σ o).ins := by
  cases o with
  | inst c d => exact .ite id (.some rfl)
  | _ => exact .none
theorem nms_to (o : O) : To (fun q => (q.1, q.2.map (sg σ))) o.nms (sgO σ o).nms := by cases o <;> first | exact .none | exact .some rfl
noncomputable def sgI (σ : Sg) (q : Nat × (List (List Char) × List V)) : Nat × (List (List Char) × List V) := (σ.b + q.1, (q.2.1, q.2.2.map (sg σ)))
theorem insOf_to (v : V) : To (sgI σ) (insOf H v) (insOf (sgH σ H) (sg σ v)) :=
  .bind (at_to v) fun i => .bind (.bind (get_to i) ins_to) fun d => .map (.bind (get_to d) nms_to) fun _ => rfl

theorem dget_to {κ : List Char → List Char} {k : List Char} {ks : List (List Char)} {vs : List V} (h : ∀ k' ∈ ks, κ k = κ k' ↔ k = k') : To (sg σ) (dget k ks vs) (dget (κ k) (ks.map κ) (vs.map (sg σ))) := by
  induction ks generalizing vs with
  | nil => exact .none
  | cons k' ks ih =>
    cases vs with
    | nil => exact .none
    | cons v vs =>
      show To (sg σ) (if k = k' then some v else dget k ks vs) (if κ k = κ k' then some (sg σ v) else dget (κ k) (ks.map κ) (vs.map (sg σ)))
      by_cases e : k = k'
      · rw [if_pos e, if_pos (congrArg κ e)]; exact .some rfl
      · rw [if_neg e, if_neg (fun e' => e ((h k' (.head _)).mp e'))]; exact ih fun k' hk => h k' (.tail _ hk)
theorem dput_sg {κ : List Char → List Char} {k : List Char} {ks : List (List Char)} {x : V} {vs : List V} (h : ∀ k' ∈ ks, κ k = κ k' ↔ k = k') : dput (κ k) (sg σ x) (ks.map κ) (vs.map (sg σ)) = ((dput k x ks vs).1.map κ, (dput k x ks vs).2.map (sg σ)) := by
  induction ks generalizing vs with
  | nil => rfl
  | cons k' ks ih =>
    cases vs with
    | nil => rfl
    | cons v vs =>
      have i := ih (vs := vs) fun k' hk => h k' (.tail _ hk)
      show (if κ k = κ k' then (κ k' :: ks.map κ, sg σ x :: vs.map (sg σ)) else (κ k' :: (dput (κ k) (sg σ x) (ks.map κ) (vs.map (sg σ))).1, sg σ v :: (dput (κ k) (sg σ x) (ks.map κ) (vs.map (sg σ))).2)) = ((if k = k' then (k' :: ks, x :: vs) else (k' :: (dput k x ks vs).1, v :: (dput k x ks vs).2)).1.map κ, (if k = k' then (k' :: ks, x :: vs) else (k' :: (dput k x ks vs).1, v :: (dput k x ks vs).2)).2.map (sg σ))
      by_cases e : k = k'
      · rw [if_pos e, if_pos (congrArg κ e)]; rfl
      · rw [if_neg e, if_neg (fun e' => e ((h k' (.head _)).mp e')), i]; rfl
theorem ddel_sg {κ : List Char → List Char} {k : List Char} {ks : List (List Char)} {vs : List V} (h : ∀ k' ∈ ks, κ k = κ k' ↔ k = k') : ddel (κ k) (ks.map κ) (vs.map (sg σ)) = ((ddel k ks vs).1.map κ, (ddel k ks vs).2.map (sg σ)) := by
  induction ks generalizing vs with
  | nil => rfl
  | cons k' ks ih =>
    cases vs with
    | nil => rfl
    | cons v vs =>
      have i := ih (vs := vs) fun k' hk => h k' (.tail _ hk)
      show (if κ k = κ k' then (ks.map κ, vs.map (sg σ)) else (κ k' :: (ddel (κ k) (ks.map κ) (vs.map (sg σ))).1, sg σ v :: (ddel (κ k) (ks.map κ) (vs.map (sg σ))).2)) = ((if k = k' then (ks, vs) else (k' :: (ddel k ks vs).1, v :: (ddel k ks vs).2)).1.map κ, (if k = k' then (ks, vs) else (k' :: (ddel k ks vs).1, v :: (ddel k ks vs).2)).2.map (sg σ))
      by_cases e : k = k'
      · rw [if_pos e, if_pos (congrArg κ e)]
      · rw [if_neg e, if_neg (fun e' => e ((h k' (.head _)).mp e')), i]; rfl
theorem okKey_is {k : List Char} {ks : List (List Char)} (h : okKey k ks = true) : ∀ k' ∈ ks, sgK σ k = sgK σ k' ↔ k = k' := fun k' hk =>
  key_eq (Bool.and_eq_true_iff.mp h).1 (List.all_eq_true.mp (Bool.and_eq_true_iff.mp h).2 k' hk)
theorem has_sg {k : List Char} {ks : List (List Char)} (h : ∀ k' ∈ ks, sgK σ k = sgK σ k' ↔ k = k') : (ks.map (sgK σ)).contains (sgK σ k) = ks.contains k := by
  induction ks with
  | nil => rfl
  | cons k' ks ih =>
    rw [List.map_cons, List.contains_cons, List.contains_cons, ih fun k' hk => h k' (.tail _ hk)]
    exact congrArg (· || _) (Bool.eq_iff_iff.mpr ⟨fun e => beq_iff_eq.mpr ((h k' (.head _)).mp (beq_iff_eq.mp e)), fun e => beq_iff_eq.mpr ((h k' (.head _)).mpr (beq_iff_eq.mp e))⟩)
theorem gKey_is {v w : V} {d : List (List Char) × List V} {k : List Char} (h : gKey H v w = true) (hd : dview H v = some d) (hk : w.txt = some k) : ∀ k' ∈ d.1, sgK σ k = sgK σ k' ↔ k = k' := by
  unfold gKey at h
  rw [hd, hk] at h
  exact okKey_is h

theorem any_sg {x : V} {vs : List V} (hx : x.data = true) (hv : V.datas vs = true) (h : (vs.all fun y => okEq y x) = true) : ((vs.map (sg σ)).any fun y => eqV y (sg σ x)) = vs.any fun y => eqV y x := by
  induction vs with
  | nil => rfl
  | cons v vs ih =>
    obtain ⟨h1, h2⟩ := Bool.and_eq_true_iff.mp h
    try clear h
    obtain ⟨h3, h4⟩ := Bool.and_eq_true_iff.mp hv
    try clear hv
    rw [List.map_cons, List.any_cons, List.any_cons, eqV_sg v x h3 hx h1, ih h4 h2]
theorem idx_sg {x : V} {vs : List V} (hx : x.data = true) (hv : V.datas vs = true) (h : (vs.all fun y => okEq y x) = true) : ((vs.map (sg σ)).findIdx? fun y => eqV y (sg σ x)) = vs.findIdx? fun y => eqV y x := by
  induction vs with
  | nil => rfl
  | cons v vs ih =>
    obtain ⟨h1, h2⟩ := Bool.and_eq_true_iff.mp h
    try clear h
    obtain ⟨h3, h4⟩ := Bool.and_eq_true_iff.mp hv
    try clear hv
    rw [List.map_cons, List.findIdx?_cons, List.findIdx?_cons, eqV_sg v x h3 hx h1, ih h4 h2]
theorem gL_is {x x' : V} {vs : List V} (g : gL H x vs = true) (h : rd H x = some x') : (vs.all fun y => okEq y x') = true := by
  unfold gL at g
  rw [h] at g
  exact g
theorem inL_to {x : V} {vs : List V} (g : gL H x vs = true) : To id (inL H x vs) (inL (sgH σ H) (sg σ x) (vs.map (sg σ))) :=
  .bind' (rd_to x) fun x' hx c e => by
    obtain ⟨h1, h2⟩ := ite_is e
    rw [if_pos (okD_sg h1), any_sg (rd_data hx) (okD_is h1).1 (gL_is g hx), h2]
    rfl
theorem inD_to {x c : V} (g : gKey H c x = true) : To id (inD H x c) (inD (sgH σ H) (sg σ x) (sg σ c)) :=
  .bind' (dview_to c) fun _ hd => .map' (txt_to x) fun _ hk => has_sg (gKey_is g hd hk)
theorem inO_to {x c : V} (g : ((view H c).all (gL H x) && gKey H c x) = true) (hc : view H c = none → (dview H c).isSome = true → view (sgH σ H) (sg σ c) = none) : To id (inO H x c (view H c)) (inO (sgH σ H) (sg σ x) (sg σ c) (view (sgH σ H) (sg σ c))) := by
  obtain ⟨g1, g2⟩ := Bool.and_eq_true_iff.mp g
  try clear g
  intro b e
  cases hv : view H c with
  | some vs =>
    rw [hv] at e g1
    rw [view_to c vs hv]
    exact inL_to g1 b e
  | none =>
    rw [hv] at e
    have e : inD H x c = some b := e
    have hs : (dview H c).isSome = true := by
      refine ea1_2 (bind_is e) ?_
      intro d h1 _
      try clear e
      rw [h1]; rfl
    rw [hc hv hs]
    exact inD_to g2 b e
theorem noview {c : V} (hv : view H c = none) (hd : (dview H c).isSome = true) : view (sgH σ H) (sg σ c) = none := by
  replace hd := Option.isSome_iff_exists.mp hd
  obtain ⟨d, hd⟩ := hd
  try clear d; try clear hv
  cases dview_is hd with
  | dct => rfl
  | ref h =>
    have := dview_to (σ := σ) _ _ hd
    try clear hd
    cases dview_is this with
    | ref h' => show Option.bind _ _ = none; rw [h']; rfl
theorem inV_to {x c : V} (g : gIn H x c = true) : To id (inV H x c) (inV (sgH σ H) (sg σ x) (sg σ c)) := by
  cases c with
  | str => cases g
  | tup vs =>
    show To id _ (inL _ _ (sgs σ vs))
    rw [sgs_eq]; exact inL_to g
  | lst vs => exact inO_to (c := .lst vs) g noview
  | dct ks vs => exact inO_to (c := .dct ks vs) g noview
  | ref i => exact inO_to (c := .ref i) g noview
  | _ => exact .none
theorem eqO_to {a b : V} (g : ((rd H a).all fun x => (rd H b).all fun y => okEq x y) = true) : To id (eqO H a b) (eqO (sgH σ H) (sg σ a) (sg σ b)) :=
  .bind' (rd_to a) fun x hx => .map' (rd_to b) fun y hy => by
    rw [hx] at g
    have g : ((rd H b).all fun y => okEq x y) = true := g
    rw [hy] at g
    exact eqV_sg x y (rd_data hx) (rd_data hy) g
theorem cmpI_to (f : Int → Int → Bool) (a b : V) : To id (cmpI f a b) (cmpI f (sg σ a) (sg σ b)) := by
  try clear f
  cases a with
  | int i =>
    try clear a
    cases b with
    | int j => exact .some rfl
    | _ => exact .none
  | _ => exact .none
theorem live_sg {i : Nat} (h : live H i = true) : live (sgH σ H) (σ.b + i) = true := by
  unfold live at h ⊢
  cases ho : H[i]? with
  | none => rw [ho] at h; cases h
  | some o =>
    rw [ho] at h
    rw [get_to i o ho]
    cases o <;> first | rfl | cases h
theorem isV_to (a b : V) : To id (isV H a b) (isV (sgH σ H) (sg σ a) (sg σ b)) := by
  cases b with
  | none =>
    try clear b
    cases a with
    | ref i => exact .ite live_sg (.some rfl)
    | rng | exc => exact .none
    | _ => exact .some rfl
  | _ => exact .none
theorem cmpop_to {o : Cop} {a b : V} (g : gCop o a b H = true) : To id (cmpop o a b H) (cmpop o (sg σ a) (sg σ b) (sgH σ H)) := by
  cases o with
  | eq => exact eqO_to g
  | ne => exact .map (eqO_to g) fun _ => rfl
  | is => exact isV_to a b
  | isnot => exact .map (isV_to a b) fun _ => rfl
  | in_ => exact inV_to g
  | notin => exact .map (inV_to g) fun _ => rfl
  | _ => exact cmpI_to _ a b

theorem on1 {α β : Type} {f : α → β} {p : List V → Option α} {p' : List V → Option β} (h0 : p [] = none) (h2 : ∀ a b t, p (a :: b :: t) = none) (h : ∀ a, To f (p [a]) (p' [sg σ a])) : ∀ vs, To f (p vs) (p' (vs.map (sg σ)))
  | [] => h0 ▸ .none
  | [a] => h a
  | a :: b :: t => h2 a b t ▸ .none
theorem on2 {α β : Type} {f : α → β} {p : List V → Option α} {p' : List V → Option β} (h0 : p [] = none) (h1 : ∀ a, p [a] = none) (h3 : ∀ a b c t, p (a :: b :: c :: t) = none) (h : ∀ a b, To f (p [a, b]) (p' [sg σ a, sg σ b])) : ∀ vs, To f (p vs) (p' (vs.map (sg σ)))
  | [] => h0 ▸ .none
  | [a] => h1 a ▸ .none
  | [a, b] => h a b
  | a :: b :: c :: t => h3 a b c t ▸ .none
abbrev PTo (σ : Sg) (H : AH) (p : List V → AH → Option (V × AH)) (vs : List V) : Prop := To (sgR σ) (p vs H) (p (vs.map (sg σ)) (sgH σ H))
theorem c_bop {o : Bop} : ∀ {vs : List V}, vs.head?.all V.noTxt = true → PTo σ H (pBop o) vs
  | [], _ => .none
  | [_], _ => .none
  | [_, b], g => .map (binop_to o b g) fun _ => rfl
  | _ :: _ :: _ :: _, _ => .none
theorem c_not (vs : List V) : PTo σ H pNot vs := on1 (p := (pNot · H)) (p' := (pNot · (sgH σ H))) rfl (fun _ _ _ => rfl) (fun a => .map (truth_to a) fun _ => rfl) vs
theorem c_neg (vs : List V) : PTo σ H pNeg vs := on1 (p := (pNeg · H)) (p' := (pNeg · (sgH σ H))) rfl (fun _ _ _ => rfl) (fun a => .map (num_to a) fun _ => rfl) vs
theorem len_to {v : V} (g : v.noTxt = true) : To id (lenV H v) (lenV (sgH σ H) (sg σ v)) := by
  have F : ∀ c : V, To id (lenO ((dview H c).map fun d => d.1.length) (view H c)) (lenO ((dview (sgH σ H) (sg σ c)).map fun d => d.1.length) (view (sgH σ H) (sg σ c))) := fun c n e => by
    try clear g
    cases hv : view H c with
    | some vs => rw [hv] at e; rw [view_to c vs hv]; exact (congrArg some (List.length_map ..)).trans e
    | none =>
      rw [hv] at e
      refine ea1_2 (map_is e) ?_
      intro d h1 h2
      rw [noview hv (by rw [h1]; rfl), dview_to c d h1]
      exact (congrArg some (List.length_map ..)).trans (congrArg some h2)
  cases v with
  | str => cases g
  | tup vs => exact .some (by show _ = (sgs σ vs).length; rw [sgs_eq, List.length_map]; rfl)
  | lst vs => exact F (.lst vs)
  | dct ks vs => exact F (.dct ks vs)
  | ref i => exact F (.ref i)
  | _ => exact .none
theorem c_len : ∀ {vs : List V}, vs.head?.all V.noTxt = true → PTo σ H pLen vs
  | [], _ => .none
  | [_], g => .map (len_to g) fun _ => rfl
  | _ :: _ :: _, _ => .none
theorem isTy_to (t : Ty) (o : O) : To id (o.isTy t) ((sgO σ o).isTy t) := by cases o <;> first | exact .none | exact .some rfl
theorem isinst_to (t : Ty) (v : V) : To id (isinst H v t) (isinst (sgH σ H) (sg σ v) t) := by
  cases v with
  | ref i => exact .bind (get_to i) (isTy_to t)
  | rng | exc => exact .none
  | _ => exact .some rfl
theorem c_isinst (t : Ty) (vs : List V) : PTo σ H (pIsinst t) vs := on1 (p := (pIsinst t · H)) (p' := (pIsinst t · (sgH σ H))) rfl (fun _ _ _ => rfl) (fun a => .map (isinst_to t a) fun _ => rfl) vs
theorem low_sg {k : Nat} (g : (V.exc k).low = true) : sg σ (.exc k) = .exc k := if_pos (Nat.blt_eq.mp g)
theorem kind_to {v : V} (g : v.low = true) : To id v.kind (sg σ v).kind := by
  cases v with
  | exc k => rw [low_sg g]; exact .some rfl
  | _ => exact .none
theorem c_isX {P : Prog} {j : Option Nat} : ∀ {vs : List V}, vs.head?.all V.low = true → PTo σ H (pIsX P j) vs
  | [], _ => .none
  | [_], g => .bind (kind_to g) fun _ => .ite id (.some rfl)
  | _ :: _ :: _, _ => .none
theorem c_range1 (vs : List V) : PTo σ H pRange1 vs := on1 (p := (pRange1 · H)) (p' := (pRange1 · (sgH σ H))) rfl (fun _ _ _ => rfl) (fun a => .bind (num_to a) fun _ => .ite id (.some rfl)) vs
theorem c_range2 (vs : List V) : PTo σ H pRange2 vs := on2 (p := (pRange2 · H)) (p' := (pRange2 · (sgH σ H))) rfl (fun _ => rfl) (fun _ _ _ _ => rfl) (fun a b => .bind (num_to a) fun _ => .bind (num_to b) fun _ => .ite id (.some rfl)) vs
theorem rngL_sg (a b : Int) : (rngL a b).map (sg σ) = rngL a b := by
  unfold rngL
  rw [List.map_map]
  rfl
theorem listV_to (v : V) : To (sg σ) (listV H v) (listV (sgH σ H) (sg σ v)) := by
  have F : ∀ c : V, To (sg σ) ((view H c).bind fun vs => if vs.length ≤ sizeOf' then some (V.lst vs) else none) ((view (sgH σ H) (sg σ c)).bind fun vs => if vs.length ≤ sizeOf' then some (V.lst vs) else none) := fun c =>
    .bind (view_to c) fun vs => .ite len_map (.some (lst_sg vs).symm)
  cases v with
  | rng a b => exact .ite id (.some (by rw [← lst_sg, rngL_sg]))
  | tup vs => exact .ite (by rw [sgs_eq]; exact len_map) (.some rfl)
  | lst vs => exact F (.lst vs)
  | ref i => exact F (.ref i)
  | _ => exact .none
theorem c_list (vs : List V) : PTo σ H pList vs := on1 (p := (pList · H)) (p' := (pList · (sgH σ H))) rfl (fun _ _ _ => rfl) (fun a => .map (listV_to a) fun _ => rfl) vs
theorem at_map {vs : List V} (j : Nat) : To (sg σ) vs[j]? (vs.map (sg σ))[j]? := fun a h => by rw [List.getElem?_map, h]; rfl
theorem idx_map {vs : List V} (i : Int) : To (sg σ) ((idx vs.length i).bind fun j => vs[j]?) ((idx (vs.map (sg σ)).length i).bind fun j => (vs.map (sg σ))[j]?) := by
  rw [List.length_map]
  exact .bind (f := id) (fun _ h => h) fun j => at_map j
theorem item_to {v i : V} (g : gItem H v i = true) : To (sg σ) (itemV H v i) (itemV (sgH σ H) (sg σ v) (sg σ i)) := by
  cases i with
  | int n =>
    have F : ∀ c : V, To (sg σ) ((view H c).bind fun vs => (idx vs.length n).bind fun j => vs[j]?) ((view (sgH σ H) (sg σ c)).bind fun vs => (idx vs.length n).bind fun j => vs[j]?) := fun c =>
      .bind (view_to c) fun vs => idx_map n
    cases v with
    | str => cases g
    | tup vs =>
      show To (sg σ) _ ((idx (sgs σ vs).length n).bind fun j => (sgs σ vs)[j]?)
      rw [sgs_eq]; exact idx_map n
    | lst vs => exact F (.lst vs)
    | ref i => exact F (.ref i)
    | _ => exact .none
  | str k => exact .bind' (dview_to v) fun d hd => dget_to (gKey_is g hd rfl)
  | _ => exact .none
theorem c_item {v i : V} (g : gItem H v i = true) : PTo σ H pItem [v, i] := .map (item_to g) fun _ => rfl
theorem sliceL_map (vs : List V) (a b : Nat) : sliceL (vs.map (sg σ)) a b = (sliceL vs a b).map (sg σ) := by
  unfold sliceL
  rw [← List.map_take, ← List.map_drop]
theorem slice_to {v : V} (lo hi : Option Int) (g : v.noTxt = true) : To (sg σ) (sliceV H v lo hi) (sliceV (sgH σ H) (sg σ v) lo hi) := by
  have F : ∀ c : V, To (sg σ) ((view H c).bind fun s => if s.length ≤ sizeOf' then some (V.lst (sliceL s (loN s.length lo) (hiN s.length hi))) else none) ((view (sgH σ H) (sg σ c)).bind fun s => if s.length ≤ sizeOf' then some (V.lst (sliceL s (loN s.length lo) (hiN s.length hi))) else none) := fun c =>
    .bind (view_to c) fun vs => .ite len_map (.some (by rw [List.length_map, sliceL_map, lst_sg]))
  try clear lo; try clear hi
  cases v with
  | str => cases g
  | lst vs => exact F (.lst vs)
  | ref i => exact F (.ref i)
  | _ => exact .none
theorem c_slice : ∀ {vs : List V}, vs.head?.all V.noTxt = true → PTo σ H pSlice vs
  | [], _ => .none
  | [_], _ => .none
  | [_, _], _ => .none
  | [_, a, b], g => .bind (part_to a) fun _ => .bind (part_to b) fun _ => .map (slice_to _ _ g) fun _ => rfl
  | _ :: _ :: _ :: _ :: _, _ => .none
theorem c_mkdict {ks : List (List Char)} {vs : List V} (g : ks.isEmpty = true) : PTo σ H (pMkdict ks) vs := by
  cases ks with
  | nil => exact .ite (by rw [List.length_map]; exact id) (.some (by show (V.dct [] _, _) = _; rw [← sgs_eq]))
  | cons => cases g
theorem c_mkdict1 (vs : List V) : PTo σ H pMkdict1 vs := on2 (p := (pMkdict1 · H)) (p' := (pMkdict1 · (sgH σ H))) rfl (fun _ => rfl) (fun _ _ _ _ => rfl) (fun k v => .map (txt_to k) fun _ => rfl) vs
noncomputable def sgP (σ : Sg) (p : Nat × List V) : Nat × List V := (σ.b + p.1, p.2.map (sg σ))
theorem heapL_to (v : V) : To (sgP σ) (heapL H v) (heapL (sgH σ H) (sg σ v)) :=
  .bind (at_to v) fun i => .bind (.bind (get_to i) lst_to) fun _ => .some rfl
theorem set_lst (i : Nat) (vs ws : List V) (h : ws = vs.map (sg σ)) : (sgH σ H).set (σ.b + i) (.list ws) = sgH σ (H.set i (.list vs)) := h ▸ set_sg i (.list vs)
theorem c_append (vs : List V) : PTo σ H pAppend vs := on2 (p := (pAppend · H)) (p' := (pAppend · (sgH σ H))) rfl (fun _ => rfl) (fun _ _ _ _ => rfl)
  (fun v x => .bind (heapL_to v) fun p => .ite len_map (.some (congrArg (V.none, ·) (set_lst p.1 _ _ (by rw [List.map_append]; rfl)).symm))) vs
theorem c_pop (vs : List V) : PTo σ H pPop vs := on1 (p := (pPop · H)) (p' := (pPop · (sgH σ H))) rfl (fun _ _ _ => rfl)
  (fun v => .bind (heapL_to v) fun p => .ite len_map (.map (f := sg σ) (fun x h => by show (p.2.map (sg σ)).getLast? = _; rw [List.getLast?_map, h]; rfl) fun x => congrArg (sg σ x, ·) (set_lst p.1 _ _ (List.map_dropLast ..).symm))) vs
theorem c_pop0 (vs : List V) : PTo σ H pPop0 vs := on2 (p := (pPop0 · H)) (p' := (pPop0 · (sgH σ H))) rfl (fun _ => rfl) (fun _ _ _ _ => rfl)
  (fun v w => .bind (heapL_to v) fun p => .bind (num_to w) fun n => .ite (fun h => ⟨h.1, len_map h.2⟩) (.map (f := sg σ) (fun x h => by show (p.2.map (sg σ)).head? = _; rw [List.head?_map, h]; rfl) fun x => congrArg (sg σ x, ·) (set_lst p.1 _ _ (List.map_tail ..).symm))) vs
theorem c_extend (vs : List V) : PTo σ H pExtend vs := on2 (p := (pExtend · H)) (p' := (pExtend · (sgH σ H))) rfl (fun _ => rfl) (fun _ _ _ _ => rfl)
  (fun v w => .bind (heapL_to v) fun p => .bind (view_to w) fun ys => .ite len_map2 (.some (congrArg (V.none, ·) (set_lst p.1 _ _ (List.map_append ..).symm).symm))) vs
theorem c_index {v x : V} (g : v.tpl.all (gL H x) = true) : PTo σ H pIndex [v, x] :=
  .bind' (tpl_to v) fun vs hv => .bind' (rd_to x) fun x' hx c e => by
    rw [hv] at g
    obtain ⟨h1, h2⟩ := ite_some e
    refine ea1_2 (map_is h2) ?_
    intro k h3 h4
    rw [if_pos (okD_sg h1), idx_sg (rd_data hx) (okD_is h1).1 (gL_is g hx), h3, ← h4]
    rfl
noncomputable def sgD (σ : Sg) (p : Nat × (List (List Char) × List V)) : Nat × (List (List Char) × List V) := (σ.b + p.1, (p.2.1.map (sgK σ), p.2.2.map (sg σ)))
theorem heapD_to (v : V) : To (sgD σ) (heapD H v) (heapD (sgH σ H) (sg σ v)) :=
  .bind (at_to v) fun i => .bind (.bind (get_to i) dct_to) fun _ => .some rfl
theorem heapD_view {v : V} {p : Nat × (List (List Char) × List V)} (h : heapD H v = some p) : dview H v = some p.2 := by
  replace h := bind_is h
  refine ea1_2 h ?_
  try clear h
  intro i h1 h
  replace h := bind_is h
  refine ea1_2 h ?_
  try clear h
  intro d h2 h
  try clear d; try clear i
  cases h
  try clear h
  replace h1 := V.at_is h1
  cases h1
  exact h2
theorem set_dct (i : Nat) {ks ks' : List (List Char)} {vs vs' : List V} (h : (ks', vs') = (ks.map (sgK σ), vs.map (sg σ))) : (sgH σ H).set (σ.b + i) (.dict ks' vs') = sgH σ (H.set i (.dict ks vs)) := by
  cases h
  exact set_sg i (.dict ks vs)
theorem klen {ks : List (List Char)} {n : Nat} (h : ks.length ≤ n) : (ks.map (sgK σ)).length ≤ n := by rw [List.length_map]; exact h
theorem c_dpop {v w : V} (g : gKey H v w = true) : PTo σ H pDpop [v, w] :=
  .bind' (heapD_to v) fun p hp => .bind' (txt_to w) fun k hk => .ite klen
    (.map (dget_to (gKey_is g (heapD_view hp) hk)) fun x => congrArg (sg σ x, ·) (set_dct p.1 (ddel_sg (gKey_is g (heapD_view hp) hk))))
theorem alive_sg {v : V} (h : aliveV H v = true) : aliveV (sgH σ H) (sg σ v) = true := by
  cases v with
  | ref i =>
    have h : (H[i]?).any O.alive = true := h
    show ((sgH σ H)[σ.b + i]?).any O.alive = true
    cases ho : H[i]? with
    | none => rw [ho] at h; cases h
    | some o => rw [ho] at h; rw [get_to i o ho]; cases o <;> first | rfl | cases h
  | exc k =>
    unfold aliveV
    by_cases hk : k < 100
    · rw [show sg σ (.exc k) = .exc k from if_pos hk]; rfl
    · rw [show sg σ (.exc k) = σ.op k from if_neg hk, σ.hop]; rfl
  | _ => rfl
theorem ns_to {k : List Char} {ks : List (List Char)} {vs : List V} : To (sg σ) (dget k ks vs) (dget k ks (vs.map (sg σ))) := by
  have := dget_to (σ := σ) (κ := id) (k := k) (ks := ks) (vs := vs) fun _ _ => Iff.rfl
  rw [List.map_id] at this
  exact this
theorem c_attr (n : List Char) (vs : List V) : PTo σ H (pAttr n) vs := on1 (p := (pAttr n · H)) (p' := (pAttr n · (sgH σ H))) rfl (fun _ _ _ => rfl)
  (fun v => .bind (insOf_to v) fun q => .bind ns_to fun r => .ite alive_sg (.some rfl)) vs
theorem prim_to {P : Prog} {p : Prim} {vs : List V} (g : gP p vs H = true) : PTo σ H (prim P p) vs := by
  cases p with
  | bop o => exact c_bop g
  | cop o =>
    match vs, g with
    | [a, b], g => exact .map (cmpop_to g) fun _ => rfl
  | not => exact c_not vs
  | neg => exact c_neg vs
  | len => exact c_len g
  | isinst t => exact c_isinst t vs
  | isX j => exact c_isX g
  | range1 => exact c_range1 vs
  | range2 => exact c_range2 vs
  | list => exact c_list vs
  | item =>
    match vs, g with
    | [a, b], g => exact c_item g
  | slice => exact c_slice g
  | mklist => exact .ite len_map (.some (congrArg (·, _) (lst_sg vs).symm))
  | mktup => exact .ite len_map (.some (congrArg (·, _) (tup_sg vs).symm))
  | mkdict ks => exact c_mkdict g
  | mkdict1 => exact c_mkdict1 vs
  | append => exact c_append vs
  | pop => exact c_pop vs
  | pop0 => exact c_pop0 vs
  | extend => exact c_extend vs
  | index =>
    match vs, g with
    | [a, b], g => exact c_index g
  | dpop =>
    match vs, g with
    | [a, b], g => exact c_dpop g
  | attr n => exact c_attr n vs
  | _ => cases g
theorem thaw_to (r : V × AH) : To (sgR σ) (thaw r.1 r.2) (thaw (sgR σ r).1 (sgR σ r).2) := by
  obtain ⟨v, H⟩ := r
  try clear r
  cases v with
  | lst vs => exact .some (by show (V.ref (σ.b + H.length), sgH σ (H ++ [.list vs])) = (V.ref (sgH σ H).length, sgH σ H ++ [.list (sgs σ vs)]); rw [len_sg, ← app_sg, sgs_eq]; rfl)
  | dct ks vs => exact .some (by show (V.ref (σ.b + H.length), sgH σ (H ++ [.dict ks vs])) = (V.ref (sgH σ H).length, sgH σ H ++ [.dict (ks.map (sgK σ)) (sgs σ vs)]); rw [len_sg, ← app_sg, sgs_eq]; rfl)
  | _ => exact .none
theorem primQ_to {P : Prog} {mu : Bool} {p : Prim} {vs : List V} (g : gP p vs H = true) : PTo σ H (primQ P mu p) vs := by
  unfold PTo primQ
  cases (p.loud && P.q) with
  | true => exact .none
  | false =>
    show To (sgR σ) (primM P mu p vs H) (primM P mu p (vs.map (sg σ)) (sgH σ H))
    cases mu with
    | false => exact prim_to g
    | true => exact .ite id (.bind (prim_to g) thaw_to)
end
end Mine

end
noncomputable section
namespace Mine
open PySem

noncomputable def HitE {α : Type} (r : Rn α) (Q : α → AH → Prop) (X : Nat → AH → Prop) : Prop := match r with
  | some (.val a H) => Q a H
  | some (.exc c H) => X c H
  | none => False
noncomputable def HitS (r : Option OutS) (K : KS) (R : QE) (X : XS) : Prop := match r with
  | some (.nxt ρ H) => K ρ H
  | some (.ret v H) => R v H
  | some (.exc ρ c H) => X ρ c H
  | none => False
section
variable {α β : Type} {r : Rn α} {Q Q' : α → AH → Prop} {X X' : Nat → AH → Prop}
theorem hit_bind {k : α → AH → Rn β} {Q : β → AH → Prop} (h : HitE (r.bind k) Q X) : HitE r (fun a H => HitE (k a H) Q X) X :=
  match r, h with
  | some (.val _ _), h => h
  | some (.exc _ _), h => h
theorem hit_bindS {ρ : Fm} {k : α → AH → Option OutS} {K : KS} {R : QE} {X : XS} (h : HitS (r.bindS ρ k) K R X) : HitE r (fun a H => HitS (k a H) K R X) (X ρ) :=
  match r, h with
  | some (.val _ _), h => h
  | some (.exc _ _), h => h
theorem HitE.imp (h : HitE r Q X) (hQ : ∀ a H, Q a H → Q' a H) (hX : ∀ c H, X c H → X' c H) : HitE r Q' X' :=
  match r, h with
  | some (.val _ _), h => hQ _ _ h
  | some (.exc _ _), h => hX _ _ h
theorem HitE.to (h : HitE r Q X) (hQ : ∀ a H, Q a H → Q' a H) : HitE r Q' X := h.imp hQ fun _ _ => id
theorem hit_seq {s : Option OutS} {k : Fm → AH → Option OutS} {K : KS} {R : QE} {X : XS} (h : HitS (seqR s k) K R X) : HitS s (fun ρ H => HitS (k ρ H) K R X) R X :=
  match s, h with
  | some (.nxt _ _), h => h
  | some (.ret _ _), h => h
  | some (.exc _ _ _), h => h
theorem HitS.imp {s : Option OutS} {K K' : KS} {R R' : QE} {X X' : XS} (h : HitS s K R X) (hK : ∀ ρ H, K ρ H → K' ρ H) (hR : ∀ v H, R v H → R' v H) (hX : ∀ ρ c H, X ρ c H → X' ρ c H) : HitS s K' R' X' :=
  match s, h with
  | some (.nxt _ _), h => hK _ _ h
  | some (.ret _ _), h => hR _ _ h
  | some (.exc _ _ _), h => hX _ _ _ h
end

/-- what a run says of the real values -/
abbrev OnE (σ : Sg) (Q : QE) : QE := fun v H => Q (sg σ v) (sgH σ H)
abbrev OnX (σ : Sg) (X : XE) : XE := fun c H => X c (sgH σ H)
abbrev OnK (σ : Sg) (K : KS) : KS := fun ρ H => K (sgF σ ρ) (sgH σ H)
abbrev OnS (σ : Sg) (X : XS) : XS := fun ρ c H => X (sgF σ ρ) c (sgH σ H)

structure Snd (σ : Sg) (P : Prog) (m : Nat) (U : Ru) : Prop where
  e : ∀ {q : Bool} {e : Ex} {ρ : Fm} {H : AH} {Q : QE} {X : XE}, HitE (U.e q e ρ H) (OnE σ Q) (OnX σ X) → wpE (P.at q) (callF P m) e (sgF σ ρ) (sgH σ H) Q X
  es : ∀ {q : Bool} {es : List Ex} {ρ : Fm} {H : AH} {Q : List V → AH → Prop} {X : XE}, HitE (U.es q es ρ H) (fun vs H => Q (vs.map (sg σ)) (sgH σ H)) (OnX σ X) → wpEs (P.at q) (callF P m) es (sgF σ ρ) (sgH σ H) Q X
  ss : ∀ {q : Bool} {ss : List St} {ρ : Fm} {H : AH} {K : KS} {R : QE} {X : XS}, HitS (U.ss q ss ρ H) (OnK σ K) (OnE σ R) (OnS σ X) → wpSs (P.at q) (callF P m) ss (sgF σ ρ) (sgH σ H) K R X
  c : ∀ {q : Bool} {f : Nat} {vs : List V} {H : AH} {Q : QE} {X : XE}, HitE (U.c q f vs H) (OnE σ Q) (OnX σ X) → callF P m q f (vs.map (sg σ)) (sgH σ H) Q X

section
variable {σ : Sg} {P : Prog} {m : Nat} {U : Ru} {q : Bool} {ρ : Fm} {H : AH} {Q : QE} {X : XE} {K : KS} {R : QE}
theorem okR_hit {r : Option (V × AH)} {r' : Option (V × AH)} (h : HitE (okR r) (OnE σ Q) (OnX σ X)) (t : To (sgR σ) r r') : okE r' Q := by
  cases r with
  | none => exact h.elim
  | some p => rw [t p rfl]; exact h
theorem primR_hit {mu : Bool} {p : Prim} {vs : List V} (h : HitE (primR P mu p vs H) (OnE σ Q) (OnX σ X)) : okE (primQ P mu p (vs.map (sg σ)) (sgH σ H)) Q := by
  unfold primR at h
  by_cases g : gP p vs H = true
  · rw [if_pos g] at h; exact okR_hit h (primQ_to g)
  · rw [if_neg g] at h; exact h.elim
theorem tst_hit {v : V} {a b : Unit → Rn V} {K : Bool → Prop} (h : HitE (tst v a b) (OnE σ Q) (OnX σ X)) (ha : HitE (a ()) (OnE σ Q) (OnX σ X) → K true) (hb : HitE (b ()) (OnE σ Q) (OnX σ X) → K false) : okB (truth (sg σ v)) K := by
  unfold tst at h
  cases ht : truth v with
  | none => rw [ht] at h; exact h.elim
  | some t =>
    rw [ht] at h
    rw [truth_to v t ht]
    cases t
    · exact hb h
    · exact ha h
theorem tstS_hit {v : V} {a b : Unit → Option OutS} {L : Bool → Prop} {Xs : XS} (h : HitS (tstS v a b) K R Xs) (ha : HitS (a ()) K R Xs → L true) (hb : HitS (b ()) K R Xs → L false) : okB (truth (sg σ v)) L := by
  unfold tstS at h
  cases ht : truth v with
  | none => rw [ht] at h; exact h.elim
  | some t =>
    rw [ht] at h
    rw [truth_to v t ht]
    cases t
    · exact hb h
    · exact ha h
theorem ite_hit {p : Prop} [Decidable p] {α : Type} {r : Rn α} {Q : α → AH → Prop} (h : HitE (if p then r else none) Q X) : p ∧ HitE r Q X := by
  by_cases g : p
  · rw [if_pos g] at h; exact ⟨g, h⟩
  · rw [if_neg g] at h; exact h.elim
theorem iteS_hit {p : Prop} [Decidable p] {r : Option OutS} {Xs : XS} (h : HitS (if p then r else none) K R Xs) : p ∧ HitS r K R Xs := by
  by_cases g : p
  · rw [if_pos g] at h; exact ⟨g, h⟩
  · rw [if_neg g] at h; exact h.elim
theorem niteS_hit {b : Bool} {r : Option OutS} {Xs : XS} (h : HitS (if b then none else r) K R Xs) : b = false ∧ HitS r K R Xs := by
  cases b with
  | true => exact h.elim
  | false => exact ⟨rfl, h⟩
theorem sgF_app (x : V) : sgF σ (ρ ++ [some x]) = sgF σ ρ ++ [some (sg σ x)] := List.map_append
theorem V.bol_is {v : V} {b : Bool} (h : v.bol = some b) : v = .bool b := by
  cases v with
  | bool t => exact congrArg _ (Option.some.inj h)
  | _ => cases h
theorem V.non_is {v : V} (h : v.non = true) : v = .none := by
  cases v with
  | none => rfl
  | _ => cases h
theorem any_is {α : Type} {o : Option α} {p : α → Bool} (h : o.any p = true) : ∃ a, o = some a ∧ p a = true := by
  cases o with
  | none => cases h
  | some a => exact ⟨a, rfl, h⟩
theorem same_is (a : V) : ∀ b, same a b = true → b = a := by
  induction a using V.rec (motive_2 := fun xs => ∀ ys, sames xs ys = true → ys = xs) with
  | none => exact fun _ h => V.non_is h
  | bool => exact fun _ h => V.bol_is (eq_of_beq h)
  | int => exact fun _ h => V.num_is (eq_of_beq h)
  | str => exact fun _ h => V.txt_is (eq_of_beq h)
  | ref => exact fun _ h => V.at_is (eq_of_beq h)
  | tup xs ih =>
    intro b h
    refine ea1_2 (any_is h) ?_
    intro ys h1 h2
    rw [V.tpl_is h1, ih ys h2]
  | nil => rename_i ys h; exact List.isEmpty_iff.mp h
  | cons x xs i1 i2 =>
    rename_i ys h
    obtain ⟨h1, h2⟩ := Bool.and_eq_true_iff.mp h
    refine ea1_2 (any_is h1) ?_
    intro y h1 h3
    cases ys with
    | nil => cases h1
    | cons z zs => cases h1; rw [i1 _ h3, show zs = xs from i2 _ h2]
  | _ => rintro _ ⟨⟩
theorem sames_is {xs ys : List V} (h : sames xs ys = true) : ys = xs := V.tup.inj (same_is (.tup xs) (.tup ys) h)
theorem srcQ_to {v : V} (g : v.noTxt = true) : To (List.map (sg σ)) (srcQ q H v) (srcQ q (sgH σ H) (sg σ v)) := by
  have E : ∀ {v : V}, To (List.map (sg σ)) (src H v) (src (sgH σ H) (sg σ v)) → (sg σ v).isRng = v.isRng → To (List.map (sg σ)) (srcQ q H v) (srcQ q (sgH σ H) (sg σ v)) := fun {v} h e => by
    unfold srcQ
    rw [e]
    by_cases hq : (!v.isRng && q) = true
    · rw [if_pos hq]; exact .none
    · rw [if_neg hq, if_neg hq]; exact h
  cases v with
  | str => cases g
  | tup vs => exact E (.some (sgs_eq vs).symm) rfl
  | rng a b => exact E (.some (rngL_sg a b)) rfl
  | lst vs => exact E (view_to (H := H) (.lst vs)) rfl
  | ref i => exact E (view_to (H := H) (.ref i)) rfl
  | exc k => cases q <;> exact .none
  | _ => exact E .none rfl
theorem src_to {rev : Bool} {v : V} (g : v.noTxt = true) : To (List.map (sg σ)) (srcD rev q H v) (srcD rev q (sgH σ H) (sg σ v)) := by
  cases rev with
  | false => exact srcQ_to g
  | true =>
    cases q with
    | true => exact .none
    | false =>
      cases v with
      | tup vs => exact .some (by rw [List.map_reverse, ← sgs_eq])
      | lst vs => exact .some (by rw [List.map_reverse, ← sgs_eq])
      | _ => exact .none
/-- a loop's items -/
inductive SrcIs (rev q : Bool) (H : AH) (v : V) (items : List V) : Prop
  | mk : v.noTxt = true → srcD rev q H v = some items → items.length ≤ sizeOf' → SrcIs rev q H v items
theorem srcR_is {rev : Bool} {v : V} {items : List V} (h : srcR rev q H v = some items) : SrcIs rev q H v items := by
  have F : ∀ {v : V}, v.noTxt = true → ((srcD rev q H v).bind fun items => if Nat.ble items.length sizeOf' = true then some items else none) = some items → SrcIs rev q H v items := fun g h => by
    refine ea1_2 (bind_is h) ?_
    intro xs h1 h2
    obtain ⟨h3, rfl⟩ := ite_is h2
    exact ⟨g, h1, Nat.le_of_ble_eq_true h3⟩
  cases v with
  | str => cases h
  | _ => exact F rfl h
theorem okSrc_is {rev : Bool} {v : V} {items : List V} {H' : AH} (g : v.noTxt = true) (h : srcD rev q H v = some items) (ok : okSrc rev q v items H' = true) : srcD rev q (sgH σ H') (sg σ v) = some (items.map (sg σ)) := by
  refine src_to g _ ?_
  cases v with
  | ref i =>
    have ok : (srcD rev q H' (.ref i)).any (sames items) = true := ok
    cases hs : srcD rev q H' (.ref i) with
    | none => rw [hs] at ok; cases ok
    | some xs => rw [hs] at ok; exact congrArg some (sames_is ok)
  | _ => cases rev <;> exact h
theorem compR_hit {F : V → AH → Rn (Option V)} {ok : AH → Bool} {F' : V → AH → (Option V → AH → Prop) → Prop} {ok' : AH → Prop} (hF : ∀ v H K, HitE (F v H) (fun r H => K (r.map (sg σ)) (sgH σ H)) (OnX σ X) → F' (sg σ v) (sgH σ H) K) (hok : ∀ H, ok H = true → ok' (sgH σ H)) :
    ∀ {vs acc : List V} {H : AH} {Q : List V → AH → Prop}, HitE (compR F ok vs acc H) (fun ys H => Q (ys.map (sg σ)) (sgH σ H)) (OnX σ X) → compL F' ok' (vs.map (sg σ)) (acc.map (sg σ)) (sgH σ H) Q
  | [], acc, H, Q, h => by
    obtain ⟨h1, h2⟩ := ite_hit h
    exact ⟨hok _ h1, h2⟩
  | v :: vs, acc, H, Q, h => by
    obtain ⟨h1, h2⟩ := ite_hit h
    refine ⟨hok _ h1, hF _ _ _ ((hit_bind h2).to fun r H' h => ?_)⟩
    have := compR_hit hF hok h
    cases r with
    | none => exact this
    | some x => rw [List.map_append] at this; exact this
theorem stepW_hit {o : OutS} {k : Fm → AH → Option OutS} {Xs : XS} {K' : KS} (h : HitS (stepW o k) K R Xs) (hk : ∀ ρ H, HitS (k ρ H) K R Xs → K' ρ H) : HitS (some o) K' R (fun _ _ _ => False) := by
  cases o with
  | nxt ρ H => exact hk ρ H h
  | ret v H => exact h
  | exc => exact h
theorem obind_is {α : Type} {o : Option α} {k : α → Option OutS} {Xs : XS} (h : HitS (o.bind k) K R Xs) : ∃ a, o = some a ∧ HitS (k a) K R Xs := by
  cases o with
  | none => exact h.elim
  | some a => exact ⟨a, rfl, h⟩
theorem forR_hit {F : V → Fm → AH → Option OutS} {ok : AH → Bool} {F' : V → Fm → AH → KS → Prop} {ok' : AH → Prop} (hF : ∀ v ρ H K, HitS (F v ρ H) (OnK σ K) (OnE σ R) (fun _ _ _ => False) → F' (sg σ v) (sgF σ ρ) (sgH σ H) K) (hok : ∀ H, ok H = true → ok' (sgH σ H)) {Xs : XS} {vs : List V} :
    ∀ {ρ : Fm} {H : AH}, HitS (forR F ok vs ρ H) (OnK σ K) (OnE σ R) Xs → forL F' ok' (vs.map (sg σ)) (sgF σ ρ) (sgH σ H) K := by
  induction vs with
  | nil =>
    intro ρ H h
    obtain ⟨h1, h2⟩ := iteS_hit h
    exact ⟨hok _ h1, h2⟩
  | cons v vs ih =>
    intro ρ H h
    obtain ⟨h1, h2⟩ := iteS_hit h
    refine ea1_2 (obind_is h2) ?_
    intro o e h2
    exact ⟨hok _ h1, hF _ _ _ _ (by rw [e]; exact stepW_hit h2 fun _ _ => ih)⟩
theorem whileR_hit {F : Fm → AH → Option (Bool × OutS)} {F' : Fm → AH → KS → KS → Prop} {Xs : XS} (hF : ∀ ρ H K₁ K₂ b o, F ρ H = some (b, o) → HitS (some o) (OnK σ (if b then K₁ else K₂)) (OnE σ R) (fun _ _ _ => False) → F' (sgF σ ρ) (sgH σ H) K₁ K₂) {k : Nat} :
    ∀ {ρ : Fm} {H : AH}, HitS (whileR F k ρ H) (OnK σ K) (OnE σ R) Xs → whileL F' k (sgF σ ρ) (sgH σ H) K := by
  induction k with
  | zero => exact fun h => h.elim
  | succ k ih =>
    intro ρ H h
    refine ea1_2 (obind_is h) ?_
    intro p_1 e h
    obtain ⟨b, o⟩ := p_1
    refine hF _ _ _ _ b o e (stepW_hit h fun ρ H h => ?_)
    cases b with
    | false => exact h
    | true => exact ih h

theorem hasMeth_sg {k : Nat} {name : List Char} {v : V} (h : hasMeth H k name v = true) : hasMeth (sgH σ H) k name (sg σ v) = true := by
  unfold hasMeth at h ⊢
  cases hi : insOf H v with
  | none => rw [hi] at h; cases h
  | some p => rw [hi] at h; rw [insOf_to v p hi]; exact h
theorem some_sg {α β : Type} {f : α → β} {o : Option α} {o' : Option β} (t : To f o o') (h : o.isSome = true) : o'.isSome = true := by
  obtain ⟨a, h⟩ := Option.isSome_iff_exists.mp h
  rw [t a h]; rfl
theorem hasTy_sg {t : Mt} {v : V} (h : hasTy H v t = true) : hasTy (sgH σ H) (sg σ v) t = true := by
  cases t with
  | str => exact some_sg (txt_to v) h
  | list => exact some_sg (view_to v) h
  | dict => exact some_sg (dview_to v) h
  | tup => exact some_sg (tpl_to v) h
theorem clean_sg {v : V} (h : clean v = true) : sg σ v = v := by
  cases v with
  | str s => exact congrArg V.str (sgK_not (Bool.not_eq_true' _ ▸ (show (!isNm s) = true from h)))
  | none | bool | int => rfl
  | _ => cases h
theorem var_sg {i : Nat} {v : V} (h : ρ[i]? = some (some v)) : (sgF σ ρ)[i]? = some (some (sg σ v)) := by
  unfold sgF
  rw [List.getElem?_map, h]; rfl
theorem new_sg (c : Nat) : sgH σ H ++ [.ns [] [], .inst c (sgH σ H).length] = sgH σ (H ++ [.ns [] [], .inst c H.length]) := by
  rw [← app_sg, len_sg]; rfl
theorem cop_hit {o : Cop} {x y : V} {k : Bool → Rn V} {L : Bool → Prop} (h : HitE (if gCop o x y H = true then (match cmpop o x y H with | some t => k t | none => none) else none) (OnE σ Q) (OnX σ X)) (hk : ∀ t, HitE (k t) (OnE σ Q) (OnX σ X) → L t) : okB (cmpop o (sg σ x) (sg σ y) (sgH σ H)) L := by
  obtain ⟨g, h⟩ := ite_hit h
  cases hc : cmpop o x y H with
  | none => rw [hc] at h; exact h.elim
  | some t => rw [hc] at h; rw [cmpop_to g t hc]; exact hk t h
theorem compF_hit (S : Snd σ P m U) {elt : Ex} {cond : Option Ex} (v : V) (H : AH) (K : Option V → AH → Prop)
    (h : HitE (match (generalizing := false) cond with
          | none => (U.e q elt (ρ ++ [some v]) H).bind fun y H'' => some (.val (some y) H'')
          | some c => (U.e q c (ρ ++ [some v]) H).bind fun b H₂ => (match truth b with
            | some true => (U.e q elt (ρ ++ [some v]) H₂).bind fun y H'' => some (.val (some y) H'')
            | some false => some (.val none H₂)
            | none => none) : Rn (Option V)) (fun r H => K (r.map (sg σ)) (sgH σ H)) (OnX σ X)) :
    (match (generalizing := false) cond with
          | none => wpE (P.at q) (callF P m) elt (sgF σ ρ ++ [some (sg σ v)]) (sgH σ H) (fun y H'' => K (some y) H'') X
          | some c => wpE (P.at q) (callF P m) c (sgF σ ρ ++ [some (sg σ v)]) (sgH σ H) (fun b H₂ => okB (truth b) fun t => if t then wpE (P.at q) (callF P m) elt (sgF σ ρ ++ [some (sg σ v)]) H₂ (fun y H'' => K (some y) H'') X else K none H₂) X) := by
  rw [← sgF_app]
  cases cond with
  | none => exact S.e (hit_bind h)
  | some c =>
    refine S.e ((hit_bind h).to fun b H₂ h => ?_)
    cases ht : truth b with
    | none => rw [ht] at h; exact h.elim
    | some t =>
      rw [ht] at h
      show okB (truth (sg σ b)) _
      rw [truth_to b t ht]
      cases t with
      | false => exact h
      | true => exact S.e (hit_bind h)
theorem wpE_compG {P : Prog} {C : Calls} {mu : Bool} {elt it : Ex} {cond : Option Ex} : wpE P C (.comp mu elt it cond) ρ H Q X = wpE P C it ρ H (fun v H₁ => ∃ items, srcQ P.q H₁ v = some items ∧ items.length ≤ sizeOf' ∧
      compL (fun x H' K => match cond with
          | none => wpE P C elt (ρ ++ [some x]) H' (fun y H'' => K (some y) H'') X
          | some c => wpE P C c (ρ ++ [some x]) H' (fun b H₂ => okB (truth b) fun t => if t then wpE P C elt (ρ ++ [some x]) H₂ (fun y H'' => K (some y) H'') X else K none H₂) X)
        (fun H' => srcQ P.q H' v = some items) items [] H₁ (fun ys H₂ => okE (if mu then thaw (.lst ys) H₂ else some (.lst ys, H₂)) Q)) X := by cases cond <;> rfl
theorem stepE_hit (S : Snd σ P m U) {e : Ex} (h : HitE (stepE P U q e ρ H) (OnE σ Q) (OnX σ X)) : wpE (P.at q) (callF P m) e (sgF σ ρ) (sgH σ H) Q X := by
  cases e with
  | cst v =>
    obtain ⟨g, h⟩ := ite_hit h
    have h : Q (sg σ v) (sgH σ H) := h
    rw [clean_sg g] at h
    exact h
  | var i =>
    have h : HitE (match ρ[i]? with | some (some v) => some (.val v H) | _ => none) (OnE σ Q) (OnX σ X) := h
    match hv : ρ[i]?, h with
    | some (some v), h => rw [wpE_var, var_sg hv]; exact h
  | prim mu p args => exact S.es ((hit_bind h).to fun vs H' h => primR_hit h)
  | and a b => rw [wpE_and]; exact S.e ((hit_bind h).to fun v H' h => tst_hit h S.e id)
  | or a b => rw [wpE_or]; exact S.e ((hit_bind h).to fun v H' h => tst_hit h id S.e)
  | cmp2 a o₁ b o₂ c =>
    rw [wpE_cmp2]
    refine S.e ((hit_bind h).to fun x H₁ h => S.e ((hit_bind h).to fun y H₂ h => ?_))
    obtain ⟨g, h⟩ := ite_hit h
    cases hc : cmpop o₁ x y H₂ with
    | none => rw [hc] at h; exact h.elim
    | some t =>
      rw [hc] at h
      show okB (cmpop o₁ (sg σ x) (sg σ y) (sgH σ H₂)) _
      rw [cmpop_to g t hc]
      cases t with
      | false => exact h
      | true => exact S.e ((hit_bind h).to fun z H₃ h => cop_hit (k := fun t => some (.val (.bool t) H₃)) h fun t h => h)
  | call f args => exact S.es ((hit_bind h).to fun vs H' h => S.c h)
  | meth k f name o args =>
    rw [wpE_meth]
    refine S.e ((hit_bind h).to fun v H₁ h => ?_)
    obtain ⟨g, h⟩ := ite_hit h
    exact ⟨hasMeth_sg g, S.es ((hit_bind h).to fun vs H' h => S.c (vs := v :: vs) h)⟩
  | mcall t mu p o args =>
    rw [wpE_mcall]
    refine S.e ((hit_bind h).to fun v H₁ h => ?_)
    obtain ⟨g, h⟩ := ite_hit h
    exact ⟨hasTy_sg g, S.es ((hit_bind h).to fun vs H' h => primR_hit (vs := v :: vs) h)⟩
  | new c f args =>
    rw [wpE_new]
    refine S.es ((hit_bind h).to fun vs H' h => ?_)
    rw [new_sg, len_sg]
    refine S.c (vs := .ref (H'.length + 1) :: vs) ((hit_bind h).to fun v H'' h => ?_)
    cases v with
    | none => exact ⟨rfl, h⟩
    | _ => exact h.elim
  | comp mu elt it cond =>
    rw [wpE_compG]
    refine S.e ((hit_bind h).to fun v H₁ h => ?_)
    cases hs : srcR false q H₁ v with
    | none => rw [hs] at h; exact h.elim
    | some items =>
      rw [hs] at h
      obtain ⟨g, h1, h2⟩ := srcR_is hs
      refine ⟨items.map (sg σ), src_to (rev := false) g _ h1, by rw [List.length_map]; exact h2, ?_⟩
      refine compR_hit (acc := []) (compF_hit S (cond := cond)) (fun _ => okSrc_is (rev := false) g h1) ((hit_bind h).to fun ys H₂ h => okR_hit h ?_)
      rw [lst_sg]
      cases mu with
      | true => exact thaw_to (.lst ys, H₂)
      | false => exact .some rfl
theorem stepEs_hit (S : Snd σ P m U) {es : List Ex} {Q : List V → AH → Prop} (h : HitE (stepEs U q es ρ H) (fun vs H => Q (vs.map (sg σ)) (sgH σ H)) (OnX σ X)) : wpEs (P.at q) (callF P m) es (sgF σ ρ) (sgH σ H) Q X := by
  cases es with
  | nil => exact h
  | cons e es => exact S.e ((hit_bind h).to fun v H' h => S.es (hit_bind h))

theorem set_F {i : Nat} {v : V} : (sgF σ ρ).set i (some (sg σ v)) = sgF σ (ρ.set i (some v)) := by
  unfold sgF
  rw [List.map_set]; rfl
theorem setN_F {i : Nat} : (sgF σ ρ).set i none = sgF σ (ρ.set i none) := by
  unfold sgF
  rw [List.map_set]; rfl
theorem zip_F : ∀ {is : List Nat} {vs : List V} {ρ : Fm}, (is.zip (vs.map (sg σ))).foldl (fun ρ p => ρ.set p.1 (some p.2)) (sgF σ ρ) = sgF σ ((is.zip vs).foldl (fun ρ p => ρ.set p.1 (some p.2)) ρ)
  | [], _, _ => rfl
  | _ :: _, [], _ => rfl
  | _ :: _, v :: vs, ρ => by
    rw [List.map_cons, List.zip_cons_cons, List.zip_cons_cons, List.foldl_cons, List.foldl_cons, set_F]
    exact zip_F
theorem tgt_to (t : Nat ⊕ List Nat) (v : V) : To (sgF σ) (setTgt ρ t v) (setTgt (sgF σ ρ) t (sg σ v)) := by
  cases t with
  | inl i => exact .some set_F.symm
  | inr is =>
    cases v with
    | tup vs =>
      show To (sgF σ) _ (if is.length = (sgs σ vs).length then some _ else none)
      rw [sgs_eq]
      exact .ite (by rw [List.length_map]; exact id) (.some zip_F.symm)
    | _ => exact .none
theorem setA_to (o x : V) (n : List Char) : To (sgH σ) (setAttrV o n x H) (setAttrV (sg σ o) n (sg σ x) (sgH σ H)) :=
  .bind (insOf_to o) fun p => .ite id (.some (by
    have := dput_sg (σ := σ) (κ := id) (k := n) (ks := p.2.1) (x := x) (vs := p.2.2) fun _ _ => Iff.rfl
    rw [List.map_id, List.map_id] at this
    rw [← set_sg]
    show _ = List.set _ _ (O.ns (dput n (sg σ x) p.2.1 (p.2.2.map (sg σ))).1 (dput n (sg σ x) p.2.1 (p.2.2.map (sg σ))).2)
    rw [show dput n (sg σ x) p.2.1 (p.2.2.map (sg σ)) = _ from this]
    rfl))
theorem setI_to {o i x : V} (g : gKey H o i = true) : To (sgH σ) (setItemV o i x H) (setItemV (sg σ o) (sg σ i) (sg σ x) (sgH σ H)) := by
  cases o with
  | ref r =>
    cases i with
    | str k =>
      show To (sgH σ) (setD r k x H H[r]?) (setD (σ.b + r) (sgK σ k) (sg σ x) (sgH σ H) (sgH σ H)[σ.b + r]?)
      cases ho : H[r]? with
      | none => exact .none
      | some ob =>
        rw [get_to r ob ho]
        cases ob with
        | dict ks vs =>
          have hd : dview H (.ref r) = some (ks, vs) := by show Option.bind _ _ = _; rw [ho]; rfl
          exact .ite klen (.some (set_dct r (dput_sg (gKey_is g hd rfl))).symm)
        | _ => exact .none
    | _ => exact .none
  | _ => exact .none
/-- an expression inside a statement, and what is done with its value -/
theorem opt_is {α : Type} {f : α → α} {o o' : Option α} {k : α → Option OutS} {Xs : XS} (h : HitS (o.bind k) K R Xs) (t : To f o o') : ∃ a, o' = some (f a) ∧ HitS (k a) K R Xs := by
  cases o with
  | none => exact h.elim
  | some a => exact ⟨a, t a rfl, h⟩
theorem handler_hit {s : Option OutS} {k : Fm → AH → Option OutS} {Xs : XS} (h : HitS (seqR (match s with | some (.exc _ _ _) => none | r => r) k) K R Xs) : HitS s (fun ρ H => HitS (k ρ H) K R Xs) R (fun _ _ _ => False) :=
  match s, h with
  | some (.nxt _ _), h => h
  | some (.ret _ _), h => h
theorem as_F (as_ : Option Nat) {c : Nat} (hc : c < 100) : sgF σ (as_.elim ρ fun i => ρ.set i (some (.exc c))) = as_.elim (sgF σ ρ) fun i => (sgF σ ρ).set i (some (.exc c)) := by
  cases as_ with
  | none => rfl
  | some i =>
    show sgF σ (ρ.set i (some (.exc c))) = (sgF σ ρ).set i (some (.exc c))
    rw [← set_F, show sg σ (.exc c) = .exc c from if_pos hc]
theorem asN_F (as_ : Option Nat) : sgF σ (as_.elim ρ fun i => ρ.set i none) = as_.elim (sgF σ ρ) fun i => (sgF σ ρ).set i none := by
  cases as_ with
  | none => rfl
  | some i => exact setN_F.symm
theorem stepS_hit (S : Snd σ P m U) {s : St} {X : XS} (h : HitS (stepS P U q s ρ H) (OnK σ K) (OnE σ R) (OnS σ X)) : wpS (P.at q) (callF P m) s (sgF σ ρ) (sgH σ H) K R X := by
  cases s with
  | asg i e =>
    rw [wpS_asg]
    refine S.e ((hit_bindS h).to fun v H' h => ?_)
    obtain ⟨g, h⟩ := iteS_hit h
    exact ⟨by unfold sgF; rw [List.length_map]; exact Nat.blt_eq.mp g, by rw [set_F]; exact h⟩
  | asgTup is e =>
    rw [wpS_asgTup]
    refine S.e ((hit_bindS h).to fun v H' h => ?_)
    obtain ⟨g, h⟩ := niteS_hit h
    obtain ⟨ρ', e, h⟩ := opt_is h (tgt_to (.inr is) v)
    exact ⟨g, by rw [e]; exact h⟩
  | setItem o i e =>
    rw [wpS_setItem]
    refine S.e ((hit_bindS h).to fun x H₁ h => S.e ((hit_bindS h).to fun ov H₂ h => S.e ((hit_bindS h).to fun iv H₃ h => ?_)))
    obtain ⟨g, h⟩ := iteS_hit h
    obtain ⟨H', e, h⟩ := opt_is h (setI_to g)
    dsimp only [OnE]
    rw [e]; exact h
  | setAttr o n e =>
    rw [wpS_setAttr]
    refine S.e ((hit_bindS h).to fun x H₁ h => S.e ((hit_bindS h).to fun ov H₂ h => ?_))
    obtain ⟨H', e, h⟩ := opt_is h (setA_to ov x n)
    dsimp only [OnE]
    rw [e]; exact h
  | expr e => rw [wpS_expr]; exact S.e (hit_bindS h)
  | ite c a b => rw [wpS_ite]; exact S.e ((hit_bindS h).to fun v H' h => tstS_hit (L := fun t => if t then wpSs (P.at q) (callF P m) a (sgF σ ρ) (sgH σ H') K R X else wpSs (P.at q) (callF P m) b (sgF σ ρ) (sgH σ H') K R X) h S.ss S.ss)
  | forIn rev tgt e body =>
    rw [wpS_forIn]
    refine S.e ((hit_bindS h).to fun v H₁ h => ?_)
    cases hs : srcR rev q H₁ v with
    | none => rw [hs] at h; exact h.elim
    | some items =>
      rw [hs] at h
      obtain ⟨g, h1, h2⟩ := srcR_is hs
      refine ⟨items.map (sg σ), src_to g _ h1, by rw [List.length_map]; exact h2, ?_⟩
      refine forR_hit (fun x ρ' H' K' h => ?_) (fun _ => okSrc_is g h1) h
      obtain ⟨ρ'', e, h⟩ := opt_is h (tgt_to tgt x)
      rw [e]; exact S.ss h
  | while_ c body =>
    rw [wpS_while]
    refine ⟨100, whileR_hit (F := whF U q c body) (fun ρ' H' K₁ K₂ b o e h => S.e ?_) h⟩
    unfold whF at e
    match hc : U.e q c ρ' H', e with
    | some (.val v H''), e =>
      refine ea1_2 (bind_is e) ?_
      intro t ht e
      show okB (truth (sg σ v)) _
      rw [truth_to v t ht]
      cases t with
      | false => cases e; exact h
      | true =>
        refine ea1_2 (map_is e) ?_
        intro s hb e
        cases e
        exact S.ss (by rw [hb]; exact h)
  | ret e => rw [wpS_ret]; exact S.e (hit_bindS h)
  | raise c => exact niteS_hit h
  | try_ body cls as_ hd =>
    rw [wpS_try]
    obtain ⟨g, h⟩ := niteS_hit h
    refine ⟨g, S.ss ?_⟩
    match hb : U.ss q body ρ H, h with
    | some (.nxt _ _), h => exact h
    | some (.ret _ _), h => exact h
    | some (.exc ρ' c H'), h =>
      obtain ⟨g2, h⟩ := iteS_hit h
      refine ⟨g2.1, ?_⟩
      rw [← as_F as_ g2.2]
      exact S.ss (q := true) ((handler_hit h).imp (fun ρ'' H'' h => by show K (as_.elim (sgF σ ρ'') _) _; rw [← asN_F]; exact h) (fun _ _ => id) (fun _ _ _ => id))
  | freeze i => exact h.elim
  | pass => exact h
theorem stepSs_hit (S : Snd σ P m U) {ss : List St} {X : XS} (h : HitS (stepSs P U q ss ρ H) (OnK σ K) (OnE σ R) (OnS σ X)) : wpSs (P.at q) (callF P m) ss (sgF σ ρ) (sgH σ H) K R X := by
  cases ss with
  | nil => exact h
  | cons s ss =>
    rw [wpSs_cons]
    exact stepS_hit S ((hit_seq h).imp (fun _ _ => S.ss) (fun _ _ => id) (fun _ _ _ => id))

/-- the same stand-ins with another heap ahead -/
abbrev Sg.up (σ : Sg) (H : AH) : Sg := { σ with H0 := H }
theorem data_up (v : V) : v.data = true → sg (σ.up H) v = sg σ v := by
  induction v using V.rec (motive_2 := fun vs => V.datas vs = true → sgs (σ.up H) vs = sgs σ vs) with
  | tup vs ih => exact fun h => congrArg V.tup (ih h)
  | lst vs ih => exact fun h => congrArg V.lst (ih h)
  | nil => rfl
  | cons v vs i1 i2 =>
    rename_i h
    show sg _ v :: sgs _ vs = sg σ v :: sgs σ vs
    rw [i1 (Bool.and_eq_true_iff.mp h).1, i2 (Bool.and_eq_true_iff.mp h).2]
  | dct | rng | ref | exc => rintro ⟨⟩
  | _ => exact fun _ => rfl
theorem sgH_nil : sgH (σ.up H) [] = H := List.append_nil _
theorem out_hit {s : Option OutS} (h : HitE (outR s) (OnE σ Q) (OnX σ X)) : HitS s (OnK σ fun _ H' => Q .none H') (OnE σ Q) (OnS σ fun _ => X) := by
  match s, h with
  | some (.nxt _ _), h => exact h
  | some (.ret _ _), h => exact h
  | some (.exc _ _ _), h => exact h

/-- the table tells true -/
noncomputable def TabOk (σ : Sg) (P : Prog) (k : Nat) (tab : Nat → List V → Option Bool) : Prop := ∀ {f : Nat} {vs : List V} {b : Bool}, tab f vs = some b → ∀ {m : Nat} {H : AH} {Q : QE} {X : XE}, k ≤ m → Q (.bool b) H → callF P m false f (vs.map (sg σ)) H Q X
theorem frame_sg {vs : List V} {n : Nat} : (vs.map (sg σ)).map some ++ List.replicate n none = sgF σ (vs.map some ++ List.replicate n none) := by
  unfold sgF
  rw [List.map_append, List.map_map, List.map_map, List.map_replicate]; rfl
theorem stepC_hit {tab : Nat → List V → Option Bool} {k f : Nat} {vs : List V} (S : Snd σ P m U) (T : TabOk σ P k tab) (hk : k ≤ m + 1) (h : HitE (stepC P tab U q f vs H) (OnE σ Q) (OnX σ X)) : callF P (m + 1) q f (vs.map (sg σ)) (sgH σ H) Q X := by
  unfold stepC at h
  cases ht : tab f vs with
  | some b =>
    rw [ht] at h
    cases q with
    | true => exact h.elim
    | false => exact T ht hk h
  | none =>
    rw [ht] at h
    dsimp only at h
    rw [callF_at]
    cases hf : P.fns f with
    | none => rw [hf] at h; exact h.elim
    | some fn =>
      rw [hf] at h
      obtain ⟨g, h⟩ := ite_hit h
      refine ⟨by rw [List.length_map]; exact g, ?_⟩
      rw [frame_sg]
      exact S.ss (out_hit h)
theorem run_snd {tab : Nat → List V → Option Bool} {k : Nat} (T : TabOk σ P k tab) (n : Nat) : ∀ {m : Nat}, n + k ≤ m → Snd σ P m (run P tab n) := by
  induction n with
  | zero => exact fun _ => ⟨False.elim, False.elim, False.elim, False.elim⟩
  | succ n ih =>
    intro m hm
    cases m with
    | zero => exact absurd hm (by rw [Nat.succ_add]; exact Nat.not_succ_le_zero _)
    | succ m =>
      have hm : n + k ≤ m := Nat.le_of_succ_le_succ (by rw [← Nat.succ_add]; exact hm)
      have S := ih (Nat.le_succ_of_le hm)
      exact ⟨stepE_hit S, stepEs_hit S, stepSs_hit S, stepC_hit (ih hm) T (Nat.le_succ_of_le (Nat.le_trans (Nat.le_add_left ..) hm))⟩
/-- a call that was run -/
theorem run_call {tab : Nat → List V → Option Bool} {k n f : Nat} {vs : List V} {v : V} {H' : AH} (T : TabOk σ P k tab) (hm : n + k ≤ m) (h : (run P tab n).c q f vs H = some (.val v H')) (hQ : Q (sg σ v) (sgH σ H')) : callF P m q f (vs.map (sg σ)) (sgH σ H) Q X :=
  (run_snd T n hm).c (by rw [h]; exact hQ)
end
end Mine

end
noncomputable section
namespace Mine
open PySem
/-- is_whole ['thing', 'least', 'most'] [] -/
noncomputable def fn0 : Fn := ⟨3, 0, [(.ret (.and (.prim false (.isinst .int) [(.var 0)]) (.and (.prim false .not [(.prim false (.isinst .bool) [(.var 0)])]) (.cmp2 (.var 1) .le (.var 0) .le (.var 2)))))]⟩
/-- is_name ['thing'] [] -/
noncomputable def fn1 : Fn := ⟨1, 0, [(.ite (.or (.prim false .not [(.prim false (.isinst .str) [(.var 0)])]) (.prim false .not [(.cmp2 (.cst (.int 1)) .le (.prim false .len [(.var 0)]) .le (.cst (.int 8)))])) [(.ret (.cst (.bool false)))] []),
  (.ret (.prim false .all [(.comp false (.prim false (.cop .in_) [(.var 1), (.cst (.str ['a', 'b', 'c', 'd', 'e', 'f', 'g', 'h', 'i', 'j', 'k', 'l', 'm', 'n', 'o', 'p', 'q', 'r', 's', 't', 'u', 'v', 'w', 'x', 'y', 'z']))]) (.var 0) none)]))]⟩
/-- is_letter ['thing'] [] -/
noncomputable def fn2 : Fn := ⟨1, 0, [(.ite (.prim false .not [(.prim false (.isinst .tuple) [(.var 0)])]) [(.ret (.cst (.bool false)))] []),
  (.ite (.prim false (.cop .eq) [(.prim false .len [(.var 0)]), (.cst (.int 2))]) [(.ret (.and (.prim false (.cop .eq) [(.prim false .item [(.var 0), (.cst (.int 0))]), (.cst (.str ['a', 'd', 'd']))]) (.call 0 [(.prim false .item [(.var 0), (.cst (.int 1))]), (.prim false (.bop .sub) [(.cst (.int 0)), (.cst (.int 1000000000))]), (.cst (.int 1000000000))])))] []),
  (.ret (.or (.prim false (.cop .eq) [(.var 0), (.prim false .mktup [(.cst (.str ['f', 'a', 'u', 'l', 't']))])]) (.prim false (.cop .eq) [(.var 0), (.prim false .mktup [(.cst (.str ['l', 'e', 'a', 'v', 'e']))])])))]⟩
/-- is_worker ['thing'] [] -/
noncomputable def fn3 : Fn := ⟨1, 0, [(.ite (.or (.prim false .not [(.prim false (.isinst .tuple) [(.var 0)])]) (.or (.prim false (.cop .ne) [(.prim false .len [(.var 0)]), (.cst (.int 3))]) (.prim false (.cop .ne) [(.prim false .item [(.var 0), (.cst (.int 0))]), (.cst (.str ['w', 'o', 'r', 'k', 'e', 'r']))]))) [(.ret (.cst (.bool false)))] []),
  (.ret (.and (.call 1 [(.prim false .item [(.var 0), (.cst (.int 1))])]) (.prim false (.cop .in_) [(.prim false .item [(.var 0), (.cst (.int 2))]), (.prim false .mktup [(.cst (.str ['a', 'l', 'w', 'a', 'y', 's'])), (.cst (.str ['f', 'a', 'u', 'l', 't', 'e', 'd'])), (.cst (.str ['n', 'e', 'v', 'e', 'r']))])])))]⟩
/-- is_warden ['thing'] [] -/
noncomputable def fn4 : Fn := ⟨1, 0, [(.ite (.or (.prim false .not [(.prim false (.isinst .tuple) [(.var 0)])]) (.or (.prim false (.cop .ne) [(.prim false .len [(.var 0)]), (.cst (.int 6))]) (.prim false (.cop .ne) [(.prim false .item [(.var 0), (.cst (.int 0))]), (.cst (.str ['w', 'a', 'r', 'd', 'e', 'n']))]))) [(.ret (.cst (.bool false)))] []),
  (.ite (.or (.prim false .not [(.call 1 [(.prim false .item [(.var 0), (.cst (.int 1))])])]) (.prim false (.cop .notin) [(.prim false .item [(.var 0), (.cst (.int 2))]), (.prim false .mktup [(.cst (.str ['o', 'n', 'e'])), (.cst (.str ['r', 'e', 's', 't'])), (.cst (.str ['a', 'l', 'l']))])])) [(.ret (.cst (.bool false)))] []),
  (.ite (.or (.prim false .not [(.call 0 [(.prim false .item [(.var 0), (.cst (.int 3))]), (.cst (.int 0)), (.cst (.int 1000000000))])]) (.prim false .not [(.call 0 [(.prim false .item [(.var 0), (.cst (.int 4))]), (.cst (.int 1)), (.cst (.int 1000000000))])])) [(.ret (.cst (.bool false)))] []),
  (.ret (.and (.prim false (.isinst .tuple) [(.prim false .item [(.var 0), (.cst (.int 5))])]) (.cmp2 (.cst (.int 1)) .le (.prim false .len [(.prim false .item [(.var 0), (.cst (.int 5))])]) .le (.cst (.int 8)))))]⟩
/-- is_plan ['thing'] ['todo', 'names', 'part', 'above'] -/
noncomputable def fn5 : Fn := ⟨1, 4, [(.ite (.prim false .not [(.call 4 [(.var 0)])]) [(.ret (.cst (.bool false)))] []),
  (.asg 1 (.prim true .mklist [(.prim false .mktup [(.var 0), (.cst (.int 0))])])),
  (.asg 2 (.prim true (.mkdict []) [])),
  (.while_ (.prim false (.cop .gt) [(.prim false .len [(.var 1)]), (.cst (.int 0))]) [(.asgTup [3, 4] (.mcall .list false .pop (.var 1) [])),
  (.ite (.or (.prim false (.cop .gt) [(.var 4), (.cst (.int 6))]) (.and (.prim false .not [(.call 3 [(.var 3)])]) (.prim false .not [(.call 4 [(.var 3)])]))) [(.ret (.cst (.bool false)))] []),
  (.ite (.or (.prim false (.cop .in_) [(.prim false .item [(.var 3), (.cst (.int 1))]), (.var 2)]) (.prim false (.cop .eq) [(.prim false .len [(.var 2)]), (.cst (.int 60))])) [(.ret (.cst (.bool false)))] []),
  (.setItem (.var 2) (.prim false .item [(.var 3), (.cst (.int 1))]) (.cst (.bool true))),
  (.ite (.call 4 [(.var 3)]) [(.expr (.mcall .list false .extend (.var 1) [(.comp false (.prim false .mktup [(.var 5), (.prim false (.bop .add) [(.var 4), (.cst (.int 1))])]) (.prim false .item [(.var 3), (.cst (.int 5))]) none)]))] [])]),
  (.ret (.cst (.bool true)))]⟩
/-- parts_of ['part'] ['found', 'one'] -/
noncomputable def fn6 : Fn := ⟨1, 2, [(.asg 1 (.prim true .mklist [(.var 0)])),
  (.ite (.prim false (.cop .eq) [(.prim false .item [(.var 0), (.cst (.int 0))]), (.cst (.str ['w', 'a', 'r', 'd', 'e', 'n']))]) [(.forIn false (.inl 2) (.prim false .item [(.var 0), (.cst (.int 5))]) [(.expr (.mcall .list false .extend (.var 1) [(.call 6 [(.var 2)])]))])] []),
  (.ret (.var 1))]⟩
/-- counting ['hours', 'now', 'span'] [] -/
noncomputable def fn7 : Fn := ⟨3, 0, [(.ret (.comp false (.var 3) (.var 0) (some (.prim false (.cop .gt) [(.var 3), (.prim false (.bop .sub) [(.var 1), (.var 2)])]))))]⟩
/-- named ['rule', 'size', 'at'] [] -/
noncomputable def fn8 : Fn := ⟨3, 0, [(.ite (.prim false (.cop .eq) [(.var 0), (.cst (.str ['o', 'n', 'e']))]) [(.ret (.prim false .mklist [(.var 2)]))] []),
  (.ite (.prim false (.cop .eq) [(.var 0), (.cst (.str ['r', 'e', 's', 't']))]) [(.ret (.prim false .list [(.prim false .range2 [(.var 2), (.var 1)])]))] []),
  (.ret (.prim false .list [(.prim false .range1 [(.var 1)])]))]⟩
/-- law_cell_at ['_law_script', '_law_k'] [] -/
noncomputable def fn9 : Fn := ⟨2, 0, [(.ite (.prim false (.cop .lt) [(.var 1), (.prim false .len [(.var 0)])]) [(.ret (.prim false .item [(.var 0), (.var 1)]))] []),
  (.ret (.cst (.int 0)))]⟩
/-- law_whole ['_law_found'] [] -/
noncomputable def fn10 : Fn := ⟨1, 0, [(.ret (.and (.prim false (.isinst .int) [(.var 0)]) (.prim false .not [(.prim false (.isinst .bool) [(.var 0)])])))]⟩
/-- law_names ['_law_cell', '_law_many'] ['_law_some', '_law_head', '_law_rest', '_law_k', '_law_way', '_law_left', '_law_right'] -/
noncomputable def fn11 : Fn := ⟨2, 7, [(.asg 2 (.cst (.str ['a', 'b', 'c', 'd', 'e', 'f', 'g', 'h', 'i', 'j', 'k', 'l', 'm', 'n', 'o', 'p', 'q', 'r', 's', 't', 'u', 'v', 'w', 'x', 'y', 'z']))),
  (.asg 3 (.cst (.str []))),
  (.asg 4 (.prim false (.bop .fdiv) [(.var 0), (.cst (.int 48))])),
  (.forIn false (.inl 5) (.prim false .range1 [(.cst (.int 8))]) [(.asg 3 (.prim false (.bop .add) [(.var 3), (.prim false .item [(.var 2), (.prim false (.bop .mod) [(.var 4), (.cst (.int 26))])])])),
  (.asg 4 (.prim false (.bop .fdiv) [(.var 4), (.cst (.int 26))]))]),
  (.asg 6 (.prim false (.bop .mod) [(.var 0), (.cst (.int 6))])),
  (.ite (.and (.prim false (.cop .eq) [(.var 6), (.cst (.int 0))]) (.prim false (.cop .lt) [(.var 1), (.cst (.int 9))])) [(.ret (.comp false (.prim false .slice [(.var 3), (.cst .none), (.prim false (.bop .add) [(.var 9), (.cst (.int 1))])]) (.prim false .range1 [(.var 1)]) none))] []),
  (.ite (.and (.prim false (.cop .eq) [(.var 6), (.cst (.int 1))]) (.prim false (.cop .lt) [(.var 1), (.cst (.int 9))])) [(.ret (.comp false (.prim false .slice [(.var 3), (.prim false (.bop .sub) [(.cst (.int 7)), (.var 9)]), (.cst .none)]) (.prim false .range1 [(.var 1)]) none))] []),
  (.asg 3 (.prim false .slice [(.var 3), (.cst .none), (.prim false (.bop .mod) [(.prim false (.bop .fdiv) [(.var 0), (.cst (.int 6))]), (.cst (.int 7))])])),
  (.ite (.and (.prim false (.cop .lt) [(.var 6), (.cst (.int 4))]) (.prim false (.cop .lt) [(.var 1), (.cst (.int 27))])) [(.asg 7 (.prim false .slice [(.var 3), (.cst .none), (.prim false (.bop .mod) [(.prim false (.bop .fdiv) [(.var 0), (.cst (.int 5))]), (.prim false (.bop .add) [(.prim false .len [(.var 3)]), (.cst (.int 1))])])])),
  (.asg 8 (.prim false .slice [(.var 3), (.prim false .len [(.var 7)]), (.cst .none)])),
  (.ret (.comp false (.prim false (.bop .add) [(.prim false (.bop .add) [(.var 7), (.prim false .item [(.var 2), (.prim false (.bop .mod) [(.prim false (.bop .add) [(.prim false (.bop .fdiv) [(.var 0), (.cst (.int 7))]), (.prim false (.bop .mul) [(.cst (.int 7)), (.var 9)])]), (.cst (.int 26))])])]), (.var 8)]) (.prim false .range1 [(.var 1)]) none))] []),
  (.ret (.comp false (.prim false (.bop .add) [(.prim false (.bop .add) [(.var 3), (.prim false .item [(.var 2), (.prim false (.bop .fdiv) [(.var 9), (.cst (.int 26))])])]), (.prim false .item [(.var 2), (.prim false (.bop .mod) [(.var 9), (.cst (.int 26))])])]) (.prim false .range1 [(.var 1)]) none))]⟩
/-- law_letter_by ['_law_cell'] ['_law_number'] -/
noncomputable def fn12 : Fn := ⟨1, 1, [(.ite (.prim false (.cop .gt) [(.prim false (.bop .mod) [(.var 0), (.cst (.int 5))]), (.cst (.int 2))]) [(.ret (.prim false .item [(.prim false .mklist [(.prim false .mktup [(.cst (.str ['f', 'a', 'u', 'l', 't']))]), (.prim false .mktup [(.cst (.str ['l', 'e', 'a', 'v', 'e']))])]), (.prim false (.bop .sub) [(.prim false (.bop .mod) [(.var 0), (.cst (.int 5))]), (.cst (.int 3))])]))] []),
  (.asg 1 (.prim false .item [(.prim false .mklist [(.prim false (.bop .sub) [(.prim false (.bop .mod) [(.prim false (.bop .fdiv) [(.var 0), (.cst (.int 10))]), (.cst (.int 9))]), (.cst (.int 4))]), (.prim false (.bop .sub) [(.prim false (.bop .mod) [(.prim false (.bop .fdiv) [(.var 0), (.cst (.int 10))]), (.prim false (.bop .add) [(.prim false (.bop .mul) [(.cst (.int 2)), (.prim false (.bop .pow) [(.cst (.int 10)), (.cst (.int 9))])]), (.cst (.int 1))])]), (.prim false (.bop .pow) [(.cst (.int 10)), (.cst (.int 9))])])]), (.prim false .int [(.prim false (.cop .eq) [(.prim false (.bop .mod) [(.var 0), (.cst (.int 5))]), (.cst (.int 2))])])])),
  (.ret (.prim false .mktup [(.cst (.str ['a', 'd', 'd'])), (.var 1)]))]⟩
/-- law_kinds ['_law_e'] ['_law_marks', '_law_found'] -/
noncomputable def fn13 : Fn := ⟨1, 2, [(.asg 1 (.prim false .mklist [(.prim false (.isX (some 1)) [(.var 0)]), (.prim false (.isX (some 2)) [(.var 0)]), (.prim false (.isX (some 3)) [(.var 0)]), (.prim false (.isX (some 4)) [(.var 0)])])),
  (.asg 1 (.prim false (.bop .add) [(.var 1), (.prim false .mklist [(.prim false (.isX (some 5)) [(.var 0)]), (.prim false (.isX (some 6)) [(.var 0)]), (.prim false (.isX (some 7)) [(.var 0)]), (.prim false (.isX (some 8)) [(.var 0)])])])),
  (.asg 2 (.comp false (.var 3) (.prim false .range1 [(.cst (.int 8))]) (some (.prim false .item [(.var 1), (.var 3)])))),
  (.ite (.prim false .not [(.prim false (.isX none) [(.var 0)])]) [(.ret (.prim false .mklist []))] []),
  (.ret (.var 2))]⟩
/-- law_house_by ['_law_names_here', '_law_way'] ['_law_inner', '_law_parts', '_law_house'] -/
noncomputable def fn14 : Fn := ⟨2, 3, [(.asg 2 (.prim false .mktup [(.cst (.str ['w', 'a', 'r', 'd', 'e', 'n'])), (.prim false .item [(.var 0), (.cst (.int 3))]), (.cst (.str ['o', 'n', 'e'])), (.cst (.int 5)), (.cst (.int 5)), (.prim false .mktup [(.prim false .mktup [(.cst (.str ['w', 'o', 'r', 'k', 'e', 'r'])), (.prim false .item [(.var 0), (.cst (.int 4))]), (.cst (.str ['f', 'a', 'u', 'l', 't', 'e', 'd']))])])])),
  (.asg 3 (.prim false .mktup [(.prim false .mktup [(.cst (.str ['w', 'o', 'r', 'k', 'e', 'r'])), (.prim false .item [(.var 0), (.cst (.int 1))]), (.cst (.str ['a', 'l', 'w', 'a', 'y', 's']))]), (.prim false .mktup [(.cst (.str ['w', 'o', 'r', 'k', 'e', 'r'])), (.prim false .item [(.var 0), (.cst (.int 2))]), (.cst (.str ['n', 'e', 'v', 'e', 'r']))]), (.var 2)])),
  (.asg 4 (.new 0 20 [(.prim false .mktup [(.cst (.str ['w', 'a', 'r', 'd', 'e', 'n'])), (.prim false .item [(.var 0), (.cst (.int 0))]), (.cst (.str ['r', 'e', 's', 't'])), (.cst (.int 2)), (.cst (.int 9)), (.var 3)])])),
  (.ite (.prim false (.cop .eq) [(.var 1), (.cst (.int 1))]) [(.expr (.meth 0 33 ['f', 'a', 'i', 'l'] (.var 4) [(.prim false .item [(.var 0), (.cst (.int 2))])]))] []),
  (.ite (.prim false (.cop .eq) [(.var 1), (.cst (.int 2))]) [(.expr (.meth 0 31 ['s', 'e', 'n', 'd'] (.var 4) [(.prim false .item [(.var 0), (.cst (.int 4))]), (.prim false .mktup [(.cst (.str ['l', 'e', 'a', 'v', 'e']))])])),
  (.expr (.meth 0 32 ['w', 'o', 'r', 'k'] (.var 4) [(.prim false .item [(.var 0), (.cst (.int 4))])]))] []),
  (.ite (.prim false (.cop .eq) [(.var 1), (.cst (.int 3))]) [(.expr (.meth 0 31 ['s', 'e', 'n', 'd'] (.var 4) [(.prim false .item [(.var 0), (.cst (.int 4))]), (.prim false .mktup [(.cst (.str ['a', 'd', 'd'])), (.cst (.int 3))])]))] []),
  (.ite (.prim false (.cop .eq) [(.var 1), (.cst (.int 4))]) [(.expr (.meth 0 33 ['f', 'a', 'i', 'l'] (.var 4) [(.prim false .item [(.var 0), (.cst (.int 0))])]))] []),
  (.ret (.var 4))]⟩
/-- law_due ['_law_way', '_law_deed', '_law_at', '_law_good'] [] -/
noncomputable def fn15 : Fn := ⟨4, 0, [(.ite (.and (.prim false (.cop .eq) [(.var 0), (.cst (.int 4))]) (.prim false (.cop .lt) [(.var 1), (.cst (.int 3))])) [(.ret (.cst (.int 5)))] []),
  (.ite (.and (.prim false (.cop .eq) [(.var 1), (.cst (.int 0))]) (.prim false .not [(.var 3)])) [(.ret (.cst (.int 1)))] []),
  (.ite (.or (.and (.prim false (.cop .eq) [(.var 1), (.cst (.int 5))]) (.prim false (.cop .notin) [(.var 2), (.prim false .mklist [(.cst (.int 0)), (.cst (.int 3))])])) (.or (.and (.prim false (.cop .in_) [(.var 1), (.prim false .mklist [(.cst (.int 0)), (.cst (.int 1)), (.cst (.int 3)), (.cst (.int 4))])]) (.prim false (.cop .notin) [(.var 2), (.prim false .mklist [(.cst (.int 1)), (.cst (.int 2)), (.cst (.int 4))])])) (.prim false (.cop .gt) [(.var 2), (.cst (.int 4))]))) [(.ret (.cst (.int 2)))] []),
  (.ite (.and (.prim false (.cop .ne) [(.var 1), (.cst (.int 3))]) (.or (.prim false (.cop .eq) [(.var 0), (.cst (.int 4))]) (.or (.and (.prim false (.cop .eq) [(.var 0), (.cst (.int 1))]) (.prim false (.cop .eq) [(.var 2), (.cst (.int 2))])) (.and (.prim false (.cop .eq) [(.var 0), (.cst (.int 2))]) (.prim false (.cop .eq) [(.var 2), (.cst (.int 4))]))))) [(.ret (.cst (.int 3)))] []),
  (.ite (.and (.prim false (.cop .eq) [(.var 1), (.cst (.int 1))]) (.prim false .not [(.and (.prim false (.cop .eq) [(.var 0), (.cst (.int 3))]) (.prim false (.cop .eq) [(.var 2), (.cst (.int 4))]))])) [(.ret (.cst (.int 4)))] []),
  (.ret (.prim false .neg [(.cst (.int 1))]))]⟩
/-- law_asked ['_law_house', '_law_deed', '_law_name', '_law_letter'] ['_law_e'] -/
noncomputable def fn16 : Fn := ⟨4, 1, [(.try_ [(.ite (.prim false (.cop .eq) [(.var 1), (.cst (.int 0))]) [(.expr (.meth 0 31 ['s', 'e', 'n', 'd'] (.var 0) [(.var 2), (.var 3)]))] [(.ite (.prim false (.cop .eq) [(.var 1), (.cst (.int 1))]) [(.expr (.meth 0 32 ['w', 'o', 'r', 'k'] (.var 0) [(.var 2)]))] [(.ite (.prim false (.cop .eq) [(.var 1), (.cst (.int 2))]) [(.expr (.meth 0 33 ['f', 'a', 'i', 'l'] (.var 0) [(.var 2)]))] [(.ite (.prim false (.cop .eq) [(.var 1), (.cst (.int 3))]) [(.expr (.meth 0 38 ['w', 'a', 'i', 't', 's'] (.var 0) [(.var 2)]))] [(.ite (.prim false (.cop .eq) [(.var 1), (.cst (.int 4))]) [(.expr (.meth 0 39 ['s', 'u', 'm', '_', 'o', 'f'] (.var 0) [(.var 2)]))] [(.expr (.meth 0 40 ['h', 'o', 'u', 'r', 's'] (.var 0) [(.var 2)]))])])])])])] 0 (some 4) [(.ret (.call 13 [(.var 4)]))]),
  (.ret (.prim false .mklist [(.prim false .neg [(.cst (.int 1))])]))]⟩
/-- law_told ['_law_house', '_law_names_here'] [] -/
noncomputable def fn17 : Fn := ⟨2, 0, [(.ret (.prim false .mklist [(.meth 0 34 ['i', 's', '_', 'o', 'p', 'e', 'n'] (.var 0) []), (.meth 0 35 ['h', 'o', 'u', 'r'] (.var 0) []), (.meth 0 36 ['h', 'e', 'r', 'e'] (.var 0) []), (.meth 0 37 ['h', 'i', 's', 't', 'o', 'r', 'y'] (.var 0) []), (.comp false (.meth 0 38 ['w', 'a', 'i', 't', 's'] (.var 0) [(.prim false .item [(.var 1), (.var 2)])]) (.prim false .mklist [(.cst (.int 1)), (.cst (.int 2)), (.cst (.int 4))]) none)]))]⟩
/-- law_again ['_law_house', '_law_way', '_law_names_here'] [] -/
noncomputable def fn18 : Fn := ⟨3, 0, [(.ite (.prim false (.cop .eq) [(.var 1), (.cst (.int 4))]) [(.ret (.prim false .not [(.meth 0 34 ['i', 's', '_', 'o', 'p', 'e', 'n'] (.var 0) [])]))] []),
  (.ite (.prim false (.cop .eq) [(.var 1), (.cst (.int 2))]) [(.expr (.meth 0 33 ['f', 'a', 'i', 'l'] (.var 0) [(.prim false .item [(.var 2), (.cst (.int 3))])]))] []),
  (.ite (.prim false (.cop .eq) [(.var 1), (.cst (.int 1))]) [(.expr (.meth 0 33 ['f', 'a', 'i', 'l'] (.var 0) [(.prim false .item [(.var 2), (.cst (.int 0))])])),
  (.ret (.prim false .not [(.meth 0 34 ['i', 's', '_', 'o', 'p', 'e', 'n'] (.var 0) [])]))] []),
  (.expr (.meth 0 31 ['s', 'e', 'n', 'd'] (.var 0) [(.prim false .item [(.var 2), (.cst (.int 4))]), (.prim false .mktup [(.cst (.str ['a', 'd', 'd'])), (.cst (.int 7))])])),
  (.ret (.and (.prim false (.isinst .list) [(.meth 0 32 ['w', 'o', 'r', 'k'] (.var 0) [(.prim false .item [(.var 2), (.cst (.int 4))])])]) (.prim false (.cop .in_) [(.prim false .item [(.var 2), (.cst (.int 4))]), (.meth 0 36 ['h', 'e', 'r', 'e'] (.var 0) [])])))]⟩
/-- law ['_law_script'] ['_law_names_here', '_law_way', '_law_cell', '_law_at', '_law_name', '_law_letter', '_law_good', '_law_deed', '_law_house', '_law_ahead', '_law_due_here'] -/
noncomputable def fn19 : Fn := ⟨1, 11, [(.asg 1 (.call 11 [(.call 9 [(.var 0), (.cst (.int 0))]), (.cst (.int 6))])),
  (.asg 2 (.prim false (.bop .mod) [(.call 9 [(.var 0), (.cst (.int 1))]), (.cst (.int 5))])),
  (.asg 3 (.call 9 [(.var 0), (.cst (.int 2))])),
  (.asg 4 (.prim false (.bop .mod) [(.var 3), (.cst (.int 7))])),
  (.asg 5 (.prim false .item [(.var 1), (.prim false .min [(.var 4), (.cst (.int 5))])])),
  (.ite (.prim false (.cop .eq) [(.var 4), (.cst (.int 6))]) [(.asg 5 (.prim false .item [(.prim false .mklist [(.cst (.str [])), (.cst (.str ['A'])), (.cst .none), (.cst (.int 5)), (.prim false .mklist [(.prim false .item [(.var 1), (.cst (.int 1))])]), (.prim false .mktup [(.prim false .item [(.var 1), (.cst (.int 1))])]), (.prim false (.mkdict []) []), (.prim false (.bop .add) [(.prim false .item [(.var 1), (.cst (.int 1))]), (.cst (.str ['a', 'b', 'c', 'd', 'e', 'f', 'g', 'h']))])]), (.prim false (.bop .mod) [(.prim false (.bop .fdiv) [(.var 3), (.cst (.int 7))]), (.cst (.int 8))])]))] []),
  (.asg 6 (.call 12 [(.prim false (.bop .fdiv) [(.call 9 [(.var 0), (.cst (.int 3))]), (.cst (.int 2))])])),
  (.asg 7 (.prim false (.cop .eq) [(.prim false (.bop .mod) [(.call 9 [(.var 0), (.cst (.int 3))]), (.cst (.int 2))]), (.cst (.int 0))])),
  (.ite (.prim false .not [(.var 7)]) [(.asg 3 (.prim false (.bop .fdiv) [(.call 9 [(.var 0), (.cst (.int 3))]), (.cst (.int 2))])),
  (.asg 6 (.prim false .item [(.prim false .mklist [(.cst .none), (.prim false .mktup [(.cst (.str ['a', 'd', 'd']))]), (.prim false .mktup [(.cst (.str ['a', 'd', 'd'])), (.prim false (.bop .add) [(.prim false (.bop .pow) [(.cst (.int 10)), (.cst (.int 9))]), (.cst (.int 1))])]), (.prim false .mklist [(.cst (.str ['l', 'e', 'a', 'v', 'e']))]), (.cst (.str ['f', 'a', 'u', 'l', 't'])), (.prim false .mktup [(.cst (.str ['f', 'a', 'u', 'l', 't'])), (.cst (.int 1))]), (.prim false .mktup [(.cst (.str ['a', 'd', 'd'])), (.cst (.bool true))]), (.cst (.int 7))]), (.prim false (.bop .mod) [(.var 3), (.cst (.int 8))])]))] []),
  (.forIn false (.inl 8) (.prim false .range1 [(.cst (.int 6))]) [(.asg 9 (.call 14 [(.var 1), (.var 2)])),
  (.asg 10 (.call 17 [(.var 9), (.var 1)])),
  (.asg 11 (.call 15 [(.var 2), (.var 8), (.var 4), (.var 7)])),
  (.ite (.prim false (.cop .ne) [(.call 16 [(.var 9), (.var 8), (.var 5), (.var 6)]), (.prim false .mklist [(.var 11)])]) [(.ret (.cst (.bool false)))] []),
  (.ite (.and (.prim false (.cop .gt) [(.var 11), (.prim false .neg [(.cst (.int 1))])]) (.prim false (.cop .ne) [(.call 17 [(.var 9), (.var 1)]), (.var 10)])) [(.ret (.cst (.bool false)))] []),
  (.ite (.and (.prim false (.cop .gt) [(.var 11), (.prim false .neg [(.cst (.int 1))])]) (.prim false .not [(.call 18 [(.var 9), (.var 2), (.var 1)])])) [(.ret (.cst (.bool false)))] [])]),
  (.ret (.cst (.bool true)))]⟩
/-- init__ ['self', 'plan'] ['part'] -/
noncomputable def fn20 : Fn := ⟨2, 1, [(.ite (.prim false .not [(.call 5 [(.var 1)])]) [(.raise 1)] []),
  (.setAttr (.var 0) ['p', 'l', 'a', 'n'] (.var 1)),
  (.setAttr (.var 0) ['r', 'o', 'w'] (.prim true .mklist [])),
  (.setAttr (.var 0) ['p', 'a', 'r', 't', 's'] (.prim true (.mkdict []) [])),
  (.setAttr (.var 0) ['c', 'h', 'i', 'e', 'f'] (.prim true .mkdict1 [(.prim false .item [(.var 1), (.cst (.int 1))]), (.cst .none)])),
  (.setAttr (.var 0) ['p', 'r', 'e', 's', 'e', 'n', 't'] (.prim true (.mkdict []) [])),
  (.setAttr (.var 0) ['s', 'u', 'm', 's'] (.prim true (.mkdict []) [])),
  (.setAttr (.var 0) ['k', 'e', 'p', 't'] (.prim true (.mkdict []) [])),
  (.setAttr (.var 0) ['q', 'u', 'e', 'u', 'e', 's'] (.prim true (.mkdict []) [])),
  (.forIn false (.inl 2) (.call 6 [(.var 1)]) [(.expr (.meth 0 21 ['n', 'o', 't', 'e'] (.var 0) [(.var 2)]))]),
  (.setAttr (.var 0) ['c', 'l', 'o', 'c', 'k'] (.cst (.int 0))),
  (.setAttr (.var 0) ['l', 'e', 't', 't', 'e', 'r', 's'] (.cst (.int 0))),
  (.setAttr (.var 0) ['e', 'v', 'e', 'n', 't', 's'] (.prim true .mklist [])),
  (.expr (.meth 0 22 ['b', 'e', 'g', 'i', 'n'] (.var 0) [(.var 1)]))]⟩
/-- note ['self', 'part'] ['one'] -/
noncomputable def fn21 : Fn := ⟨2, 1, [(.expr (.mcall .list false .append (.prim false (.attr ['r', 'o', 'w']) [(.var 0)]) [(.prim false .item [(.var 1), (.cst (.int 1))])])),
  (.setItem (.prim false (.attr ['p', 'a', 'r', 't', 's']) [(.var 0)]) (.prim false .item [(.var 1), (.cst (.int 1))]) (.var 1)),
  (.ite (.prim false (.cop .eq) [(.prim false .item [(.var 1), (.cst (.int 0))]), (.cst (.str ['w', 'o', 'r', 'k', 'e', 'r']))]) [(.setItem (.prim false (.attr ['q', 'u', 'e', 'u', 'e', 's']) [(.var 0)]) (.prim false .item [(.var 1), (.cst (.int 1))]) (.prim true .mklist []))] [(.forIn false (.inl 2) (.prim false .item [(.var 1), (.cst (.int 5))]) [(.setItem (.prim false (.attr ['c', 'h', 'i', 'e', 'f']) [(.var 0)]) (.prim false .item [(.var 2), (.cst (.int 1))]) (.var 1))])])]⟩
/-- begin ['self', 'part'] ['one'] -/
noncomputable def fn22 : Fn := ⟨2, 1, [(.setItem (.prim false (.attr ['p', 'r', 'e', 's', 'e', 'n', 't']) [(.var 0)]) (.prim false .item [(.var 1), (.cst (.int 1))]) (.cst (.bool true))),
  (.expr (.mcall .list false .append (.prim false (.attr ['e', 'v', 'e', 'n', 't', 's']) [(.var 0)]) [(.prim false .mktup [(.cst (.str ['b', 'e', 'g', 'i', 'n', 's'])), (.prim false .item [(.var 1), (.cst (.int 1))])])])),
  (.ite (.prim false (.cop .eq) [(.prim false .item [(.var 1), (.cst (.int 0))]), (.cst (.str ['w', 'o', 'r', 'k', 'e', 'r']))]) [(.setItem (.prim false (.attr ['s', 'u', 'm', 's']) [(.var 0)]) (.prim false .item [(.var 1), (.cst (.int 1))]) (.cst (.int 0)))] [(.setItem (.prim false (.attr ['k', 'e', 'p', 't']) [(.var 0)]) (.prim false .item [(.var 1), (.cst (.int 1))]) (.prim true .mklist [])),
  (.forIn false (.inl 2) (.prim false .item [(.var 1), (.cst (.int 5))]) [(.expr (.meth 0 22 ['b', 'e', 'g', 'i', 'n'] (.var 0) [(.var 2)]))])])]⟩
/-- end_parts ['self', 'part'] ['one'] -/
noncomputable def fn23 : Fn := ⟨2, 1, [(.ite (.prim false (.cop .eq) [(.prim false .item [(.var 1), (.cst (.int 0))]), (.cst (.str ['w', 'a', 'r', 'd', 'e', 'n']))]) [(.forIn true (.inl 2) (.prim false .item [(.var 1), (.cst (.int 5))]) [(.ite (.prim false (.cop .in_) [(.prim false .item [(.var 2), (.cst (.int 1))]), (.prim false (.attr ['p', 'r', 'e', 's', 'e', 'n', 't']) [(.var 0)])]) [(.expr (.meth 0 24 ['e', 'n', 'd'] (.var 0) [(.var 2)]))] [])])] [])]⟩
/-- end ['self', 'part'] [] -/
noncomputable def fn24 : Fn := ⟨2, 0, [(.expr (.meth 0 23 ['e', 'n', 'd', '_', 'p', 'a', 'r', 't', 's'] (.var 0) [(.var 1)])),
  (.expr (.mcall .dict false .dpop (.prim false (.attr ['p', 'r', 'e', 's', 'e', 'n', 't']) [(.var 0)]) [(.prim false .item [(.var 1), (.cst (.int 1))])])),
  (.expr (.mcall .list false .append (.prim false (.attr ['e', 'v', 'e', 'n', 't', 's']) [(.var 0)]) [(.prim false .mktup [(.cst (.str ['e', 'n', 'd', 's'])), (.prim false .item [(.var 1), (.cst (.int 1))])])]))]⟩
/-- fall ['self', 'part'] [] -/
noncomputable def fn25 : Fn := ⟨2, 0, [(.expr (.mcall .list false .append (.prim false (.attr ['e', 'v', 'e', 'n', 't', 's']) [(.var 0)]) [(.prim false .mktup [(.cst (.str ['f', 'a', 'i', 'l', 's'])), (.prim false .item [(.var 1), (.cst (.int 1))])])])),
  (.expr (.mcall .dict false .dpop (.prim false (.attr ['p', 'r', 'e', 's', 'e', 'n', 't']) [(.var 0)]) [(.prim false .item [(.var 1), (.cst (.int 1))])])),
  (.expr (.meth 0 23 ['e', 'n', 'd', '_', 'p', 'a', 'r', 't', 's'] (.var 0) [(.var 1)])),
  (.ite (.and (.prim false (.cop .eq) [(.prim false .item [(.var 1), (.cst (.int 0))]), (.cst (.str ['w', 'o', 'r', 'k', 'e', 'r']))]) (.prim false (.cop .eq) [(.prim false .item [(.var 1), (.cst (.int 2))]), (.cst (.str ['n', 'e', 'v', 'e', 'r']))])) [(.ret (.cst .none))] []),
  (.ite (.prim false (.cop .isnot) [(.prim false .item [(.prim false (.attr ['c', 'h', 'i', 'e', 'f']) [(.var 0)]), (.prim false .item [(.var 1), (.cst (.int 1))])]), (.cst .none)]) [(.expr (.meth 0 26 ['f', 'o', 'l', 'l', 'o', 'w'] (.var 0) [(.prim false .item [(.prim false (.attr ['c', 'h', 'i', 'e', 'f']) [(.var 0)]), (.prim false .item [(.var 1), (.cst (.int 1))])]), (.var 1)]))] [])]⟩
/-- follow ['self', 'warden', 'part'] ['kept', 'at', 'places', 'place', 'were', 'one'] -/
noncomputable def fn26 : Fn := ⟨3, 6, [(.asg 3 (.prim false .item [(.prim false (.attr ['k', 'e', 'p', 't']) [(.var 0)]), (.prim false .item [(.var 1), (.cst (.int 1))])])),
  (.expr (.mcall .list false .append (.var 3) [(.prim false (.attr ['c', 'l', 'o', 'c', 'k']) [(.var 0)])])),
  (.ite (.prim false (.cop .gt) [(.prim false .len [(.call 7 [(.var 3), (.prim false (.attr ['c', 'l', 'o', 'c', 'k']) [(.var 0)]), (.prim false .item [(.var 1), (.cst (.int 4))])])]), (.prim false .item [(.var 1), (.cst (.int 3))])]) [(.expr (.meth 0 25 ['f', 'a', 'l', 'l'] (.var 0) [(.var 1)])),
  (.ret (.cst .none))] []),
  (.asg 4 (.mcall .tup false .index (.prim false .item [(.var 1), (.cst (.int 5))]) [(.var 2)])),
  (.asg 5 (.call 8 [(.prim false .item [(.var 1), (.cst (.int 2))]), (.prim false .len [(.prim false .item [(.var 1), (.cst (.int 5))])]), (.var 4)])),
  (.asg 7 (.comp false (.var 9) (.var 5) (some (.prim false (.cop .in_) [(.prim false .item [(.prim false .item [(.prim false .item [(.var 1), (.cst (.int 5))]), (.var 9)]), (.cst (.int 1))]), (.prim false (.attr ['p', 'r', 'e', 's', 'e', 'n', 't']) [(.var 0)])])))),
  (.forIn true (.inl 6) (.var 7) [(.expr (.meth 0 24 ['e', 'n', 'd'] (.var 0) [(.prim false .item [(.prim false .item [(.var 1), (.cst (.int 5))]), (.var 6)])]))]),
  (.forIn false (.inl 6) (.var 5) [(.asg 8 (.prim false .item [(.prim false .item [(.var 1), (.cst (.int 5))]), (.var 6)])),
  (.ite (.or (.prim false (.cop .eq) [(.var 6), (.var 4)]) (.and (.prim false (.cop .in_) [(.var 6), (.var 7)]) (.prim false .not [(.and (.prim false (.cop .eq) [(.prim false .item [(.var 8), (.cst (.int 0))]), (.cst (.str ['w', 'o', 'r', 'k', 'e', 'r']))]) (.prim false (.cop .eq) [(.prim false .item [(.var 8), (.cst (.int 2))]), (.cst (.str ['n', 'e', 'v', 'e', 'r']))]))]))) [(.expr (.meth 0 22 ['b', 'e', 'g', 'i', 'n'] (.var 0) [(.var 8)]))] [])])]⟩
/-- lose ['self'] ['name', 'number', 'letter'] -/
noncomputable def fn27 : Fn := ⟨1, 3, [(.forIn false (.inl 1) (.prim false (.attr ['r', 'o', 'w']) [(.var 0)]) [(.ite (.and (.prim false (.cop .in_) [(.var 1), (.prim false (.attr ['q', 'u', 'e', 'u', 'e', 's']) [(.var 0)])]) (.prim false (.cop .notin) [(.var 1), (.prim false (.attr ['p', 'r', 'e', 's', 'e', 'n', 't']) [(.var 0)])])) [(.forIn false (.inr [2, 3]) (.prim false .item [(.prim false (.attr ['q', 'u', 'e', 'u', 'e', 's']) [(.var 0)]), (.var 1)]) [(.expr (.mcall .list false .append (.prim false (.attr ['e', 'v', 'e', 'n', 't', 's']) [(.var 0)]) [(.prim false .mktup [(.cst (.str ['l', 'o', 's', 't'])), (.var 1), (.var 2)])]))]),
  (.setItem (.prim false (.attr ['q', 'u', 'e', 'u', 'e', 's']) [(.var 0)]) (.var 1) (.prim true .mklist []))] [])])]⟩
/-- need_open ['self'] [] -/
noncomputable def fn28 : Fn := ⟨1, 0, [(.ite (.prim false .not [(.meth 0 34 ['i', 's', '_', 'o', 'p', 'e', 'n'] (.var 0) [])]) [(.raise 6)] [])]⟩
/-- need_worker ['self', 'name'] [] -/
noncomputable def fn29 : Fn := ⟨2, 0, [(.ite (.or (.prim false .not [(.call 1 [(.var 1)])]) (.prim false (.cop .notin) [(.var 1), (.prim false (.attr ['q', 'u', 'e', 'u', 'e', 's']) [(.var 0)])])) [(.raise 3)] [])]⟩
/-- need_here ['self', 'name'] [] -/
noncomputable def fn30 : Fn := ⟨2, 0, [(.ite (.prim false (.cop .notin) [(.var 1), (.prim false (.attr ['p', 'r', 'e', 's', 'e', 'n', 't']) [(.var 0)])]) [(.raise 4)] [])]⟩
/-- send ['self', 'name', 'letter'] [] -/
noncomputable def fn31 : Fn := ⟨3, 0, [(.expr (.meth 0 28 ['n', 'e', 'e', 'd', '_', 'o', 'p', 'e', 'n'] (.var 0) [])),
  (.ite (.prim false .not [(.call 2 [(.var 2)])]) [(.raise 2)] []),
  (.expr (.meth 0 29 ['n', 'e', 'e', 'd', '_', 'w', 'o', 'r', 'k', 'e', 'r'] (.var 0) [(.var 1)])),
  (.expr (.meth 0 30 ['n', 'e', 'e', 'd', '_', 'h', 'e', 'r', 'e'] (.var 0) [(.var 1)])),
  (.setAttr (.var 0) ['l', 'e', 't', 't', 'e', 'r', 's'] (.prim false (.bop .add) [(.prim false (.attr ['l', 'e', 't', 't', 'e', 'r', 's']) [(.var 0)]), (.cst (.int 1))])),
  (.expr (.mcall .list false .append (.prim false .item [(.prim false (.attr ['q', 'u', 'e', 'u', 'e', 's']) [(.var 0)]), (.var 1)]) [(.prim false .mktup [(.prim false (.attr ['l', 'e', 't', 't', 'e', 'r', 's']) [(.var 0)]), (.var 2)])])),
  (.expr (.mcall .list false .append (.prim false (.attr ['e', 'v', 'e', 'n', 't', 's']) [(.var 0)]) [(.prim false .mktup [(.cst (.str ['s', 'e', 'n', 't'])), (.var 1), (.prim false (.attr ['l', 'e', 't', 't', 'e', 'r', 's']) [(.var 0)]), (.var 2)])])),
  (.ret (.prim false (.attr ['l', 'e', 't', 't', 'e', 'r', 's']) [(.var 0)]))]⟩
/-- work ['self', 'name'] ['first', 'number', 'letter', 'part'] -/
noncomputable def fn32 : Fn := ⟨2, 4, [(.expr (.meth 0 28 ['n', 'e', 'e', 'd', '_', 'o', 'p', 'e', 'n'] (.var 0) [])),
  (.expr (.meth 0 29 ['n', 'e', 'e', 'd', '_', 'w', 'o', 'r', 'k', 'e', 'r'] (.var 0) [(.var 1)])),
  (.expr (.meth 0 30 ['n', 'e', 'e', 'd', '_', 'h', 'e', 'r', 'e'] (.var 0) [(.var 1)])),
  (.ite (.prim false (.cop .eq) [(.prim false .len [(.prim false .item [(.prim false (.attr ['q', 'u', 'e', 'u', 'e', 's']) [(.var 0)]), (.var 1)])]), (.cst (.int 0))]) [(.raise 5)] []),
  (.asg 2 (.prim false .len [(.prim false (.attr ['e', 'v', 'e', 'n', 't', 's']) [(.var 0)])])),
  (.setAttr (.var 0) ['c', 'l', 'o', 'c', 'k'] (.prim false (.bop .add) [(.prim false (.attr ['c', 'l', 'o', 'c', 'k']) [(.var 0)]), (.cst (.int 1))])),
  (.asgTup [3, 4] (.mcall .list false .pop0 (.prim false .item [(.prim false (.attr ['q', 'u', 'e', 'u', 'e', 's']) [(.var 0)]), (.var 1)]) [(.cst (.int 0))])),
  (.expr (.mcall .list false .append (.prim false (.attr ['e', 'v', 'e', 'n', 't', 's']) [(.var 0)]) [(.prim false .mktup [(.cst (.str ['w', 'o', 'r', 'k', 's'])), (.var 1), (.var 3)])])),
  (.asg 5 (.prim false .item [(.prim false (.attr ['p', 'a', 'r', 't', 's']) [(.var 0)]), (.var 1)])),
  (.ite (.prim false (.cop .eq) [(.prim false .item [(.var 4), (.cst (.int 0))]), (.cst (.str ['a', 'd', 'd']))]) [(.setItem (.prim false (.attr ['s', 'u', 'm', 's']) [(.var 0)]) (.var 1) (.prim false (.bop .add) [(.prim false .item [(.prim false (.attr ['s', 'u', 'm', 's']) [(.var 0)]), (.var 1)]), (.prim false .item [(.var 4), (.cst (.int 1))])]))] [(.ite (.prim false (.cop .eq) [(.prim false .item [(.var 4), (.cst (.int 0))]), (.cst (.str ['f', 'a', 'u', 'l', 't']))]) [(.expr (.meth 0 25 ['f', 'a', 'l', 'l'] (.var 0) [(.var 5)]))] [(.expr (.mcall .list false .append (.prim false (.attr ['e', 'v', 'e', 'n', 't', 's']) [(.var 0)]) [(.prim false .mktup [(.cst (.str ['l', 'e', 'a', 'v', 'e', 's'])), (.var 1)])])),
  (.expr (.mcall .dict false .dpop (.prim false (.attr ['p', 'r', 'e', 's', 'e', 'n', 't']) [(.var 0)]) [(.var 1)])),
  (.ite (.prim false (.cop .eq) [(.prim false .item [(.var 5), (.cst (.int 2))]), (.cst (.str ['a', 'l', 'w', 'a', 'y', 's']))]) [(.expr (.meth 0 26 ['f', 'o', 'l', 'l', 'o', 'w'] (.var 0) [(.prim false .item [(.prim false (.attr ['c', 'h', 'i', 'e', 'f']) [(.var 0)]), (.var 1)]), (.var 5)]))] [])])]),
  (.expr (.meth 0 27 ['l', 'o', 's', 'e'] (.var 0) [])),
  (.ret (.prim false .slice [(.prim false (.attr ['e', 'v', 'e', 'n', 't', 's']) [(.var 0)]), (.var 2), (.cst .none)]))]⟩
/-- fail ['self', 'name'] ['first'] -/
noncomputable def fn33 : Fn := ⟨2, 1, [(.expr (.meth 0 28 ['n', 'e', 'e', 'd', '_', 'o', 'p', 'e', 'n'] (.var 0) [])),
  (.ite (.or (.prim false .not [(.call 1 [(.var 1)])]) (.prim false (.cop .notin) [(.var 1), (.prim false (.attr ['p', 'a', 'r', 't', 's']) [(.var 0)])])) [(.raise 3)] []),
  (.expr (.meth 0 30 ['n', 'e', 'e', 'd', '_', 'h', 'e', 'r', 'e'] (.var 0) [(.var 1)])),
  (.asg 2 (.prim false .len [(.prim false (.attr ['e', 'v', 'e', 'n', 't', 's']) [(.var 0)])])),
  (.setAttr (.var 0) ['c', 'l', 'o', 'c', 'k'] (.prim false (.bop .add) [(.prim false (.attr ['c', 'l', 'o', 'c', 'k']) [(.var 0)]), (.cst (.int 1))])),
  (.expr (.meth 0 25 ['f', 'a', 'l', 'l'] (.var 0) [(.prim false .item [(.prim false (.attr ['p', 'a', 'r', 't', 's']) [(.var 0)]), (.var 1)])])),
  (.expr (.meth 0 27 ['l', 'o', 's', 'e'] (.var 0) [])),
  (.ret (.prim false .slice [(.prim false (.attr ['e', 'v', 'e', 'n', 't', 's']) [(.var 0)]), (.var 2), (.cst .none)]))]⟩
/-- is_open ['self'] [] -/
noncomputable def fn34 : Fn := ⟨1, 0, [(.ret (.prim false (.cop .in_) [(.prim false .item [(.prim false (.attr ['p', 'l', 'a', 'n']) [(.var 0)]), (.cst (.int 1))]), (.prim false (.attr ['p', 'r', 'e', 's', 'e', 'n', 't']) [(.var 0)])]))]⟩
/-- hour ['self'] [] -/
noncomputable def fn35 : Fn := ⟨1, 0, [(.ret (.prim false (.attr ['c', 'l', 'o', 'c', 'k']) [(.var 0)]))]⟩
/-- here ['self'] [] -/
noncomputable def fn36 : Fn := ⟨1, 0, [(.ret (.comp false (.var 1) (.prim false (.attr ['r', 'o', 'w']) [(.var 0)]) (some (.prim false (.cop .in_) [(.var 1), (.prim false (.attr ['p', 'r', 'e', 's', 'e', 'n', 't']) [(.var 0)])]))))]⟩
/-- history ['self'] [] -/
noncomputable def fn37 : Fn := ⟨1, 0, [(.ret (.prim false .list [(.prim false (.attr ['e', 'v', 'e', 'n', 't', 's']) [(.var 0)])]))]⟩
/-- waits ['self', 'name'] [] -/
noncomputable def fn38 : Fn := ⟨2, 0, [(.expr (.meth 0 29 ['n', 'e', 'e', 'd', '_', 'w', 'o', 'r', 'k', 'e', 'r'] (.var 0) [(.var 1)])),
  (.ret (.comp false (.prim false .item [(.var 2), (.cst (.int 0))]) (.prim false .item [(.prim false (.attr ['q', 'u', 'e', 'u', 'e', 's']) [(.var 0)]), (.var 1)]) none))]⟩
/-- sum_of ['self', 'name'] [] -/
noncomputable def fn39 : Fn := ⟨2, 0, [(.expr (.meth 0 29 ['n', 'e', 'e', 'd', '_', 'w', 'o', 'r', 'k', 'e', 'r'] (.var 0) [(.var 1)])),
  (.expr (.meth 0 30 ['n', 'e', 'e', 'd', '_', 'h', 'e', 'r', 'e'] (.var 0) [(.var 1)])),
  (.ret (.prim false .item [(.prim false (.attr ['s', 'u', 'm', 's']) [(.var 0)]), (.var 1)]))]⟩
/-- hours ['self', 'name'] [] -/
noncomputable def fn40 : Fn := ⟨2, 0, [(.ite (.or (.prim false .not [(.call 1 [(.var 1)])]) (.or (.prim false (.cop .notin) [(.var 1), (.prim false (.attr ['p', 'a', 'r', 't', 's']) [(.var 0)])]) (.prim false (.cop .ne) [(.prim false .item [(.prim false .item [(.prim false (.attr ['p', 'a', 'r', 't', 's']) [(.var 0)]), (.var 1)]), (.cst (.int 0))]), (.cst (.str ['w', 'a', 'r', 'd', 'e', 'n']))]))) [(.raise 3)] []),
  (.expr (.meth 0 30 ['n', 'e', 'e', 'd', '_', 'h', 'e', 'r', 'e'] (.var 0) [(.var 1)])),
  (.ret (.call 7 [(.prim false .item [(.prim false (.attr ['k', 'e', 'p', 't']) [(.var 0)]), (.var 1)]), (.prim false (.attr ['c', 'l', 'o', 'c', 'k']) [(.var 0)]), (.prim false .item [(.prim false .item [(.prim false (.attr ['p', 'a', 'r', 't', 's']) [(.var 0)]), (.var 1)]), (.cst (.int 4))])]))]⟩
noncomputable def fnsL : List Fn := [fn0, fn1, fn2, fn3, fn4, fn5, fn6, fn7, fn8, fn9, fn10, fn11, fn12, fn13, fn14, fn15, fn16, fn17, fn18, fn19, fn20, fn21, fn22, fn23, fn24, fn25, fn26, fn27, fn28, fn29, fn30, fn31, fn32, fn33, fn34, fn35, fn36, fn37, fn38, fn39, fn40]
noncomputable def subsL : List (List Nat) := [[0], [1, 0], [2, 0], [3, 0], [4, 0], [5, 0], [6, 0], [7, 0], [8, 0]]
noncomputable def PL : Prog := progX fnsL subsL
theorem P_fn0 : PL.fns 0 = some fn0 := rfl
theorem P_fn1 : PL.fns 1 = some fn1 := rfl
theorem P_fn2 : PL.fns 2 = some fn2 := rfl
theorem P_fn9 : PL.fns 9 = some fn9 := rfl
theorem P_fn11 : PL.fns 11 = some fn11 := rfl
theorem P_fn12 : PL.fns 12 = some fn12 := rfl
theorem P_fn19 : PL.fns 19 = some fn19 := rfl
end Mine

end
noncomputable section
namespace Mine
open PySem
/-- the stand-in of the i-th name -/
noncomputable def nmK (i : Nat) : List Char := [Char.ofNat (57344 + i)]
noncomputable def nmS (i : Nat) : V := .str (nmK i)
noncomputable def nms6 : V := .lst [nmS 0, nmS 1, nmS 2, nmS 3, nmS 4, nmS 5]
noncomputable def w1V : V := .tup [.str ['w', 'o', 'r', 'k', 'e', 'r'], .str (nmK 1), .str ['a', 'l', 'w', 'a', 'y', 's']]
noncomputable def w2V : V := .tup [.str ['w', 'o', 'r', 'k', 'e', 'r'], .str (nmK 2), .str ['n', 'e', 'v', 'e', 'r']]
noncomputable def w4V : V := .tup [.str ['w', 'o', 'r', 'k', 'e', 'r'], .str (nmK 4), .str ['f', 'a', 'u', 'l', 't', 'e', 'd']]
noncomputable def inV5 : V := .tup [.str ['w', 'a', 'r', 'd', 'e', 'n'], .str (nmK 3), .str ['o', 'n', 'e'], .int 5, .int 5, .tup [w4V]]
noncomputable def plV : V := .tup [.str ['w', 'a', 'r', 'd', 'e', 'n'], .str (nmK 0), .str ['r', 'e', 's', 't'], .int 2, .int 9, .tup [w1V, w2V, inV5]]
noncomputable def atK : List (List Char) := [['p', 'l', 'a', 'n'], ['r', 'o', 'w'], ['p', 'a', 'r', 't', 's'], ['c', 'h', 'i', 'e', 'f'], ['p', 'r', 'e', 's', 'e', 'n', 't'], ['s', 'u', 'm', 's'], ['k', 'e', 'p', 't'], ['q', 'u', 'e', 'u', 'e', 's'], ['c', 'l', 'o', 'c', 'k'], ['l', 'e', 't', 't', 'e', 'r', 's'], ['e', 'v', 'e', 'n', 't', 's']]
noncomputable def k_begins : List Char := ['b', 'e', 'g', 'i', 'n', 's']
noncomputable def k_ends : List Char := ['e', 'n', 'd', 's']
noncomputable def k_fails : List Char := ['f', 'a', 'i', 'l', 's']
noncomputable def k_sent : List Char := ['s', 'e', 'n', 't']
noncomputable def k_works : List Char := ['w', 'o', 'r', 'k', 's']
noncomputable def k_leaves : List Char := ['l', 'e', 'a', 'v', 'e', 's']
noncomputable def k_leave : List Char := ['l', 'e', 'a', 'v', 'e']
noncomputable def k_add : List Char := ['a', 'd', 'd']
noncomputable def hW0 : AH := [.ns atK [plV, .ref 4, .ref 5, .ref 6, .ref 7, .ref 8, .ref 9, .ref 10, .int 0, .int 0, .ref 19],
  .inst 0 0,
  .list [],
  .dict [(nmK 0), (nmK 3), (nmK 4), (nmK 2), (nmK 1)] [.bool true, .bool true, .bool true, .bool true, .bool true],
  .list [.str (nmK 0), .str (nmK 1), .str (nmK 2), .str (nmK 3), .str (nmK 4)],
  .dict [(nmK 0), (nmK 1), (nmK 2), (nmK 3), (nmK 4)] [plV, w1V, w2V, inV5, w4V],
  .dict [(nmK 0), (nmK 1), (nmK 2), (nmK 3), (nmK 4)] [.none, plV, plV, plV, inV5],
  .dict [(nmK 0), (nmK 1), (nmK 2), (nmK 3), (nmK 4)] [.bool true, .bool true, .bool true, .bool true, .bool true],
  .dict [(nmK 1), (nmK 2), (nmK 4)] [.int 0, .int 0, .int 0],
  .dict [(nmK 0), (nmK 3)] [.ref 20, .ref 21],
  .dict [(nmK 1), (nmK 2), (nmK 4)] [.ref 16, .ref 17, .ref 18],
  .list [plV, w1V, w2V, inV5, w4V],
  .list [w1V],
  .list [w2V],
  .list [inV5, w4V],
  .list [w4V],
  .list [],
  .list [],
  .list [],
  .list [.tup [.str k_begins, .str (nmK 0)], .tup [.str k_begins, .str (nmK 1)], .tup [.str k_begins, .str (nmK 2)], .tup [.str k_begins, .str (nmK 3)], .tup [.str k_begins, .str (nmK 4)]],
  .list [],
  .list []]
noncomputable def hW1 : AH := [.ns atK [plV, .ref 4, .ref 5, .ref 6, .ref 7, .ref 8, .ref 9, .ref 10, .int 1, .int 0, .ref 19],
  .inst 0 0,
  .list [],
  .dict [(nmK 0), (nmK 3), (nmK 4), (nmK 2), (nmK 1)] [.bool true, .bool true, .bool true, .bool true, .bool true],
  .list [.str (nmK 0), .str (nmK 1), .str (nmK 2), .str (nmK 3), .str (nmK 4)],
  .dict [(nmK 0), (nmK 1), (nmK 2), (nmK 3), (nmK 4)] [plV, w1V, w2V, inV5, w4V],
  .dict [(nmK 0), (nmK 1), (nmK 2), (nmK 3), (nmK 4)] [.none, plV, plV, plV, inV5],
  .dict [(nmK 0), (nmK 1), (nmK 3), (nmK 4)] [.bool true, .bool true, .bool true, .bool true],
  .dict [(nmK 1), (nmK 2), (nmK 4)] [.int 0, .int 0, .int 0],
  .dict [(nmK 0), (nmK 3)] [.ref 20, .ref 21],
  .dict [(nmK 1), (nmK 2), (nmK 4)] [.ref 16, .ref 22, .ref 18],
  .list [plV, w1V, w2V, inV5, w4V],
  .list [w1V],
  .list [w2V],
  .list [inV5, w4V],
  .list [w4V],
  .list [],
  .list [],
  .list [],
  .list [.tup [.str k_begins, .str (nmK 0)], .tup [.str k_begins, .str (nmK 1)], .tup [.str k_begins, .str (nmK 2)], .tup [.str k_begins, .str (nmK 3)], .tup [.str k_begins, .str (nmK 4)], .tup [.str k_fails, .str (nmK 2)]],
  .list [],
  .list [],
  .list []]
noncomputable def hW2 : AH := [.ns atK [plV, .ref 4, .ref 5, .ref 6, .ref 7, .ref 8, .ref 9, .ref 10, .int 1, .int 1, .ref 19],
  .inst 0 0,
  .list [],
  .dict [(nmK 0), (nmK 3), (nmK 4), (nmK 2), (nmK 1)] [.bool true, .bool true, .bool true, .bool true, .bool true],
  .list [.str (nmK 0), .str (nmK 1), .str (nmK 2), .str (nmK 3), .str (nmK 4)],
  .dict [(nmK 0), (nmK 1), (nmK 2), (nmK 3), (nmK 4)] [plV, w1V, w2V, inV5, w4V],
  .dict [(nmK 0), (nmK 1), (nmK 2), (nmK 3), (nmK 4)] [.none, plV, plV, plV, inV5],
  .dict [(nmK 0), (nmK 1), (nmK 2), (nmK 3)] [.bool true, .bool true, .bool true, .bool true],
  .dict [(nmK 1), (nmK 2), (nmK 4)] [.int 0, .int 0, .int 0],
  .dict [(nmK 0), (nmK 3)] [.ref 20, .ref 21],
  .dict [(nmK 1), (nmK 2), (nmK 4)] [.ref 16, .ref 17, .ref 22],
  .list [plV, w1V, w2V, inV5, w4V],
  .list [w1V],
  .list [w2V],
  .list [inV5, w4V],
  .list [w4V],
  .list [],
  .list [],
  .list [],
  .list [.tup [.str k_begins, .str (nmK 0)], .tup [.str k_begins, .str (nmK 1)], .tup [.str k_begins, .str (nmK 2)], .tup [.str k_begins, .str (nmK 3)], .tup [.str k_begins, .str (nmK 4)], .tup [.str k_sent, .str (nmK 4), .int 1, .tup [.str k_leave]], .tup [.str k_works, .str (nmK 4), .int 1], .tup [.str k_leaves, .str (nmK 4)]],
  .list [],
  .list [],
  .list []]
noncomputable def hW3 : AH := [.ns atK [plV, .ref 4, .ref 5, .ref 6, .ref 7, .ref 8, .ref 9, .ref 10, .int 0, .int 1, .ref 19],
  .inst 0 0,
  .list [],
  .dict [(nmK 0), (nmK 3), (nmK 4), (nmK 2), (nmK 1)] [.bool true, .bool true, .bool true, .bool true, .bool true],
  .list [.str (nmK 0), .str (nmK 1), .str (nmK 2), .str (nmK 3), .str (nmK 4)],
  .dict [(nmK 0), (nmK 1), (nmK 2), (nmK 3), (nmK 4)] [plV, w1V, w2V, inV5, w4V],
  .dict [(nmK 0), (nmK 1), (nmK 2), (nmK 3), (nmK 4)] [.none, plV, plV, plV, inV5],
  .dict [(nmK 0), (nmK 1), (nmK 2), (nmK 3), (nmK 4)] [.bool true, .bool true, .bool true, .bool true, .bool true],
  .dict [(nmK 1), (nmK 2), (nmK 4)] [.int 0, .int 0, .int 0],
  .dict [(nmK 0), (nmK 3)] [.ref 20, .ref 21],
  .dict [(nmK 1), (nmK 2), (nmK 4)] [.ref 16, .ref 17, .ref 18],
  .list [plV, w1V, w2V, inV5, w4V],
  .list [w1V],
  .list [w2V],
  .list [inV5, w4V],
  .list [w4V],
  .list [],
  .list [],
  .list [.tup [.int 1, .tup [.str k_add, .int 3]]],
  .list [.tup [.str k_begins, .str (nmK 0)], .tup [.str k_begins, .str (nmK 1)], .tup [.str k_begins, .str (nmK 2)], .tup [.str k_begins, .str (nmK 3)], .tup [.str k_begins, .str (nmK 4)], .tup [.str k_sent, .str (nmK 4), .int 1, .tup [.str k_add, .int 3]]],
  .list [],
  .list []]
noncomputable def hW4 : AH := [.ns atK [plV, .ref 4, .ref 5, .ref 6, .ref 7, .ref 8, .ref 9, .ref 10, .int 1, .int 0, .ref 19],
  .inst 0 0,
  .list [],
  .dict [(nmK 0), (nmK 3), (nmK 4), (nmK 2), (nmK 1)] [.bool true, .bool true, .bool true, .bool true, .bool true],
  .list [.str (nmK 0), .str (nmK 1), .str (nmK 2), .str (nmK 3), .str (nmK 4)],
  .dict [(nmK 0), (nmK 1), (nmK 2), (nmK 3), (nmK 4)] [plV, w1V, w2V, inV5, w4V],
  .dict [(nmK 0), (nmK 1), (nmK 2), (nmK 3), (nmK 4)] [.none, plV, plV, plV, inV5],
  .dict [] [],
  .dict [(nmK 1), (nmK 2), (nmK 4)] [.int 0, .int 0, .int 0],
  .dict [(nmK 0), (nmK 3)] [.ref 20, .ref 21],
  .dict [(nmK 1), (nmK 2), (nmK 4)] [.ref 22, .ref 23, .ref 24],
  .list [plV, w1V, w2V, inV5, w4V],
  .list [w1V],
  .list [w2V],
  .list [inV5, w4V],
  .list [w4V],
  .list [],
  .list [],
  .list [],
  .list [.tup [.str k_begins, .str (nmK 0)], .tup [.str k_begins, .str (nmK 1)], .tup [.str k_begins, .str (nmK 2)], .tup [.str k_begins, .str (nmK 3)], .tup [.str k_begins, .str (nmK 4)], .tup [.str k_fails, .str (nmK 0)], .tup [.str k_ends, .str (nmK 4)], .tup [.str k_ends, .str (nmK 3)], .tup [.str k_ends, .str (nmK 2)], .tup [.str k_ends, .str (nmK 1)]],
  .list [],
  .list [],
  .list [],
  .list [],
  .list []]
/-- the heap behind the house of each way -/
noncomputable def hW (w : Nat) : AH := [hW0, hW1, hW2, hW3, hW4].getD w []

/-- is_name and is_letter of stand-ins: 102 no name, 103 a letter, 104 no letter -/
noncomputable def t1 : V → Option Bool
  | .str s => if isNm s = true then some true else none
  | .exc k => if k = 102 then some false else none
  | _ => none
noncomputable def t2 : V → Option Bool
  | .exc k => if k = 103 then some true else if k = 104 then some false else none
  | _ => none
noncomputable def tab05 (f : Nat) (vs : List V) : Option Bool := if f = 1 then oneL t1 vs else if f = 2 then oneL t2 vs else none
noncomputable def ru05 (f : Nat) (vs : List V) (H : AH) : Rn V := (run PL tab05 64).c false f vs H
noncomputable def nmA (a : Nat) : V := if a < 6 then nmS a else .exc 102
noncomputable def val1 (r : Rn V) : Option (V × AH) := match r with
  | some (.val v H) => some (v, H)
  | _ => none
noncomputable def sameO : O → O → Bool
  | .list xs, .list ys => sames xs ys
  | .dict ks xs, .dict ls ys => (ls == ks) && sames xs ys
  | .inst a b, .inst c d => (c == a) && (d == b)
  | .ns ks xs, .ns ls ys => (ls == ks) && sames xs ys
  | _, _ => false
noncomputable def eqH : AH → AH → Bool
  | [], H => H.isEmpty
  | o :: H, H' => H'.head?.any (sameO o) && eqH H H'.tail
/-- the house of each way -/
noncomputable def hbOk (w : Nat) : Bool := (val1 (ru05 14 [nms6, .int w] [])).any fun p => p.1.at == some 1 && eqH (hW w) p.2
noncomputable def tdOk (w : Nat) : Bool := (val1 (ru05 17 [.ref 1, nms6] (hW w))).any fun p => V.data p.1 && decide (V.depth p.1 ≤ 50) && eqH (hW w) p.2
noncomputable def agOk (w : Nat) : Bool := (val1 (ru05 18 [.ref 1, .int w, nms6] (hW w))).any fun p => p.1.bol == some true
/-- a deed answers as it should, and leaves all as it was where it should refuse -/
noncomputable def dOk (w d a : Nat) (gs : List Bool) (l : V) : Bool := (val1 (ru05 16 [.ref 1, .int d, nmA a, l] (hW w))).any fun q => q.1.frz.any fun r => r.head?.any fun kv => kv.num.any fun k =>
  sames [.int k] r && gs.all (fun g => (val1 (ru05 15 [.int w, .int d, .int a, .bool g] [])).any fun p => p.2.isEmpty && p.1.num == some k) && (decide (k ≤ -1) || eqH (hW w) q.2)
noncomputable def d0 (w : Nat) : Bool := (List.range 7).all fun a => dOk w 0 a [true] (.exc 103) && dOk w 0 a [false] (.exc 104)
noncomputable def d1 (w d : Nat) : Bool := (List.range 7).all fun a => dOk w d a [true, false] (.exc 105)
theorem hb_all : (List.range 5).all hbOk = true := by decide +kernel
theorem td_all : (List.range 5).all tdOk = true := by decide +kernel
theorem ag_all : (List.range 5).all agOk = true := by decide +kernel
theorem d0_all : (List.range 5).all d0 = true := by decide +kernel
theorem d1_1 : (List.range 5).all (d1 · 1) = true := by decide +kernel
theorem d1_2 : (List.range 5).all (d1 · 2) = true := by decide +kernel
theorem d1_3 : (List.range 5).all (d1 · 3) = true := by decide +kernel
theorem d1_4 : (List.range 5).all (d1 · 4) = true := by decide +kernel
theorem d1_5 : (List.range 5).all (d1 · 5) = true := by decide +kernel
end Mine

end
noncomputable section
open PySem
set_option maxHeartbeats 4000000
namespace Mine

noncomputable def cellAt (zs : List Int) (k : Nat) : Int := zs.getD k 0

theorem compL_map {α : Type} {F : V → AH → (Option V → AH → Prop) → Prop} {ok : AH → Prop} {H : AH} {f g : α → V} (hok : ok H) : ∀ {l : List α} {acc : List V} {Q : List V → AH → Prop},
    (∀ a ∈ l, ∀ K : Option V → AH → Prop, K (some (g a)) H → F (f a) H K) → Q (acc ++ l.map g) H → compL F ok (l.map f) acc H Q
  | [], acc, Q, _, q => ⟨hok, List.append_nil acc ▸ q⟩
  | a :: l, acc, Q, hF, q => ⟨hok, hF a (.head _) _ (compL_map hok (fun b hb => hF b (.tail _ hb)) ((List.append_assoc acc [g a] (l.map g)).symm ▸ q))⟩
theorem compL_flt {α : Type} {F : V → AH → (Option V → AH → Prop) → Prop} {ok : AH → Prop} {H : AH} {f : α → V} {p : α → Bool} (hok : ok H) : ∀ {l : List α} {acc : List V} {Q : List V → AH → Prop},
    (∀ a ∈ l, ∀ K : Option V → AH → Prop, K (if p a = true then some (f a) else none) H → F (f a) H K) → Q (acc ++ (l.filter p).map f) H → compL F ok (l.map f) acc H Q
  | [], acc, Q, _, q => ⟨hok, List.append_nil acc ▸ q⟩
  | a :: l, acc, Q, hF, q => by
    refine ⟨hok, hF a (.head _) _ (compL_flt hok (fun b hb => hF b (.tail _ hb)) ?_)⟩
    cases hp : p a with
    | false => rw [List.filter_cons_of_neg (by rw [hp]; exact Bool.false_ne_true)] at q; exact q
    | true => rw [List.filter_cons_of_pos hp] at q; exact (List.append_assoc acc [f a] _).symm ▸ q
theorem srcq {P : Prog} {H : AH} {w : V} {r : Option (List V)} (h : src H w = r) (hq : (!w.isRng && P.q) = false) : srcQ P.q H w = r := by
  unfold srcQ
  rw [hq]
  exact h
section
variable {P : Prog} {C : Calls} {ρ : Fm} {H : AH} {X : XE} {α : Type} {l : List α} {f g : α → V} {p : α → Bool} {elt it c : Ex} {w : V}
theorem ev_map (hit : Ev P C ρ H X it w) (hs : src H w = some (l.map f)) (hl : l.length ≤ sizeOf') (he : ∀ a ∈ l, Ev P C (ρ ++ [some (f a)]) H X elt (g a)) (hq : (!w.isRng && P.q) = false := by rfl) : Ev P C ρ H X (.comp false elt it none) (.lst (l.map g)) := fun Q q => by
  rw [wpE_comp]
  exact hit _ ⟨l.map f, srcq hs hq, (List.length_map f).symm ▸ hl, compL_map (srcq hs hq) (fun a ha K hK => he a ha _ hK) (hE rfl q)⟩
end
noncomputable def ups : Nat → Nat → List V
  | _, 0 => []
  | k, m + 1 => .int (k : Nat) :: ups (k + 1) m
theorem ups_eq : ∀ (m k : Nat), rngL k ((k + m : Nat) : Int) = ups k m
  | 0, k => by
    unfold rngL
    rw [show ((k + 0 : Nat) : Int) - (k : Int) = 0 by lia]; rfl
  | m + 1, k => by
    show _ = V.int (k : Nat) :: ups (k + 1) m
    rw [← ups_eq m (k + 1)]
    unfold rngL
    rw [show (((k + (m + 1) : Nat) : Int) - (k : Int)).toNat = m + 1 by lia, show (((k + 1 + m : Nat) : Int) - ((k + 1 : Nat) : Int)).toNat = m by lia, List.range_succ_eq_map, List.map_cons, List.map_map]
    rw [show (k : Int) + ((0 : Nat) : Int) = (k : Int) by lia]
    refine congrArg _ (List.map_congr_left fun i _ => ?_)
    show V.int ((k : Int) + ((i + 1 : Nat) : Int)) = V.int (((k + 1 : Nat) : Int) + (i : Int))
    congr 1; lia
theorem for_ups {F : V → Fm → AH → KS → Prop} {ok : AH → Prop} {K : KS} {b : Nat} (I : Nat → Fm → AH → Prop) (step : ∀ k ρ H, k < b → I k ρ H → ok H ∧ ∀ K' : KS, (∀ ρ' H', I (k + 1) ρ' H' → K' ρ' H') → F (.int (k : Nat)) ρ H K') (fin : ∀ ρ H, I b ρ H → ok H ∧ K ρ H) :
    ∀ (m k : Nat) {ρ : Fm} {H : AH}, k + m = b → I k ρ H → forL F ok (ups k m) ρ H K
  | 0, _, ρ, H, e, i => fin ρ H (e ▸ i)
  | m + 1, k, ρ, H, e, i =>
    have s := step k ρ H (e ▸ Nat.lt_add_of_pos_right (Nat.succ_pos m)) i
    ⟨s.1, s.2 _ fun _ _ i' => for_ups I step fin m (k + 1) (by rw [Nat.add_assoc, Nat.add_comm 1 m]; exact e) i'⟩
theorem ev_for {P : Prog} {C : Calls} {ρ : Fm} {H : AH} {K : KS} {R : QE} {E : XS} {ss body : List St} {i : Nat} {e : Ex} {v : V} {items : List V} (h : Ev P C ρ H (E ρ) e v) (hs : srcQ P.q H v = some items) (hl : items.length ≤ sizeOf')
    (q : forL (fun x ρ' H' K' => match setTgt ρ' (.inl i) x with | some ρ'' => wpSs P C body ρ'' H' K' R (fun _ _ _ => False) | none => False) (fun H' => srcQ P.q H' v = some items) items ρ H (fun ρ' H' => wpSs P C ss ρ' H' K R E)) : wpSs P C (.forIn false (.inl i) e body :: ss) ρ H K R E := h _ ⟨items, hs, hl, q⟩
theorem src0 {H : AH} (N : Nat) : src H (.rng 0 N) = some ((List.range N).map fun (i : Nat) => V.int i) := by
  show some (rngL 0 N) = _
  unfold rngL
  rw [Int.sub_zero, Int.toNat_natCast]
  exact congrArg some (List.map_congr_left fun i _ => by rw [Int.zero_add])
theorem srcU {H : AH} (N : Nat) {q : Bool} : srcQ q H (.rng 0 N) = some (ups 0 N) := by
  show some (rngL 0 N) = _
  have := ups_eq N 0
  rw [Nat.zero_add] at this
  exact congrArg some this
theorem not_t {b : Bool} (h : (!b) = true) : b = false := by cases b; rfl; cases h
theorem not_f {b : Bool} (h : (!b) = false) : b = true := by cases b; cases h; rfl

theorem cf {n f : Nat} {fn : Fn} {args : List V} {H : AH} {Q : QE} {X : XE} (hf : PL.fns f = some fn) (hl : args.length = fn.arity) (h : wpSs PL (callF PL n) fn.body (args.map some ++ List.replicate fn.extra none) H (fun _ H' => Ret H Q .none H') (fun v H' => Ret H Q v H') (fun _ => RetX H X)) : callF PL (n + 1) false f args H Q X := by
  have : callF PL (n + 1) PL.q f args H Q X := by rw [callF_succ, hf]; exact ⟨hl, h⟩
  exact this

noncomputable def abc : List Char := ['a', 'b', 'c', 'd', 'e', 'f', 'g', 'h', 'i', 'j', 'k', 'l', 'm', 'n', 'o', 'p', 'q', 'r', 's', 't', 'u', 'v', 'w', 'x', 'y', 'z']
section
variable {P : Prog} {C : Calls} {ρ : Fm} {H : AH} {X : XE}
theorem ev_all {w : List Char} {it elt : Ex} {p : Char → Bool} (hit : Ev P C ρ H X it (.str w)) (hl : w.length ≤ sizeOf') (he : ∀ c ∈ w, Ev P C (ρ ++ [some (.str [c])]) H X elt (.bool (p c))) (hq : P.q = false := by rfl) : Ev P C ρ H X (.prim false .all [.comp false elt it none]) (.bool (w.all p)) :=
  ev_eq (ev_p1 (ev_eq (ev_map (l := w) (f := fun c => V.str [c]) (g := fun c => V.bool (p c)) hit rfl hl he hq) (congrArg V.lst (List.map_map (f := p) (g := V.bool) (l := w)).symm)) pm_all hq) (congrArg V.bool (by rw [List.all_map]; rfl))
end
noncomputable def nmOk (s : List Char) : Prop := 1 ≤ s.length ∧ s.length ≤ 8 ∧ ∀ c ∈ s, c ∈ abc
noncomputable def inAbc (s : List Char) : Prop := ∀ c ∈ s, c ∈ abc
theorem inAbc_slice {s : List Char} {a b : Nat} (h : inAbc s) : inAbc (sliceL s a b) := fun c hc => h c (List.mem_of_mem_take (List.mem_of_mem_drop hc))
theorem inAbc_app {s t : List Char} (h : inAbc s) (h' : inAbc t) : inAbc (s ++ t) := fun c hc => (List.mem_append.mp hc).elim (h c) (h' c)
theorem inAbc_one {c : Char} (h : c ∈ abc) : inAbc [c] := fun d hd => by
  cases hd with
  | head => exact h
  | tail _ h => cases h
/-- the i-th sign -/
noncomputable def ab (i : Int) : Char := abc.getD i.toNat 'a'
theorem ab_lt {i : Int} (h1 : i < 26) : i.toNat < 26 := (Int.toNat_lt' (by decide)).mpr h1
theorem ab_mem {i : Int} : ab i ∈ abc := by
  unfold ab
  rw [List.getD_eq_getElem?_getD]
  cases h : abc[i.toNat]? with
  | none => exact .head _
  | some c => exact List.mem_of_getElem? h
theorem ab_inj0 : ∀ i, i < 26 → ∀ j, j < 26 → abc.getD i 'a' = abc.getD j 'a' → i = j := by decide +kernel
theorem ab_inj {i j : Int} (h0 : 0 ≤ i) (h1 : i < 26) (g0 : 0 ≤ j) (g1 : j < 26) (e : ab i = ab j) : i = j := by
  have := ab_inj0 _ (ab_lt h1) _ (ab_lt g1) e
  rw [← Int.toNat_of_nonneg h0, this, Int.toNat_of_nonneg g0]
theorem pm_abc {H : AH} {i : Int} (h0 : 0 ≤ i) (h1 : i < 26) : primM PL false .item [.str abc, .int i] H = some (.str [ab i], H) := by
  have h2 : i.toNat < abc.length := ab_lt h1
  show ((idx abc.length i).bind _).map _ = _
  unfold idx ab
  rw [if_pos h0, if_pos (show i < ((abc.length : Nat) : Int) from h1)]
  show ((abc[i.toNat]?).map _).map _ = _
  rw [List.getD_eq_getElem?_getD, List.getElem?_eq_getElem h2]
  rfl
theorem clip_in {n : Nat} {i : Int} (h0 : 0 ≤ i) (h1 : i ≤ n) : clip n i = i.toNat := by
  unfold clip
  rw [if_neg (Int.not_lt.mpr h0)]
  split
  · rfl
  · rename_i h
    exact (Int.toNat_natCast n).symm.trans (congrArg Int.toNat (Int.le_antisymm (Int.not_lt.mp h) h1))
theorem slice_len {s : List Char} {a b : Nat} : (sliceL s a b).length = min b s.length - a := by
  unfold sliceL
  rw [List.length_drop, List.length_take]
theorem slice_le {s : List Char} {a b : Nat} : (sliceL s a b).length ≤ s.length := by
  rw [slice_len]; exact Nat.le_trans (Nat.sub_le _ _) (Nat.min_le_right _ _)
theorem slice_upto {s : List Char} {i : Int} (h0 : 0 ≤ i) (h1 : i ≤ s.length) : (sliceL s 0 (clip s.length i)).length = i.toNat := by
  rw [slice_len, clip_in h0 h1]
  exact Nat.min_eq_left (Int.toNat_le.mpr h1)
theorem slice_from {s : List Char} {i : Int} (h0 : 0 ≤ i) (h1 : i ≤ s.length) : (sliceL s (clip s.length i) s.length).length = s.length - i.toNat := by
  rw [slice_len, clip_in h0 h1, Nat.min_self]
theorem k6 {k : Nat} (h : k < 6) : -10 ^ 12 ≤ (k : Int) ∧ (k : Int) ≤ 10 ^ 12 := ⟨Int.le_trans (by decide) (Int.natCast_nonneg k), Int.le_trans (Int.ofNat_le.mpr (Nat.le_of_lt h)) (by decide)⟩
theorem mid_len {l r : List Char} {c : Char} : (l ++ [c] ++ r).length = l.length + r.length + 1 := by
  rw [List.length_append, List.length_append, List.length_singleton, Nat.add_right_comm]
/-- a name with a sign in its midst -/
theorem mid_ok {l r : List Char} {c : Char} (hl : inAbc l) (hr : inAbc r) (hc : c ∈ abc) (h : l.length + r.length ≤ 7) : nmOk (l ++ [c] ++ r) := by
  refine ⟨?_, ?_, inAbc_app (inAbc_app hl (inAbc_one hc)) hr⟩
  · rw [mid_len]; exact Nat.succ_le_succ (Nat.zero_le _)
  · rw [mid_len]; exact Nat.succ_le_succ h
/-- six names -/
inductive Six (g : Nat → List Char) : Prop
  | mk : (∀ k, k < 6 → nmOk (g k)) → (∀ i j, i < 6 → j < 6 → g i = g j → i = j) → Six g
abbrev sixL (g : Nat → List Char) : V := .lst ((List.range 6).map fun k => V.str (g k))
theorem ret_names {ρ : Fm} {n : Nat} {H : AH} {K : KS} {R : QE} {X : XS} {ss : List St} {elt : Ex} (g : Nat → List Char) (h1 : ρ[1]? = some (some (.int 6))) (hq : ∀ g, Six g → R (sixL g) H)
    (hs : Six g) (he : ∀ k : Nat, k < 6 → Ev PL (callF PL n) (ρ ++ [some (.int k)]) H (X ρ) elt (.str (g k))) : wpSs PL (callF PL n) (.ret (.comp false elt (.prim false .range1 [.var 1]) none) :: ss) ρ H K R X :=
  ev_ret (ev_map (l := List.range 6) (f := fun (i : Nat) => V.int i) (g := fun k => V.str (g k)) (ev_p1 (ev_var h1) (pm_range1 (by decide))) (src0 6) (sz 6 (by decide)) fun k hk => he k (List.mem_range.mp hk)) (hq g hs)
theorem six_len {g : Nat → List Char} (h : ∀ k, k < 6 → nmOk (g k)) (hl : ∀ k, k < 6 → (g k).length = k + 1) : Six g := ⟨h, fun i j hi hj e => by
  have := hl i hi
  rw [e, hl j hj] at this
  exact (Nat.succ.inj this).symm⟩
theorem mid_inj {l r : List Char} {c d : Char} (e : l ++ [c] ++ r = l ++ [d] ++ r) : c = d := by
  have := List.append_cancel_left (List.append_cancel_right e)
  try clear e
  cases this; rfl
theorem mod7 {a : Int} {i j : Nat} (hi : i < 6) (hj : j < 6) (e : (a + 7 * (i : Int)) % 26 = (a + 7 * (j : Int)) % 26) : i = j := by lia
theorem div26 {k : Nat} (h : k < 6) : (k : Int) / 26 = 0 ∧ (k : Int) % 26 = (k : Int) := by lia
inductive I11 (c : Int) (H : AH) (k : Nat) : Fm → AH → Prop
  | mk {a : Option V} {r : Int} {s : List Char} : s.length = k → inAbc s → I11 c H k [some (.int c), some (.int 6), some (.str abc), some (.str s), some (.int r), a, none, none, none] H
section
variable {n : Nat} {c r : Int} {s : List Char} {a : Option V} {H : AH} {K : KS} {R : QE} {X : XS}
theorem f11c {hd : List Char} (hh : hd.length ≤ 6) (hha : inAbc hd) (q : ∀ g, Six g → R (sixL g) H) :
    wpSs PL (callF PL n) (fn11.body.drop 8) [some (.int c), some (.int 6), some (.str abc), some (.str hd), some (.int r), a, some (.int (c % 6)), none, none] H K R X := by
  have hz : ∀ {k : Nat}, k ≤ 6 → k ≤ sizeOf' := fun h => Nat.le_trans h (by decide)
  refine ev_ite (ev_and (ev_p2 (ev_var rfl) ev_cst pm_lt) fun _ => ev_p2 (ev_var rfl) ev_cst pm_lt) (fun hs => ?_) fun _ => st_nil ?_
  · have hp : (0 : Int) < (hd.length : Int) + 1 := Int.lt_add_one_of_le (Int.natCast_nonneg _)
    refine ev_asg (ev_p3 (ev_var rfl) ev_cst (ev_p2 (ev_p2 (ev_var rfl) ev_cst (pm_fdiv (by decide) (by decide))) (ev_p2 (ev_p1 (ev_var rfl) pm_lens) ev_cst pm_add) (pm_mod hp)) (pm_sl_s (hz hh))) (by decide : 7 < 9) ?_
    have hla : inAbc (sliceL hd 0 (clip hd.length (c / 5 % ((hd.length : Int) + 1)))) := inAbc_slice hha
    have hll : (sliceL hd 0 (clip hd.length (c / 5 % ((hd.length : Int) + 1)))).length ≤ hd.length := slice_le
    generalize sliceL hd 0 (clip hd.length (c / 5 % ((hd.length : Int) + 1))) = lf at hla hll ⊢
    refine ev_asg (ev_p3 (ev_var rfl) (ev_p1 (ev_var rfl) pm_lens) ev_cst (pm_sl_s' (hz hh))) (by decide : 8 < 9) ?_
    have hra : inAbc (sliceL hd (clip hd.length (lf.length : Int)) hd.length) := inAbc_slice hha
    have hrl : lf.length + (sliceL hd (clip hd.length (lf.length : Int)) hd.length).length ≤ 6 := by
      rw [slice_from (Int.natCast_nonneg _) (Int.ofNat_le.mpr hll), Int.toNat_natCast, Nat.add_sub_cancel' hll]; exact hh
    generalize sliceL hd (clip hd.length (lf.length : Int)) hd.length = rt at hra hrl ⊢
    have h0 : ∀ k : Nat, 0 ≤ (c / 7 + 7 * (k : Int)) % 26 := fun k => Int.emod_nonneg _ (by decide)
    have h1 : ∀ k : Nat, (c / 7 + 7 * (k : Int)) % 26 < 26 := fun k => Int.emod_lt_of_pos _ (by decide)
    refine ret_names (fun k => lf ++ [ab ((c / 7 + 7 * (k : Int)) % 26)] ++ rt) rfl q ⟨fun k _ => mid_ok hla hra ab_mem (Nat.le_succ_of_le hrl), fun i j hi hj e => mod7 hi hj (ab_inj (h0 i) (h1 i) (h0 j) (h1 j) (mid_inj e))⟩ fun k hk => ?_
    have h7 : lf.length + [ab ((c / 7 + 7 * (k : Int)) % 26)].length ≤ sizeOf' := Nat.le_trans (Nat.succ_le_succ (Nat.le_trans hll hh)) (by decide)
    have h8 : (lf ++ [ab ((c / 7 + 7 * (k : Int)) % 26)]).length + rt.length ≤ sizeOf' := by
      rw [← List.length_append, mid_len]; exact Nat.le_trans (Nat.succ_le_succ hrl) (by decide)
    exact ev_p2 (ev_p2 (ev_var rfl) (ev_p2 (ev_var rfl) (ev_p2 (ev_p2 (ev_p2 (ev_var rfl) ev_cst (pm_fdiv (by decide) (by decide))) (ev_p2 ev_cst (ev_var rfl) (pm_mul (by decide) (k6 hk))) pm_add) ev_cst (pm_mod (by decide))) (pm_abc (h0 k) (h1 k))) (pm_adds h7)) (ev_var rfl) (pm_adds h8)
  · have hz' : ∀ {x y : List Char}, hd.length + x.length + y.length ≤ 8 → hd.length + x.length + y.length ≤ sizeOf' := fun h => Nat.le_trans h (by decide)
    refine ret_names (fun k => hd ++ [ab 0] ++ [ab (k : Int)]) rfl q ⟨fun k _ => mid_ok hha (inAbc_one ab_mem) ab_mem (Nat.succ_le_succ hh), fun i j hi hj e => ?_⟩ fun k hk => ?_
    · have e1 : [ab (i : Int)] = [ab (j : Int)] := (List.append_inj' e rfl).2
      exact Int.ofNat.inj (ab_inj (Int.natCast_nonneg i) (Int.lt_trans (Int.ofNat_lt.mpr hi) (by decide)) (Int.natCast_nonneg j) (Int.lt_trans (Int.ofNat_lt.mpr hj) (by decide)) (List.cons.inj e1).1)
    · obtain ⟨d1, d2⟩ := div26 hk
      have k26 : (k : Int) < 26 := Int.lt_trans (Int.ofNat_lt.mpr hk) (by decide)
      have h7 : hd.length + [ab 0].length ≤ sizeOf' := Nat.le_trans (Nat.succ_le_succ hh) (by decide)
      have h8 : (hd ++ [ab 0]).length + [ab (k : Int)].length ≤ sizeOf' := by
        rw [List.length_append]; exact Nat.le_trans (Nat.succ_le_succ (Nat.succ_le_succ hh)) (by decide)
      exact ev_p2 (ev_p2 (ev_var rfl) (ev_p2 (ev_var rfl) (ev_eq (ev_p2 (ev_var rfl) ev_cst (pm_fdiv (by decide) (by decide))) (congrArg V.int d1)) (pm_abc (by decide) (by decide))) (pm_adds h7)) (ev_p2 (ev_var rfl) (ev_eq (ev_p2 (ev_var rfl) ev_cst (pm_mod (by decide))) (congrArg V.int d2)) (pm_abc (Int.natCast_nonneg k) k26)) (pm_adds h8)
theorem up6 {k n : Nat} (h : k < 6) (hn : n = 8) : ((k : Int) + 1) ≤ (n : Int) ∧ (7 - (k : Int)) ≤ (n : Int) ∧ 0 ≤ 7 - (k : Int) ∧ n - (7 - (k : Int)).toNat = k + 1 := by lia
theorem nm6 {s t : List Char} {k : Nat} (hk : k < 6) (h : t.length = k + 1) (ha : inAbc t) : nmOk t := ⟨by rw [h]; exact Nat.succ_le_succ (Nat.zero_le _), by rw [h]; exact Nat.le_trans hk (by decide), ha⟩
theorem f11b (hl : s.length = 8) (ha : inAbc s) (q : ∀ g, Six g → R (sixL g) H) :
    wpSs PL (callF PL n) (fn11.body.drop 4) [some (.int c), some (.int 6), some (.str abc), some (.str s), some (.int r), a, none, none, none] H K R X := by
  have hz : s.length ≤ sizeOf' := hl ▸ sz 8 (by decide)
  refine ev_asg (ev_p2 (ev_var rfl) ev_cst (pm_mod (by decide))) (by decide : 6 < 9) ?_
  refine ev_ite (ev_and (ev_p2 (ev_var rfl) ev_cst (pm_eq rd_int rd_int)) fun _ => ev_p2 (ev_var rfl) ev_cst pm_lt) (fun hs => ?_) fun _ => st_nil ?_
  · have hk : ∀ k : Nat, k < 6 → (sliceL s 0 (clip s.length ((k : Int) + 1))).length = k + 1 := fun k hk => slice_upto (Int.natCast_nonneg (k + 1)) (up6 hk hl).1
    exact ret_names (fun k => sliceL s 0 (clip s.length ((k : Int) + 1))) rfl q (six_len (fun k h => nm6 (s := s) h (hk k h) (inAbc_slice ha)) hk) fun k hk => ev_p3 (ev_var rfl) ev_cst (ev_p2 (ev_var rfl) ev_cst pm_add) (pm_sl_s hz)
  refine ev_ite (ev_and (ev_p2 (ev_var rfl) ev_cst (pm_eq rd_int rd_int)) fun _ => ev_p2 (ev_var rfl) ev_cst pm_lt) (fun hs => ?_) fun _ => st_nil ?_
  · have hk : ∀ k : Nat, k < 6 → (sliceL s (clip s.length (7 - (k : Int))) s.length).length = k + 1 := fun k hk => (slice_from (up6 hk hl).2.2.1 (up6 hk hl).2.1).trans (up6 hk hl).2.2.2
    exact ret_names (fun k => sliceL s (clip s.length (7 - (k : Int))) s.length) rfl q (six_len (fun k h => nm6 (s := s) h (hk k h) (inAbc_slice ha)) hk) fun k hk => ev_p3 (ev_var rfl) (ev_p2 ev_cst (ev_var rfl) pm_sub) ev_cst (pm_sl_s' hz)
  refine ev_asg (ev_p3 (ev_var rfl) ev_cst (ev_p2 (ev_p2 (ev_var rfl) ev_cst (pm_fdiv (by decide) (by decide))) ev_cst (pm_mod (by decide))) (pm_sl_s hz)) (by decide : 3 < 9) ?_
  have m0 := Int.emod_nonneg (c / 6) (show (7 : Int) ≠ 0 by decide)
  have m6 := Int.le_of_lt_add_one (Int.emod_lt_of_pos (c / 6) (show (0 : Int) < 6 + 1 by decide))
  exact f11c (by rw [slice_upto m0 (Int.le_trans m6 (by rw [hl]; decide))]; exact Int.toNat_le.mpr m6) (inAbc_slice ha) q
end
theorem f11 {n : Nat} {c : Int} {H : AH} {Q : QE} {X : XE} (q : ∀ g, Six g → Q (sixL g) H) : callF PL (n + 1) false 11 [.int c, .int 6] H Q X := by
  refine cf P_fn11 rfl (ev_asg ev_cst (by decide : 2 < 9) (ev_asg ev_cst (by decide : 3 < 9) (ev_asg (ev_p2 (ev_var rfl) ev_cst (pm_fdiv (by decide) (by decide))) (by decide : 4 < 9) ?_)))
  refine ev_for (items := ups 0 8) (ev_p1 ev_cst (pm_range1 (by decide))) (srcU 8) (by decide) ?_
  refine for_ups (b := 8) (I11 c H) ?_ ?_ 8 0 rfl (.mk rfl (fun c hc => by cases hc))
  · intro k ρ H' hk i
    cases i with
    | @mk a r s hl ha =>
      refine ⟨srcU 8, fun K' hK => ?_⟩
      exact ev_asg (ev_p2 (ev_var rfl) (ev_p2 (ev_var rfl) (ev_p2 (ev_var rfl) ev_cst (pm_mod (by decide))) (pm_abc (Int.emod_nonneg _ (by decide)) (Int.emod_lt_of_pos _ (by decide)))) (pm_adds (by rw [List.length_singleton]; exact sz _ (by lia)))) (by decide : 3 < 9) (ev_asg (ev_p2 (ev_var rfl) ev_cst (pm_fdiv (by decide) (by decide))) (by decide : 4 < 9) (st_nil (hK _ _ (.mk (by rw [List.length_append, List.length_singleton, hl]) (inAbc_app ha (inAbc_one ab_mem))))))
  · intro ρ H' i
    cases i with
    | mk hl ha => exact ⟨srcU 8, f11b hl ha fun g hg => ret_same (q g hg)⟩
end Mine

end
noncomputable section
open PySem
set_option maxHeartbeats 4000000
namespace Mine
section
variable {n : Nat} {H : AH} {Q : QE} {X : XE}
theorem f9 {zs : List Int} {k : Int} (hk : 0 ≤ k) (q : Q (.int (cellAt zs k.toNat)) H) : callF PL (n + 1) false 9 [.lst (zs.map V.int), .int k] H Q X := by
  refine cf P_fn9 rfl (ev_ite (ev_p2 (ev_var rfl) (ev_p1 (ev_var rfl) pm_lenl) pm_lt) (fun h => ?_) fun h => ?_)
  · have h := of_decide_eq_true h
    rw [List.length_map] at h
    have h1 : k.toNat < zs.length := by lia
    refine ev_ret (v := .int (cellAt zs k.toNat)) (ev_p2 (ev_var rfl) (ev_var rfl) ?_) (ret_same q)
    show ((idx (zs.map V.int).length k).bind _).map _ = _
    unfold idx cellAt
    rw [List.length_map, if_pos hk, if_pos h, List.getD_eq_getElem?_getD, List.getElem?_eq_getElem h1]
    show (((zs.map V.int)[k.toNat]?)).map _ = _
    rw [List.getElem?_map, List.getElem?_eq_getElem h1]
    rfl
  · have h := of_decide_eq_false h
    rw [List.length_map] at h
    have e : zs[k.toNat]? = none := List.getElem?_eq_none_iff.mpr (by lia)
    refine st_nil (ev_ret ev_cst (ret_same ?_))
    rw [cellAt, List.getD_eq_getElem?_getD, e] at q
    exact q
/-- is_name of a text -/
theorem f1s {s : List Char} (hz : s.length ≤ sizeOf') (q : Q (.bool (decide ((1 : Int) ≤ s.length) && decide ((s.length : Int) ≤ 8) && s.all fun c => abc.contains c)) H) : callF PL (n + 1) false 1 [.str s] H Q X := by
  refine cf P_fn1 rfl (ev_ite (s := !(decide ((1 : Int) ≤ s.length) && decide ((s.length : Int) ≤ 8))) (ev_eq (ev_or (s := false) (ev_not (ev_p1 (ev_var rfl) pi_str_str)) fun _ => ev_not (ev_in ev_cst (ev_p1 (ev_var rfl) pm_lens) ev_cst)) rfl) (fun h => ?_) fun h => st_nil ?_)
  · rw [not_t h] at q
    exact ev_ret ev_cst (ret_same q)
  · rw [not_f h] at q
    exact ev_ret (ev_all (p := fun c => abc.contains c) (ev_var rfl) hz fun c _ => ev_p2 (ev_var rfl) ev_cst pm_in) (ret_same q)
theorem f1t {s : List Char} (h : nmOk s) (q : Q (.bool true) H) : callF PL (n + 1) false 1 [.str s] H Q X := by
  refine ea0_3 h ?_
  try clear h
  intro h1 h2 h3
  refine f1s (sz _ (Nat.le_trans h2 (by decide))) ?_
  rw [decide_eq_true (show (1 : Int) ≤ s.length from Int.ofNat_le.mpr h1), decide_eq_true (show (s.length : Int) ≤ 8 from Int.ofNat_le.mpr h2), List.all_eq_true.mpr fun c hc => List.contains_iff_mem.mpr (h3 c hc)]
  exact q
/-- what is no name -/
inductive NoName : V → Prop
  | none : NoName .none
  | int (k : Int) : NoName (.int k)
  | lst (vs : List V) : NoName (.lst vs)
  | tup (vs : List V) : NoName (.tup vs)
  | dct (ks : List (List Char)) (vs : List V) : NoName (.dct ks vs)
  | str {s : List Char} : s.length ≤ sizeOf' → (decide ((1 : Int) ≤ s.length) && decide ((s.length : Int) ≤ 8) && s.all fun c => abc.contains c) = false → NoName (.str s)
theorem f1n {v : V} (h : NoName v) (q : Q (.bool false) H) : callF PL (n + 1) false 1 [v] H Q X := by
  have F : ∀ {v : V}, primM PL false (.isinst .str) [v] H = some (.bool false, H) → callF PL (n + 1) false 1 [v] H Q X := fun e =>
    cf P_fn1 rfl (ev_ite (ev_or (s := true) (t := true) (ev_not (ev_p1 (ev_var rfl) e)) fun h => nomatch h) (fun _ => ev_ret ev_cst (ret_same q)) fun h => nomatch h)
  cases h with
  | str hz hs => exact f1s hz (by rw [hs]; exact q)
  | _ => exact F rfl
/-- what is a letter -/
inductive Ltr : V → Prop
  | fault : Ltr (.tup [.str ['f', 'a', 'u', 'l', 't']])
  | leave : Ltr (.tup [.str ['l', 'e', 'a', 'v', 'e']])
  | add {k : Int} : -1000000000 ≤ k → k ≤ 1000000000 → Ltr (.tup [.str ['a', 'd', 'd'], .int k])
theorem f0 {k : Int} (h1 : -1000000000 ≤ k) (h2 : k ≤ 1000000000) (q : Q (.bool true) H) : callF PL (n + 1) false 0 [.int k, .int (-1000000000), .int 1000000000] H Q X :=
  cf P_fn0 rfl (ev_ret (ev_and (s := true) (ev_p1 (ev_var rfl) pi_int_int) fun _ => ev_and (s := true) (ev_not (ev_p1 (ev_var rfl) pi_int_bool)) fun _ => ev_in (ev_var rfl) (ev_var rfl) (ev_var rfl)) (ret_same (by
    rw [decide_eq_true h1, decide_eq_true h2]; exact q)))
noncomputable def ltr0 : List V := [.tup [.str ['f', 'a', 'u', 'l', 't']], .tup [.str ['l', 'e', 'a', 'v', 'e']]]
noncomputable def noLtr : List V := [.none, .tup [.str ['a', 'd', 'd']], .tup [.str ['a', 'd', 'd'], .int 1000000001], .lst [.str ['l', 'e', 'a', 'v', 'e']], .str ['f', 'a', 'u', 'l', 't'], .tup [.str ['f', 'a', 'u', 'l', 't'], .int 1], .tup [.str ['a', 'd', 'd'], .bool true], .int 7]
noncomputable def ask2 (b : Bool) (v : V) : Bool := (val1 ((run PL (fun _ _ => none) 20).c false 2 [v] [])).any fun p => p.2.isEmpty && p.1.bol == some b
theorem ltr0_ok : ltr0.all (ask2 true) = true := by decide +kernel
theorem noLtr_ok : noLtr.all (ask2 false) = true := by decide +kernel
theorem val1_is {r : Rn V} {p : V × AH} (h : val1 r = some p) : r = some (.val p.1 p.2) := by
  match r, h with
  | some (.val v H), h => cases h; rfl
/-- no stand-ins -/
noncomputable def sg0 : Sg := ⟨fun i => List.replicate i 'a', fun _ => .none, [], fun _ _ h => by have := congrArg List.length h; rw [List.length_replicate, List.length_replicate] at this; exact this, fun _ => rfl⟩
theorem ask2_is {b : Bool} {v : V} (hv : sg (sg0.up H) v = v) (h : ask2 b v = true) (q : Q (.bool b) H) : callF PL (n + 20) false 2 [v] H Q X := by
  refine ea1_2 (any_is h) ?_
  intro p h1 h2
  try clear h
  obtain ⟨h3, h4⟩ := Bool.and_eq_true_iff.mp h2
  try clear h2
  have e := val1_is h1
  have T : TabOk (sg0.up H) PL 0 (fun _ _ => none) := fun {f vs b} h => nomatch h
  have := run_call (σ := sg0.up H) (P := PL) (m := n + 20) (q := false) (Q := Q) (X := X) T (Nat.le_add_left ..) e (by
    rw [V.bol_is (eq_of_beq h4), List.isEmpty_iff.mp h3]
    show Q (.bool b) (sgH (sg0.up H) [])
    rw [sgH_nil]; exact q)
  rw [sgH_nil] at this
  have e2 : [v].map (sg (sg0.up H)) = [v] := congrArg (fun x => [x]) hv
  rw [e2] at this
  exact this
theorem f2n {v : V} (hv : v ∈ noLtr) (q : Q (.bool false) H) : callF PL (n + 20) false 2 [v] H Q X := by
  refine ask2_is ?_ (List.all_eq_true.mp noLtr_ok v hv) q
  simp only [noLtr, List.mem_cons, List.not_mem_nil, or_false] at hv
  try clear q
  rcases hv with rfl | rfl | rfl | rfl | rfl | rfl | rfl | rfl <;> rfl
theorem f2t {v : V} (hv : Ltr v) (q : Q (.bool true) H) : callF PL (n + 20) false 2 [v] H Q X := by
  cases hv with
  | fault => exact ask2_is rfl (List.all_eq_true.mp ltr0_ok _ (.head _)) q
  | leave => exact ask2_is rfl (List.all_eq_true.mp ltr0_ok _ (.tail _ (.head _))) q
  | @add k h1 h2 =>
    refine cf P_fn2 rfl (ev_guard (s := false) (ev_not (ev_p1 (ev_var rfl) pi_tup_tuple)) (fun h => nomatch h) fun _ => ev_ite (s := true) (ev_p2 (ev_p1 (ev_var rfl) pm_lent) ev_cst (pm_eq rd_int rd_int)) (fun _ => ?_) fun h => nomatch h)
    exact ev_ret (ev_and (s := true) (t := true) (ev_p2 (ev_p2 (ev_var rfl) ev_cst pm_t0) ev_cst (pm_eq rd_str rd_str)) fun _ => ev_call3 (ev_p2 (ev_var rfl) ev_cst pm_t1) (ev_p2 ev_cst ev_cst pm_sub) ev_cst fun Q q => f0 (n := n + 18) h1 h2 q) (ret_same q)
/-- _law_letter_by -/
theorem f12 {c : Int} (q : ∀ v, Ltr v → Q v H) : callF PL (n + 1) false 12 [.int c] H Q X := by
  have h0 := Int.emod_nonneg c (show (5 : Int) ≠ 0 by decide)
  have h5 := Int.emod_lt_of_pos c (show (0 : Int) < 5 by decide)
  refine cf P_fn12 rfl (ev_ite (ev_p2 (ev_p2 (ev_var rfl) ev_cst (pm_mod (by decide))) ev_cst pm_gt) (fun h => ?_) fun h => st_nil ?_)
  · have h := of_decide_eq_true h
    refine ea1_2 (pm_pick (P := PL) (H := H) (xs := ltr0) (i := c % 5 - 3) (by lia) (by show c % 5 - 3 < (2 : Int); lia)) ?_
    intro v hv e
    refine ev_ret (ev_p2 (ev_p2 (p := .mklist) (ev_p1 ev_cst (pm_mkt (vs := [_]) (sz 1 (by decide)))) (ev_p1 ev_cst (pm_mkt (vs := [_]) (sz 1 (by decide)))) (pm_mkl (vs := ltr0) (sz 2 (by decide)))) (ev_p2 (ev_p2 (ev_var rfl) ev_cst (pm_mod (by decide))) ev_cst pm_sub) e) (ret_same (q v ?_))
    try clear e; try clear v; try clear h; try clear h5; try clear h0; try clear q
    cases hv with
    | head => exact .fault
    | tail _ hv =>
      cases hv with
      | head => exact .leave
      | tail _ hv => cases hv
  · have hn : ∀ v ∈ [V.int (c / 10 % 9 - 4), V.int (c / 10 % 2000000001 - 1000000000)], ∃ k : Int, v = .int k ∧ -1000000000 ≤ k ∧ k ≤ 1000000000 := fun v hv => by
      cases hv with
      | head => exact ⟨_, rfl, by lia, by lia⟩
      | tail _ hv =>
        cases hv with
        | head => exact ⟨_, rfl, by lia, by lia⟩
        | tail _ hv => cases hv
    have hi : 0 ≤ (if (c % 5 == 2) = true then (1 : Int) else 0) ∧ (if (c % 5 == 2) = true then (1 : Int) else 0) < 2 := by split <;> decide
    refine ea1_2 (pm_pick (P := PL) (H := H) (xs := [V.int (c / 10 % 9 - 4), V.int (c / 10 % 2000000001 - 1000000000)]) hi.1 hi.2) ?_
    intro v hv e
    try clear hi
    replace hv := hn v hv
    refine ea1_3 hv ?_
    try clear hv
    intro k q_2 k1 k2
    subst q_2
    refine ev_asg (v := .int k) (ev_p2 (ev_p2 (p := .mklist) (ev_p2 (ev_p2 (ev_p2 (ev_var rfl) ev_cst (pm_fdiv (by decide) (by decide))) ev_cst (pm_mod (by decide))) ev_cst pm_sub) (ev_p2 (ev_p2 (ev_p2 (ev_var rfl) ev_cst (pm_fdiv (by decide) (by decide))) (ev_p2 (ev_p2 ev_cst (ev_p2 ev_cst ev_cst pm_pow9) (pm_mul (by decide) (by decide))) ev_cst pm_add) (pm_mod (by decide))) (ev_p2 ev_cst ev_cst pm_pow9) pm_sub) (pm_mkl (vs := [_, _]) (sz 2 (by decide)))) (ev_p1 (ev_p2 (ev_p2 (ev_var rfl) ev_cst (pm_mod (by decide))) ev_cst (pm_eq rd_int rd_int)) pm_intb) e) (by decide : 1 < 2) ?_
    exact ev_ret (ev_p2 ev_cst (ev_var rfl) (pm_mkt (vs := [_, _]) (sz 2 (by decide)))) (ret_same (q _ (.add k1 k2)))
end
end Mine

end
noncomputable section
open PySem
set_option maxHeartbeats 4000000
namespace Mine
theorem sameO_is {a b : O} (h : sameO a b = true) : b = a := by
  cases a with
  | list xs => cases b <;> first | cases h | exact congrArg _ (sames_is h)
  | inst c d =>
    cases b with
    | inst => obtain ⟨h1, h2⟩ := Bool.and_eq_true_iff.mp h; rw [eq_of_beq h1, eq_of_beq h2]
    | _ => cases h
  | dict ks xs =>
    cases b with
    | dict => obtain ⟨h1, h2⟩ := Bool.and_eq_true_iff.mp h; rw [eq_of_beq h1, sames_is h2]
    | _ => cases h
  | ns ks xs =>
    cases b with
    | ns => obtain ⟨h1, h2⟩ := Bool.and_eq_true_iff.mp h; rw [eq_of_beq h1, sames_is h2]
    | _ => cases h
  | dead => cases h
theorem eqH_is {H : AH} : ∀ {H' : AH}, eqH H H' = true → H' = H := by
  induction H with
  | nil => exact fun h => List.isEmpty_iff.mp h
  | cons o H ih =>
    intro H' h
    obtain ⟨h1, h2⟩ := Bool.and_eq_true_iff.mp h
    refine ea1_2 (any_is h1) ?_
    intro o' h3 h4
    cases H' with
    | nil => cases h3
    | cons p H' => cases h3; rw [sameO_is h4, show H' = H from ih h2]
theorem all5 {p : Nat → Bool} {k n : Nat} (h : (List.range n).all p = true) (hk : k < n) : p k = true := List.all_eq_true.mp h k (List.mem_range.mpr hk)
theorem hb_is {w : Nat} (hw : w < 5) : ru05 14 [nms6, .int w] [] = some (.val (.ref 1) (hW w)) := by
  refine ea1_2 (any_is (all5 hb_all hw)) ?_
  intro p h1 h2
  obtain ⟨h3, h4⟩ := Bool.and_eq_true_iff.mp h2
  rw [val1_is h1, V.at_is (eq_of_beq h3), eqH_is h4]
inductive TdIs (w : Nat) : Prop
  | mk {t : V} : (V.data t && decide (V.depth t ≤ 50)) = true → ru05 17 [.ref 1, nms6] (hW w) = some (.val t (hW w)) → TdIs w
theorem td_is {w : Nat} (hw : w < 5) : TdIs w := by
  refine ea1_2 (any_is (all5 td_all hw)) ?_
  intro p h1 h2
  obtain ⟨h3, h4⟩ := Bool.and_eq_true_iff.mp h2
  exact .mk h3 (by rw [val1_is h1, eqH_is h4])
theorem ag_is {w : Nat} (hw : w < 5) : ∃ H', ru05 18 [.ref 1, .int w, nms6] (hW w) = some (.val (.bool true) H') := by
  refine ea1_2 (any_is (all5 ag_all hw)) ?_
  intro p h1 h2
  exact ⟨p.2, by rw [val1_is h1, V.bol_is (eq_of_beq h2)]⟩
/-- the letter's stand-in -/
noncomputable def lA (d : Nat) (g : Bool) : V := if d = 0 then (if g then .exc 103 else .exc 104) else .exc 105
inductive DIs (w d a : Nat) (g : Bool) : Prop
  | mk {k : Int} {H' : AH} : ru05 16 [.ref 1, .int d, nmA a, lA d g] (hW w) = some (.val (.lst [.int k]) H') → ru05 15 [.int w, .int d, .int a, .bool g] [] = some (.val (.int k) []) → (k ≤ -1 ∨ H' = hW w) → DIs w d a g
theorem dOk_is {w d a : Nat} {g : Bool} {gs : List Bool} (hg : g ∈ gs) (h : dOk w d a gs (lA d g) = true) : DIs w d a g := by
  refine ea1_2 (any_is h) ?_
  intro q h1 h
  refine ea1_2 (any_is h) ?_
  intro r h2 h
  refine ea1_2 (any_is h) ?_
  intro kv _ h
  refine ea1_2 (any_is h) ?_
  intro k _ h
  obtain ⟨h, h5⟩ := Bool.and_eq_true_iff.mp h
  obtain ⟨h3, h4⟩ := Bool.and_eq_true_iff.mp h
  refine ea1_2 (any_is (List.all_eq_true.mp h4 g hg)) ?_
  intro p h6 h7
  obtain ⟨h8, h9⟩ := Bool.and_eq_true_iff.mp h7
  refine .mk (k := k) (H' := q.2) ?_ ?_ ?_
  · rw [val1_is h1, V.frz_is h2, sames_is h3]
  · rw [val1_is h6, V.num_is (eq_of_beq h9), List.isEmpty_iff.mp h8]
  · rcases Bool.or_eq_true_iff.mp h5 with h | h
    · exact .inl (of_decide_eq_true h)
    · exact .inr (eqH_is h)
theorem d1_all {d : Nat} (h : d < 5) : (List.range 5).all (d1 · (d + 1)) = true := by
  match d, h with
  | 0, _ => exact d1_1
  | 1, _ => exact d1_2
  | 2, _ => exact d1_3
  | 3, _ => exact d1_4
  | 4, _ => exact d1_5
theorem d_is {w d a : Nat} (hw : w < 5) (hd : d < 6) (ha : a < 7) (g : Bool) : DIs w d a g := by
  cases d with
  | zero =>
    obtain ⟨h1, h2⟩ := Bool.and_eq_true_iff.mp (all5 (all5 d0_all hw) ha)
    cases g with
    | true => exact dOk_is (.head _) h1
    | false => exact dOk_is (.head _) h2
  | succ d =>
    have h := all5 (all5 (d1_all (Nat.lt_of_succ_lt_succ hd)) hw) ha
    exact dOk_is (gs := [true, false]) (by cases g; exact .tail _ (.head _); exact .head _) h

/-- what the stand-ins of law 05 stand for -/
structure S05 (σ : Sg) (g : Bool) : Prop where
  nm : ∀ k, k < 6 → nmOk (σ.nm k)
  bad : NoName (σ.op 102)
  l1 : Ltr (σ.op 103)
  l0 : σ.op 104 ∈ noLtr
  lg : g = true → σ.op 103 = σ.op 105
  lb : g = false → σ.op 104 = σ.op 105
theorem tab_ok {σ : Sg} {g : Bool} (s : S05 σ g) (H : AH) : TabOk (σ.up H) PL 20 tab05 := fun {f vs b} e {m H' Q X} hm q => by
  obtain ⟨m, rfl⟩ : ∃ m', m = m' + 20 := ⟨m - 20, (Nat.sub_add_cancel hm).symm⟩
  unfold tab05 at e
  by_cases h1 : f = 1
  · rw [if_pos h1] at e
    subst h1
    refine ea1_2 (oneL_some e) ?_
    intro v q_2 e
    subst q_2
    cases v with
    | str x =>
      obtain ⟨hx, rfl⟩ := ite_is e
      refine f1t (n := m + 19) (s := sgK (σ.up H) x) ?_ q
      unfold sgK
      rw [if_pos hx]
      refine ea1_3 (isNm_is hx) ?_
      intro c q_2 c1 c2
      subst q_2
      exact s.nm _ (Nat.lt_of_le_of_lt (Nat.sub_le_sub_right c2 57344) (by decide))
    | exc k =>
      obtain ⟨hx, rfl⟩ := ite_is e
      subst hx
      exact f1n (n := m + 19) s.bad q
    | _ => cases e
  · rw [if_neg h1] at e
    obtain ⟨h2, e⟩ := ite_some e
    subst h2
    refine ea1_2 (oneL_some e) ?_
    intro v q_2 e
    subst q_2
    cases v with
    | exc k =>
      have e : (if k = 103 then some true else if k = 104 then some false else none) = some b := e
      by_cases hk : k = 103
      · rw [if_pos hk] at e
        cases e
        subst hk
        exact f2t s.l1 q
      · rw [if_neg hk] at e
        obtain ⟨hk, rfl⟩ := ite_is e
        subst hk
        exact f2n s.l0 q
    | _ => cases e

section
variable {σ : Sg} {g : Bool} {m w d a f : Nat} {B : AH} {Q : QE} {X : XE} {vs : List V} {v : V} {H H' : AH}
theorem go (s : S05 σ g) (hm : 84 ≤ m) (e : ru05 f vs H = some (.val v H')) (hQ : Q (sg (σ.up B) v) (sgH (σ.up B) H')) : callF PL m false f (vs.map (sg (σ.up B))) (sgH (σ.up B) H) Q X :=
  run_call (tab_ok s B) hm e hQ
theorem go0 (s : S05 σ g) (hm : 84 ≤ m) (e : ru05 f vs [] = some (.val v H')) (hQ : Q (sg (σ.up B) v) (sgH (σ.up B) H')) : callF PL m false f (vs.map (sg (σ.up B))) B Q X := by
  have := go (X := X) s hm e hQ
  rw [sgH_nil] at this
  exact this
theorem nms_up : sg (σ.up B) nms6 = sg σ nms6 := data_up nms6 rfl
theorem nmA_up : sg (σ.up B) (nmA a) = sg σ (nmA a) := by
  unfold nmA
  split <;> rfl
theorem lA_up (s : S05 σ g) : sg (σ.up B) (lA d g) = σ.op 105 := by
  unfold lA
  split
  · cases g with
    | true => exact s.lg rfl
    | false => exact s.lb rfl
  · rfl
theorem c14 (s : S05 σ g) (hm : 84 ≤ m) (hw : w < 5) (q : Q (.ref (B.length + 1)) (sgH (σ.up B) (hW w))) : callF PL m false 14 [sg σ nms6, .int w] B Q X := by
  rw [← nms_up (B := B)]
  exact go0 (B := B) (vs := [nms6, .int w]) s hm (hb_is hw) q
theorem c17 (s : S05 σ g) (hm : 84 ≤ m) (e : ru05 17 [.ref 1, nms6] (hW w) = some (.val v (hW w))) (q : Q (sg (σ.up B) v) (sgH (σ.up B) (hW w))) : callF PL m false 17 [.ref (B.length + 1), sg σ nms6] (sgH (σ.up B) (hW w)) Q X := by
  rw [← nms_up (B := B)]
  exact go (B := B) (vs := [.ref 1, nms6]) s hm e q
theorem c15 (s : S05 σ g) (hm : 84 ≤ m) {k : Int} (e : ru05 15 [.int w, .int d, .int a, .bool g] [] = some (.val (.int k) [])) (q : Q (.int k) B) : callF PL m false 15 [.int w, .int d, .int a, .bool g] B Q X :=
  go0 (B := B) (vs := [.int w, .int d, .int a, .bool g]) s hm e (by rw [sgH_nil]; exact q)
theorem c16 (s : S05 σ g) (hm : 84 ≤ m) {k : Int} (e : ru05 16 [.ref 1, .int d, nmA a, lA d g] (hW w) = some (.val (.lst [.int k]) H')) (q : Q (.lst [.int k]) (sgH (σ.up B) H')) : callF PL m false 16 [.ref (B.length + 1), .int d, sg σ (nmA a), σ.op 105] (sgH (σ.up B) (hW w)) Q X := by
  rw [← nmA_up (B := B), ← lA_up (B := B) (d := d) s]
  exact go (B := B) (vs := [.ref 1, .int d, nmA a, lA d g]) s hm e q
theorem c18 (s : S05 σ g) (hm : 84 ≤ m) (hw : w < 5) (q : ∀ H, Q (.bool true) H) : callF PL m false 18 [.ref (B.length + 1), .int w, sg σ nms6] (sgH (σ.up B) (hW w)) Q X := by
  obtain ⟨H', e⟩ := ag_is hw
  rw [← nms_up (B := B)]
  exact go (B := B) (vs := [.ref 1, .int w, nms6]) s hm e (q _)
end
section
variable {P : Prog} {C : Calls} {ρ : Fm} {H : AH} {Q : QE} {X : XE} {f : Nat} {a b c d : Ex} {x y z u : V}
theorem w_call2 (h1 : Ev P C ρ H X a x) (h2 : Ev P C ρ H X b y) (h : C P.q f [x, y] H Q X) : wpE P C (.call f [a, b]) ρ H Q X := h1 _ (h2 _ h)
theorem w_call3 (h1 : Ev P C ρ H X a x) (h2 : Ev P C ρ H X b y) (h3 : Ev P C ρ H X c z) (h : C P.q f [x, y, z] H Q X) : wpE P C (.call f [a, b, c]) ρ H Q X := h1 _ (h2 _ (h3 _ h))
theorem w_call4 (h1 : Ev P C ρ H X a x) (h2 : Ev P C ρ H X b y) (h3 : Ev P C ρ H X c z) (h4 : Ev P C ρ H X d u) (h : C P.q f [x, y, z, u] H Q X) : wpE P C (.call f [a, b, c, d]) ρ H Q X := h1 _ (h2 _ (h3 _ (h4 _ h)))
theorem rd_self {v : V} (h : (V.data v && decide (V.depth v ≤ 50)) = true) : rd H v = some v := by
  cases v <;> first | rfl | exact if_pos h | cases h
end
/-- the law's loop -/
noncomputable def body05 : List St := match fn19.body.getD 9 .pass with
  | .forIn _ _ _ b => b
  | _ => []
/-- the law's names -/
abbrev fr05 (σ : Sg) (sc ce : V) (w a : Nat) (g : Bool) (x8 x9 x10 x11 : Option V) : Fm := [some sc, some (sg σ nms6), some (.int w), some ce, some (.int a), some (sg σ (nmA a)), some (σ.op 105), some (.bool g), x8, x9, x10, x11]
section
variable {σ : Sg} {g : Bool} {m w d a : Nat} {sc ce : V} {x8 x9 x10 x11 : Option V} {K : KS} {R : QE} {E : XS} {B : AH} {k : Int}
theorem tail_no (hk : k ≤ -1) (q : K (fr05 σ sc ce w a g x8 x9 x10 (some (.int k))) B) : wpSs PL (callF PL m) (body05.drop 4) (fr05 σ sc ce w a g x8 x9 x10 (some (.int k))) B K R E := by
  have hg : decide (-1 < k) = false := decide_eq_false (Int.not_lt.mpr hk)
  have hc : ∀ {e : Ex} {X : XE}, Ev PL (callF PL m) (fr05 σ sc ce w a g x8 x9 x10 (some (.int k))) B X (.and (.prim false (.cop .gt) [.var 11, .prim false .neg [.cst (.int 1)]]) e) (.bool false) := fun {e X} =>
    ev_and (s := false) (t := false) (ev_eq (ev_p2 (ev_var rfl) (ev_p1 ev_cst pm_neg) pm_gt) (congrArg V.bool hg)) fun h => nomatch h
  exact ev_guard hc (fun h => nomatch h) fun _ => ev_guard hc (fun h => nomatch h) fun _ => st_nil q
theorem tail_yes (s : S05 σ g) (hm : 84 ≤ m) (hw : w < 5) {t : V} (ht : (V.data t && decide (V.depth t ≤ 50)) = true) (e : ru05 17 [.ref 1, nms6] (hW w) = some (.val t (hW w))) (hk : -1 < k)
    (q : ∀ H, K (fr05 σ sc ce w a g x8 (some (.ref (B.length + 1))) (some (sg (σ.up B) t)) (some (.int k))) H) : wpSs PL (callF PL m) (body05.drop 4) (fr05 σ sc ce w a g x8 (some (.ref (B.length + 1))) (some (sg (σ.up B) t)) (some (.int k))) (sgH (σ.up B) (hW w)) K R E := by
  have hg : decide (-1 < k) = true := decide_eq_true hk
  have hc : ∀ {X : XE}, Ev PL (callF PL m) (fr05 σ sc ce w a g x8 (some (.ref (B.length + 1))) (some (sg (σ.up B) t)) (some (.int k))) (sgH (σ.up B) (hW w)) X (.prim false (.cop .gt) [.var 11, .prim false .neg [.cst (.int 1)]]) (.bool true) := fun {X} =>
    ev_eq (ev_p2 (ev_var rfl) (ev_p1 ev_cst pm_neg) pm_gt) (congrArg V.bool hg)
  have hr : rd (sgH (σ.up B) (hW w)) (sg (σ.up B) t) = some (sg (σ.up B) t) := rd_self (rdD_to ht)
  have hs : eqV (sg (σ.up B) t) (sg (σ.up B) t) = true := eqV_self _ (data_sg t (Bool.and_eq_true_iff.mp ht).1).1
  refine ev_guard (s := false) (ev_and (s := true) hc fun _ => ev_eq (ev_p2 (ev_call2 (ev_var rfl) (ev_var rfl) fun Q q => c17 s hm e q) (ev_var rfl) (pm_ne hr hr)) (by rw [hs]; rfl)) (fun h => nomatch h) fun _ => ?_
  refine st_ite (hc _ (hB (it_t ?_)))
  rw [wpE_prim, wpEs_cons]
  refine w_call3 (ev_var rfl) (ev_var rfl) (ev_var rfl) (c18 s hm hw fun H => ?_)
  rw [wpEs_nil]
  exact hE (v := .bool false) (H' := H) rfl (hB (it_f (st_nil (st_nil (q H)))))
theorem turn05 (s : S05 σ g) (hm : 84 ≤ m) (hw : w < 5) (hd : d < 6) (ha : a < 7) (q : ∀ x9 x10 x11 H, K (fr05 σ sc ce w a g (some (.int d)) x9 x10 x11) H) :
    wpSs PL (callF PL m) body05 (fr05 σ sc ce w a g (some (.int d)) x9 x10 x11) B K R E := by
  obtain ⟨ht, et⟩ := td_is hw
  obtain @⟨k, H', e16, e15, hk⟩ := d_is hw hd ha g
  refine st_asg (w_call2 (ev_var rfl) (ev_var rfl) (c14 s hm hw ⟨(by decide : 9 < 12), ?_⟩))
  refine st_asg (w_call2 (ev_var rfl) (ev_var rfl) (c17 s hm et ⟨(by decide : 10 < 12), ?_⟩))
  refine st_asg (w_call4 (ev_var rfl) (ev_var rfl) (ev_var rfl) (ev_var rfl) (c15 s hm e15 ⟨(by decide : 11 < 12), ?_⟩))
  refine st_ite ?_
  rw [wpE_prim, wpEs_cons]
  refine w_call4 (ev_var rfl) (ev_var rfl) (ev_var rfl) (ev_var rfl) (c16 s hm e16 ?_)
  rw [wpEs_cons]
  refine (ev_p1 (ev_var rfl) (pm_mkl (vs := [_]) (sz 1 (by decide)))) _ ?_
  rw [wpEs_nil]
  refine hE (v := .bool false) (H' := sgH (σ.up B) H') (pq (pm_ne (rd_ints (zs := [_])) (rd_ints (zs := [_]))) rfl |>.trans ?_) (hB (it_f (st_nil ?_)))
  · rw [eqV_ints, dec_rfl]; rfl
  · by_cases h : -1 < k
    · rcases hk with hk | hk
      · exact absurd hk (Int.not_le.mpr h)
      · rw [hk]; exact tail_yes s hm hw ht et h fun H => q _ _ _ H
    · exact tail_no (Int.not_lt.mp h) (q _ _ _ _)
end
end Mine

end
noncomputable section
open PySem
set_option maxHeartbeats 4000000
namespace Mine
section
variable {P : Prog} {C : Calls} {ρ : Fm} {H : AH} {X : XE}
inductive Evs (P : Prog) (C : Calls) (ρ : Fm) (H : AH) (X : XE) : List Ex → List V → Prop
  | nil : Evs P C ρ H X [] []
  | cons {a : Ex} {x : V} {es : List Ex} {vs : List V} : Ev P C ρ H X a x → Evs P C ρ H X es vs → Evs P C ρ H X (a :: es) (x :: vs)
theorem evs_run {es : List Ex} {vs : List V} (h : Evs P C ρ H X es vs) : ∀ {Q : List V → AH → Prop}, Q vs H → wpEs P C es ρ H Q X := by
  induction h with
  | nil => exact id
  | cons h _ ih => exact fun q => h _ (ih q)
theorem ev_pn {p : Prim} {es : List Ex} {vs : List V} {z : V} (h : Evs P C ρ H X es vs) (e : primM P false p vs H = some (z, H)) (hl : (p.loud && P.q) = false := by rfl) : Ev P C ρ H X (.prim false p es) z := fun _ q => evs_run h (hE (pq e hl) q)
theorem w_call1 {Q : QE} {f : Nat} {a : Ex} {x : V} (h1 : Ev P C ρ H X a x) (h : C P.q f [x] H Q X) : wpE P C (.call f [a]) ρ H Q X := h1 _ h
theorem pm_at {xs : List V} {i : Int} {v : V} (h0 : 0 ≤ i) (h1 : i < xs.length) (e : xs[i.toNat]? = some v) : primM P false .item [.lst xs, .int i] H = some (v, H) := by
  show ((idx xs.length i).bind _).map _ = _
  unfold idx
  rw [if_pos h0, if_pos h1]
  show (xs[i.toNat]?).map _ = _
  rw [e]; rfl
end
theorem six_at {g : Nat → List Char} {k : Nat} (h : k < 6) : ((List.range 6).map fun k => V.str (g k))[k]? = some (.str (g k)) := by
  rw [List.getElem?_map, List.getElem?_range h]; rfl
theorem pm_six {H : AH} {g : Nat → List Char} {i : Int} (h0 : 0 ≤ i) (h1 : i < 6) : primM PL false .item [sixL g, .int i] H = some (.str (g i.toNat), H) :=
  pm_at h0 (by rw [List.length_map, List.length_range]; exact h1) (six_at (by lia))
theorem noName_at {v : V} (h : NoName v) : v.at = none := by cases h <;> rfl
theorem ltr_at {v : V} (h : Ltr v) : v.at = none := by cases h <;> rfl
theorem noLtr_at : ∀ v ∈ noLtr, v.at = none := by
  intro v hv
  simp only [noLtr, List.mem_cons, List.not_mem_nil, or_false] at hv
  rcases hv with rfl | rfl | rfl | rfl | rfl | rfl | rfl | rfl <;> rfl
noncomputable def σ5 (g : Nat → List Char) (hg : Six g) (b l1 l0 l : V) (hb : b.at = none) (h1 : l1.at = none) (h0 : l0.at = none) (hl : l.at = none) : Sg where
  nm := g
  op := fun k => if k = 102 then b else if k = 103 then l1 else if k = 104 then l0 else l
  H0 := []
  inj := fun hi hj e => by obtain ⟨_, h⟩ := hg; exact h _ _ hi hj e
  hop := fun k => by show V.at (if k = 102 then b else if k = 103 then l1 else if k = 104 then l0 else l) = none; split; exact hb; split; exact h1; split; exact h0; exact hl
theorem nmA_sg {σ : Sg} : ∀ {a : Nat}, a < 6 → sg σ (nmA a) = .str (σ.nm a)
  | 0, _ => rfl
  | 1, _ => rfl
  | 2, _ => rfl
  | 3, _ => rfl
  | 4, _ => rfl
  | 5, _ => rfl
section
variable {m : Nat} {H : AH} {K : KS} {R : QE} {E : XS}
/-- the law's loop -/
theorem loop05 {σ : Sg} {g : Bool} {w a : Nat} {sc ce : V} (s : S05 σ g) (hm : 84 ≤ m) (hw : w < 5) (ha : a < 7) (q : ∀ H, R (.bool true) H) :
    wpSs PL (callF PL m) (fn19.body.drop 9) (fr05 σ sc ce w a g none none none none) H K R E := by
  refine ev_for (items := ups 0 6) (ev_p1 ev_cst (pm_range1 (by decide))) (srcU 6) (by decide) ?_
  refine for_ups (b := 6) (fun _ ρ _ => ∃ x8 x9 x10 x11, ρ = fr05 σ sc ce w a g x8 x9 x10 x11) ?_ ?_ 6 0 rfl ⟨none, none, none, none, rfl⟩
  · rintro k ρ H' hk ⟨x8, x9, x10, x11, rfl⟩
    exact ⟨srcU 6, fun K' hK => turn05 s hm hw hk ha fun y9 y10 y11 H => hK _ _ ⟨_, y9, y10, y11, rfl⟩⟩
  · rintro ρ H' ⟨x8, x9, x10, x11, rfl⟩
    exact ⟨srcU 6, ev_ret ev_cst (q _)⟩
/-- from the letter on -/
theorem letter05 {zs : List Int} {g : Nat → List Char} {w a : Nat} {ce b nv : V} (hm : 84 ≤ m) (hg : Six g) (hb : NoName b) (hw : w < 5) (ha : a < 7) (hnv : nv = if a < 6 then .str (g a) else b) (q : ∀ H, R (.bool true) H) :
    wpSs PL (callF PL m) (fn19.body.drop 6) [some (.lst (zs.map V.int)), some (sixL g), some (.int w), some ce, some (.int a), some nv, none, none, none, none, none, none] H K R E := by
  obtain ⟨m, rfl⟩ : ∃ m', m = m' + 1 := ⟨m - 1, (Nat.sub_add_cancel (Nat.le_trans (by decide) hm)).symm⟩
  have cell : ∀ {ρ : Fm} {X : XE}, ρ[0]? = some (some (.lst (zs.map V.int))) → Ev PL (callF PL (m + 1)) ρ H X (.prim false (.bop .fdiv) [.call 9 [.var 0, .cst (.int 3)], .cst (.int 2)]) (.int (cellAt zs 3 / 2)) := fun h =>
    ev_p2 (ev_call2 (ev_var h) ev_cst fun Q q => f9 (by decide) q) ev_cst (pm_fdiv (by decide) (by decide))
  have fin : ∀ {ce l : V} {gd : Bool} (σ : Sg), S05 σ gd → σ.nm = g → σ.op 102 = b → σ.op 105 = l → wpSs PL (callF PL (m + 1)) (fn19.body.drop 9) [some (.lst (zs.map V.int)), some (sixL g), some (.int w), some ce, some (.int a), some nv, some l, some (.bool gd), none, none, none, none] H K R E := fun {ce l gd} σ s h1 h2 h3 => by
    have e : nv = sg σ (nmA a) := by
      rw [hnv]
      by_cases h : a < 6
      · rw [if_pos h, nmA_sg h, h1]
      · have : a = 6 := by lia
        subst this
        exact h2.symm
    subst h1; subst h3; subst e
    exact loop05 s hm hw ha q
  refine st_asg (w_call1 (cell rfl) (f12 fun l hl => ⟨(by decide : 6 < 12), ?_⟩))
  refine ev_asg (ev_p2 (ev_p2 (ev_call2 (ev_var rfl) ev_cst fun Q q => f9 (by decide) q) ev_cst (pm_mod (by decide))) ev_cst (pm_eq rd_int rd_int)) (by decide : 7 < 12) ?_
  obtain ⟨hg1, hg2⟩ := hg
  refine ev_ite (ev_not (ev_var rfl)) (fun h => ?_) fun h => st_nil ?_
  · refine ea1_2 (pm_pick (P := PL) (H := H) (xs := noLtr) (i := cellAt zs 3 / 2 % 8) (Int.emod_nonneg _ (by decide)) (Int.emod_lt_of_pos _ (by decide))) ?_
    intro v hv e
    refine ev_asg (cell rfl) (by decide : 3 < 12) (ev_asg (ev_p2 (ev_pn (vs := noLtr) ?_ (pm_mkl (sz 8 (by decide)))) (ev_p2 (ev_var rfl) ev_cst (pm_mod (by decide))) e) (by decide : 6 < 12) (st_nil ?_))
    · exact .cons ev_cst (.cons (ev_p1 ev_cst (pm_mkt (vs := [_]) (sz 1 (by decide)))) (.cons (ev_p2 ev_cst (ev_p2 (ev_p2 ev_cst ev_cst pm_pow9) ev_cst pm_add) (pm_mkt (vs := [_, _]) (sz 2 (by decide)))) (.cons (ev_p1 ev_cst (pm_mkl (vs := [_]) (sz 1 (by decide)))) (.cons ev_cst (.cons (ev_p2 ev_cst ev_cst (pm_mkt (vs := [_, _]) (sz 2 (by decide)))) (.cons (ev_p2 ev_cst ev_cst (pm_mkt (vs := [_, _]) (sz 2 (by decide)))) (.cons ev_cst .nil)))))))
    · exact fin (σ5 g ⟨hg1, hg2⟩ b (.tup [.str ['l', 'e', 'a', 'v', 'e']]) v v (noName_at hb) rfl (noLtr_at v hv) (noLtr_at v hv)) ⟨hg1, hb, .leave, hv, fun h' => (by rw [h'] at h; cases h), fun _ => rfl⟩ rfl rfl rfl
  · exact fin (σ5 g ⟨hg1, hg2⟩ b l .none l (noName_at hb) (ltr_at hl) rfl (ltr_at hl)) ⟨hg1, hb, hl, .head _, fun _ => rfl, fun h' => (by rw [h'] at h; cases h)⟩ rfl rfl rfl
theorem names05 {zs : List Int} (hm : 84 ≤ m) (q : ∀ H, R (.bool true) H) : wpSs PL (callF PL m) fn19.body [some (.lst (zs.map V.int)), none, none, none, none, none, none, none, none, none, none, none] H K R E := by
  obtain ⟨m, rfl⟩ : ∃ m', m = m' + 1 := ⟨m - 1, (Nat.sub_add_cancel (Nat.le_trans (by decide) hm)).symm⟩
  have cell : ∀ {ρ : Fm} {X : XE} {k : Int}, ρ[0]? = some (some (.lst (zs.map V.int))) → 0 ≤ k → Ev PL (callF PL (m + 1)) ρ H X (.call 9 [.var 0, .cst (.int k)]) (.int (cellAt zs k.toNat)) := fun h hk =>
    ev_call2 (ev_var h) ev_cst fun Q q => f9 hk q
  refine st_asg (w_call2 (cell rfl (by decide)) ev_cst (f11 fun g hg => ⟨(by decide : 1 < 12), ?_⟩))
  refine ev_asg (ev_p2 (cell rfl (by decide)) ev_cst (pm_mod (by decide))) (by decide : 2 < 12) (ev_asg (cell rfl (by decide)) (by decide : 3 < 12) (ev_asg (ev_p2 (ev_var rfl) ev_cst (pm_mod (by decide))) (by decide : 4 < 12) ?_))
  generalize hc : cellAt zs (Int.toNat 2) = ce
  have w0 := Int.emod_nonneg (cellAt zs (Int.toNat 1)) (show (5 : Int) ≠ 0 by decide)
  have w1 := Int.emod_lt_of_pos (cellAt zs (Int.toNat 1)) (show (0 : Int) < 5 by decide)
  have a0 := Int.emod_nonneg ce (show (7 : Int) ≠ 0 by decide)
  have a1 := Int.emod_lt_of_pos ce (show (0 : Int) < 7 by decide)
  obtain ⟨w, hw⟩ := Int.eq_ofNat_of_zero_le w0
  obtain ⟨a, ha⟩ := Int.eq_ofNat_of_zero_le a0
  rw [hw] at w1 ⊢
  rw [ha] at a1 ⊢
  have hw5 : w < 5 := Int.ofNat_lt.mp w1
  have ha7 : a < 7 := Int.ofNat_lt.mp a1
  refine ev_asg (v := .str (g (min (a : Int) 5).toNat)) (ev_p2 (ev_var rfl) (ev_p2 (ev_var rfl) ev_cst pm_min) (pm_six (by lia) (by lia))) (by decide : 5 < 12) ?_
  obtain ⟨hg1, hg2⟩ := hg
  refine ev_ite (ev_p2 (ev_var rfl) ev_cst (pm_eq rd_int rd_int)) (fun h => ?_) fun h => st_nil ?_
  · have h6 : (a : Int) = 6 := eq_of_beq h
    have hn := hg1 1 (by decide)
    have hl8 : ((g 1).length : Int) ≤ 8 := Int.ofNat_le.mpr hn.2.1
    have hxs : ∀ v ∈ [V.str [], V.str ['A'], V.none, V.int 5, V.lst [V.str (g 1)], V.tup [V.str (g 1)], V.dct [] [], V.str (g 1 ++ ['a', 'b', 'c', 'd', 'e', 'f', 'g', 'h'])], NoName v := fun v hv => by
      simp only [List.mem_cons, List.not_mem_nil, or_false] at hv
      rcases hv with rfl | rfl | rfl | rfl | rfl | rfl | rfl | rfl
      · exact .str (by decide) rfl
      · exact .str (by decide) (by decide)
      · exact .none
      · exact .int _
      · exact .lst _
      · exact .tup _
      · exact .dct _ _
      · refine .str (by rw [List.length_append]; exact sz _ (Nat.le_trans (Nat.add_le_add_right hn.2.1 _) (by decide))) ?_
        rw [decide_eq_false (p := (((g 1 ++ ['a', 'b', 'c', 'd', 'e', 'f', 'g', 'h']).length : Nat) : Int) ≤ 8) (by
          rw [List.length_append]
          have h1 := hn.1
          show ¬ (((g 1).length + 8 : Nat) : Int) ≤ 8
          lia), Bool.and_false, Bool.false_and]
    refine ea1_2 (pm_pick (P := PL) (H := H) (xs := [V.str [], V.str ['A'], V.none, V.int 5, V.lst [V.str (g 1)], V.tup [V.str (g 1)], V.dct [] [], V.str (g 1 ++ ['a', 'b', 'c', 'd', 'e', 'f', 'g', 'h'])]) (i := ce / 7 % 8) (Int.emod_nonneg _ (by decide)) (Int.emod_lt_of_pos _ (by decide))) ?_
    intro v hv e
    have n1 : ∀ {ρ : Fm} {X : XE}, ρ[1]? = some (some (sixL g)) → Ev PL (callF PL (m + 1)) ρ H X (.prim false .item [.var 1, .cst (.int 1)]) (.str (g 1)) := fun h => ev_p2 (ev_var h) ev_cst (pm_six (by decide) (by decide))
    refine ev_asg (ev_p2 (ev_pn (.cons ev_cst (.cons ev_cst (.cons ev_cst (.cons ev_cst (.cons (ev_p1 (n1 rfl) (pm_mkl (vs := [_]) (sz 1 (by decide)))) (.cons (ev_p1 (n1 rfl) (pm_mkt (vs := [_]) (sz 1 (by decide)))) (.cons (ev_p0 pm_mkd0) (.cons (ev_p2 (n1 rfl) ev_cst (pm_adds (sz _ (Nat.le_trans (Nat.add_le_add_right hn.2.1 _) (by decide))))) .nil)))))))) (pm_mkl (sz 8 (by decide)))) (ev_p2 (ev_p2 (ev_var rfl) ev_cst (pm_fdiv (by decide) (by decide))) ev_cst (pm_mod (by decide))) e) (by decide : 5 < 12) (st_nil ?_)
    exact letter05 hm ⟨hg1, hg2⟩ (hxs v hv) hw5 ha7 (by rw [if_neg (by lia)]) q
  · have h6 : (a : Int) ≠ 6 := fun e => by rw [show eqV (V.int (a : Int)) (V.int 6) = true from beq_iff_eq.mpr e] at h; cases h
    refine letter05 hm ⟨hg1, hg2⟩ .none hw5 ha7 ?_ q
    rw [if_pos (by lia), show (min (a : Int) 5).toNat = a by lia]
end
theorem law05 {n : Nat} {zs : List Int} : callF PL (n + 85) false 19 [.lst (zs.map V.int)] [] (fun v _ => v = .bool true) (fun _ _ => False) :=
  cf P_fn19 rfl (names05 (m := n + 84) (Nat.le_add_left ..) fun _ => ret_same rfl)
end Mine

end
noncomputable section
open PySem PySem.W PyProof.Rows
set_option maxHeartbeats 8000000
namespace Mine
noncomputable def bisL : List (Str × Gl) := [("len", .bi "len"), ("all", .bi "all"), ("isinstance", .bi "isinstance"), ("min", .bi "min"), ("range", .ty "range"), ("int", .ty "int"), ("bool", .ty "bool"), ("str", .ty "str"), ("tuple", .ty "tuple"), ("list", .ty "list"), ("ValueError", .ty "ValueError"), ("reversed", .ty "reversed")]
noncomputable def muL : List (Nat × Nat) := [(54, 11), (55, 12), (67, 12), (88, 19), (89, 21), (90, 21), (91, 23), (92, 20), (93, 20), (94, 22), (99, 22), (106, 35), (117, 33), (162, 36)]
noncomputable def cstL : List (Str × V) := [("LETTERS", .str ['a', 'b', 'c', 'd', 'e', 'f', 'g', 'h', 'i', 'j', 'k', 'l', 'm', 'n', 'o', 'p', 'q', 'r', 's', 't', 'u', 'v', 'w', 'x', 'y', 'z']), ("LONGEST", .int 8), ("GREATEST", .int 1000000000), ("MOST_NAMES", .int 60), ("MOST_ABOVE", .int 6), ("MOST_PARTS", .int 8)]
theorem plain_of {P : Params} {h : Heap} {l : Addr} {vs : List Value} {xs : List PyData} (w1 : Well P h (.ref l) (ofPy (.list xs))) (hL : h.IsList l vs.toArray) : h.PlainList l vs.toArray := by
  have w2 : Well P h (.ref l) (.list (ofPys xs)) := w1
  cases w2 with
  | list e _ =>
    obtain ⟨o, ho, _, n, hd⟩ := hL
    rw [e] at ho
    cases ho
    cases hd
    exact ⟨_, e⟩
theorem xsays_eq {a b : List OwnSpec} {cs : List (List Nat)} {h : HP} (e : a = b) (x : XSays b cs h) : XSays a cs h := e ▸ x
noncomputable def walk05.tw10534570022091721179 : Nat := 0
noncomputable def walk05.tw6388329261588764344 : Nat := 0
noncomputable def walk05.tw3315104664089225170 : Nat := 0
noncomputable def walk05.tw18154394642205820179 : Nat := 0
noncomputable def walk05.tw9231816019102251264 : Nat := 0
noncomputable def walk05.tw5835700418966080463 : Nat := 0
noncomputable def walk05.tw16851837669528873799 : Nat := 0
noncomputable def walk05.tw17887710780143926027 : Nat := 0
noncomputable def walk05.tw16683881204112245881 : Nat := 0
noncomputable def walk05.tw10714949736688095339 : Nat := 0
noncomputable def walk05.tw13042672490399640999 : Nat := 0
noncomputable def walk05.tw5328330541750568950 : Nat := 0
noncomputable def walk05.tw11140413604954651178 : Nat := 0
noncomputable def walk05.tw16516037543269855883 : Nat := 0
noncomputable def walk05.tw14214651471223478202 : Nat := 0
noncomputable def walk05.tw4906571084432669705 : Nat := 0
noncomputable def walk05.tw7057734720714424431 : Nat := 0
noncomputable def walk05.tw16210207588138782935 : Nat := 0
noncomputable def walk05.tw17918764209328619229 : Nat := 0
noncomputable def walk05.tw17941565106446906424 : Nat := 0
noncomputable def walk05.tw8961786946487516626 : Nat := 0
noncomputable def walk05.tw16732747560498789680 : Nat := 0
noncomputable def walk05.tw8210550936666576653 : Nat := 0
noncomputable def walk05.tw10786616211414378052 : Nat := 0
noncomputable def walk05.tw15822608344755903400 : Nat := 0
noncomputable def walk05.tw15280285517758741190 : Nat := 0
noncomputable def walk05.tw7738636353706213187 : Nat := 0
noncomputable def walk05.tw923623628222069366 : Nat := 0
noncomputable def walk05.tw11422624031865809778 : Nat := 0
noncomputable def walk05.tw12045244551184681154 : Nat := 0
noncomputable def walk05.tw17263102816767807372 : Nat := 0
noncomputable def walk05.tw16078276057168523906 : Nat := 0
noncomputable def walk05.tw10445331809690383501 : Nat := 0
noncomputable def walk05.tw7695455296103084003 : Nat := 0
noncomputable def walk05.tw1954179574974384239 : Nat := 0
noncomputable def walk05.tw16160142472037710747 : Nat := 0
noncomputable def walk05.tw13556704318785986937 : Nat := 0
noncomputable def walk05.tw5570978091705805301 : Nat := 0
noncomputable def walk05.tw17601419214212774877 : Nat := 0
noncomputable def walk05.tw4110601395875587713 : Nat := 0
noncomputable def walk05.tw6989139365220016626 : Nat := 0
noncomputable def walk05.tw4463537033674566883 : Nat := 0
noncomputable def walk05.tw16266708142037503240 : Nat := 0
noncomputable def walk05.tw850609363003399548 : Nat := 0
noncomputable def walk05.tw7270793094372663031 : Nat := 0
noncomputable def walk05.tw3900279341229863242 : Nat := 0
noncomputable def walk05.tw6844042754780333664 : Nat := 0
noncomputable def walk05.tw5809879898870150735 : Nat := 0
noncomputable def walk05.tw9982802843885452486 : Nat := 0
noncomputable def walk05.tw4575982936853219363 : Nat := 0
noncomputable def walk05.tw16789420660332932525 : Nat := 0
noncomputable def walk05.tw15178119071251143194 : Nat := 0
noncomputable def walk05.tw11952290930727492373 : Nat := 0
noncomputable def walk05.tw15355042783059867947 : Nat := 0
noncomputable def walk05.tw8429783361237213428 : Nat := 0
noncomputable def walk05.tw9464060169224608964 : Nat := 0
noncomputable def walk05.tw2251075004502645010 : Nat := 0
noncomputable def walk05.tw6095552565132712807 : Nat := 0
noncomputable def walk05.tw4001043044832729202 : Nat := 0
noncomputable def walk05.tw7124088994314069458 : Nat := 0
noncomputable def walk05.tw2465421017339442582 : Nat := 0
noncomputable def walk05.tw11713260750915393754 : Nat := 0
noncomputable def walk05.tw18257733461833026434 : Nat := 0
noncomputable def walk05.tw13145556047897421894 : Nat := 0
noncomputable def walk05.tw11342761135978268194 : Nat := 0
noncomputable def walk05.tw12166066069949884376 : Nat := 0
noncomputable def walk05.tw538029780979070839 : Nat := 0
noncomputable def walk05.tw3936438483864520825 : Nat := 0
noncomputable def walk05.tw17024597174771443267 : Nat := 0
noncomputable def walk05.tw10803394234920731613 : Nat := 0
noncomputable def walk05.tw227991586613067322 : Nat := 0
noncomputable def walk05.tw4401359654465609741 : Nat := 0
noncomputable def walk05.tw18150783765198505312 : Nat := 0
noncomputable def walk05.tw11967705624886983173 : Nat := 0
noncomputable def walk05.tw6407566001148436023 : Nat := 0
noncomputable def walk05.tw5774416134302060811 : Nat := 0
noncomputable def walk05.tw14536621406413159811 : Nat := 0
noncomputable def walk05.tw6186562264579609592 : Nat := 0
noncomputable def walk05.tw3268084342606254157 : Nat := 0
noncomputable def walk05.tw11098663443457480029 : Nat := 0
noncomputable def walk05.tw15822494434019434949 : Nat := 0
noncomputable def walk05.tw15373091322772739551 : Nat := 0
noncomputable def walk05.tw13986498455691832637 : Nat := 0
noncomputable def walk05.tw17636255851172281828 : Nat := 0
noncomputable def walk05.tw5374933136096278564 : Nat := 0
noncomputable def walk05.tw8645152913147492970 : Nat := 0
noncomputable def walk05.tw11545842712255099974 : Nat := 0
noncomputable def walk05.tw16030141755900539833 : Nat := 0
noncomputable def walk05.tw7897410151199906556 : Nat := 0
noncomputable def walk05.tw6869055254532760600 : Nat := 0
noncomputable def walk05.tw1301382716085253797 : Nat := 0
noncomputable def walk05.tw5285749736321085450 : Nat := 0
noncomputable def walk05.tw5453120731293446665 : Nat := 0
noncomputable def walk05.tw18289815427649359080 : Nat := 0
noncomputable def walk05.tw3921470119211620861 : Nat := 0
noncomputable def walk05.tw17747308813768562272 : Nat := 0
noncomputable def walk05.tw13143404515910447584 : Nat := 0
noncomputable def walk05.tw14733127774471065497 : Nat := 0
noncomputable def walk05.tw6304054985095121557 : Nat := 0
noncomputable def walk05.tw10298868518901831315 : Nat := 0
noncomputable def walk05.tw3172808349193944793 : Nat := 0
noncomputable def walk05.tw3619365549088639605 : Nat := 0
noncomputable def walk05.tw16524748255957192855 : Nat := 0
noncomputable def walk05.tw13077203554074598717 : Nat := 0
noncomputable def walk05.tw11295134953738202869 : Nat := 0
noncomputable def walk05.tw2018560845142725483 : Nat := 0
noncomputable def walk05.tw16738382295575959148 : Nat := 0
noncomputable def walk05.tw6269726531795024634 : Nat := 0
noncomputable def walk05.tw17899465810362076486 : Nat := 0
noncomputable def walk05.tw4698464238815231331 : Nat := 0
noncomputable def walk05.tw4529616698182324791 : Nat := 0
noncomputable def walk05.tw13491086690219236223 : Nat := 0
noncomputable def walk05.tw5750450797880904923 : Nat := 0
noncomputable def walk05.tw11424819662075192315 : Nat := 0
noncomputable def walk05.tw1511352932171154070 : Nat := 0
noncomputable def walk05.tw11192447037752440214 : Nat := 0
noncomputable def walk05.tw12211054021626226928 : Nat := 0
noncomputable def walk05.tw12148319352774808219 : Nat := 0
noncomputable def walk05.tw1948735397090209935 : Nat := 0
noncomputable def walk05.tw16288406134891471736 : Nat := 0
noncomputable def walk05.tw11397734973458362831 : Nat := 0
noncomputable def walk05.tw8056438503956508429 : Nat := 0
noncomputable def walk05.tw12157619026405241150 : Nat := 0
noncomputable def walk05.tw17389123796583144351 : Nat := 0
noncomputable def walk05.tw565072068328989624 : Nat := 0
noncomputable def walk05.tw9679138437810114963 : Nat := 0
noncomputable def walk05.tw2607061532413738703 : Nat := 0
noncomputable def walk05.tw7055790602273520743 : Nat := 0
noncomputable def walk05.tw943127104460549759 : Nat := 0
noncomputable def walk05.tw5814527122089559519 : Nat := 0
noncomputable def walk05.tw7071039298925621390 : Nat := 0
noncomputable def walk05.tw11193636477968865299 : Nat := 0
noncomputable def walk05.tw15801848955635179746 : Nat := 0
noncomputable def walk05.tw4888044876086628630 : Nat := 0
noncomputable def walk05.tw15561083852844460808 : Nat := 0
noncomputable def walk05.tw269254817607555236 : Nat := 0
noncomputable def walk05.tw13547509436311326206 : Nat := 0
noncomputable def walk05.tw3030028331302422445 : Nat := 0
noncomputable def walk05.tw1633521349966844239 : Nat := 0
noncomputable def walk05.tw11641202139417104870 : Nat := 0
noncomputable def walk05.tw4681148090362152859 : Nat := 0
noncomputable def walk05.tw7192818953457981900 : Nat := 0
noncomputable def walk05.tw13909874238407031386 : Nat := 0
noncomputable def walk05.tw1835652739814585451 : Nat := 0
noncomputable def walk05.tw10488806527455658578 : Nat := 0
noncomputable def walk05.tw14451839510534012529 : Nat := 0
noncomputable def walk05.tw3051657631317643390 : Nat := 0
noncomputable def walk05.tw10489300702955603076 : Nat := 0
noncomputable def walk05.tw6847008131595337630 : Nat := 0
noncomputable def walk05.tw5370154048987681969 : Nat := 0
noncomputable def walk05.tw16731808118021669433 : Nat := 0
noncomputable def walk05.tw2164785813191032045 : Nat := 0
noncomputable def walk05.tw14806194263613648542 : Nat := 0
noncomputable def walk05.tw18413189290920190024 : Nat := 0
noncomputable def walk05.tw1329028449985877249 : Nat := 0
noncomputable def walk05.tw4766161648570198286 : Nat := 0
noncomputable def walk05.tw15555458980779501285 : Nat := 0
noncomputable def walk05.tw11648172347731651146 : Nat := 0
noncomputable def walk05.tw2529401985632503037 : Nat := 0
noncomputable def walk05.tw2381549001416938506 : Nat := 0
noncomputable def walk05.tw482730183257546319 : Nat := 0
noncomputable def walk05.tw10944026064235360759 : Nat := 0
noncomputable def walk05.tw13732459927578274678 : Nat := 0
noncomputable def walk05.tw18155221908554595002 : Nat := 0
noncomputable def walk05.tw4768520238383762624 : Nat := 0
noncomputable def walk05.tw11804719728916663549 : Nat := 0
noncomputable def walk05.tw16059192915597858050 : Nat := 0
noncomputable def walk05.tw1797084233287866301 : Nat := 0
noncomputable def walk05.tw9348625100926466803 : Nat := 0
noncomputable def walk05.tw16542060302016325255 : Nat := 0
noncomputable def walk05.tw4831854268417865170 : Nat := 0
noncomputable def walk05.tw8833463150870646023 : Nat := 0
noncomputable def walk05.tw13963279021063825467 : Nat := 0
noncomputable def walk05.tw4392258571716896570 : Nat := 0
noncomputable def walk05.tw6696746586721958519 : Nat := 0
noncomputable def walk05.tw8952404376375950665 : Nat := 0
noncomputable def walk05.tw15877465020446415849 : Nat := 0
noncomputable def walk05.tw13628530875277869456 : Nat := 0
noncomputable def walk05.tw6330885184620759358 : Nat := 0
noncomputable def walk05.tw11859047297788486456 : Nat := 0
noncomputable def walk05.tw3859495168840364282 : Nat := 0
noncomputable def walk05.tw9382532279208429446 : Nat := 0
noncomputable def walk05.tw7950772904312205646 : Nat := 0
noncomputable def walk05.tw13670801368340801272 : Nat := 0
noncomputable def walk05.tw7937388600377830250 : Nat := 0
noncomputable def walk05.tw6195757664469798883 : Nat := 0
noncomputable def walk05.tw17544784368861592432 : Nat := 0
noncomputable def walk05.tw17027753556304395898 : Nat := 0
noncomputable def walk05.tw16965634196353728906 : Nat := 0
noncomputable def walk05.tw5900538094981757932 : Nat := 0
noncomputable def walk05.tw17776894319830010637 : Nat := 0
noncomputable def walk05.tw438088549481034633 : Nat := 0
noncomputable def walk05.tw18321308477034647374 : Nat := 0
noncomputable def walk05.tw391082860436203545 : Nat := 0
noncomputable def walk05.tw3634754689862676211 : Nat := 0
noncomputable def walk05.tw60558226203583179 : Nat := 0
noncomputable def walk05.tw1051287332168932377 : Nat := 0
noncomputable def walk05.tw9856759477973062848 : Nat := 0
noncomputable def walk05.tw7394362901876970656 : Nat := 0
noncomputable def walk05.tw4310982055201862924 : Nat := 0
noncomputable def walk05.tw6726411154516584102 : Nat := 0
noncomputable def walk05.tw4526856289873123191 : Nat := 0
noncomputable def walk05.tw7940639500285743093 : Nat := 0
noncomputable def walk05.tw16134011688656808083 : Nat := 0
noncomputable def walk05.tw7475407482456277117 : Nat := 0
noncomputable def walk05.tw12626795848603382677 : Nat := 0
noncomputable def walk05.tw7473460938132669685 : Nat := 0
noncomputable def walk05.tw12891542171412663596 : Nat := 0
noncomputable def walk05.tw3249693075354575342 : Nat := 0
noncomputable def walk05.tw10317016559389461656 : Nat := 0
noncomputable def walk05.tw13843560634853751292 : Nat := 0
noncomputable def walk05.tw4536528382161603563 : Nat := 0
noncomputable def walk05.tw13185366167664073531 : Nat := 0
noncomputable def walk05.tw1916552216112537017 : Nat := 0
noncomputable def walk05.tw6444760447742470045 : Nat := 0
noncomputable def walk05.tw16964806143489937538 : Nat := 0
noncomputable def walk05.tw16540232920141127487 : Nat := 0
noncomputable def walk05.tw14847450828998207201 : Nat := 0
noncomputable def walk05.tw7543847968510637585 : Nat := 0
noncomputable def walk05.tw1837091402958905477 : Nat := 0
noncomputable def walk05.tw14750297704913971028 : Nat := 0
noncomputable def walk05.tw4563730858022093741 : Nat := 0
noncomputable def walk05.tw14298409912676233285 : Nat := 0
noncomputable def walk05.tw2878153926114932459 : Nat := 0
noncomputable def walk05.tw13127029898307774486 : Nat := 0
noncomputable def walk05.tw5225071366845971279 : Nat := 0
noncomputable def walk05.tw5661316838305171899 : Nat := 0
noncomputable def walk05.tw4896431129629282402 : Nat := 0
noncomputable def walk05.tw2863444375850923320 : Nat := 0
noncomputable def walk05.tw15320942220483373976 : Nat := 0
noncomputable def walk05.tw16964439796225803649 : Nat := 0
noncomputable def walk05.tw16322195972839360994 : Nat := 0
noncomputable def walk05.tw6782496665562150603 : Nat := 0
noncomputable def walk05.tw13415077540766480808 : Nat := 0
noncomputable def walk05.tw17721090340686608731 : Nat := 0
noncomputable def walk05.tw12739204856587860873 : Nat := 0
noncomputable def walk05.tw13457695849614283266 : Nat := 0
noncomputable def walk05.tw4828914102052502954 : Nat := 0
noncomputable def walk05.tw13005810704825861566 : Nat := 0
noncomputable def walk05.tw16936115115770992435 : Nat := 0
noncomputable def walk05.tw6692359249337701121 : Nat := 0
noncomputable def walk05.tw8277882380093142439 : Nat := 0
noncomputable def walk05.tw3070311222232232565 : Nat := 0
noncomputable def walk05.tw5996721003804346507 : Nat := 0
noncomputable def walk05.tw4823884934415268821 : Nat := 0
noncomputable def walk05.tw10202140056441761356 : Nat := 0
noncomputable def walk05.tw6887953026036571284 : Nat := 0
noncomputable def walk05.tw5314255919973375281 : Nat := 0
noncomputable def walk05.tw3292262483640762765 : Nat := 0
noncomputable def walk05.tw11290676679322464378 : Nat := 0
noncomputable def walk05.tw13337371368364401423 : Nat := 0
noncomputable def walk05.tw9864731528772119257 : Nat := 0
noncomputable def walk05.tw12375403112864670773 : Nat := 0
noncomputable def walk05.tw3355242383979555480 : Nat := 0
noncomputable def walk05.tw14642079961787086641 : Nat := 0
noncomputable def walk05.tw9193308941223832286 : Nat := 0
noncomputable def walk05.tw8061809997418730168 : Nat := 0
noncomputable def walk05.tw10475277521187425379 : Nat := 0
noncomputable def walk05.tw1498075394613207137 : Nat := 0
noncomputable def walk05.tw2375414454261187543 : Nat := 0
noncomputable def walk05.tw7469431516531552326 : Nat := 0
noncomputable def walk05.tw2618354844762893045 : Nat := 0
noncomputable def walk05.tw11172562830853217916 : Nat := 0
noncomputable def walk05.tw7536646906474198067 : Nat := 0
noncomputable def walk05.tw6535552831073518327 : Nat := 0
noncomputable def walk05.tw16593164272727951123 : Nat := 0
noncomputable def walk05.tw2258821363446581591 : Nat := 0
noncomputable def walk05.tw6761505178501721821 : Nat := 0
noncomputable def walk05.tw7790507111849221681 : Nat := 0
noncomputable def walk05.tw7739462010251203142 : Nat := 0
noncomputable def walk05.tw15828927725858276960 : Nat := 0
noncomputable def walk05.tw15204327425924143789 : Nat := 0
noncomputable def walk05.tw6312560107065877979 : Nat := 0
noncomputable def walk05.tw1645520099284144868 : Nat := 0
noncomputable def walk05.tw11388372521078691892 : Nat := 0
noncomputable def walk05.tw12501604242634401079 : Nat := 0
noncomputable def walk05.tw16052441931205498057 : Nat := 0
noncomputable def walk05.tw11982630750183846232 : Nat := 0
noncomputable def walk05.tw6132650694577031051 : Nat := 0
noncomputable def walk05.tw13801324241162670199 : Nat := 0
noncomputable def walk05.tw9503569133453203210 : Nat := 0
noncomputable def walk05.tw7236809699223018117 : Nat := 0
noncomputable def walk05.tw9243118178838485880 : Nat := 0
noncomputable def walk05.tw7902614753699735663 : Nat := 0
noncomputable def walk05.tw9092169554020898864 : Nat := 0
noncomputable def walk05.tw17937751152528126976 : Nat := 0
noncomputable def walk05.tw3711680306888007321 : Nat := 0
noncomputable def walk05.tw10159819170351439751 : Nat := 0
noncomputable def walk05.tw10103549916922977178 : Nat := 0
noncomputable def walk05.tw5476499037963427499 : Nat := 0
noncomputable def walk05.tw17980748368093220015 : Nat := 0
noncomputable def walk05.tw6300260207927391226 : Nat := 0
noncomputable def walk05.tw2831988052688541475 : Nat := 0
noncomputable def walk05.tw374807509762997603 : Nat := 0
noncomputable def walk05.tw1621428228800375957 : Nat := 0
noncomputable def walk05.tw16593379793022217085 : Nat := 0
noncomputable def walk05.tw16330300403795895330 : Nat := 0
noncomputable def walk05.tw2843997534574354606 : Nat := 0
noncomputable def walk05.tw2316368403039523751 : Nat := 0
noncomputable def walk05.tw13269491444773743823 : Nat := 0
noncomputable def walk05.tw14520116984075941849 : Nat := 0
noncomputable def walk05.tw3075444784172736484 : Nat := 0
noncomputable def walk05.tw2785470809243931591 : Nat := 0
noncomputable def walk05.tw10148500888103135049 : Nat := 0
noncomputable def walk05.tw16985261669164178351 : Nat := 0
noncomputable def walk05.tw14294266204484025850 : Nat := 0
noncomputable def walk05.tw17993682084341571622 : Nat := 0
noncomputable def walk05.tw17891265406689366942 : Nat := 0
noncomputable def walk05.tw11657330820411662994 : Nat := 0
noncomputable def walk05.tw2087248822966878250 : Nat := 0
noncomputable def walk05.tw14496840155622392089 : Nat := 0
noncomputable def walk05.tw4847386425276053674 : Nat := 0
noncomputable def walk05.tw1506347393148203555 : Nat := 0
noncomputable def walk05.tw15794097609589855757 : Nat := 0
noncomputable def walk05.tw13012613718313930700 : Nat := 0
noncomputable def walk05.tw10657113492461845777 : Nat := 0
noncomputable def walk05.tw17075602619321333487 : Nat := 0
noncomputable def walk05.tw5386861840253572456 : Nat := 0
noncomputable def walk05.tw2081034860346681337 : Nat := 0
noncomputable def walk05.tw9488767541977284464 : Nat := 0
noncomputable def walk05.tw11025672073898640000 : Nat := 0
noncomputable def walk05.tw8381058097377638016 : Nat := 0
noncomputable def walk05.tw11249578430603927626 : Nat := 0
noncomputable def walk05.tw9418734333888979466 : Nat := 0
noncomputable def walk05.tw8755364229744770009 : Nat := 0
noncomputable def walk05.tw9904875253302486280 : Nat := 0
noncomputable def walk05.tw16434399368453655681 : Nat := 0
noncomputable def walk05.tw15610911558219330012 : Nat := 0
noncomputable def walk05.tw8566675240453522190 : Nat := 0
noncomputable def walk05.tw8726151205243127954 : Nat := 0
noncomputable def walk05.tw12434849545396903720 : Nat := 0
noncomputable def walk05.tw3797800359924714347 : Nat := 0
noncomputable def walk05.tw3640552708974203659 : Nat := 0
noncomputable def walk05.tw13780061262672591520 : Nat := 0
noncomputable def walk05.tw17744183986905709833 : Nat := 0
noncomputable def walk05.tw445207000242227636 : Nat := 0
noncomputable def walk05.tw9773576442378410039 : Nat := 0
noncomputable def walk05.tw10121020994787447546 : Nat := 0
noncomputable def walk05.tw8914721065192985054 : Nat := 0
noncomputable def walk05.tw16318744574247336656 : Nat := 0
noncomputable def walk05.tw16937692337371783004 : Nat := 0
noncomputable def walk05.tw16977798882448152280 : Nat := 0
noncomputable def walk05.tw17606915066510702743 : Nat := 0
noncomputable def walk05.tw14915030627407854183 : Nat := 0
noncomputable def walk05.tw5823491386025340418 : Nat := 0
noncomputable def walk05.tw13401912638350011225 : Nat := 0
noncomputable def walk05.tw13623044123628810981 : Nat := 0
noncomputable def walk05.tw4310224977671910848 : Nat := 0
noncomputable def walk05.tw4275145730177907545 : Nat := 0
noncomputable def walk05.tw18369130637845228214 : Nat := 0
noncomputable def walk05.tw16321665775995547788 : Nat := 0
noncomputable def walk05.tw12598306673319449595 : Nat := 0
noncomputable def walk05.tw15119379163518652119 : Nat := 0
noncomputable def walk05.tw17305274914970339006 : Nat := 0
noncomputable def walk05.tw11049118404898722171 : Nat := 0
noncomputable def walk05.tw1997082364457500582 : Nat := 0
noncomputable def walk05.tw14902741859913705135 : Nat := 0
noncomputable def walk05.tw4981874614653739834 : Nat := 0
noncomputable def walk05.tw13691273203698126242 : Nat := 0
noncomputable def walk05.tw8376161189739408075 : Nat := 0
noncomputable def walk05.tw8328609383940043498 : Nat := 0
noncomputable def walk05.tw11390422673489925479 : Nat := 0
noncomputable def walk05.tw10129836728188347186 : Nat := 0
noncomputable def walk05.tw14639103700027400581 : Nat := 0
noncomputable def walk05.tw11639051954208464491 : Nat := 0
noncomputable def walk05.tw2787731324616647383 : Nat := 0
noncomputable def walk05.tw4402209105230406878 : Nat := 0
noncomputable def walk05.tw9911935015628485874 : Nat := 0
noncomputable def walk05.tw15498939786019182198 : Nat := 0
noncomputable def walk05.tw6542656081652011895 : Nat := 0
noncomputable def walk05.tw10375077135033382296 : Nat := 0
noncomputable def walk05.tw10532914265949277373 : Nat := 0
noncomputable def walk05.tw3562132269175001466 : Nat := 0
noncomputable def walk05.tw3378845554796249749 : Nat := 0
noncomputable def walk05.tw17213070485839318421 : Nat := 0
noncomputable def walk05.tw11091693964442963538 : Nat := 0
noncomputable def walk05.tw18224492999888605718 : Nat := 0
noncomputable def walk05.tw14900199301002038609 : Nat := 0
noncomputable def walk05.tw633654978923009324 : Nat := 0
noncomputable def walk05.tw12027443464494282380 : Nat := 0
noncomputable def walk05.tw9707944788459454081 : Nat := 0
noncomputable def walk05.tw4686992325891354950 : Nat := 0
noncomputable def walk05.tw6860044059675447796 : Nat := 0
noncomputable def walk05.tw13404969575351169796 : Nat := 0
noncomputable def walk05.tw15460932338824944677 : Nat := 0
noncomputable def walk05.tw14162275593189679148 : Nat := 0
noncomputable def walk05.tw7166163133829442452 : Nat := 0
noncomputable def walk05.tw16635948588255704385 : Nat := 0
noncomputable def walk05.tw16586688269103840075 : Nat := 0
noncomputable def walk05.tw15118822590293960077 : Nat := 0
noncomputable def walk05.tw4892116899568065269 : Nat := 0
noncomputable def walk05.tw11965019393517318749 : Nat := 0
noncomputable def walk05.tw940311595566764114 : Nat := 0
noncomputable def walk05.tw12001236604413368787 : Nat := 0
noncomputable def walk05.tw7582343903077357329 : Nat := 0
noncomputable def walk05.tw7033855167922998863 : Nat := 0
noncomputable def walk05.tw9683568977302441054 : Nat := 0
noncomputable def walk05.tw3041818727580102066 : Nat := 0
noncomputable def walk05.tw10728137127360553591 : Nat := 0
noncomputable def walk05.tw239840550347924732 : Nat := 0
noncomputable def walk05.tw16149344681371836775 : Nat := 0
noncomputable def walk05.tw3262498515580366075 : Nat := 0
noncomputable def walk05.tw14406716513977632632 : Nat := 0
noncomputable def walk05.tw4238304581339309395 : Nat := 0
noncomputable def walk05.tw6252520038242272384 : Nat := 0
noncomputable def walk05.tw9103610722006847478 : Nat := 0
noncomputable def walk05.tw6675916115035518334 : Nat := 0
noncomputable def walk05.tw8579313177025451848 : Nat := 0
noncomputable def walk05.tw2362932275767128059 : Nat := 0
noncomputable def walk05.tw9452052480134487217 : Nat := 0
noncomputable def walk05.tw13930370764397988458 : Nat := 0
noncomputable def walk05.tw18318602255695536032 : Nat := 0
noncomputable def walk05.tw5968582516286925488 : Nat := 0
noncomputable def walk05.tw6453378297765110092 : Nat := 0
noncomputable def walk05.tw2858738778064150276 : Nat := 0
noncomputable def walk05.tw9705525499542058568 : Nat := 0
noncomputable def walk05.tw8939051501805613791 : Nat := 0
noncomputable def walk05.tw15837084446993405091 : Nat := 0
noncomputable def walk05.tw12695262164165506198 : Nat := 0
noncomputable def walk05.tw11793109230701918542 : Nat := 0
noncomputable def walk05.tw10957218770873755994 : Nat := 0
noncomputable def walk05.tw13097756471686227801 : Nat := 0
noncomputable def walk05.tw15671287951456083266 : Nat := 0
noncomputable def walk05.tw15049410662199153797 : Nat := 0
noncomputable def walk05.tw5041881423764985445 : Nat := 0
noncomputable def walk05.tw6919088967056061167 : Nat := 0
noncomputable def walk05.tw18425623032716774997 : Nat := 0
noncomputable def walk05.tw15126559043979088567 : Nat := 0
noncomputable def walk05.tw9547604229932160585 : Nat := 0
noncomputable def walk05.tw146697498303107841 : Nat := 0
noncomputable def walk05.tw1981704727939515715 : Nat := 0
noncomputable def walk05.tw3162417974836603377 : Nat := 0
noncomputable def walk05.tw4571423579005110263 : Nat := 0
noncomputable def walk05.tw17827037478835651448 : Nat := 0
noncomputable def walk05.tw16572925206061802437 : Nat := 0
noncomputable def walk05.tw4651131115743169541 : Nat := 0
noncomputable def walk05.tw3909924361684740635 : Nat := 0
noncomputable def walk05.tw13684747199552306229 : Nat := 0
noncomputable def walk05.tw16671786169344751845 : Nat := 0
noncomputable def walk05.tw18200832911598082753 : Nat := 0
noncomputable def walk05.tw14198524715485396214 : Nat := 0
noncomputable def walk05.tw15417021850531415057 : Nat := 0
noncomputable def walk05.tw584228426359468259 : Nat := 0
noncomputable def walk05.tw13737671297995542847 : Nat := 0
noncomputable def walk05.tw7486861177476826079 : Nat := 0
noncomputable def walk05.tw5243827896668522774 : Nat := 0
noncomputable def walk05.tw1845265781459533657 : Nat := 0
noncomputable def walk05.tw6470217442954381094 : Nat := 0
noncomputable def walk05.tw449003660859658266 : Nat := 0
noncomputable def walk05.tw2143699447643924385 : Nat := 0
noncomputable def walk05.tw14091688973088727138 : Nat := 0
noncomputable def walk05.tw3119648123743871103 : Nat := 0
noncomputable def walk05.tw15400243606658311408 : Nat := 0
noncomputable def walk05.tw5311168064711823653 : Nat := 0
noncomputable def walk05.tw9269668920732935045 : Nat := 0
noncomputable def walk05.tw919718564462886382 : Nat := 0
noncomputable def walk05.tw7076531082392458575 : Nat := 0
noncomputable def walk05.tw7640302814278770269 : Nat := 0
noncomputable def walk05.tw706387043872343943 : Nat := 0
noncomputable def walk05.tw9785570360828306417 : Nat := 0
noncomputable def walk05.tw2986894885383283705 : Nat := 0
noncomputable def walk05.tw16154444966783439219 : Nat := 0
noncomputable def walk05.tw4625269547011757524 : Nat := 0
noncomputable def walk05.tw3253484097453607556 : Nat := 0
noncomputable def walk05.tw6883232499599008815 : Nat := 0
noncomputable def walk05.tw5563672601419788073 : Nat := 0
set_option Elab.async true in
theorem walk05 : PySem.Challenge.rw_uf010035_05.Holds := by
  w_on
  o_law
  o_head (xHook (ownsOf PySem.Challenge.pw_uf010035_05) subsL)
  case hw => w_witness2
  intro w s₀ s₁ mg mb G Y fa o pm cd doc dV kV ho hd hcd hD hmg hg args vals as hpre hlay hrd hwl hlo
  refine Ground.open G ?_
  intro T B D TE TW
  wrow_args hpre hlay hrd hwl hlo
  all_goals (
    rename_i zs hs hlay0 hL1 hr1 hl2 as4 as3 l vs as0 hL ra w1 r0 hI hr hc1 hc0
    refine top_law2 (csts := cstL) (bis := bisL) (mu := muL) (fz := []) (fns := fnsL) (cs := subsL) (f := 19) (n := 85) T TE.topC (by decide +kernel) ⟨by decide +kernel, by decide +kernel, by decide +kernel, by decide +kernel⟩ (xsays_eq (by kernel_rfl) Y) (by decide +kernel) hg (by kernel_rfl) (by decide +kernel) hmg (plain_of w1 hL) (by simpa using hI) (by omega) (by decide) (law05 (n := 0)) fun s' h1 h2 h3 => GoodW.toG ⟨.inl ⟨.bool true, .bool true, [], rfl, fun cls => rfl, .bool true, ?_, fun _ => ⟨.nil, by simp⟩⟩, h1, h2, h3⟩
    first | exact postW_of (by wrow_shape) (by wtm_val) (by str_meet; first | done | w_fin) | decide)
end Mine

end
theorem PySem.Challenge.cw_uf010035_05_holds : PySem.Challenge.rw_uf010035_05.Holds :=
  Mine.walk05
