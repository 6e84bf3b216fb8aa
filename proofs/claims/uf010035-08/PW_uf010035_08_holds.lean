import PyProof.Rows.All
import Wide.FinOn
import Wide.All
import PySem.Eval
import PyProof.Rows.ListMul
import PyProof.IsInstance
import PyProof.ExcClass3
import PyProof.ExcBaseAll.ValueError
import PyProof.ExcAttrAll.ValueError
import PyProof.ExcArgsOwn
import PyProof.EqAt
import OpenK.AllK
import Open.Head
import KE.KRevIter
import PySem.Challenge.RW_uf010035_08
set_option Elab.async false
set_option maxRecDepth 100000
set_option linter.unusedSimpArgs false
set_option linter.unusedVariables false
set_option tactic.hygienic false
set_option genSizeOfSpec false
set_option genSizeOf false
noncomputable section
namespace Mine
open PySem
theorem ea0_3 {A0 A1 A2:Prop} {G:Prop} (h:A0∧A1∧A2) (k:A0→A1→A2→G):G:=k h.1 h.2.1 h.2.2
theorem ea0_4 {A0 A1 A2 A3:Prop} {G:Prop} (h:A0∧A1∧A2∧A3) (k:A0→A1→A2→A3→G):G:=k h.1 h.2.1 h.2.2.1 h.2.2.2
theorem ea0_5 {A0 A1 A2 A3 A4:Prop} {G:Prop} (h:A0∧A1∧A2∧A3∧A4) (k:A0→A1→A2→A3→A4→G):G:=k h.1 h.2.1 h.2.2.1 h.2.2.2.1 h.2.2.2.2
theorem ea1_2 {α0:Type} {A0 A1:α0→Prop} {G:Prop} (h:∃ a0,A0 a0∧A1 a0) (k:∀ a0,A0 a0→A1 a0→G):G:=h.elim fun a0 h=>k a0 h.1 h.2
theorem ea1_3 {α0:Type} {A0 A1 A2:α0→Prop} {G:Prop} (h:∃ a0,A0 a0∧A1 a0∧A2 a0) (k:∀ a0,A0 a0→A1 a0→A2 a0→G):G:=h.elim fun a0 h=>k a0 h.1 h.2.1 h.2.2
theorem ea1_4 {α0:Type} {A0 A1 A2 A3:α0→Prop} {G:Prop} (h:∃ a0,A0 a0∧A1 a0∧A2 a0∧A3 a0) (k:∀ a0,A0 a0→A1 a0→A2 a0→A3 a0→G):G:=h.elim fun a0 h=>k a0 h.1 h.2.1 h.2.2.1 h.2.2.2
theorem ea1_5 {α0:Type} {A0 A1 A2 A3 A4:α0→Prop} {G:Prop} (h:∃ a0,A0 a0∧A1 a0∧A2 a0∧A3 a0∧A4 a0) (k:∀ a0,A0 a0→A1 a0→A2 a0→A3 a0→A4 a0→G):G:=h.elim fun a0 h=>k a0 h.1 h.2.1 h.2.2.1 h.2.2.2.1 h.2.2.2.2
theorem ea2_1 {α0 α1:Type} {A0:α0→α1→Prop} {G:Prop} (h:∃ a0 a1,A0 a0 a1) (k:∀ a0 a1,A0 a0 a1→G):G:=h.elim fun a0 h=>h.elim fun a1 h=>k a0 a1 h
theorem ea2_2 {α0 α1:Type} {A0 A1:α0→α1→Prop} {G:Prop} (h:∃ a0 a1,A0 a0 a1∧A1 a0 a1) (k:∀ a0 a1,A0 a0 a1→A1 a0 a1→G):G:=h.elim fun a0 h=>h.elim fun a1 h=>k a0 a1 h.1 h.2
theorem ea2_3 {α0 α1:Type} {A0 A1 A2:α0→α1→Prop} {G:Prop} (h:∃ a0 a1,A0 a0 a1∧A1 a0 a1∧A2 a0 a1) (k:∀ a0 a1,A0 a0 a1→A1 a0 a1→A2 a0 a1→G):G:=h.elim fun a0 h=>h.elim fun a1 h=>k a0 a1 h.1 h.2.1 h.2.2
theorem ea2_4 {α0 α1:Type} {A0 A1 A2 A3:α0→α1→Prop} {G:Prop} (h:∃ a0 a1,A0 a0 a1∧A1 a0 a1∧A2 a0 a1∧A3 a0 a1) (k:∀ a0 a1,A0 a0 a1→A1 a0 a1→A2 a0 a1→A3 a0 a1→G):G:=h.elim fun a0 h=>h.elim fun a1 h=>k a0 a1 h.1 h.2.1 h.2.2.1 h.2.2.2
theorem ea2_7 {α0 α1:Type} {A0 A1 A2 A3 A4 A5 A6:α0→α1→Prop} {G:Prop} (h:∃ a0 a1,A0 a0 a1∧A1 a0 a1∧A2 a0 a1∧A3 a0 a1∧A4 a0 a1∧A5 a0 a1∧A6 a0 a1) (k:∀ a0 a1,A0 a0 a1→A1 a0 a1→A2 a0 a1→A3 a0 a1→A4 a0 a1→A5 a0 a1→A6 a0 a1→G):G:=h.elim fun a0 h=>h.elim fun a1 h=>k a0 a1 h.1 h.2.1 h.2.2.1 h.2.2.2.1 h.2.2.2.2.1 h.2.2.2.2.2.1 h.2.2.2.2.2.2
theorem ea3_2 {α0 α1 α2:Type} {A0 A1:α0→α1→α2→Prop} {G:Prop} (h:∃ a0 a1 a2,A0 a0 a1 a2∧A1 a0 a1 a2) (k:∀ a0 a1 a2,A0 a0 a1 a2→A1 a0 a1 a2→G):G:=h.elim fun a0 h=>h.elim fun a1 h=>h.elim fun a2 h=>k a0 a1 a2 h.1 h.2
theorem ea3_3 {α0 α1 α2:Type} {A0 A1 A2:α0→α1→α2→Prop} {G:Prop} (h:∃ a0 a1 a2,A0 a0 a1 a2∧A1 a0 a1 a2∧A2 a0 a1 a2) (k:∀ a0 a1 a2,A0 a0 a1 a2→A1 a0 a1 a2→A2 a0 a1 a2→G):G:=h.elim fun a0 h=>h.elim fun a1 h=>h.elim fun a2 h=>k a0 a1 a2 h.1 h.2.1 h.2.2
theorem ea3_4 {α0 α1 α2:Type} {A0 A1 A2 A3:α0→α1→α2→Prop} {G:Prop} (h:∃ a0 a1 a2,A0 a0 a1 a2∧A1 a0 a1 a2∧A2 a0 a1 a2∧A3 a0 a1 a2) (k:∀ a0 a1 a2,A0 a0 a1 a2→A1 a0 a1 a2→A2 a0 a1 a2→A3 a0 a1 a2→G):G:=h.elim fun a0 h=>h.elim fun a1 h=>h.elim fun a2 h=>k a0 a1 a2 h.1 h.2.1 h.2.2.1 h.2.2.2
theorem ea3_5 {α0 α1 α2:Type} {A0 A1 A2 A3 A4:α0→α1→α2→Prop} {G:Prop} (h:∃ a0 a1 a2,A0 a0 a1 a2∧A1 a0 a1 a2∧A2 a0 a1 a2∧A3 a0 a1 a2∧A4 a0 a1 a2) (k:∀ a0 a1 a2,A0 a0 a1 a2→A1 a0 a1 a2→A2 a0 a1 a2→A3 a0 a1 a2→A4 a0 a1 a2→G):G:=h.elim fun a0 h=>h.elim fun a1 h=>h.elim fun a2 h=>k a0 a1 a2 h.1 h.2.1 h.2.2.1 h.2.2.2.1 h.2.2.2.2
theorem ea3_6 {α0 α1 α2:Type} {A0 A1 A2 A3 A4 A5:α0→α1→α2→Prop} {G:Prop} (h:∃ a0 a1 a2,A0 a0 a1 a2∧A1 a0 a1 a2∧A2 a0 a1 a2∧A3 a0 a1 a2∧A4 a0 a1 a2∧A5 a0 a1 a2) (k:∀ a0 a1 a2,A0 a0 a1 a2→A1 a0 a1 a2→A2 a0 a1 a2→A3 a0 a1 a2→A4 a0 a1 a2→A5 a0 a1 a2→G):G:=h.elim fun a0 h=>h.elim fun a1 h=>h.elim fun a2 h=>k a0 a1 a2 h.1 h.2.1 h.2.2.1 h.2.2.2.1 h.2.2.2.2.1 h.2.2.2.2.2
theorem ea4_4 {α0 α1 α2 α3:Type} {A0 A1 A2 A3:α0→α1→α2→α3→Prop} {G:Prop} (h:∃ a0 a1 a2 a3,A0 a0 a1 a2 a3∧A1 a0 a1 a2 a3∧A2 a0 a1 a2 a3∧A3 a0 a1 a2 a3) (k:∀ a0 a1 a2 a3,A0 a0 a1 a2 a3→A1 a0 a1 a2 a3→A2 a0 a1 a2 a3→A3 a0 a1 a2 a3→G):G:=h.elim fun a0 h=>h.elim fun a1 h=>h.elim fun a2 h=>h.elim fun a3 h=>k a0 a1 a2 a3 h.1 h.2.1 h.2.2.1 h.2.2.2
theorem ea4_6 {α0 α1 α2 α3:Type} {A0 A1 A2 A3 A4 A5:α0→α1→α2→α3→Prop} {G:Prop} (h:∃ a0 a1 a2 a3,A0 a0 a1 a2 a3∧A1 a0 a1 a2 a3∧A2 a0 a1 a2 a3∧A3 a0 a1 a2 a3∧A4 a0 a1 a2 a3∧A5 a0 a1 a2 a3) (k:∀ a0 a1 a2 a3,A0 a0 a1 a2 a3→A1 a0 a1 a2 a3→A2 a0 a1 a2 a3→A3 a0 a1 a2 a3→A4 a0 a1 a2 a3→A5 a0 a1 a2 a3→G):G:=h.elim fun a0 h=>h.elim fun a1 h=>h.elim fun a2 h=>h.elim fun a3 h=>k a0 a1 a2 a3 h.1 h.2.1 h.2.2.1 h.2.2.2.1 h.2.2.2.2.1 h.2.2.2.2.2
theorem ea5_4 {α0 α1 α2 α3 α4:Type} {A0 A1 A2 A3:α0→α1→α2→α3→α4→Prop} {G:Prop} (h:∃ a0 a1 a2 a3 a4,A0 a0 a1 a2 a3 a4∧A1 a0 a1 a2 a3 a4∧A2 a0 a1 a2 a3 a4∧A3 a0 a1 a2 a3 a4) (k:∀ a0 a1 a2 a3 a4,A0 a0 a1 a2 a3 a4→A1 a0 a1 a2 a3 a4→A2 a0 a1 a2 a3 a4→A3 a0 a1 a2 a3 a4→G):G:=h.elim fun a0 h=>h.elim fun a1 h=>h.elim fun a2 h=>h.elim fun a3 h=>h.elim fun a4 h=>k a0 a1 a2 a3 a4 h.1 h.2.1 h.2.2.1 h.2.2.2
theorem ea5_5 {α0 α1 α2 α3 α4:Type} {A0 A1 A2 A3 A4:α0→α1→α2→α3→α4→Prop} {G:Prop} (h:∃ a0 a1 a2 a3 a4,A0 a0 a1 a2 a3 a4∧A1 a0 a1 a2 a3 a4∧A2 a0 a1 a2 a3 a4∧A3 a0 a1 a2 a3 a4∧A4 a0 a1 a2 a3 a4) (k:∀ a0 a1 a2 a3 a4,A0 a0 a1 a2 a3 a4→A1 a0 a1 a2 a3 a4→A2 a0 a1 a2 a3 a4→A3 a0 a1 a2 a3 a4→A4 a0 a1 a2 a3 a4→G):G:=h.elim fun a0 h=>h.elim fun a1 h=>h.elim fun a2 h=>h.elim fun a3 h=>h.elim fun a4 h=>k a0 a1 a2 a3 a4 h.1 h.2.1 h.2.2.1 h.2.2.2.1 h.2.2.2.2
theorem ea5_6 {α0 α1 α2 α3 α4:Type} {A0 A1 A2 A3 A4 A5:α0→α1→α2→α3→α4→Prop} {G:Prop} (h:∃ a0 a1 a2 a3 a4,A0 a0 a1 a2 a3 a4∧A1 a0 a1 a2 a3 a4∧A2 a0 a1 a2 a3 a4∧A3 a0 a1 a2 a3 a4∧A4 a0 a1 a2 a3 a4∧A5 a0 a1 a2 a3 a4) (k:∀ a0 a1 a2 a3 a4,A0 a0 a1 a2 a3 a4→A1 a0 a1 a2 a3 a4→A2 a0 a1 a2 a3 a4→A3 a0 a1 a2 a3 a4→A4 a0 a1 a2 a3 a4→A5 a0 a1 a2 a3 a4→G):G:=h.elim fun a0 h=>h.elim fun a1 h=>h.elim fun a2 h=>h.elim fun a3 h=>h.elim fun a4 h=>k a0 a1 a2 a3 a4 h.1 h.2.1 h.2.2.1 h.2.2.2.1 h.2.2.2.2.1 h.2.2.2.2.2
theorem ea6_2 {α0 α1 α2 α3 α4 α5:Type} {A0 A1:α0→α1→α2→α3→α4→α5→Prop} {G:Prop} (h:∃ a0 a1 a2 a3 a4 a5,A0 a0 a1 a2 a3 a4 a5∧A1 a0 a1 a2 a3 a4 a5) (k:∀ a0 a1 a2 a3 a4 a5,A0 a0 a1 a2 a3 a4 a5→A1 a0 a1 a2 a3 a4 a5→G):G:=h.elim fun a0 h=>h.elim fun a1 h=>h.elim fun a2 h=>h.elim fun a3 h=>h.elim fun a4 h=>h.elim fun a5 h=>k a0 a1 a2 a3 a4 a5 h.1 h.2
noncomputable def Is {α:Type} (o:Option α) (R:α→Prop):Prop:=match o with
 | none=>True
 | some x=>R x
section
variable {α β:Type} {o:Option α} {R:α→Prop} {S:β→Prop}
theorem Is.of {x:α} (h:Is o R) (e:o = some x):R x:=by subst e; exact h
theorem Is.bind {f:α→Option β} (h:Is o R) (k:∀ x,R x→Is (f x) S):Is (o.bind f) S:=by
 cases o with
 | none=>exact trivial
 | some x=>exact k x h
theorem Is.map {f:α→β} (h:Is o R) (k:∀ x,R x→S (f x)):Is (o.map f) S:=by
 cases o with
 | none=>exact trivial
 | some x=>exact k x h
theorem Is.to (k:∀ x,o = some x→R x):Is o R:=by
 cases o with
 | none=>exact trivial
 | some x=>exact k x rfl
theorem Is.self:Is o fun x=>o = some x:=Is.to fun _ h=>h
theorem Is.imp {R':α→Prop} (h:Is o R) (k:∀ x,R x→R' x):Is o R':=by
 cases o with
 | none=>exact trivial
 | some x=>exact k x h
theorem Is.ite2 {p:Prop} [Decidable p] {a:Option α} (k:p→Is a R) (l:¬p→Is o R):Is (if p then a else o) R:=by
 by_cases h:p
 ·rw [if_pos h]; exact k h
 ·rw [if_neg h]; exact l h
theorem Is.ite {p:Prop} [Decidable p] (k:p→Is o R):Is (if p then o else none) R:=Is.ite2 k fun _=>trivial
theorem Is.nite {b:Bool} (k:b = false→Is o R):Is (if b = true then none else o) R:=by
 cases b with
 | false=>exact k rfl
 | true=>exact trivial
end
theorem ea0_2 {A0 A1:Prop} {G:Prop} (h:A0∧A1) (k:A0→A1→G):G:=k h.1 h.2
theorem ea1_1 {α0:Type} {A0:α0→Prop} {G:Prop} (h:∃ a0,A0 a0) (k:∀ a0,A0 a0→G):G:=h.elim k
theorem optE {α:Type} {o:Option α} {G:Prop} (n:o = none→G) (s:∀ a,o = some a→G):G:=by
 cases o with
 | none=>exact n rfl
 | some a=>exact s a rfl
theorem optF {α:Type} {o:Option α} {G:Prop} (s:∀ a,o = some a→G) (n:o = none→G):G:=optE n s
theorem boolE {o:Bool} {G:Prop} (t:o = true→G) (f:o = false→G):G:=by
 cases o with
 | false=>exact f rfl
 | true=>exact t rfl
section
variable {α:Type} {a b:α} {l:List α} {p:α→Prop}
theorem in1 (h:a ∈ [b]):a = b:=List.mem_singleton.mp h
theorem nin1 (h:a ≠ b):a ∉ [b]:=fun q=>h (in1 q)
theorem ne1 (h:a ∉ [b]):a ≠ b:=fun q=>h (q ▸ .head _)
theorem fm0:∀ b ∈ ([]:List α),p b:=nofun
theorem fm1 (h:p a) (k:∀ b ∈ l,p b):∀ b ∈ a :: l,p b:=fun _ q=>(List.mem_cons.mp q).elim (fun e=>e ▸ h) fun q=>k _ q
theorem memE {G:Prop} (h:b ∈ a :: l) (k:b = a→G) (k':b ∈ l→G):G:=(List.mem_cons.mp h).elim k k'
theorem app_all {l':List α} (h:∀ b ∈ l,p b) (k:∀ b ∈ l',p b):∀ b ∈ l ++ l',p b:=fun b hb=>(List.mem_append.mp hb).elim (h b) (k b)
theorem nin2 (h:a ∉ l) (k:a ≠ b):a ∉ l ++ [b]:=fun q=>(List.mem_append.mp q).elim h fun q=>k (in1 q)
theorem all1 (h:p a):∀ b ∈ [a],p b:=fm1 h fm0
end
theorem app_get {α:Type} {l m:List α} {k:Nat} {x:α} (r:l[k]? = some x):(l ++ m)[k]? = some x:=(List.getElem?_append_left (List.getElem?_eq_some_iff.mp r).1).trans r
theorem snoc_get {α:Type} {l:List α} {a x:α} {k:Nat} (h:(l ++ [a])[k]? = some x):l[k]? = some x ∨ k = l.length∧x = a:=by
 by_cases hlt:k < l.length
 ·exact .inl ((List.getElem?_append_left hlt).symm.trans h)
 ·have h':=(List.getElem?_append_right (Nat.not_lt.mp hlt)).symm.trans h
  cases hk:k - l.length with
  | zero=>rw [hk] at h'; exact .inr ⟨Nat.le_antisymm (Nat.le_of_sub_eq_zero hk) (Nat.not_lt.mp hlt),(Option.some.inj h').symm⟩
  | succ m=>rw [hk] at h'; exact nomatch h'
theorem nos {α:Type} {x:α} {p:Prop} (h:none = some x):p:=nomatch h
theorem pinj {α β:Type} {a c:α} {b d:β} (h:some (a,b) = some (c,d)):a = c∧b = d:=Prod.mk.inj (Option.some.inj h)
inductive V where
 | none
 | bool (b:Bool)
 | int (i:Int)
 | str (s:List Char)
 | tup (vs:List V)
 | lst (vs:List V)
 | dct (ks:List (List Char)) (vs:List V)
 | rng (a b:Int)
 | ref (i:Nat)
deriving Inhabited
inductive O where
 | list (vs:List V)
 | dict (ks:List (List Char)) (vs:List V)
 | inst (c:Nat) (d:Nat)
 | ns (ks:List (List Char)) (vs:List V)
deriving Inhabited
abbrev AH:=List O
abbrev Fm:=List (Option V)
mutual
noncomputable def V.data:V→Bool
 | .none | .bool _ | .int _ | .str _=>true
 | .tup vs | .lst vs=>V.datas vs
 | .dct _ _ | .rng _ _ | .ref _=>false
noncomputable def V.datas:List V→Bool
 | []=>true
 | v :: vs=>V.data v && V.datas vs
end
mutual
noncomputable def V.depth:V→Nat
 | .tup vs | .lst vs=>V.depths vs + 1
 | .none | .bool _ | .int _ | .str _ | .dct _ _ | .rng _ _ | .ref _=>0
noncomputable def V.depths:List V→Nat
 | []=>0
 | v :: vs=>max (V.depth v) (V.depths vs)
end
mutual
noncomputable def eqV:V→V→Bool
 | .none,.none=>true
 | .bool a,.bool b=>a == b
 | .bool a,.int j=>(if a then 1 else 0) == j
 | .int i,.bool b=>i == (if b then 1 else 0)
 | .int i,.int j=>i == j
 | .str x,.str y=>x == y
 | .lst xs,.lst ys=>eqVs xs ys
 | .tup xs,.tup ys=>eqVs xs ys
 | _,_=>false
noncomputable def eqVs:List V→List V→Bool
 | [],[]=>true
 | x :: xs,y :: ys=>eqV x y && eqVs xs ys
 | _,_=>false
end
inductive Ty where
 | int | bool | str | list | tuple
deriving DecidableEq,Inhabited
inductive Bop where
 | add | sub | mul | fdiv | mod | pow
deriving DecidableEq,Inhabited
inductive Cop where
 | eq | ne | lt | le | gt | ge | is | isnot | in_ | notin
deriving DecidableEq,Inhabited
set_option genInjectivity false in
inductive Prim where
 | bop (o:Bop)
 | cop (o:Cop)
 | not | neg
 | len | isinst (t:Ty) | range1 | range2 | list | int | min | all
 | item | slice
 | mklist | mktup | mkdict (ks:List (List Char)) | mkdict1
 | append | pop | pop0 | extend | index | dpop | lindex | rep
 | attr (n:List Char)
deriving Inhabited
inductive Mt where
 | list | dict | str | tup
deriving DecidableEq,Inhabited
noncomputable def Prim.fresh:Prim→Bool
 | .list | .slice | .mklist | .mkdict _ | .mkdict1 | .rep=>true
 | _=>false
set_option genInjectivity false in
inductive Ex where
 | cst (v:V)
 | var (i:Nat)
 | prim (mu:Bool) (p:Prim) (args:List Ex)
 | and (a b:Ex)
 | or (a b:Ex)
 | cmp2 (a:Ex) (o₁:Cop) (b:Ex) (o₂:Cop) (c:Ex)
 | call (f:Nat) (args:List Ex)
 | meth (k f:Nat) (name:List Char) (o:Ex) (args:List Ex)
 | mcall (t:Mt) (mu:Bool) (p:Prim) (o:Ex) (args:List Ex)
 | new (c:Nat) (f:Nat) (args:List Ex)
 | comp (mu:Bool) (elt it:Ex) (cond:Option Ex)
deriving Inhabited
set_option genInjectivity false in
inductive St where
 | asg (i:Nat) (e:Ex)
 | asgTup (is:List Nat) (e:Ex)
 | setItem (o i e:Ex)
 | setAttr (o:Ex) (n:List Char) (e:Ex)
 | expr (e:Ex)
 | ite (c:Ex) (a b:List St)
 | forIn (rev:Bool) (tgt:Nat ⊕ List Nat) (e:Ex) (body:List St)
 | while_ (c:Ex) (body:List St)
 | ret (e:Ex)
 | raise (c:Nat)
 | try_ (body:List St) (cls:Nat)
 | pass
deriving Inhabited
structure Fn where
 arity:Nat
 extra:Nat
 body:List St
deriving Inhabited
noncomputable def O.lst:O→Option (List V)
 | .list vs=>some vs
 | _=>none
noncomputable def O.dct:O→Option (List (List Char) × List V)
 | .dict ks vs=>some (ks,vs)
 | _=>none
noncomputable def view (H:AH):V→Option (List V)
 | .lst vs=>some vs
 | .ref i=>H[i]?.bind O.lst
 | _=>none
noncomputable def dview (H:AH):V→Option (List (List Char) × List V)
 | .dct ks vs=>some (ks,vs)
 | .ref i=>H[i]?.bind O.dct
 | _=>none
noncomputable def okD (vs:List V):Bool:=V.datas vs && decide (V.depths vs ≤ 50)
noncomputable def rdD (v:V):Option V:=if (V.data v && decide (V.depth v ≤ 50)) = true then some v else none
noncomputable def rd (H:AH) (v:V):Option V :=
 match v with
 | .ref i=>(view H (.ref i)).bind fun vs=>if okD vs = true then some (.lst vs) else none
 | v=>rdD v
noncomputable def sizeOf':Nat:=1000000
noncomputable def idx (n:Nat) (i:Int):Option Nat :=
 if 0 ≤ i then (if i < n then some i.toNat else none) else (if 0 ≤ i + n then some (i + n).toNat else none)
noncomputable def dget (k:List Char):List (List Char)→List V→Option V
 | k' :: ks,v :: vs=>if k = k' then some v else dget k ks vs
 | _,_=>none
noncomputable def dput (k:List Char) (x:V):List (List Char)→List V→List (List Char) × List V
 | k' :: ks,v :: vs=>if k = k' then (k' :: ks,x :: vs) else let r:=dput k x ks vs; (k' :: r.1,v :: r.2)
 | _,_=>([k],[x])
noncomputable def ddel (k:List Char):List (List Char)→List V→List (List Char) × List V
 | k' :: ks,v :: vs=>if k = k' then (ks,vs) else let r:=ddel k ks vs; (k' :: r.1,v :: r.2)
 | _,_=>([],[])
noncomputable def clip (n:Nat) (i:Int):Nat :=
 if i < 0 then (if i + n < 0 then 0 else (i + n).toNat) else (if i < n then i.toNat else n)
noncomputable def sliceL {α:Type} (xs:List α) (a b:Nat):List α:=(xs.take b).drop a
noncomputable def partOf:V→Option (Option Int)
 | .none=>some none
 | .int i=>some (some i)
 | _=>none
noncomputable def loN (n:Nat):Option Int→Nat
 | none=>0
 | some i=>clip n i
noncomputable def hiN (n:Nat):Option Int→Nat
 | none=>n
 | some i=>clip n i
noncomputable def truth:V→Option Bool
 | .bool b=>some b
 | _=>none
noncomputable def live (H:AH) (i:Nat):Bool:=match H[i]? with
 | some (.list _) | some (.dict _ _) | some (.inst _ _)=>true
 | _=>false
noncomputable def isNone? (H:AH):V→Option Bool
 | .none=>some true
 | .ref i=>if live H i then some false else none
 | .rng _ _=>none
 | _=>some false
noncomputable def isV (H:AH) (a b:V):Option Bool:=match b with
 | .none=>isNone? H a
 | _=>none
noncomputable def smallInt (i:Int):Bool:=decide (-10 ^ 12 ≤ i∧i ≤ 10 ^ 12)
noncomputable def int2 (f:Int→Int→Option Int):V→V→Option V
 | .int a,.int b=>(f a b).map V.int
 | _,_=>none
noncomputable def mulI (a b:Int):Option Int:=if smallInt a && smallInt b then some (a * b) else none
noncomputable def divI (a b:Int):Option Int:=if 0 < b∧b ≤ 10 ^ 12 then some (a / b) else none
noncomputable def modI (a b:Int):Option Int:=if 0 < b then some (a % b) else none
noncomputable def powI (a b:Int):Option Int:=if a = 10∧0 ≤ b∧b ≤ 30 then some (10 ^ b.toNat) else none
noncomputable def addL (H:AH) (a b:V):Option V:=(view H a).bind fun xs=>(view H b).bind fun ys=>if xs.length + ys.length ≤ sizeOf' then some (.lst (xs ++ ys)) else none
noncomputable def addV (H:AH) (a b:V):Option V:=match a with
 | .int _=>int2 (fun a b=>some (a + b)) a b
 | .str x=>(match b with | .str y=>if x.length + y.length ≤ sizeOf' then some (.str (x ++ y)) else none | _=>none)
 | .tup x=>(match b with | .tup y=>if x.length + y.length ≤ sizeOf' then some (.tup (x ++ y)) else none | _=>none)
 | _=>addL H a b
noncomputable def mulV (_:AH) (a b:V):Option V:=int2 mulI a b
noncomputable def binop (o:Bop) (a b:V) (H:AH):Option V:=match o with
 | .add=>addV H a b
 | .sub=>int2 (fun a b=>some (a - b)) a b
 | .mul=>mulV H a b
 | .fdiv=>int2 divI a b
 | .mod=>int2 modI a b
 | .pow=>int2 powI a b
noncomputable def inC (s:List Char):List Char→Option Bool
 | []=>none
 | c :: t=>if t.isEmpty = true then some (s.contains c) else none
noncomputable def V.txt:V→Option (List Char)
 | .str s=>some s
 | _=>Option.none
noncomputable def inL (H:AH) (x:V) (vs:List V):Option Bool:=(rd H x).bind fun x'=>if okD vs = true then some (vs.any fun y=>eqV y x') else none
noncomputable def inD (H:AH) (x c:V):Option Bool:=(dview H c).bind fun d=>x.txt.map fun k=>d.1.contains k
noncomputable def inO (H:AH) (x c:V) (o:Option (List V)):Option Bool:=match o with
 | some vs=>inL H x vs
 | none=>inD H x c
noncomputable def inV (H:AH) (x c:V):Option Bool :=
 match c with
 | .str s=>x.txt.bind (inC s)
 | .tup vs=>inL H x vs
 | c=>inO H x c (view H c)
noncomputable def eqO (H:AH) (a b:V):Option Bool:=(rd H a).bind fun x=>(rd H b).map fun y=>eqV x y
noncomputable def cmpI (f:Int→Int→Bool):V→V→Option Bool
 | .int a,.int b=>some (f a b)
 | _,_=>none
noncomputable def cmpop (o:Cop) (a b:V) (H:AH):Option Bool:=match o with
 | .eq=>eqO H a b
 | .ne=>(eqO H a b).map (!·)
 | .lt=>cmpI (fun a b=>decide (a < b)) a b
 | .le=>cmpI (fun a b=>decide (a ≤ b)) a b
 | .gt=>cmpI (fun a b=>decide (b < a)) a b
 | .ge=>cmpI (fun a b=>decide (b ≤ a)) a b
 | .is=>isV H a b
 | .isnot=>(isV H a b).map (!·)
 | .in_=>inV H a b
 | .notin=>(inV H a b).map (!·)
noncomputable def V.isRng:V→Bool
 | .rng _ _=>true
 | _=>false
noncomputable def rngL (a b:Int):List V:=(List.range (b - a).toNat).map fun (i:Nat)=>V.int (a + i)
noncomputable def src (H:AH):V→Option (List V)
 | .tup vs=>some vs
 | .str s=>some (s.map fun c=>V.str [c])
 | .rng a b=>some (rngL a b)
 | v=>view H v
noncomputable def srcR:V→Option (List V)
 | .tup vs=>some vs.reverse
 | .lst vs=>some vs.reverse
 | _=>none
noncomputable def srcD (rev:Bool) (H:AH) (v:V):Option (List V):=match rev with
 | false=>src H v
 | true=>srcR v
structure Prog where
 fns:Nat→Option Fn
 sub:Nat→Nat→Bool
noncomputable def subL (cs:List (List Nat)) (k j:Nat):Bool:=(cs[k]?).any (·.contains j)
noncomputable def progX (fns:List Fn) (cs:List (List Nat)):Prog:={ fns:=fun i=>fns[i]?,sub:=subL cs }
noncomputable def O.isTy (t:Ty):O→Option Bool
 | .list _=>some (t == .list)
 | .dict _ _=>some false
 | _=>none
noncomputable def isinst (H:AH):V→Ty→Option Bool
 | .int _,t=>some (t == .int)
 | .bool _,t=>some (t == .int || t == .bool)
 | .str _,t=>some (t == .str)
 | .tup _,t=>some (t == .tuple)
 | .lst _,t=>some (t == .list)
 | .none,_=>some false
 | .dct _ _,_=>some false
 | .ref i,t=>H[i]?.bind (O.isTy t)
 | _,_=>none
noncomputable def bools?:List V→Option (List Bool)
 | []=>some []
 | .bool b :: r=>(bools? r).map (b :: ·)
 | _ :: _=>none
noncomputable def V.num:V→Option Int
 | .int a=>some a
 | _=>Option.none
noncomputable def pBop (o:Bop):List V→AH→Option (V × AH)
 | [a,b],H=>(binop o a b H).map (·,H)
 | _,_=>none
noncomputable def pCop (o:Cop):List V→AH→Option (V × AH)
 | [a,b],H=>(cmpop o a b H).map (V.bool ·,H)
 | _,_=>none
noncomputable def pNot:List V→AH→Option (V × AH)
 | [a],H=>(truth a).map (V.bool !·,H)
 | _,_=>none
noncomputable def pNeg:List V→AH→Option (V × AH)
 | [v],H=>v.num.map fun a=>(V.int (-a),H)
 | _,_=>none
noncomputable def lenO (d:Option Nat):Option (List V)→Option Nat
 | some vs=>some vs.length
 | none=>d
noncomputable def lenV (H:AH):V→Option Nat
 | .str s=>some s.length
 | .tup s=>some s.length
 | v=>lenO ((dview H v).map fun d=>d.1.length) (view H v)
noncomputable def pLen:List V→AH→Option (V × AH)
 | [v],H=>(lenV H v).map fun (n:Nat)=>(V.int n,H)
 | _,_=>none
noncomputable def pIsinst (t:Ty):List V→AH→Option (V × AH)
 | [a],H=>(isinst H a t).map (V.bool ·,H)
 | _,_=>none
noncomputable def pRange1:List V→AH→Option (V × AH)
 | [v],H=>v.num.bind fun b=>if smallInt b = true then some (.rng 0 b,H) else none
 | _,_=>none
noncomputable def pRange2:List V→AH→Option (V × AH)
 | [v,w],H=>v.num.bind fun a=>w.num.bind fun b=>if (smallInt a && smallInt b) = true then some (.rng a b,H) else none
 | _,_=>none
noncomputable def listV (H:AH):V→Option V
 | .rng a b=>if (b - a).toNat ≤ sizeOf' then some (.lst (rngL a b)) else none
 | .tup vs=>if vs.length ≤ sizeOf' then some (.lst vs) else none
 | v=>(view H v).bind fun vs=>if vs.length ≤ sizeOf' then some (.lst vs) else none
noncomputable def pList:List V→AH→Option (V × AH)
 | [v],H=>(listV H v).map (·,H)
 | _,_=>none
noncomputable def pInt:List V→AH→Option (V × AH)
 | [.bool b],H=>some (.int (if b then 1 else 0),H)
 | _,_=>none
noncomputable def pMin:List V→AH→Option (V × AH)
 | [v,w],H=>v.num.bind fun a=>w.num.map fun b=>(V.int (min a b),H)
 | _,_=>none
noncomputable def pAll:List V→AH→Option (V × AH)
 | [v],H=>((view H v).bind bools?).map fun bs=>(.bool (bs.all id),H)
 | _,_=>none
noncomputable def itemI (H:AH) (v:V) (i:Int):Option V:=match v with
 | .str s=>(idx s.length i).bind fun j=>s[j]?.map fun c=>.str [c]
 | .tup vs=>(idx vs.length i).bind fun j=>vs[j]?
 | v=>(view H v).bind fun vs=>(idx vs.length i).bind fun j=>vs[j]?
noncomputable def itemV (H:AH) (v i:V):Option V:=match i with
 | .int i=>itemI H v i
 | .str k=>(dview H v).bind fun d=>dget k d.1 d.2
 | _=>none
noncomputable def pItem:List V→AH→Option (V × AH)
 | [v,i],H=>(itemV H v i).map (·,H)
 | _,_=>none
noncomputable def sliceV (H:AH) (v:V) (lo hi:Option Int):Option V:=match v with
 | .str s=>if s.length ≤ sizeOf' then some (.str (sliceL s (loN s.length lo) (hiN s.length hi))) else none
 | v=>(view H v).bind fun s=>if s.length ≤ sizeOf' then some (.lst (sliceL s (loN s.length lo) (hiN s.length hi))) else none
noncomputable def pSlice:List V→AH→Option (V × AH)
 | [v,a,b],H=>(partOf a).bind fun lo=>(partOf b).bind fun hi=>(sliceV H v lo hi).map (·,H)
 | _,_=>none
noncomputable def pMklist (vs:List V) (H:AH):Option (V × AH):=if vs.length ≤ sizeOf' then some (.lst vs,H) else none
noncomputable def pMktup (vs:List V) (H:AH):Option (V × AH):=if vs.length ≤ sizeOf' then some (.tup vs,H) else none
noncomputable def pMkdict (ks:List (List Char)) (vs:List V) (H:AH):Option (V × AH):=if ks.length = vs.length∧ks.length ≤ 15∧ks.Nodup then some (.dct ks vs,H) else none
noncomputable def pMkdict1:List V→AH→Option (V × AH)
 | [k,v],H=>k.txt.map fun k=>(.dct [k] [v],H)
 | _,_=>none
noncomputable def V.at:V→Option Nat
 | .ref i=>some i
 | _=>Option.none
noncomputable def heapL (H:AH) (v:V):Option (Nat × List V):=v.at.bind fun i=>(H[i]?.bind O.lst).bind fun vs=>some (i,vs)
noncomputable def pAppend:List V→AH→Option (V × AH)
 | [v,x],H=>(heapL H v).bind fun p=>if p.2.length ≤ sizeOf' then some (.none,H.set p.1 (.list (p.2 ++ [x]))) else none
 | _,_=>none
noncomputable def pPop:List V→AH→Option (V × AH)
 | [v],H=>(heapL H v).bind fun p=>if p.2.length ≤ sizeOf' then p.2.getLast?.map fun x=>(x,H.set p.1 (.list p.2.dropLast)) else none
 | _,_=>none
noncomputable def pPop0:List V→AH→Option (V × AH)
 | [v,w],H=>(heapL H v).bind fun p=>w.num.bind fun n=>if n = 0∧p.2.length ≤ sizeOf' then p.2.head?.map fun x=>(x,H.set p.1 (.list p.2.tail)) else none
 | _,_=>none
noncomputable def pExtend:List V→AH→Option (V × AH)
 | [v,w],H=>(heapL H v).bind fun p=>(view H w).bind fun ys=>if p.2.length + ys.length ≤ sizeOf' then some (.none,H.set p.1 (.list (p.2 ++ ys))) else none
 | _,_=>none
noncomputable def V.tpl:V→Option (List V)
 | .tup vs=>some vs
 | _=>Option.none
noncomputable def pIndex:List V→AH→Option (V × AH)
 | [v,x],H=>v.tpl.bind fun vs=>(rd H x).bind fun x'=>if okD vs = true then (vs.findIdx? fun y=>eqV y x').map fun (k:Nat)=>(V.int k,H) else none
 | _,_=>none
noncomputable def pLindex:List V→AH→Option (V × AH)
 | [.lst vs,x],H=>(rd H x).bind fun x'=>if okD vs = true then (vs.findIdx? fun y=>eqV y x').map fun (k:Nat)=>(V.int k,H) else none
 | _,_=>none
noncomputable def pRep:List V→AH→Option (V × AH)
 | [.lst [x],.int n],H=>if 0 ≤ n∧n ≤ 1000 then some (.lst (List.replicate n.toNat x),H) else none
 | _,_=>none
noncomputable def heapD (H:AH) (v:V):Option (Nat × (List (List Char) × List V)):=v.at.bind fun i=>(H[i]?.bind O.dct).bind fun d=>some (i,d)
noncomputable def pDpop:List V→AH→Option (V × AH)
 | [v,w],H=>(heapD H v).bind fun p=>w.txt.bind fun k=>if p.2.1.length ≤ sizeOf' then (dget k p.2.1 p.2.2).map fun x=>(x,H.set p.1 (.dict (ddel k p.2.1 p.2.2).1 (ddel k p.2.1 p.2.2).2)) else none
 | _,_=>none
noncomputable def O.ins:O→Option Nat
 | .inst c d=>if c = 0 then some d else none
 | _=>none
noncomputable def O.nms:O→Option (List (List Char) × List V)
 | .ns ks vs=>some (ks,vs)
 | _=>none
noncomputable def insOf (H:AH) (v:V):Option (Nat × (List (List Char) × List V)):=v.at.bind fun i=>(H[i]?.bind O.ins).bind fun d=>(H[d]?.bind O.nms).map fun q=>(d,q)
noncomputable def pAttr (n:List Char):List V→AH→Option (V × AH)
 | [v],H=>(insOf H v).bind fun q=>(dget n q.2.1 q.2.2).map (·,H)
 | _,_=>none
noncomputable def prim (P:Prog):Prim→List V→AH→Option (V × AH)
 | .bop o=>pBop o
 | .cop o=>pCop o
 | .not=>pNot
 | .neg=>pNeg
 | .len=>pLen
 | .isinst t=>pIsinst t
 | .range1=>pRange1
 | .range2=>pRange2
 | .list=>pList
 | .int=>pInt
 | .min=>pMin
 | .all=>pAll
 | .item=>pItem
 | .slice=>pSlice
 | .mklist=>pMklist
 | .mktup=>pMktup
 | .mkdict ks=>pMkdict ks
 | .mkdict1=>pMkdict1
 | .append=>pAppend
 | .pop=>pPop
 | .pop0=>pPop0
 | .extend=>pExtend
 | .index=>pIndex
 | .dpop=>pDpop
 | .lindex=>pLindex
 | .rep=>pRep
 | .attr n=>pAttr n
noncomputable def thaw:V→AH→Option (V × AH)
 | .lst vs,H=>some (.ref H.length,H ++ [.list vs])
 | .dct ks vs,H=>some (.ref H.length,H ++ [.dict ks vs])
 | _,_=>none
noncomputable def hasTy (H:AH) (v:V) (t:Mt):Bool:=match t with
 | .str=>v.txt.isSome
 | .list=>(view H v).isSome
 | .dict=>(dview H v).isSome
 | .tup=>v.tpl.isSome
noncomputable def hasMeth (H:AH) (_k:Nat) (name:List Char) (v:V):Bool:=(insOf H v).any fun q=>!q.2.1.contains name
noncomputable def primM (P:Prog) (mu:Bool) (p:Prim) (vs:List V) (H:AH):Option (V × AH) :=
 if mu then (if p.fresh then (prim P p vs H).bind fun r=>thaw r.1 r.2 else none) else prim P p vs H
abbrev QE:=V→AH→Prop
abbrev XE:=Nat→AH→Prop
abbrev Calls:=Nat→List V→AH→QE→XE→Prop
noncomputable def okE (r:Option (V × AH)) (Q:QE):Prop:=match r with | some (v,H)=>Q v H | none=>False
noncomputable def okB (r:Option Bool) (K:Bool→Prop):Prop:=match r with | some b=>K b | none=>False
noncomputable def compL (F:V→AH→(Option V→AH→Prop)→Prop) (ok:AH→Prop):List V→List V→AH→(List V→AH→Prop)→Prop
 | [],acc,H,Q=>ok H∧Q acc H
 | v :: vs,acc,H,Q=>ok H∧F v H fun r H'=>compL F ok vs (match r with | some x=>acc ++ [x] | none=>acc) H' Q
mutual
noncomputable def wpE (P:Prog) (C:Calls):Ex→Fm→AH→QE→XE→Prop
 | .cst v,_,H,Q,_=>Q v H
 | .var i,ρ,H,Q,_=>match ρ[i]? with | some (some v)=>Q v H | _=>False
 | .prim mu p args,ρ,H,Q,X=>wpEs P C args ρ H (fun vs H'=>okE (primM P mu p vs H') Q) X
 | .and a b,ρ,H,Q,X=>wpE P C a ρ H (fun v H'=>okB (truth v) fun t=>if t then wpE P C b ρ H' Q X else Q (.bool t) H') X
 | .or a b,ρ,H,Q,X=>wpE P C a ρ H (fun v H'=>okB (truth v) fun t=>if !t then wpE P C b ρ H' Q X else Q (.bool t) H') X
 | .cmp2 a o₁ b o₂ c,ρ,H,Q,X=>wpE P C a ρ H (fun x H₁=>wpE P C b ρ H₁ (fun y H₂=>okB (cmpop o₁ x y H₂) fun t =>
   if t then wpE P C c ρ H₂ (fun z H₃=>okB (cmpop o₂ y z H₃) fun t'=>Q (.bool t') H₃) X else Q (.bool false) H₂) X) X
 | .call f args,ρ,H,Q,X=>wpEs P C args ρ H (fun vs H'=>C f vs H' Q X) X
 | .meth k f name o args,ρ,H,Q,X=>wpE P C o ρ H (fun v H₁=>hasMeth H₁ k name v = true∧wpEs P C args ρ H₁ (fun vs H'=>C f (v :: vs) H' Q X) X) X
 | .mcall t mu p o args,ρ,H,Q,X=>wpE P C o ρ H (fun v H₁=>hasTy H₁ v t = true∧wpEs P C args ρ H₁ (fun vs H'=>okE (primM P mu p (v :: vs) H') Q) X) X
 | .new c f args,ρ,H,Q,X=>wpEs P C args ρ H (fun vs H'=>C f (.ref (H'.length + 1) :: vs) (H' ++ [.ns [] [],.inst c H'.length]) (fun v H''=>v = .none∧Q (.ref (H'.length + 1)) H'') X) X
 | .comp mu elt it cond,ρ,H,Q,X=>wpE P C it ρ H (fun v H₁=>∃ items,src H₁ v = some items∧items.length ≤ sizeOf' ∧
   compL (fun x H' K=>match cond with
     | none=>wpE P C elt (ρ ++ [some x]) H' (fun y H''=>K (some y) H'') X
     | some c=>wpE P C c (ρ ++ [some x]) H' (fun b H₂=>okB (truth b) fun t=>if t then wpE P C elt (ρ ++ [some x]) H₂ (fun y H''=>K (some y) H'') X else K none H₂) X)
    (fun H'=>src H' v = some items) items [] H₁ (fun ys H₂=>okE (if mu then thaw (.lst ys) H₂ else some (.lst ys,H₂)) Q)) X
noncomputable def wpEs (P:Prog) (C:Calls):List Ex→Fm→AH→(List V→AH→Prop)→XE→Prop
 | [],_,H,Q,_=>Q [] H
 | e :: es,ρ,H,Q,X=>wpE P C e ρ H (fun v H'=>wpEs P C es ρ H' (fun vs H''=>Q (v :: vs) H'') X) X
end
noncomputable def setTgt (ρ:Fm):Nat ⊕ List Nat→V→Option Fm
 | .inl i,v=>some (ρ.set i (some v))
 | .inr is,.tup vs=>if is.length = vs.length then some ((is.zip vs).foldl (fun ρ p=>ρ.set p.1 (some p.2)) ρ) else none
 | _,_=>none
abbrev KS:=Fm→AH→Prop
noncomputable def forL (F:V→Fm→AH→KS→Prop) (ok:AH→Prop):List V→Fm→AH→KS→Prop
 | [],ρ,H,K=>ok H∧K ρ H
 | v :: vs,ρ,H,K=>ok H∧F v ρ H fun ρ' H'=>forL F ok vs ρ' H' K
noncomputable def whileL (F:Fm→AH→KS→KS→Prop):Nat→Fm→AH→KS→Prop
 | 0,_,_,_=>False
 | k + 1,ρ,H,K=>F ρ H (fun ρ' H'=>whileL F k ρ' H' K) K
noncomputable def setD (r:Nat) (k:List Char) (x:V) (H:AH) (o:Option O):Option AH:=match o with
 | some (.dict ks vs)=>if ks.length ≤ sizeOf' then some (H.set r (.dict (dput k x ks vs).1 (dput k x ks vs).2)) else none
 | _=>none
noncomputable def setL (r:Nat) (i:Int) (x:V) (H:AH) (o:Option O):Option AH:=match o with
 | some (.list vs)=>if 0 ≤ i∧i < vs.length then some (H.set r (.list (vs.set i.toNat x))) else none
 | _=>none
noncomputable def setItemV (o i x:V) (H:AH):Option AH:=match o with
 | .ref r=>(match i with
  | .str k=>setD r k x H H[r]?
  | .int k=>setL r k x H H[r]?
  | _=>none)
 | _=>none
noncomputable def setAttrV (o:V) (n:List Char) (x:V) (H:AH):Option AH :=
 (insOf H o).bind fun q=>if q.2.1.length ≤ 1000 then some (H.set q.1 (.ns (dput n x q.2.1 q.2.2).1 (dput n x q.2.1 q.2.2).2)) else none
mutual
noncomputable def wpS (P:Prog) (C:Calls):St→Fm→AH→KS→QE→XE→Prop
 | .asg i e,ρ,H,K,_,X=>wpE P C e ρ H (fun v H'=>i < ρ.length∧K (ρ.set i (some v)) H') X
 | .asgTup is e,ρ,H,K,_,X=>wpE P C e ρ H (fun v H'=>match setTgt ρ (.inr is) v with | some ρ'=>K ρ' H' | none=>False) X
 | .setItem o i e,ρ,H,K,_,X=>wpE P C e ρ H (fun x H₁=>wpE P C o ρ H₁ (fun ov H₂=>wpE P C i ρ H₂ (fun iv H₃=>match setItemV ov iv x H₃ with | some H'=>K ρ H' | none=>False) X) X) X
 | .setAttr o n e,ρ,H,K,_,X=>wpE P C e ρ H (fun x H₁=>wpE P C o ρ H₁ (fun ov H₂=>match setAttrV ov n x H₂ with | some H'=>K ρ H' | none=>False) X) X
 | .expr e,ρ,H,K,_,X=>wpE P C e ρ H (fun _ H'=>K ρ H') X
 | .ite c a b,ρ,H,K,R,X=>wpE P C c ρ H (fun v H'=>okB (truth v) fun t=>if t then wpSs P C a ρ H' K R X else wpSs P C b ρ H' K R X) X
 | .forIn rev tgt e body,ρ,H,K,R,X=>wpE P C e ρ H (fun v H₁=>∃ items,srcD rev H₁ v = some items∧items.length ≤ sizeOf' ∧
   forL (fun x ρ' H' K'=>match setTgt ρ' tgt x with | some ρ''=>wpSs P C body ρ'' H' K' R (fun _ _=>False) | none=>False)
    (fun H'=>srcD rev H' v = some items) items ρ H₁ K) X
 | .while_ c body,ρ,H,K,R,X=>∃ k,whileL (fun ρ' H' K₁ K₂=>wpE P C c ρ' H' (fun v H''=>okB (truth v) fun t=>if t then wpSs P C body ρ' H'' K₁ R (fun _ _=>False) else K₂ ρ' H'') (fun _ _=>False)) k ρ H K
 | .ret e,ρ,H,_,R,X=>wpE P C e ρ H R X
 | .raise c,_,H,_,_,X=>X c H
 | .try_ body cls,ρ,H,K,R,X=>wpSs P C body ρ H K R (fun c H'=>(P.sub c c && P.sub c cls) = true∧R .none H')
 | .pass,ρ,H,K,_,_=>K ρ H
noncomputable def wpSs (P:Prog) (C:Calls):List St→Fm→AH→KS→QE→XE→Prop
 | [],ρ,H,K,_,_=>K ρ H
 | s :: ss,ρ,H,K,R,X=>wpS P C s ρ H (fun ρ' H'=>wpSs P C ss ρ' H' K R X) R X
end
abbrev Ret (_:AH) (Q:QE) (v:V) (H':AH):Prop:=Q v H'
abbrev RetX (_:AH) (X:XE) (c:Nat) (H':AH):Prop:=X c H'
noncomputable def callF (P:Prog):Nat→Calls
 | 0,_,_,_,_,_=>False
 | n + 1,f,args,H,Q,X=>match P.fns f with
  | some fn=>args.length = fn.arity ∧
    wpSs P (callF P n) fn.body (args.map some ++ List.replicate fn.extra none) H (fun _ H'=>Ret H Q .none H') (fun v H'=>Ret H Q v H') (RetX H X)
  | none=>False
section
variable {P:Prog} {C:Calls} {ρ:Fm} {H:AH} {Q:QE} {X:XE} {K:KS} {R:QE}
theorem wpE_cst {v:V}:wpE P C (.cst v) ρ H Q X = Q v H:=rfl
theorem wpE_var {i:Nat}:wpE P C (.var i) ρ H Q X = match ρ[i]? with | some (some v)=>Q v H | _=>False:=rfl
theorem wpE_prim {mu:Bool} {p:Prim} {args:List Ex}:wpE P C (.prim mu p args) ρ H Q X = wpEs P C args ρ H (fun vs H'=>okE (primM P mu p vs H') Q) X:=rfl
theorem wpE_cmp2 {a b c:Ex} {o₁ o₂:Cop}:wpE P C (.cmp2 a o₁ b o₂ c) ρ H Q X = wpE P C a ρ H (fun x H₁=>wpE P C b ρ H₁ (fun y H₂=>okB (cmpop o₁ x y H₂) fun t =>
   if t then wpE P C c ρ H₂ (fun z H₃=>okB (cmpop o₂ y z H₃) fun t'=>Q (.bool t') H₃) X else Q (.bool false) H₂) X) X:=rfl
theorem wpE_call {f:Nat} {args:List Ex}:wpE P C (.call f args) ρ H Q X = wpEs P C args ρ H (fun vs H'=>C f vs H' Q X) X:=rfl
theorem wpE_meth {k f:Nat} {name:List Char} {o:Ex} {args:List Ex}:wpE P C (.meth k f name o args) ρ H Q X = wpE P C o ρ H (fun v H₁=>hasMeth H₁ k name v = true∧wpEs P C args ρ H₁ (fun vs H'=>C f (v :: vs) H' Q X) X) X:=rfl
theorem wpE_mcall {t:Mt} {mu:Bool} {p:Prim} {o:Ex} {args:List Ex}:wpE P C (.mcall t mu p o args) ρ H Q X = wpE P C o ρ H (fun v H₁=>hasTy H₁ v t = true∧wpEs P C args ρ H₁ (fun vs H'=>okE (primM P mu p (v :: vs) H') Q) X) X:=rfl
theorem wpE_new {c f:Nat} {args:List Ex}:wpE P C (.new c f args) ρ H Q X = wpEs P C args ρ H (fun vs H'=>C f (.ref (H'.length + 1) :: vs) (H' ++ [.ns [] [],.inst c H'.length]) (fun v H''=>v = .none∧Q (.ref (H'.length + 1)) H'') X) X:=rfl
theorem wpEs_nil {Q:List V→AH→Prop}:wpEs P C [] ρ H Q X = Q [] H:=rfl
theorem wpEs_cons {e:Ex} {es:List Ex} {Q:List V→AH→Prop}:wpEs P C (e :: es) ρ H Q X = wpE P C e ρ H (fun v H'=>wpEs P C es ρ H' (fun vs H''=>Q (v :: vs) H'') X) X:=rfl
section
theorem wpS_asg {i:Nat} {e:Ex}:wpS P C (.asg i e) ρ H K R X = wpE P C e ρ H (fun v H'=>i < ρ.length∧K (ρ.set i (some v)) H') X:=rfl
theorem wpS_asgTup {is:List Nat} {e:Ex}:wpS P C (.asgTup is e) ρ H K R X = wpE P C e ρ H (fun v H'=>match setTgt ρ (.inr is) v with | some ρ'=>K ρ' H' | none=>False) X:=rfl
theorem wpS_setItem {o i e:Ex}:wpS P C (.setItem o i e) ρ H K R X = wpE P C e ρ H (fun x H₁=>wpE P C o ρ H₁ (fun ov H₂=>wpE P C i ρ H₂ (fun iv H₃=>match setItemV ov iv x H₃ with | some H'=>K ρ H' | none=>False) X) X) X:=rfl
theorem wpS_setAttr {o e:Ex} {n:List Char}:wpS P C (.setAttr o n e) ρ H K R X = wpE P C e ρ H (fun x H₁=>wpE P C o ρ H₁ (fun ov H₂=>match setAttrV ov n x H₂ with | some H'=>K ρ H' | none=>False) X) X:=rfl
theorem wpS_expr {e:Ex}:wpS P C (.expr e) ρ H K R X = wpE P C e ρ H (fun _ H'=>K ρ H') X:=rfl
theorem wpS_ite {c:Ex} {a b:List St}:wpS P C (.ite c a b) ρ H K R X = wpE P C c ρ H (fun v H'=>okB (truth v) fun t=>if t then wpSs P C a ρ H' K R X else wpSs P C b ρ H' K R X) X:=rfl
theorem wpS_forIn {rev:Bool} {tgt:Nat ⊕ List Nat} {e:Ex} {body:List St}:wpS P C (.forIn rev tgt e body) ρ H K R X = wpE P C e ρ H (fun v H₁=>∃ items,srcD rev H₁ v = some items∧items.length ≤ sizeOf' ∧
   forL (fun x ρ' H' K'=>match setTgt ρ' tgt x with | some ρ''=>wpSs P C body ρ'' H' K' R (fun _ _=>False) | none=>False)
    (fun H'=>srcD rev H' v = some items) items ρ H₁ K) X:=rfl
theorem wpS_while {c:Ex} {body:List St}:wpS P C (.while_ c body) ρ H K R X = ∃ k,whileL (fun ρ' H' K₁ K₂=>wpE P C c ρ' H' (fun v H''=>okB (truth v) fun t=>if t then wpSs P C body ρ' H'' K₁ R (fun _ _=>False) else K₂ ρ' H'') (fun _ _=>False)) k ρ H K:=rfl
theorem wpS_ret {e:Ex}:wpS P C (.ret e) ρ H K R X = wpE P C e ρ H R X:=rfl
theorem wpS_raise {c:Nat}:wpS P C (.raise c) ρ H K R X = X c H:=rfl
theorem wpSs_cons {s:St} {ss:List St}:wpSs P C (s :: ss) ρ H K R X = wpS P C s ρ H (fun ρ' H'=>wpSs P C ss ρ' H' K R X) R X:=rfl
end
theorem callF_succ {n f:Nat} {args:List V}:callF P (n + 1) f args H Q X = match P.fns f with
  | some fn=>args.length = fn.arity ∧
    wpSs P (callF P n) fn.body (args.map some ++ List.replicate fn.extra none) H (fun _ H'=>Ret H Q .none H') (fun v H'=>Ret H Q v H') (RetX H X)
  | none=>False:=rfl
end
end Mine
end
noncomputable section
namespace Mine
end Mine
end
noncomputable section
namespace Mine
open PySem PySem.Calls PyProof.Rows
abbrev Adr:=List Addr
abbrev HP:=PySem.Heap
set_option genInjectivity false in
structure Cx where
 prog:Program
 w:World
 base:HP
 mg:Str→Option Value
 mb:Str→Option Value
 P:Prog
 os:OsState
 fad:Nat→Addr
 fdat:Nat→FuncData
 xcls:Nat→Addr
 ccls:Nat→Addr
noncomputable def bnd:Nat:=2 ^ 40
abbrev Cx.M (c:Cx):Model:=model c.prog c.w
abbrev Cx.kd (c:Cx):KeyKind c.prog c.w Str:=strKind c.prog c.w
noncomputable def toS (s:List Char):Str:=⟨(s.map Char.toNat).toArray⟩
theorem toS_inj {a b:List Char} (h:toS a = toS b):a = b:=by
 have h1:(a.map Char.toNat) = b.map Char.toNat:=by
  have:=congrArg (fun x:Str=>x.cps.toList) h
  simpa [toS] using this
 exact (List.map_inj_right (fun x y e=>Char.toNat_inj.mp e)).mp h1
theorem ite_some {α:Type} {p:Prop} [Decidable p] {a:Option α} {x:α} (h:(if p then a else none) = some x):p∧a = some x:=by
 by_cases hp:p
 ·rw [if_pos hp] at h; exact ⟨hp,h⟩
 ·rw [if_neg hp] at h; exact nos h
theorem ite_is {α:Type} {p:Prop} [Decidable p] {a x:α} (h:(if p then some a else none) = some x):p∧a = x:=by
 have h:=ite_some h; exact ⟨h.1,Option.some.inj h.2⟩
theorem bind_is {α β:Type} {o:Option α} {f:α→Option β} {x:β} (h:o.bind f = some x):∃ a,o = some a∧f a = some x:=by
 cases o with
 | none=>exact nos h
 | some a=>exact ⟨a,rfl,h⟩
theorem map_is {α β:Type} {o:Option α} {f:α→β} {x:β} (h:o.map f = some x):∃ a,o = some a∧f a = x:=by
 cases o with
 | none=>cases h
 | some a=>exact ⟨a,rfl,Option.some.inj h⟩
theorem O.lst_i (o:O):Is (o.lst) fun vs=>o = .list vs:=by
 cases o <;> first | exact rfl | exact trivial
theorem O.dct_i (o:O):Is (o.dct) fun d=>o = .dict d.1 d.2:=by
 cases o <;> first | exact rfl | exact trivial
theorem V.txt_i (v:V):Is (v.txt) fun s=>v = .str s:=by
 cases v <;> first | exact rfl | exact trivial
theorem V.txt_is {v:V} {s:List Char} (h:v.txt = some s):v = .str s:=(V.txt_i _).of h
theorem V.num_i (v:V):Is (v.num) fun i=>v = .int i:=by
 cases v <;> first | exact rfl | exact trivial
theorem V.num_is {v:V} {i:Int} (h:v.num = some i):v = .int i:=(V.num_i _).of h
theorem V.at_i (v:V):Is (v.at) fun i=>v = .ref i:=by
 cases v <;> first | exact rfl | exact trivial
theorem heapL_i (H:AH) (v:V):Is (heapL H v) fun p=>v = .ref p.1∧H[p.1]? = some (.list p.2) :=
 (V.at_i v).bind fun i h1=>(Is.self.bind fun o h3=>(O.lst_i o).imp (R':=fun vs=>H[i]? = some (.list vs)) fun _ h4=>h4 ▸ h3).bind fun _ h5=>⟨h1,h5⟩
theorem heapL_is {H:AH} {v:V} {p:Nat × List V} (h:heapL H v = some p):v = .ref p.1∧H[p.1]? = some (.list p.2):=(heapL_i H v).of h
inductive VwR (H:AH) (vs:List V):V→Prop
 | lst:VwR H vs (.lst vs)
 | ref {i:Nat}:H[i]? = some (.list vs)→VwR H vs (.ref i)
theorem view_i (H:AH) (v:V):Is (view H v) fun vs=>VwR H vs v:=by
 cases v with
 | lst ws=>exact .lst
 | ref i=>exact Is.self.bind fun o h1=>(O.lst_i o).imp fun _ h2=>.ref (h2 ▸ h1)
 | _=>exact trivial
theorem view_is {H:AH} {v:V} {vs:List V} (h:view H v = some vs):VwR H vs v:=(view_i H v).of h
inductive DwR (H:AH) (d:List (List Char) × List V):V→Prop
 | dct:DwR H d (.dct d.1 d.2)
 | ref {i:Nat}:H[i]? = some (.dict d.1 d.2)→DwR H d (.ref i)
theorem dview_i (H:AH) (v:V):Is (dview H v) fun d=>DwR H d v:=by
 cases v with
 | dct ks ws=>exact .dct
 | ref i=>exact Is.self.bind fun o h1=>(O.dct_i o).imp fun _ h2=>.ref (h2 ▸ h1)
 | _=>exact trivial
theorem dview_is {H:AH} {v:V} {d:List (List Char) × List V} (h:dview H v = some d):DwR H d v:=(dview_i H v).of h
mutual
inductive VR (c:Cx) (as:Adr) (X:List Addr) (h:HP):V→Value→Prop
 | none:VR c as X h .none .none
 | bool (b:Bool):VR c as X h (.bool b) (.bool b)
 | int (i:Int) (t:Tok):VR c as X h (.int i) (.int i t)
 | str (s:List Char) (t:Tok):s.length ≤ bnd→VR c as X h (.str s) (.str (toS s) t)
 | tup {a:Addr} {items:Array Value} {n:Nat} {vs:List V}:a ∉ as→a ∉ X→h.get? a = some { cls:=.type "tuple",data:=.seq items n }→VRs c as X h vs items.toList→vs.length ≤ bnd→VR c as X h (.tup vs) (.ref a)
 | lst {a:Addr} {items:Array Value} {vs:List V}:a ∉ as→a ∉ X→h.PlainList a items→VRs c as X h vs items.toList→vs.length ≤ bnd→VR c as X h (.lst vs) (.ref a)
 | dct {a:Addr} {ks:List (List Char)} {vs:List V} {cs:List Value}:a ∉ as→a ∉ X→(a == sysModules) = false→h.DictOf c.kd a ((ks.map toS).zip cs)→ks.length = cs.length→VRs c as X h vs cs→vs.length ≤ bnd→VR c as X h (.dct ks vs) (.ref a)
 | rng {r:Addr} {a b:Int} {t₀ t₁ t₂:Tok}:r ∉ as→r ∉ X→IsRange h r a b 1 t₀ t₁ t₂→smallInt a = true→smallInt b = true→VR c as X h (.rng a b) (.ref r)
 | ref {i:Nat} {a:Addr}:as[i]? = some a→VR c as X h (.ref i) (.ref a)
inductive VRs (c:Cx) (as:Adr) (X:List Addr) (h:HP):List V→List Value→Prop
 | nil:VRs c as X h [] []
 | cons {v:V} {vs:List V} {x:Value} {cs:List Value}:VR c as X h v x→VRs c as X h vs cs→VRs c as X h (v :: vs) (x :: cs)
end
inductive StrR (s:List Char):Value→Prop
 | str (t:Tok):s.length ≤ bnd→StrR s (.str (toS s) t)
inductive IntR (i:Int):Value→Prop
 | int (t:Tok):IntR i (.int i t)
inductive TupR (c:Cx) (as:Adr) (X:List Addr) (h:HP) (vs:List V):Value→Prop
 | tup {a:Addr} {items:Array Value} {n:Nat}:a ∉ as→a ∉ X→h.get? a = some { cls:=.type "tuple",data:=.seq items n }→VRs c as X h vs items.toList→vs.length ≤ bnd→TupR c as X h vs (.ref a)
inductive LstR (c:Cx) (as:Adr) (X:List Addr) (h:HP) (vs:List V):Value→Prop
 | lst {a:Addr} {items:Array Value}:a ∉ as→a ∉ X→h.PlainList a items→VRs c as X h vs items.toList→vs.length ≤ bnd→LstR c as X h vs (.ref a)
inductive DctR (c:Cx) (as:Adr) (X:List Addr) (h:HP) (ks:List (List Char)) (vs:List V):Value→Prop
 | dct {a:Addr} {cs:List Value}:a ∉ as→a ∉ X→(a == sysModules) = false→h.DictOf c.kd a ((ks.map toS).zip cs)→ks.length = cs.length→VRs c as X h vs cs→vs.length ≤ bnd→DctR c as X h ks vs (.ref a)
inductive RngR (as:Adr) (X:List Addr) (h:HP) (a b:Int):Value→Prop
 | rng {r:Addr} {t₀ t₁ t₂:Tok}:r ∉ as→r ∉ X→IsRange h r a b 1 t₀ t₁ t₂→smallInt a = true→smallInt b = true→RngR as X h a b (.ref r)
inductive RefR (as:Adr) (i:Nat):Value→Prop
 | ref {a:Addr}:as[i]? = some a→RefR as i (.ref a)
noncomputable def VI (c:Cx) (as:Adr) (X:List Addr) (h:HP) (v:V) (cv:Value):Prop:=match v with
 | .none=>cv = .none
 | .bool b=>cv = .bool b
 | .int i=>IntR i cv
 | .str s=>StrR s cv
 | .tup vs=>TupR c as X h vs cv
 | .lst vs=>LstR c as X h vs cv
 | .dct ks vs=>DctR c as X h ks vs cv
 | .rng a b=>RngR as X h a b cv
 | .ref i=>RefR as i cv
theorem VR.inv {c:Cx} {as:Adr} {X:List Addr} {h:HP} {v:V} {cv:Value} (r:VR c as X h v cv):VI c as X h v cv:=by
 cases r with
 | none=>exact rfl
 | bool b=>exact rfl
 | int i t=>exact .int t
 | str s t hb=>exact .str t hb
 | tup h1 h2 h3 h4 h5=>exact .tup h1 h2 h3 h4 h5
 | lst h1 h2 h3 h4 h5=>exact .lst h1 h2 h3 h4 h5
 | dct h1 h2 h3 h4 h5 h6 h7=>exact .dct h1 h2 h3 h4 h5 h6 h7
 | rng h1 h2 h3 h4 h5=>exact .rng h1 h2 h3 h4 h5
 | ref h1=>exact .ref h1
section
variable {c:Cx} {as as':Adr} {X:List Addr} {h h':HP}
theorem VRs.length:∀ {vs:List V} {cs:List Value},VRs c as X h vs cs→vs.length = cs.length
 | _,_,.nil=>rfl
 | _,_,.cons _ r=>by simp only [List.length_cons,List.length_cons,r.length]
theorem VRs.get:∀ {vs:List V} {cs:List Value} {j:Nat} {v:V},VRs c as X h vs cs→vs[j]? = some v→∃ x,cs[j]? = some x∧VR c as X h v x
 | _,_,_,_,.nil,e=>by exact nos e
 | _,_,0,_,.cons x _,e=>by simp at e; subst e; exact ⟨_,rfl,x⟩
 | _,_,j + 1,_,.cons _ r,e=>by simp only [List.getElem?_cons_succ] at e ⊢; exact r.get e
theorem VRs.get':∀ {vs:List V} {cs:List Value} {j:Nat} {x:Value},VRs c as X h vs cs→cs[j]? = some x→∃ v,vs[j]? = some v∧VR c as X h v x
 | _,_,_,_,.nil,e=>by exact nos e
 | _,_,0,_,.cons x _,e=>by simp at e; subst e; exact ⟨_,rfl,x⟩
 | _,_,j + 1,_,.cons _ r,e=>by simp only [List.getElem?_cons_succ] at e ⊢; exact r.get' e
theorem VRs.append:∀ {vs ws:List V} {cs ds:List Value},VRs c as X h vs cs→VRs c as X h ws ds→VRs c as X h (vs ++ ws) (cs ++ ds)
 | _,_,_,_,.nil,k=>k
 | _,_,_,_,.cons x r,k=>.cons x (r.append k)
theorem VRs.take:∀ {vs:List V} {cs:List Value} (n:Nat),VRs c as X h vs cs→VRs c as X h (vs.take n) (cs.take n)
 | _,_,0,_=>by simp only [List.take_zero]; exact .nil
 | _,_,n + 1,.nil=>by exact .nil
 | _,_,n + 1,.cons x r=>by simp only [List.take_succ_cons]; exact .cons x (r.take n)
theorem VRs.drop:∀ {vs:List V} {cs:List Value} (n:Nat),VRs c as X h vs cs→VRs c as X h (vs.drop n) (cs.drop n)
 | _,_,0,k=>k
 | _,_,n + 1,.nil=>by simp only [List.drop_nil]; exact .nil
 | _,_,n + 1,.cons x r=>by simp only [List.drop_succ_cons]; exact r.drop n
theorem VRs.reverse:∀ {vs:List V} {cs:List Value},VRs c as X h vs cs→VRs c as X h vs.reverse cs.reverse
 | _,_,.nil=>.nil
 | _,_,.cons x r=>by simp only [List.reverse_cons]; exact r.reverse.append (.cons x .nil)
theorem VRs.set:∀ {vs:List V} {cs:List Value} {v:V} {x:Value} (n:Nat),VRs c as X h vs cs→VR c as X h v x→VRs c as X h (vs.set n v) (cs.set n x)
 | _,_,_,_,_,.nil,_=>by simp only [List.set_nil]; exact .nil
 | _,_,_,_,0,.cons _ r,k=>by simp only [List.set_cons_zero]; exact .cons k r
 | _,_,_,_,n + 1,.cons x r,k=>by simp only [List.set_cons_succ]; exact .cons x (r.set n k)
theorem VRs.replicate {v:V} {x:Value} (k:VR c as X h v x):∀ n:Nat,VRs c as X h (List.replicate n v) (List.replicate n x)
 | 0=>.nil
 | n + 1=>by simp only [List.replicate_succ]; exact .cons k (VRs.replicate k n)
end
/- a frame stands twice in X -/
noncomputable def SameO (X:List Addr) (b:Addr) (o o':Obj):Prop:=o' = o ∨ (2 ≤ X.count b∧(∃ es n,o.data = .dict es n)∧∃ sl,o' = { o with slots:=sl })
theorem SameO.trans {X:List Addr} {b:Addr} {o₁ o₂ o₃:Obj} (x:SameO X b o₁ o₂) (y:SameO X b o₂ o₃):SameO X b o₁ o₃:=by
 rcases x with rfl | ⟨h1,h2,sl,rfl⟩
 ·exact y
 ·rcases y with rfl | ⟨_,_,sl',rfl⟩
  ·exact .inr ⟨h1,h2,sl,rfl⟩
  ·exact .inr ⟨h1,h2,sl',rfl⟩
theorem SameO.eq {X:List Addr} {b:Addr} {o o':Obj} (x:SameO X b o o') (h:∀ es n,o.data ≠ .dict es n):o' = o:=by
 refine Or.elim (x) (fun e=>?_) (fun q_=>?_)
 ·exact e
 ·obtain ⟨_,⟨es,n,h1⟩,_⟩:=q_; exact absurd h1 (h es n)
theorem SameO.out {X:List Addr} {b:Addr} {o o':Obj} (x:SameO X b o o') (h:b ∉ X):o' = o:=by
 refine Or.elim (x) (fun e=>?_) (fun q_=>?_)
 ·exact e
 ·obtain ⟨h1,_⟩:=q_; replace h1:=(List.count_eq_zero_of_not_mem h) ▸ h1; cases h1
theorem SameO.mono {X Y:List Addr} {b:Addr} {o o':Obj} (x:SameO X b o o') (h:2 ≤ X.count b→2 ≤ Y.count b):SameO Y b o o':=x.imp id fun ⟨a,r⟩=>⟨h a,r⟩
noncomputable def Kept (as:Adr) (X:List Addr) (h h':HP):Prop:=∀ b o,h.get? b = some o→b ∉ as→∃ o',h'.get? b = some o'∧SameO X b o o'
theorem Kept.refl (as:Adr) (X:List Addr) (h:HP):Kept as X h h:=fun _ o e _=>⟨o,e,.inl rfl⟩
noncomputable def KeptX (as:Adr) (X Y:List Addr) (h h':HP):Prop:=∀ b o,h.get? b = some o→b ∉ as→b ∉ Y→∃ o',h'.get? b = some o'∧SameO X b o o'
noncomputable def VK (as:Adr) (X:List Addr) (h h':HP):Prop:=∀ b o,h.get? b = some o→b ∉ as→b ∉ X→h'.get? b = some o
theorem Kept.y {as:Adr} {X:List Addr} {h h':HP} (k:Kept as X h h') (Y:List Addr):KeptX as X Y h h':=fun b o e hb _=>k b o e hb
theorem Kept.x {as:Adr} {X:List Addr} {h h':HP} (k:Kept as X h h'):VK as X h h':=fun b o e hb hx=>by
 refine ea1_2 (k b o e hb) ?_
 intro o' e' s
 simp only [e',s.out hx]
theorem KeptX.v {as:Adr} {X Y:List Addr} {h h':HP} (k:KeptX as X Y h h') (hY:∀ b ∈ Y,b ∈ X):VK as X h h':=fun b o e hb hx=>by
 refine ea1_2 (k b o e hb fun q=>hx (hY b q)) ?_
 intro o' e' s
 simp only [e',s.out hx]
structure Ext (as:Adr) (h:HP) (as':Adr):Prop where
 old:∀ (i:Nat) (x:Addr),as[i]? = some x→as'[i]? = some x
 new:∀ a,a ∈ as'→a ∈ as ∨ h.get? a = none
theorem Ext.refl (as:Adr) (h:HP):Ext as h as:=⟨fun _ _ e=>e,fun _ e=>.inl e⟩
theorem Ext.trans {as as₁ as₂:Adr} {X:List Addr} {h h₁:HP} (x:Ext as h as₁) (k:Kept as X h h₁) (y:Ext as₁ h₁ as₂):Ext as h as₂ :=
 ⟨fun i a e=>y.old i a (x.old i a e),fun a ha=>(y.new a ha).elim (x.new a) fun e1=>(Classical.em (a ∈ as)).imp id fun hm=>optE (o:=h.get? a) id fun o hq=>ea1_2 (k a o hq hm) fun _ e _=>nos (e1.symm.trans e)⟩
theorem Ext.out {as as':Adr} {h:HP} (x:Ext as h as') {b:Addr} {o:Obj} (e:h.get? b = some o) (hb:b ∉ as):b ∉ as':=fun q=>(x.new b q).elim hb fun q=>nos (q.symm.trans e)
theorem Kept.trans {as as₁:Adr} {X:List Addr} {h h₁ h₂:HP} (k:Kept as X h h₁) (x:Ext as h as₁) (k':Kept as₁ X h₁ h₂):Kept as X h h₂:=fun b o e hb =>
 ea1_2 (k b o e hb) fun o₁ e₁ s₁=>(k' b o₁ e₁ (x.out e hb)).imp fun o₂ q=>⟨q.1,s₁.trans q.2⟩
theorem IsRange.same {h h':HP} {r:Addr} {a b:Int} {t₀ t₁ t₂:Tok} (x:IsRange h r a b 1 t₀ t₁ t₂) (k:∀ o,h.get? r = some o→h'.get? r = some o):IsRange h' r a b 1 t₀ t₁ t₂:=k _ x
theorem KeptX.get {as:Adr} {X Y:List Addr} {h h':HP} (k:KeptX as X Y h h') {b:Addr} {o:Obj} (e:h.get? b = some o) (hb:b ∉ as) (hx:b ∉ Y) (hc:∀ es n,o.data ≠ .dict es n):h'.get? b = some o:=by
 refine ea1_2 (k b o e hb hx) ?_
 intro o' e' s
 simp only [e',s.eq hc]
theorem Kept.get {as:Adr} {X:List Addr} {h h':HP} (k:Kept as X h h') {b:Addr} {o:Obj} (e:h.get? b = some o) (hb:b ∉ as) (hc:∀ es n,o.data ≠ .dict es n):h'.get? b = some o:=by
 refine ea1_2 (k b o e hb) ?_
 intro o' e' s
 simp only [e',s.eq hc]
theorem DictOf.same {c:Cx} {h h':HP} {a:Addr} {kvs:List (Str × Value)} (x:h.DictOf c.kd a kvs) (k:∀ o,h.get? a = some o→h'.get? a = some o):h'.DictOf c.kd a kvs:=by
 refine ea3_3 x ?_
 intro o es ep ho hx r
 exact ⟨o,es,ep,k o ho,hx,r⟩
theorem VRs.all {c:Cx} {as:Adr} {X:List Addr} {h:HP} {P:V→Value→Prop} {vs:List V} {cs:List Value} (r:VRs c as X h vs cs) (R:List V→List Value→Prop) (hn:R [] []) (hc:∀ v x vs cs,VR c as X h v x→R vs cs→R (v :: vs) (x :: cs)):R vs cs :=
 VRs.rec (motive_1:=fun _ _ _=>True) (motive_2:=fun vs cs _=>R vs cs) trivial (fun _=>trivial) (fun _ _=>trivial) (fun _ _ _=>trivial) (fun _ _ _ _ _ _=>trivial) (fun _ _ _ _ _ _=>trivial) (fun _ _ _ _ _ _ _ _=>trivial) (fun _ _ _ _ _=>trivial) (fun _=>trivial) hn (fun a _ _ ih=>hc _ _ _ _ a ih) r
theorem VR.gen {c:Cx} {as as':Adr} {X X':List Addr} {h h':HP} (hk:∀ a o,a ∉ as→a ∉ X→h.get? a = some o→a ∉ as'∧a ∉ X'∧h'.get? a = some o)
  (hr:∀ (i:Nat) x,as[i]? = some x→as'[i]? = some x) {v:V} {y:Value} (r:VR c as X h v y):VR c as' X' h' v y :=
 VR.rec (motive_1:=fun v y _=>VR c as' X' h' v y) (motive_2:=fun vs cs _=>VRs c as' X' h' vs cs) .none .bool .int .str
  (fun ha hx ho _ hb ih=>let q:=hk _ _ ha hx ho; .tup q.1 q.2.1 q.2.2 ih hb) (fun ha hx hp _ hb ih=>hp.elim fun m ho=>let q:=hk _ _ ha hx ho; .lst q.1 q.2.1 ⟨m,q.2.2⟩ ih hb)
  (fun ha hx hsm hd hl _ hb ih=>ea3_3 hd fun o es ep ho hx' r=>let q:=hk _ _ ha hx ho; .dct q.1 q.2.1 hsm ⟨o,es,ep,q.2.2,hx',r⟩ hl ih hb) (fun hr hx hi h1 h2=>let q:=hk _ _ hr hx hi; .rng q.1 q.2.1 q.2.2 h1 h2) (fun e=>.ref (hr _ _ e)) .nil (fun _ _ i1 i2=>.cons i1 i2) r
theorem VRs.gen {c:Cx} {as as':Adr} {X X':List Addr} {h h':HP} (hk:∀ a o,a ∉ as→a ∉ X→h.get? a = some o→a ∉ as'∧a ∉ X'∧h'.get? a = some o)
  (hr:∀ (i:Nat) x,as[i]? = some x→as'[i]? = some x) {vs:List V} {cs:List Value} (r:VRs c as X h vs cs):VRs c as' X' h' vs cs :=
 VRs.all (P:=fun _ _=>True) r (fun vs cs=>VRs c as' X' h' vs cs) .nil (fun _ _ _ _ a ih=>.cons (VR.gen hk hr a) ih)
theorem VR.keepX {c:Cx} {as as':Adr} {X:List Addr} {h h':HP} (k:VK as X h h') (x:Ext as h as') {v:V} {y:Value} (r:VR c as X h v y):VR c as' X h' v y :=
 VR.gen (fun _ _ ha hx ho=>⟨x.out ho ha,hx,k _ _ ho ha hx⟩) x.old r
theorem VRs.keepX {c:Cx} {as as':Adr} {X:List Addr} {h h':HP} (k:VK as X h h') (x:Ext as h as') {v:List V} {y:List Value} (r:VRs c as X h v y):VRs c as' X h' v y :=
 VRs.gen (fun _ _ ha hx ho=>⟨x.out ho ha,hx,k _ _ ho ha hx⟩) x.old r
theorem VR.keep {c:Cx} {as as':Adr} {X:List Addr} {h h':HP} (k:Kept as X h h') (x:Ext as h as') {v:V} {y:Value} (z:VR c as X h v y):VR c as' X h' v y:=z.keepX k.x x
theorem VRs.keep {c:Cx} {as as':Adr} {X:List Addr} {h h':HP} (k:Kept as X h h') (x:Ext as h as') {v:List V} {y:List Value} (z:VRs c as X h v y):VRs c as' X h' v y:=z.keepX k.x x
theorem VR.frames {c:Cx} {as:Adr} {X Y:List Addr} {h:HP} (hy:∀ b o,h.get? b = some o→b ∉ X→b ∉ Y) {v:V} {y:Value} (r:VR c as X h v y):VR c as Y h v y :=
 VR.gen (fun _ _ ha hx ho=>⟨ha,hy _ _ ho hx,ho⟩) (fun _ _ e=>e) r
theorem VRs.frames {c:Cx} {as:Adr} {X Y:List Addr} {h:HP} (hy:∀ b o,h.get? b = some o→b ∉ X→b ∉ Y) {v:List V} {y:List Value} (r:VRs c as X h v y):VRs c as Y h v y :=
 VRs.gen (fun _ _ ha hx ho=>⟨ha,hy _ _ ho hx,ho⟩) (fun _ _ e=>e) r
inductive InstAt (c:Cx) (as:Adr) (h:HP) (a:Addr) (k d:Nat):Prop
 | mk (dx:Addr) (ob:Obj):as[d]? = some dx→h.get? a = some ob→ob.cls = .ref (c.ccls k)→ob.dict = some dx→(∀ cd,ob.data ≠ .cls cd)→InstAt c as h a k d
noncomputable def OR (c:Cx) (as:Adr) (X:List Addr) (h:HP) (a:Addr):O→Prop
 | .list vs=>vs.length ≤ bnd∧∃ items,h.PlainList a items∧VRs c as X h vs items.toList
 | .dict ks vs=>vs.length ≤ bnd∧(a == sysModules) = false∧∃ cs,h.DictOf c.kd a ((ks.map toS).zip cs)∧ks.length = cs.length∧VRs c as X h vs cs
 | .inst k d=>InstAt c as h a k d
 | .ns ks vs=>vs.length ≤ bnd∧∃ cs mA,h.Ns1 a mA∧ks.length = cs.length∧VRs c as X h vs cs∧∀ n,mA n = ((ks.map toS).zip cs).lookup n
structure SR (c:Cx) (as:Adr) (X:List Addr) (H:AH) (s:Shared):Prop where
 len:as.length = H.length
 stays:c.base.StaysIn s.heap
 gens:s.gens = #[]
 os:s.os = c.os
 objs:∀ (i:Nat) (a:Addr),as[i]? = some a→c.base.get? a = none∧a ∉ X∧∃ o,H[i]? = some o∧OR c as X s.heap a o
 inj:∀ (i j:Nat) (a:Addr),as[i]? = some a→as[j]? = some a→i = j
 xs:∀ b ∈ X,∃ o,s.heap.get? b = some o
theorem OR.keepX {c:Cx} {as:Adr} {X:List Addr} {h h':HP} {a:Addr} {o:O} (k:VK as X h h') (ha:∀ ob,h.get? a = some ob→h'.get? a = some ob):OR c as X h a o→OR c as X h' a o:=by
 intro x
 cases o with
 | list vs =>
  obtain ⟨hb,items,⟨n,e⟩,r⟩:=x
  exact ⟨hb,items,⟨n,ha _ e⟩,r.keepX k (.refl ..)⟩
 | dict ks vs =>
  refine ea0_3 x ?_
  intro hb hsm r_3
  refine ea1_3 r_3 ?_
  intro cs hd hl r
  exact ⟨hb,hsm,cs,DictOf.same hd ha,hl,r.keepX k (.refl ..)⟩
 | inst k d =>
  obtain ⟨dx,ob,e1,e2,r1,r2,r3⟩:=x
  exact ⟨dx,ob,e1,ha _ e2,r1,r2,r3⟩
 | ns ks vs =>
  obtain ⟨hb,cs,mA,hn,hl,r,hm⟩:=x
  exact ⟨hb,cs,mA,hn.at ha,hl,r.keepX k (.refl ..),hm⟩
theorem OR.here {c:Cx} {as:Adr} {X:List Addr} {h:HP} {a:Addr} {o:O} (x:OR c as X h a o):∃ ob,h.get? a = some ob:=by
 cases o with
 | list vs=>obtain ⟨_,_,⟨n,e⟩,_⟩:=x; exact ⟨_,e⟩
 | dict ks vs=>obtain ⟨_,_,_,⟨o,_,_,e,hx,_⟩,_⟩:=x; exact ⟨_,e⟩
 | inst k d=>obtain ⟨_,_,_,e⟩:=x; exact ⟨_,e⟩
 | ns ks vs=>obtain ⟨_,_,_,⟨o,_,_,e,_⟩,_⟩:=x; exact ⟨o,e⟩
theorem OR.frames {c:Cx} {as:Adr} {X Y:List Addr} {h:HP} {a:Addr} {o:O} (hy:∀ b o,h.get? b = some o→b ∉ X→b ∉ Y):OR c as X h a o→OR c as Y h a o:=by
 intro x
 cases o with
 | list vs=>refine ea0_2 (x) fun hb q_=>ea1_1 q_ fun items q_=>ea0_2 q_ fun hp r=>?_; exact ⟨hb,items,hp,r.frames hy⟩
 | dict ks vs=>obtain ⟨hb,hsm,cs,hd,hl,r⟩:=x; exact ⟨hb,hsm,cs,hd,hl,r.frames hy⟩
 | inst k d=>exact x
 | ns ks vs=>obtain ⟨hb,cs,mA,hn,hl,r,hm⟩:=x; exact ⟨hb,cs,mA,hn,hl,r.frames hy,hm⟩
noncomputable def only (h:HP) (p:Addr→Bool):HP:={ h with objs:=h.objs.mapIdx fun i o=>if p i = true then o else { cls:=.none,dict:=none,data:=.freed,slots:=#[] } }
theorem only_get {h:HP} {p:Addr→Bool} (a:Addr):(only h p).get? a = if p a = true then h.get? a else none:=by
 unfold only Heap.get?
 rw [Array.getElem?_mapIdx]
 refine optE (o:=h.objs[a]?) (fun he=>?_) (fun o he=>?_)
 ·rw [he]; simp
 ·rw [he]
  by_cases hp:p a = true
  ·simp [hp]
  ·simp [hp]
noncomputable def Grown (h h':HP):Prop:=∀ b o,h.get? b = some o→h'.get? b = some o
theorem Grown.refl (h:HP):Grown h h:=fun _ _ e=>e
theorem Grown.push (h:HP) (o:Obj):Grown h (h.push o):=fun _ _ e=>Heap.get?_push_of_some _ e
theorem Grown.trans {h h' h'':HP} (a:Grown h h') (b:Grown h' h''):Grown h h'':=fun x o e=>b x o (a x o e)
theorem Grown.kept {h h':HP} (g:Grown h h') (as:Adr) (X:List Addr):Kept as X h h':=fun b o e _=>⟨o,g b o e,.inl rfl⟩
theorem SR.keepX {c:Cx} {as:Adr} {X:List Addr} {H:AH} {s s':Shared} (x:SR c as X H s) (k:VK [] X s.heap s'.heap) (hst:c.base.StaysIn s'.heap) (hx:∀ b ∈ X,∃ o,s'.heap.get? b = some o) (hg:s'.gens = s.gens) (ho:s'.os = s.os):SR c as X H s' where
 len:=x.len
 stays:=hst
 gens:=hg.trans x.gens
 os:=ho.trans x.os
 objs:=fun i a e=>by
  refine ea0_3 (x.objs i a e) ?_
  intro h1 h2 r_3
  refine ea1_2 r_3 ?_
  intro o h3 h4
  exact ⟨h1,h2,o,h3,h4.keepX (fun b o e _ hb=>k b o e (fun q=>nomatch q) hb) fun ob e=>k _ _ e (fun q=>nomatch q) h2⟩
 inj:=x.inj
 xs:=hx
theorem SR.grow {c:Cx} {as:Adr} {X:List Addr} {H:AH} {s s':Shared} (x:SR c as X H s) (g:Grown s.heap s'.heap) (hg:s'.gens = s.gens) (ho:s'.os = s.os):SR c as X H s' :=
 x.keepX (g.kept [] X).x (fun b o e=>g b o (x.stays b o e)) (fun b hb=>let ⟨o,e⟩:=x.xs b hb; ⟨o,g b o e⟩) hg ho
theorem SR.frames {c:Cx} {as:Adr} {X Y:List Addr} {H:AH} {s:Shared} (x:SR c as X H s) (hy:∀ b o,s.heap.get? b = some o→b ∉ X→b ∉ Y) (hx:∀ b ∈ Y,∃ o,s.heap.get? b = some o):SR c as Y H s where
 len:=x.len
 stays:=x.stays
 gens:=x.gens
 os:=x.os
 objs:=fun i a e=>by
  refine ea0_3 (x.objs i a e) ?_
  intro h1 h2 r_3
  refine ea1_2 r_3 ?_
  intro o h3 h4
  obtain ⟨ob,e'⟩:=h4.here
  exact ⟨h1,hy _ _ e' h2,o,h3,OR.frames hy h4⟩
 inj:=x.inj
 xs:=hx
inductive Res (c:Cx) (as:Adr) (X:List Addr) (h:HP) (Q:QE) (x:Value) (s':Shared):Prop
 | mk (v:V) (H':AH) (as':Adr):Ext as h as'→SR c as' X H' s'→Kept as X h s'.heap→VR c as' X s'.heap v x→Q v H'→Res c as X h Q x s'
theorem Res.grow {c:Cx} {as:Adr} {X:List Addr} {H:AH} {s s':Shared} {Q:QE} {v:V} {x:Value} (S:SR c as X H s) (g:Grown s.heap s'.heap) (hg:s'.gens = s.gens) (ho:s'.os = s.os) (hv:VR c as X s'.heap v x) (q:Q v H):Res c as X s.heap Q x s' :=
 ⟨v,H,as,.refl ..,S.grow g hg ho,g.kept as X,hv,q⟩
theorem Res.now {c:Cx} {as:Adr} {X:List Addr} {H:AH} {s:Shared} {Q:QE} {v:V} {x:Value} {tk:Nat} (S:SR c as X H s) (hv:VR c as X s.heap v x) (q:Q v H):Res c as X s.heap Q x { s with toks:=tk } :=
 Res.grow (s':={ s with toks:=tk }) S (.refl _) rfl rfl hv q
theorem VR.grow {c:Cx} {as:Adr} {X:List Addr} {h h':HP} {v:V} {x:Value} (g:Grown h h') (k:VR c as X h v x):VR c as X h' v x:=k.keep (g.kept as X) (.refl ..)
theorem VRs.grow {c:Cx} {as:Adr} {X:List Addr} {h h':HP} {v:List V} {x:List Value} (g:Grown h h') (k:VRs c as X h v x):VRs c as X h' v x:=k.keep (g.kept as X) (.refl ..)
noncomputable def Fr (as:Adr) (h:HP) (a:Addr):Prop:=a ∈ as ∨ h.get? a = none
theorem Kept.less {as:Adr} {X Y:List Addr} {h h':HP} (k:Kept as Y h h') (hY:∀ b,2 ≤ Y.count b→2 ≤ X.count b ∨ Fr as h b):Kept as X h h':=fun b o e hb=>by
 refine ea1_2 (k b o e hb) ?_
 intro o' e' s
 exact ⟨o',e',s.mono fun q=>(hY b q).elim id fun r=>r.elim (fun r=>absurd r hb) fun r=>by replace e:=(r).symm.trans e; cases e⟩
theorem Kept.more {as:Adr} {X Y:List Addr} {h h':HP} (k:Kept as X h h') (hY:∀ b,X.count b ≤ Y.count b):Kept as Y h h':=fun b o e hb=>by
 refine ea1_2 (k b o e hb) ?_
 intro o' e' s
 exact ⟨o',e',s.mono fun q=>Nat.le_trans q (hY b)⟩
theorem Kept.one {as:Adr} {a:Addr} {X:List Addr} {h h':HP} {o:Obj} (k:Kept as (a :: X) h h') (hx:a ∉ X) (e:h.get? a = some o) (ha:a ∉ as):h'.get? a = some o:=by
 refine ea1_2 (k a o e ha) ?_
 intro o' e' s
 rcases s with rfl | ⟨q,_⟩
 ·exact e'
 ·rw [List.count_cons_self,List.count_eq_zero_of_not_mem hx] at q; exact absurd q (by decide)
theorem cnt1 {a b:Addr} {X:List Addr} (h:2 ≤ (a :: X).count b):b = a ∨ 2 ≤ X.count b:=by
 by_cases e:b = a
 ·exact .inl e
 ·rw [List.count_cons_of_ne (Ne.symm e)] at h; exact .inr h
theorem cn1 {P:Addr→Prop} {a:Addr} {X:List Addr} (h:P a) (k:∀ b,2 ≤ X.count b→P b):∀ b,2 ≤ (a :: X).count b→P b:=fun b hb=>(cnt1 hb).elim (fun e=>e ▸ h) (k b)
theorem Grown.none {h h':HP} {q:Addr} (g:Grown h h') (e:h'.get? q = none):h.get? q = none:=by
 cases hq:h.get? q with
 | none=>rfl
 | some o=>exact nos (e.symm.trans (g _ _ hq))
theorem at_ne {h:HP} {a b:Addr} {o:Obj} (ea:h.get? a = some o) (eb:h.get? b = none):a ≠ b:=fun q=>nos (eb.symm.trans (q ▸ ea))
theorem Kept.fr {as:Adr} {X:List Addr} {h h':HP} {a:Addr} (k:Kept as X h h') (ha:h'.get? a = none):Fr as h a:=by
 by_cases hm:a ∈ as
 ·exact .inl hm
 ·refine optE (o:=h.get? a) (fun hq=>?_) (fun o hq=>?_)
  ·exact .inr hq
  ·obtain ⟨o',e,_⟩:=k a o hq hm; exact nomatch (e).symm.trans ha
theorem Fr.lift {as as₁:Adr} {X:List Addr} {h h₁:HP} {a:Addr} (e:Ext as h as₁) (k:Kept as X h h₁) (x:Fr as₁ h₁ a):Fr as h a:=x.elim (e.new a) k.fr
end Mine
end
noncomputable section
namespace Mine
open PySem PySem.Calls PyProof.Rows
section
variable {c:Cx} {A:Around} {E:Value→Shared→Prop} {s:Shared} {as:Adr} {X:List Addr} {H:AH} {Q:QE}
theorem sizeOf'_le:sizeOf' ≤ sizeLine:=by skip; decide
theorem sizeOf'_bnd:sizeOf' + 5 ≤ bnd:=by decide
theorem bnd_lt:(bnd:Int) < 2 ^ 62:=by decide
theorem natAbs_small {i:Int} (h:smallInt i = true):i.natAbs < 2 ^ 41:=by
 simp only [smallInt,decide_eq_true_eq] at h
 omega
theorem log2_small {i:Int} (h:i.natAbs < 2 ^ 41):i.natAbs.log2 < 41:=by
 by_cases h0:i.natAbs = 0
 ·rw [h0]; decide
 ·exact (Nat.log2_lt h0).mpr h
theorem log2_div {i:Int} (h:0 < i∧i ≤ 10 ^ 12):i.natAbs.log2 < 9000:=by
 have:=log2_small (i:=i) (by omega)
 lia
theorem bits_small {i:Int} (h:smallInt i = true):Builtin.Int.intBits i ≤ 64:=by
 have:=log2_small (natAbs_small h)
 unfold Builtin.Int.intBits
 split <;> lia
theorem fresh_out (S:SR c as X H s):s.heap.objs.size ∉ as:=fun q=>by
 obtain ⟨i,hi⟩:=List.getElem?_of_mem q
 refine ea0_3 (S.objs i _ hi) ?_
 intro _ _ r_3
 refine ea1_2 r_3 ?_
 intro o _ ho
 obtain ⟨ob,e⟩:=OR.here ho
 exact absurd (Heap.lt_size e) (Nat.lt_irrefl _)
theorem fresh_x (S:SR c as X H s):s.heap.objs.size ∉ X:=fun q=>by
 refine ea1_1 (S.xs _ q) fun o e=>?_
 exact absurd (Heap.lt_size e) (Nat.lt_irrefl _)
theorem res_tuple {items:Array Value} {vs:List V} {n:Nat} (S:SR c as X H s) (hv:VRs c as X s.heap vs items.toList) (hb:vs.length ≤ bnd) (q:Q (.tup vs) H) :
  Res c as X s.heap Q (.ref s.heap.objs.size) { s with heap:=s.heap.push { cls:=.type "tuple",data:=.seq items n } } :=
 Res.grow (s':={ s with heap:=s.heap.push { cls:=.type "tuple",data:=.seq items n } }) S (.push _ _) rfl rfl (.tup (fresh_out S) (fresh_x S) (Heap.get?_push_size _ rfl) (hv.grow (.push _ _)) hb) q
theorem res_list {items:Array Value} {vs:List V} {n:Nat} (S:SR c as X H s) (hv:VRs c as X s.heap vs items.toList) (hb:vs.length ≤ bnd) (q:Q (.lst vs) H) :
  Res c as X s.heap Q (.ref s.heap.objs.size) { s with heap:=s.heap.push { cls:=.type "list",data:=.seq items n } } :=
 Res.grow (s':={ s with heap:=s.heap.push { cls:=.type "list",data:=.seq items n } }) S (.push _ _) rfl rfl (.lst (fresh_out S) (fresh_x S) ⟨n,Heap.get?_push_size _ rfl⟩ (hv.grow (.push _ _)) hb) q
inductive ViewAt (c:Cx) (as:Adr) (X:List Addr) (h:HP) (vs:List V) (x:Value):Prop
 | mk (a:Addr) (items:Array Value):x = .ref a→h.PlainList a items→VRs c as X h vs items.toList→vs.length ≤ bnd→a ∉ X→ViewAt c as X h vs x
theorem view_at {v:V} {x:Value} {vs:List V} (S:SR c as X H s) (hv:VR c as X s.heap v x) (e:view H v = some vs):ViewAt c as X s.heap vs x:=by
 cases view_is e with
 | lst=>cases hv.inv with | lst ha hx hp r hb=>exact ⟨_,_,rfl,hp,r,hb,hx⟩
 | ref ho' =>
  cases hv.inv with
  | ref hi =>
   refine ea0_3 (S.objs _ _ hi) ?_
   intro _ hx r_3
   refine ea1_2 r_3 ?_
   intro o ho hr
   replace ho:=ho.symm.trans ho'
   (replace ho:=Option.some.inj ho; subst ho)
   exact ⟨_,hr.2.choose,rfl,hr.2.choose_spec.1,hr.2.choose_spec.2,hr.1,hx⟩
inductive DictAt (c:Cx) (as:Adr) (X:List Addr) (h:HP) (d:List (List Char) × List V) (x:Value):Prop
 | mk (a:Addr) (cs:List Value):x = .ref a→(a == sysModules) = false→h.DictOf c.kd a ((d.1.map toS).zip cs)→d.1.length = cs.length→VRs c as X h d.2 cs→d.2.length ≤ bnd→DictAt c as X h d x
theorem dview_at {v:V} {x:Value} {d:List (List Char) × List V} (S:SR c as X H s) (hv:VR c as X s.heap v x) (e:dview H v = some d):DictAt c as X s.heap d x:=by
 cases dview_is e with
 | dct=>cases hv.inv with | dct ha _ hsm hp hl r hb=>exact ⟨_,_,rfl,hsm,hp,hl,r,hb⟩
 | ref ho' =>
  cases hv.inv with
  | ref hi =>
   refine ea0_3 (S.objs _ _ hi) ?_
   intro _ _ r_3
   refine ea1_2 r_3 ?_
   intro o ho hr
   replace ho:=ho.symm.trans ho'
   (replace ho:=Option.some.inj ho; subst ho)
   refine ea0_3 hr ?_
   intro hb hsm r_3
   refine ea1_3 r_3 ?_
   intro cs hp hl r
   exact ⟨_,cs,rfl,hsm,hp,hl,r,hb⟩
theorem toS_append (a b:List Char):toS a ++ toS b = toS (a ++ b):=by
 show Str.append _ _ = _
 simp [toS,Str.append]
theorem toS_length (a:List Char):(toS a).length = a.length:=by simp [toS,Str.length]
theorem p_add_list {x y:V} {cx cy:Value} {xs ys:List V} (S:SR c as X H s) (hx:VR c as X s.heap x cx) (hy:VR c as X s.heap y cy) (ex:view H x = some xs) (ey:view H y = some ys)
  (hz:xs.length + ys.length ≤ sizeOf') (q:Q (.lst (xs ++ ys)) H):wpAny c.M A (binaryOp .Add cx cy) (Res c as X s.heap Q) E s:=by
 replace hx:=view_at S hx ex
 obtain ⟨a,its,rfl,⟨n,ha⟩,ra,_⟩:=hx
 replace hy:=view_at S hy ey
 obtain ⟨b,its',rfl,⟨n',hb⟩,rb,_⟩:=hy
 have l1:=ra.length
 have l2:=rb.length
 refine P.add_list ha hb (res_list S ?_ (by rw [List.length_append]; have:=sizeOf'_bnd; lia) q) ?_
 ·simp only [Array.toList_append]; exact ra.append rb
 ·have:=sizeOf'_le
  simp only [Array.length_toList] at l1 l2
  lia
noncomputable def opOf:Bop→Operator
 | .add=>.Add | .sub=>.Sub | .mul=>.Mult | .fdiv=>.FloorDiv | .mod=>.Mod | .pow=>.Pow
inductive Int2R (f:Int→Int→Option Int):V→V→V→Prop
 | mk {a b z:Int}:f a b = some z→Int2R f (.int a) (.int b) (.int z)
theorem int2_i (f:Int→Int→Option Int) (x y:V):Is (int2 f x y) (Int2R f x y):=by
 cases x with
 | int a =>
  cases y with
  | int b=>exact Is.self.map fun _ h1=>.mk h1
  | _=>exact trivial
 | _=>exact trivial
theorem int2_some {f:Int→Int→Option Int} {x y r:V} (e:int2 f x y = some r):Int2R f x y r:=(int2_i f x y).of e
theorem p_add_tup {cx cy:Value} {xs ys:List V} (S:SR c as X H s) (hx:VR c as X s.heap (.tup xs) cx) (hy:VR c as X s.heap (.tup ys) cy)
  (hz:xs.length + ys.length ≤ sizeOf') (q:Q (.tup (xs ++ ys)) H):wpAny c.M A (binaryOp .Add cx cy) (Res c as X s.heap Q) E s:=by
 cases hx.inv with
 | @tup a its n ha1 hax ha ra hab =>
  cases hy.inv with
  | @tup b its' n' hb1 hbx hb rb hbb =>
   have l1:=ra.length
   have l2:=rb.length
   by_cases e1:its.isEmpty = true
   ·have:its = #[]:=by simpa using e1
    (replace this:=Eq.symm this; subst this)
    cases ra
    refine concat_meets ⟨_,ha,rfl⟩ ⟨_,hb,rfl⟩ noFill_tuple_add seq_tuple_add F.slot_tuple_add F.entry_tuple_add (F.args_tuple_add_2 _ _) (AutoSeq1.tuple___add___tuple_tuple_0 _ _ _ _ _ _ e1) ⟨ha,hb,?_⟩
    exact Res.now (tk:=s.toks) S (.tup hb1 hbx hb rb hbb) q
   ·by_cases e2:its'.isEmpty = true
    ·have:its' = #[]:=by simpa using e2
     subst this
     cases rb
     refine concat_meets ⟨_,ha,rfl⟩ ⟨_,hb,rfl⟩ noFill_tuple_add seq_tuple_add F.slot_tuple_add F.entry_tuple_add (F.args_tuple_add_2 _ _) (AutoSeq1.tuple___add___tuple_tuple_1 _ _ _ _ _ _ e1 e2) ⟨ha,hb,?_⟩
     exact Res.now (tk:=s.toks) S (.tup ha1 hax ha (by simpa using ra) (by simpa using hab)) (by simpa using q)
    ·refine P.add_tuple ha hb e1 e2 (res_tuple S ?_ (by rw [List.length_append]; have:=sizeOf'_bnd; lia) q) ?_
     ·exact (Array.toList_append).symm ▸ ra.append rb
     ·have:=sizeOf'_le
      simp only [Array.length_toList] at l1 l2
      lia
inductive AddR (H:AH):V→V→V→Prop
 | int (a b:Int):AddR H (.int a) (.int b) (.int (a + b))
 | str {a b:List Char}:a.length + b.length ≤ sizeOf'→AddR H (.str a) (.str b) (.str (a ++ b))
 | tup {a b:List V}:a.length + b.length ≤ sizeOf'→AddR H (.tup a) (.tup b) (.tup (a ++ b))
 | lst {x y:V} {xs ys:List V}:view H x = some xs→view H y = some ys→xs.length + ys.length ≤ sizeOf'→AddR H x y (.lst (xs ++ ys))
theorem addL_i (x y:V):Is (addL H x y) (AddR H x y):=Is.self.bind fun _ h1=>Is.self.bind fun _ h2=>Is.ite fun h3=>.lst h1 h2 h3
theorem addV_some {x y r:V} (e:addV H x y = some r):AddR H x y r:=by
 refine Is.of (R:=AddR H x y) ?_ e
 clear e
 cases x with
 | int i=>exact (int2_i _ _ _).imp fun _ h=>by cases h with | mk h=>exact Option.some.inj h ▸ .int _ _
 | str a =>
  cases y with
  | str b=>exact Is.ite .str
  | _=>exact trivial
 | tup a =>
  cases y with
  | tup b=>exact Is.ite .tup
  | _=>exact trivial
 | _=>exact addL_i _ _
theorem p_binop {o:Bop} {op:Operator} {x y r:V} {cx cy:Value} (S:SR c as X H s) (hx:VR c as X s.heap x cx) (hy:VR c as X s.heap y cy)
  (ho:op = opOf o)
  (e:binop o x y H = some r) (q:Q r H):wpAny c.M A (binaryOp op cx cy) (Res c as X s.heap Q) E s:=by
 subst ho
 have hI:∀ {f:Int→Int→Option Int},int2 f x y = some r→(∀ {a b z:Int} {t t':Tok},f a b = some z→Q (.int z) H→wpAny c.M A (binaryOp (opOf o) (.int a t) (.int b t')) (Res c as X s.heap Q) E s)→wpAny c.M A (binaryOp (opOf o) cx cy) (Res c as X s.heap Q) E s:=fun e k=>by
  cases int2_some e with
  | mk h =>
   cases hx.inv
   cases hy.inv
   exact k h q
 cases o with
 | add =>
  clear hI
  cases addV_some e with
  | int a b =>
   cases hx.inv
   cases hy.inv
   exact add_int (Res.now S (.int _ _) q)
  | str h =>
   cases hx.inv
   cases hy.inv
   refine add_str (fun t' tk=>?_) ?_
   ·rw [toS_append]; exact Res.now S (.str _ _ (by rw [List.length_append]; exact Nat.le_trans h (Nat.le_trans (Nat.le_add_right _ 5) sizeOf'_bnd))) q
   ·rw [toS_length,toS_length]; exact Nat.le_trans h sizeOf'_le
  | tup h=>exact p_add_tup S hx hy h q
  | lst h1 h2 h=>exact p_add_list S hx hy h1 h2 h q
 | sub=>exact hI e fun h q=>by (replace h:=Option.some.inj h; subst h); exact sub_int (Res.now S (.int _ _) q)
 | mul =>
  exact hI e fun h q=>by
   (refine ea0_2 (ite_is h) fun h5 e_1=>?_; subst e_1)
   exact PyProof.Rows.mul_int (Res.now S (.int _ _) q) (.of_left (bits_small (Bool.and_eq_true_iff.mp h5).1))
 | fdiv =>
  exact hI e fun h q=>by
   (refine ea0_2 (ite_is h) fun h5 e_1=>?_; subst e_1)
   refine PyProof.Rows.floordiv_int (Int.ne_of_gt h5.1) ?_ (.inl (PyProof.noPylong_of_log2 (log2_div h5)))
   rw [Int.fdiv_eq_ediv_of_nonneg _ (Int.le_of_lt h5.1)]; exact Res.now S (.int _ _) q
 | mod =>
  exact hI e fun h q=>by
   (refine ea0_2 (ite_is h) fun h5 e_1=>?_; subst e_1)
   refine PyProof.Rows.mod_int (Int.ne_of_gt h5) ?_
   rw [Int.fmod_eq_emod_of_nonneg _ (Int.le_of_lt h5)]; exact Res.now S (.int _ _) q
 | pow =>
  exact hI e fun h q=>by
   obtain ⟨⟨rfl,h1,h2⟩,rfl⟩:=ite_is h
   exact pow_int_small h1 (by lia) (by decide) (Res.now S (.int _ _) q)
mutual
noncomputable def toP:V→PyData
 | .none=>.none
 | .bool b=>.bool b
 | .int i=>.int i
 | .str x=>.str (toS x)
 | .tup vs=>.tuple (toPs vs)
 | .lst vs=>.list (toPs vs)
 | .dct _ _ | .rng _ _ | .ref _=>.none
noncomputable def toPs:List V→List PyData
 | []=>[]
 | v :: vs=>toP v :: toPs vs
end
theorem strOk_toS (s:List Char):PyData.strOk (toS s) = true:=by
 simp only [PyData.strOk,toS,Array.all_eq_true]
 intro i hi
 simp only [List.size_toArray,List.length_map] at hi
 have h:((s.map Char.toNat).toArray)[i] = (s[i]).toNat:=by simp
 have hv:=(s[i]).valid
 simp only [decide_eq_true_eq]
 have:((s.map Char.toNat).toArray)[i] < 0x110000:=by
  rw [h]
  show (s[i]).val.toNat < _
  lia
 exact this
mutual
theorem toP_ok:∀ v:V,v.data = true→(toP v).canLay0 = true∧(toP v).depth = v.depth
 | .none,_=>⟨rfl,rfl⟩
 | .bool _,_=>⟨rfl,rfl⟩
 | .int _,_=>⟨rfl,rfl⟩
 | .str s,_=>⟨strOk_toS s,rfl⟩
 | .tup vs,h=>⟨(toPs_ok vs h).1,congrArg (· + 1) (toPs_ok vs h).2⟩
 | .lst vs,h=>⟨(toPs_ok vs h).1,congrArg (· + 1) (toPs_ok vs h).2⟩
 | .dct _ _,h=>nomatch h
 | .rng _ _,h=>nomatch h
 | .ref _,h=>nomatch h
theorem toPs_ok:∀ vs:List V,V.datas vs = true→PyData.canLayAll0 (toPs vs) = true∧PyData.depthAll (toPs vs) = V.depths vs
 | [],_=>⟨rfl,rfl⟩
 | v :: vs,h=>by
  have h':=Bool.and_eq_true_iff.mp h
  have a:=toP_ok v h'.1
  have b:=toPs_ok vs h'.2
  exact ⟨Bool.and_eq_true_iff.mpr ⟨a.1,b.1⟩,congr (congrArg max a.2) b.2⟩
end
theorem reads_of {c:Cx} {as:Adr} {X:List Addr} {h:HP} {v:V} {x:Value} (r:VR c as X h v x):v.data = true→∃ l,Reads h x (toP v) l :=
 VR.rec (motive_1:=fun v x _=>v.data = true→∃ l,Reads h x (toP v) l) (motive_2:=fun vs xs _=>V.datas vs = true→∃ l,ReadsAll h xs (toPs vs) l)
  (fun _=>⟨_,.none⟩) (fun b _=>⟨_,.bool b⟩) (fun i t _=>⟨_,.int i t⟩) (fun s t _ _=>⟨_,.str _ t⟩)
  (fun _ _ ho _ _ ih hd=>(ih hd).elim fun l q=>⟨l,.tuple ho rfl rfl q⟩) (fun _ _ hp _ _ ih hd=>hp.elim fun _ ho=>(ih hd).elim fun _ q=>⟨_,.list ho rfl rfl q⟩)
  (fun _ _ _ _ _ _ _ _ hd=>absurd hd Bool.false_ne_true) (fun _ _ _ _ _ hd=>absurd hd Bool.false_ne_true) (fun _ hd=>absurd hd Bool.false_ne_true)
  (fun _=>⟨_,.nil⟩) (fun _ _ i1 i2 hd=>(i1 (Bool.and_eq_true_iff.mp hd).1).elim fun _ q=>(i2 (Bool.and_eq_true_iff.mp hd).2).elim fun _ q'=>⟨_,.cons q q'⟩) r
theorem reads_all {c:Cx} {as:Adr} {X:List Addr} {h:HP} {vs:List V} {xs:List Value} (r:VRs c as X h vs xs):V.datas vs = true→∃ l,ReadsAll h xs (toPs vs) l :=
 VRs.all (P:=fun _ _=>True) r (fun vs xs=>V.datas vs = true→∃ l,ReadsAll h xs (toPs vs) l) (fun _=>⟨_,.nil⟩) fun _ _ _ _ a ih hd=>(reads_of a (Bool.and_eq_true_iff.mp hd).1).elim fun _ q=>(ih (Bool.and_eq_true_iff.mp hd).2).elim fun _ q'=>⟨_,.cons q q'⟩
theorem toS_beq (a b:List Char):(toS a == toS b) = (a == b):=by
 by_cases h:a = b
 ·subst h; simp
 ·have:toS a ≠ toS b:=fun e=>h (toS_inj e)
  simp only [beq_eq_false_iff_ne.mpr h,beq_eq_false_iff_ne.mpr this]
mutual
theorem eqv_toP:∀ v w:V,v.data = true→w.data = true→PyData.eqv (toP v) (toP w) = eqV v w
 | .lst vs,w,hv,hw=>by
  cases w with
  | lst ws=>exact eqvs_toP vs ws hv hw
  | _=>first | rfl | cases hw
 | .tup vs,w,hv,hw=>by
  cases w with
  | tup ws=>exact eqvs_toP vs ws hv hw
  | _=>first | rfl | cases hw
 | .none,w,_,hw=>by cases w <;> first | rfl | cases hw
 | .bool _,w,_,hw=>by cases w <;> first | rfl | cases hw
 | .int _,w,_,hw=>by cases w <;> first | rfl | cases hw
 | .str _,w,_,hw=>by cases w <;> first | rfl | (cases hw; done) | exact toS_beq _ _
 | .dct _ _,_,h,_=>nomatch h
 | .rng _ _,_,h,_=>nomatch h
 | .ref _,_,h,_=>nomatch h
theorem eqvs_toP:∀ vs ws:List V,V.datas vs = true→V.datas ws = true→PyData.eqvAll (toPs vs) (toPs ws) = eqVs vs ws
 | [],[],_,_=>rfl
 | [],_ :: _,_,_=>rfl
 | _ :: _,[],_,_=>rfl
 | v :: vs,w :: ws,hv,hw=>by
  have h1:=Bool.and_eq_true_iff.mp hv
  have h2:=Bool.and_eq_true_iff.mp hw
  exact congr (congrArg and (eqv_toP v w h1.1 h2.1)) (eqvs_toP vs ws h1.2 h2.2)
end
theorem any_toP (w:V) (hw:w.data = true):∀ vs:List V,V.datas vs = true→((toPs vs).any fun y=>PyData.eqv y (toP w)) = vs.any fun y=>eqV y w
 | [],_=>rfl
 | v :: vs,h=>by
  have h1:=Bool.and_eq_true_iff.mp h
  exact congr (congrArg or (eqv_toP v w h1.1 hw)) (any_toP w hw vs h1.2)
theorem rdD_is {v v':V} (e:rdD v = some v'):(V.data v && decide (V.depth v ≤ 50)) = true∧v' = v:=⟨(ite_is e).1,(ite_is e).2.symm⟩
theorem rd_is {v v':V} (e:rd H v = some v'):(∃ vs,view H v = some vs∧okD vs = true∧v' = .lst vs) ∨ (V.data v && decide (V.depth v ≤ 50)) = true∧v' = v:=by
 cases v with
 | ref i=>refine ea1_1 (bind_is e) fun vs q_=>ea0_2 q_ fun h1 e=>?_; exact .inl ⟨vs,h1,(ite_is e).1,(ite_is e).2.symm⟩
 | _=>exact .inr (rdD_is e)
theorem okD_is {vs:List V} (h:okD vs = true):V.datas vs = true∧V.depths vs ≤ 50:=⟨(Bool.and_eq_true_iff.mp h).1,of_decide_eq_true (Bool.and_eq_true_iff.mp h).2⟩
inductive RdAt (h:HP) (v':V) (x:Value):Prop
 | mk:v'.data = true→v'.depth ≤ 51→(l:List Addr)→Reads h x (toP v') l→RdAt h v' x
theorem rd_at {v v':V} {x:Value} (S:SR c as X H s) (hv:VR c as X s.heap v x) (e:rd H v = some v'):RdAt s.heap v' x:=by
 refine Or.elim (rd_is e) (fun q_=>?_) (fun q_=>?_)
 ·obtain ⟨vs,hvs,hd,rfl⟩:=q_; have hd:=okD_is hd
  replace S:=view_at S hv hvs
  obtain ⟨a,items,rfl,⟨n,ho⟩,r,_⟩:=S
  obtain ⟨l,q⟩:=reads_all r hd.1
  exact ⟨hd.1,Nat.succ_le_succ hd.2,_,.list ho rfl rfl q⟩
 ·obtain ⟨hd,rfl⟩:=q_; have hd:=Bool.and_eq_true_iff.mp hd
  obtain ⟨l,q⟩:=reads_of hv hd.1
  exact ⟨hd.1,Nat.le_succ_of_le (of_decide_eq_true hd.2),l,q⟩
theorem p_eq {x y x' y':V} {cx cy:Value} (S:SR c as X H s) (hx:VR c as X s.heap x cx) (hy:VR c as X s.heap y cy) (ex:rd H x = some x') (ey:rd H y = some y') (hu:A.units + 64 < cLine)
  (q:Q (.bool (eqV x' y')) H):wpAny c.M A (compareOp .Eq cx cy) (Res c as X s.heap Q) E s:=by
 obtain ⟨d1,d2,l1,r1⟩:=rd_at S hx ex
 obtain ⟨d3,d4,l2,r2⟩:=rd_at S hy ey
 have o1:=toP_ok _ d1
 have o2:=toP_ok _ d3
 refine eq_dataH r1 r2 ?_ ?_ hu ?_
 ·unfold SeqAt.shaped; rw [o1.1,Bool.true_and,o1.2]; exact decide_eq_true (by lia)
 ·unfold SeqAt.shaped; rw [o2.1,Bool.true_and,o2.2]; exact decide_eq_true (by lia)
 ·rw [eqv_toP _ _ d1 d3]; exact Res.now (tk:=s.toks) S (.bool _) q
theorem p_ne {x y x' y':V} {cx cy:Value} (S:SR c as X H s) (hx:VR c as X s.heap x cx) (hy:VR c as X s.heap y cy) (ex:rd H x = some x') (ey:rd H y = some y') (hu:A.units + 64 < cLine)
  (q:Q (.bool (!eqV x' y')) H):wpAny c.M A (compareOp .NotEq cx cy) (Res c as X s.heap Q) E s:=by
 obtain ⟨d1,d2,l1,r1⟩:=rd_at S hx ex
 obtain ⟨d3,d4,l2,r2⟩:=rd_at S hy ey
 have o1:=toP_ok _ d1
 have o2:=toP_ok _ d3
 refine ne_dataH r1 r2 ?_ ?_ hu ?_
 ·unfold SeqAt.shaped; rw [o1.1,Bool.true_and,o1.2]; exact decide_eq_true (by lia)
 ·unfold SeqAt.shaped; rw [o2.1,Bool.true_and,o2.2]; exact decide_eq_true (by lia)
 ·rw [eqv_toP _ _ d1 d3]; exact Res.now (tk:=s.toks) S (.bool _) q
theorem isV_is {x y:V} {cx cy:Value} {b:Bool} (S:SR c as X H s) (hx:VR c as X s.heap x cx) (hy:VR c as X s.heap y cy) (e:isV H x y = some b):plainIs cx cy = true∧(cx == cy) = b:=by
 refine Is.of (R:=fun b=>plainIs cx cy = true∧(cx == cy) = b) ?_ e
 clear e
 cases y with
 | none =>
  cases hy.inv
  clear hy
  cases hx with
  | ref _=>exact Is.ite fun _=>⟨rfl,rfl⟩
  | rng=>exact trivial
  | _=>exact ⟨rfl,rfl⟩
 | _=>exact trivial
theorem found_char (s:List Char) (ch:Char):(!(Builtin.Str.occurrences (toS s) (toS [ch]) 0 (toS s).length 1).isEmpty) = s.contains ch:=by
 have e:toS [ch] = ⟨#[ch.toNat]⟩:=rfl
 rw [e,StrLaws.found_one]
 rw [Bool.eq_iff_iff]
 rw [decide_eq_true_eq,List.contains_iff_mem,toS,List.mem_map]
 constructor
 ·rintro ⟨a,ha,e⟩
  simp only [← Char.toNat_inj.mp e]; exact ha
 ·intro h; exact ⟨ch,h,rfl⟩
theorem kd_is (k:List Char) (t:Tok):c.kd.is (toS k) (.str (toS k) t) = true:=strKind_is c.prog c.w (toS k) t
theorem valueAt_zip {h:HP} (k:List Char) {ks:List (List Char)}:∀ {vs:List V} {cs:List Value},ks.length = cs.length→VRs c as X h vs cs →
  (match dget k ks vs with | some v=>∃ x,valueAt ((ks.map toS).zip cs) (toS k) = some x∧VR c as X h v x | none=>k ∉ ks∧valueAt ((ks.map toS).zip cs) (toS k) = none):=by
 induction ks with
 | nil=>exact fun _ _=>⟨nofun,rfl⟩
 | cons k' ks ih =>
  intro vs cs hl r
  cases r with
  | nil=>exact nomatch hl
  | @cons v vs x cs hx r =>
   have ih:=ih (Nat.succ.inj hl) r
   by_cases e:k = k'
   ·subst e
    rw [show dget k (k :: ks) (v :: vs) = some v from if_pos rfl]
    exact ⟨x,by simp [valueAt],hx⟩
   ·rw [show valueAt (((k' :: ks).map toS).zip (x :: cs)) (toS k) = valueAt ((ks.map toS).zip cs) (toS k) by simp [valueAt,show toS k' ≠ toS k from fun q=>e (toS_inj q).symm],show dget k (k' :: ks) (v :: vs) = dget k ks vs from if_neg e]
    refine optF (o:=dget k ks vs) (fun v' hd=>?_) (fun hd=>?_)
    ·rw [hd]; rw [hd] at ih; exact ih
    ·rw [hd]; rw [hd] at ih; exact ⟨List.not_mem_cons_of_ne_of_not_mem e ih.1,ih.2⟩
theorem dget_some_mem {k:List Char}:∀ {ks:List (List Char)} {vs:List V} {v:V},dget k ks vs = some v→k ∈ ks
 | k' :: ks,v' :: vs,v,e=>by
  if h:k = k' then exact h ▸ .head _
  else exact .tail _ (dget_some_mem ((if_neg h).symm.trans e))
 | [],_,_,e=>nos e
 | _ :: _,[],_,e=>nos e
theorem has_key {k:List Char} {ks:List (List Char)} {vs:List V} {cs:List Value} (hl:ks.length = cs.length) (r:VRs c as X s.heap vs cs):(valueAt ((ks.map toS).zip cs) (toS k)).isSome = ks.contains k:=by
 have h:=valueAt_zip k hl r
 refine optF (o:=dget k ks vs) (fun v hd=>?_) (fun hd=>?_)
 ·skip
  rw [hd] at h
  refine ea1_2 h ?_
  intro x e _
  rw [e]
  exact (List.contains_iff_mem.mpr (dget_some_mem hd)).symm
 ·skip
  simp only [hd] at h
  rw [h.2]
  have:¬ ks.contains k = true:=fun q=>h.1 (List.contains_iff_mem.mp q)
  simpa using this
theorem in_room {a b k:Nat} (h:a ≤ 50) (hu:k + 64 < cLine):k + 1 + min a b < cLine :=
 Nat.lt_of_le_of_lt (Nat.add_le_add_left (Nat.le_trans (Nat.min_le_left a b) h) (k + 1)) (Nat.lt_of_le_of_lt (show k + 1 + 50 ≤ k + 64 from by rw [Nat.add_assoc]; exact Nat.add_le_add_left (by decide) _) hu)
theorem inV_is {x y:V} {b:Bool} (e:inV H x y = some b):(∃ t ch,x = .str [ch]∧y = .str t∧b = t.contains ch) ∨ (∃ vs,y = .tup vs∧inL H x vs = some b) ∨ (∃ vs,view H y = some vs∧inL H x vs = some b) ∨ ∃ d k,x = .str k∧dview H y = some d∧b = d.1.contains k:=by
 have h:inO H x y (view H y) = some b→(∃ vs,view H y = some vs∧inL H x vs = some b) ∨ ∃ d k,x = .str k∧dview H y = some d∧b = d.1.contains k:=fun e=>by
  cases hv:view H y with
  | some vs=>rw [hv] at e; exact .inl ⟨vs,rfl,e⟩
  | none =>
   rw [hv] at e
   replace e:=bind_is e
   refine ea1_2 e ?_
   intro d h1 e
   replace e:=map_is e
   refine ea1_2 e ?_
   intro k h2 q_3
   subst q_3
   exact .inr ⟨d,k,V.txt_is h2,h1,rfl⟩
 cases y with
 | str t =>
  replace e:=bind_is e
  refine ea1_2 e ?_
  intro s' h1 e
  cases s' with
  | nil=>exact nos e
  | cons ch r =>
   cases r with
   | nil=>exact .inl ⟨t,ch,V.txt_is h1,rfl,(Option.some.inj e).symm⟩
   | cons=>exact nos e
 | tup vs=>exact .inr (.inl ⟨vs,rfl,e⟩)
 | _=>exact .inr (.inr (h e))
theorem p_in {x y:V} {cx cy:Value} {b:Bool} (S:SR c as X H s) (hx:VR c as X s.heap x cx) (hy:VR c as X s.heap y cy) (e:inV H x y = some b) (hu:A.units + 64 < cLine) :
  (Q (.bool b) H→wpAny c.M A (compareOp .In cx cy) (Res c as X s.heap Q) E s)∧(Q (.bool !b) H→wpAny c.M A (compareOp .NotIn cx cy) (Res c as X s.heap Q) E s):=by
 rcases inV_is e with ⟨t,ch,rfl,rfl,rfl⟩ | ⟨vs,rfl,e⟩ | ⟨vs,ev,e⟩ | ⟨d,k,rfl,hdv,rfl⟩
 ·replace hx:=hx.inv; cases hy.inv
  cases hx
  refine ⟨fun q=>in_str ?_,fun q=>notIn_str ?_⟩
  ·rw [found_char]; exact Res.now (tk:=s.toks) S (.bool _) q
  ·rw [found_char]; exact Res.now (tk:=s.toks) S (.bool _) q
 ·replace e:=bind_is e
  refine ea1_2 e ?_
  intro x' ex e
  replace e:=ite_is e
  obtain ⟨hd,rfl⟩:=e
  have hd:=(okD_is hd).1; have hdd:=(okD_is ‹_›).2
  obtain ⟨d1,d2,l1,r1⟩:=rd_at S hx ex
  refine ea1_1 (reads_of hy hd) fun l2 r2=>?_
  have o1:=toP_ok _ d1
  have o2:=toPs_ok _ hd
  have hm:A.units + 1 + min (PyData.depthAll (toPs vs)) (toP x').depth < cLine:=by exact (o2.2) ▸ in_room hdd hu
  refine ⟨fun q=>SeqAt.in_tuple_reads r2 r1 o2.1 o1.1 hm ?_,fun q=>SeqAt.notIn_tuple_reads r2 r1 o2.1 o1.1 hm ?_⟩
  ·rw [any_toP _ d1 _ hd]; exact Res.now (tk:=s.toks) S (.bool _) q
  ·rw [any_toP _ d1 _ hd]; exact Res.now (tk:=s.toks) S (.bool _) q
 ·replace e:=bind_is e
  refine ea1_2 e ?_
  intro x' ex e
  replace e:=ite_is e
  (refine ea0_2 (e) fun hd e_1=>?_; subst e_1)
  have hd:=(okD_is hd).1; have hdd:=(okD_is ‹_›).2
  obtain ⟨d1,d2,l1,r1⟩:=rd_at S hx ex
  replace hy:=view_at S hy ev
  obtain ⟨a,items,rfl,⟨n,ho⟩,r,_⟩:=hy
  obtain ⟨l2,r2⟩:=reads_all r hd
  have r3:Reads s.heap (.ref a) (.list (toPs vs)) (a :: l2):=.list ho rfl rfl r2
  have o1:=toP_ok _ d1
  have o2:=toPs_ok _ hd
  have hm:A.units + 1 + min (PyData.depthAll (toPs vs)) (toP x').depth < cLine:=by exact (o2.2) ▸ in_room hdd hu
  refine ⟨fun q=>SeqAt.in_list_reads r3 r1 o2.1 o1.1 hm ?_,fun q=>SeqAt.notIn_list_reads r3 r1 o2.1 o1.1 hm ?_⟩
  ·rw [any_toP _ d1 _ hd]; exact Res.now (tk:=s.toks) S (.bool _) q
  ·rw [any_toP _ d1 _ hd]; exact Res.now (tk:=s.toks) S (.bool _) q
 ·cases hx.inv
  replace hy:=dview_at S hy hdv
  obtain ⟨a,cs,rfl,hsm,hd,hl,r,_⟩:=hy
  refine ⟨fun q=>wpAny_in_of (knd:=c.kd) (kd_is _ _) hsm hd.mapOf ?_,fun q=>wpAny_notIn_of (knd:=c.kd) (kd_is _ _) hsm hd.mapOf ?_⟩
  ·rw [has_key hl r]; exact Res.now S (.bool _) q
  ·rw [has_key hl r]; exact Res.now S (.bool _) q
noncomputable def copOf:Cop→CmpOp
 | .eq=>.Eq | .ne=>.NotEq | .lt=>.Lt | .le=>.LtE | .gt=>.Gt | .ge=>.GtE | .is=>.Is | .isnot=>.IsNot | .in_=>.In | .notin=>.NotIn
theorem cmpI_i (f:Int→Int→Bool) (x y:V):Is (cmpI f x y) fun b=>∃ i j,x = .int i∧y = .int j∧b = f i j:=by
 cases x with
 | int i=>cases y <;> first | exact ⟨_,_,rfl,rfl,rfl⟩ | exact trivial
 | _=>exact trivial
theorem cmpI_some {f:Int→Int→Bool} {x y:V} {b:Bool} (e:cmpI f x y = some b):∃ i j,x = .int i∧y = .int j∧b = f i j:=(cmpI_i f x y).of e
theorem p_cmp {o:Cop} {x y:V} {cx cy:Value} {b:Bool} (S:SR c as X H s) (hx:VR c as X s.heap x cx) (hy:VR c as X s.heap y cy) (hu:A.units + 64 < cLine)
  (e:cmpop o x y H = some b) (q:Q (.bool b) H):wpAny c.M A (compareOp (copOf o) cx cy) (Res c as X s.heap Q) E s:=by
 cases o with
 | eq =>
  replace e:=Option.bind_eq_some_iff.mp e
  refine ea1_2 e ?_
  intro x' h1 e
  replace e:=Option.map_eq_some_iff.mp e
  refine ea1_2 e ?_
  intro y' h2 q_3
  subst q_3
  exact p_eq S hx hy h1 h2 hu q
 | ne =>
  replace e:=Option.map_eq_some_iff.mp e
  refine ea1_2 e ?_
  intro z e1 q_3
  subst q_3
  replace e1:=Option.bind_eq_some_iff.mp e1
  refine ea1_2 e1 ?_
  intro x' h1 e1
  replace e1:=Option.map_eq_some_iff.mp e1
  refine ea1_2 e1 ?_
  intro y' h2 q_3
  subst q_3
  exact p_ne S hx hy h1 h2 hu q
 | lt=>obtain ⟨a,b,rfl,rfl,rfl⟩:=cmpI_some e; cases hx.inv; cases hy.inv; exact lt_int (Res.now (tk:=s.toks) S (.bool _) q)
 | le=>obtain ⟨a,b,rfl,rfl,rfl⟩:=cmpI_some e; cases hx.inv; cases hy.inv; exact le_int (Res.now (tk:=s.toks) S (.bool _) q)
 | gt=>obtain ⟨a,b,rfl,rfl,rfl⟩:=cmpI_some e; cases hx.inv; cases hy.inv; exact gt_int (Res.now (tk:=s.toks) S (.bool _) q)
 | ge=>obtain ⟨a,b,rfl,rfl,rfl⟩:=cmpI_some e; cases hx.inv; cases hy.inv; exact ge_int (Res.now (tk:=s.toks) S (.bool _) q)
 | is =>
  obtain ⟨h1,h2⟩:=isV_is S hx hy e
  exact wpAny_is_plain h1 (by exact (h2) ▸ Res.now (tk:=s.toks) S (.bool _) q)
 | isnot =>
  replace e:=Option.map_eq_some_iff.mp e
  refine ea1_2 e ?_
  intro b' h0 q_3
  subst q_3
  obtain ⟨h1,h2⟩:=isV_is S hx hy h0
  exact wpAny_isNot_plain h1 (by subst h2; exact Res.now (tk:=s.toks) S (.bool _) q)
 | in_=>exact (p_in S hx hy e hu).1 q
 | notin =>
  replace e:=Option.map_eq_some_iff.mp e
  refine ea1_2 e ?_
  intro b' h0 q_3
  subst q_3
  exact (p_in S hx hy h0 hu).2 q
end
end Mine
end
noncomputable section
namespace Mine
open PySem PySem.Calls PyProof.Rows
noncomputable def OVR (c:Cx) (as:Adr) (X:List Addr) (h:HP) (o:Option V) (y:Option Value):Prop:=∀ v,o = some v→∃ x,y = some x∧VR c as X h v x
structure FR (c:Cx) (as:Adr) (X:List Addr) (h:HP) (env:Env) (tab:List (Str × Nat)) (ρ:Fm):Prop where
 kind:env.scope.kind = .function
 glob:env.globals = mainGlobals
 bi:env.builtins = builtinsNs
 lx:env.locals ∈ X
 lout:env.locals ∉ as
 lb:c.base.get? env.locals = none
 ns:∃ m,h.Ns env.locals m∧∀ x i,tab.lookup x = some i→env.kindOf x = some .local→OVR c as X h ((ρ[i]?).join) (m x)
 cells:∀ x i,tab.lookup x = some i→(env.kindOf x = some .cell ∨ env.kindOf x = some .free) →
  ∃ a y,env.cells.lookup x = some a∧a ∈ X∧a ∉ as∧c.base.get? a = none∧a ≠ env.locals∧h.IsCell a y∧OVR c as X h ((ρ[i]?).join) y
 apart:∀ x y a,env.cells.lookup x = some a→env.cells.lookup y = some a→x = y
 inj:∀ x y i,tab.lookup x = some i→tab.lookup y = some i→x = y
theorem OVR.keepX {c:Cx} {as as':Adr} {X:List Addr} {h h':HP} {o:Option V} {y:Option Value} (k:VK as X h h') (x:Ext as h as') (z:OVR c as X h o y):OVR c as' X h' o y :=
 fun v e=>let ⟨q,e1,e2⟩:=z v e; ⟨q,e1,e2.keepX k x⟩
theorem Ns.same {X:List Addr} {h h':HP} {L:Addr} {m:Str→Option Value} (n:h.Ns L m) (k:∀ o,h.get? L = some o→∃ o',h'.get? L = some o'∧SameO X L o o'):h'.Ns L m:=by
 refine ea3_2 n ?_
 intro o es ep e r
 refine ea1_2 (k o e) ?_
 intro o' e' s
 refine ⟨o',es,ep,e',?_⟩
 rcases s with rfl | ⟨_,_,sl,rfl⟩ <;> exact r
theorem IsCell.same {X:List Addr} {h h':HP} {a:Addr} {y:Option Value} (n:h.IsCell a y) (k:∀ o,h.get? a = some o→∃ o',h'.get? a = some o'∧SameO X a o o'):h'.IsCell a y:=by
 refine ea1_2 n ?_
 intro o e r
 refine ea1_2 (k o e) ?_
 intro o' e' s
 refine ⟨o',e',?_⟩
 rcases s with rfl | ⟨_,_,sl,rfl⟩ <;> exact r
theorem FR.keep {c:Cx} {as as':Adr} {X:List Addr} {h h':HP} {env:Env} {tab:List (Str × Nat)} {ρ:Fm} (F:FR c as X h env tab ρ) (k:Kept as X h h') (x:Ext as h as'):FR c as' X h' env tab ρ where
 kind:=F.kind
 glob:=F.glob
 bi:=F.bi
 lx:=F.lx
 lout:=by
  refine ea1_2 F.ns ?_
  intro m p_2 _
  obtain ⟨o,_,_,e,_⟩:=p_2
  exact x.out e F.lout
 lb:=F.lb
 ns:=by
  refine ea1_2 F.ns ?_
  intro m n r
  exact ⟨m,Ns.same n fun o e=>k _ o e F.lout,fun y i h1 h2=>(r y i h1 h2).keepX k.x x⟩
 cells:=fun y i h1 h2=>by
  refine ea2_7 (F.cells y i h1 h2) ?_
  intro a z e1 e2 e3 e4 e5 e6 e7
  refine ea1_2 (e6) ?_
  intro o eo _
  exact ⟨a,z,e1,e2,x.out eo e3,e4,e5,IsCell.same e6 fun o e=>k _ o e e3,e7.keepX k.x x⟩
 apart:=F.apart
 inj:=F.inj
section
variable {c:Cx} {A:Around} {E:Value→Shared→Prop} {s:Shared} {as:Adr} {X:List Addr} {H:AH} {Q:QE} {env:Env} {tab:List (Str × Nat)} {ρ:Fm}
theorem n_load {x:Str} {i:Nat} {v:V} {M:Model} (S:SR c as X H s) (F:FR c as X s.heap env tab ρ) (ht:tab.lookup x = some i) (hk:env.kindOf x = some .local ∨ env.kindOf x = some .cell ∨ env.kindOf x = some .free)
  (hv:ρ[i]? = some (some v)) (hn:(x == ("__classdict__":Str)) = false) (q:Q v H):wpAny M A (loadName env x) (Res c as X s.heap Q) E s:=by
 rcases hk with hk | hk
 ·refine ea1_2 F.ns ?_
  intro m n r
  refine ea1_2 (r x i ht hk v (by rw [hv]; rfl)) ?_
  intro y e1 e2
  exact wpAny_loadName_local F.kind hk n e1 (Res.now (tk:=s.toks) S e2 q)
 ·refine ea2_7 (F.cells x i ht hk) ?_
  intro a z e1 e2 e3 e4 e5 e6 e7
  replace e7:=e7 v (by rw [hv]; rfl)
  refine ea1_2 e7 ?_
  intro y q_2 e8
  subst q_2
  rcases hk with hk | hk
  ·exact wpAny_loadName_cell F.kind hk e1 e6 (Res.now (tk:=s.toks) S e8 q)
  ·exact wpAny_loadName_free F.kind hk e1 e6 (Res.now (tk:=s.toks) S e8 q) hn
inductive StepF (c:Cx) (as:Adr) (X:List Addr) (H:AH) (env:Env) (tab:List (Str × Nat)) (h:HP) (ρ':Fm) (s':Shared):Prop
 | mk:SR c as X H s'→KeptX as X (env.locals :: env.cells.map (·.2)) h s'.heap→FR c as X s'.heap env tab ρ'→StepF c as X H env tab h ρ' s'
theorem set_join (ρ:Fm) (i j:Nat) (v:V) (hi:i < ρ.length):(((ρ.set i (some v))[j]?).join) = if i = j then some v else (ρ[j]?).join:=by
 by_cases h:i = j
 ·subst h; simp [hi]
 ·simp [h]
theorem n_store {x:Str} {i:Nat} {v:V} {cv:Value} {M:Model} {R:Unit→Shared→Prop} (S:SR c as X H s) (F:FR c as X s.heap env tab ρ) (ht:tab.lookup x = some i) (hk:env.kindOf x = some .local ∨ env.kindOf x = some .cell)
  (hi:i < ρ.length) (hv:VR c as X s.heap v cv) (r:∀ s',StepF c as X H env tab s.heap (ρ.set i (some v)) s'→R () s'):wpAny M A (storeName env x cv) R E s:=by
 rcases hk with hk | hk
 ·refine ea1_2 F.ns ?_
  intro m n rr
  refine wpAny_storeName_local hk n (fun h' n' sb=>r _ ?_) (by rw [F.kind]; rfl)
  have K0:∀ b o,s.heap.get? b = some o→b ≠ env.locals→h'.get? b = some o:=fun b o e hb=>(sb.2 b hb).trans e
  have KX:VK as X s.heap h':=fun b o e _ hb=>K0 b o e (fun q=>hb (q ▸ F.lx))
  have hL':∃ o,h'.get? env.locals = some o:=let ⟨o,_,_,e,_⟩:=n'; ⟨o,e⟩
  refine ⟨S.keepX (s':={ s with heap:=h',toks:=s.toks + 1 }) (fun b o e _ hb=>K0 b o e (fun q=>hb (q ▸ F.lx))) (fun b o e=>K0 b o (S.stays b o e) fun q=>?_) (fun b hb=>?_) rfl rfl,fun b o e _ hb=>⟨o,K0 b o e (fun q=>hb (q ▸ .head _)),.inl rfl⟩,?_⟩
  ·(replace q:=Eq.symm q; subst q); replace e:=(F.lb).symm.trans e; exact nos e
  ·by_cases q:b = env.locals
   ·exact (q) ▸ hL'
   ·refine ea1_1 (S.xs b hb) fun o e=>?_
    exact ⟨o,K0 b o e q⟩
  ·refine ⟨F.kind,F.glob,F.bi,F.lx,F.lout,F.lb,⟨_,n',fun y j h1 h2=>?_⟩,fun y j h1 h2=>?_,F.apart,F.inj⟩
   ·simp only [set_join _ _ _ _ hi]
    by_cases hxy:y = x
    ·(replace hxy:=Eq.symm hxy; subst hxy)
     replace h1:=(ht).symm.trans h1; (replace h1:=Option.some.inj h1; subst h1)
     simp only [if_true]
     intro v' e'; (replace e':=Option.some.inj e'; subst e')
     exact ⟨cv,rfl,hv.keepX KX (.refl ..)⟩
    ·have:i ≠ j:=fun q=>hxy (F.inj _ _ j h1 (q ▸ ht))
     simp only [if_neg this,if_neg hxy]
     exact (rr y j h1 h2).keepX KX (.refl ..)
   ·refine ea2_7 (F.cells y j h1 h2) ?_
    intro a z e1 e2 e3 e4 e5 e6 e7
    have hne:y ≠ x:=fun q=>by subst q; rw [hk] at h2; rcases h2 with h2 | h2 <;> cases h2
    have:i ≠ j:=fun q=>hne (F.inj _ _ j h1 (q ▸ ht))
    refine ⟨a,z,e1,e2,e3,e4,e5,IsCell.same (X:=X) e6 fun o e=>⟨o,K0 _ o e e5,.inl rfl⟩,?_⟩
    rw [set_join _ _ _ _ hi,if_neg this]
    exact e7.keepX KX (.refl ..)
 ·refine ea2_7 (F.cells x i ht (.inl hk)) ?_
  intro a z e1 e2 e3 e4 e5 e6 e7
  refine wpAny_storeName_cell F.kind hk e1 e6 fun h' c' sb=>r _ ?_
  have K0:∀ b o,s.heap.get? b = some o→b ≠ a→h'.get? b = some o:=fun b o e hb=>(sb.2 b hb).trans e
  have KX:VK as X s.heap h':=fun b o e _ hb=>K0 b o e (fun q=>hb (q ▸ e2))
  have hL':∃ o,h'.get? a = some o:=let ⟨o,e,_⟩:=c'; ⟨o,e⟩
  refine ⟨S.keepX (s':={ s with heap:=h' }) (fun b o e _ hb=>K0 b o e (fun q=>hb (q ▸ e2))) (fun b o e=>K0 b o (S.stays b o e) fun q=>?_) (fun b hb=>?_) rfl rfl,fun b o e _ hb=>⟨o,K0 b o e (fun q=>hb (q ▸ .tail _ ?_)),.inl rfl⟩,?_⟩
  ·(replace q:=Eq.symm q; subst q); replace e:=(e4).symm.trans e; exact nos e
  ·by_cases q:b = a
   ·exact (q) ▸ hL'
   ·refine ea1_1 (S.xs b hb) fun o e=>?_
    exact ⟨o,K0 b o e q⟩
  ·exact List.mem_map.mpr ⟨(x,a),mem_of_lookup e1,rfl⟩
  ·refine ea1_2 F.ns ?_
   intro m n rr
   refine ⟨F.kind,F.glob,F.bi,F.lx,F.lout,F.lb,⟨_,Ns.same (X:=X) n fun o e=>⟨o,K0 _ o e (Ne.symm e5),.inl rfl⟩,fun y j h1 h2=>?_⟩,fun y j h1 h2=>?_,F.apart,F.inj⟩
   ·have hne:y ≠ x:=fun q=>by subst q; replace h2:=(hk).symm.trans h2; cases h2
    have:i ≠ j:=fun q=>hne (F.inj _ _ j h1 (q ▸ ht))
    rw [set_join _ _ _ _ hi,if_neg this]
    exact (rr y j h1 h2).keepX KX (.refl ..)
   ·refine ea2_7 (F.cells y j h1 h2) ?_
    intro a' z' f1 f2 f3 f4 f5 f6 f7
    by_cases hxy:y = x
    ·subst hxy
     replace h1:=(ht).symm.trans h1; (replace h1:=Option.some.inj h1; subst h1)
     refine ⟨a,_,e1,e2,e3,e4,e5,c',?_⟩
     rw [set_join _ _ _ _ hi,if_pos rfl]
     intro v' e'; (replace e':=Option.some.inj e'; subst e')
     exact ⟨cv,rfl,hv.keepX KX (.refl ..)⟩
    ·have:i ≠ j:=fun q=>hxy (F.inj _ _ j h1 (q ▸ ht))
     refine ⟨a',z',f1,f2,f3,f4,f5,IsCell.same (X:=X) f6 fun o e=>⟨o,K0 _ o e (fun q=>hxy (F.apart y x a (q ▸ f1) e1):a' ≠ a),.inl rfl⟩,?_⟩
     rw [set_join _ _ _ _ hi,if_neg this]
     exact f7.keepX KX (.refl ..)
end
end Mine
end
noncomputable section
namespace Mine
open PySem PySem.Calls PyProof.Rows
inductive ExcS (h:HP) (e:Addr) (cls:Value):Option Addr→Prop
 | fresh {oe:Obj} {vs:Array Value}:h.get? e = some oe→oe.cls = cls→oe.data = .fields vs→vs.size = 6→vs[1]? = some .none→vs[2]? = some .none→ExcS h e cls none
 | traced {oe oT:Obj} {vs ts:Array Value} {T:Addr}:h.get? e = some oe→oe.cls = cls→oe.data = .fields vs→vs.size = 6→vs[1]? = some (.ref T)→vs[2]? = some .none →
   T ≠ e→h.get? T = some oT→oT.data = .fields ts→3 < ts.size→ExcS h e cls (some T)
noncomputable def Touch (S F:List Addr) (h h':HP):Prop:=∀ b o,h.get? b = some o→∃ o',h'.get? b = some o'∧(b ∈ S ∨ o' = o ∨ b ∈ F∧∃ sl,o' = { o with slots:=sl })
theorem Touch.refl (S F:List Addr) (h:HP):Touch S F h h:=fun _ o e=>⟨o,e,.inr (.inl rfl)⟩
theorem Touch.trans {S F:List Addr} {h h₁ h₂:HP} (x:Touch S F h h₁) (y:Touch S F h₁ h₂):Touch S F h h₂:=fun b o e=>by
 refine ea1_2 (x b o e) ?_
 intro o₁ e₁ q₁
 refine ea1_2 (y b o₁ e₁) ?_
 intro o₂ e₂ q₂
 refine ⟨o₂,e₂,?_⟩
 rcases q₁ with q₁ | rfl | ⟨hF,sl,rfl⟩
 ·exact .inl q₁
 ·exact q₂
 ·rcases q₂ with q₂ | rfl | ⟨_,sl',rfl⟩
  ·exact .inl q₂
  ·exact .inr (.inr ⟨hF,sl,rfl⟩)
  ·exact .inr (.inr ⟨hF,sl',rfl⟩)
theorem Touch.mono {S S' F:List Addr} {h h':HP} (x:Touch S F h h') (hS:∀ b ∈ S,b ∈ S'):Touch S' F h h':=fun b o e=>let ⟨o',e',q⟩:=x b o e; ⟨o',e',q.imp (hS b) id⟩
theorem Touch.out {S F:List Addr} {h h':HP} (x:Touch S F h h') {b:Addr} {o:Obj} (e:h.get? b = some o) (hb:b ∉ S):∃ o',h'.get? b = some o'∧(o' = o ∨ b ∈ F∧∃ sl,o' = { o with slots:=sl }) :=
 let ⟨o',e',q⟩:=x b o e; ⟨o',e',q.resolve_left hb⟩
theorem Touch.frames {S:List Addr} {h h' base:HP} {l:List Env} (x:Touch S (l.filterMap (·.frame)) h h') (hS:∀ b ∈ S,∀ o,h.get? b = some o→∃ vs,o.data = .fields vs) (hl:h.FunFrames base l):h'.FunFrames base l :=
 hl.of_keeps fun b o e hn=>by
  obtain ⟨o',e',q⟩:=x.out e fun hb=>by obtain ⟨vs,hd⟩:=hS b hb o e; exact hn vs hd
  rcases q with rfl | ⟨_,sl,rfl⟩
  ·exact ⟨_,e',rfl⟩
  ·exact ⟨_,e',rfl⟩
section
variable {M:Model} {A:Around} {E:Value→Shared→Prop} {s:Shared} {base:HP} {env env₀:Env} {outer:List Env} {L e:Addr} {cls:Value} {t:Option Addr}
theorem frameOf_of {Q:Value→Shared→Prop} (hfr:A.frames = some (env₀ :: outer)) (hl:s.heap.FunFrames base (env₀ :: outer)) (hf₀:env₀.frame = some L) (hf:env.frame = some L)
  (h:∀ h',Heap.SlotsOnly ((env₀ :: outer).filterMap (·.frame)) s.heap h'→Q (.ref L) { s with heap:=h' }):wpAny M A (PySem.frameOf env) Q E s:=by
 unfold PySem.frameOf
 refine wpAny_bind (wpAny_frameEnvs hfr ?_)
 have hdw:((env₀ :: outer).dropWhile fun x=>x.frame != env.frame) = env₀ :: outer:=by rw [List.dropWhile_cons_of_neg]; simp only [hf₀,hf]; simp
 rw [hdw]
 refine wpAny_bind (wpAny_bind (wpAny_readyFrames_fun hl fun h₁ hs₁=>wpAny_pure ?_))
 rw [hf₀]
 exact wpAny_pure (h h₁ hs₁)
theorem entry_exc {oe:Obj} {vs:Array Value} {head:Value} {hadNext:Bool} {Q:Unit→Shared→Prop}
  (hfr:A.frames = some (env₀ :: outer)) (hl:s.heap.FunFrames base (env₀ :: outer)) (hf₀:env₀.frame = some L) (hf:env.frame = some L)
  (he:s.heap.get? e = some oe) (hc:oe.cls = cls) (hd:oe.data = .fields vs) (hsz:vs.size = 6) (h2:vs[2]? = some .none)
  (h:∀ h' T,ExcS h' e cls (some T)→s.heap.get? T = none→Touch [e] ((env₀ :: outer).filterMap (·.frame)) s.heap h'→Q () { s with heap:=h' }) :
  wpAny M A (do let a ← PySem.frameOf env; let pl ← entryPlaceOf L hadNext; let b ← EntryCells.newEntry head a .none (rawInt L) .none pl; setField (.ref e) 1 b) Q E s:=by
 have hene:e ∉ (env₀ :: outer).filterMap (·.frame):=fun hm=>by
  obtain ⟨_,o,ho,hnf⟩:=hl.mem hm
  replace ho:=(he).symm.trans ho; (replace ho:=Option.some.inj ho; subst ho); exact hnf vs hd
 refine wpAny_bind (frameOf_of hfr hl hf₀ hf fun h₁ hs₁=>?_)
 refine wpAny_bind (wpAny_entryPlaceOf fun pl hpl=>?_)
 unfold EntryCells.newEntry newFields
 refine wpAny_bind (wpAny_newObj_type ?_ (hpl.sizeOk5 _ _ _ _ _))
 have he₁:h₁.get? e = some oe:=(hs₁.2.1 e hene).trans he
 have he₂:=Heap.get?_push_of_some (h:=h₁) { cls:=.type "traceback",dict:=none,data:=.fields ([head,.ref L,.none,rawInt L,.none] ++ (if pl.isEmpty then List.replicate 6 Value.none else pl)).toArray } he₁
 refine wpAny_setField he₂ hd (by lia) (h _ h₁.objs.size ?_ (Heap.get?_none_of_le (by exact (hs₁.1) ▸ Nat.le_refl _)) fun b o hb=>?_)
 ·have hTe:h₁.objs.size ≠ e:=Nat.ne_of_gt (Heap.lt_size he₁)
  have hd₃:=Obj.data_mapFields hd (·.setIfInBounds 1 (Value.ref h₁.objs.size))
  refine .traced (Heap.get?_update_self _ he₂ (Obj.isFreed_of_fields hd₃)) ((Obj.cls_mapFields _ _).trans hc) hd₃ (by exact (Array.size_setIfInBounds).trans (hsz)) (by simp [hsz]) (by exact (Array.getElem?_setIfInBounds_ne (by decide)).trans (h2)) hTe
   ((Heap.get?_update_other _ _ (Ne.symm hTe)).trans (Heap.get?_push_size h₁ rfl)) rfl (by simp only [List.size_toArray,List.length_append,List.length_cons,List.length_nil]; lia)
 ·by_cases hbe':b = e
  ·(replace hbe':=Eq.symm hbe'; subst hbe')
   exact ⟨_,Heap.get?_update_self _ he₂ (Obj.isFreed_of_fields (Obj.data_mapFields hd (·.setIfInBounds 1 (Value.ref h₁.objs.size)))),.inl (.head _)⟩
  by_cases hF:b ∈ (env₀ :: outer).filterMap (·.frame)
  ·refine ea1_1 (hs₁.2.2 b o hb) fun sl hs=>?_
   exact ⟨_,(Heap.get?_update_other _ _ (Ne.symm hbe')).trans (Heap.get?_push_of_some _ hs),.inr (.inr ⟨hF,sl,rfl⟩)⟩
  ·exact ⟨o,(Heap.get?_update_other _ _ (Ne.symm hbe')).trans (Heap.get?_push_of_some _ ((hs₁.2.1 b hF).trans hb)),.inr (.inl rfl)⟩
theorem note_exc {Q:Unit→Shared→Prop} (hfr:A.frames = some (env₀ :: outer)) (hl:s.heap.FunFrames base (env₀ :: outer)) (hf₀:env₀.frame = some L) (hf:env.frame = some L) (x:ExcS s.heap e cls t)
  (h:∀ h' T,ExcS h' e cls (some T)→(t = some T ∨ s.heap.get? T = none)→Touch (e :: t.toList) ((env₀ :: outer).filterMap (·.frame)) s.heap h'→Q () { s with heap:=h' }):wpAny M A (noteFrame (.ref e) env) Q E s:=by
 dsimp only [noteFrame]
 rw [hf]
 cases x with
 | fresh he hc hd hsz h1 h2 =>
  refine wpAny_bind (wpAny_field he hd h1 ?_)
  exact entry_exc hfr hl hf₀ hf he hc hd hsz h2 fun h' T x q k=>h h' T x (.inr q) k
 | @traced oe oT vs ts T he hc hd hsz h1 h2 hTe hT hdT hts =>
  refine wpAny_bind (wpAny_field he hd h1 ?_)
  obtain ⟨fl,h3⟩:∃ fl,ts[3]? = some fl:=⟨ts[3],by simp [hts]⟩
  refine wpAny_bind (wpAny_field hT hdT h3 ?_)
  by_cases hfl:(fl == rawInt L) = true
  ·rw [if_pos hfl]
   exact wpAny_pure (h _ T (.traced he hc hd hsz h1 h2 hTe hT hdT hts) (.inl rfl) (Touch.refl _ _ _))
  ·rw [if_neg hfl]
   refine wpAny_bind (wpAny_setField hT hdT hts ?_)
   have other:∀ b,b ≠ T→(s.heap.update T (Obj.mapFields (·.setIfInBounds 3 Value.none))).get? b = s.heap.get? b:=fun b hb=>Heap.get?_update_other _ _ (Ne.symm hb)
   have k0:Touch [e,T] ((env₀ :: outer).filterMap (·.frame)) s.heap (s.heap.update T (Obj.mapFields (·.setIfInBounds 3 Value.none))):=fun b o hb=>by
    by_cases q:b = T
    ·(replace q:=Eq.symm q; subst q)
     exact ⟨_,Heap.get?_update_self _ hT (Obj.isFreed_of_fields (Obj.data_mapFields hdT _)),.inl (.tail _ (.head _))⟩
    ·exact ⟨o,(other b q).trans hb,.inr (.inl rfl)⟩
   refine entry_exc hfr (k0.frames (fun b hb o ho=>?_) hl) hf₀ hf ((other e (Ne.symm hTe)).trans he) hc hd hsz h2 fun h' T' x q k=>h h' T' x (.inr ?_) (k0.trans (k.mono fun b q=>?_))
   ·rcases List.mem_cons.mp hb with rfl | hb
    ·replace ho:=(he).symm.trans ho; (replace ho:=Option.some.inj ho; subst ho); exact ⟨vs,hd⟩
    ·refine Or.elim (List.mem_cons.mp hb) (fun q_=>?_) (fun hb=>?_)
     ·subst q_; replace ho:=(hT).symm.trans ho; (replace ho:=Option.some.inj ho; subst ho); exact ⟨ts,hdT⟩
     ·cases hb
   ·by_cases hq:T' = T
    ·(replace hq:=Eq.symm hq; subst hq)
     have:=Heap.get?_update_self (Obj.mapFields (·.setIfInBounds 3 Value.none)) hT (Obj.isFreed_of_fields (Obj.data_mapFields hdT _))
     replace this:=(q).symm.trans this; exact nos this
    ·rw [← other T' hq]; exact q
   ·refine Or.elim (List.mem_cons.mp q) (fun q_=>?_) (fun q=>?_)
    ·subst q_; exact .head _
    ·cases q
theorem flight_exc {fr:Option Addr} {T:Addr} {Q:Unit→Shared→Prop} (x:ExcS s.heap e cls (some T))
  (h:∀ h',ExcS h' e cls (some T)→(∀ b,b ≠ T→h'.get? b = s.heap.get? b)→Q () { s with heap:=h' }):wpAny M A (setFlight (.ref e) fr) Q E s:=by
 cases x with
 | @traced oe oT vs ts _ he hc hd hsz h1 h2 hTe hT hdT hts =>
  refine wpAny_bind (wpAny_field he hd h1 ?_)
  have other:∀ b,b ≠ T→(s.heap.update T (Obj.mapFields (·.setIfInBounds 3 (fr.elim .none fun f=>rawInt f)))).get? b = s.heap.get? b:=fun b hb=>Heap.get?_update_other _ _ (Ne.symm hb)
  refine wpAny_setField hT hdT hts (h _ (.traced ((other e (Ne.symm hTe)).trans he) hc hd hsz h1 h2 hTe (Heap.get?_update_self _ hT (Obj.isFreed_of_fields (Obj.data_mapFields hdT _))) (Obj.data_mapFields hdT _) (by exact (Array.size_setIfInBounds).symm ▸ hts)) other)
end
noncomputable def Apart (c:Cx) (as₀:Adr) (h₀:HP) (as:Adr) (X:List Addr) (a:Addr):Prop:=Fr as₀ h₀ a∧a ∉ as∧a ∉ X∧c.base.get? a = none
inductive ERes (c:Cx) (as:Adr) (X:List Addr) (h:HP) (XX:XE) (x:Value) (s':Shared):Prop
 | mk (k:Nat) (H':AH) (as':Adr) (e:Addr) (t:Option Addr) (ts:List Addr):x = .ref e→Ext as h as'→SR c as' (e :: (ts ++ X)) H' s'→Kept as X h s'.heap→ExcS s'.heap e (.ref (c.xcls k)) t→(∀ T,t = some T→T ∈ ts)→(∀ a ∈ e :: ts,Apart c as h as' X a)→XX k H'→ERes c as X h XX x s'
theorem ERes.lift {c:Cx} {as as₁:Adr} {X:List Addr} {h h₁:HP} {s':Shared} {XX:XE} {x:Value} (e:Ext as h as₁) (k:Kept as X h h₁) (r:ERes c as₁ X h₁ XX x s'):ERes c as X h XX x s':=by
 obtain ⟨n,H',as',a,t,ts,hx,e',S,k',ex,ht,ap,q⟩:=r
 exact ⟨n,H',as',a,t,ts,hx,e.trans k e',S,k.trans e k',ex,ht,fun b hb=>⟨(ap b hb).1.lift e k,(ap b hb).2⟩,q⟩
structure FrE (c:Cx) (X:List Addr) (as:Adr) (h:HP) (env:Env):Prop where
 kind:env.scope.kind ≠ .module
 there:∃ L o es n,env.frame = some L∧c.base.get? L = none∧2 ≤ X.count L∧L ∉ as∧h.get? L = some o∧o.data = .dict es n
noncomputable def FrOk (c:Cx) (A:Around) (X:List Addr) (as:Adr) (h:HP) (l:List Env):Prop:=A.frames = some l∧∀ env ∈ l,FrE c X as h env
theorem FrE.keep {c:Cx} {X:List Addr} {as as':Adr} {h h':HP} {env:Env} (f:FrE c X as h env) (e:Ext as h as') (k:Kept as X h h'):FrE c X as' h' env:=by
 refine ea4_6 f.there ?_
 intro L o es n h1 h2 h3 h4 h5 h6
 refine ea1_2 (k L o h5 h4) ?_
 intro o' e' s
 refine ⟨f.kind,L,o',es,n,h1,h2,h3,e.out h5 h4,e',?_⟩
 rcases s with rfl | ⟨_,_,sl,rfl⟩
 ·exact h6
 ·exact h6
theorem FrOk.keep {c:Cx} {A:Around} {X:List Addr} {as as':Adr} {h h':HP} {l:List Env} (f:FrOk c A X as h l) (e:Ext as h as') (k:Kept as X h h'):FrOk c A X as' h' l:=⟨f.1,fun env he=>(f.2 env he).keep e k⟩
theorem FrOk.fun {c:Cx} {X:List Addr} {as:Adr} {h:HP}:∀ {l:List Env},(∀ env ∈ l,FrE c X as h env)→h.FunFrames c.base l
 | [],_=>trivial
 | env :: l,f=>by
  refine ea4_6 ((f env (.head _)).there) ?_
  intro L o es n h1 h2 h3 h4 h5 h6
  exact ⟨(f env (.head _)).kind,⟨L,o,h1,h2,h5,fun vs q=>by replace q:=(h6).symm.trans q; cases q⟩,FrOk.fun fun e he=>f e (.tail _ he)⟩
theorem FrOk.touch {c:Cx} {X:List Addr} {as as':Adr} {S:List Addr} {h h₀ h':HP} {l:List Env} (f:∀ env ∈ l,FrE c X as' h env) (k:Kept as X h₀ h) (x:Touch S (l.filterMap (·.frame)) h h') (hS:∀ a ∈ S,Fr as h₀ a):Kept as X h₀ h':=fun b o e hb=>by
 refine ea1_2 (k b o e hb) ?_
 intro o₁ e₁ s₁
 have hn:b ∉ S:=fun q=>(hS b q).elim (fun r=>hb r) fun r=>by exact nos ((r).symm.trans e)
 refine ea1_2 (x.out e₁ hn) ?_
 intro o₂ e₂ s₂
 refine ⟨o₂,e₂,s₁.trans ?_⟩
 rcases s₂ with rfl | ⟨hF,sl,rfl⟩
 ·exact .inl rfl
 ·refine ea1_2 (List.mem_filterMap.mp hF) ?_
  intro env he hf
  refine ea4_6 ((f env he).there) ?_
  intro L o es n h1 h2 h3 h4 h5 h6
  cases h1.symm.trans hf
  cases h5.symm.trans e₁
  exact .inr ⟨h3,⟨es,n,h6⟩,sl,rfl⟩
inductive EnvFr (c:Cx) (A:Around) (X:List Addr) (as:Adr) (h:HP) (env:Env):Prop
 | mk (env₀:Env) (outer:List Env) (L:Addr):A.frames = some (env₀ :: outer)→(∀ e ∈ env₀ :: outer,FrE c X as h e)→env₀.frame = some L→env.frame = some L→EnvFr c A X as h env
theorem EnvFr.keep {c:Cx} {A:Around} {X:List Addr} {as as':Adr} {h h':HP} {env:Env} (f:EnvFr c A X as h env) (e:Ext as h as') (k:Kept as X h h'):EnvFr c A X as' h' env:=by
 obtain ⟨env₀,outer,L,h1,h2,h3,h4⟩:=f
 exact ⟨env₀,outer,L,h1,fun a ha=>(h2 a ha).keep e k,h3,h4⟩
theorem FrE.grow {c:Cx} {X X':List Addr} {as:Adr} {h h':HP} {env:Env} (f:FrE c X as h env) (g:Grown h h') (hX:∀ b,X.count b ≤ X'.count b):FrE c X' as h' env:=by
 refine ea4_6 f.there ?_
 intro L o es n h1 h2 h3 h4 h5 h6
 exact ⟨f.kind,L,o,es,n,h1,h2,Nat.le_trans h3 (hX L),h4,g _ _ h5,h6⟩
theorem EnvFr.grow {c:Cx} {A:Around} {X X':List Addr} {as:Adr} {h h':HP} {env:Env} (f:EnvFr c A X as h env) (g:Grown h h') (hX:∀ b,X.count b ≤ X'.count b):EnvFr c A X' as h' env:=by
 obtain ⟨env₀,outer,L,h1,h2,h3,h4⟩:=f
 exact ⟨env₀,outer,L,h1,fun a ha=>(h2 a ha).grow g hX,h3,h4⟩
theorem EnvFr.env {c:Cx} {A:Around} {X:List Addr} {as:Adr} {h:HP} {env env':Env} (f:EnvFr c A X as h env) (e:env'.frame = env.frame):EnvFr c A X as h env':=by
 obtain ⟨env₀,outer,L,h1,h2,h3,h4⟩:=f
 exact ⟨env₀,outer,L,h1,h2,h3,e.trans h4⟩
theorem EnvFr.all {c:Cx} {A:Around} {X:List Addr} {as:Adr} {h:HP} {env:Env} (f:EnvFr c A X as h env):∃ l,FrOk c A X as h l:=by
 obtain ⟨env₀,outer,L,h1,h2,h3,h4⟩:=f
 exact ⟨_,h1,h2⟩
theorem SR.note {c:Cx} {as:Adr} {X Y S F:List Addr} {H:AH} {s:Shared} {h':HP} (x:SR c as X H s) (k:Touch S F s.heap h') (hS:∀ b ∈ S,b ∈ X∧c.base.get? b = none) (hF:∀ b ∈ F,b ∈ X∧c.base.get? b = none) (hXY:∀ b ∈ X,b ∈ Y) (hY:∀ b ∈ Y,b ∈ X ∨ s.heap.get? b = none) (hy:∀ b ∈ Y,∃ o,h'.get? b = some o):SR c as Y H { s with heap:=h' } where
 len:=x.len
 stays:=fun b o e=>by
  obtain ⟨o',e',q⟩:=k.out (x.stays b o e) fun q=>by replace e:=((hS b q).2).symm.trans e; exact nos e
  rcases q with rfl | ⟨q,_⟩
  ·exact e'
  ·replace e:=((hF b q).2).symm.trans e; exact nos e
 gens:=x.gens
 os:=x.os
 objs:=fun i a e=>by
  refine ea0_3 (x.objs i a e) ?_
  intro h1 h2 r_3
  refine ea1_2 r_3 ?_
  intro o h3 h4
  have fy:∀ b o,s.heap.get? b = some o→b ∉ X→b ∉ Y:=fun b o e hb q=>(hY b q).elim hb fun r=>by replace e:=(r).symm.trans e; exact nos e
  have ex:∀ b o,s.heap.get? b = some o→b ∉ X→h'.get? b = some o:=fun b o e hb=>by
   refine ea1_2 (k.out e fun q=>hb (hS b q).1) ?_
   intro o' e' q
   rcases q with rfl | ⟨q,_⟩
   ·exact e'
   ·exact absurd (hF b q).1 hb
  obtain ⟨ob,hob⟩:=h4.here
  exact ⟨h1,fy _ _ hob h2,o,h3,(OR.frames fy h4).keepX (fun b o e _ hb=>ex b o e fun q=>hb (hXY b q)) fun ob e=>ex _ _ e h2⟩
 inj:=x.inj
 xs:=hy
theorem FrE.mem {c:Cx} {X:List Addr} {as:Adr} {h:HP} {l:List Env} (f:∀ env ∈ l,FrE c X as h env) {b:Addr} (hb:b ∈ l.filterMap (·.frame)):b ∈ X∧c.base.get? b = none:=by
 refine ea1_2 (List.mem_filterMap.mp hb) ?_
 intro env he hf
 refine ea4_6 ((f env he).there) ?_
 intro L o es n h1 h2 h3 h4 h5 h6
 replace h1:=h1.symm.trans hf
 (replace h1:=Option.some.inj h1; subst h1)
 exact ⟨List.count_pos_iff.mp (Nat.lt_of_lt_of_le (by decide) h3),h2⟩
noncomputable def Trc (x:Value) (h:HP):Prop:=∃ e T cls,x = .ref e∧ExcS h e cls (some T)
noncomputable def Dat (h h':HP):Prop:=∀ b o,h.get? b = some o→(∀ vs,o.data ≠ .fields vs)→∃ o',h'.get? b = some o'∧o'.data = o.data
theorem Dat.ns {h h':HP} {L:Addr} {m:Str→Option Value} (d:Dat h h') (n:h.Ns L m):h'.Ns L m:=by
 refine ea3_3 n ?_
 intro o es ep e hd r
 obtain ⟨o',e',hd'⟩:=d L o e fun vs q=>by replace q:=(hd).symm.trans q; cases q
 exact ⟨o',es,ep,e',hd'.trans hd,r⟩
theorem ExcS.fields {h:HP} {e:Addr} {cls:Value} {t:Option Addr} (x:ExcS h e cls t):∀ b ∈ e :: t.toList,∀ o,h.get? b = some o→∃ vs,o.data = .fields vs:=fun b hb o ho=>by
 cases x with
 | fresh he hc hd =>
  rcases List.mem_cons.mp hb with rfl | hb
  ·cases he.symm.trans ho; exact ⟨_,hd⟩
  ·cases hb
 | traced he hc hd hsz v1 v2 hTe hT hdT =>
  rcases List.mem_cons.mp hb with rfl | hb
  ·cases he.symm.trans ho; exact ⟨_,hd⟩
  ·cases List.mem_singleton.mp hb
   cases hT.symm.trans ho; exact ⟨_,hdT⟩
theorem Touch.dat {S F:List Addr} {h h':HP} (x:Touch S F h h') (hS:∀ b ∈ S,∀ o,h.get? b = some o→∃ vs,o.data = .fields vs):Dat h h':=fun b o e hn=>by
 obtain ⟨o',e',q⟩:=x.out e fun q=>by obtain ⟨vs,hd⟩:=hS b q o e; exact hn vs hd
 rcases q with rfl | ⟨_,sl,rfl⟩
 ·exact ⟨_,e',rfl⟩
 ·exact ⟨_,e',rfl⟩
theorem ERes.note {c:Cx} {A:Around} {X:List Addr} {as:Adr} {h:HP} {env:Env} {XX:XE} {x:Value} {s':Shared} {E:Value→Shared→Prop} {Q:Unit→Shared→Prop} (r:ERes c as X h XX x s') (hf:∀ as' H' Z,Ext as h as'→Kept as X h s'.heap→SR c as' Z H' s'→(∀ b ∈ X,b ∈ Z)→EnvFr c A X as' s'.heap env)
  (q:∀ s'',ERes c as X h XX x s''→Trc x s''.heap→Dat s'.heap s''.heap→Q () s''):wpAny c.M A (noteFrame x env) Q E s':=by
 obtain ⟨k,H',as',e,t,ts,rfl,e',S,k',ex,ht,ap,w⟩:=r
 obtain ⟨env₀,outer,L,h1,h2,h3,h4⟩:=hf as' H' _ e' k' S fun b hb=>.tail _ (List.mem_append_right _ hb)
 refine note_exc h1 (FrOk.fun h2) h3 h4 ex fun h'' T ex' hT tc=>q _ ?_ ⟨e,T,_,rfl,ex'⟩ (tc.dat ex.fields)
 have hSm:∀ a ∈ e :: t.toList,a ∈ e :: ts:=fun a ha=>by
  refine Or.elim (List.mem_cons.mp ha) (fun q_=>?_) (fun ha=>?_)
  ·(replace q_:=Eq.symm q_; subst q_); exact .head _
  ·exact .tail _ (ht a (Option.mem_toList.mp ha))
 have K':Kept as X h h'':=FrOk.touch h2 k' tc fun a ha=>(ap a (hSm a ha)).1
 have hS:∀ b ∈ e :: t.toList,b ∈ e :: (ts ++ X)∧c.base.get? b = none:=fun b hb=>⟨by
  rcases List.mem_cons.mp (hSm b hb) with rfl | hb
  ·exact .head _
  ·exact .tail _ (List.mem_append_left _ hb),(ap b (hSm b hb)).2.2.2⟩
 have hF:∀ b ∈ (env₀ :: outer).filterMap (·.frame),b ∈ e :: (ts ++ X)∧c.base.get? b = none:=fun b hb=>⟨.tail _ (List.mem_append_right _ (FrE.mem h2 hb).1),(FrE.mem h2 hb).2⟩
 have hex:∀ b ∈ e :: (ts ++ X),∃ o,h''.get? b = some o:=fun b hb=>by
  refine ea1_1 (S.xs b hb) fun o eo=>?_
  refine ea1_2 (tc b o eo) ?_
  intro o' eo' _
  exact ⟨o',eo'⟩
 rcases hT with rfl | hT
 ·exact ⟨k,H',as',e,some T,ts,rfl,e',S.note tc hS hF (fun _ q=>q) (fun _ q=>.inl q) hex,K',ex',ht,ap,w⟩
 ·refine ⟨k,H',as',e,some T,T :: ts,rfl,e',S.note tc hS hF (fun b hb=>?_) (fun b hb=>?_) (fun b hb=>?_),K',ex',fun T' q=>by (replace q:=Option.some.inj q; subst q); exact .head _,fun a ha=>?_,w⟩
  ·refine Or.elim (List.mem_cons.mp hb) (fun q_=>?_) (fun hb=>?_)
   ·subst q_; exact .head _
   ·exact .tail _ (.tail _ hb)
  ·rcases List.mem_cons.mp hb with rfl | hb
   ·exact .inl (.head _)
   ·refine Or.elim (List.mem_cons.mp hb) (fun q_=>?_) (fun hb=>?_)
    ·subst q_; exact .inr hT
    ·exact .inl (.tail _ hb)
  ·rcases List.mem_cons.mp hb with rfl | hb
   ·exact hex _ (.head _)
   ·refine Or.elim (List.mem_cons.mp hb) (fun q_=>?_) (fun hb=>?_)
    ·subst q_; cases ex' with | traced he hc hd hsz v1 v2 hTe hTT=>exact ⟨_,hTT⟩
    ·exact hex _ (.tail _ hb)
  ·rcases List.mem_cons.mp ha with rfl | ha
   ·exact ap _ (.head _)
   ·rcases List.mem_cons.mp ha with rfl | ha
    ·refine ⟨k'.fr hT,fun q=>?_,fun q=>?_,?_⟩
     ·refine ea1_1 (List.getElem?_of_mem q) fun i hi=>?_
      refine ea0_3 (S.objs i _ hi) ?_
      intro _ _ r_3
      refine ea1_2 r_3 ?_
      intro o _ ho
      obtain ⟨ob,e⟩:=ho.here
      replace e:=(hT).symm.trans e; exact nos e
     ·obtain ⟨o,e⟩:=S.xs _ (.tail _ (List.mem_append_right _ q))
      replace e:=(hT).symm.trans e; exact nos e
     ·cases hb:c.base.get? a with
      | none=>rfl
      | some o=>replace hT:=(S.stays a o hb).symm.trans hT; cases hT
    ·exact ap _ (.tail _ ha)
theorem ExcS.uniq {h:HP} {e:Addr} {cls cls':Value} {t t':Option Addr} (x:ExcS h e cls t) (y:ExcS h e cls' t'):t = t':=by
 cases x with
 | fresh a1 a2 a3 a4 a5 a6 =>
  cases y with
  | fresh=>rfl
  | traced b1 b2 b3 b4 b5 =>
   cases a1.symm.trans b1
   cases a3.symm.trans b3
   cases a5.symm.trans b5
 | traced a1 a2 a3 a4 a5 =>
  cases y with
  | fresh b1 b2 b3 b4 b5 =>
   cases a1.symm.trans b1
   cases a3.symm.trans b3
   cases a5.symm.trans b5
  | traced b1 b2 b3 b4 b5 =>
   cases a1.symm.trans b1
   cases a3.symm.trans b3
   cases a5.symm.trans b5
   rfl
theorem ERes.fly {c:Cx} {A:Around} {X:List Addr} {as:Adr} {h:HP} {XX:XE} {x:Value} {s':Shared} {E:Value→Shared→Prop} {fr:Option Addr} {Q:Unit→Shared→Prop} (r:ERes c as X h XX x s') (tr:Trc x s'.heap) (q:∀ s'',ERes c as X h XX x s''→Trc x s''.heap→Q () s''):wpAny c.M A (setFlight x fr) Q E s':=by
 obtain ⟨k,H',as',e,t,ts,rfl,e',S,k',ex,ht,ap,w⟩:=r
 refine ea3_2 tr ?_
 intro e₁ T cls he ex₁
 cases he
 replace ex₁:=ex.uniq ex₁
 obtain rfl:=ex₁
 refine flight_exc ex fun h'' ex' hk=>q _ ?_ ⟨e,T,_,rfl,ex'⟩
 have tc:Touch [T] [] s'.heap h'':=fun b o eb=>by
  by_cases hb:b = T
  ·(replace hb:=Eq.symm hb; subst hb)
   cases ex' with | traced he hc hd hsz v1 v2 hTe hTT=>exact ⟨_,hTT,.inl (.head _)⟩
  ·exact ⟨o,(hk b hb).trans eb,.inr (.inl rfl)⟩
 have hT:T ∈ ts:=ht T rfl
 refine ⟨k,H',as',e,some T,ts,rfl,e',S.note tc (fun b hb=>?_) (fun b hb=>nomatch hb) (fun _ q=>q) (fun _ q=>.inl q) (fun b hb=>?_),fun b o eb hb=>?_,ex',ht,ap,w⟩
 ·cases List.mem_singleton.mp hb
  exact ⟨.tail _ (List.mem_append_left _ hT),(ap T (.tail _ hT)).2.2.2⟩
 ·refine ea1_1 (S.xs b hb) fun o eo=>?_
  refine ea1_2 (tc b o eo) ?_
  intro o' eo' _
  exact ⟨o',eo'⟩
 ·refine ea1_2 (k' b o eb hb) ?_
  intro o₁ e₁ s₁
  have hbT:b ≠ T:=fun q=>by
   subst q
   rcases (ap b (.tail _ hT)).1 with q | q
   ·exact hb q
   ·replace eb:=(q).symm.trans eb; exact nos eb
  exact ⟨o₁,(hk b hbT).trans e₁,s₁⟩
theorem ERes.less {c:Cx} {X Y:List Addr} {as:Adr} {h:HP} {XX:XE} {x:Value} {s':Shared} (r:ERes c as Y h XX x s') (hXY:∀ b ∈ X,b ∈ Y) (hY:∀ b,2 ≤ Y.count b→2 ≤ X.count b ∨ Fr as h b):ERes c as X h XX x s':=by
 obtain ⟨k,H',as',e,t,ts,rfl,e',S,k',ex,ht,ap,w⟩:=r
 have sub:∀ b ∈ e :: (ts ++ X),b ∈ e :: (ts ++ Y):=fm1 (.head _) (app_all (fun b hb=>.tail _ (List.mem_append_left _ hb)) fun b hb=>.tail _ (List.mem_append_right _ (hXY b hb)))
 exact ⟨k,H',as',e,t,ts,rfl,e',⟨S.len,S.stays,S.gens,S.os,fun i a q=>let ⟨h1,h2,o,h3,h4⟩:=S.objs i a q; ⟨h1,fun q=>h2 (sub a q),o,h3,OR.frames (fun b _ _ hb q=>hb (sub b q)) h4⟩,S.inj,fun b hb=>S.xs b (sub b hb)⟩,k'.less hY,ex,ht,fun a ha=>⟨(ap a ha).1,(ap a ha).2.1,fun q=>(ap a ha).2.2.1 (hXY a q),(ap a ha).2.2.2⟩,w⟩
theorem ExcS.keep {h h':HP} {e:Addr} {cls:Value} {t:Option Addr} (x:ExcS h e cls t) (k:∀ b ∈ e :: t.toList,∀ o,h.get? b = some o→h'.get? b = some o):ExcS h' e cls t:=by
 cases x with
 | fresh he hc hd hsz h1 h2=>exact .fresh (k _ (.head _) _ he) hc hd hsz h1 h2
 | traced he hc hd hsz h1 h2 hTe hT hdT hts=>exact .traced (k _ (.head _) _ he) hc hd hsz h1 h2 hTe (k _ (.tail _ (.head _)) _ hT) hdT hts
theorem ERes.pass {α:Type} {c:Cx} {A:Around} {X:List Addr} {as:Adr} {h:HP} {env:Env} {XX:XE} {x:Value} {s':Shared} {what:String} {Q:α→Shared→Prop} {E:Value→Shared→Prop} (r:ERes c as X h XX x s') (tr:Trc x s'.heap) (q:∀ s'',ERes c as X h XX x s''→Trc x s''.heap→E x s''):wpAny c.M A (PySem.passOn what x env:Sem α) Q E s':=by
 unfold PySem.passOn
 refine ea3_2 (id tr) ?_
 intro e T cls q_4 ex
 subst q_4
 cases ex with
 | traced he hc hd hsz v1 v2 hTe hTT =>
  refine wpAny_bind (wpAny_field he hd v1 ?_)
  exact wpAny_bind (r.fly tr fun s'' er tr'=>wpAny_throw (q s'' er tr'))
end Mine
end
noncomputable section
namespace Mine
open PySem PySem.Calls PyProof.Rows
abbrev bmV:List Value:=[.type "ValueError",.type "Exception",.type "BaseException",.type "object"]
noncomputable def xNames:List Str:=["__init__","__getattribute__","__getattr__","__class__"]
inductive XTail (h:HP):List Value→Prop
 | base:XTail h bmV
 | own {A:Addr} {c0:Value} {dd:Option Addr} {cd:ClassData} {sl:Array (Option Value)} {mA:Str→Option Value} {tl:List Value} :
   h.get? A = some { cls:=c0,dict:=dd,data:=.cls cd,slots:=sl }→h.Ns cd.ns mA→(∀ n ∈ xNames,mA n = none)→XTail h tl→XTail h (.ref A :: tl)
theorem XTail.tail {h:HP} {tl:List Value} (T:XTail h tl):OwnTail h bmV tl:=by
 induction T with
 | base=>exact .base
 | own hA hN hq _ ih=>exact .own hA hN (hq _ (.head _)) ih
theorem XTail.keeps {h h':HP} {tl:List Value} (T:XTail h tl) (hk:h.StaysIn h'):XTail h' tl:=by
 induction T with
 | base=>exact .base
 | own hA hN hq _ ih=>exact .own (hk _ _ hA) (hN.keeps hk) hq ih
inductive XC (h:HP) (C:Addr) (bm:List Value):Prop
 | mk {nm q:Str} {N:Addr} {bs:List Value} {hdct:Bool} {sn:List Str} {sub:List Value} {ab:Bool} {col:Option Bool} {dd:Option Addr} {k0 k1 k2 k3 k5:Option Value} {mN:Str→Option Value} :
   h.get? C = some (excClassObj nm q C N bs bm hdct sn sub ab col dd k0 k1 k2 k3 k5 "ValueError.__new__")→h.Ns N mN→(∀ n ∈ xNames,mN n = none)→XTail h bm→XC h C bm
theorem XC.keeps {h h':HP} {C:Addr} {bm:List Value} (x:XC h C bm) (hk:h.StaysIn h'):XC h' C bm:=by
 obtain ⟨hC,hN,hq,T⟩:=x
 exact ⟨hk _ _ hC,hN.keeps hk,hq,T.keeps hk⟩
theorem XTail.has {h:HP} {tl:List Value} {v:Value} (T:XTail h tl) (hv:bmV.contains v = true):tl.contains v = true:=by
 induction T with
 | base=>exact hv
 | own _ _ _ _ ih=>simp only [List.contains_cons,ih,Bool.or_true]
section
variable {M:Model} {A:Around} {E:Value→Shared→Prop} {h:HP} {g:Array GenState} {d:Drawn} {t:Nat} {os:OsState}
theorem XC.base {C:Addr} {bm:List Value} (x:XC h C bm) {v:Value} (hv:bmV.contains v = true):(Value.ref C :: bm).contains v = true:=by
 obtain ⟨hC,hN,hmN,T⟩:=x
 simp only [List.contains_cons,T.has hv,Bool.or_true]
theorem XC.obj {C:Addr} {bm:List Value} (x:XC h C bm):∃ o,h.get? C = some o∧o.cls = .type "type"∧∃ cd,o.data = .cls cd:=by
 obtain ⟨hC,hN,hmN,T⟩:=x
 exact ⟨_,hC,rfl,_,rfl⟩
theorem match_x {e C D:Addr} {bm bm':List Value} {oe:Obj} {Q:Bool→Shared→Prop} (x:XC h C bm) (y:XC h D bm') (he:h.get? e = some oe) (hcls:oe.cls = .ref C) (hs:(Value.ref C :: bm).contains (.ref D) = true) (hq:Q true ⟨h,g,d,t,os⟩) :
  wpAny M A (excMatches (.ref e) (.ref D)) Q E ⟨h,g,d,t,os⟩:=by
 have hcB:=y.base (v:=.type "BaseException") (by decide)
 obtain ⟨hC,hN,hmN,T⟩:=x
 obtain ⟨hD,hN',hmN',T'⟩:=y
 have f:=tc_notTuple
 unfold excMatches
 repeat (first | (with_reducible refine wpAny_loadPart_at he ?_; rw [hcls]) | with_reducible refine wpAny_loadPart_at hD ?_ | (with_reducible refine wpAny_isSubtype_exc hD ?_; rw [hcB]) | (with_reducible refine wpAny_isSubtype_exc hC ?_; rw [hs]) | wp_step)
 exact hq
end
section
variable {prog:Program} {w:World} {A:Around} {E:Value→Shared→Prop} {h:HP} {g:Array GenState} {d:Drawn} {t:Nat} {os:OsState} {a C D:Addr} {o:Obj} {bm bm':List Value}
end
section
variable {prog:Program} {w:World} {A:Around} {E:Value→Shared→Prop} {s:Shared} {a C D:Addr} {o:Obj} {bm bm':List Value} {Q:Value→Shared→Prop}
end
end Mine
end
noncomputable section
namespace Mine
open PySem PySem.Calls PyProof.Rows
section
variable {c:Cx} {A:Around} {E:Value→Shared→Prop} {s:Shared} {as:Adr} {X:List Addr} {H H':AH} {Q:QE}
theorem VRs.len_arr {vs:List V} {items:Array Value} {h:HP} (r:VRs c as X h vs items.toList):items.size = vs.length:=by
 have:=r.length
 simp only [Array.length_toList] at this
 exact this.symm
inductive FreshL (c:Cx) (as:Adr) (X:List Addr) (s:Shared) (vs:List V) (x:Value) (s':Shared):Prop
 | mk (a:Addr) (items:Array Value):x = .ref a→s.heap.get? a = none→c.base.get? a = none→Grown s.heap s'.heap→s'.gens = s.gens→s'.os = s.os→s'.heap.PlainList a items→VRs c as X s.heap vs items.toList→vs.length ≤ bnd→FreshL c as X s vs x s'
theorem SR.not_as (S:SR c as X H s) {a:Addr} (hn:s.heap.get? a = none):a ∉ as:=fun q=>by
 obtain ⟨i,hi⟩:=List.getElem?_of_mem q
 refine ea0_3 (S.objs i _ hi) ?_
 intro _ _ r_3
 refine ea1_2 r_3 ?_
 intro o _ ho
 obtain ⟨ob,e⟩:=OR.here ho
 replace e:=(hn).symm.trans e; exact nos e
theorem SR.not_x (S:SR c as X H s) {a:Addr} (hn:s.heap.get? a = none):a ∉ X:=fun q=>by
 refine ea1_1 (S.xs _ q) fun o e=>?_
 replace e:=(hn).symm.trans e; exact nos e
theorem SR.base_none (S:SR c as X H s) {a:Addr} (hn:s.heap.get? a = none):c.base.get? a = none:=by
 cases h:c.base.get? a with
 | none=>rfl
 | some o=>replace hn:=(S.stays a o h).symm.trans hn; cases hn
theorem get_fresh (h:HP):h.get? h.objs.size = none:=by
 cases e:h.get? h.objs.size with
 | none=>rfl
 | some o=>exact absurd (Heap.lt_size e) (Nat.lt_irrefl _)
theorem FreshL.frozen {vs:List V} {x:Value} {s':Shared} (S:SR c as X H s) (f:FreshL c as X s vs x s') (q:Q (.lst vs) H):Res c as X s.heap Q x s':=by
 obtain ⟨a,items,rfl,hn,hb,g,hg,hos,⟨n,hp⟩,r,hl⟩:=f
 exact Res.grow S g hg hos (.lst (S.not_as hn) (S.not_x hn) ⟨n,hp⟩ (r.grow g) hl) q
theorem ext_snoc (as:Adr) (h:HP) (a:Addr) (hn:h.get? a = none):Ext as h (as ++ [a]) :=
 ⟨fun _ _ e=>app_get e,app_all (fun _ q=>.inl q) (all1 (.inr hn))⟩
theorem OR.keepE {as':Adr} {h h':HP} {a:Addr} {o:O} (k:VK as X h h') (x:Ext as h as') (hnd:∀ (i:Nat) (b:Addr),as[i]? = some b→as'[i]? = some b)
  (ha:∀ ob,h.get? a = some ob→h'.get? a = some ob):OR c as X h a o→OR c as' X h' a o:=by
 intro z
 cases o with
 | list vs=>obtain ⟨hb,items,⟨n,e⟩,r⟩:=z; exact ⟨hb,items,⟨n,ha _ e⟩,r.keepX k x⟩
 | dict ks vs=>obtain ⟨hb,hsm,cs,hd,hl,r⟩:=z; exact ⟨hb,hsm,cs,DictOf.same hd ha,hl,r.keepX k x⟩
 | inst k d=>obtain ⟨dx,ob,e1,e2,r1,r2,r3⟩:=z; exact ⟨dx,ob,hnd _ _ e1,ha _ e2,r1,r2,r3⟩
 | ns ks vs=>obtain ⟨hb,cs,mA,hn,hl,r,hm⟩:=z; exact ⟨hb,cs,mA,hn.at ha,hl,r.keepX k x,hm⟩
theorem SR.alloc {s':Shared} {a:Addr} {o:O} (S:SR c as X H s) (hn:s.heap.get? a = none) (g:Grown s.heap s'.heap) (hg:s'.gens = s.gens) (hos:s'.os = s.os) (ho:OR c (as ++ [a]) X s'.heap a o) :
  SR c (as ++ [a]) X (H ++ [o]) s' where
 len:=by simp only [List.length_append,List.length_append,S.len]; rfl
 stays:=fun b o e=>g b o (S.stays b o e)
 gens:=hg.trans S.gens
 os:=hos.trans S.os
 objs:=fun i b hi=>(snoc_get hi).elim (fun hi=>ea0_3 (S.objs i b hi) fun h1 h2 r=>ea1_2 r fun o' h3 h4=>⟨h1,h2,o',app_get h3,h4.keepE (g.kept as X).x (ext_snoc as _ a hn) (fun _ _ e=>app_get e) fun ob e=>g b ob e⟩) fun q=>by
  obtain ⟨rfl,rfl⟩:=q
  exact ⟨S.base_none hn,S.not_x hn,o,by rw [S.len]; exact List.getElem?_concat_length,ho⟩
 inj:=fun i j b hi hj=>(snoc_get hi).elim (fun h1=>(snoc_get hj).elim (S.inj i j b h1) fun h2=>absurd (h2.2 ▸ List.mem_of_getElem? h1) (S.not_as hn)) fun h1=>(snoc_get hj).elim (fun h2=>absurd (h1.2 ▸ List.mem_of_getElem? h2) (S.not_as hn)) fun h2=>h1.1.trans h2.1.symm
 xs:=fun b hb=>(S.xs b hb).imp fun o e=>g b o e
theorem FreshL.thawed {vs:List V} {x:Value} {s':Shared} (S:SR c as X H s) (f:FreshL c as X s vs x s') (q:Q (.ref H.length) (H ++ [.list vs])):Res c as X s.heap Q x s':=by
 obtain ⟨a,items,rfl,hn,hb,g,hg,hos,hp,r,hl⟩:=f
 have E:=ext_snoc as s.heap a hn
 refine ⟨.ref H.length,_,as ++ [a],E,S.alloc (o:=.list vs) hn g hg hos ⟨hl,items,hp,r.keep (g.kept as X) E⟩,g.kept as X,.ref ?_,q⟩
 rw [← S.len]; simp
theorem fresh_either {mu:Bool} {p:Prim} {us ws:List V} {t:Sem Value} (S:SR c as X H s) (hp:prim c.P p us H = some (.lst ws,H)) (hw:∀ R:Value→Shared→Prop,(∀ x s',FreshL c as X s ws x s'→R x s')→wpAny c.M A t R E s)
  (q:okE (primM c.P mu p us H) Q):wpAny c.M A t (Res c as X s.heap Q) E s:=by
 cases mu with
 | false =>
  simp only [primM,hp,okE,Bool.false_eq_true,if_false] at q
  exact hw _ fun x s' f=>f.frozen S q
 | true =>
  unfold primM at q
  simp only [if_true] at q
  split at q
  ·simp only [hp,Option.bind_some,thaw,okE] at q
   exact hw _ fun x s' f=>f.thawed S q
  ·exact q.elim
theorem lenV_is {v:V} {n:Nat} (e:lenV H v = some n):(∃ s,v = .str s∧n = s.length) ∨ (∃ vs,v = .tup vs∧n = vs.length) ∨ (∃ vs,view H v = some vs∧n = vs.length) ∨ ∃ d,dview H v = some d∧n = d.1.length:=by
 refine Is.of (R:=fun n=>(∃ s,v = .str s∧n = s.length) ∨ (∃ vs,v = .tup vs∧n = vs.length) ∨ (∃ vs,view H v = some vs∧n = vs.length) ∨ ∃ d,dview H v = some d∧n = d.1.length) ?_ e
 have h:∀ {o:Option (List V)},o = view H v→Is (lenO ((dview H v).map fun d=>d.1.length) o) fun n=>(∃ s,v = .str s∧n = s.length) ∨ (∃ vs,v = .tup vs∧n = vs.length) ∨ (∃ vs,view H v = some vs∧n = vs.length) ∨ ∃ d,dview H v = some d∧n = d.1.length:=fun {o} e=>by
  cases o with
  | some vs=>exact .inr (.inr (.inl ⟨vs,e.symm,rfl⟩))
  | none=>exact Is.self.map fun d h1=>.inr (.inr (.inr ⟨d,h1,rfl⟩))
 cases v with
 | str s=>exact .inl ⟨s,rfl,rfl⟩
 | tup vs=>exact .inr (.inl ⟨vs,rfl,rfl⟩)
 | _=>exact h rfl
theorem bnd_le {n:Nat} (h:n ≤ bnd):(n:Int) < 2 ^ 63:=Int.lt_trans (Int.lt_of_le_of_lt (Int.ofNat_le.mpr h) bnd_lt) (by decide)
theorem sz_bnd {n:Nat} (h:n ≤ sizeOf'):n ≤ bnd:=Nat.le_trans h (Nat.le_trans (Nat.le_add_right _ 5) sizeOf'_bnd)
theorem p_len {v r:V} {cv:Value} (S:SR c as X H s) (hv:VR c as X s.heap v cv) (e:pLen [v] H = some (r,H')) (q:Q r H'):wpAny c.M A (call (.builtin "len") [cv]) (Res c as X s.heap Q) E s:=by
 refine ea1_2 (map_is e) ?_
 intro n e1 e2
 cases e2
 have F:=fun t tk=>Res.now (tk:=tk) S (VR.int n t) q
 rcases lenV_is e1 with ⟨s,rfl,rfl⟩ | ⟨vs,rfl,rfl⟩ | ⟨vs,hvs,rfl⟩ | ⟨d,hd,rfl⟩
 ·cases hv.inv with
  | str _ hs =>
   refine len_str ?_ ?_
   ·rw [toS_length]; exact Int.not_le.mpr (bnd_le hs)
   ·rw [toS_length]; exact F _ _
 ·cases hv.inv with
  | tup h1 h2 h3 r hs =>
   have hl:=r.len_arr
   refine P.len_tuple h3 ?_ ?_
   ·exact (hl) ▸ Int.not_le.mpr (bnd_le hs)
   ·exact (hl) ▸ F _ _
 ·replace S:=view_at S hv hvs
  obtain ⟨a,items,rfl,hp,r,hs⟩:=S
  have hl:=r.len_arr
  refine call_len_list hp.isList ?_ ?_
  ·exact (hl) ▸ bnd_le hs
  ·exact (hl) ▸ F _ _
 ·replace S:=dview_at S hv hd
  obtain ⟨a,cs,rfl,hsm,hp,hl,r,hs⟩:=S
  have hlz:((d.1.map toS).zip cs).length = d.1.length:=by simp only [List.length_zip,List.length_map,← hl,Nat.min_self]
  refine call_len_dict (knd:=c.kd) hsm hp ?_ ?_
  ·simp only [hlz,hl,← r.length]; exact bnd_le hs
  ·rw [hlz]; exact F _ _
noncomputable def tyName:Ty→String
 | .int=>"int" | .bool=>"bool" | .str=>"str" | .list=>"list" | .tuple=>"tuple"
theorem isi_int {t:Ty} {R:Value→Shared→Prop} {i:Int} {u:Tok} (F:∀ tk,R (.bool (t == .int)) { s with toks:=tk }):wpAny c.M A (call (.builtin "isinstance") [.int i u,.type (tyName t)]) R E s:=by
 cases t <;> first | exact IsiPair.int_int (F _) | exact IsiPair.int_bool (F _) | exact IsiPair.int_str (F _) | exact IsiPair.int_list (F _) | exact IsiPair.int_tuple (F _)
theorem isi_bool {t:Ty} {R:Value→Shared→Prop} {b:Bool} (F:∀ tk,R (.bool (t == .int || t == .bool)) { s with toks:=tk }):wpAny c.M A (call (.builtin "isinstance") [.bool b,.type (tyName t)]) R E s:=by
 cases t <;> first | exact IsiPair.bool_int (F _) | exact IsiPair.bool_bool (F _) | exact IsiPair.bool_str (F _) | exact IsiPair.bool_list (F _) | exact IsiPair.bool_tuple (F _)
theorem isi_str {t:Ty} {R:Value→Shared→Prop} {x:Str} {u:Tok} (F:∀ tk,R (.bool (t == .str)) { s with toks:=tk }):wpAny c.M A (call (.builtin "isinstance") [.str x u,.type (tyName t)]) R E s:=by
 cases t <;> first | exact IsiPair.str_int (F _) | exact IsiPair.str_bool (F _) | exact IsiPair.str_str (F _) | exact IsiPair.str_list (F _) | exact IsiPair.str_tuple (F _)
theorem isi_tuple {t:Ty} {R:Value→Shared→Prop} {a:Addr} {its:Array Value} {n:Nat} (ho:s.heap.get? a = some { cls:=.type "tuple",data:=.seq its n }) (F:∀ tk,R (.bool (t == .tuple)) { s with toks:=tk }):wpAny c.M A (call (.builtin "isinstance") [.ref a,.type (tyName t)]) R E s:=by
 cases t <;> first | exact IsiPair.tuple_int ho rfl (F _) | exact IsiPair.tuple_bool ho rfl (F _) | exact IsiPair.tuple_str ho rfl (F _) | exact IsiPair.tuple_list ho rfl (F _) | exact IsiPair.tuple_tuple ho rfl (F _)
theorem isi_list {t:Ty} {R:Value→Shared→Prop} {a:Addr} {its:Array Value} {n:Nat} (ho:s.heap.get? a = some { cls:=.type "list",data:=.seq its n }) (F:∀ tk,R (.bool (t == .list)) { s with toks:=tk }):wpAny c.M A (call (.builtin "isinstance") [.ref a,.type (tyName t)]) R E s:=by
 cases t <;> first | exact IsiPair.list_int ho rfl (F _) | exact IsiPair.list_bool ho rfl (F _) | exact IsiPair.list_str ho rfl (F _) | exact IsiPair.list_list ho rfl (F _) | exact IsiPair.list_tuple ho rfl (F _)
theorem isi_NoneType {t:Ty} {R:Value→Shared→Prop} (F:∀ tk,R (.bool false) { s with toks:=tk }):wpAny c.M A (call (.builtin "isinstance") [.none,.type (tyName t)]) R E s:=by
 cases t <;> first | exact IsiPair.NoneType_int (F _) | exact IsiPair.NoneType_bool (F _) | exact IsiPair.NoneType_str (F _) | exact IsiPair.NoneType_list (F _) | exact IsiPair.NoneType_tuple (F _)
theorem isi_dict {t:Ty} {R:Value→Shared→Prop} {a:Addr} {o:Obj} (ho:s.heap.get? a = some o) (hx:o.cls = .type "dict") (F:∀ tk,R (.bool false) { s with toks:=tk }):wpAny c.M A (call (.builtin "isinstance") [.ref a,.type (tyName t)]) R E s:=by
 cases t <;> first | exact IsiPair.dict_int ho hx (F _) | exact IsiPair.dict_bool ho hx (F _) | exact IsiPair.dict_str ho hx (F _) | exact IsiPair.dict_list ho hx (F _) | exact IsiPair.dict_tuple ho hx (F _)
inductive RefAt (c:Cx) (as:Adr) (X:List Addr) (h:HP) (i:Nat) (o:O):Value→Prop
 | mk (a:Addr):as[i]? = some a→OR c as X h a o→RefAt c as X h i o (.ref a)
theorem ref_at {i:Nat} {x:Value} {o:O} (S:SR c as X H s) (hv:VR c as X s.heap (.ref i) x) (ho:H[i]? = some o):RefAt c as X s.heap i o x:=by
 cases hv.inv with
 | ref hi=>exact ea1_2 (S.objs _ _ hi).2.2 fun o' h3 h4=>.mk _ hi (Option.some.inj (h3.symm.trans ho) ▸ h4)
theorem isinst_i {v:V} {t:Ty} {cv:Value} {R:Value→Shared→Prop} (S:SR c as X H s) (hv:VR c as X s.heap v cv):Is (isinst H v t) fun b=>(∀ tk,R (.bool b) { s with toks:=tk })→wpAny c.M A (call (.builtin "isinstance") [cv,.type (tyName t)]) R E s:=by
 cases v with
 | int i=>cases hv.inv; exact isi_int
 | bool i=>cases hv.inv; exact isi_bool
 | str i=>cases hv.inv; exact isi_str
 | none=>cases hv.inv; exact isi_NoneType
 | tup vs=>cases hv.inv with | tup _ _ ho _ _=>exact isi_tuple ho
 | lst vs=>cases hv.inv with | lst _ _ hp _ _=>exact fun F=>hp.elim fun n ho=>isi_list ho F
 | dct ks vs=>cases hv.inv with | dct _ _ _ hp _ _ _=>exact fun F=>ea3_3 hp fun o es ep ho hx _=>isi_dict ho hx.1 F
 | ref i =>
  refine Is.self.bind fun o ho=>?_
  cases ref_at S hv ho with
  | mk a hi hr =>
   cases o with
   | list vs=>exact fun F=>hr.2.elim fun items q=>q.1.elim fun n hg=>isi_list hg F
   | dict ks vs=>exact fun F=>hr.2.2.elim fun cs q=>ea3_3 q.1 fun o es ep ho hx _=>isi_dict ho hx.1 F
   | _=>exact trivial
 | rng=>exact trivial
theorem p_isinst {v r:V} {t:Ty} {cv:Value} (S:SR c as X H s) (hv:VR c as X s.heap v cv) (e:pIsinst t [v] H = some (r,H')) (q:Q r H') :
  wpAny c.M A (call (.builtin "isinstance") [cv,.type (tyName t)]) (Res c as X s.heap Q) E s :=
 ea1_2 (map_is e) fun b e1 e2=>(isinst_i S hv).of e1 fun tk=>by
  obtain ⟨rfl,rfl⟩:=Prod.mk.inj e2
  exact Res.now (tk:=tk) S (VR.bool b) q
theorem p_range1 {v r:V} {cv:Value} (S:SR c as X H s) (hv:VR c as X s.heap v cv) (e:pRange1 [v] H = some (r,H')) (q:Q r H'):wpAny c.M A (call (.type "range") [cv]) (Res c as X s.heap Q) E s:=by
 replace e:=bind_is e
 refine ea1_2 e ?_
 try clear e
 intro b h1 e
 replace h1:=V.num_is h1
 subst h1
 replace e:=ite_is e
 obtain ⟨hsm,e⟩:=e
 cases e
 cases hv.inv
 refine call_range_1 ?_
 exact Res.grow (s':={ s with heap:=_,toks:=_ }) S (.push _ _) rfl rfl (.rng (fresh_out S) (fresh_x S) (IsRange.new ..) (by decide) hsm) q
theorem p_range2 {v w r:V} {cv cw:Value} (S:SR c as X H s) (hv:VR c as X s.heap v cv) (hw:VR c as X s.heap w cw) (e:pRange2 [v,w] H = some (r,H')) (q:Q r H'):wpAny c.M A (call (.type "range") [cv,cw]) (Res c as X s.heap Q) E s:=by
 replace e:=bind_is e
 refine ea1_2 e ?_
 try clear e
 intro a h1 e
 replace e:=bind_is e
 refine ea1_2 e ?_
 try clear e
 intro b h2 e
 try clear b; try clear a
 replace h1:=V.num_is h1
 subst h1
 try clear h1
 replace h2:=V.num_is h2
 subst h2
 replace e:=ite_is e
 obtain ⟨hsm,e⟩:=e
 have hsm:=Bool.and_eq_true_iff.mp hsm
 try clear h2
 cases e
 try clear e
 cases hv.inv
 try clear hv
 cases hw.inv
 refine call_range_2 ?_
 exact Res.grow (s':={ s with heap:=_,toks:=_ }) S (.push _ _) rfl rfl (.rng (fresh_out S) (fresh_x S) (IsRange.new ..) hsm.1 hsm.2) q
theorem rangeSize_eq (a b:Int):Builtin.Range.rangeSize a b 1 = ((b - a).toNat:Nat):=by
 unfold Builtin.Range.rangeSize
 simp only [show (1:Int) > 0 from by decide,if_true]
 split <;> lia
theorem vrs_range {h:HP} {acc:Array Value} {a:Int} {n:Nat} (hi:ItemsOf (fun i v=>∃ t,v = Value.int (a + i * 1) t) acc n):VRs c as X h ((List.range n).map fun (i:Nat)=>V.int (a + i)) acc.toList:=by
 refine ea0_2 (hi) fun h1 h2=>?_
 subst h1
 have key:∀ (l:List Value) (k:Nat),(∀ j v,l[j]? = some v→∃ t,v = Value.int (a + ((k + j:Nat):Int)) t)→VRs c as X h ((List.range' k l.length).map fun (i:Nat)=>V.int (a + i)) l:=by
  intro l
  induction l with
  | nil=>intro k _; exact .nil
  | cons x l ih =>
   intro k hx
   obtain ⟨t,e⟩:=hx 0 x rfl
   subst e
   refine .cons (by exact VR.int _ _) (ih (k + 1) fun j v hv=>?_)
   obtain ⟨t,e⟩:=hx (j + 1) v (by exact hv)
   exact ⟨t,by rw [e]; congr 2; omega⟩
 have:=key acc.toList 0 fun j v hv=>by
  obtain ⟨t,e⟩:=h2 j v (by simpa using hv)
  exact ⟨t,by rw [e]; simp⟩
 rw [List.range_eq_range']
 simpa using this
theorem range_small {a b:Int} (ha:smallInt a = true) (hb:smallInt b = true):Builtin.Range.small a b 1 = true:=by
 simp only [smallInt,decide_eq_true_eq] at ha hb
 have f:∀ i:Int,-10 ^ 14 ≤ i→i ≤ 10 ^ 14→Builtin.Range.rangeFitsLong i = true:=fun i h1 h2=>by
  simp only [Builtin.Range.rangeFitsLong,Bool.and_eq_true,decide_eq_true_eq]; lia
 have hs:=rangeSize_eq a b
 unfold Builtin.Range.small
 rw [f a (by lia) (by lia),f b (by lia) (by lia),f 1 (by lia) (by lia),f _ (by rw [hs]; lia) (by rw [hs]; lia)]
 simp only [show (1:Int) > 0 from by decide,if_true,f (b + (1 - 1)) (by lia) (by lia),Bool.or_true,Bool.and_true]
theorem rngL_length (a b:Int):(rngL a b).length = (b - a).toNat:=by simp [rngL]
theorem freshL_G {h':HP} {tk n:Nat} {items:Array Value} {vs:List V} (S:SR c as X H s) (g:Grown s.heap h') (ho:h'.get? s.heap.objs.size = some { cls:=.type "list",data:=.seq items n }) (hv:VRs c as X s.heap vs items.toList) (hb:vs.length ≤ bnd) :
  FreshL c as X s vs (.ref s.heap.objs.size) { s with heap:=h',toks:=tk } :=
 ⟨_,items,rfl,get_fresh _,S.base_none (get_fresh _),g,rfl,rfl,⟨n,ho⟩,hv,hb⟩
theorem listV_is {v:V} {ws:List V} (e:listV H v = some (.lst ws)):(∃ a b,v = .rng a b∧(b - a).toNat ≤ sizeOf'∧ws = rngL a b) ∨ (v = .tup ws∧ws.length ≤ sizeOf') ∨ view H v = some ws∧ws.length ≤ sizeOf':=by
 have h:((view H v).bind fun vs=>if vs.length ≤ sizeOf' then some (V.lst vs) else none) = some (.lst ws)→view H v = some ws∧ws.length ≤ sizeOf':=fun e=>by
  replace e:=bind_is e
  refine ea1_2 e ?_
  intro vs h1 e
  cases (ite_is e).2
  exact ⟨h1,(ite_is e).1⟩
 cases v with
 | rng a b=>cases (ite_is e).2; exact .inl ⟨a,b,rfl,(ite_is e).1,rfl⟩
 | tup vs=>cases (ite_is e).2; exact .inr (.inl ⟨rfl,(ite_is e).1⟩)
 | _=>exact .inr (.inr (h e))
theorem p_list {v:V} {ws:List V} {cv:Value} {R:Value→Shared→Prop} (hh:A.handled = none) (S:SR c as X H s) (hv:VR c as X s.heap v cv) (e:pList [v] H = some (.lst ws,H')) (hR:∀ x s',FreshL c as X s ws x s'→R x s') :
  wpAny c.M A (call (.type "list") [cv]) R E s:=by
 have hz:=sizeOf'_bnd
 have hz2:=sizeOf'_le
 refine ea1_2 (map_is e) ?_
 intro r e1 e2
 cases e2
 rcases listV_is e1 with ⟨a,b,rfl,hb,rfl⟩ | ⟨rfl,hb⟩ | ⟨hvs,hb⟩
 ·cases hv.inv with
  | rng h1 h2 h3 h4 h5 =>
   refine call_list_range hh h3 ?_ (rangeSize_eq a b) ?_ fun h' tk acc c' g ho hi=>?_
   ·exact range_small h4 h5
   ·rw [sizeLine_eq] at hz2; lia
   ·exact hR _ _ (freshL_G S g ho (vrs_range hi) (by rw [rngL_length]; exact sz_bnd hb))
 ·cases hv.inv with
  | tup h1 h2 h3 r hs =>
   refine call_list_seq _ (.inr rfl) h3 rfl rfl (fun h' c' g ho=>?_) (by rw [(r.len_arr)]; exact Nat.le_trans hb hz2)
   exact hR _ _ (freshL_G (tk:=s.toks) S g ho r hs)
 ·replace hv:=view_at S hv hvs
  obtain ⟨a,items,rfl,⟨n,hp⟩,r,hs⟩:=hv
  refine call_list_seq _ (.inl rfl) hp rfl rfl (fun h' c' g ho=>?_) (by rw [(r.len_arr)]; exact Nat.le_trans hb hz2)
  exact hR _ _ (freshL_G (tk:=s.toks) S g ho r hs)
theorem p_intb {r:V} {cv:Value} {b:Bool} (S:SR c as X H s) (hv:VR c as X s.heap (.bool b) cv) (e:pInt [.bool b] H = some (r,H')) (q:Q r H'):wpAny c.M A (call (.type "int") [cv]) (Res c as X s.heap Q) E s:=by
 ((refine ea0_2 (pinj e) fun e_0 e_1=>?_; subst e_0; subst e_1); clear e)
 cases hv.inv
 exact call_int_bool (Res.now S (.int _ _) q)
theorem bools_some:∀ {vs:List V} {bs:List Bool},bools? vs = some bs→vs = bs.map V.bool
 | [],bs,h=>by (replace h:=Option.some.inj h; subst h); rfl
 | v :: vs,bs,h=>by
  cases v with
  | bool b =>
   refine ea1_2 (Option.map_eq_some_iff.mp h) ?_
   intro r h1 q_3
   subst q_3
   rw [bools_some h1]; rfl
  | _=>exact nos h
theorem p_all {v r:V} {cv:Value} (hh:A.handled = none) (S:SR c as X H s) (hv:VR c as X s.heap v cv) (e:pAll [v] H = some (r,H')) (q:Q r H'):wpAny c.M A (call (.builtin "all") [cv]) (Res c as X s.heap Q) E s:=by
 refine ea1_2 (Option.map_eq_some_iff.mp e) ?_
 intro bs h1 h2
 cases h2
 refine ea1_2 (Option.bind_eq_some_iff.mp h1) ?_
 intro vs h3 h4
 replace hv:=view_at S hv h3
 obtain ⟨a,items,rfl,hp,r,hs⟩:=hv
 have hvs:=bools_some h4
 subst hvs
 have hl:=r.len_arr
 simp only [List.length_map] at hl
 have hin:some a ≠ some s.heap.objs.size:=fun q=>by
  obtain ⟨n,e⟩:=hp
  (replace q:=Option.some.inj q; subst q)
  exact absurd (Heap.lt_size e) (Nat.lt_irrefl _)
 refine call_all_walk (wpAny_pyIter_list hp.isList ?_)
 refine ⟨_,_,_,_,_,_,fun i=>(bs[i]?).getD true,rfl,Walks.list (A:=A.in1) hh s.heap.objs.size a (fun q=>hin (congrArg some q)) items,⟨⟨_,Heap.get?_push_size _ rfl,rfl,rfl⟩,let ⟨o,e,r⟩:=hp.isList; ⟨o,Heap.get?_push_of_some _ e,r⟩⟩,?_,fun h' tk hk=>?_⟩
 ·intro i v s' Q' E' hi hq
  rw [← Array.getElem?_toList] at hi
  refine ea1_2 (r.get' hi) ?_
  intro w hw hvw
  rw [List.getElem?_map,Option.map_eq_some_iff] at hw
  refine ea1_2 hw ?_
  intro b hb q_3
  subst q_3
  cases hvw.inv
  dsimp only at hq
  replace hq:=(hb) ▸ hq
  exact wpAny_truthy_bool hq
 ·have g:Grown s.heap h':=fun b o e=>hk b o (fun q=>by replace q:=in1 q; subst q; exact absurd (Heap.lt_size e) (Nat.lt_irrefl _)) (Heap.get?_push_of_some _ e)
  have hr:(List.range items.size).all (fun i=>(bs[i]?).getD true) = bs.all id:=by
   rw [hl,Bool.eq_iff_iff,List.all_eq_true,List.all_eq_true]
   constructor
   ·intro z b hb
    refine ea1_1 (List.getElem?_of_mem hb) fun i hi=>?_
    have:=z i (List.mem_range.mpr (List.getElem?_eq_some_iff.mp hi).1)
    rw [hi] at this
    exact this
   ·intro z i _
    refine optE (o:=bs[i]?) (fun hi=>?_) (fun b hi=>?_)
    ·rw [hi]; rfl
    ·exact (hi) ▸ z b (List.mem_of_getElem? hi)
  rw [hr]
  exact Res.grow (s':={ s with heap:=h',toks:=tk }) S g rfl rfl (.bool _) q
theorem min_vr {a b:Int} {t u:Tok} {h:HP}:VR c as X h (.int (min a b)) (if b < a then .int b u else .int a t):=by
 split
 ·rw [show min a b = b by omega]; exact .int _ _
 ·rw [show min a b = a by omega]; exact .int _ _
theorem p_min {v w r:V} {cv cw:Value} (hh:A.handled = none) (S:SR c as X H s) (hv:VR c as X s.heap v cv) (hw:VR c as X s.heap w cw) (e:pMin [v,w] H = some (r,H')) (q:Q r H'):wpAny c.M A (call (.builtin "min") [cv,cw]) (Res c as X s.heap Q) E s:=by
 replace e:=bind_is e
 refine ea1_2 e ?_
 try clear e
 intro a h1 e
 replace e:=map_is e
 refine ea1_2 e ?_
 try clear e
 intro b h2 e
 try clear b; try clear a
 replace h1:=V.num_is h1
 subst h1
 try clear h1
 replace h2:=V.num_is h2
 subst h2
 try clear h2
 replace e:=e; cases hv.inv; cases hw.inv
 cases e
 refine min_two_ints hh fun h' tk g=>?_
 refine Res.grow (s':={ s with heap:=h',toks:=tk }) S g rfl rfl ?_ q
 exact min_vr
theorem idx_seq {n:Nat} {i:Int} {j:Nat} (h:idx n i = some j):seqIndex? i n = some j∧j < n∧(0 ≤ i→(i:Int) = j)∧(i < 0→i + n = j):=by
 by_cases h0:0 ≤ i
 ·have e:(if 0 ≤ i then (if i < n then some i.toNat else none) else (if 0 ≤ i + n then some (i + n).toNat else none)) = some j:=h
  rw [if_pos h0] at e
  replace e:=ite_is e
  obtain ⟨h1,rfl⟩:=e
  exact ⟨PySem.seqIndex_of h0 h1,by omega,fun _=>by omega,fun q=>absurd h0 (Int.not_le.mpr q)⟩
 ·have e:(if 0 ≤ i then (if i < n then some i.toNat else none) else (if 0 ≤ i + n then some (i + n).toNat else none)) = some j:=h
  rw [if_neg h0] at e
  replace e:=ite_is e
  obtain ⟨h1,rfl⟩:=e
  exact ⟨PySem.seqIndex_neg (by lia) (by lia),by omega,fun q=>absurd q h0,fun _=>by omega⟩
theorem sub_plain {slice:Expr} (h:∀ a b p,slice ≠ .Slice a b none p) (o i:Value):subscripted slice false o i = operate [o,i] (getItem o i):=by
 cases slice with
 | Slice a b st p =>
  cases st with
  | none=>exact absurd rfl (h a b p)
  | some e=>rfl
 | _=>rfl
theorem pi_str {t:List Char} {i:Int} {r:V} {cv:Value} {u:Tok} {value slice:Expr} (hsl:∀ a b p,slice ≠ .Slice a b none p) (S:SR c as X H s) (hv:VR c as X s.heap (.str t) cv) (e:itemI H (.str t) i = some r) (q:Q r H) :
  wpAny c.M A (subscriptTail value slice cv (.int i u)) (Res c as X s.heap Q) E s:=by
 have hb:=bnd_lt
 refine ea1_2 (Option.bind_eq_some_iff.mp e) ?_
 intro j h1 h2
 replace h2:=Option.map_eq_some_iff.mp h2
 refine ea1_2 h2 ?_
 intro ch h3 q_3
 subst q_3
 cases hv.inv with
 | str t hs =>
  refine ea0_4 (idx_seq h1) ?_
  intro g1 g2 g3 g4
  refine tail_any (typeIs_str _ _ _) slot_str_getitem.lookup (getItem_str ?_ (c:=ch.toNat) ?_ ?_) (sub_plain hsl _ _)
  ·skip; lia
  ·simp only [toS_length,g1]; simp [toS,h3]
  ·exact Res.now S (.str [ch] _ (by simp [bnd])) q
theorem pi_tup {vs:List V} {i:Int} {r:V} {cv:Value} {u:Tok} {value slice:Expr} (hsl:∀ a b p,slice ≠ .Slice a b none p) (S:SR c as X H s) (hv:VR c as X s.heap (.tup vs) cv) (e:itemI H (.tup vs) i = some r) (q:Q r H) :
  wpAny c.M A (subscriptTail value slice cv (.int i u)) (Res c as X s.heap Q) E s:=by
 have hb:=bnd_lt
 refine ea1_2 (Option.bind_eq_some_iff.mp e) ?_
 intro j h1 h3
 cases hv.inv with
 | tup k1 k2 k3 rr hs =>
  refine ea0_4 (idx_seq h1) ?_
  intro g1 g2 g3 g4
  refine ea1_2 (rr.get h3) ?_
  intro y e1 e2
  refine tail_any (T:="tuple") ⟨_,k3,rfl⟩ slot_tuple_getitem.lookup (P.getItem_tuple k3 (by lia) (by lia) (by exact (congrArg _ ((rr.len_arr))).trans (g1)) (by simpa using e1) ?_) (sub_plain hsl _ _)
  exact Res.now (tk:=s.toks) S e2 q
theorem pi_view {v:V} {i:Int} {r:V} {cv:Value} {u:Tok} {value slice:Expr} (hsl:∀ a b p,slice ≠ .Slice a b none p) (S:SR c as X H s) (hv:VR c as X s.heap v cv) (e:((view H v).bind fun vs=>(idx vs.length i).bind fun j=>vs[j]?) = some r) (q:Q r H) :
  wpAny c.M A (subscriptTail value slice cv (.int i u)) (Res c as X s.heap Q) E s:=by
 have hb:=bnd_lt
 replace e:=Option.bind_eq_some_iff.mp e
 refine ea1_2 e ?_
 intro vs hvs e
 refine ea1_2 (Option.bind_eq_some_iff.mp e) ?_
 intro j h1 h3
 replace hv:=view_at S hv hvs
 obtain ⟨a,items,rfl,hp,rr,hs⟩:=hv
 refine ea0_4 (idx_seq h1) ?_
 intro g1 g2 g3 g4
 refine ea1_2 (rr.get h3) ?_
 intro y e1 e2
 have hl:=rr.len_arr
 have fin:=Res.now (tk:=s.toks) S e2 q
 refine tail_any hp.isList.typeIs slot_list_getitem.lookup ?_ (sub_plain hsl _ _)
 by_cases h0:0 ≤ i
 ·refine wpAny_getItem_list hp.isList h0 (by lia) ?_ fin
  have:=g3 h0
  rw [show i.toNat = j by omega]; simpa using e1
 ·refine wpAny_getItem_list_neg hp.isList (by omega) (by lia) (by lia) ?_ fin
  have:=g4 (by omega)
  rw [hl,show (i + vs.length).toNat = j by omega]; simpa using e1
theorem p_item {v w r:V} {cv cw:Value} {value slice:Expr} (hsl:∀ a b p,slice ≠ .Slice a b none p) (S:SR c as X H s) (hv:VR c as X s.heap v cv) (hw:VR c as X s.heap w cw) (e:pItem [v,w] H = some (r,H')) (q:Q r H') :
  wpAny c.M A (subscriptTail value slice cv cw) (Res c as X s.heap Q) E s:=by
 refine ea1_2 (Option.map_eq_some_iff.mp e) ?_
 intro z e1 h
 cases h
 clear e
 have e:=e1
 cases w with
 | int i =>
  cases hw.inv
  cases v with
  | str t=>exact pi_str hsl S hv e q
  | tup vs=>exact pi_tup hsl S hv e q
  | _=>exact pi_view hsl S hv e q
 | str k =>
  refine ea1_2 (Option.bind_eq_some_iff.mp e) ?_
  intro d hd h3
  cases hw.inv
  replace hv:=dview_at S hv hd
  obtain ⟨a,cs,rfl,hsm,hp,hl,rr,hs⟩:=hv
  have hz:∃ y,valueAt ((d.1.map toS).zip cs) (toS k) = some y∧VR c as X s.heap r y:=by
   have hz:=valueAt_zip k hl rr
   rw [h3] at hz
   exact hz
  refine ea1_2 hz ?_
  intro y e1 e2
  have hm:=hp.mapOf
  exact tail_any hm.typeIs slot_dict_getitem.lookup (wpAny_getItem_of (knd:=c.kd) (kd_is _ _) hm e1 (Res.now S e2 q)) (sub_plain hsl _ _)
 | _=>exact nos e
theorem p_mklist {vs:List V} {cs:List Value} {ws:List V} {R:Value→Shared→Prop} (S:SR c as X H s) (hv:VRs c as X s.heap vs cs) (e:pMklist vs H = some (.lst ws,H')) (hR:∀ x s',FreshL c as X s ws x s'→R x s'):wpAny c.M A (newList cs) R E s:=by
 replace e:=ite_is e
 obtain ⟨hb,e⟩:=e
 cases e
 refine wpAny_newObj_type ?_ (by show cs.toArray.size ≤ sizeLine; rw [List.size_toArray,← hv.length]; exact Nat.le_trans hb sizeOf'_le)
 exact hR _ _ (freshL_G (tk:=s.toks) S (.push _ _) (Heap.get?_push_size _ rfl) hv (sz_bnd hb))
theorem p_mktup {vs:List V} {cs:List Value} {r:V} (S:SR c as X H s) (hv:VRs c as X s.heap vs cs) (e:pMktup vs H = some (r,H')) (q:Q r H'):wpAny c.M A (newTuple cs) (Res c as X s.heap Q) E s:=by
 replace e:=ite_is e
 obtain ⟨hb,e⟩:=e
 cases e
 refine wpAny_newObj_type ?_ (by show cs.toArray.size ≤ sizeLine; rw [List.size_toArray,← hv.length]; exact Nat.le_trans hb sizeOf'_le)
 exact res_tuple S hv (sz_bnd hb) q
theorem SR.kept1 {i:Nat} {a:Addr} {h h':HP} (hi:as[i]? = some a) (hk:∀ b o,h.get? b = some o→b ≠ a→h'.get? b = some o):Kept as X h h' :=
 fun b o e hb=>⟨o,hk b o e fun q=>hb (q ▸ List.mem_of_getElem? hi),.inl rfl⟩
theorem SR.upd {s':Shared} {i:Nat} {a:Addr} {o':O} (S:SR c as X H s) (hi:as[i]? = some a) (hk:∀ b o,s.heap.get? b = some o→b ≠ a→s'.heap.get? b = some o)
  (hg:s'.gens = s.gens) (hos:s'.os = s.os) (ho:OR c as X s'.heap a o'):SR c as X (H.set i o') s' where
 len:=by simp only [List.length_set]; exact S.len
 stays:=fun b o e=>hk b o (S.stays b o e) fun q=>by
  have:=(S.objs i a hi).1
  simp only [q,this] at e; exact nos e
 gens:=hg.trans S.gens
 os:=hos.trans S.os
 objs:=fun j b hj=>by
  refine ea0_3 (S.objs j b hj) ?_
  intro h1 h2 r_3
  refine ea1_2 r_3 ?_
  intro o h3 h4
  refine ⟨h1,h2,?_⟩
  by_cases hij:i = j
  ·subst hij
   replace hj:=(hi).symm.trans hj; (replace hj:=Option.some.inj hj; subst hj)
   have hl:i < H.length:=by rw [← S.len]; exact (List.getElem?_eq_some_iff.mp hi).1
   exact ⟨o',by simp [hl],ho⟩
  ·have hba:b ≠ a:=fun q=>hij (S.inj i j a hi (q ▸ hj))
   refine ⟨o,by rw [List.getElem?_set_ne hij]; exact h3,h4.keepX (SR.kept1 (X:=X) hi hk).x fun ob e=>hk b ob e hba⟩
 inj:=S.inj
 xs:=fun b hb=>by
  obtain ⟨o,e⟩:=S.xs b hb
  exact ⟨o,hk b o e fun q=>(S.objs i a hi).2.1 (q ▸ hb)⟩
theorem res_upd {s':Shared} {i:Nat} {a:Addr} {o':O} {v:V} {x:Value} (S:SR c as X H s) (hi:as[i]? = some a) (hk:∀ b o,s.heap.get? b = some o→b ≠ a→s'.heap.get? b = some o)
  (hg:s'.gens = s.gens) (hos:s'.os = s.os) (ho:OR c as X s'.heap a o') (hv:VR c as X s'.heap v x) (q:Q v (H.set i o')):Res c as X s.heap Q x s' :=
 ⟨v,_,as,.refl ..,S.upd hi hk hg hos ho,SR.kept1 hi hk,hv,q⟩
theorem p_append {v x r:V} {cv cx:Value} (S:SR c as X H s) (hv:VR c as X s.heap v cv) (hx:VR c as X s.heap x cx) (e:pAppend [v,x] H = some (r,H')) (q:Q r H') :
  wpAny c.M A (call (.builtin "list.append") [cv,cx]) (Res c as X s.heap Q) E s:=by
 refine ea1_2 (bind_is e) ?_
 intro p_1 h0 e0
 obtain ⟨i,vs⟩:=p_1
 refine ea0_2 (ite_is e0) fun hz e1=>?_
 replace h0:=heapL_is h0
 obtain ⟨rfl,hvs⟩:=h0
 cases e1
 replace hv:=ref_at S hv hvs
 obtain ⟨a,hi,hb,items,hp,rr⟩:=hv
 refine wpAny_list_append_plain hp (fun h' hp' sb=>?_) (by simp only [rr.len_arr]; have:=sizeOf'_le; lia)
 have hk:∀ b o,s.heap.get? b = some o→b ≠ a→h'.get? b = some o:=fun b o e hb=>(sb.2 b hb).trans e
 have K:=SR.kept1 (X:=X) hi hk
 refine res_upd (s':={ s with heap:=h' }) (o':=.list _) S hi hk rfl rfl ⟨?_,_,hp',?_⟩ .none q
 ·simp only [List.length_append,List.length_singleton]; have:=sizeOf'_bnd; lia
 ·rw [Array.toList_push]
  exact (rr.keep K (.refl ..)).append (.cons (hx.keep K (.refl ..)) .nil)
theorem drop_last {items:Array Value}:(items.eraseIdxIfInBounds (items.size - 1)).toList = items.toList.dropLast:=by
 obtain ⟨l⟩:=items
 cases l with
 | nil=>rfl
 | cons x l =>
  simp only [Array.eraseIdxIfInBounds,List.size_toArray]
  have:(x :: l).length - 1 < (x :: l).length:=by simp
  simp only [this,dif_pos]
  simp [List.dropLast_eq_take,List.eraseIdx_eq_take_drop_succ]
theorem p_pop {v r:V} {cv:Value} (S:SR c as X H s) (hv:VR c as X s.heap v cv) (e:pPop [v] H = some (r,H')) (q:Q r H') :
  wpAny c.M A (call (.builtin "list.pop") [cv]) (Res c as X s.heap Q) E s:=by
 refine ea1_2 (bind_is e) ?_
 intro p_1 h0 e0
 obtain ⟨i,vs⟩:=p_1
 obtain ⟨hz,e1⟩:=ite_some e0
 refine ea1_2 (map_is e1) ?_
 intro x h1 h2
 replace h0:=heapL_is h0
 obtain ⟨rfl,hvs⟩:=h0
 cases h2
 replace hv:=ref_at S hv hvs
 obtain ⟨a,hi,hb,items,⟨n,hp⟩,rr⟩:=hv
 have hl:=rr.len_arr
 obtain ⟨y,e1,e2⟩:=rr.get (List.getLast?_eq_getElem?.symm.trans h1)
 have hy:items[items.size - 1]? = some y:=by rw [hl,← Array.getElem?_toList]; exact e1
 refine call_meets PySem.F.slot_list_pop ⟨_,hp,rfl⟩ PySem.F.entry_list_pop (PySem.F.args_list_pop_1 _) (PySem.MeetsSeq.list_pop_last a _ n y hy (by rw [hl]; have:=sizeOf'_le; lia)) ⟨hp,?_⟩
 have hk:∀ b o,s.heap.get? b = some o→b ≠ a→(s.heap.update a (Obj.mapSeq fun xs=>xs.eraseIdxIfInBounds (items.size - 1))).get? b = some o:=fun b o e hb=>(Heap.get?_update_other _ _ (Ne.symm hb)).trans e
 have K:=SR.kept1 (X:=X) hi hk
 refine res_upd (s':={ s with heap:=s.heap.update a (Obj.mapSeq fun xs=>xs.eraseIdxIfInBounds (items.size - 1)) }) (o':=.list _) S hi hk rfl rfl ⟨?_,_,⟨_,PySem.IsL.update hp fun xs=>xs.eraseIdxIfInBounds (items.size - 1)⟩,?_⟩ (e2.keep K (.refl ..)) q
 ·rw [List.length_dropLast]; exact Nat.le_trans (Nat.sub_le _ _) hb
 ·simp only [drop_last,List.dropLast_eq_take,List.dropLast_eq_take,← rr.length]
  exact (rr.keep K (.refl ..)).take _
end
end Mine
end
noncomputable section
namespace Mine
open PySem PySem.Calls PyProof.Rows
section
variable {c:Cx} {A:Around} {E:Value→Shared→Prop} {s:Shared} {as:Adr} {X:List Addr} {H H':AH} {Q:QE}
theorem p_pop0 {v w r:V} {cv cw:Value} (S:SR c as X H s) (hv:VR c as X s.heap v cv) (hw:VR c as X s.heap w cw) (e:pPop0 [v,w] H = some (r,H')) (q:Q r H') :
  wpAny c.M A (call (.builtin "list.pop") [cv,cw]) (Res c as X s.heap Q) E s:=by
 refine ea1_2 (bind_is e) ?_
 intro p_1 h0 e0
 obtain ⟨i,vs⟩:=p_1
 refine ea1_2 (bind_is e0) ?_
 intro n hn e1
 obtain ⟨⟨rfl,hz⟩,e2⟩:=ite_some e1
 refine ea1_2 (map_is e2) ?_
 intro x h1 h2
 replace h0:=heapL_is h0
 obtain ⟨rfl,hvs⟩:=h0
 replace hn:=V.num_is hn
 subst hn
 cases h2
 replace hv:=ref_at S hv hvs
 obtain ⟨a,hi,hb,items,⟨k,hp⟩,rr⟩:=hv
 cases hw.inv with
 | int u =>
  cases vs with
  | nil=>exact nos h1
  | cons x' vs =>
   (replace h1:=Option.some.inj h1; subst h1)
   have hl:=rr.len_arr
   refine ea1_2 (rr.get (j:=0) rfl) ?_
   intro y e1 e2
   have hy:items[0]? = some y:=by rw [← Array.getElem?_toList]; exact e1
   have hpos:0 < items.size:=by simp only [hl]; exact Nat.succ_pos _
   have hk0:seqIndex? (0:Int) items.size = some 0:=by
    unfold seqIndex?
    simp [hpos]
   refine call_meets PySem.F.slot_list_pop ⟨_,hp,rfl⟩ PySem.F.entry_list_pop (PySem.F.args_list_pop_2 _ _) (PySem.MeetsSeq.list_pop_at a _ k 0 u 0 y (by decide) hk0 hy (by skip; have:=sizeOf'_le; lia)) ⟨hp,?_⟩
   have hk:∀ b o,s.heap.get? b = some o→b ≠ a→(s.heap.update a (Obj.mapSeq fun xs=>xs.eraseIdxIfInBounds 0)).get? b = some o:=fun b o e hb=>(Heap.get?_update_other _ _ (Ne.symm hb)).trans e
   have K:=SR.kept1 (X:=X) hi hk
   refine res_upd (s':={ s with heap:=s.heap.update a (Obj.mapSeq fun xs=>xs.eraseIdxIfInBounds 0) }) (o':=.list _) S hi hk rfl rfl ⟨?_,_,⟨_,PySem.IsL.update hp fun xs=>xs.eraseIdxIfInBounds 0⟩,?_⟩ (e2.keep K (.refl ..)) q
   ·exact Nat.le_of_succ_le hb
   ·have ht:(items.eraseIdxIfInBounds 0).toList = items.toList.drop 1:=by
     simp only [Array.eraseIdxIfInBounds,dif_pos hpos,Array.toList_eraseIdx,List.eraseIdx_zero,List.drop_one]
    simp only [ht]
    exact (rr.keep K (.refl ..)).drop 1
theorem heapD_is {v:V} {p:Nat × (List (List Char) × List V)} (h:heapD H v = some p):v = .ref p.1∧H[p.1]? = some (.dict p.2.1 p.2.2) :=
 Is.of (o:=heapD H v) (R:=fun p=>v = .ref p.1∧H[p.1]? = some (.dict p.2.1 p.2.2)) ((V.at_i v).bind fun i h1=>(Is.self.bind fun o h3=>(O.dct_i o).imp (R':=fun d=>H[i]? = some (.dict d.1 d.2)) fun _ h4=>h4 ▸ h3).bind fun _ h5=>⟨h1,h5⟩) h
theorem without_ddel {k:List Char} {h:HP}:∀ {ks:List (List Char)} {vs:List V} {cs:List Value},ks.length = cs.length→(ks.map toS).Nodup→VRs c as X h vs cs →
  ∃ cs',without ((ks.map toS).zip cs) (toS k) = ((ddel k ks vs).1.map toS).zip cs'∧(ddel k ks vs).1.length = cs'.length∧VRs c as X h (ddel k ks vs).2 cs'∧cs'.length ≤ cs.length:=by
 intro ks
 induction ks with
 | nil=>intro vs cs hl _ r; exact ⟨[],rfl,rfl,.nil,Nat.zero_le _⟩
 | cons k' ks ih =>
  intro vs cs hl hn r
  cases r with
  | nil=>cases hl
  | @cons v vs x cs hx r =>
   have hn':=List.nodup_cons.mp hn
   have hl':=Nat.succ.inj hl
   refine ea1_4 (ih hl' hn'.2 r) ?_
   intro cs' e1 e2 e3 e4
   by_cases hk:k = k'
   ·subst hk
    have ed:ddel k (k :: ks) (v :: vs) = (ks,vs):=if_pos rfl
    rw [ed]
    refine ⟨cs,?_,hl',r,Nat.le_succ _⟩
    show List.filter _ ((toS k,x) :: (ks.map toS).zip cs) = _
    rw [List.filter_cons_of_neg (by simp)]
    refine List.filter_eq_self.mpr fun p hp=>decide_eq_true fun q=>hn'.1 ?_
    simp only [← q]
    exact (List.of_mem_zip hp).1
   ·have ed:ddel k (k' :: ks) (v :: vs) = (k' :: (ddel k ks vs).1,v :: (ddel k ks vs).2):=if_neg hk
    rw [ed]
    refine ⟨x :: cs',?_,congrArg Nat.succ e2,.cons hx e3,Nat.succ_le_succ e4⟩
    show List.filter _ ((toS k',x) :: (ks.map toS).zip cs) = (toS k',x) :: ((ddel k ks vs).1.map toS).zip cs'
    exact (List.filter_cons_of_pos (p:=fun kv:Str × Value=>decide (kv.1 ≠ toS k)) (a:=(toS k',x)) (decide_eq_true fun q=>hk (toS_inj q).symm)).trans (congrArg _ e1)
theorem p_dpop {v w r:V} {cv cw:Value} (S:SR c as X H s) (hv:VR c as X s.heap v cv) (hw:VR c as X s.heap w cw) (e:pDpop [v,w] H = some (r,H')) (q:Q r H') :
  wpAny c.M A (call (.builtin "dict.pop") [cv,cw]) (Res c as X s.heap Q) E s:=by
 refine ea1_2 (bind_is e) ?_
 intro p_1 h0 e0
 obtain ⟨i,ks,vs⟩:=p_1
 refine ea1_2 (bind_is e0) ?_
 intro k hn e1
 obtain ⟨hsz,e2⟩:=ite_some e1
 refine ea1_2 (map_is e2) ?_
 intro x h1 h2
 replace h0:=heapD_is h0
 obtain ⟨rfl,hob⟩:=h0
 cases V.txt_is hn
 cases h2
 replace hv:=ref_at S hv hob
 obtain ⟨a,ha,hb,hsm,cs,hd,hl,rr⟩:=hv
 cases hw.inv with
 | str _ hs =>
  have hn:(ks.map toS).Nodup:=by
   refine ea3_6 hd ?_
   intro _ _ _ _ _ _ _ _ hn
   rw [List.map_fst_zip (by simp [hl])] at hn
   exact hn
  have hz:=valueAt_zip k hl rr
  rw [h1] at hz
  refine ea1_2 hz ?_
  intro y hy hvy
  have h2:=rr.length
  refine call_meetsIn PySem.F.slot_dict_pop hd.typeIs PySem.F.entry_dict_pop (PySem.F.args_dict_pop_2 _ _) (meets_dict_pop_there c.kd a (kd_is _ _) [] (.inl rfl) rfl) ⟨_,y,hd,?_,hy,fun h' hd' sb=>?_⟩
  ·simp only [List.length_zip,List.length_map,← hl,Nat.min_self]; exact Nat.le_trans hsz sizeOf'_le
  ·have hk:∀ b o,s.heap.get? b = some o→b ≠ a→h'.get? b = some o:=fun b o e hb=>(sb.2 b hb).trans e
   have K:=SR.kept1 (X:=X) ha hk
   refine ea1_4 (without_ddel (k:=k) hl hn (rr.keep K (.refl ..))) ?_
   intro cs' e1 e2 e3 e4
   rw [e1] at hd'
   have e5:=e3.length
   exact res_upd (s':={ s with heap:=h',toks:=_ }) (o':=.dict _ _) S ha hk rfl rfl ⟨by omega,hsm,cs',hd',e2,e3⟩ (hvy.keep K (.refl ..)) q
theorem toPs_get {vs:List V} {m:Nat} (h:m < vs.length):(toPs vs)[m]? = some (toP vs[m]):=by
 induction vs generalizing m with
 | nil=>cases h
 | cons v vs ih=>cases m with
  | zero=>rfl
  | succ m=>exact ih (Nat.lt_of_succ_lt_succ h)
theorem datas_get {vs:List V} {m:Nat} (h:V.datas vs = true) (hm:m < vs.length):vs[m].data = true:=by
 induction vs generalizing m with
 | nil=>cases hm
 | cons v vs ih =>
  have h':=Bool.and_eq_true_iff.mp h
  cases m with
  | zero=>exact h'.1
  | succ m=>exact ih h'.2 (Nat.lt_of_succ_lt_succ hm)
theorem V.tpl_is {v:V} {vs:List V} (h:v.tpl = some vs):v = .tup vs:=Is.of (R:=fun vs=>v = .tup vs) (by cases v <;> first | exact rfl | exact trivial) h
theorem wpAny_forIn_rng {M:Model} {β:Type} {r:Std.Legacy.Range} (f:Nat→β→Sem (ForInStep β)) (I:List Nat→β→Shared→Prop) (Q:β→Shared→Prop)
  (turn:∀ x rest b s,I (x :: rest) b s→wpAny M A (f x b) (fun r s'=>match r with | .yield b'=>I rest b' s' | .done b'=>Q b' s') E s)
  (fin:∀ b s,I [] b s→Q b s) (b:β) (h:I (List.range' r.start r.size r.step) b s):wpAny M A (forIn r b f) Q E s:=by
 rw [Std.Legacy.Range.forIn_eq_forIn_range']
 exact wpAny_forIn_list f I Q turn fin _ b h
open PySem.SeqAt PySem.MeetsSeq2 in
theorem tuple_indexAt (l:Addr) (items:Array Value) (n:Nat) (x:Value) (e:Value→Bool) (j:Nat) (hj:j < items.size) (hit:e items[j] = true) (hno:∀ m (hm:m < items.size),m < j→e items[m] = false) :
  Meets (Builtin.«tuple.index» ⟨[.ref l,x],[]⟩)
   (fun A R s=>s.heap.get? l = some { cls:=.type "tuple",data:=.seq items n }∧(∀ y,y ∈ items→EqAt A.in1 s y x (e y))∧R (.ok (.ret (.int j s.toks))) { s with toks:=s.toks + 1 }) :=
 .of_wp fun prog w A R s h=>by
  obtain ⟨hp,g,d,tk,os⟩:=s; obtain ⟨hl,he,h⟩:=h
  wp_walk using PySem.AutoSeq1.wpAny_loadPart' hl,wpAny_forIn_rng _ (fun rest b s'=>b.1 = none∧s' = ⟨hp,g,d,tk,os⟩∧∃ i,i ≤ j∧rest = List.range' i (items.size - i)) _
  case turn =>
   rintro m rest b s' ⟨_,rfl,i,hij,hr⟩
   obtain ⟨k,hk⟩:∃ k,items.size - i = k + 1:=⟨items.size - i - 1,by omega⟩
   simp only [hk,List.range'_succ] at hr
   cases hr
   have hlt:m < items.size:=by lia
   rw [Array.getElem?_eq_getElem hlt]
   refine wpAny_bind (he _ (Array.getElem_mem hlt) prog w _ _ ?_)
   by_cases hi:m = j
   ·(replace hi:=Eq.symm hi; subst hi)
    rw [hit]
    wp_walk
    exact ⟨_,rfl,h⟩
   ·rw [hno m hlt (by lia)]
    wp_walk
    exact ⟨rfl,rfl,m + 1,by omega,by rw [show items.size - (m + 1) = k by omega]⟩
  case fin =>
   rintro b s' ⟨_,_,i,hij,hr⟩
   have:=congrArg List.length hr
   simp only [List.length_range',List.length_nil] at this
   omega
  case h=>exact ⟨rfl,rfl,0,Nat.zero_le _,by simp [Std.Legacy.Range.size]⟩
open PySem.SeqAt in
theorem p_index {v w r:V} {cv cw:Value} (S:SR c as X H s) (hv:VR c as X s.heap v cv) (hw:VR c as X s.heap w cw) (e:pIndex [v,w] H = some (r,H')) (q:Q r H') (hu:A.units + 64 < cLine) :
  wpAny c.M A (call (.builtin "tuple.index") [cv,cw]) (Res c as X s.heap Q) E s:=by
 refine ea1_2 (bind_is e) ?_
 intro vs h1 e1
 refine ea1_2 (bind_is e1) ?_
 intro x' ex e2
 obtain ⟨hok,e3⟩:=ite_some e2
 refine ea1_2 (map_is e3) ?_
 intro k hk e4
 cases e4
 replace h1:=V.tpl_is h1
 subst h1
 obtain ⟨hd,hdd⟩:=okD_is hok
 obtain ⟨d1,d2,l1,r1⟩:=rd_at S hw ex
 cases hv.inv with
 | @tup a items n t1 t2 t3 rr t5 =>
  obtain ⟨l2,r2⟩:=reads_all rr hd
  have o1:=toP_ok _ d1
  have o2:=toPs_ok _ hd
  have hm:A.units + 1 + min (PyData.depthAll (toPs vs)) (toP x').depth < cLine:=by exact (o2.2) ▸ in_room hdd hu
  have hl:=rr.len_arr
  obtain ⟨hlt,hit,hno⟩:=List.findIdx?_eq_some_iff_getElem.mp hk
  have he:∀ m (hm:m < items.size) (hm':m < vs.length),PyData.eqv (readOf s.heap items[m]) (toP x') = eqV vs[m] x':=fun m hm hm'=>by
   have h3:(items.toList.map (readOf s.heap))[m]? = (toPs vs)[m]?:=by rw [(readsAll_map _ _ _ o2.1 r2)]
   simp only [toPs_get hm',List.getElem?_map,Array.getElem?_toList,Array.getElem?_eq_getElem hm] at h3
   rw [Option.some.inj h3]
   exact eqv_toP _ _ (datas_get hd hm') d1
  refine call_meets PySem.F.slot_tuple_index ⟨_,t3,rfl⟩ PySem.F.entry_tuple_index (PySem.F.args_tuple_index_2 _ _) (tuple_indexAt a items n cw (fun y=>PyData.eqv (readOf s.heap y) (toP x')) k (by exact (hl) ▸ hlt) ?_ ?_) ⟨t3,items_eqAt r2 r1 o2.1 o1.1 hm,?_⟩
  ·exact (he k _ hlt).trans hit
  ·intro m hm hmk
   exact (he m hm (hl ▸ hm)).trans (by simpa using hno m hmk)
  ·exact Res.now (tk:=s.toks + 1) S (.int _ _) q
end
end Mine
end
noncomputable section
namespace Mine
open PySem PySem.Calls PyProof.Rows
section
variable {prog:Program} {w:World} {A:Around} {E:Value→Shared→Prop} {s:Shared}
theorem setItem_plain {l:Addr} {items:Array Value} {k:Int} {t:Tok} {v:Value} {Q:Unit→Shared→Prop} (hl:s.heap.PlainList l items) (h0:0 ≤ k) (hfit:k < 2 ^ 63) (hn:k < items.size)
  (hQ:∀ h',h'.PlainList l (items.setIfInBounds k.toNat v)→Heap.SameBut l s.heap h'→Q () { s with heap:=h' }):wpAny (model prog w) A (setItem (.ref l) (.int k t) v) Q E s:=by
 obtain ⟨n,ho⟩:=hl
 have hT:s.TypeIs (.ref l) "list":=⟨_,ho,rfl⟩
 unfold setItem
 try with_reducible refine wpAny_holding ?_
 first | refine wpAny_bind (wpAny_pure ?_) | skip
 refine wpAny_bind (wpAny_sequenceKey hT (by decide) ?_)
 refine wpAny_bind (wpAny_callSpecial?_slot (name:=Str.ofString "__setitem__") hT F.slot_list_setitem (wpAny_call_entry F.slot_list_setitem hT F.entry_list_setitem ?_ (F.args_list_setitem_3 _ _ _)))
 show wpAny _ _ (Builtin.List.listSubscript? (.int k t) >>= _) _ _ s
 refine wpAny_bind (wpAny_listSubscript_int (fitsIndex_of h0 hfit) ?_)
 clear hfit
 obtain ⟨j,rfl⟩:=Int.eq_ofNat_of_zero_le h0
 have hj:items[j]? = some (items[j]'(Int.ofNat_lt.mp hn)):=Array.getElem?_eq_getElem _
 show wpAny _ _ ((seqItemAt l j >>= fun r=>pure (r.map (j,·))) >>= _) _ _ s
 refine wpAny_bind (wpAny_bind (wpAny_seqItemAt ho rfl (wpAny_pure ?_)))
 rw [hj]
 show wpAny _ _ (setSeqItemAt l j v >>= _) _ _ s
 refine wpAny_bind (wpAny_setSeqItemAt ho rfl ?_)
 have z:=hQ _ ⟨n,?_⟩ (Heap.SameBut.update (a:=l) (f:=Obj.mapSeq (·.setIfInBounds j v)) ..)
 first
  | exact wpAny_bind (wpAny_pure (wpAny_pure ⟨.none,rfl,wpAny_pure z⟩))
  | exact wpAny_pure ⟨.none,rfl,wpAny_pure z⟩
 have e:Obj.mapSeq (·.setIfInBounds j v) { cls:=.type "list",data:=.seq items n } = { cls:=.type "list",data:=.seq (items.setIfInBounds j v) n }:=by simp [Obj.mapSeq]
 rw [Heap.get?_update_self _ ho (by rw [e]; rfl),e]
 rfl
end
section
variable {c:Cx} {A:Around} {E:Value→Shared→Prop} {s:Shared} {as:Adr} {X:List Addr} {H H':AH} {Q:QE}
open PySem.SeqAt in
theorem p_lindex {v w r:V} {cv cw:Value} (S:SR c as X H s) (hv:VR c as X s.heap v cv) (hw:VR c as X s.heap w cw) (e:pLindex [v,w] H = some (r,H')) (q:Q r H') (hu:A.units + 64 < cLine) :
  wpAny c.M A (call (.builtin "list.index") [cv,cw]) (Res c as X s.heap Q) E s:=by
 cases v with
 | lst vs =>
  refine ea1_2 (bind_is e) fun x' ex e2=>?_
  obtain ⟨hok,e3⟩:=ite_some e2
  refine ea1_2 (map_is e3) fun k hk e4=>?_
  cases e4
  obtain ⟨hd,hdd⟩:=okD_is hok
  obtain ⟨d1,d2,l1,r1⟩:=rd_at S hw ex
  clear e e2 e3 hok hw ex d2
  cases hv.inv with
  | @lst a items t1 t2 t3 rr t5 =>
   obtain ⟨n,t3⟩:=t3
   obtain ⟨l2,r2⟩:=reads_all rr hd
   have o1:=toP_ok _ d1
   have o2:=toPs_ok _ hd
   have hm:A.units + 1 + min (PyData.depthAll (toPs vs)) (toP x').depth < cLine:=o2.2 ▸ in_room hdd hu
   have hl:=rr.len_arr
   obtain ⟨hlt,hit,hno⟩:=List.findIdx?_eq_some_iff_getElem.mp hk
   have he:∀ m (hm:m < items.size) (hm':m < vs.length),PyData.eqv (readOf s.heap items[m]) (toP x') = eqV vs[m] x':=fun m hm hm'=>by
    have h3:(items.toList.map (readOf s.heap))[m]? = (toPs vs)[m]?:=by rw [(readsAll_map _ _ _ o2.1 r2)]
    simp only [toPs_get hm',List.getElem?_map,Array.getElem?_toList,Array.getElem?_eq_getElem hm] at h3
    rw [Option.some.inj h3]
    exact eqv_toP _ _ (datas_get hd hm') d1
   refine call_meets PySem.F.slot_list_index ⟨_,t3,rfl⟩ PySem.F.entry_list_index (PySem.F.args_list_index_2 _ _) (list_indexAt a items n none #[] cw (fun y=>PyData.eqv (readOf s.heap y) (toP x')) k (hl ▸ hlt) ?_ ?_ ?_) ⟨t3,items_eqAt r2 r1 o2.1 o1.1 hm,?_⟩
   ·exact Int.lt_of_lt_of_le (Int.ofNat_lt.mpr hlt) (Int.le_trans (Int.ofNat_le.mpr t5) (by decide))
   ·exact (he k _ hlt).trans hit
   ·intro m hm hmk
    exact (he m hm (hl ▸ hm)).trans (by simpa using hno m hmk)
   ·exact Res.now (tk:=s.toks + 1) S (.int _ _) q
 | _=>exact nos e
end
end Mine
end
noncomputable section
namespace Mine
open PySem PySem.Calls PyProof.Rows
section
variable {c:Cx} {A:Around} {E:Value→Shared→Prop} {s:Shared} {as:Adr} {X:List Addr} {H H':AH} {Q:QE}
theorem rep_arr {y:Value} {n:Nat}:∀ {acc:Array Value},(List.foldl (fun x1 x2=>x1 ++ x2) acc (List.replicate n #[y])).toList = acc.toList ++ List.replicate n y:=by
 induction n with
 | zero=>exact fun {acc}=>(List.append_nil _).symm
 | succ n ih =>
  intro acc
  rw [List.replicate_succ,List.replicate_succ,List.foldl_cons,ih,Array.toList_append,List.append_assoc]
  rfl
theorem vrs_rep {h:HP} {x:V} {y:Value} (hx:VR c as X h x y) {n:Nat}:VRs c as X h (List.replicate n x) (List.replicate n y):=by
 induction n with
 | zero=>exact .nil
 | succ n ih=>exact .cons hx ih
theorem p_rep {x:V} {n:Int} {cv cw:Value} (S:SR c as X H s) (hv:VR c as X s.heap (.lst [x]) cv) (hw:VR c as X s.heap (.int n) cw) (h0:0 ≤ n) (h1:n ≤ 1000) (q:Q (.ref H.length) (H ++ [.list (List.replicate n.toNat x)])) :
  wpAny c.M A (binaryOp .Mult cv cw) (Res c as X s.heap Q) E s:=by
 cases hw.inv with
 | int u =>
 cases hv.inv with
 | @lst l items t1 t2 t3 rr t5 =>
 obtain ⟨k,hl⟩:=t3
 obtain ⟨its⟩:=items
 cases rr with
 | @cons _ _ y _ r1 r2 =>
 cases r2 with
 | nil =>
 refine wpAny_binaryOp_repeat_ref (T:="list") (U:="int") (by decide) ⟨_,hl,rfl⟩ (fun s'=>typeIs_int s' n u) noFill_list_mul PySem.F.fills_int_mul PySem.F.slot_int_rmul repeat_list PySem.F.slot_int_index.lookup
  (call_meets PySem.F.slot_int_rmul (typeIs_int s n u) PySem.F.entry_int_rmul (PySem.F.args_int_rmul_2 _ _) (int___rmul___int_list n u l #[y] k)
   ⟨hl,rfl,⟨_,hl,rfl⟩,call_meets PySem.F.slot_list_mul ⟨_,hl,rfl⟩ PySem.F.entry_list_mul (PySem.F.args_list_mul_2 _ _)
    (AutoListH.list___mul___list_int_3 l #[y] k n u (by simp [Builtin.List.listFitsIndex]; omega) (by simp; omega) (by simp [Builtin.List.listTooLong,sizeLine]; omega)) ⟨hl,?_⟩⟩)
 refine FreshL.thawed S (freshL_G (tk:=s.toks) S (.push _ _) (Heap.get?_push_size _ rfl) ?_ ?_) q
 ·refine (rep_arr (acc:=#[])).symm ▸ vrs_rep r1
 ·rw [List.length_replicate]; exact Nat.le_trans (Int.toNat_le.mpr h1) (by decide)
end
end Mine
end
noncomputable section
namespace Mine
open PySem PySem.Calls PyProof.Rows
section
variable {c:Cx} {A:Around} {E:Value→Shared→Prop} {s:Shared} {as:Adr} {X:List Addr} {H H':AH} {Q:QE}
theorem p_int {v r:V} {cv:Value} (S:SR c as X H s) (hv:VR c as X s.heap v cv) (e:pInt [v] H = some (r,H')) (q:Q r H'):wpAny c.M A (call (.type "int") [cv]) (Res c as X s.heap Q) E s:=by
 cases v with
 | bool b=>exact p_intb S hv e q
 | _=>exact nos e
theorem call_extend {a b:Addr} {xs ys:Array Value} {m:Nat} {R:Value→Shared→Prop} (hl:s.heap.PlainList a xs) (hb:s.heap.get? b = some { cls:=.type "list",data:=.seq ys m }) (hz:xs.size + ys.size ≤ sizeLine)
  (h:∀ h',h'.PlainList a (xs ++ ys)→Heap.SameBut a s.heap h'→R .none { s with heap:=h' }):wpAny c.M A (call (.builtin "list.extend") [.ref a,.ref b]) R E s:=by
 refine ea1_1 (hl) fun n ho=>?_
 refine wpAny_call_entry F.slot_list_extend ⟨_,ho,rfl⟩ F.entry_list_extend ?_ (F.args_list_extend_2 _ _)
 show wpAny _ _ (Builtin.List.listExtendWith (.ref a) (.ref b) .none) _ _ s
 unfold Builtin.List.listExtendWith
 refine wpAny_bind (wpAny_typeOf ⟨_,hb,rfl⟩ ?_)
 have h1:(Builtin.List.listSameRef (.ref a) (.ref b) || Value.type "list" == Value.type "list" || Value.type "list" == Value.type "tuple") = true:=by simp
 simp only [h1,if_true]
 refine wpAny_bind ?_
 unfold Builtin.List.listItems
 refine wpAny_bind (wpAny_seqItems hb rfl (wpAny_pure ?_))
 refine wpAny_bind ?_
 refine wpAny_bind (wpAny_seqItems ho rfl (wpAny_pure ?_))
 have h2:(!xs.isEmpty && Builtin.List.listTooLong (xs.size + ys.size)) = false:=by
  simp only [show Builtin.List.listTooLong (xs.size + ys.size) = decide (xs.size + ys.size > sizeLine) from rfl,decide_eq_false (show ¬ (xs.size + ys.size > sizeLine) by omega),Bool.and_false]
 simp only [h2,Bool.false_eq_true,if_false]
 refine wpAny_bind (wpAny_updateSeq ho rfl ?_ (by lia) (by rw [Array.size_append]; lia))
 exact wpAny_pure ⟨.none,rfl,h _ ⟨_,Heap.get?_update_self _ ho rfl⟩ (Heap.SameBut.update ..)⟩
theorem p_extend {v w r:V} {cv cw:Value} (S:SR c as X H s) (hv:VR c as X s.heap v cv) (hw:VR c as X s.heap w cw) (e:pExtend [v,w] H = some (r,H')) (q:Q r H'):wpAny c.M A (call (.builtin "list.extend") [cv,cw]) (Res c as X s.heap Q) E s:=by
 refine ea1_2 (bind_is e) ?_
 clear e
 intro p h0 e0
 refine ea1_2 (bind_is e0) ?_
 clear e0
 intro ys h1 e1
 obtain ⟨hz,e2⟩:=ite_is e1
 clear e1
 obtain ⟨i,vs⟩:=p
 replace h0:=heapL_is h0
 obtain ⟨rfl,hob⟩:=h0
 cases e2
 replace hv:=ref_at S hv hob
 obtain ⟨a,hi,hb,items,hp,rr⟩:=hv
 clear hob
 replace hw:=view_at S hw h1
 obtain ⟨b,its,rfl,⟨m,hm⟩,r2,_⟩:=hw
 clear h1
 refine call_extend hp hm (by simp only [rr.len_arr,r2.len_arr]; exact Nat.le_trans hz sizeOf'_le) fun h' hp' sb=>?_
 have hk:∀ b o,s.heap.get? b = some o→b ≠ a→h'.get? b = some o:=fun b o e hb=>(sb.2 b hb).trans e
 have K:=SR.kept1 (X:=X) hi hk
 refine res_upd (s':={ s with heap:=h' }) (o':=.list _) S hi hk rfl rfl ⟨?_,_,hp',?_⟩ .none q
 ·rw [List.length_append]; exact sz_bnd hz
 ·rw [Array.toList_append]
  exact (rr.keep K (.refl ..)).append (r2.keep K (.refl ..))
end
end Mine
end
noncomputable section
namespace Mine
open PySem PySem.Calls PyProof.Rows
inductive Gl where
 | fn (f:Nat)
 | cst (v:V)
 | bi (b:String)
 | ty (t:String)
 | exc (c:Nat)
 | cls (ms:List (Str × Nat)) (ats:List Str) (f:Nat)
set_option genInjectivity false in
structure Tb where
 gl:List (Str × Gl)
 meths:List (Str × Nat)
 names:List (Str × NameKind)
 tab:List (Str × Nat)
 n:Nat
 mu:List (Nat × Nat)
 fz:List (Nat × List Nat)
noncomputable def Tb.isMu (T:Tb) (p:Pos):Bool:=T.mu.contains (p.line,p.col)
noncomputable def fromS (s:Str):Option (List Char) :=
 if toS (s.cps.toList.map Char.ofNat) = s∧(s.cps.toList.map Char.ofNat).length ≤ 1000 then some (s.cps.toList.map Char.ofNat) else none
noncomputable def cConst:Const→Option Ex
 | .none=>some (.cst .none)
 | .bool b=>some (.cst (.bool b))
 | .int i=>some (.cst (.int i))
 | .str s=>(fromS s).map fun l=>.cst (.str l)
 | _=>none
noncomputable def Tb.var (T:Tb) (x:Str):Option Nat :=
 if x == ("__debug__":Str) || x == ("__classdict__":Str) then none else
 if T.names.lookup x = some .local ∨ T.names.lookup x = some .cell ∨ T.names.lookup x = some .free then T.tab.lookup x else none
noncomputable def Tb.glob (T:Tb) (x:Str):Option Gl :=
 if x == ("__debug__":Str) then none else
 if T.names.lookup x = some .globalImplicit then T.gl.lookup x else none
noncomputable def glE:Option Gl→Option Ex
 | some (.cst v)=>some (.cst v)
 | _=>none
noncomputable def varE (o:Option Ex):Option Nat→Option Ex
 | some i=>some (.var i)
 | none=>o
noncomputable def cName (T:Tb) (x:Str):Option Ex:=varE (glE (T.glob x)) (T.var x)
noncomputable def bopOf:Operator→Option Bop
 | .Add=>some .add | .Sub=>some .sub | .Mult=>some .mul | .FloorDiv=>some .fdiv | .Mod=>some .mod | .Pow=>some .pow
 | _=>none
noncomputable def copOf?:CmpOp→Cop
 | .Eq=>.eq | .NotEq=>.ne | .Lt=>.lt | .LtE=>.le | .Gt=>.gt | .GtE=>.ge | .Is=>.is | .IsNot=>.isnot | .In=>.in_ | .NotIn=>.notin
noncomputable def mapO {α β:Type} (f:α→Option β):List α→Option (List β)
 | []=>some []
 | a :: r=>(f a).bind fun b=>(mapO f r).map (b :: ·)
noncomputable def mkB (op:BoolOp) (x y:Ex):Ex:=match op with
 | .And=>.and x y
 | .Or=>.or x y
noncomputable def goes (op:BoolOp) (t:Bool):Bool:=match op with
 | .And=>t
 | .Or=>!t
theorem wpE_mkB {P:Prog} {C:Calls} {op:BoolOp} {x y:Ex} {ρ:Fm} {H:AH} {Q:QE} {X:XE}:wpE P C (mkB op x y) ρ H Q X = wpE P C x ρ H (fun v H'=>okB (truth v) fun t=>if goes op t then wpE P C y ρ H' Q X else Q (.bool t) H') X:=by cases op <;> rfl
noncomputable def boolEx (op:BoolOp):List Ex→Option Ex
 | []=>none
 | [x]=>some x
 | x :: r=>(boolEx op r).map (mkB op x)
noncomputable def tyOf (t:String):Option Ty :=
 if t = "int" then some .int else if t = "bool" then some .bool else if t = "str" then some .str else if t = "list" then some .list else if t = "tuple" then some .tuple else none
noncomputable def biPrim (b:String) (n:Nat):Option Prim :=
 if b = "len"∧n = 1 then some .len else
 if b = "all"∧n = 1 then some .all else
 if b = "min"∧n = 2 then some .min else
 none
noncomputable def tyPrim (t:String) (n:Nat):Option Prim :=
 if t = "range"∧n = 1 then some .range1 else
 if t = "range"∧n = 2 then some .range2 else
 if t = "list"∧n = 1 then some .list else
 if t = "int"∧n = 1 then some .int else
 none
noncomputable def cstC:Expr→Option Const
 | .Constant c _ _=>some c
 | _=>none
theorem cstC_i (e:Expr):Is (cstC e) fun c=>∃ k p,e = .Constant c k p:=by
 cases e <;> first | exact ⟨_,_,rfl⟩ | exact trivial
noncomputable def strK:Const→Option Str
 | .str s=>some s
 | _=>none
noncomputable def strC (e:Expr):Option Str:=(cstC e).bind strK
theorem strC_i (e:Expr):Is (strC e) fun s=>∃ k p,e = .Constant (.str s) k p :=
 (cstC_i e).bind fun c h=>Is.imp (R:=fun s=>c = .str s) (by cases c <;> first | exact rfl | exact trivial) fun _ q=>q ▸ h
noncomputable def nonK:Const→Option Unit
 | .none=>some ()
 | _=>none
theorem nonK_i (c:Const):Is (nonK c) fun _=>c = .none:=by cases c <;> first | exact rfl | exact trivial
noncomputable def intK:Const→Option Int
 | .int i=>some i
 | _=>none
noncomputable def zeroA (l:List Expr):Bool:=match l with
 | [e]=>decide ((cstC e).bind intK = some 0)
 | _=>false
noncomputable def strSub (e:Expr):Bool:=match e with
 | .Subscript _ i _=>(strC i).isSome
 | _=>false
noncomputable def zOf (m:Str) (o:Expr) (l:List Expr):Bool:=if m = Str.ofString "index" then strSub o else zeroA l
noncomputable def methPrim (m:Str) (n:Nat) (z:Bool):Option (Mt × Prim) :=
 if m = Str.ofString "append"∧n = 1 then some (.list,.append) else
 if m = Str.ofString "pop"∧n = 0 then some (.list,.pop) else
 if m = Str.ofString "pop"∧n = 1∧z = true then some (.list,.pop0) else
 if m = Str.ofString "pop"∧n = 1 then some (.dict,.dpop) else
 if m = Str.ofString "index"∧n = 1∧z = true then some (.list,.lindex) else
 if m = Str.ofString "index"∧n = 1 then some (.tup,.index) else
 if m = Str.ofString "extend"∧n = 1 then some (.list,.extend) else
 none
noncomputable def oneL {α β:Type} (f:α→Option β):List α→Option β
 | [t]=>f t
 | _=>none
noncomputable def twoL {α β:Type} (f:α→α→Option β):List α→Option β
 | [a,b]=>f a b
 | _=>none
noncomputable def nilL {α β:Type} (r:Option β):List α→Option β
 | []=>r
 | _ :: _=>none
noncomputable def nmE:Expr→Option Str
 | .Name x _=>some x
 | _=>none
theorem nmE_i (e:Expr):Is (nmE e) fun x=>∃ p,e = .Name x p:=by
 cases e <;> first | exact ⟨_,rfl⟩ | exact trivial
theorem nite_some {α:Type} {b:Bool} {a:Option α} {x:α} (h:(if b = true then none else a) = some x):b = false∧a = some x:=by
 cases b with
 | false=>exact ⟨rfl,h⟩
 | true=>exact nos h
noncomputable def isLst (e:Expr):Bool:=match e with
 | .List _ _=>true
 | _=>false
noncomputable def isSlice (e:Expr):Bool:=e.ctorIdx == 26
noncomputable def isComp (e:Expr):Bool:=e.ctorIdx == 8 || e.ctorIdx == 9 || e.ctorIdx == 10
noncomputable def compOk (T:Tb) (x:Str) (sc:Scope):Bool :=
 decide (sc.kind = .function) && T.tab.all (fun p=>decide (p.2 < T.n)) && decide (sc.names.lookup x = some .local) &&
 sc.names.all (fun p=>decide (sc.names.lookup p.1 = some p.2) && (match p.2 with
  | .local=>decide (p.1 = x) || (T.tab.lookup p.1).isNone
  | .cell=>false
  | .free=>(decide (T.names.lookup p.1 = some .cell) || decide (T.names.lookup p.1 = some .free)) && (T.tab.lookup p.1).isSome && decide (p.1 ≠ x)
  | _=>true))
noncomputable def isCall (e:Expr):Bool:=e.ctorIdx == 16
noncomputable def attrOk (e:Expr):Bool:=!isCall e
noncomputable def keyOf (o:Option Expr):Option (List Char):=o.bind fun e=>(strC e).bind fromS
abbrev RecE:=Tb→Expr→Option Ex
noncomputable def clsGl:Gl→Option (List (Str × Nat) × List Str × Nat)
 | .cls ms ats f=>some (ms,ats,f)
 | _=>none
theorem clsGl_i (g:Gl):Is (clsGl g) fun q=>g = .cls q.1 q.2.1 q.2.2:=by
 cases g <;> first | exact rfl | exact trivial
noncomputable def clOf:List (Str × Gl)→Option (List (Str × Nat) × List Str × Nat)
 | []=>none
 | p :: l=>if (clsGl p.2).isSome = true then clsGl p.2 else clOf l
theorem clOf_i (gl:List (Str × Gl)):Is (clOf gl) fun q=>∃ x,(x,Gl.cls q.1 q.2.1 q.2.2) ∈ gl:=by
 induction gl with
 | nil=>exact trivial
 | cons p l ih=>exact Is.ite2 (fun _=>(clsGl_i p.2).imp fun _ h=>⟨p.1,h ▸ .head _⟩) fun _=>ih.imp fun _ h=>h.imp fun _ hx=>.tail _ hx
noncomputable def cAttr (r:Expr→Option Ex) (T:Tb) (o:Expr) (name:Str):Option (Ex × List Char):=if attrOk o = true then (clOf T.gl).bind fun q=>if q.2.1.contains name = true then (fromS name).bind fun nm=>(r o).map fun a=>(a,nm) else none else none
noncomputable def cMeth (r:Expr→Option Ex) (T:Tb) (o:Expr) (name:Str) (args:List Expr):Option Ex:=if args.length < 30 then (clOf T.gl).bind fun q=>(q.1.lookup name).bind fun g=>(fromS name).bind fun nm=>(r o).bind fun a=>(mapO r args).map fun es=>.meth 0 g nm a es else none
abbrev compTb (T:Tb) (x:Str) (sc:Scope):Tb:={ T with names:=sc.names,tab:=(x,T.n) :: T.tab,n:=T.n + 1 }
noncomputable def cUn (op:UnaryOp) (a:Ex):Option Ex:=match op with
 | .Not=>some (.prim false .not [a])
 | .USub=>some (.prim false .neg [a])
 | _=>none
noncomputable def cCmp (r:Expr→Option Ex) (l:Expr) (ops:List CmpOp) (rs:List Expr):Option Ex:=match ops with
 | [op]=>oneL (fun x=>(r l).bind fun a=>(r x).map fun b=>.prim false (.cop (copOf? op)) [a,b]) rs
 | [o₁,o₂]=>twoL (fun m x=>(r l).bind fun a=>(r m).bind fun b=>(r x).map fun c=>.cmp2 a (copOf? o₁) b (copOf? o₂) c) rs
 | _=>none
noncomputable def tyGl:Gl→Option String
 | .ty tn=>some tn
 | _=>none
theorem tyGl_i (g:Gl):Is (tyGl g) fun tn=>g = .ty tn:=by
 cases g <;> first | exact rfl | exact trivial
noncomputable def excGl:Gl→Option Nat
 | .exc k=>some k
 | _=>none
theorem excGl_i (g:Gl):Is (excGl g) fun k=>g = .exc k:=by
 cases g <;> first | exact rfl | exact trivial
noncomputable def cIsi (r:Expr→Option Ex) (T:Tb) (args:List Expr):Option Ex :=
 twoL (fun x y=>(nmE y).bind fun t=>(T.glob t).bind fun g=>(tyGl g).bind fun tn=>(tyOf tn).bind fun ty=>(r x).map fun a=>.prim false (.isinst ty) [a]) args
noncomputable def cGl (r:Expr→Option Ex) (T:Tb) (args:List Expr) (pos:Pos) (g:Gl):Option Ex:=match g with
 | .fn i=>(mapO r args).map fun es=>.call i es
 | .bi b=>if b = "isinstance" then cIsi r T args else (biPrim b args.length).bind fun p=>(mapO r args).map fun es=>.prim false p es
 | .ty t=>(tyPrim t args.length).bind fun p=>(mapO r args).map fun es=>.prim (T.isMu pos) p es
 | .cls _ _ f=>oneL (fun x=>(r x).map fun a=>.new 0 f [a]) args
 | _=>none
noncomputable def cCall (r:Expr→Option Ex) (T:Tb) (f:Expr) (args:List Expr) (kws:List Keyword) (pos:Pos):Option Ex:=nilL (match f with
  | .Name g _=>(T.glob g).bind (cGl r T args pos)
  | .Attribute o name apos=>if attrOk o = true∧apos.endLine = pos.line then
    if (methPrim name args.length (zOf name o args)).isSome = true then (methPrim name args.length (zOf name o args)).bind fun tp=>(r o).bind fun a=>(mapO r args).map fun es=>.mcall tp.1 (T.isMu pos && tp.2.fresh) tp.2 a es else cMeth r T o name args
    else none
  | _=>none) kws
noncomputable def cIfs (r:Expr→Option Ex):List Expr→Option (Option Ex)
 | []=>some none
 | t :: l=>nilL ((r t).map some) l
noncomputable def cComp (r:RecE) (T:Tb) (elt:Expr) (gens:List Comprehension) (sc:Scope) (pos:Pos):Option Ex:=oneL (fun g=>(nmE g.target).bind fun x=>if g.is_async = 0∧compOk T x sc = true then
   (r T g.iter).bind fun i=>(r (compTb T x sc) elt).bind fun b=>(cIfs (r (compTb T x sc)) g.ifs).map fun q=>.comp (T.isMu pos) b i q
   else none) gens
noncomputable def cDict1 (r:Expr→Option Ex) (mu:Bool) (ks:List (Option Expr)) (vs:List Expr):Option Ex :=
 oneL (fun k=>k.bind fun ke=>oneL (fun ve=>(r ke).bind fun a=>(r ve).map fun b=>.prim mu .mkdict1 [a,b]) vs) ks
noncomputable def cDict (r:Expr→Option Ex) (mu:Bool) (ks:List (Option Expr)) (vs:List Expr):Option Ex :=
 if ks.length = vs.length∧ks.length ≤ 15 then (mapO keyOf ks).bind fun kcs=>(mapO r vs).map fun xs=>.prim mu (.mkdict kcs) xs else none
noncomputable def cOpt (r:Expr→Option Ex) (o:Option Expr):Option Ex:=match o with
 | none=>some (.cst .none)
 | some e=>r e
noncomputable def cSub (r:Expr→Option Ex) (v sl:Expr):Option Ex:=match sl with
 | .Slice lo hi st _ =>
  if st.isNone then (r v).bind fun a=>(cOpt r lo).bind fun b=>(cOpt r hi).map fun c=>.prim false .slice [a,b,c] else none
 | sl=>if isSlice sl then none else (r v).bind fun a=>(r sl).map fun b=>.prim false .item [a,b]
noncomputable def cE:Nat→Tb→Expr→Option Ex
 | 0,_,_=>none
 | k + 1,T,e=>match e with
  | .Constant c _ _=>cConst c
  | .Name x _=>cName T x
  | .BinOp l op r pos=>(bopOf op).bind fun o=>(cE k T l).bind fun a=>(cE k T r).bind fun b=>if o = .mul∧isLst l = true then some (.prim true .rep [a,b]) else some (.prim false (.bop o) [a,b])
  | .UnaryOp op x _=>(cE k T x).bind (cUn op)
  | .BoolOp op vs _=>(mapO (cE k T) vs).bind (boolEx op)
  | .Compare l ops rs _=>cCmp (cE k T) l ops rs
  | .Call f args kws pos=>cCall (cE k T) T f args kws pos
  | .Subscript v sl _=>cSub (cE k T) v sl
  | .List es pos=>(mapO (cE k T) es).map fun xs=>.prim (T.isMu pos) .mklist xs
  | .Tuple es _ _=>(mapO (cE k T) es).map fun xs=>.prim false .mktup xs
  | .Dict ks vs pos=>if (cDict (cE k T) (T.isMu pos) ks vs).isSome = true then cDict (cE k T) (T.isMu pos) ks vs else cDict1 (cE k T) (T.isMu pos) ks vs
  | .ListComp elt gens sc pos=>cComp (cE k) T elt gens sc pos
  | .Attribute o name _=>(cAttr (cE k T) T o name).map fun q=>.prim false (.attr q.2) [q.1]
  | _=>none
noncomputable def Tb.slot (T:Tb) (x:Str):Option Nat :=
 match T.names.lookup x with
 | some .local | some .cell=>match T.tab.lookup x with
  | some i=>if i < T.n then some i else none
  | none=>none
 | _=>none
noncomputable def withFz (_:Tb) (_:Nat) (s:St):List St:=[s]
noncomputable def flatO:Option (List (List St))→Option (List St)
 | some l=>some l.flatten
 | none=>none
noncomputable def cTgt2 (T:Tb) (a b:Expr):Option (List Nat):=(nmE a).bind fun x=>(nmE b).bind fun y=>(T.slot x).bind fun i=>(T.slot y).map fun j=>[i,j]
noncomputable def cTgt (T:Tb) (t:Expr):Option (Nat ⊕ List Nat):=match t with
 | .Name x _=>(T.slot x).map .inl
 | .Tuple es _ _=>(twoL (cTgt2 T) es).map .inr
 | _=>none
noncomputable def isRev (T:Tb) (f:Expr):Bool:=(nmE f).any fun x=>(T.glob x).any fun g=>tyGl g == some "reversed"
noncomputable def cIt (r:Expr→Option Ex) (T:Tb) (e:Expr):Option (Bool × Ex):=match e with
 | .Call f args kws p=>if isRev T f = true then nilL (oneL (fun a=>(r a).map fun x=>(true,x)) args) kws else (r (.Call f args kws p)).map fun x=>(false,x)
 | e=>(r e).map fun x=>(false,x)
noncomputable def cPair (r:Expr→Option Ex) (T:Tb) (es:List Expr) (v:Expr):Option St:=
 if isCall v then (twoL (cTgt2 T) es).bind fun is=>(r v).map fun e=>.asgTup is e else none
noncomputable def cAsg (r:Expr→Option Ex) (T:Tb) (t v:Expr) (l:Nat):Option (List St):=match t with
 | .Name x _=>(T.slot x).bind fun i=>(r v).map fun e=>withFz T l (.asg i e)
 | .Tuple es _ _=>(cPair r T es v).map fun s=>withFz T l s
 | .Subscript o i _=>if isComp v then none else (r v).bind fun ev=>(r o).bind fun eo=>(r i).map fun ei=>withFz T l (.setItem eo ei ev)
 | .Attribute o name _=>if isComp v then none else (r v).bind fun ev=>(cAttr r T o name).map fun q=>withFz T l (.setAttr q.1 q.2 ev)
 | _=>none
noncomputable def cRz (T:Tb) (e:Expr):Option Nat:=match e with
 | .Call f args kws _=>nilL (oneL (fun a=>(strC a).bind fun _=>(nmE f).bind fun x=>(T.glob x).bind excGl) args) kws
 | _=>none
noncomputable def cRaise (T:Tb) (e cause:Option Expr):Option Nat:=if cause.isNone = true then e.bind (cRz T) else none
noncomputable def retE:Stmt→Option Expr
 | .Return v _=>v
 | _=>none
noncomputable def retN (b:List Stmt):Option Unit:=oneL (fun s=>(retE s).bind fun e=>(cstC e).bind nonK) b
theorem retN_i (b:List Stmt):Is (retN b) fun _=>∃ k p p',b = [.Return (some (.Constant .none k p)) p']:=by
 rcases b with _ | ⟨s,_ | _⟩
 ·exact trivial
 ·refine Is.bind (R:=fun e=>∃ p',s = .Return (some e) p') ?_ fun e h=>(cstC_i e).bind fun c h1=>(nonK_i c).imp fun _ h2=>?_
  ·cases s with
   | Return v p =>
    cases v with
    | none=>exact trivial
    | some e=>exact ⟨p,rfl⟩
   | _=>exact trivial
  ·obtain ⟨p',rfl⟩:=h
   obtain ⟨k,p,rfl⟩:=h1
   subst h2
   exact ⟨k,p,p',rfl⟩
 ·exact trivial
noncomputable def cHd (T:Tb) (h:ExceptHandler):Option Nat:=match h with
 | .ExceptHandler t nm body _=>if nm.isSome = true then none else t.bind fun t=>(nmE t).bind fun x=>(T.glob x).bind fun g=>(excGl g).bind fun j=>(retN body).map fun _=>j
noncomputable def cS:Nat→Tb→Stmt→Option (List St)
 | 0,_,_=>none
 | k + 1,T,s=>match s with
  | .Assign ts v pos=>oneL (fun t=>cAsg (cE k T) T t v pos.line) ts
  | .While t body els pos=>nilL ((cE k T t).bind fun c=>(flatO (mapO (cS k T) body)).map fun xs=>withFz T pos.line (.while_ c xs)) els
  | .Expr v pos=>if isComp v then none else (cE k T v).map fun e=>withFz T pos.line (.expr e)
  | .If t a b pos=>(cE k T t).bind fun c=>(flatO (mapO (cS k T) a)).bind fun xs=>(flatO (mapO (cS k T) b)).map fun ys=>withFz T pos.line (.ite c xs ys)
  | .For t it body els pos=>nilL ((cTgt T t).bind fun tg=>(cIt (cE k T) T it).bind fun q=>(flatO (mapO (cS k T) body)).map fun xs=>withFz T pos.line (.forIn q.1 tg q.2 xs)) els
  | .Return v _=>(match v with
   | some e=>(cE k T e).map fun x=>[.ret x]
   | none=>some [.ret (.cst .none)])
  | .Pass _=>some [.pass]
  | .Raise e cause _=>(cRaise T e cause).map fun j=>[.raise j]
  | .Try body hs els fin pos=>nilL (nilL (oneL (fun h=>(flatO (mapO (cS k T) body)).bind fun bs=>(cHd T h).map fun j=>withFz T pos.line (.try_ bs j)) hs) fin) els
  | _=>none
noncomputable def cSs (k:Nat) (T:Tb) (b:List Stmt):Option (List St):=flatO (mapO (cS k T) b)
end Mine
end
noncomputable section
namespace Mine
open PySem PySem.Calls PyProof.Rows
inductive ResL (c:Cx) (as:Adr) (X:List Addr) (h:HP) (Q:List V→AH→Prop) (xs:List Value) (s':Shared):Prop
 | mk (vs:List V) (H':AH) (as':Adr):Ext as h as'→SR c as' X H' s'→Kept as X h s'.heap→VRs c as' X s'.heap vs xs→Q vs H'→ResL c as X h Q xs s'
inductive ResB (c:Cx) (as:Adr) (X:List Addr) (h:HP) (Q:Bool→AH→Prop) (b:Bool) (s':Shared):Prop
 | mk (H':AH) (as':Adr):Ext as h as'→SR c as' X H' s'→Kept as X h s'.heap→Q b H'→ResB c as X h Q b s'
section
variable {c:Cx} {as as₁:Adr} {X:List Addr} {h h₁:HP} {s':Shared}
theorem Res.lift {Q:QE} {x:Value} (e:Ext as h as₁) (k:Kept as X h h₁) (r:Res c as₁ X h₁ Q x s'):Res c as X h Q x s':=by
 obtain ⟨v,H',as',e',S,k',hv,q⟩:=r
 exact ⟨v,H',as',e.trans k e',S,k.trans e k',hv,q⟩
theorem ResL.lift {Q:List V→AH→Prop} {x:List Value} (e:Ext as h as₁) (k:Kept as X h h₁) (r:ResL c as₁ X h₁ Q x s'):ResL c as X h Q x s':=by
 obtain ⟨v,H',as',e',S,k',hv,q⟩:=r
 exact ⟨v,H',as',e.trans k e',S,k.trans e k',hv,q⟩
theorem ResB.lift {Q:Bool→AH→Prop} {x:Bool} (e:Ext as h as₁) (k:Kept as X h h₁) (r:ResB c as₁ X h₁ Q x s'):ResB c as X h Q x s':=by
 obtain ⟨H',as',e',S,k',q⟩:=r
 exact ⟨H',as',e.trans k e',S,k.trans e k',q⟩
end
structure ACk (c:Cx) (A:Around) (n:Nat):Prop where
 hh:A.handled = none
 hd:A.depth + 2 * n + 5 ≤ recursionLimit
 hu:A.units + 10 * n + 300 < cLine
structure AOk (c:Cx) (A:Around) (n:Nat):Prop extends ACk c A n where
 hr:A.depth + 2 * n + 6 ≤ recursionLimit
 hw:A.units + 10 * n + 305 < cLine
theorem AOk.u64 {c:Cx} {A:Around} {n:Nat} (a:AOk c A n):A.units + 64 < cLine:=by have:=a.hu; lia
structure KOk (T:Tb) (env:Env):Prop where
 loc:∀ x,T.names.lookup x = some .local→env.kindOf x = some .local
 cell:∀ x,T.names.lookup x = some .cell→env.kindOf x = some .cell
 free:∀ x,T.names.lookup x = some .free→env.kindOf x = some .free ∨ env.kindOf x = some .cell
 glob:∀ x,T.names.lookup x = some .globalImplicit→env.kindOf x = some .globalImplicit
structure Rdy (c:Cx) (T:Tb) (env:Env) (A:Around) (n:Nat) (s:Shared) (as:Adr) (X:List Addr) (H:AH) (ρ:Fm):Prop where
 a:AOk c A n
 S:SR c as X H s
 F:FR c as X s.heap env T.tab ρ
 K:KOk T env
 len:ρ.length = T.n
 fr:EnvFr c A X as s.heap env
theorem Rdy.next {c:Cx} {T:Tb} {env:Env} {A:Around} {n:Nat} {s s₁:Shared} {as as₁:Adr} {X:List Addr} {H H₁:AH} {ρ:Fm} (R:Rdy c T env A n s as X H ρ)
  (e:Ext as s.heap as₁) (k:Kept as X s.heap s₁.heap) (S:SR c as₁ X H₁ s₁):Rdy c T env A n s₁ as₁ X H₁ ρ :=
 ⟨R.a,S,R.F.keep k e,R.K,R.len,R.fr.keep e k⟩
noncomputable def GlOk (c:Cx) (x:Str):Gl→Prop
 | .fn f=>c.mg x = some (.ref (c.fad f))
 | .cst v=>∃ y,c.mg x = some y∧∀ as X h,VR c as X h v y
 | .bi b=>c.mg x = none∧c.mb x = some (.builtin b)
 | .ty t=>c.mg x = none∧c.mb x = some (.type t)
 | .exc k=>c.mg x = some (.ref (c.xcls k))∧c.P.sub k k = true
 | .cls _ _ _=>c.mg x = some (.ref (c.ccls 0))
inductive CK (c:Cx) (ms:List (Str × Nat)) (ats:List Str) (f:Nat):Prop
 | mk {N:Addr} {mN:Str→Option Value}:ClsAt c.base (c.ccls 0) N mN→mN "__setattr__" = none→mN "__getattribute__" = none→mN "__getattr__" = none→(∀ n ∈ ats,mN n = none∧typeLookup (.type "object") n = pure none) →
   (∀ n g,ms.lookup n = some g→mN n = some (.ref (c.fad g))∧(∃ o,c.base.get? (c.fad g) = some o∧o.cls = .type "function")∧(∃ y,typeLookup (.type "object") n = pure y)∧∃ fn,c.P.fns g = some fn)→mN "__init__" = some (.ref (c.fad f))→(∃ o,c.base.get? (c.fad f) = some o∧o.cls = .type "function")→(∃ fn,c.P.fns f = some fn)→CK c ms ats f
structure SC (c:Cx) (n:Nat):Prop where
 run:∀ {f:Nat} {fn:Fn} {A:Around} {s:Shared} {as:Adr} {X:List Addr} {H:AH} {vs:List V} {xs:List Value} {Q:QE} {XX:XE},
 c.P.fns f = some fn→ACk c A n→(∃ l,FrOk c A X as s.heap l)→SR c as X H s→VRs c as X s.heap vs xs→callF c.P n f vs H Q XX→wpAny c.M A (call (.ref (c.fad f)) xs) (Res c as X s.heap Q) (ERes c as X s.heap XX) s
structure Cok (c:Cx) (gl:List (Str × Gl)):Prop where
 g:c.base.Ns mainGlobals c.mg
 b:c.base.Ns builtinsNs c.mb
 nolim:c.base.NoLimit
 x:∀ k,c.P.sub k k = true→∃ bm,XC c.base (c.xcls k) bm∧∀ x j,gl.lookup x = some (.exc j)→(Value.ref (c.xcls k) :: bm).contains (.ref (c.xcls j)) = c.P.sub k j
 cl:∀ x ms ats f,(x,Gl.cls ms ats f) ∈ gl→CK c ms ats f
 gl:∀ x v,gl.lookup x = some v→GlOk c x v
 fobj:∀ f fn,c.P.fns f = some fn→∃ o,c.base.get? (c.fad f) = some o∧o.data = .func (c.fdat f)
structure SE (c:Cx) (n:Nat) (T:Tb) (e:Expr) (ex:Ex):Prop where
 run:∀ {env:Env} {A:Around} {s:Shared} {as:Adr} {X:List Addr} {H:AH} {ρ:Fm} {Q:QE} {XX:XE},
 Rdy c T env A n s as X H ρ→wpE c.P (callF c.P n) ex ρ H Q XX→wpAny c.M A (eval e env) (Res c as X s.heap Q) (ERes c as X s.heap XX) s
structure ST (c:Cx) (n:Nat) (T:Tb) (e:Expr) (ex:Ex):Prop where
 run:∀ {env:Env} {A:Around} {s:Shared} {as:Adr} {X:List Addr} {H:AH} {ρ:Fm} {P:QE} {Q:Bool→AH→Prop} {XX:XE},(∀ v H,P v H→okB (truth v) fun b=>Q b H) →
 Rdy c T env A n s as X H ρ→wpE c.P (callF c.P n) ex ρ H P XX→wpAny c.M A (isTrue e env (eval e env)) (ResB c as X s.heap Q) (ERes c as X s.heap XX) s
section
variable {c:Cx} {n:Nat} {T:Tb} {gl:List (Str × Gl)}
theorem se_two {e₁ e₂:Expr} {x₁ x₂:Ex} {env:Env} {A:Around} {s:Shared} {as:Adr} {X:List Addr} {H:AH} {ρ:Fm} {XX:XE} {W:V→V→AH→Prop} {t:Value→Value→Sem Value} {Q:QE}
  (h₁:SE c n T e₁ x₁) (h₂:SE c n T e₂ x₂) (R:Rdy c T env A n s as X H ρ)
  (w:wpE c.P (callF c.P n) x₁ ρ H (fun v H'=>wpE c.P (callF c.P n) x₂ ρ H' (fun v' H''=>W v v' H'') XX) XX)
  (tail:∀ {s':Shared} {as':Adr} {H':AH} {v v':V} {y y':Value},SR c as' X H' s'→VR c as' X s'.heap v y→VR c as' X s'.heap v' y'→W v v' H'→wpAny c.M A (t y y') (Res c as' X s'.heap Q) (ERes c as' X s'.heap XX) s') :
  wpAny c.M A (eval e₁ env) (fun y s₁=>wpAny c.M A (eval e₂ env) (fun y' s₂=>wpAny c.M A (t y y') (Res c as X s.heap Q) (ERes c as X s.heap XX) s₂) (ERes c as X s.heap XX) s₁) (ERes c as X s.heap XX) s:=by
 refine wpAny_mono (h₁.run R w) (fun y s₁ r=>?_) fun _ _ e=>e
 obtain ⟨v,H₁,as₁,e1,S1,k1,hv,w1⟩:=r
 refine wpAny_mono (h₂.run (R.next e1 k1 S1) w1) (fun y' s₂ r=>?_) fun _ _ e=>e.lift e1 k1
 obtain ⟨v',H₂,as₂,e2,S2,k2,hv',w2⟩:=r
 refine wpAny_mono (tail S2 (hv.keep k2 e2) hv' w2) (fun x s₃ r=>?_) fun _ _ e=>(e.lift e2 k2).lift e1 k1
 exact (r.lift e2 k2).lift e1 k1
theorem primM_false {p:Prim} {vs:List V} {H:AH}:primM c.P false p vs H = prim c.P p vs H:=rfl
theorem ge_of {x:Str} {g:Gl} (h:T.glob x = some g):T.names.lookup x = some .globalImplicit∧T.gl.lookup x = some g∧(x == ("__debug__":Str)) = false:=by
 replace h:=nite_some h
 refine ea0_2 (h) fun hd h=>?_
 refine ea0_2 (ite_some h) fun h1 h2=>?_
 exact ⟨h1,h2,hd⟩
theorem n_globS {x:Str} {pos:Pos} {g:Gl} {env:Env} {A:Around} {s:Shared} {R:Value→Shared→Prop} {E:Value→Shared→Prop} {y:Value}
  (C:Cok c T.gl) (h:T.glob x = some g) (hk:env.scope.kind = .function) (eg:env.globals = mainGlobals) (eb:env.builtins = builtinsNs) (K:KOk T env) (st:c.base.StaysIn s.heap) (hy:c.mg x = some y ∨ (c.mg x = none∧c.mb x = some y)) (r:R y s):wpAny c.M A (eval (.Name x pos) env) R E s:=by
 refine Name_function_global hk (K.glob x (ge_of h).1) ?_ (ge_of h).2.2
 have hg:s.heap.Ns env.globals c.mg:=eg ▸ C.g.keeps st
 exact hy.elim (fun hy=>loadGlobal_global hg hy r) fun hy=>loadGlobal_builtin hg hy.1 (eb ▸ C.b.keeps st) hy.2 r
theorem n_glob {x:Str} {pos:Pos} {g:Gl} {env:Env} {A:Around} {s:Shared} {as:Adr} {X:List Addr} {H:AH} {ρ:Fm} {R:Value→Shared→Prop} {E:Value→Shared→Prop} {y:Value}
  (C:Cok c T.gl) (h:T.glob x = some g) (Rd:Rdy c T env A n s as X H ρ) (hy:c.mg x = some y ∨ (c.mg x = none∧c.mb x = some y)) (r:R y s):wpAny c.M A (eval (.Name x pos) env) R E s:=n_globS C h Rd.F.kind Rd.F.glob Rd.F.bi Rd.K Rd.S.stays hy r
theorem var_of {x:Str} {i:Nat} (h:T.var x = some i):T.tab.lookup x = some i∧(T.names.lookup x = some .local ∨ T.names.lookup x = some .cell ∨ T.names.lookup x = some .free)∧(x == ("__debug__":Str)) = false∧(x == ("__classdict__":Str)) = false:=by
 replace h:=nite_some h
 refine ea0_2 (h) fun hd h=>?_
 refine ea0_2 (ite_some h) fun h1 h2=>?_
 exact ⟨h2,h1,Bool.or_eq_false_iff.mp hd⟩
theorem fromS_ok {s:Str} {l:List Char} (h:fromS s = some l):toS l = s∧l.length ≤ bnd:=by
 replace h:=ite_is h
 obtain ⟨hh,rfl⟩:=h
 exact ⟨hh.1,Nat.le_trans hh.2 (by decide)⟩
theorem se_const {cst:Const} {kk:Nat} {pos:Pos} {ex:Ex} (h:cConst cst = some ex):SE c n T (.Constant cst kk pos) ex:=by
 refine ⟨?_⟩
 intro env A s as X H ρ Q XX R w
 cases cst with
 | none=>(replace h:=Option.some.inj h; (replace h:=Eq.symm h; subst h)); exact wpAny_pure (Res.now (tk:=s.toks) R.S .none w)
 | bool=>(replace h:=Option.some.inj h; subst h); exact wpAny_pure (Res.now (tk:=s.toks) R.S (.bool _) w)
 | int=>(replace h:=Option.some.inj h; subst h); exact wpAny_Constant_int (Res.now R.S (.int _ _) w)
 | str =>
  refine ea1_2 (map_is h) ?_
  intro l h1 h2
  subst h2
  refine ea0_2 (fromS_ok h1) fun h3 h4=>?_
  refine Constant_str ?_
  subst h3
  exact Res.now R.S (.str _ _ h4) w
 | _=>exact nos h
theorem cName_is {x:Str} {ex:Ex} (h:cName T x = some ex):(∃ i,T.var x = some i∧ex = .var i) ∨ ∃ v,T.glob x = some (.cst v)∧ex = .cst v:=by
 refine Is.of (o:=varE (glE (T.glob x)) (T.var x)) (R:=fun ex=>(∃ i,T.var x = some i∧ex = .var i) ∨ ∃ v,T.glob x = some (.cst v)∧ex = .cst v) ?_ h
 clear h
 generalize T.var x = a
 cases a with
 | some i=>exact .inl ⟨i,rfl,rfl⟩
 | none =>
  generalize T.glob x = b
  cases b with
  | none=>exact trivial
  | some g =>
   cases g with
   | cst v=>exact .inr ⟨v,rfl,rfl⟩
   | _=>exact trivial
theorem wpE_var_is {P:Prog} {C:Calls} {i:Nat} {ρ:Fm} {H:AH} {Q:QE} {XX:XE} (w:wpE P C (.var i) ρ H Q XX):∃ v,ρ[i]? = some (some v)∧Q v H:=by
 simp only [wpE_var] at w
 match h:ρ[i]?,w with
 | some (some v),w=>exact ⟨v,rfl,w⟩
theorem se_name {x:Str} {pos:Pos} {ex:Ex} (C:Cok c T.gl) (h:cName T x = some ex):SE c n T (.Name x pos) ex:=by
 refine ⟨?_⟩
 intro env A s as X H ρ Q XX R w
 refine Or.elim (cName_is h) (fun q_=>?_) (fun q_=>?_)
 ·obtain ⟨i,hi,rfl⟩:=q_; refine ea0_4 (var_of hi) ?_
  intro h1 h2 h3 h4
  refine ea1_2 (wpE_var_is w) ?_
  intro v hv w
  refine wpAny_Name (n_load R.S R.F h1 ?_ hv h4 w) h3
  rcases h2 with h2 | h2 | h2
  ·exact .inl (R.K.loc x h2)
  ·exact .inr (.inl (R.K.cell x h2))
  ·refine Or.elim (R.K.free x h2) (fun q=>?_) fun q=>?_
   ·exact .inr (.inr q)
   ·exact .inr (.inl q)
 ·obtain ⟨v,hg,rfl⟩:=q_; refine ea0_3 (ge_of hg) ?_
  intro h1 h2 h3
  refine ea1_2 (C.gl x _ h2) ?_
  intro y e1 e2
  exact n_glob C hg R (.inl e1) (Res.now (tk:=s.toks) R.S (e2 _ _ _) w)
theorem se_two_prim {e₁ e₂:Expr} {x₁ x₂:Ex} {p:Prim} {mu:Bool} {env:Env} {A:Around} {s:Shared} {as:Adr} {X:List Addr} {H:AH} {ρ:Fm} {XX:XE} {t:Value→Value→Sem Value} {Q:QE}
  (h₁:SE c n T e₁ x₁) (h₂:SE c n T e₂ x₂) (R:Rdy c T env A n s as X H ρ) (w:wpE c.P (callF c.P n) (.prim mu p [x₁,x₂]) ρ H Q XX)
  (tail:∀ {s':Shared} {as':Adr} {H':AH} {v v':V} {y y':Value},SR c as' X H' s'→VR c as' X s'.heap v y→VR c as' X s'.heap v' y'→okE (primM c.P mu p [v,v'] H') Q→wpAny c.M A (t y y') (Res c as' X s'.heap Q) (ERes c as' X s'.heap XX) s') :
  wpAny c.M A (eval e₁ env) (fun y s₁=>wpAny c.M A (eval e₂ env) (fun y' s₂=>wpAny c.M A (t y y') (Res c as X s.heap Q) (ERes c as X s.heap XX) s₂) (ERes c as X s.heap XX) s₁) (ERes c as X s.heap XX) s:=by
 simp only [wpE_prim,wpEs_cons] at w
 simp only [wpEs_cons,wpEs_nil] at w
 exact se_two (W:=fun v v' H'=>okE (primM c.P mu p [v,v'] H') Q) h₁ h₂ R w tail
theorem okE_some {r:Option (V × AH)} {Q:QE} (h:okE r Q):∃ v H',r = some (v,H')∧Q v H':=by
 cases r with
 | none=>exact h.elim
 | some p=>exact ⟨p.1,p.2,rfl,h⟩
theorem okB_some {r:Option Bool} {K:Bool→Prop} (h:okB r K):∃ b,r = some b∧K b:=by
 cases r with
 | none=>exact h.elim
 | some p=>exact ⟨p,rfl,h⟩
theorem bopOf_eq {op:Operator} {o:Bop} (h:bopOf op = some o):op = opOf o:=Is.of (R:=fun o=>op = opOf o) (by cases op <;> first | exact rfl | exact trivial) h
theorem se_binop {l r:Expr} {op:Operator} {o:Bop} {pos:Pos} {a b:Ex} {mu:Bool} (ho:bopOf op = some o) (h₁:SE c n T l a) (h₂:SE c n T r b):SE c n T (.BinOp l op r pos) (.prim mu (.bop o) [a,b]):=by
 refine ⟨?_⟩
 intro env A s as X H ρ Q XX R w
 refine wpAny_BinOp (se_two_prim h₁ h₂ R w fun S hv hv' q=>?_)
 cases mu with
 | false =>
  refine ea2_2 (okE_some q) ?_
  intro v H' e q'
  refine ea1_2 (Option.map_eq_some_iff.mp (show (binop o _ _ _).map _ = _ from e)) ?_
  intro z e1 e2
  cases e2
  exact p_binop S hv hv' (bopOf_eq ho) e1 q'
 | true=>exact q.elim
theorem se_rep {l r:Expr} {op:Operator} {o:Bop} {pos:Pos} {a b:Ex} (ho:bopOf op = some o) (hm:o = .mul) (h₁:SE c n T l a) (h₂:SE c n T r b):SE c n T (.BinOp l op r pos) (.prim true .rep [a,b]):=by
 refine ⟨?_⟩
 intro env A s as X H ρ Q XX R w
 refine wpAny_BinOp (se_two_prim h₁ h₂ R w fun {s' as' H' v v' y y'} S hv hv' q=>?_)
 have e:=bopOf_eq ho
 subst hm
 subst e
 replace q:okE ((pRep [v,v'] H').bind fun r=>thaw r.1 r.2) Q:=q
 cases v with
 | lst vs =>
  cases vs with
  | nil=>exact q.elim
  | cons x vs =>
   cases vs with
   | cons _ _=>exact q.elim
   | nil =>
    cases v' with
    | int k =>
     replace q:okE ((if 0 ≤ k∧k ≤ 1000 then some (V.lst (List.replicate k.toNat x),H') else none:Option (V × AH)).bind fun r=>thaw r.1 r.2) Q:=q
     by_cases h:0 ≤ k∧k ≤ 1000
     ·rw [if_pos h] at q
      exact p_rep S hv hv' h.1 h.2 q
     ·rw [if_neg h] at q
      exact q.elim
    | _=>exact q.elim
 | _=>exact q.elim
inductive A2 {α β:Type} (R:α→β→Prop):List α→List β→Prop
 | nil:A2 R [] []
 | cons {a:α} {b:β} {l:List α} {m:List β}:R a b→A2 R l m→A2 R (a :: l) (b :: m)
theorem truth_bool {v:V} {b:Bool} (h:truth v = some b):v = .bool b:=Is.of (R:=fun b=>v = .bool b) (by cases v <;> first | exact rfl | exact trivial) h
theorem st_plain {e:Expr} {ex:Ex} (hp:∀ env whole,isTrue e env whole = (do let v ← whole; standAt e.pos; holding [v] (truthy v))) (h:SE c n T e ex):ST c n T e ex:=by
 refine ⟨?_⟩
 intro env A s as X H ρ P Q XX hP R w
 rw [hp]
 refine wpAny_bind (wpAny_mono (h.run R w) (fun y s₁ r=>wpAny_bind (wpAny_standAt (wpAny_holding ?_))) fun _ _ e=>e)
 obtain ⟨v,H₁,as₁,e1,S1,k1,hv,q⟩:=r
 replace q:=okB_some (hP _ _ q)
 refine ea1_2 q ?_
 clear q
 intro b hb q
 clear h hp hP w
 cases truth_bool hb
 cases hv.inv
 exact wpAny_truthy_bool ⟨H₁,as₁,e1,S1,k1,q⟩
theorem se_not {x:Expr} {pos:Pos} {a:Ex} (h:SE c n T x a):SE c n T (.UnaryOp .Not x pos) (.prim false .not [a]):=by
 refine ⟨?_⟩
 intro env A s as X H ρ Q XX R w
 simp only [wpE_prim,wpEs_cons] at w
 simp only [wpEs_nil] at w
 refine wpAny_UnaryOp (wpAny_mono (h.run R w) (fun y s₁ r=>?_) fun _ _ e=>e)
 obtain ⟨v,H₁,as₁,e1,S1,k1,hv,q⟩:=r
 refine ea2_2 (okE_some q) ?_
 intro v' H' e q'
 refine ea1_2 (map_is (show (truth v).map _ = _ from e)) ?_
 intro b e2 e3
 replace e2:=truth_bool e2
 subst e2
 cases e3
 cases hv.inv
 exact not_of (wpAny_truthy_bool ((Res.now (tk:=s₁.toks) S1 (.bool _) q').lift e1 k1))
theorem st_not {x:Expr} {pos:Pos} {a:Ex} (h:ST c n T x a):ST c n T (.UnaryOp .Not x pos) (.prim false .not [a]):=by
 refine ⟨?_⟩
 intro env A s as X H ρ P Q XX hP R w
 simp only [wpE_prim,wpEs_cons] at w
 simp only [wpEs_nil] at w
 refine wpAny_isTrue_Not (wpAny_mono (h.run (Q:=fun b H'=>Q (!b) H') (fun v H' q=>?_) R w) (fun b s₁ r=>let ⟨H₁,as₁,e1,S1,k1,q⟩:=r; ⟨H₁,as₁,e1,S1,k1,q⟩) fun _ _ e=>e)
 clear h w R
 refine ea2_2 (okE_some q) ?_
 intro r H'' e q
 refine ea1_2 (map_is (show (truth v).map _ = _ from e)) ?_
 intro b e2 e3
 clear e
 cases e3
 rw [e2]
 exact hP _ _ q
theorem se_neg {x:Expr} {pos:Pos} {a:Ex} (h:SE c n T x a):SE c n T (.UnaryOp .USub x pos) (.prim false .neg [a]):=by
 refine ⟨?_⟩
 intro env A s as X H ρ Q XX R w
 simp only [wpE_prim,wpEs_cons] at w
 simp only [wpEs_nil] at w
 refine wpAny_UnaryOp (wpAny_mono (h.run R w) (fun y s₁ r=>?_) fun _ _ e=>e)
 obtain ⟨v,H₁,as₁,e1,S1,k1,hv,q⟩:=r
 refine ea2_2 (okE_some q) ?_
 intro v' H' e q'
 refine ea1_2 (map_is (show v.num.map _ = _ from e)) ?_
 intro i e2 e3
 replace e2:=V.num_is e2
 subst e2
 cases e3
 cases hv.inv
 exact PyProof.Rows.neg_int ((Res.now S1 (.int _ _) q').lift e1 k1)
theorem boolOp_cons {pos:Pos} {op:BoolOp} {e₁ e₂:Expr} {es:List Expr} {env:Env}:boolOp pos op (evalEach (e₁ :: e₂ :: es) env) = (do
  let v ← eval e₁ env
  standAt pos
  let t ← holding [v] (truthy v)
  if goes op t then boolOp pos op (evalEach (e₂ :: es) env) else pure v):=by
 show (eval e₁ env >>= fun v=>standAt pos >>= fun _=>holding [v] (truthy v) >>= fun t=>_) = _
 congr 1; funext v; congr 1; funext _; congr 1; funext t
 cases op <;> cases t <;> rfl
theorem se_bool {op:BoolOp} {pos:Pos} {env:Env} {A:Around} {X:List Addr} {ρ:Fm} {XX:XE} {es:List Expr} {xs:List Ex} (h:A2 (SE c n T) es xs):∀ {ex:Ex} {s:Shared} {as:Adr} {H:AH} {Q:QE},boolEx op xs = some ex →
  Rdy c T env A n s as X H ρ→wpE c.P (callF c.P n) ex ρ H Q XX→wpAny c.M A (boolOp pos op (evalEach es env)) (Res c as X s.heap Q) (ERes c as X s.heap XX) s:=by
 induction h with
 | nil=>intro ex s as H Q h; exact nos h
 | cons h₁ h₂ ih =>
  intro ex s as H Q h R w
  cases h₂ with
  | nil=>(replace h:=Option.some.inj h; (replace h:=Eq.symm h; subst h)); exact h₁.run R w
  | cons h₂ h₃ =>
   refine ea1_2 (map_is h) ?_
   clear h
   intro y hy hex
   subst hex
   simp only [wpE_mkB] at w
   rw [boolOp_cons]
   refine wpAny_bind (wpAny_mono (h₁.run R w) (fun v s₁ r=>?_) fun _ _ e=>e)
   obtain ⟨v,H₁,as₁,e1,S1,k1,hv,q⟩:=r
   refine ea1_2 (okB_some q) ?_
   clear q w h₁
   intro b hb q
   cases truth_bool hb
   cases hv.inv
   refine wpAny_bind (wpAny_standAt (wpAny_bind (wpAny_holding (wpAny_truthy_bool ?_))))
   by_cases g:goes op b = true
   ·rw [if_pos g] at q ⊢; exact wpAny_mono (ih hy (R.next e1 k1 S1) q) (fun _ _ r=>r.lift e1 k1) fun _ _ e=>e.lift e1 k1
   ·rw [if_neg g] at q ⊢; exact wpAny_pure ((Res.now (tk:=s₁.toks) S1 (.bool _) q).lift e1 k1)
theorem allTrue_cons {op:BoolOp} {e₁:Expr} {es:List Expr} {env:Env}:allTrue op (e₁ :: es) env = (do
  let t ← isTrue e₁ env (eval e₁ env)
  if goes op t then allTrue op es env else pure t):=by
 simp only [arm_allTrue_cons]
 congr 1; funext t
 cases op <;> cases t <;> rfl
theorem st_bool {op:BoolOp} {env:Env} {A:Around} {X:List Addr} {ρ:Fm} {XX:XE} {es:List Expr} {xs:List Ex} (h:A2 (ST c n T) es xs):∀ {ex:Ex} {s:Shared} {as:Adr} {H:AH} {P:QE} {Q:Bool→AH→Prop},boolEx op xs = some ex→(∀ v H,P v H→okB (truth v) fun b=>Q b H) →
  Rdy c T env A n s as X H ρ→wpE c.P (callF c.P n) ex ρ H P XX→wpAny c.M A (allTrue op es env) (ResB c as X s.heap Q) (ERes c as X s.heap XX) s:=by
 induction h with
 | nil=>intro ex s as H P Q h; exact nos h
 | cons h₁ h₂ ih =>
  intro ex s as H P Q h hP R w
  rw [allTrue_cons]
  cases h₂ with
  | nil =>
   (replace h:=Option.some.inj h; (replace h:=Eq.symm h; subst h))
   refine wpAny_bind (wpAny_mono (h₁.run hP R w) (fun b s₁ r=>?_) fun _ _ e=>e)
   by_cases g:goes op b = true
   ·skip; cases op <;> cases b <;> first | exact wpAny_pure r | cases g
   ·rw [if_neg g]; exact wpAny_pure r
  | cons h₂ h₃ =>
   refine ea1_2 (map_is h) ?_
   clear h
   intro y hy hex
   subst hex
   simp only [wpE_mkB] at w
   refine wpAny_bind (wpAny_mono (h₁.run (Q:=fun t H'=>if goes op t then wpE c.P (callF c.P n) y ρ H' P XX else P (.bool t) H') (fun _ _ q=>q) R w) (fun b s₁ r=>?_) fun _ _ e=>e)
   obtain ⟨H₁,as₁,e1,S1,k1,q⟩:=r
   clear w h₁
   by_cases g:goes op b = true
   ·rw [if_pos g] at q ⊢; exact wpAny_mono (ih hy hP (R.next e1 k1 S1) q) (fun _ _ r=>r.lift e1 k1) fun _ _ e=>e.lift e1 k1
   ·rw [if_neg g] at q ⊢; exact wpAny_pure ⟨H₁,as₁,e1,S1,k1,hP _ _ q⟩
theorem copOf_eq (op:CmpOp):copOf (copOf? op) = op:=by cases op <;> rfl
theorem p_cmp' {A:Around} {E:Value→Shared→Prop} {s:Shared} {as:Adr} {X:List Addr} {H:AH} {Q:QE} {op:CmpOp} {x y:V} {cx cy:Value} {b:Bool} (S:SR c as X H s) (hx:VR c as X s.heap x cx) (hy:VR c as X s.heap y cy) (hu:A.units + 64 < cLine)
  (e:cmpop (copOf? op) x y H = some b) (q:Q (.bool b) H):wpAny c.M A (compareOp op cx cy) (Res c as X s.heap Q) E s:=by
 have h:=p_cmp (A:=A) (E:=E) S hx hy hu e q
 rw [copOf_eq] at h
 exact h
theorem se_cmp {l r:Expr} {op:CmpOp} {pos:Pos} {a b:Ex} (hm:behindInMarks op r = false) (h₁:SE c n T l a) (h₂:SE c n T r b):SE c n T (.Compare l [op] [r] pos) (.prim false (.cop (copOf? op)) [a,b]):=by
 refine ⟨?_⟩
 intro env A s as X H ρ Q XX R w
 refine wpAny_Compare1 (se_two_prim h₁ h₂ R w fun S hv hv' q=>?_) hm
 refine ea2_2 (okE_some q) ?_
 intro v H' e q'
 refine ea1_2 (map_is (show (cmpop (copOf? op) _ _ _).map _ = _ from e)) ?_
 intro z e1 e2
 cases e2
 exact p_cmp' S hv hv' R.a.u64 e1 q'
theorem st_cmp {l r:Expr} {op:CmpOp} {pos:Pos} {a b:Ex} (hm:behindInMarks op r = false) (h₁:SE c n T l a) (h₂:SE c n T r b):ST c n T (.Compare l [op] [r] pos) (.prim false (.cop (copOf? op)) [a,b]):=by
 refine ⟨?_⟩
 intro env A s as X H ρ P Q XX hP R w
 refine wpAny_isTrue_Compare1 ?_ hm
 simp only [wpE_prim,wpEs_cons] at w
 simp only [wpEs_cons,wpEs_nil] at w
 refine wpAny_mono (h₁.run R w) (fun y s₁ r=>?_) fun _ _ e=>e
 obtain ⟨v,H₁,as₁,e1,S1,k1,hv,w1⟩:=r
 refine wpAny_mono (h₂.run (R.next e1 k1 S1) w1) (fun y' s₂ r=>?_) fun _ _ e=>e.lift e1 k1
 obtain ⟨v',H₂,as₂,e2,S2,k2,hv',w2⟩:=r
 refine ea2_2 (okE_some w2) ?_
 intro z H' e q'
 refine ea1_2 (map_is (show (cmpop (copOf? op) v v' _).map _ = _ from e)) ?_
 intro t e3 e4
 cases e4
 replace q':=okB_some (hP _ _ q')
 refine ea1_2 q' ?_
 intro t' h5 q'
 (replace h5:=Option.some.inj h5; subst h5)
 have:=p_cmp' (A:=A) (E:=ERes c as X s.heap XX) (Q:=fun v H=>v = .bool t∧Q t H) S2 (hv.keep k2 e2) hv' R.a.u64 e3 ⟨rfl,q'⟩
 refine wpAny_mono this (fun x s₃ r=>?_) fun _ _ e=>e
 obtain ⟨v3,H3,as3,e6,S3,k3,hv3,rfl,q3⟩:=r
 cases hv3.inv
 exact wpAny_truthy_bool ((ResB.lift e1 k1 (ResB.lift e2 k2 ⟨H3,as3,e6,S3,k3,q3⟩)))
theorem cmp2_run {l m:Expr} {o₁ o₂:CmpOp} {a b d:Ex} (h₁:SE c n T l a) (h₂:SE c n T m b)
  {env:Env} {A:Around} {s:Shared} {as:Adr} {X:List Addr} {H:AH} {ρ:Fm} {Q:QE} {XX:XE} (R:Rdy c T env A n s as X H ρ) (w:wpE c.P (callF c.P n) (.cmp2 a (copOf? o₁) b (copOf? o₂) d) ρ H Q XX)
  {α:Type} {k₁:Value→Value→Value→Sem α} {R₀:α→Shared→Prop}
  (no:∀ {s':Shared} {as':Adr} {H':AH} {y y':Value},Ext as s.heap as'→Kept as X s.heap s'.heap→SR c as' X H' s'→Q (.bool false) H'→wpAny c.M A (k₁ y y' (.bool false)) R₀ (ERes c as X s.heap XX) s')
  (yes:∀ {s':Shared} {as':Adr} {H':AH} {v':V} {y y':Value},Ext as s.heap as'→Kept as X s.heap s'.heap→SR c as' X H' s'→VR c as' X s'.heap v' y' →
   wpE c.P (callF c.P n) d ρ H' (fun z H₃=>okB (cmpop (copOf? o₂) v' z H₃) fun t'=>Q (.bool t') H₃) XX→wpAny c.M A (k₁ y y' (.bool true)) R₀ (ERes c as X s.heap XX) s') :
  wpAny c.M A (eval l env) (fun y s₁=>wpAny c.M A (eval m env) (fun y' s₂=>wpAny c.M A (compareOp o₁ y y') (fun x s₃=>wpAny c.M A (k₁ y y' x) R₀ (ERes c as X s.heap XX) s₃) (ERes c as X s.heap XX) s₂) (ERes c as X s.heap XX) s₁) (ERes c as X s.heap XX) s:=by
 simp only [wpE_cmp2] at w
 refine wpAny_mono (h₁.run R w) (fun y s₁ r=>?_) fun _ _ e=>e
 obtain ⟨v,H₁,as₁,e1,S1,k1,hv,w1⟩:=r
 refine wpAny_mono (h₂.run (R.next e1 k1 S1) w1) (fun y' s₂ r=>?_) fun _ _ e=>e.lift e1 k1
 obtain ⟨v',H₂,as₂,e2,S2,k2,hv',w2⟩:=r
 refine ea1_2 (okB_some w2) ?_
 intro t e3 q
 have:=p_cmp' (A:=A) (E:=ERes c as X s.heap XX) (Q:=fun v H=>v = .bool t∧H = H₂) S2 (hv.keep k2 e2) hv' R.a.u64 e3 ⟨rfl,rfl⟩
 refine wpAny_mono this (fun x s₃ r=>?_) fun _ _ e=>e
 obtain ⟨v3,H3,as3,e6,S3,k3,hv3,rfl,rfl⟩:=r
 cases hv3.inv
 have E:=(e1.trans k1 e2).trans (k1.trans e1 k2) e6
 have K:=(k1.trans e1 k2).trans (e1.trans k1 e2) k3
 cases t with
 | false=>exact no E K S3 q
 | true=>exact yes E K S3 (hv'.keep k3 e6) q
theorem se_cmp2 {l m r:Expr} {o₁ o₂:CmpOp} {pos:Pos} {a b d:Ex} (hm:behindInMarks o₂ r = false) (h₁:SE c n T l a) (h₂:SE c n T m b) (h₃:SE c n T r d):SE c n T (.Compare l [o₁,o₂] [m,r] pos) (.cmp2 a (copOf? o₁) b (copOf? o₂) d):=by
 refine ⟨?_⟩
 intro env A s as X H ρ Q XX R w
 have e0:eval (.Compare l [o₁,o₂] [m,r] pos) env = (do
   let x ← eval l env
   let y ← holding [x] (eval m env)
   standAt pos
   let z ← holding [x,y] (compareOp o₁ x y)
   release [x,y] [z]
   if ← holding [z,y] (truthy z) then (do
    let u ← holding [y] (eval r env)
    standAt pos
    operate [y,u] (compareOp o₂ y u)) else pure z):=by
  have:eval (.Compare l [o₁,o₂] [m,r] pos) env = (do compareChain pos (← eval l env) [o₁,o₂] [eval m env,markedBehindIn o₂ r (eval r env)]):=rfl
  rw [this,markedBehindIn_of_false hm]
  rfl
 rw [e0]
 have hrun:=cmp2_run (k₁:=fun x y z=>(do
   release [x,y] [z]
   if ← holding [z,y] (truthy z) then (do
    let u ← holding [y] (eval r env)
    standAt pos
    operate [y,u] (compareOp o₂ y u)) else pure z)) (R₀:=Res c as X s.heap Q) h₁ h₂ R w ?_ ?_
 ·refine wpAny_bind (wpAny_mono hrun (fun x s₁ r=>wpAny_bind (wpAny_holding (wpAny_mono r (fun y s₂ r=>wpAny_bind (wpAny_standAt (wpAny_bind (wpAny_holding r)))) fun _ _ e=>e))) fun _ _ e=>e)
 ·intro s' as' H' y y' E K S q
  refine wpAny_bind (wpAny_release (wpAny_bind (wpAny_holding (wpAny_truthy_bool ?_))))
  exact wpAny_pure ((Res.now (tk:=s'.toks) S (.bool _) q).lift E K)
 ·intro s' as' H' v' y y' E K S hv' w3
  refine wpAny_bind (wpAny_release (wpAny_bind (wpAny_holding (wpAny_truthy_bool ?_))))
  refine wpAny_bind (wpAny_holding (wpAny_mono (h₃.run (R.next E K S) w3) (fun u s₂ r=>?_) fun _ _ e=>e.lift E K))
  obtain ⟨v4,H4,as4,e4,S4,k4,hv4,q4⟩:=r
  refine ea1_2 (okB_some q4) ?_
  intro t e5 q5
  refine wpAny_bind (wpAny_standAt (wpAny_operating ?_))
  have:=p_cmp' (A:=A) (E:=ERes c as X s.heap XX) S4 (hv'.keep k4 e4) hv4 R.a.u64 e5 q5
  exact wpAny_mono this (fun _ _ r=>(r.lift e4 k4).lift E K) fun _ _ e=>e
theorem st_cmp2 {l m r:Expr} {o₁ o₂:CmpOp} {pos:Pos} {a b d:Ex} (hm:behindInMarks o₂ r = false) (h₁:SE c n T l a) (h₂:SE c n T m b) (h₃:SE c n T r d):ST c n T (.Compare l [o₁,o₂] [m,r] pos) (.cmp2 a (copOf? o₁) b (copOf? o₂) d):=by
 refine ⟨?_⟩
 intro env A s as X H ρ P Q XX hP R w
 have e0:isTrue (.Compare l [o₁,o₂] [m,r] pos) env (eval (.Compare l [o₁,o₂] [m,r] pos) env) = (do
   let x ← eval l env
   let y ← holding [x] (eval m env)
   standAt pos
   let z ← holding [x,y] (compareOp o₁ x y)
   release [x,y] [z]
   if ← holding [z,y] (truthy z) then (do
    let u ← holding [y] (eval r env)
    standAt pos
    let z' ← operate [y,u] (compareOp o₂ y u)
    holding [z'] (truthy z')) else pure false):=by
  have:isTrue (.Compare l [o₁,o₂] [m,r] pos) env (eval (.Compare l [o₁,o₂] [m,r] pos) env) = (do testChain pos (← eval l env) [o₁,o₂] [eval m env,markedBehindIn o₂ r (eval r env)]):=rfl
  rw [this,markedBehindIn_of_false hm]
  rfl
 rw [e0]
 have hrun:=cmp2_run (k₁:=fun x y z=>(do
   release [x,y] [z]
   if ← holding [z,y] (truthy z) then (do
    let u ← holding [y] (eval r env)
    standAt pos
    let z' ← operate [y,u] (compareOp o₂ y u)
    holding [z'] (truthy z')) else pure false)) (R₀:=ResB c as X s.heap Q) h₁ h₂ R w ?_ ?_
 ·refine wpAny_bind (wpAny_mono hrun (fun x s₁ r=>wpAny_bind (wpAny_holding (wpAny_mono r (fun y s₂ r=>wpAny_bind (wpAny_standAt (wpAny_bind (wpAny_holding r)))) fun _ _ e=>e))) fun _ _ e=>e)
 ·intro s' as' H' y y' E K S q
  refine wpAny_bind (wpAny_release (wpAny_bind (wpAny_holding (wpAny_truthy_bool ?_))))
  exact wpAny_pure ⟨H',as',E,S,K,hP _ _ q⟩
 ·intro s' as' H' v' y y' E K S hv' w3
  refine wpAny_bind (wpAny_release (wpAny_bind (wpAny_holding (wpAny_truthy_bool ?_))))
  refine wpAny_bind (wpAny_holding (wpAny_mono (h₃.run (R.next E K S) w3) (fun u s₂ r=>?_) fun _ _ e=>e.lift E K))
  obtain ⟨v4,H4,as4,e4,S4,k4,hv4,q4⟩:=r
  refine ea1_2 (okB_some q4) ?_
  intro t e5 q5
  refine wpAny_bind (wpAny_standAt (wpAny_bind (wpAny_operating ?_)))
  have:=p_cmp' (A:=A) (E:=ERes c as X s.heap XX) (Q:=fun v H=>v = .bool t∧Q t H) S4 (hv'.keep k4 e4) hv4 R.a.u64 e5 ⟨rfl,hP _ _ q5⟩
  refine wpAny_mono this (fun _ _ r=>?_) fun _ _ e=>e
  obtain ⟨v3,H3,as3,e6,S3,k3,hv3,rfl,q3⟩:=r
  cases hv3.inv
  exact wpAny_holding (wpAny_truthy_bool (ResB.lift E K (ResB.lift e4 k4 ⟨H3,as3,e6,S3,k3,q3⟩)))
noncomputable def NS (e:Expr):Prop:=∀ a p,e ≠ .Starred a p
theorem star_ns {e:Expr} (h:NS e) (r:List Expr) (env:Env):starEach (e :: r) env = (false,eval e env) :: starEach r env:=by
 cases e with
 | Starred a p=>exact absurd rfl (h a p)
 | _=>rfl
abbrev SEs (c:Cx) (n:Nat) (T:Tb) (es:List Expr) (xs:List Ex):Prop:=A2 (fun e x=>SE c n T e x∧NS e) es xs
theorem se_args {pos:Pos} {env:Env} {A:Around} {X:List Addr} {ρ:Fm} {XX:XE} {es:List Expr} {xs:List Ex} (h:SEs c n T es xs):∀ {s:Shared} {as:Adr} {H:AH} {Q:List V→AH→Prop},Rdy c T env A n s as X H ρ →
  wpEs c.P (callF c.P n) xs ρ H Q XX→wpAny c.M A (spliced (backTo pos (starEach es env))) (ResL c as X s.heap (fun vs H'=>vs.length = xs.length∧Q vs H')) (ERes c as X s.heap XX) s:=by
 induction h with
 | nil=>exact fun R w=>spliced_nil ⟨[],_,_,.refl ..,R.S,Kept.refl _ _ _,.nil,rfl,w⟩
 | cons h₁ _ ih =>
  intro s as H Q R w
  rw [star_ns h₁.2]
  refine spliced_cons ?_
  simp only [wpEs_cons] at w
  refine wpAny_mono (h₁.1.run R w) (fun y s₁ r=>?_) fun _ _ e=>e
  obtain ⟨v,H₁,as₁,e1,S1,k1,hv,w1⟩:=r
  refine wpAny_mono (ih (R.next e1 k1 S1) w1) (fun ys s₂ r=>?_) fun _ _ e=>e.lift e1 k1
  obtain ⟨vs,H₂,as₂,e2,S2,k2,hvs,hl,q⟩:=r
  exact ⟨v :: vs,H₂,as₂,e1.trans k1 e2,S2,k1.trans e1 k2,.cons (hv.keep k2 e2) hvs,congrArg Nat.succ hl,q⟩
theorem se_evalArgs {f:Value} {pos:Pos} {env:Env} {A:Around} {X:List Addr} {ρ:Fm} {XX:XE} {es:List Expr} {xs:List Ex} {s:Shared} {as:Adr} {H:AH} {Q:List V→AH→Prop} (h:SEs c n T es xs) (R:Rdy c T env A n s as X H ρ)
  (w:wpEs c.P (callF c.P n) xs ρ H Q XX):wpAny c.M A (evalArgs f true (backTo pos (starEach es env)) []) (fun a s'=>a.kw = []∧ResL c as X s.heap (fun vs H'=>vs.length = xs.length∧Q vs H') a.pos s') (ERes c as X s.heap XX) s:=by
 have hr:=se_args (pos:=pos) h R w
 cases h with
 | nil=>exact evalArgs_kw_nil (keywords:=[]) rfl (wpAny_evalAll_nil ⟨rfl,⟨[],H,as,.refl ..,R.S,Kept.refl _ _ _,.nil,rfl,w⟩⟩)
 | cons h₁ h₂ =>
  rw [star_ns h₁.2] at hr ⊢
  exact evalArgs_plain (wpAny_mono hr (fun vs s' r=>⟨rfl,r⟩) fun _ _ e=>e)
theorem no_star {es:List Expr} {xs:List Ex} {pos:Pos} {env:Env} (h:SEs c n T es xs):(backTo pos (starEach es env)).any (·.1) = false:=by
 induction h with
 | nil=>rfl
 | cons h₁ _ ih=>rw [star_ns h₁.2]; exact ih
theorem se_call {g:Str} {p pos:Pos} {args:List Expr} {xs:List Ex} {f:Nat} (C:Cok c T.gl) (sc:SC c n) (hg:T.glob g = some (.fn f)) (hf:∃ fn,c.P.fns f = some fn) (h:SEs c n T args xs):SE c n T (.Call (.Name g p) args [] pos) (.call f xs):=by
 refine ⟨?_⟩
 intro env A s as X H ρ Q XX R w
 obtain ⟨fn,hf⟩:=hf
 simp only [wpE_call] at w
 have e1:=C.gl g _ (ge_of hg).2.1
 refine wpAny_Call_Name_kw (n_glob C hg R (.inl e1) ?_)
 refine callWith_function (o:=(C.fobj f fn hf).choose) (fd:=c.fdat f) (wpAny_mono (se_evalArgs h R w) (fun a s₁ r=>?_) fun _ _ e=>e)
 obtain ⟨hk,vs,H₁,as₁,e1,S1,k1,hvs,_,q⟩:=r
 have ho:=(C.fobj f fn hf).choose_spec
 refine ⟨⟨S1.stays _ _ ho.1,ho.2⟩,?_⟩
 rw [hk]
 exact wpAny_mono (sc.run hf R.a.toACk (R.fr.keep e1 k1).all S1 hvs q) (fun _ _ r=>r.lift e1 k1) fun _ _ e=>e.lift e1 k1
theorem se_bi {g:Str} {b:String} {p pos:Pos} {args:List Expr} {xs:List Ex} {pr:Prim} (C:Cok c T.gl) (hg:T.glob g = some (.bi b)) (h:SEs c n T args xs)
  (tail:∀ {A:Around} {s:Shared} {as:Adr} {X:List Addr} {H:AH} {Q:QE} {XX:XE} {vs:List V} {ys:List Value},AOk c A n→SR c as X H s→VRs c as X s.heap vs ys→vs.length = xs.length→okE (primM c.P false pr vs H) Q→wpAny c.M A (call (.builtin b) ys) (Res c as X s.heap Q) (ERes c as X s.heap XX) s) :
  SE c n T (.Call (.Name g p) args [] pos) (.prim false pr xs):=by
 refine ⟨?_⟩
 intro env A s as X H ρ Q XX R w
 simp only [wpE_prim] at w
 have e1:=C.gl g _ (ge_of hg).2.1
 refine wpAny_Call_Name_kw (n_glob C hg R (.inr e1) ?_)
 refine callWith_builtin (no_star h) (wpAny_mono (se_evalArgs h R w) (fun a s₁ r=>?_) fun _ _ e=>e)
 obtain ⟨hk,vs,H₁,as₁,e1,S1,k1,hvs,hl,q⟩:=r
 rw [hk]
 exact wpAny_mono (tail R.a S1 hvs hl q) (fun _ _ r=>r.lift e1 k1) fun _ _ e=>e.lift e1 k1
theorem se_ty {g:Str} {b:String} {p pos:Pos} {args:List Expr} {xs:List Ex} {pr:Prim} {mu:Bool} (C:Cok c T.gl) (hg:T.glob g = some (.ty b)) (h:SEs c n T args xs)
  (tail:∀ {A:Around} {s:Shared} {as:Adr} {X:List Addr} {H:AH} {Q:QE} {XX:XE} {vs:List V} {ys:List Value},AOk c A n→SR c as X H s→VRs c as X s.heap vs ys→vs.length = xs.length→okE (primM c.P mu pr vs H) Q→wpAny c.M A (call (.type b) ys) (Res c as X s.heap Q) (ERes c as X s.heap XX) s) :
  SE c n T (.Call (.Name g p) args [] pos) (.prim mu pr xs):=by
 refine ⟨?_⟩
 intro env A s as X H ρ Q XX R w
 simp only [wpE_prim] at w
 have e1:=C.gl g _ (ge_of hg).2.1
 refine wpAny_Call_Name_kw (n_glob C hg R (.inr e1) ?_)
 refine PySem.callWith_type (no_star h) (wpAny_mono (se_evalArgs h R w) (fun a s₁ r=>?_) fun _ _ e=>e)
 obtain ⟨hk,vs,H₁,as₁,e1,S1,k1,hvs,hl,q⟩:=r
 rw [hk]
 exact wpAny_mono (tail R.a S1 hvs hl q) (fun _ _ r=>r.lift e1 k1) fun _ _ e=>e.lift e1 k1
theorem len1 {vs:List V} {ys:List Value} {as:Adr} {X:List Addr} {hp:HP} (h:VRs c as X hp vs ys) (hl:vs.length = 1):∃ v y,vs = [v]∧ys = [y]∧VR c as X hp v y:=by
 cases h with
 | nil=>simp at hl
 | cons a r =>
  cases r with
  | nil=>exact ⟨_,_,rfl,rfl,a⟩
  | cons _ _=>simp at hl
theorem len2 {vs:List V} {ys:List Value} {as:Adr} {X:List Addr} {hp:HP} (h:VRs c as X hp vs ys) (hl:vs.length = 2):∃ v v' y y',vs = [v,v']∧ys = [y,y']∧VR c as X hp v y∧VR c as X hp v' y':=by
 cases h with
 | nil=>simp at hl
 | cons a r =>
  cases r with
  | nil=>simp at hl
  | cons b r =>
   cases r with
   | nil=>exact ⟨_,_,_,_,rfl,rfl,a,b⟩
   | cons _ _=>simp at hl
theorem A2.length {α β:Type} {R:α→β→Prop} {l:List α} {m:List β} (h:A2 R l m):l.length = m.length:=by
 induction h with
 | nil=>rfl
 | cons _ _ ih=>rw [List.length_cons,List.length_cons,ih]
theorem pList_lst {v r:V} {H H':AH} (h:pList [v] H = some (r,H')):∃ ws,r = .lst ws∧H' = H:=by
 refine ea1_2 (map_is h) ?_
 intro r' h1 h2
 cases h2
 have hv:((view H v).bind fun vs=>if vs.length ≤ sizeOf' then some (V.lst vs) else none) = some r→∃ ws,r = .lst ws:=fun e=>by
  refine ea1_2 (bind_is e) ?_
  intro vs _ e
  exact ⟨vs,(ite_is e).2.symm⟩
 have key:∃ ws,r = .lst ws:=by
  cases v with
  | rng a b=>exact ⟨_,(ite_is h1).2.symm⟩
  | tup vs=>exact ⟨_,(ite_is h1).2.symm⟩
  | _=>exact hv h1
 exact ⟨key.choose,key.choose_spec,rfl⟩
set_option tactic.hygienic true in
theorem se_biPrim {g:Str} {b:String} {p pos:Pos} {args:List Expr} {xs:List Ex} {pr:Prim} (C:Cok c T.gl) (hg:T.glob g = some (.bi b)) (h:SEs c n T args xs) (hp:biPrim b args.length = some pr):SE c n T (.Call (.Name g p) args [] pos) (.prim false pr xs):=by
 have hl:=h.length
 unfold biPrim at hp
 split at hp
 ·rename_i q; (replace hp:=Option.some.inj hp; subst hp)
  obtain ⟨rfl,hn⟩:=q
  refine se_bi C hg h fun a S hv hl' q=>?_
  refine ea2_3 (len1 hv (by omega)) ?_
  intro v y q_3 q_4 hv1
  subst q_3
  subst q_4
  refine ea2_2 (okE_some q) ?_
  intro r H' e q'
  exact p_len S hv1 e q'
 split at hp
 ·rename_i q; (replace hp:=Option.some.inj hp; (replace hp:=Eq.symm hp; subst hp))
  obtain ⟨rfl,hn⟩:=q
  refine se_bi C hg h fun a S hv hl' q=>?_
  refine ea2_3 (len1 hv (by omega)) ?_
  intro v y q_3 q_4 hv1
  subst q_3
  subst q_4
  refine ea2_2 (okE_some q) ?_
  intro r H' e q'
  exact p_all a.hh S hv1 e q'
 split at hp
 ·rename_i q; (replace hp:=Option.some.inj hp; subst hp)
  obtain ⟨rfl,hn⟩:=q
  refine se_bi C hg h fun a S hv hl' q=>?_
  obtain ⟨v,v',y,y',rfl,rfl,hv,hv'⟩:=len2 hv (by lia)
  refine ea1_1 (okE_some q) fun r q_=>ea1_1 q_ fun H' q_=>ea0_2 q_ fun e q'=>?_
  exact p_min a.hh S hv hv' e q'
 exact nos hp
theorem prim_of_M {pr:Prim} {mu:Bool} {vs:List V} {H:AH} {Q:QE} (q:okE (primM c.P mu pr vs H) Q):∃ r H',prim c.P pr vs H = some (r,H'):=by
 refine ea2_2 (okE_some q) ?_
 intro r H' e _
 cases mu with
 | false=>exact ⟨r,H',e⟩
 | true =>
  replace e:=ite_some (show (if pr.fresh = true then _ else none) = _ from e)
  refine ea0_2 (e) fun _ e=>?_
  refine ea1_2 (bind_is e) ?_
  intro z e1 _
  exact ⟨z.1,z.2,e1⟩
theorem nofresh {pr:Prim} {mu:Bool} {vs:List V} {H:AH} {Q:QE} (hf:pr.fresh = false) (q:okE (primM c.P mu pr vs H) Q):okE (prim c.P pr vs H) Q:=by
 cases mu with
 | false=>exact q
 | true =>
  have q:okE (if pr.fresh = true then (prim c.P pr vs H).bind fun r=>thaw r.1 r.2 else none) Q:=q
  replace q:=(hf) ▸ q
  exact q.elim
set_option tactic.hygienic true in
theorem se_tyPrim {g:Str} {b:String} {p pos:Pos} {args:List Expr} {xs:List Ex} {pr:Prim} {mu:Bool} (C:Cok c T.gl) (hg:T.glob g = some (.ty b)) (h:SEs c n T args xs) (hp:tyPrim b args.length = some pr):SE c n T (.Call (.Name g p) args [] pos) (.prim mu pr xs):=by
 have hl:=h.length
 unfold tyPrim at hp
 split at hp
 ·rename_i q; (replace hp:=Option.some.inj hp; subst hp)
  obtain ⟨rfl,hn⟩:=q
  refine se_ty C hg h fun a S hv hl' q=>?_
  refine ea2_3 (len1 hv (by omega)) ?_
  intro v y q_3 q_4 hv1
  subst q_3
  subst q_4
  refine ea2_2 (okE_some (nofresh rfl q)) ?_
  intro r H' e q'
  exact p_range1 S hv1 e q'
 split at hp
 ·rename_i q; (replace hp:=Option.some.inj hp; subst hp)
  obtain ⟨rfl,hn⟩:=q
  refine se_ty C hg h fun a S hv hl' q=>?_
  obtain ⟨v,v',y,y',rfl,rfl,hv,hv'⟩:=len2 hv (by omega)
  obtain ⟨r,H',e,q'⟩:=okE_some (nofresh rfl q)
  exact p_range2 S hv hv' e q'
 split at hp
 ·rename_i q; (replace hp:=Option.some.inj hp; (replace hp:=Eq.symm hp; subst hp))
  obtain ⟨rfl,hn⟩:=q
  refine se_ty C hg h fun a S hv hl' q=>?_
  refine ea2_3 (len1 hv (by omega)) ?_
  intro v y q_3 q_4 hv1
  subst q_3
  subst q_4
  refine ea2_1 (prim_of_M q) ?_
  intro r H' e
  refine ea1_2 (pList_lst e) ?_
  intro ws q_2 q_3
  subst q_2
  (replace q_3:=Eq.symm q_3; subst q_3)
  exact fresh_either S e (fun R hR=>p_list a.hh S hv1 e hR) q
 split at hp
 ·rename_i q; (replace hp:=Option.some.inj hp; subst hp)
  obtain ⟨rfl,hn⟩:=q
  refine se_ty C hg h fun a S hv hl' q=>?_
  refine ea2_3 (len1 hv (by omega)) ?_
  intro v y q_3 q_4 hv1
  subst q_3
  subst q_4
  refine ea2_2 (okE_some (nofresh rfl q)) ?_
  intro r H' e q'
  exact p_int S hv1 e q'
 exact nos hp
theorem tyOf_eq {t:String} {ty:Ty} (h:tyOf t = some ty):tyName ty = t :=
 Is.of (o:=tyOf t) (R:=fun ty=>tyName ty = t) (Is.ite2 (fun h=>h.symm) fun _=>Is.ite2 (fun h=>h.symm) fun _=>Is.ite2 (fun h=>h.symm) fun _=>Is.ite2 (fun h=>h.symm) fun _=>Is.ite fun h=>h.symm) h
theorem se_isinst {g t:Str} {tn:String} {ty:Ty} {p p' pos:Pos} {x:Expr} {a:Ex} (C:Cok c T.gl) (hg:T.glob g = some (.bi "isinstance")) (ht:T.glob t = some (.ty tn)) (hty:tyOf tn = some ty) (h:SE c n T x a) (hns:NS x) :
  SE c n T (.Call (.Name g p) [x,.Name t p'] [] pos) (.prim false (.isinst ty) [a]):=by
 refine ⟨?_⟩
 intro env A s as X H ρ Q XX R w
 simp only [wpE_prim,wpEs_cons] at w
 simp only [wpEs_nil] at w
 have e1:=C.gl g _ (ge_of hg).2.1
 have e2:=C.gl t _ (ge_of ht).2.1
 refine wpAny_Call_Name_kw (n_glob C hg R (.inr e1) ?_)
 have hst:starEach [x,.Name t p'] env = [(false,eval x env),(false,eval (.Name t p') env)]:=by rw [star_ns hns]; rfl
 rw [hst]
 refine callWith_builtin rfl (evalArgs_plain (spliced_cons (wpAny_mono (h.run R w) (fun y s₁ r=>?_) fun _ _ e=>e)))
 obtain ⟨v,H₁,as₁,x1,S1,k1,hv,q⟩:=r
 refine spliced_cons (n_glob C ht (R.next x1 k1 S1) (.inr e2) (spliced_nil ?_))
 refine ea2_2 (okE_some q) ?_
 intro z H' e q'
 have hp:=p_isinst (A:=A) (E:=ERes c as₁ X s₁.heap XX) S1 hv e q'
 rw [tyOf_eq hty] at hp
 exact wpAny_mono hp (fun _ _ r=>r.lift x1 k1) fun _ _ e=>e.lift x1 k1
theorem se_item {v sl:Expr} {pos:Pos} {a b:Ex} (hs:isSlice sl = false) (h₁:SE c n T v a) (h₂:SE c n T sl b):SE c n T (.Subscript v sl pos) (.prim false .item [a,b]):=by
 refine ⟨?_⟩
 intro env A s as X H ρ Q XX R w
 refine Subscript_ (se_two_prim h₁ h₂ R w fun S hv hv' q=>?_)
 refine ea2_2 (okE_some q) ?_
 intro r H' e q'
 exact p_item (fun x y p e=>by subst e; cases hs) S hv hv' e q'
theorem se_list {es:List Expr} {pos:Pos} {xs:List Ex} {mu:Bool} (h:SEs c n T es xs):SE c n T (.List es pos) (.prim mu .mklist xs):=by
 refine ⟨?_⟩
 intro env A s as X H ρ Q XX R w
 simp only [wpE_prim] at w
 refine List_ (wpAny_mono (se_args h R w) (fun ys s₁ r=>?_) fun _ _ e=>e)
 obtain ⟨vs,H₁,as₁,e1,S1,k1,hvs,_,q⟩:=r
 have hsome:∃ ws,prim c.P .mklist vs H₁ = some (.lst ws,H₁):=by
  refine ea2_1 (prim_of_M q) ?_
  intro r H' e
  exact ⟨vs,if_pos (ite_is e).1⟩
 obtain ⟨ws,e⟩:=hsome
 refine wpAny_mono (fresh_either S1 e (fun R hR=>p_mklist S1 hvs e hR) q) (fun _ _ r=>r.lift e1 k1) fun _ _ (e:ERes c as₁ X s₁.heap XX _ _)=>e.lift e1 k1
theorem se_tup {es:List Expr} {pos:Pos} {xs:List Ex} {kk:Nat} (h:SEs c n T es xs):SE c n T (.Tuple es kk pos) (.prim false .mktup xs):=by
 refine ⟨?_⟩
 intro env A s as X H ρ Q XX R w
 simp only [wpE_prim] at w
 refine Tuple_ (wpAny_mono (se_args h R w) (fun ys s₁ r=>?_) fun _ _ e=>e)
 obtain ⟨vs,H₁,as₁,e1,S1,k1,hvs,_,q⟩:=r
 refine ea2_2 (okE_some q) ?_
 intro z H' e q'
 exact wpAny_mono (p_mktup S1 hvs e q') (fun _ _ r=>r.lift e1 k1) fun _ _ (e:ERes c as₁ X s₁.heap XX _ _)=>e.lift e1 k1
end
end Mine
end
noncomputable section
namespace Mine
open PySem PySem.Calls PyProof.Rows
theorem SR.turn {c:Cx} {as:Adr} {X Y:List Addr} {H:AH} {s s':Shared} (x:SR c as X H s) (k:VK [] X s.heap s'.heap) (hst:c.base.StaysIn s'.heap) (hY:∀ b ∈ Y,b ∈ X)
  (hx:∀ b ∈ Y,∃ o,s'.heap.get? b = some o) (hg:s'.gens = s.gens) (ho:s'.os = s.os):SR c as Y H s' where
 len:=x.len
 stays:=hst
 gens:=hg.trans x.gens
 os:=ho.trans x.os
 objs:=fun i a e=>by
  refine ea0_3 (x.objs i a e) ?_
  intro h1 h2 r_3
  refine ea1_2 r_3 ?_
  intro o h3 h4
  exact ⟨h1,fun q=>h2 (hY _ q),o,h3,(h4.keepX (fun b o e _ hb=>k b o e (fun q=>nomatch q) hb) fun ob e=>k _ _ e (fun q=>nomatch q) h2).frames fun b _ _ hb q=>hb (hY _ q)⟩
 inj:=x.inj
 xs:=hx
noncomputable def But (Y:List Addr) (h h':HP):Prop:=∀ b o,b ∉ Y→h.get? b = some o→h'.get? b = some o
theorem But.kept {Y:List Addr} {h h':HP} (k:But Y h h') (as:Adr) (X:List Addr):KeptX as X Y h h':=fun b o e _ hy=>⟨o,k b o hy e,.inl rfl⟩
theorem But.vk {X Y:List Addr} {h h':HP} (k:But Y h h') (as:Adr) (hY:∀ b ∈ Y,b ∈ X):VK as X h h':=fun b o e _ hx=>k b o (fun q=>hx (hY b q)) e
theorem But.stays {c:Cx} {as:Adr} {X Y:List Addr} {H:AH} {s:Shared} {h':HP} (S:SR c as X H s) (k:But Y s.heap h') (hY:∀ b ∈ Y,c.base.get? b = none):c.base.StaysIn h':=fun b o e =>
 k b o (fun q=>by exact nos ((hY _ q).symm.trans e)) (S.stays b o e)
theorem SR.but {c:Cx} {as:Adr} {X Y Z:List Addr} {H:AH} {s s':Shared} (S:SR c as X H s) (k:But Z s.heap s'.heap) (hZ:∀ b ∈ Z,b ∈ X∧c.base.get? b = none) (hY:∀ b ∈ Y,b ∈ X)
  (hx:∀ b ∈ Y,b ∈ Z→∃ o,s'.heap.get? b = some o) (hg:s'.gens = s.gens) (ho:s'.os = s.os):SR c as Y H s' :=
 S.turn (k.vk [] fun b q=>(hZ b q).1) (k.stays S fun b q=>(hZ b q).2) hY (fun b hb=>by
  by_cases hz:b ∈ Z
  ·exact hx b hb hz
  ·obtain ⟨o,e⟩:=S.xs b (hY b hb)
   exact ⟨o,k b o hz e⟩) hg ho
theorem OVR.frames {c:Cx} {as:Adr} {X Y:List Addr} {h:HP} {o:Option V} {y:Option Value} (hy:∀ b o,h.get? b = some o→b ∉ X→b ∉ Y) (z:OVR c as X h o y):OVR c as Y h o y :=
 fun v e=>let ⟨q,e1,e2⟩:=z v e; ⟨q,e1,e2.frames hy⟩
theorem FR.frames {c:Cx} {as:Adr} {X Y:List Addr} {h:HP} {env:Env} {tab:List (Str × Nat)} {ρ:Fm} (F:FR c as X h env tab ρ) (hXY:∀ b ∈ X,b ∈ Y) (hy:∀ b o,h.get? b = some o→b ∉ X→b ∉ Y):FR c as Y h env tab ρ where
 kind:=F.kind
 glob:=F.glob
 bi:=F.bi
 lx:=hXY _ F.lx
 lout:=F.lout
 lb:=F.lb
 ns:=by
  refine ea1_2 F.ns ?_
  intro m n r
  exact ⟨m,n,fun x i h1 h2=>(r x i h1 h2).frames hy⟩
 cells:=fun x i h1 h2=>by
  refine ea2_7 (F.cells x i h1 h2) ?_
  intro a y e1 e2 e3 e4 e5 e6 e7
  exact ⟨a,y,e1,hXY _ e2,e3,e4,e5,e6,e7.frames hy⟩
 apart:=F.apart
 inj:=F.inj
noncomputable def Away (Y:List Addr) (env:Env) (tab:List (Str × Nat)):Prop :=
 env.locals ∉ Y∧∀ x i,tab.lookup x = some i→(env.kindOf x = some .cell ∨ env.kindOf x = some .free)→∀ a,env.cells.lookup x = some a→a ∉ Y
theorem FR.away {c:Cx} {as:Adr} {X Y:List Addr} {h:HP} {env:Env} {tab:List (Str × Nat)} {ρ:Fm} (F:FR c as X h env tab ρ) (hY:∀ b ∈ Y,b ∉ X):Away Y env tab :=
 ⟨fun q=>hY _ q F.lx,fun x i h1 h2 a e q=>by
  refine ea2_3 (F.cells x i h1 h2) ?_
  intro a' y e1 e2 _
  replace e:=(e1).symm.trans e; (replace e:=Option.some.inj e; subst e)
  exact hY _ q e2⟩
theorem FR.keepY {c:Cx} {as:Adr} {X Y:List Addr} {h h':HP} {env:Env} {tab:List (Str × Nat)} {ρ:Fm} (F:FR c as X h env tab ρ) (k:KeptX as X Y h h') (hY:∀ b ∈ Y,b ∈ X) (aw:Away Y env tab):FR c as X h' env tab ρ where
 kind:=F.kind
 glob:=F.glob
 bi:=F.bi
 lx:=F.lx
 lout:=F.lout
 lb:=F.lb
 ns:=by
  refine ea1_2 F.ns ?_
  intro m n r
  exact ⟨m,Ns.same n fun o e=>k _ o e F.lout aw.1,fun y i h1 h2=>(r y i h1 h2).keepX (k.v hY) (.refl ..)⟩
 cells:=fun y i h1 h2=>by
  refine ea2_7 (F.cells y i h1 h2) ?_
  intro a z e1 e2 e3 e4 e5 e6 e7
  exact ⟨a,z,e1,e2,e3,e4,e5,IsCell.same e6 fun o e=>k _ o e e3 (aw.2 y i h1 h2 a e1),e7.keepX (k.v hY) (.refl ..)⟩
 apart:=F.apart
 inj:=F.inj
noncomputable def ItC (h:HP) (I:Addr):V→Value→Nat→Prop
 | .tup _,y,k=>∃ a,y = .ref a∧h.IsTupleIter I a k
 | .str _,y,k=>∃ x t,y = .str x t∧(h.IsStrIter I "str_ascii_iterator" x t k ∨ h.IsStrIter I "str_iterator" x t k)
 | .rng a b,_,k=>IsRangeIter h I (a + (k:Nat) * 1) (((b - a).toNat:Int) - (k:Nat)) 1
 | .lst _,y,k=>∃ a,y = .ref a∧h.IsListIter I a k
 | .ref _,y,k=>∃ a,y = .ref a∧h.IsListIter I a k
 | _,_,_=>False
theorem ItC.here {h:HP} {I:Addr} {v:V} {y:Value} {k:Nat} (x:ItC h I v y k):∃ o,h.get? I = some o∧∃ vs,o.data = .fields vs:=by
 cases v <;> try exact x.elim
 ·obtain ⟨x,t,_,h1 | h1⟩:=x
  ·refine ea1_2 h1 ?_
   intro o e r
   exact ⟨o,e,_,r.2⟩
  ·refine ea1_2 h1 ?_
   intro o e r
   exact ⟨o,e,_,r.2⟩
 ·refine ea1_2 x ?_
  intro a _ r_3
  refine ea1_2 r_3 ?_
  intro o e r
  exact ⟨o,e,_,r.2⟩
 ·refine ea1_2 x ?_
  intro a _ r_3
  refine ea1_2 r_3 ?_
  intro o e r
  exact ⟨o,e,_,r.2⟩
 ·exact ⟨_,x,_,rfl⟩
 ·refine ea1_2 x ?_
  intro a _ r_3
  refine ea1_2 r_3 ?_
  intro o e r
  exact ⟨o,e,_,r.2⟩
theorem ItC.at {h h':HP} {I:Addr} {v:V} {y:Value} {k:Nat} (x:ItC h I v y k) (e:∀ o,h.get? I = some o→(∀ es n,o.data ≠ .dict es n)→h'.get? I = some o):ItC h' I v y k:=by
 refine ea1_1 (x.here) fun ob q_=>ea0_2 q_ fun eo q_=>ea1_1 q_ fun vs hc=>?_
 have e0:∀ o,h.get? I = some o→h'.get? I = some o:=fun o q=>e o q fun es n hd=>by replace q:=(eo).symm.trans q; (replace q:=Option.some.inj q; subst q); replace hd:=(hc).symm.trans hd; cases hd
 cases v <;> try exact x.elim
 ·obtain ⟨x,t,hy,h1 | h1⟩:=x
  ·refine ea1_2 h1 ?_
   intro o q r
   exact ⟨x,t,hy,.inl ⟨o,e0 o q,r⟩⟩
  ·refine ea1_2 h1 ?_
   intro o q r
   exact ⟨x,t,hy,.inr ⟨o,e0 o q,r⟩⟩
 ·refine ea1_2 x ?_
  intro a hy r_3
  refine ea1_2 r_3 ?_
  intro o q r
  exact ⟨a,hy,o,e0 o q,r⟩
 ·refine ea1_2 x ?_
  intro a hy r_3
  refine ea1_2 r_3 ?_
  intro o q r
  exact ⟨a,hy,o,e0 o q,r⟩
 ·exact e0 _ x
 ·refine ea1_2 x ?_
  intro a hy r_3
  refine ea1_2 r_3 ?_
  intro o q r
  exact ⟨a,hy,o,e0 o q,r⟩
section
variable {c:Cx} {A:Around} {E:Value→Shared→Prop} {s:Shared} {as:Adr} {X:List Addr} {H:AH}
inductive SrcAt (c:Cx) (as:Adr) (X:List Addr) (h:HP):List V→V→Value→Prop
 | str (xs:List Char) (t:Tok):SrcAt c as X h (xs.map fun c=>V.str [c]) (.str xs) (.str (toS xs) t)
 | tup {a:Addr} {its:Array Value} {n:Nat} {vs:List V}:a ∉ X→h.get? a = some { cls:=.type "tuple",data:=.seq its n }→VRs c as X h vs its.toList→SrcAt c as X h vs (.tup vs) (.ref a)
 | seq {a:Addr} {its:Array Value} {vs:List V} {v:V}:(∀ h' I k,ItC h' I v (.ref a) k = ∃ b,Value.ref a = .ref b∧h'.IsListIter I b k)→v.isRng = false→a ∉ X→h.PlainList a its→VRs c as X h vs its.toList→SrcAt c as X h vs v (.ref a)
 | rng {a b:Int} {y:Value}:RngR as X h a b y→SrcAt c as X h (rngL a b) (.rng a b) y
theorem src_at {v:V} {y:Value} {items:List V} (S:SR c as X H s) (hv:VR c as X s.heap v y) (hs:src H v = some items):SrcAt c as X s.heap items v y:=by
 have hw:view H v = some items→(∀ a h' I k,ItC h' I v (.ref a) k = ∃ b,Value.ref a = .ref b∧h'.IsListIter I b k)→v.isRng = false→SrcAt c as X s.heap items v y:=fun e q hr=>by
  obtain ⟨a,its,rfl,hp,r,_,hx⟩:=view_at S hv e
  exact .seq (q a) hr hx hp r
 cases v with
 | str xs=>(replace hs:=Option.some.inj hs; subst hs); cases hv.inv; exact .str _ _
 | tup vs=>(replace hs:=Option.some.inj hs; subst hs); cases hv.inv with | tup _ h2 h3 h4 _=>exact .tup h2 h3 h4
 | rng a b=>(replace hs:=Option.some.inj hs; subst hs); exact .rng hv.inv
 | lst vs=>exact hw hs (fun _ _ _ _=>rfl) rfl
 | ref i=>exact hw hs (fun _ _ _ _=>rfl) rfl
 | _=>exact nos hs
theorem it_start {v:V} {y:Value} {items:List V} {Q:Value→Shared→Prop} (S:SR c as X H s) (hv:VR c as X s.heap v y) (hs:src H v = some items)
  (hQ:∀ o,ItC (s.heap.push o) s.heap.objs.size v y 0→Q (.ref s.heap.objs.size) { s with heap:=s.heap.push o }):wpAny c.M A (pyIter y) Q E s:=by
 cases src_at S hv hs with
 | str x t =>
  cases ha:(toS x).cps.all (· < 128)
  ·exact wpAny_pyIter_wide ha (hQ _ ⟨_,_,rfl,.inr ⟨_,Heap.get?_push_size _ rfl,rfl,rfl⟩⟩)
  ·exact wpAny_pyIter_ascii ha (hQ _ ⟨_,_,rfl,.inl ⟨_,Heap.get?_push_size _ rfl,rfl,rfl⟩⟩)
 | tup h2 h3 h4=>exact wpAny_pyIter_tuple ⟨_,h3,rfl,_,rfl⟩ (hQ _ ⟨_,rfl,_,Heap.get?_push_size _ rfl,rfl,rfl⟩)
 | seq q _ h2 h3 h4=>exact wpAny_pyIter_list h3.isList (hQ _ ((q _ _ _).mpr ⟨_,rfl,_,Heap.get?_push_size _ rfl,rfl,rfl⟩))
 | @rng a b _ r =>
  cases r with
  | rng h1 h2 h3 h4 h5 =>
   refine wpAny_pyIter_range h3 (range_small h4 h5) (hQ _ ?_)
   show IsRangeIter _ _ _ _ _
   rw [rangeSize_eq,show a + ((0:Nat):Int) * 1 = a by omega,show ((b - a).toNat:Int) - ((0:Nat):Int) = ((b - a).toNat:Int) by omega]
   exact Heap.get?_push_size _ rfl
theorem rngL_get {a b:Int} {k:Nat} {x:V} (h:(rngL a b)[k]? = some x):x = .int (a + k)∧k < (b - a).toNat:=by
 rw [rngL,List.getElem?_map,Option.map_eq_some_iff] at h
 refine ea1_2 h ?_
 intro i h1 q_3
 subst q_3
 rw [List.getElem?_eq_some_iff] at h1
 obtain ⟨h1,h2⟩:=h1
 simp at h1 h2
 subst h2
 exact ⟨rfl,by omega⟩
theorem it_next {v:V} {y:Value} {items:List V} {x:V} {k:Nat} {I:Addr} {Q:Option Value→Shared→Prop} (hd:A.handled = none) (S:SR c as X H s) (hI:I ∈ X) (hb:c.base.get? I = none) (hv:VR c as X s.heap v y) (hi:ItC s.heap I v y k)
  (hs:src H v = some items) (hk:items[k]? = some x)
  (hQ:∀ z h' tk,But [I] s.heap h'→VR c as X h' x z→VR c as X h' v y→ItC h' I v y (k + 1)→SR c as X H { s with heap:=h',toks:=tk }→Q (some z) { s with heap:=h',toks:=tk }):wpAny c.M A (pyNext (.ref I)) Q E s:=by
 have fin:∀ z h' tk,But [I] s.heap h'→VR c as X s.heap x z→ItC h' I v y (k + 1)→Q (some z) { s with heap:=h',toks:=tk }:=fun z h' tk b hz hit=>by
  have kx:VK as X s.heap h':=b.vk as (all1 hI)
  exact hQ z h' tk b (hz.keepX kx (.refl ..)) (hv.keepX kx (.refl ..)) hit (S.but (s':={ s with heap:=h',toks:=tk }) b (all1 ⟨hI,hb⟩) (fun _ q=>q) (fun b hb hz=>in1 hz ▸ hit.here.imp fun _ e=>e.1) rfl rfl)
 cases src_at S hv hs with
 | str xs t =>
  refine ea2_2 hi ?_
  intro x' t' e hit
  cases e
  replace hk:=(List.getElem?_map).symm.trans hk
  refine ea1_2 (map_is hk) ?_
  intro ch hch q_3
  subst q_3
  have hlt:k < (toS xs).cps.size:=by simp only [show (toS xs).cps.size = (toS xs).length from rfl,toS_length]; exact (List.getElem?_eq_some_iff.mp hch).1
  have hsign:∀ z,SignAt (toS xs) k z→VR c as X s.heap (.str [ch]) z:=by
   rintro z ⟨q,u,hq,rfl⟩
   simp [toS,hch] at hq
   subst hq
   exact .str [ch] u (by simp [bnd])
  have hh:=hd
  refine Or.elim (hit) (fun hit=>?_) fun hit=>?_
  ·exact (Walks.strAscii hh I (toS xs) t).item k s Q E hlt hit fun z h' tk hz st b=>fin z h' tk b (hsign z hz) ⟨_,_,rfl,.inl st⟩
  ·exact (Walks.strWide hh I (toS xs) t).item k s Q E hlt hit fun z h' tk hz st b=>fin z h' tk b (hsign z hz) ⟨_,_,rfl,.inr st⟩
 | @tup a its n _ h2 h3 h4 =>
  refine ea1_2 hi ?_
  intro a' e hit
  cases e
  refine ea1_2 (h4.get hk) ?_
  intro z hz hzr
  replace hz:=(Array.getElem?_toList).symm.trans hz
  refine (Walks.tuple hd I a (fun q=>h2 (q ▸ hI)) its).item k s Q E (Array.getElem?_eq_some_iff.mp hz).1 ⟨hit,_,h3,rfl,_,rfl⟩ fun z' h' tk hz' st b=>fin z' h' tk b ?_ ⟨_,rfl,st.1⟩
  replace hz':=(hz).symm.trans hz'; (replace hz':=Option.some.inj hz'; subst hz'); exact hzr
 | @seq a its _ _ q hr h2 h3 h4 =>
  refine ea1_2 ((q _ _ _).mp hi) ?_
  intro a' e hit
  cases e
  refine ea1_2 (h4.get hk) ?_
  intro z hz hzr
  replace hz:=(Array.getElem?_toList).symm.trans hz
  refine (Walks.list hd I a (fun q=>h2 (q ▸ hI)) its).item k s Q E (Array.getElem?_eq_some_iff.mp hz).1 ⟨hit,h3.isList⟩ fun z' h' tk hz' st b=>fin z' h' tk b ?_ ((q _ _ _).mpr ⟨_,rfl,st.1⟩)
  replace hz':=(hz).symm.trans hz'; (replace hz':=Option.some.inj hz'; subst hz'); exact hzr
 | @rng a b _ r =>
  obtain ⟨rfl,hlt⟩:=rngL_get hk
  have hi':=hi
  refine wpAny_pyNext_range_item hi' (by lia) fun h' hit' hs'=>?_
  refine fin _ h' _ (fun b o hb e=>hs'.extBut b o (fun h=>hb (by simp [h])) e) ?_ ?_
  ·rw [Int.mul_one]
   exact .int _ _
  ·show IsRangeIter _ _ _ _ _
   have e1:a + ((k + 1:Nat):Int) * 1 = a + (k:Int) * 1 + 1:=by lia
   have e2:((b - a).toNat:Int) - ((k + 1:Nat):Int) = ((b - a).toNat:Int) - (k:Int) - 1:=by lia
   simp only [e1,e2]; exact hit'
theorem it_done {v:V} {y:Value} {items:List V} {k:Nat} {I:Addr} {Q:Option Value→Shared→Prop} (hd:A.handled = none) (S:SR c as X H s) (hI:I ∈ X) (hv:VR c as X s.heap v y) (hi:ItC s.heap I v y k)
  (hs:src H v = some items) (hk:items.length = k)
  (hQ:∀ h' tk,But [I] s.heap h'→Q none { s with heap:=h',toks:=tk }):wpAny c.M A (pyNext (.ref I)) Q E s:=by
 subst hk
 cases src_at S hv hs with
 | str xs t =>
  refine ea2_2 hi ?_
  intro x' t' e hit
  cases e
  rw [List.length_map,← toS_length] at hit
  have hh:=hd
  refine Or.elim (hit) (fun hit=>?_) fun hit=>?_
  ·exact (Walks.strAscii hh I (toS xs) t).done s Q E hit hQ
  ·exact (Walks.strWide hh I (toS xs) t).done s Q E hit hQ
 | @tup a its n _ h2 h3 h4 =>
  refine ea1_2 hi ?_
  intro a' e hit
  cases e
  simp only [h4.length,Array.length_toList] at hit
  exact (Walks.tuple hd I a (fun q=>h2 (q ▸ hI)) its).done s Q E ⟨hit,_,h3,rfl,_,rfl⟩ hQ
 | @seq a its _ _ q hr h2 h3 h4 =>
  refine ea1_2 ((q _ _ _).mp hi) ?_
  intro a' e hit
  cases e
  simp only [h4.length,Array.length_toList] at hit
  exact (Walks.list hd I a (fun q=>h2 (q ▸ hI)) its).done s Q E ⟨hit,h3.isList⟩ hQ
 | @rng a b _ r =>
  have hi':=hi
  rw [rngL_length] at hi'
  exact (Walks.range hd I a 1 (b - a).toNat).done s Q E hi' hQ
end
end Mine
end
noncomputable section
namespace Mine
open PySem PySem.Calls PyProof.Rows
theorem rv_owner:Manifest.owners.lookup (String.ofList ['d','e','s','r','e','v','e','r'].reverse) = some Manifest.sig_reversed:=by kernel_rfl
theorem rv_slot:Slot "reversed" "__next__" "reversed.__next__" :=
 .of (owner:="reversed") (n:="__next__") (by skip; kernel_rfl) (by decide +kernel) (by decide +kernel) (by decide +kernel)
  (by first | exact .inl (by decide +kernel) | exact .inr (by decide +kernel)) (by skip; kernel_rfl)
theorem rv_entry:entryFor table "reversed.__next__" = some Builtin.«reversed.__next__»:=entryFor_of_tree (by kernel_rfl)
theorem rv_args (a:Value):argsOk "reversed.__next__" ⟨[a],[]⟩:=by
 unfold argsOk; rw [signature?_of (id:="reversed.__next__") (n:=['_','_','t','x','e','n','_','_']) (o:=['d','e','s','r','e','v','e','r']) (by kernel_rfl) rv_owner]; kernel_rfl
theorem rv_slot_iter:Slot "reversed" "__iter__" "reversed.__iter__" :=
 .of (owner:="reversed") (n:="__iter__") (by skip; kernel_rfl) (by decide +kernel) (by decide +kernel) (by decide +kernel)
  (by first | exact .inl (by decide +kernel) | exact .inr (by decide +kernel)) (by skip; kernel_rfl)
theorem rv_args_iter (a:Value):argsOk "reversed.__iter__" ⟨[a],[]⟩:=by
 unfold argsOk; rw [signature?_of (id:="reversed.__iter__") (n:=['_','_','r','e','t','i','_','_']) (o:=['d','e','s','r','e','v','e','r']) (by kernel_rfl) rv_owner]; kernel_rfl
theorem rv_entry_iter:entryFor table "reversed.__iter__" = some Builtin.«dict_keyiterator.__iter__» :=
 entryFor_alias (id':="dict_keyiterator.__iter__") (by kernel_rfl) (by first | rfl | decide +kernel | (unfold String.splitOn; simp +decide [String.splitOnAux])) (by decide +kernel) (by kernel_rfl)
theorem rv_init:Slot "reversed" "__init__" "object.__init__" :=
 .of (owner:="object") (n:="__init__") (by skip; kernel_rfl) (by decide +kernel) (by decide +kernel) (by decide +kernel)
  (by first | exact .inl (by decide +kernel) | exact .inr (by decide +kernel)) (by skip; kernel_rfl)
theorem rv_called:TypeCalled "reversed" "reversed.__new__" "object.__init__" where
 notType:=by decide +kernel
 canCreate:=PySem.F.create_reversed
 mro:=⟨_,_,PySem.F.mro_reversed⟩
 made:=PySem.F.made_reversed
 plain:=PySem.F.plain_reversed_new
 sub:=PySem.F.sub_reversed_self
 init:=rv_init
theorem rv_no:typeLookup (.type "tuple") "__reversed__" = pure none:=by skip; kernel_rfl
theorem rv_nodict:isSubtype (.type "tuple") (.type "dict") = pure false:=by skip; kernel_rfl
section
variable {prog:Program} {w:World} {A:Around} {E:Value→Shared→Prop} {s:Shared}
noncomputable def rvObj (t:Value) (i:Int):Obj:={ cls:=.type "reversed",data:=.fields #[t,rawInt i] }
theorem rv_make {t:Addr} {items:Array Value} {Q:Value→Shared→Prop} (ht:IsTup s.heap t items) (hz:(items.size:Int) < 2 ^ 63)
  (h:∀ tk,Q (.ref s.heap.objs.size) { s with heap:=s.heap.push (rvObj (.ref t) ((items.size:Int) - 1)),toks:=tk }):wpAny (model prog w) A (call (.type "reversed") [.ref t]) Q E s:=by
 refine callType_new (S:=fun A' R s=>IsTup s.heap t items∧∀ tk,R (.ok (.ret (.ref s.heap.objs.size))) { s with heap:=s.heap.push (rvObj (.ref t) ((items.size:Int) - 1)),toks:=tk }) rv_called (by decide) (PySem.F.typeCall_reversed_1 _) (PySem.F.newCall_reversed_1 _) (fun obj=>PySem.F.args_object_init_2 obj _) PySem.F.entry_reversed_new ?_ ⟨ht,fun tk=>⟨⟨_,Heap.get?_push_size _ rfl,rfl⟩,h tk⟩⟩
 refine .of_wp fun prog w A R s h=>?_
 refine ea0_2 (h) fun ht h=>?_
 unfold Builtin.«reversed.__new__»
 refine wpAny_bind (wpAny_of_eq (newClass_reversed _) ?_)
 try skip
 refine wpAny_bind (wpAny_of_eq (a:=()) (by first | rfl | kernel_rfl) ?_)
 refine wpAny_bind (wpAny_of_eq (a:=()) (by first | rfl | kernel_rfl) ?_)
 try dsimp only
 refine wpAny_bind (wpAny_specialOf ht.typeIs rv_no ?_)
 try skip
 refine wpAny_bind ?_
 refine wpAny_bind (wpAny_isInstance (T:="tuple") (b:=false) ht.typeIs rv_nodict ?_)
 refine wpAny_bind (wpAny_specialOf ht.typeIs slot_tuple_getitem.lookup ?_)
 refine wpAny_pure ?_
 refine wpAny_bind (len_tuple ht hz ?_)
 refine wpAny_bind (wpAny_of_eq (a:=some (items.size:Int)) rfl ?_)
 refine wpAny_bind ?_
 unfold Builtin.SmallTypes.newRecord
 refine wpAny_newObj_type (wpAny_pure ⟨_,rfl,h _⟩)
theorem rv_iter {I:Addr} {t:Value} {i:Int} {Q:Value→Shared→Prop} (hit:s.heap.get? I = some (rvObj t i)) (h:Q (.ref I) s):wpAny (model prog w) A (pyIter (.ref I)) Q E s:=by
 have hT:s.TypeIs (.ref I) "reversed":=⟨_,hit,rfl⟩
 refine wpAny_pyIter_slot hT rv_slot_iter (wpAny_call_entry rv_slot_iter hT rv_entry_iter ?_ (rv_args_iter _))
 exact wpAny_pure ⟨_,rfl,"reversed",_,hT,rv_slot.lookup,h⟩
theorem rv_next {I t:Addr} {i:Nat} {items:Array Value} {x:Value} {Q:Option Value→Shared→Prop} (hit:s.heap.get? I = some (rvObj (.ref t) (i:Int))) (ht:IsTup s.heap t items) (hi:(i:Int) < 2 ^ 63) (hx:items[i]? = some x)
  (hQ:∀ h' tk,h'.get? I = some (rvObj (.ref t) ((i:Int) - 1))→Heap.SameBut I s.heap h'→Q (some x) { s with heap:=h',toks:=tk }):wpAny (model prog w) A (pyNext (.ref I)) Q E s:=by
 have hT:s.TypeIs (.ref I) "reversed":=⟨_,hit,rfl⟩
 refine wpAny_bind (wpAny_attempt (wpAny_callSpecial?_slot (name:=Str.ofString "__next__") hT rv_slot
  (wpAny_call_entry rv_slot hT rv_entry ?_ (rv_args _))))
 unfold Builtin.«reversed.__next__»
 refine wpAny_bind (wpAny_of_eq (a:=(Value.ref I,[])) rfl ?_)
 try skip
 refine wpAny_bind (wpAny_field hit rfl (x:=.ref t) rfl ?_)
 refine wpAny_bind (wpAny_field hit rfl (x:=rawInt (i:Int)) rfl ?_)
 show wpAny _ _ (if (i:Int) < 0 then _ else _) _ _ s
 show wpAny _ _ (specialOf (.ref t) "__getitem__" >>= _) _ _ s
 refine wpAny_bind (wpAny_specialOf ht.typeIs slot_tuple_getitem.lookup ?_)
 try skip
 have hz:=(Array.getElem?_eq_some_iff.mp hx).1
 refine wpAny_bind (wpAny_mkInt ?_)
 refine wpAny_bind (wpAny_attempt (getItem_tuple (s:={ s with toks:=s.toks + 1 }) ht (by lia) hi (j:=i) (by unfold seqIndex?; simp; lia) hx ?_))
 refine wpAny_bind (wpAny_field hit rfl (x:=rawInt (i:Int)) rfl ?_)
 refine wpAny_bind (wpAny_setField hit rfl (by simp) ?_)
 refine wpAny_pure ⟨x,rfl,wpAny_pure (hQ _ _ ?_ (Heap.SameBut.update ..))⟩
 exact Heap.get?_update_self _ hit rfl
theorem rv_end {I:Addr} {t:Value} {Q:Option Value→Shared→Prop} (hh:A.handled = none) (hit:s.heap.get? I = some (rvObj t (-1)))
  (hQ:∀ h',Heap.ExtBut I s.heap h'→Q none { s with heap:=h' }):wpAny (model prog w) A (pyNext (.ref I)) Q E s:=by
 have hT:s.TypeIs (.ref I) "reversed":=⟨_,hit,rfl⟩
 refine wpAny_bind (wpAny_attempt (wpAny_callSpecial?_slot (name:=Str.ofString "__next__") hT rv_slot
  (wpAny_call_entry rv_slot hT rv_entry ?_ (rv_args _))))
 unfold Builtin.«reversed.__next__»
 refine wpAny_bind (wpAny_of_eq (a:=(Value.ref I,[])) rfl ?_)
 try dsimp only
 refine wpAny_bind (wpAny_field hit rfl (x:=t) rfl ?_)
 refine wpAny_bind (wpAny_field hit rfl (x:=rawInt (-1)) rfl ?_)
 refine wpAny_bind (wpAny_rule ?_)
 refine wpAny_bind ?_
 refine wpAny_bind (wpAny_setField hit rfl (by simp) ?_)
 refine wpAny_setField (Heap.get?_update_self _ hit rfl) rfl (by simp) ?_
 have hx:Heap.ExtBut I s.heap ((s.heap.update I (Obj.mapFields fun x=>x.setIfInBounds 1 (rawInt (-1)))).update I (Obj.mapFields fun x=>x.setIfInBounds 0 Value.none)) :=
  fun b o hb e=>(Heap.get?_update_other _ _ (Ne.symm hb)).trans ((Heap.get?_update_other _ _ (Ne.symm hb)).trans e)
 generalize (s.heap.update I (Obj.mapFields fun x=>x.setIfInBounds 1 (rawInt (-1)))).update I (Obj.mapFields fun x=>x.setIfInBounds 0 Value.none) = h2 at hx ⊢
 refine wpAny_bind ?_
 refine wpAny_bind ?_
 simp only [newExc,newTuple]
 refine wpAny_bind (wpAny_newObj_type ?_ (by size_fits))
 refine wpAny_bind (m:=firstArgMember _ _) (wpAny_of_eq (a:=Value.none) (by first | rfl | (simp only [firstArgMember]; rfl)) ?_)
 refine wpAny_newObj_type ?_ (by size_fits)
 dsimp only [raiseNew]
 refine wpAny_bind (wpAny_handled ?_)
 rw [show A.in1.handled = none from hh]
 refine wpAny_bind (wpAny_pure (wpAny_throw ?_))
 refine wpAny_bind (wpAny_isInstance (T:="StopIteration") (b:=true) ⟨_,Heap.get?_push_size _ rfl,rfl⟩ isSubtype_stop ?_)
 exact wpAny_pure (hQ _ ((hx.push _).push _))
end
noncomputable def RvC (h:HP) (I:Addr):V→Value→Nat→Prop
 | .tup vs,y,k=>∃ a,y = .ref a∧h.get? I = some (rvObj (.ref a) ((vs.length:Int) - 1 - (k:Int)))
 | .lst vs,y,k=>∃ a,y = .ref a∧k ≤ vs.length∧h.IsRevIter I a ((vs.length:Int) - 1 - (k:Int))
 | _,_,_=>False
theorem RvC.here {h:HP} {I:Addr} {v:V} {y:Value} {k:Nat} (x:RvC h I v y k):∃ o,h.get? I = some o∧∃ vs,o.data = .fields vs:=by
 cases v with
 | tup vs=>refine ea1_1 (x) fun a q_=>ea0_2 q_ fun _ e=>?_; exact ⟨_,e,_,rfl⟩
 | lst vs=>obtain ⟨a,_,_,o,e,r⟩:=x; exact ⟨o,e,_,r.2⟩
 | _=>exact x.elim
theorem RvC.at {h h':HP} {I:Addr} {v:V} {y:Value} {k:Nat} (x:RvC h I v y k) (e:∀ o,h.get? I = some o→(∀ es n,o.data ≠ .dict es n)→h'.get? I = some o):RvC h' I v y k:=by
 cases v with
 | tup vs=>refine ea1_1 (x) fun a q_=>ea0_2 q_ fun hy q=>?_; exact ⟨a,hy,e _ q fun _ _ h=>nomatch h⟩
 | lst vs=>obtain ⟨a,hy,hk,o,q,r⟩:=x; exact ⟨a,hy,hk,o,e o q (fun es n hd=>by replace hd:=(r.2).symm.trans hd; cases hd),r⟩
 | _=>exact x.elim
noncomputable def ItD (rev:Bool) (h:HP) (I:Addr) (v:V) (y:Value) (k:Nat):Prop:=match rev with
 | true=>RvC h I v y k
 | false=>ItC h I v y k
inductive RevIs (items:List V):V→Prop
 | tup {vs:List V}:items = vs.reverse→RevIs items (.tup vs)
 | lst {vs:List V}:items = vs.reverse→RevIs items (.lst vs)
theorem rev_is {H:AH} {v:V} {items:List V} (h:srcD true H v = some items):RevIs items v :=
 Is.of (o:=srcR v) (R:=fun items=>RevIs items v) (by cases v <;> first | exact .tup rfl | exact .lst rfl | exact trivial) h
theorem ItD.here {rev:Bool} {h:HP} {I:Addr} {v:V} {y:Value} {k:Nat} (x:ItD rev h I v y k):∃ o,h.get? I = some o∧∃ vs,o.data = .fields vs:=by
 cases rev with
 | true=>exact RvC.here x
 | false=>exact ItC.here x
theorem ItD.at {rev:Bool} {h h':HP} {I:Addr} {v:V} {y:Value} {k:Nat} (x:ItD rev h I v y k) (e:∀ o,h.get? I = some o→(∀ es n,o.data ≠ .dict es n)→h'.get? I = some o):ItD rev h' I v y k:=by
 cases rev with
 | true=>exact RvC.at x e
 | false=>exact ItC.at x e
noncomputable def owners:List String:=["enumerate","zip","dict_itemiterator","dict_reverseitemiterator","odict_iterator","itertools.zip_longest","itertools.pairwise"]
inductive NoOwn (h:HP) (I:Addr):Prop
 | mk {o:Obj} {n:String}:h.get? I = some o→o.cls = .type n→owners.contains n = false→NoOwn h I
theorem ItD.cls {rev:Bool} {h:HP} {I:Addr} {v:V} {y:Value} {k:Nat} (x:ItD rev h I v y k):NoOwn h I:=by
 cases rev with
 | true =>
  cases v with
  | tup vs=>obtain ⟨a,_,e⟩:=x; exact .mk e rfl (by decide +kernel)
  | lst vs=>obtain ⟨a,_,_,o,e,r⟩:=x; exact .mk e r.1 (by decide +kernel)
  | _=>exact x.elim
 | false =>
  cases v with
  | str=>
   obtain ⟨x,t,_,h1 | h1⟩:=x
   ·refine ea1_2 h1 ?_
    intro o e r
    exact .mk e r.1 (by decide +kernel)
   ·refine ea1_2 h1 ?_
    intro o e r
    exact .mk e r.1 (by decide +kernel)
  | rng=>exact .mk x rfl (by decide +kernel)
  | tup | lst | ref=>obtain ⟨a,_,o,e,r⟩:=x; exact .mk e r.1 (by decide +kernel)
  | _=>exact x.elim
set_option tactic.hygienic true in
theorem let_go {prog:Program} {w:World} {A:Around} {E:Value→Shared→Prop} {s:Shared} {te:Expr} {I:Addr} {z:Value} {Q:Unit→Shared→Prop} (h:NoOwn s.heap I) (q:Q () s):wpAny (model prog w) A (letOwnedTupleGo te (.ref I) z) Q E s:=by
 obtain ⟨e,hc,hn⟩:=h
 have F:wpAny (model prog w) A (do
   let (.ref r,.ref a):=(Value.ref I,z) | return
   let o ← load r
   match o.cls,o.data with
   | .type n,.fields vs =>
    if owners.contains n && vs[0]? == some (rawInt a) then
     rule "for.unpacks-the-owned-tuple"
     updateField r 0 .none
   | _,_=>pure ()) Q E s:=by
  cases z with
  | ref a =>
   refine wpAny_bind (wpAny_load e ?_)
   rw [hc]
   split
   ·rename_i n' vs h1 h2
    cases h1
    rw [hn]
    exact wpAny_pure q
   ·exact wpAny_pure q
  | _=>exact wpAny_pure q
 cases te <;> first | exact wpAny_pure q | exact F
section
variable {c:Cx} {A:Around} {E:Value→Shared→Prop} {s:Shared} {as:Adr} {X:List Addr} {H:AH}
theorem rev_at {vs:List V} {k:Nat} {x:V} (h:vs.reverse[k]? = some x):vs[vs.length - 1 - k]? = some x∧k < vs.length:=by
 have hk:k < vs.length:=by rw [← List.length_reverse]; exact (List.getElem?_eq_some_iff.mp h).1
 rw [List.getElem?_reverse hk] at h
 exact ⟨h,hk⟩
theorem rev_i {n k:Nat} (h:k < n):(n:Int) - 1 - (k:Int) = ((n - 1 - k:Nat):Int):=by omega
theorem id_next {rev:Bool} {v:V} {y:Value} {items:List V} {x:V} {k:Nat} {I:Addr} {Q:Option Value→Shared→Prop} (hd:A.handled = none) (S:SR c as X H s) (hI:I ∈ X) (hb:c.base.get? I = none) (hv:VR c as X s.heap v y) (hi:ItD rev s.heap I v y k)
  (hs:srcD rev H v = some items) (hk:items[k]? = some x)
  (hQ:∀ z h' tk,But [I] s.heap h'→VR c as X h' x z→VR c as X h' v y→ItD rev h' I v y (k + 1)→SR c as X H { s with heap:=h',toks:=tk }→Q (some z) { s with heap:=h',toks:=tk }):wpAny c.M A (pyNext (.ref I)) Q E s:=by
 cases rev with
 | false=>exact it_next hd S hI hb hv hi hs hk hQ
 | true =>
  have fin:∀ z h' tk,But [I] s.heap h'→VR c as X s.heap x z→RvC h' I v y (k + 1)→Q (some z) { s with heap:=h',toks:=tk }:=fun z h' tk b hz hit=>by
   have kx:VK as X s.heap h':=b.vk as (all1 hI)
   exact hQ z h' tk b (hz.keepX kx (.refl ..)) (hv.keepX kx (.refl ..)) hit (S.but (s':={ s with heap:=h',toks:=tk }) b (all1 ⟨hI,hb⟩) (fun _ q=>q) (fun b hb hz=>in1 hz ▸ hit.here.imp fun _ e=>e.1) rfl rfl)
  clear hQ
  cases rev_is hs with
  | @tup vs e =>
   subst e
   obtain ⟨hx,hk⟩:=rev_at hk
   refine ea1_2 hi ?_
   intro a q_2 hit
   subst q_2
   cases hv.inv with
   | @tup _ its n h1 h2 h3 h4 h5 =>
    refine ea1_2 (h4.get hx) ?_
    intro z hz hzr
    rw [Array.getElem?_toList] at hz
    rw [rev_i hk] at hit
    refine rv_next hit ⟨_,h3,rfl,_,rfl⟩ (bnd_le (Nat.le_trans (Nat.sub_le _ _) (Nat.le_trans (Nat.sub_le _ _) h5))) hz fun h' tk hg hs'=>fin z h' tk (fun b o hb e=>hs'.extBut b o (fun h=>hb (by exact (h) ▸ .head _)) e) hzr ⟨a,rfl,?_⟩
    rw [hg,← rev_i hk,show (vs.length:Int) - 1 - ((k + 1:Nat):Int) = (vs.length:Int) - 1 - (k:Int) - 1 by omega]
  | @lst vs e =>
   subst e
   obtain ⟨hx,hk⟩:=rev_at hk
   refine ea1_3 hi ?_
   intro a q_2 _ hit
   subst q_2
   cases hv.inv with
   | @lst _ its h1 h2 h3 h4 h5 =>
    refine ea1_2 (h4.get hx) ?_
    intro z hz hzr
    replace hz:=(Array.getElem?_toList).symm.trans hz
    have hl:vs.length = its.size:=h4.length.trans Array.length_toList
    refine (Walks.listRev hd I a (fun q=>h2 (q ▸ hI)) its).item k s Q E (hl ▸ hk) ⟨Nat.le_of_lt (hl ▸ hk),hl ▸ hit,h3.isList⟩ fun z' h' tk hz' st b=>fin z' h' tk b ?_ ⟨_,rfl,hk,by exact (hl) ▸ st.2.1⟩
    rw [← hl,hz] at hz'; (replace hz':=Option.some.inj hz'; subst hz'); exact hzr
theorem rv_start {v:V} {y:Value} {items:List V} {Q:Value→Shared→Prop} (hv:VR c as X s.heap v y) (hs:srcD true H v = some items)
  (hQ:∀ o tk,ItD true (s.heap.push o) s.heap.objs.size v y 0→Q (.ref s.heap.objs.size) { s with heap:=s.heap.push o,toks:=tk }):wpAny c.M A (call (.type "reversed") [y]) Q E s:=by
 have z:∀ n:Nat,(n:Int) - 1 - ((0:Nat):Int) = (n:Int) - 1:=fun n=>Int.sub_zero _
 cases rev_is hs with
 | @tup vs e =>
  cases hv.inv with
  | @tup a its n h1 h2 h3 h4 h5 =>
   have hl:vs.length = its.size:=h4.length.trans Array.length_toList
   exact rv_make ⟨_,h3,rfl,_,rfl⟩ (bnd_le (hl ▸ h5)) fun tk=>hQ _ tk ⟨a,rfl,by rw [z,hl]; exact Heap.get?_push_size _ rfl⟩
 | @lst vs e =>
  cases hv.inv with
  | @lst a its h1 h2 h3 h4 h5 =>
   exact call_reversed_list h3.isList (hQ _ s.toks ⟨a,rfl,Nat.zero_le _,by rw [z,(h4.length.trans Array.length_toList:vs.length = its.size)]; exact ⟨_,Heap.get?_push_size _ rfl,rfl,rfl⟩⟩)
theorem rv_it {v:V} {y:Value} {k:Nat} {I:Addr} {Q:Value→Shared→Prop} (h:ItD true s.heap I v y k) (q:Q (.ref I) s):wpAny c.M A (pyIter (.ref I)) Q E s:=by
 cases v with
 | tup vs=>refine ea1_1 (h) fun a q_=>ea0_2 q_ fun _ e=>?_; exact rv_iter e q
 | lst vs=>refine ea1_1 (h) fun a q_=>ea0_2 q_ fun _ q_=>ea0_2 q_ fun _ e=>?_; exact wpAny_pyIter_revIter e q
 | _=>exact h.elim
theorem id_done {rev:Bool} {v:V} {y:Value} {items:List V} {k:Nat} {I:Addr} {Q:Option Value→Shared→Prop} (hd:A.handled = none) (S:SR c as X H s) (hI:I ∈ X) (hv:VR c as X s.heap v y) (hi:ItD rev s.heap I v y k)
  (hs:srcD rev H v = some items) (hk:items.length = k)
  (hQ:∀ h' tk,But [I] s.heap h'→Q none { s with heap:=h',toks:=tk }):wpAny c.M A (pyNext (.ref I)) Q E s:=by
 cases rev with
 | false=>exact it_done hd S hI hv hi hs hk hQ
 | true =>
  subst hk
  cases rev_is hs with
  | @tup vs e =>
   subst e
   refine ea1_2 hi ?_
   intro a q_2 hit
   (replace q_2:=Eq.symm q_2; subst q_2)
   rw [List.length_reverse,show (vs.length:Int) - 1 - (vs.length:Int) = -1 by omega] at hit
   exact rv_end hd hit fun h' hx=>hQ h' s.toks fun b o hb e=>hx b o (fun h=>hb (by exact (h) ▸ .head _)) e
  | @lst vs e =>
   subst e
   refine ea1_3 hi ?_
   intro a q_2 _ hit
   subst q_2
   cases hv.inv with
   | @lst _ its h1 h2 h3 h4 h5 =>
    rw [List.length_reverse,(h4.length.trans Array.length_toList:vs.length = its.size)] at hit
    exact (Walks.listRev hd I a (fun q=>h2 (q ▸ hI)) its).done s Q E ⟨Nat.le_refl _,hit,h3.isList⟩ hQ
end
end Mine
end
noncomputable section
namespace Mine
open PySem PySem.Calls PyProof.Rows
theorem Kept.but {as:Adr} {X:List Addr} {h₀ h h':HP} {Y:List Addr} (k:Kept as X h₀ h) (b:But Y h h') (hY:∀ a ∈ Y,Fr as h₀ a):Kept as X h₀ h':=fun x o e hx=>by
 refine ea1_2 (k x o e hx) ?_
 intro o' e' s
 exact ⟨o',b x o' (fun q=>by refine Or.elim (hY _ q) (fun r=>?_) fun r=>?_; exact hx r; replace e:=(r).symm.trans e; exact nos e) e',s⟩
structure CompF (T:Tb) (x:Str) (sc:Scope):Prop where
 kind:sc.kind = .function
 tabs:∀ y i,T.tab.lookup y = some i→i < T.n
 hx:sc.names.lookup x = some .local
 names:∀ p ∈ sc.names,sc.names.lookup p.1 = some p.2
 loc:∀ y,sc.names.lookup y = some .local→y = x ∨ T.tab.lookup y = none
 nocell:∀ p ∈ sc.names,p.2 ≠ .cell
 free:∀ y,sc.names.lookup y = some .free→(T.names.lookup y = some .cell ∨ T.names.lookup y = some .free)∧(∃ i,T.tab.lookup y = some i)∧y ≠ x
theorem compF {T:Tb} {x:Str} {sc:Scope} (h:compOk T x sc = true):CompF T x sc:=by
 simp only [compOk,Bool.and_eq_true,decide_eq_true_eq,List.all_eq_true] at h
 obtain ⟨⟨⟨h1,h2⟩,h3⟩,h4⟩:=h
 refine ⟨h1,fun y i e=>h2 _ (mem_of_lookup e),h3,fun p hp=>(h4 p hp).1,fun y e=>?_,fun p hp e=>?_,fun y e=>?_⟩
 ·have:=(h4 _ (mem_of_lookup e)).2
  simpa using this
 ·have:=(h4 p hp).2
  rw [e] at this
  simp at this
 ·have:=(h4 _ (mem_of_lookup e)).2
  simp only [Bool.and_eq_true,Bool.or_eq_true,decide_eq_true_eq] at this
  exact ⟨this.1.1,Option.isSome_iff_exists.mp this.1.2,this.2⟩
theorem lookup_relabel {env:Env}:∀ (names:List (Str × NameKind)) (x:Str),
  (names.map fun (n,k)=>if (k == NameKind.free && env.scope.kind == .function && env.kindOf n == some .cell) then (n,NameKind.cell) else (n,k)).lookup x =
   (names.lookup x).map fun k=>if (k == NameKind.free && env.scope.kind == .function && env.kindOf x == some .cell) then NameKind.cell else k
 | [],_=>rfl
 | (n,k) :: r,x=>by
  have ih:=lookup_relabel (env:=env) r x
  show List.lookup x ((if (k == NameKind.free && env.scope.kind == .function && env.kindOf n == some .cell) = true then (n,NameKind.cell) else (n,k)) :: _) = _
  refine boolE (o:=x == n) (fun hx=>?_) (fun hx=>?_)
  ·skip
   have hxn:x = n:=by simpa using hx
   subst hxn
   simp only [List.lookup_cons,hx,Option.map_some]
   by_cases hc:(k == NameKind.free && env.scope.kind == .function && env.kindOf x == some .cell) = true
   ·rw [if_pos hc,if_pos hc,List.lookup_cons,hx]
   ·rw [if_neg hc,if_neg hc,List.lookup_cons,hx]
  ·skip
   simp only [List.lookup_cons,hx]
   by_cases hc:(k == NameKind.free && env.scope.kind == .function && env.kindOf n == some .cell) = true
   ·rw [if_pos hc]; simp only [List.lookup_cons,hx]; exact ih
   ·rw [if_neg hc]; simp only [List.lookup_cons,hx]; exact ih
theorem closure_of {sc:Scope} {env:Env} (hn:∀ p ∈ sc.names,sc.names.lookup p.1 = some p.2) (hf:∀ y,sc.names.lookup y = some .free→∃ a,env.cells.lookup y = some a) :
  ∃ cl,closureFor sc env = pure cl∧(∀ y a,cl.lookup y = some a→env.cells.lookup y = some a)∧(∀ y,sc.names.lookup y = some .free→cl.lookup y = env.cells.lookup y):=by
 have go:∀ (names:List (Str × NameKind)) (acc:List (Str × Addr)),(∀ p ∈ names,p.2 = .free→∃ a,env.cells.lookup p.1 = some a)→(∀ y a,acc.lookup y = some a→env.cells.lookup y = some a) →
   ∃ cl,(forIn names acc fun p cs=>(if (p.2 == NameKind.free) = true then do let a ← cellOf env p.1; pure (ForInStep.yield ((p.1,a) :: cs)) else pure (ForInStep.yield cs):Sem _)) = pure cl ∧
    (∀ y a,cl.lookup y = some a→env.cells.lookup y = some a)∧(∀ p ∈ names,p.2 = .free→∃ a,cl.lookup p.1 = some a)∧(∀ y a,acc.lookup y = some a→∃ a,cl.lookup y = some a):=by
  intro names
  induction names with
  | nil=>exact fun acc _ h2=>⟨acc,rfl,h2,by simp,fun y a e=>⟨a,e⟩⟩
  | cons p r ih =>
   intro acc h1 h2
   by_cases hp:p.2 = .free
   ·refine ea1_1 (h1 p (.head _) hp) fun a ha=>?_
    have h2':∀ y b,((p.1,a) :: acc).lookup y = some b→env.cells.lookup y = some b:=fun y b e=>by
     simp only [List.lookup_cons] at e
     refine boolE (o:=y == p.1) (fun hy=>?_) (fun hy=>?_)
     ·rw [hy] at e; simp only [Option.some.injEq] at e; subst e; rw [beq_iff_eq] at hy; exact (hy) ▸ ha
     ·rw [hy] at e; exact h2 y b e
    refine ea1_4 (ih ((p.1,a) :: acc) (fun q hq=>h1 q (.tail _ hq)) h2') ?_
    intro cl e1 e2 e3 e4
    refine ⟨cl,?_,e2,fun q hq hqf=>?_,fun y b e=>?_⟩
    ·rw [List.forIn_cons]
     simp only [hp,BEq.rfl,if_true,cellOf,ha]
     exact e1
    ·refine memE (hq) (fun e_=>?_) fun hq=>?_
     ·exact (e_) ▸ e4 p.1 a (by simp [List.lookup_cons])
     ·exact e3 q hq hqf
    ·by_cases hy:y = p.1
     ·subst hy; exact e4 p.1 a (by simp [List.lookup_cons])
     ·exact e4 y b (by simp only [List.lookup_cons,show (y == p.1) = false by simpa using hy]; exact e)
   ·refine ea1_4 (ih acc (fun q hq=>h1 q (.tail _ hq)) h2) ?_
    intro cl e1 e2 e3 e4
    refine ⟨cl,?_,e2,fun q hq hqf=>?_,e4⟩
    ·rw [List.forIn_cons]
     have:(p.2 == NameKind.free) = false:=by simpa using hp
     simp only [this,Bool.false_eq_true,if_false]
     exact e1
    ·refine memE (hq) (fun e_=>?_) fun hq=>?_
     ·replace e_:=Eq.symm e_; subst e_; exact absurd hqf hp
     ·exact e3 q hq hqf
 refine ea1_4 (go sc.names [] (fun p hp hpf=>hf p.1 (by simp only [hn p hp,hpf])) (by simp)) ?_
 intro cl e1 e2 e3 _
 refine ⟨cl,?_,e2,fun y hy=>?_⟩
 ·dsimp only [closureFor]
  simp only [bind_pure_comp] at e1 ⊢
  first
   | (rw [e1]; rfl)
   | (simp only [bind_pure_comp]; erw [e1]; rfl)
 ·refine ea1_1 (e3 (y,.free) (mem_of_lookup hy) rfl) fun a ha=>?_
  simp only [ha,e2 y a ha]
structure Ls (c:Cx) (env:Env) (tab:List (Str × Nat)) (as₀:Adr) (h₀:HP) (X:List Addr) (I C D:Addr):Prop where
 ic:I ≠ C
 id:I ≠ D
 cd:C ≠ D
 bi:c.base.get? I = none
 bc:c.base.get? C = none
 bd:c.base.get? D = none
 hi:Fr as₀ h₀ I
 hc:Fr as₀ h₀ C
 hd:Fr as₀ h₀ D
 dx:D ∉ X
 cx:C ∉ X
 aw:Away [I,C,D] env tab
theorem Ls.cnt {c:Cx} {env:Env} {tab:List (Str × Nat)} {as₀:Adr} {h₀:HP} {X:List Addr} {I C D:Addr} {Q:Addr→Prop} (W:Ls c env tab as₀ h₀ X I C D) (k:∀ b,2 ≤ X.count b→Q b ∨ Fr as₀ h₀ b):∀ b,2 ≤ (I :: C :: D :: X).count b→Q b ∨ Fr as₀ h₀ b:=cn1 (.inr W.hi) (cn1 (.inr W.hc) (cn1 (.inr W.hd) k))
theorem Ls.fr {c:Cx} {env:Env} {tab:List (Str × Nat)} {as₀:Adr} {h₀:HP} {X:List Addr} {I C D:Addr} (W:Ls c env tab as₀ h₀ X I C D):∀ a ∈ [I,C,D],Fr as₀ h₀ a:=fm1 W.hi (fm1 W.hc (fm1 W.hd fm0))
theorem cnt3 {I C D:Addr} {X:List Addr} (b:Addr):X.count b ≤ (I :: C :: D :: X).count b:=Nat.le_trans List.count_le_count_cons (Nat.le_trans List.count_le_count_cons List.count_le_count_cons)
structure Lp (c:Cx) (T:Tb) (env:Env) (as₀:Adr) (h₀:HP) (X:List Addr) (ρ:Fm) (I C D:Addr) (v:V) (y:Value) (k:Nat) (acc:List V) (arr:Array Value) (s:Shared) (as:Adr) (H:AH):Prop where
 S:SR c as (I :: C :: D :: X) H s
 F:FR c as (I :: C :: D :: X) s.heap env T.tab ρ
 hv:VR c as (I :: C :: D :: X) s.heap v y
 hi:ItC s.heap I v y k
 hD:s.heap.PlainList D arr
 hacc:VRs c as (I :: C :: D :: X) s.heap acc arr.toList
 hl:acc.length ≤ k
 hC:∃ m,s.heap.Ns C m
 oi:I ∉ as
 oc:C ∉ as
 od:D ∉ as
 E:Ext as₀ h₀ as
 K:Kept as₀ (I :: C :: D :: X) h₀ s.heap
section
variable {c:Cx} {T:Tb} {env:Env} {as₀:Adr} {h₀:HP} {X:List Addr} {ρ:Fm} {I C D:Addr} {v:V} {y:Value} {k:Nat} {acc:List V} {arr:Array Value} {s:Shared} {as:Adr} {H:AH}
theorem Lp.eval {s':Shared} {as':Adr} {H':AH} (L:Lp c T env as₀ h₀ X ρ I C D v y k acc arr s as H) (e:Ext as s.heap as') (kp:Kept as (I :: C :: D :: X) s.heap s'.heap) (S:SR c as' (I :: C :: D :: X) H' s'):Lp c T env as₀ h₀ X ρ I C D v y k acc arr s' as' H' where
 S:=S
 F:=L.F.keep kp e
 hv:=L.hv.keep kp e
 hi:=L.hi.at fun o q hc=>kp.get q L.oi hc
 hD:=by obtain ⟨n,q⟩:=L.hD; exact ⟨n,kp.get q L.od (by simp)⟩
 hacc:=L.hacc.keep kp e
 hl:=L.hl
 hC:=by obtain ⟨m,q⟩:=L.hC; exact ⟨m,Ns.same q fun o e=>kp _ o e L.oc⟩
 oi:=by refine ea1_1 (L.hi.here) fun o q_=>ea0_2 q_ fun q _=>?_; exact e.out q L.oi
 oc:=by obtain ⟨m,o,_,_,q,_⟩:=L.hC; exact e.out q L.oc
 od:=by obtain ⟨n,q⟩:=L.hD; exact e.out q L.od
 E:=L.E.trans L.K e
 K:=L.K.trans L.E kp
theorem Lp.but {s':Shared} {Z:List Addr} (W:Ls c env T.tab as₀ h₀ X I C D) (L:Lp c T env as₀ h₀ X ρ I C D v y k acc arr s as H) (b:But Z s.heap s'.heap) (hZ:∀ a ∈ Z,a ∈ [I,C,D]) :
  VK as (I :: C :: D :: X) s.heap s'.heap∧FR c as (I :: C :: D :: X) s'.heap env T.tab ρ∧Kept as₀ (I :: C :: D :: X) h₀ s'.heap:=by
 have hI:∀ a ∈ Z,a ∈ I :: C :: D :: X:=fun a ha=>List.mem_append_left X (hZ a ha)
 exact ⟨b.vk as hI,L.F.keepY (Y:=Z) (b.kept as _) hI ⟨fun q=>W.aw.1 (hZ _ q),fun x i h1 h2 a e q=>W.aw.2 x i h1 h2 a e (hZ _ q)⟩,L.K.but b fun a ha=>W.fr a (hZ a ha)⟩
theorem Lp.next {h':HP} {tk:Nat} (W:Ls c env T.tab as₀ h₀ X I C D) (L:Lp c T env as₀ h₀ X ρ I C D v y k acc arr s as H) (b:But [I] s.heap h') (hv:VR c as (I :: C :: D :: X) h' v y) (hi:ItC h' I v y (k + 1))
  (S:SR c as (I :: C :: D :: X) H { s with heap:=h',toks:=tk }):Lp c T env as₀ h₀ X ρ I C D v y (k + 1) acc arr { s with heap:=h',toks:=tk } as H :=
 ea0_3 (L.but (s':={ s with heap:=h',toks:=tk }) W b (all1 (.head _))) fun b1 b2 b3 =>
 ⟨S,b2,hv,hi,L.hD.imp fun n q=>b _ _ (nin1 (Ne.symm W.id)) q,L.hacc.keepX b1 (.refl ..),Nat.le_succ_of_le L.hl,L.hC.imp fun m q=>Ns.same (X:=[]) q fun o e=>⟨o,b _ _ (nin1 (Ne.symm W.ic)) e,.inl rfl⟩,L.oi,L.oc,L.od,L.E,b3⟩
theorem Lp.store {h':HP} {tk:Nat} {m:Str→Option Value} (W:Ls c env T.tab as₀ h₀ X I C D) (L:Lp c T env as₀ h₀ X ρ I C D v y k acc arr s as H) (b:But [C] s.heap h') (hm:h'.Ns C m) :
  Lp c T env as₀ h₀ X ρ I C D v y k acc arr { s with heap:=h',toks:=tk } as H :=
 ea0_3 (L.but (s':={ s with heap:=h',toks:=tk }) W b (all1 (.tail _ (.head _)))) fun b1 b2 b3 =>
 ⟨L.S.but (s':={ s with heap:=h',toks:=tk }) b (all1 ⟨.tail _ (.head _),W.bc⟩) (fun _ q=>q) (fun a ha hz=>in1 hz ▸ ea3_2 hm fun o _ _ e _=>⟨o,e⟩) rfl rfl,b2,L.hv.keepX b1 (.refl ..),L.hi.at fun o e _=>b _ _ (nin1 W.ic) e,L.hD.imp fun n q=>b _ _ (nin1 (Ne.symm W.cd)) q,L.hacc.keepX b1 (.refl ..),L.hl,⟨m,hm⟩,L.oi,L.oc,L.od,L.E,b3⟩
theorem Lp.push {h':HP} {z:V} {zc:Value} (W:Ls c env T.tab as₀ h₀ X I C D) (L:Lp c T env as₀ h₀ X ρ I C D v y k acc arr s as H) (b:But [D] s.heap h') (hp:h'.PlainList D (arr.push zc)) (hz:VR c as (I :: C :: D :: X) s.heap z zc) (hl:acc.length + 1 ≤ k) :
  Lp c T env as₀ h₀ X ρ I C D v y k (acc ++ [z]) (arr.push zc) { s with heap:=h' } as H :=
 ea0_3 (L.but (s':={ s with heap:=h' }) W b (all1 (.tail _ (.tail _ (.head _))))) fun b1 b2 b3 =>
 ⟨L.S.but (s':={ s with heap:=h' }) b (all1 ⟨.tail _ (.tail _ (.head _)),W.bd⟩) (fun _ q=>q) (fun a ha hz=>in1 hz ▸ hp.elim fun n e=>⟨_,e⟩) rfl rfl,b2,L.hv.keepX b1 (.refl ..),L.hi.at fun o e _=>b _ _ (nin1 W.id) e,hp,by simp only [Array.toList_push]; exact (L.hacc.keepX b1 (.refl ..)).append (.cons (hz.keepX b1 (.refl ..)) .nil),Nat.le_trans (Nat.le_of_eq List.length_append) hl,L.hC.imp fun m q=>Ns.same (X:=[]) q fun o e=>⟨o,b _ _ (nin1 W.cd) e,.inl rfl⟩,L.oi,L.oc,L.od,L.E,b3⟩
theorem Lp.rdy {A:Around} {n:Nat} {x:Str} {sc:Scope} {cl:List (Str × Addr)} {u:V} {uc:Value} {m:Str→Option Value} (W:Ls c env T.tab as₀ h₀ X I C D) (L:Lp c T env as₀ h₀ X ρ I C D v y k acc arr s as H) (a:AOk c A n) (fr:EnvFr c A X as₀ h₀ env) (K:KOk T env) (hlen:ρ.length = T.n)
  (ok:CompF T x sc) (hcl:∀ y a,cl.lookup y = some a→env.cells.lookup y = some a) (hcl':∀ y,sc.names.lookup y = some .free→cl.lookup y = env.cells.lookup y) (hm:s.heap.Ns C m) (hmx:m x = some uc) (hu:VR c as (I :: C :: D :: X) s.heap u uc) :
  Rdy c { T with names:=sc.names,tab:=(x,T.n) :: T.tab,n:=T.n + 1 } (compEnvC sc cl C env) A n s as (I :: C :: D :: X) H (ρ ++ [some u]):=by
 have kind:∀ y,(compEnvC sc cl C env).kindOf y = (sc.names.lookup y).map fun k=>if (k == NameKind.free && env.scope.kind == .function && env.kindOf y == some .cell) then NameKind.cell else k:=fun y=>lookup_relabel sc.names y
 have notcell:∀ y,sc.names.lookup y ≠ some .cell:=fun y e=>ok.nocell _ (mem_of_lookup e) rfl
 have kfree:∀ y,((compEnvC sc cl C env).kindOf y = some .cell ∨ (compEnvC sc cl C env).kindOf y = some .free)→sc.names.lookup y = some .free:=fun y e=>by
  rw [kind] at e
  refine optE (o:=sc.names.lookup y) (fun hq=>?_) (fun kk hq=>?_)
  ·rw [hq]; replace e:=(hq) ▸ e; simp at e
  ·rw [hq]
   replace e:=(hq) ▸ e
   cases kk with
   | free=>rfl
   | cell=>exact absurd hq (notcell y)
   | _=>simp at e
 have kloc:∀ y,(compEnvC sc cl C env).kindOf y = some .local→sc.names.lookup y = some .local:=fun y e=>by
  rw [kind] at e
  refine optE (o:=sc.names.lookup y) (fun hq=>?_) (fun kk hq=>?_)
  ·rw [hq]; simp only [hq] at e; exact nos e
  ·rw [hq]
   rw [hq] at e
   cases kk with
   | «local»=>rfl
   | free =>
    simp only [Option.map_some,Option.some.injEq] at e
    split at e <;> cases e
   | _=>cases e
 refine ⟨a,L.S,?_,?_,?_,((fr.grow (.refl _) cnt3).keep L.E L.K).env rfl⟩
 ·refine ⟨ok.kind,L.F.glob,L.F.bi,by simp [compEnvC],L.oc,W.bc,⟨m,hm,fun z i h1 h2=>?_⟩,fun z i h1 h2=>?_,fun z z' b h1 h2=>L.F.apart z z' b (hcl _ _ h1) (hcl _ _ h2),fun z z' i h1 h2=>?_⟩
  ·have hz:=ok.loc z (kloc z h2)
   have hzx:z = x:=by
    refine Or.elim (hz) (fun hz=>?_) fun hz=>?_
    ·exact hz
    ·simp only [List.lookup_cons] at h1
     refine boolE (o:=z == x) (fun hb=>?_) (fun hb=>?_)
     ·simpa using hb
     ·replace h1:=(hb) ▸ h1; simp only at h1; replace h1:=(hz).symm.trans h1; exact nos h1
   subst hzx
   simp only [List.lookup_cons,BEq.rfl,Option.some.injEq] at h1
   subst h1
   simp only [hmx,← hlen]
   intro w ew
   simp at ew
   subst ew
   exact ⟨uc,rfl,hu⟩
  ·have hz:=kfree z h2
   refine ea0_3 (ok.free z hz) ?_
   intro h3 p_2 h5
   refine ea1_1 (p_2) fun j h4=>?_
   have hzi:T.tab.lookup z = some i:=by
    rw [List.lookup_cons,show (z == x) = false by simpa using h5] at h1; exact h1
   have hek:env.kindOf z = some .cell ∨ env.kindOf z = some .free:=by
    refine Or.elim (h3) (fun h3=>?_) fun h3=>?_
    ·exact .inl (K.cell z h3)
    ·refine Or.elim (K.free z h3) (fun q=>?_) fun q=>?_
     ·exact .inr q
     ·exact .inl q
   refine ea2_7 (L.F.cells z i hzi hek) ?_
   intro a yy e1 e2 e3 e4 e5 e6 e7
   have hi:=ok.tabs z i hzi
   refine ⟨a,yy,(hcl' z hz).trans e1,e2,e3,e4,fun q=>W.aw.2 z i hzi hek a e1 (by simp only [q]; simp [compEnvC]),e6,?_⟩
   rw [List.getElem?_append_left (by lia)]
   exact e7
  ·rw [List.lookup_cons] at h1 h2
   refine boolE (o:=z == x) (fun hb=>?_) (fun hb=>?_)
   ·skip
    cases hb':z' == x with
    | true=>rw [beq_iff_eq] at hb hb'; simp only [hb,hb']
    | false =>
     rw [hb] at h1; rw [hb'] at h2
     simp only [Option.some.injEq] at h1 h2
     have:=ok.tabs _ _ h2
     omega
   ·skip
    cases hb':z' == x with
    | true =>
     rw [hb] at h1; rw [hb'] at h2
     simp only [Option.some.injEq] at h1 h2
     have:=ok.tabs _ _ h1
     omega
    | false=>rw [hb] at h1; rw [hb'] at h2; exact L.F.inj z z' i h1 h2
 ·refine ⟨fun z hz=>?_,fun z hz=>absurd hz (notcell z),fun z hz=>?_,fun z hz=>?_⟩
  ·rw [kind,hz]; rfl
  ·rw [kind,hz]
   simp only [Option.map_some]
   split
   ·exact .inr rfl
   ·exact .inl rfl
  ·rw [kind,hz]; rfl
 ·simp [hlen]
noncomputable def turnF (P:Prog) (Cs:Calls) (elt:Ex) (cond:Option Ex) (ρ:Fm) (XX:XE):V→AH→(Option V→AH→Prop)→Prop:=fun x H' K=>match cond with
 | none=>wpE P Cs elt (ρ ++ [some x]) H' (fun y H''=>K (some y) H'') XX
 | some q=>wpE P Cs q (ρ ++ [some x]) H' (fun b H₂=>okB (truth b) fun t=>if t then wpE P Cs elt (ρ ++ [some x]) H₂ (fun y H''=>K (some y) H'') XX else K none H₂) XX
theorem wpE_comp' {P:Prog} {Cs:Calls} {ρ:Fm} {H:AH} {Q:QE} {XX:XE} {mu:Bool} {elt it:Ex} {cond:Option Ex}:wpE P Cs (.comp mu elt it cond) ρ H Q XX = wpE P Cs it ρ H (fun v H₁=>∃ items,src H₁ v = some items∧items.length ≤ sizeOf' ∧
   compL (turnF P Cs elt cond ρ XX) (fun H'=>src H' v = some items) items [] H₁ (fun ys H₂=>okE (if mu then thaw (.lst ys) H₂ else some (.lst ys,H₂)) Q)) XX:=by
 cases cond <;> rfl
theorem drop_cons {α:Type} {l:List α} {k:Nat} {x:α} (h:l[k]? = some x):l.drop k = x :: l.drop (k + 1):=by
 obtain ⟨h1,h2⟩:=List.getElem?_eq_some_iff.mp h
 simp only [List.drop_eq_getElem_cons h1,h2]
theorem ERes.nsC {as:Adr} {Y:List Addr} {h:HP} {XX:XE} {x:Value} {s':Shared} (r:ERes c as Y h XX x s') (hC:∃ m,h.Ns C m) (oc:C ∉ as):∃ m,s'.heap.Ns C m:=by
 obtain ⟨k,H',as',e,t,ts,_,e',S,k',ex,ht,ap,w⟩:=r
 obtain ⟨m,n⟩:=hC
 exact ⟨m,Ns.same n fun o e=>k' _ o e oc⟩
theorem Lp.small (L:Lp c T env as₀ h₀ X ρ I C D v y k acc arr s as H) (hk:k ≤ sizeOf'):arr.size ≤ sizeLine:=Nat.le_trans (Nat.le_of_eq (Array.length_toList.symm.trans L.hacc.length.symm)) (Nat.le_trans L.hl (Nat.le_trans hk sizeOf'_le))
section
variable {A:Around} {n:Nat} {elt:Expr} {T':Tb} {env':Env} {b:Ex} {XX:XE} {u:V} {K:List V→AH→Prop} {J:Shared→Prop} {E':Value→Shared→Prop}
  (W:Ls c env T.tab as₀ h₀ X I C D) (he:SE c n T' elt b) (hk:k ≤ sizeOf') (hl:acc.length + 1 ≤ k)
  (hJ:∀ {acc:List V} {arr:Array Value} {s:Shared} {as:Adr} {H:AH},Lp c T env as₀ h₀ X ρ I C D v y k acc arr s as H→K acc H→J s)
  (hE:∀ x s',ERes c as₀ (I :: C :: D :: X) h₀ XX x s'→(∃ m,s'.heap.Ns C m)→E' x s')
  (L:Lp c T env as₀ h₀ X ρ I C D v y k acc arr s as H) (r:Rdy c T' env' A n s as (I :: C :: D :: X) H (ρ ++ [some u]))
include W he hk hl hJ hE L r
theorem comp_elt (w:wpE c.P (callF c.P n) b (ρ ++ [some u]) H (fun y H''=>K (acc ++ [y]) H'') XX) :
  wpAny c.M A (eval elt env') (fun x s₄=>wpAny c.M A (call (.builtin "list.append") [.ref D,x]) (fun _ s₅=>J s₅) E' s₄) E' s :=
 wpAny_mono (he.run r w) (fun zc s₄ q=>by
  obtain ⟨zv,H₄,as₄,e₄,S₄,k₄,hz₄,w₄⟩:=q
  exact wpAny_list_append_plain (hsz:=(L.eval e₄ k₄ S₄).small hk) (L.eval e₄ k₄ S₄).hD fun h₅ hp₅ hs₅=>hJ ((L.eval e₄ k₄ S₄).push W (fun q o hq e=>(hs₅.2 q (ne1 hq)).trans e) hp₅ hz₄ hl) w₄)
  fun _ _ e=>hE _ _ (e.lift L.E L.K) (e.nsC L.hC L.oc)
theorem comp_turn {ifs:List Expr} {cond:Option Ex} (hc:(ifs = []∧cond = none) ∨ ∃ t q,ifs = [t]∧cond = some q∧ST c n T' t q) (w:turnF c.P (callF c.P n) b cond ρ XX u H (fun r H'=>K (match r with | some x=>acc ++ [x] | none=>acc) H')) :
  wpAny c.M A (forIn ifs true fun c r=>if r = true then do let ok ← isTrue c env' (eval c env'); pure (ForInStep.yield ok) else pure (ForInStep.yield r)) (fun ok s₃ =>
   if ok = true then wpAny c.M A (eval elt env') (fun x s₄=>wpAny c.M A (call (.builtin "list.append") [.ref D,x]) (fun _ s₅=>J s₅) E' s₄) E' s₃ else J s₃) E' s:=by
 refine Or.elim hc (fun h=>?_) fun h=>ea2_3 h fun t q h1 h2 ht=>?_
 ·(refine ea0_2 (h) fun e_0 e_1=>?_; cases e_0; subst e_1)
  exact wpAny_tests_nil (comp_elt W he hk hl hJ hE L r w)
 ·subst h1
  subst h2
  refine wpAny_tests_one (wpAny_mono (ht.run (Q:=fun t H₂=>if t then wpE c.P (callF c.P n) b (ρ ++ [some u]) H₂ (fun y H''=>K (acc ++ [y]) H'') XX else K acc H₂) (fun _ _ q=>q) r w) (fun bb s₃ q=>?_) fun _ _ e=>hE _ _ (e.lift L.E L.K) (e.nsC L.hC L.oc))
  obtain ⟨H₃,as₃,e₃,S₃,k₃,w₃⟩:=q
  cases bb with
  | true=>exact comp_elt W he hk hl hJ hE (L.eval e₃ k₃ S₃) (r.next e₃ k₃ S₃) w₃
  | false=>exact hJ (L.eval e₃ k₃ S₃) w₃
end
noncomputable def CI (c:Cx) (T:Tb) (env:Env) (as₀:Adr) (h₀:HP) (X:List Addr) (ρ:Fm) (I C D:Addr) (v:V) (y:Value) (items:List V) (F:V→AH→(Option V→AH→Prop)→Prop) (QQ:List V→AH→Prop) (m:Nat) (s:Shared):Prop :=
 ∃ k acc arr as H,m = items.length - k∧k ≤ items.length∧Lp c T env as₀ h₀ X ρ I C D v y k acc arr s as H∧compL F (fun H'=>src H' v = some items) (items.drop k) acc H QQ
theorem comp_loop {A:Around} {n:Nat} {x:Str} {px:Pos} {elt iter:Expr} {ifs:List Expr} {sc:Scope} {pos:Pos} {cl:List (Str × Addr)} {b:Ex} {cond:Option Ex} {XX:XE} {items:List V} {QQ:List V→AH→Prop} {R:Result→Shared→Prop}
  (W:Ls c env T.tab as₀ h₀ X I C D) (a:AOk c A n) (fr:EnvFr c A X as₀ h₀ env) (K:KOk T env) (hlen:ρ.length = T.n)
  (ok:CompF T x sc) (hcl:∀ y a,cl.lookup y = some a→env.cells.lookup y = some a) (hcl':∀ y,sc.names.lookup y = some .free→cl.lookup y = env.cells.lookup y)
  (he:SE c n { T with names:=sc.names,tab:=(x,T.n) :: T.tab,n:=T.n + 1 } elt b)
  (hc:(ifs = []∧cond = none) ∨ ∃ t q,ifs = [t]∧cond = some q∧ST c n { T with names:=sc.names,tab:=(x,T.n) :: T.tab,n:=T.n + 1 } t q)
  (hsz:items.length ≤ sizeOf')
  (L:Lp c T env as₀ h₀ X ρ I C D v y k acc arr s as H)
  (w:compL (turnF c.P (callF c.P n) b cond ρ XX) (fun H'=>src H' v = some items) (items.drop k) acc H QQ) (hk:k ≤ items.length)
  (hR:∀ k' acc' arr' s' as' H' tk h',Lp c T env as₀ h₀ X ρ I C D v y k' acc' arr' s' as' H'→k' ≤ items.length→But [I] s'.heap h'→QQ acc' H'→R (.ok .next) { s' with heap:=h',toks:=tk })
  (hX:∀ x s',ERes c as₀ (I :: C :: D :: X) h₀ XX x s'→Trc x s'.heap→(∃ m,s'.heap.Ns C m)→R (.error x) s') :
  codeAny c.M A (.compLoop (.ListComp elt [⟨.Name x px,iter,ifs,0⟩] sc pos) 0 (.ref I) (.ref D) (compEnvC sc cl C env)) R s:=by
 refine codeAny_compLoop_tests (CI c T env as₀ h₀ X ρ I C D v y items (turnF c.P (callF c.P n) b cond ρ XX) QQ) (fun m s h0=>?_) (items.length - k) ⟨k,acc,arr,as,H,rfl,hk,L,w⟩
 clear L w hk
 refine ea5_4 h0 fun k acc arr as H q_0 hk L w=>?_
 clear h0
 subst q_0
 refine optE (o:=items[k]?) (fun hx=>?_) fun u hx=>?_
 ·have hkl:items.length = k:=Nat.le_antisymm (List.getElem?_eq_none_iff.mp hx) hk
  replace w:=(List.drop_eq_nil_of_le (Nat.le_of_eq hkl)) ▸ w
  exact it_done a.hh L.S (.head _) L.hv L.hi w.1 hkl fun h' tk hb=>hR k acc arr s as H tk h' L hk hb w.2
 ·have hlt:=(List.getElem?_eq_some_iff.mp hx).1
  rw [drop_cons hx] at w
  refine it_next a.hh L.S (.head _) W.bi L.hv L.hi w.1 hx fun z h₁ tk₁ b₁ hu₁ hv₁ hi₁ S₁=>?_
  have L₁:=L.next W b₁ hv₁ hi₁ S₁
  refine L₁.hC.elim fun m hm=>wpAny_assign_Name (wpAny_storeName_local (lookup_relabel_local ok.hx) hm (fun h₂ hm₂ hs₂=>?_) (by show (sc.kind == .class || (sc.kind == .module && _)) = false; rw [ok.kind]; rfl))
  have b₂:But [C] h₁ h₂:=fun q o hq e=>(hs₂.2 q (ne1 hq)).trans e
  have L₂:=L₁.store (tk:=tk₁ + 1) W b₂ hm₂
  exact comp_turn W he (Nat.le_trans hlt hsz) (Nat.succ_le_succ L.hl) (fun L' w'=>⟨items.length - (k + 1),Nat.sub_lt_sub_left hlt (Nat.lt_succ_self k),k + 1,_,_,_,_,rfl,hlt,L',w'⟩)
   (fun x s' er hm=>hm.elim fun m hm=>er.note (fun as' _ _ e k _ _=>((fr.grow (.refl _) cnt3).keep e k).env rfl) fun s'' er' tr d=>hX x s'' er' tr ⟨m,d.ns hm⟩)
   L₂ (L₂.rdy W a fr K hlen ok hcl hcl' hm₂ (by simp) (hu₁.keepX (b₂.vk as (all1 (.tail _ (.head _)))) (.refl ..))) hc w.2
end
theorem SR.opens {c:Cx} {as:Adr} {X Y:List Addr} {H:AH} {s s':Shared} (x:SR c as X H s) (g:Grown s.heap s'.heap) (hX:∀ b ∈ Y,b ∈ X ∨ s.heap.get? b = none) (hx:∀ b ∈ Y,∃ o,s'.heap.get? b = some o) (hg:s'.gens = s.gens) (ho:s'.os = s.os):SR c as Y H s' where
 len:=x.len
 stays:=fun b o e=>g b o (x.stays b o e)
 gens:=hg.trans x.gens
 os:=ho.trans x.os
 objs:=fun i a e=>by
  refine ea0_3 (x.objs i a e) ?_
  intro h1 h2 r_3
  refine ea1_2 r_3 ?_
  intro o h3 h4
  obtain ⟨ob,hob⟩:=h4.here
  have hy:∀ b o,s.heap.get? b = some o→b ∉ X→b ∉ Y:=fun b o e hb q=>by
   refine Or.elim (hX b q) (fun r=>?_) fun r=>?_
   ·exact hb r
   ·exact nos ((r).symm.trans e)
  exact ⟨h1,hy _ _ hob h2,o,h3,(h4.frames hy).keepX (g.kept as Y).x fun ob e=>g _ _ e⟩
 inj:=x.inj
 xs:=hx
theorem FR.opens {c:Cx} {as:Adr} {X Y:List Addr} {h h':HP} {env:Env} {tab:List (Str × Nat)} {ρ:Fm} (F:FR c as X h env tab ρ) (g:Grown h h') (hXY:∀ b ∈ X,b ∈ Y) (hX:∀ b ∈ Y,b ∈ X ∨ h.get? b = none):FR c as Y h' env tab ρ :=
 (F.frames hXY fun b o e hb q=>by
  refine Or.elim (hX b q) (fun r=>?_) fun r=>?_
  ·exact hb r
  ·exact nos ((r).symm.trans e)).keep (g.kept as Y) (.refl ..)
theorem VR.opens {c:Cx} {as:Adr} {X Y:List Addr} {h h':HP} {v:V} {y:Value} (F:VR c as X h v y) (g:Grown h h') (hX:∀ b ∈ Y,b ∈ X ∨ h.get? b = Option.none):VR c as Y h' v y :=
 (F.frames fun b o e hb q=>by
  refine Or.elim (hX b q) (fun r=>?_) fun r=>?_
  ·exact hb r
  ·exact nos ((r).symm.trans e)).grow g
theorem adopt_k {as:Adr} {X Y:List Addr} {a:Addr} {h:HP} (ha:a ∈ X) (hY:∀ b ∈ Y,b ∈ X):∀ b (o:Obj),b ∉ as→b ∉ X→h.get? b = some o→b ∉ as ++ [a]∧b ∉ Y∧h.get? b = some o:=fun b o h1 h2 h3 =>
 ⟨nin2 h1 fun q=>h2 (q ▸ ha),fun q=>h2 (hY _ q),h3⟩
theorem VR.adopt {c:Cx} {as:Adr} {X Y:List Addr} {h:HP} {a:Addr} (ha:a ∈ X) (hY:∀ b ∈ Y,b ∈ X) {v:V} {y:Value} (r:VR c as X h v y):VR c (as ++ [a]) Y h v y:=VR.gen (adopt_k ha hY) (fun _ _ e=>app_get e) r
theorem VRs.adopt {c:Cx} {as:Adr} {X Y:List Addr} {h:HP} {a:Addr} (ha:a ∈ X) (hY:∀ b ∈ Y,b ∈ X) {v:List V} {y:List Value} (r:VRs c as X h v y):VRs c (as ++ [a]) Y h v y:=VRs.gen (adopt_k ha hY) (fun _ _ e=>app_get e) r
theorem OR.adopt {c:Cx} {as:Adr} {X Y:List Addr} {h:HP} {a b:Addr} {o:O} (ha:a ∈ X) (hY:∀ b ∈ Y,b ∈ X) (x:OR c as X h b o):OR c (as ++ [a]) Y h b o:=by
 cases o with
 | list vs=>refine ea0_2 (x) fun hb q_=>ea1_1 q_ fun items q_=>ea0_2 q_ fun hp r=>?_; exact ⟨hb,items,hp,r.adopt ha hY⟩
 | dict ks vs=>obtain ⟨hb,hsm,cs,hd,hl,r⟩:=x; exact ⟨hb,hsm,cs,hd,hl,r.adopt ha hY⟩
 | inst k d=>obtain ⟨dx,ob,e1,r0,r1,r2,r3⟩:=x; exact ⟨dx,ob,app_get e1,r0,r1,r2,r3⟩
 | ns ks vs=>obtain ⟨hb,cs,mA,hn,hl,r,hm⟩:=x; exact ⟨hb,cs,mA,hn,hl,r.adopt ha hY,hm⟩
theorem SR.adopt {c:Cx} {as:Adr} {X Y:List Addr} {H:AH} {s:Shared} {a:Addr} {o:O} (S:SR c as X H s) (ha:a ∈ X) (hb:c.base.get? a = none) (hY:∀ b ∈ Y,b ∈ X) (haY:a ∉ Y) (ho:OR c (as ++ [a]) Y s.heap a o):SR c (as ++ [a]) Y (H ++ [o]) s where
 len:=by simp only [List.length_append,List.length_append,S.len]; rfl
 stays:=S.stays
 gens:=S.gens
 os:=S.os
 objs:=fun i b e=>(snoc_get e).elim (fun e=>ea0_3 (S.objs i b e) fun h1 h2 r=>ea1_2 r fun ob h3 h4=>⟨h1,fun q=>h2 (hY _ q),ob,app_get h3,h4.adopt ha hY⟩) fun q=>by
  (refine ea0_2 (q) fun e_0 e_1=>?_; subst e_0; subst e_1)
  exact ⟨hb,haY,o,by rw [S.len]; exact List.getElem?_concat_length,ho⟩
 inj:=fun i j b e1 e2=>by
  have hne:∀ {i:Nat},as[i]? = some b→b ≠ a:=fun e q=>(S.objs _ _ e).2.1 (q ▸ ha)
  exact (snoc_get e1).elim (fun h1=>(snoc_get e2).elim (S.inj i j b h1) fun h2=>absurd h2.2 (hne h1)) fun h1=>(snoc_get e2).elim (fun h2=>absurd h1.2 (hne h2)) fun h2=>h1.1.trans h2.1.symm
 xs:=fun b hb=>S.xs b (hY b hb)
theorem OVR.adopt {c:Cx} {as:Adr} {X Y:List Addr} {h:HP} {a:Addr} {o:Option V} {y:Option Value} (ha:a ∈ X) (hY:∀ b ∈ Y,b ∈ X) (z:OVR c as X h o y):OVR c (as ++ [a]) Y h o y :=
 fun v e=>let ⟨q,e1,e2⟩:=z v e; ⟨q,e1,e2.adopt ha hY⟩
theorem FR.narrow {c:Cx} {as:Adr} {X Y Z:List Addr} {h:HP} {env:Env} {tab:List (Str × Nat)} {ρ:Fm} (F:FR c as X h env tab ρ) (hY:∀ b ∈ Y,b ∈ X) (hZ:∀ b ∈ X,b ∈ Y ∨ b ∈ Z) (aw:Away Z env tab):FR c as Y h env tab ρ where
 kind:=F.kind
 glob:=F.glob
 bi:=F.bi
 lx:=(hZ _ F.lx).resolve_right aw.1
 lout:=F.lout
 lb:=F.lb
 ns:=by
  refine ea1_2 F.ns ?_
  intro m n r
  exact ⟨m,n,fun y i h1 h2=>(r y i h1 h2).frames fun b _ _ hb q=>hb (hY _ q)⟩
 cells:=fun y i h1 h2=>by
  refine ea2_7 (F.cells y i h1 h2) ?_
  intro a z e1 e2 e3 e4 e5 e6 e7
  exact ⟨a,z,e1,(hZ _ e2).resolve_right (aw.2 y i h1 h2 a e1),e3,e4,e5,e6,e7.frames fun b _ _ hb q=>hb (hY _ q)⟩
 apart:=F.apart
 inj:=F.inj
theorem FR.adopt {c:Cx} {as:Adr} {X Y Z:List Addr} {h:HP} {a:Addr} {env:Env} {tab:List (Str × Nat)} {ρ:Fm} (F:FR c as X h env tab ρ) (ha:a ∈ X) (hY:∀ b ∈ Y,b ∈ X) (hZ:∀ b ∈ X,b ∈ Y ∨ b ∈ Z) (aw:Away Z env tab) (haZ:a ∈ Z):FR c (as ++ [a]) Y h env tab ρ where
 kind:=F.kind
 glob:=F.glob
 bi:=F.bi
 lx:=(hZ _ F.lx).resolve_right aw.1
 lout:=nin2 F.lout fun q=>aw.1 (q ▸ haZ)
 lb:=F.lb
 ns:=by
  refine ea1_2 F.ns ?_
  intro m n r
  exact ⟨m,n,fun y i h1 h2=>(r y i h1 h2).adopt ha hY⟩
 cells:=fun y i h1 h2=>by
  refine ea2_7 (F.cells y i h1 h2) ?_
  intro a' z e1 e2 e3 e4 e5 e6 e7
  have hz:=aw.2 y i h1 h2 a' e1
  exact ⟨a',z,e1,(hZ _ e2).resolve_right hz,nin2 e3 fun q=>hz (q ▸ haZ),e4,e5,e6,e7.adopt ha hY⟩
 apart:=F.apart
 inj:=F.inj
theorem it_self {prog:Program} {w:World} {A:Around} {E:Value→Shared→Prop} {s:Shared} {I:Addr} {v:V} {y:Value} {k:Nat} {Q:Value→Shared→Prop} (hi:ItC s.heap I v y k) (h:Q (.ref I) s):wpAny (model prog w) A (pyIter (.ref I)) Q E s:=by
 cases v <;> try exact hi.elim
 ·obtain ⟨x,t,_,h1 | h1⟩:=hi
  ·exact wpAny_pyIter_striter_ascii h1 h
  ·exact wpAny_pyIter_striter_wide h1 h
 ·refine ea1_2 hi ?_
  intro a _ h1
  exact wpAny_pyIter_tupleiter h1 h
 ·refine ea1_2 hi ?_
  intro a _ h1
  exact wpAny_pyIter_listiter h1 h
 ·exact wpAny_pyIter_rangeiter hi h
 ·refine ea1_2 hi ?_
  intro a _ h1
  exact wpAny_pyIter_listiter h1 h
noncomputable def ResC (c:Cx) (as:Adr) (X:List Addr) (h:HP) (env:Env) (tab:List (Str × Nat)) (ρ:Fm) (C:Addr) (Q:QE) (x:Value) (s':Shared):Prop :=
 ∃ v H' as',Ext as h as'∧SR c as' (C :: X) H' s'∧Kept as X h s'.heap∧VR c as' (C :: X) s'.heap v x∧Q v H'∧FR c as' (C :: X) s'.heap env tab ρ
theorem Res.drop {c:Cx} {as:Adr} {X:List Addr} {h:HP} {C:Addr} {Q:QE} {x:Value} {s':Shared} {h':HP} (r:Res c as (C :: X) h Q x s') (hC:Fr as h C) (hb:c.base.get? C = none) (hX:C ∉ X) (hs:Heap.SameBut C s'.heap h'):Res c as X h Q x { s' with heap:=h' }:=by
 obtain ⟨v,H',as',e,S,k,hv,q⟩:=r
 have b:But [C] s'.heap h':=fun q o hq e=>(hs.2 q (by exact ne1 (hq))).trans e
 exact ⟨v,H',as',e,S.but (s':={ s' with heap:=h' }) b (by simpa using hb) (fun _ q=>.tail _ q) (fun a ha hz=>by replace hz:=in1 hz; (replace hz:=Eq.symm hz; subst hz); exact (hX ha).elim) rfl rfl,(k.but b (by exact all1 (hC))).less (fun a ha=>(cnt1 ha).elim (fun q=>.inr (q ▸ hC)) .inl),
  (hv.keepX (b.vk as' (by exact all1 (.head _))) (.refl ..)).frames fun b _ _ hb q=>hb (.tail _ q),q⟩
section
variable {c:Cx} {T:Tb} {env:Env} {X:List Addr} {ρ:Fm} {s:Shared} {as:Adr} {H:AH} {E:Value→Shared→Prop}
theorem comp_block {A:Around} {n:Nat} {x:Str} {px:Pos} {elt iter:Expr} {ifs:List Expr} {sc:Scope} {pos:Pos} {cl:List (Str × Addr)} {b:Ex} {cond:Option Ex} {XX:XE} {mu:Bool} {Q:QE} {RR:Value→Addr→Result→Shared→Prop}
  {v:V} {y:Value} {s₁:Shared} {as₁:Adr} {H₁:AH}
  (R:Rdy c T env A n s as X H ρ)
  (ok:CompF T x sc) (hcl:∀ y a,cl.lookup y = some a→env.cells.lookup y = some a) (hcl':∀ y,sc.names.lookup y = some .free→cl.lookup y = env.cells.lookup y)
  (he:SE c n { T with names:=sc.names,tab:=(x,T.n) :: T.tab,n:=T.n + 1 } elt b)
  (hc:(ifs = []∧cond = none) ∨ ∃ t q,ifs = [t]∧cond = some q∧ST c n { T with names:=sc.names,tab:=(x,T.n) :: T.tab,n:=T.n + 1 } t q)
  (e1:Ext as s.heap as₁) (k1:Kept as X s.heap s₁.heap) (S1:SR c as₁ X H₁ s₁) (hv:VR c as₁ X s₁.heap v y)
  (w:∃ items,src H₁ v = some items∧items.length ≤ sizeOf'∧compL (turnF c.P (callF c.P n) b cond ρ XX) (fun H'=>src H' v = some items) items [] H₁ (fun ys H₂=>okE (if mu then thaw (.lst ys) H₂ else some (.lst ys,H₂)) Q))
  (hRR:∀ D C s',Fr as s.heap C→C ∉ X→c.base.get? C = none→(∃ m,s'.heap.Ns C m)→ResC c as X s.heap env T.tab ρ C Q (.ref D) s'→RR (.ref D) C (.ok .next) s')
  (hRX:∀ D C x s',Fr as s.heap C→C ∉ X→c.base.get? C = none→(∃ m,s'.heap.Ns C m)→ERes c as (C :: X) s.heap XX x s'→Trc x s'.heap→RR (.ref D) C (.error x) s') :
  wpAny c.M A (pyIter y) (fun it s₂=>wpAny c.M A (newList []) (fun acc s₃=>wpAny c.M A (newFunctionEnv sc env.globals cl [] env.qual none .none (some env)) (fun cenv s₄ =>
   codeAny c.M A (.compStart (.ListComp elt [⟨.Name x px,iter,ifs,0⟩] sc pos) 0 it acc { cenv with scope:=relabel sc env }) (RR acc cenv.locals) s₄) E s₃) E s₂) E s₁:=by
 refine ea1_3 w ?_
 intro items hsrc hsz w
 refine it_start S1 hv hsrc fun o hi=>?_
 refine wpAny_newObj_type (wpAny_newFunctionEnv ok.nocell (by intro y hy; simp at hy) (fun h₁ hns₁ hsb₁=>?_) ok.kind)
 dsimp only at hns₁ hsb₁ ⊢
 generalize hI:s₁.heap.objs.size = I at hi ⊢
 have hfI:s₁.heap.get? I = none:=hI ▸ get_fresh _
 generalize hH1:s₁.heap.push o = G1 at hi hns₁ hsb₁ ⊢
 have gI:Grown s₁.heap G1:=hH1 ▸ .push _ _
 generalize hD:G1.objs.size = D at hns₁ hsb₁ ⊢
 have hfD:G1.get? D = none:=hD ▸ get_fresh _
 generalize hH2:G1.push { cls:=.type "list",dict:=none,data:=.seq ([]:List Value).toArray } = G2 at hns₁ hsb₁ ⊢
 have gD:Grown G1 G2:=hH2 ▸ .push _ _
 have hlD:G2.get? D = some { cls:=.type "list",dict:=none,data:=.seq ([]:List Value).toArray }:=by rw [← hH2,← hD]; exact Heap.get?_push_size _ rfl
 generalize hC:G2.objs.size = C at hns₁ hsb₁ ⊢
 have hfC:G2.get? C = none:=hC ▸ get_fresh _
 have g3:Grown G2 h₁:=fun q o e=>hsb₁.extBut q o (fun h=>by (replace h:=Eq.symm h; subst h); replace e:=(hfC).symm.trans e; exact nos e) (Heap.get?_push_of_some _ e)
 refine ea1_2 hi.here fun oI eI _=>?_
 have hID:=at_ne eI hfD
 have hIC:=at_ne (gD _ _ eI) hfC
 have hCD:=(at_ne hlD hfC).symm
 have fC:=gI.none (gD.none hfC)
 have fD:=gI.none hfD
 have g13:=(gI.trans gD).trans g3
 have hX':∀ b ∈ I :: C :: D :: X,b ∈ X ∨ s₁.heap.get? b = none:=fm1 (.inr hfI) (fm1 (.inr fC) (fm1 (.inr fD) fun _ hb=>.inl hb))
 have F1:=R.F.keep k1 e1
 have aw:Away [I,C,D] env T.tab:=F1.away (fm1 (S1.not_x hfI) (fm1 (S1.not_x fC) (fm1 (S1.not_x fD) fm0)))
 have W:Ls c env T.tab as s.heap X I C D:=⟨hIC,hID,hCD,S1.base_none hfI,S1.base_none fC,S1.base_none fD,k1.fr hfI,k1.fr fC,k1.fr fD,S1.not_x fD,S1.not_x fC,aw⟩
 have L:Lp c T env as s.heap X ρ I C D v y 0 [] #[] { s₁ with heap:=h₁,toks:=s₁.toks + ([]:List (Str × Value)).length } as₁ H₁ :=
  ⟨S1.opens (s':={ s₁ with heap:=h₁,toks:=s₁.toks + ([]:List (Str × Value)).length }) g13 hX' (fm1 ⟨oI,g3 _ _ (gD _ _ eI)⟩ (fm1 (ea3_2 hns₁ fun o _ _ e _=>⟨o,e⟩) (fm1 ⟨_,g3 _ _ hlD⟩ fun b hb=>(S1.xs b hb).imp fun o e=>g13 _ _ e))) rfl rfl,F1.opens g13 (fun b hb=>.tail _ (.tail _ (.tail _ hb))) hX',hv.opens g13 hX',hi.at fun o e _=>g3 _ _ (gD _ _ e),⟨_,g3 _ _ hlD⟩,.nil,Nat.le_refl _,⟨_,hns₁⟩,S1.not_as hfI,S1.not_as fC,S1.not_as fD,e1,(k1.more cnt3).trans e1 (g13.kept as₁ _)⟩
 have loop:codeAny c.M A (.compLoop (.ListComp elt [⟨.Name x px,iter,ifs,0⟩] sc pos) 0 (.ref I) (.ref D) (compEnvC sc cl C env)) (RR (.ref D) C) { s₁ with heap:=h₁,toks:=s₁.toks + ([]:List (Str × Value)).length }:=by
  refine comp_loop W R.a R.fr R.K R.len ok hcl hcl' he hc hsz L w (Nat.zero_le _) (fun k' acc' arr' s' as' H' tk h' L' hk' bI q=>?_) fun x s' er tr hm=>hRX D C x s' W.hc W.cx W.bc hm (er.less (fm1 (.tail _ (.head _)) fun b hb=>.tail _ (.tail _ (.tail _ hb))) (W.cnt fun b hb=>.inl (Nat.le_trans hb List.count_le_count_cons))) tr
  refine hRR D C _ W.hc W.cx W.bc (L'.hC.imp fun m q=>Ns.same (X:=[]) q fun o e=>⟨o,bI _ _ (nin1 (Ne.symm hIC)) e,.inl rfl⟩:∃ m,h'.Ns C m) ?_
  refine ea0_3 (L'.but (s':={ s' with heap:=h',toks:=tk }) W bI (all1 (.head _))) fun b1 b2 b3=>?_
  have hpD:h'.PlainList D arr':=L'.hD.imp fun n q=>bI _ _ (nin1 (Ne.symm hID)) q
  have hbn:acc'.length ≤ bnd:=Nat.le_trans (Nat.le_trans L'.hl (Nat.le_trans hk' hsz)) (Nat.le_of_add_right_le sizeOf'_bnd)
  have hDC:D ∉ C :: X:=List.not_mem_cons_of_ne_of_not_mem (Ne.symm hCD) W.dx
  have hsub':∀ b ∈ C :: X,b ∈ C :: D :: X:=fm1 (.head _) fun b hb=>.tail _ (.tail _ hb)
  have hZ':∀ b ∈ C :: D :: X,b ∈ C :: X ∨ b ∈ [I,C,D]:=fm1 (.inl (.head _)) (fm1 (.inr (.tail _ (.tail _ (.head _)))) fun b hb=>.inl (.tail _ hb))
  -- without the iterator
  have S3:SR c as' (C :: D :: X) H' { s' with heap:=h',toks:=tk }:=L'.S.but (s':={ s' with heap:=h',toks:=tk }) bI (all1 ⟨.head _,W.bi⟩) (fun b hb=>.tail _ hb) (fm1 (fun hz=>absurd (in1 hz).symm hIC) (fm1 (fun hz=>absurd (in1 hz).symm hID) fun b hb hz=>absurd (in1 hz ▸ hb) (S1.not_x hfI))) rfl rfl
  have F3:FR c as' (C :: D :: X) h' env T.tab ρ:=b2.narrow (Z:=[I,C,D]) (fun b hb=>.tail _ hb) (fm1 (.inr (.head _)) fun b hb=>.inl hb) aw
  have hacc3:=(L'.hacc.keepX b1 (.refl ..)).frames fun b _ _ hb q=>hb (.tail _ q)
  have b3':=b3.less (X:=X) (W.cnt fun b hb=>.inl hb)
  cases mu with
  | false =>
   refine ⟨.lst acc',H',as',L'.E,S3.turn (s':={ s' with heap:=h',toks:=tk }) (fun b o e _ _=>e) S3.stays hsub' (fun b hb=>S3.xs b (hsub' b hb)) rfl rfl,b3',?_,q,F3.narrow hsub' hZ' aw⟩
   exact .lst L'.od hDC hpD (hacc3.frames fun b _ _ hb q=>hb (hsub' b q)) hbn
  | true =>
   have hDin:D ∈ C :: D :: X:=.tail _ (.head _)
   have q':Q (.ref H'.length) (H' ++ [.list acc']):=q
   refine ⟨.ref H'.length,H' ++ [.list acc'],as' ++ [D],⟨fun i z e=>?_,fun z hz=>?_⟩,S3.adopt (o:=.list acc') hDin W.bd hsub' hDC ⟨hbn,arr',hpD,hacc3.adopt hDin hsub'⟩,b3',.ref ?_,q',F3.adopt hDin hsub' hZ' aw (.tail _ (.tail _ (.head _)))⟩
   ·exact app_get (L'.E.old i z e)
   ·exact (List.mem_append.mp hz).elim (L'.E.new z) fun r=>in1 r ▸ W.hd
   ·rw [← S3.len]; exact List.getElem?_concat_length
 exact codeAny_compStart_list loop (it_self L.hi loop)
noncomputable def NSet (e:Expr):Prop:=∀ a k p,e ≠ .Set a k p
theorem folded_ns {e:Expr} (h:NSet e) (env:Env) (x:Value):foldedSetIterable e env x = pure x:=by
 cases e with
 | Set a k p=>exact absurd rfl (h a k p)
 | _=>rfl
theorem ResC.drop {C:Addr} {Q:QE} {x:Value} {s':Shared} {h':HP} (r:ResC c as X s.heap env T.tab ρ C Q x s') (hC:Fr as s.heap C) (hb:c.base.get? C = none) (hX:C ∉ X) (hs:Heap.SameBut C s'.heap h'):Res c as X s.heap Q x { s' with heap:=h' }:=by
 refine ea3_6 r ?_
 intro v H' as' e S k hv q _
 exact Res.drop ⟨v,H',as',e,S,k.more (fun _=>List.count_le_count_cons),hv,q⟩ hC hb hX hs
theorem free_cells {sc:Scope} {x:Str} (F:FR c as X s.heap env T.tab ρ) (K:KOk T env) (ok:CompF T x sc):∀ y,sc.names.lookup y = some .free→∃ a,env.cells.lookup y = some a:=fun y hy=>by
 refine ea0_3 (ok.free y hy) ?_
 intro h3 p_2 h5
 obtain ⟨j,h4⟩:=p_2
 have hek:env.kindOf y = some .cell ∨ env.kindOf y = some .free:=by
  refine Or.elim (h3) (fun h3=>?_) fun h3=>?_
  ·exact .inl (K.cell y h3)
  ·refine Or.elim (K.free y h3) (fun q=>?_) fun q=>?_
   ·exact .inr q
   ·exact .inl q
 refine ea2_2 (F.cells y j h4 hek) ?_
 intro a _ e1 _
 exact ⟨a,e1⟩
theorem ERes.drop {C:Addr} {XX:XE} {x:Value} {s':Shared} {h':HP} (r:ERes c as (C :: X) s.heap XX x s') (tr:Trc x s'.heap) (hC:Fr as s.heap C) (hb:c.base.get? C = none) (hX:C ∉ X) (hs:Heap.SameBut C s'.heap h'):ERes c as X s.heap XX x { s' with heap:=h' }∧Trc x h':=by
 obtain ⟨k,H',as',e,t,ts,rfl,e',S,k',ex,ht,ap,w⟩:=r
 refine ea3_2 tr ?_
 intro e₁ T cls he ex₁
 cases he
 have b:But [C] s'.heap h':=fun q o hq e=>(hs.2 q (by exact ne1 (hq))).trans e
 have hne:∀ a ∈ e :: ts,a ≠ C:=fun a ha q=>(ap a ha).2.2.1 (q ▸ .head _)
 have kE:∀ {t:Option Addr},(∀ T,t = some T→T ∈ ts)→∀ a ∈ e :: t.toList,∀ o,s'.heap.get? a = some o→h'.get? a = some o:=fun {t} ht a ha o q=>b a o (by
  rw [List.mem_singleton]
  refine Or.elim (List.mem_cons.mp ha) (fun q_=>?_) (fun ha=>?_)
  ·(replace q_:=Eq.symm q_; subst q_); exact hne _ (.head _)
  ·exact hne _ (.tail _ (ht a (Option.mem_toList.mp ha)))) q
 have hY:∀ a ∈ e :: (ts ++ X),a ≠ C:=fun a ha=>by
  rcases List.mem_cons.mp ha with rfl | ha
  ·exact hne _ (.head _)
  ·refine Or.elim (List.mem_append.mp ha) (fun ha=>?_) fun ha=>?_
   ·exact hne _ (.tail _ ha)
   ·exact fun q=>hX (q ▸ ha)
 replace ex₁:=ex.uniq ex₁
 obtain rfl:=ex₁
 refine ⟨⟨k,H',as',e,some T,ts,rfl,e',S.but (s':={ s' with heap:=h' }) b (fun a ha=>?_) (fun a ha=>?_) (fun a ha hz=>absurd (List.mem_singleton.mp hz) (hY a ha)) rfl rfl,(k'.but b (by exact all1 (hC))).less (fun a ha=>(cnt1 ha).elim (fun q=>.inr (q ▸ hC)) .inl),ex.keep (kE ht),ht,fun a ha=>⟨(ap a ha).1,(ap a ha).2.1,fun q=>(ap a ha).2.2.1 (.tail _ q),(ap a ha).2.2.2⟩,w⟩,e,T,_,rfl,ex.keep (kE ht)⟩
 ·cases List.mem_singleton.mp ha
  exact ⟨.tail _ (List.mem_append_right _ (.head _)),hb⟩
 ·rcases List.mem_cons.mp ha with rfl | ha
  ·exact .head _
  ·refine Or.elim (List.mem_append.mp ha) (fun ha=>?_) fun ha=>?_
   ·exact .tail _ (List.mem_append_left _ ha)
   ·exact .tail _ (List.mem_append_right _ (.tail _ ha))
theorem err_post {A:Around} {C:Addr} {XX:XE} {x acc:Value} {s':Shared} {use:Option (Value→Sem Unit)} {Qf:Value→Shared→Prop} (hC:Fr as s.heap C) (hX:C ∉ X) (hb:c.base.get? C = none) (hm:∃ m,s'.heap.Ns C m) (r:ERes c as (C :: X) s.heap XX x s') (tr:Trc x s'.heap):compPost c.M A (ERes c as X s.heap XX) use Qf acc C (.error x) s':=by
 refine ea1_1 (hm) fun m hm=>?_
 have key:∃ m,s'.heap.Ns C m∧∀ h',Heap.SameBut C s'.heap h'→∀ cenv:Env,cenv.locals = C→wpAny c.M A (PySem.passOn "comprehension.variables-let-go" x cenv:Sem Value) (fun _ _=>False) (ERes c as X s.heap XX) { s' with heap:=h' } :=
  ⟨m,hm,fun h' hs cenv _=>(r.drop tr hC hb hX hs).1.pass (r.drop tr hC hb hX hs).2 fun _ er _=>er⟩
 cases use with
 | none=>exact key
 | some u=>exact key
theorem se_comp {n:Nat} {x:Str} {px:Pos} {elt iter:Expr} {ifs:List Expr} {sc:Scope} {pos:Pos} {b i:Ex} {cond:Option Ex} {mu:Bool}
  (ok:CompF T x sc) (hns:NSet iter) (hi:SE c n T iter i)
  (he:SE c n { T with names:=sc.names,tab:=(x,T.n) :: T.tab,n:=T.n + 1 } elt b)
  (hc:(ifs = []∧cond = none) ∨ ∃ t q,ifs = [t]∧cond = some q∧ST c n { T with names:=sc.names,tab:=(x,T.n) :: T.tab,n:=T.n + 1 } t q) :
  SE c n T (.ListComp elt [⟨.Name x px,iter,ifs,0⟩] sc pos) (.comp mu b i cond):=by
 refine ⟨?_⟩
 intro env A s as X H ρ Q XX R w
 simp only [wpE_comp'] at w
 refine ea1_3 (closure_of (env:=env) ok.names (free_cells R.F R.K ok)) ?_
 intro cl hclos hcl hcl'
 refine wpAny_comprehension_free (use:=none) rfl (folded_ns hns env) hclos ok.kind (fun p hp hl=>by simp only [ok.names p hp,hl]) (wpAny_mono (hi.run R w) (fun y s₁ r=>?_) fun _ _ e=>e)
 obtain ⟨v,H₁,as₁,e1,S1,k1,hv,w1⟩:=r
 refine comp_block (RR:=fun acc C=>compPost c.M A (ERes c as X s.heap XX) none (Res c as X s.heap Q) acc C) R ok hcl hcl' he hc e1 k1 S1 hv w1 (fun D C s' h1 h2 h3 h4 h5=>?_) fun D C x s' h1 h2 h3 h4 h5 h6=>err_post h1 h2 h3 h4 h5 h6
 refine ea1_1 (h4) fun m hm=>?_
 exact ⟨m,hm,fun h' hs'=>h5.drop h1 h3 h2 hs'⟩
theorem use_comp {n:Nat} {x:Str} {px:Pos} {elt iter:Expr} {ifs:List Expr} {sc:Scope} {pos:Pos} {b i:Ex} {cond:Option Ex} {mu:Bool} {A:Around} {Q:QE} {XX:XE} {u:Value→Sem Unit} {Qf:Value→Shared→Prop}
  (ok:CompF T x sc) (hns:NSet iter) (hi:SE c n T iter i)
  (he:SE c n { T with names:=sc.names,tab:=(x,T.n) :: T.tab,n:=T.n + 1 } elt b)
  (hc:(ifs = []∧cond = none) ∨ ∃ t q,ifs = [t]∧cond = some q∧ST c n { T with names:=sc.names,tab:=(x,T.n) :: T.tab,n:=T.n + 1 } t q)
  (R:Rdy c T env A n s as X H ρ) (w:wpE c.P (callF c.P n) (.comp mu b i cond) ρ H Q XX)
  (hu:∀ D C s',Fr as s.heap C→C ∉ X→c.base.get? C = none→(∃ m,s'.heap.Ns C m)→ResC c as X s.heap env T.tab ρ C Q (.ref D) s' →
   wpAny c.M A (u (.ref D)) (fun _ s''=>∃ m,s''.heap.Ns C m∧∀ h',Heap.SameBut C s''.heap h'→Qf .none { s'' with heap:=h' }) (ERes c as X s.heap XX) s') :
  wpAny c.M A (comprehension (.ListComp elt [⟨.Name x px,iter,ifs,0⟩] sc pos) sc env (firstIterPos [⟨.Name x px,iter,ifs,0⟩] pos) (newList []) false (eval iter env) (some u)) Qf (ERes c as X s.heap XX) s:=by
 simp only [wpE_comp'] at w
 refine ea1_3 (closure_of (env:=env) ok.names (free_cells R.F R.K ok)) ?_
 intro cl hclos hcl hcl'
 refine wpAny_comprehension_free (use:=some u) rfl (folded_ns hns env) hclos ok.kind (fun p hp hl=>by simp only [ok.names p hp,hl]) (wpAny_mono (hi.run R w) (fun y s₁ r=>?_) fun _ _ e=>e)
 obtain ⟨v,H₁,as₁,e1,S1,k1,hv,w1⟩:=r
 exact comp_block (RR:=fun acc C=>compPost c.M A (ERes c as X s.heap XX) (some u) Qf acc C) R ok hcl hcl' he hc e1 k1 S1 hv w1 (fun D C s' h1 h2 h3 h4 h5=>hu D C s' h1 h2 h3 h4 h5) fun D C x s' h1 h2 h3 h4 h5 h6=>err_post h1 h2 h3 h4 h5 h6
end
end Mine
end
noncomputable section
namespace Mine
open PySem PySem.Calls PyProof.Rows
section
variable {c:Cx} {n:Nat} {T:Tb}
theorem attr_base {o:Expr} {name:Str} {env:Env} {w:Sem Value} (h:attrOk o = true):attributeBase o name env w = w:=by
 cases o <;> first | rfl | cases h
noncomputable def mtName:Mt→String
 | .list=>"list"
 | .dict=>"dict"
 | .str=>"str"
 | .tup=>"tuple"
theorem all_nostar {pos:Pos} {env:Env} {args:List Expr} {xs:List Ex} (h:SEs c n T args xs):(backTo pos (starEach args env)).all (fun x=>!x.1) = true:=by
 induction h with
 | nil=>rfl
 | cons h₁ _ ih=>rw [star_ns h₁.2]; exact ih
theorem hasTy_type {as:Adr} {X:List Addr} {H:AH} {s:Shared} {v:V} {y:Value} {t:Mt} (S:SR c as X H s) (hv:VR c as X s.heap v y) (h:hasTy H v t = true) :
  s.TypeIs y (mtName t)∧(∀ a,y = .ref a→∃ ob,s.heap.get? a = some ob∧ob.dict = none):=by
 cases t with
 | str =>
  replace h:=Option.isSome_iff_exists.mp h
  obtain ⟨x,h⟩:=h
  replace h:=V.txt_is h
  subst h
  cases hv.inv
  exact ⟨typeIs_str _ _ _,fun _ e=>nomatch e⟩
 | list =>
  replace h:=Option.isSome_iff_exists.mp h
  obtain ⟨x,h⟩:=h
  replace S:=view_at S hv h
  obtain ⟨a,its,rfl,⟨n,e⟩,_⟩:=S
  exact ⟨⟨_,e,rfl⟩,fun a q=>by cases q; exact ⟨_,e,rfl⟩⟩
 | dict =>
  replace h:=Option.isSome_iff_exists.mp h
  obtain ⟨x,h⟩:=h
  replace S:=dview_at S hv h
  obtain ⟨a,cs,rfl,_,⟨o,es,ep,e,hx,_⟩,_⟩:=S
  exact ⟨⟨_,e,hx.1⟩,fun a q=>by cases q; exact ⟨_,e,hx.2.1⟩⟩
 | tup =>
  replace h:=Option.isSome_iff_exists.mp h
  obtain ⟨x,h⟩:=h
  replace h:=V.tpl_is h
  subst h
  cases hv.inv with
  | tup _ _ e _ _=>exact ⟨⟨_,e,rfl⟩,fun a q=>by cases q; exact ⟨_,e,rfl⟩⟩
theorem se_mcall {o:Expr} {name:Str} {apos pos:Pos} {args:List Expr} {a:Ex} {xs:List Ex} {t:Mt} {mu:Bool} {pr:Prim} {id:String} (hat:attrOk o = true) (hl:apos.endLine = pos.line) (hlt:args.length < 20) (h:SE c n T o a) (hs:SEs c n T args xs)
  (pa:PlainAttrs (mtName t)) (slot:Slot (mtName t) name id) (hty:typeOf (.builtin id) = pure (.type "method_descriptor"))
  (tail:∀ {A:Around} {s:Shared} {as:Adr} {X:List Addr} {H:AH} {Q:QE} {XX:XE} {v:V} {y:Value} {vs:List V} {ys:List Value},AOk c A n→SR c as X H s→VR c as X s.heap v y→VRs c as X s.heap vs ys→vs.length = xs.length→okE (primM c.P mu pr (v :: vs) H) Q →
   wpAny c.M A (call (.builtin id) (y :: ys)) (Res c as X s.heap Q) (ERes c as X s.heap XX) s) :
  SE c n T (.Call (.Attribute o name apos) args [] pos) (.mcall t mu pr a xs):=by
 refine ⟨?_⟩
 intro env A s as X H ρ Q XX R w
 simp only [wpE_mcall] at w
 refine wpAny_Call_method_lateS (attr_base hat) ?_ (by simpa using hl) (wpAny_mono (h.run R w) (fun ov s₁ r=>?_) fun _ _ e=>e)
 ·rw [all_nostar hs]
  exact decide_eq_true (Nat.lt_of_lt_of_le hlt (by decide))
 ·obtain ⟨v,H₁,as₁,e1,S1,k1,hv,ht,w1⟩:=r
  obtain ⟨h1,h2⟩:=hasTy_type S1 hv ht
  refine ⟨mtName t,id,pa,slot,hty,h1,h2,?_⟩
  refine callWith_builtin (no_star hs) (wpAny_mono (se_evalArgs hs (R.next e1 k1 S1) w1) (fun ar s₂ r=>?_) fun _ _ e=>e.lift e1 k1)
  obtain ⟨hk,vs,H₂,as₂,e2,S2,k2,hvs,hln,q⟩:=r
  simp only [hk]
  exact wpAny_mono (tail R.a S2 (hv.keep k2 e2) hvs hln q) (fun _ _ r=>(r.lift e2 k2).lift e1 k1) fun _ _ e=>(e.lift e2 k2).lift e1 k1
theorem se_m1 {o:Expr} {name:Str} {apos pos:Pos} {args:List Expr} {a:Ex} {xs:List Ex} {t:Mt} {mu:Bool} {pr:Prim} {id:String} (hat:attrOk o = true) (hl:apos.endLine = pos.line) (h:SE c n T o a) (hs:SEs c n T args xs) (hn:args.length = 1)
  (hmu:mu = true→pr.fresh = true) (hf:pr.fresh = false) (pa:PlainAttrs (mtName t)) (slot:Slot (mtName t) name id) (hty:typeOf (.builtin id) = pure (.type "method_descriptor"))
  (tail:∀ {A:Around} {s:Shared} {as:Adr} {X:List Addr} {H H':AH} {Q:QE} {XX:XE} {v w r:V} {y z:Value},AOk c A n→SR c as X H s→VR c as X s.heap v y→VR c as X s.heap w z→prim c.P pr [v,w] H = some (r,H')→Q r H' →
   wpAny c.M A (call (.builtin id) [y,z]) (Res c as X s.heap Q) (ERes c as X s.heap XX) s):SE c n T (.Call (.Attribute o name apos) args [] pos) (.mcall t mu pr a xs):=by
 cases mu with
 | true=>exact absurd (hmu rfl) (by rw [hf]; decide)
 | false =>
  refine se_mcall hat hl (by rw [hn]; decide) h hs pa slot hty fun a S hv hvs hln q=>?_
  replace hs:=len1 hvs (hln.trans (hs.length.symm.trans hn))
  refine ea2_3 hs ?_
  intro v y q_3 q_4 hv1
  subst q_3
  subst q_4
  refine ea2_2 (okE_some q) ?_
  intro r H' e q'
  exact tail a S hv hv1 e q'
set_option tactic.hygienic true in
theorem se_methPrim {o:Expr} {name:Str} {apos pos:Pos} {args:List Expr} {a:Ex} {xs:List Ex} {t:Mt} {mu:Bool} {pr:Prim} (hat:attrOk o = true) (hl:apos.endLine = pos.line) (h:SE c n T o a) (hs:SEs c n T args xs)
  {z:Bool} (hp:methPrim name args.length z = some (t,pr)) (hmu:mu = true→pr.fresh = true):SE c n T (.Call (.Attribute o name apos) args [] pos) (.mcall t mu pr a xs):=by
 have hxl:=hs.length
 unfold methPrim at hp
 split at hp
 ·rename_i q; (obtain ⟨rfl,rfl⟩:=pinj hp; clear hp); cases q.1
  exact se_m1 hat hl h hs q.2 hmu rfl F.plainAttrs_list F.slot_list_append F.type_list_append fun _ S hv hw e q=>p_append S hv hw e q
 split at hp
 ·rename_i q; (obtain ⟨rfl,rfl⟩:=pinj hp; clear hp)
  obtain ⟨rfl,hn⟩:=q
  have hmu':mu = false:=by cases mu; rfl; cases hmu rfl
  subst hmu'
  refine se_mcall hat hl (by lia) h hs F.plainAttrs_list F.slot_list_pop F.type_list_pop fun _ S hv hvs hln q=>?_
  cases hvs with
  | cons _ _=>simp at hln; lia
  | nil =>
   refine ea2_2 (okE_some q) ?_
   intro r H' e q'
   exact p_pop S hv e q'
 split at hp
 ·rename_i q; (obtain ⟨rfl,rfl⟩:=pinj hp; clear hp); cases q.1
  exact se_m1 hat hl h hs q.2.1 hmu rfl F.plainAttrs_list F.slot_list_pop F.type_list_pop fun a S hv hw e q=>p_pop0 S hv hw e q
 split at hp
 ·rename_i q; (obtain ⟨rfl,rfl⟩:=pinj hp; clear hp); cases q.1
  exact se_m1 hat hl h hs q.2 hmu rfl F.plainAttrs_dict F.slot_dict_pop F.type_dict_pop fun a S hv hw e q=>p_dpop S hv hw e q
 split at hp
 ·rename_i q; (obtain ⟨rfl,rfl⟩:=pinj hp; clear hp); cases q.1
  exact se_m1 hat hl h hs q.2.1 hmu rfl F.plainAttrs_list F.slot_list_index F.type_list_index fun a S hv hw e q=>p_lindex S hv hw e q a.u64
 split at hp
 ·rename_i q; (obtain ⟨rfl,rfl⟩:=pinj hp; clear hp); cases q.1
  exact se_m1 hat hl h hs q.2 hmu rfl F.plainAttrs_tuple F.slot_tuple_index F.type_tuple_index fun a S hv hw e q=>p_index S hv hw e q a.u64
 split at hp
 ·rename_i q; (obtain ⟨rfl,rfl⟩:=pinj hp; clear hp); cases q.1
  exact se_m1 hat hl h hs q.2 hmu rfl F.plainAttrs_list F.slot_list_extend F.type_list_extend fun a S hv hw e q=>p_extend S hv hw e q
 exact nos hp
end
end Mine
end
noncomputable section
namespace Mine
open PySem PySem.Calls PyProof.Rows
theorem O.ins_i (o:O):Is o.ins fun d=>o = .inst 0 d:=by
 cases o with
 | inst c d'=>exact Is.ite fun h=>h ▸ rfl
 | _=>exact trivial
theorem O.nms_i (o:O):Is o.nms fun q=>o = .ns q.1 q.2:=by
 cases o <;> first | exact rfl | exact trivial
theorem insOf_is {H:AH} {v:V} {d:Nat} {ks:List (List Char)} {vs:List V} (h:insOf H v = some (d,ks,vs)):∃ i,v = .ref i∧H[i]? = some (.inst 0 d)∧H[d]? = some (.ns ks vs) :=
 Is.of (o:=insOf H v) (R:=fun q=>∃ i,v = .ref i∧H[i]? = some (.inst 0 q.1)∧H[q.1]? = some (.ns q.2.1 q.2.2)) ((V.at_i v).bind fun i h1=>(Is.self.bind fun o h3=>(O.ins_i o).imp (R':=fun d=>H[i]? = some (.inst 0 d)) fun _ h4=>h4 ▸ h3).bind fun d h5 =>
  (Is.self.bind fun o h3=>(O.nms_i o).imp (R':=fun q=>H[d]? = some (.ns q.1 q.2)) fun _ h4=>h4 ▸ h3).map fun _ h6=>⟨i,h1,h5,h6⟩) h
inductive Ins (c:Cx) (as:Adr) (X:List Addr) (h:HP) (d:Nat) (ks:List (List Char)) (vs:List V):Value→Prop
 | mk {x dx:Addr} {ob:Obj} {cs:List Value} {mA:Str→Option Value}:as[d]? = some dx→h.get? x = some ob→ob.cls = .ref (c.ccls 0)→ob.dict = some dx→(∀ cd,ob.data ≠ .cls cd)→dx ≠ x→h.Ns1 dx mA→ks.length = cs.length→VRs c as X h vs cs→vs.length ≤ bnd →
   (∀ n,mA n = ((ks.map toS).zip cs).lookup n)→x ∈ as→Ins c as X h d ks vs (.ref x)
section
variable {c:Cx} {A:Around} {E:Value→Shared→Prop} {s:Shared} {as:Adr} {X:List Addr} {H H':AH} {Q:QE}
theorem ins_of {v:V} {cv:Value} {d:Nat} {ks:List (List Char)} {vs:List V} (S:SR c as X H s) (hv:VR c as X s.heap v cv) (h:insOf H v = some (d,ks,vs)):Ins c as X s.heap d ks vs cv:=by
 refine ea1_3 (insOf_is h) fun i q_2 h1 h2=>?_
 subst q_2
 cases ref_at S hv h1 with
 | mk x e e2 =>
  obtain ⟨dx,ob,f1,f2,f3,f4,f5⟩:=e2
  cases ref_at S (.ref f1) h2 with
  | mk _ _ e4 =>
   obtain ⟨hb,cs,mA,hn,hl,r,hm⟩:=e4
   exact ⟨f1,f2,f3,f4,f5,fun q=>(by have:=S.inj _ _ _ e (q ▸ f1); subst this; exact nomatch h1.symm.trans h2),hn,hl,r,hb,hm,List.mem_of_getElem? e⟩
theorem Ins.inst {x dx:Addr} {ob:Obj} {mA:Str→Option Value} {h:HP} (f2:h.get? x = some ob) (f3:ob.cls = .ref (c.ccls 0)) (f4:ob.dict = some dx) (f5:∀ cd,ob.data ≠ .cls cd) (hne:dx ≠ x) (hn:h.Ns1 dx mA):h.Inst x (c.ccls 0) mA:=⟨ob,f2,f3,f5,.inr ⟨dx,f4,hne,hn⟩⟩
theorem dget_lookup {h:HP} {n:List Char}:∀ {ks:List (List Char)} {vs:List V} {cs:List Value} {v:V},VRs c as X h vs cs→dget n ks vs = some v→∃ y,((ks.map toS).zip cs).lookup (toS n) = some y∧VR c as X h v y:=by
 intro ks
 induction ks with
 | nil=>intro vs cs v r e; cases vs <;> exact nos e
 | cons k ks ih =>
  intro vs cs v r e
  cases r with
  | nil=>exact nos e
  | @cons w ws y ys a r =>
   have e:(if n = k then some w else dget n ks ws) = some v:=e
   simp only [List.map_cons,List.zip_cons_cons,List.lookup_cons]
   by_cases hk:n = k
   ·replace e:=(if_pos hk).symm.trans e
    (replace e:=Option.some.inj e; subst e)
    simp only [hk,beq_self_eq_true]
    exact ⟨y,rfl,a⟩
   ·rw [if_neg hk] at e
    have:(toS n == toS k) = false:=by
     rw [beq_eq_false_iff_ne]
     exact fun q=>hk (toS_inj q)
    rw [this]
    exact ih r e
theorem handed {h:HP} {v:V} {y:Value} (r:VR c as X h v y):handedOut y = pure y:=by
 cases r <;> rfl
theorem p_attr {v r:V} {cv:Value} {nm:List Char} {ms:List (Str × Nat)} {ats:List Str} {f:Nat} (K:CK c ms ats f) (hat:toS nm ∈ ats) (S:SR c as X H s) (hv:VR c as X s.heap v cv) (e:pAttr nm [v] H = some (r,H')) (q:Q r H'):wpAny c.M A (getAttr cv (toS nm) true) (Res c as X s.heap Q) E s:=by
 refine ea1_2 (bind_is (show (insOf H v).bind _ = some (r,H') from e)) ?_
 intro p h1 h2
 refine ea1_2 (map_is h2) fun r' h3 h5=>?_
 cases h5
 obtain ⟨hC,k1,k2,k3,k4,_,_,_,_⟩:=K
 obtain ⟨nmC,qC,bs,sn,sub,col,dd,z0,z1,z2,z3,z5,hCo⟩:=(hC.keeps S.stays).obj
 obtain ⟨f1,f2,f3,f4,f5,hne,hn,hl,rv,hb,hm,_⟩:=ins_of S hv h1
 refine ea1_2 (dget_lookup rv h3) ?_
 intro y e1 e2
 obtain ⟨hp,g,d,t,os⟩:=s
 exact load_attr hCo (hC.keeps S.stays).ns k2 (k4 _ hat).1 (k4 _ hat).2 (Ins.inst f2 f3 f4 f5 hne hn) ((hm _).trans e1) (handed e2) (Res.now (tk:=t + 1) S e2 q)
theorem dput_lookup {h:HP} {n:List Char} {x:V} {y:Value} (hx:VR c as X h x y):∀ {ks:List (List Char)} {vs:List V} {cs:List Value},VRs c as X h vs cs→ks.length = cs.length →
  ∃ cs',(dput n x ks vs).1.length = cs'.length∧VRs c as X h (dput n x ks vs).2 cs'∧(dput n x ks vs).2.length ≤ vs.length + 1∧∀ m,(((dput n x ks vs).1.map toS).zip cs').lookup m = if m = toS n then some y else ((ks.map toS).zip cs).lookup m:=by
 have one:∀ m,(([n].map toS).zip [y]).lookup m = if m = toS n then some y else none:=fun m=>by
  show (match m == toS n with | true=>some y | false=>none) = _
  by_cases hm:m = toS n
  ·rw [if_pos hm,hm,beq_self_eq_true]
  ·rw [if_neg hm,beq_eq_false_iff_ne.mpr hm]
 intro ks
 induction ks with
 | nil =>
  intro vs cs r hl
  have:dput n x [] vs = ([n],[x]):=by cases vs <;> rfl
  exact ⟨[y],rfl,.cons hx .nil,Nat.le_add_left _ _,one⟩
 | cons k ks ih =>
  intro vs cs r hl
  cases r with
  | nil=>cases hl
  | @cons w ws z zs a r =>
   have hl':ks.length = zs.length:=by simpa using hl
   have e:dput n x (k :: ks) (w :: ws) = if n = k then (k :: ks,x :: ws) else (k :: (dput n x ks ws).1,w :: (dput n x ks ws).2):=rfl
   by_cases hk:n = k
   ·rw [e,if_pos hk]
    subst hk
    refine ⟨y :: zs,hl,.cons hx r,Nat.le_add_right _ _,fun m=>?_⟩
    simp only [List.map_cons,List.zip_cons_cons,List.zip_cons_cons,List.lookup_cons,List.lookup_cons]
    by_cases hm:m = toS n
    ·rw [if_pos hm,hm,beq_self_eq_true]
    ·rw [if_neg hm,beq_eq_false_iff_ne.mpr hm]
   ·rw [e,if_neg hk]
    refine ea1_4 (ih r hl') ?_
    intro cs' h1 h2 h3 h4
    refine ⟨z :: cs',congrArg Nat.succ h1,.cons a h2,Nat.succ_le_succ h3,fun m=>?_⟩
    simp only [List.map_cons,List.map_cons,List.zip_cons_cons,List.zip_cons_cons,List.lookup_cons,List.lookup_cons,h4]
    by_cases hm:m = toS k
    ·have hmn:m ≠ toS n:=fun q=>hk (toS_inj (q.symm.trans hm))
     rw [if_neg hmn,if_neg hmn,hm,beq_self_eq_true]
    ·rw [beq_eq_false_iff_ne.mpr hm]
theorem lookup_in {ks:List (List Char)} {cs:List Value} {m:Str} (h:((ks.map toS).zip cs).lookup m ≠ none):m ∈ ks.map toS:=by
 cases e:((ks.map toS).zip cs).lookup m with
 | none=>exact absurd e h
 | some y=>exact (List.of_mem_zip (mem_of_lookup e)).1
theorem Obj.same {a b:Obj} (h1:a.cls = b.cls) (h2:a.data = b.data) (h3:a.slots = b.slots) (h4:a.dict = b.dict):a = b:=by
 cases a; cases b
 replace h1:=h1; subst h2; subst h3; subst h4
 subst h1
 rfl
set_option tactic.hygienic true in
theorem p_setAttr {v x:V} {cv cx:Value} {nm:List Char} {ms:List (Str × Nat)} {ats:List Str} {f:Nat} {R:Unit→Shared→Prop} (K:CK c ms ats f) (hat:toS nm ∈ ats) (S:SR c as X H s) (hv:VR c as X s.heap v cv) (hx:VR c as X s.heap x cx) (e:setAttrV v nm x H = some H')
  (r:∀ s',SR c as X H' s'→Kept as X s.heap s'.heap→R () s'):wpAny c.M A (setAttr cv (toS nm) cx) R E s:=by
 refine ea1_2 (bind_is (show (insOf H v).bind _ = some H' from e)) ?_
 intro p h1 h2
 obtain ⟨hlen,h3⟩:=ite_is h2
 subst h3
 obtain ⟨d,ks,vs⟩:=p
 obtain ⟨hC,k1,k2,k3,k4,_,_,_,_⟩:=K
 have hCk:=hC.keeps S.stays
 obtain ⟨nmC,qC,bs,sn,sub,col,dd,z0,z1,z2,z3,z5,hCo⟩:=hCk.obj
 obtain ⟨f1,f2,f3,f4,f5,hne,hn,hl,rv,hb,hm,hxa⟩:=ins_of S hv h1
 rename_i xa dx ob cs mA
 obtain ⟨_,_,_,_,_,_,_,_,_,_,_,_,hC0⟩:=(hC.obj)
 have hxC:xa ≠ c.ccls 0:=fun q=>by
  obtain ⟨i,hi⟩:=List.getElem?_of_mem hxa
  replace hi:=(q) ▸ hi
  replace hC0:=((S.objs i _ hi).1).symm.trans hC0; exact nos hC0
 obtain ⟨hp,g,dr,t,os⟩:=s
 refine store_attr PySem.F.store_object hCo hCk.ns k1 (k4 _ hat).1 (k4 _ hat).2 hxC (Ins.inst f2 f3 f4 f5 hne hn) (fun h' tk' I' hk hsame=>?_) (ns:=ks.map toS) (fun y hy=>lookup_in (by rw [← hm]; exact hy)) (by rw [List.length_map]; exact Nat.le_trans hlen (by decide))
 refine ea1_5 (hsame ob f2) ?_
 intro o₁ e₁ q1 q2 q3 q4
 have hob:o₁ = ob:=Obj.same q1 q2 q3 ((q4 dx f4).trans f4.symm)
 (replace hob:=Eq.symm hob; subst hob)
 have kk:∀ b o,hp.get? b = some o→b ≠ dx→h'.get? b = some o:=fun b o e hb=>by
  by_cases hbx:b = xa
  ·(replace hbx:=Eq.symm hbx; subst hbx); cases f2.symm.trans e; exact e₁
  ·exact hk b o hbx (fun o₀ d' g1 g2=>by cases f2.symm.trans g1; cases f4.symm.trans g2; exact hb) e
 refine ea1_4 I' ?_
 intro o' g1 _ _ g4
 replace e₁:=e₁.symm.trans g1
 cases e₁
 have hns:h'.Ns1 dx (fun y=>if y = toS nm then some cx else mA y):=by
  rcases g4 with ⟨g4,_⟩ | ⟨d',g4,_,g5⟩
  ·replace g4:=(f4).symm.trans g4; cases g4
  ·cases f4.symm.trans g4; exact g5
 refine ea1_4 (dput_lookup (n:=nm) hx rv hl) ?_
 intro cs' d1 d2 d3 d4
 refine r _ (S.upd (s':=⟨h',g,dr,tk',os⟩) f1 kk rfl rfl ⟨Nat.le_trans d3 ?_,cs',_,hns,d1,d2.keepX (fun b o e ha _=>kk b o e fun q=>ha (q ▸ List.mem_of_getElem? f1):VK as X hp h') (.refl ..),fun m=>?_⟩) (SR.kept1 f1 kk)
 ·have h1:vs.length = ks.length:=rv.length.trans hl.symm
  have h2:(1001:Nat) ≤ bnd:=by decide
  rw [h1]
  exact Nat.le_trans (Nat.succ_le_succ (hlen:ks.length ≤ 1000)) h2
 ·simp only [d4]
  show (if m = toS nm then some cx else mA m) = _
  rw [hm]
end
section
variable {c:Cx} {n:Nat} {T:Tb} {ms:List (Str × Nat)} {ats:List Str} {f:Nat}
theorem spliced_one {M:Model} {A:Around} {E:Value→Shared→Prop} {s:Shared} {env:Env} {pos:Pos} {x:Expr} {Q:List Value→Shared→Prop} (hs:starEach [x] env = (false,eval x env) :: starEach [] env) (h:wpAny M A (eval x env) (fun y s₁=>Q [y] s₁) E s):wpAny M A (spliced (backTo pos (starEach [x] env))) Q E s:=by
 rw [hs]
 exact spliced_cons (wpAny_mono h (fun _ _ q=>spliced_nil q) fun _ _ e=>e)
theorem se_attr {o:Expr} {nm:List Char} {pos:Pos} {a:Ex} (K:CK c ms ats f) (hat:toS nm ∈ ats) (hok:attrOk o = true) (h:SE c n T o a):SE c n T (.Attribute o (toS nm) pos) (.prim false (.attr nm) [a]):=by
 refine ⟨?_⟩
 intro env A s as X H ρ Q XX R w
 simp only [wpE_prim,wpEs_cons] at w
 simp only [wpEs_nil] at w
 simp only [arm_eval_Attribute,attr_base hok]
 refine wpAny_bind (wpAny_mono (h.run R w) (fun y s₁ r=>wpAny_bind (wpAny_standAt (wpAny_bind (wpAny_holding ?_)))) fun _ _ e=>e)
 obtain ⟨v,H₁,as₁,e1,S1,k1,hv,q⟩:=r
 refine ea2_2 (okE_some q) ?_
 intro z H' e q'
 exact wpAny_mono (p_attr (E:=ERes c as₁ X s₁.heap XX) K hat S1 hv e q') (fun _ _ r=>wpAny_bind (wpAny_letTemporaryGo (wpAny_pure (r.lift e1 k1)))) fun _ _ e=>e.lift e1 k1
set_option tactic.hygienic true in
theorem se_meth {o:Expr} {nm:List Char} {g:Nat} {apos pos:Pos} {args:List Expr} {a:Ex} {xs:List Ex} (K:CK c ms ats f) (C:Cok c T.gl) (sc:SC c n) (hg:ms.lookup (toS nm) = some g) (hok:attrOk o = true) (hline:apos.endLine = pos.line) (hlt:args.length < 30) (h:SE c n T o a) (hs:SEs c n T args xs) :
  SE c n T (.Call (.Attribute o (toS nm) apos) args [] pos) (.meth 0 g nm a xs):=by
 refine ⟨?_⟩
 intro env A s as X H ρ Q XX R w
 simp only [wpE_meth] at w
 simp only [arm_eval_Call,attr_base hok]
 refine wpAny_bind (wpAny_mono (h.run R w) (fun y s₁ r=>wpAny_bind (wpAny_standAt ?_)) fun _ _ e=>e)
 obtain ⟨v,H₁,as₁,e1,S1,k1,hv,hm,w1⟩:=r
 have hform:methodCallForm (args.length + ([]:List Keyword).length) (backTo pos (starEach args env)) (backToKw pos (keywordEach [] env)) = true:=by
  show ((backTo pos (starEach args env)).all (fun x=>!x.1) && true && decide (args.length + 0 + 0 < 30)) = true
  rw [all_nostar hs]
  exact decide_eq_true hlt
 have hpos:methodCallPos true o env apos pos = pure pos:=by unfold methodCallPos; simp [hline]
 obtain ⟨hC,k1',k2,k3,k4,k5,_,_,_⟩:=K
 obtain ⟨m1,⟨of,m2,m3⟩,⟨yB,m4⟩,fn,hf⟩:=k5 _ _ hg
 have hCk:=hC.keeps S1.stays
 obtain ⟨nmC,qC,bs,sn,sub,col,dd,z0,z1,z2,z3,z5,hCo⟩:=hCk.obj
 unfold methodCall
 rw [hform]
 have R1:=R.next e1 k1 S1
 obtain ⟨p,hi,hnot⟩:∃ p,insOf H₁ v = some p∧(!p.2.1.contains nm) = true:=by
  unfold hasMeth at hm
  cases hq:insOf H₁ v with
  | none=>replace hm:=(hq) ▸ hm; cases hm
  | some p=>rw [hq] at hm; exact ⟨p,rfl,hm⟩
 obtain ⟨d,ks,vs⟩:=p
 obtain ⟨f1,f2,f3,f4,f5,hne,hn,hl,rv,hb,hmA,hxa⟩:=ins_of S1 hv hi
 rename_i xa dx ob cs mA
 have hsh:mA (toS nm) = none:=by
  rw [hmA]
  cases e:((ks.map toS).zip cs).lookup (toS nm) with
  | none=>rfl
  | some y =>
   refine ea1_2 (List.mem_map.mp (lookup_in (ks:=ks) (cs:=cs) (m:=toS nm) (by rw [e]; nofun))) ?_
   intro k hk e'
   replace e':=toS_inj e'
   cases e'
   have:ks.contains nm = true:=List.contains_iff_mem.mpr hk
   replace hnot:=(this) ▸ hnot; cases hnot
 obtain ⟨hp,gg,dr,tt,os⟩:=s₁
 refine wpAny_bind (wpAny_holding (method_of hCo hCk.ns k2 k3 m1 (S1.stays _ _ m2) m3 m4 (Ins.inst f2 f3 f4 f5 hne hn) hsh ?_))
 refine wpAny_bind (wpAny_of_eq hpos ?_)
 refine callWith_function (o:=of) (fd:=c.fdat g) (wpAny_mono (se_evalArgs hs R1 w1) (fun ar s₂ r=>?_) fun _ _ e=>e.lift e1 k1)
 obtain ⟨hk,vs',H₂,as₂,e2,S2,k2,hvs,_,q⟩:=r
 refine ea1_2 (C.fobj g fn hf) ?_
 intro o' g1 g2
 replace g1:=m2.symm.trans g1
 (replace g1:=Option.some.inj g1; subst g1)
 refine ⟨⟨S2.stays _ _ m2,g2⟩,?_⟩
 rw [hk]
 exact wpAny_mono (sc.run hf R.a.toACk (R1.fr.keep e2 k2).all S2 (.cons (hv.keep k2 e2) hvs) q) (fun _ _ r=>(r.lift e2 k2).lift e1 k1) fun _ _ e=>(e.lift e2 k2).lift e1 k1
theorem se_new {g:Str} {p pos:Pos} {x:Expr} {a:Ex} (C:Cok c T.gl) (sc:SC c n) (hg:T.glob g = some (.cls ms ats f)) (h:SE c n T x a) (hns:NS x):SE c n T (.Call (.Name g p) [x] [] pos) (.new 0 f [a]):=by
 refine ⟨?_⟩
 intro env A s as X H ρ Q XX R w
 simp only [wpE_new,wpEs_cons] at w
 simp only [wpEs_nil] at w
 have e1:=C.gl g _ (ge_of hg).2.1
 obtain ⟨hC,_,_,_,_,_,hi,⟨oI,hfI,hfc⟩,fn,hfn⟩:=C.cl g ms ats f (mem_of_lookup (ge_of hg).2.1)
 refine wpAny_Call_Name_kw (n_glob C hg R (.inl e1) ?_)
 refine callWith_cls hC (spliced_one (star_ns hns [] env) (wpAny_mono (h.run R w) (fun y s₁ r=>?_) fun _ _ e=>e)) (star_ns hns [] env) rfl
 obtain ⟨v,H₁,as₁,e1,S1,k1,hv,q⟩:=r
 refine ⟨S1.stays,?_⟩
 have hCk:=hC.keeps S1.stays
 obtain ⟨nmC,qC,bs,sn,sub,col,dd,z0,z1,z2,z3,z5,hCo⟩:=hCk.obj
 obtain ⟨hp,gg,dr,tt,os⟩:=s₁
 refine wpAny_call_obj_init PySem.F.objNew hCo hCk.ns hi (S1.stays _ _ hfI) hfc fun h' xa dx Mk=>?_
 refine ea1_4 Mk.inst ?_
 intro ob hx hcx hncx hdx
 have hdd:=Mk.dict ob hx
 obtain ⟨hnsd,hne⟩:h'.Ns1 dx (fun _=>none)∧dx ≠ xa:=by
  rcases hdx with ⟨hn0,_⟩ | ⟨d',hd',hne',hns'⟩
  ·replace hdd:=(hn0).symm.trans hdd; exact nos hdd
  ·cases hd'.symm.trans hdd; exact ⟨hns',hne'⟩
 have hg1:∀ b,(only h' fun b=>b != xa).get? b = if (b != xa) = true then h'.get? b else none:=fun b=>only_get b
 generalize (only h' fun b=>b != xa) = h₁ at hg1
 have ne1:∀ b,b ≠ xa→h₁.get? b = h'.get? b:=fun b hb=>by rw [hg1,if_pos (by simpa using hb)]
 have no1:h₁.get? xa = none:=by rw [hg1,if_neg (by simp)]
 have g1:Grown hp h₁:=fun b o e=>by
  rw [ne1 b fun q=>by rw [q,Mk.newX] at e; cases e]
  exact Mk.keeps b o e
 have g2:Grown h₁ h':=fun b o e=>by
  rw [ne1 b fun q=>by rw [q,no1] at e; cases e] at e
  exact e
 have Sd:=S1.alloc (s':=⟨h₁,gg,dr,tt,os⟩) (a:=dx) (o:=.ns [] []) Mk.newD g1 rfl rfl ⟨Nat.zero_le _,[],fun _=>none,hnsd.at fun o e=>by rw [ne1 dx hne]; exact e,rfl,.nil,fun _=>rfl⟩
 have Sx:=Sd.alloc (s':=⟨h',gg,dr,tt,os⟩) (a:=xa) (o:=.inst 0 H₁.length) no1 g2 rfl rfl ⟨dx,ob,by rw [← S1.len]; simp,hx,hcx,hdd,hncx⟩
 have E1:Ext as₁ hp (as₁ ++ [dx]):=ext_snoc as₁ _ dx Mk.newD
 have K1:Kept as₁ X hp h₁:=g1.kept as₁ X
 have E2:Ext (as₁ ++ [dx]) h₁ (as₁ ++ [dx] ++ [xa]):=ext_snoc _ _ xa no1
 have E3:=E1.trans K1 E2
 have K3:=K1.trans E1 (g2.kept _ X:Kept (as₁ ++ [dx]) X h₁ h')
 have hix:(as₁ ++ [dx] ++ [xa])[H₁.length + 1]? = some xa:=by rw [← S1.len]; simp
 have fr:∃ l,FrOk c (A.under (.builtin "type.__call__" ⟨.ref (c.ccls 0) :: [y],[]⟩)) X (as₁ ++ [dx] ++ [xa]) h' l:=by
  refine ea1_1 ((R.fr.keep e1 k1).all) fun l hl=>?_
  exact ⟨l,hl.1,(hl.keep E3 K3).2⟩
 have ack:ACk c (A.under (.builtin "type.__call__" ⟨.ref (c.ccls 0) :: [y],[]⟩)) n:=⟨R.a.hh,by
  have:=R.a.hr
  show A.depth + 1 + 2 * n + 5 ≤ recursionLimit
  omega,by
  have:=R.a.hw
  show A.units + 1 + 10 * n + 300 < cLine
  omega⟩
 have w2:callF c.P n f [.ref (H₁.length + 1),v] (H₁ ++ [.ns [] []] ++ [.inst 0 H₁.length]) (fun v H''=>v = .none∧Q (.ref (H₁.length + 1)) H'') XX:=by
  rw [List.append_assoc]; exact q
 refine wpAny_mono (sc.run hfn ack fr Sx (.cons (.ref hix) (.cons (hv.keep K3 E3) .nil)) w2) (fun r s' q=>?_) fun _ _ e=>(e.lift E3 K3).lift e1 k1
 obtain ⟨z,H',as',e',S',k',hz,rfl,q⟩:=q
 refine ⟨hz.inv,(Res.lift E3 K3 ⟨_,H',as',e',S',k',?_,q⟩).lift e1 k1⟩
 exact .ref (e'.old _ _ hix)
end
end Mine
end
noncomputable section
namespace Mine
open PySem PySem.Calls PyProof.Rows
section
variable {c:Cx} {n:Nat} {T:Tb}
noncomputable def KeyOk (e:Option Expr) (k:List Char):Prop:=∃ x kk p,e = some (.Constant (.str x) kk p)∧fromS x = some k
theorem keyOf_ok (o:Option Expr):Is (keyOf o) (KeyOk o):=by
 cases o with
 | none=>exact trivial
 | some e=>exact (strC_i e).bind fun s h=>Is.to fun _ h2=>h.elim fun k h=>h.elim fun p h=>h ▸ ⟨s,k,p,rfl,h2⟩
theorem se_pairs {pos:Pos} {env:Env} {A:Around} {X:List Addr} {ρ:Fm} {XX:XE} {ks:List (Option Expr)} {kcs:List (List Char)} (hk:A2 KeyOk ks kcs):∀ {es:List Expr} {xs:List Ex} {s:Shared} {as:Adr} {H:AH} {Q:List V→AH→Prop},SEs c n T es xs→ks.length = es.length→Rdy c T env A n s as X H ρ →
  wpEs c.P (callF c.P n) xs ρ H Q XX→wpAny c.M A (evalPairs (pairTrees ks es env pos)) (fun ps s'=>∃ ys,Carries c.kd ps ((kcs.map toS).zip ys)∧kcs.length = ys.length∧ResL c as X s.heap Q ys s') (ERes c as X s.heap XX) s:=by
 induction hk with
 | nil =>
  intro es xs s as H Q h hl R w
  cases h with
  | nil=>exact pairTrees_nil_walk ⟨[],trivial,rfl,[],H,as,.refl ..,R.S,Kept.refl _ _ _,.nil,w⟩
  | cons _ _=>simp at hl
 | cons h₁ h₂ ih =>
  intro es xs s as H Q h hl R w
  cases h with
  | nil=>simp at hl
  | cons g₁ g₂ =>
   refine ea3_2 h₁ ?_
   intro x kk p q_4 hk
   subst q_4
   obtain ⟨h3,h4⟩:=fromS_ok hk
   simp only [wpEs_cons] at w
   refine pairTrees_cons_walk (Constant_str ?_)
   have R1:Rdy c T env A n { s with toks:=s.toks + 1 } as X H ρ:=R.next (.refl ..) (Kept.refl _ _ _) (R.S.grow (.refl _) rfl rfl)
   refine wpAny_mono (g₁.1.run R1 w) (fun y s₁ r=>?_) fun _ _ e=>e
   obtain ⟨v,H₁,as₁,e1,S1,k1,hv,w1⟩:=r
   refine wpAny_mono (ih g₂ (by simpa using hl) (R1.next e1 k1 S1) w1) (fun ps s₂ r=>?_) fun _ _ e=>e.lift e1 k1
   refine ea1_3 r ?_
   intro ys hc hy p_4
   obtain ⟨vs,H₂,as₂,e2,S2,k2,hvs,q⟩:=p_4
   refine ⟨y :: ys,⟨?_,rfl,hc⟩,by simp [hy],v :: vs,H₂,as₂,e1.trans k1 e2,S2,k1.trans e1 k2,.cons (hv.keep k2 e2) hvs,q⟩
   rw [← h3]
   exact kd_is _ _
theorem sys_fresh {gl:List (Str × Gl)} {s:Shared} {as:Adr} {X:List Addr} {H:AH} (C:Cok c gl) (S:SR c as X H s):(s.heap.objs.size == sysModules) = false:=by
 refine ea3_2 C.g ?_
 intro o es ep e _
 have h2:=Heap.lt_size (S.stays _ _ e)
 have h3:mainGlobals = 3:=rfl
 have h1:sysModules = 1:=rfl
 exact beq_eq_false_iff_ne.mpr fun q=>by rw [q] at h2; exact absurd h2 (by decide)
theorem mkd_some {kcs:List (List Char)} {vs:List V} {H:AH} {Q:QE} {mu:Bool} (q:okE (primM c.P mu (.mkdict kcs) vs H) Q):(kcs.length = vs.length∧kcs.length ≤ 15∧kcs.Nodup)∧(if mu then Q (.ref H.length) (H ++ [.dict kcs vs]) else Q (.dct kcs vs) H):=by
 refine ea2_1 (prim_of_M q) ?_
 intro r H' e
 have e':pMkdict kcs vs H = some (r,H'):=e
 unfold pMkdict at e'
 by_cases h:kcs.length = vs.length∧kcs.length ≤ 15∧kcs.Nodup
 ·refine ⟨h,?_⟩
  have hp:prim c.P (.mkdict kcs) vs H = some (.dct kcs vs,H):=if_pos h
  cases mu with
  | false=>simp only [primM_false,hp] at q; exact q
  | true =>
   unfold primM at q
   rw [if_pos rfl,show (Prim.mkdict kcs).fresh = true from rfl,if_pos rfl,hp] at q
   exact q
 ·exact nos ((if_neg h).symm.trans e')
theorem dict_res {a:Addr} {mu:Bool} {s₀:Shared} {s':Shared} {as as₂:Adr} {X:List Addr} {H:AH} {Q:QE} {kcs:List (List Char)} {vs:List V} {ys:List Value} (ha:s₀.heap.get? a = none) (hx:a ∉ X) (ho:a ∉ as₂) (hsm:(a == sysModules) = false) (hb:c.base.get? a = none)
  (E:Ext as s₀.heap as₂) (K:Kept as X s₀.heap s'.heap) (S:SR c as₂ (a :: X) H s') (hd:s'.heap.DictOf c.kd a ((kcs.map toS).zip ys)) (hy:kcs.length = ys.length) (hv:VRs c as₂ (a :: X) s'.heap vs ys) (hl:vs.length ≤ bnd)
  (q:if mu then Q (.ref H.length) (H ++ [.dict kcs vs]) else Q (.dct kcs vs) H):Res c as X s₀.heap Q (.ref a) s':=by
 cases mu with
 | false =>
  have q':Q (.dct kcs vs) H:=q
  exact ⟨_,H,as₂,E,S.frames (fun b _ _ hb q=>hb (.tail _ q)) fun b hb=>S.xs b (.tail _ hb),K,.dct ho hx hsm hd hy (hv.frames fun b _ _ hb q=>hb (.tail _ q)) hl,q'⟩
 | true =>
  have q':Q (.ref H.length) (H ++ [.dict kcs vs]):=q
  have hsub:∀ b ∈ X,b ∈ a :: X:=fun b hb=>.tail _ hb
  exact ⟨.ref H.length,H ++ [.dict kcs vs],as₂ ++ [a],⟨fun i z e=>app_get (E.old i z e),app_all E.new (all1 (.inr ha))⟩,S.adopt (o:=.dict kcs vs) (.head _) hb hsub hx ⟨hl,hsm,ys,hd,hy,hv.adopt (.head _) hsub⟩,K,.ref (by rw [← S.len]; exact List.getElem?_concat_length),q'⟩
theorem dict_tail {ks:List (Option Expr)} {es:List Expr} {pos:Pos} {mu:Bool} {env:Env} {A:Around} {s:Shared} {as:Adr} {X:List Addr} {H:AH} {ρ:Fm} {Q:QE} {XX:XE} (C:Cok c T.gl) (hall:ks.all (·.isSome) = true) (hl:ks.length = es.length) (h0:ks ≠ []) (h15:ks.length ≤ 15) (R:Rdy c T env A n s as X H ρ)
  (hp:∀ {s₁:Shared} {X₁:List Addr},Rdy c T env A n s₁ as X₁ H ρ→wpAny c.M A (evalPairs (pairTrees ks es env pos)) (fun ps s'=>∃ kcs ys,Carries c.kd ps ((kcs.map toS).zip ys)∧kcs.length = ys.length∧kcs.Nodup∧ResL c as X₁ s₁.heap (fun vs H'=>vs.length ≤ 15∧if mu then Q (.ref H'.length) (H' ++ [.dict kcs vs]) else Q (.dct kcs vs) H') ys s') (ERes c as X₁ s₁.heap XX) s₁) :
  wpAny c.M A (eval (.Dict ks es pos) env) (Res c as X s.heap Q) (ERes c as X s.heap XX) s:=by
 have hX:∀ b ∈ s.heap.objs.size :: X,b ∈ X ∨ s.heap.get? b = none:=fun b hb=>by
  refine memE (hb) (fun e_=>?_) fun h=>?_
  ·exact (e_) ▸ .inr (get_fresh _)
  ·exact .inl h
 have hbase:c.base.get? s.heap.objs.size = none:=R.S.base_none (get_fresh _)
 have S1:SR c as (s.heap.objs.size :: X) H { s with heap:=s.heap.push { cls:=.type "dict",data:=.dict #[] } }:=R.S.opens (.push _ _) hX (fun b hb=>by
  refine memE (hb) (fun e_=>?_) fun h=>?_
  ·subst e_; exact ⟨_,Heap.get?_push_size _ rfl⟩
  ·obtain ⟨o,e⟩:=R.S.xs b h; exact ⟨o,Heap.get?_push_of_some _ e⟩) rfl rfl
 have g0:Grown s.heap (s.heap.push { cls:=.type "dict",data:=.dict #[] }):=.push _ _
 refine wpAny_Dict_walk (knd:=c.kd) hall hl h0 h15 ?_
 have R1:Rdy c T env A n _ as (s.heap.objs.size :: X) H ρ:=⟨R.a,S1,R.F.opens g0 (fun b h=>.tail _ h) hX,R.K,R.len,R.fr.grow g0 fun _=>List.count_le_count_cons⟩
 refine wpAny_mono (hp R1) (fun ps s₂ r=>?_) fun _ _ e=>(e.lift (Ext.refl as s.heap) (g0.kept as _)).less (fun _ q=>.tail _ q) fun b hb=>(cnt1 hb).elim (fun q=>.inr (.inr (q ▸ get_fresh _))) .inl
 clear hp S1 hX R1 hall hl h0 h15
 refine ea2_4 r ?_
 intro kcs ys hc hy hnd p_6
 obtain ⟨vs,H₂,as₂,e2,S2,k2,hvs,hl,q⟩:=p_6
 refine ⟨_,hc,DictOf.same (Heap.DictOf.new _) (fun o e=>k2.one (fresh_x R.S) e (fresh_out R.S)),fun h' hd sb=>?_⟩
 have hn:(((kcs.map toS).zip ys).map (·.1)).Nodup:=by
  rw [List.map_fst_zip (by rw [List.length_map,hy]; exact Nat.le_refl _)]
  exact List.Pairwise.map _ (fun a b hab e=>hab (toS_inj e)) hnd
 simp only [merged_nil_of_nodup _ hn] at hd
 clear hc hn hnd
 have b:But [s.heap.objs.size] s₂.heap h':=fun q o hq e=>(sb.2 q (by exact ne1 (hq))).trans e
 refine dict_res (s':={ s₂ with heap:=h',toks:=_ }) (get_fresh _) (fresh_x R.S) (e2.out (Heap.get?_push_size _ rfl) (fresh_out R.S)) (sys_fresh C R.S) hbase ((Ext.refl as s.heap).trans (g0.kept as X) e2:Ext as s.heap as₂) ((((g0.kept as _).trans (.refl ..) k2).less fun b hb=>(cnt1 hb).elim (fun q=>.inr (.inr (q ▸ get_fresh _))) .inl:Kept as X s.heap s₂.heap).but b (by intro a ha; replace ha:=in1 ha; subst ha; exact .inr (get_fresh _)))
  (S2.but (s':={ s₂ with heap:=h',toks:=_ }) b (by simpa using hbase) (fun _ q=>q) (fun a _ hz=>by replace hz:=in1 hz; subst hz; obtain ⟨o,_,_,e,_⟩:=hd; exact ⟨o,e⟩) rfl rfl) hd hy (hvs.keepX (b.vk as₂ (by exact all1 (.head _))) (.refl ..)) (Nat.le_trans hl (by decide)) q
theorem se_dict {ks:List (Option Expr)} {kcs:List (List Char)} {es:List Expr} {xs:List Ex} {pos:Pos} {mu:Bool} (C:Cok c T.gl) (hk:A2 KeyOk ks kcs) (h:SEs c n T es xs) (hl:ks.length = es.length) (h15:ks.length ≤ 15) :
  SE c n T (.Dict ks es pos) (.prim mu (.mkdict kcs) xs):=by
 refine ⟨?_⟩
 intro env A s as X H ρ Q XX R w
 simp only [wpE_prim] at w
 by_cases h0:ks = []
 ·subst h0
  cases hk
  cases h with
  | cons _ _=>cases hl
  | nil =>
   simp only [wpEs_nil] at w
   obtain ⟨hq,q⟩:=mkd_some w
   have hX:∀ b ∈ s.heap.objs.size :: X,b ∈ X ∨ s.heap.get? b = none:=fun b hb=>by
    refine memE (hb) (fun e_=>?_) fun h=>?_
    ·exact (e_) ▸ .inr (get_fresh _)
    ·exact .inl h
   have S1:SR c as (s.heap.objs.size :: X) H { s with heap:=s.heap.push { cls:=.type "dict",data:=.dict #[] } }:=R.S.opens (.push _ _) hX (fun b hb=>by
    refine memE (hb) (fun e_=>?_) fun h=>?_
    ·subst e_; exact ⟨_,Heap.get?_push_size _ rfl⟩
    ·obtain ⟨o,e⟩:=R.S.xs b h; exact ⟨o,Heap.get?_push_of_some _ e⟩) rfl rfl
   exact wpAny_Dict_empty (dict_res (ys:=[]) (get_fresh _) (fresh_x R.S) (fresh_out R.S) (sys_fresh C R.S) (R.S.base_none (get_fresh _)) (.refl ..) (Grown.kept (.push _ _) as X) S1 (Heap.DictOf.new _) rfl .nil (Nat.zero_le _) q)
 ·have hall:ks.all (·.isSome) = true:=by
   clear h0 h15 hl w
   induction hk with
   | nil=>rfl
   | cons a _ ih=>obtain ⟨_,_,_,rfl,_⟩:=a; exact ih
  refine dict_tail (mu:=mu) C hall hl h0 h15 R fun R1=>wpAny_mono (se_pairs hk h hl R1 w) (fun ps s₂ r=>?_) fun _ _ e=>e
  refine ea1_3 r ?_
  intro ys hc hy p_4
  obtain ⟨vs,H₂,as₂,e2,S2,k2,hvs,q⟩:=p_4
  replace q:=mkd_some q
  obtain ⟨hq,q⟩:=q
  exact ⟨kcs,ys,hc,hy,hq.2.2,vs,H₂,as₂,e2,S2,k2,hvs,hq.1 ▸ hq.2.1,q⟩
theorem mkd1_some {k v:V} {H:AH} {Q:QE} {mu:Bool} (q:okE (primM c.P mu .mkdict1 [k,v] H) Q):∃ kc,k = .str kc∧if mu then Q (.ref H.length) (H ++ [.dict [kc] [v]]) else Q (.dct [kc] [v]) H:=by
 refine ea2_1 (prim_of_M q) ?_
 intro r H' e
 refine ea1_2 (map_is (show Option.map _ k.txt = _ from e)) ?_
 intro kc h1 _
 replace h1:=V.txt_is h1
 subst h1
 refine ⟨kc,rfl,?_⟩
 cases mu with
 | false=>exact q
 | true=>exact q
theorem se_dict1 {ke ve:Expr} {a b:Ex} {pos:Pos} {mu:Bool} (C:Cok c T.gl) (hk:SE c n T ke a) (hv:SE c n T ve b):SE c n T (.Dict [some ke] [ve] pos) (.prim mu .mkdict1 [a,b]):=by
 refine ⟨?_⟩
 intro env A s as X H ρ Q XX R w
 refine dict_tail (mu:=mu) C rfl rfl (fun h=>nomatch h) (show 1 ≤ 15 by decide) R fun R1=>pairTrees_cons_walk (wpAny_mono (hk.run R1 w) (fun y s₁ r=>?_) fun _ _ e=>e)
 obtain ⟨kv,H₁,as₁,e1,S1,k1,hkv,w1⟩:=r
 refine wpAny_mono (hv.run (R1.next e1 k1 S1) w1) (fun z s₂ r=>pairTrees_nil_walk ?_) fun _ _ e=>e.lift e1 k1
 obtain ⟨v,H₂,as₂,e2,S2,k2,hvv,q⟩:=r
 replace q:=mkd1_some q
 refine ea1_2 q ?_
 intro kc q_2 q1
 subst q_2
 cases hkv.inv
 exact ⟨[kc],[z],⟨kd_is _ _,rfl,trivial⟩,rfl,List.pairwise_singleton _ _,[v],H₂,as₂,e1.trans k1 e2,S2,k1.trans e1 k2,.cons hvv .nil,(show 1 ≤ 15 by decide),q1⟩
end
end Mine
end
noncomputable section
namespace Mine
open PySem PySem.Calls PyProof.Rows
section
variable {c:Cx} {n:Nat} {T:Tb}
structure SO (c:Cx) (n:Nat) (T:Tb) (o:Option Expr) (ex:Ex):Prop where
 run:∀ {env:Env} {A:Around} {s:Shared} {as:Adr} {X:List Addr} {H:AH} {ρ:Fm} {Q:QE} {XX:XE},
 Rdy c T env A n s as X H ρ→wpE c.P (callF c.P n) ex ρ H Q XX→wpAny c.M A (evalPart o env) (Res c as X s.heap Q) (ERes c as X s.heap XX) s
theorem opt_ok {r:Expr→Option Ex} (ih:∀ e,Is (r e) (SE c n T e)) (o:Option Expr):Is (cOpt r o) (SO c n T o):=by
 cases o with
 | none=>exact ⟨fun R w=>wpAny_pure (Res.now (tk:=_) R.S .none w)⟩
 | some e=>exact (ih e).imp fun _ h=>⟨fun R w=>h.run R w⟩
theorem clip_int (n:Nat) (i:Int):((clip n i:Nat):Int) = max 0 (min (if i < 0 then i + n else i) n):=by
 unfold clip
 by_cases h:i < 0
 ·rw [if_pos h,if_pos h]
  by_cases h2:i + n < 0
  ·rw [if_pos h2]; lia
  ·rw [if_neg h2]; lia
 ·rw [if_neg h,if_neg h]
  by_cases h2:i < n
  ·rw [if_pos h2]; lia
  ·rw [if_neg h2]; lia
theorem idx_str (lo hi:Option Int) (n:Nat):Builtin.Str.strSliceIndices lo hi 1 n = (List.range (hiN n hi - loN n lo)).map (loN n lo + ·):=by
 rw [← sliceRange_one]
 have e1:∀ a b a' b':Int,a = a'→b = b'→sliceRange a b 1 = sliceRange a' b' 1:=fun _ _ _ _ h h'=>by rw [h,h']
 refine e1 _ _ _ _ ?_ ?_
 ·cases lo with
  | none=>rfl
  | some i=>exact (clip_int n i).symm
 ·cases hi with
  | none=>rfl
  | some i=>exact (clip_int n i).symm
theorem slice_take {α:Type} (xs:List α) (a b:Nat):(xs.drop a).take (b - a) = sliceL xs a b:=by
 unfold sliceL
 simp only [List.drop_take]
theorem hiN_le (n:Nat) (o:Option Int):hiN n o ≤ n:=by
 cases o with
 | none=>exact Nat.le_refl _
 | some i=>have:=clip_int n i; show clip n i ≤ n; omega
set_option tactic.hygienic true in
theorem txt_slice (xs:List Char) (lo hi:Option Int):Txt.slice (toS xs) lo hi = toS (sliceL xs (loN xs.length lo) (hiN xs.length hi)):=by
 unfold Txt.slice
 rw [toS_length,idx_str,pick_run]
 have e:(toS xs).cps.toList = xs.map Char.toNat:=by rfl
 have hh:=hiN_le xs.length hi
 split
 ·rename_i h
  rw [BEq.rfl,Bool.true_and,List.length_map,List.length_range,beq_iff_eq] at h
  by_cases h0:xs.length = 0
  ·have:xs = []:=List.length_eq_zero_iff.mp h0
   subst this
   simp [sliceL]
  ·have h1:loN xs.length lo = 0:=by lia
   have h2:hiN xs.length hi = xs.length:=by lia
   simp only [h1,h2,sliceL,List.take_length]; rfl
 ·simp only [e,slice_take]
  unfold toS
  simp [sliceL,List.map_take,List.map_drop]
theorem pick_items (items:Array Value) (lo hi:Option Int):(slicePick items lo hi none).toList = sliceL items.toList (loN items.size lo) (hiN items.size hi):=by
 dsimp only [slicePick]
 have e1:(sliceBounds lo hi none items.size).1 = ((loN items.size lo:Nat):Int):=by
  cases lo with
  | none=>rfl
  | some i=>exact (clip_int _ i).symm
 have e2:(sliceBounds lo hi none items.size).2.1 = ((hiN items.size hi:Nat):Int):=by
  cases hi with
  | none=>rfl
  | some i=>exact (clip_int _ i).symm
 simp only [e1,e2,show (sliceBounds lo hi none items.size).2.2 = 1 from rfl,sliceRange_one,pick_run,slice_take]
theorem VRs.slice {as:Adr} {X:List Addr} {h:HP} {vs:List V} {cs:List Value} (r:VRs c as X h vs cs) (a b:Nat):VRs c as X h (sliceL vs a b) (sliceL cs a b):=(r.take b).drop a
theorem part_of {as:Adr} {X:List Addr} {h:HP} {v:V} {y:Value} {o:Option Int} (hv:VR c as X h v y) (e:partOf v = some o):IsPart y o∧∃ l:Option (Int × Tok),y = partValue l∧l.map (·.1) = o:=by
 refine Is.of (R:=fun o=>IsPart y o∧∃ l:Option (Int × Tok),y = partValue l∧l.map (·.1) = o) ?_ e
 clear e
 cases v with
 | none=>cases hv.inv; exact ⟨.none,none,rfl,rfl⟩
 | int _=>cases hv.inv; exact ⟨.int _ _,some (_,_),rfl,rfl⟩
 | _=>exact trivial
section
variable {A:Around} {E:Value→Shared→Prop} {s:Shared} {as:Adr} {X:List Addr} {H:AH} {Q:QE} {v r:V} {lo hi:Option Int} {y yl yu:Value}
abbrev slObj (yl yu:Value):Obj:={ cls:=.type "slice",data:=.fields #[yl,yu,.none] }
theorem sl_str {t:List Char} (hsz:t.length ≤ sizeOf') (S:SR c as X H s) (hv:VR c as X s.heap (.str t) y) (pl:∃ l:Option (Int × Tok),yl = partValue l∧l.map (·.1) = lo) (pu:∃ l:Option (Int × Tok),yu = partValue l∧l.map (·.1) = hi)
  (q:Q (.str (sliceL t (loN t.length lo) (hiN t.length hi))) H):ItemOn c.M A E y (.ref s.heap.objs.size) (Res c as X s.heap Q) { s with heap:=s.heap.push (slObj yl yu) }:=by
 refine ea1_2 pl ?_
 intro l q_2 q_3
 subst q_2
 subst q_3
 refine ea1_2 pu ?_
 intro u q_2 q_3
 subst q_2
 subst q_3
 cases hv.inv with
 | str tk hb =>
  refine ⟨"str",_,F.slot_str_getitem.lookup,typeIs_str _ _ _,wpAny_getItem_str_slice (l:=l) (u:=u) (st:=none) ⟨_,Heap.get?_push_size _ rfl,rfl,rfl⟩ rfl ?_⟩
  have hl:(sliceL t (loN t.length (l.map (·.1))) (hiN t.length (u.map (·.1)))).length ≤ t.length:=by unfold sliceL; rw [List.length_drop,List.length_take]; omega
  have fin:∀ t' k,Res c as X s.heap Q (.str (Txt.slice (toS t) (l.map (·.1)) (u.map (·.1))) t') { s with heap:=s.heap.push (slObj (partValue l) (partValue u)),toks:=k }:=fun t' k=>by
   rw [txt_slice]
   exact Res.grow (s':={ s with heap:=s.heap.push (slObj (partValue l) (partValue u)),toks:=k }) S (.push _ _) rfl rfl (.str _ _ (by lia)) q
  refine post_val_or_str (c:=_) ⟨?_,fun t' k=>fin t' k⟩
  show (Txt.slice (toS t) (l.map (·.1)) (u.map (·.1))).length ≤ sizeLine
  rw [txt_slice,toS_length]
  have:=sizeOf'_le
  lia
set_option tactic.hygienic true in
theorem sl_view (S:SR c as X H s) (hv:VR c as X s.heap v y) (pl:IsPart yl lo) (pu:IsPart yu hi) (e:((view H v).bind fun t=>if t.length ≤ sizeOf' then some (V.lst (sliceL t (loN t.length lo) (hiN t.length hi))) else none) = some r)
  (q:Q r H):ItemOn c.M A E y (.ref s.heap.objs.size) (Res c as X s.heap Q) { s with heap:=s.heap.push (slObj yl yu) }:=by
 replace e:=Option.bind_eq_some_iff.mp e
 refine ea1_2 e ?_
 intro vs hvs e
 split at e
 ·rename_i hz
  (replace e:=Option.some.inj e; subst e)
  replace hv:=view_at S hv hvs
  obtain ⟨a,items,rfl,hp,rr,hs⟩:=hv
  have hl:=rr.len_arr
  have hz2:=sizeOf'_le
  have hz3:=sizeOf'_bnd
  have hp':(s.heap.push (slObj yl yu)).IsList a items:=let ⟨o,e,r⟩:=hp.isList; ⟨o,Heap.get?_push_of_some _ e,r⟩
  refine ⟨"list",_,slot_list_getitem.lookup,hp'.typeIs,wpAny_getItem_list_slice hp' (Heap.IsSliceOf.new ..) pl pu .none (by decide) ?_ (by lia)⟩
  have g:Grown s.heap ((s.heap.push (slObj yl yu)).push { cls:=.type "list",data:=.seq (slicePick items lo hi none) }):=(Grown.push _ _).trans (Grown.push _ _)
  have S1:SR c as X H { s with heap:=s.heap.push (slObj yl yu) }:=S.grow (.push _ _) rfl rfl
  have hr:VRs c as X s.heap (sliceL vs (loN vs.length lo) (hiN vs.length hi)) (slicePick items lo hi none).toList:=by
   rw [pick_items,hl]
   exact rr.slice _ _
  have hlen:(sliceL vs (loN vs.length lo) (hiN vs.length hi)).length ≤ vs.length:=by unfold sliceL; rw [List.length_drop,List.length_take]; lia
  exact Res.grow (s':={ s with heap:=_ }) S g rfl rfl (.lst (fresh_out S1) (fresh_x S1) ⟨_,Heap.get?_push_size _ rfl⟩ (hr.grow g) (by lia)) q
 ·exact nos e
end
set_option tactic.hygienic true in
theorem se_slice {ve:Expr} {q p:Pos} {lo hi:Option Expr} {a b d:Ex} (h₁:SE c n T ve a) (h₂:SO c n T lo b) (h₃:SO c n T hi d):SE c n T (.Subscript ve (.Slice lo hi none q) p) (.prim false .slice [a,b,d]):=by
 refine ⟨?_⟩
 intro env A s as X H ρ Q XX R w
 refine Subscript_ (wpAny_mono (h₁.run R w) (fun y s₁ r=>?_) fun _ _ e=>e)
 obtain ⟨v,H₁,as₁,e1,S1,k1,hv,w1⟩:=r
 have R1:=R.next e1 k1 S1
 refine wpAny_Slice (wpAny_mono (h₂.run R1 w1) (fun yl s₂ r=>?_) fun _ _ e=>e.lift e1 k1)
 obtain ⟨vl,H₂,as₂,e2,S2,k2,hvl,w2⟩:=r
 refine wpAny_mono (h₃.run (R1.next e2 k2 S2) w2) (fun yu s₃ r=>?_) fun _ _ e=>(e.lift e2 k2).lift e1 k1
 obtain ⟨vu,H₃,as₃,e3,S3,k3,hvu,w3⟩:=r
 simp only [wpEs_nil] at w3
 refine wpAny_pure ?_
 have hv3:=(hv.keep k2 e2).keep k3 e3
 have hvl3:=hvl.keep k3 e3
 refine ea2_2 (okE_some w3) ?_
 intro r H' e q'
 replace e:=Option.bind_eq_some_iff.mp (show (partOf vl).bind _ = _ from e)
 refine ea1_2 e ?_
 intro lo' hlo e
 replace e:=Option.bind_eq_some_iff.mp e
 refine ea1_2 e ?_
 intro hi' hhi e
 refine ea1_2 (Option.map_eq_some_iff.mp e) ?_
 intro r' er h
 cases h
 obtain ⟨pl1,pl2⟩:=part_of hvl3 hlo
 obtain ⟨pu1,pu2⟩:=part_of hvu hhi
 have fin:ItemOn c.M A (ERes c as X s.heap XX) y (.ref s₃.heap.objs.size) (Res c as₃ X s₃.heap Q) { s₃ with heap:=s₃.heap.push (slObj yl yu) }:=by
  cases v with
  | str t =>
   have e':(if t.length ≤ sizeOf' then some (V.str (sliceL t (loN t.length lo') (hiN t.length hi'))) else none) = some r:=er
   split at e'
   ·rename_i hz; (replace e':=Option.some.inj e'; subst e'); exact sl_str hz S3 hv3 pl2 pu2 q'
   ·exact nos e'
  | _=>exact sl_view S3 hv3 pl1 pu1 er q'
 refine ea2_3 fin ?_
 intro T' id f1 f2 f3
 exact tail_any f2 f1 (wpAny_mono f3 (fun _ _ z=>(fun z=>((z.lift e3 k3).lift e2 k2).lift e1 k1) z) fun _ _ z=>z) rfl
end
end Mine
end
noncomputable section
namespace Mine
open PySem PySem.Calls PyProof.Rows
structure EOk (c:Cx) (n:Nat) (T:Tb) (e:Expr) (ex:Ex):Prop where
 se:SE c n T e ex
 st:ST c n T e ex
 ns:NS e
 nset:NSet e
section
variable {c:Cx} {n:Nat} {gl:List (Str × Gl)}
theorem behind_ns {op:CmpOp} {e:Expr} (h:NSet e):behindInMarks op e = false:=by
 cases e with
 | Set a k p=>exact absurd rfl (h a k p)
 | _=>rfl
theorem A2.imp {α β:Type} {R R':α→β→Prop} (hi:∀ a b,R a b→R' a b) {l:List α} {m:List β} (h:A2 R l m):A2 R' l m:=by
 induction h with
 | nil=>exact .nil
 | cons x _ ih=>exact .cons (hi _ _ x) ih
theorem mapO_Is {α β:Type} {f:α→Option β} {R:α→β→Prop} (hf:∀ a,Is (f a) (R a)) (l:List α):Is (mapO f l) (A2 R l):=by
 induction l with
 | nil=>exact A2.nil
 | cons a l ih=>exact (hf a).bind fun _ h1=>ih.map fun _ h2=>A2.cons h1 h2
abbrev EI (c:Cx) (n:Nat) (T:Tb) (r:Expr→Option Ex):Prop:=∀ e,Is (r e) (EOk c n T e)
section
variable {T:Tb} {r:Expr→Option Ex} (ih:EI c n T r)
include ih
theorem sub_ok {p:Pos} (v sl:Expr):Is (cSub r v sl) (SE c n T (.Subscript v sl p)):=by
 have F:isSlice sl = false→Is ((r v).bind fun a=>(r sl).map fun b=>Ex.prim false .item [a,b]) (SE c n T (.Subscript v sl p)):=fun hs=>(ih v).bind fun _ h1=>(ih sl).map fun _ h2=>se_item hs h1.se h2.se
 cases sl with
 | Slice lo hi st q =>
  cases st with
  | none=>exact (ih v).bind fun _ h1=>(opt_ok (fun e=>(ih e).imp fun _ q=>q.se) lo).bind fun _ h2=>(opt_ok (fun e=>(ih e).imp fun _ q=>q.se) hi).map fun _ h3=>se_slice h1.se h2 h3
  | some _=>exact trivial
 | _=>exact F rfl
theorem args_ok (es:List Expr):Is (mapO r es) (SEs c n T es):=mapO_Is (fun e=>(ih e).imp fun _ q=>⟨q.se,q.ns⟩) es
theorem glob_ok {g:Str} {p:Pos} {gv:Gl} {args:List Expr} {pos:Pos} (C:Cok c T.gl) (sc:SC c n) (hf:∀ x f,T.gl.lookup x = some (.fn f)→∃ fn,c.P.fns f = some fn)
  (h1:T.glob g = some gv):Is (cGl r T args pos gv) (SE c n T (.Call (.Name g p) args [] pos)):=by
 cases gv with
 | fn i=>exact (args_ok ih args).map fun _ h2=>se_call C sc h1 (hf _ _ (ge_of h1).2.1) h2
 | bi b =>
  refine Is.ite2 (fun hb=>?_) fun _=>Is.self.bind fun _ h2=>(args_ok ih args).map fun _ h3=>se_biPrim C h1 h3 h2
  subst hb
  rcases args with _ | ⟨x,_ | ⟨y,_ | _⟩⟩
  ·exact trivial
  ·exact trivial
  ·refine (nmE_i y).bind fun t hy=>Is.self.bind fun g2 h2=>(tyGl_i g2).bind fun tn h5=>Is.self.bind fun ty h4=>(ih x).map fun _ h3=>?_
   obtain ⟨_,rfl⟩:=hy
   subst h5
   exact se_isinst C h1 h2 h4 h3.se h3.ns
  ·exact trivial
 | ty t=>exact Is.self.bind fun _ h2=>(args_ok ih args).map fun _ h3=>se_tyPrim C h1 h3 h2
 | cls ms ats f =>
  rcases args with _ | ⟨x,_ | _⟩
  ·exact trivial
  ·exact (ih x).map fun _ h3=>se_new C sc h1 h3.se h3.ns
  ·exact trivial
 | _=>exact trivial
inductive AttrR (c:Cx) (n:Nat) (T:Tb) (o:Expr):Str→Ex × List Char→Prop
 | mk {x:Str} {ms:List (Str × Nat)} {ats:List Str} {f:Nat} {a:Ex} {nm:List Char}:(x,Gl.cls ms ats f) ∈ T.gl→toS nm ∈ ats→attrOk o = true→EOk c n T o a→AttrR c n T o (toS nm) (a,nm)
theorem cAttr_is (o:Expr) (name:Str):Is (cAttr r T o name) (AttrR c n T o name) :=
 Is.ite fun hok=>(clOf_i T.gl).bind fun _ h2=>Is.ite fun hin=>Is.self.bind fun nm h5=>(ih o).map fun _ h7=>by
  obtain ⟨x,hx⟩:=h2
  have e:=(fromS_ok h5).1
  subst e
  exact .mk hx (List.contains_iff_mem.mp hin) hok h7
theorem call_ok {f:Expr} {args:List Expr} {kws:List Keyword} {pos:Pos} (C:Cok c T.gl) (sc:SC c n) (hf:∀ x f,T.gl.lookup x = some (.fn f)→∃ fn,c.P.fns f = some fn):Is (cCall r T f args kws pos) (SE c n T (.Call f args kws pos)):=by
 cases kws with
 | cons _ _=>exact trivial
 | nil =>
  cases f with
  | Name g p=>exact Is.self.bind fun _ h1=>glob_ok ih C sc hf h1
  | Attribute o name apos =>
   refine Is.ite fun hc=>Is.ite2 (fun _=>?_) fun _=>?_
   ·exact Is.self.bind fun _ h1=>(ih o).bind fun _ h2=>(args_ok ih args).map fun _ h3=>se_methPrim hc.1 hc.2 h2.se h3 h1 fun q=>(Bool.and_eq_true_iff.mp q).2
   ·refine Is.ite fun hlt=>(clOf_i T.gl).bind fun _ h2=>Is.self.bind fun _ h4=>Is.self.bind fun _ h6=>(ih o).bind fun _ h8=>(args_ok ih args).map fun _ h10=>?_
    obtain ⟨x,hx⟩:=h2
    replace h6:=(fromS_ok h6).1
    subst h6
    exact se_meth (C.cl x _ _ _ hx) C sc h4 hc.1 hc.2 hlt h8.se h10
  | _=>exact trivial
theorem ifs_ok (l:List Expr):Is (cIfs r l) fun q=>(l = []∧q = none) ∨ ∃ t x,l = [t]∧q = some x∧ST c n T t x:=by
 rcases l with _ | ⟨t,_ | _⟩
 ·exact .inl ⟨rfl,rfl⟩
 ·exact Is.map (o:=(r t)) (ih t) fun x h1=>.inr ⟨t,x,rfl,rfl,h1.st⟩
 ·exact trivial
theorem cmp_ok {l:Expr} {ops:List CmpOp} {rs:List Expr} {p:Pos}:Is (cCmp r l ops rs) fun ex=>SE c n T (.Compare l ops rs p) ex∧ST c n T (.Compare l ops rs p) ex:=by
 rcases ops with _ | ⟨op,_ | ⟨o₂,_ | _⟩⟩
 ·exact trivial
 ·rcases rs with _ | ⟨x,_ | _⟩
  ·exact trivial
  ·exact (ih l).bind fun _ h1=>(ih x).map fun _ h2=>⟨se_cmp (behind_ns h2.nset) h1.se h2.se,st_cmp (behind_ns h2.nset) h1.se h2.se⟩
  ·exact trivial
 ·rcases rs with _ | ⟨m,_ | ⟨x,_ | _⟩⟩
  ·exact trivial
  ·exact trivial
  ·exact (ih l).bind fun _ h1=>(ih m).bind fun _ h2=>(ih x).map fun _ h3=>⟨se_cmp2 (behind_ns h3.nset) h1.se h2.se h3.se,st_cmp2 (behind_ns h3.nset) h1.se h2.se h3.se⟩
  ·exact trivial
 ·exact trivial
end
inductive CompR (c:Cx) (n:Nat) (T:Tb) (elt:Expr) (scope:Scope):List Comprehension→Ex→Prop
 | mk {x:Str} {px:Pos} {iter:Expr} {ifs:List Expr} {b i:Ex} {cond:Option Ex} {mu:Bool}:CompF T x scope→NSet iter→SE c n T iter i→SE c n (compTb T x scope) elt b →
   ((ifs = []∧cond = none) ∨ ∃ t q,ifs = [t]∧cond = some q∧ST c n (compTb T x scope) t q)→CompR c n T elt scope [⟨.Name x px,iter,ifs,0⟩] (.comp mu b i cond)
theorem comp_ok {k:Nat} {T:Tb} {elt:Expr} {gens:List Comprehension} {scope:Scope} {pos:Pos} (ih:∀ {T':Tb},T'.gl = T.gl→EI c n T' (cE k T')) :
  Is (cComp (cE k) T elt gens scope pos) (CompR c n T elt scope gens):=by
 rcases gens with _ | ⟨⟨t,it,ifs,ia⟩,_ | _⟩
 ·exact trivial
 ·refine (nmE_i t).bind fun x h1=>Is.ite fun hc=>(ih rfl it).bind fun _ h2=>(ih (T':=compTb T x scope) rfl elt).bind fun _ h3=>(ifs_ok (ih (T':=compTb T x scope) rfl) ifs).map fun _ h4=>?_
  obtain ⟨_,rfl⟩:=h1
  obtain ⟨h,hok⟩:=hc
  subst (h)
  exact .mk (compF hok) h2.nset h2.se h3.se h4
 ·exact trivial
theorem eok_plain {T:Tb} {e:Expr} {ex:Ex} (hp:∀ env whole,isTrue e env whole = (do let v ← whole; standAt e.pos; holding [v] (truthy v))) (ns:NS e) (nset:NSet e) (h:SE c n T e ex):EOk c n T e ex:=⟨h,st_plain hp h,ns,nset⟩
theorem cE_ok (C:Cok c gl) (sc:SC c n) (hf:∀ x f,gl.lookup x = some (.fn f)→∃ fn,c.P.fns f = some fn) (k:Nat):∀ {T:Tb},T.gl = gl→EI c n T (cE k T):=by
 induction k with
 | zero=>exact fun _ _=>trivial
 | succ k ih =>
  intro T hg e
  subst hg
  have iht:=ih rfl
  cases e with
  | Constant a b d=>exact Is.to fun _ h=>eok_plain (fun _ _=>rfl) nofun nofun (se_const h)
  | Name a b=>exact Is.to fun _ h=>eok_plain (fun _ _=>rfl) nofun nofun (se_name C h)
  | BinOp l op r pos=>exact Is.self.bind fun _ h1=>(iht l).bind fun _ h2=>(iht r).bind fun _ h3=>Is.ite2 (fun ho=>eok_plain (fun _ _=>rfl) nofun nofun (se_rep h1 ho.1 h2.se h3.se)) fun _=>eok_plain (fun _ _=>rfl) nofun nofun (se_binop h1 h2.se h3.se)
  | UnaryOp op x p =>
   refine (iht x).bind fun _ h1=>?_
   cases op with
   | Not=>exact ⟨se_not h1.se,st_not h1.st,nofun,nofun⟩
   | USub=>exact eok_plain (fun _ _=>rfl) nofun nofun (se_neg h1.se)
   | _=>exact trivial
  | BoolOp op vs p=>exact (mapO_Is iht vs).bind fun _ q=>Is.to fun _ h2=>⟨⟨fun R w=>se_bool (q.imp fun _ _ x=>x.se) h2 R w⟩,⟨fun hP R w=>st_bool (q.imp fun _ _ x=>x.st) h2 hP R w⟩,nofun,nofun⟩
  | Compare l ops rs p=>exact (cmp_ok iht).imp fun _ h=>⟨h.1,h.2,nofun,nofun⟩
  | Call f args kws pos=>exact (call_ok iht C sc hf).imp fun _=>eok_plain (fun _ _=>rfl) nofun nofun
  | Subscript v sl p=>exact (sub_ok iht v sl).imp fun _=>eok_plain (fun _ _=>rfl) nofun nofun
  | List es pos=>exact (args_ok iht es).map fun _ h1=>eok_plain (fun _ _=>rfl) nofun nofun (se_list h1)
  | Tuple es kk pos=>exact (args_ok iht es).map fun _ h1=>eok_plain (fun _ _=>rfl) nofun nofun (se_tup h1)
  | Dict ks vs p =>
   refine Is.imp (R:=SE c n T (.Dict ks vs p)) (Is.ite2 (fun _=>Is.ite fun hc=>(mapO_Is keyOf_ok ks).bind fun _ h1=>(args_ok iht vs).map fun _ h2=>se_dict C h1 h2 hc.1 hc.2) fun _=>?_) fun _=>eok_plain (fun _ _=>rfl) nofun nofun
   rcases ks with _ | ⟨_ | ke,_ | _⟩
   ·exact trivial
   ·exact trivial
   ·exact trivial
   ·rcases vs with _ | ⟨ve,_ | _⟩
    ·exact trivial
    ·exact (iht ke).bind fun _ h1=>(iht ve).map fun _ h2=>se_dict1 C h1.se h2.se
    ·exact trivial
   ·exact trivial
  | ListComp elt gens scope pos=>exact (comp_ok ih).imp fun _ h=>by cases h with | mk ok hns hi he hc=>exact eok_plain (fun _ _=>rfl) nofun nofun (se_comp ok hns hi he hc)
  | Attribute o name pos=>exact (cAttr_is iht o name).map fun _ h=>by cases h with | mk hx hat hok h1=>exact eok_plain (fun _ _=>rfl) nofun nofun (se_attr (C.cl _ _ _ _ hx) hat hok h1.se)
  | _=>exact trivial
end
end Mine
end
noncomputable section
namespace Mine
open PySem PySem.Calls PyProof.Rows
abbrev own (env:Env):List Addr:=env.locals :: env.cells.map (·.2)
abbrev own2 (env:Env):List Addr:=env.locals :: own env
theorem FR.away' {c:Cx} {as:Adr} {X:List Addr} {h:HP} {env:Env} {tab:List (Str × Nat)} {ρ:Fm} {a:Addr} (_F:FR c as X h env tab ρ) (ha:a ∉ own env):Away [a] env tab :=
 ⟨fun q=>ha (by replace q:=in1 q; subst q; exact .head _),fun x i h1 h2 b e q=>ha (by replace q:=in1 q; subst q; exact .tail _ (List.mem_map.mpr ⟨(x,b),mem_of_lookup e,rfl⟩))⟩
noncomputable def ResS (c:Cx) (as:Adr) (X:List Addr) (h:HP) (T:Tb) (env:Env) (K:KS) (R:QE) (f:Flow) (s':Shared):Prop :=
 match f with
 | .next=>∃ ρ' H' as',Ext as h as'∧SR c as' X H' s'∧KeptX as X (own env) h s'.heap∧FR c as' X s'.heap env T.tab ρ'∧ρ'.length = T.n∧K ρ' H'
 | .ret x=>∃ v H' as',Ext as h as'∧SR c as' X H' s'∧KeptX as X (own env) h s'.heap∧VR c as' X s'.heap v x∧R v H'
 | _=>False
inductive EResS (c:Cx) (as:Adr) (X:List Addr) (h:HP) (env:Env) (XX:XE) (x:Value) (s':Shared):Prop
 | mk (k:Nat) (H':AH) (as':Adr) (e:Addr) (t:Option Addr) (ts:List Addr):x = .ref e→Ext as h as'→SR c as' (e :: (ts ++ X)) H' s'→KeptX as X (own env) h s'.heap→ExcS s'.heap e (.ref (c.xcls k)) t→(∀ T,t = some T→T ∈ ts)→(∀ a ∈ e :: ts,Apart c as h as' X a)→(∃ m,s'.heap.Ns env.locals m)→XX k H'→EResS c as X h env XX x s'
structure Own (A:Around) (X:List Addr) (env:Env):Prop where
 mem:∀ b ∈ own env,b ∈ X
 fr:env.frame = some env.locals
 out:∀ l,A.frames = some l→∀ e ∈ l,∀ L,e.frame = some L→L ∉ env.cells.map (·.2)
theorem Own.more {A:Around} {X:List Addr} {env:Env} {I:Addr} (o:Own A X env):Own A (I :: X) env:=⟨fun b hb=>.tail _ (o.mem b hb),o.fr,o.out⟩
theorem EnvFr.step {c:Cx} {A:Around} {X:List Addr} {as as':Adr} {h h':HP} {env:Env} (f:EnvFr c A X as h env) (o:Own A X env) (E:Ext as h as') (k:KeptX as X (own env) h h') (hn:∃ m,h'.Ns env.locals m) (lo:env.locals ∉ as'):EnvFr c A X as' h' env:=by
 obtain ⟨env₀,outer,L,h1,h2,h3,h4⟩:=f
 refine ⟨env₀,outer,L,h1,fun a ha=>⟨(h2 a ha).kind,?_⟩,h3,h4⟩
 refine ea4_6 ((h2 a ha).there) fun L' ob es n q1 q2 q3 q4 q5 q6=>?_
 by_cases hL:L' = env.locals
 ·exact hn.elim fun m hn=>ea3_3 hn fun ob' es' ep e1 e2 _=>⟨L',ob',es',ep,q1,q2,q3,hL ▸ lo,hL ▸ e1,e2⟩
 ·exact ea1_2 (k L' ob q5 q4 fun q=>memE q hL fun q=>o.out _ h1 a ha L' q1 q) fun ob' e1 s=>⟨L',ob',es,n,q1,q2,q3,E.out q5 q4,e1,s.elim (fun s=>s ▸ q6) fun s=>s.2.2.elim fun sl s=>s ▸ q6⟩
theorem KeptX.trans {as as₁:Adr} {X Y:List Addr} {h h₁ h₂:HP} (k:KeptX as X Y h h₁) (x:Ext as h as₁) (k':KeptX as₁ X Y h₁ h₂):KeptX as X Y h h₂:=fun b o e hb hy=>by
 refine ea1_2 (k b o e hb hy) ?_
 intro o₁ e₁ s₁
 refine ea1_2 (k' b o₁ e₁ (x.out e hb) hy) ?_
 intro o₂ e₂ s₂
 exact ⟨o₂,e₂,s₁.trans s₂⟩
theorem KeptX.fr {as:Adr} {X Y:List Addr} {h h':HP} {a:Addr} (k:KeptX as X Y h h') (hY:∀ b ∈ Y,∃ o,h'.get? b = some o) (ha:h'.get? a = none):Fr as h a :=
 (Classical.em (a ∈ as)).imp id fun hm=>optE (o:=h.get? a) id fun o hq=>(Classical.em (a ∈ Y)).elim (fun hy=>(hY a hy).elim fun _ e=>nos (ha.symm.trans e)) fun hy=>ea1_2 (k a o hq hm hy) fun _ e _=>nos (ha.symm.trans e)
theorem Ext.transX {as as₁ as₂:Adr} {X Y:List Addr} {h h₁:HP} (x:Ext as h as₁) (k:KeptX as X Y h h₁) (hY:∀ b ∈ Y,∃ o,h₁.get? b = some o) (y:Ext as₁ h₁ as₂):Ext as h as₂ :=
 ⟨fun i a e=>y.old i a (x.old i a e),fun a ha=>(y.new a ha).elim (x.new a) (k.fr hY)⟩
theorem KeptX.less {as:Adr} {X X' Y:List Addr} {h h':HP} (k:KeptX as X' Y h h') (hX:∀ b,2 ≤ X'.count b→2 ≤ X.count b ∨ Fr as h b):KeptX as X Y h h':=fun b o e hb hy=>by
 refine ea1_2 (k b o e hb hy) ?_
 intro o' e' s
 exact ⟨o',e',s.mono fun q=>(hX b q).elim id fun r=>r.elim (fun r=>absurd r hb) fun r=>by replace e:=(r).symm.trans e; cases e⟩
theorem KeptX.more {as:Adr} {X X' Y:List Addr} {h h':HP} (k:KeptX as X Y h h') (hX:∀ b,X.count b ≤ X'.count b):KeptX as X' Y h h':=fun b o e hb hy=>by
 refine ea1_2 (k b o e hb hy) ?_
 intro o' e' s
 exact ⟨o',e',s.mono fun q=>Nat.le_trans q (hX b)⟩
theorem KeptX.but {as:Adr} {X Y Z:List Addr} {h₀ h h':HP} (k:KeptX as X Y h₀ h) (b:But Z h h') (hZ:∀ a ∈ Z,Fr as h₀ a)  :KeptX as X Y h₀ h':=fun x o e hx hy=>by
 refine ea1_2 (k x o e hx hy) ?_
 intro o' e' s
 exact ⟨o',b x o' (fun q=>by refine Or.elim (hZ _ q) (fun r=>?_) fun r=>?_; exact hx r; replace e:=(r).symm.trans e; exact nos e) e',s⟩
theorem ResS.lift {c:Cx} {as as₁:Adr} {X:List Addr} {h h₁:HP} {T:Tb} {env:Env} {K:KS} {R:QE} {f:Flow} {s':Shared} (e:Ext as h as₁) (k:KeptX as X (own env) h h₁) (hY:∀ b ∈ own env,∃ o,h₁.get? b = some o) (r:ResS c as₁ X h₁ T env K R f s'):ResS c as X h T env K R f s':=by
 cases f with
 | next =>
  refine ea3_6 r ?_
  intro ρ' H' as' e' S k' F hl q
  exact ⟨ρ',H',as',e.transX k hY e',S,k.trans e k',F,hl,q⟩
 | ret x =>
  refine ea3_5 r ?_
  intro v H' as' e' S k' hv q
  exact ⟨v,H',as',e.transX k hY e',S,k.trans e k',hv,q⟩
 | _=>exact r.elim
theorem EResS.lift {c:Cx} {as as₁:Adr} {X:List Addr} {h h₁:HP} {env:Env} {XX:XE} {x:Value} {s':Shared} (e:Ext as h as₁) (k:KeptX as X (own env) h h₁) (hY:∀ b ∈ own env,∃ o,h₁.get? b = some o) (r:EResS c as₁ X h₁ env XX x s'):EResS c as X h env XX x s':=by
 obtain ⟨n,H',as',a,t,ts,hx,e',S,k',ex,ht,ap,hn,q⟩:=r
 exact ⟨n,H',as',a,t,ts,hx,e.transX k hY e',S,k.trans e k',ex,ht,fun b hb=>⟨(ap b hb).1.elim (e.new b) (k.fr hY),(ap b hb).2⟩,hn,q⟩
theorem ERes.none {c:Cx} {as:Adr} {X:List Addr} {h:HP} {x:Value} {s':Shared} (r:ERes c as X h (fun _ _=>False) x s'):False:=by
 obtain ⟨_,_,_,_,_,_,_,_,_,_,_,_,_,q⟩:=r
 exact q
theorem EResS.none {c:Cx} {as:Adr} {X:List Addr} {h:HP} {env:Env} {x:Value} {s':Shared} (r:EResS c as X h env (fun _ _=>False) x s'):False:=by
 obtain ⟨_,_,_,_,_,_,_,_,_,_,_,_,_,_,q⟩:=r
 exact q
theorem ERes.toS {c:Cx} {as:Adr} {X:List Addr} {h:HP} {tab:List (Str × Nat)} {env:Env} {XX:XE} {x:Value} {s':Shared} {ρ:Fm} (r:ERes c as X h XX x s') (F:FR c as X h env tab ρ):EResS c as X h env XX x s':=by
 have hn:=r.nsC (F.ns.imp fun _ h=>h.1) F.lout
 obtain ⟨n,H',as',a,t,ts,hx,e',S,k',ex,ht,ap,q⟩:=r
 exact ⟨n,H',as',a,t,ts,hx,e',S,k'.y _,ex,ht,ap,hn,q⟩
theorem ResS.mono {c:Cx} {as:Adr} {X:List Addr} {h:HP} {T:Tb} {env:Env} {K K':KS} {R:QE} {f:Flow} {s':Shared} (r:ResS c as X h T env K R f s') (hK:∀ ρ H,K ρ H→K' ρ H):ResS c as X h T env K' R f s':=by
 cases f with
 | next =>
  refine ea3_6 r ?_
  intro ρ' H' as' e' S k' F hl q
  exact ⟨ρ',H',as',e',S,k',F,hl,hK _ _ q⟩
 | ret x=>exact r
 | _=>exact r.elim
structure SS (c:Cx) (n:Nat) (T:Tb) (st:Stmt) (sts:List St):Prop where
 run:∀ {env:Env} {A:Around} {s:Shared} {as:Adr} {X:List Addr} {H:AH} {ρ:Fm} {K:KS} {R:QE} {XX:XE},
  Rdy c T env A n s as X H ρ→Own A X env→wpSs c.P (callF c.P n) sts ρ H K R XX→wpAny c.M A (exec st env) (ResS c as X s.heap T env K R) (EResS c as X s.heap env XX) s
structure SB (c:Cx) (n:Nat) (T:Tb) (b:List Stmt) (sts:List St):Prop where
 run:∀ {env:Env} {A:Around} {s:Shared} {as:Adr} {X:List Addr} {H:AH} {ρ:Fm} {K:KS} {R:QE} {XX:XE},
  Rdy c T env A n s as X H ρ→Own A X env→wpSs c.P (callF c.P n) sts ρ H K R XX→wpAny c.M A (execs b env) (ResS c as X s.heap T env K R) (EResS c as X s.heap env XX) s
theorem wpSs_append {P:Prog} {C:Calls} {R:QE} {X:XE} {ys:List St} {K:KS}:∀ {xs:List St} {ρ:Fm} {H:AH},wpSs P C (xs ++ ys) ρ H K R X = wpSs P C xs ρ H (fun ρ' H'=>wpSs P C ys ρ' H' K R X) R X
 | [],_,_=>rfl
 | s :: xs,ρ,H=>by
  simp only [List.cons_append,wpSs_cons,wpSs_cons]
  congr 1
  funext ρ' H'
  exact wpSs_append
section
variable {c:Cx} {n:Nat} {T:Tb}
theorem Rdy.step {env:Env} {A:Around} {s s₁:Shared} {as as₁:Adr} {X:List Addr} {H H₁:AH} {ρ ρ₁:Fm} (R:Rdy c T env A n s as X H ρ) (hY:Own A X env) (e:Ext as s.heap as₁) (k:KeptX as X (own env) s.heap s₁.heap) (S:SR c as₁ X H₁ s₁) (F:FR c as₁ X s₁.heap env T.tab ρ₁) (hl:ρ₁.length = T.n):Rdy c T env A n s₁ as₁ X H₁ ρ₁:=⟨R.a,S,F,R.K,hl,R.fr.step hY e k (F.ns.imp fun _ h=>h.1) F.lout⟩
theorem sb_of {b:List Stmt} {xss:List (List St)} (h:A2 (SS c n T) b xss):SB c n T b xss.flatten:=by
 induction h with
 | nil =>
  refine ⟨?_⟩
  intro env A s as X H ρ K R XX r hY w
  exact wpAny_execs_nil ⟨ρ,H,as,.refl ..,r.S,fun b o e _ _=>⟨o,e,.inl rfl⟩,r.F,r.len,w⟩
 | @cons st xs l m h₁ _ ih =>
  refine ⟨?_⟩
  intro env A s as X H ρ K R XX r hY w
  simp only [List.flatten_cons,wpSs_append] at w
  refine wpAny_execs_cons (wpAny_mono (h₁.run r hY w) (fun f s₁ q=>?_) fun _ _ e=>e)
  cases f with
  | next =>
   refine ea3_6 q ?_
   intro ρ₁ H₁ as₁ e1 S1 k1 F1 hl1 w1
   exact wpAny_mono (ih.run (r.step hY e1 k1 S1 F1 hl1) hY w1) (fun f s₂ q=>q.lift e1 k1 fun b hb=>S1.xs b (hY.mem b hb)) fun _ _ e=>e.lift e1 k1 fun b hb=>S1.xs b (hY.mem b hb)
  | ret x=>exact q
  | _=>exact q.elim
theorem Res.toS {env:Env} {as:Adr} {X:List Addr} {h:HP} {K:KS} {Q:QE} {x:Value} {s':Shared} (r:Res c as X h Q x s'):ResS c as X h T env K Q (.ret x) s':=by
 obtain ⟨v,H',as',e,S,k,hv,q⟩:=r
 exact ⟨v,H',as',e,S,k.y _,hv,q⟩
theorem ss_ret {e:Expr} {ex:Ex} {pos:Pos} (h:SE c n T e ex):SS c n T (.Return (some e) pos) [.ret ex]:=by
 refine ⟨?_⟩
 intro env A s as X H ρ K R XX r hY w
 simp only [wpSs_cons,wpS_ret] at w
 exact wpAny_Return_some (wpAny_mono (h.run r w) (fun _ _ q=>q.toS) fun _ _ e=>e.toS r.F)
theorem ss_ret0 {pos:Pos}:SS c n T (.Return none pos) [.ret (.cst .none)]:=by
 refine ⟨?_⟩
 intro env A s as X H ρ K R XX r hY w
 simp only [wpSs_cons,wpS_ret,wpE_cst] at w
 exact wpAny_Return_none ⟨.none,H,as,.refl ..,r.S,fun b o e _ _=>⟨o,e,.inl rfl⟩,.none,w⟩
theorem ss_pass {pos:Pos}:SS c n T (.Pass pos) [.pass]:=by
 refine ⟨?_⟩
 intro env A s as X H ρ K R XX r hY w
 exact wpAny_Pass ⟨ρ,H,as,.refl ..,r.S,fun b o e _ _=>⟨o,e,.inl rfl⟩,r.F,r.len,w⟩
structure S1 (c:Cx) (n:Nat) (T:Tb) (st:Stmt) (x:St):Prop where
 run:∀ {env:Env} {A:Around} {s:Shared} {as:Adr} {X:List Addr} {H:AH} {ρ:Fm} {K:KS} {R:QE} {XX:XE},
  Rdy c T env A n s as X H ρ→Own A X env→wpS c.P (callF c.P n) x ρ H K R XX→wpAny c.M A (exec st env) (ResS c as X s.heap T env K R) (EResS c as X s.heap env XX) s
theorem s1_expr {e:Expr} {ex:Ex} {pos:Pos} (hc:isComp e = false) (h:SE c n T e ex):S1 c n T (.Expr e pos) (.expr ex):=by
 refine ⟨?_⟩
 intro env A s as X H ρ K R XX r hY w
 simp only [wpS_expr] at w
 have hi:interactive env = false:=by dsimp only [interactive]; rw [r.F.kind]; rfl
 have hs:swapsWith e none pos.line env = pure false:=by cases e <;> first | rfl | cases hc
 rw [exec_Expr env e pos hi hs]
 refine wpAny_bind (wpAny_standAt (wpAny_bind (wpAny_mono (h.run r w) (fun v s₁ q=>?_) fun _ _ e=>e.toS r.F)))
 obtain ⟨v,H',as',e,S,k,hv,q⟩:=q
 exact wpAny_dropValue ⟨ρ,H',as',e,S,k.y _,r.F.keep k e,r.len,q⟩
theorem s1_if {t:Expr} {ex:Ex} {a b:List Stmt} {xs ys:List St} {pos:Pos} (h:ST c n T t ex) (ha:SB c n T a xs) (hb:SB c n T b ys):S1 c n T (.If t a b pos) (.ite ex xs ys):=by
 refine ⟨?_⟩
 intro env A s as X H ρ K R XX r hY w
 simp only [wpS_ite] at w
 refine wpAny_If (wpAny_mono (h.run (Q:=fun t H'=>if t then wpSs c.P (callF c.P n) xs ρ H' K R XX else wpSs c.P (callF c.P n) ys ρ H' K R XX) (fun _ _ q=>q) r w) (fun t s₁ q=>?_) fun _ _ e=>e.toS r.F)
 obtain ⟨H',as',e,S,k,q⟩:=q
 have r':=r.next e k S
 cases t with
 | true =>
  simp only [if_true] at q ⊢
  exact wpAny_mono (ha.run r' hY q) (fun _ _ q=>q.lift e (k.y _) fun b hb=>S.xs b (hY.mem b hb)) fun _ _ e'=>e'.lift e (k.y _) fun b hb=>S.xs b (hY.mem b hb)
 | false =>
  simp only [Bool.false_eq_true,if_false] at q ⊢
  exact wpAny_mono (hb.run r' hY q) (fun _ _ q=>q.lift e (k.y _) fun b hb=>S.xs b (hY.mem b hb)) fun _ _ e'=>e'.lift e (k.y _) fun b hb=>S.xs b (hY.mem b hb)
set_option tactic.hygienic true in
theorem slot_of {x:Str} {i:Nat} {env:Env} (K:KOk T env) (h:T.slot x = some i):T.tab.lookup x = some i∧(env.kindOf x = some .local ∨ env.kindOf x = some .cell)∧i < T.n:=by
 unfold Tb.slot at h
 split at h
 ·rename_i hk
  split at h
  ·rename_i j hj
   split at h
   ·cases h; exact ⟨hj,.inl (K.loc x hk),by assumption⟩
   ·cases h
  ·cases h
 ·rename_i hk
  split at h
  ·rename_i j hj
   split at h
   ·cases h; exact ⟨hj,.inr (K.cell x hk),by assumption⟩
   ·cases h
  ·cases h
 ·exact nos h
theorem s1_asg {x:Str} {i:Nat} {px pos:Pos} {e:Expr} {ex:Ex} (hi:T.slot x = some i) (h:SE c n T e ex) {env:Env} {A:Around} {s:Shared} {as:Adr} {X:List Addr} {H:AH} {ρ:Fm} {K:KS} {R:QE} {XX:XE}
  (r:Rdy c T env A n s as X H ρ) (hY:Own A X env) (w:wpS c.P (callF c.P n) (.asg i ex) ρ H K R XX) (hs:swapsWith e (some (.Name x px)) pos.line env = pure false) :
  wpAny c.M A (exec (.Assign [.Name x px] e pos) env) (ResS c as X s.heap T env K R) (EResS c as X s.heap env XX) s:=by
 refine ea0_3 (slot_of r.K hi) ?_
 intro h1 h2 h3
 simp only [wpS_asg] at w
 refine wpAny_Assign_Name (wpAny_mono (h.run r w) (fun y s₁ q=>?_) fun _ _ e=>e.toS r.F) hs
 obtain ⟨v,H₁,as₁,e1,S1,k1,hv,hl,q⟩:=q
 refine n_store S1 (r.F.keep k1 e1) h1 h2 hl hv fun s₂ st=>?_
 obtain ⟨S2,k2,F2⟩:=st
 exact ResS.lift e1 (k1.y _) (fun b hb=>S1.xs b (hY.mem b hb)) ⟨_,H₁,as₁,.refl ..,S2,k2,F2,by exact (List.length_set).symm ▸ r.len,q⟩
end
end Mine
end
noncomputable section
namespace Mine
open PySem PySem.Calls PyProof.Rows
section
variable {c:Cx} {n:Nat} {T:Tb}
theorem s1_raise {x m:Str} {k kk:Nat} {np mp cpos pos:Pos} (C:Cok c T.gl) (hg:T.glob x = some (.exc k)):S1 c n T (.Raise (some (.Call (.Name x np) [.Constant (.str m) kk mp] [] cpos)) none pos) (.raise k):=by
 refine ⟨?_⟩
 intro env A s as X H ρ K R XX r hY w
 simp only [wpS_raise] at w
 refine ea0_2 (C.gl x _ (ge_of hg).2.1) fun hm hk=>?_
 refine ea1_2 (C.x k hk) ?_
 intro bm xc _
 have xb:(bm).contains (.type "BaseException") = true:=by obtain ⟨_,_,_,tl⟩:=xc; exact tl.has (by decide)
 obtain ⟨hC,hN,hmN,tl⟩:=xc.keeps r.S.stays
 refine wpAny_Raise_call_subT F.excBase_ValueError xb r.a.hh rfl (hmN _ (.head _)) (n_glob C hg r (.inl hm) ⟨rfl,evalArgs_plain (spliced_cons (Constant_str (k:=kk) (pos:=mp) (spliced_nil ⟨rfl,(by decide:1 ≤ sizeLine),hC,hN,tl.tail,fun h' e me=>?_⟩)))⟩)
 refine ea1_3 me.there ?_
 intro t he ht _
 have g:Grown s.heap h':=me.keeps
 refine ⟨k,H,as,e,none,[],rfl,.refl ..,r.S.opens (s':={ s with heap:=h',toks:=_ }) g (fm1 (.inr me.new) fun _ hb=>.inl hb:∀ b ∈ e :: ([] ++ X),b ∈ X ∨ s.heap.get? b = none) (fm1 ⟨_,he⟩ fun b hb=>(r.S.xs b hb).imp fun _ eo=>g _ _ eo) rfl rfl,(g.kept as X).y _,.fresh he rfl rfl rfl rfl rfl,nofun,all1 ⟨.inr me.new,r.S.not_as me.new,r.S.not_x me.new,r.S.base_none me.new⟩,r.F.ns.imp fun m h=>h.1.at fun o e=>g _ o e,w⟩
theorem ExcS.obj {h:HP} {e:Addr} {cls:Value} {t:Option Addr} (x:ExcS h e cls t):∃ oe vs,h.get? e = some oe∧oe.cls = cls∧oe.data = .fields vs∧vs[2]? = some .none:=by
 cases x with
 | fresh he hc hd hsz v1 v2=>exact ⟨_,_,he,hc,hd,v2⟩
 | traced he hc hd hsz v1 v2=>exact ⟨_,_,he,hc,hd,v2⟩
theorem ExcS.trc {h:HP} {e T:Addr} {cls:Value} (x:ExcS h e cls (some T)):∃ o,h.get? T = some o:=by
 cases x with | traced he hc hd hsz v1 v2 hTe hT=>exact ⟨_,hT⟩
theorem same_of {c:Cx} {X:List Addr} {as:Adr} {h:HP} {l:List Env} {a:Addr} {o o':Obj} (h2:∀ ev ∈ l,FrE c X as h ev) (ho:h.get? a = some o) (q:o' = o ∨ a ∈ l.filterMap (·.frame)∧∃ sl,o' = { o with slots:=sl }):SameO X a o o' :=
 q.imp id fun q=>ea1_2 (List.mem_filterMap.mp q.1) fun ev he hf=>ea4_6 ((h2 ev he).there) fun L' ob es m q1 _ q3 _ q5 q6=>by
  cases q1.symm.trans hf
  cases q5.symm.trans ho
  exact ⟨q3,⟨es,m,q6⟩,q.2⟩
theorem caught {env₀:Env} {outer:List Env} {Y:List Addr} {s₀ s:Shared} {as as':Adr} {X:List Addr} {H':AH} {e:Addr} {ts S:List Addr} {h':HP} {tk:Nat}
  (S':SR c as' (e :: (ts ++ X)) H' s) (k':KeptX as X Y s₀.heap s.heap) (h2:∀ ev ∈ env₀ :: outer,FrE c X as' s.heap ev) (ap:∀ a ∈ e :: ts,Apart c as s₀.heap as' X a)
  (tc:Touch S ((env₀ :: outer).filterMap (·.frame)) s.heap h') (hS:∀ a ∈ S,a ∈ e :: ts ∨ s.heap.get? a = none) :
  SR c as' X H' { s with heap:=h',toks:=tk }∧KeptX as X Y s₀.heap h':=by
 have out:∀ a o,s.heap.get? a = some o→a ∉ e :: ts→∃ o',h'.get? a = some o'∧(o' = o ∨ a ∈ (env₀ :: outer).filterMap (·.frame)∧∃ sl,o' = { o with slots:=sl }):=fun a o ho ha=>tc.out ho fun q=>(hS a q).elim ha fun r=>nos (r.symm.trans ho)
 have inX:∀ a,a ∈ X→a ∈ e :: (ts ++ X):=fun a q=>.tail _ (List.mem_append_right _ q)
 refine ⟨S'.but (s':={ s with heap:=h',toks:=tk }) (Z:=(e :: ts) ++ (env₀ :: outer).filterMap (·.frame)) (fun a o ha ho=>?_) (app_all (fun a ha=>⟨List.mem_append_left X ha,(ap a ha).2.2.2⟩) fun a ha=>⟨inX a (FrE.mem h2 ha).1,(FrE.mem h2 ha).2⟩) inX (fun a ha _=>(S'.xs a (inX a ha)).elim fun o eo=>(tc a o eo).imp fun _ q=>q.1) rfl rfl,fun a o eo ha hy=>?_⟩
 ·exact ea1_2 (out a o ho fun q=>ha (List.mem_append_left _ q)) fun o' e1 q=>q.elim (fun q=>q ▸ e1) fun q=>absurd (List.mem_append_right _ q.1) ha
 ·exact ea1_2 (k' a o eo ha hy) fun o₁ e₁ s₁=>(out a o₁ e₁ fun q=>(ap a q).1.elim ha fun r=>nos (r.symm.trans eo)).imp fun o₂ q=>⟨q.1,s₁.trans (same_of h2 e₁ q.2)⟩
theorem s1_try {x:Str} {j kk:Nat} {xp hp p p' pos:Pos} {b:List Stmt} {bs:List St} (C:Cok c T.gl) (hg:T.glob x = some (.exc j)) (hb:SB c n T b bs) :
  S1 c n T (.Try b [.ExceptHandler (some (.Name x xp)) none [.Return (some (.Constant .none kk p)) p'] hp] [] [] pos) (.try_ bs j):=by
 refine ⟨?_⟩
 intro env A s as X H ρ K R XX r hY w
 refine wpAny_Try_except (wpAny_mono (hb.run r hY w) (fun f s₁ q=>?_) fun y s₁ q=>?_)
 ·cases f with
  | next=>exact wpAny_execs_nil q
  | _=>exact q
 obtain ⟨k,H',as',e,t,ts,rfl,e',S',k',ex,ht,ap,hn,hsub,w'⟩:=q
 obtain ⟨env₀,outer,L,h1,h2,h3,h4⟩:=r.fr.step hY e' k' hn (fun q=>(List.getElem?_of_mem q).elim fun i hi=>(S'.objs i _ hi).2.1 (.tail _ (List.mem_append_right _ (hY.mem _ (.head _)))))
 refine note_exc h1 (FrOk.fun h2) h3 h4 ex fun h₂ T₂ ex₂ hT tc₂=>?_
 have hS:∀ a ∈ T₂ :: e :: t.toList,a ∈ e :: ts ∨ s₁.heap.get? a = none:=fm1 (hT.imp (fun h=>.tail _ (ht _ h)) id) (fm1 (.inl (.head _)) fun a ha=>.inl (.tail _ (ht a (Option.mem_toList.mp ha))))
 have fly:∀ {h h':HP},Touch (T₂ :: e :: t.toList) ((env₀ :: outer).filterMap (·.frame)) s₁.heap h→ExcS h' e (.ref (c.xcls k)) (some T₂)→(∀ b,b ≠ T₂→h'.get? b = h.get? b)→Touch (T₂ :: e :: t.toList) ((env₀ :: outer).filterMap (·.frame)) s₁.heap h':=fun {h h'} tc ex' hk=>tc.trans fun b o eb=>by
  by_cases hb:b = T₂
  ·exact ex'.trc.imp fun o e=>⟨hb ▸ e,.inl (hb ▸ .head _)⟩
  ·exact ⟨o,(hk b hb).trans eb,.inr (.inl rfl)⟩
 refine flight_exc ex₂ fun h₃ ex₃ hk₃=>?_
 have tc₃:=fly (tc₂.mono fun b q=>.tail _ q) ex₃ hk₃
 have st:c.base.StaysIn h₃:=(caught (tk:=0) S' k' h2 ap tc₃ hS).1.stays
 refine ea1_2 (C.x k (Bool.and_eq_true_iff.mp hsub).1) fun bm xk xs=>ea1_2 (C.x j (C.gl x _ (ge_of hg).2.1).2) fun bm' xj _=>?_
 refine wpAny_handleBy_cons (codeAny_handlers_test (n_globS C hg r.F.kind r.F.glob r.F.bi r.K st (.inl (C.gl x _ (ge_of hg).2.1).1) ?_)) nofun
 refine ea2_3 ex₃.obj fun oe _ he hcl _=>match_x (xk.keeps st) (xj.keeps st) he hcl ((xs x j (ge_of hg).2.1).trans (Bool.and_eq_true_iff.mp hsub).2) ?_
 refine codeAny_handlers_suite (flight_exc ex₃ fun h₄ ex₄ hk₄=>wpAny_execs_cons (wpAny_Return_some (Constant_none ?_)))
 have q:=caught (tk:=s₁.toks) S' k' h2 ap (fly tc₃ ex₄ hk₄) hS
 exact ⟨.none,H',as',e',q.1,q.2,.none,w'⟩
end
end Mine
end
noncomputable section
namespace Mine
open PySem PySem.Calls PyProof.Rows
section
variable {c:Cx} {n:Nat} {T:Tb}
theorem s1_while {t:Expr} {ex:Ex} {body:List Stmt} {xs:List St} {pos:Pos} (h:ST c n T t ex) (hb:SB c n T body xs):S1 c n T (.While t body [] pos) (.while_ ex xs):=by
 refine ⟨?_⟩
 intro env A s as X H ρ K R XX r hY w
 simp only [wpS_while] at w
 obtain ⟨k,w⟩:=w
 refine wpAny_While ?_
 have hown:∀ {s':Shared} {as':Adr} {H':AH},SR c as' X H' s'→∀ b ∈ own env,∃ o,s'.heap.get? b = some o:=fun S b hb=>S.xs b (hY.mem b hb)
 refine codeAny_whileLoop (fun m s'=>∃ as' H' ρ',Ext as s.heap as'∧SR c as' X H' s'∧KeptX as X (own env) s.heap s'.heap∧FR c as' X s'.heap env T.tab ρ'∧ρ'.length = T.n ∧
  whileL (fun ρ' H' K₁ K₂=>wpE c.P (callF c.P n) ex ρ' H' (fun v H''=>okB (truth v) fun t=>if t then wpSs c.P (callF c.P n) xs ρ' H'' K₁ R (fun _ _=>False) else K₂ ρ' H'') (fun _ _=>False)) m ρ' H' K) ?_ k
  ⟨as,H,ρ,.refl ..,r.S,(Kept.refl _ _ _).y _,r.F,r.len,w⟩
 clear w
 intro m s' h0
 refine ea3_6 h0 ?_
 clear h0
 intro as' H' ρ' e S kx F hl w
 cases m with
 | zero=>exact w.elim
 | succ m =>
  have r':Rdy c T env A n s' as' X H' ρ':=r.step hY e kx S F hl
  refine wpAny_mono (h.run (fun _ _ q=>q) r' w) (fun b s₂ q=>?_) fun _ _ e=>e.none.elim
  obtain ⟨H₂,as₂,e2,S2,k2,q2⟩:=q
  have r2:=r'.next e2 k2 S2
  have ex2:Ext as s.heap as₂:=e.transX kx (hown S) e2
  have kx2:KeptX as X (own env) s.heap s₂.heap:=kx.trans e (k2.y _)
  cases b with
  | true =>
   rw [if_pos rfl] at q2 ⊢
   refine wpAny_mono (hb.run r2 hY q2) (fun f s₃ q=>?_) fun _ _ e=>e.none.elim
   cases f with
   | next =>
    refine ea3_6 q ?_
    intro ρ₃ H₃ as₃ e₃ S₃ k₃ F₃ hl₃ q₃
    exact ⟨m,Nat.lt_succ_self m,as₃,H₃,ρ₃,ex2.transX kx2 (hown S2) e₃,S₃,kx2.trans ex2 k₃,F₃,hl₃,q₃⟩
   | ret xv =>
    refine ea3_5 q ?_
    intro v' H₃ as₃ e₃ S₃ k₃ hv₃ q₃
    exact ⟨v',H₃,as₃,ex2.transX kx2 (hown S2) e₃,S₃,kx2.trans ex2 k₃,hv₃,q₃⟩
   | _=>exact q.elim
  | false =>
   rw [if_neg (by decide)] at q2 ⊢
   exact wpAny_execs_nil ⟨ρ',H₂,as₂,ex2,S2,kx2,r2.F,hl,q2⟩
theorem stored_ne {kvs:List (Str × Value)} {k k':Str} {x y:Value} (h:k' ≠ k):stored ((k',x) :: kvs) k y = (k',x) :: stored kvs k y:=by
 unfold stored
 simp only [List.any_cons,h,decide_false,Bool.false_or,List.map_cons,if_false]
 split <;> rfl
theorem stored_eq {kvs:List (Str × Value)} {k:Str} {x y:Value} (h:k ∉ kvs.map (·.1)):stored ((k,x) :: kvs) k y = (k,y) :: kvs:=by
 unfold stored
 simp only [List.any_cons,decide_true,Bool.true_or,if_true,List.map_cons]
 congr 1
 conv=>rhs; rw [← List.map_id kvs]
 refine List.map_congr_left fun p hp=>?_
 have:p.1 ≠ k:=fun e=>h (e ▸ List.mem_map_of_mem hp)
 simp [this]
theorem stored_dput {k:List Char} {v:V} {y:Value} {h:HP} {as:Adr} {X:List Addr} (hv:VR c as X h v y) {ks:List (List Char)}:∀ {vs:List V} {cs:List Value},ks.length = cs.length→(ks.map toS).Nodup→VRs c as X h vs cs →
  ∃ cs',stored ((ks.map toS).zip cs) (toS k) y = ((dput k v ks vs).1.map toS).zip cs'∧(dput k v ks vs).1.length = cs'.length∧VRs c as X h (dput k v ks vs).2 cs'∧cs'.length ≤ cs.length + 1:=by
 induction ks with
 | nil =>
  intro vs cs hl _ r
  cases r with
  | nil=>exact ⟨[y],rfl,rfl,.cons hv .nil,Nat.le_refl _⟩
  | cons _ _=>cases hl
 | cons k' ks ih =>
  intro vs cs hl hn r
  cases r with
  | nil=>cases hl
  | @cons w vs x cs hx r =>
   have hn':=List.nodup_cons.mp hn
   have hl':=Nat.succ.inj hl
   clear hn hl
   by_cases hk:k = k'
   ·subst hk
    have ed:dput k v (k :: ks) (w :: vs) = (k :: ks,v :: vs):=if_pos rfl
    rw [ed]
    refine ⟨y :: cs,?_,congrArg Nat.succ hl',.cons hv r,Nat.le_succ _⟩
    show stored ((toS k,x) :: (ks.map toS).zip cs) (toS k) y = _
    refine stored_eq ?_
    rw [List.map_fst_zip (by rw [List.length_map,hl']; exact Nat.le_refl _)]
    exact hn'.1
   ·have ed:dput k v (k' :: ks) (w :: vs) = (k' :: (dput k v ks vs).1,w :: (dput k v ks vs).2):=if_neg hk
    rw [ed]
    refine ea1_4 (ih hl' hn'.2 r) ?_
    intro cs' e1 e2 e3 e4
    exact ⟨x :: cs',(stored_ne (fun e=>hk (toS_inj e).symm)).trans (congrArg _ e1),congrArg Nat.succ e2,.cons hx e3,Nat.succ_le_succ e4⟩
inductive SetI (x:V) (H H':AH):V→V→Prop
 | mk {r:Nat} {k:List Char} {ks:List (List Char)} {vs:List V}:H[r]? = some (.dict ks vs)→ks.length ≤ sizeOf'→H' = H.set r (.dict (dput k x ks vs).1 (dput k x ks vs).2)→SetI x H H' (.ref r) (.str k)
 | lst {r:Nat} {i:Int} {vs:List V}:H[r]? = some (.list vs)→0 ≤ i∧i < vs.length→H' = H.set r (.list (vs.set i.toNat x))→SetI x H H' (.ref r) (.int i)
theorem setItemV_some {o i x:V} {H H':AH} (e:setItemV o i x H = some H'):SetI x H H' o i:=by
 refine Is.of (R:=fun H'=>SetI x H H' o i) ?_ e
 clear e
 cases o with
 | ref r =>
  cases i with
  | str k =>
   have F:∀ {ob},ob = H[r]?→Is (setD r k x H ob) fun H'=>SetI x H H' (.ref r) (.str k):=fun {ob} e=>by
    cases ob with
    | none=>exact trivial
    | some ob =>
     cases ob with
     | dict ks vs=>exact Is.ite fun h=>.mk e.symm h rfl
     | _=>exact trivial
   exact F rfl
  | int k =>
   have F:∀ {ob},ob = H[r]?→Is (setL r k x H ob) fun H'=>SetI x H H' (.ref r) (.int k):=fun {ob} e=>by
    cases ob with
    | none=>exact trivial
    | some ob =>
     cases ob with
     | list vs=>exact Is.ite fun h=>.lst e.symm h rfl
     | _=>exact trivial
   exact F rfl
  | _=>exact trivial
 | _=>exact trivial
theorem p_setItem {A:Around} {E:Value→Shared→Prop} {s:Shared} {as:Adr} {X:List Addr} {H H':AH} {o i x:V} {co ci cx:Value} {R:Unit→Shared→Prop} (S:SR c as X H s) (ho:VR c as X s.heap o co) (hi:VR c as X s.heap i ci) (hx:VR c as X s.heap x cx) (e:setItemV o i x H = some H')
  (hR:∀ s',SR c as X H' s'→Kept as X s.heap s'.heap→R () s'):wpAny c.M A (setItem co ci cx) R E s:=by
 replace e:=setItemV_some e
 cases e with
 | @lst r i vs hob hz e =>
  subst e
  obtain ⟨a,ha,hb,items,hp,rr⟩:=ref_at S ho hob
  cases hi.inv with
  | int u =>
  have hl:=rr.len_arr
  refine setItem_plain hp hz.1 (Int.lt_trans hz.2 (bnd_le hb)) (hl.symm ▸ hz.2) fun h' hp' sb=>?_
  have hk:∀ b o,s.heap.get? b = some o→b ≠ a→h'.get? b = some o:=fun b o e hb=>(sb.2 b hb).trans e
  have K:=SR.kept1 (X:=X) ha hk
  refine hR _ (S.upd (s':={ s with heap:=h' }) (o':=.list _) ha hk rfl rfl ⟨(List.length_set).symm ▸ hb,_,hp',?_⟩) K
  rw [Array.toList_setIfInBounds]
  exact VRs.set _ (rr.keep K (.refl ..)) (hx.keep K (.refl ..))
 | @mk r k ks vs hob hz q_9 =>
  subst q_9
  replace ho:=ref_at S ho hob
  obtain ⟨a,ha,hb,hsm,cs,hd,hl,rr⟩:=ho
  cases hi
  have h1:=sizeOf'_le
  have h2:=sizeOf'_bnd
  have hn:(ks.map toS).Nodup:=by
   refine ea3_6 hd ?_
   intro _ _ _ _ _ _ _ _ hn
   rw [List.map_fst_zip (by simp [hl])] at hn
   exact hn
  refine wpAny_setItem_pairs (knd:=c.kd) (kd_is _ _) hd (fun h' hd' sb=>?_) (by simp only [List.length_zip,List.length_map]; lia)
  have hk:∀ b o,s.heap.get? b = some o→b ≠ a→h'.get? b = some o:=fun b o e hb=>(sb.2 b hb).trans e
  have K:=SR.kept1 (X:=X) ha hk
  refine ea1_4 (stored_dput (k:=k) (hx.keep K (.refl ..)) hl hn (rr.keep K (.refl ..))) ?_
  intro cs' e1 e2 e3 e4
  simp only [e1] at hd'
  have e5:=e3.length
  exact hR _ (S.upd (s':={ s with heap:=h',toks:=_ }) (o':=.dict _ _) ha hk rfl rfl ⟨by omega,hsm,cs',hd',e2,e3⟩) K
theorem s1_setI {o i v:Expr} {eo ei ev:Ex} {p' pos:Pos} (hc:isComp v = false) (h1:SE c n T v ev) (h2:SE c n T o eo) (h3:SE c n T i ei):S1 c n T (.Assign [.Subscript o i p'] v pos) (.setItem eo ei ev):=by
 refine ⟨?_⟩
 intro env A s as X H ρ K R XX r hY w
 rw [wpS_setItem] at w
 refine wpAny_Assign_Subscript (wpAny_mono (h1.run r w) (fun x s₁ q=>?_) fun _ _ e=>e.toS r.F) (by cases v <;> first | rfl | cases hc)
 obtain ⟨vx,H₁,as₁,e1,S1,k1,hvx,w1⟩:=q
 have r1:=r.next e1 k1 S1
 refine wpAny_mono (h2.run r1 w1) (fun y s₂ q=>?_) fun _ _ e=>(e.lift e1 k1).toS r.F
 obtain ⟨vo,H₂,as₂,e2,S2,k2,hvo,w2⟩:=q
 have r2:=r1.next e2 k2 S2
 refine wpAny_mono (h3.run r2 w2) (fun z s₃ q=>?_) fun _ _ e=>((e.lift e2 k2).lift e1 k1).toS r.F
 obtain ⟨vi,H₃,as₃,e3,S3,k3,hvi,w3⟩:=q
 have r3:=r2.next e3 k3 S3
 refine optE (o:=setItemV vo vi vx H₃) (fun hs=>?_) (fun H' hs=>?_)
 ·rw [hs] at w3; exact w3.elim
 ·skip
  rw [hs] at w3
  refine p_setItem S3 (hvo.keep k3 e3) hvi ((hvx.keep k2 e2).keep k3 e3) hs fun s' S' k'=>?_
  have E1:=e1.trans k1 e2
  have K1:=k1.trans e1 k2
  exact ⟨ρ,H',as₃,E1.trans K1 e3,S',((K1.trans E1 k3).trans (E1.trans K1 e3) k').y _,r3.F.keep k' (.refl ..),r.len,w3⟩
theorem inOrder2 {M:Model} {A:Around} {E:Value→Shared→Prop} {s:Shared} {f g:Value→Sem Unit} {a b:Value} {Q:Unit→Shared→Prop} (h:wpAny M A (f a) (fun _ s₁=>wpAny M A (g b) Q E s₁) E s):wpAny M A (assignInOrder [f,g] [a,b]) Q E s :=
 assignInOrder_cons (wpAny_mono h (fun _ _ h₁=>assignInOrder_cons (wpAny_mono h₁ (fun _ _ h₂=>assignInOrder_nil h₂) fun _ _ e=>e)) fun _ _ e=>e)
structure Tgt (c:Cx) (T:Tb) (t:Expr) (tg:Nat ⊕ List Nat):Prop where
 run:∀ {env:Env} {A:Around} {s:Shared} {as:Adr} {X:List Addr} {H:AH} {ρ ρ':Fm} {u:V} {z:Value} {E:Value→Shared→Prop} {Q:Unit→Shared→Prop},KOk T env→ρ.length = T.n→(∀ b ∈ own env,b ∈ X)→SR c as X H s→FR c as X s.heap env T.tab ρ→VR c as X s.heap u z →
  (u.tpl.isSome = true→A.handled = none)→setTgt ρ tg u = some ρ'→(∀ s',StepF c as X H env T.tab s.heap ρ' s'→ρ'.length = T.n→Q () s')→wpAny c.M A (assign t env z) Q E s
theorem tgt_name {x:Str} {i:Nat} {px:Pos} (hi:T.slot x = some i):Tgt c T (.Name x px) (.inl i) where
 run:=fun {env A s as X H ρ ρ' u z E Q} K hl _ S F hv _ e q=>by
  (replace e:=Option.some.inj e; subst e)
  refine ea0_3 (slot_of K hi) ?_
  intro h1 h2 h3
  exact wpAny_assign_Name (n_store S F h1 h2 (by simp only [hl]; exact h3) hv fun s' st=>q s' st (by exact (List.length_set).trans (hl)))
inductive Pair2 (c:Cx) (as:Adr) (X:List Addr) (h:HP) (ρ ρ':Fm) (i j:Nat):V→Value→Prop
 | mk {a:Addr} {ob:Obj} {n:Nat} {u v:V} {y z:Value}:ρ' = (ρ.set i (some u)).set j (some v)→h.get? a = some { cls:=.type "tuple",data:=.seq #[y,z] n }→VR c as X h u y→VR c as X h v z→Pair2 c as X h ρ ρ' i j (.tup [u,v]) (.ref a)
theorem pair2 {as:Adr} {X:List Addr} {h:HP} {ρ ρ':Fm} {i j:Nat} {u:V} {z:Value} (hv:VR c as X h u z) (e:setTgt ρ (.inr [i,j]) u = some ρ'):Pair2 c as X h ρ ρ' i j u z:=by
 cases u with
 | tup vs =>
  replace e:=ite_is e
  obtain ⟨hl,e⟩:=e
  match vs,hl with
  | [a,b],_ =>
   cases hv.inv with
   | @tup addr items nn t1 t2 t3 rr t5 =>
    obtain ⟨items⟩:=items
    cases rr with
    | cons ha rr =>
     cases rr with
     | cons hb rr =>
      cases rr
      exact .mk (ob:=default) e.symm t3 ha hb
 | _=>exact nos e
theorem tgt_pair {x y:Str} {i j kk:Nat} {px py pt:Pos} (hi:T.slot x = some i) (hj:T.slot y = some j):Tgt c T (.Tuple [.Name x px,.Name y py] kk pt) (.inr [i,j]) where
 run:=fun {env A s as X H ρ ρ' u z E Q} K hl hY S F hv hh e q=>by
  cases pair2 hv e with
  | @mk a _ n u v y z e1 t3 ha hb =>
   subst e1
   refine ea0_3 (slot_of K hi) ?_
   intro x1 x2 x3
   refine ea0_3 (slot_of K hj) ?_
   intro y1 y2 y3
   clear e hv hi hj
   refine assign_Tuple_tuple (hh rfl) ⟨_,t3,rfl,_,rfl⟩ rfl rfl fun h' eb=>?_
   have g:Grown s.heap h':=fun b o e=>eb b o (fun q=>by rw [q] at e; exact absurd (Heap.lt_size e) (Nat.lt_irrefl _)) e
   clear eb t3
   refine inOrder2 (wpAny_assign_Name (n_store (S.grow (s':={ s with heap:=h' }) g rfl rfl) (F.keep (g.kept as _) (.refl ..)) x1 x2 (by simp only [hl]; exact x3) (ha.grow g) fun s₂ st=>?_))
   obtain ⟨S2,k2,F2⟩:=st
   refine wpAny_assign_Name (n_store S2 F2 y1 y2 (by simp only [List.length_set,hl]; exact y3) ((hb.grow g).keepX (KeptX.v (Y:=own env) k2 hY) (.refl ..):VR c as X s₂.heap v z) fun s₃ st=>q s₃ ⟨st.1,?_,st.3⟩ (by simp only [List.length_set,List.length_set]; exact hl))
   exact (((g.kept as _).y _).trans (.refl ..) k2).trans (.refl ..) st.2
theorem s1_pair {x y:Str} {i j kk:Nat} {px py pt:Pos} {f:Expr} {args:List Expr} {kws:List Keyword} {p pos:Pos} {ex:Ex} (hi:T.slot x = some i) (hj:T.slot y = some j) (h:SE c n T (.Call f args kws p) ex) :
  S1 c n T (.Assign [.Tuple [.Name x px,.Name y py] kk pt] (.Call f args kws p) pos) (.asgTup [i,j] ex):=by
 refine ⟨?_⟩
 intro env A s as X H ρ K R XX r hY w
 simp only [wpS_asgTup] at w
 refine Assign_Tuple (wpAny_mono (h.run r w) (fun v s₁ q=>?_) fun _ _ e=>e.toS r.F)
 obtain ⟨vv,H₁,as₁,e1,S1,k1,hv,w1⟩:=q
 have r1:=r.next e1 k1 S1
 refine optE (o:=setTgt ρ (.inr [i,j]) vv) (fun ht=>?_) (fun ρ' ht=>?_)
 ·rw [ht] at w1; exact w1.elim
 ·skip
  rw [ht] at w1
  refine (tgt_pair hi hj).run r.K r.len hY.mem S1 r1.F hv (fun _=>r.a.hh) ht fun s₂ st hl=>?_
  obtain ⟨S2,k2,F2⟩:=st
  exact ⟨ρ',H₁,as₁,e1,S2,(k1.y _).trans e1 k2,F2,hl,w1⟩
theorem s1_setA {o v:Expr} {eo ev:Ex} {nm:List Char} {ms:List (Str × Nat)} {ats:List Str} {f:Nat} {p' pos:Pos} (K:CK c ms ats f) (hat:toS nm ∈ ats) (hc:isComp v = false) (h1:SE c n T v ev) (h2:SE c n T o eo):S1 c n T (.Assign [.Attribute o (toS nm) p'] v pos) (.setAttr eo nm ev):=by
 refine ⟨?_⟩
 intro env A s as X H ρ Kk R XX r hY w
 simp only [wpS_setAttr] at w
 refine plainObj_wpAny_Assign_Attribute (wpAny_mono (h1.run r w) (fun x s₁ q=>?_) fun _ _ e=>e.toS r.F) (by cases v <;> first | rfl | cases hc)
 obtain ⟨vx,H₁,as₁,e1,S1,k1,hvx,w1⟩:=q
 have r1:=r.next e1 k1 S1
 refine wpAny_mono (h2.run r1 w1) (fun y s₂ q=>?_) fun _ _ e=>(e.lift e1 k1).toS r.F
 obtain ⟨vo,H₂,as₂,e2,S2,k2,hvo,w2⟩:=q
 have r2:=r1.next e2 k2 S2
 refine optE (o:=setAttrV vo nm vx H₂) (fun hs=>?_) (fun H' hs=>?_)
 ·rw [hs] at w2; exact w2.elim
 ·skip
  rw [hs] at w2
  refine p_setAttr K hat S2 hvo (hvx.keep k2 e2) hs fun s' S' k'=>?_
  have E1:=e1.trans k1 e2
  have K1:=k1.trans e1 k2
  exact ⟨ρ,H',as₂,E1,S',(K1.trans E1 k').y _,r2.F.keep k' (.refl ..),r.len,w2⟩
end
end Mine
end
noncomputable section
namespace Mine
open PySem PySem.Calls PyProof.Rows
section
variable {c:Cx} {n:Nat} {T:Tb} {gl:List (Str × Gl)}
theorem swaps_comp {elt:Expr} {gens:List Comprehension} {scope:Scope} {pos px:Pos} {x:Str} {l:Nat} {env:Env}:∃ b,swapsWith (.ListComp elt gens scope pos) (some (.Name x px)) l env = pure b:=⟨_,rfl⟩
theorem swaps_no {e:Expr} {x:Str} {px:Pos} {l:Nat} {env:Env} (h:isComp e = false):swapsWith e (some (.Name x px)) l env = pure false:=by
 cases e <;> first | rfl | cases h
theorem asg_use {x y:Str} {j:Nat} {px py spos:Pos} {elt iter:Expr} {ifs:List Expr} {sc:Scope} {pos:Pos} {b i:Ex} {cond:Option Ex} {mu:Bool} {env:Env} {A:Around} {s:Shared} {as:Adr} {X:List Addr} {H:AH} {ρ:Fm} {K:KS} {R:QE} {XX:XE}
  (hj:T.slot y = some j) (ok:CompF T x sc) (hns:NSet iter) (hi:SE c n T iter i)
  (he:SE c n { T with names:=sc.names,tab:=(x,T.n) :: T.tab,n:=T.n + 1 } elt b)
  (hc:(ifs = []∧cond = none) ∨ ∃ t q,ifs = [t]∧cond = some q∧ST c n { T with names:=sc.names,tab:=(x,T.n) :: T.tab,n:=T.n + 1 } t q)
  (r:Rdy c T env A n s as X H ρ) (hY:Own A X env) (w:wpS c.P (callF c.P n) (.asg j (.comp mu b i cond)) ρ H K R XX)
  (hs:swapsWith (.ListComp elt [⟨.Name x px,iter,ifs,0⟩] sc pos) (some (.Name y py)) spos.line env = pure true) :
  wpAny c.M A (exec (.Assign [.Name y py] (.ListComp elt [⟨.Name x px,iter,ifs,0⟩] sc pos) spos) env) (ResS c as X s.heap T env K R) (EResS c as X s.heap env XX) s:=by
 refine ea0_3 (slot_of r.K hj) ?_
 intro h1 h2 h3
 simp only [wpS_asg] at w
 rw [exec_Assign_Name_used _ _ _ _ hs]
 refine wpAny_bind (wpAny_standAt (wpAny_bind ?_))
 refine wpAny_bind (wpAny_mono (use_comp (Qf:=fun _ s'=>ResS c as X s.heap T env K R .next s') ok hns hi he hc r w ?_) (fun _ s' hq=>wpAny_pure (wpAny_pure hq)) fun _ _ e=>e.toS r.F)
 intro D Ca s' fC cX bC hm q
 refine ea3_6 q ?_
 intro v H' as' e S k hv p_8 F
 obtain ⟨hl,q⟩:=p_8
 refine wpAny_assign_Name (n_store S F h1 h2 hl hv fun s'' st=>?_)
 obtain ⟨S2,k2,F2⟩:=st
 have hCown:Ca ∉ own env:=fun q=>cX (hY.mem _ q)
 have hCas:Ca ∉ as':=fun q=>by
  obtain ⟨i,hi⟩:=List.getElem?_of_mem q
  refine ea0_3 (S.objs i _ hi) ?_
  intro _ h2 _
  exact h2 (.head _)
 obtain ⟨m,hm⟩:=hm
 refine ⟨m,Ns.same hm fun o e=>k2 _ o e hCas hCown,fun h' hs'=>?_⟩
 have b':But [Ca] s''.heap h':=fun q o hq e=>(hs'.2 q (by exact ne1 (hq))).trans e
 refine ⟨_,H',as',e,S2.but (s':={ s'' with heap:=h' }) b' (by simpa using bC) (fun _ q=>.tail _ q) (fun a ha hz=>by replace hz:=in1 hz; (replace hz:=Eq.symm hz; subst hz); exact (cX ha).elim) rfl rfl,?_,?_,by rw [List.length_set]; exact r.len,q⟩
 ·exact ((((k.more fun _=>List.count_le_count_cons).y _).trans e k2).but b' (by exact all1 (fC))).less fun b hb=>(cnt1 hb).elim (fun q=>.inr (q ▸ fC)) .inl
 ·have aw:Away [Ca] env T.tab:=F2.away' (by exact hCown)
  exact (F2.keepY (b'.kept as' _) (by exact all1 (.head _)) aw).narrow (Z:=[Ca]) (fun b hb=>.tail _ hb) (fun b hb=>by
   cases hb with
   | head=>exact .inr (by exact .head _)
   | tail _ hb=>exact .inl hb) aw
structure Fl (c:Cx) (T:Tb) (env:Env) (as₀:Adr) (h₀:HP) (X:List Addr) (rev:Bool) (I:Addr) (v:V) (y:Value) (k:Nat) (s:Shared) (as:Adr) (H:AH) (ρ:Fm):Prop where
 S:SR c as (I :: X) H s
 F:FR c as (I :: X) s.heap env T.tab ρ
 hl:ρ.length = T.n
 hv:VR c as (I :: X) s.heap v y
 hi:ItD rev s.heap I v y k
 oi:I ∉ as
 E:Ext as₀ h₀ as
 K:KeptX as₀ (I :: X) (own env) h₀ s.heap
theorem SR.less {c:Cx} {as:Adr} {X:List Addr} {H:AH} {s:Shared} {I:Addr} (S:SR c as (I :: X) H s):SR c as X H s :=
 S.turn (fun b o e _ _=>e) S.stays (fun _ q=>.tail _ q) (fun b hb=>S.xs b (.tail _ hb)) rfl rfl
noncomputable def FI (c:Cx) (T:Tb) (env:Env) (as₀:Adr) (h₀:HP) (X:List Addr) (rev:Bool) (I:Addr) (v:V) (y:Value) (items:List V) (F:V→Fm→AH→KS→Prop) (K:KS) (m:Nat) (s:Shared):Prop :=
 ∃ k as H ρ,m = items.length - k∧k ≤ items.length∧Fl c T env as₀ h₀ X rev I v y k s as H ρ∧forL F (fun H'=>srcD rev H' v = some items) (items.drop k) ρ H K
theorem for_loop {te:Expr} {tg:Nat ⊕ List Nat} {rev:Bool} {body:List Stmt} {xs:List St} {env:Env} {A:Around} {X:List Addr} {items:List V} {K:KS} {R:QE} {I:Addr} {as₀:Adr} {h₀:HP} {v:V} {y:Value} {s:Shared} {as:Adr} {H:AH} {ρ:Fm} {RR:Result→Shared→Prop} {Kn:KOk T env} {F:V→Fm→AH→KS→Prop}
  (ht:Tgt c T te tg) (hb:SB c n T body xs) (a:AOk c A n) (fr:EnvFr c A X as₀ h₀ env) (hY:Own A X env) (bI:c.base.get? I = none) (fI:Fr as₀ h₀ I) (iX:I ∉ X)
  (L:Fl c T env as₀ h₀ X rev I v y 0 s as H ρ) (w:forL F (fun H'=>srcD rev H' v = some items) items ρ H K)
  (hF:∀ {x ρ' H'} {K':KS},F x ρ' H' K'→match setTgt ρ' tg x with | some ρ''=>wpSs c.P (callF c.P n) xs ρ'' H' K' R (fun _ _=>False) | none=>False)
  (hR:∀ f s',ResS c as₀ X h₀ T env K R f s'→RR (.ok f) s') :
  codeAny c.M A (.forLoop te (.ref I) body [] env) RR s:=by
 have iO:I ∉ own env:=fun q=>iX (hY.mem _ q)
 have lessI:∀ b,2 ≤ (I :: X).count b→2 ≤ X.count b ∨ Fr as₀ h₀ b:=cn1 (.inr fI) fun _=>.inl
 refine codeAny_forLoop_any (FI c T env as₀ h₀ X rev I v y items F K) (fun m s h0=>?_) (items.length - 0) ⟨0,as,H,ρ,rfl,Nat.zero_le _,L,w⟩
 clear L w
 refine ea4_4 h0 fun k as H ρ q_0 hk L w=>?_
 clear h0
 subst q_0
 have aw:Away [I] env T.tab:=L.F.away' iO
 refine optE (o:=items[k]?) (fun hx=>?_) fun u hx=>?_
 ·have hkl:items.length = k:=Nat.le_antisymm (List.getElem?_eq_none_iff.mp hx) hk
  replace w:=(List.drop_eq_nil_of_le (Nat.le_of_eq hkl)) ▸ w
  exact id_done a.hh L.S (.head _) L.hv L.hi w.1 hkl fun h' tk b=>wpAny_execs_nil (hR _ _ ⟨ρ,H,as,L.E,L.S.but (s':={ s with heap:=h',toks:=tk }) b (all1 ⟨.head _,bI⟩) (fun _ q=>.tail _ q) (fun a ha hz=>absurd (in1 hz ▸ ha) iX) rfl rfl,(L.K.but b (all1 fI)).less lessI,(L.F.keepY (b.kept as _) (all1 (.head _)) aw).narrow (Z:=[I]) (fun b hb=>.tail _ hb) (fm1 (.inr (.head _)) fun b hb=>.inl hb) aw,L.hl,w.2⟩)
 ·have hlt:=(List.getElem?_eq_some_iff.mp hx).1
  rw [drop_cons hx] at w
  refine id_next a.hh L.S (.head _) bI L.hv L.hi w.1 hx fun z h₁ tk₁ b₁ hu₁ hv₁ hi₁ S₁=>?_
  refine let_go hi₁.cls ?_
  have F₁:=L.F.keepY (b₁.kept as _) (all1 (.head _)) aw
  have K₁:=L.K.but b₁ (all1 fI)
  have w2:=hF w.2
  refine optE (o:=setTgt ρ tg u) (fun hst=>?_) (fun ρ₂ hst=>?_)
  ·rw [hst] at w2; exact w2.elim
  ·skip
   rw [hst] at w2
   refine ht.run Kn L.hl (fun b hb=>.tail _ (hY.mem b hb)) S₁ F₁ hu₁ (fun _=>a.hh) hst fun s₂ st hl₂=>?_
   obtain ⟨S₂,k₂,F₂⟩:=st
   have K₂:KeptX as₀ (I :: X) (own env) h₀ s₂.heap:=K₁.trans L.E k₂
   refine wpAny_mono (hb.run ⟨a,S₂,F₂,Kn,hl₂,(fr.step hY L.E (K₂.less lessI) (F₂.ns.imp fun _ h=>h.1) F₂.lout).grow (.refl _) fun b=>List.count_le_count_cons⟩ hY.more w2) (fun f s₃ q=>?_) fun _ _ e=>e.none.elim
   have hI₂:ItD rev s₂.heap I v y (k + 1):=hi₁.at fun o e hc=>k₂.get e L.oi iO hc
   have hown₂:∀ b ∈ own env,∃ o,s₂.heap.get? b = some o:=fun b hb=>S₂.xs b (.tail _ (hY.mem b hb))
   cases f with
   | next=>exact ea3_6 q fun ρ₃ H₃ as₃ e₃ S₃ k₃ F₃ hl₃ q₃=>⟨items.length - (k + 1),Nat.sub_lt_sub_left hlt (Nat.lt_succ_self k),k + 1,as₃,H₃,ρ₃,rfl,hlt,⟨S₃,F₃,hl₃,(hv₁.keepX (KeptX.v (Y:=own env) k₂ fun b hb=>.tail _ (hY.mem b hb)) (.refl ..)).keepX (k₃.v fun b hb=>.tail _ (hY.mem b hb)) e₃,hI₂.at fun o e hc=>k₃.get e L.oi iO hc,ea1_2 hI₂.here fun o e _=>e₃.out e L.oi,L.E.transX K₂ hown₂ e₃,K₂.trans L.E k₃⟩,q₃⟩
   | ret xv=>exact ea3_5 q fun v' H₃ as₃ e₃ S₃ k₃ hv₃ q₃=>hR _ _ ⟨v',H₃,as₃,L.E.transX K₂ hown₂ e₃,S₃.less,(K₂.trans L.E k₃).less lessI,hv₃.frames fun b _ _ hb q=>hb (.tail _ q),q₃⟩
   | _=>exact q.elim
theorem for_tail {te:Expr} {tg:Nat ⊕ List Nat} {rev:Bool} {body:List Stmt} {xs:List St} {env:Env} {A:Around} {X:List Addr} {items:List V} {K:KS} {R:QE} {v:V} {y:Value} {s s₁:Shared} {as as₁:Adr} {H H₁:AH} {ρ:Fm} {o:Obj} {tk:Nat} {F:V→Fm→AH→KS→Prop}
  (ht:Tgt c T te tg) (hb:SB c n T body xs) (r:Rdy c T env A n s as X H ρ) (hY:Own A X env) (e1:Ext as s.heap as₁) (S1:SR c as₁ X H₁ s₁) (k1:Kept as X s.heap s₁.heap) (hv:VR c as₁ X s₁.heap v y)
  (hit:ItD rev (s₁.heap.push o) s₁.heap.objs.size v y 0) (w:forL F (fun H'=>srcD rev H' v = some items) items ρ H₁ K)
  (hF:∀ {x ρ' H'} {K':KS},F x ρ' H' K'→match setTgt ρ' tg x with | some ρ''=>wpSs c.P (callF c.P n) xs ρ'' H' K' R (fun _ _=>False) | none=>False) {RR:Result→Shared→Prop} (hR:∀ f s',ResS c as X s.heap T env K R f s'→RR (.ok f) s') :
  codeAny c.M A (.forLoop te (.ref s₁.heap.objs.size) body [] env) RR { s₁ with heap:=s₁.heap.push o,toks:=tk }:=by
 have hfI:s₁.heap.get? s₁.heap.objs.size = none:=get_fresh _
 generalize s₁.heap.objs.size = I at hit hfI ⊢
 have g:Grown s₁.heap (s₁.heap.push o):=.push _ _
 have hX':∀ b ∈ I :: X,b ∈ X ∨ s₁.heap.get? b = none:=fm1 (.inr hfI) fun _ hb=>.inl hb
 exact for_loop (Kn:=r.K) ht hb r.a r.fr hY (S1.base_none hfI) (k1.fr hfI) (S1.not_x hfI) (as₀:=as) (h₀:=s.heap) ⟨S1.opens (s':={ s₁ with heap:=s₁.heap.push o,toks:=tk }) g hX' (fm1 (hit.here.imp fun _ e=>e.1) fun b hb=>(S1.xs b hb).imp fun _ e=>g _ _ e) rfl rfl,(r.F.keep k1 e1).opens g (fun b hb=>.tail _ hb) hX',r.len,hv.opens g hX',hit,S1.not_as hfI,e1,((k1.trans e1 (g.kept as₁ _)).more fun _=>List.count_le_count_cons).y _⟩ w hF hR
theorem s1_for {te:Expr} {tg:Nat ⊕ List Nat} {pos:Pos} {iter:Expr} {ex:Ex} {body:List Stmt} {xs:List St} (ht:Tgt c T te tg) (hns:NSet iter) (h:SE c n T iter ex) (hb:SB c n T body xs) :
  S1 c n T (.For te iter body [] pos) (.forIn false tg ex xs):=by
 refine ⟨?_⟩
 intro env A s as X H ρ K R XX r hY w
 simp only [wpS_forIn] at w
 refine wpAny_For (wpAny_mono (h.run r w) (fun y s₁ q=>?_) fun _ _ e=>e.toS r.F) (folded_ns hns env)
 obtain ⟨v,H₁,as₁,e1,S1,k1,hv,items,hsrc,hsz,w⟩:=q
 exact it_start S1 hv hsrc fun o hit=>for_tail (rev:=false) (tk:=s₁.toks) ht hb r hY e1 S1 k1 hv hit w (fun h=>h) fun f s' q=>q
theorem wpEs_one {P:Prog} {C:Calls} {e:Ex} {ρ:Fm} {H:AH} {W:QE} {X:XE}:wpEs P C [e] ρ H (fun vs H'=>W (vs.headD .none) H') X = wpE P C e ρ H W X:=rfl
theorem s1_forRev {te:Expr} {tg:Nat ⊕ List Nat} {p p' pos:Pos} {g:Str} {e:Expr} {ex:Ex} {body:List Stmt} {xs:List St} (C:Cok c T.gl) (hg:T.glob g = some (.ty "reversed")) (ht:Tgt c T te tg) (h:SEs c n T [e] [ex]) (hb:SB c n T body xs) :
  S1 c n T (.For te (.Call (.Name g p) [e] [] p') body [] pos) (.forIn true tg ex xs):=by
 refine ⟨?_⟩
 intro env A s as X H ρ K R XX r hY w
 simp only [wpS_forIn] at w
 have e1:=C.gl g _ (ge_of hg).2.1
 refine wpAny_For (wpAny_Call_Name_kw (n_glob C hg r (.inr e1) ?_)) (fun _=>rfl)
 rw [← wpEs_one] at w
 refine PySem.callWith_type (no_star h) (wpAny_mono (se_evalArgs h r w) (fun a s₁ q=>?_) fun _ _ e=>e.toS r.F)
 obtain ⟨hk,vs,H₁,as₁,e1,S1,k1,hvs,hl,items,hsrc,hsz,w⟩:=q
 simp only [hk]
 refine ea2_3 (len1 hvs hl) ?_
 intro v y e2 hy hv
 subst e2
 rw [hy]
 exact rv_start hv hsrc fun o tk hit=>rv_it (s:={ s₁ with heap:=s₁.heap.push o,toks:=tk }) hit (for_tail ht hb r hY e1 S1 k1 hv hit w (fun h=>h) fun f s' q=>q)
theorem ss_fz {st:Stmt} {x:St} {l:Nat} (h:S1 c n T st x):SS c n T st (withFz T l x):=by
 refine ⟨?_⟩
 intro env A s as X H ρ K R XX r hY w
 exact wpAny_mono (h.run r hY w) (fun _ _ q=>q) fun _ _ e=>e
theorem swaps_ok (C:Cok c gl) (sc:SC c n) (hf:∀ x f,gl.lookup x = some (.fn f)→∃ fn,c.P.fns f = some fn) {k:Nat} {x:Str} {px pos:Pos} {i:Nat} (hg:T.gl = gl) (h1:T.slot x = some i) (v:Expr) :
  Is (cE k T v) fun e=>S1 c n T (.Assign [.Name x px] v pos) (.asg i e):=by
 have he:=cE_ok C sc hf k hg v
 have F:isComp v = false→Is (cE k T v) fun e=>S1 c n T (.Assign [.Name x px] v pos) (.asg i e):=fun hc=>he.imp fun _ h=>⟨fun r hY w=>s1_asg h1 h.se r hY w (swaps_no hc)⟩
 cases v with
 | ListComp elt gens scope pos' =>
  refine Is.to fun ex h=>⟨fun {env} {A s as X H ρ K R XX} r hY w=>?_⟩
  obtain ⟨b,hb⟩:=swaps_comp (elt:=elt) (gens:=gens) (scope:=scope) (pos:=pos') (px:=px) (x:=x) (l:=pos.line) (env:=env)
  cases b with
  | false=>exact s1_asg h1 (he.of h).se r hY w hb
  | true =>
   cases k with
   | zero=>exact nos h
   | succ k =>
    cases (comp_ok fun a=>cE_ok C sc hf k (a.trans hg)).of h with
    | mk ok hns hi he' hc=>exact asg_use h1 ok hns hi he' hc r hY w hb
 | SetComp elt gens scope pos'=>cases k <;> exact trivial
 | DictComp elt elt' gens scope pos'=>cases k <;> exact trivial
 | _=>exact F rfl
theorem flatO_i {o:Option (List (List St))} {R:List (List St)→Prop} {S:List St→Prop} (h:Is o R) (k:∀ l,R l→S l.flatten):Is (flatO o) S:=by
 cases o with
 | none=>exact trivial
 | some l=>exact k l h
inductive Tgt2R (T:Tb):List Expr→List Nat→Prop
 | mk {x y:Str} {px py:Pos} {i j:Nat}:T.slot x = some i→T.slot y = some j→Tgt2R T [.Name x px,.Name y py] [i,j]
theorem cTgt2_i (T:Tb) (es:List Expr):Is (twoL (cTgt2 T) es) (Tgt2R T es):=by
 rcases es with _ | ⟨a,_ | ⟨b,_ | _⟩⟩
 ·exact trivial
 ·exact trivial
 ·refine (nmE_i a).bind fun x h1=>(nmE_i b).bind fun y h2=>Is.self.bind fun i h3=>Is.self.map fun j h4=>?_
  obtain ⟨_,rfl⟩:=h1
  obtain ⟨_,rfl⟩:=h2
  exact .mk h3 h4
 ·exact trivial
theorem cTgt_ok (t:Expr):Is (cTgt T t) (Tgt c T t):=by
 cases t with
 | Name x p=>exact Is.self.map fun _ h1=>tgt_name h1
 | Tuple es k p=>exact (cTgt2_i T es).map fun _ h=>by cases h with | mk h3 h4=>exact tgt_pair h3 h4
 | _=>exact trivial
theorem isRev_is {f:Expr} (h:isRev T f = true):∃ g p,f = .Name g p∧T.glob g = some (.ty "reversed"):=by
 have k:Is (nmE f) fun x=>(T.glob x).any (fun g=>tyGl g == some "reversed") = true→∃ g p,f = .Name g p∧T.glob g = some (.ty "reversed"):=(nmE_i f).imp fun x e=>e.elim fun p e q=>by
  refine ⟨x,p,e,?_⟩
  cases h2:T.glob x with
  | none=>rw [h2] at q; exact nomatch q
  | some g=>rw [h2] at q; exact congrArg _ ((tyGl_i g).of (eq_of_beq q))
 unfold isRev at h
 refine optE (o:=nmE f) (fun h1=>?_) (fun x h1=>?_)
 ·rw [h1] at h; exact nomatch h
 ·rw [h1] at h; exact k.of h1 h
theorem for_ok {r:Expr→Option Ex} {t:Expr} {tg:Nat ⊕ List Nat} {body:List Stmt} {xs:List St} {pos:Pos} (C:Cok c T.gl) (ihe:EI c n T r) (ht:Tgt c T t tg) (hb:SB c n T body xs) (it:Expr) :
  Is (cIt r T it) fun q=>S1 c n T (.For t it body [] pos) (.forIn q.1 tg q.2 xs):=by
 have F:∀ e,Is ((r e).map fun x=>(false,x)) fun q=>S1 c n T (.For t e body [] pos) (.forIn q.1 tg q.2 xs):=fun e=>(ihe e).map fun _ h=>s1_for ht h.nset h.se hb
 cases it with
 | Call f args kws p =>
  refine Is.ite2 (fun hr=>?_) fun _=>F _
  cases kws with
  | cons _ _=>exact trivial
  | nil =>
   rcases args with _ | ⟨e,_ | _⟩
   ·exact trivial
   ·refine (ihe e).map fun _ h=>?_
    obtain ⟨g,p',rfl,hg⟩:=isRev_is hr
    exact s1_forRev C hg ht (.cons ⟨h.se,h.ns⟩ .nil) hb
   ·exact trivial
 | _=>exact F _
theorem pair_ok {r:Expr→Option Ex} {kk:Nat} {pt pos:Pos} (ihe:EI c n T r) (es:List Expr) (v:Expr):Is (cPair r T es v) (S1 c n T (.Assign [.Tuple es kk pt] v pos)):=by
 cases v with
 | Call f a k p=>exact (cTgt2_i T es).bind fun _ h1=>(ihe _).map fun _ h5=>by cases h1 with | mk h3 h4=>exact s1_pair h3 h4 h5.se
 | _=>exact trivial
theorem asg_ok (C:Cok c gl) (sc:SC c n) (hf:∀ x f,gl.lookup x = some (.fn f)→∃ fn,c.P.fns f = some fn) {k:Nat} {pos:Pos} (hg:T.gl = gl) (t v:Expr):Is (cAsg (cE k T) T t v pos.line) (SS c n T (.Assign [t] v pos)):=by
 have ihe:=cE_ok C sc hf k hg
 cases t with
 | Name x px=>exact Is.self.bind fun _ h1=>(swaps_ok C sc hf hg h1 v).map fun _ h=>ss_fz h
 | Tuple es kk pt=>exact (pair_ok ihe es v).map fun _ h=>ss_fz h
 | Subscript o i pp=>exact Is.nite fun hc=>(ihe v).bind fun _ h1=>(ihe o).bind fun _ h2=>(ihe i).map fun _ h3=>ss_fz (s1_setI hc h1.se h2.se h3.se)
 | Attribute o name pp =>
  subst hg
  exact Is.nite fun hc=>(ihe v).bind fun _ h2=>(cAttr_is ihe o name).map fun _ h=>by cases h with | mk hx hat hok h1=>exact ss_fz (s1_setA (C.cl _ _ _ _ hx) hat hc h2.se h1.se)
 | _=>exact trivial
inductive RzR (T:Tb):Option Expr→Option Expr→Nat→Prop
 | mk {x m:Str} {p mp cp:Pos} {kk j:Nat}:T.glob x = some (.exc j)→RzR T (some (.Call (.Name x p) [.Constant (.str m) kk mp] [] cp)) none j
theorem cRz_i (e cause:Option Expr):Is (cRaise T e cause) (RzR T e cause):=by
 cases cause with
 | some _=>exact trivial
 | none =>
  cases e with
  | none=>exact trivial
  | some e =>
   cases e with
   | Call f args kws cp =>
    cases kws with
    | cons _ _=>exact trivial
    | nil =>
     rcases args with _ | ⟨a,_ | _⟩
     ·exact trivial
     ·refine (strC_i a).bind fun m h1=>(nmE_i f).bind fun x h2=>Is.self.bind fun g h3=>(excGl_i g).imp fun _ h4=>?_
      obtain ⟨_,_,rfl⟩:=h1
      obtain ⟨_,rfl⟩:=h2
      subst h4
      exact .mk h3
     ·exact trivial
   | _=>exact trivial
theorem try_ok (C:Cok c T.gl) {body:List Stmt} {bs:List St} {pos:Pos} (hb:SB c n T body bs) (hd:ExceptHandler) :
  Is (cHd T hd) fun j=>S1 c n T (.Try body [hd] [] [] pos) (.try_ bs j):=by
 obtain ⟨t,nm,b,p⟩:=hd
 cases nm with
 | some _=>exact trivial
 | none =>
  cases t with
  | none=>exact trivial
  | some t =>
   refine (nmE_i t).bind fun x h1=>Is.self.bind fun g h2=>(excGl_i g).bind fun j h3=>(retN_i b).map fun _ h=>?_
   obtain ⟨_,rfl⟩:=h1
   obtain ⟨k,p',p'',rfl⟩:=h
   subst h3
   exact s1_try C h2 hb
theorem cS_ok (k:Nat):∀ {c:Cx},Cok c gl→SC c n→(∀ x f,gl.lookup x = some (.fn f)→∃ fn,c.P.fns f = some fn)→∀ {T:Tb},T.gl = gl→∀ st,Is (cS k T st) (SS c n T st):=by
 induction k with
 | zero=>exact fun _ _ _ _ _ _=>trivial
 | succ k ih =>
  intro c C sc hf T hg st
  have ihb:∀ b:List Stmt,Is (flatO (mapO (cS k T) b)) (SB c n T b):=fun b=>flatO_i (mapO_Is (ih C sc hf hg) b) fun _ q=>sb_of q
  have ihe:=cE_ok C sc hf k hg
  clear ih
  cases st with
  | Assign ts v pos =>
   rcases ts with _ | ⟨t,_ | _⟩
   ·exact trivial
   ·exact asg_ok C sc hf hg t v
   ·exact trivial
  | While t body els pos =>
   cases els with
   | nil=>exact (ihe t).bind fun _ h1=>(ihb body).map fun _ h2=>ss_fz (s1_while h1.st h2)
   | cons _ _=>exact trivial
  | Expr v pos=>exact Is.nite fun hc=>(ihe v).map fun _ h1=>ss_fz (s1_expr hc h1.se)
  | If t a b pos=>exact (ihe t).bind fun _ h1=>(ihb a).bind fun _ h2=>(ihb b).map fun _ h3=>ss_fz (s1_if h1.st h2 h3)
  | For t it body els pos =>
   cases els with
   | nil=>exact (cTgt_ok t).bind fun tg h1=>Is.self.bind fun q h2=>(ihb body).map fun xs h3=>ss_fz ((for_ok (hg ▸ C) ihe h1 h3 it).of h2)
   | cons _ _=>exact trivial
  | Return v p =>
   cases v with
   | some e=>exact (ihe e).map fun _ h1=>ss_ret h1.se
   | none=>exact ss_ret0
  | Pass p=>exact ss_pass
  | Raise a b p=>exact (cRz_i a b).map fun _ h=>by cases h with | mk hx=>exact ⟨fun r hY w=>(s1_raise (hg ▸ C) hx).run r hY w⟩
  | Try body hs els fin pos =>
   cases els with
   | cons _ _=>exact trivial
   | nil =>
    cases fin with
    | cons _ _=>exact trivial
    | nil =>
     rcases hs with _ | ⟨hd,_ | _⟩
     ·exact trivial
     ·exact (ihb body).bind fun _ h1=>(try_ok (hg ▸ C) h1 hd).map fun _ h2=>ss_fz h2
     ·exact trivial
  | _=>exact trivial
theorem cSs_ok (C:Cok c gl) (sc:SC c n) (hf:∀ x f,gl.lookup x = some (.fn f)→∃ fn,c.P.fns f = some fn) {k:Nat} {T:Tb} {b:List Stmt} {sts:List St} (hg:T.gl = gl) (h:cSs k T b = some sts):SB c n T b sts :=
 (flatO_i (mapO_Is (cS_ok k C sc hf hg) b) fun _ q=>sb_of q).of h
end
end Mine
end
noncomputable section
namespace Mine
open PySem PySem.Calls PyProof.Rows
theorem call_cellsM {prog:Program} {w:World} {A:Around} {R:Result→Shared→Prop} {s:Shared} {name qual:Str} {params:Arguments} {body:List Stmt} {scope:Scope}
  {pm cd doc:Value} {a:Addr} {o:Obj} {args:List Value} {binds:List (Str × Value)}
  (hroom:A.depth < recursionLimit) (ho:s.heap.get? a = some o) (hdata:o.data = .func (methDef name qual params body scope pm cd doc)) (hlim:s.heap.NoLimit) (hcd:s.heap.CodeRec cd qual)
  (hbind:bindArgs (methDef name qual params body scope pm cd doc) ⟨args,[]⟩ = pure binds)
  (hkind:∀ x ∈ binds,scope.names.lookup x.1 = some .local ∨ (scope.names.lookup x.1 = some .cell∧((cellsFrom (s.heap.objs.size + 1) scope.names []).lookup x.1).isSome = true))
  (h:∀ h₁ tk,PyProof.Rows.Fr s.heap s.heap.objs.size h₁ (bindL (envOfC qual scope s.heap.objs.size a cd).kindOf binds fun _=>none) →
   Cl s.heap.objs.size (cellsFrom (s.heap.objs.size + 1) scope.names []) h₁ (bindC (envOfC qual scope s.heap.objs.size a cd).kindOf binds fun _=>none) →
   wpAny (model prog w) (A.deeper (envOfC qual scope s.heap.objs.size a cd)) (execs body (envOfC qual scope s.heap.objs.size a cd))
    (fun f s'=>R (.ok (.ret (match f with | .ret v=>v | _=>.none))) s')
    (fun e s'=>wpAny (model prog w) (A.deeper (envOfC qual scope s.heap.objs.size a cd)) (leaving (envOfC qual scope s.heap.objs.size a cd) e)
     (fun _ s''=>R (.error e) s'') (fun e' s''=>R (.error e') s'') s')
    { s with heap:=h₁,toks:=tk })
  (hco:scope.isCoroutine = false) (hgen:scope.isGenerator = false) (hk:scope.kind = .function) :
  codeAny (model prog w) A (.call (.ref a) ⟨args,[]⟩) R s:=by
 refine codeAny_call_cells (fd:=methDef name qual params body scope pm cd doc) hroom ho hdata hlim hcd rfl hbind rfl hkind (fun s₁ X=>?_) hco hgen hk
 refine ea2_2 X.done ?_
 intro h₁ tk q_3 _
 subst q_3
 exact h h₁ tk ⟨X.toInCall.ns,X.toInCall.keep,X.toInCall.fresh⟩ ⟨X.cell,X.apart,X.above⟩
set_option genInjectivity false in
structure FOk (c:Cx) (gl:List (Str × Gl)) (f:Nat) (fn:Fn) where
 name:Str
 qual:Str
 params:Arguments
 body:List Stmt
 scope:Scope
 pm:Value
 cd:Value
 doc:Value
 ps:List Str
 T:Tb
 k:Nat
 data:c.fdat f = methDef name qual params body scope pm cd doc
 code:c.base.CodeRec cd qual
 hgl:T.gl = gl
 names:T.names = scope.names
 hn:T.n = fn.arity + fn.extra
 hc:cSs k T body = some fn.body
 bind:∀ xs:List Value,xs.length = fn.arity→bindArgs (methDef name qual params body scope pm cd doc) ⟨xs,[]⟩ = pure (ps.zip xs)
 psl:ps.length = fn.arity
 psn:ps.Nodup
 psk:∀ x ∈ ps,scope.names.lookup x = some .local ∨ scope.names.lookup x = some .cell
 tabn:(T.tab.map (·.2)).Nodup
 tabp:∀ x i,T.tab.lookup x = some i→i < fn.arity→ps[i]? = some x
 keys:(scope.names.map (·.1)).Nodup
 nofree:∀ p ∈ scope.names,p.2 ≠ .free
 kind:scope.kind = .function
 co:scope.isCoroutine = false
 gen:scope.isGenerator = false
theorem cells_keys (names:List (Str × NameKind)):∀ (n:Nat) (acc:List (Str × Addr)),((cellsFrom n names acc).map (·.1)).Perm (((names.filter (fun p=>p.2 == .cell)).map (·.1)) ++ acc.map (·.1)):=by
 induction names with
 | nil=>exact fun _ _=>.refl _
 | cons p r ih =>
  intro n acc
  obtain ⟨x,k⟩:=p
  dsimp only [cellsFrom]
  by_cases hk:(k == NameKind.cell) = true
  ·rw [if_pos hk,List.filter_cons_of_pos (p:=fun p:Str × NameKind=>p.2 == NameKind.cell) hk]
   exact (ih (n + 1) ((x,n) :: acc)).trans List.perm_middle
  ·rw [if_neg hk,List.filter_cons_of_neg (p:=fun p:Str × NameKind=>p.2 == NameKind.cell) hk]
   exact ih n acc
theorem cells_some (names:List (Str × NameKind)):∀ (n:Nat) (acc:List (Str × Addr)) (x:Str),((x,NameKind.cell) ∈ names ∨ (∃ a,acc.lookup x = some a))→∃ a,(cellsFrom n names acc).lookup x = some a:=by
 induction names with
 | nil=>exact fun _ _ _ h=>h.elim (fun h=>nomatch h) id
 | cons p r ih =>
  intro n acc x h
  obtain ⟨y,k⟩:=p
  dsimp only [cellsFrom]
  by_cases hk:(k == NameKind.cell) = true
  ·rw [if_pos hk]
   refine ih _ _ _ ?_
   by_cases hxy:x = y
   ·exact .inr ⟨n,by rw [List.lookup_cons,beq_iff_eq.mpr hxy]⟩
   ·exact h.imp (fun h=>memE h (fun e=>absurd (congrArg Prod.fst e) hxy) id) fun h=>h.imp fun a h=>by simp only [List.lookup_cons,beq_eq_false_iff_ne.mpr hxy]; exact h
  ·rw [if_neg hk]
   exact ih _ _ _ (h.imp (fun h=>memE h (fun e=>absurd (beq_iff_eq.mpr (congrArg Prod.snd e).symm) hk) id) id)
theorem lookup_of_mem {α β:Type} [BEq α] [LawfulBEq α] {l:List (α × β)} (hn:(l.map (·.1)).Nodup) {p:α × β} (h:p ∈ l):l.lookup p.1 = some p.2:=by
 induction l with
 | nil=>exact nomatch h
 | cons q r ih =>
  have hn:=List.nodup_cons.mp hn
  rw [List.lookup_cons]
  refine memE h (fun e=>?_) fun h=>?_
  ·rw [e,BEq.rfl]
  ·rw [beq_eq_false_iff_ne.mpr fun e:p.1 = q.1=>hn.1 (List.mem_map.mpr ⟨p,h,e⟩)]
   exact ih hn.2 h
theorem inj_snd {α:Type} {l:List (α × Nat)} (hn:(l.map (·.2)).Nodup) {x y:α} {i:Nat} (h1:(x,i) ∈ l) (h2:(y,i) ∈ l):x = y:=by
 induction l with
 | nil=>exact nomatch h1
 | cons q r ih =>
  have hn:=List.nodup_cons.mp hn
  refine memE h1 (fun e1=>?_) fun h1=>?_
  ·exact memE h2 (fun e2=>congrArg Prod.fst (e1.trans e2.symm)) fun h2=>absurd (List.mem_map.mpr ⟨_,h2,(congrArg Prod.snd e1:i = q.2)⟩) hn.1
  ·exact memE h2 (fun e2=>absurd (List.mem_map.mpr ⟨_,h1,(congrArg Prod.snd e2:i = q.2)⟩) hn.1) fun h2=>ih hn.2 h1 h2
section
variable {kindOf:Str→Option NameKind} {ps:List Str} {x:Str}
theorem bindL_other (h:x ∉ ps):∀ {xs:List Value} {m:Str→Option Value},bindL kindOf (ps.zip xs) m x = m x:=by
 induction ps with
 | nil=>exact rfl
 | cons p ps ih =>
  intro xs m
  cases xs with
  | nil=>exact rfl
  | cons y xs =>
   refine (ih (fun e=>h (.tail _ e))).trans ?_
   by_cases hk:kindOf p = some .local
   ·rw [if_pos hk]; exact if_neg fun e:x = p=>h (e ▸ .head _)
   ·rw [if_neg hk]
theorem bindL_at (hn:ps.Nodup):∀ {xs:List Value} {m:Str→Option Value} {i:Nat} {y:Value},ps[i]? = some x→xs[i]? = some y→kindOf x = some .local→bindL kindOf (ps.zip xs) m x = some y:=by
 induction ps with
 | nil=>exact fun h=>nos h
 | cons p ps ih =>
  have hn:=List.nodup_cons.mp hn
  intro xs m i y h1 h2 hk
  cases xs with
  | nil=>exact nos h2
  | cons z xs =>
   cases i with
   | zero =>
    (replace h1:=Option.some.inj h1; subst h1)
    (replace h2:=Option.some.inj h2; subst h2)
    refine (bindL_other hn.1).trans ?_
    rw [if_pos hk]
    exact if_pos rfl
   | succ i=>exact ih hn.2 h1 h2 hk
theorem bindC_other (h:x ∉ ps):∀ {xs:List Value} {m:Str→Option Value},bindC kindOf (ps.zip xs) m x = m x:=by
 induction ps with
 | nil=>exact rfl
 | cons p ps ih =>
  intro xs m
  cases xs with
  | nil=>exact rfl
  | cons y xs =>
   refine (ih (fun e=>h (.tail _ e))).trans ?_
   by_cases hk:kindOf p = some .local
   ·rw [if_pos hk]
   ·rw [if_neg hk]; exact if_neg fun e:x = p=>h (e ▸ .head _)
theorem bindC_at (hn:ps.Nodup):∀ {xs:List Value} {m:Str→Option Value} {i:Nat} {y:Value},ps[i]? = some x→xs[i]? = some y→kindOf x ≠ some .local→bindC kindOf (ps.zip xs) m x = some y:=by
 induction ps with
 | nil=>exact fun h=>nos h
 | cons p ps ih =>
  have hn:=List.nodup_cons.mp hn
  intro xs m i y h1 h2 hk
  cases xs with
  | nil=>exact nos h2
  | cons z xs =>
   cases i with
   | zero =>
    (replace h1:=Option.some.inj h1; subst h1)
    (replace h2:=Option.some.inj h2; subst h2)
    refine (bindC_other hn.1).trans ?_
    rw [if_neg hk]
    exact if_pos rfl
   | succ i=>exact ih hn.2 h1 h2 hk
end
theorem ACk.deep {c:Cx} {A:Around} {n:Nat} {env:Env} (a:ACk c A (n + 1)):AOk c (A.deeper env) n:=⟨⟨a.hh,by have:=a.hd; simp only [Around.deeper]; omega,by have:=a.hu; simp only [Around.deeper]; omega⟩,by have:=a.hd; simp only [Around.deeper]; omega,by have:=a.hu; simp only [Around.deeper]; omega⟩
theorem get_above {h:HP} {b:Addr} (hb:h.objs.size ≤ b):h.get? b = none:=optE (o:=h.get? b) id fun _ e=>absurd (Heap.lt_size e) (Nat.not_lt.mpr hb)
theorem slot_arg {vs:List V} {m i:Nat} {v:V} (e:((vs.map some ++ List.replicate m none)[i]?).join = some v):i < vs.length∧vs[i]? = some v:=by
 by_cases hi:i < (vs.map some).length
 ·rw [List.getElem?_append_left hi,List.getElem?_map] at e
  refine ⟨(List.length_map _) ▸ hi,?_⟩
  cases hq:vs[i]? with
  | none=>rw [hq] at e; exact nos e
  | some v'=>rw [hq] at e; exact e
 ·rw [List.getElem?_append_right (Nat.not_lt.mp hi),List.getElem?_replicate] at e
  split at e <;> exact nos e
theorem own_all {P:Addr→Prop} {env:Env} (h:P env.locals) (k:∀ p ∈ env.cells,P p.2):∀ b ∈ own env,P b:=fm1 h (List.forall_mem_map.mpr k)
theorem own2_own {env:Env}:∀ b ∈ own2 env,b ∈ own env:=fm1 (.head _) fun _ h=>h
theorem two_own {env:Env} {X:List Addr} {L:Addr} (h:env.locals = L):2 ≤ (own2 env ++ X).count L:=by
 rw [← h,List.count_append]
 exact Nat.le_trans (by rw [List.count_cons_self,List.count_cons_self]; exact Nat.le_add_left 2 _) (Nat.le_add_right _ _)
theorem sc_succ {c:Cx} {n:Nat} {gl:List (Str × Gl)} (C:Cok c gl) (hf:∀ x f,gl.lookup x = some (.fn f)→∃ fn,c.P.fns f = some fn) (ok:∀ f fn,c.P.fns f = some fn→Nonempty (FOk c gl f fn)) (sc:SC c n):SC c (n + 1):=by
 refine ⟨?_⟩
 intro f fn A s as X H vs xs Q XX hfn a fr S hvs w
 obtain ⟨K⟩:=ok f fn hfn
 simp only [callF_succ,hfn] at w
 refine ea0_2 (w) fun hlen w=>?_
 refine ea1_2 (C.fobj f fn hfn) ?_
 intro o ho hdata
 rw [K.data] at hdata
 have hxl:xs.length = fn.arity:=by rw [← hvs.length]; exact hlen
 refine wpAny_call (call_cellsM (by have:=a.hd; lia) (S.stays _ _ ho) hdata (C.nolim.keeps S.stays) (K.code.keeps S.stays) (K.bind xs hxl) (fun x hx=>?_) (fun h₁ tk F0 Cl0=>?_) K.co K.gen K.kind)
 ·exact (K.psk _ (List.of_mem_zip hx).1).imp id fun q=>⟨q,Option.isSome_iff_exists.mpr (cells_some K.scope.names (s.heap.objs.size + 1) [] x.1 (.inl (mem_of_lookup q)))⟩
 ·have hfL:s.heap.get? s.heap.objs.size = none:=get_fresh _
  generalize hL:s.heap.objs.size = L at F0 Cl0 hfL ⊢
  generalize henv:envOfC K.qual K.scope L (c.fad f) K.cd = env at F0 Cl0 ⊢
  have ecells:env.cells = cellsFrom (L + 1) K.scope.names []:=by rw [← henv]; rfl
  have eloc:env.locals = L:=by rw [← henv]; rfl
  have ekind:∀ x,env.kindOf x = K.scope.names.lookup x:=fun x=>by rw [← henv]; rfl
  have hcn:((cellsFrom (L + 1) K.scope.names []).map (·.1)).Nodup:=by
   refine (cells_keys K.scope.names (L + 1) []).symm.nodup ?_
   simp only [List.map_nil,List.append_nil]
   exact (List.filter_sublist.map _).nodup K.keys
  have habove:∀ p ∈ cellsFrom (L + 1) K.scope.names [],L < p.2:=fun p hp=>Cl0.above p.1 p.2 hp
  have hfresh:∀ b,L ≤ b→s.heap.get? b = none:=fun b hb=>get_above (Nat.le_trans (Nat.le_of_eq hL) hb)
  have hownc:∀ p ∈ env.cells,p ∈ cellsFrom (L + 1) K.scope.names []:=fun p hp=>ecells ▸ hp
  have hown:∀ b ∈ own env,s.heap.get? b = none:=own_all (hfresh _ (Nat.le_of_eq eloc.symm)) fun p hp=>hfresh _ (Nat.le_of_lt (habove p (hownc p hp)))
  have g:Grown s.heap h₁:=F0.keep
  have ho2:∀ b ∈ own2 env,s.heap.get? b = none:=fun b hb=>hown b (own2_own b hb)
  have hX':∀ b ∈ own2 env ++ X,b ∈ X ∨ s.heap.get? b = none:=app_all (fun b q=>.inr (ho2 b q)) fun _ q=>.inl q
  have S1:SR c as (own2 env ++ X) H { s with heap:=h₁,toks:=tk }:=S.opens (s':={ s with heap:=h₁,toks:=tk }) g hX' (app_all (fun b q=>own_all (P:=fun b=>∃ o,h₁.get? b = some o) (eloc ▸ ea3_2 F0.ns fun o _ _ e _=>⟨o,e⟩) (fun p hp=>(Cl0.cell p.1 p.2 ((fun p hp=>lookup_of_mem hcn hp:∀ p ∈ cellsFrom (L + 1) K.scope.names [],(cellsFrom (L + 1) K.scope.names []).lookup p.1 = some p.2) p (hownc p hp))).imp fun _ e=>e.1) b (own2_own b q)) fun b q=>(S.xs b q).imp fun _ e=>g _ _ e) rfl rfl
  have hslot:∀ {x:Str} {i:Nat} {v:V},K.T.tab.lookup x = some i→((vs.map some ++ List.replicate fn.extra none)[i]?).join = some v→∃ y,K.ps[i]? = some x∧xs[i]? = some y∧VR c as (own2 env ++ X) h₁ v y:=fun {x i v} ht e =>
   (hvs.get (slot_arg e).2).imp fun y q=>⟨K.tabp x i ht (hlen ▸ (slot_arg e).1),q.1,q.2.opens g hX'⟩
  have F1:FR c as (own2 env ++ X) h₁ env K.T.tab (vs.map some ++ List.replicate fn.extra none):=by
   refine ⟨by rw [← henv]; exact K.kind,by rw [← henv]; rfl,by rw [← henv]; rfl,by simp,?_,?_,⟨_,by exact (eloc) ▸ F0.ns,fun x i ht hk v e=>?_⟩,fun x i ht hk=>?_,fun x y b e1 e2=>?_,fun x y i e1 e2=>?_⟩
   ·exact (eloc) ▸ S.not_as hfL
   ·exact (eloc) ▸ S.base_none hfL
   ·exact (hslot ht e).imp fun y q=>⟨bindL_at K.psn q.1 q.2.1 hk,q.2.2⟩
   ·have hk':K.scope.names.lookup x = some .cell:=hk.elim (fun hk=>(ekind x).symm.trans hk) fun hk=>absurd rfl (K.nofree _ (mem_of_lookup ((ekind x).symm.trans hk)))
    obtain ⟨b,hb⟩:=cells_some K.scope.names (L + 1) [] x (.inl (mem_of_lookup hk'))
    have hLb:=Cl0.above x b (mem_of_lookup hb)
    have hnb:=hfresh b (Nat.le_of_lt hLb)
    refine ⟨b,_,by rw [ecells]; exact hb,List.mem_append_left _ (.tail _ (.tail _ (List.mem_map.mpr ⟨(x,b),by rw [ecells]; exact mem_of_lookup hb,rfl⟩))),S.not_as hnb,S.base_none hnb,by rw [eloc]; exact Nat.ne_of_gt hLb,Cl0.cell x b hb,fun v e=>?_⟩
    exact (hslot ht e).imp fun y q=>⟨bindC_at K.psn q.1 q.2.1 (fun h=>nomatch hk'.symm.trans ((ekind x).symm.trans h)),q.2.2⟩
   ·exact name_of_addr Cl0.apart (hownc _ (mem_of_lookup e1)) (hownc _ (mem_of_lookup e2))
   ·exact inj_snd K.tabn (mem_of_lookup e1) (mem_of_lookup e2)
  have ek:∀ x,env.kindOf x = K.T.names.lookup x:=fun x=>(ekind x).trans (congrArg _ K.names.symm)
  have Kn:KOk K.T env:=⟨fun x h=>(ek x).trans h,fun x h=>(ek x).trans h,fun x h=>.inl ((ek x).trans h),fun x h=>(ek x).trans h⟩
  have a1:AOk c (A.deeper env) n:=a.deep
  refine ea1_2 fr ?_
  intro l hfl hfe
  have efr:env.frame = some L:=by rw [← henv]; rfl
  have ekd:env.scope.kind = .function:=by rw [← henv]; exact K.kind
  have hcnt:∀ b,X.count b ≤ (own2 env ++ X).count b:=fun b=>by simp only [List.count_append]; exact Nat.le_add_left _ _
  have hLX:L ∈ own2 env ++ X:=List.mem_append_left _ (by simp only [← eloc]; exact .head _)
  have fr1:∀ {as':Adr} {Z:List Addr} {H':AH} {s':Shared},Ext as s.heap as'→Kept as (own2 env ++ X) s.heap s'.heap→SR c as' Z H' s'→(∀ b ∈ own2 env ++ X,b ∈ Z)→(∃ m,s'.heap.Ns env.locals m)→EnvFr c (A.deeper env) (own2 env ++ X) as' s'.heap env:=fun {as' Z H' s'} e k S' hZ hn =>
   ⟨env,l,L,Around.frames_deeper hfl,fm1 (hn.elim fun m hn=>ea3_3 hn fun ob es ep e1 e2 _=>⟨ekd ▸ (by decide),L,ob,es,ep,efr,S.base_none hfL,two_own eloc,fun q=>(List.getElem?_of_mem q).elim fun i hi=>(S'.objs i _ hi).2.1 (hZ _ hLX),eloc ▸ e1,e2⟩) fun ev hev=>((hfe ev hev).grow (.refl _) hcnt).keep e k,efr,efr⟩
  have O1:Own (A.deeper env) (own2 env ++ X) env:=by
   refine ⟨fun b hb=>List.mem_append_left _ (.tail _ hb),efr.trans (congrArg some eloc.symm),fun l' hl' ev hev L' hL' q=>?_⟩
   have hev:ev ∈ env :: l:=Option.some.inj ((Around.frames_deeper (env:=env) hfl).symm.trans hl') ▸ hev
   have hlt:L < L':=(List.forall_mem_map (P:=fun b=>L < b)).mpr (fun p hp=>habove p (hownc p hp)) L' q
   refine fm1 (p:=fun ev=>ev.frame = some L'→False) (fun hL'=>Nat.ne_of_lt hlt (Option.some.inj (efr.symm.trans hL'))) (fun ev hev hL'=>ea4_6 ((hfe ev hev).there) fun L'' o' _ _ q1 _ _ _ q5 _=>?_) ev hev hL'
   cases q1.symm.trans hL'
   exact nos ((hfresh _ (Nat.le_of_lt hlt)).symm.trans q5)
  have hE1:∀ {as':Adr},Ext as h₁ as'→Ext as s.heap as':=fun e=>⟨e.old,fun b hb=>(e.new b hb).imp id g.none⟩
  have hK1:∀ {h':HP},KeptX as (own2 env ++ X) (own env) h₁ h'→Kept as (own2 env ++ X) s.heap h':=fun k b o e hb=>k b o (g _ _ e) hb fun q=>nos ((hown b q).symm.trans e)
  have hless:∀ b,2 ≤ (own2 env ++ X).count b→2 ≤ X.count b ∨ Mine.Fr as s.heap b:=fun b hb=>by
   by_cases hm:b ∈ own2 env
   ·exact .inr (.inr (ho2 b hm))
   ·rw [List.count_append,List.count_eq_zero_of_not_mem hm,Nat.zero_add] at hb
    exact .inl hb
  have R1:Rdy c K.T env (A.deeper env) n { s with heap:=h₁,toks:=tk } as (own2 env ++ X) H (vs.map some ++ List.replicate fn.extra none):=⟨a1,S1,F1,Kn,by rw [K.hn,List.length_append,List.length_map,List.length_replicate,hlen],fr1 (.refl ..) (g.kept _ _) S1 (fun _ q=>q) (F1.ns.imp fun _ h=>h.1)⟩
  have fin:∀ {v:V} {y:Value} {H':AH} {as':Adr} {s':Shared},Ext as h₁ as'→SR c as' (own2 env ++ X) H' s'→KeptX as (own2 env ++ X) (own env) h₁ s'.heap→VR c as' (own2 env ++ X) s'.heap v y→Q v H'→Res c as X s.heap Q y s':=fun {v y H' as' s'} e S' k hv q =>
   ⟨v,H',as',hE1 e,S'.turn (fun b o e _ _=>e) S'.stays (fun b hb=>List.mem_append_right _ hb) (fun b hb=>S'.xs b (List.mem_append_right _ hb)) rfl rfl,(hK1 k).less hless,hv.frames fun b _ _ hb q=>hb (List.mem_append_right _ q),q⟩
  refine wpAny_mono ((cSs_ok C sc hf K.hgl K.hc).run R1 O1 w) (fun fl s' q=>?_) fun x s' r=>?_
  rotate_left
  ·obtain ⟨k,H',as',e,t,ts,rfl,e',S',k',ex,ht,ap,hn,q⟩:=r
   have er:ERes c as (own2 env ++ X) s.heap XX (.ref e) s':=⟨k,H',as',e,t,ts,rfl,hE1 e',S',hK1 k',ex,ht,fun a ha=>⟨(ap a ha).1.imp id g.none,(ap a ha).2⟩,q⟩
   dsimp only [leaving]
   refine wpAny_bind (er.note (fun as'' _ _ e'' k'' S'' hZ=>fr1 e'' k'' S'' hZ hn) fun s'' er' tr _=>er'.fly tr fun s₃ er₃ _=>?_)
   exact er₃.less (fun b hb=>List.mem_append_right _ hb) hless
  cases fl with
  | next =>
   refine ea3_6 q ?_
   intro ρ' H' as' e S' k _ _ q
   exact fin e S' k .none q
  | ret y =>
   refine ea3_5 q ?_
   intro v H' as' e S' k hv q
   exact fin e S' k hv q
  | _=>exact q.elim
theorem sc_zero {c:Cx}:SC c 0:=⟨fun _ _ _ _ _ h=>h.elim⟩
theorem sc_all {gl:List (Str × Gl)} {c:Cx} (C:Cok c gl) (hf:∀ x f,gl.lookup x = some (.fn f)→∃ fn,c.P.fns f = some fn) (ok:∀ f fn,c.P.fns f = some fn→Nonempty (FOk c gl f fn)) {n:Nat}:SC c n:=by
 induction n with
 | zero=>exact sc_zero
 | succ n ih=>exact sc_succ C hf ok ih
end Mine
end
noncomputable section
namespace Mine
open PySem PySem.Calls PyProof.Rows
theorem zip_lookup:∀ {ps:List Str} {xs:List Value},ps.length = xs.length→∀ {x:Str},x ∈ ps→((ps.zip xs).lookup x).isSome = true
 | [],_,_,x,h=>by cases h
 | _ :: _,[],h,_,_=>by cases h
 | p :: ps,y :: xs,hl,x,h=>by
  simp only [List.zip_cons_cons,List.lookup_cons]
  cases hx:x == p with
  | true=>rfl
  | false =>
   simp only
   refine zip_lookup (by simpa using hl) ?_
   refine memE (h) (fun e_=>?_) fun h=>?_
   ·replace e_:=Eq.symm e_; subst e_; simp at hx
   ·exact h
theorem fm_congr {α β:Type} {f g:α→Option β}:∀ {l:List α},(∀ a ∈ l,f a = g a)→l.filterMap f = l.filterMap g
 | [],_=>rfl
 | a :: l,h=>by simp only [List.filterMap_cons,List.filterMap_cons,h a (.head _),fm_congr fun b hb=>h b (.tail _ hb)]
theorem zip_filterMap:∀ {ps:List Str} {xs:List Value},ps.length = xs.length→ps.Nodup→ps.filterMap (fun n=>((ps.zip xs).lookup n).map (n,·)) = ps.zip xs
 | [],[],_,_=>rfl
 | _ :: _,[],h,_=>by simp at h
 | [],_ :: _,h,_=>by simp at h
 | p :: ps,y :: xs,hl,hn=>by
  have hn':=List.nodup_cons.mp hn
  simp only [List.zip_cons_cons,List.filterMap_cons]
  simp only [List.lookup_cons,BEq.rfl,Option.map_some]
  congr 1
  have:∀ n ∈ ps,((match n == p with | true=>some y | false=>(ps.zip xs).lookup n).map (n,·)) = ((ps.zip xs).lookup n).map (n,·):=fun n h=>by
   have:(n == p) = false:=by simp; rintro rfl; exact hn'.1 h
   rw [this]
  exact (fm_congr this).trans (zip_filterMap (xs:=xs) (by simpa using hl) hn'.2)
theorem sB {α β:Type} {x:Sem α} {a:α} {f:α→Sem β} {r:Sem β} (h:x = pure a) (k:f a = r):(x >>= f) = r:=by subst h; exact k
theorem sI {α:Type} {c:Bool} {A B r:Sem α} (h:c = false) (k:B = r):(if c = true then A else B) = r:=by subst h; exact k
theorem bind_core {name qual:Str} {args:List Arg} {kd:List (Option Expr)} {df:List Expr} {body:List Stmt} {scope:Scope} {pm cd doc:Value} {xs:List Value} {ps:List Str} (hp:args.map (·.arg) = ps) (hl:decide (xs.length > ps.length) = false)
  (hm:((ps.take ps.length).filter fun n=>((ps.zip xs).lookup n).isNone) = []) (hz:ps.filterMap (fun n=>((ps.zip xs).lookup n).map (n,·)) = ps.zip xs) :
  bindArgs (methDef name qual ⟨[],args,none,[],kd,none,df⟩ body scope pm cd doc) ⟨xs,[]⟩ = pure (ps.zip xs):=by
 subst hp
 have hd:∀ k,List.drop k (((none:Option (Array Value)).getD #[]).toList) = []:=fun k=>List.drop_nil
 refine sB (α:=List (Str × Value) × List (Str × Value)) rfl ?_
 refine sB (a:=none) rfl ?_
 refine sI ?_ ?_
 ·exact congrArg (· && true) hl
 refine sI ?_ ?_
 ·rw [hd]; exact congrArg (fun l:List Str=>!l.isEmpty) hm
 refine sB (a:=(args.map (·.arg)).zip xs) (by rw [hd,List.zip_nil_right]; rfl) ?_
 refine sB rfl ?_
 refine sI rfl ?_
 refine congrArg pure ?_
 exact (congrArg (fun l=>List.filterMap _ l) (List.append_nil _)).trans hz
theorem bind_plain {name qual:Str} {params:Arguments} {body:List Stmt} {scope:Scope} {pm cd doc:Value} (h1:params.posonlyargs = []) (h2:params.vararg = none) (h3:params.kwonlyargs = []) (h4:params.kwarg = none)
  (hn:(params.args.map (·.arg)).Nodup) {xs:List Value} (hl:xs.length = (params.args.map (·.arg)).length):bindArgs (methDef name qual params body scope pm cd doc) ⟨xs,[]⟩ = pure ((params.args.map (·.arg)).zip xs):=by
 obtain ⟨a,b,c,d,e,f,g⟩:=params
 subst h1
 subst h2
 subst h3
 subst h4
 refine bind_core rfl (decide_eq_false fun h=>absurd hl (Nat.ne_of_gt h)) ?_ (zip_filterMap hl.symm hn)
 refine List.filter_eq_nil_iff.mpr fun n hn' e=>?_
 have:=zip_lookup hl.symm (List.mem_of_mem_take hn')
 rw [Option.isNone_iff_eq_none.mp e] at this
 exact nomatch this
noncomputable def psOf (d:DefRec):List Str:=d.params.args.map (·.arg)
noncomputable def othersOf (d:DefRec):List Str:=(d.scope.names.filter fun p=>(decide (p.2 = .local) || decide (p.2 = .cell)) && !(psOf d).contains p.1).map (·.1)
noncomputable def tbOf (gl:List (Str × Gl)) (mu:List (Nat × Nat)) (fz:List (Nat × List Nat)) (d:DefRec):Tb :=
 { gl,meths:=[],names:=d.scope.names,tab:=(psOf d ++ othersOf d).zipIdx,n:=(psOf d).length + (othersOf d).length,mu,fz }
noncomputable def okRec (d:DefRec):Bool :=
 d.params.posonlyargs.isEmpty && d.params.vararg.isNone && d.params.kwonlyargs.isEmpty && d.params.kwarg.isNone && decide (psOf d).Nodup &&
 (psOf d).all (fun x=>decide (d.scope.names.lookup x = some .local) || decide (d.scope.names.lookup x = some .cell)) &&
 decide (d.scope.names.map (·.1)).Nodup && d.scope.names.all (fun p=>decide (p.2 ≠ .free)) && decide (d.scope.kind = .function) && !d.scope.isCoroutine && !d.scope.isGenerator
noncomputable def fnOf (gl:List (Str × Gl)) (mu:List (Nat × Nat)) (fz:List (Nat × List Nat)) (d:DefRec):Option Fn :=
 if okRec d then (cSs 60 (tbOf gl mu fz d) d.body).map fun b=>⟨(psOf d).length,(othersOf d).length,b⟩ else none
theorem zipIdx_snd {α:Type} (l:List α):l.zipIdx.map (·.2) = List.range l.length:=by
 rw [List.zipIdx_eq_zip_range',List.map_snd_zip (by simp)]
 simp only [List.range_eq_range']
theorem zipIdx_at {l:List Str} {x:Str} {i:Nat} (h:l.zipIdx.lookup x = some i):l[i]? = some x:=by
 have:=mem_of_lookup h
 have h2:=List.mem_zipIdx_iff_getElem?.mp this
 simpa using h2
set_option tactic.hygienic true in
theorem fok_of {c:Cx} {gl:List (Str × Gl)} {mu:List (Nat × Nat)} {fz:List (Nat × List Nat)} {d:DefRec} {f:Nat} {fn:Fn} {pm cd doc:Value} {qual:Str} (h:fnOf gl mu fz d = some fn) (hd:c.fdat f = methDef d.name qual d.params d.body d.scope pm cd doc)
  (hc:c.base.CodeRec cd qual):Nonempty (FOk c gl f fn):=by
 unfold fnOf at h
 split at h
 ·rename_i hok
  replace h:=Option.map_eq_some_iff.mp h
  refine ea1_2 h ?_
  intro b hb q_3
  subst q_3
  simp only [okRec,Bool.and_eq_true,decide_eq_true_eq,List.isEmpty_iff,Option.isNone_iff_eq_none,List.all_eq_true,Bool.or_eq_true,Bool.not_eq_true'] at hok
  obtain ⟨⟨⟨⟨⟨⟨⟨⟨⟨⟨h1,h2⟩,h3⟩,h4⟩,h5⟩,h6⟩,h7⟩,h8⟩,h9⟩,h10⟩,h11⟩:=hok
  refine ⟨⟨d.name,qual,d.params,d.body,d.scope,pm,cd,doc,psOf d,tbOf gl mu fz d,60,hd,hc,rfl,rfl,rfl,hb,
   fun xs hl=>bind_plain h1 h2 h3 h4 h5 hl,rfl,h5,h6,?_,fun x i hx hi=>?_,h7,h8,h9,h10,h11⟩⟩
  ·show ((psOf d ++ othersOf d).zipIdx.map (·.2)).Nodup
   rw [zipIdx_snd]
   exact List.nodup_range
  ·have:=zipIdx_at (l:=psOf d ++ othersOf d) hx
   replace this:=(List.getElem?_append_left hi).symm.trans this
   exact this
 ·exact nos h
noncomputable def progOf (recs:List DefRec) (gl:List (Str × Gl)) (mu:List (Nat × Nat)) (fz:List (Nat × List Nat)) (cs:List (List Nat)):Prog :=
 { fns:=fun f=>(recs[f]?).bind (fnOf gl mu fz),sub:=subL cs }
noncomputable def xqOk (h:HP) (x:Str):Bool :=
 match h.clsAt mainGlobals x with
 | some (_,_,cd)=>xNames.all fun n=>(h.nsMap cd.ns n).isNone
 | none=>false
noncomputable def gAt (h:HP) (n:Str):Value:=(h.nsMap mainGlobals n).getD .none
noncomputable def xsOk (owns:List OwnSpec) (h:HP):Bool:=h.isNs mainGlobals && owns.all fun o=>h.ownExcOk o.name o.chain o.bm o.newId && xqOk h o.name && decide (o.bm = bmV) && (o.newId == "ValueError.__new__") && o.chain.all fun n=>owns.any fun o'=>o'.name == n
noncomputable def xsSub (owns:List OwnSpec) (h:HP):List (List Bool):=owns.map fun o=>owns.map fun o'=>(gAt h o.name :: (o.chain.map (gAt h) ++ o.bm)).contains (gAt h o'.name)
noncomputable def subM (cs:List (List Nat)) (n:Nat):List (List Bool):=(List.range n).map fun k=>(List.range n).map fun j=>subL cs k j
noncomputable def XSays (owns:List OwnSpec) (cs:List (List Nat)) (h:HP):Prop :=
 ∃ mg,h.Ns mainGlobals mg∧∀ (k:Nat) o,owns[k]? = some o→∃ C bm,mg o.name = some (.ref C)∧XC h C bm∧∀ (j:Nat) o',owns[j]? = some o'→(Value.ref C :: bm).contains ((mg o'.name).getD .none) = subL cs k j
theorem XSays.keeps {owns:List OwnSpec} {cs:List (List Nat)} {h h':HP} (x:XSays owns cs h) (hk:∀ b o,h.get? b = some o→h'.get? b = some o):XSays owns cs h':=by
 refine ea1_2 x ?_
 intro mg hn r
 exact ⟨mg,hn.keeps hk,fun k o e=>let ⟨C,bm,h1,h2,h3⟩:=r k o e; ⟨C,bm,h1,h2.keeps hk,h3⟩⟩
theorem xc_of {h:HP} {o:OwnSpec} (x:h.ownExcOk o.name o.chain o.bm o.newId = true) (y:xqOk h o.name = true) (_hb:o.bm = bmV) (hi:o.newId = "ValueError.__new__") :
  ∃ C,h.nsMap mainGlobals o.name = some (.ref C)∧∀ _:XTail h (o.chain.map (gAt h) ++ o.bm),XC h C (o.chain.map (gAt h) ++ o.bm):=by
 obtain ⟨C,N,nm,q,bs,hdct,sn,sub,ab,col,dd,k0,k1,k2,k3,k5,hg,hC,hN,_⟩:=Heap.ownExc_of_ok x
 refine ⟨C,hg,fun T=>⟨hi ▸ hC,hN,fun n hn=>?_,T⟩⟩
 unfold xqOk at y
 cases hf:h.clsAt mainGlobals o.name with
 | none=>replace y:=(hf) ▸ y; cases y
 | some z =>
  obtain ⟨C',o',cd'⟩:=z
  simp only [hf] at y
  refine ea0_3 (Heap.clsAt_spec hf) ?_
  intro hn' ho' hd'
  rw [hg] at hn'
  obtain rfl:C = C':=by injection hn' with q1; injection q1
  rw [hC] at ho'
  replace ho':=Option.some.inj ho'
  obtain rfl:=ho'
  replace hd':=by injection hd'
  obtain rfl:_ = cd':=hd'
  exact Option.isNone_iff_eq_none.mp (List.all_eq_true.mp y n hn)
theorem xsays_of {owns:List OwnSpec} {cs:List (List Nat)} {h:HP} (e:(xsOk owns h,xsSub owns h) = (true,subM cs owns.length)):XSays owns cs h:=by
 have e2:=congrArg Prod.snd e
 obtain ⟨hn,hall⟩:=Bool.and_eq_true_iff.mp (congrArg Prod.fst e)
 have all:∀ o ∈ owns,h.ownExcOk o.name o.chain o.bm o.newId = true∧xqOk h o.name = true∧o.bm = bmV∧o.newId = "ValueError.__new__"∧∀ n ∈ o.chain,∃ o' ∈ owns,o'.name = n:=fun o ho=>by
  have:=List.all_eq_true.mp hall o ho
  simp only [Bool.and_eq_true,decide_eq_true_eq,beq_iff_eq] at this
  obtain ⟨⟨⟨⟨h1,h2⟩,h3⟩,h4⟩,h5⟩:=this
  refine ⟨h1,h2,h3,h4,fun n hn=>?_⟩
  refine ea1_2 (List.any_eq_true.mp (List.all_eq_true.mp h5 n hn)) ?_
  intro o' ho' q
  exact ⟨o',ho',beq_iff_eq.mp q⟩
 have tail:∀ (ch:List Str),(∀ n ∈ ch,∃ o' ∈ owns,o'.name = n)→XTail h (ch.map (gAt h) ++ bmV):=fun ch=>by
  induction ch with
  | nil=>intro _; exact .base
  | cons n ch ih =>
   intro hc
   refine ea1_2 (hc n (.head _)) ?_
   intro o' ho' q_3
   subst q_3
   refine ea0_5 (all o' ho') ?_
   intro h1 h2 h3 h4 h5
   obtain ⟨C,N,nm,q,bs,hdct,sn,sub,ab,col,dd,k0,k1,k2,k3,k5,hg,hC,hN,_⟩:=Heap.ownExc_of_ok h1
   have hq:∀ n ∈ xNames,h.nsMap N n = none:=fun n hn=>by
    unfold xqOk at h2
    cases hf:h.clsAt mainGlobals o'.name with
    | none=>replace h2:=(hf) ▸ h2; cases h2
    | some z =>
     obtain ⟨C',o',cd'⟩:=z
     simp only [hf] at h2
     refine ea0_3 (Heap.clsAt_spec hf) ?_
     intro hn' ho' hd'
     rw [hg] at hn'
     obtain rfl:C = C':=by injection hn' with q1; injection q1
     rw [hC] at ho'
     replace ho':=Option.some.inj ho'
     obtain rfl:=ho'
     replace hd':=by injection hd'
     obtain rfl:_ = cd':=hd'
     exact Option.isNone_iff_eq_none.mp (List.all_eq_true.mp h2 n hn)
   show XTail h ((h.nsMap mainGlobals o'.name).getD .none :: (ch.map (gAt h) ++ bmV))
   rw [hg]
   exact .own hC hN hq (ih fun n hn=>hc n (.tail _ hn))
 refine ⟨_,.of_isNs hn,fun k o ho=>?_⟩
 refine ea0_5 (all o (List.mem_of_getElem? ho)) ?_
 intro h1 h2 h3 h4 h5
 refine ea1_2 (xc_of h1 h2 h3 h4) ?_
 intro C hg hx
 refine ⟨C,_,hg,hx (by exact (h3) ▸ tail o.chain h5),fun j o' ho'=>?_⟩
 have e3:=congrArg (fun l=>(l[k]?.bind fun r=>r[j]?)) e2
 have hk:=(List.getElem?_eq_some_iff.mp ho).1
 simp only [xsSub,subM,List.getElem?_map,ho,ho',Option.map_some,Option.bind_some,List.getElem?_range hk,List.getElem?_range ((List.getElem?_eq_some_iff.mp ho').1)] at e3
 have e4:=Option.some.inj e3
 simp only [← e4]
 show _ = (gAt h o.name :: _).contains _
 have hgC:gAt h o.name = .ref C:=by unfold gAt; rw [hg]; rfl
 rw [hgC]
 rfl
noncomputable def xHook (owns:List OwnSpec) (cs:List (List Nat)):PySem.W.Hook :=
 ⟨Bool × List (List Bool),fun s=>(xsOk owns s.heap,xsSub owns s.heap),fun _=>(true,subM cs owns.length),fun _ h=>XSays owns cs h,fun _ _ e=>xsays_of e,fun _ _ _ x hk=>x.keeps hk⟩
noncomputable def glBi (x:String) (g:Gl):Prop:=match g with
 | .bi b=>bootBuiltins (Str.ofString x) = some (.builtin b)
 | .ty b=>bootBuiltins (Str.ofString x) = some (.type b)
 | _=>False
noncomputable def glOfRecs (recs:List DefRec):List (Str × Gl):=recs.zipIdx.map fun p=>(p.1.name,.fn p.2)
noncomputable def bootOk (x:Str):Gl→Bool
 | .bi b=>(bootBuiltins x).any fun v=>match v with | .builtin b'=>b == b' | _=>false
 | .ty b=>(bootBuiltins x).any fun v=>match v with | .type b'=>b == b' | _=>false
 | _=>false
noncomputable def cstOk (p:Program) (x:Str):V→Bool
 | .int i=>(match valOf p x with | some (.int j)=>decide (i = j) | _=>false)
 | .str t=>(match valOf p x with | some (.str u)=>decide (u = toS t) && decide (t.length ≤ 1000) | _=>false)
 | _=>false
set_option tactic.hygienic true in
theorem cst_ok {p:Program} {loose:List Str} {mean:ExcName→Option Value} {mg mb:Str→Option Value} {h:HP} (T:Top p loose mean mg mb h) {c:Cx} {x:Str} {v:V} (e:cstOk p x v = true):∃ y,mg x = some y∧∀ as X h,VR c as X h v y:=by
 unfold cstOk at e
 split at e
 ·split at e
  ·rename_i i _ j hj
   refine ea1_2 (T.const x _ hj) ?_
   intro y h1 h2
   have:=of_decide_eq_true e
   subst this
   cases h2 h with
   | int _ t=>exact ⟨_,h1,fun _ _ _=>.int _ _⟩
  ·cases e
 ·split at e
  ·rename_i t _ u hj
   refine ea1_2 (T.const x _ hj) ?_
   intro y h1 h2
   simp only [Bool.and_eq_true,decide_eq_true_eq] at e
   obtain ⟨rfl,e2⟩:=e
   have hb:(1000:Nat) ≤ bnd:=by decide
   cases h2 h with
   | str _ t=>exact ⟨_,h1,fun _ _ _=>.str _ _ (by lia)⟩
  ·cases e
 ·cases e
noncomputable def refA:Value→Option Addr
 | .ref a=>some a
 | _=>none
structure TopOk (p:Program) (loose:List Str) (csts:List (Str × V)) (bis:List (Str × Gl)):Prop where
 csts:csts.all (fun q=>cstOk p q.1 q.2) = true
 names:((recsOf p).map (·.name)).Nodup
 boot:bis.all (fun q=>bootOk q.1 q.2) = true
 free:bis.all (fun q=>decide (q.1 ≠ "__name__") && decide (q.1 ∉ startupNames) && decide (q.1 ∉ loose) && decide (q.1 ∉ (recsOf p).map (·.name)) && decide (q.1 ∉ (litsOf p).map (·.1)) && decide (q.1 ∉ (clssOf p loose).map (·.name))) = true
theorem lookup_append {α β:Type} [BEq α] {x:α}:∀ {l m:List (α × β)} {v:β},(l ++ m).lookup x = some v→l.lookup x = some v ∨ m.lookup x = some v
 | [],_,_,h=>.inr h
 | (y,w) :: l,m,v,h=>by
  simp only [List.cons_append,List.lookup_cons] at h
  simp only [List.lookup_cons]
  refine boolE (o:=x == y) (fun hx=>?_) (fun hx=>?_)
  ·rw [hx]; rw [hx] at h; exact .inl h
  ·rw [hx]; rw [hx] at h; exact lookup_append h
theorem ints_vrs {c:Cx} {as:Adr} {X:List Addr} {h:HP}:∀ {vs:List Value} {zs:List Int},IntsAre vs zs→VRs c as X h (zs.map V.int) vs:=by
 intro vs zs x
 induction x with
 | nil=>exact .nil
 | cons n t _ ih=>exact .cons (.int n t) ih
noncomputable def glC (csts:List (Str × V)):List (Str × Gl):=csts.map fun q=>(q.1,.cst q.2)
noncomputable def glX (owns:List OwnSpec):List (Str × Gl):=owns.zipIdx.map fun p=>(p.1.name,.exc p.2)
noncomputable def kOf (p:Program) (loose:List Str):Option ClsRec:=(plainsOf p loose).head?
noncomputable def mRec (m:MethRec):DefRec:=⟨m.name,m.params,m.body,m.scope,⟨0,0,0,0⟩⟩
noncomputable def recsX (p:Program) (loose:List Str):List DefRec:=recsOf p ++ (kOf p loose).elim [] fun k=>k.meths.map mRec
noncomputable def initAt (k:ClsRec):Nat:=k.meths.findIdx fun m=>m.name == ("__init__":Str)
noncomputable def glK (p:Program) (k:ClsRec):Str × Gl:=(k.name,.cls (k.meths.zipIdx.map fun q=>(q.1.name,(recsOf p).length + q.2)) k.statics ((recsOf p).length + initAt k))
noncomputable def glAll (p:Program) (loose:List Str) (csts:List (Str × V)) (bis:List (Str × Gl)):List (Str × Gl):=glOfRecs (recsOf p) ++ (glX (ownsOf p) ++ ((kOf p loose).toList.map (glK p) ++ (glC csts ++ bis)))
noncomputable def kOk (k:ClsRec):Bool:=(k.statics.all fun n=>match fastLookup "object" n with | some none=>true | _=>false) && (k.meths.all fun m=>(fastLookup "object" m.name).isSome) && k.meths.any fun m=>m.name == ("__init__":Str)
theorem look_obj {n:Str} {y:Option Value} (h:fastLookup "object" n = some y):typeLookup (.type "object") n = pure y:=by simp only [typeLookup_type,builtinLookup_eq_fast,h]
theorem idx_lookup {α β:Type} {f:α→Str} {g:Nat→β} {l:List α} {x:Str} {v:β} (h:(l.zipIdx.map fun p=>(f p.1,g p.2)).lookup x = some v):∃ i d,v = g i∧l[i]? = some d∧f d = x:=by
 refine ea1_2 (List.mem_map.mp (mem_of_lookup h)) ?_
 intro q hq e
 have h2:=List.mem_zipIdx_iff_getElem?.mp hq
 cases e
 exact ⟨q.2,q.1,rfl,by simpa using h2,rfl⟩
inductive GlR (p:Program) (loose:List Str) (bis:List (Str × Gl)) (x:Str):Gl→Prop
 | fn {i:Nat} {d:DefRec}:(recsOf p)[i]? = some d→d.name = x→GlR p loose bis x (.fn i)
 | exc {i:Nat} {d:OwnSpec}:(ownsOf p)[i]? = some d→d.name = x→GlR p loose bis x (.exc i)
 | cls {k:ClsRec} {g:Gl}:kOf p loose = some k→(x,g) = glK p k→GlR p loose bis x g
 | cst {v:V}:cstOk p x v = true→GlR p loose bis x (.cst v)
 | bi {g:Gl}:bis.lookup x = some g→bootOk x g = true→GlR p loose bis x g
theorem gl_inv {p:Program} {loose:List Str} {csts:List (Str × V)} {bis:List (Str × Gl)} {x:Str} {g:Gl} (ok:TopOk p loose csts bis) (h:(glAll p loose csts bis).lookup x = some g):GlR p loose bis x g:=by
 rcases lookup_append h with h | h
 ·refine ea2_3 (idx_lookup h) ?_
  intro i d e hd hn
  subst e
  exact .fn hd hn
 rcases lookup_append h with h | h
 ·refine ea2_3 (idx_lookup h) ?_
  intro i d e hd hn
  (replace e:=Eq.symm e; subst e)
  exact .exc hd hn
 rcases lookup_append h with h | h
 ·refine ea1_2 (List.mem_map.mp (mem_of_lookup h)) ?_
  intro k hk e
  exact .cls (Option.mem_toList.mp hk) e.symm
 rcases lookup_append h with h | h
 ·refine ea1_2 (List.mem_map.mp (mem_of_lookup h)) ?_
  intro q hq e
  cases e
  exact .cst (List.all_eq_true.mp ok.csts _ hq)
 ·exact .bi h (List.all_eq_true.mp ok.boot _ (mem_of_lookup h))
theorem cls_inv {p:Program} {loose:List Str} {csts:List (Str × V)} {bis:List (Str × Gl)} {x:Str} {ms:List (Str × Nat)} {ats:List Str} {f:Nat} (ok:TopOk p loose csts bis) (h:(x,Gl.cls ms ats f) ∈ glAll p loose csts bis):∃ k,kOf p loose = some k∧(x,Gl.cls ms ats f) = glK p k:=by
 have F:∀ {α:Type} {l:List α} {f':α→Str × Gl},(x,Gl.cls ms ats f) ∈ l.map f'→(∀ q,f' q ≠ (x,Gl.cls ms ats f))→False:=fun h hq=>(List.mem_map.mp h).elim fun q e=>hq q e.2
 rcases List.mem_append.mp h with h | h
 ·exact (F h fun _ e=>by cases e).elim
 rcases List.mem_append.mp h with h | h
 ·exact (F h fun _ e=>by cases e).elim
 rcases List.mem_append.mp h with h | h
 ·refine ea1_2 (List.mem_map.mp h) ?_
  intro k hk e
  exact ⟨k,Option.mem_toList.mp hk,e.symm⟩
 rcases List.mem_append.mp h with h | h
 ·exact (F h fun _ e=>by cases e).elim
 ·exact absurd (List.all_eq_true.mp ok.boot _ h) Bool.false_ne_true
theorem boot_bi {x:Str} {b:String} (h:bootOk x (.bi b) = true):bootBuiltins x = some (.builtin b):=by
 rw [bootOk,Option.any_eq_true] at h
 refine ea1_2 h ?_
 intro v e1 e2
 rw [e1]
 split at e2
 ·rw [eq_of_beq e2]
 ·cases e2
theorem boot_ty {x:Str} {b:String} (h:bootOk x (.ty b) = true):bootBuiltins x = some (.type b):=by
 simp only [bootOk,Option.any_eq_true] at h
 refine ea1_2 h ?_
 intro v e1 e2
 rw [e1]
 split at e2
 ·rw [eq_of_beq e2]
 ·cases e2
theorem top_law {p prog:Program} {w:World} {loose:List Str} {mean:ExcName→Option Value} {mg mb:Str→Option Value} {s:Shared} {bis:List (Str × Gl)} {csts:List (Str × V)} {mu:List (Nat × Nat)} {fz:List (Nat × List Nat)} {l:Addr} {items:Array Value} {zs:List Int} {d:DefRec} {f n:Nat} {fa:Addr} {cs:List (List Nat)}
  {Q E:Value→Shared→Prop}
  (T:Top p loose mean mg mb s.heap) (TC:TopC p loose mg s.heap) (hko:(kOf p loose).all kOk = true) (ok:TopOk p loose csts bis) (Y:XSays (ownsOf p) cs s.heap) (hcs:cs.length ≤ (ownsOf p).length) (hg:s.gens = #[]) (hd:(recsOf p)[f]? = some d) (hfa:mg d.name = some (.ref fa)) (hfn:∃ fn,fnOf (glAll p loose csts bis) mu fz d = some fn)
  (hall:∀ d ∈ recsX p loose,∃ fn,fnOf (glAll p loose csts bis) mu fz d = some fn)
  (hl:s.heap.PlainList l items) (hi:IntsAre items.toList zs) (hlen:zs.length ≤ 63) (hn:n ≤ 300)
  (hlaw:callF (progOf (recsX p loose) (glAll p loose csts bis) mu fz cs) n f [.lst (zs.map V.int)] [] (fun v _=>v = .bool true) (fun _ _=>False))
  (hR:∀ s',(∀ b o,s.heap.get? b = some o→s'.heap.get? b = some o)→s'.os = s.os→s'.gens = #[]→Q (.bool true) s') :
  wpAny (model prog w) callerA (call (.ref fa) [.ref l]) Q E s:=by
 obtain ⟨KC,KN,mN,hK⟩:∃ (C N:Addr) (mN:Str→Option Value),∀ k,kOf p loose = some k→mg k.name = some (.ref C)∧PlainAt s.heap k C N mN:=by
  try clear s; try clear PlainAt; try clear mg; try clear Value; try clear Option; try clear Str; try clear Addr; try clear hK; try clear KN; try clear KC; try clear hd; try clear hall; try clear Y; try clear hi; try clear hfn; try clear hcs; try clear hfa; try clear hko; try clear hn; try clear T; try clear hlen; try clear hR; try clear hl; try clear hlaw; try clear hg; try clear ok
  cases hk:kOf p loose with
  | none=>exact ⟨0,0,fun _=>none,nofun⟩
  | some k =>
   refine ea3_2 (TC k (List.mem_of_mem_head? hk)) ?_
   intro C N mN h1 h2
   try clear TC; try clear k
   exact ⟨C,N,mN,fun k' e=>by (replace e:=Option.some.inj e; subst e); exact ⟨h1,h2⟩⟩
 have hm:∀ (i:Nat) d,(recsX p loose)[i]? = some d→(recsOf p)[i]? = some d ∨ ∃ k j m,kOf p loose = some k∧i = (recsOf p).length + j∧k.meths[j]? = some m∧d = mRec m:=fun i d h=>by
  by_cases hlt:i < (recsOf p).length
  ·exact .inl ((List.getElem?_append_left hlt).symm.trans h)
  ·have h:=(List.getElem?_append_right (Nat.le_of_not_lt hlt)).symm.trans h
   try clear N; try clear C; try clear mN
   cases hk:kOf p loose with
   | none=>replace h:=(hk) ▸ h; exact nos h
   | some k =>
    rw [hk] at h
    have h:(k.meths.map mRec)[i - (recsOf p).length]? = some d:=h
    rw [List.getElem?_map] at h
    refine ea1_2 (Option.map_eq_some_iff.mp h) ?_
    intro m h1 h2
    try clear Option; try clear h
    exact .inr ⟨k,_,m,rfl,(Nat.add_sub_cancel' (Nat.le_of_not_lt hlt)).symm,h1,h2.symm⟩
 have pick:∀ g:Nat,∃ q:Addr × FuncData,∀ d,(recsX p loose)[g]? = some d→(∃ qual o pm code doc,s.heap.get? q.1 = some o∧o.data = .func q.2∧q.2 = methDef d.name qual d.params d.body d.scope pm code doc∧s.heap.CodeRec code qual∧((recsOf p).length ≤ g→mN d.name = some (.ref q.1)∧o.cls = .type "function"))∧(g < (recsOf p).length→mg d.name = some (.ref q.1)):=fun g=>by
  try clear kOf
  cases hq:(recsX p loose)[g]? with
  | none=>exact ⟨(0,default),fun d e=>by cases e⟩
  | some d =>
   try clear loose; try clear p
   rcases hm g d hq with h | ⟨k,j,m,hk,rfl,hj,rfl⟩
   ·refine ea5_4 (T.fn d (List.mem_of_getElem? h)) ?_
    intro a o pm code doc h1 h2 h3 h4
    try clear T
    have hlt:=(List.getElem?_eq_some_iff.mp h).1
    exact ⟨(a,_),fun d' e=>by (replace e:=Option.some.inj e; subst e); exact ⟨⟨d.name,o,pm,code,doc,h2,h3,rfl,h4,fun q=>absurd hlt (Nat.not_lt.mpr q)⟩,fun _=>h1⟩⟩
   ·refine ea5_5 ((hK k hk).2.meths m (List.mem_of_getElem? hj)) ?_
    intro f o pm cd doc h1 h2 h3 h4 h5
    try clear hK; try clear k
    exact ⟨(f,_),fun d' e=>by (replace e:=Option.some.inj e; subst e); exact ⟨⟨_,o,pm,cd,doc,h2,h4,rfl,h5,fun _=>⟨h1,h3⟩⟩,fun q=>absurd q (Nat.not_lt.mpr (Nat.le_add_right _ _))⟩⟩
 obtain ⟨F,hF⟩:=Classical.axiomOfChoice pick
 let c:Cx:={ prog:=prog,w:=w,base:=s.heap,mg:=mg,mb:=mb,P:=progOf (recsX p loose) (glAll p loose csts bis) mu fz cs,os:=s.os,fad:=fun g=>(F g).1,fdat:=fun g=>(F g).2,xcls:=fun k=>((((ownsOf p)[k]?).bind fun o=>mg o.name).bind refA).getD 0,ccls:=fun _=>KC }
 have fns:∀ g fn,c.P.fns g = some fn→∃ d,(recsX p loose)[g]? = some d∧fnOf (glAll p loose csts bis) mu fz d = some fn:=fun g fn h=>Option.bind_eq_some_iff.mp h
 have inX:∀ (i:Nat) d,(recsOf p)[i]? = some d→(recsX p loose)[i]? = some d:=fun i d h=>(List.getElem?_append_left (List.getElem?_eq_some_iff.mp h).1).trans h
 have has:∀ (i:Nat) d,(recsX p loose)[i]? = some d→∃ fn,c.P.fns i = some fn:=fun i d h=>by
  refine ea1_1 (hall d (List.mem_of_getElem? h)) fun fn hfn=>?_
  try clear hall
  exact ⟨fn,by show ((recsX p loose)[i]?).bind _ = _; exact (h) ▸ hfn⟩
 have hX:∀ (k:Nat) o,(ownsOf p)[k]? = some o→mg o.name = some (.ref (c.xcls k))∧∃ bm,XC s.heap (c.xcls k) bm∧∀ (j:Nat) o',(ownsOf p)[j]? = some o'→(Value.ref (c.xcls k) :: bm).contains (.ref (c.xcls j)) = subL cs k j:=by
  refine ea1_2 Y ?_
  try clear Y
  intro mg' hn' r
  have hmg:mg' = mg:=funext fun x=>hn'.agree T.g x
  try clear hn'; try clear hxs; try clear hrecs; try clear inX; try clear fns; try clear hF; try clear F; try clear hfn
  subst hmg
  have hcl:∀ (k:Nat) o,(ownsOf p)[k]? = some o→mg' o.name = some (.ref (c.xcls k)):=fun k o ho=>by
   refine ea2_2 (r k o ho) ?_
   intro C bm h1 _
   try clear r
   show _ = some (Value.ref (((((ownsOf p)[k]?).bind fun o=>mg' o.name).bind refA).getD 0))
   simp only [ho,Option.bind_some,h1]
   rfl
  intro k o ho
  refine ea2_3 (r k o ho) ?_
  intro C bm h1 h2 h3
  try clear r
  have hC:=h1.symm.trans (hcl k o ho)
  try clear hmg; try clear mg'; try clear k; try clear C
  cases hC
  refine ⟨h1,bm,h2,fun j o' ho'=>?_⟩
  simp only [← h3 j o' ho',hcl j o' ho']
  rfl
 have hbis:∀ x g,bis.lookup x = some g→bootOk x g = true∧mg x = none∧mb x = bootBuiltins x:=fun x g h=>by
  have hm:=mem_of_lookup h
  have h2:=List.all_eq_true.mp ok.free _ hm
  simp only [Bool.and_eq_true,decide_eq_true_eq] at h2
  exact ⟨(List.all_eq_true.mp ok.boot _ hm),T.free x h2.1.1.1.1.2 h2.1.1.1.2 h2.1.1.2 h2.1.2 h2.2,T.builtins x h2.1.1.1.1.1⟩
 have hf:∀ x g,(glAll p loose csts bis).lookup x = some (.fn g)→∃ fn,c.P.fns g = some fn:=fun x g h=>by
  cases gl_inv ok h with
  | fn hd _=>exact has _ _ (inX _ _ hd)
  | cls _ e=>cases e
  | bi _ h=>exact absurd h Bool.false_ne_true
 have C:Cok c (glAll p loose csts bis):=by
  refine ⟨T.g,T.b,T.nolimit,fun k hk=>?_,fun x ms ats f h=>?_,fun x g h=>?_,fun g fn h=>?_⟩
  ·obtain ⟨r,hr⟩:∃ r,cs[k]? = some r:=by
    try clear hr
    cases hq:cs[k]? with
    | none=>have hk':(cs[k]?).any (·.contains k) = true:=hk; replace hk':=(hq) ▸ hk'; cases hk'
    | some r=>exact ⟨r,rfl⟩
   obtain ⟨_,bm,h2,h3⟩:=hX k _ (List.getElem?_eq_getElem (Nat.lt_of_lt_of_le (List.getElem?_eq_some_iff.mp hr).1 hcs:k < (ownsOf p).length))
   try clear k; try clear hlt
   refine ⟨bm,h2,fun x j h=>?_⟩
   try clear h2; try clear bm; try clear cs; try clear r
   cases gl_inv ok h with
   | exc hd _=>exact h3 j _ hd
   | cls _ e=>cases e
   | bi _ h=>exact absurd h Bool.false_ne_true
  ·have hk:=cls_inv ok h
   refine ea1_2 hk ?_
   try clear hk
   intro k hk e
   cases e
   obtain ⟨_,P⟩:=hK k hk
   try clear hK
   rw [hk] at hko
   replace hko:=Bool.and_eq_true_iff.mp (show kOk k = true from hko)
   refine ea0_2 (hko) fun hko ki=>?_
   obtain ⟨ks,km⟩:=Bool.and_eq_true_iff.mp hko
   try clear hko
   have hmeth:∀ (j:Nat) m,k.meths[j]? = some m→mN m.name = some (.ref (c.fad ((recsOf p).length + j)))∧(∃ o,s.heap.get? (c.fad ((recsOf p).length + j)) = some o∧o.cls = .type "function")∧∃ fn,c.P.fns ((recsOf p).length + j) = some fn:=fun j m hj=>by
    have hX:(recsX p loose)[(recsOf p).length + j]? = some (mRec m):=by
     unfold recsX
     rw [List.getElem?_append_right (Nat.le_add_right _ _),Nat.add_sub_cancel_left,hk]
     show (k.meths.map mRec)[j]? = _
     rw [List.getElem?_map,hj]; rfl
    obtain ⟨⟨_,o,_,_,_,e1,_,_,_,e5⟩,_⟩:=hF _ _ hX
    try clear hF
    obtain ⟨e6,e7⟩:=e5 (Nat.le_add_right _ _)
    try clear e5
    exact ⟨e6,⟨o,e1,e7⟩,has _ _ hX⟩
   obtain ⟨mi,hmi,hni⟩:∃ mi,k.meths[initAt k]? = some mi∧mi.name = "__init__":=by
    refine ea1_2 (List.any_eq_true.mp ki) ?_
    intro m h1 h2
    try clear ki
    have hlt:k.meths.findIdx (fun m=>m.name == ("__init__":Str)) < k.meths.length:=List.findIdx_lt_length.mpr ⟨m,h1,h2⟩
    exact ⟨k.meths[initAt k]'hlt,List.getElem?_eq_getElem hlt,eq_of_beq (List.findIdx_getElem (w:=hlt))⟩
   refine ea0_3 (hmeth _ mi hmi) ?_
   intro i1 i2 i3
   try clear mi; try clear hmi
   refine ⟨P.cls,P.quiet _ (.head _),P.quiet _ (.tail _ (.head _)),P.quiet _ (.tail _ (.tail _ (.head _))),fun n hn=>⟨P.quiet n (List.mem_append_right _ hn),?_⟩,fun n g e=>?_,hni ▸ i1,i2,i3⟩
   ·have:=List.all_eq_true.mp ks n hn
    try clear i3; try clear i2; try clear i1; try clear __init__; try clear initAt; try clear hni; try clear km; try clear ks; try clear P; try clear e; try clear hk; try clear k
    cases hq:fastLookup "object" n with
    | none=>replace this:=(hq) ▸ this; cases this
    | some y =>
     cases y with
     | none=>exact look_obj hq
     | some y=>replace this:=(hq) ▸ this; cases this
   ·replace p:=idx_lookup (f:=fun m:MethRec=>m.name) (g:=fun j=>(recsOf p).length + j) e
    refine ea2_3 p ?_
    try clear p
    intro j m q_3 hj q_5
    subst q_3
    subst q_5
    try clear e
    refine ea0_3 (hmeth j m hj) ?_
    intro m1 m2 m3
    try clear j
    obtain ⟨y,hy⟩:=Option.isSome_iff_exists.mp (List.all_eq_true.mp km m (List.mem_of_getElem? hj))
    try clear Option; try clear km; try clear m; try clear hj
    exact ⟨m1,m2,⟨y,look_obj hy⟩,m3⟩
  ·cases gl_inv ok h with
   | fn hd e =>
    subst e
    exact (hF _ _ (inX _ _ hd)).2 (List.getElem?_eq_some_iff.mp hd).1
   | exc hd e =>
    subst e
    refine ea0_2 (hX _ _ hd) fun h1 q_=>ea1_1 q_ fun bm q_=>ea0_2 q_ fun _ h3=>?_
    exact ⟨h1,(h3 _ _ hd).symm.trans (by simp)⟩
   | cls hk e =>
    cases e
    exact (hK _ hk).1
   | cst h1=>exact cst_ok T h1
   | bi hl hb =>
    refine ea0_3 (hbis x g hl) ?_
    intro _ h2 h3
    cases g with
    | bi b=>exact ⟨h2,h3.trans (boot_bi hb)⟩
    | ty b=>exact ⟨h2,h3.trans (boot_ty hb)⟩
    | _=>exact absurd hb Bool.false_ne_true
  ·refine ea1_2 (fns g fn h) ?_
   intro d hd _
   try clear fns
   obtain ⟨⟨_,o,pm,code,doc,e1,e2,_⟩,_⟩:=hF g d hd
   try clear hF; try clear d; try clear hd
   exact ⟨o,e1,e2⟩
 have sc:=sc_all (n:=n) C hf (fun g fn h=>by
  refine ea1_2 (fns g fn h) ?_
  intro d hd hfn
  try clear fns
  obtain ⟨⟨qual,o,pm,code,doc,e1,e2,e3,e4,_⟩,_⟩:=hF g d hd
  try clear hF; try clear d; try clear hd
  exact fok_of (qual:=qual) hfn e3 e4)
 obtain ⟨fn,hfn⟩:=hfn
 have hfs:c.P.fns f = some fn:=by show ((recsX p loose)[f]?).bind _ = _; exact (inX _ _ hd) ▸ hfn
 have hfa':c.fad f = fa:=by
  have:=(hF f d (inX _ _ hd)).2 (List.getElem?_eq_some_iff.mp hd).1
  replace this:=(hfa).symm.trans this
  try clear hfs; try clear fn; try clear hfn
  cases this; rfl
 have S:SR c [] [] [] s:=⟨rfl,fun _ _ e=>e,hg,rfl,(fun _ _ e=>nomatch e),(fun _ _ _ e=>nos e),fm0⟩
 have hv:∀ {vs:List Value} {zs:List Int},IntsAre vs zs→VRs c [] [] s.heap (zs.map V.int) vs:=fun {vs zs} h=>ints_vrs h
 have hbl:(zs.map V.int).length ≤ bnd:=by
  rw [List.length_map]
  have:(63:Nat) ≤ bnd:=by decide
  lia
 have h1:recursionLimit = 1000:=rfl
 have h2:claimMargin ≤ 300:=by decide
 have aok:ACk c callerA n:=⟨rfl,(by simp only [callerA]; lia),(by simp only [callerA,cLine]; lia)⟩
 have run:=sc.run hfs aok ⟨[],rfl,fun _ h=>nomatch h⟩ S (.cons (.lst (by simp) (by simp) hl (hv hi) hbl) .nil) hlaw
 subst hfa'
 refine wpAny_mono run (fun y s' r=>?_) fun _ _ e=>e.none.elim
 try clear run; try clear aok; try clear S
 obtain ⟨v,H',as',e,S',k,hv,rfl⟩:=r
 try clear e; try clear as'; try clear H'; try clear v; try clear k
 cases hv.inv
 exact hR s' S'.stays S'.os S'.gens
theorem top_law2 {p prog:Program} {w:World} {loose:List Str} {mean:ExcName→Option Value} {mg mb:Str→Option Value} {s:Shared} {bis:List (Str × Gl)} {csts:List (Str × V)} {mu:List (Nat × Nat)} {fz:List (Nat × List Nat)} {l:Addr} {items:Array Value} {zs:List Int} {nm:Str} {f n:Nat} {fa:Addr} {fns:List Fn} {cs:List (List Nat)}
  {Q E:Value→Shared→Prop}
  (T:Top p loose mean mg mb s.heap) (TC:TopC p loose mg s.heap) (hko:(kOf p loose).all kOk = true) (ok:TopOk p loose csts bis) (Y:XSays (ownsOf p) cs s.heap) (hcs:cs.length ≤ (ownsOf p).length) (hg:s.gens = #[]) (hfns:(recsX p loose).map (fnOf (glAll p loose csts bis) mu fz) = fns.map some) (hnm:((recsOf p)[f]?).map (·.name) = some nm) (hfa:mg nm = some (.ref fa))
  (hl:s.heap.PlainList l items) (hi:IntsAre items.toList zs) (hlen:zs.length ≤ 63) (hn:n ≤ 300)
  (hlaw:callF (progX fns cs) n f [.lst (zs.map V.int)] [] (fun v _=>v = .bool true) (fun _ _=>False))
  (hR:∀ s',(∀ b o,s.heap.get? b = some o→s'.heap.get? b = some o)→s'.os = s.os→s'.gens = #[]→Q (.bool true) s') :
  wpAny (model prog w) callerA (call (.ref fa) [.ref l]) Q E s:=by
 have hP:progOf (recsX p loose) (glAll p loose csts bis) mu fz cs = progX fns cs:=by
  unfold progOf progX
  congr 1
  funext i
  have h:=congrArg (·[i]?) hfns
  simp only [List.getElem?_map] at h
  cases h1:(recsX p loose)[i]? with
  | none =>
   rw [h1] at h
   cases h2:fns[i]? with
   | none=>rfl
   | some fn=>replace h:=(h2) ▸ h; exact nos h
  | some d =>
   rw [h1] at h
   cases h2:fns[i]? with
   | none=>replace h:=(h2) ▸ h; cases h
   | some fn=>rw [h2] at h; exact Option.some.inj h
 refine ea1_2 (Option.map_eq_some_iff.mp hnm) ?_
 intro d hd hdn
 have hall:∀ d ∈ recsX p loose,∃ fn,fnOf (glAll p loose csts bis) mu fz d = some fn:=fun d hd=>by
  have h:=List.mem_map_of_mem (f:=fnOf (glAll p loose csts bis) mu fz) hd
  rw [hfns] at h
  replace h:=List.mem_map.mp h
  refine ea1_2 h ?_
  intro fn _ h
  exact ⟨fn,h.symm⟩
 subst hdn
 exact top_law T TC hko ok Y hcs hg hd hfa (hall d (List.mem_append_left _ (List.mem_of_getElem? hd))) hall hl hi hlen hn (hP ▸ hlaw) hR
end Mine
end
noncomputable section
namespace Mine
open PySem
theorem forL_inv {F:V→Fm→AH→KS→Prop} {ok:AH→Prop} {K:KS} (Inv:List V→Fm→AH→Prop) (step:∀ v vs ρ H,Inv (v :: vs) ρ H→ok H∧∀ K':KS,(∀ ρ' H',Inv vs ρ' H'→K' ρ' H')→F v ρ H K') (fin:∀ ρ H,Inv [] ρ H→ok H∧K ρ H) :
  ∀ {items:List V} {ρ:Fm} {H:AH},Inv items ρ H→forL F ok items ρ H K
 | [],ρ,H,i=>fin ρ H i
 | v :: vs,ρ,H,i=>⟨(step v vs ρ H i).1,(step v vs ρ H i).2 _ fun _ _ i'=>forL_inv Inv step fin i'⟩
section
variable {P:Prog} {H:AH} {Q:QE} {a b:Int}
theorem pm_add:primM P false (.bop .add) [.int a,.int b] H = some (.int (a + b),H):=rfl
theorem pm_sub:primM P false (.bop .sub) [.int a,.int b] H = some (.int (a - b),H):=rfl
theorem pm_mul (ha:-10 ^ 12 ≤ a∧a ≤ 10 ^ 12) (hb:-10 ^ 12 ≤ b∧b ≤ 10 ^ 12):primM P false (.bop .mul) [.int a,.int b] H = some (.int (a * b),H):=by
 show (int2 mulI (.int a) (.int b)).map _ = _
 have h1:smallInt a = true:=decide_eq_true ha
 have h2:smallInt b = true:=decide_eq_true hb
 show Option.map _ (Option.map V.int (if (smallInt a && smallInt b) = true then some (a * b) else none)) = _
 rw [h1,h2]; rfl
theorem pm_mod (hb:0 < b):primM P false (.bop .mod) [.int a,.int b] H = some (.int (a % b),H):=by
 show Option.map _ (Option.map V.int (if 0 < b then some (a % b) else none)) = _
 rw [if_pos hb]; rfl
theorem pm_fdiv (hb:0 < b) (hb':b ≤ 10 ^ 12):primM P false (.bop .fdiv) [.int a,.int b] H = some (.int (a / b),H):=by
 show Option.map _ (Option.map V.int (if 0 < b∧b ≤ 10 ^ 12 then some (a / b) else none)) = _
 rw [if_pos ⟨hb,hb'⟩]; rfl
theorem pm_adds {x y:List Char} (h:x.length + y.length ≤ sizeOf'):primM P false (.bop .add) [.str x,.str y] H = some (.str (x ++ y),H):=by
 show Option.map _ (if x.length + y.length ≤ sizeOf' then some (V.str (x ++ y)) else none) = _
 rw [if_pos h]; rfl
theorem pm_addt {x y:List V} (h:x.length + y.length ≤ sizeOf'):primM P false (.bop .add) [.tup x,.tup y] H = some (.tup (x ++ y),H):=by
 show Option.map _ (if x.length + y.length ≤ sizeOf' then some (V.tup (x ++ y)) else none) = _
 rw [if_pos h]; rfl
theorem pm_addl {x y:List V} (h:x.length + y.length ≤ sizeOf'):primM P false (.bop .add) [.lst x,.lst y] H = some (.lst (x ++ y),H):=by
 show Option.map _ (if x.length + y.length ≤ sizeOf' then some (V.lst (x ++ y)) else none) = _
 rw [if_pos h]; rfl
theorem pm_lt:primM P false (.cop .lt) [.int a,.int b] H = some (.bool (decide (a < b)),H):=rfl
theorem pm_le:primM P false (.cop .le) [.int a,.int b] H = some (.bool (decide (a ≤ b)),H):=rfl
theorem pm_gt:primM P false (.cop .gt) [.int a,.int b] H = some (.bool (decide (b < a)),H):=rfl
theorem pm_eq {x y x' y':V} (h1:rd H x = some x') (h2:rd H y = some y'):primM P false (.cop .eq) [x,y] H = some (.bool (eqV x' y'),H):=by
 show Option.map _ ((rd H x).bind fun x=>(rd H y).map fun y=>eqV x y) = _
 rw [h1,h2]; rfl
theorem pm_ne {x y x' y':V} (h1:rd H x = some x') (h2:rd H y = some y'):primM P false (.cop .ne) [x,y] H = some (.bool (!eqV x' y'),H):=by
 show Option.map _ (Option.map _ ((rd H x).bind fun x=>(rd H y).map fun y=>eqV x y)) = _
 rw [h1,h2]; rfl
theorem rd_int:rd H (.int a) = some (.int a):=rfl
theorem rd_bool {t:Bool}:rd H (.bool t) = some (.bool t):=rfl
theorem rd_str {s:List Char}:rd H (.str s) = some (.str s):=rfl
theorem rd_lst0 {vs:List V} (h1:V.datas vs = true) (h2:V.depths vs = 0):rd H (.lst vs) = some (.lst vs):=by
 show (if (V.datas vs && decide (V.depths vs + 1 ≤ 50)) = true then some (V.lst vs) else none) = _
 rw [h1,h2]; rfl
theorem rd_nil:rd H (.lst []) = some (.lst []):=rfl
theorem pm_not {t:Bool}:primM P false .not [.bool t] H = some (.bool !t,H):=rfl
theorem pm_neg:primM P false .neg [.int a] H = some (.int (-a),H):=rfl
theorem pm_lenl {xs:List V}:primM P false .len [.lst xs] H = some (.int xs.length,H):=rfl
theorem pm_lens {xs:List Char}:primM P false .len [.str xs] H = some (.int xs.length,H):=rfl
theorem pm_min:primM P false .min [.int a,.int b] H = some (.int (min a b),H):=rfl
theorem pm_range1 (h:-10 ^ 12 ≤ b∧b ≤ 10 ^ 12):primM P false .range1 [.int b] H = some (.rng 0 b,H):=by
 exact if_pos (decide_eq_true h:smallInt b = true)
theorem pm_range2 (ha:-10 ^ 12 ≤ a∧a ≤ 10 ^ 12) (h:-10 ^ 12 ≤ b∧b ≤ 10 ^ 12):primM P false .range2 [.int a,.int b] H = some (.rng a b,H):=by
 have h1:smallInt b = true:=decide_eq_true h
 have h2:smallInt a = true:=decide_eq_true ha
 show (if (smallInt a && smallInt b) = true then some (V.rng a b,H) else none) = _
 rw [h1,h2]; rfl
theorem pm_listr (h:(b - a).toNat ≤ sizeOf'):primM P false .list [.rng a b] H = some (.lst (rngL a b),H):=by
 show Option.map _ (if (b - a).toNat ≤ sizeOf' then some (V.lst (rngL a b)) else none) = _
 rw [if_pos h]; rfl
theorem pm_mkl {vs:List V} (h:vs.length ≤ sizeOf'):primM P false .mklist vs H = some (.lst vs,H):=by
 exact if_pos h
theorem pM_mkl {vs:List V} (h:vs.length ≤ sizeOf'):primM P true .mklist vs H = some (.ref H.length,H ++ [.list vs]):=by
 show (if vs.length ≤ sizeOf' then some (V.lst vs,H) else none).bind _ = _
 rw [if_pos h]; rfl
theorem pm_mkt {vs:List V} (h:vs.length ≤ sizeOf'):primM P false .mktup vs H = some (.tup vs,H):=by
 exact if_pos h
theorem pm_append {i:Nat} {vs:List V} {x:V} (h:H[i]? = some (.list vs)) (hl:vs.length ≤ sizeOf'):primM P false .append [.ref i,x] H = some (.none,H.set i (.list (vs ++ [x]))):=by
 show ((H[i]?.bind O.lst).bind _).bind _ = _
 rw [h]
 exact if_pos hl
theorem pm_pop {i:Nat} {vs:List V} {x:V} (h:H[i]? = some (.list (vs ++ [x]))) (hl:vs.length + 1 ≤ sizeOf'):primM P false .pop [.ref i] H = some (x,H.set i (.list vs)):=by
 show ((H[i]?.bind O.lst).bind _).bind _ = _
 rw [h]
 show (if (vs ++ [x]).length ≤ sizeOf' then _ else _) = _
 rw [List.length_append,List.length_singleton,if_pos hl,List.getLast?_append,List.dropLast_concat]; rfl
theorem ty_list {i:Nat} {vs:List V} (h:H[i]? = some (.list vs)):hasTy H (.ref i) .list = true:=by show (H[i]?.bind O.lst).isSome = _; rw [h]; rfl
theorem hE {p:Option (V × AH)} {v:V} {H':AH} (e:p = some (v,H')) (q:Q v H'):okE p Q:=by subst e; exact q
theorem sz (n:Nat) (h:n ≤ 1000):n ≤ sizeOf':=Nat.le_trans h (by decide)
end
noncomputable def keepInt (p:Int→Bool):V→Option V
 | .int z=>if p z then some (.int z) else none
 | _=>none
section
variable {P:Prog} {C:Calls} {ρ:Fm} {H:AH} {K:KS} {R:QE} {X:XE} {ss:List St}
theorem st_asg {i:Nat} {e:Ex} (h:wpE P C e ρ H (fun v H'=>i < ρ.length∧wpSs P C ss (ρ.set i (some v)) H' K R X) X):wpSs P C (.asg i e :: ss) ρ H K R X:=h
theorem st_expr {e:Ex} (h:wpE P C e ρ H (fun _ H'=>wpSs P C ss ρ H' K R X) X):wpSs P C (.expr e :: ss) ρ H K R X:=h
theorem st_ret {e:Ex} (h:wpE P C e ρ H R X):wpSs P C (.ret e :: ss) ρ H K R X:=h
theorem st_nil (h:K ρ H):wpSs P C [] ρ H K R X:=h
theorem st_for {rev:Bool} {tgt:Nat ⊕ List Nat} {e:Ex} {body:List St} (h:wpE P C e ρ H (fun v H₁=>∃ items,srcD rev H₁ v = some items∧items.length ≤ sizeOf' ∧
   forL (fun x ρ' H' K'=>match setTgt ρ' tgt x with | some ρ''=>wpSs P C body ρ'' H' K' R (fun _ _=>False) | none=>False)
    (fun H'=>srcD rev H' v = some items) items ρ H₁ (fun ρ' H'=>wpSs P C ss ρ' H' K R X)) X):wpSs P C (.forIn rev tgt e body :: ss) ρ H K R X:=h
theorem it_t {p q:Prop} (h:p):if true = true then p else q:=by exact h
theorem it_f {p q:Prop} (h:q):if false = true then p else q:=by exact h
end
end Mine
end
noncomputable section
namespace Mine
open PySem
section
variable {P:Prog} {H:AH} {Q:QE} {a b:Int}
theorem hc_le {K:Bool→Prop} (q:K (decide (a ≤ b))):okB (cmpop .le (.int a) (.int b) H) K:=q
theorem pm_intb {t:Bool}:primM P false .int [.bool t] H = some (.int (if t then 1 else 0),H):=rfl
theorem bools_map:∀ bs:List Bool,bools? (bs.map V.bool) = some bs
 | []=>rfl
 | b :: bs=>by show (bools? (bs.map V.bool)).map _ = _; rw [bools_map bs]; rfl
theorem pm_all {bs:List Bool}:primM P false .all [.lst (bs.map V.bool)] H = some (.bool (bs.all id),H):=by
 show (bools? (bs.map V.bool)).map _ = _
 rw [bools_map]; rfl
theorem pm_pick {xs:List V} {i:Int} (h0:0 ≤ i) (h1:i < xs.length):∃ v,v ∈ xs∧primM P false .item [.lst xs,.int i] H = some (v,H):=by
 have h2:i.toNat < xs.length:=by lia
 refine ⟨xs[i.toNat],List.getElem_mem h2,?_⟩
 show ((idx xs.length i).bind _).map _ = _
 simp only [Option.bind_some,idx,h0,h1,if_true,List.getElem?_eq_getElem h2,Option.map_some]
end
noncomputable def atom:V→Prop
 | .none | .bool _ | .int _ | .str _=>True
 | _=>False
noncomputable def good:V→Prop
 | .none | .bool _ | .int _ | .str _ | .lst _ | .dct _ _=>True
 | .tup vs=>∀ v ∈ vs,atom v
 | _=>False
theorem datas_atoms:∀ {vs:List V},(∀ v ∈ vs,atom v)→V.datas vs = true∧V.depths vs = 0
 | [],_=>⟨rfl,rfl⟩
 | v :: vs,h=>by
  obtain ⟨h1,h2⟩:=datas_atoms fun w hw=>h w (.tail _ hw)
  have ha:=h v (.head _)
  refine ⟨?_,?_⟩
  ·show (V.data v && V.datas vs) = true
   rw [h1]
   cases v <;> first | exact ha.elim | rfl
  ·show max (V.depth v) (V.depths vs) = 0
   rw [h2]
   cases v <;> first | exact ha.elim | rfl
theorem rd_lst {vs:List V} {H:AH} (h:∀ v ∈ vs,atom v):rd H (.lst vs) = some (.lst vs):=by
 exact rd_lst0 (datas_atoms h).1 (datas_atoms h).2
end Mine
end
noncomputable section
namespace Mine
open PySem
section
variable {P:Prog} {H:AH} {Q:QE} {a b:Int}
theorem pm_l0 {v:V} {vs:List V}:primM P false .item [.lst (v :: vs),.int 0] H = some (v,H):=by
 show ((idx (v :: vs).length 0).bind _).map _ = _
 have:(0:Int) < ((v :: vs).length:Nat):=by simp only [List.length_cons]; lia
 simp only [idx,Int.le_refl,this,if_true,Option.bind_some,Int.toNat_zero,List.getElem?_cons_zero,Option.map_some]
theorem pm_sl_s {s:List Char} (h:s.length ≤ sizeOf'):primM P false .slice [.str s,.none,.int b] H = some (.str (sliceL s 0 (clip s.length b)),H):=by
 show Option.map _ (if s.length ≤ sizeOf' then _ else _) = _
 rw [if_pos h]; rfl
theorem pm_sl_s' {s:List Char} (h:s.length ≤ sizeOf'):primM P false .slice [.str s,.int a,.none] H = some (.str (sliceL s (clip s.length a) s.length),H):=by
 show Option.map _ (if s.length ≤ sizeOf' then _ else _) = _
 rw [if_pos h]; rfl
theorem pm_sl_l' {s:List V} (h:s.length ≤ sizeOf'):primM P false .slice [.lst s,.int a,.none] H = some (.lst (sliceL s (clip s.length a) s.length),H):=by
 show Option.map _ (if s.length ≤ sizeOf' then _ else _) = _
 rw [if_pos h]; rfl
theorem pm_lenr {i:Nat} {vs:List V} (h:H[i]? = some (.list vs)):primM P false .len [.ref i] H = some (.int vs.length,H):=by
 show (lenO _ (H[i]?.bind O.lst)).map _ = _
 rw [h]; rfl
theorem okD_of {vs:List V} (h2:V.datas vs = true) (h3:V.depths vs ≤ 50):okD vs = true:=by
 show (V.datas vs && decide (V.depths vs ≤ 50)) = true
 simp only [h2,decide_eq_true h3]; rfl
end
mutual
theorem eqV_self:∀ v:V,v.data = true→eqV v v = true
 | .none,_=>rfl
 | .bool b,_=>beq_self_eq_true b
 | .int i,_=>beq_self_eq_true i
 | .str s,_=>beq_self_eq_true s
 | .tup vs,h=>eqVs_self vs h
 | .lst vs,h=>eqVs_self vs h
 | .dct _ _,h=>nomatch h
 | .rng _ _,h=>nomatch h
 | .ref _,h=>nomatch h
theorem eqVs_self:∀ vs:List V,V.datas vs = true→eqVs vs vs = true
 | [],_=>rfl
 | v :: vs,h=>by
  have h':(V.data v && V.datas vs) = true:=h
  simp only [Bool.and_eq_true] at h'
  show (eqV v v && eqVs vs vs) = true
  simp only [eqV_self v h'.1,eqVs_self vs h'.2]
  rfl
end
section
variable {P:Prog} {C:Calls} {ρ:Fm} {H:AH} {K:KS} {R:QE} {X:XE} {E:XE} {ss:List St} {a b c:Ex} {v x y z:V} {s t:Bool}
noncomputable def Ev (P:Prog) (C:Calls) (ρ:Fm) (H:AH) (X:XE) (e:Ex) (v:V):Prop:=∀ Q:QE,Q v H→wpE P C e ρ H Q X
theorem ev_eq {e:Ex} (h:Ev P C ρ H X e v) (q:v = x):Ev P C ρ H X e x:=q ▸ h
theorem ev_cst:Ev P C ρ H X (.cst v) v:=fun _ q=>q
theorem ev_var {i:Nat} (h:ρ[i]? = some (some v)):Ev P C ρ H X (.var i) v:=fun Q q=>by simp only [wpE_var,h]; exact q
theorem ev_p1 {p:Prim} (h:Ev P C ρ H X a x) (e:primM P false p [x] H = some (z,H)):Ev P C ρ H X (.prim false p [a]) z:=fun _ q=>h _ (hE e q)
theorem ev_p2 {p:Prim} (h:Ev P C ρ H X a x) (h2:Ev P C ρ H X b y) (e:primM P false p [x,y] H = some (z,H)):Ev P C ρ H X (.prim false p [a,b]) z:=fun _ q=>h _ (h2 _ (hE e q))
theorem ev_p3 {p:Prim} {u:V} (h:Ev P C ρ H X a x) (h2:Ev P C ρ H X b y) (h3:Ev P C ρ H X c u) (e:primM P false p [x,y,u] H = some (z,H)):Ev P C ρ H X (.prim false p [a,b,c]) z:=fun _ q=>h _ (h2 _ (h3 _ (hE e q)))
theorem ev_not (h:Ev P C ρ H X a (.bool s)):Ev P C ρ H X (.prim false .not [a]) (.bool !s):=ev_p1 h pm_not
theorem ev_or (h:Ev P C ρ H X a (.bool s)) (h2:s = false→Ev P C ρ H X b (.bool t)):Ev P C ρ H X (.or a b) (.bool (s || t)):=fun Q q=>h _ (by
 cases s with
 | true=>exact q
 | false=>exact h2 rfl Q q)
theorem ev_and (h:Ev P C ρ H X a (.bool s)) (h2:s = true→Ev P C ρ H X b (.bool t)):Ev P C ρ H X (.and a b) (.bool (s && t)):=fun Q q=>h _ (by
 cases s with
 | false=>exact q
 | true=>exact h2 rfl Q q)
theorem ev_in {i j k:Int} (h:Ev P C ρ H X a (.int i)) (h2:Ev P C ρ H X b (.int j)) (h3:Ev P C ρ H X c (.int k)):Ev P C ρ H X (.cmp2 a .le b .le c) (.bool (decide (i ≤ j) && decide (j ≤ k))):=fun Q q=>h _ (h2 _ (hc_le (by
 cases hd:decide (i ≤ j) with
 | false=>rw [hd] at q; exact it_f q
 | true=>rw [hd] at q; exact it_t (h3 _ (hc_le q)))))
theorem ev_call1 {f:Nat} (h:Ev P C ρ H X a x) (hc:∀ Q:QE,Q v H→C f [x] H Q X):Ev P C ρ H X (.call f [a]) v:=fun Q q=>h _ (hc Q q)
theorem ev_call2 {f:Nat} (h:Ev P C ρ H X a x) (h2:Ev P C ρ H X b y) (hc:∀ Q:QE,Q v H→C f [x,y] H Q X):Ev P C ρ H X (.call f [a,b]) v:=fun Q q=>h _ (h2 _ (hc Q q))
theorem ev_call3 {f:Nat} (h:Ev P C ρ H X a x) (h2:Ev P C ρ H X b y) (h3:Ev P C ρ H X c z) (hc:∀ Q:QE,Q v H→C f [x,y,z] H Q X):Ev P C ρ H X (.call f [a,b,c]) v:=fun Q q=>h _ (h2 _ (h3 _ (hc Q q)))
theorem ev_ret {e:Ex} (h:Ev P C ρ H E e v) (q:R v H):wpSs P C (.ret e :: ss) ρ H K R E:=h _ q
theorem ev_asg {i:Nat} {e:Ex} (h:Ev P C ρ H E e v) (hi:i < ρ.length) (k:wpSs P C ss (ρ.set i (some v)) H K R E):wpSs P C (.asg i e :: ss) ρ H K R E:=h _ ⟨hi,k⟩
theorem ev_ite {as bs:List St} (h:Ev P C ρ H E c (.bool s)) (yes:s = true→wpSs P C as ρ H (fun ρ' H'=>wpSs P C ss ρ' H' K R E) R E) (no:s = false→wpSs P C bs ρ H (fun ρ' H'=>wpSs P C ss ρ' H' K R E) R E):wpSs P C (.ite c as bs :: ss) ρ H K R E:=h _ (by
 cases s with
 | false=>exact no rfl
 | true=>exact yes rfl)
end
end Mine
end
noncomputable section
namespace Mine
open PySem
noncomputable def fn0:Fn:=⟨1,0,[(.while_ (.cst (.bool true)) [.pass])]⟩
noncomputable def fn1:Fn:=⟨3,0,[(.ret (.and (.prim false (.isinst .int) [.var 0]) (.and (.prim false .not [(.prim false (.isinst .bool) [.var 0])]) (.cmp2 (.var 1) .le (.var 0) .le (.var 2)))))]⟩
noncomputable def fn2:Fn:=⟨1,0,[(.ite (.or (.prim false .not [(.prim false (.isinst .str) [.var 0])]) (.prim false .not [(.cmp2 (.cst (.int 1)) .le (.prim false .len [.var 0]) .le (.cst (.int 8)))])) [(.ret (.cst (.bool false)))] []),
 (.ret (.prim false .all [(.comp false (.prim false (.cop .in_) [.var 1,.cst (.str ['a','b','c','d','e','f','g','h','i','j','k','l','m','n','o','p','q','r','s','t','u','v','w','x','y','z'])]) (.var 0) none)]))]⟩
noncomputable def fn3:Fn:=⟨1,0,[(.ite (.prim false .not [(.prim false (.isinst .tuple) [.var 0])]) [(.ret (.cst (.bool false)))] []),
 (.ite (.prim false (.cop .eq) [(.prim false .len [.var 0]),.cst (.int 2)]) [(.ret (.and (.prim false (.cop .eq) [(.prim false .item [.var 0,.cst (.int 0)]),.cst (.str ['a','d','d'])]) (.call 1 [(.prim false .item [.var 0,.cst (.int 1)]),(.prim false (.bop .sub) [.cst (.int 0),.cst (.int 1000000000)]),.cst (.int 1000000000)])))] []),
 (.ret (.or (.prim false (.cop .eq) [.var 0,(.prim false .mktup [.cst (.str ['f','a','u','l','t'])])]) (.prim false (.cop .eq) [.var 0,(.prim false .mktup [.cst (.str ['l','e','a','v','e'])])])))]⟩
noncomputable def fn4:Fn:=⟨1,0,[(.ite (.or (.prim false .not [(.prim false (.isinst .tuple) [.var 0])]) (.or (.prim false (.cop .ne) [(.prim false .len [.var 0]),.cst (.int 3)]) (.prim false (.cop .ne) [(.prim false .item [.var 0,.cst (.int 0)]),.cst (.str ['w','o','r','k','e','r'])]))) [(.ret (.cst (.bool false)))] []),
 (.ret (.and (.call 2 [(.prim false .item [.var 0,.cst (.int 1)])]) (.prim false (.cop .in_) [(.prim false .item [.var 0,.cst (.int 2)]),(.prim false .mktup [.cst (.str ['a','l','w','a','y','s']),.cst (.str ['f','a','u','l','t','e','d']),.cst (.str ['n','e','v','e','r'])])])))]⟩
noncomputable def fn5:Fn:=⟨1,0,[(.ite (.or (.prim false .not [(.prim false (.isinst .tuple) [.var 0])]) (.or (.prim false (.cop .ne) [(.prim false .len [.var 0]),.cst (.int 6)]) (.prim false (.cop .ne) [(.prim false .item [.var 0,.cst (.int 0)]),.cst (.str ['w','a','r','d','e','n'])]))) [(.ret (.cst (.bool false)))] []),
 (.ite (.or (.prim false .not [(.call 2 [(.prim false .item [.var 0,.cst (.int 1)])])]) (.prim false (.cop .notin) [(.prim false .item [.var 0,.cst (.int 2)]),(.prim false .mktup [.cst (.str ['o','n','e']),.cst (.str ['r','e','s','t']),.cst (.str ['a','l','l'])])])) [(.ret (.cst (.bool false)))] []),
 (.ite (.or (.prim false .not [(.call 1 [(.prim false .item [.var 0,.cst (.int 3)]),.cst (.int 0),.cst (.int 1000000000)])]) (.prim false .not [(.call 1 [(.prim false .item [.var 0,.cst (.int 4)]),.cst (.int 1),.cst (.int 1000000000)])])) [(.ret (.cst (.bool false)))] []),
 (.ret (.and (.prim false (.isinst .tuple) [(.prim false .item [.var 0,.cst (.int 5)])]) (.cmp2 (.cst (.int 1)) .le (.prim false .len [(.prim false .item [.var 0,.cst (.int 5)])]) .le (.cst (.int 8)))))]⟩
noncomputable def fn6:Fn:=⟨1,4,[(.ite (.prim false .not [(.call 5 [.var 0])]) [(.ret (.cst (.bool false)))] []),
 (.asg 1 (.prim true .mklist [(.prim false .mktup [.var 0,.cst (.int 0)])])),
 (.asg 2 (.prim true (.mkdict []) [])),
 (.while_ (.prim false (.cop .gt) [(.prim false .len [.var 1]),.cst (.int 0)]) [(.asgTup [3,4] (.mcall .list false .pop (.var 1) [])),
 (.ite (.or (.prim false (.cop .gt) [.var 4,.cst (.int 6)]) (.and (.prim false .not [(.call 4 [.var 3])]) (.prim false .not [(.call 5 [.var 3])]))) [(.ret (.cst (.bool false)))] []),
 (.ite (.or (.prim false (.cop .in_) [(.prim false .item [.var 3,.cst (.int 1)]),.var 2]) (.prim false (.cop .eq) [(.prim false .len [.var 2]),.cst (.int 60)])) [(.ret (.cst (.bool false)))] []),
 (.setItem (.var 2) (.prim false .item [.var 3,.cst (.int 1)]) (.cst (.bool true))),
 (.ite (.call 5 [.var 3]) [(.expr (.mcall .list false .extend (.var 1) [(.comp false (.prim false .mktup [.var 5,(.prim false (.bop .add) [.var 4,.cst (.int 1)])]) (.prim false .item [.var 3,.cst (.int 5)]) none)]))] [])]),
 (.ret (.cst (.bool true)))]⟩
noncomputable def fn7:Fn:=⟨1,2,[(.asg 1 (.prim true .mklist [.var 0])),
 (.ite (.prim false (.cop .eq) [(.prim false .item [.var 0,.cst (.int 0)]),.cst (.str ['w','a','r','d','e','n'])]) [(.forIn false (.inl 2) (.prim false .item [.var 0,.cst (.int 5)]) [(.expr (.mcall .list false .extend (.var 1) [(.call 7 [.var 2])]))])] []),
 (.ret (.var 1))]⟩
noncomputable def fn8:Fn:=⟨3,0,[(.ret (.comp false (.var 3) (.var 0) (some (.prim false (.cop .gt) [.var 3,(.prim false (.bop .sub) [.var 1,.var 2])]))))]⟩
noncomputable def fn9:Fn:=⟨3,0,[(.ite (.prim false (.cop .eq) [.var 0,.cst (.str ['o','n','e'])]) [(.ret (.prim false .mklist [.var 2]))] []),
 (.ite (.prim false (.cop .eq) [.var 0,.cst (.str ['r','e','s','t'])]) [(.ret (.prim false .list [(.prim false .range2 [.var 2,.var 1])]))] []),
 (.ret (.prim false .list [(.prim false .range1 [.var 1])]))]⟩
noncomputable def fn10:Fn:=⟨2,0,[(.ite (.prim false (.cop .lt) [.var 1,(.prim false .len [.var 0])]) [(.ret (.prim false .item [.var 0,.var 1]))] []),
 (.ret (.cst (.int 0)))]⟩
noncomputable def fn11:Fn:=⟨1,0,[(.ret (.and (.prim false (.isinst .int) [.var 0]) (.prim false .not [(.prim false (.isinst .bool) [.var 0])])))]⟩
noncomputable def fn12:Fn:=⟨2,7,[(.asg 2 (.cst (.str ['a','b','c','d','e','f','g','h','i','j','k','l','m','n','o','p','q','r','s','t','u','v','w','x','y','z']))),
 (.asg 3 (.cst (.str []))),
 (.asg 4 (.prim false (.bop .fdiv) [.var 0,.cst (.int 48)])),
 (.forIn false (.inl 5) (.prim false .range1 [.cst (.int 8)]) [(.asg 3 (.prim false (.bop .add) [.var 3,(.prim false .item [.var 2,(.prim false (.bop .mod) [.var 4,.cst (.int 26)])])])),
 (.asg 4 (.prim false (.bop .fdiv) [.var 4,.cst (.int 26)]))]),
 (.asg 6 (.prim false (.bop .mod) [.var 0,.cst (.int 6)])),
 (.ite (.and (.prim false (.cop .eq) [.var 6,.cst (.int 0)]) (.prim false (.cop .lt) [.var 1,.cst (.int 9)])) [(.ret (.comp false (.prim false .slice [.var 3,.cst .none,(.prim false (.bop .add) [.var 9,.cst (.int 1)])]) (.prim false .range1 [.var 1]) none))] []),
 (.ite (.and (.prim false (.cop .eq) [.var 6,.cst (.int 1)]) (.prim false (.cop .lt) [.var 1,.cst (.int 9)])) [(.ret (.comp false (.prim false .slice [.var 3,(.prim false (.bop .sub) [.cst (.int 7),.var 9]),.cst .none]) (.prim false .range1 [.var 1]) none))] []),
 (.asg 3 (.prim false .slice [.var 3,.cst .none,(.prim false (.bop .mod) [(.prim false (.bop .fdiv) [.var 0,.cst (.int 6)]),.cst (.int 7)])])),
 (.ite (.and (.prim false (.cop .lt) [.var 6,.cst (.int 4)]) (.prim false (.cop .lt) [.var 1,.cst (.int 27)])) [(.asg 7 (.prim false .slice [.var 3,.cst .none,(.prim false (.bop .mod) [(.prim false (.bop .fdiv) [.var 0,.cst (.int 5)]),(.prim false (.bop .add) [(.prim false .len [.var 3]),.cst (.int 1)])])])),
 (.asg 8 (.prim false .slice [.var 3,(.prim false .len [.var 7]),.cst .none])),
 (.ret (.comp false (.prim false (.bop .add) [(.prim false (.bop .add) [.var 7,(.prim false .item [.var 2,(.prim false (.bop .mod) [(.prim false (.bop .add) [(.prim false (.bop .fdiv) [.var 0,.cst (.int 7)]),(.prim false (.bop .mul) [.cst (.int 7),.var 9])]),.cst (.int 26)])])]),.var 8]) (.prim false .range1 [.var 1]) none))] []),
 (.ret (.comp false (.prim false (.bop .add) [(.prim false (.bop .add) [.var 3,(.prim false .item [.var 2,(.prim false (.bop .fdiv) [.var 9,.cst (.int 26)])])]),(.prim false .item [.var 2,(.prim false (.bop .mod) [.var 9,.cst (.int 26)])])]) (.prim false .range1 [.var 1]) none))]⟩
noncomputable def fn13:Fn:=⟨1,1,[(.ite (.prim false (.cop .gt) [(.prim false (.bop .mod) [.var 0,.cst (.int 5)]),.cst (.int 2)]) [(.ret (.prim false .item [(.prim false .mklist [(.prim false .mktup [.cst (.str ['f','a','u','l','t'])]),(.prim false .mktup [.cst (.str ['l','e','a','v','e'])])]),(.prim false (.bop .sub) [(.prim false (.bop .mod) [.var 0,.cst (.int 5)]),.cst (.int 3)])]))] []),
 (.asg 1 (.prim false .item [(.prim false .mklist [(.prim false (.bop .sub) [(.prim false (.bop .mod) [(.prim false (.bop .fdiv) [.var 0,.cst (.int 10)]),.cst (.int 9)]),.cst (.int 4)]),(.prim false (.bop .sub) [(.prim false (.bop .mod) [(.prim false (.bop .fdiv) [.var 0,.cst (.int 10)]),(.prim false (.bop .add) [(.prim false (.bop .mul) [.cst (.int 2),(.prim false (.bop .pow) [.cst (.int 10),.cst (.int 9)])]),.cst (.int 1)])]),(.prim false (.bop .pow) [.cst (.int 10),.cst (.int 9)])])]),(.prim false .int [(.prim false (.cop .eq) [(.prim false (.bop .mod) [.var 0,.cst (.int 5)]),.cst (.int 2)])])])),
 (.ret (.prim false .mktup [.cst (.str ['a','d','d']),.var 1]))]⟩
noncomputable def fn14:Fn:=⟨2,7,[(.asg 2 (.prim true .mklist [(.prim true (.mkdict [['u','p'],['w','a','r','d','e','n'],['d','e','e','p'],['i','n','n','e','r'],['c','e','l','l']]) [(.prim false .neg [.cst (.int 1)]),.cst (.bool true),.cst (.int 1),(.prim true .mklist []),(.call 10 [.var 0,.cst (.int 2)])])])),
 (.forIn false (.inl 3) (.prim false .range2 [.cst (.int 1),.var 1]) [(.asg 4 (.prim false (.bop .add) [(.call 10 [.var 0,(.prim false (.bop .add) [.cst (.int 3),(.prim false (.bop .mod) [.var 3,.cst (.int 10)])])]),(.prim false (.bop .mul) [.cst (.int 11),(.prim false (.bop .fdiv) [.var 3,.cst (.int 10)])])])),
 (.asg 5 (.comp false (.var 9) (.prim false .range1 [(.prim false .len [.var 2])]) (some (.and (.prim false .item [(.prim false .item [.var 2,.var 9]),.cst (.str ['w','a','r','d','e','n'])]) (.prim false (.cop .lt) [(.prim false .len [(.prim false .item [(.prim false .item [.var 2,.var 9]),.cst (.str ['i','n','n','e','r'])])]),.cst (.int 8)]))))),
 (.ite (.prim false (.cop .ne) [.var 5,(.prim false .mklist [])]) [(.asg 6 (.prim false .item [.var 5,(.prim false (.bop .mod) [(.prim false (.bop .fdiv) [.var 4,.cst (.int 4)]),(.prim false .len [.var 5])])])),
 (.asg 7 (.and (.prim false (.cop .eq) [(.prim false (.bop .mod) [.var 4,.cst (.int 4)]),.cst (.int 3)]) (.prim false (.cop .lt) [(.prim false .item [(.prim false .item [.var 2,.var 6]),.cst (.str ['d','e','e','p'])]),.cst (.int 6)]))),
 (.expr (.mcall .list false .append (.prim false .item [(.prim false .item [.var 2,.var 6]),.cst (.str ['i','n','n','e','r'])]) [(.prim false .len [.var 2])])),
 (.asg 8 (.prim false (.bop .add) [(.prim false .item [(.prim false .item [.var 2,.var 6]),.cst (.str ['d','e','e','p'])]),.cst (.int 1)])),
 (.expr (.mcall .list false .append (.var 2) [(.prim true (.mkdict [['u','p'],['w','a','r','d','e','n'],['d','e','e','p'],['i','n','n','e','r'],['c','e','l','l']]) [.var 6,.var 7,.var 8,(.prim true .mklist []),(.prim false (.bop .fdiv) [.var 4,.cst (.int 32)])])]))] [])]),
 (.forIn false (.inl 3) (.prim false .range1 [(.prim false .len [.var 2])]) [(.ite (.and (.prim false .item [(.prim false .item [.var 2,.var 3]),.cst (.str ['w','a','r','d','e','n'])]) (.prim false (.cop .eq) [(.prim false .item [(.prim false .item [.var 2,.var 3]),.cst (.str ['i','n','n','e','r'])]),(.prim false .mklist [])])) [(.expr (.mcall .list false .append (.prim false .item [(.prim false .item [.var 2,.var 3]),.cst (.str ['i','n','n','e','r'])]) [(.prim false .len [.var 2])])),
 (.asg 8 (.prim false (.bop .add) [(.prim false .item [(.prim false .item [.var 2,.var 3]),.cst (.str ['d','e','e','p'])]),.cst (.int 1)])),
 (.expr (.mcall .list false .append (.var 2) [(.prim true (.mkdict [['u','p'],['w','a','r','d','e','n'],['d','e','e','p'],['i','n','n','e','r'],['c','e','l','l']]) [.var 3,.cst (.bool false),.var 8,(.prim true .mklist []),(.prim false (.bop .fdiv) [(.prim false .item [(.prim false .item [.var 2,.var 3]),.cst (.str ['c','e','l','l'])]),.cst (.int 7)])])]))] [])]),
 (.ret (.var 2))]⟩
noncomputable def fn15:Fn:=⟨2,3,[(.asg 2 (.prim true .mklist [])),
 (.asg 3 (.prim false .mklist [.var 1])),
 (.while_ (.prim false (.cop .ne) [.var 3,(.prim false .mklist [])]) [(.asg 4 (.prim false .item [.var 3,.cst (.int 0)])),
 (.expr (.mcall .list false .append (.var 2) [.var 4])),
 (.asg 3 (.prim false (.bop .add) [(.prim false .item [(.prim false .item [.var 0,.var 4]),.cst (.str ['i','n','n','e','r'])]),(.prim false .slice [.var 3,.cst (.int 1),.cst .none])]))]),
 (.ret (.var 2))]⟩
noncomputable def fn16:Fn:=⟨1,0,[(.ret (.prim false .item [(.prim false .mklist [.cst (.int 0),.cst (.int 1),.cst (.int 2),.cst (.int 1),.cst (.int 3),(.prim false (.bop .pow) [.cst (.int 10),.cst (.int 9)]),(.prim false (.bop .mod) [(.prim false (.bop .fdiv) [.var 0,.cst (.int 6)]),.cst (.int 9)]),(.prim false (.bop .mod) [(.prim false (.bop .fdiv) [.var 0,.cst (.int 6)]),(.prim false (.bop .add) [(.prim false (.bop .pow) [.cst (.int 10),.cst (.int 9)]),.cst (.int 1)])])]),(.prim false (.bop .mod) [.var 0,.cst (.int 8)])]))]⟩
noncomputable def fn17:Fn:=⟨1,0,[(.ret (.prim false .item [(.prim false .mklist [.cst (.int 3),.cst (.int 1),(.prim false (.bop .pow) [.cst (.int 10),.cst (.int 9)]),.cst (.int 2),(.prim false (.bop .add) [.cst (.int 1),(.prim false (.bop .mod) [(.prim false (.bop .fdiv) [.var 0,.cst (.int 6)]),.cst (.int 12)])]),(.prim false (.bop .add) [.cst (.int 1),(.prim false (.bop .mod) [(.prim false (.bop .fdiv) [.var 0,.cst (.int 6)]),(.prim false (.bop .pow) [.cst (.int 10),.cst (.int 9)])])])]),(.prim false (.bop .mod) [.var 0,.cst (.int 6)])]))]⟩
noncomputable def fn18:Fn:=⟨3,5,[(.asg 3 (.prim false .item [(.prim false .item [.var 0,.var 2]),.cst (.str ['c','e','l','l'])])),
 (.ite (.prim false .not [(.prim false .item [(.prim false .item [.var 0,.var 2]),.cst (.str ['w','a','r','d','e','n'])])]) [(.ret (.prim false .mktup [.cst (.str ['w','o','r','k','e','r']),(.prim false .item [.var 1,.var 2]),(.prim false .item [(.prim false .mklist [.cst (.str ['a','l','w','a','y','s']),.cst (.str ['f','a','u','l','t','e','d']),.cst (.str ['n','e','v','e','r']),.cst (.str ['f','a','u','l','t','e','d'])]),(.prim false (.bop .mod) [.var 3,.cst (.int 4)])])]))] []),
 (.asg 4 (.prim false .item [(.prim false .mklist [.cst (.str ['o','n','e']),.cst (.str ['r','e','s','t']),.cst (.str ['a','l','l'])]),(.prim false (.bop .mod) [.var 3,.cst (.int 3)])])),
 (.asg 5 (.prim false .mktup [])),
 (.forIn false (.inl 6) (.prim false .item [(.prim false .item [.var 0,.var 2]),.cst (.str ['i','n','n','e','r'])]) [(.asg 5 (.prim false (.bop .add) [.var 5,(.prim false .mktup [(.call 18 [.var 0,.var 1,.var 6])])]))]),
 (.asg 7 (.call 16 [(.prim false (.bop .fdiv) [.var 3,.cst (.int 3)])])),
 (.ite (.and (.prim false (.cop .eq) [.var 2,.cst (.int 0)]) (.prim false (.cop .gt) [(.prim false (.bop .mod) [(.prim false (.bop .fdiv) [.var 3,.cst (.int 3)]),.cst (.int 4)]),.cst (.int 0)])) [(.asg 7 (.prim false .min [(.prim false (.bop .pow) [.cst (.int 10),.cst (.int 9)]),(.prim false (.bop .add) [.var 7,.cst (.int 4)])]))] []),
 (.ret (.prim false .mktup [.cst (.str ['w','a','r','d','e','n']),(.prim false .item [.var 1,.var 2]),.var 4,.var 7,(.call 17 [(.prim false (.bop .fdiv) [.var 3,.cst (.int 24)])]),.var 5]))]⟩
noncomputable def fn19:Fn:=⟨1,5,[(.asg 1 (.call 10 [.var 0,.cst (.int 0)])),
 (.asg 2 (.prim false (.bop .add) [.cst (.int 2),(.prim false (.bop .mod) [.var 1,.cst (.int 9)])])),
 (.ite (.prim false (.cop .eq) [(.prim false (.bop .mod) [(.prim false (.bop .fdiv) [.var 1,.cst (.int 9)]),.cst (.int 12)]),.cst (.int 1)]) [(.asg 2 (.cst (.int 30)))] []),
 (.asg 3 (.call 14 [.var 0,.var 2])),
 (.asg 4 (.call 12 [(.call 10 [.var 0,.cst (.int 1)]),(.prim false .len [.var 3])])),
 (.asg 5 (.comp false (.call 18 [.var 3,.var 4,.var 6]) (.prim false .range1 [(.prim false .len [.var 3])]) none)),
 (.ret (.prim false (.mkdict [['n','o','d','e','s'],['n','a','m','e','s'],['p','a','r','t','s'],['p','l','a','n'],['o','r','d','e','r']]) [.var 3,.var 4,.var 5,(.prim false .item [.var 5,.cst (.int 0)]),(.call 15 [.var 3,.cst (.int 0)])]))]⟩
noncomputable def fn20:Fn:=⟨1,1,[(.ite (.prim false .not [(.prim false (.isinst .list) [.var 0])]) [(.ret (.cst (.bool false)))] []),
 (.forIn false (.inl 1) (.var 0) [(.ite (.or (.prim false .not [(.prim false (.isinst .tuple) [.var 1])]) (.or (.prim false (.cop .lt) [(.prim false .len [.var 1]),.cst (.int 2)]) (.or (.prim false .not [(.prim false (.isinst .str) [(.prim false .item [.var 1,.cst (.int 0)])])]) (.prim false .not [(.prim false (.isinst .str) [(.prim false .item [.var 1,.cst (.int 1)])])])))) [(.ret (.cst (.bool false)))] []),
 (.ite (.and (.prim false (.cop .gt) [(.prim false .len [.var 1]),.cst (.int 2)]) (.prim false .not [(.call 11 [(.prim false .item [.var 1,.cst (.int 2)])])])) [(.ret (.cst (.bool false)))] []),
 (.ite (.and (.prim false (.cop .gt) [(.prim false .len [.var 1]),.cst (.int 3)]) (.or (.prim false (.cop .gt) [(.prim false .len [.var 1]),.cst (.int 4)]) (.prim false .not [(.prim false (.isinst .tuple) [(.prim false .item [.var 1,.cst (.int 3)])])]))) [(.ret (.cst (.bool false)))] [])]),
 (.ret (.cst (.bool true)))]⟩
noncomputable def fn21:Fn:=⟨1,0,[(.ret (.and (.prim false (.isinst .list) [.var 0]) (.prim false (.cop .eq) [(.comp false (.var 1) (.var 0) (some (.prim false .not [(.call 11 [.var 1])]))),(.prim false .mklist [])])))]⟩
noncomputable def fn22:Fn:=⟨2,0,[(.try_ [(.ite (.prim false (.cop .eq) [(.prim false .item [.var 1,.cst (.int 0)]),.cst (.str ['s','e','n','d'])]) [(.ret (.meth 0 43 ['s','e','n','d'] (.var 0) [(.prim false .item [.var 1,.cst (.int 1)]),(.prim false .item [.var 1,.cst (.int 2)])]))] []),
 (.ite (.prim false (.cop .eq) [(.prim false .item [.var 1,.cst (.int 0)]),.cst (.str ['w','o','r','k'])]) [(.ret (.meth 0 44 ['w','o','r','k'] (.var 0) [(.prim false .item [.var 1,.cst (.int 1)])]))] []),
 (.ret (.meth 0 45 ['f','a','i','l'] (.var 0) [(.prim false .item [.var 1,.cst (.int 1)])]))] 0)]⟩
noncomputable def fn23:Fn:=⟨4,3,[(.asg 4 (.prim false (.bop .fdiv) [.var 0,.cst (.int 10)])),
 (.asg 5 (.prim false .item [.var 1,(.prim false (.bop .mod) [.var 4,(.prim false .len [.var 1])])])),
 (.asg 6 (.comp false (.var 7) (.var 1) (some (.prim false (.cop .in_) [.var 7,.var 2])))),
 (.ite (.and (.prim false (.cop .ne) [.var 6,(.prim false .mklist [])]) (.prim false (.cop .lt) [(.prim false (.bop .mod) [.var 0,.cst (.int 10)]),.cst (.int 9)])) [(.asg 5 (.prim false .item [.var 6,(.prim false (.bop .mod) [.var 4,(.prim false .len [.var 6])])]))] []),
 (.ite (.prim false (.cop .lt) [(.prim false (.bop .mod) [.var 0,.cst (.int 10)]),.cst (.int 3)]) [(.ret (.prim false .mklist [(.prim false .mktup [.cst (.str ['s','e','n','d']),.var 5,(.call 13 [(.prim false (.bop .fdiv) [.var 4,.cst (.int 8)])])])]))] []),
 (.ite (.prim false (.cop .lt) [(.prim false (.bop .mod) [.var 0,.cst (.int 10)]),.cst (.int 6)]) [(.ret (.prim false .mklist [(.prim false .mktup [.cst (.str ['s','e','n','d']),.var 5,(.call 13 [(.prim false (.bop .fdiv) [.var 4,.cst (.int 8)])])]),(.prim false .mktup [.cst (.str ['w','o','r','k']),.var 5])]))] []),
 (.ite (.and (.prim false (.cop .lt) [(.prim false (.bop .mod) [.var 0,.cst (.int 10)]),.cst (.int 8)]) (.prim false (.cop .ne) [.var 3,(.prim false .mklist [])])) [(.ret (.prim false .mklist [(.prim false .mktup [.cst (.str ['w','o','r','k']),(.prim false .item [.var 3,(.prim false (.bop .mod) [.var 4,(.prim false .len [.var 3])])])])]))] []),
 (.ite (.and (.prim false (.cop .eq) [(.prim false (.bop .mod) [.var 0,.cst (.int 10)]),.cst (.int 8)]) (.prim false (.cop .ne) [.var 2,(.prim false .mklist [])])) [(.ret (.prim false .mklist [(.prim false .mktup [.cst (.str ['f','a','i','l']),(.prim false .item [.var 2,(.prim false (.bop .mod) [.var 4,(.prim false .len [.var 2])])])])]))] []),
 (.ret (.prim false .item [(.prim false .mklist [(.prim false .mklist [(.prim false .mktup [.cst (.str ['w','o','r','k']),.var 5])]),(.prim false .mklist [(.prim false .mktup [.cst (.str ['f','a','i','l']),.var 5])]),(.prim false .mklist [(.prim false .mktup [.cst (.str ['s','e','n','d']),.var 5,(.call 13 [(.prim false (.bop .fdiv) [.var 4,.cst (.int 8)])])])])]),(.prim false (.bop .mod) [(.prim false (.bop .fdiv) [.var 4,.cst (.int 5)]),.cst (.int 3)])]))]⟩
noncomputable def fn24:Fn:=⟨1,0,[(.ret (.comp false (.prim false .item [(.prim false .item [.var 0,.cst (.str ['n','a','m','e','s'])]),.var 1]) (.prim false .item [.var 0,.cst (.str ['o','r','d','e','r'])]) (some (.prim false .not [(.prim false .item [(.prim false .item [(.prim false .item [.var 0,.cst (.str ['n','o','d','e','s'])]),.var 1]),.cst (.str ['w','a','r','d','e','n'])])]))))]⟩
noncomputable def fn25:Fn:=⟨2,1,[(.asg 2 (.meth 0 48 ['h','e','r','e'] (.var 0) [])),
 (.ret (.comp false (.var 3) (.var 1) (some (.and (.prim false (.cop .in_) [.var 3,.var 2]) (.prim false (.cop .ne) [(.meth 0 50 ['w','a','i','t','s'] (.var 0) [.var 3]),(.prim false .mklist [])])))))]⟩
noncomputable def fn26:Fn:=⟨2,2,[(.asg 2 (.mcall .list false .lindex (.prim false .item [.var 0,.cst (.str ['n','a','m','e','s'])]) [(.prim false .item [.var 1,.cst (.int 1)])])),
 (.asg 3 (.prim false .item [(.prim false .item [(.prim false .item [.var 0,.cst (.str ['p','a','r','t','s'])]),.var 2]),.cst (.int 2)])),
 (.ite (.or (.prim false (.cop .eq) [.var 2,.cst (.int 0)]) (.and (.prim false .not [(.prim false .item [(.prim false .item [(.prim false .item [.var 0,.cst (.str ['n','o','d','e','s'])]),.var 2]),.cst (.str ['w','a','r','d','e','n'])])]) (.prim false (.cop .eq) [.var 3,.cst (.str ['n','e','v','e','r'])]))) [(.ret (.cst (.bool false)))] []),
 (.ret (.or (.prim false (.cop .eq) [(.prim false .item [.var 1,.cst (.int 0)]),.cst (.str ['f','a','i','l','s'])]) (.prim false (.cop .eq) [.var 3,.cst (.str ['a','l','w','a','y','s'])])))]⟩
noncomputable def fn27:Fn:=⟨4,0,[(.ret (.comp false (.var 4) (.prim false .item [.var 1,.var 2]) (some (.prim false (.cop .gt) [(.prim false (.bop .add) [.var 4,(.prim false .item [(.prim false .item [(.prim false .item [.var 0,.cst (.str ['p','a','r','t','s'])]),.var 2]),.cst (.int 4)])]),.var 3]))))]⟩
noncomputable def fn28:Fn:=⟨4,3,[(.asg 4 (.prim true .mklist [(.prim false .item [(.prim false .item [.var 2,.cst (.int 0)]),.cst (.int 1)])])),
 (.asg 5 (.prim false .item [.var 2,.cst (.int 0)])),
 (.while_ (.call 26 [.var 0,.var 5]) [(.asg 6 (.prim false .item [(.prim false .item [(.prim false .item [.var 0,.cst (.str ['n','o','d','e','s'])]),(.mcall .list false .lindex (.prim false .item [.var 0,.cst (.str ['n','a','m','e','s'])]) [(.prim false .item [.var 5,.cst (.int 1)])])]),.cst (.str ['u','p'])])),
 (.setItem (.var 1) (.var 6) (.prim false (.bop .add) [(.call 27 [.var 0,.var 1,.var 6,.var 3]),(.prim false .mklist [.var 3])])),
 (.ite (.prim false (.cop .le) [(.prim false .len [(.prim false .item [.var 1,.var 6])]),(.prim false .item [(.prim false .item [(.prim false .item [.var 0,.cst (.str ['p','a','r','t','s'])]),.var 6]),.cst (.int 3)])]) [(.ret (.prim false (.cop .eq) [.var 4,(.comp false (.prim false .item [.var 7,.cst (.int 1)]) (.var 2) none)]))] []),
 (.expr (.mcall .list false .append (.var 4) [(.prim false .item [(.prim false .item [.var 0,.cst (.str ['n','a','m','e','s'])]),.var 6])])),
 (.asg 5 (.prim false .mktup [.cst (.str ['f','a','i','l','s']),(.prim false .item [(.prim false .item [.var 0,.cst (.str ['n','a','m','e','s'])]),.var 6])]))]),
 (.ret (.prim false (.cop .eq) [.var 4,(.comp false (.prim false .item [.var 7,.cst (.int 1)]) (.var 2) none)]))]⟩
noncomputable def fn29:Fn:=⟨4,2,[(.asg 5 (.comp false (.var 6) (.var 2) (some (.prim false (.cop .in_) [(.prim false .item [.var 6,.cst (.int 0)]),(.prim false .mklist [.cst (.str ['f','a','i','l','s']),.cst (.str ['l','e','a','v','e','s'])])])))),
 (.ite (.and (.prim false (.cop .ne) [.var 5,(.prim false .mklist [])]) (.prim false .not [(.call 28 [.var 0,.var 1,.var 5,.var 3])])) [(.ret (.cst (.bool false)))] []),
 (.forIn false (.inl 4) (.var 2) [(.ite (.prim false (.cop .eq) [(.prim false .item [.var 4,.cst (.int 0)]),.cst (.str ['b','e','g','i','n','s'])]) [(.setItem (.var 1) (.mcall .list false .lindex (.prim false .item [.var 0,.cst (.str ['n','a','m','e','s'])]) [(.prim false .item [.var 4,.cst (.int 1)])]) (.prim false .mklist []))] [])]),
 (.ret (.cst (.bool true)))]⟩
noncomputable def fn30:Fn:=⟨3,3,[(.asg 3 (.meth 0 48 ['h','e','r','e'] (.var 2) [])),
 (.ite (.prim false (.cop .ne) [(.meth 0 46 ['i','s','_','o','p','e','n'] (.var 2) []),(.prim false (.cop .in_) [(.prim false .item [(.prim false .item [.var 0,.cst (.str ['n','a','m','e','s'])]),.cst (.int 0)]),.var 3])]) [(.ret (.cst (.bool false)))] []),
 (.forIn false (.inl 4) (.prim false .range1 [(.prim false .len [(.prim false .item [.var 0,.cst (.str ['n','o','d','e','s'])])])]) [(.ite (.and (.prim false .item [(.prim false .item [(.prim false .item [.var 0,.cst (.str ['n','o','d','e','s'])]),.var 4]),.cst (.str ['w','a','r','d','e','n'])]) (.prim false (.cop .in_) [(.prim false .item [(.prim false .item [.var 0,.cst (.str ['n','a','m','e','s'])]),.var 4]),.var 3])) [(.asg 5 (.meth 0 52 ['h','o','u','r','s'] (.var 2) [(.prim false .item [(.prim false .item [.var 0,.cst (.str ['n','a','m','e','s'])]),.var 4])])),
 (.ite (.or (.prim false .not [(.call 21 [.var 5])]) (.prim false (.cop .ne) [.var 5,(.call 27 [.var 0,.var 1,.var 4,(.meth 0 47 ['h','o','u','r'] (.var 2) [])])])) [(.ret (.cst (.bool false)))] []),
 (.ite (.prim false (.cop .gt) [(.prim false .len [.var 5]),(.prim false .item [(.prim false .item [(.prim false .item [.var 0,.cst (.str ['p','a','r','t','s'])]),.var 4]),.cst (.int 3)])]) [(.ret (.cst (.bool false)))] [])] [])]),
 (.ret (.cst (.bool true)))]⟩
noncomputable def fn31:Fn:=⟨1,9,[(.asg 1 (.call 19 [.var 0])),
 (.asg 2 (.new 0 32 [(.prim false .item [.var 1,.cst (.str ['p','l','a','n'])])])),
 (.asg 3 (.comp true (.prim false .mklist []) (.prim false .range1 [(.prim false .len [(.prim false .item [.var 1,.cst (.str ['n','o','d','e','s'])])])]) none)),
 (.asg 4 (.call 24 [.var 1])),
 (.asg 5 (.cst (.int 0))),
 (.forIn false (.inl 6) (.prim false .slice [.var 0,.cst (.int 13),.cst .none]) [(.forIn false (.inl 7) (.call 23 [.var 6,.var 4,(.meth 0 48 ['h','e','r','e'] (.var 2) []),(.call 25 [.var 2,.var 4])]) [(.asg 8 (.prim false .len [(.meth 0 49 ['h','i','s','t','o','r','y'] (.var 2) [])])),
 (.asg 9 (.call 22 [.var 2,.var 7])),
 (.ite (.and (.prim false (.cop .isnot) [.var 9,.cst .none]) (.prim false (.cop .ne) [(.prim false .item [.var 7,.cst (.int 0)]),.cst (.str ['s','e','n','d'])])) [(.asg 5 (.prim false (.bop .add) [.var 5,.cst (.int 1)]))] []),
 (.ite (.or (.prim false (.cop .ne) [(.meth 0 47 ['h','o','u','r'] (.var 2) []),.var 5]) (.prim false .not [(.call 20 [(.meth 0 49 ['h','i','s','t','o','r','y'] (.var 2) [])])])) [(.ret (.cst (.bool false)))] []),
 (.ite (.or (.prim false .not [(.call 29 [.var 1,.var 3,(.prim false .slice [(.meth 0 49 ['h','i','s','t','o','r','y'] (.var 2) []),.var 8,.cst .none]),.var 5])]) (.prim false .not [(.call 30 [.var 1,.var 3,.var 2])])) [(.ret (.cst (.bool false)))] [])])]),
 (.ret (.cst (.bool true)))]⟩
noncomputable def fn32:Fn:=⟨2,1,[(.ite (.prim false .not [(.call 6 [.var 1])]) [(.raise 1)] []),
 (.setAttr (.var 0) ['p','l','a','n'] (.var 1)),
 (.setAttr (.var 0) ['r','o','w'] (.prim true .mklist [])),
 (.setAttr (.var 0) ['p','a','r','t','s'] (.prim true (.mkdict []) [])),
 (.setAttr (.var 0) ['c','h','i','e','f'] (.prim true .mkdict1 [(.prim false .item [.var 1,.cst (.int 1)]),.cst .none])),
 (.setAttr (.var 0) ['p','r','e','s','e','n','t'] (.prim true (.mkdict []) [])),
 (.setAttr (.var 0) ['s','u','m','s'] (.prim true (.mkdict []) [])),
 (.setAttr (.var 0) ['k','e','p','t'] (.prim true (.mkdict []) [])),
 (.setAttr (.var 0) ['q','u','e','u','e','s'] (.prim true (.mkdict []) [])),
 (.forIn false (.inl 2) (.call 7 [.var 1]) [(.expr (.meth 0 33 ['n','o','t','e'] (.var 0) [.var 2]))]),
 (.setAttr (.var 0) ['c','l','o','c','k'] (.cst (.int 0))),
 (.setAttr (.var 0) ['l','e','t','t','e','r','s'] (.cst (.int 0))),
 (.setAttr (.var 0) ['e','v','e','n','t','s'] (.prim true .mklist [])),
 (.expr (.meth 0 34 ['b','e','g','i','n'] (.var 0) [.var 1]))]⟩
noncomputable def fn33:Fn:=⟨2,1,[(.expr (.mcall .list false .append (.prim false (.attr ['r','o','w']) [.var 0]) [(.prim false .item [.var 1,.cst (.int 1)])])),
 (.setItem (.prim false (.attr ['p','a','r','t','s']) [.var 0]) (.prim false .item [.var 1,.cst (.int 1)]) (.var 1)),
 (.ite (.prim false (.cop .eq) [(.prim false .item [.var 1,.cst (.int 0)]),.cst (.str ['w','o','r','k','e','r'])]) [(.setItem (.prim false (.attr ['q','u','e','u','e','s']) [.var 0]) (.prim false .item [.var 1,.cst (.int 1)]) (.prim true .mklist []))] [(.forIn false (.inl 2) (.prim false .item [.var 1,.cst (.int 5)]) [(.setItem (.prim false (.attr ['c','h','i','e','f']) [.var 0]) (.prim false .item [.var 2,.cst (.int 1)]) (.var 1))])])]⟩
noncomputable def fn34:Fn:=⟨2,1,[(.setItem (.prim false (.attr ['p','r','e','s','e','n','t']) [.var 0]) (.prim false .item [.var 1,.cst (.int 1)]) (.cst (.bool true))),
 (.expr (.mcall .list false .append (.prim false (.attr ['e','v','e','n','t','s']) [.var 0]) [(.prim false .mktup [.cst (.str ['b','e','g','i','n','s']),(.prim false .item [.var 1,.cst (.int 1)])])])),
 (.ite (.prim false (.cop .eq) [(.prim false .item [.var 1,.cst (.int 0)]),.cst (.str ['w','o','r','k','e','r'])]) [(.setItem (.prim false (.attr ['s','u','m','s']) [.var 0]) (.prim false .item [.var 1,.cst (.int 1)]) (.cst (.int 0)))] [(.setItem (.prim false (.attr ['k','e','p','t']) [.var 0]) (.prim false .item [.var 1,.cst (.int 1)]) (.prim true .mklist [])),
 (.forIn false (.inl 2) (.prim false .item [.var 1,.cst (.int 5)]) [(.expr (.meth 0 34 ['b','e','g','i','n'] (.var 0) [.var 2]))])])]⟩
noncomputable def fn35:Fn:=⟨2,1,[(.ite (.prim false (.cop .eq) [(.prim false .item [.var 1,.cst (.int 0)]),.cst (.str ['w','a','r','d','e','n'])]) [(.forIn true (.inl 2) (.prim false .item [.var 1,.cst (.int 5)]) [(.ite (.prim false (.cop .in_) [(.prim false .item [.var 2,.cst (.int 1)]),(.prim false (.attr ['p','r','e','s','e','n','t']) [.var 0])]) [(.expr (.meth 0 36 ['e','n','d'] (.var 0) [.var 2]))] [])])] [])]⟩
noncomputable def fn36:Fn:=⟨2,0,[(.expr (.meth 0 35 ['e','n','d','_','p','a','r','t','s'] (.var 0) [.var 1])),
 (.expr (.mcall .dict false .dpop (.prim false (.attr ['p','r','e','s','e','n','t']) [.var 0]) [(.prim false .item [.var 1,.cst (.int 1)])])),
 (.expr (.mcall .list false .append (.prim false (.attr ['e','v','e','n','t','s']) [.var 0]) [(.prim false .mktup [.cst (.str ['e','n','d','s']),(.prim false .item [.var 1,.cst (.int 1)])])]))]⟩
noncomputable def fn37:Fn:=⟨2,0,[(.expr (.mcall .list false .append (.prim false (.attr ['e','v','e','n','t','s']) [.var 0]) [(.prim false .mktup [.cst (.str ['f','a','i','l','s']),(.prim false .item [.var 1,.cst (.int 1)])])])),
 (.expr (.mcall .dict false .dpop (.prim false (.attr ['p','r','e','s','e','n','t']) [.var 0]) [(.prim false .item [.var 1,.cst (.int 1)])])),
 (.expr (.meth 0 35 ['e','n','d','_','p','a','r','t','s'] (.var 0) [.var 1])),
 (.ite (.and (.prim false (.cop .eq) [(.prim false .item [.var 1,.cst (.int 0)]),.cst (.str ['w','o','r','k','e','r'])]) (.prim false (.cop .eq) [(.prim false .item [.var 1,.cst (.int 2)]),.cst (.str ['n','e','v','e','r'])])) [(.ret (.cst .none))] []),
 (.ite (.prim false (.cop .isnot) [(.prim false .item [(.prim false (.attr ['c','h','i','e','f']) [.var 0]),(.prim false .item [.var 1,.cst (.int 1)])]),.cst .none]) [(.expr (.meth 0 38 ['f','o','l','l','o','w'] (.var 0) [(.prim false .item [(.prim false (.attr ['c','h','i','e','f']) [.var 0]),(.prim false .item [.var 1,.cst (.int 1)])]),.var 1]))] [])]⟩
noncomputable def fn38:Fn:=⟨3,6,[(.asg 3 (.prim false .item [(.prim false (.attr ['k','e','p','t']) [.var 0]),(.prim false .item [.var 1,.cst (.int 1)])])),
 (.expr (.mcall .list false .append (.var 3) [(.prim false (.attr ['c','l','o','c','k']) [.var 0])])),
 (.ite (.prim false (.cop .gt) [(.prim false .len [(.call 8 [.var 3,(.prim false (.attr ['c','l','o','c','k']) [.var 0]),(.prim false .item [.var 1,.cst (.int 4)])])]),(.prim false .item [.var 1,.cst (.int 3)])]) [(.expr (.meth 0 37 ['f','a','l','l'] (.var 0) [.var 1])),
 (.ret (.cst .none))] []),
 (.asg 4 (.mcall .tup false .index (.prim false .item [.var 1,.cst (.int 5)]) [.var 2])),
 (.asg 5 (.call 9 [(.prim false .item [.var 1,.cst (.int 2)]),(.prim false .len [(.prim false .item [.var 1,.cst (.int 5)])]),.var 4])),
 (.asg 7 (.comp false (.var 9) (.var 5) (some (.prim false (.cop .in_) [(.prim false .item [(.prim false .item [(.prim false .item [.var 1,.cst (.int 5)]),.var 9]),.cst (.int 1)]),(.prim false (.attr ['p','r','e','s','e','n','t']) [.var 0])])))),
 (.forIn true (.inl 6) (.var 7) [(.expr (.meth 0 36 ['e','n','d'] (.var 0) [(.prim false .item [(.prim false .item [.var 1,.cst (.int 5)]),.var 6])]))]),
 (.forIn false (.inl 6) (.var 5) [(.asg 8 (.prim false .item [(.prim false .item [.var 1,.cst (.int 5)]),.var 6])),
 (.ite (.or (.prim false (.cop .eq) [.var 6,.var 4]) (.and (.prim false (.cop .in_) [.var 6,.var 7]) (.prim false .not [(.and (.prim false (.cop .eq) [(.prim false .item [.var 8,.cst (.int 0)]),.cst (.str ['w','o','r','k','e','r'])]) (.prim false (.cop .eq) [(.prim false .item [.var 8,.cst (.int 2)]),.cst (.str ['n','e','v','e','r'])]))]))) [(.expr (.meth 0 34 ['b','e','g','i','n'] (.var 0) [.var 8]))] [])])]⟩
noncomputable def fn39:Fn:=⟨1,3,[(.forIn false (.inl 1) (.prim false (.attr ['r','o','w']) [.var 0]) [(.ite (.and (.prim false (.cop .in_) [.var 1,(.prim false (.attr ['q','u','e','u','e','s']) [.var 0])]) (.prim false (.cop .notin) [.var 1,(.prim false (.attr ['p','r','e','s','e','n','t']) [.var 0])])) [(.forIn false (.inr [2,3]) (.prim false .item [(.prim false (.attr ['q','u','e','u','e','s']) [.var 0]),.var 1]) [(.expr (.mcall .list false .append (.prim false (.attr ['e','v','e','n','t','s']) [.var 0]) [(.prim false .mktup [.cst (.str ['l','o','s','t']),.var 1,.var 2])]))]),
 (.setItem (.prim false (.attr ['q','u','e','u','e','s']) [.var 0]) (.var 1) (.prim true .mklist []))] [])])]⟩
noncomputable def fn40:Fn:=⟨1,0,[(.ite (.prim false .not [(.meth 0 46 ['i','s','_','o','p','e','n'] (.var 0) [])]) [(.raise 6)] [])]⟩
noncomputable def fn41:Fn:=⟨2,0,[(.ite (.or (.prim false .not [(.call 2 [.var 1])]) (.prim false (.cop .notin) [.var 1,(.prim false (.attr ['q','u','e','u','e','s']) [.var 0])])) [(.raise 3)] [])]⟩
noncomputable def fn42:Fn:=⟨2,0,[(.ite (.prim false (.cop .notin) [.var 1,(.prim false (.attr ['p','r','e','s','e','n','t']) [.var 0])]) [(.raise 4)] [])]⟩
noncomputable def fn43:Fn:=⟨3,0,[(.expr (.meth 0 40 ['n','e','e','d','_','o','p','e','n'] (.var 0) [])),
 (.ite (.prim false .not [(.call 3 [.var 2])]) [(.raise 2)] []),
 (.expr (.meth 0 41 ['n','e','e','d','_','w','o','r','k','e','r'] (.var 0) [.var 1])),
 (.expr (.meth 0 42 ['n','e','e','d','_','h','e','r','e'] (.var 0) [.var 1])),
 (.setAttr (.var 0) ['l','e','t','t','e','r','s'] (.prim false (.bop .add) [(.prim false (.attr ['l','e','t','t','e','r','s']) [.var 0]),.cst (.int 1)])),
 (.expr (.mcall .list false .append (.prim false .item [(.prim false (.attr ['q','u','e','u','e','s']) [.var 0]),.var 1]) [(.prim false .mktup [(.prim false (.attr ['l','e','t','t','e','r','s']) [.var 0]),.var 2])])),
 (.expr (.mcall .list false .append (.prim false (.attr ['e','v','e','n','t','s']) [.var 0]) [(.prim false .mktup [.cst (.str ['s','e','n','t']),.var 1,(.prim false (.attr ['l','e','t','t','e','r','s']) [.var 0]),.var 2])])),
 (.ret (.prim false (.attr ['l','e','t','t','e','r','s']) [.var 0]))]⟩
noncomputable def fn44:Fn:=⟨2,4,[(.expr (.meth 0 40 ['n','e','e','d','_','o','p','e','n'] (.var 0) [])),
 (.expr (.meth 0 41 ['n','e','e','d','_','w','o','r','k','e','r'] (.var 0) [.var 1])),
 (.expr (.meth 0 42 ['n','e','e','d','_','h','e','r','e'] (.var 0) [.var 1])),
 (.ite (.prim false (.cop .eq) [(.prim false .len [(.prim false .item [(.prim false (.attr ['q','u','e','u','e','s']) [.var 0]),.var 1])]),.cst (.int 0)]) [(.raise 5)] []),
 (.asg 2 (.prim false .len [(.prim false (.attr ['e','v','e','n','t','s']) [.var 0])])),
 (.setAttr (.var 0) ['c','l','o','c','k'] (.prim false (.bop .add) [(.prim false (.attr ['c','l','o','c','k']) [.var 0]),.cst (.int 1)])),
 (.asgTup [3,4] (.mcall .list false .pop0 (.prim false .item [(.prim false (.attr ['q','u','e','u','e','s']) [.var 0]),.var 1]) [.cst (.int 0)])),
 (.expr (.mcall .list false .append (.prim false (.attr ['e','v','e','n','t','s']) [.var 0]) [(.prim false .mktup [.cst (.str ['w','o','r','k','s']),.var 1,.var 3])])),
 (.asg 5 (.prim false .item [(.prim false (.attr ['p','a','r','t','s']) [.var 0]),.var 1])),
 (.ite (.prim false (.cop .eq) [(.prim false .item [.var 4,.cst (.int 0)]),.cst (.str ['a','d','d'])]) [(.setItem (.prim false (.attr ['s','u','m','s']) [.var 0]) (.var 1) (.prim false (.bop .add) [(.prim false .item [(.prim false (.attr ['s','u','m','s']) [.var 0]),.var 1]),(.prim false .item [.var 4,.cst (.int 1)])]))] [(.ite (.prim false (.cop .eq) [(.prim false .item [.var 4,.cst (.int 0)]),.cst (.str ['f','a','u','l','t'])]) [(.expr (.meth 0 37 ['f','a','l','l'] (.var 0) [.var 5]))] [(.expr (.mcall .list false .append (.prim false (.attr ['e','v','e','n','t','s']) [.var 0]) [(.prim false .mktup [.cst (.str ['l','e','a','v','e','s']),.var 1])])),
 (.expr (.mcall .dict false .dpop (.prim false (.attr ['p','r','e','s','e','n','t']) [.var 0]) [.var 1])),
 (.ite (.prim false (.cop .eq) [(.prim false .item [.var 5,.cst (.int 2)]),.cst (.str ['a','l','w','a','y','s'])]) [(.expr (.meth 0 38 ['f','o','l','l','o','w'] (.var 0) [(.prim false .item [(.prim false (.attr ['c','h','i','e','f']) [.var 0]),.var 1]),.var 5]))] [])])]),
 (.expr (.meth 0 39 ['l','o','s','e'] (.var 0) [])),
 (.ret (.prim false .slice [(.prim false (.attr ['e','v','e','n','t','s']) [.var 0]),.var 2,.cst .none]))]⟩
noncomputable def fn45:Fn:=⟨2,1,[(.expr (.meth 0 40 ['n','e','e','d','_','o','p','e','n'] (.var 0) [])),
 (.ite (.or (.prim false .not [(.call 2 [.var 1])]) (.prim false (.cop .notin) [.var 1,(.prim false (.attr ['p','a','r','t','s']) [.var 0])])) [(.raise 3)] []),
 (.expr (.meth 0 42 ['n','e','e','d','_','h','e','r','e'] (.var 0) [.var 1])),
 (.asg 2 (.prim false .len [(.prim false (.attr ['e','v','e','n','t','s']) [.var 0])])),
 (.setAttr (.var 0) ['c','l','o','c','k'] (.prim false (.bop .add) [(.prim false (.attr ['c','l','o','c','k']) [.var 0]),.cst (.int 1)])),
 (.expr (.meth 0 37 ['f','a','l','l'] (.var 0) [(.prim false .item [(.prim false (.attr ['p','a','r','t','s']) [.var 0]),.var 1])])),
 (.expr (.meth 0 39 ['l','o','s','e'] (.var 0) [])),
 (.ret (.prim false .slice [(.prim false (.attr ['e','v','e','n','t','s']) [.var 0]),.var 2,.cst .none]))]⟩
noncomputable def fn46:Fn:=⟨1,0,[(.ret (.prim false (.cop .in_) [(.prim false .item [(.prim false (.attr ['p','l','a','n']) [.var 0]),.cst (.int 1)]),(.prim false (.attr ['p','r','e','s','e','n','t']) [.var 0])]))]⟩
noncomputable def fn47:Fn:=⟨1,0,[(.ret (.prim false (.attr ['c','l','o','c','k']) [.var 0]))]⟩
noncomputable def fn48:Fn:=⟨1,0,[(.ret (.comp false (.var 1) (.prim false (.attr ['r','o','w']) [.var 0]) (some (.prim false (.cop .in_) [.var 1,(.prim false (.attr ['p','r','e','s','e','n','t']) [.var 0])]))))]⟩
noncomputable def fn49:Fn:=⟨1,0,[(.ret (.prim false .list [(.prim false (.attr ['e','v','e','n','t','s']) [.var 0])]))]⟩
noncomputable def fn50:Fn:=⟨2,0,[(.expr (.meth 0 41 ['n','e','e','d','_','w','o','r','k','e','r'] (.var 0) [.var 1])),
 (.ret (.comp false (.prim false .item [.var 2,.cst (.int 0)]) (.prim false .item [(.prim false (.attr ['q','u','e','u','e','s']) [.var 0]),.var 1]) none))]⟩
noncomputable def fn51:Fn:=⟨2,0,[(.expr (.call 0 [.cst (.int 0)]))]⟩
noncomputable def fn52:Fn:=⟨2,0,[(.ite (.or (.prim false .not [(.call 2 [.var 1])]) (.or (.prim false (.cop .notin) [.var 1,(.prim false (.attr ['p','a','r','t','s']) [.var 0])]) (.prim false (.cop .ne) [(.prim false .item [(.prim false .item [(.prim false (.attr ['p','a','r','t','s']) [.var 0]),.var 1]),.cst (.int 0)]),.cst (.str ['w','a','r','d','e','n'])]))) [(.raise 3)] []),
 (.expr (.meth 0 42 ['n','e','e','d','_','h','e','r','e'] (.var 0) [.var 1])),
 (.ret (.call 8 [(.prim false .item [(.prim false (.attr ['k','e','p','t']) [.var 0]),.var 1]),(.prim false (.attr ['c','l','o','c','k']) [.var 0]),(.prim false .item [(.prim false .item [(.prim false (.attr ['p','a','r','t','s']) [.var 0]),.var 1]),.cst (.int 4)])]))]⟩
noncomputable def fnsL:List Fn:=[fn0,fn1,fn2,fn3,fn4,fn5,fn6,fn7,fn8,fn9,fn10,fn11,fn12,fn13,fn14,fn15,fn16,fn17,fn18,fn19,fn20,fn21,fn22,fn23,fn24,fn25,fn26,fn27,fn28,fn29,fn30,fn31,fn32,fn33,fn34,fn35,fn36,fn37,fn38,fn39,fn40,fn41,fn42,fn43,fn44,fn45,fn46,fn47,fn48,fn49,fn50,fn51,fn52]
noncomputable def subsL:List (List Nat):=[[0],[1,0],[2,0],[3,0],[4,0],[5,0],[6,0]]
noncomputable def PL:Prog:=progX fnsL subsL
theorem P_fn1:PL.fns 1 = some fn1:=rfl
theorem P_fn2:PL.fns 2 = some fn2:=rfl
theorem P_fn3:PL.fns 3 = some fn3:=rfl
theorem P_fn4:PL.fns 4 = some fn4:=rfl
theorem P_fn5:PL.fns 5 = some fn5:=rfl
theorem P_fn6:PL.fns 6 = some fn6:=rfl
theorem P_fn7:PL.fns 7 = some fn7:=rfl
theorem P_fn8:PL.fns 8 = some fn8:=rfl
theorem P_fn9:PL.fns 9 = some fn9:=rfl
theorem P_fn10:PL.fns 10 = some fn10:=rfl
theorem P_fn11:PL.fns 11 = some fn11:=rfl
theorem P_fn12:PL.fns 12 = some fn12:=rfl
theorem P_fn13:PL.fns 13 = some fn13:=rfl
theorem P_fn14:PL.fns 14 = some fn14:=rfl
theorem P_fn15:PL.fns 15 = some fn15:=rfl
theorem P_fn16:PL.fns 16 = some fn16:=rfl
theorem P_fn17:PL.fns 17 = some fn17:=rfl
theorem P_fn18:PL.fns 18 = some fn18:=rfl
theorem P_fn19:PL.fns 19 = some fn19:=rfl
theorem P_fn20:PL.fns 20 = some fn20:=rfl
theorem P_fn21:PL.fns 21 = some fn21:=rfl
theorem P_fn22:PL.fns 22 = some fn22:=rfl
theorem P_fn23:PL.fns 23 = some fn23:=rfl
theorem P_fn24:PL.fns 24 = some fn24:=rfl
theorem P_fn25:PL.fns 25 = some fn25:=rfl
theorem P_fn26:PL.fns 26 = some fn26:=rfl
theorem P_fn27:PL.fns 27 = some fn27:=rfl
theorem P_fn28:PL.fns 28 = some fn28:=rfl
theorem P_fn29:PL.fns 29 = some fn29:=rfl
theorem P_fn30:PL.fns 30 = some fn30:=rfl
theorem P_fn31:PL.fns 31 = some fn31:=rfl
theorem P_fn32:PL.fns 32 = some fn32:=rfl
theorem P_fn33:PL.fns 33 = some fn33:=rfl
theorem P_fn34:PL.fns 34 = some fn34:=rfl
theorem P_fn35:PL.fns 35 = some fn35:=rfl
theorem P_fn36:PL.fns 36 = some fn36:=rfl
theorem P_fn37:PL.fns 37 = some fn37:=rfl
theorem P_fn38:PL.fns 38 = some fn38:=rfl
theorem P_fn39:PL.fns 39 = some fn39:=rfl
theorem P_fn40:PL.fns 40 = some fn40:=rfl
theorem P_fn41:PL.fns 41 = some fn41:=rfl
theorem P_fn42:PL.fns 42 = some fn42:=rfl
theorem P_fn43:PL.fns 43 = some fn43:=rfl
theorem P_fn44:PL.fns 44 = some fn44:=rfl
theorem P_fn45:PL.fns 45 = some fn45:=rfl
theorem P_fn46:PL.fns 46 = some fn46:=rfl
theorem P_fn47:PL.fns 47 = some fn47:=rfl
theorem P_fn48:PL.fns 48 = some fn48:=rfl
theorem P_fn49:PL.fns 49 = some fn49:=rfl
theorem P_fn50:PL.fns 50 = some fn50:=rfl
theorem P_fn52:PL.fns 52 = some fn52:=rfl
end Mine
end
noncomputable section
namespace Mine
open PySem
noncomputable def Prim.pure:Prim→Bool
 | .bop _ | .cop _ | .not | .isinst _ | .len | .item | .mktup | .mklist=>true
 | _=>false
mutual
noncomputable def pe (P:Prog) (ρ:Fm) (H:AH):Ex→Option V
 | .cst v=>some v
 | .var i=>(ρ[i]?).join
 | .prim mu p args=>if mu = true then none else (pes P ρ H args).bind fun vs=>if p.pure = true then (prim P p vs H).map (·.1) else none
 | .and a b=>(pe P ρ H a).bind fun x=>(truth x).bind fun t=>if t = true then pe P ρ H b else some (.bool false)
 | .or a b=>(pe P ρ H a).bind fun x=>(truth x).bind fun t=>if t = true then some (.bool true) else pe P ρ H b
 | .cmp2 a o b o' c=>(pe P ρ H a).bind fun x=>(pe P ρ H b).bind fun y=>(cmpop o x y H).bind fun t=>if t = true then (pe P ρ H c).bind fun z=>(cmpop o' y z H).map V.bool else some (.bool false)
 | _=>none
noncomputable def pes (P:Prog) (ρ:Fm) (H:AH):List Ex→Option (List V)
 | []=>some []
 | e :: es=>(pe P ρ H e).bind fun v=>(pes P ρ H es).map (v :: ·)
end
section
variable {P:Prog} {C:Calls} {ρ:Fm} {H:AH} {X:XE}
theorem prim_same {p:Prim} {vs:List V} (h:p.pure = true):Is (prim P p vs H) fun r=>prim P p vs H = some (r.1,H):=by
 refine Is.imp (R:=fun r=>prim P p vs H = some r∧r.2 = H) (Is.to fun r e=>⟨e,?_⟩) fun r q=>q.1.trans (congrArg some (congrArg (Prod.mk r.1) q.2))
 refine Is.of (R:=fun r=>r.2 = H) ?_ e
 cases p <;> first | exact absurd h Bool.false_ne_true | (rcases vs with _ | ⟨a,_ | ⟨b,_ | _⟩⟩ <;> first | exact trivial | exact Is.self.map fun _ _=>rfl) | exact Is.ite fun _=>rfl
theorem pe_i (e:Ex):Is (pe P ρ H e) (Ev P C ρ H X e) :=
 Ex.rec (motive_1:=fun e=>Is (pe P ρ H e) (Ev P C ρ H X e)) (motive_2:=fun es=>Is (pes P ρ H es) fun vs=>∀ Q:List V→AH→Prop,Q vs H→wpEs P C es ρ H Q X) (motive_3:=fun _=>True)
  (fun v=>ev_cst)
  (fun i=>Is.to fun v (h:(ρ[i]?).join = some v)=>ev_var (optE (o:=ρ[i]?) (fun hi=>nos ((congrArg Option.join hi).symm.trans h)) fun o hi=>hi.trans (congrArg some ((congrArg Option.join hi).symm.trans h))))
  (fun mu p args ih=>by
   cases mu with
   | true=>exact trivial
   | false=>exact ih.bind fun vs h=>Is.ite fun hp=>(prim_same hp).map fun r e Q q=>h _ (hE e q))
  (fun a b iha ihb=>iha.bind fun x h1=>Is.self.bind fun t ht=>Is.ite2 (fun e=>ihb.imp fun v h2 Q q=>h1 _ (by rw [ht]; subst e; exact h2 Q q)) fun e Q q=>h1 _ (by rw [ht]; cases t with | true=>exact absurd rfl e | false=>exact q))
  (fun a b iha ihb=>iha.bind fun x h1=>Is.self.bind fun t ht=>Is.ite2 (fun e Q q=>h1 _ (by rw [ht]; subst e; exact q)) fun e=>ihb.imp fun v h2 Q q=>h1 _ (by rw [ht]; cases t with | true=>exact absurd rfl e | false=>exact h2 Q q))
  (fun a o b o' c iha ihb ihc=>iha.bind fun x h1=>ihb.bind fun y h2=>Is.self.bind fun t ht=>Is.ite2 (fun e=>ihc.bind fun z h3=>Is.self.map fun t' ht' Q q=>h1 _ (h2 _ (by rw [ht]; subst e; exact h3 _ (by rw [ht']; exact q)))) fun e Q q=>h1 _ (h2 _ (by rw [ht]; cases t with | true=>exact absurd rfl e | false=>exact q)))
  (fun _ _ _=>trivial) (fun _ _ _ _ _ _ _=>trivial) (fun _ _ _ _ _ _ _=>trivial) (fun _ _ _ _=>trivial) (fun _ _ _ _ _ _ _=>trivial)
  (fun _ q=>q) (fun e es h1 h2=>h1.bind fun v h1=>h2.map fun vs h2 Q q=>h1 _ (h2 _ q)) trivial (fun _ _=>trivial) e
theorem pe_ok {e:Ex} {v:V} (h:pe P ρ H e = some v):Ev P C ρ H X e v:=(pe_i e).of h
end
theorem compL_map {α:Type} {F:V→AH→(Option V→AH→Prop)→Prop} {ok:AH→Prop} {H:AH} {f g:α→V} (hok:ok H) {l:List α}:∀ {acc:List V} {Q:List V→AH→Prop},
  (∀ a ∈ l,∀ K:Option V→AH→Prop,K (some (g a)) H→F (f a) H K)→Q (acc ++ l.map g) H→compL F ok (l.map f) acc H Q:=by
 induction l with
 | nil=>exact fun {acc _} _ q=>⟨hok,List.append_nil acc ▸ q⟩
 | cons a l ih=>exact fun {acc _} hF q=>⟨hok,hF a (.head _) _ (ih (fun b hb=>hF b (.tail _ hb)) ((List.append_assoc acc [g a] (l.map g)).symm ▸ q))⟩
theorem compL_flt {α:Type} {F:V→AH→(Option V→AH→Prop)→Prop} {ok:AH→Prop} {H:AH} {f g:α→V} {p:α→Bool} (hok:ok H) {l:List α}:∀ {acc:List V} {Q:List V→AH→Prop},
  (∀ a ∈ l,∀ K:Option V→AH→Prop,K (if p a = true then some (g a) else none) H→F (f a) H K)→Q (acc ++ (l.filter p).map g) H→compL F ok (l.map f) acc H Q:=by
 induction l with
 | nil=>exact fun {acc _} _ q=>⟨hok,List.append_nil acc ▸ q⟩
 | cons a l ih =>
  refine fun {acc _} hF q=>⟨hok,hF a (.head _) _ (ih (fun b hb=>hF b (.tail _ hb)) ?_)⟩
  cases hp:p a with
  | false=>rw [List.filter_cons_of_neg (by rw [hp]; exact Bool.false_ne_true)] at q; exact q
  | true=>rw [List.filter_cons_of_pos hp] at q; exact (List.append_assoc acc [g a] _).symm ▸ q
section
variable {P:Prog} {C:Calls} {ρ:Fm} {H:AH} {X:XE} {α:Type} {l:List α} {f g:α→V} {p:α→Bool} {elt it c:Ex} {w:V}
theorem ev_map (hit:Ev P C ρ H X it w) (hs:src H w = some (l.map f)) (hl:l.length ≤ sizeOf') (he:∀ a ∈ l,Ev P C (ρ ++ [some (f a)]) H X elt (g a)):Ev P C ρ H X (.comp false elt it none) (.lst (l.map g)):=fun Q q =>
 hit _ ⟨l.map f,hs,(List.length_map f).symm ▸ hl,compL_map hs (fun a ha K hK=>he a ha _ hK) (hE rfl q)⟩
theorem ev_flt (hit:Ev P C ρ H X it w) (hs:src H w = some (l.map f)) (hl:l.length ≤ sizeOf') (hc:∀ a ∈ l,Ev P C (ρ ++ [some (f a)]) H X c (.bool (p a))) (he:∀ a ∈ l,p a = true→Ev P C (ρ ++ [some (f a)]) H X elt (g a)):Ev P C ρ H X (.comp false elt it (some c)) (.lst ((l.filter p).map g)):=fun Q q=>by
 refine hit _ ⟨l.map f,hs,(List.length_map f).symm ▸ hl,compL_flt (p:=p) hs (fun a ha K hK=>hc a ha _ ?_) (hE rfl q)⟩
 cases hp:p a with
 | true=>rw [hp] at hK; exact he a ha hp _ hK
 | false=>rw [hp] at hK; exact hK
end
section
variable {P:Prog} {C:Calls} {ρ:Fm} {H:AH} {K:KS} {R:QE} {X:XE} {ss body:List St} {rev:Bool} {i:Nat} {e c:Ex} {v:V} {items:List V}
theorem ev_for (Inv:List V→Fm→AH→Prop) (h:Ev P C ρ H X e v) (hs:∀ its ρ' H',Inv its ρ' H'→srcD rev H' v = some items) (hl:items.length ≤ sizeOf') (h0:Inv items ρ H)
  (step:∀ x xs ρ' H',Inv (x :: xs) ρ' H'→∀ K':KS,(∀ ρ'' H'',Inv xs ρ'' H''→K' ρ'' H'')→wpSs P C body (ρ'.set i (some x)) H' K' R (fun _ _=>False))
  (fin:∀ ρ' H',Inv [] ρ' H'→wpSs P C ss ρ' H' K R X):wpSs P C (.forIn rev (.inl i) e body :: ss) ρ H K R X :=
 h _ ⟨items,hs _ _ _ h0,hl,forL_inv Inv (fun x xs ρ' H' hI=>⟨hs _ _ _ hI,step x xs ρ' H' hI⟩) (fun ρ' H' hI=>⟨hs _ _ _ hI,fin ρ' H' hI⟩) h0⟩
theorem st_setI {o i e:Ex} (h:wpE P C e ρ H (fun x H₁=>wpE P C o ρ H₁ (fun ov H₂=>wpE P C i ρ H₂ (fun iv H₃=>match setItemV ov iv x H₃ with | some H'=>wpSs P C ss ρ H' K R X | none=>False) X) X) X):wpSs P C (.setItem o i e :: ss) ρ H K R X:=h
theorem st_while (k:Nat) (h:whileL (fun ρ' H' K₁ K₂=>wpE P C c ρ' H' (fun v H''=>okB (truth v) fun t=>if t then wpSs P C body ρ' H'' K₁ R (fun _ _=>False) else K₂ ρ' H'') (fun _ _=>False)) k ρ H (fun ρ' H'=>wpSs P C ss ρ' H' K R X)):wpSs P C (.while_ c body :: ss) ρ H K R X:=⟨k,h⟩
end
section
variable {P:Prog} {C:Calls} {ρ:Fm} {H:AH} {K:KS} {R:QE} {X:XE} {ss as bs:List St} {c:Ex}
theorem ev_yes (h:Ev P C ρ H X c (.bool true)) (k:wpSs P C as ρ H (fun ρ' H'=>wpSs P C ss ρ' H' K R X) R X):wpSs P C (.ite c as bs :: ss) ρ H K R X:=h _ k
theorem ev_no (h:Ev P C ρ H X c (.bool false)) (k:wpSs P C bs ρ H (fun ρ' H'=>wpSs P C ss ρ' H' K R X) R X):wpSs P C (.ite c as bs :: ss) ρ H K R X:=h _ k
end
theorem cf {P:Prog} {n f:Nat} {args:List V} {fn:Fn} {H:AH} {Q:QE} {X:XE} (hf:P.fns f = some fn) (ha:args.length = fn.arity) (w:wpSs P (callF P n) fn.body (args.map some ++ List.replicate fn.extra none) H (fun _ H'=>Q .none H') Q X):callF P (n + 1) f args H Q X:=by
 rw [callF_succ,hf]
 exact ⟨ha,w⟩
end Mine
end
noncomputable section
namespace Mine
open PySem
abbrev Nm:=List Char
abbrev AL (α:Type):=List (Nm × α)
noncomputable def aget {α:Type} (n:Nm):AL α→Option α
 | []=>none
 | p :: l=>if n = p.1 then some p.2 else aget n l
noncomputable def aput {α:Type} (n:Nm) (x:α):AL α→AL α
 | []=>[(n,x)]
 | p :: l=>if n = p.1 then (p.1,x) :: l else p :: aput n x l
noncomputable def adel {α:Type} (n:Nm):AL α→AL α
 | []=>[]
 | p :: l=>if n = p.1 then l else p :: adel n l
section
variable {α:Type} {val:α→V} {n m:Nm} {x:α} {l:AL α}
theorem dget_al:dget n (l.map (·.1)) (l.map fun p=>val p.2) = (aget n l).map val:=by
 induction l with
 | nil=>rfl
 | cons p l ih =>
  show (if n = p.1 then some (val p.2) else dget n _ _) = (if n = p.1 then some p.2 else aget n l).map val
  by_cases h:n = p.1
  ·rw [if_pos h,if_pos h]; rfl
  ·rw [if_neg h,if_neg h]; exact ih
theorem dput_al:dput n (val x) (l.map (·.1)) (l.map fun p=>val p.2) = ((aput n x l).map (·.1),(aput n x l).map fun p=>val p.2):=by
 induction l with
 | nil=>rfl
 | cons p l ih =>
  show (if n = p.1 then (p.1 :: l.map (·.1),val x :: l.map fun p=>val p.2) else (p.1 :: (dput n (val x) _ _).1,val p.2 :: (dput n (val x) _ _).2)) = ((if n = p.1 then (p.1,x) :: l else p :: aput n x l).map (·.1),(if n = p.1 then (p.1,x) :: l else p :: aput n x l).map fun p=>val p.2)
  by_cases h:n = p.1
  ·rw [if_pos h,if_pos h]; rfl
  ·rw [if_neg h,if_neg h,ih]; rfl
theorem ddel_al:ddel n (l.map (·.1)) (l.map fun p=>val p.2) = ((adel n l).map (·.1),(adel n l).map fun p=>val p.2):=by
 induction l with
 | nil=>rfl
 | cons p l ih =>
  show (if n = p.1 then (l.map (·.1),l.map fun p=>val p.2) else (p.1 :: (ddel n _ _).1,val p.2 :: (ddel n _ _).2)) = ((if n = p.1 then l else p :: adel n l).map (·.1),(if n = p.1 then l else p :: adel n l).map fun p=>val p.2)
  by_cases h:n = p.1
  ·rw [if_pos h,if_pos h]
  ·rw [if_neg h,if_neg h,ih]; rfl
noncomputable def hasK (n:Nm) (l:AL α):Bool:=(l.map (·.1)).contains n
theorem hasK_iff:hasK n l = true ↔ ∃ x,(n,x) ∈ l:=by
 unfold hasK
 rw [List.contains_iff_mem,List.mem_map]
 exact ⟨fun ⟨p,h,e⟩=>⟨p.2,e ▸ h⟩,fun ⟨x,h⟩=>⟨_,h,rfl⟩⟩
theorem aget_some (h:aget n l = some x):(n,x) ∈ l:=by
 induction l with
 | nil=>exact nomatch h
 | cons p l ih =>
  have h:(if n = p.1 then some p.2 else aget n l) = some x:=h
  by_cases e:n = p.1
  ·rw [if_pos e] at h; exact e ▸ Option.some.inj h ▸ .head _
  ·rw [if_neg e] at h; exact .tail _ (ih h)
theorem aget_has (h:hasK n l = true):∃ x,aget n l = some x:=by
 induction l with
 | nil=>exact nomatch h
 | cons p l ih =>
  show ∃ x,(if n = p.1 then some p.2 else aget n l) = some x
  by_cases e:n = p.1
  ·rw [if_pos e]; exact ⟨_,rfl⟩
  ·rw [if_neg e]; exact ih (hasK_iff.mpr ((hasK_iff.mp h).imp fun x q=>memE q (fun q=>absurd (congrArg Prod.fst q) e) id))
theorem mem_aput {p:Nm × α} (h:p ∈ aput n x l):p = (n,x) ∨ p ∈ l:=by
 induction l with
 | nil=>exact .inl (in1 h)
 | cons q l ih =>
  have h:p ∈ (if n = q.1 then (q.1,x) :: l else q :: aput n x l):=h
  by_cases e:n = q.1
  ·rw [if_pos e] at h; exact memE h (fun h=>.inl (e ▸ h)) fun h=>.inr (.tail _ h)
  ·rw [if_neg e] at h; exact memE h (fun h=>.inr (h ▸ .head _)) fun h=>(ih h).imp id fun h=>.tail _ h
theorem mem_adel {p:Nm × α} (h:p ∈ adel n l):p ∈ l:=by
 induction l with
 | nil=>exact h
 | cons q l ih =>
  have h:p ∈ (if n = q.1 then l else q :: adel n l):=h
  by_cases e:n = q.1
  ·rw [if_pos e] at h; exact .tail _ h
  ·rw [if_neg e] at h; exact memE h (fun h=>h ▸ .head _) fun h=>.tail _ (ih h)
theorem keys_aput:(aput n x l).map (·.1) = if hasK n l = true then l.map (·.1) else l.map (·.1) ++ [n]:=by
 induction l with
 | nil=>rfl
 | cons q l ih =>
  show ((if n = q.1 then (q.1,x) :: l else q :: aput n x l).map (·.1)) = _
  by_cases e:n = q.1
  ·rw [if_pos e,if_pos (hasK_iff.mpr ⟨q.2,e ▸ .head _⟩)]; rfl
  ·rw [if_neg e,List.map_cons,ih,show hasK n (q :: l) = hasK n l from by unfold hasK; rw [List.map_cons,List.contains_cons,beq_eq_false_iff_ne.mpr e,Bool.false_or]]
   by_cases h:hasK n l = true
   ·rw [if_pos h,if_pos h]; rfl
   ·rw [if_neg h,if_neg h]; rfl
theorem keys_adel:(adel n l).map (·.1) = (l.map (·.1)).erase n:=by
 induction l with
 | nil=>rfl
 | cons q l ih =>
  show ((if n = q.1 then l else q :: adel n l).map (·.1)) = (q.1 :: l.map (·.1)).erase n
  by_cases e:n = q.1
  ·rw [if_pos e,e,List.erase_cons_head]
  ·rw [if_neg e,List.erase_cons_tail (by rw [beq_iff_eq]; exact Ne.symm e),List.map_cons,ih]
theorem nd_aput (h:(l.map (·.1)).Nodup):((aput n x l).map (·.1)).Nodup:=by
 rw [keys_aput]
 by_cases e:hasK n l = true
 ·rw [if_pos e]; exact h
 ·rw [if_neg e]
  exact List.nodup_append.mpr ⟨h,List.nodup_cons.mpr ⟨nofun,List.nodup_nil⟩,fun a ha b hb q=>e (List.contains_iff_mem.mpr (in1 hb ▸ q ▸ ha))⟩
theorem nd_adel (h:(l.map (·.1)).Nodup):((adel n l).map (·.1)).Nodup:=by rw [keys_adel]; exact h.erase n
theorem has_aput:hasK m (aput n x l) = (decide (m = n) || hasK m l):=by
 have h:hasK m (aput n x l) = ((aput n x l).map (·.1)).contains m:=rfl
 rw [h,keys_aput]
 by_cases e:hasK n l = true
 ·rw [if_pos e]
  by_cases q:m = n
  ·rw [q,decide_eq_true rfl]; exact e
  ·rw [decide_eq_false q]; rfl
 ·rw [if_neg e,Bool.eq_iff_iff,List.contains_iff_mem,List.mem_append,Bool.or_eq_true,decide_eq_true_iff]
  exact ⟨fun h=>h.elim (fun h=>.inr (List.contains_iff_mem.mpr h)) fun h=>.inl (in1 h),fun h=>h.elim (fun h=>.inr (h ▸ .head _)) fun h=>.inl (List.contains_iff_mem.mp h)⟩
theorem has_adel (h:(l.map (·.1)).Nodup):hasK m (adel n l) = (!decide (m = n) && hasK m l):=by
 unfold hasK
 rw [keys_adel,Bool.eq_iff_iff,List.contains_iff_mem,h.mem_erase_iff,Bool.and_eq_true,Bool.not_eq_true',decide_eq_false_iff_not,List.contains_iff_mem]
theorem aget_put:aget m (aput n x l) = if m = n then some x else aget m l:=by
 induction l with
 | nil=>rfl
 | cons q l ih =>
  show aget m (if n = q.1 then (q.1,x) :: l else q :: aput n x l) = if m = n then some x else if m = q.1 then some q.2 else aget m l
  by_cases e:n = q.1
  ·rw [if_pos e]
   show (if m = q.1 then some x else aget m l) = _
   rw [← e]
   by_cases h:m = n
   ·rw [if_pos h,if_pos h]
   ·rw [if_neg h,if_neg h,if_neg h]
  ·rw [if_neg e]
   show (if m = q.1 then some q.2 else aget m (aput n x l)) = _
   rw [ih]
   by_cases h:m = q.1
   ·rw [if_pos h,if_pos h,if_neg fun z:m = n=>e (z ▸ h)]
   ·rw [if_neg h,if_neg h]
end
end Mine
end
noncomputable section
namespace Mine
open PySem
set_option genInjectivity false in
inductive Evt where
 | beg (n:Nm) | end_ (n:Nm) | fail (n:Nm) | leave (n:Nm) | sent (n:Nm) (k:Nat) (l:V) | works (n:Nm) (k:Nat) | lost (n:Nm) (k:Nat)
noncomputable def Evt.v:Evt→V
 | .beg n=>.tup [.str ['b','e','g','i','n','s'],.str n]
 | .end_ n=>.tup [.str ['e','n','d','s'],.str n]
 | .fail n=>.tup [.str ['f','a','i','l','s'],.str n]
 | .leave n=>.tup [.str ['l','e','a','v','e','s'],.str n]
 | .sent n k l=>.tup [.str ['s','e','n','t'],.str n,.int k,l]
 | .works n k=>.tup [.str ['w','o','r','k','s'],.str n,.int k]
 | .lost n k=>.tup [.str ['l','o','s','t'],.str n,.int k]
noncomputable def letV (p:Nat × V):V:=.tup [.int p.1,p.2]
set_option genInjectivity false in
structure Hst where
 pres:AL Unit
 sums:AL Int
 kept:AL (Nat × List Int)
 qu:AL (Nat × List (Nat × V))
 clock:Int
 letters:Nat
 ev:List Evt
 kl:Nat
 own:Nat→Option (Bool × Nm)
set_option genInjectivity false in
structure Ad where
 d:Nat
 i:Nat
 row:Nat
 parts:Nat
 chief:Nat
 pres:Nat
 sums:Nat
 kept:Nat
 qu:Nat
 ev:Nat
 plan:V
 names:List Nm
 partVs:List V
 chk:List Nm
 chv:List V
 G:List (Nat × O)
noncomputable def dO {α:Type} (val:α→V) (l:AL α):O:=.dict (l.map (·.1)) (l.map fun p=>val p.2)
noncomputable def hk:List Nm:=[['p','l','a','n'],['r','o','w'],['p','a','r','t','s'],['c','h','i','e','f'],['p','r','e','s','e','n','t'],['s','u','m','s'],['k','e','p','t'],['q','u','e','u','e','s'],['c','l','o','c','k'],['l','e','t','t','e','r','s'],['e','v','e','n','t','s']]
noncomputable def hv (σ:Ad) (S:Hst):List V:=[σ.plan,.ref σ.row,.ref σ.parts,.ref σ.chief,.ref σ.pres,.ref σ.sums,.ref σ.kept,.ref σ.qu,.int S.clock,.int S.letters,.ref σ.ev]
noncomputable def quR (p:Nat × List (Nat × V)):V:=.ref p.1
noncomputable def keR (p:Nat × List Int):V:=.ref p.1
noncomputable def fixL (σ:Ad) (S:Hst):List (Nat × O) :=
 (σ.d,.ns hk (hv σ S)) :: (σ.i,.inst 0 σ.d) :: (σ.row,.list (σ.names.map V.str)) :: (σ.parts,.dict σ.names σ.partVs) :: (σ.chief,.dict σ.chk σ.chv) :: (σ.pres,dO (fun _=>.bool true) S.pres) :: (σ.sums,dO V.int S.sums) ::
 (σ.kept,dO keR S.kept) :: (σ.qu,dO quR S.qu) :: (σ.ev,.list (S.ev.map Evt.v)) :: σ.G
noncomputable def pP (S:Hst) (n:Nm):Hst:={ S with pres:=aput n () S.pres }
noncomputable def pD (S:Hst) (n:Nm):Hst:={ S with pres:=adel n S.pres }
noncomputable def pE (S:Hst) (t:Evt):Hst:={ S with ev:=S.ev ++ [t] }
noncomputable def pS (S:Hst) (n:Nm) (i:Int):Hst:={ S with sums:=aput n i S.sums }
noncomputable def pK (S:Hst) (n:Nm) (x:Nat × List Int) (f:Nat→Option (Bool × Nm)):Hst:={ S with kept:=aput n x S.kept,own:=f }
noncomputable def pQ (S:Hst) (n:Nm) (x:Nat × List (Nat × V)) (f:Nat→Option (Bool × Nm)):Hst:={ S with qu:=aput n x S.qu,own:=f }
noncomputable def KP (S:Hst) (H:AH):Prop:=∀ p ∈ S.kept,S.own p.2.1 = some (true,p.1)∧H[p.2.1]? = some (.list (p.2.2.map V.int))∧p.2.2.length ≤ S.kl
noncomputable def QP (S:Hst) (H:AH):Prop:=∀ p ∈ S.qu,S.own p.2.1 = some (false,p.1)∧H[p.2.1]? = some (.list (p.2.2.map letV))∧p.2.2.length ≤ S.letters
structure Hs (σ:Ad) (S:Hst) (H:AH):Prop where
 nd:((fixL σ S).map (·.1)).Nodup
 fix:∀ p ∈ fixL σ S,H[p.1]? = some p.2∧S.own p.1 = none
 kp:KP S H
 qp:QP S H
 qn:(S.qu.map (·.1)).Nodup
 pn:(S.pres.map (·.1)).Nodup
 kn:(S.kept.map (·.1)).Nodup
section
variable {σ:Ad} {S S':Hst} {H:AH}
theorem Hs.get (h:Hs σ S H) (k:Nat) {p:Nat × O} (hk:(fixL σ S)[k]? = some p):H[p.1]? = some p.2:=(h.fix p (List.mem_of_getElem? hk)).1
theorem Hs.set' {σ':Ad} (h:Hs σ S H) (k:Nat) {a:Nat} {o o' o'':O} (hk:(fixL σ S)[k]? = some (a,o)) (e:fixL σ' S' = (fixL σ S).set k (a,o'')) (z:o'' = o') (eo:S'.own = S.own) (kp:KP S' H) (qp:QP S' H) (qn:(S'.qu.map (·.1)).Nodup) (pn:(S'.pres.map (·.1)).Nodup) (kn:(S'.kept.map (·.1)).Nodup):Hs σ' S' (H.set a o'):=by
 subst z
 have ha:=h.fix _ (List.mem_of_getElem? hk)
 have hne:∀ {b:Nat} {x:Bool × Nm},S'.own b = some x→a ≠ b:=fun hb q=>nos (ha.2.symm.trans (eo ▸ q ▸ hb))
 have hlt:a < H.length:=(List.getElem?_eq_some_iff.mp ha.1).1
 have hm:(fixL σ' S').map (·.1) = (fixL σ S).map (·.1):=by
  rw [e,List.map_set]
  refine List.ext_getElem? fun j=>?_
  rw [List.getElem?_set]
  by_cases q:k = j
  ·subst q
   rw [if_pos rfl,List.getElem?_map,hk]
   exact if_pos (by rw [List.length_map]; exact (List.getElem?_eq_some_iff.mp hk).1)
  ·rw [if_neg q]
 refine ⟨hm ▸ h.nd,fun p hp=>?_,fun p hp=>?_,fun p hp=>?_,qn,pn,kn⟩
 ·rw [e] at hp
  obtain ⟨j,hj⟩:=List.getElem?_of_mem hp
  rw [List.getElem?_set] at hj
  by_cases q:k = j
  ·subst q
   rw [if_pos rfl] at hj
   have hp:(a,o'') = p:=by
    by_cases z:k < (fixL σ S).length
    ·rw [if_pos z] at hj; exact Option.some.inj hj
    ·rw [if_neg z] at hj; exact nos hj
   subst hp
   exact ⟨by rw [List.getElem?_set_self hlt],eo ▸ ha.2⟩
  ·rw [if_neg q] at hj
   have hp:=h.fix p (List.mem_of_getElem? hj)
   refine ⟨(List.getElem?_set_ne fun z=>?_).trans hp.1,eo ▸ hp.2⟩
   have h1:((fixL σ S).map (·.1))[k]? = some a:=by rw [List.getElem?_map,hk]; rfl
   have h2:((fixL σ S).map (·.1))[j]? = some a:=by rw [List.getElem?_map,hj,z]; rfl
   exact q ((List.getElem?_inj (List.getElem?_eq_some_iff.mp h1).1 h.nd).mp (h1.trans h2.symm))
 ·exact ⟨(kp p hp).1,(List.getElem?_set_ne (hne (kp p hp).1)).trans (kp p hp).2.1,(kp p hp).2.2⟩
 ·exact ⟨(qp p hp).1,(List.getElem?_set_ne (hne (qp p hp).1)).trans (qp p hp).2.1,(qp p hp).2.2⟩
theorem Hs.set (h:Hs σ S H) (k:Nat) {a:Nat} {o o' o'':O} (hk:(fixL σ S)[k]? = some (a,o)) (e:fixL σ S' = (fixL σ S).set k (a,o'')) (z:o'' = o') (ek:S'.kept = S.kept) (eq:S'.qu = S.qu) (eo:S'.own = S.own) (el:S.kl ≤ S'.kl∧S.letters ≤ S'.letters) (pn:(S'.pres.map (·.1)).Nodup):Hs σ S' (H.set a o') :=
 h.set' k hk e z eo (fun p hp=>have q:=h.kp p (ek ▸ hp); ⟨eo ▸ q.1,q.2.1,Nat.le_trans q.2.2 el.1⟩) (fun p hp=>have q:=h.qp p (eq ▸ hp); ⟨eo ▸ q.1,q.2.1,Nat.le_trans q.2.2 el.2⟩) (eq ▸ h.qn) pn (ek ▸ h.kn)
theorem Hs.alloc (h:Hs σ S H) (o:O) (x:Option (Bool × Nm)):Hs σ { S with own:=fun a=>if a = H.length then x else S.own a } (H ++ [o]):=by
 have lt:∀ {b:Nat} {o:O},H[b]? = some o→(if b = H.length then x else S.own b) = S.own b:=fun e=>if_neg fun q=>Nat.lt_irrefl _ (q ▸ (List.getElem?_eq_some_iff.mp e).1)
 exact ⟨h.nd,fun p hp=>⟨app_get (h.fix p hp).1,(lt (h.fix p hp).1).trans (h.fix p hp).2⟩,fun p hp=>⟨(lt (h.kp p hp).2.1).trans (h.kp p hp).1,app_get (h.kp p hp).2.1,(h.kp p hp).2.2⟩,
  fun p hp=>⟨(lt (h.qp p hp).2.1).trans (h.qp p hp).1,app_get (h.qp p hp).2.1,(h.qp p hp).2.2⟩,h.qn,h.pn,h.kn⟩
noncomputable def pL (S:Hst) (n:Nat):Hst:={ S with kl:=n }
theorem new_at {H:AH} {o:O}:(H ++ [o])[H.length]? = some o:=List.getElem?_concat_length
theorem own_new {x:Option (Bool × Nm)}:(if H.length = H.length then x else S.own H.length) = x:=if_pos rfl
end
end Mine
end
noncomputable section
namespace Mine
open PySem
section
variable {P:Prog} {C:Calls} {ρ:Fm} {H:AH} {K:KS} {R:QE} {X:XE} {ss:List St} {σ:Ad} {S:Hst} {e:Ex} {nm n:Nm} {v:V}
abbrev at_ (nm:Nm):Ex:=.prim false (.attr nm) [.var 0]
theorem ins_h (h:Hs σ S H):insOf H (.ref σ.i) = some (σ.d,hk,hv σ S):=by
 show (H[σ.i]?.bind O.ins).bind _ = _
 rw [h.get 1 rfl]
 show (H[σ.d]?.bind O.nms).map _ = _
 rw [h.get 0 rfl]
 rfl
theorem ev_at (h:Hs σ S H) (h0:ρ[0]? = some (some (.ref σ.i))) (e:dget nm hk (hv σ S) = some v):Ev P C ρ H X (at_ nm) v:=ev_p1 (ev_var h0) (by
 show ((insOf H (.ref σ.i)).bind fun q=>(dget nm q.2.1 q.2.2).map (·,H)) = _
 rw [ins_h h]
 exact congrArg (Option.map (·,H)) e)
theorem meth_h (h:Hs σ S H) (hn:hk.contains nm = false):hasMeth H 0 nm (.ref σ.i) = true:=by
 show (insOf H (.ref σ.i)).any _ = true
 rw [ins_h h]
 show (!hk.contains nm) = true
 rw [hn]; rfl
theorem st_meth {f:Nat} {a:Ex} {x:V} (h:Hs σ S H) (h0:ρ[0]? = some (some (.ref σ.i))) (hn:hk.contains nm = false) (ha:Ev P C ρ H X a x) (k:C f [.ref σ.i,x] H (fun _ H'=>wpSs P C ss ρ H' K R X) X):wpSs P C (.expr (.meth 0 f nm (.var 0) [a]) :: ss) ρ H K R X :=
 ev_var (P:=P) (C:=C) (X:=X) h0 (fun v H₁=>hasMeth H₁ 0 nm v = true∧wpEs P C [a] ρ H₁ (fun vs H'=>C f (v :: vs) H' (fun _ H'=>wpSs P C ss ρ H' K R X) X) X) ⟨meth_h h hn,ha _ k⟩
theorem st_meth0 {f:Nat} (h:Hs σ S H) (h0:ρ[0]? = some (some (.ref σ.i))) (hn:hk.contains nm = false) (k:C f [.ref σ.i] H (fun _ H'=>wpSs P C ss ρ H' K R X) X):wpSs P C (.expr (.meth 0 f nm (.var 0) []) :: ss) ρ H K R X :=
 ev_var (P:=P) (C:=C) (X:=X) h0 (fun v H₁=>hasMeth H₁ 0 nm v = true∧wpEs P C [] ρ H₁ (fun vs H'=>C f (v :: vs) H' (fun _ H'=>wpSs P C ss ρ H' K R X) X) X) ⟨meth_h h hn,k⟩
theorem ty_dct {i:Nat} {ks:List Nm} {vs:List V} (h:H[i]? = some (.dict ks vs)):hasTy H (.ref i) .dict = true:=by show (H[i]?.bind O.dct).isSome = _; rw [h]; rfl
theorem len_snoc {α:Type} {l:List α} {a:α}:l.length ≤ (l ++ [a]).length:=by rw [List.length_append]; exact Nat.le_add_right _ _
theorem st_ev (h:Hs σ S H) (h0:ρ[0]? = some (some (.ref σ.i))) (t:Evt) (he:Ev P C ρ H X e t.v) (hl:S.ev.length ≤ sizeOf') (k:∀ H',Hs σ (pE S t) H'→wpSs P C ss ρ H' K R X) :
  wpSs P C (.expr (.mcall .list false .append (at_ ['e','v','e','n','t','s']) [e]) :: ss) ρ H K R X :=
 st_expr (ev_at h h0 rfl _ ⟨ty_list (h.get 9 rfl),he _ (hE (pm_append (h.get 9 rfl) (Nat.le_trans (Nat.le_of_eq (List.length_map _)) hl)) (k _ (h.set 9 rfl rfl (congrArg O.list List.map_append) rfl rfl rfl ⟨Nat.le_refl _,Nat.le_refl _⟩ h.pn)))⟩)
theorem set_al {α:Type} {val:α→V} {l:AL α} {a:Nat} {x:α} (h:H[a]? = some (dO val l)) (hl:l.length ≤ sizeOf'):setItemV (.ref a) (.str n) (val x) H = some (H.set a (dO val (aput n x l))):=by
 show setD a n (val x) H H[a]? = _
 rw [h]
 show (if (l.map (·.1)).length ≤ sizeOf' then some (H.set a (.dict (dput n (val x) _ _).1 (dput n (val x) _ _).2)) else none) = _
 rw [if_pos (Nat.le_trans (Nat.le_of_eq (List.length_map _)) hl),dput_al]
 rfl
theorem st_put {α:Type} {val:α→V} {l:AL α} {a:Nat} {x:α} {ei:Ex} (h:Hs σ S H) (h0:ρ[0]? = some (some (.ref σ.i))) (ea:dget nm hk (hv σ S) = some (.ref a)) (hd:H[a]? = some (dO val l)) (he:Ev P C ρ H X e (val x)) (hi:Ev P C ρ H X ei (.str n)) (hl:l.length ≤ sizeOf') (k:wpSs P C ss ρ (H.set a (dO val (aput n x l))) K R X) :
  wpSs P C (.setItem (at_ nm) ei e :: ss) ρ H K R X:=st_setI (he _ (ev_at h h0 ea _ (hi _ (by rw [set_al hd hl]; exact k))))
theorem st_pres (h:Hs σ S H) (h0:ρ[0]? = some (some (.ref σ.i))) (hi:Ev P C ρ H X e (.str n)) (hl:S.pres.length ≤ sizeOf') (k:∀ H',Hs σ (pP S n) H'→wpSs P C ss ρ H' K R X) :
  wpSs P C (.setItem (at_ ['p','r','e','s','e','n','t']) e (.cst (.bool true)) :: ss) ρ H K R X :=
 st_put (x:=()) h h0 rfl (h.get 5 rfl) ev_cst hi hl (k _ (h.set 5 rfl rfl rfl rfl rfl rfl ⟨Nat.le_refl _,Nat.le_refl _⟩ (nd_aput h.pn)))
theorem st_sums {i:Int} {ei:Ex} (h:Hs σ S H) (h0:ρ[0]? = some (some (.ref σ.i))) (he:Ev P C ρ H X e (.int i)) (hi:Ev P C ρ H X ei (.str n)) (hl:S.sums.length ≤ sizeOf') (k:∀ H',Hs σ (pS S n i) H'→wpSs P C ss ρ H' K R X) :
  wpSs P C (.setItem (at_ ['s','u','m','s']) ei e :: ss) ρ H K R X :=
 st_put h h0 rfl (h.get 6 rfl) he hi hl (k _ (h.set 6 rfl rfl rfl rfl rfl rfl ⟨Nat.le_refl _,Nat.le_refl _⟩ h.pn))
theorem st_gone (h:Hs σ S H) (h0:ρ[0]? = some (some (.ref σ.i))) (hi:Ev P C ρ H X e (.str n)) (hn:hasK n S.pres = true) (hl:S.pres.length ≤ sizeOf') (k:∀ H',Hs σ (pD S n) H'→wpSs P C ss ρ H' K R X) :
  wpSs P C (.expr (.mcall .dict false .dpop (at_ ['p','r','e','s','e','n','t']) [e]) :: ss) ρ H K R X:=by
 have hp:=h.get 5 rfl
 obtain ⟨x,hx⟩:=aget_has hn
 refine st_expr (ev_at h h0 rfl _ ⟨ty_dct hp,hi _ (hE (v:=.bool true) (H':=H.set σ.pres (dO (fun _=>.bool true) (adel n S.pres))) ?_ (k _ (h.set 5 rfl rfl rfl rfl rfl rfl ⟨Nat.le_refl _,Nat.le_refl _⟩ (nd_adel h.pn))))⟩)
 show ((H[σ.pres]?.bind O.dct).bind _).bind _ = _
 rw [hp]
 show (if (S.pres.map (·.1)).length ≤ sizeOf' then (dget n _ _).map fun x=>(x,H.set σ.pres (.dict (ddel n _ _).1 (ddel n _ _).2)) else none) = _
 rw [if_pos (Nat.le_trans (Nat.le_of_eq (List.length_map _)) hl),dget_al (val:=fun _=>V.bool true),hx,ddel_al (val:=fun _=>V.bool true)]
 rfl
theorem wp_nil {Q:QE} (q:Q (.ref H.length) (H ++ [.list []])):wpE P C (.prim true .mklist []) ρ H Q X:=show okE (primM P true .mklist [] H) Q from hE (pM_mkl (Nat.zero_le _)) q
theorem st_kept (h:Hs σ S H) (h0:ρ[0]? = some (some (.ref σ.i))) (hi:∀ H,Ev P C ρ H X e (.str n)) (hl:S.kept.length ≤ sizeOf') (k:∀ r f H',Hs σ (pK S n (r,[]) f) H'→wpSs P C ss ρ H' K R X) :
  wpSs P C (.setItem (at_ ['k','e','p','t']) e (.prim true .mklist []) :: ss) ρ H K R X:=by
 have h1:=h.alloc (.list []) (some (true,n))
 refine st_setI (wp_nil (ev_at h1 h0 rfl _ (hi _ _ ?_)))
 rw [show V.ref H.length = keR (H.length,[]) from rfl,set_al (h1.get 7 rfl) hl]
 exact k H.length _ _ (h1.set' 7 rfl rfl rfl rfl (fun p hp=>(mem_aput hp).elim (fun q=>q ▸ ⟨own_new,new_at,Nat.zero_le _⟩) (h1.kp p)) h1.qp h.qn h.pn (nd_aput h.kn))
theorem st_quNew (h:Hs σ S H) (h0:ρ[0]? = some (some (.ref σ.i))) (hi:∀ H,Ev P C ρ H X e (.str n)) (hl:S.qu.length ≤ sizeOf') (k:∀ r f H',Hs σ (pQ S n (r,[]) f) H'→wpSs P C ss ρ H' K R X) :
  wpSs P C (.setItem (at_ ['q','u','e','u','e','s']) e (.prim true .mklist []) :: ss) ρ H K R X:=by
 have h1:=h.alloc (.list []) (some (false,n))
 refine st_setI (wp_nil (ev_at h1 h0 rfl _ (hi _ _ ?_)))
 rw [show V.ref H.length = quR (H.length,[]) from rfl,set_al (h1.get 8 rfl) hl]
 exact k H.length _ _ (h1.set' 8 rfl rfl rfl rfl h1.kp (fun p hp=>(mem_aput hp).elim (fun q=>q ▸ ⟨own_new,new_at,Nat.zero_le _⟩) (h1.qp p)) (nd_aput h.qn) h.pn h.kn)
end
end Mine
end
noncomputable section
namespace Mine
open PySem
noncomputable def wk:List Char:=['w','o','r','k','e','r']
noncomputable def wd:List Char:=['w','a','r','d','e','n']
noncomputable def rules3:List (List Char):=[['a','l','w','a','y','s'],['f','a','u','l','t','e','d'],['n','e','v','e','r']]
noncomputable def rulesW:List (List Char):=[['o','n','e'],['r','e','s','t'],['a','l','l']]
noncomputable def abc:List Char:=['a','b','c','d','e','f','g','h','i','j','k','l','m','n','o','p','q','r','s','t','u','v','w','x','y','z']
noncomputable def nmOk (s:List Char):Prop:=1 ≤ s.length∧s.length ≤ 8∧∀ c ∈ s,c ∈ abc
abbrev wkV (nm md:Nm):V:=.tup [.str wk,.str nm,.str md]
abbrev wdV (nm r:Nm) (m s:Int) (ps:List V):V:=.tup [.str wd,.str nm,.str r,.int m,.int s,.tup ps]
noncomputable def nameL:List V→Nm
 | _ :: v :: _=>v.txt.getD []
 | _=>[]
noncomputable def kidsL:List V→List V
 | [_,_,_,_,_,v]=>v.tpl.getD []
 | _=>[]
noncomputable def nameOf (v:V):Nm:=nameL (v.tpl.getD [])
noncomputable def kids (v:V):List V:=kidsL (v.tpl.getD [])
noncomputable def nms:Nat→V→List Nm
 | 0,_=>[]
 | k + 1,v=>nameOf v :: (kids v).flatMap (nms k)
structure PI where
 isW:Nm→Option Bool
 ch:Nm→Option Nm
 al:Nm→Bool
 nv:Nm→Bool
 sp:Nm→Int
 mn:Nm→Int
inductive Pt (π:PI):Nat→V→Prop
 | wk {k:Nat} {nm md:Nm}:nmOk nm→md ∈ rules3→π.isW nm = some false→(∀ c,π.ch c ≠ some nm)→Pt π (k + 1) (wkV nm md)
 | wd {k:Nat} {nm r:Nm} {m s:Int} {ps:List V}:nmOk nm→r ∈ rulesW→(0 ≤ m∧m ≤ 1000000000)→(1 ≤ s∧s ≤ 1000000000)→(1 ≤ ps.length∧ps.length ≤ 8)→π.isW nm = some true→(∀ c,π.ch c = some nm ↔ ∃ p ∈ ps,nameOf p = c)→(∀ p ∈ ps,Pt π k p)→Pt π (k + 1) (wdV nm r m s ps)
noncomputable def hr (h:Nm→Bool):Evt→Nm→Bool
 | .beg n=>fun m=>decide (m = n) || h m
 | .end_ n | .fail n | .leave n=>fun m=>!decide (m = n) && h m
 | _=>h
noncomputable def Evt.nm:Evt→Nm
 | .beg n | .end_ n | .fail n | .leave n | .sent n _ _ | .works n _ | .lost n _=>n
noncomputable def Evt.plain (π:PI):Evt→Prop
 | .beg n | .end_ n | .fail n | .leave n=>(π.isW n).isSome = true
 | _=>False
abbrev here (S:Hst):Nm→Bool:=fun m=>hasK m S.pres
noncomputable def kpt (S:Hst) (c:Nm):List Int:=((aget c S.kept).map (·.2)).getD []
noncomputable def kpF (c:Nm) (l:List Int):Evt→List Int
 | .beg n=>if n = c then [] else l
 | _=>l
theorem kpt_put {S:Hst} {n c:Nm} {x:Nat × List Int} {f:Nat→Option (Bool × Nm)}:kpt (pK S n x f) c = if n = c then x.2 else kpt S c:=by
 show ((aget c (aput n x S.kept)).map (·.2)).getD [] = _
 rw [aget_put]
 by_cases e:c = n
 ·rw [if_pos e,if_pos e.symm]; rfl
 ·rw [if_neg e,if_neg fun q=>e q.symm]; rfl
structure Sp (π:PI) (k0:Nm→List Int) (S S':Hst) (es:List Evt):Prop where
 ev:S'.ev = S.ev ++ es
 qu:S'.qu = S.qu
 ck:S'.clock = S.clock
 lt:S'.letters = S.letters
 kl:S'.kl ≤ S.kl + es.length
 hr:here S' = es.foldl hr (here S)
 nm:∀ e ∈ es,e.plain π
 kp:∀ c,kpt S' c = es.foldl (kpF c) (k0 c)
structure Gd (π:PI) (S:Hst):Prop where
 kw:∀ m,hasK m S.pres = true→π.isW m = some true→hasK m S.kept = true
 ks:∀ m,hasK m S.pres = true→π.isW m = some false→hasK m S.sums = true
 lp:S.pres.length ≤ S.ev.length
 lk:S.kept.length ≤ S.ev.length
 ls:S.sums.length ≤ S.ev.length
 ll:S.kl ≤ S.ev.length
 ko:∀ m,hasK m S.kept = true→π.isW m = some true
theorem kp_wk {π:PI} {S:Hst} {n c:Nm} (g:Gd π S) (hw:π.isW n = some false):kpt S c = kpF c (kpt S c) (.beg n):=by
 show _ = if n = c then [] else kpt S c
 by_cases e:n = c
 ·rw [if_pos e]
  unfold kpt
  refine optE (o:=aget c S.kept) (fun h=>by rw [h]; rfl) fun x h=>?_
  exact absurd (Option.some.inj (hw.symm.trans (e ▸ g.ko c (hasK_iff.mpr ⟨x,aget_some h⟩)))) Bool.false_ne_true
 ·rw [if_neg e]
theorem Sp.refl {π:PI} (S:Hst):Sp π (kpt S) S S []:=⟨(List.append_nil _).symm,rfl,rfl,rfl,Nat.le_refl _,rfl,fm0,fun _=>rfl⟩
theorem Sp.trans {π:PI} {k0:Nm→List Int} {S S₁ S₂:Hst} {es es':List Evt} (a:Sp π k0 S S₁ es) (b:Sp π (kpt S₁) S₁ S₂ es'):Sp π k0 S S₂ (es ++ es') :=
 ⟨by rw [b.ev,a.ev,List.append_assoc],b.qu.trans a.qu,b.ck.trans a.ck,b.lt.trans a.lt,by rw [List.length_append,← Nat.add_assoc]; exact Nat.le_trans b.kl (Nat.add_le_add_right a.kl _),by rw [b.hr,a.hr,List.foldl_append],app_all a.nm b.nm,fun c=>by rw [b.kp c,a.kp c,List.foldl_append]⟩
theorem len_aput {α:Type} {n:Nm} {x:α} {l:AL α}:(aput n x l).length ≤ l.length + 1:=by
 rw [← List.length_map (f:=(·.1)),keys_aput]
 by_cases h:hasK n l = true
 ·rw [if_pos h,List.length_map]; exact Nat.le_succ _
 ·rw [if_neg h,List.length_append,List.length_map]; exact Nat.le_refl _
theorem len_snoc1 {α:Type} {l:List α} {a:α}:l.length + 1 ≤ (l ++ [a]).length:=Nat.le_of_eq (List.length_append (as:=l) (bs:=[a])).symm
section
variable {π:PI} {S:Hst} {n:Nm}
theorem or_has {α:Type} {x:α} {l:AL α} {m:Nm} (h:hasK m l = true):hasK m (aput n x l) = true:=by rw [has_aput,h,Bool.or_true]
theorem self_has {α:Type} {x:α} {l:AL α}:hasK n (aput n x l) = true:=by rw [has_aput,decide_eq_true rfl]; rfl
theorem put_has {α:Type} {x:α} {l:AL α} {m:Nm} (h:hasK m (aput n x l) = true):m = n ∨ hasK m l = true:=by
 rw [has_aput,Bool.or_eq_true,decide_eq_true_iff] at h; exact h
theorem gd_w (g:Gd π S) (hw:π.isW n = some false):Gd π (pS (pE (pP S n) (.beg n)) n 0) where
 kw:=fun m hm hW=>(put_has hm).elim (fun e=>absurd (Option.some.inj (hw.symm.trans ((congrArg π.isW e).symm.trans hW))) Bool.false_ne_true) fun h=>g.kw m h hW
 ks:=fun m hm hW=>(put_has hm).elim (fun e=>e ▸ self_has) fun h=>or_has (g.ks m h hW)
 lp:=Nat.le_trans len_aput (Nat.le_trans (Nat.succ_le_succ g.lp) len_snoc1)
 lk:=Nat.le_trans g.lk len_snoc
 ls:=Nat.le_trans len_aput (Nat.le_trans (Nat.succ_le_succ g.ls) len_snoc1)
 ll:=Nat.le_trans g.ll len_snoc
 ko:=g.ko
theorem gd_k {r:Nat × List Int} {f:Nat→Option (Bool × Nm)} (g:Gd π S) (hw:π.isW n = some true):Gd π (pK (pE (pP S n) (.beg n)) n r f) where
 kw:=fun m hm hW=>(put_has hm).elim (fun e=>e ▸ self_has) fun h=>or_has (g.kw m h hW)
 ks:=fun m hm hW=>(put_has hm).elim (fun e=>absurd (Option.some.inj (hW.symm.trans ((congrArg π.isW e).trans hw))) Bool.false_ne_true) fun h=>g.ks m h hW
 lp:=Nat.le_trans len_aput (Nat.le_trans (Nat.succ_le_succ g.lp) len_snoc1)
 lk:=Nat.le_trans len_aput (Nat.le_trans (Nat.succ_le_succ g.lk) len_snoc1)
 ls:=Nat.le_trans g.ls len_snoc
 ll:=Nat.le_trans g.ll len_snoc
 ko:=fun m hm=>(put_has hm).elim (fun e=>e ▸ hw) (g.ko m)
end
noncomputable def BI (π:PI) (σ:Ad) (S:Hst) (v:V) (k:Nat) (ps:List V) (total:List Evt) (its:List V) (ρ:Fm) (H:AH):Prop :=
 ∃ o S' es,ρ = [some (.ref σ.i),some v,o]∧Hs σ S' H∧Gd π S'∧Sp π (kpt S) S S' es∧es ++ (its.flatMap (nms k)).map .beg = total∧∀ p ∈ its,p ∈ ps
theorem room {π:PI} {k0:Nm→List Int} {S S':Hst} {es es' total:List Evt} {b:Nat} (sp:Sp π k0 S S' es) (he:es ++ es' = total) (hb:S.ev.length + total.length ≤ b):S'.ev.length + es'.length ≤ b:=by
 rw [sp.ev,List.length_append,Nat.add_assoc,← List.length_append,he]; exact hb
theorem room1 {k m b:Nat} {x:V} {xs:List V} (h:m + (((x :: xs).flatMap (nms k)).map Evt.beg).length ≤ b):m + (nms k x).length ≤ b:=by
 rw [List.length_map,List.flatMap_cons,List.length_append] at h; exact Nat.le_trans (Nat.add_le_add_left (Nat.le_add_right _ _) _) h
theorem f_begin {π:PI} {σ:Ad} {k:Nat} {v:V} (hP:Pt π k v):∀ {n:Nat} {S:Hst} {H:AH} {Q:QE} {X:XE},Hs σ S H→Gd π S→S.ev.length + (nms k v).length ≤ 900000→(∀ S' H',Hs σ S' H'→Gd π S'→Sp π (kpt S) S S' ((nms k v).map .beg)→Q .none H')→callF PL (n + k) 34 [.ref σ.i,v] H Q X:=by
 induction hP with
 | @wk k nm md h1 h2 h3 h4 =>
  intro n S H Q X h g hb q
  have hs:S.ev.length ≤ sizeOf':=Nat.le_trans (Nat.le_add_right _ _) (Nat.le_trans hb (by decide))
  exact cf P_fn34 rfl (st_pres h rfl (pe_ok rfl) (Nat.le_trans g.lp hs) fun H1 h1=>st_ev h1 rfl (.beg nm) (pe_ok rfl) hs fun H2 h2=>ev_yes (pe_ok rfl) (st_sums h2 rfl (pe_ok rfl) (pe_ok rfl) (Nat.le_trans g.ls hs) fun H3 h5=>q _ _ h5 (gd_w g h3) ⟨rfl,rfl,rfl,rfl,Nat.le_succ _,funext fun m=>has_aput,all1 (congrArg Option.isSome h3),fun c=>show kpt S c = kpF c (kpt S c) (.beg nm) from kp_wk g h3⟩))
 | @wd k nm rl m s ps h1 h2 h3 h4 h5 h6 h7 _ ih =>
  intro n S H Q X h g hb q
  have hs:S.ev.length ≤ sizeOf':=Nat.le_trans (Nat.le_add_right _ _) (Nat.le_trans hb (by decide))
  refine cf P_fn34 rfl (st_pres h rfl (pe_ok rfl) (Nat.le_trans g.lp hs) fun H1 h1=>st_ev h1 rfl (.beg nm) (pe_ok rfl) hs fun H2 h2=>ev_no (pe_ok rfl) (st_kept h2 rfl (fun _=>pe_ok rfl) (Nat.le_trans g.lk hs) fun r f H3 h8=>?_))
  refine ev_for (BI π σ S (wdV nm rl m s ps) k ps ((nms (k + 1) (wdV nm rl m s ps)).map .beg)) (v:=.tup ps) (items:=ps) (pe_ok rfl) (fun _ _ _ _=>rfl) (Nat.le_trans h5.2 (by decide)) ⟨none,_,[.beg nm],rfl,h8,gd_k g h6,⟨rfl,rfl,rfl,rfl,Nat.le_succ _,funext fun m=>has_aput,all1 (congrArg Option.isSome h6),fun _=>kpt_put⟩,rfl,fun _ h=>h⟩
   (fun x xs ρ' H' hI K' hK=>ea3_6 hI fun o S' es e hS gS sp he hp=>?_) fun ρ' H' hI=>ea3_6 hI fun o S' es _ hS gS sp he _=>q _ _ hS gS (he ▸ (List.append_nil es).symm ▸ sp)
  subst e
  exact st_meth hS rfl rfl (ev_var rfl) (ih x (hp x (.head _)) hS gS (room1 (room sp he ((List.length_map _).symm ▸ hb))) fun S'' H'' h' g' sp'=>hK _ _ ⟨_,S'',_,rfl,h',g',sp.trans sp',by rw [← he,List.append_assoc,← List.map_append]; rfl,fun p hp'=>hp p (.tail _ hp')⟩)
end Mine
end
noncomputable section
namespace Mine
open PySem
theorem ea4_7 {α0 α1 α2 α3:Type} {A0 A1 A2 A3 A4 A5 A6:α0→α1→α2→α3→Prop} {G:Prop} (h:∃ a0 a1 a2 a3,A0 a0 a1 a2 a3∧A1 a0 a1 a2 a3∧A2 a0 a1 a2 a3∧A3 a0 a1 a2 a3∧A4 a0 a1 a2 a3∧A5 a0 a1 a2 a3∧A6 a0 a1 a2 a3) (k:∀ a0 a1 a2 a3,A0 a0 a1 a2 a3→A1 a0 a1 a2 a3→A2 a0 a1 a2 a3→A3 a0 a1 a2 a3→A4 a0 a1 a2 a3→A5 a0 a1 a2 a3→A6 a0 a1 a2 a3→G):G:=h.elim fun a0 h=>h.elim fun a1 h=>h.elim fun a2 h=>h.elim fun a3 h=>k a0 a1 a2 a3 h.1 h.2.1 h.2.2.1 h.2.2.2.1 h.2.2.2.2.1 h.2.2.2.2.2.1 h.2.2.2.2.2.2
noncomputable def UpX (π:PI) (x:Nm) (h:Nm→Bool):Prop:=∀ c m,π.ch c = some m→m ≠ x→h c = true→h m = true
noncomputable def del (ns:List Nm) (h:Nm→Bool):Nm→Bool:=fun m=>!ns.contains m && h m
section
variable {π:PI} {k:Nat} {v:V} {x:Nm} {h:Nm→Bool}
theorem del_t {ns:List Nm} {m:Nm}:del ns h m = true ↔ m ∉ ns∧h m = true:=by
 show (!ns.contains m && h m) = true ↔ _
 rw [Bool.and_eq_true,Bool.not_eq_true',← Bool.not_eq_true,List.contains_iff_mem]
theorem del_app {a b:List Nm}:del b (del a h) = del (a ++ b) h:=funext fun m=>by
 show (!b.contains m && (!a.contains m && h m)) = (!(a ++ b).contains m && h m)
 rw [List.contains_append]
 cases a.contains m <;> cases b.contains m <;> rfl
theorem del_off {ns:List Nm} (q:∀ m ∈ ns,h m = false):del ns h = h:=funext fun m=>by
 rw [Bool.eq_iff_iff,del_t]
 exact ⟨fun q=>q.2,fun r=>⟨fun hm=>Bool.false_ne_true ((q m hm).symm.trans r),r⟩⟩
theorem del_congr {a b:List Nm} (p:a.Perm b):del a h = del b h:=funext fun m=>by
 show (!a.contains m && h m) = (!b.contains m && h m)
 rw [show a.contains m = b.contains m from by rw [Bool.eq_iff_iff,List.contains_iff_mem,List.contains_iff_mem]; exact p.mem_iff]
theorem nm_in (hP:Pt π k v):nameOf v ∈ nms k v:=by
 induction hP with
 | wk=>exact .head _
 | wd=>exact .head _
theorem pt_in (hP:Pt π k v):∀ {m c:Nm},m ∈ nms k v→π.ch c = some m→c ∈ nms k v:=by
 induction hP with
 | wk _ _ _ h4=>exact fun hm hc=>absurd (in1 hm ▸ hc) (h4 _)
 | @wd k nm _ _ _ ps _ _ _ _ _ _ h7 h8 ih =>
  exact fun {m c} hm hc=>.tail _ (memE hm (fun e:m = nm=>ea1_2 ((h7 c).mp (e ▸ hc)) fun p hp (q:nameOf p = c)=>List.mem_flatMap.mpr ⟨p,hp,q ▸ nm_in (h8 p hp)⟩) fun hm=>ea1_2 (List.mem_flatMap.mp hm) fun p hp hm=>List.mem_flatMap.mpr ⟨p,hp,ih p hp hm hc⟩)
theorem pt_off (hP:Pt π k v) (up:UpX π x h):x ∉ nms k v→h (nameOf v) = false→∀ m ∈ nms k v,h m = false:=by
 induction hP with
 | wk=>exact fun _ h0=>all1 h0
 | @wd k nm _ _ _ ps _ _ _ _ _ _ h7 h8 ih =>
  intro hx h0
  refine fm1 h0 fun m hm=>ea1_2 (List.mem_flatMap.mp hm) fun p hp hm=>ih p hp (fun q=>hx (.tail _ (List.mem_flatMap.mpr ⟨p,hp,q⟩))) (Bool.eq_false_iff.mpr fun q=>?_) m hm
  exact Bool.false_ne_true (h0.symm.trans (up _ _ ((h7 _).mpr ⟨p,hp,rfl⟩) (fun e=>hx (e ▸ .head _)) q))
theorem up_del (hP:Pt π k v) (up:UpX π x h):UpX π x (del (nms k v) h):=fun c m hc hx hh=>del_t.mpr ⟨fun hm=>(del_t.mp hh).1 (pt_in hP hm hc),up c m hc hx (del_t.mp hh).2⟩
end
theorem len_adel {α:Type} {n:Nm} {l:AL α}:(adel n l).length ≤ l.length:=by
 rw [← List.length_map (f:=(·.1)),keys_adel,← List.length_map (f:=(·.1)) (as:=l)]
 exact List.length_erase_le
noncomputable def isFl:Evt→Bool
 | .fail _ | .leave _=>true
 | _=>false
noncomputable def falls (es:List Evt):List Evt:=es.filter isFl
theorem falls_app {a b:List Evt}:falls (a ++ b) = falls a ++ falls b:=List.filter_append ..
structure Qt (S S':Hst) (es:List Evt):Prop where
 fl:falls es = []
 kp:S'.kept = S.kept
 kf:∀ c l,es.foldl (kpF c) l = l
theorem Qt.trans {S S₁ S₂:Hst} {a b:List Evt} (h:Qt S S₁ a) (h':Qt S₁ S₂ b):Qt S S₂ (a ++ b):=⟨by rw [falls_app,h.fl,h'.fl]; rfl,h'.kp.trans h.kp,fun c l=>by rw [List.foldl_append,h.kf,h'.kf]⟩
noncomputable def EndS (π:PI) (σ:Ad) (k:Nat) (v:V):Prop:=∀ {n:Nat} {S:Hst} {H:AH} {Q:QE} {X:XE} (x:Nm),x ∉ nms k v→Hs σ S H→Gd π S→UpX π x (here S)→here S (nameOf v) = true→S.ev.length + (nms k v).length ≤ 900000 →
 (∀ S' H' es,Hs σ S' H'→Gd π S'→Sp π (kpt S) S S' es→es.length ≤ (nms k v).length∧Qt S S' es→here S' = del (nms k v) (here S)→Q .none H')→callF PL (n + 2 * k) 36 [.ref σ.i,v] H Q X
section
variable {P:Prog} {C:Calls} {ρ:Fm} {H:AH} {X:XE} {π:PI} {σ:Ad} {S:Hst} {k i:Nat} {v:V} {e:Ex} {n:Nm}
theorem it_nm (hP:Pt π k v):primM P false .item [v,.int 1] H = some (.str (nameOf v),H):=by
 induction hP with
 | wk=>exact rfl
 | wd=>exact rfl
theorem ev_nm (hP:Pt π k v) (h:ρ[i]? = some (some v)):Ev P C ρ H X (.prim false .item [.var i,.cst (.int 1)]) (.str (nameOf v)):=ev_p2 (ev_var h) ev_cst (it_nm hP)
theorem pm_inD {a:Nat} {ks:List Nm} {vs:List V} (h:H[a]? = some (.dict ks vs)):primM P false (.cop .in_) [.str n,.ref a] H = some (.bool (ks.contains n),H):=by
 show ((inO H (.str n) (.ref a) (H[a]?.bind O.lst))).map _ = _
 rw [h]
 show ((H[a]?.bind O.dct).bind _).map _ = _
 rw [h]; rfl
theorem ev_here (hs:Hs σ S H) (h0:ρ[0]? = some (some (.ref σ.i))) (he:Ev P C ρ H X e (.str n)):Ev P C ρ H X (.prim false (.cop .in_) [e,at_ ['p','r','e','s','e','n','t']]) (.bool (here S n)):=ev_p2 he (ev_at hs h0 rfl) (pm_inD (hs.get 5 rfl))
end
theorem room2 {α β γ:Type} {f:α→List β} {rev dn xs:List α} {p:α} {es:List γ} {a b:Nat} (e:rev = dn ++ p :: xs) (hl:es.length ≤ (dn.flatMap f).length) (hb:a + (rev.flatMap f).length ≤ b):a + es.length + (f p).length ≤ b:=by
 subst e
 rw [List.flatMap_append,List.flatMap_cons,List.length_append,List.length_append] at hb
 rw [Nat.add_assoc]
 exact Nat.le_trans (Nat.add_le_add_left (Nat.add_le_add hl (Nat.le_add_right _ _)) a) hb
noncomputable def EI6 (π:PI) (σ:Ad) (S:Hst) (v:V) (k:Nat) (x:Nm) (ps:List V) (its:List V) (ρ:Fm) (H:AH):Prop :=
 ∃ o S' es dn,ρ = [some (.ref σ.i),some v,o]∧Hs σ S' H∧Gd π S'∧Sp π (kpt S) S S' es∧(ps = dn ++ its∧es.length ≤ (dn.flatMap (nms k)).length∧Qt S S' es)∧here S' = del (dn.flatMap (nms k)) (here S)∧UpX π x (here S')
noncomputable def EndP (π:PI) (σ:Ad) (k:Nat) (v:V):Prop:=∀ {n:Nat} {S:Hst} {H:AH} {Q:QE} {X:XE} (x:Nm),x ∉ (kids v).flatMap (nms k)→Hs σ S H→Gd π S→UpX π x (here S)→S.ev.length + ((kids v).flatMap (nms k)).length ≤ 900000 →
 (∀ S' H' es,Hs σ S' H'→Gd π S'→Sp π (kpt S) S S' es→es.length ≤ ((kids v).flatMap (nms k)).length∧Qt S S' es→here S' = del ((kids v).flatMap (nms k)) (here S)→UpX π x (here S')→Q .none H')→callF PL (n + 2 * k + 1) 35 [.ref σ.i,v] H Q X
theorem endp_w {π:PI} {σ:Ad} {k:Nat} {nm md:Nm}:EndP π σ k (wkV nm md):=fun {_ S H _ _} _ _ h g up _ q=>cf P_fn35 rfl (ev_no (pe_ok rfl) (q S H [] h g (Sp.refl S) ⟨Nat.le_refl _,rfl,rfl,fun _ _=>rfl⟩ rfl up))
theorem endp_d {π:PI} {σ:Ad} {k:Nat} {nm rl:Nm} {m s:Int} {ps:List V} (h5:ps.length ≤ 8) (h8:∀ p ∈ ps,Pt π k p) (ih:∀ p ∈ ps,EndS π σ k p):EndP π σ k (wdV nm rl m s ps):=fun {n S H Q X} x hx h g up hb q=>by
 have pm:(ps.reverse.flatMap (nms k)).Perm (ps.flatMap (nms k)):=(List.reverse_perm ps).flatMap_right _
 refine cf P_fn35 rfl (ev_yes (pe_ok rfl) ?_)
 refine ev_for (EI6 π σ S (wdV nm rl m s ps) k x ps.reverse) (v:=.tup ps) (items:=ps.reverse) (pe_ok rfl) (fun _ _ _ _=>rfl) (Nat.le_trans (Nat.le_of_eq List.length_reverse) (Nat.le_trans h5 (by decide))) ⟨none,S,[],[],rfl,h,g,Sp.refl S,⟨rfl,Nat.le_refl _,rfl,rfl,fun _ _=>rfl⟩,rfl,up⟩
  (fun p xs ρ' H' hI K' hK=>ea4_7 hI fun o S' es dn e hS gS sp hd hh hu=>?_) fun ρ' H' hI=>ea4_7 hI fun o S' es dn _ hS gS sp hd hh hu=>?_
 ·subst e
  have hm:p ∈ ps:=List.mem_reverse.mp (hd.1 ▸ List.mem_append_right dn (.head _))
  have hpx:x ∉ nms k p:=fun q=>hx (List.mem_flatMap.mpr ⟨p,hm,q⟩)
  have ed:(dn ++ [p]).flatMap (nms k) = dn.flatMap (nms k) ++ nms k p:=by rw [List.flatMap_append,List.flatMap_cons,List.flatMap_nil,List.append_nil]
  have ec:ps.reverse = (dn ++ [p]) ++ xs:=hd.1.trans (List.append_assoc dn [p] xs).symm
  refine ev_ite (ev_here hS rfl (ev_nm (h8 p hm) rfl)) (fun hp=>?_) fun hp=>?_
  ·refine st_meth hS rfl rfl (ev_var rfl) (ih p hm x hpx hS gS hu hp ?_ fun S'' H'' es' hS' gS' sp' hl hh'=>hK _ _ ⟨_,S'',_,dn ++ [p],rfl,hS',gS',sp.trans sp',⟨ec,?_,hd.2.2.trans hl.2⟩,?_,hh' ▸ up_del (h8 p hm) hu⟩)
   ·rw [sp.ev,List.length_append]; exact room2 hd.1 hd.2.1 (pm.length_eq.symm ▸ hb)
   ·rw [ed,List.length_append,List.length_append]; exact Nat.add_le_add hd.2.1 hl.1
   ·rw [hh',hh,del_app,ed]
  ·refine hK _ _ ⟨_,S',es,dn ++ [p],rfl,hS,gS,sp,⟨ec,?_,hd.2.2⟩,?_,hu⟩
   ·rw [ed,List.length_append]; exact Nat.le_trans hd.2.1 (Nat.le_add_right _ _)
   ·rw [ed,← del_app,← hh,del_off (pt_off (h8 p hm) hu hpx hp)]
 ·have e:ps.reverse = dn:=hd.1.trans (List.append_nil dn)
  exact q S' H' es hS gS sp ⟨pm.length_eq ▸ e ▸ hd.2.1,hd.2.2⟩ (hh.trans (e ▸ del_congr pm)) hu
theorem gd_del {π:PI} {S:Hst} {n:Nm} {t:Evt} (g:Gd π S):Gd π (pE (pD S n) t) where
 kw:=fun m hm=>g.kw m (hasK_iff.mpr ((hasK_iff.mp hm).imp fun _ h=>mem_adel h))
 ks:=fun m hm=>g.ks m (hasK_iff.mpr ((hasK_iff.mp hm).imp fun _ h=>mem_adel h))
 lp:=Nat.le_trans (len_adel) (Nat.le_trans g.lp len_snoc)
 lk:=Nat.le_trans g.lk len_snoc
 ls:=Nat.le_trans g.ls len_snoc
 ll:=Nat.le_trans g.ll len_snoc
 ko:=g.ko
theorem beq_dec {a b:Nm}:(a == b) = decide (a = b):=by rw [Bool.eq_iff_iff,beq_iff_eq,decide_eq_true_iff]
theorem two_le {a b:V}:[a,b].length ≤ sizeOf':=show 2 ≤ sizeOf' by decide
theorem pt_nm {π:PI} {k:Nat} {v:V} (hP:Pt π k v):(π.isW (nameOf v)).isSome = true:=by
 induction hP with
 | wk _ _ h=>exact congrArg Option.isSome h
 | wd _ _ _ _ _ h=>exact congrArg Option.isSome h
theorem nd_kid {k:Nat} {v p:V} (hn:(nms (k + 1) v).Nodup) (hp:p ∈ kids v):(nms k p).Nodup :=
 (List.sublist_flatten_of_mem (List.mem_map_of_mem hp)).nodup (List.flatMap_def ▸ (List.nodup_cons.mp hn).2)
theorem end_step {π:PI} {σ:Ad} {k:Nat} {v:V} (hP:Pt π (k + 1) v) (hn:(nms (k + 1) v).Nodup) (ep:EndP π σ k v):EndS π σ (k + 1) v:=fun {n S H Q X} x hx h g up hh hb q=>by
 refine cf P_fn36 rfl (st_meth h rfl rfl (ev_var rfl) (ep (n:=n) x (fun q=>hx (.tail _ q)) h g up (Nat.le_trans (Nat.add_le_add_left (Nat.le_succ _) _) hb) fun S1 H1 es hS gS sp hl hh1 _=>?_))
 have hs:S1.ev.length ≤ sizeOf':=by
  rw [sp.ev,List.length_append]
  exact Nat.le_trans (Nat.add_le_add_left (Nat.le_trans hl.1 (Nat.le_succ _)) _) (Nat.le_trans hb (by decide))
 refine st_gone hS rfl (ev_nm hP rfl) ((congrFun hh1 _).trans (del_t.mpr ⟨(List.nodup_cons.mp hn).1,hh⟩)) (Nat.le_trans gS.lp hs) fun H2 hS2=>st_ev hS2 rfl (.end_ (nameOf v)) (ev_p2 ev_cst (ev_nm hP rfl) (pm_mkt two_le)) hs fun H3 hS3=>q _ _ _ hS3 (gd_del gS) (sp.trans ⟨rfl,rfl,rfl,rfl,Nat.le_succ _,funext fun m=>has_adel hS.pn,all1 (pt_nm hP),fun _=>rfl⟩) ⟨Nat.le_trans (Nat.le_of_eq List.length_append) (Nat.succ_le_succ hl.1),hl.2.trans ⟨rfl,rfl,fun _ _=>rfl⟩⟩ (funext fun m=>(has_adel hS.pn).trans ?_)
 rw [show hasK m S1.pres = del ((kids v).flatMap (nms k)) (here S) m from congrFun hh1 m]
 show (!decide (m = nameOf v) && (!((kids v).flatMap (nms k)).contains m && here S m)) = (!(nameOf v :: (kids v).flatMap (nms k)).contains m && here S m)
 rw [List.contains_cons,Bool.not_or,Bool.and_assoc,beq_dec]
theorem f_end {π:PI} {σ:Ad} {k:Nat} {v:V} (hP:Pt π k v):(nms k v).Nodup→EndS π σ k v:=by
 induction hP with
 | wk h1 h2 h3 h4=>exact fun hn=>end_step (.wk h1 h2 h3 h4) hn endp_w
 | wd h1 h2 h3 h4 h5 h6 h7 h8 ih=>exact fun hn=>end_step (.wd h1 h2 h3 h4 h5 h6 h7 h8) hn (endp_d h5.2 h8 fun p hp=>ih p hp (nd_kid hn hp))
end Mine
end
noncomputable section
namespace Mine
open PySem
theorem f8 {n r:Nat} {hrs:List Int} {a b:Int} {H:AH} {Q:QE} {X:XE} (h:H[r]? = some (.list (hrs.map V.int))) (hl:hrs.length ≤ sizeOf') (q:Q (.lst ((hrs.filter fun z=>decide (a - b < z)).map V.int)) H):callF PL (n + 1) 8 [.ref r,.int a,.int b] H Q X :=
 cf P_fn8 rfl (ev_ret (ev_flt (f:=V.int) (g:=V.int) (p:=fun z=>decide (a - b < z)) (ev_var rfl) (show H[r]?.bind O.lst = _ by rw [h]; rfl) hl (fun _ _=>pe_ok rfl) fun _ _ _=>ev_var rfl) q)
theorem rng_nat {a b:Nat}:rngL a b = ((List.range (b - a)).map (a + ·)).map fun j:Nat=>V.int j:=by
 unfold rngL
 rw [List.map_map,Int.toNat_sub]
 rfl
theorem nd_rng {a m:Nat}:((List.range m).map (a + ·)).Nodup:=List.Pairwise.map _ (fun _ _ h q=>h (Nat.add_left_cancel q)) List.nodup_range
theorem len_rng {a s:Nat}:((List.range (s - a)).map (a + ·)).length ≤ s:=by rw [List.length_map,List.length_range]; exact Nat.sub_le _ _
theorem f9 {n s i:Nat} {rl:Nm} {H:AH} {Q:QE} {X:XE} (hr:rl ∈ rulesW) (hi:i < s) (hs:s ≤ 8) (q:∀ l:List Nat,l.Nodup→l.length ≤ s→(∀ j ∈ l,j < s)→i ∈ l→Q (.lst (l.map fun j:Nat=>V.int j)) H):callF PL (n + 1) 9 [.str rl,.int s,.int i] H Q X:=by
 have sm:∀ {j:Nat},j ≤ 8→-10 ^ 12 ≤ (j:Int)∧(j:Int) ≤ 10 ^ 12:=fun {j} h=>⟨Int.le_trans (by decide) (Int.natCast_nonneg j),Int.le_trans (Int.ofNat_le.mpr h) (by decide)⟩
 refine memE hr (fun e=>?_) fun hr=>memE hr (fun e=>?_) fun hr=>?_
 ·subst e
  exact cf P_fn9 rfl (ev_yes (pe_ok rfl) (ev_ret (pe_ok rfl) (q [i] (List.nodup_cons.mpr ⟨List.not_mem_nil,List.nodup_nil⟩) (Nat.lt_of_le_of_lt (Nat.zero_le _) hi) (all1 hi) (.head _))))
 ·subst e
  refine cf P_fn9 rfl (ev_no (pe_ok rfl) (ev_yes (pe_ok rfl) (ev_ret (ev_p1 (ev_p2 (ev_var rfl) (ev_var rfl) (pm_range2 (sm (Nat.le_trans (Nat.le_of_lt hi) hs)) (sm hs))) (pm_listr (by unfold sizeOf'; omega))) ?_)))
  rw [rng_nat]
  exact q _ nd_rng len_rng (fun j hj=>ea1_2 (List.mem_map.mp hj) fun t ht e=>e ▸ by have:=List.mem_range.mp ht; omega) (List.mem_map.mpr ⟨0,List.mem_range.mpr (Nat.sub_pos_of_lt hi),rfl⟩)
 ·rw [in1 hr]
  refine cf P_fn9 rfl (ev_no (pe_ok rfl) (ev_no (pe_ok rfl) (ev_ret (ev_p1 (ev_p1 (ev_var rfl) (pm_range1 (sm hs))) (pm_listr (by unfold sizeOf'; omega))) ?_)))
  rw [show rngL 0 s = rngL (0:Nat) s from rfl,rng_nat]
  exact q _ nd_rng len_rng (fun j hj=>ea1_2 (List.mem_map.mp hj) fun t ht e=>e ▸ by have:=List.mem_range.mp ht; omega) (List.mem_map.mpr ⟨i,List.mem_range.mpr hi,Nat.zero_add i⟩)
end Mine
end
noncomputable section
namespace Mine
open PySem
noncomputable def Up (π:PI) (h:Nm→Bool):Prop:=∀ c m,π.ch c = some m→h c = true→h m = true
section
variable {P:Prog} {C:Calls} {ρ:Fm} {H:AH} {K:KS} {R:QE} {X:XE} {ss:List St} {σ:Ad} {S:Hst} {n:Nm} {a b c:Ex} {x y z:V}
theorem pm_dct {d:Nat} {ks:List Nm} {vs:List V} (h:H[d]? = some (.dict ks vs)) (e:dget n ks vs = some x):primM P false .item [.ref d,.str n] H = some (x,H):=by
 show ((H[d]?.bind O.dct).bind fun d=>dget n d.1 d.2).map _ = _
 rw [h]
 show (dget n ks vs).map _ = _
 rw [e]; rfl
theorem pm_itD {α:Type} {val:α→V} {l:AL α} {d:Nat} {x:α} (h:H[d]? = some (dO val l)) (e:aget n l = some x):primM P false .item [.ref d,.str n] H = some (val x,H):=pm_dct h (dget_al.trans (congrArg (Option.map val) e))
theorem pm_at {vs:List V} {i:Nat} (h:vs[i]? = some x):primM P false .item [.tup vs,.int i] H = some (x,H):=by
 show ((idx vs.length i).bind fun j=>vs[j]?).map _ = _
 have e:idx vs.length i = some i:=(if_pos (Int.natCast_nonneg i)).trans (if_pos (Int.ofNat_lt.mpr (List.getElem?_eq_some_iff.mp h).1))
 rw [e]
 show (vs[i]?).map _ = _
 rw [h]; rfl
theorem ev_mc1 {t:Mt} {mu:Bool} {p:Prim} (ho:Ev P C ρ H X a x) (ht:hasTy H x t = true) (hb:Ev P C ρ H X b y) (e:primM P mu p [x,y] H = some (z,H)):Ev P C ρ H X (.mcall t mu p a [b]) z:=fun _ q=>ho _ ⟨ht,hb _ (hE e q)⟩
theorem st_mc1 {t:Mt} {mu:Bool} {p:Prim} (ho:Ev P C ρ H X a x) (ht:hasTy H x t = true) (hb:Ev P C ρ H X b y) (k:okE (primM P mu p [x,y] H) fun _ H'=>wpSs P C ss ρ H' K R X):wpSs P C (.expr (.mcall t mu p a [b]) :: ss) ρ H K R X:=st_expr (ho _ ⟨ht,hb _ k⟩)
theorem st_call3 {f i:Nat} {u:V} (ha:Ev P C ρ H X a x) (hb:Ev P C ρ H X b y) (hc:Ev P C ρ H X c u) (k:C f [x,y,u] H (fun v H'=>i < ρ.length∧wpSs P C ss (ρ.set i (some v)) H' K R X) X):wpSs P C (.asg i (.call f [a,b,c]) :: ss) ρ H K R X:=st_asg (ha _ (hb _ (hc _ k)))
end
section
variable {n:Nm}
theorem mem_aput' {α:Type} {x:α} {l:AL α} {p:Nm × α} (nd:(l.map (·.1)).Nodup) (h:p ∈ aput n x l):p = (n,x) ∨ p ∈ l∧p.1 ≠ n:=by
 induction l with
 | nil=>exact .inl (in1 h)
 | cons q l ih =>
  have h:p ∈ (if n = q.1 then (q.1,x) :: l else q :: aput n x l):=h
  have nd:=List.nodup_cons.mp nd
  by_cases e:n = q.1
  ·rw [if_pos e] at h; exact memE h (fun h=>.inl (e ▸ h)) fun h=>.inr ⟨.tail _ h,fun z=>nd.1 (List.mem_map.mpr ⟨p,h,z.trans e⟩)⟩
  ·rw [if_neg e] at h; exact memE h (fun h=>.inr ⟨h ▸ .head _,h ▸ Ne.symm e⟩) fun h=>(ih nd.2 h).imp id fun h=>⟨.tail _ h.1,h.2⟩
theorem dO_same {α:Type} {val:α→V} {l:AL α} {x y:α} (h:aget n l = some x) (e:val x = val y):dO val (aput n y l) = dO val l:=by
 have q:(aput n y l).map (·.1) = l.map (·.1)∧((aput n y l).map fun p=>val p.2) = l.map fun p=>val p.2:=by
  induction l with
  | nil=>exact nomatch h
  | cons q l ih =>
   have h:(if n = q.1 then some q.2 else aget n l) = some x:=h
   show ((if n = q.1 then (q.1,y) :: l else q :: aput n y l).map (·.1)) = _∧((if n = q.1 then (q.1,y) :: l else q :: aput n y l).map fun p=>val p.2) = _
   by_cases z:n = q.1
   ·rw [if_pos z] at h ⊢
    exact ⟨rfl,congrArg (· :: _) (e.symm.trans (congrArg val (Option.some.inj h).symm))⟩
   ·rw [if_neg z] at h ⊢
    exact ⟨congrArg (q.1 :: ·) (ih h).1,congrArg (val q.2 :: ·) (ih h).2⟩
 unfold dO
 rw [q.1,q.2]
end
section
variable {P:Prog} {C:Calls} {ρ:Fm} {H:AH} {K:KS} {R:QE} {X:XE} {ss:List St} {σ:Ad} {S:Hst} {n:Nm}
noncomputable def pA (S:Hst) (n:Nm) (r:Nat) (q:List Int):Hst:={ S with kept:=aput n (r,q) S.kept,kl:=S.kl + 1 }
theorem kpt_pA {r:Nat} {q:List Int} {c:Nm}:kpt (pA S n r q) c = if n = c then q else kpt S c:=kpt_put (f:=S.own)
theorem Hs.keptSet (h:Hs σ S H) {r:Nat} {q q':List Int} (e:aget n S.kept = some (r,q)) (hl:q'.length ≤ S.kl + 1):Hs σ (pA S n r q') (H.set r (.list (q'.map V.int))):=by
 have hp:=h.kp _ (aget_some e)
 have ho:=hp.1
 have hlt:r < H.length:=(List.getElem?_eq_some_iff.mp hp.2.1).1
 have ef:fixL σ (pA S n r q') = fixL σ S:=by
  unfold fixL
  rw [show (pA S n r q').kept = aput n (r,q') S.kept from rfl,dO_same (val:=keR) (y:=(r,q')) e rfl]; rfl
 refine ⟨ef ▸ h.nd,ef ▸ fun p hp=>⟨(List.getElem?_set_ne fun z=>nos ((h.fix p hp).2.symm.trans (z ▸ ho))).trans (h.fix p hp).1,(h.fix p hp).2⟩,fun p hp=>(mem_aput' h.kn hp).elim (fun z=>z ▸ ⟨ho,List.getElem?_set_self hlt,hl⟩) fun z=>have y:=h.kp p z.1; ⟨y.1,(List.getElem?_set_ne fun w=>z.2 ?_).trans y.2.1,Nat.le_trans y.2.2 (Nat.le_succ _)⟩,fun p hp=>⟨(h.qp p hp).1,(List.getElem?_set_ne fun z=>?_).trans (h.qp p hp).2.1,(h.qp p hp).2.2⟩,h.qn,h.pn,nd_aput h.kn⟩
 ·exact congrArg Prod.snd (Option.some.inj (y.1.symm.trans (w ▸ ho)))
 ·exact absurd (congrArg Prod.fst (Option.some.inj ((h.qp p hp).1.symm.trans ((congrArg S.own z).symm.trans ho)))) Bool.false_ne_true
theorem st_keptApp {r i:Nat} {hrs:List Int} (h:Hs σ S H) (h0:ρ[0]? = some (some (.ref σ.i))) (hi:ρ[i]? = some (some (.ref r))) (e:aget n S.kept = some (r,hrs)) (hl:S.kl ≤ sizeOf') (k:∀ H',Hs σ (pA S n r (hrs ++ [S.clock])) H'→wpSs P C ss ρ H' K R X) :
  wpSs P C (.expr (.mcall .list false .append (.var i) [at_ ['c','l','o','c','k']]) :: ss) ρ H K R X :=
 have q:=(h.kp _ (aget_some e)).2
 st_mc1 (ev_var hi) (ty_list q.1) (ev_at h h0 rfl) (hE (pm_append q.1 (Nat.le_trans (Nat.le_of_eq (List.length_map _)) (Nat.le_trans q.2 hl))) (k _ (List.map_append (f:=V.int) (l₁:=hrs) (l₂:=[S.clock]) ▸ h.keptSet e (Nat.le_trans (Nat.le_of_eq List.length_append) (Nat.succ_le_succ q.2)))))
end
theorem datas_of {d:Nat} {vs:List V} (h:∀ v ∈ vs,v.data = true∧v.depth ≤ d):V.datas vs = true∧V.depths vs ≤ d:=by
 induction vs with
 | nil=>exact ⟨rfl,Nat.zero_le _⟩
 | cons w vs ih=>exact ⟨Bool.and_eq_true_iff.mpr ⟨(h w (.head _)).1,(ih fun v hv=>h v (.tail _ hv)).1⟩,Nat.max_le.mpr ⟨(h w (.head _)).2,(ih fun v hv=>h v (.tail _ hv)).2⟩⟩
theorem pt_dat {π:PI} {k:Nat} {v:V} (hP:Pt π k v):v.data = true∧v.depth ≤ 2 * k:=by
 induction hP with
 | @wk k=>exact ⟨rfl,Nat.le_trans (by decide:1 ≤ 2) (Nat.le_add_left 2 (2 * k))⟩
 | @wd k _ _ _ _ ps _ _ _ _ _ _ _ _ ih =>
  have q:=datas_of ih
  refine ⟨?_,?_⟩
  ·show (V.datas ps && true) = true
   rw [q.1]; rfl
  ·have z:∀ {a:Nat},a ≤ 2 * k + 1→max 0 a ≤ 2 * k + 1:=fun h=>Nat.max_le.mpr ⟨Nat.zero_le _,h⟩
   exact Nat.succ_le_succ (z (z (z (z (z (Nat.max_le.mpr ⟨Nat.succ_le_succ q.2,Nat.zero_le _⟩))))))
theorem eq_nm {π:PI} {k k':Nat} {a b:V} (ha:Pt π k a) (hb:Pt π k' b) (h:eqV a b = true):nameOf a = nameOf b:=by
 induction ha with
 | @wk _ n1 =>
  induction hb with
  | @wk _ n2 =>
   have h:(wk == wk && (n1 == n2 && _)) = true:=h
   exact beq_iff_eq.mp (Bool.and_eq_true_iff.mp (Bool.and_eq_true_iff.mp h).2).1
  | wd=>exact absurd (show false = true from h) Bool.false_ne_true
 | @wd _ n1 =>
  induction hb with
  | wk=>exact absurd (show false = true from h) Bool.false_ne_true
  | @wd _ n2 =>
   have h:(wd == wd && (n1 == n2 && _)) = true:=h
   exact beq_iff_eq.mp (Bool.and_eq_true_iff.mp (Bool.and_eq_true_iff.mp h).2).1
theorem pm_idx {P:Prog} {π:PI} {k:Nat} {H:AH} {ps:List V} {v:V} (hk:k ≤ 7) (h8:∀ p ∈ ps,Pt π k p) (hv:v ∈ ps):∃ (i:Nat) (q:V),ps[i]? = some q∧nameOf q = nameOf v∧primM P false .index [.tup ps,v] H = some (.int i,H):=by
 have hk:2 * k ≤ 50:=Nat.le_trans (Nat.mul_le_mul_left 2 hk) (by decide)
 have hx:∃ x,x ∈ ps∧eqV x v = true:=⟨v,hv,eqV_self v (pt_dat (h8 v hv)).1⟩
 have hd:=datas_of fun p hp=>pt_dat (h8 p hp)
 have e1:rd H v = some v:=by
  have q:=pt_dat (h8 v hv)
  have:(v.data && decide (v.depth ≤ 50)) = true:=by rw [q.1,decide_eq_true (Nat.le_trans q.2 hk)]; rfl
  cases v <;> first | exact absurd q.1 Bool.false_ne_true | exact if_pos this | rfl
 have hl:=List.findIdx_lt_length_of_exists hx
 have hq:=List.findIdx_getElem (xs:=ps) (p:=fun y=>eqV y v) (w:=hl)
 refine ⟨ps.findIdx fun y=>eqV y v,_,List.getElem?_eq_getElem hl,eq_nm (h8 _ (List.getElem_mem hl)) (h8 v hv) hq,?_⟩
 show ((rd H v).bind fun x'=>if okD ps = true then (ps.findIdx? fun y=>eqV y x').map fun (k:Nat)=>(V.int k,H) else none) = _
 rw [e1]
 show (if okD ps = true then (ps.findIdx? fun y=>eqV y v).map fun (k:Nat)=>(V.int k,H) else none) = _
 rw [if_pos (okD_of hd.1 (Nat.le_trans hd.2 hk)),List.findIdx?_eq_some_of_exists hx]
 rfl
end Mine
end
noncomputable section
namespace Mine
open PySem
theorem for_go {P:Prog} {C:Calls} {ρ:Fm} {H:AH} {K:KS} {R:QE} {X:XE} {ss body:List St} {rev:Bool} {tgt:Nat ⊕ List Nat} {v:V} {α:Type} {f:α→V} {st:α→Fm→Fm} (ht:∀ x ρ,setTgt ρ tgt (f x) = some (st x ρ)) {l:List α} (Inv:List α→Fm→AH→Prop)
  (hs:∀ its ρ' H',Inv its ρ' H'→srcD rev H' v = some (l.map f)) (hl:l.length ≤ sizeOf') (h0:Inv l ρ H)
  (step:∀ x xs ρ' H',Inv (x :: xs) ρ' H'→∀ K':KS,(∀ ρ'' H'',Inv xs ρ'' H''→K' ρ'' H'')→wpSs P C body (st x ρ') H' K' R (fun _ _=>False))
  (fin:∀ ρ' H',Inv [] ρ' H'→wpSs P C ss ρ' H' K R X):∃ items,srcD rev H v = some items∧items.length ≤ sizeOf' ∧
   forL (fun x ρ' H' K'=>match setTgt ρ' tgt x with | some ρ''=>wpSs P C body ρ'' H' K' R (fun _ _=>False) | none=>False) (fun H'=>srcD rev H' v = some items) items ρ H (fun ρ' H'=>wpSs P C ss ρ' H' K R X):=by
 refine ⟨l.map f,hs _ _ _ h0,(List.length_map f).symm ▸ hl,forL_inv (fun its ρ H=>∃ js,js.map f = its∧Inv js ρ H) (fun x xs ρ' H' q=>ea1_2 q fun js e q=>⟨hs _ _ _ q,fun K' hK=>?_⟩) (fun ρ' H' q=>ea1_2 q fun js e q=>⟨hs _ _ _ q,fin _ _ (List.map_eq_nil_iff.mp e ▸ q)⟩) ⟨l,rfl,h0⟩⟩
 cases js with
 | nil=>exact absurd e.symm (List.cons_ne_nil _ _)
 | cons j js =>
  have e:=List.cons.inj e
  rw [← e.1,ht]
  exact step j js ρ' H' q K' fun ρ'' H'' q=>hK _ _ ⟨js,e.2,q⟩
theorem ev_forT {P:Prog} {C:Calls} {ρ:Fm} {H:AH} {K:KS} {R:QE} {X:XE} {ss body:List St} {rev:Bool} {tgt:Nat ⊕ List Nat} {e:Ex} {v:V} {α:Type} {f:α→V} {st:α→Fm→Fm} (ht:∀ x ρ,setTgt ρ tgt (f x) = some (st x ρ)) {l:List α} (Inv:List α→Fm→AH→Prop) (h:Ev P C ρ H X e v)
  (hs:∀ its ρ' H',Inv its ρ' H'→srcD rev H' v = some (l.map f)) (hl:l.length ≤ sizeOf') (h0:Inv l ρ H)
  (step:∀ x xs ρ' H',Inv (x :: xs) ρ' H'→∀ K':KS,(∀ ρ'' H'',Inv xs ρ'' H''→K' ρ'' H'')→wpSs P C body (st x ρ') H' K' R (fun _ _=>False))
  (fin:∀ ρ' H',Inv [] ρ' H'→wpSs P C ss ρ' H' K R X):wpSs P C (.forIn rev tgt e body :: ss) ρ H K R X:=st_for (h _ (for_go ht Inv hs hl h0 step fin))
theorem ev_forM {P:Prog} {C:Calls} {ρ:Fm} {H:AH} {K:KS} {R:QE} {X:XE} {ss body:List St} {rev:Bool} {i:Nat} {e:Ex} {v:V} {α:Type} {f:α→V} {l:List α} (Inv:List α→Fm→AH→Prop) (h:Ev P C ρ H X e v)
  (hs:∀ its ρ' H',Inv its ρ' H'→srcD rev H' v = some (l.map f)) (hl:l.length ≤ sizeOf') (h0:Inv l ρ H)
  (step:∀ x xs ρ' H',Inv (x :: xs) ρ' H'→∀ K':KS,(∀ ρ'' H'',Inv xs ρ'' H''→K' ρ'' H'')→wpSs P C body (ρ'.set i (some (f x))) H' K' R (fun _ _=>False))
  (fin:∀ ρ' H',Inv [] ρ' H'→wpSs P C ss ρ' H' K R X):wpSs P C (.forIn rev (.inl i) e body :: ss) ρ H K R X:=ev_forT (st:=fun x ρ=>ρ.set i (some (f x))) (fun _ _=>rfl) Inv h hs hl h0 step fin
theorem fuel {N m f:Nat} {args:List V} {H:AH} {Q:QE} {X:XE} (h:m ≤ N) (k:callF PL (N - m + m) f args H Q X):callF PL N f args H Q X:=by
 rw [Nat.sub_add_cancel h] at k; exact k
section
variable {π:PI} {σ:Ad} {k d:Nat} {v:V} {h:Nm→Bool} {n:Nm}
theorem up_del' (hP:Pt π k v) (up:Up π h):Up π (del (nms k v) h):=fun c m hc hh=>del_t.mpr ⟨fun hm=>(del_t.mp hh).1 (pt_in hP hm hc),up c m hc (del_t.mp hh).2⟩
theorem del_cons {ns:List Nm}:del ns (fun m=>!decide (m = n) && h m) = del (n :: ns) h:=funext fun m=>by
 show (!ns.contains m && (!decide (m = n) && h m)) = (!(n :: ns).contains m && h m)
 rw [List.contains_cons,Bool.not_or,← beq_dec]
 cases ns.contains m <;> cases m == n <;> rfl
theorem nms_cons (hP:Pt π k v):nms k v = nameOf v :: (kids v).flatMap (nms (k - 1)):=by
 induction hP with
 | wk=>exact rfl
 | wd=>exact rfl
theorem f_endp (hP:Pt π k v):(nms k v).Nodup→EndP π σ (k - 1) v:=by
 induction hP with
 | wk=>exact fun _=>endp_w
 | wd h1 h2 h3 h4 h5 h6 h7 h8=>exact fun hn=>endp_d h5.2 h8 fun p hp=>f_end (h8 p hp) (nd_kid hn hp)
theorem pt_up (hP:Pt π k v):∀ {c m:Nm},c ∈ nms k v→π.ch c = some m→m ∈ nms k v ∨ c = nameOf v:=by
 induction hP with
 | wk=>exact fun hc _=>.inr (in1 hc)
 | @wd k nm _ _ _ ps _ _ _ _ _ _ h7 _ ih =>
  exact fun {c m} hc hm=>memE hc .inr fun hc=>ea1_2 (List.mem_flatMap.mp hc) fun p hp hc=>.inl ((ih p hp hc hm).elim (fun h=>.tail _ (List.mem_flatMap.mpr ⟨p,hp,h⟩)) fun e=>Option.some.inj (hm.symm.trans ((h7 c).mpr ⟨p,hp,e.symm⟩)) ▸ .head _)
theorem beg_t {ns:List Nm} {m:Nm}:∀ {h:Nm→Bool},(ns.map Evt.beg).foldl hr h m = true ↔ m ∈ ns ∨ h m = true:=by
 induction ns with
 | nil=>exact ⟨.inr,fun q=>q.elim (fun q=>absurd q List.not_mem_nil) id⟩
 | cons a ns ih =>
  intro h
  refine ih.trans ?_
  show m ∈ ns ∨ (decide (m = a) || h m) = true ↔ _
  rw [Bool.or_eq_true,decide_eq_true_iff,List.mem_cons,or_assoc,or_left_comm]
theorem up_beg (hP:Pt π k v) (hc:π.ch (nameOf v) = some n) (hn:h n = true) (up:Up π h):Up π (((nms k v).map Evt.beg).foldl hr h):=fun c m e hh=>beg_t.mpr ((beg_t.mp hh).elim (fun q=>(pt_up hP q e).elim .inl fun z=>.inr (Option.some.inj (hc.symm.trans (z ▸ e)) ▸ hn)) fun hh=>.inr (up c m e hh))
theorem dj {ps:List V} {a b:Nat} {p q:V} {x:Nm} (nd:(ps.flatMap (nms k)).Nodup) (ha:ps[a]? = some p) (hb:ps[b]? = some q) (hn:a ≠ b) (hx:x ∈ nms k p):x ∉ nms k q:=fun hq=>by
 have w:=List.pairwise_iff_getElem.mp (List.pairwise_flatMap.mp nd).2
 obtain ⟨la,ea⟩:=List.getElem?_eq_some_iff.mp ha
 obtain ⟨lb,eb⟩:=List.getElem?_eq_some_iff.mp hb
 rcases Nat.lt_or_gt_of_ne hn with l | l
 ·exact w a b la lb l x (ea ▸ hx) x (eb ▸ hq) rfl
 ·exact w b a lb la l x (eb ▸ hq) x (ea ▸ hx) rfl
theorem pt_wd {p w:V} {G:V→Nat→Prop} (hP:Pt π k w) (hp:p ∈ kids w) (g:∀ k nm rl m s ps,rl ∈ rulesW→ps.length ≤ 8→π.isW nm = some true→(∀ c,π.ch c = some nm ↔ ∃ p ∈ ps,nameOf p = c)→(∀ p ∈ ps,Pt π k p)→p ∈ ps→G (wdV nm rl m s ps) (k + 1)):G w k:=by
 induction hP with
 | wk=>exact absurd hp List.not_mem_nil
 | wd _ h2 _ _ h5 h6 h7 h8=>exact g _ _ _ _ _ _ h2 h5.2 h6 h7 h8 hp
end
noncomputable def thdL:List V→Nm
 | _ :: _ :: v :: _=>v.txt.getD []
 | _=>[]
noncomputable def thd (v:V):Nm:=thdL (v.tpl.getD [])
noncomputable def nvV (v:V):Bool:=thd v == ['n','e','v','e','r']
noncomputable def alV (v:V):Bool:=!(thd v == ['f','a','u','l','t','e','d'] || nvV v)
noncomputable def numL (k:Nat) (vs:List V):Int:=((vs[k]?).bind V.num).getD 0
noncomputable def spV (v:V):Int:=numL 4 (v.tpl.getD [])
noncomputable def mnV (v:V):Int:=numL 3 (v.tpl.getD [])
structure mdOk (π:PI) (x:V):Prop where
 nv:π.nv (nameOf x) = nvV x
 al:π.al (nameOf x) = alV x
 sp:π.sp (nameOf x) = spV x
 mn:π.mn (nameOf x) = mnV x
noncomputable def pts:Nat→V→List V
 | 0,_=>[]
 | k + 1,v=>v :: (kids v).flatMap (pts k)
theorem ev_never {P:Prog} {C:Calls} {ρ:Fm} {H:AH} {X:XE} {π:PI} {k i:Nat} {v:V} (hP:Pt π k v) (h:ρ[i]? = some (some v)):Ev P C ρ H X (.and (.prim false (.cop .eq) [.prim false .item [.var i,.cst (.int 0)],.cst (.str wk)]) (.prim false (.cop .eq) [.prim false .item [.var i,.cst (.int 2)],.cst (.str ['n','e','v','e','r'])])) (.bool (nvV v)):=by
 induction hP with
 | wk=>exact ev_and (s:=true) (ev_p2 (ev_p2 (ev_var h) ev_cst rfl) ev_cst rfl) fun _=>ev_p2 (ev_p2 (ev_var h) ev_cst rfl) ev_cst (pm_eq rd_str rd_str)
 | @wd _ _ r _ _ _ _ h2=>exact ev_eq (ev_and (s:=false) (t:=false) (ev_p2 (ev_p2 (ev_var h) ev_cst rfl) ev_cst rfl) fun e=>absurd e Bool.false_ne_true) (congrArg V.bool ((by decide:∀ r ∈ rulesW,false = (r == ['n','e','v','e','r'])) r h2))
noncomputable def Fh (t s:Int) (l:List Int):List Int:=l.filter fun z=>decide (t - s < z)
noncomputable def upK (k:Nm→List Int) (w:Nm) (x:List Int):Nm→List Int:=fun c=>if w = c then x else k c
noncomputable def cF (π:PI) (n:Nm):Bool:=!π.nv n && (π.ch n).isSome
inductive Ch (π:PI) (t:Int):Bool→(Nm→List Int)→Evt→List Evt→(Nm→List Int)→Prop
 | stop {k:Nm→List Int} {e:Evt}:Ch π t false k e [e] k
 | here {k:Nm→List Int} {e:Evt} {w:Nm}:π.ch e.nm = some w→((Fh t (π.sp w) (k w ++ [t])).length:Int) ≤ π.mn w→Ch π t true k e [e] (upK k w (k w ++ [t]))
 | go {k k':Nm→List Int} {e:Evt} {w:Nm} {fs:List Evt}:π.ch e.nm = some w→π.mn w < ((Fh t (π.sp w) (k w ++ [t])).length:Int)→Ch π t (cF π w) (upK k w (k w ++ [t])) (.fail w) fs k'→Ch π t true k e (e :: fs) k'
structure Rd (π:PI) (k:Nat) (v:V):Prop where
 pt:Pt π k v
 nd:(nms k v).Nodup
 k7:k ≤ 7
 len:(nms k v).length ≤ 60
 md:∀ x ∈ pts k v,mdOk π x
noncomputable def Rt (π:PI) (σ:Ad):Nat→Nat→V→Prop
 | 0,k,v=>Rd π k v∧dget (nameOf v) σ.chk σ.chv = some .none∧∀ m,π.ch (nameOf v) ≠ some m
 | d + 1,k,v=>Rd π k v∧∃ w,Rt π σ d (k + 1) w∧v ∈ kids w∧dget (nameOf v) σ.chk σ.chv = some w
theorem Rt.rd {π:PI} {σ:Ad} {d k:Nat} {v:V} (h:Rt π σ d k v):Rd π k v:=by
 cases d with
 | zero=>exact h.1
 | succ d=>exact h.1
noncomputable def Post (π:PI) (σ:Ad) (S:Hst) (c:Bool) (m:Nm) (b:Nat) (Q:QE):Prop:=∀ S' H' es k',Hs σ S' H'→Gd π S'→Sp π k' S S' es→es.length ≤ b→Up π (here S')→Ch π S.clock c (kpt S) (.fail m) (falls es) k'→Q .none H'
noncomputable def PosF (π:PI) (σ:Ad) (S:Hst) (m:Nm) (b:Nat) (Q:QE):Prop:=∀ S' H' es k',Hs σ S' H'→Gd π S'→Sp π k' (pL S (S.kl + 1)) S' es→es.length ≤ b→Up π (here S')→(∀ e:Evt,e.nm = m→Ch π S.clock true (kpt S) e (e :: falls es) k')→Q .none H'
noncomputable def bF (d:Nat):Nat:=60 * (d + 1) + 960
noncomputable def FallS (π:PI) (σ:Ad) (d:Nat):Prop:=∀ {k n:Nat} {v:V} {S:Hst} {H:AH} {Q:QE} {X:XE},Rt π σ d k v→Hs σ S H→Gd π S→Up π (here S)→here S (nameOf v) = true→S.ev.length + bF d ≤ 900000→Post π σ S (cF π (nameOf v)) (nameOf v) (bF d) Q→callF PL (n + (2 * d + 20)) 37 [.ref σ.i,v] H Q X
noncomputable def FolS (π:PI) (σ:Ad) (d:Nat):Prop:=∀ {k n:Nat} {w p:V} {S:Hst} {H:AH} {Q:QE} {X:XE},Rt π σ d k w→p ∈ kids w→Hs σ S H→Gd π S→S.kl < S.ev.length→Up π (here S)→here S (nameOf w) = true→S.ev.length + bF d ≤ 900000→PosF π σ S (nameOf p) (bF d) Q→callF PL (n + (2 * d + 21)) 38 [.ref σ.i,w,p] H Q X
theorem at_map {α:Type} {f:α→V} {l:List α} (h:∀ a,atom (f a)):∀ v ∈ l.map f,atom v:=fun _ hv=>ea1_2 (List.mem_map.mp hv) fun a _ e=>e ▸ h a
theorem pm_inL {P:Prog} {H:AH} {x:V} {α:Type} {f:α→V} {l:List α} (hx:rd H x = some x) (h:∀ a,atom (f a)):primM P false (.cop .in_) [x,.lst (l.map f)] H = some (.bool ((l.map f).any fun y=>eqV y x),H):=by
 have q:=datas_atoms (at_map (l:=l) h)
 show ((rd H x).bind fun x'=>if okD _ = true then some _ else none:Option Bool).map _ = _
 rw [hx]
 show (if okD _ = true then some _ else none:Option Bool).map _ = _
 rw [if_pos (okD_of q.1 (Nat.le_trans (Nat.le_of_eq q.2) (by decide)))]
 rfl
end Mine
end
noncomputable section
namespace Mine
open PySem
theorem n20 {n d j:Nat} (h:j ≤ 19):j ≤ n + (2 * d + 19):=Nat.le_trans h (Nat.le_trans (Nat.le_add_left 19 (2 * d)) (Nat.le_add_left _ n))
theorem Sp.trans' {π:PI} {k0 k':Nm→List Int} {S S₁ S₂:Hst} {es es':List Evt} (a:Sp π k0 S S₁ es) (b:Sp π k' (pL S₁ (S₁.kl + 1)) S₂ es') (hk:S₁.kl + 1 ≤ S.kl + es.length) (kf:∀ c l,es.foldl (kpF c) l = l):Sp π k' S S₂ (es ++ es') :=
 ⟨b.ev.trans ((congrArg (· ++ es') a.ev).trans (List.append_assoc ..)),b.qu.trans a.qu,b.ck.trans a.ck,b.lt.trans a.lt,by rw [List.length_append,← Nat.add_assoc]; exact Nat.le_trans b.kl (Nat.add_le_add_right hk _),b.hr.trans (by rw [List.foldl_append,← a.hr]; rfl),app_all a.nm b.nm,fun c=>by rw [b.kp,List.foldl_append,kf]⟩
theorem self_pts {π:PI} {k:Nat} {v:V} (hP:Pt π k v):v ∈ pts k v:=by
 induction hP with
 | wk=>exact .head _
 | wd=>exact .head _
theorem st_meth2 {P:Prog} {C:Calls} {ρ:Fm} {H:AH} {K:KS} {R:QE} {X:XE} {ss:List St} {σ:Ad} {S:Hst} {nm:Nm} {f:Nat} {a b:Ex} {x y:V} (h:Hs σ S H) (h0:ρ[0]? = some (some (.ref σ.i))) (hn:hk.contains nm = false) (ha:Ev P C ρ H X a x) (hb:Ev P C ρ H X b y) (k:C f [.ref σ.i,x,y] H (fun _ H'=>wpSs P C ss ρ H' K R X) X):wpSs P C (.expr (.meth 0 f nm (.var 0) [a,b]) :: ss) ρ H K R X :=
 ev_var (P:=P) (C:=C) (X:=X) h0 (fun v H₁=>hasMeth H₁ 0 nm v = true∧wpEs P C [a,b] ρ H₁ (fun vs H'=>C f (v :: vs) H' (fun _ H'=>wpSs P C ss ρ H' K R X) X) X) ⟨meth_h h hn,ha _ (hb _ k)⟩
section
variable {π:PI} {σ:Ad} {d:Nat}
theorem fall_core {k n:Nat} {v:V} {S:Hst} {H:AH} {Q:QE} {X:XE} (r:Rd π k v) (h:Hs σ S H) (g:Gd π S) (up:Up π (here S)) (hh:here S (nameOf v) = true) (hb:S.ev.length + 60 ≤ 900000)
  (q:Post π σ S (cF π (nameOf v)) (nameOf v) 60 Q)
  (kk:∀ S' H' es,Hs σ S' H'→Gd π S'→Sp π (kpt S) S S' es→S'.kl + 1 ≤ S.kl + es.length→es.length ≤ 60→Up π (here S')→here S' = del (nms k v) (here S)→(falls es = [.fail (nameOf v)]∧kpt S' = kpt S∧∀ c l,es.foldl (kpF c) l = l)→π.nv (nameOf v) = false→wpSs PL (callF PL (n + (2 * d + 19))) [(.ite (.prim false (.cop .isnot) [(.prim false .item [(at_ ['c','h','i','e','f']),(.prim false .item [.var 1,.cst (.int 1)])]),.cst .none]) [(.expr (.meth 0 38 ['f','o','l','l','o','w'] (.var 0) [(.prim false .item [(at_ ['c','h','i','e','f']),(.prim false .item [.var 1,.cst (.int 1)])]),.var 1]))] [])] [some (.ref σ.i),some v] H' (fun _ H'=>Q .none H') Q X) :
  callF PL (n + (2 * d + 20)) 37 [.ref σ.i,v] H Q X:=by
 have hs:S.ev.length ≤ sizeOf':=Nat.le_trans (Nat.le_add_right _ _) (Nat.le_trans hb (by decide))
 have ec:=nms_cons r.pt
 have hl0:((kids v).flatMap (nms (k - 1))).length + 1 ≤ 60:=Nat.le_trans (Nat.le_of_eq (congrArg List.length ec).symm) r.len
 have hx:nameOf v ∉ (kids v).flatMap (nms (k - 1)):=(List.nodup_cons.mp (ec ▸ r.nd)).1
 refine cf P_fn37 rfl (st_ev h rfl (.fail (nameOf v)) (ev_p2 ev_cst (ev_nm r.pt rfl) (pm_mkt two_le)) hs fun H1 h1=>st_gone h1 rfl (ev_nm r.pt rfl) hh (Nat.le_trans g.lp hs) fun H2 h2=>st_meth h2 rfl rfl (ev_var rfl) (fuel (m:=2 * (k - 1) + 1) (n20 ?_) (f_endp r.pt r.nd (n:=n + (2 * d + 19) - (2 * (k - 1) + 1)) (nameOf v) hx h2 (gd_del (t:=.fail (nameOf v)) g) ?_ ?_ fun S3 H3 es h3 g3 sp3 hl hh3 _=>?_)))
 ·exact Nat.le_trans (Nat.succ_le_succ (Nat.mul_le_mul_left 2 (Nat.le_trans (Nat.sub_le _ _) r.k7))) (by decide)
 ·intro c m hc hm hhc
  have q:=(Bool.and_eq_true_iff.mp ((has_adel h.pn).symm.trans hhc)).2
  exact (has_adel h.pn).trans (Bool.and_eq_true_iff.mpr ⟨by rw [decide_eq_false hm]; rfl,up c m hc q⟩)
 ·refine Nat.le_trans (Nat.le_of_eq ?_) (Nat.le_trans (Nat.add_le_add_left hl0 _) hb)
  show (S.ev ++ [Evt.fail (nameOf v)]).length + _ = _
  rw [List.length_append,Nat.add_assoc]
  exact congrArg _ (Nat.add_comm 1 _)
 ·have sp:Sp π (kpt S) S S3 ([.fail (nameOf v)] ++ es):=Sp.trans (S₁:=pD (pE S (.fail (nameOf v))) (nameOf v)) ⟨rfl,rfl,rfl,rfl,Nat.le_succ _,funext fun m=>has_adel h.pn,all1 (pt_nm r.pt),fun _=>rfl⟩ sp3
  have hd:here S3 = del (nms k v) (here S):=by rw [hh3,ec,← del_cons]; exact congrArg _ (funext fun m=>has_adel h.pn)
  have qt:=hl.2
  have ef:falls ([Evt.fail (nameOf v)] ++ es) = [.fail (nameOf v)]:=by rw [falls_app,qt.fl]; rfl
  have ek:kpt S3 = kpt S:=funext fun c=>congrArg (fun l:AL (Nat × List Int)=>((aget c l).map Prod.snd).getD []) qt.kp
  have md:=r.md v (self_pts r.pt)
  have hl:([Evt.fail (nameOf v)] ++ es).length ≤ 60:=Nat.le_trans (Nat.succ_le_succ hl.1) hl0
  have hu:Up π (here S3):=hd ▸ up_del' r.pt up
  refine ev_ite (ev_never r.pt rfl) (fun t=>ev_ret ev_cst (q S3 H3 _ _ h3 g3 sp hl hu ?_)) fun t=>kk S3 H3 _ h3 g3 sp (Nat.succ_le_succ sp3.kl) hl hu hd ⟨ef,ek,fun c l=>qt.kf c l⟩ (md.nv.trans t)
  rw [ef,show cF π (nameOf v) = false from by unfold cF; rw [md.nv,t]; rfl]
  exact .stop
theorem ev_chief {P:Prog} {C:Calls} {S:Hst} {H:AH} {X:XE} {k:Nat} {v x:V} (h:Hs σ S H) (hP:Pt π k v) (e:dget (nameOf v) σ.chk σ.chv = some x):Ev P C [some (.ref σ.i),some v] H X (.prim false .item [(at_ ['c','h','i','e','f']),(.prim false .item [.var 1,.cst (.int 1)])]) x:=ev_p2 (ev_at h rfl rfl) (ev_nm hP rfl) (pm_dct (h.get 4 rfl) e)
theorem b60 {a d:Nat} (h:a + bF d ≤ 900000):a + 60 ≤ 900000:=Nat.le_trans (Nat.add_le_add_left (Nat.le_trans (Nat.le_add_left 60 (60 * d)) (Nat.le_add_right _ 960)) a) h
theorem l60 {d b:Nat} (h:b ≤ 60):b ≤ bF d:=Nat.le_trans h (Nat.le_trans (Nat.le_add_left 60 (60 * d)) (Nat.le_add_right _ 960))
theorem fall_0:FallS π σ 0:=fun {k n v S H Q X} rt h g up hh hb q=>fall_core (d:=0) rt.1 h g up hh (b60 hb) (fun S' H' es k' a b c e=>q S' H' es k' a b c (l60 e)) fun S' H' es a b c _ e f _ qt _=>ev_no (ev_p2 (ev_chief a rt.1.pt rt.2.1) ev_cst rfl) (q S' H' es _ a b c (l60 e) f (by
 rw [qt.1,show cF π (nameOf v) = false from by
  unfold cF
  rw [show (π.ch (nameOf v)).isSome = false from Option.isSome_eq_false_iff.mpr (Option.isNone_iff_eq_none.mpr (Option.eq_none_iff_forall_ne_some.mpr rt.2.2)),Bool.and_false]]
 exact .stop))
theorem fall_s (ih:FolS π σ d):FallS π σ (d + 1):=fun {k n v S H Q X} rt h g up hh hb q=>ea1_3 rt.2 fun w rw hv ec=>by
 have hb':S.ev.length + 60 + bF d ≤ 900000:=Nat.le_trans (Nat.le_of_eq (by unfold bF; omega)) hb
 have hP:=rw.rd.pt
 have eh:=nms_cons hP
 have cw:π.ch (nameOf v) = some (nameOf w):=pt_wd (G:=fun w _=>π.ch (nameOf v) = some (nameOf w)) hP hv fun k nm rl m s ps _ _ _ h7 _ hp=>(h7 _).mpr ⟨v,hp,rfl⟩
 refine fall_core (d:=d + 1) rt.1 h g up hh (b60 hb) (fun S' H' es k' a b c e=>q S' H' es k' a b c (l60 e)) fun S' H' es a b c hk e f hd qt nv=>ev_yes (ev_p2 (ev_chief a rt.1.pt ec) ev_cst ?_) ?_
 ·exact pt_wd (G:=fun w _=>primM PL false (.cop .isnot) [w,.none] H' = some (.bool true,H')) hP hv fun k nm rl m s ps _ _ _ _ _ _=>rfl
 ·have hl:S'.ev.length ≤ S.ev.length + 60:=by rw [c.ev,List.length_append]; exact Nat.add_le_add_left e _
  have hn:nameOf w ∉ nms k v:=fun z=>(List.nodup_cons.mp (eh ▸ rw.rd.nd)).1 (List.mem_flatMap.mpr ⟨v,hv,z⟩)
  refine st_meth2 a rfl rfl (ev_chief a rt.1.pt ec) (ev_var rfl) (ih (n:=n) rw hv a b ?_ f ?_ (Nat.le_trans (Nat.add_le_add_right hl _) hb') fun S₂ H₂ es₂ k₂ a₂ b₂ c₂ e₂ f₂ ch=>q S₂ H₂ _ k₂ a₂ b₂ (c.trans' c₂ hk qt.2.2) ?_ f₂ ?_)
  ·rw [c.ev,List.length_append]; exact Nat.le_trans hk (Nat.add_le_add_right g.ll _)
  ·rw [hd]; exact del_t.mpr ⟨hn,up _ _ cw hh⟩
  ·rw [List.length_append]; exact Nat.le_trans (Nat.add_le_add e e₂) (Nat.le_of_eq (by unfold bF; omega))
  ·have ch:=ch (.fail (nameOf v)) rfl
   rw [c.ck,qt.2.1] at ch
   rw [falls_app,qt.1,show cF π (nameOf v) = true from by unfold cF; rw [nv,cw]; rfl]
   exact ch
end
end Mine
end
noncomputable section
namespace Mine
open PySem
noncomputable def pj (ps:List V) (j:Nat):V:=(ps[j]?).getD .none
theorem pj_eq {ps:List V} {j:Nat} (h:j < ps.length):ps[j]? = some (pj ps j):=by
 unfold pj
 rw [List.getElem?_eq_getElem h]; rfl
theorem pj_mem {ps:List V} {j:Nat} (h:j < ps.length):pj ps j ∈ ps:=List.mem_of_getElem? (pj_eq h)
theorem lt_b {a b:Nat} (h:Nat.ble (a + 1) b = true):a < b:=Nat.le_of_ble_eq_true h
abbrev ni (j:Nat):V:=.int j
section
variable {π:PI} {σ:Ad} {d:Nat}
noncomputable def FI7 (π:PI) (σ:Ad) (S:Hst) (w p kp:V) (i:Nat) (l wr:List Nat) (ps:List V) (nm:Nm) (js:List Nat) (ρ:Fm) (H:AH):Prop :=
 ∃ o S' es,ρ = [some (.ref σ.i),some w,some p,some kp,some (.int i),some (.lst (l.map ni)),o,some (.lst (wr.map ni)),none]∧(Hs σ S' H∧Gd π S'∧Up π (here S'))∧Sp π (kpt S) S S' es∧(es.length + 60 * js.length ≤ 480∧falls es = [])∧(js.Nodup∧∀ j ∈ js,j < ps.length∧here S' (nameOf (pj ps j)) = true)∧here S' nm = true
noncomputable def FI8 (π:PI) (σ:Ad) (S:Hst) (w p kp:V) (i:Nat) (l wr:List Nat) (ps:List V) (nm:Nm) (js:List Nat) (ρ:Fm) (H:AH):Prop :=
 ∃ o o' S' es,ρ = [some (.ref σ.i),some w,some p,some kp,some (.int i),some (.lst (l.map ni)),o,some (.lst (wr.map ni)),o']∧(Hs σ S' H∧Gd π S')∧Up π (here S')∧Sp π (kpt S) S S' es∧(es.length + 60 * js.length ≤ 960∧falls es = [])∧(∀ j ∈ js,j < ps.length)∧here S' nm = true
theorem le60 {a b c m:Nat} (h:a + 60 * (m + 1) ≤ c) (hb:b ≤ 60):a + b + 60 * m ≤ c:=by omega
theorem le480 {a b c m:Nat} (h:a + 60 * (m + 1) ≤ c) (hb:b + c ≤ 900000):b + a + 60 ≤ 900000:=by omega
theorem len_put {α:Type} {n:Nm} {x:α} {l:AL α} (h:hasK n l = true):(aput n x l).length = l.length:=by
 rw [← List.length_map (f:=(·.1)),keys_aput,if_pos h,List.length_map]
theorem falls_beg {ns:List Nm}:falls (ns.map .beg) = []:=by
 exact List.filter_eq_nil_iff.mpr fun e he=>ea1_2 (List.mem_map.mp he) fun _ _ z=>z ▸ Bool.false_ne_true
theorem fol_of (ih:FallS π σ d):FolS π σ d:=fun {k n w p S H Q X} rt hp h g hkl up hh hb q=>pt_wd (G:=fun w k=>Rt π σ d k w→here S (nameOf w) = true→callF PL (n + (2 * d + 21)) 38 [.ref σ.i,w,p] H Q X) rt.rd.pt hp (fun k nm rl m s ps h2 h5 h6 h7 h8 hp rt hh=>by
 have hs:S.ev.length ≤ sizeOf':=Nat.le_trans (Nat.le_add_right _ _) (Nat.le_trans hb (by decide))
 have hkl':S.kl + 1 ≤ sizeOf':=Nat.le_trans hkl hs
 have nd:=List.nodup_cons.mp rt.rd.nd
 have k7:k ≤ 7:=Nat.le_trans (Nat.le_succ _) rt.rd.k7
 have hln:∀ {v:V},v ∈ ps→(nms k v).length ≤ 60:=fun {v} hv=>Nat.le_trans (Nat.le_trans (List.sublist_flatten_of_mem (List.mem_map_of_mem hv)).length_le (Nat.le_trans (Nat.le_of_eq (congrArg List.length (List.flatMap_def (f:=nms k)).symm)) (Nat.le_succ _))) rt.rd.len
 have hx:∀ {v:V},v ∈ ps→nm ∉ nms k v:=fun {v} hv q=>nd.1 (List.mem_flatMap.mpr ⟨v,hv,q⟩)
 have hb9:S.ev.length + 960 ≤ 900000:=Nat.le_trans (Nat.add_le_add_left (Nat.le_add_left _ _) _) hb
 refine (aget_has (g.kw nm hh h6)).elim fun rq er=>?_
 obtain ⟨r,hrs⟩:=rq
 refine cf P_fn38 rfl (ev_asg (ev_p2 (ev_at h rfl rfl) (pe_ok rfl) (pm_itD (val:=keR) (h.get 7 rfl) er)) (lt_b rfl) (st_keptApp h rfl rfl er (Nat.le_trans (Nat.le_succ _) hkl') fun H1 h1=>?_))
 have md:=rt.rd.md _ (self_pts rt.rd.pt)
 have esp:π.sp nm = s:=md.sp
 have emn:π.mn nm = m:=md.mn
 have ek:kpt S nm = hrs:=by unfold kpt; rw [er]; rfl
 have eA:kpt (pA S nm r (hrs ++ [S.clock])) = upK (kpt S) nm (kpt S nm ++ [S.clock]):=funext fun c=>kpt_pA.trans (by rw [ek]; rfl)
 have cp:π.ch (nameOf p) = some nm:=(h7 _).mpr ⟨p,hp,rfl⟩
 have eF:∀ {l:List Int},(l.filter fun z=>decide (S.clock - s < z)) = Fh S.clock (π.sp nm) l:=fun {l}=>by rw [esp]; rfl
 have g1:Gd π (pA S nm r (hrs ++ [S.clock])):=⟨fun m a b=>or_has (g.kw m a b),g.ks,g.lp,Nat.le_trans (Nat.le_of_eq (len_put (hasK_iff.mpr ⟨_,aget_some er⟩))) g.lk,g.ls,hkl,fun m hm=>(put_has hm).elim (fun e=>e ▸ h6) (g.ko m)⟩
 have hA:=h1.kp _ (aget_some (aget_put.trans (if_pos rfl)))
 have qS:∀ {S' H' es k'},Hs σ S' H'→Gd π S'→Sp π k' (pA S nm r (hrs ++ [S.clock])) S' es→es.length ≤ bF d→Up π (here S')→(∀ e:Evt,e.nm = nameOf p→Ch π S.clock true (kpt S) e (e :: falls es) k')→Q .none H':=fun {S' H' es k'} a b c e f ch=>q S' H' es k' a b ⟨c.ev,c.qu,c.ck,c.lt,c.kl,c.hr,c.nm,c.kp⟩ e f ch
 refine ev_ite (ev_p2 (ev_p1 (ev_call3 (ev_var rfl) (ev_at h1 rfl rfl) (pe_ok rfl) fun Q q=>f8 hA.2.1 (Nat.le_trans hA.2.2 hkl') q) pm_lenl) (pe_ok rfl) pm_gt) (fun hc=>st_meth h1 rfl rfl (ev_var rfl) (ih rt h1 g1 up hh hb fun S' H' es k' a b c e f ch=>ev_ret ev_cst (qS a b c e f fun t et=>.go (et.symm ▸ cp) ?_ (eA ▸ ch)))) fun hc=>?_
 ·rw [emn,ek,← eF]
  have hc:=of_decide_eq_true hc
  rw [List.length_map] at hc
  exact hc
 have ch:∀ e:Evt,e.nm = nameOf p→Ch π S.clock true (kpt S) e [e] (kpt (pA S nm r (hrs ++ [S.clock]))):=fun e et=>by
  rw [eA]
  refine .here (et.symm ▸ cp) ?_
  rw [emn,ek,← eF]
  have hc:=Int.not_lt.mp (of_decide_eq_false hc)
  rw [List.length_map] at hc
  exact hc
 refine ea2_3 (pm_idx (P:=PL) (H:=H1) k7 h8 hp) fun i qi hqi nqi ei=>ev_asg (ev_mc1 (pe_ok rfl) rfl (ev_var rfl) ei) (lt_b rfl) (st_call3 (pe_ok rfl) (pe_ok rfl) (ev_var rfl) (f9 h2 (List.getElem?_eq_some_iff.mp hqi).1 h5 fun l ln ll lb _=>⟨lt_b rfl,?_⟩))
 refine ev_asg (ev_flt (l:=l) (f:=ni) (g:=ni) (p:=fun j=>here S (nameOf (pj ps j))) (ev_var rfl) rfl (Nat.le_trans ll (Nat.le_trans h5 (by decide))) (fun j hj=>ev_here (S:=pA S nm r (hrs ++ [S.clock])) h1 rfl (ev_p2 (ev_p2 (pe_ok rfl) (ev_var rfl) (pm_at (pj_eq (lb j hj)))) ev_cst (it_nm (h8 _ (pj_mem (lb j hj)))))) fun _ _ _=>ev_var rfl) (lt_b rfl) ?_
 have wl:(l.filter fun j=>here S (nameOf (pj ps j))).reverse.length ≤ 8:=by rw [List.length_reverse]; exact Nat.le_trans (List.length_filter_le _ _) (Nat.le_trans ll h5)
 refine ev_forM (FI7 π σ (pA S nm r (hrs ++ [S.clock])) (wdV nm rl m s ps) p (.ref r) i l (l.filter fun j=>here S (nameOf (pj ps j))) ps nm) (f:=ni) (l:=(l.filter fun j=>here S (nameOf (pj ps j))).reverse) (ev_var rfl) (fun _ _ _ _=>congrArg some List.map_reverse.symm) (Nat.le_trans wl (by decide))
  ⟨none,_,[],rfl,⟨h1,g1,up⟩,Sp.refl _,⟨Nat.le_trans (Nat.le_of_eq (Nat.zero_add _)) (Nat.mul_le_mul_left 60 wl),rfl⟩,⟨(List.reverse_perm _).nodup_iff.mpr (List.filter_sublist.nodup ln),fun j hj=>have hj:=List.mem_filter.mp (List.mem_reverse.mp hj); ⟨lb j hj.1,hj.2⟩⟩,hh⟩
  (fun j js ρ' H' hI K' hK=>ea3_6 hI fun o S' es e hS sp hl hj hn=>?_) fun ρ' H' hI=>ea3_6 hI fun o S' es e hS sp hl _ hn=>?_
 ·subst e
  have lt:=hj.2 j (.head _)
  have hm:=pj_mem lt.1
  have nj:=List.nodup_cons.mp hj.1
  refine st_meth hS.1 rfl rfl (ev_p2 (pe_ok rfl) (ev_var rfl) (pm_at (pj_eq lt.1))) (fuel (m:=2 * k) (Nat.le_trans (Nat.mul_le_mul_left 2 k7) (Nat.le_trans (n20 (n:=n) (d:=d) (by decide:14 ≤ 19)) (Nat.le_succ _))) (f_end (h8 _ hm) (nd_kid rt.rd.nd hm) nm (hx hm) hS.1 hS.2.1 (fun c m hc _=>hS.2.2 c m hc) lt.2 ?_ fun S'' H'' es' hS' gS' sp' hl' hh'=>hK _ _ ⟨_,S'',_,rfl,⟨hS',gS',hh' ▸ up_del' (h8 _ hm) hS.2.2⟩,sp.trans sp',⟨?_,?_⟩,⟨nj.2,fun t ht=>⟨(hj.2 t (.tail _ ht)).1,?_⟩⟩,?_⟩))
  ·rw [sp.ev,List.length_append]; exact Nat.le_trans (Nat.add_le_add_left (hln hm) _) (le480 hl.1 (Nat.le_trans (Nat.add_le_add_left (by decide) _) hb9))
  ·rw [List.length_append]; exact le60 hl.1 (Nat.le_trans hl'.1 (hln hm))
  ·rw [falls_app,hl.2,hl'.2.fl]; rfl
  ·rw [hh']; exact del_t.mpr ⟨dj nd.2 (pj_eq (hj.2 t (.tail _ ht)).1) (pj_eq lt.1) (fun z=>nj.1 (z ▸ ht)) (nm_in (h8 _ (pj_mem (hj.2 t (.tail _ ht)).1))),(hj.2 t (.tail _ ht)).2⟩
  ·rw [hh']; exact del_t.mpr ⟨hx hm,hn⟩
 ·subst e
  refine ev_forM (FI8 π σ (pA S nm r (hrs ++ [S.clock])) (wdV nm rl m s ps) p (.ref r) i l (l.filter fun j=>here S (nameOf (pj ps j))) ps nm) (f:=ni) (l:=l) (ev_var rfl) (fun _ _ _ _=>rfl) (Nat.le_trans ll (Nat.le_trans h5 (by decide)))
   ⟨o,none,S',es,rfl,⟨hS.1,hS.2.1⟩,hS.2.2,sp,⟨Nat.add_le_add hl.1 (Nat.mul_le_mul_left 60 (Nat.le_trans ll h5)),hl.2⟩,lb,hn⟩
   (fun j js ρ' H' hI K' hK=>ea4_7 hI fun o o' S' es e hS hu sp hl hj hn=>?_) fun ρ' H' hI=>ea4_7 hI fun o o' S' es _ hS hu sp hl _ _=>qS hS.1 hS.2 sp (Nat.le_trans hl.1 (Nat.le_add_left _ _)) hu (hl.2.symm ▸ ch)
  subst e
  have lt:=hj j (.head _)
  have hm:=pj_mem lt
  refine ev_asg (ev_p2 (pe_ok rfl) (ev_var rfl) (pm_at (pj_eq lt))) (lt_b rfl) (ev_ite (ev_or (ev_p2 (ev_var rfl) (ev_var rfl) (pm_eq rd_int rd_int)) fun _=>ev_and (ev_p2 (ev_var rfl) (ev_var rfl) (pm_inL (f:=ni) rfl fun _=>trivial)) fun _=>ev_not (ev_never (h8 _ hm) rfl)) (fun _=>?_) fun _=>hK _ _ ⟨_,_,S',es,rfl,hS,hu,sp,⟨Nat.le_trans (Nat.add_le_add_left (Nat.mul_le_mul_left 60 (Nat.le_succ _)) _) hl.1,hl.2⟩,fun t ht=>hj t (.tail _ ht),hn⟩)
  refine st_meth hS.1 rfl rfl (ev_var rfl) (fuel (m:=k) (Nat.le_trans k7 (Nat.le_trans (n20 (n:=n) (d:=d) (by decide:7 ≤ 19)) (Nat.le_succ _))) (f_begin (h8 _ hm) hS.1 hS.2 ?_ fun S'' H'' hS' gS' sp'=>hK _ _ ⟨_,_,S'',_,rfl,⟨hS',gS'⟩,?_,sp.trans sp',⟨?_,?_⟩,fun t ht=>hj t (.tail _ ht),?_⟩))
  ·rw [sp.ev,List.length_append]; exact Nat.le_trans (Nat.add_le_add_left (hln hm) _) (le480 hl.1 hb9)
  ·rw [sp'.hr]; exact up_beg (h8 _ hm) ((h7 _).mpr ⟨_,hm,rfl⟩) hn hu
  ·rw [List.length_append,List.length_map]; exact le60 hl.1 (hln hm)
  ·rw [falls_app,hl.2,falls_beg]; rfl
  ·rw [sp'.hr]; exact beg_t.mpr (.inr hn)) rt hh
theorem f_fall:FallS π σ d∧FolS π σ d:=by
 induction d with
 | zero=>exact ⟨fall_0,fol_of fall_0⟩
 | succ d ih=>exact ⟨fall_s ih.2,fol_of (fall_s ih.2)⟩
end
end Mine
end
noncomputable section
namespace Mine
open PySem
inductive LV:V→Prop
 | add {i:Int}:-1000000000 ≤ i∧i ≤ 1000000000→LV (.tup [.str ['a','d','d'],.int i])
 | fault:LV (.tup [.str ['f','a','u','l','t']])
 | leave:LV (.tup [.str ['l','e','a','v','e']])
noncomputable def Evt.ok (π:PI):Evt→Prop
 | .sent n _ l=>π.isW n = some false∧LV l
 | .works n _ | .lost n _=>π.isW n = some false
 | .beg n | .end_ n | .fail n | .leave n=>(π.isW n).isSome = true
noncomputable def qn (S:Hst) (n:Nm):List Nat:=((aget n S.qu).map fun p=>p.2.map (·.1)).getD []
structure Iv (π:PI) (S:Hst):Prop where
 gd:Gd π S
 up:Up π (here S)
 nm:∀ e ∈ S.ev,e.ok π
 qk:∀ n,hasK n S.qu = true ↔ π.isW n = some false
 lv:∀ p ∈ S.qu,∀ q ∈ p.2.2,LV q.2
 lq:S.qu.length ≤ 60
section
variable {π:PI} {S S':Hst} {es:List Evt} {n:Nm}
theorem pl_all (nm:∀ e ∈ es,e.plain π):∀ e ∈ es,e.ok π:=fun e he=>by
 have p:=nm e he
 cases e with
 | beg _ | end_ _ | fail _ | leave _=>exact p
 | sent _ _ _ | works _ _ | lost _ _=>exact p.elim
theorem Iv.plain {k0:Nm→List Int} (iv:Iv π S) (sp:Sp π k0 S S' es) (gd:Gd π S') (up:Up π (here S')):Iv π S':=⟨gd,up,sp.ev ▸ app_all iv.nm (pl_all sp.nm),sp.qu ▸ iv.qk,sp.qu ▸ iv.lv,sp.qu ▸ iv.lq⟩
theorem put_iff {α:Type} {x:α} {l:AL α} {m:Nm} (h:hasK n l = true):hasK m (aput n x l) = true ↔ hasK m l = true:=⟨fun q=>(put_has q).elim (fun e=>e ▸ h) id,or_has⟩
structure Pl (π:PI) (σ:Ad):Prop where
 nm:∀ m,(π.isW m).isSome = true→m ∈ σ.names
 ok:∀ m ∈ σ.names,nmOk m
 le:σ.names.length ≤ 60
 pt:∀ m ∈ σ.names,∃ d k v,(d ≤ 6∧(d = 0→π.isW m = some true))∧Rt π σ d k v∧nameOf v = m∧dget m σ.names σ.partVs = some v
 top:Pt π 7 σ.plan
 mn:∀ m,π.isW m = some true→0 ≤ π.mn m
end
noncomputable def isB (c:Nm):Evt→Bool
 | .beg n=>decide (n = c)
 | _=>false
theorem kp_fold {c:Nm} {es:List Evt}:∀ {l:List Int},es.foldl (kpF c) l = if es.any (isB c) = true then [] else l:=by
 induction es with
 | nil=>exact rfl
 | cons e es ih =>
  intro l
  show es.foldl (kpF c) (kpF c l e) = if (isB c e || es.any (isB c)) = true then [] else l
  rw [ih]
  cases e with
  | beg n =>
   show (if es.any (isB c) = true then [] else if n = c then [] else l) = if (decide (n = c) || es.any (isB c)) = true then [] else l
   by_cases z:n = c
   ·rw [if_pos z,decide_eq_true z,Bool.true_or,if_pos rfl]; exact ite_self _
   ·rw [if_neg z,decide_eq_false z,Bool.false_or]
  | _=>rfl
theorem hr_off {c:Nm} {es:List Evt}:∀ {h:Nm→Bool},es.foldl hr h c = true→es.any (isB c) = false→h c = true∧∀ e ∈ es,e ≠ .fail c:=by
 induction es with
 | nil=>exact fun q _=>⟨q,fm0⟩
 | cons e es ih =>
  intro h q b
  have b:=Bool.or_eq_false_iff.mp (show (isB c e || es.any (isB c)) = false from b)
  have z:=ih (h:=hr h e) q b.2
  have f:∀ {n:Nm},(!decide (c = n) && h c) = true→h c = true∧c ≠ n:=fun {n} y=>have y:=Bool.and_eq_true_iff.mp y; ⟨y.2,fun e=>by rw [decide_eq_true e] at y; exact Bool.false_ne_true y.1⟩
  cases e with
  | beg n =>
   have y:(decide (c = n) || h c) = true:=z.1
   have nb:n ≠ c:=of_decide_eq_false b.1
   rw [decide_eq_false (Ne.symm nb),Bool.false_or] at y
   exact ⟨y,fm1 nofun z.2⟩
  | end_ n | leave n=>exact ⟨(f z.1).1,fm1 nofun z.2⟩
  | fail n=>exact ⟨(f z.1).1,fm1 (fun y=>(f z.1).2 (congrArg Evt.nm y).symm) z.2⟩
  | sent _ _ _ | works _ _ | lost _ _=>exact ⟨z.1,fm1 nofun z.2⟩
noncomputable def cnt (π:PI):Evt→Bool
 | .fail n=>cF π n
 | .leave n=>π.al n
 | _=>false
noncomputable def flOk (π:PI):Evt→Prop
 | .fail n=>(π.isW n).isSome = true
 | .leave n=>π.isW n = some false
 | _=>False
noncomputable def Kd (π:PI) (t:Int) (k:Nm→List Int) (es:List Evt) (k':Nm→List Int):Prop:=(falls es = []∧k' = k) ∨ ∃ e,flOk π e∧Ch π t (cnt π e) k e (falls es) k'
structure Od (π:PI) (S S':Hst) (es:List Evt):Prop where
 ck:S'.clock = S.clock + 1
 kd:∃ k',(∀ c,kpt S' c = es.foldl (kpF c) (k' c))∧Kd π (S.clock + 1) (kpt S) es k'
 hr:here S' = es.foldl hr (here S)
noncomputable def I8 (π:PI) (S:Hst):Prop:=∀ w,π.isW w = some true→here S w = true→((Fh S.clock (π.sp w) (kpt S w)).length:Int) ≤ π.mn w
section
variable {π:PI} {S S':Hst} {es:List Evt} {t:Int}
theorem ch_head {c:Bool} {k k':Nm→List Int} {e:Evt} {fs:List Evt} (h:Ch π t c k e fs k'):∃ r,fs = e :: r:=by
 cases h with
 | stop=>exact ⟨_,rfl⟩
 | here _ _=>exact ⟨_,rfl⟩
 | go _ _ _=>exact ⟨_,rfl⟩
theorem ch_k {c:Bool} {k k':Nm→List Int} {e:Evt} {fs:List Evt} (h:Ch π t c k e fs k') (w:Nm):k' w = k w ∨ ((Fh t (π.sp w) (k' w)).length:Int) ≤ π.mn w ∨ .fail w ∈ fs:=by
 induction h with
 | stop=>exact .inl rfl
 | @here k e w' _ hl =>
  by_cases z:w' = w
  ·subst z
   refine .inr (.inl ?_)
   show ((Fh t (π.sp w') (if w' = w' then k w' ++ [t] else k w')).length:Int) ≤ _
   rw [if_pos rfl]; exact hl
  ·exact .inl (if_neg z)
 | @go k k' e w' fs _ _ hc ih =>
  by_cases z:w' = w
  ·subst z
   exact (ch_head hc).elim fun r er=>.inr (.inr (.tail _ (er ▸ .head _)))
  ·exact ih.imp (fun y=>y.trans (if_neg z)) fun y=>y.imp id fun y=>.tail _ y
theorem fh_mono {s:Int} {l:List Int}:(Fh (t + 1) s l).length ≤ (Fh t s l).length:=by
 unfold Fh
 rw [← List.countP_eq_length_filter,← List.countP_eq_length_filter]
 refine List.countP_mono_left fun z _ hz=>?_
 exact decide_eq_true (by have:=of_decide_eq_true hz; omega)
theorem I8.step (i:I8 π S) (mn:∀ m,π.isW m = some true→0 ≤ π.mn m) (o:Od π S S' es):I8 π S':=fun w hw hh=>ea1_2 o.kd fun k' ek hk=>by
 rw [ek,kp_fold,o.ck]
 cases b:es.any (isB w) with
 | true=>exact mn w hw
 | false =>
  have z:=hr_off (o.hr ▸ hh) b
  have old:((Fh (S.clock + 1) (π.sp w) (kpt S w)).length:Int) ≤ π.mn w:=Int.le_trans (Int.ofNat_le.mpr fh_mono) (i w hw z.1)
  show ((Fh (S.clock + 1) (π.sp w) (k' w)).length:Int) ≤ π.mn w
  refine hk.elim (fun y=>y.2.symm ▸ old) fun y=>ea1_2 y fun e _ hc=>(ch_k hc w).elim (fun y=>y.symm ▸ old) fun y=>y.elim id fun y=>absurd rfl (z.2 _ (List.mem_filter.mp y).1)
end
end Mine
end
noncomputable section
namespace Mine
open PySem
noncomputable def pEs (S:Hst) (es:List Evt):Hst:={ S with ev:=S.ev ++ es }
theorem pm_notinD {P:Prog} {H:AH} {n:Nm} {a:Nat} {ks:List Nm} {vs:List V} (h:H[a]? = some (.dict ks vs)):primM P false (.cop .notin) [.str n,.ref a] H = some (.bool (!ks.contains n),H):=by
 show (((inO H (.str n) (.ref a) (H[a]?.bind O.lst))).map _).map _ = _
 rw [h]
 show (((H[a]?.bind O.dct).bind _).map _).map _ = _
 rw [h]; rfl
theorem src_ref {H:AH} {r:Nat} {vs:List V} (h:H[r]? = some (.list vs)):srcD false H (.ref r) = some vs:=by
 show H[r]?.bind O.lst = _
 rw [h]; rfl
noncomputable def LI (π:PI) (σ:Ad) (S:Hst) (its:List Nm) (ρ:Fm) (H:AH):Prop :=
 ∃ a b c S' es,ρ = [some (.ref σ.i),a,b,c]∧Hs σ S' H∧Iv π S'∧(S'.letters = S.letters∧here S' = here S∧S'.clock = S.clock)∧S'.ev.length + its.length * S.letters ≤ S.ev.length + 60 * S.letters∧(S'.ev = S.ev ++ es∧Qt S S' es∧∀ h,es.foldl hr h = h)
noncomputable def LJ (σ:Ad) (S:Hst) (n:Nm) (q its:List (Nat × V)) (ρ:Fm) (H:AH):Prop :=
 ∃ b c dn,ρ = [some (.ref σ.i),some (.str n),b,c]∧dn ++ its = q∧Hs σ (pEs S (dn.map fun p=>.lost n p.1)) H
theorem Gd.mono {π:PI} {S S':Hst} (g:Gd π S) (e1:S'.pres = S.pres) (e2:S'.kept = S.kept) (e3:S'.sums = S.sums) (e4:S'.kl = S.kl) (le:S.ev.length ≤ S'.ev.length):Gd π S':=by
 refine ⟨?_,?_,?_,?_,?_,?_,?_⟩
 ·rw [e1,e2]; exact g.kw
 ·rw [e1,e3]; exact g.ks
 ·rw [e1]; exact Nat.le_trans g.lp le
 ·rw [e2]; exact Nat.le_trans g.lk le
 ·rw [e3]; exact Nat.le_trans g.ls le
 ·rw [e4]; exact Nat.le_trans g.ll le
 ·rw [e2]; exact g.ko
theorem le_app {α:Type} {a b:List α}:a.length ≤ (a ++ b).length:=Nat.le_trans (Nat.le_add_right _ _) (Nat.le_of_eq List.length_append.symm)
theorem mul_lt {a b c m l:Nat} (h:a + (m + 1) * l ≤ c) (hb:b ≤ l):a + b + m * l ≤ c:=by
 rw [Nat.succ_mul,Nat.add_comm (m * l),← Nat.add_assoc] at h
 exact Nat.le_trans (Nat.add_le_add_right (Nat.add_le_add_left hb a) _) h
theorem mem_nm {π:PI} {σ:Ad} (pl:Pl π σ) {n:Nm} (h:π.isW n = some false):n ∈ σ.names:=pl.nm n (congrArg Option.isSome h)
theorem lost_q {n:Nm} {ps:List (Nat × V)}:falls (ps.map fun p=>.lost n p.1) = []∧(∀ c l,(ps.map fun p=>Evt.lost n p.1).foldl (kpF c) l = l)∧∀ h,(ps.map fun p=>Evt.lost n p.1).foldl hr h = h:=by
 induction ps with
 | nil=>exact ⟨rfl,fun _ _=>rfl,fun _=>rfl⟩
 | cons p ps ih=>exact ⟨ih.1,ih.2.1,ih.2.2⟩
theorem f_lose {π:PI} {σ:Ad} (pl:Pl π σ) {n:Nat} {S:Hst} {H:AH} {Q:QE} {X:XE} (h:Hs σ S H) (iv:Iv π S) (hb:S.ev.length + 60 * S.letters ≤ 900000)
  (q:∀ S' H' es,Hs σ S' H'→Iv π S'→(S'.letters = S.letters∧here S' = here S∧S'.clock = S.clock)→S'.ev.length ≤ S.ev.length + 60 * S.letters→S'.ev = S.ev ++ es→Qt S S' es→(∀ h,es.foldl hr h = h)→Q .none H'):callF PL (n + 1) 39 [.ref σ.i] H Q X:=by
 refine cf P_fn39 rfl (ev_forM (LI π σ S) (f:=V.str) (l:=σ.names) (ev_at h rfl rfl) (fun _ _ _ q=>ea5_6 q fun a b c S' es _ hS _ _ _ _=>src_ref (hS.get 2 rfl)) (Nat.le_trans pl.le (by decide))
  ⟨none,none,none,S,[],rfl,h,iv,⟨rfl,rfl,rfl⟩,Nat.add_le_add_left (Nat.mul_le_mul_right _ pl.le) _,(List.append_nil _).symm,⟨rfl,rfl,fun _ _=>rfl⟩,fun _=>rfl⟩
  (fun x xs ρ' H' hI K' hK=>ea5_6 hI fun a b c S' es e hS iS hl hn he=>?_) fun ρ' H' hI=>ea5_6 hI fun a b c S' es _ hS iS hl hn he=>q S' H' es hS iS hl (Nat.le_trans (Nat.le_add_right _ _) hn) he.1 he.2.1 he.2.2)
 subst e
 have hs:S'.ev.length + S'.letters ≤ 900000:=by
  rw [hl.1]
  exact Nat.le_trans (Nat.le_add_right _ _) (Nat.le_trans (mul_lt hn (Nat.le_refl _)) hb)
 refine ev_ite (ev_and (ev_p2 (ev_var rfl) (ev_at hS rfl rfl) (pm_inD (hS.get 8 rfl))) fun _=>ev_p2 (ev_var rfl) (ev_at hS rfl rfl) (pm_notinD (hS.get 5 rfl))) (fun hc=>?_) fun hc=>hK _ _ ⟨_,b,c,S',es,rfl,hS,iS,hl,Nat.le_trans (Nat.add_le_add_left (Nat.mul_le_mul_right _ (Nat.le_succ _)) _) hn,he⟩
 have hc:=Bool.and_eq_true_iff.mp hc
 have hw:=(iS.qk x).mp hc.1
 refine (aget_has hc.1).elim fun rq er=>?_
 have hq:=hS.qp _ (aget_some er)
 have le:rq.2.length ≤ sizeOf':=Nat.le_trans hq.2.2 (Nat.le_trans (Nat.le_add_left _ _) (Nat.le_trans hs (by decide)))
 refine ev_forT (st:=fun p ρ=>(ρ.set 2 (some (.int p.1))).set 3 (some p.2)) (f:=letV) (fun _ _=>rfl) (LJ σ S' x rq.2) (l:=rq.2) (v:=.ref rq.1) (ev_p2 (ev_at hS rfl rfl) (ev_var rfl) (pm_itD (val:=quR) (hS.get 8 rfl) er)) (fun _ _ _ q=>ea3_3 q fun b c dn _ _ hD=>src_ref (hD.qp _ (aget_some er)).2.1) le
  ⟨b,c,[],rfl,rfl,by unfold pEs; rw [List.map_nil,List.append_nil]; exact hS⟩ (fun p ps ρ' H' q K' hK=>ea3_3 q fun b c dn e ed hD=>?_) fun ρ' H' q=>ea3_3 q fun b c dn e ed hD=>?_
 ·subst e
  refine st_ev hD rfl (.lost x p.1) (pe_ok rfl) ?_ fun H3 h3=>hK _ _ ⟨_,_,dn ++ [p],rfl,(List.append_assoc dn [p] ps).trans ed,?_⟩
  ·show (S'.ev ++ dn.map _).length ≤ _
   rw [List.length_append,List.length_map]
   refine Nat.le_trans (Nat.add_le_add_left (Nat.le_trans ?_ hq.2.2) _) (Nat.le_trans hs (by decide))
   rw [← ed,List.length_append]; exact Nat.le_add_right _ _
  ·unfold pEs
   rw [List.map_append,← List.append_assoc]
   exact h3
 ·subst e
  have ed:dn = rq.2:=(List.append_nil dn).symm.trans ed
  subst ed
  have lq:=lost_q (n:=x) (ps:=rq.2)
  refine st_quNew hD rfl (fun _=>ev_var rfl) (Nat.le_trans iS.lq (by decide)) fun r f H' h'=>hK _ _ ⟨_,_,_,_,es ++ rq.2.map fun p=>.lost x p.1,rfl,h',⟨iS.gd.mono rfl rfl rfl rfl le_app,iS.up,app_all iS.nm fun e he=>ea1_2 (List.mem_map.mp he) fun _ _ z=>z ▸ hw,fun m=>(put_iff hc.1).trans (iS.qk m),fun p hp=>(mem_aput hp).elim (fun e=>e ▸ fm0) (iS.lv p),Nat.le_trans (Nat.le_of_eq (len_put hc.1)) iS.lq⟩,hl,?_,?_,he.2.1.trans ⟨lq.1,rfl,lq.2.1⟩,fun h=>by rw [List.foldl_append,he.2.2,lq.2.2]⟩
  ·show (S'.ev ++ _).length + _ ≤ _
   rw [List.length_append,List.length_map]
   exact mul_lt hn (hl.1 ▸ hq.2.2)
  ·show S'.ev ++ _ = _
   rw [he.1,List.append_assoc]
end Mine
end
noncomputable section
namespace Mine
open PySem
section
variable {n:Nat} {H:AH} {Q:QE} {X:XE}
theorem f1 {a b i:Int} (h:a ≤ i∧i ≤ b) (q:Q (.bool true) H):callF PL (n + 1) 1 [.int i,.int a,.int b] H Q X :=
 cf P_fn1 rfl (ev_ret (ev_and (s:=true) (t:=true) (pe_ok rfl) fun _=>ev_and (s:=true) (t:=true) (pe_ok rfl) fun _=>ev_eq (ev_in (ev_var rfl) (ev_var rfl) (ev_var rfl)) (by rw [decide_eq_true h.1,decide_eq_true h.2]; rfl)) q)
theorem f2 {s:Nm} (h:nmOk s) (q:Q (.bool true) H):callF PL (n + 1) 2 [.str s] H Q X:=by
 refine cf P_fn2 rfl (ev_no (ev_or (s:=false) (t:=false) (pe_ok rfl) fun _=>ev_not (s:=true) (ev_eq (ev_in (i:=1) (j:=s.length) (k:=8) ev_cst (ev_p1 (ev_var rfl) pm_lens) ev_cst) ?_)) (ev_ret (ev_p1 (ev_map (l:=s) (f:=fun c=>.str [c]) (g:=fun c=>.bool (abc.contains c)) (ev_var rfl) rfl (Nat.le_trans h.2.1 (by decide)) fun _ _=>pe_ok rfl) ?_) q))
 ·rw [decide_eq_true (show (1:Int) ≤ s.length from Int.ofNat_le.mpr h.1),decide_eq_true (show (s.length:Int) ≤ 8 from Int.ofNat_le.mpr h.2.1)]; rfl
 ·rw [show (s.map fun c=>V.bool (abc.contains c)) = (s.map fun c=>abc.contains c).map V.bool from List.map_map.symm,pm_all,List.all_map]
  exact congrArg (fun t=>some (V.bool t,H)) (List.all_eq_true.mpr fun c hc=>List.contains_iff_mem.mpr (h.2.2 c hc))
theorem f3 {v:V} (h:LV v) (q:Q (.bool true) H):callF PL (n + 2) 3 [v] H Q X:=by
 induction h with
 | add h=>exact cf P_fn3 rfl (ev_no (pe_ok rfl) (ev_yes (pe_ok rfl) (ev_ret (ev_and (s:=true) (t:=true) (pe_ok rfl) fun _=>ev_call3 (pe_ok rfl) (pe_ok rfl) (pe_ok rfl) fun Q q=>f1 h q) q)))
 | fault=>exact cf P_fn3 rfl (ev_no (pe_ok rfl) (ev_no (pe_ok rfl) (ev_ret (pe_ok rfl) q)))
 | leave=>exact cf P_fn3 rfl (ev_no (pe_ok rfl) (ev_no (pe_ok rfl) (ev_ret (pe_ok rfl) q)))
end
section
variable {P:Prog} {C:Calls} {ρ:Fm} {H:AH} {K:KS} {R:QE} {X:XE} {ss:List St} {σ:Ad} {S S':Hst} {n nm:Nm} {e:Ex} {x:V}
theorem ev_meth0 {f i:Nat} (h:Hs σ S H) (h0:ρ[i]? = some (some (.ref σ.i))) (hn:hk.contains nm = false) (hc:∀ Q:QE,Q x H→C f [.ref σ.i] H Q X):Ev P C ρ H X (.meth 0 f nm (.var i) []) x:=fun Q q =>
 ev_var (P:=P) (C:=C) (X:=X) h0 (fun v H₁=>hasMeth H₁ 0 nm v = true∧wpEs P C [] ρ H₁ (fun vs H'=>C f (v :: vs) H' Q X) X) ⟨meth_h h hn,hc Q q⟩
theorem ev_meth1 {f i:Nat} {a:Ex} {y:V} (h:Hs σ S H) (h0:ρ[i]? = some (some (.ref σ.i))) (hn:hk.contains nm = false) (ha:Ev P C ρ H X a y) (hc:∀ Q:QE,Q x H→C f [.ref σ.i,y] H Q X):Ev P C ρ H X (.meth 0 f nm (.var i) [a]) x:=fun Q q =>
 ev_var (P:=P) (C:=C) (X:=X) h0 (fun v H₁=>hasMeth H₁ 0 nm v = true∧wpEs P C [a] ρ H₁ (fun vs H'=>C f (v :: vs) H' Q X) X) ⟨meth_h h hn,ha _ (hc Q q)⟩
theorem st_attr (h:Hs σ S H) (h0:ρ[0]? = some (some (.ref σ.i))) (he:Ev P C ρ H X e x) (ed:dput nm x hk (hv σ S) = (hk,hv σ S')) (ef:fixL σ S' = (fixL σ S).set 0 (σ.d,.ns hk (hv σ S'))) (ek:S'.kept = S.kept) (eq:S'.qu = S.qu) (eo:S'.own = S.own) (el:S.kl ≤ S'.kl∧S.letters ≤ S'.letters) (ep:S'.pres = S.pres) (k:∀ H',Hs σ S' H'→wpSs P C ss ρ H' K R X) :
  wpSs P C (.setAttr (.var 0) nm e :: ss) ρ H K R X:=by
 have z:setAttrV (.ref σ.i) nm x H = some (H.set σ.d (.ns hk (hv σ S'))):=by
  show (insOf H (.ref σ.i)).bind _ = _
  rw [ins_h h]
  show some (H.set σ.d (.ns (dput nm x hk (hv σ S)).1 (dput nm x hk (hv σ S)).2)) = _
  rw [ed]
 exact he _ (ev_var (P:=P) (C:=C) (X:=X) h0 _ (by rw [z]; exact k _ (h.set 0 rfl ef rfl ek eq eo el (ep ▸ h.pn))))
noncomputable def pC (S:Hst) (c:Int):Hst:={ S with clock:=c }
noncomputable def pN (S:Hst) (c:Nat):Hst:={ S with letters:=c }
theorem Hs.quSet (h:Hs σ S H) {r:Nat} {q q':List (Nat × V)} (e:aget n S.qu = some (r,q)) (hl:q'.length ≤ S.letters):Hs σ (pQ S n (r,q') S.own) (H.set r (.list (q'.map letV))):=by
 have hp:=h.qp _ (aget_some e)
 have ho:=hp.1
 have hlt:r < H.length:=(List.getElem?_eq_some_iff.mp hp.2.1).1
 have ef:fixL σ (pQ S n (r,q') S.own) = fixL σ S:=by
  unfold fixL
  rw [show (pQ S n (r,q') S.own).qu = aput n (r,q') S.qu from rfl,dO_same (val:=quR) (y:=(r,q')) e rfl]; rfl
 refine ⟨ef ▸ h.nd,ef ▸ fun p hp=>⟨(List.getElem?_set_ne fun z=>nos ((h.fix p hp).2.symm.trans (z ▸ ho))).trans (h.fix p hp).1,(h.fix p hp).2⟩,fun p hp=>⟨(h.kp p hp).1,(List.getElem?_set_ne fun z=>?_).trans (h.kp p hp).2.1,(h.kp p hp).2.2⟩,fun p hp=>(mem_aput' h.qn hp).elim (fun z=>z ▸ ⟨ho,List.getElem?_set_self hlt,hl⟩) fun z=>have y:=h.qp p z.1; ⟨y.1,(List.getElem?_set_ne fun w=>z.2 ?_).trans y.2.1,y.2.2⟩,nd_aput h.qn,h.pn,h.kn⟩
 ·exact absurd (congrArg Prod.fst (Option.some.inj (ho.symm.trans ((congrArg S.own z).trans (h.kp p hp).1)))) Bool.false_ne_true
 ·exact congrArg Prod.snd (Option.some.inj (y.1.symm.trans (w ▸ ho)))
theorem ev_qu {i:Nat} {x:Nat × List (Nat × V)} (h:Hs σ S H) (h0:ρ[0]? = some (some (.ref σ.i))) (hi:ρ[i]? = some (some (.str n))) (e:aget n S.qu = some x):Ev P C ρ H X (.prim false .item [at_ ['q','u','e','u','e','s'],.var i]) (.ref x.1):=ev_p2 (ev_at h h0 rfl) (ev_var hi) (pm_itD (val:=quR) (h.get 8 rfl) e)
end
end Mine
end
noncomputable section
namespace Mine
open PySem
structure At (π:PI) (σ:Ad) (S:Hst) (H:AH):Prop where
 hs:Hs σ S H
 iv:Iv π S
 i8:I8 π S
noncomputable def MH (π:PI) (σ:Ad) (S:Hst) (b:Nat) (Q:QE):Prop:=∀ vs S' H' es,At π σ S' H'→S'.letters ≤ S.letters + 1→S'.ev.length ≤ S.ev.length + b→S'.ev = S.ev ++ es→Od π S S' es→Q (.lst vs) H'
section
variable {π:PI} {σ:Ad} {n:Nat} {S:Hst} {H:AH} {Q:QE} {X:XE} {m:Nm}
theorem f37 (pl:Pl π σ) (h:Hs σ S H) (no:X 6 H) (q:Q .none H):callF PL (n + 2) 40 [.ref σ.i] H Q X :=
 cf P_fn40 rfl (ev_ite (ev_not (ev_meth0 h rfl rfl fun Q q=>cf P_fn46 rfl (ev_ret (ev_here h rfl (ev_p2 (ev_at h rfl rfl) ev_cst (it_nm pl.top))) q))) (fun _=>no) fun _=>q)
theorem f38 (h:Hs σ S H) (hn:nmOk m) (hq:hasK m S.qu = true) (q:Q .none H):callF PL (n + 2) 41 [.ref σ.i,.str m] H Q X :=
 cf P_fn41 rfl (ev_no (ev_or (s:=false) (t:=false) (ev_not (s:=true) (ev_call1 (ev_var rfl) fun Q q=>f2 hn q)) fun _=>ev_eq (ev_p2 (ev_var rfl) (ev_at h rfl rfl) (pm_notinD (h.get 8 rfl))) (congrArg (fun t=>V.bool (!t)) hq)) q)
theorem f39 (h:Hs σ S H) (no:X 4 H) (q:here S m = true→Q .none H):callF PL (n + 1) 42 [.ref σ.i,.str m] H Q X :=
 cf P_fn42 rfl (ev_ite (ev_p2 (ev_var rfl) (ev_at h rfl rfl) (pm_notinD (h.get 5 rfl))) (fun _=>no) fun z=>q (Bool.not_eq_false' _ ▸ z))
theorem pm_sl_r {P:Prog} {i:Nat} {vs:List V} {a:Int} (h:H[i]? = some (.list vs)) (hl:vs.length ≤ sizeOf'):primM P false .slice [.ref i,.int a,.none] H = some (.lst (sliceL vs (clip vs.length a) vs.length),H):=by
 show ((H[i]?.bind O.lst).bind _).map _ = _
 rw [h]
 show (if vs.length ≤ sizeOf' then some _ else none:Option V).map _ = _
 rw [if_pos hl]; rfl
theorem st_end {ρ:Fm} {K:KS} {a:Int} (pl:Pl π σ) (h:Hs σ S H) (iv:Iv π S) (h0:ρ[0]? = some (some (.ref σ.i))) (h2:ρ[2]? = some (some (.int a))) (hL:S.letters ≤ 100) (hb:S.ev.length + 6000 ≤ 900000) (q:∀ vs S' H' es,Hs σ S' H'→Iv π S'→(S'.letters = S.letters∧here S' = here S∧S'.clock = S.clock)→S'.ev.length ≤ S.ev.length + 6000→S'.ev = S.ev ++ es→Qt S S' es→(∀ h,es.foldl hr h = h)→Q (.lst vs) H') :
  wpSs PL (callF PL (n + 1)) [(.expr (.meth 0 39 ['l','o','s','e'] (.var 0) [])),(.ret (.prim false .slice [(at_ ['e','v','e','n','t','s']),.var 2,.cst .none]))] ρ H K Q X :=
 have hL:60 * S.letters ≤ 6000:=Nat.mul_le_mul_left 60 hL
 st_meth0 h h0 rfl (f_lose pl h iv (Nat.le_trans (Nat.add_le_add_left hL _) hb) fun S' H' es hS iS el hl he qt hf =>
  have hl:=Nat.le_trans hl (Nat.add_le_add_left hL _)
  ev_ret (ev_p3 (ev_at hS h0 rfl) (ev_var h2) ev_cst (pm_sl_r (hS.get 9 rfl) (Nat.le_trans (Nat.le_of_eq (List.length_map _)) (Nat.le_trans hl (Nat.le_trans hb (by decide)))))) (q _ S' H' es hS iS el hl he qt hf))
theorem h_end {ρ:Fm} {K:KS} {S₁ S₂:Hst} {pre es:List Evt} {k':Nm→List Int} {a:Int} (pl:Pl π σ) (i8:I8 π S) (h:Hs σ S₂ H) (iv:Iv π S₂) (hr1:here S₁ = pre.foldl hr (here S)) (kf1:∀ c l,pre.foldl (kpF c) l = l) (ck:S₂.clock = S.clock + 1) (hr2:here S₂ = es.foldl hr (here S₁)) (kp:∀ c,kpt S₂ c = es.foldl (kpF c) (k' c)) (kd:Kd π (S.clock + 1) (kpt S) (pre ++ es) k')
  (ev:S₂.ev = S.ev ++ (pre ++ es)) (lt:S₂.letters = S.letters) (hl:(pre ++ es).length ≤ 1382) (h0:ρ[0]? = some (some (.ref σ.i))) (h2:ρ[2]? = some (some (.int a))) (hL:S.letters ≤ 100) (hb:S.ev.length + 7500 ≤ 900000) (q:MH π σ S 7500 Q) :
  wpSs PL (callF PL (n + 1)) [(.expr (.meth 0 39 ['l','o','s','e'] (.var 0) [])),(.ret (.prim false .slice [(at_ ['e','v','e','n','t','s']),.var 2,.cst .none]))] ρ H K Q X:=by
 have le:S₂.ev.length + 6000 ≤ S.ev.length + 7500:=by
  rw [ev,List.length_append,Nat.add_assoc]
  exact Nat.add_le_add_left (Nat.le_trans (Nat.add_le_add_right hl 6000) (by decide)) _
 refine st_end pl h iv h0 h2 (lt.symm ▸ hL) (Nat.le_trans le hb) fun vs S₃ H₃ es' h3 iv3 e3 l3 ev3 qt hf=>?_
 have od:Od π S S₃ (pre ++ es ++ es'):=by
  refine ⟨e3.2.2.trans ck,⟨k',fun c=>?_,?_⟩,?_⟩
  ·rw [List.foldl_append,List.foldl_append,kf1,qt.kf,← kp]
   exact congrArg (fun l:AL (Nat × List Int)=>((aget c l).map Prod.snd).getD []) qt.kp
  ·unfold Kd
   rw [falls_app (a:=pre ++ es),qt.fl,List.append_nil]
   exact kd
  ·rw [List.foldl_append,List.foldl_append,hf,← hr1,← hr2,e3.2.1]
 exact q vs S₃ H₃ _ ⟨h3,iv3,i8.step pl.mn od⟩ (by rw [e3.1,lt]; exact Nat.le_succ _) (Nat.le_trans l3 le) (by rw [ev3,ev,List.append_assoc]) od
theorem b6 {d:Nat} (h:d ≤ 6):bF d ≤ 1380:=Nat.add_le_add_right (Nat.mul_le_mul_left 60 (Nat.succ_le_succ h)) 960
theorem fu {d N:Nat} (h:d ≤ 6):2 * d + 20 ≤ N + 33:=Nat.le_trans (Nat.add_le_add_right (Nat.mul_le_mul_left 2 h) 20) (Nat.le_add_left 32 (N + 1))
theorem f42 (pl:Pl π σ) (A:At π σ S H) (hm:m ∈ σ.names) (hL:S.letters ≤ 100) (hb:S.ev.length + 7500 ≤ 900000) (x4:X 4 H) (x6:X 6 H) (q:MH π σ S 7500 Q):callF PL (n + 34) 45 [.ref σ.i,.str m] H Q X:=by
 have h:=A.hs
 refine ea3_4 (pl.pt m hm) fun d k v hd rt en ed=>cf P_fn45 rfl (st_meth0 h rfl rfl (f37 pl h x6 (ev_no (ev_or (s:=false) (t:=false) (ev_not (s:=true) (ev_call1 (ev_var rfl) fun Q q=>f2 (pl.ok m hm) q)) fun _=>ev_eq (ev_p2 (ev_var rfl) (ev_at h rfl rfl) (pm_notinD (h.get 3 rfl))) (congrArg (fun t=>V.bool (!t)) (List.contains_iff_mem.mpr hm))) (st_meth h rfl rfl (ev_var rfl) (f39 h x4 fun hh=>?_)))))
 refine ev_asg (ev_p1 (ev_at h rfl rfl) (pm_lenr (h.get 9 rfl))) (lt_b rfl) (st_attr (S':=pC S (S.clock + 1)) h rfl (ev_p2 (ev_at h rfl rfl) ev_cst pm_add) rfl rfl rfl rfl rfl ⟨Nat.le_refl _,Nat.le_refl _⟩ rfl fun H1 h1=>?_)
 have i1:Iv π (pC S (S.clock + 1)):=⟨A.iv.gd.mono rfl rfl rfl rfl (Nat.le_refl _),A.iv.up,A.iv.nm,A.iv.qk,A.iv.lv,A.iv.lq⟩
 exact st_meth h1 rfl rfl (x:=v) (ev_p2 (ev_at h1 rfl rfl) (ev_var rfl) (pm_dct (h1.get 3 rfl) ed)) (fuel (fu hd.1) (f_fall.1 rt h1 i1.gd i1.up (en ▸ hh) (Nat.le_trans (Nat.add_le_add_left (Nat.le_trans (b6 hd.1) (by decide)) _) hb) fun S2 H2 es k' h2 g2 sp hl up ch=>h_end (S₁:=pC S (S.clock + 1)) (pre:=[]) pl A.i8 h2 (i1.plain sp g2 up) rfl (fun _ _=>rfl) sp.ck sp.hr sp.kp (.inr ⟨.fail (nameOf v),pt_nm rt.rd.pt,ch⟩) sp.ev sp.lt (Nat.le_trans hl (Nat.le_trans (b6 hd.1) (by decide))) rfl rfl hL hb q))
end
end Mine
end
noncomputable section
namespace Mine
open PySem
theorem ev_p4 {P:Prog} {C:Calls} {ρ:Fm} {H:AH} {X:XE} {a b c d:Ex} {x y u w z:V} {p:Prim} (h:Ev P C ρ H X a x) (h2:Ev P C ρ H X b y) (h3:Ev P C ρ H X c u) (h4:Ev P C ρ H X d w) (e:primM P false p [x,y,u,w] H = some (z,H)):Ev P C ρ H X (.prim false p [a,b,c,d]) z:=fun _ q=>h _ (h2 _ (h3 _ (h4 _ (hE e q))))
section
variable {π:PI} {σ:Ad} {n:Nat} {S:Hst} {H:AH} {Q:QE} {X:XE} {m:Nm}
theorem qn_some {x:Nat × List (Nat × V)} (e:aget m S.qu = some x):qn S m = x.2.map (·.1):=by unfold qn; rw [e]; rfl
noncomputable def MS (π:PI) (σ:Ad) (S:Hst) (b:Nat) (Q:QE):Prop:=∀ i S' H' es,At π σ S' H'→S'.letters ≤ S.letters + 1→S'.ev.length ≤ S.ev.length + b→S'.ev = S.ev ++ es→Qt S S' es→S'.clock = S.clock→Q (.int i) H'
theorem f40 {l:V} (pl:Pl π σ) (A:At π σ S H) (hm:π.isW m = some false) (lv:LV l) (hL:S.letters ≤ 99) (hb:S.ev.length + 7500 ≤ 900000) (x4:X 4 H) (x6:X 6 H) (q:MS π σ S 7500 Q):callF PL (n + 34) 43 [.ref σ.i,.str m,l] H Q X:=by
 have h:=A.hs
 have hq:=(A.iv.qk m).mpr hm
 have hs:S.ev.length ≤ sizeOf':=Nat.le_trans (Nat.le_add_right _ _) (Nat.le_trans hb (by decide))
 refine cf P_fn43 rfl (st_meth0 h rfl rfl (f37 pl h x6 (ev_no (ev_not (s:=true) (ev_call1 (ev_var rfl) fun Q q=>f3 lv q)) (st_meth h rfl rfl (ev_var rfl) (f38 h (pl.ok m (mem_nm pl hm)) hq (st_meth h rfl rfl (ev_var rfl) (f39 h x4 fun hh=>?_)))))))
 refine st_attr (S':=pN S (S.letters + 1)) h rfl (ev_p2 (ev_at h rfl rfl) ev_cst pm_add) rfl rfl rfl rfl rfl ⟨Nat.le_refl _,Nat.le_succ _⟩ rfl fun H1 h1=>(aget_has hq).elim fun x ex=>?_
 have hx:=h1.qp _ (aget_some ex)
 have hx':x.2.length ≤ S.letters:=(h.qp _ (aget_some ex)).2.2
 refine st_mc1 (ev_qu h1 rfl rfl ex) (ty_list hx.2.1) (ev_p2 (ev_at h1 rfl rfl) (ev_var rfl) (pm_mkt two_le)) (hE (pm_append hx.2.1 ?_) ?_)
 ·rw [List.length_map]; exact Nat.le_trans hx' (Nat.le_trans hL (by decide))
 have h2:=h1.quSet (q':=x.2 ++ [(S.letters + 1,l)]) ex (Nat.le_trans (Nat.le_of_eq List.length_append) (Nat.succ_le_succ hx'))
 rw [List.map_append] at h2
 exact st_ev h2 rfl (.sent m (S.letters + 1) l) (ev_p4 ev_cst (ev_var rfl) (ev_at h2 rfl rfl) (ev_var rfl) rfl) hs fun H3 h3=>ev_ret (ev_at h3 rfl rfl) (q _ _ _ [.sent m (S.letters + 1) l] ⟨h3,⟨A.iv.gd.mono rfl rfl rfl rfl len_snoc,A.iv.up,app_all A.iv.nm (all1 ⟨hm,lv⟩),fun k=>(put_iff hq).trans (A.iv.qk k),fun p hp=>(mem_aput hp).elim (fun e=>e ▸ app_all (A.iv.lv _ (aget_some ex)) (all1 lv)) (A.iv.lv p),Nat.le_trans (Nat.le_of_eq (len_put hq)) A.iv.lq⟩,A.i8⟩ (Nat.le_refl _) (Nat.le_trans (Nat.le_of_eq List.length_append) (Nat.add_le_add_left (Nat.le_of_ble_eq_true rfl) _)) rfl ⟨rfl,rfl,fun _ _=>rfl⟩ rfl)
theorem f45 (pl:Pl π σ) (h:Hs σ S H) (q:Q (.lst ((σ.names.filter (here S)).map V.str)) H):callF PL (n + 1) 48 [.ref σ.i] H Q X :=
 cf P_fn48 rfl (ev_ret (ev_flt (l:=σ.names) (f:=V.str) (g:=V.str) (ev_at h rfl rfl) (src_ref (h.get 2 rfl)) (Nat.le_trans pl.le (by decide)) (fun m _=>ev_here h rfl (ev_var rfl)) fun _ _ _=>ev_var rfl) q)
theorem f46 (h:Hs σ S H) (hb:S.ev.length ≤ 900000) (q:Q (.lst (S.ev.map Evt.v)) H):callF PL (n + 1) 49 [.ref σ.i] H Q X :=
 cf P_fn49 rfl (ev_ret (ev_p1 (ev_at h rfl rfl) (by
  show ((H[σ.ev]?.bind O.lst).bind _).map _ = _
  rw [h.get 9 rfl]
  show (if (S.ev.map Evt.v).length ≤ sizeOf' then some _ else none:Option V).map _ = _
  rw [if_pos (Nat.le_trans (Nat.le_of_eq (List.length_map _)) (Nat.le_trans hb (by decide)))]; rfl)) q)
theorem f47 (pl:Pl π σ) (h:Hs σ S H) (iv:Iv π S) (hL:S.letters ≤ 100) (hm:π.isW m = some false) (q:Q (.lst ((qn S m).map ni)) H):callF PL (n + 3) 50 [.ref σ.i,.str m] H Q X:=by
 have hq:=(iv.qk m).mpr hm
 refine (aget_has hq).elim fun x ex=>cf P_fn50 rfl (st_meth h rfl rfl (ev_var rfl) (f38 h (pl.ok m (mem_nm pl hm)) hq ?_))
 have hx:=h.qp _ (aget_some ex)
 refine ev_ret (ev_map (l:=x.2) (f:=letV) (g:=fun p=>ni p.1) (ev_qu h rfl rfl ex) (src_ref hx.2.1) (Nat.le_trans hx.2.2 (Nat.le_trans hL (by decide))) fun _ _=>pe_ok rfl) ?_
 rw [qn_some ex,List.map_map] at q
 exact q
end
end Mine
end
noncomputable section
namespace Mine
open PySem
theorem st_asgT {P:Prog} {C:Calls} {ρ:Fm} {H:AH} {K:KS} {R:QE} {X:XE} {ss:List St} {is:List Nat} {e:Ex} (h:wpE P C e ρ H (fun v H'=>match setTgt ρ (.inr is) v with | some ρ'=>wpSs P C ss ρ' H' K R X | none=>False) X):wpSs P C (.asgTup is e :: ss) ρ H K R X:=h
theorem pm_pop0 {P:Prog} {H:AH} {r:Nat} {x:V} {xs:List V} (h:H[r]? = some (.list (x :: xs))) (hl:(x :: xs).length ≤ sizeOf'):primM P false .pop0 [.ref r,.int 0] H = some (x,H.set r (.list xs)):=by
 show ((H[r]?.bind O.lst).bind fun vs=>some (r,vs)).bind _ = _
 rw [h]
 exact if_pos ⟨rfl,hl⟩
section
variable {π:PI} {σ:Ad} {n:Nat} {S:Hst} {H:AH} {Q:QE} {X:XE} {m:Nm}
theorem pt_wk {k:Nat} {v:V} {G:V→Prop} (hP:Pt π k v) (hw:π.isW (nameOf v) = some false) (g:∀ nm md,md ∈ rules3→(∀ c,π.ch c ≠ some nm)→G (wkV nm md)):G v:=by
 induction hP with
 | wk _ h2 _ h4=>exact g _ _ h2 h4
 | wd _ _ _ _ _ h6=>exact absurd (Option.some.inj (hw.symm.trans h6)) Bool.false_ne_true
theorem f41 (pl:Pl π σ) (A:At π σ S H) (hm:π.isW m = some false) (hL:S.letters ≤ 100) (hb:S.ev.length + 7500 ≤ 900000) (x4:X 4 H) (x5:X 5 H) (x6:X 6 H) (q:MH π σ S 7500 Q):callF PL (n + 34) 44 [.ref σ.i,.str m] H Q X:=by
 have h:=A.hs
 have hq:=(A.iv.qk m).mpr hm
 have hn:=mem_nm pl hm
 refine ea3_4 (pl.pt m hn) fun d k v hd rt en ed=>(aget_has hq).elim fun x ex=>cf P_fn44 rfl (st_meth0 h rfl rfl (f37 pl h x6 (st_meth h rfl rfl (ev_var rfl) (f38 h (pl.ok m hn) hq (st_meth h rfl rfl (ev_var rfl) (f39 h x4 fun hh=>?_))))))
 have hx:=h.qp _ (aget_some ex)
 have hs:∀ {j:Nat},j ≤ 7500→S.ev.length + j ≤ 900000:=fun z=>Nat.le_trans (Nat.add_le_add_left z _) hb
 refine ev_ite (ev_p2 (ev_p1 (ev_qu h rfl rfl ex) (pm_lenr hx.2.1)) ev_cst (pm_eq rd_int rd_int)) (fun _=>x5) fun hz=>?_
 refine ev_asg (ev_p1 (ev_at h rfl rfl) (pm_lenr (h.get 9 rfl))) (lt_b rfl) (st_attr (S':=pC S (S.clock + 1)) h rfl (ev_p2 (ev_at h rfl rfl) ev_cst pm_add) rfl rfl rfl rfl rfl ⟨Nat.le_refl _,Nat.le_refl _⟩ rfl fun H1 h1=>?_)
 obtain ⟨r,_ | ⟨⟨k0,l⟩,ps⟩⟩:=x
 ·exact absurd hz.symm Bool.false_ne_true
 have hx1:=h1.qp _ (aget_some ex)
 have h2:=h1.quSet (q':=ps) ex (Nat.le_trans (Nat.le_succ _) hx.2.2)
 have lp:LV l:=A.iv.lv _ (aget_some ex) (k0,l) (.head _)
 refine st_asgT (ev_qu h1 rfl rfl ex _ ⟨ty_list hx1.2.1,ev_cst _ (hE (pm_pop0 hx1.2.1 ?_) (show wpSs PL (callF PL (n + 33)) _ [some (.ref σ.i),some (.str m),some (.int _),some (.int k0),some l,none] _ _ Q X from st_ev h2 rfl (.works m k0) (pe_ok rfl) (Nat.le_trans (hs (Nat.zero_le _)) (by decide)) fun H3 h3=>ev_asg (ev_p2 (ev_at h3 rfl rfl) (ev_var rfl) (pm_dct (h3.get 3 rfl) ed)) (lt_b rfl) ?_))⟩)
 ·exact Nat.le_trans (Nat.le_of_eq (congrArg Nat.succ (List.length_map _))) (Nat.le_trans hx.2.2 (Nat.le_trans hL (by decide)))
 have i3:Iv π (pE (pQ (pC S (S.clock + 1)) m (r,ps) S.own) (.works m k0)):=⟨A.iv.gd.mono rfl rfl rfl rfl len_snoc,A.iv.up,app_all A.iv.nm (all1 hm),fun k=>(put_iff hq).trans (A.iv.qk k),fun p hp=>(mem_aput hp).elim (fun e=>e ▸ fun x hx=>A.iv.lv _ (aget_some ex) x (.tail _ hx)) (A.iv.lv p),Nat.le_trans (Nat.le_of_eq (len_put hq)) A.iv.lq⟩
 have hl3:∀ {j:Nat},j + 1 ≤ 7500→(S.ev ++ [Evt.works m k0]).length + j ≤ 900000:=fun {j} z=>by rw [List.length_append,Nat.add_assoc]; exact hs (Nat.add_comm 1 j ▸ z)
 have bd:bF d ≤ 1380:=b6 hd.1
 cases lp with
 | @add i5 hi =>
  refine ev_yes (pe_ok rfl) ((aget_has (A.iv.gd.ks m hh hm)).elim fun i ei=>st_sums h3 rfl (ev_p2 (ev_p2 (ev_at h3 rfl rfl) (ev_var rfl) (pm_itD (val:=V.int) (h3.get 6 rfl) ei)) (pe_ok rfl) pm_add) (ev_var rfl) (Nat.le_trans A.iv.gd.ls (Nat.le_trans (hs (Nat.zero_le _)) (by decide))) fun H4 h4=>?_)
  have g4:Gd π (pS (pE (pQ (pC S (S.clock + 1)) m (r,ps) S.own) (.works m k0)) m (i + i5)):=⟨i3.gd.kw,fun k hk hw=>or_has (i3.gd.ks k hk hw),i3.gd.lp,i3.gd.lk,Nat.le_trans (Nat.le_of_eq (len_put (A.iv.gd.ks m hh hm))) i3.gd.ls,i3.gd.ll,i3.gd.ko⟩
  exact h_end (S₁:=pS (pE (pQ (pC S (S.clock + 1)) m (r,ps) S.own) (.works m k0)) m (i + i5)) (pre:=[.works m k0]) (es:=[]) (k':=kpt S) pl A.i8 h4 ⟨g4,i3.up,i3.nm,i3.qk,i3.lv,i3.lq⟩ rfl (fun _ _=>rfl) rfl rfl (fun _=>rfl) (.inl ⟨rfl,rfl⟩) rfl rfl (Nat.le_of_ble_eq_true rfl) rfl rfl hL hb q
 | fault=>exact ev_no (pe_ok rfl) (ev_yes (pe_ok rfl) (st_meth h3 rfl rfl (ev_var rfl) (fuel (fu hd.1) (f_fall.1 rt h3 i3.gd i3.up (en ▸ hh) (hl3 (Nat.le_trans (Nat.succ_le_succ bd) (by decide))) fun S4 H4 es k' h4 g4 sp hl up ch=>st_nil <| h_end (S₁:=pE (pQ (pC S (S.clock + 1)) m (r,ps) S.own) (.works m k0)) (pre:=[.works m k0]) pl A.i8 h4 (i3.plain sp g4 up) rfl (fun _ _=>rfl) sp.ck sp.hr sp.kp (.inr ⟨.fail (nameOf v),pt_nm rt.rd.pt,ch⟩) (sp.ev.trans (List.append_assoc ..)) sp.lt (Nat.succ_le_succ (Nat.le_trans hl (Nat.le_trans bd (by decide)))) rfl rfl hL hb q))))
 | leave =>
  refine ev_no (pe_ok rfl) (ev_no (pe_ok rfl) (st_ev h3 rfl (.leave m) (pe_ok rfl) (Nat.le_trans (hl3 (j:=0) (by decide)) (by decide)) fun H4 h4=>st_gone h4 rfl (ev_var rfl) hh (Nat.le_trans A.iv.gd.lp (Nat.le_trans (hs (Nat.zero_le _)) (by decide))) fun H5 h5=>?_))
  have hw:π.isW (nameOf v) = some false:=en ▸ hm
  have nk:∀ c,π.ch c ≠ some m:=en ▸ pt_wk (G:=fun v=>∀ c,π.ch c ≠ some (nameOf v)) rt.rd.pt hw fun _ _ _ z=>z
  have dl:∀ {k:Nm},k ≠ m→here S k = true→hasK k (adel m S.pres) = true:=fun a b=>(has_adel h.pn).trans (Bool.and_eq_true_iff.mpr ⟨by rw [decide_eq_false a]; rfl,b⟩)
  have up5:Up π fun k=>hasK k (adel m S.pres):=fun c k hc hhc=>dl (fun z=>nk c (z ▸ hc)) (A.iv.up c k hc (Bool.and_eq_true_iff.mp ((has_adel h.pn).symm.trans hhc)).2)
  have g5:=gd_del (n:=m) (t:=.leave m) i3.gd
  have md:=rt.rd.md v (self_pts rt.rd.pt)
  have i5:Iv π (pD (pE (pE (pQ (pC S (S.clock + 1)) m (r,ps) S.own) (.works m k0)) (.leave m)) m):=⟨g5,up5,app_all i3.nm (all1 (congrArg Option.isSome hm)),i3.qk,i3.lv,i3.lq⟩
  have hr5:here (pD (pE (pE (pQ (pC S (S.clock + 1)) m (r,ps) S.own) (.works m k0)) (.leave m)) m) = [Evt.works m k0,.leave m].foldl hr (here S):=funext fun _=>has_adel h.pn
  refine ea1_3 (pt_wk (G:=fun v=>∃ md,primM PL false .item [v,.int 2] H5 = some (.str md,H5)∧thd v = md∧md ∈ rules3) rt.rd.pt hw fun _ md h _=>⟨md,rfl,rfl,h⟩) fun mo emd et hmo=>?_
  have al:π.al m = alV v:=en ▸ md.al
  refine ev_ite (ev_p2 (ev_p2 (ev_var rfl) ev_cst emd) ev_cst (pm_eq rd_str rd_str)) (fun ha=>?_) fun ha=>st_nil <| st_nil <| h_end (S₁:=pD (pE (pE (pQ (pC S (S.clock + 1)) m (r,ps) S.own) (.works m k0)) (.leave m)) m) (pre:=[.works m k0,.leave m]) (es:=[]) (k':=kpt S) pl A.i8 h5 i5 hr5 (fun _ _=>rfl) rfl rfl (fun _=>rfl) (.inr ⟨.leave m,hm,?_⟩) (List.append_assoc ..) rfl (Nat.le_of_ble_eq_true rfl) rfl rfl hL hb q
  case refine_2 =>
   have hal:π.al m = false:=by
    rw [al]
    unfold alV nvV
    rw [et]
    exact memE hmo (fun e=>absurd (show eqV (.str mo) (.str ['a','l','w','a','y','s']) = true from by rw [e]; rfl) (by rw [ha]; exact Bool.false_ne_true)) fun h=>memE h (fun e=>by rw [e]; rfl) fun h=>by rw [in1 h]; rfl
   show Ch π _ (π.al m) (kpt S) (.leave m) [.leave m] (kpt S)
   rw [hal]
   exact .stop
  have hal:π.al m = true:=by
   rw [al]
   unfold alV nvV
   rw [et,beq_iff_eq.mp (show (mo == ['a','l','w','a','y','s']) = true from ha)]; rfl
  cases d with
  | zero=>exact absurd (Option.some.inj (hm.symm.trans (hd.2 rfl))) Bool.false_ne_true
  | succ d =>
   have bd:bF d ≤ 1380:=b6 (Nat.le_trans (Nat.le_succ _) hd.1)
   refine ea1_3 rt.2 fun w rw hv ec=>st_meth2 h5 rfl rfl (ev_p2 (ev_at h5 rfl rfl) (ev_var rfl) (pm_dct (h5.get 4 rfl) (en ▸ ec))) (ev_var rfl) (fuel (Nat.le_trans (Nat.le_succ (2 * d + 21)) (fu hd.1)) (f_fall.2 rw hv h5 g5 ?_ up5 ?_ ?_ fun S6 H6 es k' h6 g6 sp hl up ch=>st_nil <| st_nil <| h_end (S₁:=pD (pE (pE (pQ (pC S (S.clock + 1)) m (r,ps) S.own) (.works m k0)) (.leave m)) m) (pre:=[.works m k0,.leave m]) pl A.i8 h6 ⟨g6,up,sp.ev ▸ app_all i5.nm (pl_all sp.nm),sp.qu ▸ i5.qk,sp.qu ▸ i5.lv,sp.qu ▸ i5.lq⟩ hr5 (fun _ _=>rfl) sp.ck sp.hr sp.kp (.inr ⟨.leave m,hm,?_⟩) (sp.ev.trans ((congrArg (· ++ es) (List.append_assoc ..)).trans (List.append_assoc ..))) sp.lt (Nat.succ_le_succ (Nat.succ_le_succ (Nat.le_trans hl bd))) rfl rfl hL hb q))
   ·exact Nat.lt_of_le_of_lt i3.gd.ll len_snoc1
   ·have cw:π.ch (nameOf v) = some (nameOf w)∧π.isW (nameOf w) = some true:=pt_wd (G:=fun w _=>π.ch (nameOf v) = some (nameOf w)∧π.isW (nameOf w) = some true) rw.rd.pt hv fun k nm rl m s ps _ _ h6 h7 _ hp=>⟨(h7 _).mpr ⟨v,hp,rfl⟩,h6⟩
    exact dl (fun z=>Bool.false_ne_true (Option.some.inj (hm.symm.trans (z ▸ cw.2)))) (A.iv.up _ _ cw.1 (en ▸ hh))
   ·show (_ ++ [Evt.leave m]).length + _ ≤ _
    rw [List.length_append,Nat.add_assoc]
    exact hl3 (Nat.le_trans (Nat.succ_le_succ (Nat.add_le_add_left bd 1)) (by decide))
   ·show Ch π _ (π.al m) (kpt S) (.leave m) (.leave m :: falls es) k'
    rw [hal]
    exact ch (.leave m) en.symm
end
end Mine
end
noncomputable section
namespace Mine
open PySem
theorem rd_map {H:AH} {α:Type} {f:α→V} {l:List α} (h:∀ a,atom (f a)):rd H (.lst (l.map f)) = some (.lst (l.map f)):=rd_lst (at_map h)
theorem m_lt {a b:Int} (hb:0 < b):0 ≤ a % b∧a % b < b:=⟨Int.emod_nonneg _ (Int.ne_of_gt hb),Int.emod_lt_of_pos _ hb⟩
section
variable {n:Nat} {H:AH} {Q:QE} {X:XE}
theorem lv_num {a b c:Int} (h:0 ≤ a∧a < b) (hc:b ≤ 1000000000 + 1 + c) (hc':c ≤ 1000000000) (h0:0 ≤ c):LV (.tup [.str ['a','d','d'],.int (a - c)]):=.add ⟨by omega,by omega⟩
theorem f13 {z:Int} (q:∀ v,LV v→Q v H):callF PL (n + 1) 13 [.int z] H Q X:=by
 refine cf P_fn13 rfl (ev_ite (ev_p2 (ev_p2 (ev_var rfl) ev_cst (pm_mod (by decide))) ev_cst pm_gt) (fun h=>?_) fun h=>?_)
 ·have h:=of_decide_eq_true h
  have h5:=(m_lt (a:=z) (b:=5) (by decide)).2
  exact ea1_2 (pm_pick (P:=PL) (H:=H) (xs:=[.tup [.str ['f','a','u','l','t']],.tup [.str ['l','e','a','v','e']]]) (i:=z % 5 - 3) (Int.sub_nonneg_of_le h) (Int.sub_lt_sub_right h5 3)) fun v hv e=>ev_ret (ev_p2 (pe_ok rfl) (ev_p2 (ev_p2 (ev_var rfl) ev_cst (pm_mod (by decide))) ev_cst pm_sub) e) (q v (memE hv (fun e=>e ▸ .fault) fun h=>in1 h ▸ .leave))
 ·refine ea1_2 (pm_pick (P:=PL) (H:=H) (xs:=[.int (z / 10 % 9 - 4),.int (z / 10 % 2000000001 - 1000000000)]) (i:=if eqV (.int (z % 5)) (.int 2) then 1 else 0) ?_ ?_) fun v hv e=>ev_asg (ev_p2 (ev_p2 (ev_p2 (ev_p2 (ev_p2 (ev_var rfl) ev_cst (pm_fdiv (by decide) (by decide))) ev_cst (pm_mod (by decide))) ev_cst pm_sub) (ev_p2 (ev_p2 (ev_p2 (ev_var rfl) ev_cst (pm_fdiv (by decide) (by decide))) (pe_ok rfl) (pm_mod (by decide))) (pe_ok rfl) pm_sub) (pm_mkl two_le)) (ev_p1 (ev_p2 (ev_p2 (ev_var rfl) ev_cst (pm_mod (by decide))) ev_cst (pm_eq rd_int rd_int)) pm_intb) e) (lt_b rfl) (ev_ret (ev_p2 ev_cst (ev_var rfl) (pm_mkt two_le)) (q _ (memE hv (fun e=>e ▸ lv_num (m_lt (by decide)) (by decide) (by decide) (by decide)) fun h=>in1 h ▸ lv_num (m_lt (by decide)) (by decide) (by decide) (by decide))))
  ·cases eqV (.int (z % 5)) (.int 2) <;> decide
  ·cases eqV (.int (z % 5)) (.int 2) with
   | true=>exact (by decide:(1:Int) < 2)
   | false=>exact (by decide:(0:Int) < 2)
end
inductive Oc (π:PI) (S:Hst):Bool→Hst→List Evt→V→Prop
 | no {sd:Bool}:Oc π S sd S [] .none
 | sent {S':Hst} {es:List Evt} {i:Int}:Qt S S' es→S'.clock = S.clock→Oc π S true S' es (.int i)
 | hour {S':Hst} {es:List Evt} {vs:List V}:Od π S S' es→Oc π S false S' es (.lst vs)
noncomputable def MP (π:PI) (σ:Ad) (S:Hst) (sd:Bool) (b:Nat) (Q:QE):Prop:=∀ u S' H' es,At π σ S' H'→S'.letters ≤ S.letters + 1→S'.ev.length ≤ S.ev.length + b→S'.ev = S.ev ++ es→Oc π S sd S' es u→Q u H'
noncomputable def fstL:List V→Nm
 | v :: _=>v.txt.getD []
 | _=>[]
noncomputable def sdV (v:V):Bool:=fstL (v.tpl.getD []) == ['s','e','n','d']
inductive Dd (π:PI) (σ:Ad):V→Prop
 | send {m:Nm} {l:V}:π.isW m = some false→LV l→Dd π σ (.tup [.str ['s','e','n','d'],.str m,l])
 | work {m:Nm}:π.isW m = some false→Dd π σ (.tup [.str ['w','o','r','k'],.str m])
 | fail {m:Nm}:m ∈ σ.names→Dd π σ (.tup [.str ['f','a','i','l'],.str m])
section
variable {π:PI} {σ:Ad} {n:Nat} {S:Hst} {H:AH} {Q:QE} {X:XE} {m:Nm}
theorem rt_m1 {P:Prog} {C:Calls} {ρ:Fm} {K:KS} {R:QE} {ss:List St} {nm:Nm} {f:Nat} {a:Ex} {x:V} (h:Hs σ S H) (h0:ρ[0]? = some (some (.ref σ.i))) (hn:hk.contains nm = false) (ha:Ev P C ρ H X a x) (k:C f [.ref σ.i,x] H R X):wpSs P C (.ret (.meth 0 f nm (.var 0) [a]) :: ss) ρ H K R X :=
 ev_var (P:=P) (C:=C) (X:=X) h0 (fun v H₁=>hasMeth H₁ 0 nm v = true∧wpEs P C [a] ρ H₁ (fun vs H'=>C f (v :: vs) H' R X) X) ⟨meth_h h hn,ha _ k⟩
theorem rt_m2 {P:Prog} {C:Calls} {ρ:Fm} {K:KS} {R:QE} {ss:List St} {nm:Nm} {f:Nat} {a b:Ex} {x y:V} (h:Hs σ S H) (h0:ρ[0]? = some (some (.ref σ.i))) (hn:hk.contains nm = false) (ha:Ev P C ρ H X a x) (hb:Ev P C ρ H X b y) (k:C f [.ref σ.i,x,y] H R X):wpSs P C (.ret (.meth 0 f nm (.var 0) [a,b]) :: ss) ρ H K R X :=
 ev_var (P:=P) (C:=C) (X:=X) h0 (fun v H₁=>hasMeth H₁ 0 nm v = true∧wpEs P C [a,b] ρ H₁ (fun vs H'=>C f (v :: vs) H' R X) X) ⟨meth_h h hn,ha _ (hb _ k)⟩
theorem st_try {P:Prog} {C:Calls} {ρ:Fm} {K:KS} {R:QE} {ss body:List St} {cls:Nat} (h:wpSs P C body ρ H (fun ρ' H'=>wpSs P C ss ρ' H' K R X) R (fun c H'=>(P.sub c c && P.sub c cls) = true∧R .none H')):wpSs P C (.try_ body cls :: ss) ρ H K R X:=h
theorem f22 {v:V} (pl:Pl π σ) (A:At π σ S H) (dd:Dd π σ v) (hL:S.letters ≤ 99) (hb:S.ev.length + 7500 ≤ 900000) (q:MP π σ S (sdV v) 7500 Q):callF PL (n + 35) 22 [.ref σ.i,v] H Q X:=by
 have q0:Q .none H:=q .none S H [] A (Nat.le_succ _) (Nat.le_add_right _ _) (List.append_nil _).symm .no
 have hL':=Nat.le_trans hL (by decide:99 ≤ 100)
 cases dd with
 | send hm lv=>exact cf P_fn22 rfl (st_try (ev_yes (pe_ok rfl) (rt_m2 A.hs rfl rfl (pe_ok rfl) (pe_ok rfl) (f40 pl A hm lv hL hb ⟨rfl,q0⟩ ⟨rfl,q0⟩ fun i S' H' es a b c e f g=>q _ S' H' es a b c e (.sent f g)))))
 | work hm=>exact cf P_fn22 rfl (st_try (ev_no (pe_ok rfl) (ev_yes (pe_ok rfl) (rt_m1 A.hs rfl rfl (pe_ok rfl) (f41 pl A hm hL' hb ⟨rfl,q0⟩ ⟨rfl,q0⟩ ⟨rfl,q0⟩ fun vs S' H' es a b c e f=>q _ S' H' es a b c e (.hour f))))))
 | fail hm=>exact cf P_fn22 rfl (st_try (ev_no (pe_ok rfl) (ev_no (pe_ok rfl) (rt_m1 A.hs rfl rfl (pe_ok rfl) (f42 pl A hm hL' hb ⟨rfl,q0⟩ ⟨rfl,q0⟩ fun vs S' H' es a b c e f=>q _ S' H' es a b c e (.hour f))))))
theorem f25 {ws:List Nm} (pl:Pl π σ) (A:At π σ S H) (hL:S.letters ≤ 100) (hw:∀ w ∈ ws,π.isW w = some false) (hl:ws.length ≤ sizeOf') (q:∀ bs:List Nm,(∀ b ∈ bs,b ∈ ws)→Q (.lst (bs.map V.str)) H):callF PL (n + 4) 25 [.ref σ.i,.lst (ws.map V.str)] H Q X :=
 cf P_fn25 rfl (ev_asg (ev_meth0 A.hs rfl rfl fun Q q=>f45 pl A.hs q) (lt_b rfl) (ev_ret (ev_flt (l:=ws) (f:=V.str) (g:=V.str) (ev_var rfl) rfl hl (fun w hw'=>ev_and (ev_p2 (ev_var rfl) (ev_var rfl) (pm_inL rfl fun _=>trivial)) fun _=>ev_p2 (ev_meth1 A.hs rfl rfl (ev_var rfl) fun Q q=>f47 pl A.hs A.iv hL (hw w hw') q) (pe_ok rfl) (pm_ne (rd_map (f:=ni) fun _=>trivial) rd_nil)) fun _ _ _=>ev_var rfl) (q _ fun b hb=>(List.mem_filter.mp hb).1)))
end
end Mine
end
noncomputable section
namespace Mine
open PySem
section
variable {π:PI} {σ:Ad} {n:Nat} {S:Hst} {H:AH} {Q:QE} {X:XE}
theorem pick_str {P:Prog} {l:List Nm} {z:Int} (h:l ≠ []):∃ w,w ∈ l∧primM P false .item [.lst (l.map V.str),.int (z % ((l.map V.str).length:Int))] H = some (.str w,H):=by
 have hp:0 < ((l.map V.str).length:Int):=by
  rw [List.length_map]
  exact Int.ofNat_lt.mpr (List.length_pos_iff.mpr h)
 exact ea1_2 (pm_pick (P:=P) (H:=H) (xs:=l.map V.str) (m_lt (a:=z) hp).1 (m_lt hp).2) fun v hv e=>ea1_2 (List.mem_map.mp hv) fun w hw ew=>⟨w,hw,ew ▸ e⟩
theorem pos_len {l:List Nm} (h:l ≠ []):0 < ((l.map V.str).length:Int):=by
 rw [List.length_map]
 exact Int.ofNat_lt.mpr (List.length_pos_iff.mpr h)
theorem ev_pick {ρ:Fm} {C:Calls} {i j:Nat} {z:Int} {l:List Nm} (hi:ρ[i]? = some (some (.lst (l.map V.str)))) (hj:ρ[j]? = some (some (.int z))) (h:l ≠ []):∃ w,w ∈ l∧Ev PL C ρ H X (.prim false .item [.var i,.prim false (.bop .mod) [.var j,.prim false .len [.var i]]]) (.str w) :=
 (pick_str h).imp fun w q=>⟨q.1,ev_p2 (ev_var hi) (ev_p2 (ev_var hj) (ev_p1 (ev_var hi) pm_lenl) (pm_mod (pos_len h))) q.2⟩
theorem ne_nil {l:List Nm} (h:(!eqV (.lst (l.map V.str)) (.lst [])) = true):l ≠ []:=fun e=>by
 subst e
 exact Bool.false_ne_true h
theorem ev_mod {P:Prog} {ρ:Fm} {C:Calls} {i:Nat} {z b:Int} (hi:ρ[i]? = some (some (.int z))) (hb:0 < b):Ev P C ρ H X (.prim false (.bop .mod) [.var i,.cst (.int b)]) (.int (z % b)):=ev_p2 (ev_var hi) ev_cst (pm_mod hb)
theorem wp_p1 {P:Prog} {ρ:Fm} {C:Calls} {p:Prim} {a:Ex} (k:wpE P C a ρ H (fun u H'=>okE (primM P false p [u] H') Q) X):wpE P C (.prim false p [a]) ρ H Q X:=k
theorem wp_p2 {P:Prog} {ρ:Fm} {C:Calls} {p:Prim} {a b:Ex} (k:wpE P C a ρ H (fun u H'=>wpE P C b ρ H' (fun w H''=>okE (primM P false p [u,w] H'') Q) X) X):wpE P C (.prim false p [a,b]) ρ H Q X:=k
theorem wp_p3 {P:Prog} {ρ:Fm} {C:Calls} {p:Prim} {a b c:Ex} {x y:V} (ha:Ev P C ρ H X a x) (hb:Ev P C ρ H X b y) (k:wpE P C c ρ H (fun u H'=>okE (primM P false p [x,y,u] H') Q) X):wpE P C (.prim false p [a,b,c]) ρ H Q X:=ha _ (hb _ k)
theorem wp_call1 {P:Prog} {ρ:Fm} {C:Calls} {f:Nat} {a:Ex} {x:V} (ha:Ev P C ρ H X a x) (k:C f [x] H Q X):wpE P C (.call f [a]) ρ H Q X:=ha _ k
theorem le3 {a b c:V}:[a,b,c].length ≤ sizeOf':=show 3 ≤ sizeOf' by decide
theorem le1 {a:V}:[a].length ≤ sizeOf':=show 1 ≤ sizeOf' by decide
theorem wp_send {ρ:Fm} {z:Int} {w:V} (h4:ρ[4]? = some (some (.int z))) (h5:ρ[5]? = some (some w)) (k:∀ v,LV v→Q (.tup [.str ['s','e','n','d'],w,v]) H):wpE PL (callF PL (n + 1)) (.prim false .mktup [.cst (.str ['s','e','n','d']),.var 5,(.call 13 [(.prim false (.bop .fdiv) [.var 4,.cst (.int 8)])])]) ρ H Q X :=
 wp_p3 ev_cst (ev_var h5) (wp_call1 (ev_p2 (ev_var h4) ev_cst (pm_fdiv (by decide) (by decide))) (f13 fun v lv=>hE (pm_mkt le3) (k v lv)))
theorem f23r {z:Int} {w:Nm} {ws hs bs:List Nm} {so:Option V} {K:KS} (hw:π.isW w = some false) (hh:∀ m ∈ hs,m ∈ σ.names) (hb:∀ m ∈ bs,π.isW m = some false) (hn:w ∈ σ.names)
  (q:∀ ds:List V,ds.length ≤ 2→(∀ v ∈ ds,Dd π σ v)→Q (.lst ds) H):wpSs PL (callF PL (n + 1)) (fn23.body.drop 4) [some (.int z),some (.lst (ws.map V.str)),some (.lst (hs.map V.str)),some (.lst (bs.map V.str)),some (.int (z / 10)),some (.str w),so] H K Q X:=by
 have q1:∀ {v:V},Dd π σ v→Q (.lst [v]) H:=fun d=>q _ (by decide:1 ≤ 2) (all1 d)
 show wpSs PL _ [_,_,_,_,_] _ _ _ _ _
 refine ev_ite (ev_p2 (ev_mod rfl (by decide)) ev_cst pm_lt) (fun _=>st_ret (wp_p1 (wp_send rfl rfl fun v lv=>hE (pm_mkl le1) (q1 (.send hw lv))))) fun _=>?_
 refine ev_ite (ev_p2 (ev_mod rfl (by decide)) ev_cst pm_lt) (fun _=>st_ret (wp_p2 (wp_send rfl rfl fun v lv=>ev_p2 ev_cst (ev_var rfl) (pm_mkt two_le) _ (hE (pm_mkl two_le) (q _ (Nat.le_refl _) (fm1 (.send hw lv) (all1 (.work hw)))))))) fun _=>?_
 refine ev_ite (ev_and (ev_p2 (ev_mod rfl (by decide)) ev_cst pm_lt) fun _=>ev_p2 (ev_var rfl) (pe_ok rfl) (pm_ne (rd_map fun _=>trivial) rd_nil)) (fun hc=>ea1_2 (ev_pick (i:=3) (j:=4) (z:=z / 10) rfl rfl (ne_nil (Bool.and_eq_true_iff.mp hc).2)) fun b hb0 eb=>ev_ret (ev_p1 (ev_p2 ev_cst eb (pm_mkt two_le)) (pm_mkl le1)) (q1 (.work (hb b hb0)))) fun _=>?_
 refine ev_ite (ev_and (ev_p2 (ev_mod rfl (by decide)) ev_cst (pm_eq rd_int rd_int)) fun _=>ev_p2 (ev_var rfl) (pe_ok rfl) (pm_ne (rd_map fun _=>trivial) rd_nil)) (fun hc=>ea1_2 (ev_pick (i:=2) (j:=4) (z:=z / 10) rfl rfl (ne_nil (Bool.and_eq_true_iff.mp hc).2)) fun b hb0 eb=>ev_ret (ev_p1 (ev_p2 ev_cst eb (pm_mkt two_le)) (pm_mkl le1)) (q1 (.fail (hh b hb0)))) fun _=>?_
 refine st_ret (wp_p2 (wp_p3 (pe_ok rfl) (pe_ok rfl) (wp_p1 (wp_send rfl rfl fun v lv=>hE (pm_mkl le1) (hE (pm_mkl le3) ((ev_p2 (ev_p2 (ev_var rfl) ev_cst (pm_fdiv (by decide) (by decide))) ev_cst (pm_mod (by decide))) _ ?_))))))
 exact ea1_2 (pm_pick (P:=PL) (H:=H) (xs:=[.lst [.tup [.str ['w','o','r','k'],.str w]],.lst [.tup [.str ['f','a','i','l'],.str w]],.lst [.tup [.str ['s','e','n','d'],.str w,v]]]) (m_lt (a:=z / 10 / 5) (b:=3) (by decide)).1 (m_lt (by decide)).2) fun x hx e=>hE e (memE hx (fun e=>e ▸ q1 (.work hw)) fun hx=>memE hx (fun e=>e ▸ q1 (.fail hn)) fun hx=>in1 hx ▸ q1 (.send hw lv))
theorem f23 {z:Int} {ws hs bs:List Nm} (hw:∀ w ∈ ws,π.isW w = some false) (hws:ws ≠ []) (hwl:ws.length ≤ sizeOf') (hh:∀ m ∈ hs,m ∈ σ.names) (hb:∀ m ∈ bs,m ∈ ws) (hn:∀ m,π.isW m = some false→m ∈ σ.names)
  (q:∀ ds:List V,ds.length ≤ 2→(∀ v ∈ ds,Dd π σ v)→Q (.lst ds) H):callF PL (n + 2) 23 [.int z,.lst (ws.map V.str),.lst (hs.map V.str),.lst (bs.map V.str)] H Q X:=by
 refine cf P_fn23 rfl (ev_asg (ev_p2 (ev_var rfl) ev_cst (pm_fdiv (by decide) (by decide))) (lt_b rfl) (ea1_2 (ev_pick (i:=1) (j:=4) (z:=z / 10) rfl rfl hws) fun w hw0 ew=>ev_asg ew (lt_b rfl) (ev_asg (ev_flt (l:=ws) (f:=V.str) (g:=V.str) (ev_var rfl) rfl hwl (fun _ _=>ev_p2 (ev_var rfl) (ev_var rfl) (pm_inL rfl fun _=>trivial)) fun _ _ _=>ev_var rfl) (lt_b rfl) ?_)))
 refine ev_ite (ev_and (ev_p2 (ev_var rfl) (pe_ok rfl) (pm_ne (rd_map fun _=>trivial) rd_nil)) fun _=>ev_p2 (ev_mod rfl (by decide)) ev_cst pm_lt) (fun hc=>ea1_2 (ev_pick (i:=6) (j:=4) (z:=z / 10) rfl rfl (ne_nil (Bool.and_eq_true_iff.mp hc).1)) fun w hw1 ew=>have hw1:=(List.mem_filter.mp hw1).1; ev_asg ew (lt_b rfl) (f23r (hw w hw1) hh (fun m hm=>hw m (hb m hm)) (hn w (hw w hw1)) q)) fun _=>f23r (hw w hw0) hh (fun m hm=>hw m (hb m hm)) (hn w (hw w hw0)) q
end
end Mine
end
noncomputable section
namespace Mine
open PySem
section
variable {H:AH} {Q:QE} {X:XE}
theorem wp_call2 {P:Prog} {ρ:Fm} {C:Calls} {f:Nat} {a b:Ex} {x y:V} (ha:Ev P C ρ H X a x) (hb:Ev P C ρ H X b y) (k:C f [x,y] H Q X):wpE P C (.call f [a,b]) ρ H Q X:=ha _ (hb _ k)
theorem wp_call4 {P:Prog} {ρ:Fm} {C:Calls} {f:Nat} {a b c d:Ex} {x y z:V} (ha:Ev P C ρ H X a x) (hb:Ev P C ρ H X b y) (hc:Ev P C ρ H X c z) (k:wpE P C d ρ H (fun u H'=>C f [x,y,z,u] H' Q X) X):wpE P C (.call f [a,b,c,d]) ρ H Q X:=ha _ (hb _ (hc _ k))
theorem slice_map {α β:Type} {f:α→β} {l:List α} {a b:Nat}:sliceL (l.map f) a b = (sliceL l a b).map f:=by
 unfold sliceL
 rw [← List.map_take,← List.map_drop]
end
section
variable {π:PI} {n:Nat} {H:AH} {Q:QE} {X:XE}
theorem f11 {i:Int} (q:Q (.bool true) H):callF PL (n + 1) 11 [.int i] H Q X:=cf P_fn11 rfl (ev_ret (pe_ok rfl) q)
theorem f20 {es:List Evt} (hl:es.length ≤ sizeOf') (hn:∀ e ∈ es,e.ok π) (q:Q (.bool true) H):callF PL (n + 2) 20 [.lst (es.map Evt.v)] H Q X:=by
 refine cf P_fn20 rfl (ev_no (pe_ok rfl) (ev_forM (fun its ρ H'=>H' = H∧(∃ o,ρ = [some (.lst (es.map Evt.v)),o])∧∀ e ∈ its,e.ok π) (f:=Evt.v) (l:=es) (ev_var rfl) (fun _ _ _ _=>rfl) hl ⟨rfl,⟨none,rfl⟩,hn⟩ (fun e es' ρ' H' hI K' hK=>ea0_3 hI fun eH eo ho=>eo.elim fun o eo=>?_) fun ρ' H' hI=>ev_ret ev_cst (hI.1 ▸ q)))
 subst eo
 subst eH
 have k:∀ ρ',(∃ o,ρ' = [some (.lst (es.map Evt.v)),o])→K' ρ' H':=fun ρ' z=>hK ρ' H' ⟨rfl,z,fun e he=>ho e (.tail _ he)⟩
 have p:=ho e (.head _)
 cases e with
 | beg _ | end_ _ | fail _ | leave _=>exact ev_no (pe_ok rfl) (ev_no (pe_ok rfl) (ev_no (pe_ok rfl) (k _ ⟨_,rfl⟩)))
 | works _ _ | lost _ _=>exact ev_no (pe_ok rfl) (ev_no (ev_and (s:=true) (t:=false) (pe_ok rfl) fun _=>ev_not (s:=true) (ev_call1 (pe_ok rfl) fun Q q=>f11 q)) (ev_no (pe_ok rfl) (k _ ⟨_,rfl⟩)))
 | sent _ _ l =>
  have p:=p.2
  cases p with
  | add _ | fault | leave=>exact ev_no (pe_ok rfl) (ev_no (ev_and (s:=true) (t:=false) (pe_ok rfl) fun _=>ev_not (s:=true) (ev_call1 (pe_ok rfl) fun Q q=>f11 q)) (ev_no (pe_ok rfl) (k _ ⟨_,rfl⟩)))
end
section
variable {P:Prog} {C:Calls} {ρ:Fm} {H:AH} {K:KS} {R:QE} {X:XE} {ss:List St} {e a b:Ex} {x y:V} {n:Nm}
theorem st_set1 {i j:Nat} {H':AH} (hi:ρ[i]? = some (some (.ref j))) (he:Ev P C ρ H X e (.str n)) (eq:setItemV (.ref j) (.str n) x H = some H') (k:wpSs P C ss ρ H' K R X):wpSs P C (.setItem (.var i) e (.cst x) :: ss) ρ H K R X:=st_setI (ev_cst (P:=P) (C:=C) (X:=X) _ (ev_var (P:=P) (C:=C) (X:=X) hi _ (he _ (by rw [eq]; exact k))))
end
section
variable {H:AH} {n:Nm}
theorem rd_lref {i:Nat} {l:List Nat} (h:H[i]? = some (.list (l.map ni))):rd H (.ref i) = some (.lst (l.map ni)):=by
 have q:=datas_atoms (at_map (f:=ni) (l:=l) fun _=>trivial)
 show (H[i]?.bind O.lst).bind _ = _
 rw [h]
 exact if_pos (okD_of q.1 (Nat.le_trans (Nat.le_of_eq q.2) (by decide)))
theorem aput_new {α:Type} {x:α} {l:AL α} (h:∀ p ∈ l,p.1 ≠ n):aput n x l = l ++ [(n,x)]:=by
 induction l with
 | nil=>rfl
 | cons q l ih =>
  show (if n = q.1 then (q.1,x) :: l else q :: aput n x l) = _
  rw [if_neg (h q (.head _)).symm,ih fun p hp=>h p (.tail _ hp)]; rfl
end
theorem it_ev {P:Prog} {H:AH} {e:Evt}:primM P false .item [e.v,.int 1] H = some (.str e.nm,H):=by
 cases e <;> rfl
section
variable {P:Prog} {C:Calls} {ρ:Fm} {H:AH} {Q:QE} {X:XE} {a b c:Ex} {x y z:V}
theorem wp_pm1 {p:Prim} (k:wpE P C a ρ H (fun u H'=>okE (primM P true p [u] H') Q) X):wpE P C (.prim true p [a]) ρ H Q X:=k
end
end Mine
end
noncomputable section
namespace Mine
open PySem
theorem pts_nms {k:Nat}:∀ {v:V},(pts k v).map nameOf = nms k v:=by
 induction k with
 | zero=>exact rfl
 | succ k ih =>
  intro v
  show nameOf v :: ((kids v).flatMap (pts k)).map nameOf = nameOf v :: (kids v).flatMap (nms k)
  rw [List.map_flatMap]
  exact congrArg (nameOf v :: ·) (congrArg (fun f=>List.flatMap f (kids v)) (funext fun _=>ih))
theorem wp_mc {P:Prog} {C:Calls} {ρ:Fm} {H:AH} {R:QE} {X:XE} {a b:Ex} {x:V} {t:Mt} {mu:Bool} {p:Prim} (ho:Ev P C ρ H X a x) (ht:hasTy H x t = true) (k:wpE P C b ρ H (fun y H'=>okE (primM P mu p [x,y] H') R) X):wpE P C (.mcall t mu p a [b]) ρ H R X:=ho _ ⟨ht,k⟩
section
variable {π:PI} {n:Nat} {H:AH} {Q:QE} {X:XE}
theorem pm_extend {P:Prog} {i j:Nat} {vs ws:List V} (h:H[i]? = some (.list vs)) (h':H[j]? = some (.list ws)) (hl:vs.length + ws.length ≤ sizeOf'):primM P false .extend [.ref i,.ref j] H = some (.none,H.set i (.list (vs ++ ws))):=by
 show ((H[i]?.bind O.lst).bind fun vs=>some (i,vs)).bind _ = _
 rw [h]
 show (H[j]?.bind O.lst).bind _ = _
 rw [h']
 exact if_pos hl
noncomputable def Kp (H H':AH):Prop:=H.length ≤ H'.length∧∀ a,a < H.length→H'[a]? = H[a]?
theorem Kp.refl:Kp H H:=⟨Nat.le_refl _,fun _ _=>rfl⟩
theorem Kp.trans {H₁ H₂:AH} (a:Kp H H₁) (b:Kp H₁ H₂):Kp H H₂:=⟨Nat.le_trans a.1 b.1,fun i h=>(b.2 i (Nat.lt_of_lt_of_le h a.1)).trans (a.2 i h)⟩
theorem Kp.new {o:O}:Kp H (H ++ [o]):=⟨le_app,fun _ h=>List.getElem?_append_left h⟩
theorem Kp.set {H₁:AH} {r:Nat} {o:O} (a:Kp H H₁) (h:H.length ≤ r):Kp H (H₁.set r o):=⟨Nat.le_trans a.1 (Nat.le_of_eq List.length_set.symm),fun i hi=>(List.getElem?_set_ne (Nat.ne_of_gt (Nat.lt_of_lt_of_le hi h))).trans (a.2 i hi)⟩
theorem f7 {k:Nat} {v:V} (hP:Pt π k v):∀ {n:Nat} {H:AH} {Q:QE} {X:XE},(pts k v).length ≤ 60→(∀ r H',Kp H H'→H.length ≤ r→H'[r]? = some (.list (pts k v))→Q (.ref r) H')→callF PL (n + k) 7 [v] H Q X:=by
 induction hP with
 | @wk k nm md=>exact fun {n H Q X} _ q=>cf P_fn7 rfl (st_asg (wp_pm1 (ev_var rfl _ (hE (pM_mkl le1) ⟨lt_b rfl,ev_no (pe_ok rfl) (ev_ret (ev_var rfl) (q _ _ Kp.new (Nat.le_refl _) new_at))⟩))))
 | @wd k nm rl m s ps _ _ _ _ h5 _ _ _ ih =>
  intro n H Q X hl q
  refine cf P_fn7 rfl (st_asg (wp_pm1 (ev_var rfl _ (hE (pM_mkl le1) ⟨lt_b rfl,ev_yes (pe_ok rfl) ?_⟩))))
  refine ev_for (fun its ρ H'=>∃ o dn,ρ = [some (wdV nm rl m s ps),some (.ref H.length),o]∧dn ++ its = ps∧Kp H H'∧H'[H.length]? = some (.list (wdV nm rl m s ps :: dn.flatMap (pts k)))) (v:=.tup ps) (items:=ps) (pe_ok rfl) (fun _ _ _ _=>rfl) (Nat.le_trans h5.2 (by decide)) ⟨none,[],rfl,rfl,Kp.new,new_at⟩ (fun x xs ρ' H' hI K' hK=>ea2_4 hI fun o dn e ed kp hg=>?_) fun ρ' H' hI=>ea2_4 hI fun o dn e ed kp hg=>?_
  ·subst e
   have hm:x ∈ ps:=ed ▸ List.mem_append_right dn (.head _)
   have e2:(dn ++ [x]).flatMap (pts k) = dn.flatMap (pts k) ++ pts k x:=by rw [List.flatMap_append,List.flatMap_cons,List.flatMap_nil,List.append_nil]
   have e3:(wdV nm rl m s ps :: dn.flatMap (pts k)).length + (pts k x).length ≤ 60:=by
    refine Nat.le_trans ?_ hl
    show _ ≤ (ps.flatMap (pts k)).length + 1
    rw [← ed,List.flatMap_append,List.flatMap_cons,List.length_append,List.length_append,List.length_cons,Nat.add_right_comm]
    exact Nat.succ_le_succ (Nat.add_le_add_left (Nat.le_add_right _ _) _)
   have hr:H.length < H'.length:=(List.getElem?_eq_some_iff.mp hg).1
   refine st_expr (wp_mc (ev_var rfl) (ty_list hg) (wp_call1 (ev_var rfl) (ih x hm (Nat.le_trans (Nat.le_add_left _ _) e3) fun r H'' kp' hr' hg'=>hE (pm_extend ((kp'.2 _ hr).trans hg) hg' (Nat.le_trans e3 (by decide))) (hK _ _ ⟨_,dn ++ [x],rfl,(List.append_assoc dn [x] xs).trans ed,(kp.trans kp').set (Nat.le_refl _),?_⟩))))
   rw [List.getElem?_set_self (Nat.lt_of_lt_of_le hr kp'.1),e2]; rfl
  ·subst e
   exact ev_ret (ev_var rfl) (q _ _ kp (Nat.le_refl _) ((List.append_nil dn).symm.trans ed ▸ hg))
end
end Mine
end
noncomputable section
namespace Mine
open PySem
theorem ev_while {P:Prog} {C:Calls} {ρ:Fm} {H:AH} {K:KS} {R:QE} {X:XE} {ss body:List St} {c:Ex} {N:Nat} (Inv:Nat→Fm→AH→Prop)
  (step:∀ N ρ' H',Inv N ρ' H'→∃ t,Ev P C ρ' H' (fun _ _=>False) c (.bool t)∧(t = true→∀ K':KS,(∀ ρ'' H'' N',N' < N→Inv N' ρ'' H''→K' ρ'' H'')→wpSs P C body ρ' H' K' R (fun _ _=>False))∧(t = false→wpSs P C ss ρ' H' K R X))
  (h0:Inv N ρ H):wpSs P C (.while_ c body :: ss) ρ H K R X:=by
 refine st_while (N + 1) ?_
 have g:∀ M N ρ H,N < M→Inv N ρ H→whileL (fun ρ' H' K₁ K₂=>wpE P C c ρ' H' (fun v H''=>okB (truth v) fun t=>if t then wpSs P C body ρ' H'' K₁ R (fun _ _=>False) else K₂ ρ' H'') (fun _ _=>False)) M ρ H (fun ρ' H'=>wpSs P C ss ρ' H' K R X):=by
  intro M
  induction M with
  | zero=>exact fun N _ _ h=>absurd h (Nat.not_lt_zero N)
  | succ M ih =>
   intro N ρ H hN hI
   refine ea1_3 (step N ρ H hI) fun t ht yes no=>ht _ ?_
   cases t with
   | true=>exact yes rfl _ fun ρ'' H'' N' hn hI'=>ih N' ρ'' H'' (Nat.lt_of_lt_of_le hn (Nat.le_of_lt_succ hN)) hI'
   | false=>exact no rfl
 exact g _ _ _ _ (Nat.lt_succ_self N) h0
section
variable {π:PI} {n:Nat} {H:AH} {Q:QE} {X:XE}
theorem in3 {P:Prog} {md:Nm} (h:md ∈ rules3):primM P false (.cop .in_) [.str md,.tup [.str ['a','l','w','a','y','s'],.str ['f','a','u','l','t','e','d'],.str ['n','e','v','e','r']]] H = some (.bool true,H) :=
 memE h (fun e=>by subst e; rfl) fun h=>memE h (fun e=>by subst e; rfl) fun h=>by rw [in1 h]; rfl
theorem notin3 {P:Prog} {rl:Nm} (h:rl ∈ rulesW):primM P false (.cop .notin) [.str rl,.tup [.str ['o','n','e'],.str ['r','e','s','t'],.str ['a','l','l']]] H = some (.bool false,H) :=
 memE h (fun e=>by subst e; rfl) fun h=>memE h (fun e=>by subst e; rfl) fun h=>by rw [in1 h]; rfl
theorem f4w {nm md:Nm} (h1:nmOk nm) (h2:md ∈ rules3) (q:Q (.bool true) H):callF PL (n + 2) 4 [wkV nm md] H Q X :=
 cf P_fn4 rfl (ev_no (pe_ok rfl) (ev_ret (ev_and (s:=true) (t:=true) (ev_call1 (pe_ok rfl) fun Q q=>f2 h1 q) fun _=>ev_p2 (pe_ok rfl) (pe_ok rfl) (in3 h2)) q))
theorem f4d {nm rl:Nm} {m s:Int} {ps:List V} (q:Q (.bool false) H):callF PL (n + 2) 4 [wdV nm rl m s ps] H Q X:=cf P_fn4 rfl (ev_yes (pe_ok rfl) (ev_ret ev_cst q))
theorem f5w {nm md:Nm} (q:Q (.bool false) H):callF PL (n + 2) 5 [wkV nm md] H Q X:=cf P_fn5 rfl (ev_yes (pe_ok rfl) (ev_ret ev_cst q))
theorem f5d {nm rl:Nm} {m s:Int} {ps:List V} (h1:nmOk nm) (h2:rl ∈ rulesW) (h3:0 ≤ m∧m ≤ 1000000000) (h4:1 ≤ s∧s ≤ 1000000000) (h5:1 ≤ ps.length∧ps.length ≤ 8) (q:Q (.bool true) H):callF PL (n + 2) 5 [wdV nm rl m s ps] H Q X :=
 cf P_fn5 rfl (ev_no (pe_ok rfl) (ev_no (ev_or (s:=false) (t:=false) (ev_not (s:=true) (ev_call1 (pe_ok rfl) fun Q q=>f2 h1 q)) fun _=>ev_p2 (pe_ok rfl) (pe_ok rfl) (notin3 h2)) (ev_no (ev_or (s:=false) (t:=false) (ev_not (s:=true) (ev_call3 (pe_ok rfl) ev_cst ev_cst fun Q q=>f1 h3 q)) fun _=>ev_not (s:=true) (ev_call3 (pe_ok rfl) ev_cst ev_cst fun Q q=>f1 h4 q)) (ev_ret (ev_and (s:=true) (t:=true) (pe_ok rfl) fun _=>ev_eq (ev_in (i:=1) (j:=ps.length) (k:=8) ev_cst (pe_ok rfl) ev_cst) (by
  rw [decide_eq_true (show (1:Int) ≤ ps.length from Int.ofNat_le.mpr h5.1),decide_eq_true (show (ps.length:Int) ≤ 8 from Int.ofNat_le.mpr h5.2)]; rfl)) q))))
noncomputable def wdB (v:V):Bool:=!(kids v).isEmpty
theorem f4_5 {k:Nat} {v:V} (hP:Pt π k v):(∀ {n:Nat} {H:AH} {Q:QE} {X:XE},Q (.bool !(wdB v)) H→callF PL (n + 2) 4 [v] H Q X)∧∀ {n:Nat} {H:AH} {Q:QE} {X:XE},Q (.bool (wdB v)) H→callF PL (n + 2) 5 [v] H Q X:=by
 induction hP with
 | wk h1 h2=>exact ⟨fun q=>f4w h1 h2 q,fun q=>f5w q⟩
 | @wd _ _ _ _ _ ps h1 h2 h3 h4 h5 =>
  cases ps with
  | nil=>exact absurd h5.1 (Nat.not_succ_le_zero 0)
  | cons p ps=>exact ⟨fun q=>f4d q,fun q=>f5d h1 h2 h3 h4 h5 q⟩
end
end Mine
end
noncomputable section
namespace Mine
open PySem
abbrev Td:=Nat × Nat × V
noncomputable def tdV (x:Td):V:=.tup [x.2.2,.int x.2.1]
abbrev tdN (x:Td):List Nm:=nms x.1 x.2.2
section
variable {π:PI} {n:Nat} {H:AH} {Q:QE} {X:XE}
theorem pt_pos {k:Nat} {v:V} (hP:Pt π k v):1 ≤ k:=by
 induction hP with
 | wk=>exact Nat.succ_le_succ (Nat.zero_le _)
 | wd=>exact Nat.succ_le_succ (Nat.zero_le _)
theorem pt_kid {k:Nat} {v:V} (hP:Pt π k v):∀ p ∈ kids v,Pt π (k - 1) p:=by
 induction hP with
 | wk=>exact fm0
 | wd _ _ _ _ _ _ _ h8=>exact h8
theorem it_5 {P:Prog} {k:Nat} {v:V} (hP:Pt π k v) (h:wdB v = true):primM P false .item [v,.int 5] H = some (.tup (kids v),H):=by
 induction hP with
 | wk=>exact absurd h Bool.false_ne_true
 | wd=>exact rfl
theorem len_kid {k:Nat} {v:V} (hP:Pt π k v):(kids v).length ≤ 8:=by
 induction hP with
 | wk=>exact Nat.zero_le _
 | wd _ _ _ _ h5=>exact h5.2
theorem pm_lend {P:Prog} {i:Nat} {ks:List Nm} {vs:List V} (h:H[i]? = some (.dict ks vs)):primM P false .len [.ref i] H = some (.int ks.length,H):=by
 show (lenO _ (H[i]?.bind O.lst)).map _ = _
 rw [h]
 show ((H[i]?.bind O.dct).map _).map _ = _
 rw [h]; rfl
theorem pm_extendL {P:Prog} {i:Nat} {vs ws:List V} (h:H[i]? = some (.list vs)) (hl:vs.length + ws.length ≤ sizeOf'):primM P false .extend [.ref i,.lst ws] H = some (.none,H.set i (.list (vs ++ ws))):=by
 show ((H[i]?.bind O.lst).bind fun vs=>some (i,vs)).bind _ = _
 rw [h]
 exact if_pos hl
theorem wp_mc0 {P:Prog} {C:Calls} {ρ:Fm} {a:Ex} {x:V} {t:Mt} {mu:Bool} {p:Prim} (ho:Ev P C ρ H X a x) (ht:hasTy H x t = true) (k:okE (primM P mu p [x] H) Q):wpE P C (.mcall t mu p a []) ρ H Q X:=ho _ ⟨ht,k⟩
theorem wp_dct0 {P:Prog} {C:Calls} {ρ:Fm} (q:Q (.ref H.length) (H ++ [.dict [] []])):wpE P C (.prim true (.mkdict []) []) ρ H Q X:=show okE (primM P true (.mkdict []) [] H) Q from hE rfl q
noncomputable def IP (π:PI) (v:V) (H:AH) (N:Nat) (ρ:Fm) (H':AH):Prop :=
 ∃ (td:List Td) (dn:AL Unit) (o3 o4:Option V),ρ = [some v,some (.ref H.length),some (.ref (H.length + 1)),o3,o4]∧(Kp H H'∧H'.length = H.length + 2)∧H'[H.length]? = some (.list (td.map tdV))∧H'[H.length + 1]? = some (dO (fun _=>.bool true) dn)∧(dn.map (·.1) ++ td.flatMap tdN).Nodup∧((dn.map (·.1) ++ td.flatMap tdN).length ≤ 60∧(td.flatMap tdN).length = N)∧∀ x ∈ td,Pt π x.1 x.2.2∧x.1 + x.2.1 ≤ 7
theorem len_td {td:List Td} (h:∀ x ∈ td,Pt π x.1 x.2.2∧x.1 + x.2.1 ≤ 7):td.length ≤ (td.flatMap tdN).length:=by
 induction td with
 | nil=>exact Nat.le_refl _
 | cons x td ih =>
  rw [List.flatMap_cons,List.length_append,List.length_cons,Nat.add_comm]
  refine Nat.add_le_add ?_ (ih fun y hy=>h y (.tail _ hy))
  rw [show tdN x = _ from nms_cons (h x (.head _)).1]
  exact Nat.succ_le_succ (Nat.zero_le _)
theorem kp_two {H H':AH} (k:Kp H H') (h:H'.length = H.length + 2):∃ o₁ o₂,H' = H ++ [o₁,o₂]:=by
 have e:H' = H ++ H'.drop H.length:=by
  refine List.ext_getElem? fun a=>?_
  by_cases ha:a < H.length
  ·rw [List.getElem?_append_left ha]; exact k.2 a ha
  ·rw [List.getElem?_append_right (Nat.le_of_not_lt ha),List.getElem?_drop,Nat.add_sub_cancel' (Nat.le_of_not_lt ha)]
 have l:(H'.drop H.length).length = 2:=by rw [List.length_drop,h,Nat.add_sub_cancel_left]
 cases hD:H'.drop H.length with
 | nil=>rw [hD] at l; exact absurd l (by decide)
 | cons o₁ D =>
  rw [hD] at l e
  cases D with
  | nil=>exact absurd l (by decide:¬ 1 = 2)
  | cons o₂ D=>exact ⟨o₁,o₂,e.trans (congrArg (fun t=>H ++ o₁ :: o₂ :: t) (List.length_eq_zero_iff.mp (Nat.succ.inj (Nat.succ.inj l))))⟩
theorem f6 {k:Nat} {v:V} (hP:Pt π k v) (hk:k ≤ 7) (hw:wdB v = true) (nd:(nms k v).Nodup) (hl:(nms k v).length ≤ 60) (q:∀ o₁ o₂,Q (.bool true) (H ++ [o₁,o₂])):callF PL (n + 3) 6 [v] H Q X:=by
 have e0:[(k,0,v)].flatMap tdN = nms k v:=List.append_nil _
 refine cf P_fn6 rfl (ev_no (ev_not (s:=true) (ev_call1 (ev_var rfl) fun Q q=>(f4_5 hP).2 (by rw [hw]; exact q))) (st_asg (wp_pm1 (ev_p2 (ev_var rfl) ev_cst (pm_mkt two_le) _ (hE (pM_mkl le1) ⟨lt_b rfl,st_asg (wp_dct0 ⟨lt_b rfl,?_⟩)⟩)))))
 have l1:(H ++ [O.list [V.tup [v,.int 0]]]).length = H.length + 1:=List.length_append
 rw [l1]
 refine ev_while (IP π v H) (N:=(nms k v).length) (fun N ρ' H' hI=>ea4_7 hI fun td dn o3 o4 e kp ht hd hn hN hx=>?_) ⟨[(k,0,v)],[],none,none,rfl,⟨Kp.new.trans Kp.new,by rw [List.length_append,l1]; rfl⟩,app_get new_at,l1 ▸ new_at,e0.symm ▸ nd,⟨e0.symm ▸ hl,congrArg List.length e0⟩,all1 ⟨hP,hk⟩⟩
 subst e
 refine ⟨_,ev_p2 (ev_p1 (ev_var rfl) (pm_lenr ht)) ev_cst pm_gt,fun hc K' hK=>?_,fun _=>ev_ret ev_cst (ea2_1 (kp_two kp.1 kp.2) fun o₁ o₂ e=>e ▸ q o₁ o₂)⟩
 have hc:=of_decide_eq_true hc
 rcases List.eq_nil_or_concat td with e | ⟨ini,x,e⟩
 ·subst e; exact absurd hc (by decide)
 have e:td = ini ++ [x]:=e.trans (List.concat_eq_append ..)
 subst e
 have hP:=hx x (List.mem_append_right _ (.head _))
 have f1:(ini ++ [x]).flatMap tdN = ini.flatMap tdN ++ (nameOf x.2.2 :: (kids x.2.2).flatMap (nms (x.1 - 1))):=by rw [List.flatMap_append,List.flatMap_cons,List.flatMap_nil,List.append_nil,show tdN x = _ from nms_cons hP.1]
 have f2:((kids x.2.2).map fun c=>((x.1 - 1,x.2.1 + 1,c):Td)).flatMap tdN = (kids x.2.2).flatMap (nms (x.1 - 1)):=List.flatMap_map ..
 have f3:∀ td',td' = (kids x.2.2).map (fun c=>((x.1 - 1,x.2.1 + 1,c):Td))→((dn ++ [(nameOf x.2.2,())]).map (·.1) ++ (ini ++ td').flatMap tdN).Perm (dn.map (·.1) ++ (ini ++ [x]).flatMap tdN):=fun td' e=>by
  rw [e,f1,List.flatMap_append,f2,List.map_append,List.append_assoc]
  exact List.Perm.append_left _ (show (nameOf x.2.2 :: (ini.flatMap tdN ++ (kids x.2.2).flatMap (nms (x.1 - 1)))).Perm _ from List.perm_middle.symm)
 rw [List.map_append] at ht
 have hlt:H.length < H'.length:=(List.getElem?_eq_some_iff.mp ht).1
 have hlt':H.length + 1 < H'.length:=(List.getElem?_eq_some_iff.mp hd).1
 have h60:(ini.map tdV).length + 1 ≤ 60:=by
  have:=Nat.le_trans (len_td hx) (Nat.le_trans (Nat.le_add_left _ _) (Nat.le_trans (Nat.le_of_eq List.length_append.symm) hN.1))
  rw [List.length_append] at this
  rw [List.length_map]; exact this
 have hin:nameOf x.2.2 ∉ dn.map (·.1):=fun z=>(List.nodup_append.mp hn).2.2 _ z (nameOf x.2.2) (f1 ▸ List.mem_append_right _ (.head _)) rfl
 have hdl:dn.length + 1 ≤ 60:=by
  have:=hN.1
  rw [f1,List.length_append,List.length_append,List.length_map,List.length_cons] at this
  exact Nat.le_trans (Nat.add_le_add_left (Nat.le_trans (Nat.succ_le_succ (Nat.zero_le _)) (Nat.le_add_left _ _)) _) this
 have ha:x.2.1 ≤ 6:=Nat.le_of_succ_le_succ (Nat.le_trans (Nat.le_of_eq (Nat.add_comm x.2.1 1)) (Nat.le_trans (Nat.add_le_add_right (pt_pos hP.1) _) hP.2))
 have fin:∀ H3,(Kp H H3∧H3.length = H.length + 2)→H3[H.length]? = some (.list (ini.map tdV ++ (kids x.2.2).map fun c=>tdV (x.1 - 1,x.2.1 + 1,c)))→H3[H.length + 1]? = some (dO (fun _=>.bool true) (dn ++ [(nameOf x.2.2,())]))→K' [some v,some (.ref H.length),some (.ref (H.length + 1)),some x.2.2,some (.int x.2.1)] H3:=fun H3 k3 t3 d3=>by
  refine hK _ H3 _ ?_ ⟨ini ++ (kids x.2.2).map (fun c=>((x.1 - 1,x.2.1 + 1,c):Td)),dn ++ [(nameOf x.2.2,())],_,_,rfl,k3,?_,d3,(f3 _ rfl).nodup_iff.mpr hn,⟨(f3 _ rfl).length_eq ▸ hN.1,rfl⟩,app_all (fun y hy=>hx y (List.mem_append_left _ hy)) fun y hy=>ea1_2 (List.mem_map.mp hy) fun c hc e=>e ▸ ⟨pt_kid hP.1 c hc,?_⟩⟩
  ·rw [← hN.2,f1,List.flatMap_append,f2,List.length_append,List.length_append]
   exact Nat.lt_succ_self _
  ·rw [t3,List.map_append,List.map_map]; rfl
  ·have:=hP.2
   have:=pt_pos hP.1
   show x.1 - 1 + (x.2.1 + 1) ≤ 7
   omega
 have ht1:(H'.set H.length (.list (ini.map tdV)))[H.length]? = some (.list (ini.map tdV)):=List.getElem?_set_self hlt
 have hd1:(H'.set H.length (.list (ini.map tdV)))[H.length + 1]? = some (dO (fun _=>.bool true) dn):=(List.getElem?_set_ne (Nat.ne_of_lt (Nat.lt_succ_self _))).trans hd
 have e2:=set_al (n:=nameOf x.2.2) (x:=()) (val:=fun _=>V.bool true) hd1 (Nat.le_trans (Nat.le_succ _) (Nat.le_trans hdl (by decide)))
 rw [aput_new fun p hp z=>hin (List.mem_map.mpr ⟨p,hp,z⟩)] at e2
 have ht2:((H'.set H.length (.list (ini.map tdV))).set (H.length + 1) (dO (fun _=>.bool true) (dn ++ [(nameOf x.2.2,())])))[H.length]? = some (.list (ini.map tdV)):=(List.getElem?_set_ne (Nat.ne_of_gt (Nat.lt_succ_self _))).trans ht1
 have hd2:((H'.set H.length (.list (ini.map tdV))).set (H.length + 1) (dO (fun _=>.bool true) (dn ++ [(nameOf x.2.2,())])))[H.length + 1]? = some (dO (fun _=>.bool true) (dn ++ [(nameOf x.2.2,())])):=List.getElem?_set_self (List.length_set.symm ▸ hlt')
 have k2:Kp H ((H'.set H.length (.list (ini.map tdV))).set (H.length + 1) (dO (fun _=>.bool true) (dn ++ [(nameOf x.2.2,())]))):=(kp.1.set (Nat.le_refl _)).set (Nat.le_succ _)
 have l2:((H'.set H.length (.list (ini.map tdV))).set (H.length + 1) (dO (fun _=>.bool true) (dn ++ [(nameOf x.2.2,())]))).length = H.length + 2:=List.length_set.trans (List.length_set.trans kp.2)
 refine st_asgT (wp_mc0 (ev_var rfl) (ty_list ht) (hE (pm_pop ht (Nat.le_trans h60 (by decide))) (show wpSs PL (callF PL (n + 2)) [_,_,_,_] [some v,some (.ref H.length),some (.ref (H.length + 1)),some x.2.2,some (.int x.2.1)] _ _ Q _ from ?_)))
 refine ev_no (ev_or (s:=false) (t:=false) (ev_eq (ev_p2 (ev_var rfl) ev_cst pm_gt) (congrArg V.bool (decide_eq_false (Int.not_lt.mpr (Int.ofNat_le.mpr ha))))) fun _=>ev_eq (ev_and (ev_not (ev_call1 (ev_var rfl) fun Q q=>(f4_5 hP.1).1 q)) fun _=>ev_not (ev_call1 (ev_var rfl) fun Q q=>(f4_5 hP.1).2 q)) (by cases wdB x.2.2 <;> rfl)) (ev_no (ev_or (s:=false) (t:=false) (ev_eq (ev_p2 (ev_nm hP.1 rfl) (ev_var rfl) (pm_inD hd1)) (congrArg V.bool (Bool.eq_false_iff.mpr fun z=>hin (List.contains_iff_mem.mp z)))) fun _=>ev_eq (ev_p2 (ev_p1 (ev_var rfl) (pm_lend hd1)) ev_cst (pm_eq rd_int rd_int)) ?_) (st_set1 rfl (ev_nm hP.1 rfl) e2 (ev_ite (ev_call1 (ev_var rfl) fun Q q=>(f4_5 hP.1).2 q) (fun hb=>?_) fun hb=>?_)))
 ·refine congrArg V.bool (decide_eq_false fun z:((dn.map (·.1)).length:Int) = 60=>?_)
  rw [List.length_map] at z
  omega
 ·refine st_expr (wp_mc (ev_var rfl) (ty_list ht2) (ev_map (l:=kids x.2.2) (f:=fun c=>c) (g:=fun c=>tdV (x.1 - 1,x.2.1 + 1,c)) (ev_p2 (ev_var rfl) ev_cst (it_5 hP.1 hb)) (congrArg some (List.map_id' _).symm) (Nat.le_trans (len_kid hP.1) (by decide)) (fun c _=>ev_p2 (ev_var rfl) (ev_p2 (ev_var rfl) ev_cst pm_add) (pm_mkt two_le)) _ (hE (pm_extendL ht2 ?_) (fin _ ⟨k2.set (Nat.le_refl _),List.length_set.trans l2⟩ ?_ ?_))))
  ·rw [List.length_map (as:=kids x.2.2)]
   exact Nat.le_trans (Nat.add_le_add (Nat.le_trans (Nat.le_succ _) h60) (len_kid hP.1)) (by decide)
  ·exact List.getElem?_set_self (List.getElem?_eq_some_iff.mp ht2).1
  ·exact (List.getElem?_set_ne (Nat.ne_of_lt (Nat.lt_succ_self _))).trans hd2
 ·have ek:kids x.2.2 = []:=List.isEmpty_iff.mp (Bool.not_eq_false' _ ▸ hb)
  refine fin _ ⟨k2,l2⟩ ?_ hd2
  rw [ht2,ek]
  exact congrArg (fun t=>some (O.list t)) (List.append_nil _).symm
end
end Mine
end
noncomputable section
namespace Mine
open PySem
section
variable {B Y:AH} {j:Nat} {o:O}
theorem get_b:(B ++ Y)[B.length + j]? = Y[j]?:=by rw [List.getElem?_append_right (Nat.le_add_right _ _),Nat.add_sub_cancel_left]
theorem set_b:(B ++ Y).set (B.length + j) o = B ++ Y.set j o:=by rw [List.set_append_right _ _ (Nat.le_add_right _ _),Nat.add_sub_cancel_left]
end
section
variable {P:Prog} {C:Calls} {ρ:Fm} {B Y:AH} {K:KS} {R:QE} {X:XE} {ss:List St} {nm:Nm} {e:Ex} {x:V} {ks:List Nm} {vs:List V} {o:O}
theorem ins_b (h0:Y[0]? = some (.ns ks vs)) (h1:Y[1]? = some (.inst 0 B.length)):insOf (B ++ Y) (.ref (B.length + 1)) = some (B.length,ks,vs):=by
 show ((B ++ Y)[B.length + 1]?.bind O.ins).bind _ = _
 rw [get_b,h1]
 show ((B ++ Y)[B.length + 0]?.bind O.nms).map _ = _
 rw [get_b,h0]
 rfl
theorem sa_b (h0:Y[0]? = some (.ns ks vs)) (h1:Y[1]? = some (.inst 0 B.length)) (hl:ks.length ≤ 1000):setAttrV (.ref (B.length + 1)) nm x (B ++ Y) = some (B ++ Y.set 0 (.ns (dput nm x ks vs).1 (dput nm x ks vs).2)):=by
 show (insOf (B ++ Y) (.ref (B.length + 1))).bind _ = _
 rw [ins_b h0 h1]
 show (if ks.length ≤ 1000 then some ((B ++ Y).set (B.length + 0) _) else none) = _
 rw [if_pos hl,set_b]
theorem st_sa (hρ:ρ[0]? = some (some (.ref (B.length + 1)))) (he:Ev P C ρ (B ++ Y) X e x) (h0:Y[0]? = some (.ns ks vs)) (h1:Y[1]? = some (.inst 0 B.length)) (hl:ks.length ≤ 1000) (k:wpSs P C ss ρ (B ++ Y.set 0 (.ns (dput nm x ks vs).1 (dput nm x ks vs).2)) K R X):wpSs P C (.setAttr (.var 0) nm e :: ss) ρ (B ++ Y) K R X :=
 he _ (ev_var (P:=P) (C:=C) (X:=X) hρ _ (by rw [sa_b h0 h1 hl]; exact k))
theorem st_saN (hρ:ρ[0]? = some (some (.ref (B.length + 1)))) (he:∀ Q:QE,Q (.ref (B ++ Y).length) (B ++ Y ++ [o])→wpE P C e ρ (B ++ Y) Q X) (h0:(Y ++ [o])[0]? = some (.ns ks vs)) (h1:(Y ++ [o])[1]? = some (.inst 0 B.length)) (hl:ks.length ≤ 1000) (k:wpSs P C ss ρ (B ++ (Y ++ [o]).set 0 (.ns (dput nm (.ref (B.length + Y.length)) ks vs).1 (dput nm (.ref (B.length + Y.length)) ks vs).2)) K R X):wpSs P C (.setAttr (.var 0) nm e :: ss) ρ (B ++ Y) K R X :=
 he _ (ev_var (P:=P) (C:=C) (X:=X) hρ _ (by rw [List.append_assoc,List.length_append,sa_b h0 h1 hl]; exact k))
theorem wp_dct1 {H:AH} {a:Ex} {n:Nm} {Q:QE} (ha:Ev P C ρ H X a (.str n)) (q:Q (.ref H.length) (H ++ [.dict [n] [.none]])):wpE P C (.prim true .mkdict1 [a,.cst .none]) ρ H Q X:=ha _ (show okE (primM P true .mkdict1 [.str n,.none] H) Q from hE rfl q)
end
noncomputable def hv8 (b:Nat) (v:V):List V:=[v,.ref (b + 4),.ref (b + 5),.ref (b + 6),.ref (b + 7),.ref (b + 8),.ref (b + 9),.ref (b + 10)]
noncomputable def objs (n:Nm):List O:=[.list [],.dict [] [],.dict [n] [.none],.dict [] [],.dict [] [],.dict [] [],.dict [] []]
noncomputable def yS (b:Nat) (v:V) (n:Nm) (o₁ o₂:O) (m:Nat):AH:=.ns (hk.take m) ((hv8 b v).take m) :: .inst 0 b :: o₁ :: o₂ :: (objs n).take (m - 1)
theorem init1 {π:PI} {C:Calls} {B:AH} {K:KS} {Q:QE} {X:XE} {k:Nat} {v:V} {o₁ o₂:O} (hP:Pt π k v)
  (w:wpSs PL C (fn32.body.drop 9) [some (.ref (B.length + 1)),some v,none] (B ++ yS B.length v (nameOf v) o₁ o₂ 8) K Q X) :
  wpSs PL C (fn32.body.drop 1) [some (.ref (B.length + 1)),some v,none] (B ++ [.ns [] [],.inst 0 B.length,o₁,o₂]) K Q X :=
 st_sa rfl (ev_var rfl) rfl rfl (Nat.le_of_ble_eq_true rfl) (show wpSs PL C (fn32.body.drop 2) _ (B ++ yS B.length v (nameOf v) o₁ o₂ 1) K Q X from st_saN rfl (fun Q q=>wp_nil q) rfl rfl (Nat.le_of_ble_eq_true rfl) (show wpSs PL C (fn32.body.drop 3) _ (B ++ yS B.length v (nameOf v) o₁ o₂ 2) K Q X from st_saN rfl (fun Q q=>wp_dct0 q) rfl rfl (Nat.le_of_ble_eq_true rfl) (show wpSs PL C (fn32.body.drop 4) _ (B ++ yS B.length v (nameOf v) o₁ o₂ 3) K Q X from st_saN rfl (fun Q q=>wp_dct1 (ev_nm hP rfl) q) rfl rfl (Nat.le_of_ble_eq_true rfl) (show wpSs PL C (fn32.body.drop 5) _ (B ++ yS B.length v (nameOf v) o₁ o₂ 4) K Q X from st_saN rfl (fun Q q=>wp_dct0 q) rfl rfl (Nat.le_of_ble_eq_true rfl) (show wpSs PL C (fn32.body.drop 6) _ (B ++ yS B.length v (nameOf v) o₁ o₂ 5) K Q X from st_saN rfl (fun Q q=>wp_dct0 q) rfl rfl (Nat.le_of_ble_eq_true rfl) (show wpSs PL C (fn32.body.drop 7) _ (B ++ yS B.length v (nameOf v) o₁ o₂ 6) K Q X from st_saN rfl (fun Q q=>wp_dct0 q) rfl rfl (Nat.le_of_ble_eq_true rfl) (show wpSs PL C (fn32.body.drop 8) _ (B ++ yS B.length v (nameOf v) o₁ o₂ 7) K Q X from st_saN rfl (fun Q q=>wp_dct0 q) rfl rfl (Nat.le_of_ble_eq_true rfl) w)))))))
end Mine
end
noncomputable section
namespace Mine
open PySem
structure Cl (B:AH) (L:List (Nat × O)) (H:AH):Prop where
 nd:(L.map (·.1)).Nodup
 cell:∀ p ∈ L,H[p.1]? = some p.2∧B.length ≤ p.1
 pre:∀ a,a < B.length→H[a]? = B[a]?
section
variable {B H:AH} {L:List (Nat × O)}
theorem Cl.get (h:Cl B L H) (k:Nat) {p:Nat × O} (hk:L[k]? = some p):H[p.1]? = some p.2:=(h.cell p (List.mem_of_getElem? hk)).1
theorem Cl.set (h:Cl B L H) (k:Nat) {a:Nat} {o o':O} (hk:L[k]? = some (a,o)):Cl B (L.set k (a,o')) (H.set a o'):=by
 have ha:=h.cell _ (List.mem_of_getElem? hk)
 have hlt:a < H.length:=(List.getElem?_eq_some_iff.mp ha.1).1
 have hkl:k < L.length:=(List.getElem?_eq_some_iff.mp hk).1
 have hm:(L.set k (a,o')).map (·.1) = L.map (·.1):=by
  rw [List.map_set]
  refine List.ext_getElem? fun j=>?_
  rw [List.getElem?_set]
  by_cases q:k = j
  ·subst q
   rw [if_pos rfl,List.getElem?_map,hk]
   exact if_pos (by rw [List.length_map]; exact hkl)
  ·rw [if_neg q]
 refine ⟨hm ▸ h.nd,fun p hp=>?_,fun b hb=>(List.getElem?_set_ne (Nat.ne_of_gt (Nat.lt_of_lt_of_le hb ha.2))).trans (h.pre b hb)⟩
 obtain ⟨j,hj⟩:=List.getElem?_of_mem hp
 rw [List.getElem?_set] at hj
 by_cases q:k = j
 ·subst q
  rw [if_pos rfl,if_pos hkl] at hj
  have hp:(a,o') = p:=Option.some.inj hj
  subst hp
  exact ⟨List.getElem?_set_self hlt,ha.2⟩
 ·rw [if_neg q] at hj
  have hp:=h.cell p (List.mem_of_getElem? hj)
  refine ⟨(List.getElem?_set_ne fun z=>?_).trans hp.1,hp.2⟩
  have h1:(L.map (·.1))[k]? = some a:=by rw [List.getElem?_map,hk]; rfl
  have h2:(L.map (·.1))[j]? = some a:=by rw [List.getElem?_map,hj,z]; rfl
  exact q ((List.getElem?_inj (List.getElem?_eq_some_iff.mp h1).1 h.nd).mp (h1.trans h2.symm))
theorem Cl.lt (h:Cl B L H) {p:Nat × O} (hp:p ∈ L):p.1 < H.length:=(List.getElem?_eq_some_iff.mp (h.cell p hp).1).1
theorem Cl.new (h:Cl B L H) (o:O) (hb:B.length ≤ H.length):Cl B (L ++ [(H.length,o)]) (H ++ [o]):=by
 refine ⟨?_,app_all (fun p hp=>⟨app_get (h.cell p hp).1,(h.cell p hp).2⟩) (all1 ⟨new_at,hb⟩),fun a ha=>(List.getElem?_append_left (Nat.lt_of_lt_of_le ha hb)).trans (h.pre a ha)⟩
 rw [List.map_append]
 refine List.nodup_append.mpr ⟨h.nd,List.nodup_cons.mpr ⟨List.not_mem_nil,List.nodup_nil⟩,fun a ha b hb=>?_⟩
 rw [in1 hb]
 exact ea1_2 (List.mem_map.mp ha) fun p hp e=>e ▸ Nat.ne_of_lt (h.lt hp)
end
end Mine
end
noncomputable section
namespace Mine
open PySem
noncomputable def idV (x:V):V:=x
noncomputable def NL (b r:Nat) (v:V) (all:List V) (ns:List Nm) (pv ch:AL V) (qu:AL Nat):List (Nat × O) :=
 [(b,.ns (hk.take 8) (hv8 b v)),(b + 1,.inst 0 b),(b + 4,.list (ns.map V.str)),(b + 5,dO idV pv),(b + 6,dO idV ch),(b + 7,.dict [] []),(b + 8,.dict [] []),(b + 9,.dict [] []),(b + 10,dO V.ref qu),(r,.list all)] ++ qu.map fun p=>(p.2,.list [])
section
variable {P:Prog} {C:Calls} {ρ:Fm} {B H:AH} {X:XE} {r:Nat} {v x:V} {all:List V} {ns:List Nm} {pv ch:AL V} {qu:AL Nat} {nm:Nm}
theorem ins_c (g0:H[B.length]? = some (.ns (hk.take 8) (hv8 B.length v))) (g1:H[B.length + 1]? = some (.inst 0 B.length)):insOf H (.ref (B.length + 1)) = some (B.length,hk.take 8,hv8 B.length v):=by
 show (H[B.length + 1]?.bind O.ins).bind _ = _
 rw [g1]
 show (H[B.length]?.bind O.nms).map _ = _
 rw [g0]
 rfl
theorem ev_atC (g0:H[B.length]? = some (.ns (hk.take 8) (hv8 B.length v))) (g1:H[B.length + 1]? = some (.inst 0 B.length)) (h0:ρ[0]? = some (some (.ref (B.length + 1)))) (e:dget nm (hk.take 8) (hv8 B.length v) = some x):Ev P C ρ H X (at_ nm) x:=ev_p1 (ev_var h0) (by
 show ((insOf H (.ref (B.length + 1))).bind fun q=>(dget nm q.2.1 q.2.2).map (·,H)) = _
 rw [ins_c g0 g1]
 exact congrArg (Option.map (·,H)) e)
end
section
variable {π:PI} {n:Nat} {B H:AH} {Q:QE} {X:XE} {r:Nat} {v:V} {all:List V} {ns:List Nm} {pv ch:AL V} {qu:AL Nat}
noncomputable def chA (w:V) (ps:List V) (ch:AL V):AL V:=ps.foldl (fun c p=>aput (nameOf p) w c) ch
theorem len_chA {w:V} {ps:List V}:∀ {ch:AL V},(chA w ps ch).length ≤ ch.length + ps.length:=by
 induction ps with
 | nil=>exact fun {ch}=>Nat.le_refl _
 | cons p ps ih=>exact fun {ch}=>Nat.le_trans ih (Nat.le_trans (Nat.add_le_add_right len_aput _) (Nat.le_of_eq (by rw [Nat.add_assoc,Nat.add_comm 1]; rfl)))
theorem f30w {nm md:Nm} (h:Cl B (NL B.length r v all ns pv ch qu) H) (hb:B.length ≤ H.length) (h1:ns.length ≤ 60) (h2:pv.length ≤ 60) (h3:qu.length ≤ 60) (hn:∀ p ∈ qu,p.1 ≠ nm)
  (q:∀ a H',Cl B (NL B.length r v all (ns ++ [nm]) (aput nm (wkV nm md) pv) ch (qu ++ [(nm,a)])) H'→B.length ≤ H'.length→Q .none H'):callF PL (n + 1) 33 [.ref (B.length + 1),wkV nm md] H Q X:=by
 have sz:∀ {j:Nat},j ≤ 60→j ≤ sizeOf':=fun h=>Nat.le_trans h (by decide)
 refine cf P_fn33 rfl (st_mc1 (ev_atC (h.get 0 rfl) (h.get 1 rfl) rfl rfl) (ty_list (h.get 2 rfl)) (pe_ok rfl) (hE (pm_append (h.get 2 rfl) (Nat.le_trans (Nat.le_of_eq (List.length_map _)) (sz h1))) ?_))
 have c1:Cl B (NL B.length r v all (ns ++ [nm]) pv ch qu) (H.set (B.length + 4) (.list (ns.map V.str ++ [.str nm]))):=by
  have c:=h.set 2 (o':=.list (ns.map V.str ++ [.str nm])) rfl
  rw [show ns.map V.str ++ [.str nm] = (ns ++ [nm]).map V.str from by rw [List.map_append]; rfl] at c ⊢
  exact c
 refine st_setI (ev_var rfl _ (ev_atC (c1.get 0 rfl) (c1.get 1 rfl) rfl rfl _ (pe_ok (v:=.str nm) rfl _ ?_)))
 have e1:setItemV (.ref (B.length + 5)) (.str nm) (wkV nm md) _ = _:=set_al (val:=idV) (x:=wkV nm md) (c1.get 3 rfl) (sz h2)
 rw [e1]
 have c2:Cl B (NL B.length r v all (ns ++ [nm]) (aput nm (wkV nm md) pv) ch qu) _:=c1.set 3 (o':=dO idV (aput nm (wkV nm md) pv)) rfl
 have l2:∀ {a b:Nat} {o o':O},B.length ≤ ((H.set a o).set b o').length:=fun {a b o o'}=>Nat.le_trans hb (Nat.le_of_eq (List.length_set.trans List.length_set).symm)
 refine ev_yes (pe_ok rfl) (st_setI (wp_nil (ev_atC ((c2.new (.list []) l2).get 0 rfl) ((c2.new (.list []) l2).get 1 rfl) rfl rfl _ (pe_ok (v:=.str nm) rfl _ ?_))))
 have e2:setItemV (.ref (B.length + 10)) (.str nm) (.ref _) _ = _:=set_al (n:=nm) (val:=V.ref) (x:=((H.set (B.length + 4) (.list (ns.map V.str ++ [.str nm]))).set (B.length + 5) (dO idV (aput nm (wkV nm md) pv))).length) ((c2.new (.list []) l2).get 8 rfl) (sz h3)
 rw [e2,aput_new hn]
 have c3:=(c2.new (.list []) l2).set 8 (o':=dO V.ref (qu ++ [(nm,((H.set (B.length + 4) (.list (ns.map V.str ++ [.str nm]))).set (B.length + 5) (dO idV (aput nm (wkV nm md) pv))).length)])) rfl
 refine q ((H.set (B.length + 4) (.list (ns.map V.str ++ [.str nm]))).set (B.length + 5) (dO idV (aput nm (wkV nm md) pv))).length _ ?_ (Nat.le_trans l2 (Nat.le_trans le_app (Nat.le_of_eq List.length_set.symm)))
 unfold NL
 rw [List.map_append (l₁:=qu)]
 exact c3
end
end Mine
end
noncomputable section
namespace Mine
open PySem
section
variable {π:PI} {n:Nat} {B H:AH} {Q:QE} {X:XE} {r:Nat} {v:V} {all:List V} {ns:List Nm} {pv ch:AL V} {qu:AL Nat}
theorem f30d {k:Nat} {nm rl:Nm} {m s:Int} {ps:List V} (h8:∀ p ∈ ps,Pt π k p) (h5:ps.length ≤ 8) (h:Cl B (NL B.length r v all ns pv ch qu) H) (hb:B.length ≤ H.length) (h1:ns.length ≤ 60) (h2:pv.length ≤ 60) (h3:ch.length ≤ 900)
  (q:∀ H',Cl B (NL B.length r v all (ns ++ [nm]) (aput nm (wdV nm rl m s ps) pv) (chA (wdV nm rl m s ps) ps ch) qu) H'→B.length ≤ H'.length→Q .none H'):callF PL (n + 1) 33 [.ref (B.length + 1),wdV nm rl m s ps] H Q X:=by
 have sz:∀ {j:Nat},j ≤ 60→j ≤ sizeOf':=fun h=>Nat.le_trans h (by decide)
 refine cf P_fn33 rfl (st_mc1 (ev_atC (h.get 0 rfl) (h.get 1 rfl) rfl rfl) (ty_list (h.get 2 rfl)) (pe_ok rfl) (hE (pm_append (h.get 2 rfl) (Nat.le_trans (Nat.le_of_eq (List.length_map _)) (sz h1))) ?_))
 have c1:Cl B (NL B.length r v all (ns ++ [nm]) pv ch qu) (H.set (B.length + 4) (.list (ns.map V.str ++ [.str nm]))):=by
  have c:=h.set 2 (o':=.list (ns.map V.str ++ [.str nm])) rfl
  rw [show ns.map V.str ++ [.str nm] = (ns ++ [nm]).map V.str from by rw [List.map_append]; rfl] at c ⊢
  exact c
 refine st_setI (ev_var rfl _ (ev_atC (c1.get 0 rfl) (c1.get 1 rfl) rfl rfl _ (pe_ok (v:=.str nm) rfl _ ?_)))
 have e1:setItemV (.ref (B.length + 5)) (.str nm) (wdV nm rl m s ps) _ = _:=set_al (val:=idV) (x:=wdV nm rl m s ps) (c1.get 3 rfl) (sz h2)
 rw [e1]
 have c2:Cl B (NL B.length r v all (ns ++ [nm]) (aput nm (wdV nm rl m s ps) pv) ch qu) _:=c1.set 3 (o':=dO idV (aput nm (wdV nm rl m s ps) pv)) rfl
 have l2:∀ {a b:Nat} {o o':O},B.length ≤ ((H.set a o).set b o').length:=fun {a b o o'}=>Nat.le_trans hb (Nat.le_of_eq (List.length_set.trans List.length_set).symm)
 refine ev_no (pe_ok rfl) (ev_for (fun its ρ H'=>∃ o dn,ρ = [some (.ref (B.length + 1)),some (wdV nm rl m s ps),o]∧dn ++ its = ps∧Cl B (NL B.length r v all (ns ++ [nm]) (aput nm (wdV nm rl m s ps) pv) (chA (wdV nm rl m s ps) dn ch) qu) H'∧B.length ≤ H'.length) (v:=.tup ps) (items:=ps) (pe_ok rfl) (fun _ _ _ _=>rfl) (Nat.le_trans h5 (by decide)) ⟨none,[],rfl,rfl,c2,l2⟩ (fun x xs ρ' H' hI K' hK=>ea2_4 hI fun o dn e ed c l=>?_) fun ρ' H' hI=>ea2_4 hI fun o dn e ed c l=>q H' ((List.append_nil dn).symm.trans ed ▸ c) l)
 subst e
 have hm:x ∈ ps:=ed ▸ List.mem_append_right dn (.head _)
 refine st_setI (ev_var rfl _ (ev_atC (c.get 0 rfl) (c.get 1 rfl) rfl rfl _ (ev_nm (h8 x hm) rfl _ ?_)))
 have hl:(chA (wdV nm rl m s ps) dn ch).length ≤ sizeOf':=Nat.le_trans len_chA (Nat.le_trans (Nat.add_le_add h3 (Nat.le_trans (ed ▸ le_app) h5)) (by decide))
 have e2:setItemV (.ref (B.length + 6)) (.str (nameOf x)) (wdV nm rl m s ps) _ = _:=set_al (val:=idV) (x:=wdV nm rl m s ps) (c.get 4 rfl) hl
 rw [e2]
 refine hK _ _ ⟨_,dn ++ [x],rfl,(List.append_assoc dn [x] xs).trans ed,?_,Nat.le_trans l (Nat.le_of_eq List.length_set.symm)⟩
 rw [show chA (wdV nm rl m s ps) (dn ++ [x]) ch = aput (nameOf x) (wdV nm rl m s ps) (chA (wdV nm rl m s ps) dn ch) from List.foldl_append ..]
 exact c.set 4 (o':=dO idV (aput (nameOf x) (wdV nm rl m s ps) (chA (wdV nm rl m s ps) dn ch))) rfl
end
end Mine
end
noncomputable section
namespace Mine
open PySem
section
variable {π:PI} {n:Nat} {B H:AH} {Q:QE} {X:XE} {r:Nat} {v:V} {all:List V} {ns:List Nm} {pv ch:AL V} {qu:AL Nat}
noncomputable def wkN (x:V):List Nm:=if wdB x then [] else [nameOf x]
theorem f30 {k:Nat} {x:V} (hP:Pt π k x) (h:Cl B (NL B.length r v all ns pv ch qu) H) (hb:B.length ≤ H.length) (h1:ns.length ≤ 60) (h2:pv.length ≤ 60) (h3:ch.length ≤ 900) (h4:qu.length ≤ 60) (hn:∀ p ∈ qu,p.1 ≠ nameOf x)
  (q:∀ qu' H',Cl B (NL B.length r v all (ns ++ [nameOf x]) (aput (nameOf x) x pv) (chA x (kids x) ch) qu') H'→B.length ≤ H'.length→qu'.map (·.1) = qu.map (·.1) ++ wkN x→Q .none H'):callF PL (n + 1) 33 [.ref (B.length + 1),x] H Q X:=by
 induction hP with
 | @wk _ nm=>exact f30w h hb h1 h2 h4 hn fun a H' c l=>q (qu ++ [(nm,a)]) H' c l List.map_append
 | @wd _ _ _ _ _ ps _ _ _ _ h5 _ _ h8 =>
  refine f30d h8 h5.2 h hb h1 h2 h3 fun H' c l=>q qu H' c l ?_
  cases ps with
  | nil=>exact absurd h5.1 (Nat.not_succ_le_zero 0)
  | cons p ps=>exact (List.append_nil _).symm
noncomputable def pvF (dn:List V):AL V:=dn.foldl (fun c p=>aput (nameOf p) p c) []
noncomputable def chF (n0:Nm) (dn:List V):AL V:=dn.foldl (fun c p=>chA p (kids p) c) [(n0,.none)]
noncomputable def NI (B:AH) (v:V) (r:Nat) (all:List V) (n0:Nm) (its:List V) (ρ:Fm) (H:AH):Prop :=
 ∃ o dn qu,ρ = [some (.ref (B.length + 1)),some v,o]∧dn ++ its = all∧Cl B (NL B.length r v all (dn.map nameOf) (pvF dn) (chF n0 dn) qu) H∧qu.map (·.1) = dn.flatMap wkN∧(B.length ≤ H.length∧(pvF dn).length ≤ dn.length∧(chF n0 dn).length ≤ 8 * dn.length + 1)
end
end Mine
end
noncomputable section
namespace Mine
open PySem
section
variable {π:PI} {n:Nat} {B H:AH} {K:KS} {Q:QE} {X:XE} {r:Nat} {v:V} {all:List V}
theorem wkN_sub {dn:List V} {a:Nm} (h:a ∈ dn.flatMap wkN):a ∈ dn.map nameOf:=ea1_2 (List.mem_flatMap.mp h) fun x hx ha=>by
 unfold wkN at ha
 by_cases e:wdB x = true
 ·rw [if_pos e] at ha; exact absurd ha List.not_mem_nil
 ·rw [if_neg e] at ha; exact in1 ha ▸ List.mem_map_of_mem hx
theorem wkN_len {dn:List V}:(dn.flatMap wkN).length ≤ dn.length:=by
 induction dn with
 | nil=>exact Nat.le_refl _
 | cons x dn ih =>
  rw [List.flatMap_cons,List.length_append,List.length_cons,Nat.add_comm]
  refine Nat.add_le_add ih ?_
  unfold wkN
  by_cases e:wdB x = true
  ·rw [if_pos e]; exact Nat.zero_le _
  ·rw [if_neg e]; exact Nat.le_refl _
theorem notes {n0:Nm} {ss:List St} {e:Ex} {H0:AH} (he:∀ Q:QE,(∀ r H,Cl B (NL B.length r v all [] [] [(n0,.none)] []) H→B.length ≤ H.length→Q (.ref r) H)→wpE PL (callF PL (n + 1)) e [some (.ref (B.length + 1)),some v,none] H0 Q X) (hP:∀ x ∈ all,∃ k,Pt π k x) (nd:(all.map nameOf).Nodup) (hl:all.length ≤ 60)
  (q:∀ r o qu H',Cl B (NL B.length r v all (all.map nameOf) (pvF all) (chF n0 all) qu) H'→qu.map (·.1) = all.flatMap wkN→B.length ≤ H'.length→wpSs PL (callF PL (n + 1)) ss [some (.ref (B.length + 1)),some v,o] H' K Q X) :
  wpSs PL (callF PL (n + 1)) (.forIn false (.inl 2) e [(.expr (.meth 0 33 ['n','o','t','e'] (.var 0) [.var 2]))] :: ss) [some (.ref (B.length + 1)),some v,none] H0 K Q X:=by
 refine st_for (he _ fun r H h hb=>for_go (rev:=false) (tgt:=.inl 2) (v:=.ref r) (l:=all) (f:=fun x=>x) (st:=fun x ρ=>ρ.set 2 (some x)) (fun _ _=>rfl) (NI B v r all n0) (fun _ _ _ q=>ea3_5 q fun o dn qu _ _ c _ _=>(src_ref (c.get 9 rfl)).trans (congrArg some (List.map_id' all).symm)) (Nat.le_trans hl (by decide)) ⟨none,[],[],rfl,rfl,h,rfl,hb,Nat.le_refl _,Nat.le_refl _⟩ (fun x xs ρ' H' hI K' hK=>ea3_5 hI fun o dn qu e ed c hq l=>?_) fun ρ' H' hI=>ea3_5 hI fun o dn qu e ed c hq l=>?_)
 ·subst e
  have hd:dn.length + 1 ≤ 60:=by
   rw [← ed,List.length_append] at hl
   exact Nat.le_trans (Nat.add_le_add_left (Nat.succ_le_succ (Nat.zero_le xs.length)) _) hl
  have nx:nameOf x ∉ dn.map nameOf:=fun z=>by
   rw [← ed,List.map_append] at nd
   exact (List.nodup_append.mp nd).2.2 _ z _ (.head _) rfl
  have e1:pvF (dn ++ [x]) = aput (nameOf x) x (pvF dn):=List.foldl_append ..
  have e2:chF n0 (dn ++ [x]) = chA x (kids x) (chF n0 dn):=List.foldl_append ..
  refine (hP x (ed ▸ List.mem_append_right dn (.head _))).elim fun k hP=>?_
  refine st_expr (ev_var (P:=PL) (C:=callF PL (n + 1)) (X:=fun _ _=>False) (ρ:=[some (.ref (B.length + 1)),some v,some x]) (i:=0) rfl (fun v' H₁=>hasMeth H₁ 0 ['n','o','t','e'] v' = true∧wpEs PL (callF PL (n + 1)) [.var 2] [some (.ref (B.length + 1)),some v,some x] H₁ (fun vs H'=>callF PL (n + 1) 33 (v' :: vs) H' (fun _ H'=>K' [some (.ref (B.length + 1)),some v,some x] H') (fun _ _=>False)) (fun _ _=>False)) ⟨?_,ev_var (P:=PL) (C:=callF PL (n + 1)) (X:=fun _ _=>False) rfl _ (f30 hP c l.1 ?_ ?_ ?_ ?_ ?_ fun qu' H'' c' l' hq'=>hK _ _ ⟨_,dn ++ [x],qu',rfl,(List.append_assoc dn [x] xs).trans ed,?_,?_,l',?_,?_⟩)⟩)
  ·show (insOf H' (.ref (B.length + 1))).any _ = true
   rw [ins_c (c.get 0 rfl) (c.get 1 rfl)]; rfl
  ·rw [List.length_map]; exact Nat.le_trans (Nat.le_succ _) hd
  ·exact Nat.le_trans l.2.1 (Nat.le_trans (Nat.le_succ _) hd)
  ·exact Nat.le_trans l.2.2 (Nat.le_trans (Nat.succ_le_succ (Nat.mul_le_mul_left 8 (Nat.le_trans (Nat.le_succ _) hd))) (by decide))
  ·rw [← List.length_map (f:=(·.1)),hq]; exact Nat.le_trans wkN_len (Nat.le_trans (Nat.le_succ _) hd)
  ·exact fun p hp z=>nx (z ▸ wkN_sub (hq ▸ List.mem_map_of_mem hp))
  ·rw [List.map_append,e1,e2]; exact c'
  ·rw [hq',hq,List.flatMap_append,List.flatMap_cons,List.flatMap_nil,List.append_nil]
  ·rw [e1,List.length_append]; exact Nat.le_trans len_aput (Nat.succ_le_succ l.2.1)
  ·rw [e2,List.length_append]
   exact Nat.le_trans len_chA (Nat.le_trans (Nat.add_le_add l.2.2 (len_kid hP)) (Nat.le_of_eq (Nat.add_right_comm _ _ _)))
 ·subst e
  have ed:dn = all:=(List.append_nil dn).symm.trans ed
  subst ed
  exact q r o qu H' c hq l.1
end
end Mine
end
noncomputable section
namespace Mine
open PySem
theorem pvF_go {l:List V}:∀ {c:AL V},(c.map (·.1) ++ l.map nameOf).Nodup→l.foldl (fun c p=>aput (nameOf p) p c) c = c ++ l.map fun p=>(nameOf p,p):=by
 induction l with
 | nil=>exact fun {c} _=>(List.append_nil c).symm
 | cons p l ih =>
  intro c nd
  have e:aput (nameOf p) p c = c ++ [(nameOf p,p)]:=aput_new fun q hq z=>(List.nodup_append.mp nd).2.2 _ (List.mem_map_of_mem hq) _ (.head _) z
  show l.foldl _ (aput (nameOf p) p c) = _
  rw [e,ih (by rw [List.map_append,List.append_assoc]; exact nd),List.append_assoc]
  rfl
theorem pvF_eq {l:List V} (nd:(l.map nameOf).Nodup):pvF l = l.map fun p=>(nameOf p,p):=pvF_go nd
theorem aget_ch {m:Nm} {w:V} {ps:List V}:∀ {c:AL V},aget m (chA w ps c) = if m ∈ ps.map nameOf then some w else aget m c:=by
 induction ps with
 | nil=>exact fun {c}=>(if_neg List.not_mem_nil).symm
 | cons p ps ih =>
  intro c
  refine (ih (c:=aput (nameOf p) w c)).trans ?_
  rw [aget_put]
  by_cases h:m ∈ ps.map nameOf
  ·rw [if_pos h,if_pos (.tail _ h)]
  ·rw [if_neg h]
   by_cases e:m = nameOf p
   ·rw [if_pos e,if_pos (e ▸ .head _)]
   ·rw [if_neg e]; exact (if_neg fun z=>memE z e h).symm
theorem chF_go {m:Nm} {w:V} {l:List V} (h:∀ x ∈ l,m ∈ (kids x).map nameOf→x = w):∀ {c:AL V},(aget m c = some w ∨ ∃ x ∈ l,m ∈ (kids x).map nameOf)→aget m (l.foldl (fun c p=>chA p (kids p) c) c) = some w:=by
 induction l with
 | nil=>exact fun q=>q.elim id fun q=>ea1_2 q fun x hx _=>absurd hx List.not_mem_nil
 | cons p l ih =>
  intro c q
  refine ih (fun x hx=>h x (.tail _ hx)) ?_
  rw [aget_ch]
  by_cases e:m ∈ (kids p).map nameOf
  ·rw [if_pos e]; exact .inl (congrArg some (h p (.head _) e))
  ·rw [if_neg e]; exact q.imp id fun q=>ea1_2 q fun x hx hm=>memE hx (fun z=>absurd (z ▸ hm) e) fun hx=>⟨x,hx,hm⟩
section
variable {π:PI} {k:Nat} {v w x p:V}
theorem ch_kid (hP:Pt π k w) (hp:p ∈ kids w):π.ch (nameOf p) = some (nameOf w):=by
 induction hP with
 | wk=>exact absurd hp List.not_mem_nil
 | wd _ _ _ _ _ _ h7=>exact (h7 _).mpr ⟨p,hp,rfl⟩
theorem pt_w (hP:Pt π k w):π.isW (nameOf w) = some (wdB w):=by
 induction hP with
 | wk _ _ h=>exact h
 | @wd _ _ _ _ _ ps _ _ _ _ h5 h6 =>
  cases ps with
  | nil=>exact absurd h5.1 (Nat.not_succ_le_zero 0)
  | cons p ps=>exact h6
theorem pt_ok (hP:Pt π k w):nmOk (nameOf w):=by
 induction hP with
 | wk h=>exact h
 | wd h=>exact h
theorem pts_pt:∀ {k:Nat} {v:V},Pt π k v→∀ x ∈ pts k v,∃ k,Pt π k x:=by
 intro k
 induction k with
 | zero=>exact fun _=>fm0
 | succ k ih=>exact fun hP=>fm1 ⟨_,hP⟩ fun x hx=>ea1_2 (List.mem_flatMap.mp hx) fun p hp hx=>ih (pt_kid hP p hp) x hx
theorem nd_inj {l:List V} (nd:(l.map nameOf).Nodup) (hx:x ∈ l) (hw:w ∈ l) (e:nameOf x = nameOf w):x = w:=by
 induction l with
 | nil=>exact absurd hx List.not_mem_nil
 | cons y l ih =>
  have n:=List.nodup_cons.mp nd
  exact memE hx (fun e1=>memE hw (fun e2=>e1.trans e2.symm) fun h=>absurd (List.mem_map_of_mem h) fun z=>n.1 (e1 ▸ e.symm ▸ z)) fun h=>memE hw (fun e2=>absurd (List.mem_map_of_mem h) fun z=>n.1 (e2 ▸ e ▸ z)) fun h'=>ih n.2 h h'
theorem wkN_mem {l:List V} (hp:∀ x ∈ l,∃ k,Pt π k x) {m:Nm} (hn:(π.isW m).isSome = true→m ∈ l.map nameOf):m ∈ l.flatMap wkN ↔ π.isW m = some false:=by
 refine ⟨fun h=>ea1_2 (List.mem_flatMap.mp h) fun x hx hm=>(hp x hx).elim fun k hk=>?_,fun h=>ea1_2 (List.mem_map.mp (hn (congrArg Option.isSome h))) fun x hx e=>(hp x hx).elim fun k hk=>List.mem_flatMap.mpr ⟨x,hx,?_⟩⟩
 ·unfold wkN at hm
  by_cases e:wdB x = true
  ·rw [if_pos e] at hm; exact absurd hm List.not_mem_nil
  ·rw [if_neg e] at hm; rw [in1 hm,pt_w hk,Bool.eq_false_iff.mpr e]
 ·unfold wkN
  have z:=(pt_w hk).symm.trans (e.symm ▸ h)
  rw [Option.some.inj z,← e]; exact .head _
theorem wkN_nd {l:List V} (nd:(l.map nameOf).Nodup):(l.flatMap wkN).Nodup:=by
 refine List.Nodup.sublist (?_:(l.flatMap wkN).Sublist (l.map nameOf)) nd
 clear nd
 induction l with
 | nil=>exact .slnil
 | cons x l ih =>
  rw [List.flatMap_cons]
  unfold wkN
  by_cases e:wdB x = true
  ·rw [if_pos e]; exact .cons _ ih
  ·rw [if_neg e]; exact .cons_cons _ ih
end
end Mine
end
noncomputable section
namespace Mine
open PySem
noncomputable def gB (B:AH):List (Nat × O):=B.zipIdx.map Prod.swap
theorem gB_mem {B:AH} {p:Nat × O} (h:p ∈ gB B):B[p.1]? = some p.2:=ea1_2 (List.mem_map.mp h) fun _ hx e=>e ▸ List.mem_zipIdx_iff_getElem?.mp hx
theorem mem_gB {B:AH} {a:Nat} {o:O} (h:B[a]? = some o):(a,o) ∈ gB B:=List.mem_map.mpr ⟨(o,a),List.mem_zipIdx_iff_getElem?.mpr h,rfl⟩
theorem gB_nd {B:AH}:((gB B).map (·.1)).Nodup:=by
 unfold gB
 rw [List.map_map]
 show (B.zipIdx.map Prod.snd).Nodup
 rw [List.zipIdx_map_snd]
 exact List.nodup_range'
noncomputable def adr (B:AH) (v:V) (all:List V) (n0:Nm) (e:Nat):Ad:=⟨B.length,B.length + 1,B.length + 4,B.length + 5,B.length + 6,B.length + 7,B.length + 8,B.length + 9,B.length + 10,e,v,all.map nameOf,all,(chF n0 all).map (·.1),(chF n0 all).map (·.2),gB B⟩
noncomputable def ownQ (qu:AL Nat) (a:Nat):Option (Bool × Nm):=(qu.find? fun p=>p.2 == a).map fun p=>(false,p.1)
noncomputable def hst0 (qu:AL Nat):Hst:=⟨[],[],[],qu.map fun p=>(p.1,p.2,[]),0,0,[],0,ownQ qu⟩
theorem ownQ_in {qu:AL Nat} (nd:(qu.map (·.2)).Nodup) {p:Nm × Nat} (hp:p ∈ qu):ownQ qu p.2 = some (false,p.1):=by
 unfold ownQ
 induction qu with
 | nil=>exact absurd hp List.not_mem_nil
 | cons x qu ih =>
  have n:=List.nodup_cons.mp nd
  rw [List.find?_cons]
  refine memE hp (fun e=>?_) fun h=>?_
  ·rw [e,beq_self_eq_true]; rfl
  ·rw [show (x.2 == p.2) = false from beq_eq_false_iff_ne.mpr fun e=>n.1 (List.mem_map.mpr ⟨p,h,e.symm⟩)]; exact ih n.2 h
theorem ownQ_out {qu:AL Nat} {a:Nat} (h:a ∉ qu.map (·.2)):ownQ qu a = none:=by
 unfold ownQ
 rw [List.find?_eq_none.mpr fun (x:Nm × Nat) hx (e:(x.2 == a) = true)=>h (List.mem_map.mpr ⟨x,hx,beq_iff_eq.mp e⟩)]; rfl
theorem hs_of {B H:AH} {v:V} {all:List V} {n0:Nm} {qu:AL Nat} {r e:Nat} (hn:(all.map nameOf).Nodup) (hq:qu.map (·.1) = all.flatMap wkN)
  (c:Cl B ([(B.length,.ns hk (hv8 B.length v ++ [.int 0,.int 0,.ref e])),(B.length + 1,.inst 0 B.length),(B.length + 4,.list ((all.map nameOf).map V.str)),(B.length + 5,dO idV (pvF all)),(B.length + 6,dO idV (chF n0 all)),(B.length + 7,.dict [] []),(B.length + 8,.dict [] []),(B.length + 9,.dict [] []),(B.length + 10,dO V.ref qu),(r,.list all)] ++ (qu.map fun p=>(p.2,.list [])) ++ [(e,.list [])]) H) :
  Hs (adr B v all n0 e) (hst0 qu) H:=by
 have nd:=c.nd
 rw [List.map_append,List.map_append,List.append_assoc,List.map_map (l:=qu)] at nd
 have nd1:=List.nodup_append.mp nd
 have nd2:=List.nodup_append.mp nd1.2.1
 have hm:∀ {k:Nat} {p:Nat × O},([(B.length,.ns hk (hv8 B.length v ++ [.int 0,.int 0,.ref e])),(B.length + 1,.inst 0 B.length),(B.length + 4,.list ((all.map nameOf).map V.str)),(B.length + 5,dO idV (pvF all)),(B.length + 6,dO idV (chF n0 all)),(B.length + 7,.dict [] []),(B.length + 8,.dict [] []),(B.length + 9,.dict [] []),(B.length + 10,dO V.ref qu),(r,.list all)]:List (Nat × O))[k]? = some p→H[p.1]? = some p.2∧ownQ qu p.1 = none:=fun {k p} h=>by
  have m:=List.mem_of_getElem? h
  exact ⟨(c.cell p (List.mem_append_left _ (List.mem_append_left _ m))).1,ownQ_out fun z=>nd1.2.2 _ (List.mem_map_of_mem m) _ (List.mem_append_left _ z) rfl⟩
 have he:H[e]? = some (.list [])∧ownQ qu e = none:=⟨(c.cell _ (List.mem_append_right _ (.head _))).1,ownQ_out fun z=>nd2.2.2 _ z _ (.head _) rfl⟩
 have hge:∀ {p:Nm × Nat},p ∈ qu→H[p.2]? = some (.list [])∧B.length ≤ p.2:=fun {p} hp=>c.cell (p.2,.list []) (List.mem_append_left _ (List.mem_append_right _ (List.mem_map.mpr ⟨p,hp,rfl⟩)))
 refine ⟨?_,?_,fm0,fun p hp=>?_,?_,List.nodup_nil,List.nodup_nil⟩
 ·show (([B.length,B.length + 1,B.length + 4,B.length + 5,B.length + 6,B.length + 7,B.length + 8,B.length + 9,B.length + 10] ++ [e]) ++ (gB B).map (·.1)).Nodup
  refine List.nodup_append.mpr ⟨List.nodup_append.mpr ⟨?_,List.nodup_cons.mpr ⟨List.not_mem_nil,List.nodup_nil⟩,?_⟩,gB_nd,?_⟩
  ·exact (List.nodup_append (l₁:=[B.length,B.length + 1,B.length + 4,B.length + 5,B.length + 6,B.length + 7,B.length + 8,B.length + 9,B.length + 10]) (l₂:=[r]).mp nd1.1).1
  ·exact fun a ha b hb=>nd1.2.2 a (List.mem_append_left [r] ha) b (List.mem_append_right _ hb)
  ·intro a ha b hb
   have h1:B.length ≤ a:=app_all (p:=fun a=>B.length ≤ a) (fm1 (Nat.le_refl _) (fm1 (Nat.le_add_right _ _) (fm1 (Nat.le_add_right _ _) (fm1 (Nat.le_add_right _ _) (fm1 (Nat.le_add_right _ _) (fm1 (Nat.le_add_right _ _) (fm1 (Nat.le_add_right _ _) (fm1 (Nat.le_add_right _ _) (all1 (Nat.le_add_right _ _)))))))))) (all1 (show B.length ≤ e from (c.cell _ (List.mem_append_right _ (.head _))).2)) a ha
   exact ea1_2 (List.mem_map.mp hb) fun p hp e=>e ▸ Nat.ne_of_gt (Nat.lt_of_lt_of_le (List.getElem?_eq_some_iff.mp (gB_mem hp)).1 h1)
 ·refine fm1 (hm (k:=0) rfl) (fm1 (hm (k:=1) rfl) (fm1 (hm (k:=2) rfl) (fm1 ?_ (fm1 (hm (k:=4) rfl) (fm1 (hm (k:=5) rfl) (fm1 (hm (k:=6) rfl) (fm1 (hm (k:=7) rfl) (fm1 ?_ (fm1 he fun p hp=>?_)))))))))
  ·have:=hm (k:=3) rfl
   rw [pvF_eq hn,dO,List.map_map,List.map_map] at this
   exact ⟨this.1.trans (congrArg (fun t=>some (O.dict _ t)) (List.map_id' all)),this.2⟩
  ·have:=hm (k:=8) rfl
   refine ⟨this.1.trans (congrArg some ?_),this.2⟩
   unfold dO hst0
   rw [List.map_map,List.map_map]; rfl
  ·have hb:=gB_mem hp
   have hl:=(List.getElem?_eq_some_iff.mp hb).1
   exact ⟨(c.pre _ hl).trans hb,ownQ_out fun z=>ea1_2 (List.mem_map.mp z) fun q hq e=>Nat.lt_irrefl _ (Nat.lt_of_lt_of_le hl (e ▸ (hge hq).2))⟩
 ·refine ea1_2 (List.mem_map.mp hp) fun q hq e=>e ▸ ⟨ownQ_in nd2.1 hq,(hge hq).1,Nat.zero_le _⟩
 ·show ((qu.map _).map _).Nodup
  rw [List.map_map]
  exact hq.symm ▸ wkN_nd hn
end Mine
end
noncomputable section
namespace Mine
open PySem
section
variable {π:PI} {σ:Ad} {B:AH} {v:V} {n0:Nm} {e:Nat}
theorem desc:∀ {k d:Nat} {w:V},Rt π σ d k w→d + k = 7→(∀ w' ∈ pts k w,∀ p ∈ kids w',dget (nameOf p) σ.chk σ.chv = some w')→∀ x ∈ pts k w,∃ d' k',d' + k' = 7∧Rt π σ d' k' x∧(d' = 0→x = w):=by
 intro k
 induction k with
 | zero=>exact fun _ _ _=>fm0
 | succ k ih =>
  intro d w h e hc
  refine fm1 ⟨d,k + 1,e,h,fun _=>rfl⟩ fun x hx=>ea1_2 (List.mem_flatMap.mp hx) fun p hp hx=>?_
  have r:=h.rd
  have nd:((kids w).flatMap (nms k)).Nodup:=(List.nodup_cons.mp r.nd).2
  have sub:(nms k p).Sublist ((kids w).flatMap (nms k)):=List.sublist_flatten_of_mem (List.mem_map_of_mem hp)
  have hr:Rt π σ (d + 1) k p:=⟨⟨pt_kid r.pt p hp,nd.sublist sub,Nat.le_trans (Nat.le_succ k) r.k7,Nat.le_trans sub.length_le (Nat.le_trans (Nat.le_succ _) r.len),fun x hx=>r.md x (.tail _ (List.mem_flatMap.mpr ⟨p,hp,hx⟩))⟩,w,h,hp,hc w (.head _) p hp⟩
  refine (ih hr ((Nat.add_right_comm d 1 k).trans e) (fun w' hw'=>hc w' (.tail _ (List.mem_flatMap.mpr ⟨p,hp,hw'⟩))) x hx).imp fun d' q=>q.imp fun k' q=>⟨q.1,q.2.1,fun z=>?_⟩
  subst z
  have z:=q.2.2 rfl
  subst z
  have z:V.none = w:=Option.some.inj (q.2.1.2.1.symm.trans (hc w (.head _) x hp))
  subst z
  exact absurd hp List.not_mem_nil
theorem pv_get {l:List V} {x:V} (nd:(l.map nameOf).Nodup) (hx:x ∈ l):aget (nameOf x) (l.map fun p=>(nameOf p,p)) = some x:=by
 induction l with
 | nil=>exact absurd hx List.not_mem_nil
 | cons y l ih =>
  have n:=List.nodup_cons.mp nd
  show (if nameOf x = nameOf y then some y else aget (nameOf x) (l.map fun p=>(nameOf p,p))) = some x
  by_cases h:nameOf x = nameOf y
  ·rw [if_pos h,nd_inj nd hx (.head _) h]
  ·rw [if_neg h]; exact ih n.2 (memE hx (fun e=>absurd (congrArg nameOf e) h) id)
theorem ch_get (hP:Pt π 7 v) (nd:(nms 7 v).Nodup):∀ w ∈ pts 7 v,∀ p ∈ kids w,dget (nameOf p) (adr B v (pts 7 v) n0 e).chk (adr B v (pts 7 v) n0 e).chv = some w:=fun w hw p hp=>by
 refine (dget_al (val:=idV)).trans (congrArg (Option.map idV) (?_:aget (nameOf p) (chF n0 (pts 7 v)) = some w))
 refine chF_go (fun x hx hm=>nd_inj (pts_nms.symm ▸ nd) hx hw ?_) (.inr ⟨w,hw,List.mem_map_of_mem hp⟩)
 exact ea1_2 (List.mem_map.mp hm) fun y hy e=>(pts_pt hP x hx).elim fun _ hx=>(pts_pt hP w hw).elim fun _ hw=>Option.some.inj ((ch_kid hx hy).symm.trans (e ▸ ch_kid hw hp))
theorem ch_top (hP:Pt π 7 v) (hr:∀ w,π.ch (nameOf v) ≠ some w):dget (nameOf v) (adr B v (pts 7 v) (nameOf v) e).chk (adr B v (pts 7 v) (nameOf v) e).chv = some .none:=by
 refine (dget_al (val:=idV)).trans (congrArg (Option.map idV) (?_:aget (nameOf v) (chF (nameOf v) (pts 7 v)) = some .none))
 exact chF_go (fun x hx hm=>ea1_2 (List.mem_map.mp hm) fun y hy e=>(pts_pt hP x hx).elim fun _ hx=>absurd (e ▸ ch_kid hx hy) (hr _)) (.inl (if_pos rfl))
structure Plan (π:PI) (v:V):Prop where
 pt:Pt π 7 v
 w:wdB v = true
 nd:(nms 7 v).Nodup
 le:(nms 7 v).length ≤ 60
 top:∀ w,π.ch (nameOf v) ≠ some w
 nm:∀ m,(π.isW m).isSome = true→m ∈ nms 7 v
 md:∀ x ∈ pts 7 v,mdOk π x
theorem Plan.rt (h:Plan π v):∀ x ∈ pts 7 v,∃ d k,d + k = 7∧Rt π (adr B v (pts 7 v) (nameOf v) e) d k x∧(d = 0→x = v):=desc (d:=0) ⟨⟨h.pt,h.nd,Nat.le_refl _,h.le,h.md⟩,ch_top h.pt h.top,h.top⟩ rfl (ch_get h.pt h.nd)
theorem pt_mn {k:Nat} {x:V} (hP:Pt π k x) (md:mdOk π x):0 ≤ π.mn (nameOf x):=by
 rw [md.mn]
 induction hP with
 | wk=>exact Int.le_refl 0
 | wd _ _ h3=>exact h3.1
theorem Plan.pl (h:Plan π v):Pl π (adr B v (pts 7 v) (nameOf v) e) where
 nm:=fun m hm=>show m ∈ (pts 7 v).map nameOf from pts_nms.symm ▸ h.nm m hm
 ok:=fun m hm=>ea1_2 (List.mem_map.mp hm) fun x hx e=>(pts_pt h.pt x hx).elim fun k hk=>e ▸ pt_ok hk
 le:=Nat.le_trans (Nat.le_of_eq (congrArg List.length (pts_nms (k:=7)))) h.le
 pt:=fun m hm=>ea1_2 (List.mem_map.mp hm) fun x hx ex=>ea2_3 (h.rt (B:=B) (e:=e) x hx) fun d k q1 q2 q3=>⟨d,k,x,⟨Nat.le_of_lt_succ (Nat.lt_of_lt_of_le (Nat.lt_add_of_pos_right (pt_pos q2.rd.pt)) (Nat.le_of_eq q1)),fun z=>by rw [← ex,q3 z,pt_w h.pt,h.w]⟩,q2,ex,by
  have nd:((pts 7 v).map nameOf).Nodup:=pts_nms.symm ▸ h.nd
  have z:=dget_al (n:=m) (val:=idV) (l:=(pts 7 v).map fun p=>(nameOf p,p))
  rw [List.map_map,List.map_map] at z
  refine Eq.trans ?_ (z.trans (congrArg (Option.map idV) (?_:_ = some x)))
  ·exact congrArg (dget m _) (List.map_id' _).symm
  ·rw [← ex]; exact pv_get nd hx⟩
 top:=h.pt
 mn:=fun m hm=>by
  have hx:=h.nm m (congrArg Option.isSome hm)
  rw [← pts_nms] at hx
  exact ea1_2 (List.mem_map.mp hx) fun x hx e=>(pts_pt h.pt x hx).elim fun k hk=>e ▸ pt_mn hk (h.md x hx)
end
end Mine
end
noncomputable section
namespace Mine
open PySem
section
variable {P:Prog} {C:Calls} {ρ:Fm} {B H:AH} {K:KS} {R:QE} {X:XE} {ss:List St} {nm:Nm} {e:Ex} {x:V} {ks:List Nm} {vs:List V}
theorem ins_g {b:Nat} (g0:H[b]? = some (.ns ks vs)) (g1:H[b + 1]? = some (.inst 0 b)):insOf H (.ref (b + 1)) = some (b,ks,vs):=by
 show (H[b + 1]?.bind O.ins).bind _ = _
 rw [g1]
 show (H[b]?.bind O.nms).map _ = _
 rw [g0]
 rfl
theorem sa_g {b:Nat} (g0:H[b]? = some (.ns ks vs)) (g1:H[b + 1]? = some (.inst 0 b)) (hl:ks.length ≤ 1000):setAttrV (.ref (b + 1)) nm x H = some (H.set b (.ns (dput nm x ks vs).1 (dput nm x ks vs).2)):=by
 show (insOf H (.ref (b + 1))).bind _ = _
 rw [ins_g g0 g1]
 exact if_pos hl
theorem st_sg {b:Nat} (hρ:ρ[0]? = some (some (.ref (b + 1)))) (he:∀ Q:QE,Q x H→wpE P C e ρ B Q X) (g0:H[b]? = some (.ns ks vs)) (g1:H[b + 1]? = some (.inst 0 b)) (hl:ks.length ≤ 1000) (k:wpSs P C ss ρ (H.set b (.ns (dput nm x ks vs).1 (dput nm x ks vs).2)) K R X):wpSs P C (.setAttr (.var 0) nm e :: ss) ρ B K R X :=
 he _ (ev_var (P:=P) (C:=C) (X:=X) hρ _ (by rw [sa_g g0 g1 hl]; exact k))
end
section
variable {π:PI} {n:Nat} {B H:AH} {K:KS} {Q:QE} {X:XE} {r:Nat} {v:V} {qu:AL Nat}
theorem iv0 (h:Plan π v) (hq:qu.map (·.1) = (pts 7 v).flatMap wkN):Iv π (hst0 qu) where
 gd:=⟨fun _ z=>absurd z Bool.false_ne_true,fun _ z=>absurd z Bool.false_ne_true,Nat.le_refl _,Nat.le_refl _,Nat.le_refl _,Nat.le_refl _,fun _ z=>absurd z Bool.false_ne_true⟩
 up:=fun _ _ _ z=>absurd z Bool.false_ne_true
 nm:=fm0
 qk:=fun m=>by
  show ((qu.map fun p=>(p.1,(p.2,([]:List (Nat × V))))).map (·.1)).contains m = true ↔ _
  rw [List.map_map,show ((·.1) ∘ fun p:Nm × Nat=>(p.1,(p.2,([]:List (Nat × V))))) = (·.1) from rfl,hq,List.contains_iff_mem]
  exact wkN_mem (pts_pt h.pt) fun z=>pts_nms.symm ▸ h.nm m z
 lv:=fun p hp=>ea1_2 (List.mem_map.mp hp) fun q _ e=>e ▸ fm0
 lq:=by
  show (qu.map _).length ≤ 60
  rw [List.length_map,← List.length_map (f:=(·.1)),hq]
  exact Nat.le_trans wkN_len (Nat.le_trans (Nat.le_of_eq ((List.length_map nameOf).symm.trans (congrArg List.length pts_nms))) h.le)
theorem init2 {o:Option V} (h:Plan π v) (c:Cl B (NL B.length r v (pts 7 v) ((pts 7 v).map nameOf) (pvF (pts 7 v)) (chF (nameOf v) (pts 7 v)) qu) H) (hq:qu.map (·.1) = (pts 7 v).flatMap wkN) (hb:B.length ≤ H.length)
  (q:∀ e S H',At π (adr B v (pts 7 v) (nameOf v) e) S H'→S.letters = 0→S.ev.length ≤ 60→S.clock = 0→(∀ c,kpt S c = [])→Q .none H') :
  wpSs PL (callF PL (n + 8)) (fn32.body.drop 10) [some (.ref (B.length + 1)),some v,o] H (fun _ H'=>Q .none H') Q X:=by
 have nd:((pts 7 v).map nameOf).Nodup:=pts_nms.symm ▸ h.nd
 have ln:(nms 7 v).length ≤ 60:=h.le
 refine st_sg (x:=.int 0) (H:=H) rfl (fun Q q=>q) (c.get 0 rfl) (c.get 1 rfl) (Nat.le_of_ble_eq_true rfl) ?_
 have c1:=c.set 0 (o':=.ns (dput ['c','l','o','c','k'] (.int 0) (hk.take 8) (hv8 B.length v)).1 (dput ['c','l','o','c','k'] (.int 0) (hk.take 8) (hv8 B.length v)).2) rfl
 refine st_sg (x:=.int 0) rfl (fun Q q=>q) (c1.get 0 rfl) (c1.get 1 rfl) (Nat.le_of_ble_eq_true rfl) ?_
 have c2:=c1.set 0 (o':=.ns (hk.take 10) (hv8 B.length v ++ [.int 0,.int 0])) rfl
 have c3:=c2.new (.list []) (Nat.le_trans hb (Nat.le_of_eq (List.length_set.trans List.length_set).symm))
 refine st_sg (x:=.ref _) rfl (fun Q q=>wp_nil q) (c3.get 0 rfl) (c3.get 1 rfl) (Nat.le_of_ble_eq_true rfl) ?_
 have hs:=hs_of nd hq (c3.set 0 (o':=.ns hk (hv8 B.length v ++ [.int 0,.int 0,.ref _])) rfl)
 have iv:=iv0 h hq
 refine st_meth hs rfl rfl (ev_var rfl) (f_begin (n:=n + 1) h.pt hs iv.gd (Nat.le_trans (Nat.add_le_add_left ln _) (Nat.le_of_ble_eq_true rfl)) fun S' H' hs' gd' sp=>?_)
 have hh:∀ m,here S' m = true ↔ m ∈ nms 7 v:=fun m=>by
  rw [sp.hr]
  exact beg_t.trans ⟨fun z=>z.elim id fun z=>absurd z Bool.false_ne_true,.inl⟩
 have up:Up π (here S'):=fun a m e z=>by
  have z:=(hh a).mp z
  rw [← pts_nms] at z
  refine ea1_2 (List.mem_map.mp z) fun x hx ex=>ea2_3 (h.rt (B:=B) (e:=r) x hx) fun d k q1 q2 q3=>?_
  cases d with
  | zero=>exact absurd (q3 rfl ▸ ex ▸ e) (h.top m)
  | succ d=>exact ea1_3 q2.2 fun w hw hx _=>(hh m).mpr (h.nm m (Option.some.inj ((ch_kid hw.rd.pt hx).symm.trans (ex ▸ e)) ▸ congrArg Option.isSome (pt_w hw.rd.pt)))
 have ek:∀ c,kpt S' c = []:=fun c=>by
  rw [sp.kp,kp_fold]
  exact ite_self _
 refine q _ S' H' ⟨hs',iv.plain sp gd' up,fun w hw _=>?_⟩ sp.lt ?_ sp.ck ek
 ·rw [ek]; exact (h.pl (B:=B) (e:=r)).mn w hw
 ·rw [sp.ev]; exact Nat.le_trans (Nat.le_of_eq (List.length_map _)) ln
theorem cl0 {o₁ o₂:O} {all:List V} (kp:Kp (B ++ yS B.length v (nameOf v) o₁ o₂ 8) H) (hr:(B ++ yS B.length v (nameOf v) o₁ o₂ 8).length ≤ r) (hg:H[r]? = some (.list all)):Cl B (NL B.length r v all [] [] [(nameOf v,.none)] []) H:=by
 rw [List.length_append] at hr
 have g:∀ {j:Nat} {o:O},(yS B.length v (nameOf v) o₁ o₂ 8)[j]? = some o→H[B.length + j]? = some o∧B.length ≤ B.length + j:=fun {j o} e=>⟨(kp.2 _ (by rw [List.length_append]; exact Nat.add_lt_add_left (List.getElem?_eq_some_iff.mp e).1 _)).trans (get_b.trans e),Nat.le_add_right _ _⟩
 refine ⟨?_,fm1 (g (j:=0) rfl) (fm1 (g (j:=1) rfl) (fm1 (g (j:=4) rfl) (fm1 (g (j:=5) rfl) (fm1 (g (j:=6) rfl) (fm1 (g (j:=7) rfl) (fm1 (g (j:=8) rfl) (fm1 (g (j:=9) rfl) (fm1 (g (j:=10) rfl) (all1 ⟨hg,Nat.le_trans (Nat.le_add_right _ _) hr⟩))))))))),fun a ha=>(kp.2 a (Nat.lt_of_lt_of_le ha le_app)).trans (List.getElem?_append_left ha)⟩
 show ([0,1,4,5,6,7,8,9,10].map (B.length + ·) ++ [r]).Nodup
 refine List.nodup_append.mpr ⟨List.Pairwise.map _ (fun a b (h:a ≠ b) e=>h (Nat.add_left_cancel e)) (by decide:([0,1,4,5,6,7,8,9,10]:List Nat).Nodup),List.nodup_cons.mpr ⟨List.not_mem_nil,List.nodup_nil⟩,fun a ha b hb=>?_⟩
 refine ea1_2 (List.mem_map.mp ha) fun j hj e=>in1 hb ▸ e ▸ Nat.ne_of_lt (Nat.lt_of_lt_of_le (Nat.add_lt_add_left ?_ _) hr)
 exact (by decide:∀ j ∈ ([0,1,4,5,6,7,8,9,10]:List Nat),j < 11) j hj
theorem f29 (h:Plan π v) (q:∀ e S H',At π (adr B v (pts 7 v) (nameOf v) e) S H'→S.letters = 0→S.ev.length ≤ 60→S.clock = 0→(∀ c,kpt S c = [])→Q .none H'):callF PL (n + 9) 32 [.ref (B.length + 1),v] (B ++ [.ns [] [],.inst 0 B.length]) Q X:=by
 have nl:(pts 7 v).length ≤ 60:=Nat.le_trans (Nat.le_of_eq ((List.length_map nameOf).symm.trans (congrArg List.length pts_nms))) h.le
 refine cf P_fn32 rfl (wp_p1 (wp_call1 (ev_var rfl) (f6 (n:=n + 5) h.pt (Nat.le_refl _) h.w h.nd h.le fun o₁ o₂=>hE rfl ?_)))
 rw [List.append_assoc]
 refine init1 h.pt ?_
 refine notes (n:=n + 7) (n0:=nameOf v) (fun Q q=>wp_call1 (ev_var rfl) (f7 (n:=n + 1) h.pt nl fun r H kp hr hg=>q r H (cl0 kp hr hg) (Nat.le_trans le_app kp.1))) (pts_pt h.pt) (pts_nms.symm ▸ h.nd) nl fun r o qu H' c hq hb=>init2 h c hq hb q
end
end Mine
end
noncomputable section
namespace Mine
open PySem
noncomputable def cA (i:Int):Char:=abc.getD i.toNat 'a'
noncomputable def inA (s:Nm):Prop:=∀ c ∈ s,c ∈ abc
theorem cA_get {i:Int} (h:0 ≤ i∧i < 26):abc[i.toNat]? = some (cA i):=by
 have l:i.toNat < abc.length:=show i.toNat < 26 from (Int.toNat_lt h.1).mpr h.2
 unfold cA
 rw [List.getD_eq_getElem?_getD,List.getElem?_eq_getElem l]; rfl
theorem cA_in {i:Int} (h:0 ≤ i∧i < 26):inA [cA i]:=all1 (List.mem_of_getElem? (cA_get h))
theorem cA_inj {i j:Int} (hi:0 ≤ i∧i < 26) (hj:0 ≤ j∧j < 26) (e:cA i = cA j):i = j:=by
 have l:i.toNat < abc.length:=show i.toNat < 26 from (Int.toNat_lt hi.1).mpr hi.2
 have z:=(List.getElem?_inj l (by decide:abc.Nodup)).mp ((cA_get hi).trans ((congrArg some e).trans (cA_get hj).symm))
 rw [← Int.toNat_of_nonneg hi.1,← Int.toNat_of_nonneg hj.1,z]
theorem inA_app {s t:Nm} (h:inA s) (h':inA t):inA (s ++ t):=app_all h h'
theorem inA_sl {s:Nm} {a b:Nat} (h:inA s):inA (sliceL s a b):=fun c hc=>h c (List.mem_of_mem_take (List.mem_of_mem_drop hc))
theorem clip_nat {n j:Nat} (h:j ≤ n):clip n (j:Int) = j:=by
 unfold clip
 rw [if_neg (Int.not_lt.mpr (Int.natCast_nonneg j))]
 by_cases q:(j:Int) < n
 ·rw [if_pos q]; rfl
 ·rw [if_neg q]; exact Nat.le_antisymm (Int.ofNat_le.mp (Int.not_lt.mp q)) h
theorem sl0_len {s:Nm} {b:Nat} (h:b ≤ s.length):(sliceL s 0 b).length = b:=by
 unfold sliceL
 rw [List.drop_zero,List.length_take,Nat.min_eq_left h]
theorem sl1_len {s:Nm} {a:Nat}:(sliceL s a s.length).length = s.length - a:=by
 unfold sliceL
 rw [List.length_drop,List.length_take,Nat.min_self]
section
variable {P:Prog} {C:Calls} {ρ:Fm} {H:AH} {K:KS} {R:QE} {X:XE} {ss:List St} {m:Nat} {elt:Ex} {hd:Nm}
theorem pm_abc {i:Int} (h:0 ≤ i∧i < 26):primM P false .item [.str abc,.int i] H = some (.str [cA i],H):=by
 show ((idx 26 i).bind fun k=>(abc[k]?).map fun c=>V.str [c]).map _ = _
 rw [show idx 26 i = some i.toNat from (if_pos h.1).trans (if_pos h.2)]
 show ((abc[i.toNat]?).map _).map _ = _
 rw [cA_get h]; rfl
structure Nms (m:Nat) (f:Nat→Nm):Prop where
 ok:∀ k,k < m→nmOk (f k)
 inj:∀ j k,j < m→k < m→f j = f k→j = k
theorem ret_nm {f:Nat→Nm} (hm:m ≤ 60) (h1:ρ[1]? = some (some (.int m))) (he:∀ k:Nat,k < m→Ev P C (ρ ++ [some (.int k)]) H X elt (.str (f k))) (ok:Nms m f) (q:∀ f,Nms m f→R (.lst ((List.range m).map fun k=>.str (f k))) H):wpSs P C (.ret (.comp false elt (.prim false .range1 [.var 1]) none) :: ss) ρ H K R X :=
 ev_ret (ev_map (l:=List.range m) (f:=fun k:Nat=>V.int k) (g:=fun k=>V.str (f k)) (ev_p1 (ev_var h1) (pm_range1 ⟨by omega,by omega⟩)) (congrArg some ((show rngL 0 m = rngL (0:Nat) m from rfl).trans (rng_nat.trans (by rw [List.map_map,Nat.sub_zero]; exact List.map_congr_left fun k _=>congrArg (fun j:Nat=>V.int j) (Nat.zero_add k))))) (by rw [List.length_range]; exact Nat.le_trans hm (by decide)) fun k hk=>he k (List.mem_range.mp hk)) (q f ok)
theorem ok_len {s:Nm} {k:Nat} (h:inA s) (e:s.length = k + 1) (hk:k < 8):nmOk s:=⟨e ▸ Nat.succ_le_succ (Nat.zero_le k),e ▸ hk,h⟩
end
section
variable {n:Nat} {H:AH} {K:KS} {R:QE} {X:XE} {m:Nat} {hd:Nm} {c:Int}
theorem ok3 {l r:Nm} {x:Char} (hl:inA l) (hr:inA r) (hx:inA [x]) (h:l.length + r.length ≤ 6):nmOk (l ++ [x] ++ r):=⟨by rw [List.length_append,List.length_append]; exact Nat.le_trans (Nat.le_add_left 1 l.length) (Nat.le_add_right _ _),by rw [List.length_append,List.length_append,Nat.add_right_comm]; exact Nat.le_trans (Nat.succ_le_succ h) (by decide),inA_app (inA_app hl hx) hr⟩
theorem n7 {a:Int} {j k:Nat} (hj:j < 26) (hk:k < 26) (h:(a + 7 * j) % 26 = (a + 7 * k) % 26):j = k:=by omega
theorem n26 {j k:Nat} (h1:(j:Int) / 26 = k / 26) (h2:(j:Int) % 26 = k % 26):j = k:=by omega
theorem n60 {k m:Nat} (h:k < m) (hm:m ≤ 60):0 ≤ (k:Int) / 26∧(k:Int) / 26 < 26:=by omega
theorem f12c {r5 r7 r8:Option V} {w rs:Int} (hm:m ≤ 60) (hh:hd.length ≤ 6) (ha:inA hd) (q:∀ f,Nms m f→R (.lst ((List.range m).map fun k=>.str (f k))) H) :
  wpSs PL (callF PL n) (fn12.body.drop 8) [some (.int c),some (.int m),some (.str abc),some (.str hd),some (.int rs),r5,some (.int w),r7,r8] H K R X:=by
 have hs:hd.length ≤ sizeOf':=Nat.le_trans hh (by decide)
 refine ev_ite (ev_and (ev_p2 (ev_var rfl) ev_cst pm_lt) fun _=>ev_p2 (ev_var rfl) ev_cst pm_lt) (fun h=>?_) fun _=>?_
 ·have hm':m < 27:=Int.ofNat_lt.mp (of_decide_eq_true (Bool.and_eq_true_iff.mp h).2)
  refine ev_asg (ev_p3 (ev_var rfl) ev_cst (ev_p2 (ev_p2 (ev_var rfl) ev_cst (pm_fdiv (by decide) (by decide))) (ev_p2 (ev_p1 (ev_var rfl) pm_lens) ev_cst pm_add) (pm_mod (by omega))) (pm_sl_s hs)) (lt_b rfl) ?_
  refine ev_asg (ev_p3 (ev_var rfl) (ev_p1 (ev_var rfl) pm_lens) ev_cst (pm_sl_s' hs)) (lt_b rfl) ?_
  generalize hL:sliceL hd 0 _ = L
  generalize hR:sliceL hd _ _ = T
  have hLT:L.length + T.length ≤ 6:=by
   have e:L.length ≤ hd.length:=by rw [← hL]; unfold sliceL; rw [List.drop_zero,List.length_take]; exact Nat.min_le_right _ _
   have e2:T.length = hd.length - L.length:=by rw [← hR,clip_nat e]; exact sl1_len
   omega
  have hLa:inA L:=hL ▸ inA_sl ha
  have hTa:inA T:=hR ▸ inA_sl ha
  have h26:∀ k:Nat,0 ≤ (c / 7 + 7 * (k:Int)) % 26∧(c / 7 + 7 * (k:Int)) % 26 < 26:=fun k=>m_lt (by decide)
  refine ret_nm (f:=fun k=>L ++ [cA ((c / 7 + 7 * (k:Int)) % 26)] ++ T) hm rfl (fun k hk=>?_) ⟨fun k _=>ok3 hLa hTa (cA_in (h26 k)) hLT,fun j k hj hk e=>n7 (Nat.lt_of_lt_of_le hj (Nat.le_of_lt_succ hm')) (Nat.lt_of_lt_of_le hk (Nat.le_of_lt_succ hm')) (cA_inj (h26 j) (h26 k) (List.cons.inj (List.append_cancel_left (List.append_cancel_right e))).1)⟩ q
  refine ev_p2 (ev_p2 (ev_var rfl) (ev_p2 (ev_var rfl) (ev_p2 (ev_p2 (ev_p2 (ev_var rfl) ev_cst (pm_fdiv (by decide) (by decide))) (ev_p2 ev_cst (ev_var rfl) (pm_mul (by decide) ⟨by omega,by omega⟩)) pm_add) ev_cst (pm_mod (by decide))) (pm_abc (h26 k))) (pm_adds ?_)) (ev_var rfl) (pm_adds ?_)
  ·exact Nat.le_trans (Nat.succ_le_succ (Nat.le_trans (Nat.le_add_right _ _) hLT)) (by decide)
  ·rw [List.length_append,Nat.add_right_comm]; exact Nat.le_trans (Nat.succ_le_succ hLT) (by decide)
 ·have h26:∀ k:Nat,0 ≤ (k:Int) % 26∧(k:Int) % 26 < 26:=fun k=>m_lt (by decide)
  refine ret_nm (f:=fun k=>hd ++ [cA ((k:Int) / 26)] ++ [cA ((k:Int) % 26)]) hm rfl (fun k hk=>?_) ⟨fun k hk=>?_,fun j k hj hk e=>?_⟩ q
  ·refine ev_p2 (ev_p2 (ev_var rfl) (ev_p2 (ev_var rfl) (ev_p2 (ev_var rfl) ev_cst (pm_fdiv (by decide) (by decide))) (pm_abc (n60 hk hm))) (pm_adds ?_)) (ev_p2 (ev_var rfl) (ev_p2 (ev_var rfl) ev_cst (pm_mod (by decide))) (pm_abc (h26 k))) (pm_adds ?_)
   ·exact Nat.le_trans (Nat.succ_le_succ hh) (by decide)
   ·rw [List.length_append]; exact Nat.le_trans (Nat.succ_le_succ (Nat.succ_le_succ hh)) (by decide)
  ·exact ⟨by rw [List.length_append]; exact Nat.le_add_left 1 _,by rw [List.length_append,List.length_append]; exact Nat.succ_le_succ (Nat.succ_le_succ hh),inA_app (inA_app ha (cA_in (n60 hk hm))) (cA_in (h26 k))⟩
  ·have z:=List.append_inj' e rfl
   exact n26 (cA_inj (n60 hj hm) (n60 hk hm) (List.cons.inj (List.append_cancel_left z.1)).1) (cA_inj (h26 j) (h26 k) (List.cons.inj z.2).1)
end
end Mine
end
noncomputable section
namespace Mine
open PySem
section
variable {n:Nat} {H:AH} {K:KS} {Q:QE} {X:XE} {m:Nat} {c:Int}
noncomputable def NH (H0:AH) (c:Int) (m:Nat) (its:List Int) (ρ:Fm) (H:AH):Prop:=∃ hd rs o,H = H0∧ρ = [some (.int c),some (.int m),some (.str abc),some (.str hd),some (.int rs),o,none,none,none]∧hd.length + its.length = 8∧inA hd
theorem n9 {c d:Int} {m:Nat} (h:(eqV (.int c) (.int d) && decide ((m:Int) < 9)) = true):m ≤ 8:=Nat.le_of_lt_succ (Int.ofNat_lt.mp (of_decide_eq_true (Bool.and_eq_true_iff.mp h).2))
theorem f12 (hm:m ≤ 60) (q:∀ f,Nms m f→Q (.lst ((List.range m).map fun k=>.str (f k))) H):callF PL (n + 1) 12 [.int c,.int m] H Q X:=by
 refine cf P_fn12 rfl (ev_asg ev_cst (lt_b rfl) (ev_asg ev_cst (lt_b rfl) (ev_asg (ev_p2 (ev_var rfl) ev_cst (pm_fdiv (by decide) (by decide))) (lt_b rfl) (ev_forM (NH H c m) (f:=V.int) (l:=[0,1,2,3,4,5,6,7]) (v:=.rng 0 8) (ev_p1 ev_cst (pm_range1 ⟨by decide,by decide⟩)) (fun _ _ _ _=>rfl) (by decide) ⟨[],_,none,rfl,rfl,rfl,fm0⟩ (fun x xs ρ' H' hI K' hK=>ea3_4 hI fun hd rs o e0 e hl ha=>?_) fun ρ' H' hI=>ea3_4 hI fun hd rs o e0 e hl ha=>?_))))
 ·subst e e0
  have h:=m_lt (a:=rs) (b:=26) (by decide)
  refine ev_asg (ev_p2 (ev_var rfl) (ev_p2 (ev_var rfl) (ev_p2 (ev_var rfl) ev_cst (pm_mod (by decide))) (pm_abc h)) (pm_adds ?_)) (lt_b rfl) (ev_asg (ev_p2 (ev_var rfl) ev_cst (pm_fdiv (by decide) (by decide))) (lt_b rfl) (hK _ _ ⟨_,_,_,rfl,rfl,?_,inA_app ha (cA_in h)⟩))
  ·exact Nat.le_trans (Nat.succ_le_succ (Nat.le_trans (Nat.le_add_right _ _) (Nat.le_of_eq hl))) (by decide)
  ·rw [List.length_append,Nat.add_assoc,Nat.add_comm _ xs.length]; exact hl
 ·subst e e0
  have hl:hd.length = 8:=hl
  have hs:hd.length ≤ sizeOf':=Nat.le_trans (Nat.le_of_eq hl) (by decide)
  refine ev_asg (ev_p2 (ev_var rfl) ev_cst (pm_mod (by decide))) (lt_b rfl) (ev_ite (ev_and (ev_p2 (ev_var rfl) ev_cst (pm_eq rd_int rd_int)) fun _=>ev_p2 (ev_var rfl) ev_cst pm_lt) (fun h=>?_) fun _=>ev_ite (ev_and (ev_p2 (ev_var rfl) ev_cst (pm_eq rd_int rd_int)) fun _=>ev_p2 (ev_var rfl) ev_cst pm_lt) (fun h=>?_) fun _=>?_)
  ·have h8:∀ {k},k < m→k + 1 ≤ hd.length:=fun hk=>hl ▸ Nat.le_trans hk (n9 h)
   have e:∀ {k},k < m→(sliceL hd 0 (k + 1)).length = k + 1:=fun hk=>sl0_len (h8 hk)
   exact ret_nm (f:=fun k=>sliceL hd 0 (k + 1)) hm rfl (fun k hk=>ev_p3 (ev_var rfl) ev_cst (ev_p2 (ev_var rfl) ev_cst pm_add) ((pm_sl_s hs).trans (congrArg (fun t=>some (V.str (sliceL hd 0 t),H')) (clip_nat (j:=k + 1) (h8 hk))))) ⟨fun k hk=>ok_len (inA_sl ha) (e hk) (Nat.le_trans hk (n9 h)),fun j k hj hk z=>Nat.succ.inj ((e hj).symm.trans ((congrArg List.length z).trans (e hk)))⟩ q
  ·have hk8:m ≤ 8:=n9 h
   have e0:∀ {k},k < m→8 - (7 - k) = k + 1:=fun hk=>by omega
   have e:∀ {k},k < m→(sliceL hd (7 - k) hd.length).length = k + 1:=fun hk=>sl1_len.trans (hl.symm ▸ e0 hk)
   refine ret_nm (f:=fun k=>sliceL hd (7 - k) hd.length) hm rfl (fun k hk=>ev_p3 (ev_var rfl) (ev_p2 ev_cst (ev_var rfl) pm_sub) ev_cst ((pm_sl_s' hs).trans (congrArg (fun t=>some (V.str (sliceL hd t hd.length),H')) ?_))) ⟨fun k hk=>ok_len (inA_sl ha) (e hk) (Nat.le_trans hk hk8),fun j k hj hk z=>Nat.succ.inj ((e hj).symm.trans ((congrArg List.length z).trans (e hk)))⟩ q
   rw [show (7:Int) - k = ((7 - k:Nat):Int) from (Int.ofNat_sub (Nat.le_of_lt_succ (Nat.le_trans hk hk8))).symm]
   exact clip_nat (hl ▸ Nat.le_trans (Nat.sub_le _ _) (by decide))
  ·have h7:=m_lt (a:=c / 6) (b:=7) (by decide)
   refine ev_asg (ev_p3 (ev_var rfl) ev_cst (ev_p2 (ev_p2 (ev_var rfl) ev_cst (pm_fdiv (by decide) (by decide))) ev_cst (pm_mod (by decide))) (pm_sl_s hs)) (lt_b rfl) (f12c hm ?_ (inA_sl ha) q)
   have h6:(c / 6 % 7).toNat ≤ 6:=Nat.le_of_lt_succ ((Int.toNat_lt h7.1).mpr h7.2)
   rw [← Int.toNat_of_nonneg h7.1,clip_nat (hl.symm ▸ Nat.le_trans h6 (by decide)),sl0_len (hl.symm ▸ Nat.le_trans h6 (by decide))]
   exact h6
end
end Mine
end
noncomputable section
namespace Mine
open PySem
set_option genInjectivity false in
structure Nd where
 d:Nat
 a:Nat
 up:Int
 w:Bool
 deep:Nat
 inner:List Nat
 cell:Int
noncomputable def ndK:List Nm:=[['u','p'],['w','a','r','d','e','n'],['d','e','e','p'],['i','n','n','e','r'],['c','e','l','l']]
noncomputable def ndV (x:Nd):List V:=[.int x.up,.bool x.w,.int x.deep,.ref x.a,.int x.cell]
noncomputable def iN (x:Nd):O:=.list (x.inner.map ni)
noncomputable def ndC (x:Nd):List (Nat × O):=[(x.a,iN x),(x.d,.dict ndK (ndV x))]
noncomputable def LN (r:Nat) (ns:List Nd):List (Nat × O):=(r,.list (ns.map fun x=>.ref x.d)) :: ns.flatMap ndC
noncomputable def GN (r:Nat) (ns:List Nd) (H:AH):Prop:=∀ p ∈ LN r ns,H[p.1]? = some p.2
section
variable {P:Prog} {C:Calls} {ρ:Fm} {B H:AH} {K:KS} {R:QE} {X:XE} {ss:List St} {r i j k:Nat} {ns:List Nd} {x:Nd} {key:Nm} {v:V}
theorem Cl.gn (c:Cl B (LN r ns) H):GN r ns H:=fun p hp=>(c.cell p hp).1
theorem GN.row (g:GN r ns H):H[r]? = some (.list (ns.map fun x=>.ref x.d)):=g _ (.head _)
theorem GN.inn (g:GN r ns H) (hj:ns[j]? = some x):H[x.a]? = some (iN x):=g _ (.tail _ (List.mem_flatMap.mpr ⟨x,List.mem_of_getElem? hj,.head _⟩))
theorem GN.dic (g:GN r ns H) (hj:ns[j]? = some x):H[x.d]? = some (.dict ndK (ndV x)):=g _ (.tail _ (List.mem_flatMap.mpr ⟨x,List.mem_of_getElem? hj,.tail _ (.head _)⟩))
theorem idx_nat {n j:Nat} (h:j < n):idx n (j:Int) = some j:=(if_pos (Int.natCast_nonneg j)).trans (if_pos (Int.ofNat_lt.mpr h))
theorem pm_itr {vs:List V} (h:H[r]? = some (.list vs)) (hj:vs[j]? = some v):primM P false .item [.ref r,.int j] H = some (v,H):=by
 show ((H[r]?.bind O.lst).bind fun vs=>(idx vs.length j).bind fun j=>vs[j]?).map _ = _
 rw [h]
 show ((idx vs.length j).bind fun j=>vs[j]?).map _ = _
 rw [idx_nat (List.getElem?_eq_some_iff.mp hj).1]
 exact congrArg (Option.map _) hj
theorem pm_itl {vs:List V} (hj:vs[j]? = some v):primM P false .item [.lst vs,.int j] H = some (v,H):=by
 show ((idx vs.length j).bind fun j=>vs[j]?).map _ = _
 rw [idx_nat (List.getElem?_eq_some_iff.mp hj).1]
 exact congrArg (Option.map _) hj
theorem ev_nd (g:GN r ns H) (hj:ns[j]? = some x) (h:ρ[i]? = some (some (.ref r))) (hk:ρ[k]? = some (some (.int j))):Ev P C ρ H X (.prim false .item [.var i,.var k]) (.ref x.d) :=
 ev_p2 (ev_var h) (ev_var hk) (pm_itr g.row (by rw [List.getElem?_map,hj]; rfl))
theorem ev_nk (g:GN r ns H) (hj:ns[j]? = some x) (h:ρ[i]? = some (some (.ref r))) (hk:ρ[k]? = some (some (.int j))) (e:dget key ndK (ndV x) = some v):Ev P C ρ H X (.prim false .item [.prim false .item [.var i,.var k],.cst (.str key)]) v :=
 ev_p2 (ev_nd g hj h hk) ev_cst (pm_dct (g.dic hj) e)
theorem ev_len (g:GN r ns H) (h:ρ[i]? = some (some (.ref r))):Ev P C ρ H X (.prim false .len [.var i]) (ni ns.length):=ev_eq (ev_p1 (ev_var h) (pm_lenr g.row)) (congrArg ni (List.length_map _))
theorem wp_node {a b c e:Ex} {u z:Int} {t:Bool} {dp:Nat} (ha:Ev P C ρ H X a (.int u)) (hb:Ev P C ρ H X b (.bool t)) (hc:Ev P C ρ H X c (.int dp)) (he:Ev P C ρ (H ++ [.list []]) X e (.int z)) (q:R (.ref (H.length + 1)) (H ++ [.list []] ++ [.dict ndK (ndV ⟨H.length + 1,H.length,u,t,dp,[],z⟩)])) :
  wpE P C (.prim true (.mkdict ndK) [a,b,c,.prim true .mklist [],e]) ρ H R X :=
 ha _ (hb _ (hc _ (wp_nil (he _ (show okE (primM P true (.mkdict ndK) (ndV ⟨H.length + 1,H.length,u,t,dp,[],z⟩) (H ++ [.list []])) R from hE rfl ((congrArg V.ref (List.length_append (as:=H) (bs:=[O.list []]))).symm ▸ q))))))
theorem fl_set {y:Nd}:∀ {ns:List Nd} {u:Nat} {x:Nd},ns[u]? = some x→y.a = x.a∧y.d = x.d∧ndV y = ndV x→(ns.flatMap ndC).set (2 * u) (x.a,iN y) = (ns.set u y).flatMap ndC:=by
 intro ns
 induction ns with
 | nil=>exact fun h=>nomatch h
 | cons z ns ih =>
  intro u x h e
  cases u with
  | zero =>
   have h:z = x:=Option.some.inj h
   subst h
   show (z.a,iN y) :: (z.d,.dict ndK (ndV z)) :: ns.flatMap ndC = (y.a,iN y) :: (y.d,.dict ndK (ndV y)) :: ns.flatMap ndC
   rw [e.1,e.2.1,e.2.2]
  | succ u=>exact congrArg (fun t=>(z.a,iN z) :: (z.d,O.dict ndK (ndV z)) :: t) (ih (u:=u) h e)
theorem fl_get:∀ {ns:List Nd} {u:Nat} {x:Nd},ns[u]? = some x→(ns.flatMap ndC)[2 * u]? = some (x.a,iN x):=by
 intro ns
 induction ns with
 | nil=>exact fun h=>nomatch h
 | cons z ns ih =>
  intro u x h
  cases u with
  | zero=>exact congrArg (fun z=>some (z.a,iN z)) (Option.some.inj h)
  | succ u=>exact ih (u:=u) h
noncomputable def adI (y:Nd) (n:Nat):Nd:={ y with inner:=y.inner ++ [n] }
theorem set_ds {u:Nat} {y:Nd} {m:Nat} (h:ns[u]? = some y):(ns.set u (adI y m)).map (fun x=>V.ref x.d) = ns.map fun x=>V.ref x.d:=by
 rw [List.map_set]
 refine List.ext_getElem? fun l=>?_
 rw [List.getElem?_set]
 by_cases q:u = l
 ·subst q
  rw [if_pos rfl,List.getElem?_map,h]
  exact if_pos (by rw [List.length_map]; exact (List.getElem?_eq_some_iff.mp h).1)
 ·rw [if_neg q]
theorem Cl.push {u:Nat} {y:Nd} (c:Cl B (LN r ns) H) (h:ns[u]? = some y) (m:Nat):Cl B (LN r (ns.set u (adI y m))) (H.set y.a (.list (y.inner.map ni ++ [ni m]))):=by
 have z:=c.set (2 * u + 1) (a:=y.a) (o':=iN (adI y m)) (fl_get h)
 unfold LN
 rw [set_ds h,← fl_set (y:=adI y m) h ⟨rfl,rfl,rfl⟩,show O.list (y.inner.map ni ++ [ni m]) = iN (adI y m) from congrArg O.list (List.map_append (f:=ni) (l₁:=y.inner) (l₂:=[m])).symm]
 exact z
theorem add_nd {e1 e2 e5:Ex} {u:Nat} {y:Nd} {z:Int} {t:Bool} (c:Cl B (LN r ns) H) (hb:B.length ≤ H.length) (hu:ns[u]? = some y) (hl:ns.length ≤ 60) (hil:y.inner.length ≤ 60) (h2:ρ[2]? = some (some (.ref r))) (hi:ρ[i]? = some (some (.int u))) (h8:8 < ρ.length) (hi8:i ≠ 8)
  (h1:∀ H,Ev P C (ρ.set 8 (some (ni (y.deep + 1)))) H X e1 (.int u)) (h3:∀ H,Ev P C (ρ.set 8 (some (ni (y.deep + 1)))) H X e2 (.bool t)) (h5:∀ H,GN r (ns.set u (adI y ns.length)) H→Ev P C (ρ.set 8 (some (ni (y.deep + 1)))) H X e5 (.int z))
  (q:∀ d a H',Cl B (LN r (ns.set u (adI y ns.length) ++ [⟨d,a,u,t,y.deep + 1,[],z⟩])) H'→B.length ≤ H'.length→wpSs P C ss (ρ.set 8 (some (ni (y.deep + 1)))) H' K R X) :
  wpSs P C (.expr (.mcall .list false .append (.prim false .item [.prim false .item [.var 2,.var i],.cst (.str ['i','n','n','e','r'])]) [.prim false .len [.var 2]]) ::
   .asg 8 (.prim false (.bop .add) [.prim false .item [.prim false .item [.var 2,.var i],.cst (.str ['d','e','e','p'])],.cst (.int 1)]) ::
   .expr (.mcall .list false .append (.var 2) [.prim true (.mkdict ndK) [e1,e2,.var 8,.prim true .mklist [],e5]]) :: ss) ρ H K R X:=by
 have sz:∀ {j:Nat},j ≤ 60→j ≤ sizeOf':=fun h=>Nat.le_trans h (by decide)
 have g:=c.gn
 refine st_mc1 (ev_nk g hu h2 hi rfl) (ty_list (g.inn hu)) (ev_len g h2) (hE (pm_append (g.inn hu) (Nat.le_trans (Nat.le_of_eq (List.length_map _)) (sz hil))) ?_)
 have c1:=c.push hu ns.length
 have hu1:(ns.set u (adI y ns.length))[u]? = some (adI y ns.length):=List.getElem?_set_self (List.getElem?_eq_some_iff.mp hu).1
 refine ev_asg (v:=ni (y.deep + 1)) (ev_p2 (ev_nk c1.gn hu1 h2 hi rfl) ev_cst pm_add) h8 ?_
 have h2':(ρ.set 8 (some (ni (y.deep + 1))))[2]? = some (some (.ref r)):=(List.getElem?_set_ne (by decide)).trans h2
 have hb1:=Nat.le_trans hb (Nat.le_of_eq (List.length_set (as:=H) (i:=y.a) (a:=O.list (y.inner.map ni ++ [ni ns.length]))).symm)
 have c2:=c1.new (.list []) hb1
 have c3:=c2.new (.dict ndK (ndV ⟨(H.set y.a (.list (y.inner.map ni ++ [ni ns.length]))).length + 1,(H.set y.a (.list (y.inner.map ni ++ [ni ns.length]))).length,u,t,y.deep + 1,[],z⟩)) (Nat.le_trans hb1 le_app)
 refine st_expr (wp_mc (ev_var h2') (ty_list c1.gn.row) (wp_node (h1 _) (h3 _) (ev_var (List.getElem?_set_self h8)) (h5 _ fun p hp=>app_get (c1.gn p hp)) (hE (pm_append (c3.get 0 rfl) ?_) ?_)))
 ·rw [List.length_map,List.length_set]; exact sz hl
 ·refine q ((H.set y.a (.list (y.inner.map ni ++ [ni ns.length]))).length + 1) (H.set y.a (.list (y.inner.map ni ++ [ni ns.length]))).length _ ?_ (Nat.le_trans hb1 (Nat.le_trans le_app (Nat.le_trans le_app (Nat.le_of_eq List.length_set.symm))))
  have c4:=c3.set 0 (o':=.list ((ns.set u (adI y ns.length)).map (fun x=>.ref x.d) ++ [.ref ((H.set y.a (.list (y.inner.map ni ++ [ni ns.length]))).length + 1)])) rfl
  have e:∀ {x:Nd} {l:List Nd} {o:O},LN r (l ++ [x]) = (r,.list (l.map (fun x=>.ref x.d) ++ [.ref x.d])) :: (l.flatMap ndC ++ [(x.a,iN x)] ++ [(x.d,.dict ndK (ndV x))]):=fun {x l o}=>by
   unfold LN
   rw [List.map_append,List.flatMap_append,List.append_assoc]; rfl
  rw [e (o:=.list [])]
  rw [show (H.set y.a (.list (y.inner.map ni ++ [ni ns.length])) ++ [O.list []]).length = (H.set y.a (.list (y.inner.map ni ++ [ni ns.length]))).length + 1 from List.length_append] at c4
  exact c4
end
end Mine
end
noncomputable section
namespace Mine
open PySem
structure Lim (y:Nd):Prop where
 le:y.inner.length ≤ 8
 nd:y.inner.Nodup
 dp:y.deep ≤ if y.w = true then 6 else 7
 wk:y.w = false→y.inner = []
structure Tr (ns:List Nd):Prop where
 top:∃ x,ns[0]? = some x∧x.w = true∧x.deep = 1
 tup:∀ (i:Nat) (x:Nd),ns[i]? = some x→i = 0→x.up = -1
 up:∀ (i:Nat) (x:Nd),ns[i]? = some x→0 < i→∃ (j:Nat) (y:Nd),ns[j]? = some y∧j < i∧x.up = j∧i ∈ y.inner
 inn:∀ (j:Nat) (y:Nd),ns[j]? = some y→∀ i ∈ y.inner,∃ x,ns[i]? = some x∧j < i∧x.up = j∧x.deep = y.deep + 1
 lim:∀ (j:Nat) (y:Nd),ns[j]? = some y→Lim y
section
variable {ns:List Nd} {u i:Nat} {x y z:Nd}
noncomputable def phi (u n i:Nat) (x:Nd):Nd:=if i = u then adI x n else x
theorem phi_of {F:Nd→Prop} (h:F x) (h':∀ l,F { x with inner:=l }) {n:Nat}:F (phi u n i x):=by
 unfold phi
 by_cases e:i = u
 ·rw [if_pos e]; exact h' _
 ·rw [if_neg e]; exact h
theorem phi_mem {n k:Nat} (h:k ∈ x.inner):k ∈ (phi u n i x).inner:=by
 unfold phi
 by_cases e:i = u
 ·rw [if_pos e]; exact List.mem_append_left _ h
 ·rw [if_neg e]; exact h
theorem set_fwd (hu:ns[u]? = some y) (h:ns[i]? = some x):(ns.set u (adI y ns.length) ++ [z])[i]? = some (phi u ns.length i x):=by
 have l:=(List.getElem?_eq_some_iff.mp h).1
 rw [List.getElem?_append_left (List.length_set.symm ▸ l),List.getElem?_set]
 unfold phi
 by_cases e:u = i
 ·subst e
  rw [if_pos rfl,if_pos l,if_pos rfl,Option.some.inj (hu.symm.trans h)]
 ·rw [if_neg e,if_neg (Ne.symm e)]; exact h
theorem set_new:(ns.set u (adI y ns.length) ++ [z])[ns.length]? = some z:=by
 have:=List.getElem?_concat_length (l:=ns.set u (adI y ns.length)) (a:=z)
 rw [List.length_set] at this
 exact this
theorem set_bwd {F:Nat→Nd→Prop} (hu:ns[u]? = some y) (hz:F ns.length z) (ho:∀ (i:Nat) (x:Nd),ns[i]? = some x→F i (phi u ns.length i x)):∀ (i:Nat) (x:Nd),(ns.set u (adI y ns.length) ++ [z])[i]? = some x→F i x:=by
 intro i x h
 have l:=(List.getElem?_eq_some_iff.mp h).1
 rw [List.length_append,List.length_set] at l
 by_cases e:i = ns.length
 ·subst e
  exact Option.some.inj (set_new.symm.trans h) ▸ hz
 ·have l:i < ns.length:=Nat.lt_of_le_of_ne (Nat.le_of_lt_succ l) e
  have h':=List.getElem?_eq_getElem l
  exact Option.some.inj ((set_fwd hu h').symm.trans h) ▸ ho i _ h'
theorem Tr.add (T:Tr ns) (hu:ns[u]? = some y) (hy:y.w = true) (hl:y.inner.length < 8) (hz:z.up = u∧z.deep = y.deep + 1∧z.inner = []∧(z.w = true→y.deep < 6)):Tr (ns.set u (adI y ns.length) ++ [z]) where
 top:=ea1_3 T.top fun x h0 hw hd=>⟨_,set_fwd hu h0,phi_of (F:=fun x=>x.w = true) hw fun _=>hw,phi_of (F:=fun x=>x.deep = 1) hd fun _=>hd⟩
 tup:=set_bwd hu (fun z=>absurd (z ▸ (List.getElem?_eq_some_iff.mp hu).1) (Nat.not_lt_zero u)) fun i x h z=>phi_of (F:=fun x=>x.up = -1) (T.tup i x h z) fun _=>T.tup i x h z
 up:=set_bwd hu (fun _=>⟨u,_,set_fwd hu hu,(List.getElem?_eq_some_iff.mp hu).1,hz.1,by unfold phi; rw [if_pos rfl]; exact List.mem_append_right _ (.head _)⟩) fun i x h hi=>ea2_4 (T.up i x h hi) fun j w hj hji e hm=>⟨j,_,set_fwd hu hj,hji,phi_of (F:=fun x=>x.up = j) e fun _=>e,phi_mem hm⟩
 inn:=set_bwd hu (hz.2.2.1.symm ▸ fm0) fun j w h k hk=>by
  have old:k ∈ w.inner→∃ x,(ns.set u (adI y ns.length) ++ [z])[k]? = some x∧j < k∧x.up = j∧x.deep = (phi u ns.length j w).deep + 1:=fun hk=>ea1_4 (T.inn j w h k hk) fun x hx l e d=>⟨_,set_fwd hu hx,l,phi_of (F:=fun x=>x.up = j) e fun _=>e,phi_of (F:=fun t=>(phi u ns.length k x).deep = t.deep + 1) (phi_of (F:=fun x=>x.deep = w.deep + 1) d fun _=>d) fun _=>phi_of (F:=fun x=>x.deep = w.deep + 1) d fun _=>d⟩
  by_cases e:j = u
  ·subst e
   have ew:=Option.some.inj (hu.symm.trans h)
   subst ew
   unfold phi at hk
   rw [if_pos rfl] at hk
   refine (List.mem_append.mp hk).elim old fun hk=>⟨z,by rw [in1 hk]; exact set_new,in1 hk ▸ (List.getElem?_eq_some_iff.mp hu).1,hz.1,?_⟩
   unfold phi
   rw [if_pos rfl]; exact hz.2.1
  ·unfold phi at hk
   rw [if_neg e] at hk
   exact old hk
 lim:=set_bwd hu ⟨hz.2.2.1.symm ▸ Nat.zero_le _,hz.2.2.1.symm ▸ List.nodup_nil,by
   have d:=(T.lim u y hu).dp
   rw [hy,if_pos rfl] at d
   rw [hz.2.1]
   by_cases e:z.w = true
   ·rw [if_pos e]; exact hz.2.2.2 e
   ·rw [if_neg e]; exact Nat.succ_le_succ d,fun _=>hz.2.2.1⟩ fun j w h=>by
  have L:=T.lim j w h
  unfold phi
  by_cases e:j = u
  ·subst e
   have ew:=Option.some.inj (hu.symm.trans h)
   subst ew
   rw [if_pos rfl]
   refine ⟨by show (y.inner ++ [ns.length]).length ≤ 8; rw [List.length_append]; exact hl,List.nodup_append.mpr ⟨L.nd,List.nodup_cons.mpr ⟨List.not_mem_nil,List.nodup_nil⟩,fun a ha b hb=>?_⟩,L.dp,fun q=>absurd (hy.symm.trans q) Bool.noConfusion⟩
   exact in1 hb ▸ ea1_4 (T.inn _ _ hu a ha) fun x hx _ _ _=>Nat.ne_of_lt (List.getElem?_eq_some_iff.mp hx).1
  ·rw [if_neg e]; exact L
end
end Mine
end
noncomputable section
namespace Mine
open PySem
noncomputable def stB:St→List St
 | .forIn _ _ _ b=>b
 | _=>[]
section
variable {n:Nat} {B H:AH} {K:KS} {Q:QE} {X:XE} {zs:List Int} {m r:Nat} {ns:List Nd}
theorem f10 {i:Int} (h:0 ≤ i) (q:Q (.int (zs.getD i.toNat 0)) H):callF PL (n + 1) 10 [.lst (zs.map V.int),.int i] H Q X:=by
 refine cf P_fn10 rfl (ev_ite (ev_p2 (ev_var rfl) (ev_p1 (ev_var rfl) pm_lenl) pm_lt) (fun hd=>?_) fun hd=>?_)
 ·have hl:i.toNat < zs.length:=(Int.toNat_lt h).mpr (List.length_map V.int ▸ of_decide_eq_true hd)
  have e:(zs.map V.int)[i.toNat]? = some (.int (zs.getD i.toNat 0)):=by rw [List.getElem?_map,List.getD_eq_getElem?_getD,List.getElem?_eq_getElem hl]; rfl
  refine ev_ret (ev_p2 (ev_var rfl) (ev_var rfl) ?_) q
  have z:=pm_itl (P:=PL) (H:=H) e
  rw [Int.toNat_of_nonneg h] at z
  exact z
 ·have hd:=Int.not_lt.mp (of_decide_eq_false hd)
  rw [List.length_map,← Int.toNat_of_nonneg h] at hd
  have hl:zs.length ≤ i.toNat:=Int.ofNat_le.mp hd
  rw [List.getD_eq_getElem?_getD,List.getElem?_eq_none hl] at q
  exact ev_ret ev_cst q
noncomputable def frm (zs:List Int) (m r:Nat) (o:Nat→Option V):Fm:=[some (.lst (zs.map V.int)),some (ni m),some (.ref r),o 3,o 4,o 5,o 6,o 7,o 8]
theorem frm_ex {a b c d e f:Option V}:∃ o,[some (.lst (zs.map V.int)),some (ni m),some (.ref r),a,b,c,d,e,f] = frm zs m r o:=⟨fun i=>([a,b,c,d,e,f][i - 3]?).join,rfl⟩
noncomputable def NI1 (B:AH) (zs:List Int) (m r:Nat) (its:List Nat) (ρ:Fm) (H:AH):Prop:=∃ ns,(∃ o,ρ = frm zs m r o)∧Cl B (LN r ns) H∧Tr ns∧(ns.length + its.length ≤ m∧B.length ≤ H.length)∧∀ j ∈ its,j ≤ 60
noncomputable def fre (ns:List Nd) (j:Nat):Bool:=(ns[j]?).any fun x=>x.w && decide ((x.inner.length:Int) < 8)
theorem fre_of {u:Nat} (h:u ∈ (List.range ns.length).filter (fre ns)):∃ y,ns[u]? = some y∧y.w = true∧y.inner.length < 8:=by
 have h1:=List.mem_filter.mp h
 have e:=List.getElem?_eq_getElem (List.mem_range.mp h1.1)
 have h2:=h1.2
 unfold fre at h2
 rw [e] at h2
 have h2:=Bool.and_eq_true_iff.mp h2
 exact ⟨_,e,h2.1,Int.ofNat_lt.mp (of_decide_eq_true h2.2)⟩
theorem pick_ni {P:Prog} {l:List Nat} {z:Int} (h:l ≠ []):∃ w,w ∈ l∧primM P false .item [.lst (l.map ni),.int (z % ((l.map ni).length:Int))] H = some (ni w,H):=by
 have hp:0 < ((l.map ni).length:Int):=by rw [List.length_map]; exact Int.ofNat_lt.mpr (List.length_pos_iff.mpr h)
 exact ea1_2 (pm_pick (P:=P) (H:=H) (m_lt (a:=z) hp).1 (m_lt (a:=z) hp).2) fun v hv e=>ea1_2 (List.mem_map.mp hv) fun w hw ew=>⟨w,hw,ew ▸ e⟩
theorem ne_ni {l:List Nat}:(!eqV (.lst (l.map ni)) (.lst [])) = true→l ≠ []:=fun h e=>by subst e; exact absurd h Bool.false_ne_true
theorem n12 {k:Nat} (h:k ≤ 60):-10 ^ 12 ≤ (k:Int) / 10∧(k:Int) / 10 ≤ 10 ^ 12:=by omega
theorem n13 {a b m:Nat} (h:a + (b + 1) ≤ m):a + 1 + b ≤ m∧a + b ≤ m∧a ≤ m:=by omega
theorem turn1 {k:Nat} {its:List Nat} {o:Nat→Option V} {K':KS} (hm:m ≤ 30) (c:Cl B (LN r ns) H) (T:Tr ns) (hl:ns.length + (its.length + 1) ≤ m) (hb:B.length ≤ H.length) (hk:k ≤ 60) (hj:∀ j ∈ its,j ≤ 60) (hK:∀ ρ'' H'',NI1 B zs m r its ρ'' H''→K' ρ'' H'') :
  wpSs PL (callF PL (n + 1)) (stB (fn14.body.getD 1 .pass)) ((frm zs m r o).set 3 (some (ni k))) H K' Q X:=by
 have g:=c.gn
 have hl':=n13 hl
 refine ev_asg (ev_p2 (ev_call2 (ev_var rfl) (ev_p2 ev_cst (ev_p2 (ev_var rfl) ev_cst (pm_mod (by decide))) pm_add) fun Q q=>f10 (Int.add_nonneg (by decide) (m_lt (by decide)).1) q) (ev_p2 ev_cst (ev_p2 (ev_var rfl) ev_cst (pm_fdiv (by decide) (by decide))) (pm_mul (by decide) (n12 hk))) pm_add) (lt_b rfl) ?_
 generalize zs.getD _ 0 + 11 * ((k:Int) / 10) = z
 refine ev_asg (v:=.lst (((List.range ns.length).filter (fre ns)).map ni)) (ev_flt (l:=List.range ns.length) (f:=ni) (g:=ni) (p:=fre ns) (ev_p1 (ev_len g rfl) (pm_range1 ⟨by omega,by omega⟩)) ?_ ?_ (fun j hj=>?_) fun j _ _=>ev_var rfl) (lt_b rfl) ?_
 ·exact congrArg some ((show rngL 0 ns.length = rngL (0:Nat) ns.length from rfl).trans (rng_nat.trans (by rw [List.map_map,Nat.sub_zero]; exact List.map_congr_left fun k _=>congrArg ni (Nat.zero_add k))))
 ·rw [List.length_range]; exact Nat.le_trans hl'.2.2 (Nat.le_trans hm (by decide))
 ·have e:=List.getElem?_eq_getElem (List.mem_range.mp hj)
  refine ev_eq (ev_and (ev_nk g e rfl rfl rfl) fun _=>ev_p2 (ev_p1 (ev_nk g e rfl rfl rfl) (pm_lenr (g.inn e))) ev_cst pm_lt) ?_
  unfold fre
  rw [e,List.length_map]; rfl
 refine ev_ite (ev_p2 (ev_var rfl) (pe_ok rfl) (pm_ne (rd_map (f:=ni) fun _=>trivial) rd_nil)) (fun hn=>?_) fun _=>hK _ _ ⟨ns,frm_ex,c,T,⟨hl'.2.1,hb⟩,hj⟩
 refine ea1_2 (pick_ni (P:=PL) (H:=H) (z:=z / 4) (ne_ni hn)) fun u hu eu=>ea1_3 (fre_of hu) fun y hy hw h8=>?_
 refine ev_asg (ev_p2 (ev_var rfl) (ev_p2 (ev_p2 (ev_var rfl) ev_cst (pm_fdiv (by decide) (by decide))) (ev_p1 (ev_var rfl) pm_lenl) (pm_mod ?_)) eu) (lt_b rfl) ?_
 ·rw [List.length_map]; exact Int.ofNat_lt.mpr (List.length_pos_iff.mpr (ne_ni hn))
 refine ev_asg (ev_and (ev_p2 (ev_p2 (ev_var rfl) ev_cst (pm_mod (by decide))) ev_cst (pm_eq rd_int rd_int)) fun _=>ev_p2 (ev_nk g hy rfl rfl rfl) ev_cst pm_lt) (lt_b rfl) ?_
 refine add_nd c hb hy (Nat.le_trans hl'.2.2 (Nat.le_trans hm (by decide))) (Nat.le_trans (Nat.le_of_lt h8) (by decide)) rfl rfl (lt_b rfl) (by decide) (fun _=>ev_var rfl) (fun _=>ev_var rfl) (fun _ _=>ev_p2 (ev_var rfl) ev_cst (pm_fdiv (by decide) (by decide))) fun d a H' c' hb'=>hK _ _ ⟨_,frm_ex,c',T.add hy hw h8 ⟨rfl,rfl,rfl,fun ht=>Int.ofNat_lt.mp (of_decide_eq_true (Bool.and_eq_true_iff.mp ht).2)⟩,⟨?_,hb'⟩,hj⟩
 rw [List.length_append,List.length_set]; exact hl'.1
end
end Mine
end
noncomputable section
namespace Mine
open PySem
theorem ea1_6 {α0:Type} {A0 A1 A2 A3 A4 A5:α0→Prop} {G:Prop} (h:∃ a0,A0 a0∧A1 a0∧A2 a0∧A3 a0∧A4 a0∧A5 a0) (k:∀ a0,A0 a0→A1 a0→A2 a0→A3 a0→A4 a0→A5 a0→G):G:=h.elim fun a0 h=>k a0 h.1 h.2.1 h.2.2.1 h.2.2.2.1 h.2.2.2.2.1 h.2.2.2.2.2
theorem eq_nil_of {l:List V} (h:eqV (.lst l) (.lst []) = true):l = []:=by
 cases l with
 | nil=>rfl
 | cons _ _=>exact absurd h Bool.false_ne_true
section
variable {n:Nat} {B H:AH} {K:KS} {Q:QE} {X:XE} {zs:List Int} {m r:Nat} {ns:List Nd}
theorem rng_ni {m:Nat}:rngL 0 m = (List.range m).map ni:=(show rngL 0 m = rngL (0:Nat) m from rfl).trans (rng_nat.trans (by rw [List.map_map,Nat.sub_zero]; exact List.map_congr_left fun k _=>congrArg ni (Nat.zero_add k)))
noncomputable def Emp (ns:List Nd) (its:List Nat):Prop:=∀ (i:Nat) (x:Nd),ns[i]? = some x→x.w = true→x.inner ≠ [] ∨ i ∈ its
noncomputable def NI2 (B:AH) (zs:List Int) (m r:Nat) (its:List Nat) (ρ:Fm) (H:AH):Prop:=∃ ns,(∃ o,ρ = frm zs m r o)∧Cl B (LN r ns) H∧Tr ns∧(ns.length + its.length ≤ 60∧B.length ≤ H.length)∧Emp ns its∧∀ j ∈ its,j < ns.length
theorem turn2 {k:Nat} {its:List Nat} {o:Nat→Option V} {K':KS} (c:Cl B (LN r ns) H) (T:Tr ns) (hl:ns.length + (its.length + 1) ≤ 60) (hb:B.length ≤ H.length) (he:Emp ns (k :: its)) (hj:∀ j ∈ k :: its,j < ns.length) (hK:∀ ρ'' H'',NI2 B zs m r its ρ'' H''→K' ρ'' H'') :
  wpSs PL (callF PL (n + 1)) (stB (fn14.body.getD 2 .pass)) ((frm zs m r o).set 3 (some (ni k))) H K' Q X:=by
 have g:=c.gn
 have hl':=n13 hl
 refine (⟨_,List.getElem?_eq_getElem (hj k (.head _))⟩:∃ y,ns[k]? = some y).elim fun y e=>?_
 have hj':∀ j ∈ its,j < ns.length:=fun j h=>hj j (.tail _ h)
 refine ev_ite (ev_and (ev_nk g e rfl rfl rfl) fun _=>ev_p2 (ev_nk g e rfl rfl rfl) (pe_ok rfl) (pm_eq (rd_lref (g.inn e)) rd_nil)) (fun h=>?_) fun h=>hK _ _ ⟨ns,frm_ex,c,T,⟨hl'.2.1,hb⟩,fun i x hx hw=>?_,hj'⟩
 ·have h:=Bool.and_eq_true_iff.mp h
  have h0:y.inner = []:=List.map_eq_nil_iff.mp (eq_nil_of h.2)
  refine add_nd c hb e hl'.2.2 (h0.symm ▸ Nat.zero_le _) rfl rfl (lt_b rfl) (by decide) (fun _=>ev_var rfl) (fun _=>ev_cst) (fun H' g'=>ev_p2 (ev_nk g' (List.getElem?_set_self (hj k (.head _))) rfl rfl rfl) ev_cst (pm_fdiv (by decide) (by decide))) fun d a H' c' hb'=>hK _ _ ⟨_,frm_ex,c',T.add e h.1 (h0.symm ▸ (by decide:0 < 8)) ⟨rfl,rfl,rfl,fun z=>absurd z Bool.false_ne_true⟩,⟨?_,hb'⟩,?_,fun j hj=>?_⟩
  ·rw [List.length_append,List.length_set]; exact hl'.1
  ·refine set_bwd e (fun z=>absurd z Bool.false_ne_true) fun i x hx hw=>?_
   have hw:x.w = true:=phi_of (F:=fun t=>t.w = true→x.w = true) id (fun _=>id) hw
   refine (he i x hx hw).elim (fun h=>.inl (fun z=>?_)) fun h=>memE h (fun h=>.inl fun z=>?_) .inr
   ·exact h (List.eq_nil_iff_forall_not_mem.mpr fun k hk=>List.not_mem_nil (z ▸ phi_mem hk))
   ·subst h
    unfold phi at z
    rw [if_pos rfl] at z
    exact absurd (List.append_eq_nil_iff.mp z).2 (List.cons_ne_nil _ _)
  ·rw [List.length_append,List.length_set]; exact Nat.lt_succ_of_lt (hj' j hj)
 ·refine (he i x hx hw).elim .inl fun h'=>memE h' (fun z=>.inl fun z'=>?_) .inr
  subst z
  have ex:=Option.some.inj (e.symm.trans hx)
  rw [ex,hw,z'] at h
  exact absurd h (Bool.noConfusion:¬ true = false)
structure Tree (ns:List Nd):Prop where
 tr:Tr ns
 le:ns.length ≤ 60
 ne:∀ (i:Nat) (x:Nd),ns[i]? = some x→x.w = true→x.inner ≠ []
theorem f14 (h2:2 ≤ m) (hm:m ≤ 30) (q:∀ ns H',Cl B (LN (B.length + 2) ns) H'→Tree ns→Q (.ref (B.length + 2)) H'):callF PL (n + 2) 14 [.lst (zs.map V.int),ni m] B Q X:=by
 refine cf P_fn14 rfl (st_asg (wp_pm1 (wp_node (ev_p1 ev_cst pm_neg) ev_cst (dp:=1) ev_cst (ev_call2 (ev_var rfl) ev_cst fun Q q=>f10 (by decide) q) (hE (pM_mkl le1) ⟨lt_b rfl,?_⟩))))
 generalize zs.getD _ 0 = z
 have c0:Cl B (LN (B.length + 2) [⟨B.length + 1,B.length,-1,true,1,[],z⟩]) (B ++ [.list []] ++ [.dict ndK (ndV ⟨B.length + 1,B.length,-1,true,1,[],z⟩)] ++ [.list [.ref (B.length + 1)]]):=by
  rw [List.append_assoc,List.append_assoc]
  refine ⟨?_,fm1 ⟨get_b (j:=2),Nat.le_add_right _ _⟩ (fm1 ⟨get_b (j:=0),Nat.le_refl _⟩ (all1 ⟨get_b (j:=1),Nat.le_add_right _ _⟩)),fun a ha=>List.getElem?_append_left ha⟩
  exact List.Pairwise.map (B.length + ·) (fun a b (h:a ≠ b) e=>h (Nat.add_left_cancel e)) (by decide:([2,0,1]:List Nat).Nodup)
 have T0:Tr [⟨B.length + 1,B.length,-1,true,1,[],z⟩]:=⟨⟨_,rfl,rfl,rfl⟩,fun i x h z=>by subst z; exact Option.some.inj h ▸ rfl,fun i x h h0=>?_,fun j y h=>?_,fun j y h=>?_⟩
 ·have hl:(B ++ [O.list []] ++ [O.dict ndK (ndV ⟨B.length + 1,B.length,-1,true,1,[],z⟩)]).length = B.length + 2:=by rw [List.length_append,List.length_append]; rfl
  rw [hl]
  refine ev_forM (NI1 B zs m (B.length + 2)) (f:=ni) (l:=(List.range (m - 1)).map (1 + ·)) (v:=.rng 1 m) (ev_p2 ev_cst (ev_var rfl) (pm_range2 (by decide) ⟨by omega,by omega⟩)) (fun _ _ _ _=>congrArg some (rng_nat (a:=1))) ?_ ⟨_,frm_ex,c0,T0,⟨?_,?_⟩,fun j hj=>?_⟩ (fun k its ρ' H' hI K' hK=>ea1_5 hI fun ns e c T l hj=>e.elim fun o e=>?_) fun ρ' H' hI=>ea1_5 hI fun ns e c T l hj=>e.elim fun o e=>?_
  ·rw [List.length_map,List.length_range]; exact Nat.le_trans (Nat.sub_le _ _) (Nat.le_trans hm (by decide))
  ·rw [List.length_map,List.length_range]; exact Nat.le_of_eq (Nat.add_sub_cancel' (show 1 ≤ m from Nat.le_trans (by decide) h2))
  ·exact Nat.le_trans le_app (Nat.le_trans le_app le_app)
  ·refine ea1_2 (List.mem_map.mp hj) fun k hk e=>?_
   have:=List.mem_range.mp hk
   omega
  ·subst e
   exact turn1 hm c T l.1 l.2 (hj k (.head _)) (fun j h=>hj j (.tail _ h)) hK
  ·subst e
   have l0:ns.length ≤ 30:=Nat.le_trans l.1 hm
   refine ev_forM (NI2 B zs m (B.length + 2)) (f:=ni) (l:=List.range ns.length) (v:=.rng 0 ns.length) (ev_p1 (ev_len c.gn rfl) (pm_range1 ⟨by omega,by omega⟩)) (fun _ _ _ _=>congrArg some rng_ni) (by rw [List.length_range]; exact Nat.le_trans l0 (by decide)) ⟨ns,frm_ex,c,T,⟨?_,l.2⟩,fun i x hx _=>.inr (List.mem_range.mpr (List.getElem?_eq_some_iff.mp hx).1),fun j hj=>List.mem_range.mp hj⟩ (fun k its ρ' H' hI K' hK=>ea1_6 hI fun ns e c T l he hj=>e.elim fun o e=>?_) fun ρ' H' hI=>ea1_6 hI fun ns e c T l he hj=>e.elim fun o e=>?_
   ·rw [List.length_range]; exact Nat.add_le_add l0 l0
   ·subst e
    exact turn2 c T l.1 l.2 he hj hK
   ·subst e
    exact ev_ret (ev_var rfl) (q ns H' c ⟨T,l.1,fun i x hx hw=>(he i x hx hw).elim id fun h=>absurd h List.not_mem_nil⟩)
 ·cases i with
  | zero=>exact absurd h0 (Nat.lt_irrefl 0)
  | succ i=>exact nomatch h
 ·cases j with
  | zero=>exact Option.some.inj h ▸ fm0
  | succ j=>exact nomatch h
 ·cases j with
  | zero=>exact Option.some.inj h ▸ ⟨Nat.zero_le _,List.nodup_nil,(by decide:1 ≤ 6),fun h=>absurd h Bool.noConfusion⟩
  | succ j=>exact nomatch h
end
end Mine
end
noncomputable section
namespace Mine
open PySem
theorem it_mod {α:Type} {P:Prog} {H:AH} {l:List α} {f:α→V} (d:α) {c L:Int} (hL:(l.length:Int) = L) (h0:0 < L):primM P false .item [.lst (l.map f),.int (c % L)] H = some (f (l.getD (c % L).toNat d),H)∧l.getD (c % L).toNat d ∈ l:=by
 have h:=m_lt (a:=c) h0
 have hl:(c % L).toNat < l.length:=(Int.toNat_lt h.1).mpr (hL.symm ▸ h.2)
 have e:l.getD (c % L).toNat d = l[(c % L).toNat]:=by rw [List.getD_eq_getElem?_getD,List.getElem?_eq_getElem hl]; rfl
 have z:=pm_itl (P:=P) (H:=H) (vs:=l.map f) (j:=(c % L).toNat) (v:=f (l.getD (c % L).toNat d)) (by rw [List.getElem?_map,e,List.getElem?_eq_getElem hl]; rfl)
 rw [Int.toNat_of_nonneg h.1] at z
 exact ⟨z,e ▸ List.getElem_mem hl⟩
noncomputable def Evs (P:Prog) (C:Calls) (ρ:Fm) (H:AH) (X:XE) (es:List Ex) (vs:List V):Prop:=∀ Q:List V→AH→Prop,Q vs H→wpEs P C es ρ H Q X
section
variable {P:Prog} {C:Calls} {ρ:Fm} {H:AH} {X:XE} {e:Ex} {es:List Ex} {v:V} {vs:List V} {p:Prim}
theorem evs_n:Evs P C ρ H X [] []:=fun _ q=>q
theorem evs_c (h:Ev P C ρ H X e v) (k:Evs P C ρ H X es vs):Evs P C ρ H X (e :: es) (v :: vs):=fun _ q=>h _ (k _ q)
theorem ev_pn (h:Evs P C ρ H X es vs) (e:primM P false p vs H = some (v,H)):Ev P C ρ H X (.prim false p es) v:=fun _ q=>h _ (hE e q)
end
noncomputable def mdL:List Nm:=[['a','l','w','a','y','s'],['f','a','u','l','t','e','d'],['n','e','v','e','r'],['f','a','u','l','t','e','d']]
noncomputable def mode (c:Int):Nm:=mdL.getD (c % 4).toNat []
noncomputable def rul (c:Int):Nm:=rulesW.getD (c % 3).toNat []
noncomputable def mnyL (c:Int):List Int:=[0,1,2,1,3,1000000000,c / 6 % 9,c / 6 % 1000000001]
noncomputable def mny (c:Int):Int:=(mnyL c).getD (c % 8).toNat 0
noncomputable def spnL (c:Int):List Int:=[3,1,1000000000,2,1 + c / 6 % 12,1 + c / 6 % 1000000000]
noncomputable def spn (c:Int):Int:=(spnL c).getD (c % 6).toNat 0
noncomputable def mnk (k:Nat) (c:Int):Int:=if (eqV (ni k) (.int 0) && decide (0 < c / 3 % 4)) = true then min 1000000000 (mny (c / 3) + 4) else mny (c / 3)
section
variable {n:Nat} {H:AH} {K:KS} {Q:QE} {X:XE} {c:Int}
theorem mode_in:mode c ∈ rules3:=(by decide:∀ x ∈ mdL,x ∈ rules3) _ (it_mod (P:=PL) (H:=[]) (f:=V.str) (l:=mdL) (L:=4) [] rfl (by decide)).2
theorem rul_in:rul c ∈ rulesW:=(it_mod (P:=PL) (H:=[]) (f:=V.str) (l:=rulesW) (L:=3) [] rfl (by decide)).2
theorem mod_in {a b d:Int} (h:0 < b) (hd:b ≤ d):0 ≤ a % b∧a % b ≤ d:=⟨(m_lt h).1,Int.le_trans (Int.le_of_lt (m_lt h).2) hd⟩
theorem mod_in1 {a b d:Int} (h:0 < b) (hd:b ≤ d):1 ≤ 1 + a % b∧1 + a % b ≤ d:=⟨Int.le_add_of_nonneg_right (m_lt h).1,Int.add_comm 1 _ ▸ Int.le_trans (m_lt h).2 hd⟩
theorem mny_in:0 ≤ mny c∧mny c ≤ 1000000000:=(fm1 (by decide) (fm1 (by decide) (fm1 (by decide) (fm1 (by decide) (fm1 (by decide) (fm1 (by decide) (fm1 (mod_in (by decide) (by decide)) (all1 ⟨(m_lt (by decide)).1,Int.le_of_lt_add_one (m_lt (by decide)).2⟩))))))):∀ x ∈ mnyL c,0 ≤ x∧x ≤ 1000000000) _ (it_mod (P:=PL) (H:=[]) (f:=V.int) (l:=mnyL c) (L:=8) 0 rfl (by decide)).2
theorem spn_in:1 ≤ spn c∧spn c ≤ 1000000000:=(fm1 (by decide) (fm1 (by decide) (fm1 (by decide) (fm1 (by decide) (fm1 (mod_in1 (by decide) (by decide)) (all1 (mod_in1 (by decide) (by decide))))))):∀ x ∈ spnL c,1 ≤ x∧x ≤ 1000000000) _ (it_mod (P:=PL) (H:=[]) (f:=V.int) (l:=spnL c) (L:=6) 0 rfl (by decide)).2
theorem mnk_in {k:Nat}:0 ≤ mnk k c∧mnk k c ≤ 1000000000:=by
 unfold mnk
 have h:=mny_in (c:=c / 3)
 by_cases e:(eqV (ni k) (.int 0) && decide (0 < c / 3 % 4)) = true
 ·rw [if_pos e]; exact ⟨by omega,Int.min_le_left _ _⟩
 ·rw [if_neg e]; exact h
theorem f16 (q:Q (.int (mny c)) H):callF PL (n + 1) 16 [.int c] H Q X :=
 cf P_fn16 rfl (ev_ret (ev_p2 (ev_pn (vs:=(mnyL c).map V.int) (evs_c ev_cst (evs_c ev_cst (evs_c ev_cst (evs_c ev_cst (evs_c ev_cst (evs_c (pe_ok rfl) (evs_c (ev_p2 (ev_p2 (ev_var rfl) ev_cst (pm_fdiv (by decide) (by decide))) ev_cst (pm_mod (by decide))) (evs_c (ev_p2 (ev_p2 (ev_var rfl) ev_cst (pm_fdiv (by decide) (by decide))) (pe_ok (v:=.int 1000000001) rfl) (pm_mod (by decide))) evs_n)))))))) (pm_mkl (Nat.le_of_ble_eq_true rfl))) (ev_p2 (ev_var rfl) ev_cst (pm_mod (by decide))) (it_mod (l:=mnyL c) (L:=8) 0 rfl (by decide)).1) q)
theorem f17 (q:Q (.int (spn c)) H):callF PL (n + 1) 17 [.int c] H Q X :=
 cf P_fn17 rfl (ev_ret (ev_p2 (ev_pn (vs:=(spnL c).map V.int) (evs_c ev_cst (evs_c ev_cst (evs_c (pe_ok rfl) (evs_c ev_cst (evs_c (ev_p2 ev_cst (ev_p2 (ev_p2 (ev_var rfl) ev_cst (pm_fdiv (by decide) (by decide))) ev_cst (pm_mod (by decide))) pm_add) (evs_c (ev_p2 ev_cst (ev_p2 (ev_p2 (ev_var rfl) ev_cst (pm_fdiv (by decide) (by decide))) (pe_ok (v:=.int 1000000000) rfl) (pm_mod (by decide))) pm_add) evs_n)))))) (pm_mkl (Nat.le_of_ble_eq_true rfl))) (ev_p2 (ev_var rfl) ev_cst (pm_mod (by decide))) (it_mod (l:=spnL c) (L:=6) 0 rfl (by decide)).1) q)
end
noncomputable def bd (ns:List Nd) (nm:Nat→Nm):Nat→Nat→V
 | 0,_=>.none
 | f + 1,k=>(ns[k]?).elim .none fun x=>if x.w = true then wdV (nm k) (rul x.cell) (mnk k x.cell) (spn (x.cell / 24)) (x.inner.map (bd ns nm f)) else wkV (nm k) (mode x.cell)
noncomputable def nmL (nm:Nat→Nm) (m:Nat):V:=.lst ((List.range m).map fun k=>.str (nm k))
section
variable {n r:Nat} {H:AH} {ns:List Nd} {nm:Nat→Nm}
theorem it_nmL {P:Prog} {m k:Nat} (h:k < m):primM P false .item [nmL nm m,ni k] H = some (.str (nm k),H):=pm_itl (by rw [List.getElem?_map,List.getElem?_range h]; rfl)
theorem bd_eq {f k:Nat} {x:Nd} (h:ns[k]? = some x):bd ns nm (f + 1) k = if x.w = true then wdV (nm k) (rul x.cell) (mnk k x.cell) (spn (x.cell / 24)) (x.inner.map (bd ns nm f)) else wkV (nm k) (mode x.cell):=by
 show (ns[k]?).elim _ _ = _
 rw [h]; rfl
noncomputable def PI18 (H0:AH) (r:Nat) (nv:V) (k:Nat) (c:Int) (rl:Nm) (il:List Nat) (g:Nat→V) (its:List Nat) (ρ:Fm) (H:AH):Prop:=∃ o dn,H = H0∧ρ = [some (.ref r),some nv,some (ni k),some (.int c),some (.str rl),some (.tup (dn.map g)),o,none]∧dn ++ its = il
theorem f18 (T:Tr ns) (g:GN r ns H):∀ {f k:Nat} {x:Nd} {Q:QE} {X:XE},ns[k]? = some x→f + x.deep = 8→Q (bd ns nm f k) H→callF PL (n + f + 1) 18 [.ref r,nmL nm ns.length,ni k] H Q X:=by
 intro f
 induction f with
 | zero =>
  intro k x Q X h e q
  have:=(T.lim k x h).dp
  exact absurd (Nat.le_trans this (by cases x.w <;> decide)) (Nat.not_le_of_gt (show 7 < x.deep by omega))
 | succ f ih =>
  intro k x Q X h e q
  have hk:k < ns.length:=(List.getElem?_eq_some_iff.mp h).1
  rw [bd_eq h] at q
  refine cf P_fn18 rfl (ev_asg (ev_nk g h rfl rfl rfl) (lt_b rfl) (ev_ite (ev_not (ev_nk g h rfl rfl rfl)) (fun hw=>?_) fun hw=>?_))
  ·rw [if_neg fun z:x.w = true=>absurd (z ▸ hw:(!true) = true) Bool.false_ne_true] at q
   exact ev_ret (ev_p3 ev_cst (ev_p2 (ev_var rfl) (ev_var rfl) (it_nmL hk)) (ev_p2 (x:=.lst (mdL.map V.str)) (pe_ok rfl) (ev_p2 (ev_var rfl) ev_cst (pm_mod (by decide))) (it_mod (l:=mdL) (L:=4) [] rfl (by decide)).1) (pm_mkt le3)) q
  ·rw [if_pos (Bool.not_eq_false' _ ▸ hw)] at q
   have L:=T.lim k x h
   refine ev_asg (ev_p2 (x:=.lst (rulesW.map V.str)) (pe_ok rfl) (ev_p2 (ev_var rfl) ev_cst (pm_mod (by decide))) (it_mod (l:=rulesW) (L:=3) [] rfl (by decide)).1) (lt_b rfl) (ev_asg (pe_ok rfl) (lt_b rfl) ?_)
   refine ev_forM (PI18 H r (nmL nm ns.length) k x.cell (rul x.cell) x.inner (bd ns nm f)) (f:=ni) (l:=x.inner) (ev_nk g h rfl rfl rfl) (fun _ _ _ q=>ea2_3 q fun _ _ e0 _ _=>e0 ▸ src_ref (g.inn h)) (Nat.le_trans L.le (by decide)) ⟨none,[],rfl,rfl,rfl⟩ (fun i its ρ' H' hI K' hK=>ea2_3 hI fun o dn e0 er ed=>?_) fun ρ' H' hI=>ea2_3 hI fun o dn e0 er ed=>?_
   ·subst e0 er
    have hi:i ∈ x.inner:=ed ▸ List.mem_append_right dn (.head _)
    refine ea1_4 (T.inn k x h i hi) fun y hy _ _ hd=>?_
    refine ev_asg (ev_p2 (ev_var rfl) (ev_p1 (ev_call3 (ev_var rfl) (ev_var rfl) (ev_var rfl) fun Q q=>ih hy (by omega) q) (pm_mkt le1)) (pm_addt ?_)) (lt_b rfl) (hK _ _ ⟨some (ni i),dn ++ [i],rfl,?_,(List.append_assoc dn [i] its).trans ed⟩)
    ·rw [List.length_map]
     exact Nat.le_trans (Nat.succ_le_succ (Nat.le_trans (ed ▸ le_app) L.le)) (by decide)
    ·rw [List.map_append]; rfl
   ·subst e0 er
    have ed:dn = x.inner:=(List.append_nil dn).symm.trans ed
    subst ed
    have fin:∀ {mv:Int},mv = mnk k x.cell→wpSs PL (callF PL (n + (f + 1))) (fn18.body.drop 7) [some (.ref r),some (nmL nm ns.length),some (ni k),some (.int x.cell),some (.str (rul x.cell)),some (.tup (x.inner.map (bd ns nm f))),o,some (.int mv)] H' (fun _ H'=>Q .none H') Q X:=fun e=>by
     subst e
     exact ev_ret (ev_pn (evs_c ev_cst (evs_c (ev_p2 (ev_var rfl) (ev_var rfl) (it_nmL hk)) (evs_c (ev_var rfl) (evs_c (ev_var rfl) (evs_c (ev_call1 (ev_p2 (ev_var rfl) ev_cst (pm_fdiv (by decide) (by decide))) fun Q q=>f17 q) (evs_c (ev_var rfl) evs_n)))))) (pm_mkt (Nat.le_of_ble_eq_true rfl))) q
    refine ev_asg (ev_call1 (ev_p2 (ev_var rfl) ev_cst (pm_fdiv (by decide) (by decide))) fun Q q=>f16 q) (lt_b rfl) (ev_ite (ev_and (ev_p2 (ev_var rfl) ev_cst (pm_eq rd_int rd_int)) fun _=>ev_p2 (ev_p2 (ev_p2 (ev_var rfl) ev_cst (pm_fdiv (by decide) (by decide))) ev_cst (pm_mod (by decide))) ev_cst pm_gt) (fun hc=>?_) fun hc=>?_)
    ·exact ev_asg (ev_p2 (x:=.int 1000000000) (pe_ok rfl) (ev_p2 (ev_var rfl) ev_cst pm_add) pm_min) (lt_b rfl) (fin (if_pos hc).symm)
    ·exact fin (if_neg (by rw [hc]; exact Bool.false_ne_true)).symm
end
end Mine
end
noncomputable section
namespace Mine
open PySem
noncomputable def kdsN (ns:List Nd) (k:Nat):List Nat:=(ns[k]?).elim [] Nd.inner
noncomputable def sub (ns:List Nd):Nat→Nat→List Nat
 | 0,_=>[]
 | f + 1,k=>k :: (kdsN ns k).flatMap (sub ns f)
section
variable {ns:List Nd} {nm:Nat→Nm} {f k i j:Nat} {x:Nd}
theorem kdsN_eq (h:ns[k]? = some x):kdsN ns k = x.inner:=congrArg (Option.elim · [] Nd.inner) h
noncomputable def upF (ns:List Nd) (i:Nat):Nat:=(ns[i]?).elim 0 fun x=>x.up.toNat
noncomputable def upn (ns:List Nd):Nat→Nat→Nat
 | 0,i=>i
 | d + 1,i=>upF ns (upn ns d i)
theorem Tr.fpos (T:Tr ns) (h:ns[k]? = some x) (e:f + x.deep = 8):∃ f',f = f' + 1:=by
 cases f with
 | zero =>
  have:=Nat.le_trans (T.lim k x h).dp (show (if x.w = true then 6 else 7) ≤ 7 by cases x.w <;> decide)
  omega
 | succ f=>exact ⟨f,rfl⟩
theorem Tr.anc (T:Tr ns):∀ {f k:Nat} {x:Nd},ns[k]? = some x→∀ i ∈ sub ns f k,∃ d y,ns[i]? = some y∧y.deep = x.deep + d∧upn ns d i = k:=by
 intro f
 induction f with
 | zero=>exact fun _=>fm0
 | succ f ih =>
  intro k x h
  refine fm1 ⟨0,x,h,rfl,rfl⟩ fun i hi=>ea1_2 (List.mem_flatMap.mp hi) fun j hj hi=>?_
  rw [kdsN_eq h] at hj
  refine ea1_4 (T.inn k x h j hj) fun y hy _ hu hd=>ea2_3 (ih hy i hi) fun d z hz e eu=>⟨d + 1,z,hz,by rw [e,hd,Nat.add_assoc,Nat.add_comm 1],?_⟩
  show upF ns (upn ns d i) = k
  unfold upF
  rw [eu,hy]
  exact congrArg Int.toNat hu
theorem Tr.nd (T:Tr ns):∀ {f k:Nat} {x:Nd},ns[k]? = some x→(sub ns f k).Nodup:=by
 intro f
 induction f with
 | zero=>exact fun _=>List.nodup_nil
 | succ f ih =>
  intro k x h
  refine List.nodup_cons.mpr ⟨fun z=>?_,List.pairwise_flatMap.mpr ⟨fun j hj=>?_,?_⟩⟩
  ·refine ea1_2 (List.mem_flatMap.mp z) fun j hj hk=>?_
   rw [kdsN_eq h] at hj
   refine ea1_4 (T.inn k x h j hj) fun y hy _ _ hd=>ea2_3 (T.anc hy k hk) fun d z hz e _=>?_
   rw [Option.some.inj (hz.symm.trans h),hd] at e
   exact absurd e (Nat.ne_of_lt (Nat.lt_of_lt_of_le (Nat.lt_succ_self _) (Nat.le_add_right _ _)))
  ·rw [kdsN_eq h] at hj
   exact ea1_4 (T.inn k x h j hj) fun y hy _ _ _=>ih hy
  ·rw [kdsN_eq h]
   refine List.Pairwise.imp_of_mem (fun {a b} ha hb hab u hu v hv e=>hab ?_) (T.lim k x h).nd
   subst e
   refine ea1_4 (T.inn k x h a ha) fun y hy _ _ hd=>ea1_4 (T.inn k x h b hb) fun y' hy' _ _ hd'=>ea2_3 (T.anc hy u hu) fun d z hz e eu=>ea2_3 (T.anc hy' u hv) fun d' z' hz' e' eu'=>?_
   rw [Option.some.inj (hz.symm.trans hz'),e',hd,hd'] at e
   rw [← eu,← eu',Nat.add_left_cancel e]
theorem Tr.step (T:Tr ns):∀ {f k:Nat} {x:Nd},ns[k]? = some x→f + x.deep = 8→∀ i ∈ sub ns f k,∀ j ∈ kdsN ns i,j ∈ sub ns f k:=by
 intro f
 induction f with
 | zero=>exact fun _ _=>fm0
 | succ f ih =>
  intro k x h e
  have e':∀ {y:Nd},y.deep = x.deep + 1→f + y.deep = 8:=fun h=>by rw [h,← Nat.add_assoc,Nat.add_right_comm]; exact e
  refine fm1 (fun j hj=>.tail _ (List.mem_flatMap.mpr ⟨j,hj,?_⟩)) fun i hi j hj=>ea1_2 (List.mem_flatMap.mp hi) fun l hl hi=>.tail _ (List.mem_flatMap.mpr ⟨l,hl,?_⟩)
  ·rw [kdsN_eq h] at hj
   refine ea1_4 (T.inn k x h j hj) fun y hy _ _ hd=>(T.fpos hy (e' hd)).elim fun f' ef=>?_
   subst ef
   exact .head _
  ·rw [kdsN_eq h] at hl
   exact ea1_4 (T.inn k x h l hl) fun y hy _ _ hd=>ih hy (e' hd) i hi j hj
theorem Tr.all (T:Tr ns):∀ {i:Nat},i < ns.length→i ∈ sub ns 7 0:=by
 intro i
 induction i using Nat.strongRecOn with
 | _ i ih =>
  intro hi
  refine ea1_3 T.top fun x h0 _ hd=>?_
  cases i with
  | zero=>exact .head _
  | succ i=>exact ea2_4 (T.up _ _ (List.getElem?_eq_getElem hi) (Nat.succ_pos i)) fun j y hj hji _ hm=>T.step h0 (hd.symm ▸ rfl) j (ih j hji (Nat.lt_trans hji hi)) _ (kdsN_eq hj ▸ hm)
theorem Tr.lt (T:Tr ns) (h:ns[k]? = some x):∀ i ∈ sub ns f k,i < ns.length:=fun i hi=>ea2_3 (T.anc h i hi) fun d y hy _ _=>(List.getElem?_eq_some_iff.mp hy).1
theorem nm_bd (h:ns[k]? = some x):nameOf (bd ns nm (f + 1) k) = nm k:=by
 rw [bd_eq h]
 by_cases e:x.w = true
 ·rw [if_pos e]; rfl
 ·rw [if_neg e]; rfl
theorem Tr.kids (T:Tr ns) (h:ns[k]? = some x):kids (bd ns nm (f + 1) k) = x.inner.map (bd ns nm f):=by
 rw [bd_eq h]
 by_cases e:x.w = true
 ·rw [if_pos e]; rfl
 ·rw [if_neg e,(T.lim k x h).wk (Bool.eq_false_iff.mpr e)]; rfl
theorem Tr.nms (T:Tr ns):∀ {f k:Nat} {x:Nd},ns[k]? = some x→nms f (bd ns nm f k) = (sub ns f k).map nm:=by
 intro f
 induction f with
 | zero=>exact fun _=>rfl
 | succ f ih =>
  intro k x h
  show nameOf _ :: (Mine.kids _).flatMap (Mine.nms f) = nm k :: ((kdsN ns k).flatMap (sub ns f)).map nm
  rw [nm_bd h,T.kids h,kdsN_eq h,List.flatMap_map,List.map_flatMap]
  refine congrArg (nm k :: ·) ?_
  rw [List.flatMap_def,List.flatMap_def]
  exact congrArg List.flatten (List.map_congr_left fun i hi=>ea1_4 (T.inn k x h i hi) fun y hy _ _ _=>ih hy)
end
end Mine
end
noncomputable section
namespace Mine
open PySem
noncomputable def ixN (m:Nat) (nm:Nat→Nm) (a:Nm):Option Nat:=(List.range m).find? fun k=>nm k == a
noncomputable def thdN (x:Nd):Nm:=if x.w = true then rul x.cell else mode x.cell
noncomputable def nvN (x:Nd):Bool:=thdN x == ['n','e','v','e','r']
noncomputable def alN (x:Nd):Bool:=!(thdN x == ['f','a','u','l','t','e','d'] || nvN x)
noncomputable def spN (x:Nd):Int:=if x.w = true then spn (x.cell / 24) else 0
noncomputable def mnN (k:Nat) (x:Nd):Int:=if x.w = true then mnk k x.cell else 0
noncomputable def piN (ns:List Nd) (nm:Nat→Nm):PI:=⟨fun a=>(ixN ns.length nm a).bind fun k=>(ns[k]?).map Nd.w,fun a=>(ixN ns.length nm a).bind fun k=>if k = 0 then none else (ns[k]?).map fun x=>nm x.up.toNat,fun a=>(ixN ns.length nm a).any fun k=>(ns[k]?).any alN,fun a=>(ixN ns.length nm a).any fun k=>(ns[k]?).any nvN,fun a=>(ixN ns.length nm a).elim 0 fun k=>(ns[k]?).elim 0 spN,fun a=>(ixN ns.length nm a).elim 0 fun k=>(ns[k]?).elim 0 (mnN k)⟩
section
variable {ns:List Nd} {nm:Nat→Nm} {f k i j:Nat} {x:Nd} {a:Nm}
theorem ix_of (h:ixN ns.length nm a = some k):nm k = a∧k < ns.length:=⟨beq_iff_eq.mp (List.find?_some (p:=fun k=>nm k == a) h),List.mem_range.mp (List.mem_of_find?_eq_some h)⟩
theorem ix_nm (N:Nms ns.length nm) (h:k < ns.length):ixN ns.length nm (nm k) = some k:=by
 refine optE (o:=ixN ns.length nm (nm k)) (fun e=>?_) fun j e=>?_
 ·exact absurd (beq_self_eq_true (nm k)) (List.find?_eq_none.mp e k (List.mem_range.mpr h))
 ·rw [e,N.inj j k (ix_of e).2 h (ix_of e).1]
theorem isW_nm (N:Nms ns.length nm) (h:ns[k]? = some x):(piN ns nm).isW (nm k) = some x.w:=by
 show (ixN ns.length nm (nm k)).bind _ = _
 rw [ix_nm N (List.getElem?_eq_some_iff.mp h).1]
 exact congrArg (Option.map Nd.w) h
theorem ch_nm (T:Tr ns) (N:Nms ns.length nm) (h:ns[k]? = some x) (hi:i ∈ x.inner):(piN ns nm).ch (nm i) = some (nm k):=ea1_4 (T.inn k x h i hi) fun y hy hk hu _=>by
 show (ixN ns.length nm (nm i)).bind _ = _
 rw [ix_nm N (List.getElem?_eq_some_iff.mp hy).1]
 show (if i = 0 then none else (ns[i]?).map fun x=>nm x.up.toNat) = _
 rw [if_neg (Nat.ne_of_gt (Nat.lt_of_le_of_lt (Nat.zero_le k) hk)),hy]
 show some (nm y.up.toNat) = _
 rw [hu]; rfl
theorem ch_of (T:Tr ns) {m:Nm} (h:(piN ns nm).ch a = some m):∃ i j x,nm i = a∧nm j = m∧ns[j]? = some x∧i ∈ x.inner∧0 < i:=by
 have h:(ixN ns.length nm a).bind _ = some m:=h
 refine optE (o:=ixN ns.length nm a) (fun e=>nos ((by rw [e]; rfl:none = (ixN ns.length nm a).bind _).trans h)) fun i e=>?_
 rw [e] at h
 have h:(if i = 0 then none else (ns[i]?).map fun x=>nm x.up.toNat) = some m:=h
 by_cases z:i = 0
 ·rw [if_pos z] at h; exact nos h
 ·refine (⟨_,List.getElem?_eq_getElem (ix_of e).2⟩:∃ x,ns[i]? = some x).elim fun x hx=>?_
  rw [if_neg z,hx] at h
  exact ea2_4 (T.up i x hx (Nat.pos_of_ne_zero z)) fun j y hj _ hu hm=>⟨i,j,y,(ix_of e).1,(by rw [hu]; rfl:nm j = nm x.up.toNat).trans (Option.some.inj h),hj,hm,Nat.pos_of_ne_zero z⟩
theorem Tr.pt (T:Tr ns) (N:Nms ns.length nm) (ne:∀ (i:Nat) (x:Nd),ns[i]? = some x→x.w = true→x.inner ≠ []):∀ {f k:Nat} {x:Nd},ns[k]? = some x→f + x.deep = 8→Pt (piN ns nm) f (bd ns nm f k):=by
 intro f
 induction f with
 | zero=>exact fun h e=>(T.fpos h e).elim fun f' e=>nomatch e
 | succ f ih =>
  intro k x h e
  have hk:=(List.getElem?_eq_some_iff.mp h).1
  have L:=T.lim k x h
  have e':∀ {y:Nd},y.deep = x.deep + 1→f + y.deep = 8:=fun h=>by rw [h,← Nat.add_assoc,Nat.add_right_comm]; exact e
  have up:∀ {c:Nm},(piN ns nm).ch c = some (nm k)→∃ i,i ∈ x.inner∧nm i = c:=fun {c} hc=>(ch_of T hc).elim fun i q=>q.elim fun j q=>q.elim fun y q=>by
   have ej:=N.inj j k (List.getElem?_eq_some_iff.mp q.2.2.1).1 hk q.2.1
   subst ej
   exact ⟨i,Option.some.inj (q.2.2.1.symm.trans h) ▸ q.2.2.2.1,q.1⟩
  rw [bd_eq h]
  by_cases w:x.w = true
  ·rw [if_pos w]
   refine .wd (N.ok k hk) rul_in mnk_in spn_in ⟨?_,?_⟩ ((isW_nm N h).trans (congrArg some w)) (fun c=>⟨fun hc=>?_,fun hp=>?_⟩) fun p hp=>?_
   ·rw [List.length_map]; exact List.length_pos_iff.mpr (ne k x h w)
   ·rw [List.length_map]; exact L.le
   ·refine ea1_2 (up hc) fun i hi ei=>ea1_4 (T.inn k x h i hi) fun y hy _ _ hd=>(T.fpos hy (e' hd)).elim fun f' ef=>⟨_,List.mem_map_of_mem hi,?_⟩
    subst ef
    exact (nm_bd hy).trans ei
   ·refine ea1_2 hp fun p hp ec=>ea1_2 (List.mem_map.mp hp) fun i hi ei=>ea1_4 (T.inn k x h i hi) fun y hy _ _ hd=>(T.fpos hy (e' hd)).elim fun f' ef=>?_
    subst ef ei
    rw [← ec,nm_bd hy]
    exact ch_nm T N h hi
   ·exact ea1_2 (List.mem_map.mp hp) fun i hi ei=>ea1_4 (T.inn k x h i hi) fun y hy _ _ hd=>ei ▸ ih hy (e' hd)
  ·rw [if_neg w]
   have w:=Bool.eq_false_iff.mpr w
   exact .wk (N.ok k hk) mode_in ((isW_nm N h).trans (congrArg some w)) fun c hc=>ea1_2 (up hc) fun i hi _=>absurd hi (L.wk w ▸ List.not_mem_nil)
theorem thd_bd (h:ns[k]? = some x):thd (bd ns nm (f + 1) k) = thdN x:=by
 rw [bd_eq h]
 unfold thdN
 by_cases e:x.w = true
 ·rw [if_pos e,if_pos e]; rfl
 ·rw [if_neg e,if_neg e]; rfl
theorem sp_nm (N:Nms ns.length nm) (h:ns[k]? = some x):(piN ns nm).sp (nm k) = spN x∧(piN ns nm).mn (nm k) = mnN k x:=by
 have e:=ix_nm N (List.getElem?_eq_some_iff.mp h).1
 refine ⟨?_,?_⟩
 ·show (ixN ns.length nm (nm k)).elim 0 _ = _
  rw [e]
  show (ns[k]?).elim 0 spN = _
  rw [h]; rfl
 ·show (ixN ns.length nm (nm k)).elim 0 _ = _
  rw [e]
  show (ns[k]?).elim 0 (mnN k) = _
  rw [h]; rfl
theorem md_bd (N:Nms ns.length nm) (h:ns[k]? = some x):mdOk (piN ns nm) (bd ns nm (f + 1) k):=by
 have e:=ix_nm N (List.getElem?_eq_some_iff.mp h).1
 refine ⟨?_,?_,?_,?_⟩
 ·rw [nm_bd h]
  show (ixN ns.length nm (nm k)).any _ = _
  rw [e]
  show (ns[k]?).any nvN = _
  rw [h]
  unfold nvV
  rw [thd_bd h]; rfl
 ·rw [nm_bd h]
  show (ixN ns.length nm (nm k)).any _ = _
  rw [e]
  show (ns[k]?).any alN = _
  rw [h]
  unfold alV nvV
  rw [thd_bd h]; rfl
 ·rw [nm_bd h,(sp_nm N h).1,bd_eq h]
  unfold spN
  by_cases e:x.w = true
  ·rw [if_pos e,if_pos e]; rfl
  ·rw [if_neg e,if_neg e]; rfl
 ·rw [nm_bd h,(sp_nm N h).2,bd_eq h]
  unfold mnN
  by_cases e:x.w = true
  ·rw [if_pos e,if_pos e]; rfl
  ·rw [if_neg e,if_neg e]; rfl
theorem Tr.md (T:Tr ns) (N:Nms ns.length nm):∀ {f k:Nat} {x:Nd},ns[k]? = some x→∀ y ∈ pts f (bd ns nm f k),mdOk (piN ns nm) y:=by
 intro f
 induction f with
 | zero=>exact fun _=>fm0
 | succ f ih =>
  intro k x h
  refine fm1 (md_bd N h) fun y hy=>ea1_2 (List.mem_flatMap.mp hy) fun p hp hy=>?_
  rw [T.kids h] at hp
  exact ea1_2 (List.mem_map.mp hp) fun i hi e=>ea1_4 (T.inn k x h i hi) fun z hz _ _ _=>ih hz y (e ▸ hy)
theorem Tree.plan (t:Tree ns) (N:Nms ns.length nm):Plan (piN ns nm) (bd ns nm 7 0):=ea1_3 t.tr.top fun x h0 hw hd=>by
 have e8:7 + x.deep = 8:=hd.symm ▸ rfl
 have en:nms 7 (bd ns nm 7 0) = (sub ns 7 0).map nm:=t.tr.nms h0
 have e0:nameOf (bd ns nm 7 0) = nm 0:=nm_bd h0
 refine ⟨t.tr.pt N t.ne h0 e8,?_,?_,?_,fun w z=>?_,fun m hm=>?_,t.tr.md N h0⟩
 ·show (!(kids (bd ns nm 7 0)).isEmpty) = true
  rw [t.tr.kids h0]
  have:=t.ne 0 x h0 hw
  cases hx:x.inner with
  | nil=>exact absurd hx this
  | cons a l=>rfl
 ·rw [en]
  exact List.Pairwise.map nm (fun _ _ h=>h) (List.Pairwise.imp_of_mem (fun {a b} ha hb hab e=>hab (N.inj a b (t.tr.lt h0 a ha) (t.tr.lt h0 b hb) e)) (t.tr.nd h0))
 ·rw [en,List.length_map]
  exact Nat.le_trans ((t.tr.nd h0).length_le_of_subset (l₂:=List.range ns.length) fun i hi=>List.mem_range.mpr (t.tr.lt h0 i hi)) (Nat.le_trans (Nat.le_of_eq List.length_range) t.le)
 ·rw [e0] at z
  refine (ch_of t.tr z).elim fun i q=>q.elim fun j q=>q.elim fun y q=>?_
  refine ea1_4 (t.tr.inn j y q.2.2.1 i q.2.2.2.1) fun u hu _ _ _=>?_
  have:=N.inj i 0 (List.getElem?_eq_some_iff.mp hu).1 (List.getElem?_eq_some_iff.mp h0).1 q.1
  exact absurd (this ▸ q.2.2.2.2) (Nat.lt_irrefl 0)
 ·rw [en]
  have hm:((ixN ns.length nm m).bind _).isSome = true:=hm
  refine optE (o:=ixN ns.length nm m) (fun e=>?_) fun k e=>(ix_of e).1 ▸ List.mem_map_of_mem (t.tr.all (ix_of e).2)
  rw [e] at hm
  exact absurd hm Bool.false_ne_true
end
end Mine
end
noncomputable section
namespace Mine
open PySem
section
variable {n r:Nat} {H:AH} {Q:QE} {X:XE} {ns:List Nd} {nm:Nat→Nm}
theorem pm_addr {P:Prog} {a:Nat} {x y:List V} (hg:H[a]? = some (.list x)) (h:x.length + y.length ≤ sizeOf'):primM P false (.bop .add) [.ref a,.lst y] H = some (.lst (x ++ y),H):=by
 show ((H[a]?.bind O.lst).bind fun vs=>if vs.length + y.length ≤ sizeOf' then some (V.lst (vs ++ y)) else none).map _ = _
 rw [hg]
 show (if x.length + y.length ≤ sizeOf' then some (V.lst (x ++ y)) else none).map _ = _
 rw [if_pos h]; rfl
theorem set_end {o o':O}:(H ++ [o]).set H.length o' = H ++ [o']:=by rw [List.set_append_right _ _ (Nat.le_refl _),Nat.sub_self]; rfl
theorem sl_tail {a:V} {l:List V}:sliceL (a :: l) (clip (a :: l).length 1) (a :: l).length = l:=by
 rw [show clip (a :: l).length 1 = 1 from clip_nat (j:=1) (Nat.succ_le_succ (Nat.zero_le _))]
 unfold sliceL
 rw [List.take_length]; rfl
abbrev sb (ns:List Nd) (p:Nat × Nat):List Nat:=sub ns p.1 p.2
theorem len_sb {td:List (Nat × Nat)} (h:∀ p ∈ td,∃ f,p.1 = f + 1):td.length ≤ (td.flatMap (sb ns)).length:=by
 induction td with
 | nil=>exact Nat.le_refl _
 | cons p td ih =>
  rw [List.flatMap_cons,List.length_append,List.length_cons,Nat.add_comm]
  refine Nat.add_le_add ((h p (.head _)).elim fun f e=>?_) (ih fun y hy=>h y (.tail _ hy))
  show 1 ≤ (sub ns p.1 p.2).length
  rw [e]; exact Nat.succ_le_succ (Nat.zero_le _)
noncomputable def IU (ns:List Nd) (r:Nat) (H:AH) (tot:List Nat) (N:Nat) (ρ:Fm) (H':AH):Prop :=
 ∃ (td:List (Nat × Nat)) (dn:List Nat) (o:Option V),ρ = [some (.ref r),some (ni 0),some (.ref H.length),some (.lst (td.map fun p=>ni p.2)),o]∧H' = H ++ [.list (dn.map ni)]∧dn ++ td.flatMap (sb ns) = tot∧(td.flatMap (sb ns)).length = N∧(td.length ≤ N∧N ≤ 60)∧∀ p ∈ td,∃ x,ns[p.2]? = some x∧p.1 + x.deep = 8
theorem f15 (t:Tree ns) (g:GN r ns H) (q:Q (.ref H.length) (H ++ [.list ((sub ns 7 0).map ni)])):callF PL (n + 1) 15 [.ref r,ni 0] H Q X:=by
 have T:=t.tr
 refine ea1_3 T.top fun x0 h0 _ hd0=>?_
 have l60:(sub ns 7 0).length ≤ 60:=Nat.le_trans ((T.nd h0).length_le_of_subset (l₂:=List.range ns.length) fun i hi=>List.mem_range.mpr (T.lt h0 i hi)) (Nat.le_trans (Nat.le_of_eq List.length_range) t.le)
 have e0:[((7,0):Nat × Nat)].flatMap (sb ns) = sub ns 7 0:=List.append_nil _
 refine cf P_fn15 rfl (st_asg (wp_nil ⟨lt_b rfl,ev_asg (pe_ok rfl) (lt_b rfl) ?_⟩))
 refine ev_while (IU ns r H (sub ns 7 0)) (N:=(sub ns 7 0).length) (fun N ρ' H' hI=>ea3_6 hI fun td dn o e eh ed eN l hp=>?_) ⟨[(7,0)],[],none,rfl,rfl,e0,congrArg List.length e0,⟨Nat.succ_le_succ (Nat.zero_le _),l60⟩,all1 ⟨x0,h0,hd0.symm ▸ rfl⟩⟩
 subst e eh
 refine ⟨_,ev_p2 (ev_var rfl) (pe_ok rfl) (pm_ne (rd_map (f:=fun p:Nat × Nat=>ni p.2) fun _=>trivial) rd_nil),fun hc K' hK=>?_,fun hc=>?_⟩
 ·cases td with
  | nil=>exact absurd hc Bool.false_ne_true
  | cons p td =>
   refine ea1_2 (hp p (.head _)) fun x hx e8=>(T.fpos hx e8).elim fun f ef=>?_
   have es:sb ns p = p.2 :: x.inner.flatMap (sub ns f):=by
    show sub ns p.1 p.2 = _
    rw [ef]
    exact congrArg (fun t=>p.2 :: List.flatMap (sub ns f) t) (kdsN_eq hx)
   have ei:(x.inner.map fun i=>(f,i)).flatMap (sb ns) = x.inner.flatMap (sub ns f):=List.flatMap_map ..
   have g':∀ {l:List Nat},GN r ns (H ++ [.list (l.map ni)]):=fun p hp=>app_get (g p hp)
   rw [List.flatMap_cons,es] at ed eN
   have lt:td.length ≤ 60:=Nat.le_trans (Nat.le_succ _) (Nat.le_trans l.1 l.2)
   have lx:=(T.lim _ x hx).le
   refine ev_asg (ev_p2 (ev_var rfl) ev_cst pm_l0) (lt_b rfl) (st_mc1 (ev_var rfl) (ty_list new_at) (ev_var rfl) (hE (pm_append new_at ?_) ?_))
   ·rw [List.length_map]
    have:=congrArg List.length ed
    rw [List.length_append] at this
    exact Nat.le_trans (Nat.le_add_right _ _) (Nat.le_trans (Nat.le_of_eq this) (Nat.le_trans l60 (by decide)))
   rw [set_end,show dn.map ni ++ [ni p.2] = (dn ++ [p.2]).map ni from (List.map_append (f:=ni) (l₁:=dn) (l₂:=[p.2])).symm]
   have kid8:∀ i ∈ x.inner,∃ y,ns[i]? = some y∧f + y.deep = 8:=fun i hi=>ea1_4 (T.inn _ x hx i hi) fun y hy _ _ hd=>⟨y,hy,by rw [hd,← Nat.add_assoc,Nat.add_right_comm]; exact ef ▸ e8⟩
   have ln:(x.inner.map fun i=>(f,i)).length + td.length ≤ (x.inner.flatMap (sub ns f) ++ td.flatMap (sb ns)).length:=by
    have:=len_sb (ns:=ns) (td:=(x.inner.map fun i=>(f,i)) ++ td) (app_all (fun y hy=>ea1_2 (List.mem_map.mp hy) fun i hi e=>e ▸ ea1_2 (kid8 i hi) fun y hy e=>(T.fpos hy e).imp fun _ e=>e) fun y hy=>ea1_2 (hp y (.tail _ hy)) fun z hz e=>(T.fpos hz e).imp fun _ e=>e)
    rw [List.length_append,List.flatMap_append,ei] at this
    exact this
   have eN':(x.inner.flatMap (sub ns f) ++ td.flatMap (sb ns)).length + 1 = N:=eN
   refine ev_asg (ev_p2 (ev_nk g' hx rfl rfl rfl) (ev_p3 (ev_var rfl) ev_cst ev_cst ((pm_sl_l' ?_).trans (congrArg (fun t=>some (V.lst t,H ++ [O.list ((dn ++ [p.2]).map ni)])) sl_tail))) (pm_addr (g'.inn hx) ?_)) (lt_b rfl) (hK _ _ (x.inner.flatMap (sub ns f) ++ td.flatMap (sb ns)).length (Nat.lt_of_succ_le (Nat.le_of_eq eN')) ⟨(x.inner.map fun i=>(f,i)) ++ td,dn ++ [p.2],some (ni p.2),?_,rfl,?_,?_,⟨?_,?_⟩,app_all (fun y hy=>ea1_2 (List.mem_map.mp hy) fun i hi e=>e ▸ kid8 i hi) fun y hy=>hp y (.tail _ hy)⟩)
   ·rw [List.length_map]; exact Nat.le_trans l.1 (Nat.le_trans l.2 (by decide))
   ·rw [List.length_map,List.length_map]; exact Nat.le_trans (Nat.add_le_add lx lt) (by decide)
   ·rw [List.map_append,List.map_map]; rfl
   ·rw [List.flatMap_append,ei,List.append_assoc]; exact ed
   ·rw [List.flatMap_append,ei]
   ·rw [List.length_append]; exact ln
   ·exact Nat.le_trans (Nat.le_succ _) (Nat.le_trans (Nat.le_of_eq eN') l.2)
 ·cases td with
  | nil =>
   refine ev_ret (ev_var rfl) ?_
   rw [← ed,List.flatMap_nil,List.append_nil] at q
   exact q
  | cons p td=>exact absurd hc (Bool.noConfusion:¬ true = false)
end
end Mine
end
noncomputable section
namespace Mine
open PySem
noncomputable def dpF (ns:List Nd) (k:Nat):Nat:=(ns[k]?).elim 0 fun x=>8 - x.deep
noncomputable def psL (ns:List Nd) (nm:Nat→Nm):List V:=(List.range ns.length).map fun k=>bd ns nm (dpF ns k) k
noncomputable def hallV (r:Nat) (ns:List Nd) (nm:Nat→Nm) (o:Nat):V:=.dct [['n','o','d','e','s'],['n','a','m','e','s'],['p','a','r','t','s'],['p','l','a','n'],['o','r','d','e','r']] [.ref r,nmL nm ns.length,.lst (psL ns nm),bd ns nm 7 0,.ref o]
section
variable {n r:Nat} {H:AH} {Q:QE} {X:XE} {ns:List Nd} {nm:Nat→Nm} {zs:List Int}
theorem n30 {a:Int}:∃ m:Nat,(2 + a % 9:Int) = m∧2 ≤ m∧m ≤ 30:=⟨(2 + a % 9).toNat,by omega,by omega,by omega⟩
theorem f19b {m:Nat} {c:Int} {K:KS} (h2:2 ≤ m) (hm:m ≤ 30) (q:∀ ns nm o H',Tree ns→Nms ns.length nm→GN (H.length + 2) ns H'→H'[o]? = some (.list ((sub ns 7 0).map ni))→Q (hallV (H.length + 2) ns nm o) H') :
  wpSs PL (callF PL (n + 12)) (fn19.body.drop 3) [some (.lst (zs.map V.int)),some (.int c),some (ni m),none,none,none] H K Q X:=by
 refine st_asg (wp_call2 (ev_var rfl) (ev_var rfl) (f14 h2 hm fun ns H' cl t=>⟨lt_b rfl,?_⟩))
 have g:=cl.gn
 have T:=t.tr
 refine st_asg (wp_call2 (ev_call2 (ev_var rfl) ev_cst fun Q q=>f10 (by decide) q) (ev_len g rfl) (f12 t.le fun nm N=>⟨lt_b rfl,?_⟩))
 refine ea1_3 T.top fun x0 h0 _ hd0=>?_
 have hl:=(List.getElem?_eq_some_iff.mp h0).1
 refine ev_asg (ev_map (l:=List.range ns.length) (f:=ni) (g:=fun k=>bd ns nm (dpF ns k) k) (ev_p1 (ev_len g rfl) (pm_range1 ⟨by omega,by have:=t.le; omega⟩)) (congrArg some rng_ni) (by rw [List.length_range]; exact Nat.le_trans t.le (by decide)) fun k hk=>ev_call3 (ev_var rfl) (ev_var rfl) (ev_var rfl) fun Q q=>?_) (lt_b rfl) ?_
 ·refine (⟨_,List.getElem?_eq_getElem (List.mem_range.mp hk)⟩:∃ x,ns[k]? = some x).elim fun x hx=>?_
  have e:dpF ns k = 8 - x.deep:=congrArg (fun t:Option Nd=>t.elim 0 fun x=>8 - x.deep) hx
  have d:=Nat.le_trans (T.lim k x hx).dp (show (if x.w = true then 6 else 7) ≤ 7 by cases x.w <;> decide)
  rw [e] at q
  exact fuel (m:=8 - x.deep + 1) (Nat.le_trans (Nat.succ_le_succ (Nat.sub_le _ _)) (Nat.le_trans (by decide:9 ≤ 12) (Nat.le_add_left _ _))) (f18 T g hx (Nat.sub_add_cancel (Nat.le_trans d (by decide))) q)
 have e7:dpF ns 0 = 7:=(congrArg (fun t:Option Nd=>t.elim 0 fun x=>8 - x.deep) h0).trans (show 8 - x0.deep = 7 by rw [hd0])
 refine st_ret (show wpEs PL (callF PL (n + 12)) [_,_,_,_,_] _ _ _ _ from ev_var (P:=PL) (C:=callF PL (n + 12)) (X:=X) (v:=.ref (H.length + 2)) rfl _ (ev_var (P:=PL) (C:=callF PL (n + 12)) (X:=X) (v:=nmL nm ns.length) rfl _ (ev_var (P:=PL) (C:=callF PL (n + 12)) (X:=X) (v:=.lst ((List.range ns.length).map fun k=>bd ns nm (dpF ns k) k)) rfl _ (ev_p2 (P:=PL) (C:=callF PL (n + 12)) (X:=X) (z:=bd ns nm 7 0) (ev_var rfl) ev_cst ?_ _ (wp_call2 (ev_var rfl) ev_cst (f15 t g (hE rfl (q ns nm H'.length _ t N (fun p hp=>app_get (g p hp)) new_at))))))))
 refine (pm_itl (j:=0) (v:=bd ns nm (dpF ns 0) 0) ?_).trans (by rw [e7])
 rw [List.getElem?_map,List.getElem?_range hl]; rfl
theorem f19 (q:∀ ns nm o H',Tree ns→Nms ns.length nm→GN (H.length + 2) ns H'→H'[o]? = some (.list ((sub ns 7 0).map ni))→Q (hallV (H.length + 2) ns nm o) H'):callF PL (n + 13) 19 [.lst (zs.map V.int)] H Q X:=by
 refine cf P_fn19 rfl (ev_asg (ev_call2 (ev_var rfl) ev_cst fun Q q=>f10 (by decide) q) (lt_b rfl) ?_)
 generalize zs.getD _ 0 = z
 refine ea1_3 (n30 (a:=z)) fun m em h2 hm=>ev_asg (v:=ni m) (ev_eq (ev_p2 ev_cst (ev_p2 (ev_var rfl) ev_cst (pm_mod (by decide))) pm_add) (congrArg V.int em)) (lt_b rfl) ?_
 exact ev_ite (ev_p2 (ev_p2 (ev_p2 (ev_var rfl) ev_cst (pm_fdiv (by decide) (by decide))) ev_cst (pm_mod (by decide))) ev_cst (pm_eq rd_int rd_int)) (fun _=>ev_asg (v:=ni 30) ev_cst (lt_b rfl) (f19b (by decide) (Nat.le_refl _) q)) fun _=>f19b h2 hm q
noncomputable def wkP (ns:List Nd) (k:Nat):Bool:=!(ns[k]?).any Nd.w
theorem f24 {o:Nat} (t:Tree ns) (g:GN r ns H) (ho:H[o]? = some (.list ((sub ns 7 0).map ni))) (q:Q (.lst ((((sub ns 7 0).filter (wkP ns)).map nm).map V.str)) H):callF PL (n + 1) 24 [hallV r ns nm o] H Q X:=by
 refine ea1_3 t.tr.top fun x0 h0 _ _=>?_
 rw [List.map_map] at q
 refine cf P_fn24 rfl (ev_ret (ev_flt (l:=sub ns 7 0) (f:=ni) (g:=fun k=>V.str (nm k)) (p:=wkP ns) (w:=.ref o) (ev_p2 (ev_var rfl) ev_cst rfl) (src_ref ho) ?_ (fun k hk=>?_) fun k hk _=>ev_p2 (x:=nmL nm ns.length) (ev_p2 (ev_var rfl) ev_cst rfl) (ev_var rfl) (it_nmL (t.tr.lt h0 k hk))) q)
 ·exact Nat.le_trans ((t.tr.nd h0).length_le_of_subset (l₂:=List.range ns.length) fun i hi=>List.mem_range.mpr (t.tr.lt h0 i hi)) (Nat.le_trans (Nat.le_of_eq List.length_range) (Nat.le_trans t.le (by decide)))
 ·refine (⟨_,List.getElem?_eq_getElem (t.tr.lt h0 k hk)⟩:∃ x,ns[k]? = some x).elim fun x hx=>?_
  refine ev_eq (ev_not (s:=x.w) (ev_p2 (x:=.ref x.d) (ev_p2 (x:=.ref r) (ev_p2 (ev_var rfl) ev_cst rfl) (ev_var rfl) (pm_itr g.row (by rw [List.getElem?_map,hx]; rfl))) ev_cst (pm_dct (g.dic hx) rfl))) ?_
  unfold wkP
  rw [hx]; rfl
end
end Mine
end
noncomputable section
namespace Mine
open PySem
noncomputable def setG (σ:Ad) (g:List (Nat × O)):Ad:={ σ with G:=g }
noncomputable def upd {α:Type} (f:Nat→α) (k:Nat) (x:α):Nat→α:=fun j=>if j = k then x else f j
noncomputable def rg (N:Nat) (f:Nat→V):O:=.list ((List.range N).map f)
noncomputable def liV (l:List Int):V:=.lst (l.map V.int)
noncomputable def wK (a N:Nat) (L:Nat→List Int):List (Nat × O):=[(a,rg N fun k=>liV (L k))]
noncomputable def wD (a N:Nat) (L:Nat→List Int) (d:Nat) (ds:List Nm):List (Nat × O):=[(a,rg N fun k=>liV (L k)),(d,.list (ds.map V.str))]
section
variable {P:Prog} {C:Calls} {ρ:Fm} {H:AH} {K:KS} {R:QE} {X:XE} {ss:List St} {σ:Ad} {S:Hst} {G0 W:List (Nat × O)} {a N k i:Nat} {e:Ex}
theorem hs_g {g:List (Nat × O)} (h:Hs (setG σ g) S H) {p:Nat × O} (hp:p ∈ g):H[p.1]? = some p.2:=(h.fix p (.tail _ (.tail _ (.tail _ (.tail _ (.tail _ (.tail _ (.tail _ (.tail _ (.tail _ (.tail _ hp))))))))))).1
theorem fix_g {g:List (Nat × O)} {j:Nat}:(fixL (setG σ g) S)[j + 10]? = g[j]?:=rfl
theorem Hs.gset (w:Hs (setG σ (G0 ++ W)) S H) (k:Nat) {a:Nat} {o o':O} (hk:W[k]? = some (a,o)):Hs (setG σ (G0 ++ W.set k (a,o'))) S (H.set a o'):=by
 refine w.set' (G0.length + k + 10) (o:=o) (fix_g.trans ?_) (o'':=o') ?_ rfl rfl w.kp w.qp w.qn w.pn w.kn
 ·rw [List.getElem?_append_right (Nat.le_add_right _ _),Nat.add_sub_cancel_left]; exact hk
 ·have z:(G0 ++ W).set (G0.length + k) (a,o') = G0 ++ W.set k (a,o'):=by rw [List.set_append_right _ _ (Nat.le_add_right _ _),Nat.add_sub_cancel_left]
  unfold fixL setG
  rw [← z]; rfl
theorem g_at (w:Hs (setG σ (G0 ++ W)) S H) (k:Nat) {p:Nat × O} (hk:W[k]? = some p):H[p.1]? = some p.2:=hs_g w (List.mem_append_right _ (List.mem_of_getElem? hk))
theorem rg_get {f:Nat→V} (hk:k < N):((List.range N).map f)[k]? = some (f k):=by rw [List.getElem?_map,List.getElem?_range hk]; rfl
theorem rg_set {f:Nat→V} {x:V}:((List.range N).map f).set k x = (List.range N).map (upd f k x):=by
 refine List.ext_getElem? fun j=>?_
 rw [List.getElem?_set]
 by_cases hj:j < N
 ·rw [rg_get (f:=f) hj,rg_get (f:=upd f k x) hj,List.length_map,List.length_range]
  show _ = some (if j = k then x else f j)
  by_cases e:k = j
  ·rw [if_pos e,if_pos (e ▸ hj),if_pos e.symm]
  ·rw [if_neg e,if_neg (Ne.symm e)]
 ·have n1:∀ {g:Nat→V},((List.range N).map g)[j]? = none:=fun {g}=>List.getElem?_eq_none (by rw [List.length_map,List.length_range]; exact Nat.le_of_not_lt hj)
  rw [n1 (g:=f),n1 (g:=upd f k x)]
  by_cases e:k = j
  ·rw [if_pos e,if_neg (by rw [List.length_map,List.length_range,e]; exact hj)]
  ·rw [if_neg e]
theorem upd_map {α:Type} {f:Nat→α} {g:α→V} {x:α}:upd (fun j=>g (f j)) k (g x) = fun j=>g (upd f k x j):=funext fun j=>(apply_ite g _ _ _).symm
theorem set_rg {r:Nat} {f:Nat→V} {x:V} (hr:H[r]? = some (rg N f)) (hk:k < N):setItemV (.ref r) (ni k) x H = some (H.set r (rg N (upd f k x))):=by
 show setL r k x H H[r]? = _
 rw [hr]
 show (if 0 ≤ (k:Int)∧(k:Int) < ((List.range N).map f).length then some (H.set r (.list (((List.range N).map f).set k x))) else none) = _
 rw [if_pos ⟨Int.natCast_nonneg k,by rw [List.length_map,List.length_range]; exact Int.ofNat_lt.mpr hk⟩,rg_set]; rfl
theorem liV_upd {L:Nat→List Int} {l:List Int}:upd (fun k=>liV (L k)) k (liV l) = fun j=>liV (upd L k l j):=upd_map (g:=liV)
end
noncomputable def pO (S:Hst) (f:Nat→Option (Bool × Nm)):Hst:={ S with own:=f }
theorem mem_G {σ:Ad} {S:Hst} {p:Nat × O} (h:p ∈ σ.G):p ∈ fixL σ S:=.tail _ (.tail _ (.tail _ (.tail _ (.tail _ (.tail _ (.tail _ (.tail _ (.tail _ (.tail _ h)))))))))
theorem Hs.addG {σ:Ad} {S:Hst} {H L:AH} {G1:List (Nat × O)} (h:Hs σ S H) (nd:(G1.map (·.1)).Nodup) (c:∀ p ∈ G1,H.length ≤ p.1∧(H ++ L)[p.1]? = some p.2):Hs (setG σ (σ.G ++ G1)) (pO S fun x=>if H.length ≤ x then none else S.own x) (H ++ L):=by
 have lt:∀ {b:Nat} {o:O},H[b]? = some o→b < H.length:=fun e=>(List.getElem?_eq_some_iff.mp e).1
 have ow:∀ {b:Nat} {o:O},H[b]? = some o→(if H.length ≤ b then none else S.own b) = S.own b:=fun e=>if_neg (Nat.not_le_of_gt (lt e))
 have ef:fixL (setG σ (σ.G ++ G1)) (pO S fun x=>if H.length ≤ x then none else S.own x) = fixL σ S ++ G1:=rfl
 refine ⟨?_,?_,fun p hp=>⟨(ow (h.kp p hp).2.1).trans (h.kp p hp).1,app_get (h.kp p hp).2.1,(h.kp p hp).2.2⟩,fun p hp=>⟨(ow (h.qp p hp).2.1).trans (h.qp p hp).1,app_get (h.qp p hp).2.1,(h.qp p hp).2.2⟩,h.qn,h.pn,h.kn⟩
 ·rw [ef,List.map_append]
  refine List.nodup_append.mpr ⟨h.nd,nd,fun a ha b hb e=>?_⟩
  exact ea1_2 (List.mem_map.mp ha) fun p hp ep=>ea1_2 (List.mem_map.mp hb) fun q hq eq=>absurd (c q hq).1 (Nat.not_le_of_gt (by rw [eq,← e,← ep]; exact lt (h.fix p hp).1))
 ·rw [ef]
  exact app_all (fun p hp=>⟨app_get (h.fix p hp).1,(ow (h.fix p hp).1).trans (h.fix p hp).2⟩) fun p hp=>⟨(c p hp).2,if_pos (c p hp).1⟩
theorem Hs.dropG {σ:Ad} {S:Hst} {H:AH} {G G1:List (Nat × O)} (h:Hs (setG σ (G ++ G1)) S H):Hs (setG σ G) S H:=by
 have ef:fixL (setG σ (G ++ G1)) S = fixL (setG σ G) S ++ G1:=rfl
 have nd:=h.nd
 rw [ef,List.map_append] at nd
 exact ⟨(List.nodup_append.mp nd).1,fun p hp=>h.fix p (ef ▸ List.mem_append_left _ hp),h.kp,h.qp,h.qn,h.pn,h.kn⟩
theorem slice_suf {α:Type} {a b:List α}:sliceL (a ++ b) (clip (a ++ b).length (a.length:Int)) (a ++ b).length = b:=by
 rw [clip_nat (le_app (a:=a) (b:=b))]
 unfold sliceL
 rw [List.take_length,List.drop_left]
theorem Rt.g {π:PI} {σ:Ad} {g:List (Nat × O)}:∀ {d k:Nat} {v:V},Rt π σ d k v→Rt π (setG σ g) d k v:=by
 intro d
 induction d with
 | zero=>exact fun h=>h
 | succ d ih=>exact fun h=>⟨h.1,h.2.imp fun w q=>⟨ih q.1,q.2⟩⟩
theorem Pl.g {π:PI} {σ:Ad} {g:List (Nat × O)} (pl:Pl π σ):Pl π (setG σ g):=⟨pl.nm,pl.ok,pl.le,fun m hm=>ea3_4 (pl.pt m hm) fun d k v a b c e=>⟨d,k,v,a,b.g,c,e⟩,pl.top,pl.mn⟩
theorem Dd.g {π:PI} {σ:Ad} {g:List (Nat × O)} {v:V} (h:Dd π σ v):Dd π (setG σ g) v:=by
 cases h with
 | send a b=>exact .send a b
 | work a=>exact .work a
 | fail a=>exact .fail a
structure Fx (σ:Ad) (G0:List (Nat × O)) (ns:List Nd) (nm:Nat→Nm) (r o:Nat):Prop where
 t:Tree ns
 n:Nms ns.length nm
 g:∀ p ∈ LN r ns,p ∈ G0
 o:(o,O.list ((sub ns 7 0).map ni)) ∈ G0
 pl:Pl (piN ns nm) σ
 en:σ.names = (sub ns 7 0).map nm
 ep:σ.plan = bd ns nm 7 0
section
variable {P:Prog} {C:Calls} {ρ:Fm} {σ:Ad} {S:Hst} {H:AH} {G0:List (Nat × O)} {ns:List Nd} {nm:Nat→Nm} {x y:Nd} {k j f a o r n N:Nat} {Q R:QE} {X:XE} {K:KS}
theorem ev_hn {i j:Nat} {key:Nm} {v:V} (g:GN r ns H) (hx:ns[k]? = some x) (hi:ρ[i]? = some (some (hallV r ns nm o))) (hj:ρ[j]? = some (some (ni k))) (e:dget key ndK (ndV x) = some v):Ev P C ρ H X (.prim false .item [.prim false .item [.prim false .item [.var i,.cst (.str ['n','o','d','e','s'])],.var j],.cst (.str key)]) v :=
 ev_p2 (ev_p2 (ev_p2 (ev_var hi) ev_cst rfl) (ev_var hj) (pm_itr g.row (by rw [List.getElem?_map,hx]; rfl))) ev_cst (pm_dct (g.dic hx) e)
theorem pm_lidx (N':Nms N nm) (hk:k < N):primM P false .lindex [nmL nm N,.str (nm k)] H = some (ni k,H):=by
 have q:=datas_atoms (at_map (f:=fun k=>V.str (nm k)) (l:=List.range N) fun _=>trivial)
 show (if okD _ = true then (((List.range N).map fun k=>V.str (nm k)).findIdx? fun y=>eqV y (.str (nm k))).map fun (k:Nat)=>(V.int k,H) else none) = _
 rw [if_pos (okD_of q.1 (Nat.le_trans (Nat.le_of_eq q.2) (by decide))),show (((List.range N).map fun k=>V.str (nm k)).findIdx? fun y=>eqV y (.str (nm k))) = some k from ?_]
 ·rfl
 ·have hl:((List.range N).map fun k=>V.str (nm k)).length = N:=by rw [List.length_map,List.length_range]
  refine List.findIdx?_eq_some_iff_getElem.mpr ⟨hl.symm ▸ hk,?_,fun j hj=>?_⟩
  ·rw [List.getElem_map,List.getElem_range]
   exact beq_iff_eq.mpr rfl
  ·rw [List.getElem_map,List.getElem_range]
   exact fun z=>Nat.ne_of_lt hj (N'.inj j k (Nat.lt_trans hj hk) hk (beq_iff_eq.mp z))
theorem it_thd (h:ns[k]? = some x):primM P false .item [bd ns nm (f + 1) k,.int 2] H = some (.str (thdN x),H):=by
 rw [bd_eq h]
 unfold thdN
 by_cases e:x.w = true
 ·rw [if_pos e,if_pos e]; rfl
 ·rw [if_neg e,if_neg e]; rfl
theorem ev_part {i l:Nat} (T:Tr ns) (hx:ns[k]? = some x) (h0:ρ[i]? = some (some (hallV r ns nm o))) (h3:ρ[l]? = some (some (ni k))):∃ f,Ev P C ρ H X (.prim false .item [(.prim false .item [(.var i),.cst (.str ['p','a','r','t','s'])]),(.var l)]) (bd ns nm (f + 1) k):=by
 have hk:=(List.getElem?_eq_some_iff.mp hx).1
 have e:dpF ns k = 8 - x.deep:=congrArg (fun t:Option Nd=>t.elim 0 fun x=>8 - x.deep) hx
 have d:=Nat.le_trans (T.lim k x hx).dp (show (if x.w = true then 6 else 7) ≤ 7 by cases x.w <;> decide)
 refine (T.fpos hx (Nat.sub_add_cancel (Nat.le_trans d (by decide)))).imp fun f ef=>?_
 refine ev_p2 (x:=.lst (psL ns nm)) (ev_p2 (ev_var h0) ev_cst rfl) (ev_var h3) (pm_itl ?_)
 unfold psL
 rw [List.getElem?_map,List.getElem?_range hk]
 exact congrArg (fun t=>some (bd ns nm t k)) (e.trans ef)
theorem ev_again {i l:Nat} (T:Tr ns) (hx:ns[k]? = some x) (h0:ρ[i]? = some (some (hallV r ns nm o))) (h3:ρ[l]? = some (some (ni k))):Ev P C ρ H X (.prim false .item [(.prim false .item [(.prim false .item [(.var i),.cst (.str ['p','a','r','t','s'])]),(.var l)]),.cst (.int 2)]) (.str (thdN x)):=(ev_part T hx h0 h3).elim fun _ h=>ev_p2 h ev_cst (it_thd hx)
theorem ev_mn {i l:Nat} (T:Tr ns) (hx:ns[k]? = some x) (hw:x.w = true) (h0:ρ[i]? = some (some (hallV r ns nm o))) (h3:ρ[l]? = some (some (ni k))):Ev P C ρ H X (.prim false .item [(.prim false .item [(.prim false .item [(.var i),.cst (.str ['p','a','r','t','s'])]),(.var l)]),.cst (.int 3)]) (.int (mnN k x)):=(ev_part T hx h0 h3).elim fun _ h=>ev_p2 h ev_cst (by rw [bd_eq hx,if_pos hw]; unfold mnN; rw [if_pos hw]; rfl)
theorem ev_sp {i l:Nat} (T:Tr ns) (hx:ns[k]? = some x) (hw:x.w = true) (h0:ρ[i]? = some (some (hallV r ns nm o))) (h3:ρ[l]? = some (some (ni k))):Ev P C ρ H X (.prim false .item [(.prim false .item [(.prim false .item [(.var i),.cst (.str ['p','a','r','t','s'])]),(.var l)]),.cst (.int 4)]) (.int (spN x)):=(ev_part T hx h0 h3).elim fun _ h=>ev_p2 h ev_cst (by rw [bd_eq hx,if_pos hw]; unfold spN; rw [if_pos hw]; rfl)
theorem nv_nm (N':Nms ns.length nm) (hx:ns[k]? = some x):(piN ns nm).nv (nm k) = nvN x∧(piN ns nm).al (nm k) = alN x:=by
 have e:=ix_nm N' (List.getElem?_eq_some_iff.mp hx).1
 refine ⟨?_,?_⟩
 ·show (ixN ns.length nm (nm k)).any _ = _
  rw [e]
  show (ns[k]?).any nvN = _
  rw [hx]; rfl
 ·show (ixN ns.length nm (nm k)).any _ = _
  rw [e]
  show (ns[k]?).any alN = _
  rw [hx]; rfl
theorem ix_ok {m:Nm} (h:((piN ns nm).isW m).isSome = true):∃ k x,ns[k]? = some x∧nm k = m:=by
 have h:((ixN ns.length nm m).bind _).isSome = true:=h
 refine optE (o:=ixN ns.length nm m) (fun z=>?_) fun k z=>⟨k,_,List.getElem?_eq_getElem (ix_of z).2,(ix_of z).1⟩
 rw [z] at h
 exact absurd h Bool.false_ne_true
end
end Mine
end
noncomputable section
namespace Mine
open PySem
section
variable {P:Prog} {C:Calls} {ρ:Fm} {σ:Ad} {S:Hst} {H:AH} {G0:List (Nat × O)} {ns:List Nd} {nm:Nat→Nm} {x y:Nd} {k j a o r n N:Nat} {Q R:QE} {X:XE} {K:KS} {e:Evt}
theorem ch_0 (N':Nms ns.length nm) (h:ns[0]? = some x):(piN ns nm).ch (nm 0) = none:=by
 show (ixN ns.length nm (nm 0)).bind _ = _
 rw [ix_nm N' (List.getElem?_eq_some_iff.mp h).1]; rfl
theorem thd_w (h:x.w = true):thdN x ∈ rulesW:=by unfold thdN; rw [if_pos h]; exact rul_in
theorem thd_k (h:x.w = false):thdN x ∈ rules3:=by unfold thdN; rw [if_neg (by rw [h]; exact Bool.false_ne_true)]; exact mode_in
noncomputable def noC (k:Nat) (x:Nd):Bool:=eqV (ni k) (.int 0) || (!x.w && eqV (.str (thdN x)) (.str ['n','e','v','e','r']))
theorem k_0 (h:eqV (ni k) (.int 0) = true):k = 0:=Int.ofNat.inj (beq_iff_eq.mp (show ((k:Int) == 0) = true from h))
theorem cnt_fail (T:Tr ns) (N':Nms ns.length nm) (hx:ns[k]? = some x):cnt (piN ns nm) (.fail (nm k)) = !noC k x:=by
 show (!(piN ns nm).nv (nm k) && ((piN ns nm).ch (nm k)).isSome) = _
 rw [(nv_nm N' hx).1]
 unfold noC
 cases h:eqV (ni k) (.int 0) with
 | true =>
  have z:=k_0 h
  subst z
  rw [ch_0 N' hx]; exact Bool.and_false _
 | false =>
  have z:k ≠ 0:=fun e=>by subst e; exact absurd h (by decide)
  refine ea2_4 (T.up k x hx (Nat.pos_of_ne_zero z)) fun j y hj _ _ hm=>?_
  rw [ch_nm T N' hj hm,Bool.false_or]
  show (!nvN x && true) = _
  rw [Bool.and_true]
  cases hw:x.w with
  | true=>exact congrArg (!·) ((by decide:∀ r ∈ rulesW,(r == ['n','e','v','e','r']) = false) _ (thd_w hw))
  | false=>rfl
theorem cnt_leave (T:Tr ns) (N':Nms ns.length nm) (hx:ns[k]? = some x) (hw:x.w = false):cnt (piN ns nm) (.leave (nm k)) = (!noC k x && eqV (.str (thdN x)) (.str ['a','l','w','a','y','s'])):=by
 show (piN ns nm).al (nm k) = _
 rw [(nv_nm N' hx).2]
 unfold noC
 cases h:eqV (ni k) (.int 0) with
 | true =>
  have z:=k_0 h
  subst z
  exact ea1_3 T.top fun y hy hyw _=>absurd ((Option.some.inj (hx.symm.trans hy) ▸ hw).symm.trans hyw) Bool.false_ne_true
 | false =>
  rw [hw,Bool.false_or]
  exact (by decide:∀ m ∈ rules3,(!(m == ['f','a','u','l','t','e','d'] || m == ['n','e','v','e','r'])) = (!(!false && eqV (.str m) (.str ['n','e','v','e','r'])) && eqV (.str m) (.str ['a','l','w','a','y','s']))) _ (thd_k hw)
theorem f26c (T:Tr ns) (N':Nms ns.length nm) (g:GN r ns H) (fl:flOk (piN ns nm) e) (q:Q (.bool (cnt (piN ns nm) e)) H):callF PL (n + 1) 26 [hallV r ns nm o,e.v] H Q X:=by
 have go:∀ {k x t},ns[k]? = some x→nm k = e.nm→∀ {H},GN r ns H→Ev PL (callF PL n) [some (hallV r ns nm o),some e.v,some (ni k),some (.str (thdN x))] H X (.prim false (.cop .eq) [(.prim false .item [.var 1,.cst (.int 0)]),.cst (.str ['f','a','i','l','s'])]) (.bool t)→cnt (piN ns nm) e = (!noC k x && (t || eqV (.str (thdN x)) (.str ['a','l','w','a','y','s'])))→∀ {Q:QE},Q (.bool (cnt (piN ns nm) e)) H→callF PL (n + 1) 26 [hallV r ns nm o,e.v] H Q X:=fun {k x t} hx ek {H} g he ec {Q} q=>by
  refine cf P_fn26 rfl (ev_asg (v:=ni k) (ev_mc1 (ev_p2 (z:=nmL nm ns.length) (ev_var rfl) ev_cst rfl) rfl (ev_p2 (ev_var rfl) ev_cst it_ev) (ek ▸ pm_lidx N' (List.getElem?_eq_some_iff.mp hx).1)) (lt_b rfl) (ev_asg (ev_again T hx rfl rfl) (lt_b rfl) (ev_ite (s:=noC k x) (ev_or (ev_p2 (ev_var rfl) ev_cst (pm_eq rd_int rd_int)) fun _=>ev_and (ev_not (ev_hn g hx rfl rfl rfl)) fun _=>ev_p2 (ev_var rfl) ev_cst (pm_eq rd_str rd_str)) (fun h=>?_) fun h=>?_)))
  ·rw [ec,h] at q
   exact ev_ret ev_cst q
  ·rw [ec,h] at q
   exact ev_ret (ev_or he fun _=>ev_p2 (ev_var rfl) ev_cst (pm_eq rd_str rd_str)) q
 cases e with
 | fail m=>exact ea2_2 (ix_ok fl) fun k x hx ek=>go (t:=true) hx ek g (pe_ok rfl) (by rw [← ek,cnt_fail T N' hx,Bool.true_or,Bool.and_true]) q
 | leave m =>
  refine ea2_2 (ix_ok (congrArg Option.isSome fl)) fun k x hx ek=>go (t:=false) hx ek g (pe_ok rfl) ?_ q
  rw [← ek,cnt_leave T N' hx (Option.some.inj ((isW_nm N' hx).symm.trans (ek.symm ▸ fl))),Bool.false_or]
 | beg _ | end_ _ | sent _ _ _ | works _ _ | lost _ _=>exact fl.elim
theorem f27w {t:Int} {L:Nat→List Int} (T:Tr ns) (hx:ns[k]? = some x) (hw:x.w = true) (ha:H[a]? = some (rg ns.length fun k=>liV (L k))) (hl:(L k).length ≤ sizeOf') (q:Q (liV (Fh t (spN x) (L k))) H):callF PL (n + 1) 27 [hallV r ns nm o,.ref a,ni k,.int t] H Q X:=by
 have hk:=(List.getElem?_eq_some_iff.mp hx).1
 refine cf P_fn27 rfl (ev_ret (ev_eq (ev_flt (l:=L k) (f:=V.int) (g:=V.int) (p:=fun z=>decide (t < z + spN x)) (w:=liV (L k)) (ev_p2 (ev_var rfl) (ev_var rfl) (pm_itr ha (rg_get hk))) rfl hl (fun z _=>ev_p2 (ev_p2 (ev_var rfl) (ev_sp T hx hw rfl rfl) pm_add) (ev_var rfl) pm_gt) fun _ _ _=>ev_var rfl) ?_) q)
 refine congrArg (fun p:Int→Bool=>V.lst (((L k).filter p).map V.int)) (funext fun z=>?_)
 rw [Bool.eq_iff_iff,decide_eq_true_iff,decide_eq_true_iff]
 omega
end
end Mine
end
noncomputable section
namespace Mine
open PySem
section
variable {t s:Int} {l:List Int}
theorem fh_app (h:1 ≤ s):Fh t s (l ++ [t]) = Fh t s l ++ [t]:=by
 unfold Fh
 rw [List.filter_append,List.filter_cons_of_pos (by exact decide_eq_true (by omega))]; rfl
theorem fh_idem:Fh t s (Fh t s l) = Fh t s l:=by
 unfold Fh
 rw [List.filter_filter]
 exact congrArg (fun p=>l.filter p) (funext fun z=>Bool.and_self _)
theorem fh_le:(Fh t s l).length ≤ l.length:=List.length_filter_le _ _
theorem rd_sref {H:AH} {i:Nat} {α:Type} {f:α→V} {l:List α} (hf:∀ a,atom (f a)) (h:H[i]? = some (.list (l.map f))):rd H (.ref i) = some (.lst (l.map f)):=by
 have q:=datas_atoms (at_map (f:=f) (l:=l) hf)
 show (H[i]?.bind O.lst).bind _ = _
 rw [h]
 exact if_pos (okD_of q.1 (Nat.le_trans (Nat.le_of_eq q.2) (by decide)))
end
noncomputable def Rl (ns:List Nd) (nm:Nat→Nm) (t:Int) (L:Nat→List Int) (kp:Nm→List Int):Prop:=∀ k x,ns[k]? = some x→x.w = true→Fh t (spN x) (L k) = Fh t (spN x) (kp (nm k))
section
variable {σ:Ad} {S:Hst} {H:AH} {G0:List (Nat × O)} {ns:List Nd} {nm:Nat→Nm} {x y:Nd} {k j a o r n N d:Nat} {Q R:QE} {X:XE} {K:KS} {e:Evt} {t:Int} {L:Nat→List Int} {kp k':Nm→List Int}
theorem sp_1 (hw:y.w = true):1 ≤ spN y:=by unfold spN; rw [if_pos hw]; exact spn_in.1
theorem Rl.up (N':Nms ns.length nm) (rl:Rl ns nm t L kp) (hj:ns[j]? = some y) (hw:y.w = true):Rl ns nm t (upd L j (Fh t (spN y) (L j) ++ [t])) (upK kp (nm j) (kp (nm j) ++ [t])):=fun k x hx hxw=>by
 show Fh t (spN x) (if k = j then _ else L k) = Fh t (spN x) (if nm j = nm k then _ else kp (nm k))
 by_cases z:k = j
 ·subst z
  have e:=Option.some.inj (hx.symm.trans hj)
  subst e
  rw [if_pos rfl,if_pos rfl,fh_app (sp_1 hw),fh_app (sp_1 hw),fh_idem,rl k x hx hw]
 ·rw [if_neg z,if_neg fun q=>z (N'.inj k j (List.getElem?_eq_some_iff.mp hx).1 (List.getElem?_eq_some_iff.mp hj).1 q.symm)]
  exact rl k x hx hxw
structure GU (σ:Ad) (G0:List (Nat × O)) (ns:List Nd) (nm:Nat→Nm) (S:Hst) (t:Int) (a d T:Nat) (tot:List Nm) (k' kp:Nm→List Int) (e:Evt) (fs:List Evt) (L:Nat→List Int) (dn:List Nm) (H:AH):Prop where
 hs:Hs (setG σ (G0 ++ wD a ns.length L d (dn ++ [e.nm]))) S H
 ch:Ch (piN ns nm) t (cnt (piN ns nm) e) kp e fs k'
 fl:flOk (piN ns nm) e
 rl:Rl ns nm t L kp
 le:∀ k,(L k).length + fs.length ≤ T
 nl:dn ++ fs.map Evt.nm = tot
noncomputable def fr28 (hall rows:V) (a:Nat) (t:Int) (d:Nat) (e:Evt) (o6:Option V):Fm:=[some hall,some (.ref a),some rows,some (.int t),some (.ref d),some e.v,o6]
noncomputable def IG (σ:Ad) (G0:List (Nat × O)) (ns:List Nd) (nm:Nat→Nm) (S:Hst) (t:Int) (a d T:Nat) (tot:List Nm) (k':Nm→List Int) (hall rows:V) (M:Nat) (ρ:Fm) (H:AH):Prop :=
 ∃ kp e fs L dn o6,ρ = fr28 hall rows a t d e o6∧(GU σ G0 ns nm S t a d T tot k' kp e fs L dn H∧fs.length = M)
theorem ret_due {ρ:Fm} {ss:List St} {fs:List Evt} {ds:List Nm} (h4:ρ[4]? = some (some (.ref d))) (h2:ρ[2]? = some (some (.lst (fs.map Evt.v)))) (h7:ρ.length = 7) (hd:H[d]? = some (.list (ds.map V.str))) (hl:fs.length ≤ sizeOf') (e:ds = fs.map Evt.nm) (q:Q (.bool true) H) :
  wpSs PL (callF PL n) (.ret (.prim false (.cop .eq) [.var 4,(.comp false (.prim false .item [.var 7,.cst (.int 1)]) (.var 2) none)]) :: ss) ρ H K Q X:=by
 subst e
 rw [List.map_map] at hd
 have z:=rd_sref (f:=fun e:Evt=>V.str e.nm) (fun _=>trivial) hd
 refine ev_ret (ev_p2 (z:=.bool true) (ev_var h4) (ev_map (l:=fs) (f:=Evt.v) (g:=fun e=>V.str e.nm) (ev_var h2) rfl hl fun e _=>ev_p2 (ev_var ?_) ev_cst it_ev) ((pm_eq z (rd_map (f:=fun e:Evt=>V.str e.nm) fun _=>trivial)).trans ?_)) q
 ·rw [← h7]; exact List.getElem?_concat_length
 ·rw [eqV_self (.lst _) (datas_atoms (at_map (f:=fun e:Evt=>V.str e.nm) fun _=>trivial)).1]
theorem st_setE {P:Prog} {C:Calls} {ρ:Fm} {H H':AH} {K:KS} {R:QE} {X:XE} {ss:List St} {oe ie e:Ex} {x ov iv:V} (he:Ev P C ρ H X e x) (ho:Ev P C ρ H X oe ov) (hi:Ev P C ρ H X ie iv) (es:setItemV ov iv x H = some H') (k:wpSs P C ss ρ H' K R X):wpSs P C (.setItem oe ie e :: ss) ρ H K R X:=st_setI (he _ (ho _ (hi _ (by rw [es]; exact k))))
theorem ev_call4 {P:Prog} {C:Calls} {ρ:Fm} {H:AH} {X:XE} {f:Nat} {a b c d:Ex} {x y z w v:V} (h:Ev P C ρ H X a x) (h2:Ev P C ρ H X b y) (h3:Ev P C ρ H X c z) (h4:Ev P C ρ H X d w) (hc:∀ Q:QE,Q v H→C f [x,y,z,w] H Q X):Ev P C ρ H X (.call f [a,b,c,d]) v:=fun Q q=>h _ (h2 _ (h3 _ (h4 _ (hc Q q))))
theorem f28 {fs:List Evt} {T:Nat} (F:Fx σ G0 ns nm r o) (w:Hs (setG σ (G0 ++ wK a ns.length L)) S H) (ch:Ch (piN ns nm) t (cnt (piN ns nm) e) kp e fs k') (fl:flOk (piN ns nm) e) (rl:Rl ns nm t L kp) (le:∀ k,(L k).length + fs.length ≤ T) (hT:T ≤ 900000)
  (q:∀ L' f H',Hs (setG σ (G0 ++ wK a ns.length L')) (pO S f) H'→Rl ns nm t L' k'→(∀ k,(L' k).length ≤ T)→Q (.bool true) H'):callF PL (n + 2) 28 [hallV r ns nm o,.ref a,.lst (fs.map Evt.v),.int t] H Q X:=by
 have N':=F.n
 have Tr:=F.t.tr
 have sz:∀ {m:Nat},m ≤ T→m ≤ sizeOf':=fun h=>Nat.le_trans h (Nat.le_trans hT (by decide))
 have hfl:fs.length ≤ sizeOf':=sz (Nat.le_trans (Nat.le_add_left _ _) (le 0))
 refine (ch_head ch).elim fun rest er=>?_
 have e1:∀ {H:AH},primM PL false .item [.lst (fs.map Evt.v),.int 0] H = some (e.v,H):=fun {H}=>er ▸ pm_l0
 refine cf P_fn28 rfl (st_asg (wp_pm1 (ev_p2 (P:=PL) (C:=callF PL (n + 1)) (X:=X) (z:=.str e.nm) (ev_p2 (ev_var rfl) ev_cst e1) ev_cst it_ev _ (hE (pM_mkl le1) ⟨lt_b rfl,ev_asg (ev_p2 (ev_var rfl) ev_cst e1) (lt_b rfl) ?_⟩))))
 have w1:Hs (setG σ (G0 ++ wD a ns.length L H.length ([] ++ [e.nm]))) (pO S fun x=>if H.length ≤ x then none else S.own x) (H ++ [.list [.str e.nm]]):=by
  have z:=w.addG (L:=[.list [.str e.nm]]) (G1:=[(H.length,.list [.str e.nm])]) (List.nodup_cons.mpr ⟨List.not_mem_nil,List.nodup_nil⟩) (all1 ⟨Nat.le_refl _,new_at⟩)
  have y:Hs (setG σ ((G0 ++ wK a ns.length L) ++ [(H.length,.list [.str e.nm])])) (pO S fun x=>if H.length ≤ x then none else S.own x) (H ++ [.list [.str e.nm]]):=z
  rw [List.append_assoc] at y
  exact y
 generalize (fun x=>if H.length ≤ x then none else S.own x) = f at w1
 have out:∀ {L H'} {ds:List Nm} {M:Nat},Hs (setG σ (G0 ++ wD a ns.length L H.length ds)) (pO S f) H'→Rl ns nm t L k'→(∀ k,(L k).length + M ≤ T)→Q (.bool true) H':=fun {L H' ds M} h r l=>q L f H' (Hs.dropG (G1:=[(H.length,.list (ds.map V.str))]) (by rw [List.append_assoc]; exact h)) r fun k=>Nat.le_trans (Nat.le_add_right _ _) (l k)
 refine ev_while (IG σ G0 ns nm (pO S f) t a H.length T (fs.map Evt.nm) k' (hallV r ns nm o) (.lst (fs.map Evt.v))) (N:=fs.length) (fun M ρ' H' hI=>ea6_2 hI fun kp e fs1 L dn o6 eρ g=>?_) ⟨kp,e,fs,L,[],none,rfl,⟨w1,ch,fl,rl,le,rfl⟩,rfl⟩
 subst eρ
 have eM:=g.2
 have g:=g.1
 have hN:GN r ns H':=fun p hp=>hs_g g.hs (List.mem_append_left _ (F.g p hp))
 have hd:=g_at g.hs 1 rfl
 refine ⟨cnt (piN ns nm) e,ev_call2 (ev_var rfl) (ev_var rfl) fun Q q=>f26c Tr N' hN g.fl q,fun hc K' hK=>?_,fun hc=>?_⟩
 ·have gch:=g.ch
  rw [hc] at gch
  have up:∃ w,(piN ns nm).ch e.nm = some w∧((fs1 = [e]∧k' = upK kp w (kp w ++ [t])∧((Fh t ((piN ns nm).sp w) (kp w ++ [t])).length:Int) ≤ (piN ns nm).mn w) ∨ ∃ fs2,fs1 = e :: fs2∧(piN ns nm).mn w < ((Fh t ((piN ns nm).sp w) (kp w ++ [t])).length:Int)∧Ch (piN ns nm) t (cF (piN ns nm) w) (upK kp w (kp w ++ [t])) (.fail w) fs2 k'):=by
   cases gch with
   | here h1 h2=>exact ⟨_,h1,.inl ⟨rfl,rfl,h2⟩⟩
   | go h1 h2 h3=>exact ⟨_,h1,.inr ⟨_,rfl,h2,h3⟩⟩
  refine ea1_2 up fun w hw hcs=>(ch_of Tr hw).elim fun i q1=>q1.elim fun j q2=>q2.elim fun y hy=>?_
  obtain ⟨ei,ej,hj,hi,_⟩:=hy
  subst ej
  have yw:y.w = true:=by
   cases z:y.w with
   | true=>rfl
   | false=>exact absurd hi ((Tr.lim j y hj).wk z ▸ List.not_mem_nil)
  refine ea1_4 (Tr.inn j y hj i hi) fun x hx _ eu _=>?_
  have hjl:=(List.getElem?_eq_some_iff.mp hj).1
  have esp:=(sp_nm N' hj).1
  have emn:=(sp_nm N' hj).2
  have eln:Fh t ((piN ns nm).sp (nm j)) (kp (nm j) ++ [t]) = Fh t (spN y) (L j) ++ [t]:=by rw [esp,fh_app (sp_1 yw),g.rl j y hj yw]
  rw [eln,emn] at hcs
  have lL:(L j).length ≤ sizeOf':=sz (Nat.le_trans (Nat.le_add_right _ _) (g.le j))
  have lF:(Fh t (spN y) (L j)).length + 1 ≤ sizeOf':=by
   have z:=g.le j
   have y1:1 ≤ fs1.length:=(ch_head gch).elim fun _ z=>z ▸ Nat.succ_le_succ (Nat.zero_le _)
   exact sz (Nat.le_trans (Nat.add_le_add fh_le y1) z)
  refine ev_asg (v:=ni j) (ev_eq (ev_p2 (x:=.ref x.d) (ev_p2 (x:=.ref r) (y:=ni i) (ev_p2 (ev_var rfl) ev_cst rfl) (ev_mc1 (ev_p2 (z:=nmL nm ns.length) (ev_var rfl) ev_cst rfl) rfl (ev_p2 (ev_var rfl) ev_cst it_ev) (ei ▸ pm_lidx N' (List.getElem?_eq_some_iff.mp hx).1)) (pm_itr hN.row (by rw [List.getElem?_map,hx]; rfl))) ev_cst (pm_dct (hN.dic hx) rfl)) (congrArg V.int eu)) (lt_b rfl) ?_
  have es:setItemV (.ref a) (ni j) (liV (Fh t (spN y) (L j) ++ [t])) H' = some (H'.set a (rg ns.length fun k=>liV (upd L j (Fh t (spN y) (L j) ++ [t]) k))):=by rw [set_rg (k:=j) (g_at g.hs 0 rfl) hjl,liV_upd]
  refine st_setE (ev_p2 (ev_call4 (ev_var rfl) (ev_var rfl) (ev_var rfl) (ev_var rfl) fun Q q=>f27w (n:=n) Tr hj yw (g_at g.hs 0 rfl) lL q) (ev_p1 (ev_var rfl) (pm_mkl le1)) ((pm_addl ?_).trans ?_)) (ev_var rfl) (ev_var rfl) es ?_
  ·rw [List.length_map]; exact lF
  ·show some (V.lst _,H') = some (V.lst _,H')
   rw [List.map_append]; rfl
  have g1:=g.hs.gset 0 (o':=rg ns.length fun k=>liV (upd L j (Fh t (spN y) (L j) ++ [t]) k)) rfl
  generalize (H'.set a (rg ns.length fun k=>liV (upd L j (Fh t (spN y) (L j) ++ [t]) k))) = H2 at g1
  have hN2:GN r ns H2:=fun p hp=>hs_g g1 (List.mem_append_left _ (F.g p hp))
  have g1:Hs (setG σ (G0 ++ wD a ns.length (upd L j (Fh t (spN y) (L j) ++ [t])) H.length (dn ++ [e.nm]))) (pO S f) H2:=g1
  have rl':=g.rl.up N' hj yw
  have le':∀ {M},M + 1 ≤ fs1.length→∀ k,(upd L j (Fh t (spN y) (L j) ++ [t]) k).length + M ≤ T:=fun {M} hM k=>by
   show (if k = j then _ else L k).length + M ≤ T
   by_cases z:k = j
   ·rw [if_pos z,List.length_append,Nat.add_assoc]
    exact Nat.le_trans (Nat.add_le_add fh_le (Nat.le_trans (Nat.le_of_eq (Nat.add_comm 1 M)) hM)) (g.le j)
   ·rw [if_neg z]
    exact Nat.le_trans (Nat.add_le_add_left (Nat.le_trans (Nat.le_succ _) hM) _) (g.le k)
  refine ev_ite (ev_p2 (ev_p1 (ev_p2 (x:=.ref a) (ev_var rfl) (ev_var rfl) (pm_itr (g_at g1 0 rfl) (rg_get hjl))) pm_lenl) (ev_mn Tr hj yw rfl rfl) pm_le) (fun hle=>?_) fun hle=>?_
  ·have hle:=of_decide_eq_true hle
   rw [List.length_map,show upd L j (Fh t (spN y) (L j) ++ [t]) j = Fh t (spN y) (L j) ++ [t] from if_pos rfl] at hle
   refine hcs.elim (fun z=>?_) fun z=>z.elim fun _ z=>absurd hle (Int.not_le.mpr z.2.1)
   have nl:=g.nl
   rw [z.1] at nl
   exact ret_due rfl rfl rfl (g_at g1 1 rfl) hfl nl (out g1 (z.2.1 ▸ rl') (le' (M:=0) (z.1 ▸ Nat.le_refl _)))
  ·have hle:=Int.not_le.mp (of_decide_eq_false hle)
   rw [List.length_map,show upd L j (Fh t (spN y) (L j) ++ [t]) j = Fh t (spN y) (L j) ++ [t] from if_pos rfl] at hle
   refine hcs.elim (fun z=>absurd z.2.2 (Int.not_le.mpr hle)) fun z=>z.elim fun fs2 z=>?_
   have nl:=g.nl
   rw [z.1] at nl
   have ld:(dn ++ [e.nm]).length ≤ sizeOf':=by
    have y:=congrArg List.length nl
    rw [List.length_append,List.length_map,List.length_map] at y
    refine Nat.le_trans ?_ hfl
    rw [List.length_append,← y]
    exact Nat.add_le_add_left (Nat.succ_le_succ (Nat.zero_le _)) _
   refine st_nil (st_mc1 (ev_var rfl) (ty_list (g_at g1 1 rfl)) (ev_p2 (x:=nmL nm ns.length) (ev_p2 (ev_var rfl) ev_cst rfl) (ev_var rfl) (it_nmL hjl)) (hE (pm_append (g_at g1 1 rfl) (Nat.le_trans (Nat.le_of_eq (List.length_map _)) ld)) ?_))
   have g2:=g1.gset 1 (o':=.list ((dn ++ [e.nm]).map V.str ++ [.str (nm j)])) rfl
   have g2:Hs (setG σ (G0 ++ wD a ns.length (upd L j (Fh t (spN y) (L j) ++ [t])) H.length (dn ++ [e.nm] ++ [nm j]))) (pO S f) (H2.set H.length (.list ((dn ++ [e.nm]).map V.str ++ [.str (nm j)]))):=by
    unfold wD
    rw [List.map_append (l₁:=dn ++ [e.nm])]
    exact g2
   refine ev_asg (v:=(Evt.fail (nm j)).v) (ev_p2 ev_cst (ev_p2 (x:=nmL nm ns.length) (ev_p2 (ev_var rfl) ev_cst rfl) (ev_var rfl) (it_nmL hjl)) (pm_mkt two_le)) (lt_b rfl) (hK _ _ fs2.length ?_ ⟨_,.fail (nm j),fs2,_,dn ++ [e.nm],some (ni j),rfl,⟨g2,z.2.2,?_,rl',le' (Nat.le_of_eq (z.1 ▸ rfl)),(List.append_assoc dn [e.nm] _).trans nl⟩,rfl⟩)
   ·rw [← eM,z.1]; exact Nat.lt_succ_self _
   ·exact congrArg Option.isSome (isW_nm N' hj)
 ·have gch:=g.ch
  rw [hc] at gch
  have z:fs1 = [e]∧k' = kp:=by
   cases gch with
   | stop=>exact ⟨rfl,rfl⟩
  have nl:=g.nl
  rw [z.1] at nl
  exact ret_due rfl rfl rfl hd hfl nl (out g.hs (z.2 ▸ g.rl) g.le)
end
end Mine
end
noncomputable section
namespace Mine
open PySem
theorem lv_dat {v:V} (h:LV v):v.data = true∧v.depth ≤ 1:=by
 cases h with
 | add _ | fault | leave=>exact ⟨rfl,Nat.le_refl _⟩
theorem ev_dat {π:PI} {e:Evt} (h:e.ok π):e.v.data = true∧e.v.depth ≤ 2:=by
 cases e with
 | beg _ | end_ _ | fail _ | leave _ | works _ _ | lost _ _=>exact ⟨rfl,Nat.le_of_ble_eq_true rfl⟩
 | sent _ _ l =>
  have q:=lv_dat h.2
  refine ⟨?_,?_⟩
  ·show (l.data && true) = true
   rw [q.1]; rfl
  ·show max 0 (max 0 (max 0 (max l.depth 0))) + 1 ≤ 2
   have z:∀ {a:Nat},a ≤ 1→max 0 a ≤ 1:=fun h=>Nat.max_le.mpr ⟨Nat.zero_le _,h⟩
   exact Nat.succ_le_succ (z (z (z (Nat.max_le.mpr ⟨q.2,Nat.zero_le _⟩))))
theorem rd_evs {π:PI} {H:AH} {es:List Evt} (h:∀ e ∈ es,e.ok π):rd H (.lst (es.map Evt.v)) = some (.lst (es.map Evt.v))∧(V.lst (es.map Evt.v)).data = true:=by
 have q:=datas_of (d:=2) (vs:=es.map Evt.v) fun v hv=>ea1_2 (List.mem_map.mp hv) fun e he ee=>ee ▸ ev_dat (h e he)
 refine ⟨if_pos ?_,q.1⟩
 show (V.datas _ && decide (V.depths _ + 1 ≤ 50)) = true
 rw [q.1,decide_eq_true (Nat.le_trans (Nat.succ_le_succ q.2) (by decide))]; rfl
theorem wp_call4' {P:Prog} {C:Calls} {ρ:Fm} {H:AH} {Q:QE} {X:XE} {f:Nat} {a b c d:Ex} {x y z w:V} (h:Ev P C ρ H X a x) (h2:Ev P C ρ H X b y) (h3:Ev P C ρ H X c z) (h4:Ev P C ρ H X d w) (k:C f [x,y,z,w] H Q X):wpE P C (.call f [a,b,c,d]) ρ H Q X:=h _ (h2 _ (h3 _ (h4 _ k)))
theorem st_an {P:Prog} {C:Calls} {ρ:Fm} {H:AH} {K:KS} {R:QE} {X:XE} {ss as:List St} {a b:Ex} (ha:Ev P C ρ H X a (.bool true)) (k:∀ Q:QE,(∀ H',wpSs P C ss ρ H' K R X→Q (.bool true) H')→wpE P C b ρ H Q X):wpSs P C (.ite (.and a (.prim false .not [b])) as [] :: ss) ρ H K R X:=ha _ (wp_p1 (k _ fun _ h=>h))
section
variable {σ:Ad} {S:Hst} {H:AH} {G0:List (Nat × O)} {ns:List Nd} {nm:Nat→Nm} {x y:Nd} {k j a o r n N d:Nat} {Q R:QE} {X:XE} {K:KS} {e:Evt} {es:List Evt} {t:Int} {L L':Nat→List Int} {kp k':Nm→List Int}
theorem wK_congr (w:Hs (setG σ (G0 ++ wK a N L)) S H) (h:∀ j,j < N→L j = L' j):Hs (setG σ (G0 ++ wK a N L')) S H:=by
 have e:wK a N L = wK a N L':=congrArg (fun o=>[(a,O.list o)]) (List.map_congr_left fun j hj=>congrArg liV (h j (List.mem_range.mp hj)))
 exact e ▸ w
noncomputable def fr29 (hall rows fl:V) (a:Nat) (t:Int) (o4:Option V):Fm:=[some hall,some (.ref a),some rows,some (.int t),o4,some fl]
noncomputable def SI8 (σ:Ad) (G0:List (Nat × O)) (ns:List Nd) (nm:Nat→Nm) (S:Hst) (hall rows fl:V) (a:Nat) (t:Int) (L:Nat→List Int) (es its:List Evt) (ρ:Fm) (H:AH):Prop :=
 ∃ o4 dn,ρ = fr29 hall rows fl a t o4∧dn ++ its = es∧Hs (setG σ (G0 ++ wK a ns.length fun k=>dn.foldl (kpF (nm k)) (L k))) S H
theorem seen2 {fl:V} {o4:Option V} (F:Fx σ G0 ns nm r o) (w:Hs (setG σ (G0 ++ wK a ns.length L)) S H) (ok:∀ e ∈ es,e.ok (piN ns nm)) (hl:es.length ≤ sizeOf') (q:∀ H',Hs (setG σ (G0 ++ wK a ns.length fun k=>es.foldl (kpF (nm k)) (L k))) S H'→Q (.bool true) H') :
  wpSs PL (callF PL (n + 2)) (fn29.body.drop 2) (fr29 (hallV r ns nm o) (.lst (es.map Evt.v)) fl a t o4) H K Q X:=by
 refine ev_forM (SI8 σ G0 ns nm S (hallV r ns nm o) (.lst (es.map Evt.v)) fl a t L es) (f:=Evt.v) (l:=es) (ev_var rfl) (fun _ _ _ _=>rfl) hl ⟨o4,[],rfl,rfl,w⟩ (fun e its ρ' H' hI K' hK=>ea2_3 hI fun o4 dn eρ ed w=>?_) fun ρ' H' hI=>ea2_3 hI fun o4 dn eρ ed w=>ev_ret ev_cst (q H' ((show dn = es from (List.append_nil dn).symm.trans ed) ▸ w))
 subst eρ
 have nx:∀ H'',Hs (setG σ (G0 ++ wK a ns.length fun k=>(dn ++ [e]).foldl (kpF (nm k)) (L k))) S H''→K' (fr29 (hallV r ns nm o) (.lst (es.map Evt.v)) fl a t (some e.v)) H'':=fun H'' w=>hK _ _ ⟨_,dn ++ [e],rfl,(List.append_assoc dn [e] its).trans ed,w⟩
 have oe:=ok e (ed ▸ List.mem_append_right dn (.head _))
 have same:(∀ c l,kpF c l e = l)→Hs (setG σ (G0 ++ wK a ns.length fun k=>(dn ++ [e]).foldl (kpF (nm k)) (L k))) S H':=fun h=>wK_congr w fun j _=>by rw [List.foldl_append]; exact (h _ _).symm
 cases e with
 | beg m =>
  refine ea2_2 (ix_ok oe) fun k x hx ek=>?_
  subst ek
  have hk:=(List.getElem?_eq_some_iff.mp hx).1
  refine ev_yes (pe_ok rfl) (st_setE (x:=liV []) (pe_ok rfl) (ev_var rfl) (ev_mc1 (ev_p2 (z:=nmL nm ns.length) (ev_var rfl) ev_cst rfl) rfl (ev_p2 (ev_var rfl) ev_cst it_ev) (pm_lidx F.n hk)) ((set_rg (g_at w 0 rfl) hk).trans (congrArg (fun g=>some (H'.set a (rg ns.length g))) liV_upd)) (st_nil (nx _ (wK_congr (w.gset 0 rfl) fun j hj=>?_))))
  show (if j = k then [] else dn.foldl (kpF (nm j)) (L j)) = _
  rw [List.foldl_append]
  show _ = if nm k = nm j then [] else dn.foldl (kpF (nm j)) (L j)
  by_cases z:j = k
  ·rw [if_pos z,if_pos (z ▸ rfl)]
  ·rw [if_neg z,if_neg fun y=>z (F.n.inj j k hj hk y.symm)]
 | _=>exact ev_no (pe_ok rfl) (nx _ (same fun _ _=>rfl))
theorem is_fl {P:Prog} {C:Calls} {ρ:Fm} {H:AH} {X:XE} {i:Nat} (h:ρ[i]? = some (some e.v)):Ev P C ρ H X (.prim false (.cop .in_) [(.prim false .item [(.var i),.cst (.int 0)]),(.prim false .mklist [.cst (.str ['f','a','i','l','s']),.cst (.str ['l','e','a','v','e','s'])])]) (.bool (isFl e)):=by
 cases e <;> exact ev_p2 (ev_p2 (ev_var h) ev_cst rfl) (pe_ok rfl) rfl
theorem f29s {T:Nat} (F:Fx σ G0 ns nm r o) (w:Hs (setG σ (G0 ++ wK a ns.length L)) S H) (kd:Kd (piN ns nm) t kp es k') (rl:Rl ns nm t L kp) (ok:∀ e ∈ es,e.ok (piN ns nm)) (le:∀ k,(L k).length + es.length ≤ T) (hT:T ≤ 900000)
  (q:∀ L' f H',Hs (setG σ (G0 ++ wK a ns.length L')) (pO S f) H'→Rl ns nm t L' (fun c=>es.foldl (kpF c) (k' c))→(∀ k,(L' k).length ≤ T)→Q (.bool true) H'):callF PL (n + 3) 29 [hallV r ns nm o,.ref a,.lst (es.map Evt.v),.int t] H Q X:=by
 have hl:es.length ≤ sizeOf':=Nat.le_trans (Nat.le_trans (Nat.le_add_left _ _) (le 0)) (Nat.le_trans hT (by decide))
 refine cf P_fn29 rfl (ev_asg (ev_flt (l:=es) (f:=Evt.v) (g:=Evt.v) (p:=isFl) (ev_var rfl) rfl hl (fun e _=>is_fl rfl) fun _ _ _=>ev_var rfl) (lt_b rfl) ?_)
 have go:∀ {L1 f H1},Hs (setG σ (G0 ++ wK a ns.length L1)) (pO S f) H1→Rl ns nm t L1 k'→(∀ k,(L1 k).length ≤ T)→wpSs PL (callF PL (n + 2)) (fn29.body.drop 2) (fr29 (hallV r ns nm o) (.lst (es.map Evt.v)) (.lst ((falls es).map Evt.v)) a t none) H1 (fun _ H'=>Q .none H') Q X:=fun {L1 f H1} w1 r1 l1=>seen2 F w1 ok hl fun H2 w2=>q _ f H2 w2 (fun k x hx hw=>by
  show Fh t (spN x) (es.foldl (kpF (nm k)) (L1 k)) = Fh t (spN x) (es.foldl (kpF (nm k)) (k' (nm k)))
  rw [kp_fold,kp_fold]
  cases es.any (isB (nm k)) with
  | true=>rfl
  | false=>exact r1 k x hx hw) fun k=>by
  rw [kp_fold]
  cases es.any (isB (nm k)) with
  | true=>exact Nat.zero_le _
  | false=>exact l1 k
 refine kd.elim (fun z=>?_) fun z=>ea1_2 z fun e fl ch=>?_
 ·refine ev_no (ev_and (s:=false) (t:=false) (ev_p2 (ev_var rfl) (pe_ok rfl) ?_) fun z=>absurd z Bool.false_ne_true) (go (f:=S.own) w (z.2.symm ▸ rl) fun k=>Nat.le_trans (Nat.le_add_right _ _) (le k))
  show primM PL false (.cop .ne) [.lst ((falls es).map Evt.v),.lst []] H = _
  rw [z.1]; rfl
 ·refine st_an (ev_p2 (ev_var rfl) (pe_ok rfl) ?_) fun Q' hQ=>wp_call4' (ev_var rfl) (ev_var rfl) (ev_var rfl) (ev_var rfl) (f28 F w ch fl rl (fun k=>Nat.le_trans (Nat.add_le_add_left (List.length_filter_le _ _) _) (le k)) hT fun L1 f H1 w1 r1 l1=>hQ _ (go w1 r1 l1))
  have dt:=rd_evs (H:=H) (es:=falls es) fun e he=>ok e (List.mem_filter.mp he).1
  refine (pm_ne dt.1 rd_nil).trans ?_
  exact (ch_head ch).elim fun rest er=>by rw [er]; rfl
end
end Mine
end
noncomputable section
namespace Mine
open PySem
section
variable {π:PI} {σ:Ad} {n:Nat} {S:Hst} {H:AH} {Q:QE} {X:XE} {m:Nm}
theorem f21 {l:List Int} (hl:l.length ≤ sizeOf') (q:Q (.bool true) H):callF PL (n + 2) 21 [liV l] H Q X :=
 cf P_fn21 rfl (ev_ret (ev_and (s:=true) (t:=true) (pe_ok rfl) fun _=>ev_p2 (ev_eq (ev_flt (l:=l) (f:=V.int) (g:=V.int) (p:=fun _=>false) (ev_var rfl) rfl hl (fun _ _=>ev_not (s:=true) (ev_call1 (ev_var rfl) fun Q q=>f11 q)) fun _ _ _=>ev_var rfl) (show V.lst ((l.filter fun _=>false).map V.int) = .lst [] from by rw [List.filter_eq_nil_iff.mpr fun _ _=>Bool.false_ne_true]; rfl)) (pe_ok rfl) rfl) q)
theorem f39t (h:Hs σ S H) (hh:here S m = true) (q:Q .none H):callF PL (n + 1) 42 [.ref σ.i,.str m] H Q X:=cf P_fn42 rfl (ev_no (ev_eq (ev_p2 (ev_var rfl) (ev_at h rfl rfl) (pm_notinD (h.get 5 rfl))) (congrArg (fun t=>V.bool (!t)) hh)) q)
theorem pt_wdW {k:Nat} {v:V} {G:V→Prop} (hP:Pt π k v) (hw:π.isW (nameOf v) = some true) (g:∀ nm r m s ps,G (wdV nm r m s ps)):G v:=by
 induction hP with
 | wk _ _ h=>exact absurd (Option.some.inj (h.symm.trans hw)) Bool.false_ne_true
 | wd=>exact g _ _ _ _ _
theorem f52 (pl:Pl π σ) (h:Hs σ S H) (iv:Iv π S) (hw:π.isW m = some true) (hh:here S m = true) (hb:S.ev.length ≤ 900000) (q:Q (liV (Fh S.clock (π.sp m) (kpt S m))) H):callF PL (n + 2) 52 [.ref σ.i,.str m] H Q X:=by
 have hm:=pl.nm m (congrArg Option.isSome hw)
 refine ea3_4 (pl.pt m hm) fun d k v hd rt en ed=>(aget_has (iv.gd.kw m hh hw)).elim fun x ex=>?_
 have hk:=h.kp _ (aget_some ex)
 have ek:kpt S m = x.2:=by unfold kpt; rw [ex]; rfl
 have md:=rt.rd.md v (self_pts rt.rd.pt)
 have z:=pt_wdW (G:=fun v=>primM PL false .item [v,.int 0] H = some (.str wd,H)∧primM PL false .item [v,.int 4] H = some (.int (spV v),H)) rt.rd.pt (en.symm ▸ hw) fun _ _ _ _ _=>⟨rfl,rfl⟩
 have hv:∀ {C X},Ev PL C [some (.ref σ.i),some (.str m)] H X (.prim false .item [(at_ ['p','a','r','t','s']),.var 1]) v:=fun {C X}=>ev_p2 (ev_at h rfl rfl) (ev_var rfl) (pm_dct (h.get 3 rfl) ed)
 refine cf P_fn52 rfl (ev_no (ev_or (s:=false) (t:=false) (ev_not (s:=true) (ev_call1 (ev_var rfl) fun Q q=>f2 (pl.ok m hm) q)) fun _=>ev_or (s:=false) (t:=false) (ev_eq (ev_p2 (ev_var rfl) (ev_at h rfl rfl) (pm_notinD (h.get 3 rfl))) (congrArg (fun t=>V.bool (!t)) (List.contains_iff_mem.mpr hm))) fun _=>ev_p2 (ev_p2 hv ev_cst z.1) ev_cst rfl) (st_meth h rfl rfl (ev_var rfl) (f39t h hh (ev_ret (ev_call3 (ev_p2 (ev_at h rfl rfl) (ev_var rfl) (pm_itD (val:=keR) (h.get 7 rfl) ex)) (ev_at h rfl rfl) (ev_p2 hv ev_cst z.2) fun Q q=>f8 hk.2.1 (Nat.le_trans hk.2.2 (Nat.le_trans iv.gd.ll (Nat.le_trans hb (by decide)))) q) ?_))))
 rw [ek,← en,md.sp] at q
 exact q
theorem in_here {l:List Nm} {h:Nm→Bool} (hm:m ∈ l):(((l.filter h).map V.str).any fun y=>eqV y (.str m)) = h m:=by
 rw [Bool.eq_iff_iff,List.any_map,List.any_eq_true]
 exact ⟨fun q=>ea1_2 q fun a ha e=>beq_iff_eq.mp (show (a == m) = true from e) ▸ (List.mem_filter.mp ha).2,fun q=>⟨m,List.mem_filter.mpr ⟨hm,q⟩,beq_iff_eq.mpr rfl⟩⟩
end
section
variable {σ:Ad} {S:Hst} {H:AH} {G0:List (Nat × O)} {ns:List Nd} {nm:Nat→Nm} {a o r n:Nat} {Q:QE} {X:XE} {L:Nat→List Int}
noncomputable def fr30 (hall hv:V) (a i:Nat) (o4 o5:Option V):Fm:=[some hall,some (.ref a),some (.ref i),some hv,o4,o5]
theorem f30r (F:Fx σ G0 ns nm r o) (w:Hs (setG σ (G0 ++ wK a ns.length L)) S H) (iv:Iv (piN ns nm) S) (i8:I8 (piN ns nm) S) (rl:Rl ns nm S.clock L (kpt S)) (le:∀ k,(L k).length ≤ sizeOf') (hb:S.ev.length ≤ 900000) (q:Q (.bool true) H):callF PL (n + 3) 30 [hallV r ns nm o,.ref a,.ref σ.i] H Q X:=by
 have T:=F.t.tr
 have N':=F.n
 have hN:GN r ns H:=fun p hp=>hs_g w (List.mem_append_left _ (F.g p hp))
 refine ea1_3 T.top fun x0 h0' _ _=>?_
 have nin:∀ {k x},ns[k]? = some x→nm k ∈ σ.names:=fun {k x} hx=>F.pl.nm _ (congrArg Option.isSome (isW_nm N' hx))
 have hin:∀ {ρ:Fm} {C X} {k x} {e:Ex},ρ[3]? = some (some (.lst ((σ.names.filter (here S)).map V.str)))→ns[k]? = some x→Ev PL C ρ H X e (.str (nm k))→Ev PL C ρ H X (.prim false (.cop .in_) [e,.var 3]) (.bool (here S (nm k))):=fun {ρ C X k x e} h3 hx he=>ev_eq (ev_p2 he (ev_var h3) (pm_inL (f:=V.str) rfl fun _=>trivial)) (congrArg V.bool (in_here (nin hx)))
 have enm:∀ {ρ:Fm} {C X} {k x} {e:Ex},ρ[0]? = some (some (hallV r ns nm o))→ns[k]? = some x→Ev PL C ρ H X e (ni k)→Ev PL C ρ H X (.prim false .item [(.prim false .item [.var 0,.cst (.str ['n','a','m','e','s'])]),e]) (.str (nm k)):=fun {ρ C X k x e} h0 hx he=>ev_p2 (x:=nmL nm ns.length) (ev_p2 (ev_var h0) ev_cst rfl) he (it_nmL (List.getElem?_eq_some_iff.mp hx).1)
 refine cf P_fn30 rfl (ev_asg (v:=.lst ((σ.names.filter (here S)).map V.str)) (ev_meth0 w rfl rfl fun Q q=>f45 (n:=n + 1) F.pl.g w q) (lt_b rfl) (ev_no (ev_p2 (ev_meth0 (x:=.bool (here S (nm 0))) w rfl rfl fun Q q=>cf P_fn46 rfl (ev_ret (ev_here w rfl (ev_p2 (ev_at w rfl rfl) ev_cst ((it_nm F.pl.top).trans (by rw [F.ep,nm_bd h0'])))) q)) (hin rfl h0' (enm rfl h0' (ev_cst (v:=ni 0)))) ((pm_ne rd_bool rd_bool).trans ?_)) ?_))
 ·rw [eqV_self (.bool _) rfl]; rfl
 refine ev_forM (fun its ρ H'=>H' = H∧(∃ o4 o5,ρ = fr30 (hallV r ns nm o) (.lst ((σ.names.filter (here S)).map V.str)) a σ.i o4 o5)∧∀ k ∈ its,k < ns.length) (f:=ni) (l:=List.range ns.length) (v:=.rng 0 ns.length) (ev_p1 (ev_eq (ev_p1 (ev_p2 (ev_var rfl) ev_cst rfl) (pm_lenr hN.row)) (congrArg ni (List.length_map _))) (pm_range1 ⟨by omega,by have:=F.t.le; omega⟩)) (fun _ _ _ _=>congrArg some rng_ni) (by rw [List.length_range]; exact Nat.le_trans F.t.le (by decide))
  ⟨rfl,⟨none,none,rfl⟩,fun k hk=>List.mem_range.mp hk⟩ (fun k its ρ' H' hI K' hK=>ea0_3 hI fun e1 e2 hk=>e2.elim fun o4 e2=>e2.elim fun o5 e2=>?_) fun ρ' H' hI=>ev_ret ev_cst (hI.1 ▸ q)
 subst e1 e2
 have hx:=List.getElem?_eq_getElem (hk k (.head _))
 have nx:∀ {o5},K' (fr30 (hallV r ns nm o) (.lst ((σ.names.filter (here S)).map V.str)) a σ.i (some (ni k)) o5) H':=fun {o5}=>hK _ _ ⟨rfl,⟨_,_,rfl⟩,fun k h=>hk k (.tail _ h)⟩
 refine ev_ite (ev_and (ev_hn hN hx rfl rfl rfl) fun _=>hin rfl hx (enm rfl hx (ev_var rfl))) (fun hc=>?_) fun _=>nx
 have hc:=Bool.and_eq_true_iff.mp hc
 have ww:(piN ns nm).isW (nm k) = some true:=(isW_nm N' hx).trans (congrArg some hc.1)
 have esp:=(sp_nm N' hx).1
 have hF:(Fh S.clock ((piN ns nm).sp (nm k)) (kpt S (nm k))).length ≤ sizeOf':=by rw [esp,← rl k _ hx hc.1]; exact Nat.le_trans fh_le (le k)
 refine ev_asg (ev_meth1 w rfl rfl (enm rfl hx (ev_var rfl)) fun Q q=>f52 (n:=n) F.pl.g w iv ww hc.2 hb q) (lt_b rfl) (ev_no (ev_or (s:=false) (t:=false) (ev_not (s:=true) (ev_call1 (ev_var rfl) fun Q q=>f21 hF q)) fun _=>ev_p2 (y:=liV (Fh S.clock ((piN ns nm).sp (nm k)) (kpt S (nm k)))) (ev_var rfl) (ev_call4 (ev_var rfl) (ev_var rfl) (ev_var rfl) (ev_meth0 (x:=.int S.clock) w rfl rfl fun Q q=>cf P_fn47 rfl (ev_ret (ev_at w rfl rfl) q)) fun Q q=>f27w (n:=n + 1) T hx hc.1 (g_at w 0 rfl) (le k) (by rw [rl k _ hx hc.1,← esp]; exact q)) ?_) (ev_no (ev_eq (ev_p2 (ev_p1 (ev_var rfl) pm_lenl) (ev_mn T hx hc.1 rfl rfl) pm_gt) (congrArg V.bool (decide_eq_false ?_))) (st_nil nx)))
 ·have z:=rd_map (H:=H') (f:=V.int) (l:=Fh S.clock ((piN ns nm).sp (nm k)) (kpt S (nm k))) fun _=>trivial
  refine (pm_ne z z).trans ?_
  rw [eqV_self (.lst _) (datas_atoms (at_map (f:=V.int) fun _=>trivial)).1]; rfl
 ·rw [List.length_map,← (sp_nm N' hx).2]
  exact Int.not_lt.mpr (i8 _ ww hc.2)
end
end Mine
end
noncomputable section
namespace Mine
open PySem
theorem n1 {a b d r:Nat} (h:a + (d + 1 + 2 * r) ≤ 100) (e:b ≤ a + 1):b + (d + 2 * r) ≤ 100∧a ≤ 99:=by omega
theorem n2 {a b d r:Nat} (h:a + (7500 * (d + 1) + 15000 * r) ≤ 860000) (e:b ≤ a + 7500):b + (7500 * d + 15000 * r) ≤ 860000∧a + 7500 ≤ 900000:=by omega
theorem n3 {a d r:Nat} (h:a + 2 * (r + 1) ≤ 100) (e:d ≤ 2):a + (d + 2 * r) ≤ 100∧a ≤ 100:=by omega
theorem n4 {a d r:Nat} (h:a + 15000 * (r + 1) ≤ 860000) (e:d ≤ 2):a + (7500 * d + 15000 * r) ≤ 860000:=by omega
theorem st_on {P:Prog} {C:Calls} {ρ:Fm} {H:AH} {K:KS} {R:QE} {X:XE} {ss as:List St} {a b:Ex} (k:∀ Q:QE,(∀ H',Ev P C ρ H' X b (.bool false)→wpSs P C ss ρ H' K R X→Q (.bool true) H')→wpE P C a ρ H Q X):wpSs P C (.ite (.or (.prim false .not [a]) b) as [] :: ss) ρ H K R X:=wp_p1 (k _ fun _ hb h=>hb _ h)
structure W8 (σ:Ad) (G0:List (Nat × O)) (a:Nat) (ns:List Nd) (nm:Nat→Nm) (S:Hst) (L:Nat→List Int) (H:AH):Prop where
 w:Hs (setG σ (G0 ++ wK a ns.length L)) S H
 iv:Iv (piN ns nm) S
 i8:I8 (piN ns nm) S
 rl:Rl ns nm S.clock L (kpt S)
 le:∀ k,(L k).length ≤ S.ev.length
noncomputable def s31 (zv:V) (i a:Nat) (ws hall:V) (t:Int) (o6 o7 o8 o9:Option V):Fm:=[some zv,some hall,some (.ref i),some (.ref a),some ws,some (.int t),o6,o7,o8,o9]
section
variable {σ:Ad} {G0:List (Nat × O)} {ns:List Nd} {nm:Nat→Nm} {r o a n:Nat} {S S':Hst} {H:AH} {Q R:QE} {X:XE} {K:KS} {zv ws v:V} {o6 o7 o8 o9:Option V} {L:Nat→List Int} {t s:Int} {l l':List Int} {es:List Evt}
theorem fh_next:Fh (t + 1) s (Fh t s l) = Fh (t + 1) s l:=by
 unfold Fh
 rw [List.filter_filter]
 refine congrArg (fun p=>l.filter p) (funext fun z=>?_)
 rw [Bool.eq_iff_iff,Bool.and_eq_true,decide_eq_true_iff,decide_eq_true_iff]
 omega
theorem Rl.next {kp:Nm→List Int} (rl:Rl ns nm t L kp):Rl ns nm (t + 1) L kp:=fun k x hx hw=>by rw [← fh_next,rl k x hx hw,fh_next]
theorem oc_kd {π:PI} {sd:Bool} {u:V} (h:Oc π S sd S' es u):∃ t k',(S'.clock = t∧(t = S.clock ∨ t = S.clock + 1))∧(∀ c,kpt S' c = es.foldl (kpF c) (k' c))∧Kd π t (kpt S) es k':=by
 cases h with
 | no=>exact ⟨_,kpt S,⟨rfl,.inl rfl⟩,fun _=>rfl,.inl ⟨rfl,rfl⟩⟩
 | sent q e=>exact ⟨_,kpt S,⟨rfl,.inl e⟩,fun c=>by rw [q.kf]; exact congrArg (fun l:AL (Nat × List Int)=>((aget c l).map Prod.snd).getD []) q.kp,.inl ⟨q.fl,rfl⟩⟩
 | hour o=>exact o.kd.elim fun k' q=>⟨_,k',⟨o.ck,.inr rfl⟩,q.1,q.2⟩
theorem ev_hour {P:Prog} {C:Calls} {π:PI} {ρ:Fm} {ss:List St} {u:V} (hr:ρ = s31 zv σ.i a ws (hallV r ns nm o) S.clock o6 (some v) o8 (some u)) (dd:Dd π σ v) (oc:Oc π S (sdV v) S' es u) (k:wpSs P C ss (s31 zv σ.i a ws (hallV r ns nm o) S'.clock o6 (some v) o8 (some u)) H K R X) :
  wpSs P C (.ite (.and (.prim false (.cop .isnot) [.var 9,.cst .none]) (.prim false (.cop .ne) [(.prim false .item [.var 7,.cst (.int 0)]),.cst (.str ['s','e','n','d'])])) [(.asg 5 (.prim false (.bop .add) [.var 5,.cst (.int 1)]))] [] :: ss) ρ H K R X:=by
 subst hr
 have no:S'.clock = S.clock→wpSs P C ss (s31 zv σ.i a ws (hallV r ns nm o) S.clock o6 (some v) o8 (some u)) H K R X:=fun e=>e ▸ k
 cases dd with
 | send hm lv =>
  have oc:Oc π S true S' es u:=oc
  cases oc with
  | no=>exact ev_no (pe_ok rfl) (no rfl)
  | sent q e=>exact ev_no (pe_ok rfl) (no e)
 | work hm =>
  have oc:Oc π S false S' es u:=oc
  cases oc with
  | no=>exact ev_no (pe_ok rfl) (no rfl)
  | hour od=>exact ev_yes (pe_ok rfl) (ev_asg (ev_p2 (ev_var rfl) ev_cst pm_add) (lt_b rfl) (st_nil (od.ck ▸ k)))
 | fail hm =>
  have oc:Oc π S false S' es u:=oc
  cases oc with
  | no=>exact ev_no (pe_ok rfl) (no rfl)
  | hour od=>exact ev_yes (pe_ok rfl) (ev_asg (ev_p2 (ev_var rfl) ev_cst pm_add) (lt_b rfl) (st_nil (od.ck ▸ k)))
theorem deed8 (F:Fx σ G0 ns nm r o) (W:W8 σ G0 a ns nm S L H) (dd:Dd (piN ns nm) σ v) (hL:S.letters ≤ 99) (hb:S.ev.length + 7500 ≤ 900000) (q:∀ o8 o9 L' S' H',W8 σ G0 a ns nm S' L' H'→S'.letters ≤ S.letters + 1→S'.ev.length ≤ S.ev.length + 7500→K (s31 zv σ.i a ws (hallV r ns nm o) S'.clock o6 (some v) o8 o9) H') :
  wpSs PL (callF PL (n + 36)) (stB ((stB (fn31.body.getD 5 .pass)).getD 0 .pass)) (s31 zv σ.i a ws (hallV r ns nm o) S.clock o6 (some v) o8 o9) H K R X:=by
 have A:At (piN ns nm) (setG σ (G0 ++ wK a ns.length L)) S H:=⟨W.w,W.iv,W.i8⟩
 refine ev_asg (ev_p1 (ev_meth0 W.w rfl rfl fun Q q=>f46 W.w (Nat.le_trans (Nat.le_add_right _ _) hb) q) pm_lenl) (lt_b rfl) (st_asg (wp_call2 (ev_var rfl) (ev_var rfl) (f22 (σ:=setG σ (G0 ++ wK a ns.length L)) (n:=n + 1) F.pl.g A dd.g hL hb fun u S' H' es A' hl he hp oc=>⟨lt_b rfl,ev_hour rfl dd oc ?_⟩)))
 have hb':S'.ev.length ≤ 900000:=Nat.le_trans he hb
 have hs':S'.ev.length ≤ sizeOf':=Nat.le_trans hb' (by decide)
 have el:(S'.ev.map Evt.v).length ≤ sizeOf':=Nat.le_trans (Nat.le_of_eq (List.length_map _)) hs'
 have hist:∀ {ρ:Fm} {X},ρ[2]? = some (some (.ref σ.i))→Ev PL (callF PL (n + 36)) ρ H' X (.meth 0 49 ['h','i','s','t','o','r','y'] (.var 2) []) (.lst (S'.ev.map Evt.v)):=fun h2=>ev_meth0 A'.hs h2 rfl fun Q q=>f46 A'.hs hb' q
 refine ev_no (ev_or (s:=false) (t:=false) (ev_p2 (ev_meth0 (x:=.int S'.clock) A'.hs rfl rfl fun Q q=>cf P_fn47 rfl (ev_ret (ev_at A'.hs rfl rfl) q)) (ev_var rfl) ((pm_ne rd_int rd_int).trans ?_)) fun _=>ev_not (s:=true) (ev_call1 (hist rfl) fun Q q=>f20 (n:=n + 34) hs' A'.iv.nm q)) ?_
 ·rw [eqV_self (.int _) rfl]; rfl
 refine ea2_3 (oc_kd oc) fun t k' et ek kd=>?_
 have et1:=et.1
 have rl:Rl ns nm t L (kpt S):=et.2.elim (fun e=>e ▸ W.rl) fun e=>e ▸ W.rl.next
 have les:∀ k,(L k).length + es.length ≤ S'.ev.length:=fun k=>by rw [hp,List.length_append]; exact Nat.add_le_add_right (W.le k) _
 refine st_on fun Q hQ=>wp_call4' (y:=.ref a) (z:=.lst (es.map Evt.v)) (w:=.int t) (ev_var rfl) (ev_var rfl) (ev_p3 (hist rfl) (ev_var rfl) ev_cst ((pm_sl_l' el).trans ?_)) (ev_eq (ev_var rfl) (congrArg V.int et1)) (f29s (n:=n + 33) F A'.hs kd rl (fun e h=>A'.iv.nm e (hp ▸ List.mem_append_right _ h)) les hb' fun L' f H2 w2 rl2 le2=>?_)
 ·rw [hp,List.map_append,slice_suf]
 have i2:Iv (piN ns nm) (pO S' f):=⟨A'.iv.gd.mono rfl rfl rfl rfl (Nat.le_refl _),A'.iv.up,A'.iv.nm,A'.iv.qk,A'.iv.lv,A'.iv.lq⟩
 have i8:I8 (piN ns nm) (pO S' f):=A'.i8
 have rl3:Rl ns nm (pO S' f).clock L' (kpt (pO S' f)):=by
  have e:(fun c=>es.foldl (kpF c) (k' c)) = kpt (pO S' f):=funext fun c=>(ek c).symm
  rw [← e,show (pO S' f).clock = t from et1]; exact rl2
 exact hQ _ (ev_not (s:=true) (ev_call3 (ev_var rfl) (ev_var rfl) (ev_var rfl) fun Q q=>f30r (n:=n + 33) F w2 i2 i8 rl3 (fun k=>Nat.le_trans (le2 k) hs') hb' q)) (st_nil (q _ _ L' (pO S' f) H2 ⟨w2,i2,i8,rl3,le2⟩ hl he))
noncomputable def PI8 (σ:Ad) (G0:List (Nat × O)) (ns:List Nd) (nm:Nat→Nm) (r o a:Nat) (zv ws:V) (its:List Int) (ρ:Fm) (H:AH):Prop :=
 ∃ (os:Nat→Option V) (S:Hst) (L:Nat→List Int),ρ = s31 zv σ.i a ws (hallV r ns nm o) S.clock (os 6) (os 7) (os 8) (os 9)∧W8 σ G0 a ns nm S L H∧S.letters + 2 * its.length ≤ 100∧S.ev.length + 15000 * its.length ≤ 860000
noncomputable def PJ8 (σ:Ad) (G0:List (Nat × O)) (ns:List Nd) (nm:Nat→Nm) (r o a:Nat) (zv ws c:V) (m:Nat) (ds:List V) (ρ:Fm) (H:AH):Prop :=
 ∃ (os:Nat→Option V) (S:Hst) (L:Nat→List Int),ρ = s31 zv σ.i a ws (hallV r ns nm o) S.clock (some c) (os 7) (os 8) (os 9)∧W8 σ G0 a ns nm S L H∧S.letters + (ds.length + 2 * m) ≤ 100∧S.ev.length + (7500 * ds.length + 15000 * m) ≤ 860000∧∀ v ∈ ds,Dd (piN ns nm) σ v
noncomputable def osF (a b c d:Option V) (k:Nat):Option V:=([a,b,c,d][k - 6]?).join
theorem loop8 {zs:List Int} {ws:List Nm} (F:Fx σ G0 ns nm r o) (W:W8 σ G0 a ns nm S L H) (hz:zs.length ≤ 63) (hL:S.letters = 0) (hE:S.ev.length ≤ 60) (hc0:S.clock = 0) (hw:∀ w ∈ ws,(piN ns nm).isW w = some false) (hws:ws ≠ []) (hwl:ws.length ≤ sizeOf') (q:∀ H',Q (.bool true) H') :
  wpSs PL (callF PL (n + 36)) (fn31.body.drop 5) (s31 (.lst (zs.map V.int)) σ.i a (.lst (ws.map V.str)) (hallV r ns nm o) 0 none none none none) H K Q X:=by
 have hz':zs.length ≤ sizeOf':=Nat.le_trans hz (by decide)
 have hc:(sliceL zs (clip (zs.map V.int).length 13) (zs.map V.int).length).length ≤ 50:=by
  unfold sliceL clip
  rw [List.length_drop,List.length_take,List.length_map]
  by_cases h:(13:Int) < zs.length
  ·rw [if_neg (by decide),if_pos h]
   exact Nat.le_trans (Nat.sub_le_sub_right (Nat.min_le_right _ _) _) (Nat.sub_le_of_le_add hz)
  ·rw [if_neg (by decide),if_neg h,Nat.min_self,Nat.sub_self]
   exact Nat.zero_le _
 refine ev_forM (PI8 σ G0 ns nm r o a (.lst (zs.map V.int)) (.lst (ws.map V.str))) (f:=V.int) (l:=sliceL zs (clip (zs.map V.int).length 13) (zs.map V.int).length) (ev_p3 (ev_var rfl) ev_cst ev_cst ((pm_sl_l' (Nat.le_trans (Nat.le_of_eq (List.length_map _)) hz')).trans (congrArg (fun t=>some (V.lst t,H)) slice_map))) (fun _ _ _ _=>rfl) (Nat.le_trans hc (by decide))
  ⟨fun _=>none,S,L,by rw [hc0],W,?_,?_⟩ (fun c cs ρ' H' hI K' hK=>ea3_4 hI fun os S' L' e W' hl hv=>?_) fun ρ' H' hI=>ea3_4 hI fun os S' L' e W' hl hv=>ev_ret ev_cst (q _)
 ·rw [hL,Nat.zero_add]; exact Nat.mul_le_mul_left 2 hc
 ·exact Nat.le_trans (Nat.add_le_add hE (Nat.mul_le_mul_left 15000 hc)) (by decide)
 ·subst e
  have A:At (piN ns nm) (setG σ (G0 ++ wK a ns.length L')) S' H':=⟨W'.w,W'.iv,W'.i8⟩
  refine st_for (wp_call4 (ev_var rfl) (ev_var rfl) (ev_meth0 A.hs rfl rfl fun Q q=>f45 F.pl.g A.hs q) (wp_call2 (ev_var rfl) (ev_var rfl) (f25 (σ:=setG σ (G0 ++ wK a ns.length L')) F.pl.g A (n3 (d:=0) hl (by decide)).2 hw hwl fun bs hb=>f23 (σ:=σ) hw hws hwl (fun m hm=>(List.mem_filter.mp hm).1) hb (fun m hm=>mem_nm F.pl hm) fun ds hd dd=>?_)))
  refine for_go (rev:=false) (v:=.lst ds) (ss:=[]) (K:=K') (tgt:=.inl 7) (st:=fun x ρ=>ρ.set 7 (some x)) (f:=fun x=>x) (fun _ _=>rfl) (PJ8 σ G0 ns nm r o a (.lst (zs.map V.int)) (.lst (ws.map V.str)) (.int c) cs.length) (l:=ds) (fun _ _ _ _=>congrArg some (List.map_id' ds).symm) (Nat.le_trans hd (by decide)) ⟨os,S',L',rfl,W',(n3 hl hd).1,n4 hv hd,dd⟩ (fun v vs ρ' H' hJ K' hK=>ea3_5 hJ fun os S₂ L₂ e W₂ l2 v2 d2=>?_) fun ρ' H' hJ=>ea3_5 hJ fun os S₂ L₂ e W₂ l2 v2 _=>hK _ _ ⟨osF (some (.int c)) (os 7) (os 8) (os 9),S₂,L₂,e,W₂,Nat.zero_add (2 * cs.length) ▸ l2,Nat.zero_add (15000 * cs.length) ▸ v2⟩
  subst e
  exact deed8 (o8:=os 8) (o9:=os 9) F W₂ (d2 v (.head _)) (n1 l2 (Nat.le_refl _)).2 (n2 v2 (Nat.le_refl _)).2 fun o8 o9 L₃ S₃ H₃ W₃ l3 v3=>hK _ _ ⟨osF none (some v) o8 o9,S₃,L₃,rfl,W₃,(n1 l2 l3).1,(n2 v2 v3).1,fun v hv=>d2 v (.tail _ hv)⟩
end
end Mine
end
noncomputable section
namespace Mine
open PySem
theorem wp_mapT {P:Prog} {C:Calls} {ρ:Fm} {H:AH} {Q:QE} {X:XE} {α:Type} {l:List α} {f g:α→V} {elt it:Ex} {w:V} (hit:Ev P C ρ H X it w) (hs:src H w = some (l.map f)) (hl:l.length ≤ sizeOf') (he:∀ a ∈ l,Ev P C (ρ ++ [some (f a)]) H X elt (g a)) (q:Q (.ref H.length) (H ++ [.list (l.map g)])):wpE P C (.comp true elt it none) ρ H Q X :=
 hit _ ⟨l.map f,hs,(List.length_map f).symm ▸ hl,compL_map hs (fun a ha K hK=>he a ha _ hK) (hE rfl q)⟩
section
variable {n:Nat} {H:AH} {Q:QE} {X:XE} {ns:List Nd} {nm:Nat→Nm} {zs:List Int}
theorem wk_ne (t:Tree ns):(sub ns 7 0).filter (wkP ns) ≠ []:=fun e=>ea1_3 t.tr.top fun x0 h0 _ _=>by
 have l0:=(List.getElem?_eq_some_iff.mp h0).1
 have ll:ns.length - 1 < ns.length:=Nat.sub_lt l0 Nat.one_pos
 refine List.not_mem_nil (e ▸ List.mem_filter.mpr ⟨t.tr.all ll,?_⟩:ns.length - 1 ∈ [])
 refine (⟨_,List.getElem?_eq_getElem ll⟩:∃ x,ns[ns.length - 1]? = some x).elim fun x hx=>?_
 unfold wkP
 rw [hx]
 show (!x.w) = true
 cases hw:x.w with
 | false=>rfl
 | true =>
  refine (List.exists_mem_of_ne_nil _ (t.ne _ x hx hw)).elim fun i hi=>ea1_4 (t.tr.inn _ x hx i hi) fun y hy l _ _=>?_
  exact absurd (List.getElem?_eq_some_iff.mp hy).1 (Nat.not_lt.mpr (Nat.le_of_pred_lt l))
theorem wp_new1 {P:Prog} {C:Calls} {ρ:Fm} {a:Ex} {x:V} {c f:Nat} (ha:Ev P C ρ H X a x) (k:C f [.ref (H.length + 1),x] (H ++ [.ns [] [],.inst c H.length]) (fun v H'=>v = .none∧Q (.ref (H.length + 1)) H') X):wpE P C (.new c f [a]) ρ H Q X:=ha _ k
theorem law08 (hz:zs.length ≤ 63) (q:∀ H',Q (.bool true) H'):callF PL (n + 37) 31 [.lst (zs.map V.int)] H Q X:=by
 refine cf P_fn31 rfl (st_asg (wp_call1 (ev_var rfl) (f19 (n:=n + 23) fun ns nm o B t N g ho=>⟨lt_b rfl,?_⟩)))
 refine ea1_3 t.tr.top fun x0 h0' _ _=>?_
 have pn:=t.plan N
 refine st_asg (wp_new1 (ev_p2 (ev_var rfl) ev_cst rfl) (f29 (n:=n + 27) pn fun e S H' A hL hE hc hk=>⟨rfl,lt_b rfl,?_⟩))
 have F:Fx (adr B (bd ns nm 7 0) (pts 7 (bd ns nm 7 0)) (nameOf (bd ns nm 7 0)) e) (gB B) ns nm (H.length + 2) o:=⟨t,N,fun p hp=>mem_gB (g p hp),mem_gB ho,pn.pl,(pts_nms (k:=7)).trans (t.tr.nms h0'),rfl⟩
 have gn:GN (H.length + 2) ns H':=fun p hp=>(A.hs.fix p (mem_G (F.g p hp))).1
 have ho':=(A.hs.fix _ (mem_G F.o)).1
 refine st_asg (wp_mapT (l:=List.range ns.length) (f:=ni) (g:=fun _=>liV []) (w:=.rng 0 ns.length) (ev_p1 (ev_eq (ev_p1 (ev_p2 (ev_var rfl) ev_cst rfl) (pm_lenr gn.row)) (congrArg ni (List.length_map _))) (pm_range1 ⟨by omega,by have:=t.le; omega⟩)) (congrArg some rng_ni) (by rw [List.length_range]; exact Nat.le_trans t.le (by decide)) (fun _ _=>pe_ok rfl) ⟨lt_b rfl,?_⟩)
 have w:=A.hs.addG (L:=[rg ns.length fun _=>liV []]) (G1:=wK H'.length ns.length fun _=>[]) (List.nodup_cons.mpr ⟨List.not_mem_nil,List.nodup_nil⟩) (all1 ⟨Nat.le_refl _,new_at⟩)
 have gn1:GN (H.length + 2) ns (H' ++ [rg ns.length fun _=>liV []]):=fun p hp=>app_get (gn p hp)
 refine st_asg (wp_call1 (ev_var rfl) (f24 (n:=n + 35) t gn1 (app_get ho') ⟨lt_b rfl,?_⟩))
 refine ev_asg (v:=.int 0) ev_cst (lt_b rfl) (loop8 (L:=fun _=>[]) F ⟨w,⟨A.iv.gd.mono rfl rfl rfl rfl (Nat.le_refl _),A.iv.up,A.iv.nm,A.iv.qk,A.iv.lv,A.iv.lq⟩,A.i8,fun k x _ _=>congrArg (Fh _ _) (hk (nm k)).symm,fun _=>Nat.zero_le _⟩ hz hL hE hc (fun w hw=>?_) (fun z=>wk_ne t (List.map_eq_nil_iff.mp z)) ?_ q)
 ·refine ea1_2 (List.mem_map.mp hw) fun k hk e=>?_
  have hk:=List.mem_filter.mp hk
  refine (⟨_,List.getElem?_eq_getElem (t.tr.lt h0' k hk.1)⟩:∃ x,ns[k]? = some x).elim fun x hx=>?_
  have h2:=hk.2
  unfold wkP at h2
  rw [hx] at h2
  rw [← e,isW_nm N hx]
  exact congrArg some (Bool.not_eq_true' _ ▸ h2)
 ·rw [List.length_map]
  exact Nat.le_trans (List.length_filter_le _ _) (Nat.le_trans ((t.tr.nd h0').length_le_of_subset (l₂:=List.range ns.length) fun i hi=>List.mem_range.mpr (t.tr.lt h0' i hi)) (Nat.le_trans (Nat.le_of_eq List.length_range) (Nat.le_trans t.le (by decide))))
end
end Mine
end
noncomputable section
open PySem PySem.W PyProof.Rows
set_option maxHeartbeats 8000000
namespace Mine
noncomputable def bisL:List (Str × Gl):=[("len",.bi "len"),("all",.bi "all"),("isinstance",.bi "isinstance"),("min",.bi "min"),("range",.ty "range"),("int",.ty "int"),("bool",.ty "bool"),("str",.ty "str"),("tuple",.ty "tuple"),("list",.ty "list"),("ValueError",.ty "ValueError"),("reversed",.ty "reversed")]
noncomputable def muL:List (Nat × Nat):=[(53,11),(54,12),(66,12),(87,19),(88,21),(89,21),(90,23),(91,20),(92,20),(93,22),(98,22),(105,35),(116,33),(161,36),(275,22),(275,23),(275,70),(284,35),(284,102),(289,35),(289,95),(292,17),(375,15),(408,16)]
noncomputable def cstL:List (Str × V):=[("LETTERS",.str ['a','b','c','d','e','f','g','h','i','j','k','l','m','n','o','p','q','r','s','t','u','v','w','x','y','z']),("LONGEST",.int 8),("GREATEST",.int 1000000000),("MOST_NAMES",.int 60),("MOST_ABOVE",.int 6),("MOST_PARTS",.int 8)]
theorem plain_of {P:Params} {h:Heap} {l:Addr} {vs:List Value} {xs:List PyData} (w1:Well P h (.ref l) (ofPy (.list xs))) (hL:h.IsList l vs.toArray):h.PlainList l vs.toArray:=by
 have w2:Well P h (.ref l) (.list (ofPys xs)):=w1
 cases w2 with
 | list e _ =>
  obtain ⟨o,ho,_,n,hd⟩:=hL
  rw [e] at ho
  cases ho
  cases hd
  exact ⟨_,e⟩
theorem xsays_eq {a b:List OwnSpec} {cs:List (List Nat)} {h:HP} (e:a = b) (x:XSays b cs h):XSays a cs h:=e ▸ x
namespace walk08
theorem tw14532111126245991067:True:=⟨⟩
theorem tw14136286003726611778:True:=⟨⟩
theorem tw11883453436741654602:True:=⟨⟩
theorem tw17656063807740030980:True:=⟨⟩
theorem tw18027657273405541924:True:=⟨⟩
theorem tw10701033084627724626:True:=⟨⟩
theorem tw6185599854229699134:True:=⟨⟩
theorem tw1377679255152174210:True:=⟨⟩
theorem tw16947290594027753091:True:=⟨⟩
theorem tw12893191369563274628:True:=⟨⟩
theorem tw6290361800190711932:True:=⟨⟩
theorem tw4697858840049406221:True:=⟨⟩
theorem tw8537571742220272960:True:=⟨⟩
theorem tw381109578113313319:True:=⟨⟩
theorem tw7229579820713945255:True:=⟨⟩
theorem tw14009162233899659353:True:=⟨⟩
theorem tw15011540431168255788:True:=⟨⟩
theorem tw4418405412162275938:True:=⟨⟩
theorem tw16951976989630060852:True:=⟨⟩
theorem tw11648250112587484852:True:=⟨⟩
theorem tw8338108442317825187:True:=⟨⟩
theorem tw13754349554088203210:True:=⟨⟩
theorem tw467373181609590035:True:=⟨⟩
theorem tw8447069884087116692:True:=⟨⟩
theorem tw15545657862948598645:True:=⟨⟩
theorem tw1944507617830388968:True:=⟨⟩
theorem tw17870491187880484705:True:=⟨⟩
theorem tw15738943736982623340:True:=⟨⟩
theorem tw15559668620815240315:True:=⟨⟩
theorem tw10466543388012669487:True:=⟨⟩
theorem tw13450073121269539269:True:=⟨⟩
theorem tw14487211387696602168:True:=⟨⟩
theorem tw3907700581024629301:True:=⟨⟩
theorem tw3190325397114333583:True:=⟨⟩
theorem tw17905426842183248520:True:=⟨⟩
theorem tw15933239162050539899:True:=⟨⟩
theorem tw12458812596117031805:True:=⟨⟩
theorem tw14994585119883319606:True:=⟨⟩
theorem tw13129364785959899350:True:=⟨⟩
theorem tw15533162914598020862:True:=⟨⟩
theorem tw14839253538519813667:True:=⟨⟩
theorem tw13571894400089080193:True:=⟨⟩
theorem tw4425689363327967438:True:=⟨⟩
theorem tw1264128735985057259:True:=⟨⟩
theorem tw9289461803610106808:True:=⟨⟩
theorem tw17267375035843003087:True:=⟨⟩
theorem tw6679359640017263940:True:=⟨⟩
theorem tw2641661872355171128:True:=⟨⟩
theorem tw9444218644983565278:True:=⟨⟩
theorem tw6267107689031974104:True:=⟨⟩
theorem tw17002908553866297265:True:=⟨⟩
theorem tw16273271628256577032:True:=⟨⟩
theorem tw16659488396511362676:True:=⟨⟩
theorem tw7276453603366548202:True:=⟨⟩
theorem tw9211604024416883800:True:=⟨⟩
theorem tw18288505379753958703:True:=⟨⟩
theorem tw11170082064593989106:True:=⟨⟩
theorem tw4367922051693444126:True:=⟨⟩
theorem tw18211740329743243988:True:=⟨⟩
theorem tw9924120699396671099:True:=⟨⟩
theorem tw6252597360233448363:True:=⟨⟩
theorem tw16068724970142278562:True:=⟨⟩
theorem tw10617691471870577084:True:=⟨⟩
theorem tw14042381242686925953:True:=⟨⟩
theorem tw3893472652554501671:True:=⟨⟩
theorem tw3794087245831281989:True:=⟨⟩
theorem tw13033787962542861487:True:=⟨⟩
theorem tw9003908889407432805:True:=⟨⟩
theorem tw9025050197304365852:True:=⟨⟩
theorem tw7454874565573923843:True:=⟨⟩
theorem tw9977711242994115321:True:=⟨⟩
theorem tw17742912077955149344:True:=⟨⟩
theorem tw1355344350529918045:True:=⟨⟩
theorem tw15367846480226726394:True:=⟨⟩
theorem tw14835175827237969303:True:=⟨⟩
theorem tw9054689725954658394:True:=⟨⟩
theorem tw10731341261044096452:True:=⟨⟩
theorem tw1617746660798170938:True:=⟨⟩
theorem tw1261364373472785203:True:=⟨⟩
theorem tw17255780480717509699:True:=⟨⟩
theorem tw10492015231404522092:True:=⟨⟩
theorem tw9237154923905252461:True:=⟨⟩
theorem tw4027608771809898718:True:=⟨⟩
theorem tw17208357570723528184:True:=⟨⟩
theorem tw2415367419116994818:True:=⟨⟩
theorem tw11629297406216644638:True:=⟨⟩
theorem tw3532429149208163616:True:=⟨⟩
theorem tw15949799184103726680:True:=⟨⟩
theorem tw9402444454440588949:True:=⟨⟩
theorem tw17499271189166279190:True:=⟨⟩
theorem tw14137067513407859991:True:=⟨⟩
theorem tw10096388483663742081:True:=⟨⟩
theorem tw17270874106565128:True:=⟨⟩
theorem tw147573699069162945:True:=⟨⟩
theorem tw7494323281026777083:True:=⟨⟩
theorem tw1601595106772947265:True:=⟨⟩
theorem tw6910372925213581685:True:=⟨⟩
theorem tw1573209660918803683:True:=⟨⟩
theorem tw4317213879019426004:True:=⟨⟩
theorem tw1423529786720933205:True:=⟨⟩
theorem tw14426361273459446109:True:=⟨⟩
theorem tw7255508667901721453:True:=⟨⟩
theorem tw406186187474227499:True:=⟨⟩
theorem tw12043522468159618062:True:=⟨⟩
theorem tw12055430026505544029:True:=⟨⟩
theorem tw2302574060474395141:True:=⟨⟩
theorem tw5612957621773105955:True:=⟨⟩
theorem tw13509536487379929737:True:=⟨⟩
theorem tw17418452041624969785:True:=⟨⟩
theorem tw10877350100293260354:True:=⟨⟩
theorem tw3833599562086622505:True:=⟨⟩
theorem tw17205083285547557337:True:=⟨⟩
theorem tw1102574548649022116:True:=⟨⟩
theorem tw3721980813783367912:True:=⟨⟩
theorem tw17774031949769727321:True:=⟨⟩
theorem tw481530426872824698:True:=⟨⟩
theorem tw7731597061202060864:True:=⟨⟩
theorem tw6242939035884908574:True:=⟨⟩
theorem tw9096663890263558954:True:=⟨⟩
theorem tw14555192752635306790:True:=⟨⟩
theorem tw17797715478833363041:True:=⟨⟩
theorem tw9232238152830474179:True:=⟨⟩
theorem tw7658137895638212900:True:=⟨⟩
theorem tw735647379277583736:True:=⟨⟩
theorem tw1698174426662925071:True:=⟨⟩
theorem tw7667858906541603536:True:=⟨⟩
theorem tw15360553036081936849:True:=⟨⟩
theorem tw8214025129509768770:True:=⟨⟩
theorem tw16108958739791574854:True:=⟨⟩
theorem tw7394757308838306326:True:=⟨⟩
theorem tw542264177456669225:True:=⟨⟩
theorem tw1359771573269684544:True:=⟨⟩
theorem tw14764242644846300646:True:=⟨⟩
theorem tw8550290809641639921:True:=⟨⟩
theorem tw9897902932505011095:True:=⟨⟩
theorem tw906901137681728076:True:=⟨⟩
theorem tw9405546710614839260:True:=⟨⟩
theorem tw2294799456399862017:True:=⟨⟩
theorem tw1446296754828469032:True:=⟨⟩
theorem tw10908067919904500583:True:=⟨⟩
theorem tw9786319445809972866:True:=⟨⟩
theorem tw12349899788510249689:True:=⟨⟩
theorem tw8643543530868490874:True:=⟨⟩
theorem tw16761809926961520049:True:=⟨⟩
theorem tw3881353993533913498:True:=⟨⟩
theorem tw5882774866665521395:True:=⟨⟩
theorem tw15849600958278651518:True:=⟨⟩
theorem tw6378415931729634358:True:=⟨⟩
theorem tw17659692796481824260:True:=⟨⟩
theorem tw11525898587269952388:True:=⟨⟩
theorem tw2936082143483143365:True:=⟨⟩
theorem tw12205732905273066081:True:=⟨⟩
theorem tw11689852519297703539:True:=⟨⟩
theorem tw12647664130289573811:True:=⟨⟩
theorem tw16472500521051345727:True:=⟨⟩
theorem tw13778847492655921850:True:=⟨⟩
theorem tw10155516675534591611:True:=⟨⟩
theorem tw17077649999598575684:True:=⟨⟩
theorem tw17747083854635357473:True:=⟨⟩
theorem tw15416452508619428340:True:=⟨⟩
theorem tw12082521450238850289:True:=⟨⟩
theorem tw9568452870546901408:True:=⟨⟩
theorem tw9879394162537508687:True:=⟨⟩
theorem tw10663804872420196630:True:=⟨⟩
theorem tw9128818406289367029:True:=⟨⟩
theorem tw7255688224474621532:True:=⟨⟩
theorem tw6757306018426106809:True:=⟨⟩
theorem tw2106558147644113618:True:=⟨⟩
theorem tw16901662982311999570:True:=⟨⟩
theorem tw966173060268359310:True:=⟨⟩
theorem tw12614712235849423431:True:=⟨⟩
theorem tw12780982359610191622:True:=⟨⟩
theorem tw3293803494715805020:True:=⟨⟩
theorem tw6459577402551491780:True:=⟨⟩
theorem tw18026799486664999001:True:=⟨⟩
theorem tw16780042886965107365:True:=⟨⟩
theorem tw5210859833051063251:True:=⟨⟩
theorem tw6605834163020843830:True:=⟨⟩
theorem tw4530184595539137118:True:=⟨⟩
theorem tw2409521505449992614:True:=⟨⟩
theorem tw18041204904549966125:True:=⟨⟩
theorem tw13912105904840466125:True:=⟨⟩
theorem tw7518949115729730887:True:=⟨⟩
theorem tw11821376766289362944:True:=⟨⟩
theorem tw17140927459787579748:True:=⟨⟩
theorem tw14901921768978747857:True:=⟨⟩
theorem tw6789215113542374163:True:=⟨⟩
theorem tw605433449923758343:True:=⟨⟩
theorem tw8847148715474453408:True:=⟨⟩
theorem tw14315512100104278291:True:=⟨⟩
theorem tw14049635974273048815:True:=⟨⟩
theorem tw10016772300881566265:True:=⟨⟩
theorem tw15212614892572102263:True:=⟨⟩
theorem tw17946443656976896909:True:=⟨⟩
theorem tw17387596817884393076:True:=⟨⟩
theorem tw15987856025232648433:True:=⟨⟩
theorem tw17264313234055133752:True:=⟨⟩
theorem tw17913848544382320250:True:=⟨⟩
theorem tw8553789383558586741:True:=⟨⟩
theorem tw4321748494082503197:True:=⟨⟩
theorem tw16764102397074135968:True:=⟨⟩
theorem tw1920312631375448262:True:=⟨⟩
theorem tw8466702482465265501:True:=⟨⟩
theorem tw7941868948283414137:True:=⟨⟩
theorem tw10229017838054997142:True:=⟨⟩
theorem tw3310170570706146950:True:=⟨⟩
theorem tw11566298490880481165:True:=⟨⟩
theorem tw13555903691629549089:True:=⟨⟩
theorem tw10116384127260242986:True:=⟨⟩
theorem tw4272638718656472029:True:=⟨⟩
theorem tw12177280207443593439:True:=⟨⟩
theorem tw15550513679664085701:True:=⟨⟩
theorem tw648215390379661339:True:=⟨⟩
theorem tw16216439051401287059:True:=⟨⟩
theorem tw7745769768625313661:True:=⟨⟩
theorem tw18036741058535379189:True:=⟨⟩
theorem tw15916217073248554090:True:=⟨⟩
theorem tw15450923773438934276:True:=⟨⟩
theorem tw12076489859068268236:True:=⟨⟩
theorem tw16490063069592888577:True:=⟨⟩
theorem tw7674939773398632148:True:=⟨⟩
theorem tw17277321033260041903:True:=⟨⟩
theorem tw6771793428416744188:True:=⟨⟩
theorem tw7725730108673601072:True:=⟨⟩
theorem tw13372856403089718740:True:=⟨⟩
theorem tw17769517159174967381:True:=⟨⟩
theorem tw5488836065117712534:True:=⟨⟩
theorem tw9319708060606033669:True:=⟨⟩
theorem tw11009298211645669823:True:=⟨⟩
theorem tw12159370567389264550:True:=⟨⟩
theorem tw10760004337505142235:True:=⟨⟩
theorem tw10010427725904931811:True:=⟨⟩
theorem tw11927127988994088993:True:=⟨⟩
theorem tw13721005332878765913:True:=⟨⟩
theorem tw10467742851384172376:True:=⟨⟩
theorem tw12728163909176439840:True:=⟨⟩
theorem tw16690962749308928720:True:=⟨⟩
theorem tw5548064096656621155:True:=⟨⟩
theorem tw10027167684391831400:True:=⟨⟩
theorem tw10071073338409076484:True:=⟨⟩
theorem tw11801293287852402440:True:=⟨⟩
theorem tw16000039743990129171:True:=⟨⟩
theorem tw16152893557684576091:True:=⟨⟩
theorem tw6201786500970857597:True:=⟨⟩
theorem tw8479248751382023569:True:=⟨⟩
theorem tw16851956040977244247:True:=⟨⟩
theorem tw14492234980790669771:True:=⟨⟩
theorem tw9362389094763564930:True:=⟨⟩
theorem tw14052519096921674622:True:=⟨⟩
theorem tw5950618914566047459:True:=⟨⟩
theorem tw15266331921396748745:True:=⟨⟩
theorem tw17258857970206407635:True:=⟨⟩
theorem tw7372207816276841246:True:=⟨⟩
theorem tw8526371610838337024:True:=⟨⟩
theorem tw3747222271923384694:True:=⟨⟩
theorem tw13496895482546371890:True:=⟨⟩
theorem tw16664295002652665575:True:=⟨⟩
theorem tw16956562517054223036:True:=⟨⟩
theorem tw16414386707228999850:True:=⟨⟩
theorem tw13172060554846438616:True:=⟨⟩
theorem tw12497784149988173165:True:=⟨⟩
theorem tw7921220884323957773:True:=⟨⟩
theorem tw9343120192791191550:True:=⟨⟩
theorem tw7880293227482155598:True:=⟨⟩
theorem tw16224980181987162785:True:=⟨⟩
theorem tw951517468361867126:True:=⟨⟩
theorem tw595903256733105212:True:=⟨⟩
theorem tw16611074760889867391:True:=⟨⟩
theorem tw5652155330048652023:True:=⟨⟩
theorem tw7936489900345719075:True:=⟨⟩
theorem tw14044655868951606200:True:=⟨⟩
theorem tw2545598091521847660:True:=⟨⟩
theorem tw14118344938205026233:True:=⟨⟩
theorem tw6865136553931267397:True:=⟨⟩
theorem tw3491620423011428170:True:=⟨⟩
theorem tw556761460313993116:True:=⟨⟩
theorem tw4940476049727065062:True:=⟨⟩
theorem tw270668831099387518:True:=⟨⟩
theorem tw2251197219485363980:True:=⟨⟩
theorem tw3926819259879845317:True:=⟨⟩
theorem tw16981341978300258686:True:=⟨⟩
theorem tw18282424082117374770:True:=⟨⟩
theorem tw16110370878702229367:True:=⟨⟩
theorem tw14117553390662554686:True:=⟨⟩
theorem tw11351004316105530614:True:=⟨⟩
theorem tw7609333731353936013:True:=⟨⟩
theorem tw1929702934659758550:True:=⟨⟩
theorem tw2014026388949513267:True:=⟨⟩
theorem tw7984338966141809015:True:=⟨⟩
theorem tw2424381510176292173:True:=⟨⟩
theorem tw6410223460344547322:True:=⟨⟩
theorem tw8905346054743117768:True:=⟨⟩
theorem tw109990002270323795:True:=⟨⟩
theorem tw17057257125468717856:True:=⟨⟩
theorem tw17616966135498454779:True:=⟨⟩
theorem tw6426439715783002223:True:=⟨⟩
theorem tw2967819852878193488:True:=⟨⟩
theorem tw15375106156144367493:True:=⟨⟩
theorem tw5067282732513264185:True:=⟨⟩
theorem tw16997718154568065987:True:=⟨⟩
theorem tw14216124707531996504:True:=⟨⟩
theorem tw15651726531844084971:True:=⟨⟩
theorem tw1442932914969407523:True:=⟨⟩
theorem tw17561435977116155291:True:=⟨⟩
theorem tw4232957431384261589:True:=⟨⟩
theorem tw12573634776121391258:True:=⟨⟩
theorem tw4105909253080812449:True:=⟨⟩
theorem tw12436255174396422194:True:=⟨⟩
theorem tw12275970907632921506:True:=⟨⟩
theorem tw13157938986516105089:True:=⟨⟩
theorem tw10872395226455887766:True:=⟨⟩
theorem tw2012354642126118259:True:=⟨⟩
theorem tw5217696100919885527:True:=⟨⟩
theorem tw8696057315664681343:True:=⟨⟩
theorem tw14376352873837836790:True:=⟨⟩
theorem tw453402997737434987:True:=⟨⟩
theorem tw8598515401406081482:True:=⟨⟩
theorem tw10698877229108868584:True:=⟨⟩
theorem tw4023987202179150138:True:=⟨⟩
theorem tw17196442910683675776:True:=⟨⟩
theorem tw5955914574872489886:True:=⟨⟩
theorem tw15322619457288149896:True:=⟨⟩
theorem tw31694709907830631:True:=⟨⟩
theorem tw9962890395158524953:True:=⟨⟩
theorem tw7804085964076647342:True:=⟨⟩
theorem tw11178109223262568995:True:=⟨⟩
theorem tw12153754630858375733:True:=⟨⟩
theorem tw11217523640190851472:True:=⟨⟩
theorem tw1720844111462210094:True:=⟨⟩
theorem tw2803373992870410252:True:=⟨⟩
theorem tw14820171824970986971:True:=⟨⟩
theorem tw2575823855047357741:True:=⟨⟩
theorem tw13608205136514908140:True:=⟨⟩
theorem tw542940174254073116:True:=⟨⟩
theorem tw15057677437433767232:True:=⟨⟩
theorem tw14516362746012349891:True:=⟨⟩
theorem tw6582194496311541193:True:=⟨⟩
theorem tw7727805278668995884:True:=⟨⟩
theorem tw814662329661884910:True:=⟨⟩
theorem tw4288901771922595259:True:=⟨⟩
theorem tw7199134132478239339:True:=⟨⟩
theorem tw13876484897083122151:True:=⟨⟩
theorem tw10097156153051468001:True:=⟨⟩
theorem tw16414036930599606208:True:=⟨⟩
theorem tw6430126319760813355:True:=⟨⟩
theorem tw11791332548531691649:True:=⟨⟩
theorem tw7475622029975996435:True:=⟨⟩
theorem tw12807228464019999407:True:=⟨⟩
theorem tw17767611616743600210:True:=⟨⟩
theorem tw6454778136067084235:True:=⟨⟩
theorem tw17145932218486010338:True:=⟨⟩
theorem tw5286554685425262770:True:=⟨⟩
theorem tw315364685769588293:True:=⟨⟩
theorem tw6021987405859825087:True:=⟨⟩
theorem tw18000422627221078358:True:=⟨⟩
theorem tw4806409697455273094:True:=⟨⟩
theorem tw13734090920069086109:True:=⟨⟩
theorem tw10628074083332940948:True:=⟨⟩
theorem tw14202683116023435316:True:=⟨⟩
theorem tw17413187553529835767:True:=⟨⟩
theorem tw14734485556161465703:True:=⟨⟩
theorem tw5053663046656611032:True:=⟨⟩
theorem tw13759653744399138410:True:=⟨⟩
theorem tw6765147937299333659:True:=⟨⟩
theorem tw1385915838738529039:True:=⟨⟩
theorem tw14902374308183595380:True:=⟨⟩
theorem tw6002803674142127631:True:=⟨⟩
theorem tw15512885385196491908:True:=⟨⟩
theorem tw4124528955827715254:True:=⟨⟩
theorem tw10932137408637952964:True:=⟨⟩
theorem tw1952974472920012644:True:=⟨⟩
theorem tw15688842160296954133:True:=⟨⟩
theorem tw11974874124101140094:True:=⟨⟩
theorem tw16888237502272718788:True:=⟨⟩
theorem tw6078061726860294317:True:=⟨⟩
theorem tw4803271322501137085:True:=⟨⟩
theorem tw3964336184189007756:True:=⟨⟩
theorem tw9341927350170937435:True:=⟨⟩
theorem tw5948047690272403521:True:=⟨⟩
theorem tw7411640150317823799:True:=⟨⟩
theorem tw5045214168954727388:True:=⟨⟩
theorem tw3450958170810401502:True:=⟨⟩
theorem tw1468692815430676417:True:=⟨⟩
theorem tw293827342732435798:True:=⟨⟩
theorem tw2414283397542913793:True:=⟨⟩
theorem tw5836460468408050251:True:=⟨⟩
theorem tw15305635506882827675:True:=⟨⟩
theorem tw1107200481279460129:True:=⟨⟩
theorem tw6192480733827187938:True:=⟨⟩
theorem tw16018072790405943526:True:=⟨⟩
theorem tw10121561015278924945:True:=⟨⟩
theorem tw17559955746546051808:True:=⟨⟩
theorem tw14231528934843022559:True:=⟨⟩
theorem tw9897790025924392693:True:=⟨⟩
theorem tw13944061597937541071:True:=⟨⟩
theorem tw11095249571490297777:True:=⟨⟩
theorem tw9174176842895895279:True:=⟨⟩
theorem tw13605430156025385962:True:=⟨⟩
theorem tw16044312432335566575:True:=⟨⟩
theorem tw2309008895415818551:True:=⟨⟩
theorem tw12125017082040348919:True:=⟨⟩
theorem tw7868291329542032040:True:=⟨⟩
theorem tw1023894979232783210:True:=⟨⟩
theorem tw7475233760788325809:True:=⟨⟩
theorem tw16806799020431538073:True:=⟨⟩
theorem tw9127947988447067624:True:=⟨⟩
theorem tw16644633797161344331:True:=⟨⟩
theorem tw14059625109701745602:True:=⟨⟩
theorem tw9687265296269454345:True:=⟨⟩
theorem tw9072520598531143076:True:=⟨⟩
theorem tw370941915440456567:True:=⟨⟩
theorem tw13438082237116262439:True:=⟨⟩
theorem tw9672357202218482083:True:=⟨⟩
theorem tw5423445870277981479:True:=⟨⟩
theorem tw16789229475516029350:True:=⟨⟩
theorem tw10982096168369761683:True:=⟨⟩
theorem tw10529466877503697551:True:=⟨⟩
theorem tw17887284834083932732:True:=⟨⟩
theorem tw6636970893265159500:True:=⟨⟩
theorem tw4600565534098385968:True:=⟨⟩
theorem tw16008679814925099511:True:=⟨⟩
theorem tw1500285020868142699:True:=⟨⟩
theorem tw1668186685319066779:True:=⟨⟩
theorem tw9847508340893011036:True:=⟨⟩
theorem tw4068586069402015494:True:=⟨⟩
theorem tw11476438467838530641:True:=⟨⟩
theorem tw2787445267574390986:True:=⟨⟩
theorem tw16264490627596383660:True:=⟨⟩
theorem tw2306747436591295030:True:=⟨⟩
theorem tw15677375652608125217:True:=⟨⟩
theorem tw6851758310830551688:True:=⟨⟩
theorem tw14034894114306014826:True:=⟨⟩
theorem tw14763594216176211692:True:=⟨⟩
theorem tw586495784484729679:True:=⟨⟩
theorem tw16637231505934129223:True:=⟨⟩
theorem tw6520738316240231606:True:=⟨⟩
theorem tw12713807211873207492:True:=⟨⟩
theorem tw9433428909087201392:True:=⟨⟩
theorem tw8667014887183511062:True:=⟨⟩
theorem tw716144707373333781:True:=⟨⟩
theorem tw14759160898588214750:True:=⟨⟩
theorem tw13563583198830548882:True:=⟨⟩
theorem tw1464749218869541980:True:=⟨⟩
theorem tw10261336352584406110:True:=⟨⟩
theorem tw14020258539581987395:True:=⟨⟩
theorem tw13902547737024129459:True:=⟨⟩
theorem tw14284735593031529423:True:=⟨⟩
theorem tw11995567958898615837:True:=⟨⟩
theorem tw802706511360701784:True:=⟨⟩
theorem tw14647460842387982963:True:=⟨⟩
theorem tw17198417802639613624:True:=⟨⟩
theorem tw14743065609165404873:True:=⟨⟩
theorem tw8324323662891854983:True:=⟨⟩
theorem tw16029919114725988096:True:=⟨⟩
theorem tw1871864486041441404:True:=⟨⟩
theorem tw2665026676278598554:True:=⟨⟩
theorem tw14089035321902868209:True:=⟨⟩
theorem tw17493210653916335135:True:=⟨⟩
theorem tw13281026027128226891:True:=⟨⟩
theorem tw10369776244263049900:True:=⟨⟩
theorem tw9277767193940543689:True:=⟨⟩
theorem tw9669311431818388149:True:=⟨⟩
theorem tw976448577244044108:True:=⟨⟩
theorem tw3353721535787543910:True:=⟨⟩
theorem tw3295825569484572277:True:=⟨⟩
theorem tw5136163836366102234:True:=⟨⟩
theorem tw15744902979057033378:True:=⟨⟩
theorem tw1596837051139367162:True:=⟨⟩
theorem tw924565126745450523:True:=⟨⟩
theorem tw1500330402003758317:True:=⟨⟩
theorem tw15278633604378951415:True:=⟨⟩
theorem tw3508055024083517125:True:=⟨⟩
theorem tw12165224293100539719:True:=⟨⟩
theorem tw18072045993653738116:True:=⟨⟩
theorem tw16740296541210641784:True:=⟨⟩
theorem tw16443910995201202928:True:=⟨⟩
theorem tw2476826531037502207:True:=⟨⟩
theorem tw13838877444581247017:True:=⟨⟩
theorem tw5683355531684725980:True:=⟨⟩
theorem tw9614353845299192654:True:=⟨⟩
theorem tw280798519828796742:True:=⟨⟩
theorem tw2831703485490003568:True:=⟨⟩
theorem tw17167417432055016499:True:=⟨⟩
theorem tw12305379591952001979:True:=⟨⟩
theorem tw635552027469136793:True:=⟨⟩
theorem tw17389533303528448015:True:=⟨⟩
theorem tw9798886994614753665:True:=⟨⟩
theorem tw9399403463705188644:True:=⟨⟩
theorem tw9267518288609898503:True:=⟨⟩
theorem tw2721386639433422653:True:=⟨⟩
theorem tw1881807754793504197:True:=⟨⟩
theorem tw17088127619806062971:True:=⟨⟩
theorem tw16451629043290188019:True:=⟨⟩
theorem tw1166409069611978804:True:=⟨⟩
theorem tw1780964299085801255:True:=⟨⟩
end walk08
set_option Elab.async true in
set_option tactic.hygienic true in
theorem walk08:PySem.Challenge.rw_uf010035_08.Holds:=by
 w_on
 o_law
 o_head (xHook (ownsOf PySem.Challenge.pw_uf010035_08) subsL)
 case hw=>w_witness2
 intro w s₀ s₁ mg mb G Y fa o pm cd doc dV kV ho hd hcd hD hmg hg args vals as hpre hlay hrd hwl hlo
 refine Ground.open G ?_
 intro T B D TE TW
 wrow_args hpre hlay hrd hwl hlo
 all_goals (
  rename_i zs hs hlay0 hL1 hr1 hl2 as4 as3 l vs as0 hL ra w1 r0 hI hr hc1 hc0
  refine top_law2 (csts:=cstL) (bis:=bisL) (mu:=muL) (fz:=[]) (fns:=fnsL) (cs:=subsL) (f:=31) (n:=37) T TE.topC (by decide +kernel) ⟨by decide +kernel,by decide +kernel,by decide +kernel,by decide +kernel⟩ (xsays_eq (by kernel_rfl) Y) (by decide +kernel) hg (by kernel_rfl) (by decide +kernel) hmg (plain_of w1 hL) (by simpa using hI) (by omega) (by decide) (law08 (n:=0) (by omega) fun _=>rfl) fun s' h1 h2 h3=>GoodW.toG ⟨.inl ⟨.bool true,.bool true,[],rfl,fun cls=>rfl,.bool true,?_,fun _=>⟨.nil,by simp⟩⟩,h1,h2,h3⟩
  first | exact postW_of (by wrow_shape) (by wtm_val) (by str_meet; first | done | w_fin) | decide)
end Mine
end
theorem PySem.Challenge.cw_uf010035_08_holds : PySem.Challenge.rw_uf010035_08.Holds :=
 Mine.walk08
