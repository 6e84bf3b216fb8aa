import PyProof.Rows.All
import Wide.All
import KE.KIntText
import OpenK.AllK
import Wide.FinOn
import PySem.Challenge.RW_uf010035_10
set_option Elab.async false
set_option maxRecDepth 100000
set_option linter.unusedSimpArgs false
set_option linter.unusedVariables false
set_option genSizeOfSpec false
noncomputable section
namespace Mine
open PySem

/-- abstract values: lists and dicts that nobody changes any more are plain values; `ref` is an index into the abstract heap -/
inductive V where
  | none
  | bool (b : Bool)
  | int (i : Int)
  | str (s : List Char)
  | tup (vs : List V)
  | lst (vs : List V)
  | dct (ks : List (List Char)) (vs : List V)
  | rng (a b : Int)
  | ref (i : Nat)
  | exc (c : Nat)
deriving Inhabited

inductive O where
  | list (vs : List V)
  | dict (ks : List (List Char)) (vs : List V)
  | inst (c : Nat) (d : Nat)
  | dead
deriving Inhabited

abbrev AH := List O
abbrev Fm := List (Option V)

mutual
/-- every reference lies below n -/
noncomputable def V.under (n : Nat) : V → Bool
  | .none | .bool _ | .int _ | .str _ | .rng _ _ => true
  | .tup vs | .lst vs => V.unders n vs
  | .dct _ vs => V.unders n vs
  | .ref i => decide (i < n)
  | .exc _ => true
noncomputable def V.unders (n : Nat) : List V → Bool
  | [] => true
  | v :: vs => V.under n v && V.unders n vs
end

mutual
/-- plain data that == looks at: no dict, no range -/
noncomputable def V.data : V → Bool
  | .none | .bool _ | .int _ | .str _ => true
  | .tup vs | .lst vs => V.datas vs
  | .dct _ _ | .rng _ _ | .ref _ | .exc _ => false
noncomputable def V.datas : List V → Bool
  | [] => true
  | v :: vs => V.data v && V.datas vs
end
mutual
noncomputable def V.depth : V → Nat
  | .tup vs | .lst vs => V.depths vs + 1
  | .none | .bool _ | .int _ | .str _ | .dct _ _ | .rng _ _ | .ref _ | .exc _ => 0
noncomputable def V.depths : List V → Nat
  | [] => 0
  | v :: vs => max (V.depth v) (V.depths vs)
end
mutual
noncomputable def eqV : V → V → Bool
  | .none, .none => true
  | .bool a, .bool b => a == b
  | .bool a, .int j => (if a then 1 else 0) == j
  | .int i, .bool b => i == (if b then 1 else 0)
  | .int i, .int j => i == j
  | .str x, .str y => x == y
  | .lst xs, .lst ys => eqVs xs ys
  | .tup xs, .tup ys => eqVs xs ys
  | _, _ => false
noncomputable def eqVs : List V → List V → Bool
  | [], [] => true
  | x :: xs, y :: ys => eqV x y && eqVs xs ys
  | _, _ => false
end

inductive Ty where
  | int | bool | str | list | tuple | valueError | cls (c : Nat)
deriving DecidableEq, Inhabited

inductive Bop where
  | add | sub | mul | fdiv | mod | pow
deriving DecidableEq, Inhabited
inductive Cop where
  | eq | ne | lt | le | gt | ge | is | isnot | in_ | notin
deriving DecidableEq, Inhabited

inductive Prim where
  | bop (o : Bop)
  | cop (o : Cop)
  | not | neg
  | len | isinst (t : Ty) | range1 | range2 | list | tuple | dict | str | int | min | max | all
  | item | slice | rev
  | mklist | mktup | mkdict (ks : List (List Char))
  | append | pop | pop0 | extend | index | count | dpop | upper | join | split
  | attr (n : List Char)
deriving Inhabited

/-- whose method is called -/
inductive Mt where
  | list | dict | str
deriving DecidableEq, Inhabited

/-- prims that hand back a list or dict nobody else has -/
noncomputable def Prim.fresh : Prim → Bool
  | .bop _ | .list | .dict | .slice | .rev | .mklist | .mkdict _ | .split => true
  | _ => false

inductive Ex where
  | cst (v : V)
  | var (i : Nat)
  | prim (mu : Bool) (p : Prim) (args : List Ex)
  | and (a b : Ex)
  | or (a b : Ex)
  | cmp2 (a : Ex) (o₁ : Cop) (b : Ex) (o₂ : Cop) (c : Ex)
  | call (f : Nat) (args : List Ex)
  | meth (k f : Nat) (name : List Char) (o : Ex) (args : List Ex)
  | mcall (t : Mt) (mu : Bool) (p : Prim) (o : Ex) (args : List Ex)
  | new (c : Nat) (f : Nat) (args : List Ex)
  | comp (mu : Bool) (elt it : Ex) (cond : Option Ex)
deriving Inhabited

inductive St where
  | asg (i : Nat) (e : Ex)
  | asgTup (is : List Nat) (e : Ex)
  | setItem (o i e : Ex)
  | setAttr (o : Ex) (n : List Char) (e : Ex)
  | expr (e : Ex)
  | ite (c : Ex) (a b : List St)
  | forIn (rev : Bool) (tgt : Nat ⊕ List Nat) (e : Ex) (body : List St)
  | while_ (c : Ex) (body : List St)
  | ret (e : Ex)
  | raise (c : Nat)
  | try_ (body : List St) (cls : Nat) (as_ : Option Nat) (h : List St)
  | freeze (i : Nat)
  | pass
deriving Inhabited

structure Fn where
  arity : Nat
  extra : Nat
  body : List St
deriving Inhabited

/-- a list's contents -/
noncomputable def view (H : AH) : V → Option (List V)
  | .lst vs => some vs
  | .ref i => match H[i]? with | some (.list vs) => some vs | _ => none
  | _ => none
noncomputable def dview (H : AH) : V → Option (List (List Char) × List V)
  | .dct ks vs => some (ks, vs)
  | .ref i => match H[i]? with | some (.dict ks vs) => some (ks, vs) | _ => none
  | _ => none
/-- what == looks at -/
noncomputable def rd (H : AH) (v : V) : Option V :=
  match v with
  | .ref _ => match view H v with
    | some vs => if V.datas vs && decide (V.depths vs ≤ 50) then some (.lst vs) else none
    | none => none
  | v => if V.data v && decide (V.depth v ≤ 50) then some v else none

noncomputable def sizeOf' : Nat := 1000000

noncomputable def idx (n : Nat) (i : Int) : Option Nat :=
  if 0 ≤ i then (if i < n then some i.toNat else none) else (if 0 ≤ i + n then some (i + n).toNat else none)

noncomputable def dget (k : List Char) : List (List Char) → List V → Option V
  | k' :: ks, v :: vs => if k = k' then some v else dget k ks vs
  | _, _ => none
/-- the entries behind a store -/
noncomputable def dput (k : List Char) (x : V) : List (List Char) → List V → List (List Char) × List V
  | k' :: ks, v :: vs => if k = k' then (k' :: ks, x :: vs) else let r := dput k x ks vs; (k' :: r.1, v :: r.2)
  | _, _ => ([k], [x])
noncomputable def ddel (k : List Char) : List (List Char) → List V → List (List Char) × List V
  | k' :: ks, v :: vs => if k = k' then (ks, vs) else let r := ddel k ks vs; (k' :: r.1, v :: r.2)
  | _, _ => ([], [])

/-- where a slice's end lies -/
noncomputable def clip (n : Nat) (i : Int) : Nat :=
  if i < 0 then (if i + n < 0 then 0 else (i + n).toNat) else (if i < n then i.toNat else n)
noncomputable def sliceL {α : Type} (xs : List α) (a b : Nat) : List α := (xs.take b).drop a
noncomputable def partOf : V → Option (Option Int)
  | .none => some none
  | .int i => some (some i)
  | _ => none
noncomputable def loN (n : Nat) : Option Int → Nat
  | none => 0
  | some i => clip n i
noncomputable def hiN (n : Nat) : Option Int → Nat
  | none => n
  | some i => clip n i

noncomputable def truth : V → Option Bool
  | .bool b => some b
  | _ => none

noncomputable def smallInt (i : Int) : Bool := decide (-10 ^ 12 ≤ i ∧ i ≤ 10 ^ 12)

noncomputable def int2 (f : Int → Int → Option Int) : V → V → Option V
  | .int a, .int b => (f a b).map V.int
  | _, _ => none
noncomputable def mulI (a b : Int) : Option Int := if smallInt a && smallInt b then some (a * b) else none
noncomputable def divI (a b : Int) : Option Int := if 0 < b ∧ b ≤ 10 ^ 12 then some (a / b) else none
noncomputable def modI (a b : Int) : Option Int := if 0 < b then some (a % b) else none
noncomputable def powI (a b : Int) : Option Int := if a = 10 ∧ 0 ≤ b ∧ b ≤ 30 then some (10 ^ b.toNat) else none
noncomputable def addL (H : AH) (a b : V) : Option V := match view H a, view H b with
  | some xs, some ys => if xs.length + ys.length ≤ sizeOf' then some (.lst (xs ++ ys)) else none
  | _, _ => none
noncomputable def addV (H : AH) (a b : V) : Option V := match a with
  | .int _ => int2 (fun a b => some (a + b)) a b
  | .str x => (match b with | .str y => if x.length + y.length ≤ sizeOf' then some (.str (x ++ y)) else none | _ => none)
  | .tup x => (match b with | .tup y => if x.length + y.length ≤ sizeOf' then some (.tup (x ++ y)) else none | _ => none)
  | _ => addL H a b
noncomputable def mulV (_ : AH) (a b : V) : Option V := int2 mulI a b
noncomputable def binop (o : Bop) (a b : V) (H : AH) : Option V := match o with
  | .add => addV H a b
  | .sub => int2 (fun a b => some (a - b)) a b
  | .mul => mulV H a b
  | .fdiv => int2 divI a b
  | .mod => int2 modI a b
  | .pow => int2 powI a b

noncomputable def inV (H : AH) (x c : V) : Option Bool :=
  match c with
  | .str s => match x with
    | .str [ch] => some (s.contains ch)
    | _ => none
  | .tup vs => match rd H x, V.datas vs && decide (V.depths vs ≤ 50) with
    | some x', true => some (vs.any fun y => eqV y x')
    | _, _ => none
  | c => match view H c with
    | some vs => match rd H x, V.datas vs && decide (V.depths vs ≤ 50) with
      | some x', true => some (vs.any fun y => eqV y x')
      | _, _ => none
    | none => match dview H c, x with
      | some (ks, _), .str k => some (ks.contains k)
      | _, _ => none

noncomputable def eqO (H : AH) (a b : V) : Option Bool := (rd H a).bind fun x => (rd H b).map fun y => eqV x y
noncomputable def cmpI (f : Int → Int → Bool) : V → V → Option Bool
  | .int a, .int b => some (f a b)
  | _, _ => none
noncomputable def cmpop (o : Cop) (a b : V) (H : AH) : Option Bool := match o with
  | .eq => eqO H a b
  | .ne => (eqO H a b).map (!·)
  | .lt => cmpI (fun a b => decide (a < b)) a b
  | .le => cmpI (fun a b => decide (a ≤ b)) a b
  | .gt => cmpI (fun a b => decide (b < a)) a b
  | .ge => cmpI (fun a b => decide (b ≤ a)) a b
  | .is => none
  | .isnot => none
  | .in_ => inV H a b
  | .notin => (inV H a b).map (!·)

/-- the items that a loop goes over -/
noncomputable def rngL (a b : Int) : List V := (List.range (b - a).toNat).map fun (i : Nat) => V.int (a + i)
noncomputable def src (H : AH) : V → Option (List V)
  | .tup vs => some vs
  | .str s => some (s.map fun c => V.str [c])
  | .rng a b => some (rngL a b)
  | v => view H v

structure Prog where
  fns : Nat → Option Fn
  sub : Nat → Nat → Bool

noncomputable def isinst (P : Prog) (H : AH) : V → Ty → Option Bool
  | .int _, t => some (t == .int)
  | .bool _, t => some (t == .int || t == .bool)
  | .str _, t => some (t == .str)
  | .tup _, t => some (t == .tuple)
  | .lst _, t => some (t == .list)
  | .none, _ => some false
  | .dct _ _, _ => some false
  | .ref i, t => match H[i]? with
    | some (.list _) => some (t == .list)
    | some (.dict _ _) => some false
    | _ => none
  | .exc c, .cls d => some (P.sub c d)
  | .exc _, .valueError => some true
  | _, _ => none

noncomputable def strOf (i : Int) : List Char := (toString i).toList
/-- int(text): a text that str makes of a number -/
noncomputable def intOf (s : List Char) : Option Int := if s = strOf (Nat.ofDigitChars 10 s 0) ∧ Nat.ofDigitChars 10 s 0 < 10 ^ 10 then some (Nat.ofDigitChars 10 s 0) else none

noncomputable def splitC (c : Char) : List Char → List Char → List (List Char)
  | [], cur => [cur.reverse]
  | x :: r, cur => if x = c then cur.reverse :: splitC c r [] else splitC c r (x :: cur)

noncomputable def strs? : List V → Option (List (List Char))
  | [] => some []
  | .str s :: r => (strs? r).map (s :: ·)
  | _ :: _ => none
noncomputable def bools? : List V → Option (List Bool)
  | [] => some []
  | .bool b :: r => (bools? r).map (b :: ·)
  | _ :: _ => none
noncomputable def pairs? : List V → Option (List (List Char × V))
  | [] => some []
  | .tup [.str k, v] :: r => (pairs? r).map ((k, v) :: ·)
  | _ :: _ => none
noncomputable def joinL (sep : List Char) : List (List Char) → List Char
  | [] => []
  | [x] => x
  | x :: y :: r => x ++ sep ++ joinL sep (y :: r)
noncomputable def dictOfPairs (ps : List (List Char × V)) : List (List Char) × List V := ps.foldl (fun d p => dput p.1 p.2 d.1 d.2) ([], [])

noncomputable def upperC (c : Char) : Char := if 97 ≤ c.toNat ∧ c.toNat ≤ 122 then Char.ofNat (c.toNat - 32) else c

noncomputable def pBop (o : Bop) : List V → AH → Option (V × AH)
  | [a, b], H => (binop o a b H).map (·, H)
  | _, _ => none
noncomputable def pCop (o : Cop) : List V → AH → Option (V × AH)
  | [a, b], H => (cmpop o a b H).map (V.bool ·, H)
  | _, _ => none
noncomputable def pNot : List V → AH → Option (V × AH)
  | [a], H => (truth a).map (V.bool !·, H)
  | _, _ => none
noncomputable def pNeg : List V → AH → Option (V × AH)
  | [.int a], H => some (.int (-a), H)
  | _, _ => none
noncomputable def pLen : List V → AH → Option (V × AH)
  | [.str s], H => some (.int s.length, H)
  | [.tup s], H => some (.int s.length, H)
  | [v], H => match view H v with
    | some vs => some (.int vs.length, H)
    | none => (dview H v).map fun d => (.int d.1.length, H)
  | _, _ => none
noncomputable def pIsinst (P : Prog) (t : Ty) : List V → AH → Option (V × AH)
  | [a], H => (isinst P H a t).map (V.bool ·, H)
  | _, _ => none
noncomputable def pRange1 : List V → AH → Option (V × AH)
  | [.int b], H => if smallInt b then some (.rng 0 b, H) else none
  | _, _ => none
noncomputable def pRange2 : List V → AH → Option (V × AH)
  | [.int a, .int b], H => if smallInt a && smallInt b then some (.rng a b, H) else none
  | _, _ => none
noncomputable def pList : List V → AH → Option (V × AH)
  | [.rng a b], H => if (b - a).toNat ≤ sizeOf' then some (.lst (rngL a b), H) else none
  | [.tup vs], H => if vs.length ≤ sizeOf' then some (.lst vs, H) else none
  | [v], H => match view H v with
    | some vs => if vs.length ≤ sizeOf' then some (.lst vs, H) else none
    | none => none
  | _, _ => none
noncomputable def pTuple : List V → AH → Option (V × AH)
  | [v], H => match view H v with
    | some vs => if vs.length ≤ sizeOf' then some (.tup vs, H) else none
    | none => none
  | _, _ => none
noncomputable def pDict : List V → AH → Option (V × AH)
  | [v], H => match (view H v).bind pairs? with
    | some ps => if ps.length ≤ 1000 then some (.dct (dictOfPairs ps).1 (dictOfPairs ps).2, H) else none
    | none => none
  | _, _ => none
noncomputable def pStr : List V → AH → Option (V × AH)
  | [.int i], H => if smallInt i then some (.str (strOf i), H) else none
  | [.str s], H => some (.str s, H)
  | _, _ => none
noncomputable def pInt : List V → AH → Option (V × AH)
  | [.bool b], H => some (.int (if b then 1 else 0), H)
  | [.str s], H => (intOf s).map (V.int ·, H)
  | _, _ => none
noncomputable def pMin : List V → AH → Option (V × AH)
  | [.int a, .int b], H => some (.int (min a b), H)
  | _, _ => none
noncomputable def pMax : List V → AH → Option (V × AH)
  | [.int a, .int b], H => some (.int (max a b), H)
  | _, _ => none
noncomputable def pAll : List V → AH → Option (V × AH)
  | [v], H => ((view H v).bind bools?).map fun bs => (.bool (bs.all id), H)
  | _, _ => none
noncomputable def itemI (H : AH) (v : V) (i : Int) : Option V := match v with
  | .str s => (idx s.length i).bind fun j => s[j]?.map fun c => .str [c]
  | .tup vs => (idx vs.length i).bind fun j => vs[j]?
  | v => (view H v).bind fun vs => (idx vs.length i).bind fun j => vs[j]?
noncomputable def itemV (H : AH) (v i : V) : Option V := match i with
  | .int i => itemI H v i
  | _ => none
noncomputable def pItem : List V → AH → Option (V × AH)
  | [v, i], H => (itemV H v i).map (·, H)
  | _, _ => none
noncomputable def sliceV (H : AH) (v : V) (lo hi : Option Int) : Option V := match v with
  | .str s => if s.length ≤ sizeOf' then some (.str (sliceL s (loN s.length lo) (hiN s.length hi))) else none
  | v => (view H v).bind fun s => if s.length ≤ sizeOf' then some (.lst (sliceL s (loN s.length lo) (hiN s.length hi))) else none
noncomputable def pSlice : List V → AH → Option (V × AH)
  | [v, a, b], H => (partOf a).bind fun lo => (partOf b).bind fun hi => (sliceV H v lo hi).map (·, H)
  | _, _ => none
noncomputable def pRev : List V → AH → Option (V × AH)
  | [.tup s], H => if s.length ≤ sizeOf' then some (.tup s.reverse, H) else none
  | [v], H => (view H v).bind fun s => if s.length ≤ sizeOf' then some (.lst s.reverse, H) else none
  | _, _ => none
noncomputable def pMklist (vs : List V) (H : AH) : Option (V × AH) := if vs.length ≤ sizeOf' then some (.lst vs, H) else none
noncomputable def pMktup (vs : List V) (H : AH) : Option (V × AH) := if vs.length ≤ sizeOf' then some (.tup vs, H) else none
noncomputable def pMkdict (ks : List (List Char)) (vs : List V) (H : AH) : Option (V × AH) := if ks.length = vs.length ∧ ks.length ≤ 15 ∧ ks.Nodup then some (.dct ks vs, H) else none
noncomputable def pAppend : List V → AH → Option (V × AH)
  | [.ref i, x], H => match H[i]? with
    | some (.list vs) => if vs.length ≤ sizeOf' then some (.none, H.set i (.list (vs ++ [x]))) else none
    | _ => none
  | _, _ => none
noncomputable def pPop : List V → AH → Option (V × AH)
  | [.ref i], H => match H[i]? with
    | some (.list vs) => if vs.length ≤ sizeOf' then vs.getLast?.map fun x => (x, H.set i (.list vs.dropLast)) else none
    | _ => none
  | _, _ => none
noncomputable def pPop0 : List V → AH → Option (V × AH)
  | [.ref i], H => match H[i]? with
    | some (.list (x :: vs)) => if vs.length ≤ sizeOf' then some (x, H.set i (.list vs)) else none
    | _ => none
  | _, _ => none
noncomputable def pExtend : List V → AH → Option (V × AH)
  | [.ref i, v], H => match H[i]?, view H v with
    | some (.list vs), some ys => if (match v with | .lst _ => true | _ => false) && decide (vs.length + ys.length ≤ sizeOf') then some (.none, H.set i (.list (vs ++ ys))) else none
    | _, _ => none
  | _, _ => none
noncomputable def pIndex : List V → AH → Option (V × AH)
  | [.tup vs, x], H => match rd H x, V.datas vs && decide (V.depths vs ≤ 50) with
    | some x', true => (vs.findIdx? fun y => eqV y x').map fun k => (.int k, H)
    | _, _ => none
  | [v, x], H => (view H v).bind fun vs => match rd H x, V.datas vs && decide (V.depths vs ≤ 50) with
    | some x', true => (vs.findIdx? fun y => eqV y x').map fun k => (.int k, H)
    | _, _ => none
  | _, _ => none
noncomputable def pCount : List V → AH → Option (V × AH)
  | [v, x], H => (view H v).bind fun vs => match rd H x, V.datas vs && decide (V.depths vs ≤ 50) with
    | some x', true => some (.int (vs.countP fun y => eqV y x'), H)
    | _, _ => none
  | _, _ => none
noncomputable def pDpop : List V → AH → Option (V × AH)
  | [.ref i, .str k], H => match H[i]? with
    | some (.dict ks vs) => (dget k ks vs).map fun x => (x, H.set i (.dict (ddel k ks vs).1 (ddel k ks vs).2))
    | _ => none
  | _, _ => none
noncomputable def pUpper : List V → AH → Option (V × AH)
  | [.str s], H => if s.all (fun c => decide (c.toNat < 128)) then some (.str (s.map upperC), H) else none
  | _, _ => none
noncomputable def pJoin : List V → AH → Option (V × AH)
  | [.str sep, v], H => ((view H v).bind strs?).bind fun ss => if (joinL sep ss).length ≤ sizeOf' ∧ ss.length ≤ sizeOf' ∧ sep.length ≤ 8 then some (.str (joinL sep ss), H) else none
  | _, _ => none
noncomputable def splitT (s t : List Char) : Option V := match t with
  | [c] => if s.length ≤ sizeOf' then some (.lst ((splitC c s []).map V.str)) else none
  | _ => none
noncomputable def splitV (v w : V) : Option V := match v with
  | .str s => (match w with
    | .str t => splitT s t
    | _ => none)
  | _ => none
noncomputable def pSplit : List V → AH → Option (V × AH)
  | [v, w], H => (splitV v w).map (·, H)
  | _, _ => none
noncomputable def pAttr (n : List Char) : List V → AH → Option (V × AH)
  | [.ref i], H => match H[i]? with
    | some (.inst _ d) => match H[d]? with
      | some (.dict ks vs) => (dget n ks vs).map (·, H)
      | _ => none
    | _ => none
  | _, _ => none

noncomputable def prim (P : Prog) : Prim → List V → AH → Option (V × AH)
  | .bop o => pBop o
  | .cop o => pCop o
  | .not => pNot
  | .neg => pNeg
  | .len => pLen
  | .isinst t => pIsinst P t
  | .range1 => pRange1
  | .range2 => pRange2
  | .list => pList
  | .tuple => pTuple
  | .dict => pDict
  | .str => pStr
  | .int => pInt
  | .min => pMin
  | .max => pMax
  | .all => pAll
  | .item => pItem
  | .slice => pSlice
  | .rev => pRev
  | .mklist => pMklist
  | .mktup => pMktup
  | .mkdict ks => pMkdict ks
  | .append => pAppend
  | .pop => pPop
  | .pop0 => pPop0
  | .extend => pExtend
  | .index => pIndex
  | .count => pCount
  | .dpop => pDpop
  | .upper => pUpper
  | .join => pJoin
  | .split => pSplit
  | .attr n => pAttr n

/-- a new list or dict as a heap object -/
noncomputable def thaw : V → AH → Option (V × AH)
  | .lst vs, H => some (.ref H.length, H ++ [.list vs])
  | .dct ks vs, H => some (.ref H.length, H ++ [.dict ks vs])
  | _, _ => none

noncomputable def hasTy (H : AH) : V → Mt → Bool
  | .str _, .str => true
  | .lst _, .list => true
  | .dct _ _, .dict => true
  | .ref i, .list => match H[i]? with | some (.list _) => true | _ => false
  | .ref i, .dict => match H[i]? with | some (.dict _ _) => true | _ => false
  | _, _ => false
/-- an object of the class k, with no name of its own in the way of the method -/
noncomputable def hasMeth (H : AH) (k : Nat) (name : List Char) : V → Bool
  | .ref i => match H[i]? with
    | some (.inst k' d) => decide (k' = k) && (match H[d]? with | some (.dict ks _) => !ks.contains name | _ => false)
    | _ => false
  | _ => false

noncomputable def primM (P : Prog) (mu : Bool) (p : Prim) (vs : List V) (H : AH) : Option (V × AH) :=
  if mu then (if p.fresh then (prim P p vs H).bind fun r => thaw r.1 r.2 else none) else prim P p vs H

abbrev QE := V → AH → Prop
abbrev XE := Nat → AH → Prop
abbrev Calls := Nat → List V → AH → QE → XE → Prop

noncomputable def okE (r : Option (V × AH)) (Q : QE) : Prop := match r with | some (v, H) => Q v H | none => False
noncomputable def okB (r : Option Bool) (K : Bool → Prop) : Prop := match r with | some b => K b | none => False

/-- one comprehension: F is a turn (none: the test fails) -/
noncomputable def compL (F : V → AH → (Option V → AH → Prop) → Prop) (ok : AH → Prop) : List V → List V → AH → (List V → AH → Prop) → Prop
  | [], acc, H, Q => ok H ∧ Q acc H
  | v :: vs, acc, H, Q => ok H ∧ F v H fun r H' => compL F ok vs (match r with | some x => acc ++ [x] | none => acc) H' Q

mutual
noncomputable def wpE (P : Prog) (C : Calls) : Ex → Fm → AH → QE → XE → Prop
  | .cst v, _, H, Q, _ => Q v H
  | .var i, ρ, H, Q, _ => match ρ[i]? with | some (some v) => Q v H | _ => False
  | .prim mu p args, ρ, H, Q, X => wpEs P C args ρ H (fun vs H' => okE (primM P mu p vs H') Q) X
  | .and a b, ρ, H, Q, X => wpE P C a ρ H (fun v H' => okB (truth v) fun t => if t then wpE P C b ρ H' Q X else Q v H') X
  | .or a b, ρ, H, Q, X => wpE P C a ρ H (fun v H' => okB (truth v) fun t => if t then Q v H' else wpE P C b ρ H' Q X) X
  | .cmp2 a o₁ b o₂ c, ρ, H, Q, X => wpE P C a ρ H (fun x H₁ => wpE P C b ρ H₁ (fun y H₂ => okB (cmpop o₁ x y H₂) fun t =>
      if t then wpE P C c ρ H₂ (fun z H₃ => okB (cmpop o₂ y z H₃) fun t' => Q (.bool t') H₃) X else Q (.bool false) H₂) X) X
  | .call f args, ρ, H, Q, X => wpEs P C args ρ H (fun vs H' => C f vs H' Q X) X
  | .meth k f name o args, ρ, H, Q, X => wpE P C o ρ H (fun v H₁ => hasMeth H₁ k name v = true ∧ wpEs P C args ρ H₁ (fun vs H' => C f (v :: vs) H' Q X) X) X
  | .mcall t mu p o args, ρ, H, Q, X => wpE P C o ρ H (fun v H₁ => hasTy H₁ v t = true ∧ wpEs P C args ρ H₁ (fun vs H' => okE (primM P mu p (v :: vs) H') Q) X) X
  | .new c f args, ρ, H, Q, X => wpEs P C args ρ H (fun vs H' => C f (.ref (H'.length + 1) :: vs) (H' ++ [.dict [] [], .inst c H'.length]) (fun _ H'' => Q (.ref (H'.length + 1)) H'') X) X
  | .comp mu elt it cond, ρ, H, Q, X => wpE P C it ρ H (fun v H₁ => ∃ items, src H₁ v = some items ∧ items.length ≤ sizeOf' ∧
      compL (fun x H' K => match cond with
          | none => wpE P C elt (ρ ++ [some x]) H' (fun y H'' => K (some y) H'') X
          | some c => wpE P C c (ρ ++ [some x]) H' (fun b H₂ => okB (truth b) fun t => if t then wpE P C elt (ρ ++ [some x]) H₂ (fun y H'' => K (some y) H'') X else K none H₂) X)
        (fun H' => src H' v = some items) items [] H₁ (fun ys H₂ => okE (if mu then thaw (.lst ys) H₂ else some (.lst ys, H₂)) Q)) X
noncomputable def wpEs (P : Prog) (C : Calls) : List Ex → Fm → AH → (List V → AH → Prop) → XE → Prop
  | [], _, H, Q, _ => Q [] H
  | e :: es, ρ, H, Q, X => wpE P C e ρ H (fun v H' => wpEs P C es ρ H' (fun vs H'' => Q (v :: vs) H'') X) X
end

noncomputable def setTgt (ρ : Fm) : Nat ⊕ List Nat → V → Option Fm
  | .inl i, v => some (ρ.set i (some v))
  | .inr is, .tup vs => if is.length = vs.length then some ((is.zip vs).foldl (fun ρ p => ρ.set p.1 (some p.2)) ρ) else none
  | _, _ => none

abbrev KS := Fm → AH → Prop

noncomputable def forL (F : V → Fm → AH → KS → Prop) (ok : AH → Prop) : List V → Fm → AH → KS → Prop
  | [], ρ, H, K => ok H ∧ K ρ H
  | v :: vs, ρ, H, K => ok H ∧ F v ρ H fun ρ' H' => forL F ok vs ρ' H' K

noncomputable def whileL (F : Fm → AH → KS → KS → Prop) : Nat → Fm → AH → KS → Prop
  | 0, _, _, _ => False
  | k + 1, ρ, H, K => F ρ H (fun ρ' H' => whileL F k ρ' H' K) K

noncomputable def setItemV (o i x : V) (H : AH) : Option AH :=
  match o, i with
  | .ref r, .int k => match H[r]? with
    | some (.list vs) => (idx vs.length k).map fun j => H.set r (.list (vs.set j x))
    | _ => none
  | .ref r, .str k => match H[r]? with
    | some (.dict ks vs) => if ks.length ≤ sizeOf' then some (H.set r (.dict (dput k x ks vs).1 (dput k x ks vs).2)) else none
    | _ => none
  | _, _ => none
noncomputable def setAttrV (o : V) (n : List Char) (x : V) (H : AH) : Option AH :=
  match o with
  | .ref r => match H[r]? with
    | some (.inst _ d) => match H[d]? with
      | some (.dict ks vs) => if ks.length ≤ 1000 then some (H.set d (.dict (dput n x ks vs).1 (dput n x ks vs).2)) else none
      | _ => none
    | _ => none
  | _ => none

noncomputable def noInst (H : AH) (r : Nat) : Bool := H.all fun o => match o with | .inst _ d => decide (d ≠ r) | _ => true
noncomputable def freezeV (v : V) (H : AH) : Option (V × AH) :=
  match v with
  | .ref r => if noInst H r then (match H[r]? with
    | some (.list vs) => some (.lst vs, H.set r .dead)
    | some (.dict ks vs) => some (.dct ks vs, H.set r .dead)
    | _ => none) else none
  | _ => none

mutual
noncomputable def wpS (P : Prog) (C : Calls) : St → Fm → AH → KS → QE → XE → Prop
  | .asg i e, ρ, H, K, _, X => wpE P C e ρ H (fun v H' => i < ρ.length ∧ K (ρ.set i (some v)) H') X
  | .asgTup is e, ρ, H, K, _, X => wpE P C e ρ H (fun v H' => match setTgt ρ (.inr is) v with | some ρ' => K ρ' H' | none => False) X
  | .setItem o i e, ρ, H, K, _, X => wpE P C e ρ H (fun x H₁ => wpE P C o ρ H₁ (fun ov H₂ => wpE P C i ρ H₂ (fun iv H₃ => match setItemV ov iv x H₃ with | some H' => K ρ H' | none => False) X) X) X
  | .setAttr o n e, ρ, H, K, _, X => wpE P C e ρ H (fun x H₁ => wpE P C o ρ H₁ (fun ov H₂ => match setAttrV ov n x H₂ with | some H' => K ρ H' | none => False) X) X
  | .expr e, ρ, H, K, _, X => wpE P C e ρ H (fun _ H' => K ρ H') X
  | .ite c a b, ρ, H, K, R, X => wpE P C c ρ H (fun v H' => okB (truth v) fun t => if t then wpSs P C a ρ H' K R X else wpSs P C b ρ H' K R X) X
  | .forIn rev tgt e body, ρ, H, K, R, X => wpE P C e ρ H (fun v H₁ => ∃ items, src H₁ v = some items ∧ items.length ≤ sizeOf' ∧
      forL (fun x ρ' H' K' => match setTgt ρ' tgt x with | some ρ'' => wpSs P C body ρ'' H' K' R X | none => False)
        (fun H' => src H' v = some items) (if rev then items.reverse else items) ρ H₁ K) X
  | .while_ c body, ρ, H, K, R, X => ∃ k, whileL (fun ρ' H' K₁ K₂ => wpE P C c ρ' H' (fun v H'' => okB (truth v) fun t => if t then wpSs P C body ρ' H'' K₁ R X else K₂ ρ' H'') X) k ρ H K
  | .ret e, ρ, H, _, R, X => wpE P C e ρ H R X
  | .raise c, _, H, _, _, X => X c H
  | .try_ body cls as_ h, ρ, H, K, R, X => wpSs P C body ρ H K R (fun c H' => if P.sub c cls then
      (match as_ with
        | none => wpSs P C h ρ H' K R X
        | some i => wpSs P C h (ρ.set i (some (.exc c))) H' (fun ρ' H'' => K (ρ'.set i none) H'') R X) else X c H')
  | .freeze i, ρ, H, K, _, _ => match ρ[i]? with
      | some (some v) => match freezeV v H with | some (v', H') => K (ρ.set i (some v')) H' | none => False
      | _ => False
  | .pass, ρ, H, K, _, _ => K ρ H
noncomputable def wpSs (P : Prog) (C : Calls) : List St → Fm → AH → KS → QE → XE → Prop
  | [], ρ, H, K, _, _ => K ρ H
  | s :: ss, ρ, H, K, R, X => wpS P C s ρ H (fun ρ' H' => wpSs P C ss ρ' H' K R X) R X
end

mutual
/-- v' is v with some of its references (from n on) read out -/
inductive Fz (n : Nat) (H : AH) : V → V → Prop
  | refl (v : V) : Fz n H v v
  | tup {vs ws : List V} : Fzs n H vs ws → Fz n H (.tup vs) (.tup ws)
  | lst {vs ws : List V} : Fzs n H vs ws → Fz n H (.lst vs) (.lst ws)
  | dct {ks : List (List Char)} {vs ws : List V} : Fzs n H vs ws → Fz n H (.dct ks vs) (.dct ks ws)
  | list {i : Nat} {vs ws : List V} : n ≤ i → H[i]? = some (.list vs) → Fzs n H vs ws → Fz n H (.ref i) (.lst ws)
  | dict {i : Nat} {ks : List (List Char)} {vs ws : List V} : n ≤ i → H[i]? = some (.dict ks vs) → Fzs n H vs ws → Fz n H (.ref i) (.dct ks ws)
inductive Fzs (n : Nat) (H : AH) : List V → List V → Prop
  | nil : Fzs n H [] []
  | cons {v w : V} {vs ws : List V} : Fz n H v w → Fzs n H vs ws → Fzs n H (v :: vs) (w :: ws)
end

/-- what a call hands back: as it is, or with all that the callee made dropped -/
noncomputable def Ret (H : AH) (Q : QE) (v : V) (H' : AH) : Prop :=
  Q v H' ∨ ∃ v', Fz H.length H' v v' ∧ H <+: H' ∧ v'.under H.length = true ∧ Q v' H
noncomputable def RetX (H : AH) (X : XE) (c : Nat) (H' : AH) : Prop := X c H' ∨ (H <+: H' ∧ X c H)

noncomputable def callF (P : Prog) : Nat → Calls
  | 0, _, _, _, _, _ => False
  | n + 1, f, args, H, Q, X => match P.fns f with
    | some fn => args.length = fn.arity ∧
        wpSs P (callF P n) fn.body (args.map some ++ List.replicate fn.extra none) H (fun _ H' => Ret H Q .none H') (fun v H' => Ret H Q v H') (RetX H X)
    | none => False

section
variable {P : Prog} {C : Calls} {ρ : Fm} {H : AH} {Q : QE} {X : XE} {K : KS} {R : QE}
theorem wpE_cst {v : V} : wpE P C (.cst v) ρ H Q X = Q v H := rfl
theorem wpE_var {i : Nat} : wpE P C (.var i) ρ H Q X = match ρ[i]? with | some (some v) => Q v H | _ => False := rfl
theorem wpE_prim {mu : Bool} {p : Prim} {args : List Ex} : wpE P C (.prim mu p args) ρ H Q X = wpEs P C args ρ H (fun vs H' => okE (primM P mu p vs H') Q) X := rfl
theorem wpE_and {a b : Ex} : wpE P C (.and a b) ρ H Q X = wpE P C a ρ H (fun v H' => okB (truth v) fun t => if t then wpE P C b ρ H' Q X else Q v H') X := rfl
theorem wpE_or {a b : Ex} : wpE P C (.or a b) ρ H Q X = wpE P C a ρ H (fun v H' => okB (truth v) fun t => if t then Q v H' else wpE P C b ρ H' Q X) X := rfl
theorem wpE_cmp2 {a b c : Ex} {o₁ o₂ : Cop} : wpE P C (.cmp2 a o₁ b o₂ c) ρ H Q X = wpE P C a ρ H (fun x H₁ => wpE P C b ρ H₁ (fun y H₂ => okB (cmpop o₁ x y H₂) fun t =>
      if t then wpE P C c ρ H₂ (fun z H₃ => okB (cmpop o₂ y z H₃) fun t' => Q (.bool t') H₃) X else Q (.bool false) H₂) X) X := rfl
theorem wpE_call {f : Nat} {args : List Ex} : wpE P C (.call f args) ρ H Q X = wpEs P C args ρ H (fun vs H' => C f vs H' Q X) X := rfl
theorem wpE_meth {k f : Nat} {name : List Char} {o : Ex} {args : List Ex} : wpE P C (.meth k f name o args) ρ H Q X = wpE P C o ρ H (fun v H₁ => hasMeth H₁ k name v = true ∧ wpEs P C args ρ H₁ (fun vs H' => C f (v :: vs) H' Q X) X) X := rfl
theorem wpE_mcall {t : Mt} {mu : Bool} {p : Prim} {o : Ex} {args : List Ex} : wpE P C (.mcall t mu p o args) ρ H Q X = wpE P C o ρ H (fun v H₁ => hasTy H₁ v t = true ∧ wpEs P C args ρ H₁ (fun vs H' => okE (primM P mu p (v :: vs) H') Q) X) X := rfl
theorem wpE_new {c f : Nat} {args : List Ex} : wpE P C (.new c f args) ρ H Q X = wpEs P C args ρ H (fun vs H' => C f (.ref (H'.length + 1) :: vs) (H' ++ [.dict [] [], .inst c H'.length]) (fun _ H'' => Q (.ref (H'.length + 1)) H'') X) X := rfl
theorem wpE_comp {mu : Bool} {elt it : Ex} : wpE P C (.comp mu elt it none) ρ H Q X = wpE P C it ρ H (fun v H₁ => ∃ items, src H₁ v = some items ∧ items.length ≤ sizeOf' ∧
      compL (fun x H' K => wpE P C elt (ρ ++ [some x]) H' (fun y H'' => K (some y) H'') X)
        (fun H' => src H' v = some items) items [] H₁ (fun ys H₂ => okE (if mu then thaw (.lst ys) H₂ else some (.lst ys, H₂)) Q)) X := rfl
theorem wpE_compIf {mu : Bool} {elt it c : Ex} : wpE P C (.comp mu elt it (some c)) ρ H Q X = wpE P C it ρ H (fun v H₁ => ∃ items, src H₁ v = some items ∧ items.length ≤ sizeOf' ∧
      compL (fun x H' K => wpE P C c (ρ ++ [some x]) H' (fun b H₂ => okB (truth b) fun t => if t then wpE P C elt (ρ ++ [some x]) H₂ (fun y H'' => K (some y) H'') X else K none H₂) X)
        (fun H' => src H' v = some items) items [] H₁ (fun ys H₂ => okE (if mu then thaw (.lst ys) H₂ else some (.lst ys, H₂)) Q)) X := rfl
theorem wpEs_nil {Q : List V → AH → Prop} : wpEs P C [] ρ H Q X = Q [] H := rfl
theorem wpEs_cons {e : Ex} {es : List Ex} {Q : List V → AH → Prop} : wpEs P C (e :: es) ρ H Q X = wpE P C e ρ H (fun v H' => wpEs P C es ρ H' (fun vs H'' => Q (v :: vs) H'') X) X := rfl

theorem wpS_asg {i : Nat} {e : Ex} : wpS P C (.asg i e) ρ H K R X = wpE P C e ρ H (fun v H' => i < ρ.length ∧ K (ρ.set i (some v)) H') X := rfl
theorem wpS_asgTup {is : List Nat} {e : Ex} : wpS P C (.asgTup is e) ρ H K R X = wpE P C e ρ H (fun v H' => match setTgt ρ (.inr is) v with | some ρ' => K ρ' H' | none => False) X := rfl
theorem wpS_setItem {o i e : Ex} : wpS P C (.setItem o i e) ρ H K R X = wpE P C e ρ H (fun x H₁ => wpE P C o ρ H₁ (fun ov H₂ => wpE P C i ρ H₂ (fun iv H₃ => match setItemV ov iv x H₃ with | some H' => K ρ H' | none => False) X) X) X := rfl
theorem wpS_setAttr {o e : Ex} {n : List Char} : wpS P C (.setAttr o n e) ρ H K R X = wpE P C e ρ H (fun x H₁ => wpE P C o ρ H₁ (fun ov H₂ => match setAttrV ov n x H₂ with | some H' => K ρ H' | none => False) X) X := rfl
theorem wpS_expr {e : Ex} : wpS P C (.expr e) ρ H K R X = wpE P C e ρ H (fun _ H' => K ρ H') X := rfl
theorem wpS_ite {c : Ex} {a b : List St} : wpS P C (.ite c a b) ρ H K R X = wpE P C c ρ H (fun v H' => okB (truth v) fun t => if t then wpSs P C a ρ H' K R X else wpSs P C b ρ H' K R X) X := rfl
theorem wpS_forIn {rev : Bool} {tgt : Nat ⊕ List Nat} {e : Ex} {body : List St} : wpS P C (.forIn rev tgt e body) ρ H K R X = wpE P C e ρ H (fun v H₁ => ∃ items, src H₁ v = some items ∧ items.length ≤ sizeOf' ∧
      forL (fun x ρ' H' K' => match setTgt ρ' tgt x with | some ρ'' => wpSs P C body ρ'' H' K' R X | none => False)
        (fun H' => src H' v = some items) (if rev then items.reverse else items) ρ H₁ K) X := rfl
theorem wpS_while {c : Ex} {body : List St} : wpS P C (.while_ c body) ρ H K R X = ∃ k, whileL (fun ρ' H' K₁ K₂ => wpE P C c ρ' H' (fun v H'' => okB (truth v) fun t => if t then wpSs P C body ρ' H'' K₁ R X else K₂ ρ' H'') X) k ρ H K := rfl
theorem wpS_ret {e : Ex} : wpS P C (.ret e) ρ H K R X = wpE P C e ρ H R X := rfl
theorem wpS_try {body h : List St} {cls : Nat} {as_ : Option Nat} : wpS P C (.try_ body cls as_ h) ρ H K R X = wpSs P C body ρ H K R (fun c H' => if P.sub c cls then
      (match as_ with
        | none => wpSs P C h ρ H' K R X
        | some i => wpSs P C h (ρ.set i (some (.exc c))) H' (fun ρ' H'' => K (ρ'.set i none) H'') R X) else X c H') := rfl
theorem wpS_freeze {i : Nat} : wpS P C (.freeze i) ρ H K R X = match ρ[i]? with
      | some (some v) => match freezeV v H with | some (v', H') => K (ρ.set i (some v')) H' | none => False
      | _ => False := rfl
theorem wpSs_cons {s : St} {ss : List St} : wpSs P C (s :: ss) ρ H K R X = wpS P C s ρ H (fun ρ' H' => wpSs P C ss ρ' H' K R X) R X := rfl
theorem callF_succ {n f : Nat} {args : List V} : callF P (n + 1) f args H Q X = match P.fns f with
    | some fn => args.length = fn.arity ∧
        wpSs P (callF P n) fn.body (args.map some ++ List.replicate fn.extra none) H (fun _ H' => Ret H Q .none H') (fun v H' => Ret H Q v H') (RetX H X)
    | none => False := rfl
end

end Mine

end
noncomputable section
namespace Mine
open PySem PySem.Calls PyProof.Rows

abbrev Adr := List (Option Addr)
abbrev HP := PySem.Heap

/-- what stands fast through the whole run of a law -/
structure Cx where
  prog : Program
  w : World
  base : HP
  mg : Str → Option Value
  mb : Str → Option Value
  P : Prog
  os : OsState
  fad : Nat → Addr
  fdat : Nat → FuncData
  xcls : Nat → Addr
  ccls : Nat → Addr

/-- no text, list, dict is longer -/
noncomputable def bnd : Nat := 2 ^ 40
abbrev Cx.M (c : Cx) : Model := model c.prog c.w
abbrev Cx.kd (c : Cx) : KeyKind c.prog c.w Str := strKind c.prog c.w

/-- a text's signs as the model has them -/
noncomputable def toS (s : List Char) : Str := ⟨(s.map Char.toNat).toArray⟩
theorem toS_inj {a b : List Char} (h : toS a = toS b) : a = b := by
  have h1 : (a.map Char.toNat) = b.map Char.toNat := by
    have := congrArg (fun x : Str => x.cps.toList) h
    simpa [toS] using this
  exact (List.map_inj_right (fun x y e => Char.toNat_inj.mp e)).mp h1

mutual
inductive VR (c : Cx) (as : Adr) (X : List Addr) (h : HP) : V → Value → Prop
  | none : VR c as X h .none .none
  | bool (b : Bool) : VR c as X h (.bool b) (.bool b)
  | int (i : Int) (t : Tok) : VR c as X h (.int i) (.int i t)
  | str (s : List Char) (t : Tok) : s.length ≤ bnd → VR c as X h (.str s) (.str (toS s) t)
  | tup {a : Addr} {items : Array Value} {n : Nat} {vs : List V} : some a ∉ as → a ∉ X → h.get? a = some { cls := .type "tuple", data := .seq items n } → VRs c as X h vs items.toList → vs.length ≤ bnd → VR c as X h (.tup vs) (.ref a)
  | lst {a : Addr} {items : Array Value} {vs : List V} : some a ∉ as → a ∉ X → h.PlainList a items → VRs c as X h vs items.toList → vs.length ≤ bnd → VR c as X h (.lst vs) (.ref a)
  | dct {a : Addr} {ks : List (List Char)} {vs : List V} {cs : List Value} : some a ∉ as → a ∉ X → (a == sysModules) = false → h.DictOf c.kd a ((ks.map toS).zip cs) → ks.length = cs.length → VRs c as X h vs cs → vs.length ≤ bnd → VR c as X h (.dct ks vs) (.ref a)
  | rng {r : Addr} {a b : Int} {t₀ t₁ t₂ : Tok} : some r ∉ as → r ∉ X → IsRange h r a b 1 t₀ t₁ t₂ → smallInt a = true → smallInt b = true → VR c as X h (.rng a b) (.ref r)
  | exc {a : Addr} {o : Obj} {k : Nat} : some a ∉ as → a ∉ X → h.get? a = some o → o.cls = .ref (c.xcls k) → VR c as X h (.exc k) (.ref a)
  | refD {i : Nat} {cv : Value} : as[i]? = some Option.none → VR c as X h (.ref i) cv
  | ref {i : Nat} {a : Addr} : as[i]? = some (some a) → VR c as X h (.ref i) (.ref a)
inductive VRs (c : Cx) (as : Adr) (X : List Addr) (h : HP) : List V → List Value → Prop
  | nil : VRs c as X h [] []
  | cons {v : V} {vs : List V} {x : Value} {cs : List Value} : VR c as X h v x → VRs c as X h vs cs → VRs c as X h (v :: vs) (x :: cs)
end

section
variable {c : Cx} {as as' : Adr} {X : List Addr} {h h' : HP}
theorem VRs.length : ∀ {vs : List V} {cs : List Value}, VRs c as X h vs cs → vs.length = cs.length
  | _, _, .nil => rfl
  | _, _, .cons _ r => by rw [List.length_cons, List.length_cons, r.length]
theorem VRs.get : ∀ {vs : List V} {cs : List Value} {j : Nat} {v : V}, VRs c as X h vs cs → vs[j]? = some v → ∃ x, cs[j]? = some x ∧ VR c as X h v x
  | _, _, _, _, .nil, e => by simp at e
  | _, _, 0, _, .cons x _, e => by simp at e; subst e; exact ⟨_, rfl, x⟩
  | _, _, j + 1, _, .cons _ r, e => by simp only [List.getElem?_cons_succ] at e ⊢; exact r.get e
theorem VRs.get' : ∀ {vs : List V} {cs : List Value} {j : Nat} {x : Value}, VRs c as X h vs cs → cs[j]? = some x → ∃ v, vs[j]? = some v ∧ VR c as X h v x
  | _, _, _, _, .nil, e => by simp at e
  | _, _, 0, _, .cons x _, e => by simp at e; subst e; exact ⟨_, rfl, x⟩
  | _, _, j + 1, _, .cons _ r, e => by simp only [List.getElem?_cons_succ] at e ⊢; exact r.get' e
theorem VRs.append : ∀ {vs ws : List V} {cs ds : List Value}, VRs c as X h vs cs → VRs c as X h ws ds → VRs c as X h (vs ++ ws) (cs ++ ds)
  | _, _, _, _, .nil, k => k
  | _, _, _, _, .cons x r, k => .cons x (r.append k)
theorem VRs.take : ∀ {vs : List V} {cs : List Value} (n : Nat), VRs c as X h vs cs → VRs c as X h (vs.take n) (cs.take n)
  | _, _, 0, _ => by simp only [List.take_zero]; exact .nil
  | _, _, n + 1, .nil => by simp only [List.take_nil]; exact .nil
  | _, _, n + 1, .cons x r => by simp only [List.take_succ_cons]; exact .cons x (r.take n)
theorem VRs.drop : ∀ {vs : List V} {cs : List Value} (n : Nat), VRs c as X h vs cs → VRs c as X h (vs.drop n) (cs.drop n)
  | _, _, 0, k => k
  | _, _, n + 1, .nil => by simp only [List.drop_nil]; exact .nil
  | _, _, n + 1, .cons x r => by simp only [List.drop_succ_cons]; exact r.drop n
theorem VRs.reverse : ∀ {vs : List V} {cs : List Value}, VRs c as X h vs cs → VRs c as X h vs.reverse cs.reverse
  | _, _, .nil => .nil
  | _, _, .cons x r => by simp only [List.reverse_cons]; exact r.reverse.append (.cons x .nil)
theorem VRs.set : ∀ {vs : List V} {cs : List Value} {v : V} {x : Value} (n : Nat), VRs c as X h vs cs → VR c as X h v x → VRs c as X h (vs.set n v) (cs.set n x)
  | _, _, _, _, _, .nil, _ => by simp only [List.set_nil]; exact .nil
  | _, _, _, _, 0, .cons _ r, k => by simp only [List.set_cons_zero]; exact .cons k r
  | _, _, _, _, n + 1, .cons x r, k => by simp only [List.set_cons_succ]; exact .cons x (r.set n k)
theorem VRs.replicate {v : V} {x : Value} (k : VR c as X h v x) : ∀ n : Nat, VRs c as X h (List.replicate n v) (List.replicate n x)
  | 0 => .nil
  | n + 1 => by simp only [List.replicate_succ]; exact .cons k (VRs.replicate k n)
end

/-- an object as it was; a frame's slots may be others -/
noncomputable def SameO (o o' : Obj) : Prop := o' = o ∨ (o.cls = .type "frame" ∧ ∃ sl, o' = { o with slots := sl })
theorem SameO.trans {o₁ o₂ o₃ : Obj} (x : SameO o₁ o₂) (y : SameO o₂ o₃) : SameO o₁ o₃ := by
  rcases x with rfl | ⟨h1, sl, rfl⟩
  · exact y
  · rcases y with rfl | ⟨_, sl', rfl⟩
    · exact .inr ⟨h1, sl, rfl⟩
    · exact .inr ⟨h1, sl', rfl⟩
theorem SameO.eq {o o' : Obj} (x : SameO o o') (h : o.cls ≠ .type "frame") : o' = o := by
  rcases x with e | ⟨h1, _⟩
  · exact e
  · exact absurd h1 h

/-- what is not among the addresses stays -/
noncomputable def Kept (as : Adr) (h h' : HP) : Prop := ∀ b o, h.get? b = some o → some b ∉ as → ∃ o', h'.get? b = some o' ∧ SameO o o'
theorem Kept.refl (as : Adr) (h : HP) : Kept as h h := fun _ o e _ => ⟨o, e, .inl rfl⟩
/-- the same, but for the addresses of frames too -/
noncomputable def KeptX (as : Adr) (X : List Addr) (h h' : HP) : Prop := ∀ b o, h.get? b = some o → some b ∉ as → b ∉ X → ∃ o', h'.get? b = some o' ∧ SameO o o'
theorem Kept.x {as : Adr} {h h' : HP} (k : Kept as h h') (X : List Addr) : KeptX as X h h' := fun b o e hb _ => k b o e hb

structure Ext (as : Adr) (h : HP) (as' : Adr) : Prop where
  old : ∀ (i : Nat) (x : Option Addr), as[i]? = some x → as'[i]? = some x ∨ as'[i]? = some none
  new : ∀ a, some a ∈ as' → some a ∈ as ∨ h.get? a = none
theorem Ext.refl (as : Adr) (h : HP) : Ext as h as := ⟨fun _ _ e => .inl e, fun _ e => .inl e⟩
theorem Ext.trans {as as₁ as₂ : Adr} {h h₁ : HP} (x : Ext as h as₁) (k : Kept as h h₁) (y : Ext as₁ h₁ as₂) : Ext as h as₂ := by
  refine ⟨fun i a e => ?_, fun a ha => ?_⟩
  · rcases x.old i a e with e1 | e1
    · rcases y.old i _ e1 with e2 | e2
      · exact .inl e2
      · exact .inr e2
    · rcases y.old i _ e1 with e2 | e2
      · exact .inr e2
      · exact .inr e2
  · rcases y.new a ha with e1 | e1
    · exact x.new a e1
    · by_cases hm : some a ∈ as
      · exact .inl hm
      · cases hq : h.get? a with
        | none => exact .inr rfl
        | some o => obtain ⟨o', e, _⟩ := k a o hq hm; rw [e] at e1; cases e1
theorem Kept.trans {as as₁ : Adr} {h h₁ h₂ : HP} (k : Kept as h h₁) (x : Ext as h as₁) (k' : Kept as₁ h₁ h₂) : Kept as h h₂ := fun b o e hb => by
  obtain ⟨o₁, e₁, s₁⟩ := k b o e hb
  have hb1 : some b ∉ as₁ := fun q => by
    rcases x.new b q with q | q
    · exact hb q
    · rw [e] at q; cases q
  obtain ⟨o₂, e₂, s₂⟩ := k' b o₁ e₁ hb1
  exact ⟨o₂, e₂, s₁.trans s₂⟩

theorem IsRange.same {h h' : HP} {r : Addr} {a b : Int} {t₀ t₁ t₂ : Tok} (x : IsRange h r a b 1 t₀ t₁ t₂) (k : ∀ o, h.get? r = some o → o.cls ≠ .type "frame" → h'.get? r = some o) : IsRange h' r a b 1 t₀ t₁ t₂ := by
  first
    | exact k _ x (by simp)
    | (obtain ⟨o, ho, hc, r⟩ := x; exact ⟨o, k o ho (by rw [hc]; simp), hc, r⟩)

theorem KeptX.get {as : Adr} {X : List Addr} {h h' : HP} (k : KeptX as X h h') {b : Addr} {o : Obj} (e : h.get? b = some o) (hb : some b ∉ as) (hx : b ∉ X) (hc : o.cls ≠ .type "frame") : h'.get? b = some o := by
  obtain ⟨o', e', s⟩ := k b o e hb hx
  rw [e', s.eq hc]
theorem Kept.get {as : Adr} {h h' : HP} (k : Kept as h h') {b : Addr} {o : Obj} (e : h.get? b = some o) (hb : some b ∉ as) (hc : o.cls ≠ .type "frame") : h'.get? b = some o := by
  obtain ⟨o', e', s⟩ := k b o e hb
  rw [e', s.eq hc]
theorem Ext.out {as as' : Adr} {h : HP} (x : Ext as h as') {b : Addr} {o : Obj} (e : h.get? b = some o) (hb : some b ∉ as) : some b ∉ as' := fun q => by
  rcases x.new b q with q | q
  · exact hb q
  · rw [e] at q; cases q
theorem DictOf.same {c : Cx} {h h' : HP} {a : Addr} {kvs : List (Str × Value)} (x : h.DictOf c.kd a kvs) (k : ∀ o, h.get? a = some o → o.cls ≠ .type "frame" → h'.get? a = some o) : h'.DictOf c.kd a kvs := by
  obtain ⟨o, es, ep, ho, hx, r⟩ := x
  exact ⟨o, es, ep, k o ho (by rw [hx.1]; simp), hx, r⟩

theorem VRs.all {c : Cx} {as : Adr} {X : List Addr} {h : HP} {P : V → Value → Prop} {vs : List V} {cs : List Value} (r : VRs c as X h vs cs) (R : List V → List Value → Prop) (hn : R [] []) (hc : ∀ v x vs cs, VR c as X h v x → R vs cs → R (v :: vs) (x :: cs)) : R vs cs :=
  VRs.rec (motive_1 := fun _ _ _ => True) (motive_2 := fun vs cs _ => R vs cs) trivial (fun _ => trivial) (fun _ _ => trivial) (fun _ _ _ => trivial) (fun _ _ _ _ _ _ => trivial) (fun _ _ _ _ _ _ => trivial) (fun _ _ _ _ _ _ _ _ => trivial) (fun _ _ _ _ _ => trivial) (fun _ _ _ _ => trivial) (fun _ => trivial) (fun _ => trivial) hn (fun a _ _ ih => hc _ _ _ _ a ih) r
theorem VR.under {c : Cx} {as : Adr} {X : List Addr} {h : HP} {v : V} {y : Value} (r : VR c as X h v y) : v.under as.length = true := by
  refine VR.rec (motive_1 := fun v _ _ => v.under as.length = true) (motive_2 := fun vs _ _ => V.unders as.length vs = true) rfl (fun _ => rfl) (fun _ _ => rfl) (fun _ _ _ => rfl) (fun _ _ _ _ _ ih => ih) (fun _ _ _ _ _ ih => ih) (fun _ _ _ _ _ _ _ ih => ih) (fun _ _ _ _ _ => rfl) (fun _ _ _ _ => rfl) (fun e => ?_) (fun e => ?_) rfl (fun _ _ i1 i2 => ?_) r
  · exact decide_eq_true (List.getElem?_eq_some_iff.mp e).1
  · exact decide_eq_true (List.getElem?_eq_some_iff.mp e).1
  · exact Bool.and_eq_true_iff.mpr ⟨i1, i2⟩
theorem VRs.under {c : Cx} {as : Adr} {X : List Addr} {h : HP} {vs : List V} {cs : List Value} (r : VRs c as X h vs cs) : V.unders as.length vs = true :=
  VRs.all (P := fun _ _ => True) r (fun vs _ => V.unders as.length vs = true) rfl fun _ _ _ _ a ih => Bool.and_eq_true_iff.mpr ⟨a.under, ih⟩
/-- other addresses, another heap: what a value leans on stays -/
theorem VR.gen {c : Cx} {as as' : Adr} {X X' : List Addr} {h h' : HP} (n : Nat) (hk : ∀ a o, some a ∉ as → a ∉ X → h.get? a = some o → o.cls ≠ .type "frame" → some a ∉ as' ∧ a ∉ X' ∧ h'.get? a = some o)
    (hr : ∀ i x, i < n → as[i]? = some x → as'[i]? = some x ∨ as'[i]? = some Option.none) {v : V} {y : Value} (r : VR c as X h v y) (u : v.under n = true) : VR c as' X' h' v y := by
  refine VR.rec (motive_1 := fun v y _ => v.under n = true → VR c as' X' h' v y) (motive_2 := fun vs cs _ => V.unders n vs = true → VRs c as' X' h' vs cs) (fun _ => .none) (fun b _ => .bool b) (fun i t _ => .int i t) (fun s t hs _ => .str s t hs)
    (fun ha hx ho _ hb ih u => ?_) (fun ha hx hp _ hb ih u => ?_) (fun ha hx hsm hd hl _ hb ih u => ?_) (fun hr hx hi h1 h2 _ => ?_) (fun ha hx ho hc _ => ?_) (fun e u => ?_) (fun e u => ?_) (fun _ => .nil) (fun _ _ i1 i2 u => ?_) r u
  · obtain ⟨q1, q2, q3⟩ := hk _ _ ha hx ho (by simp)
    exact .tup q1 q2 q3 (ih u) hb
  · obtain ⟨m, ho⟩ := hp
    obtain ⟨q1, q2, q3⟩ := hk _ _ ha hx ho (by simp)
    exact .lst q1 q2 ⟨m, q3⟩ (ih u) hb
  · obtain ⟨o, es, ep, ho, hx', r⟩ := hd
    obtain ⟨q1, q2, q3⟩ := hk _ _ ha hx ho (by rw [hx'.1]; simp)
    exact .dct q1 q2 hsm ⟨o, es, ep, q3, hx', r⟩ hl (ih u) hb
  · have hi0 := hi
    obtain ⟨q1, q2, q3⟩ := hk _ _ hr hx hi0 (by simp)
    exact .rng q1 q2 q3 h1 h2
  · obtain ⟨q1, q2, q3⟩ := hk _ _ ha hx ho (by rw [hc]; simp)
    exact .exc q1 q2 q3 hc
  · have hu : _ < n := of_decide_eq_true u
    rcases hr _ _ hu e with q | q
    · exact .refD q
    · exact .refD q
  · have hu : _ < n := of_decide_eq_true u
    rcases hr _ _ hu e with q | q
    · exact .ref q
    · exact .refD q
  · have u' := Bool.and_eq_true_iff.mp u
    exact .cons (i1 u'.1) (i2 u'.2)
theorem VRs.gen {c : Cx} {as as' : Adr} {X X' : List Addr} {h h' : HP} (n : Nat) (hk : ∀ a o, some a ∉ as → a ∉ X → h.get? a = some o → o.cls ≠ .type "frame" → some a ∉ as' ∧ a ∉ X' ∧ h'.get? a = some o)
    (hr : ∀ i x, i < n → as[i]? = some x → as'[i]? = some x ∨ as'[i]? = some none) {vs : List V} {cs : List Value} (r : VRs c as X h vs cs) (u : V.unders n vs = true) : VRs c as' X' h' vs cs :=
  VRs.all (P := fun _ _ => True) r (fun vs cs => V.unders n vs = true → VRs c as' X' h' vs cs) (fun _ => .nil) (fun _ _ _ _ a ih u => have u' := Bool.and_eq_true_iff.mp u; .cons (VR.gen n hk hr a u'.1) (ih u'.2)) u

theorem VR.keepX {c : Cx} {as as' : Adr} {X : List Addr} {h h' : HP} (k : KeptX as X h h') (x : Ext as h as') {v : V} {y : Value} (r : VR c as X h v y) : VR c as' X h' v y :=
  VR.gen as.length (fun _ _ ha hx ho hc => ⟨x.out ho ha, hx, k.get ho ha hx hc⟩) (fun i z _ e => x.old i z e) r r.under
theorem VRs.keepX {c : Cx} {as as' : Adr} {X : List Addr} {h h' : HP} (k : KeptX as X h h') (x : Ext as h as') {v : List V} {y : List Value} (r : VRs c as X h v y) : VRs c as' X h' v y :=
  VRs.gen as.length (fun _ _ ha hx ho hc => ⟨x.out ho ha, hx, k.get ho ha hx hc⟩) (fun i z _ e => x.old i z e) r r.under
theorem VR.keep {c : Cx} {as as' : Adr} {X : List Addr} {h h' : HP} (k : Kept as h h') (x : Ext as h as') {v : V} {y : Value} (z : VR c as X h v y) : VR c as' X h' v y := z.keepX (k.x X) x
theorem VRs.keep {c : Cx} {as as' : Adr} {X : List Addr} {h h' : HP} (k : Kept as h h') (x : Ext as h as') {v : List V} {y : List Value} (z : VRs c as X h v y) : VRs c as' X h' v y := z.keepX (k.x X) x
/-- other frames: what is there lies in none that is made later; fewer frames -/
theorem VR.frames {c : Cx} {as : Adr} {X Y : List Addr} {h : HP} (hy : ∀ b o, h.get? b = some o → b ∉ X → b ∉ Y) {v : V} {y : Value} (r : VR c as X h v y) : VR c as Y h v y :=
  VR.gen as.length (fun _ _ ha hx ho _ => ⟨ha, hy _ _ ho hx, ho⟩) (fun _ _ _ e => .inl e) r r.under
theorem VRs.frames {c : Cx} {as : Adr} {X Y : List Addr} {h : HP} (hy : ∀ b o, h.get? b = some o → b ∉ X → b ∉ Y) {v : List V} {y : List Value} (r : VRs c as X h v y) : VRs c as Y h v y :=
  VRs.gen as.length (fun _ _ ha hx ho _ => ⟨ha, hy _ _ ho hx, ho⟩) (fun _ _ _ e => .inl e) r r.under

/-- an abstract object lies at an address -/
noncomputable def OR (c : Cx) (as : Adr) (X : List Addr) (h : HP) (a : Addr) : O → Prop
  | .list vs => vs.length ≤ bnd ∧ ∃ items, h.PlainList a items ∧ VRs c as X h vs items.toList
  | .dict ks vs => vs.length ≤ bnd ∧ (a == sysModules) = false ∧ ∃ cs, h.DictOf c.kd a ((ks.map toS).zip cs) ∧ ks.length = cs.length ∧ VRs c as X h vs cs
  | .inst k d => ∃ dx, as[d]? = some (some dx) ∧ h.get? a = some { cls := .ref (c.ccls k), dict := some dx, data := .plain }
  | .dead => False

structure SR (c : Cx) (as : Adr) (X : List Addr) (H : AH) (s : Shared) : Prop where
  len : as.length = H.length
  stays : c.base.StaysIn s.heap
  gens : s.gens = #[]
  os : s.os = c.os
  objs : ∀ (i : Nat) (a : Addr), as[i]? = some (some a) → c.base.get? a = none ∧ a ∉ X ∧ ∃ o, H[i]? = some o ∧ OR c as X s.heap a o
  inj : ∀ (i j : Nat) (a : Addr), as[i]? = some (some a) → as[j]? = some (some a) → i = j
  dead : ∀ i : Nat, as[i]? = some none → H[i]? = some .dead
  xs : ∀ b ∈ X, ∃ o, s.heap.get? b = some o

theorem OR.keepX {c : Cx} {as : Adr} {X : List Addr} {h h' : HP} {a : Addr} {o : O} (k : KeptX as X h h') (ha : ∀ ob, h.get? a = some ob → ob.cls ≠ .type "frame" → h'.get? a = some ob) : OR c as X h a o → OR c as X h' a o := by
  intro x
  cases o with
  | list vs =>
    obtain ⟨hb, items, ⟨n, e⟩, r⟩ := x
    exact ⟨hb, items, ⟨n, ha _ e (by simp)⟩, r.keepX k (.refl ..)⟩
  | dict ks vs =>
    obtain ⟨hb, hsm, cs, hd, hl, r⟩ := x
    exact ⟨hb, hsm, cs, DictOf.same hd ha, hl, r.keepX k (.refl ..)⟩
  | inst k d =>
    obtain ⟨dx, e1, e2⟩ := x
    exact ⟨dx, e1, ha _ e2 (by simp)⟩
  | dead => exact x.elim
theorem OR.here {c : Cx} {as : Adr} {X : List Addr} {h : HP} {a : Addr} {o : O} (x : OR c as X h a o) : ∃ ob, h.get? a = some ob ∧ ob.cls ≠ .type "frame" := by
  cases o with
  | list vs => obtain ⟨_, _, ⟨n, e⟩, _⟩ := x; exact ⟨_, e, by simp⟩
  | dict ks vs => obtain ⟨_, _, _, ⟨o, _, _, e, hx, _⟩, _⟩ := x; exact ⟨_, e, by rw [hx.1]; simp⟩
  | inst k d => obtain ⟨_, _, e⟩ := x; exact ⟨_, e, by simp⟩
  | dead => exact x.elim
theorem OR.frames {c : Cx} {as : Adr} {X Y : List Addr} {h : HP} {a : Addr} {o : O} (hy : ∀ b o, h.get? b = some o → b ∉ X → b ∉ Y) : OR c as X h a o → OR c as Y h a o := by
  intro x
  cases o with
  | list vs => obtain ⟨hb, items, hp, r⟩ := x; exact ⟨hb, items, hp, r.frames hy⟩
  | dict ks vs => obtain ⟨hb, hsm, cs, hd, hl, r⟩ := x; exact ⟨hb, hsm, cs, hd, hl, r.frames hy⟩
  | inst k d => exact x
  | dead => exact x.elim

/-- a heap that has all that was, and maybe more -/
noncomputable def Grown (h h' : HP) : Prop := ∀ b o, h.get? b = some o → h'.get? b = some o
theorem Grown.refl (h : HP) : Grown h h := fun _ _ e => e
theorem Grown.push (h : HP) (o : Obj) : Grown h (h.push o) := fun _ _ e => Heap.get?_push_of_some _ e
theorem Grown.trans {h h' h'' : HP} (a : Grown h h') (b : Grown h' h'') : Grown h h'' := fun x o e => b x o (a x o e)
theorem Grown.kept {h h' : HP} (g : Grown h h') (as : Adr) : Kept as h h' := fun b o e _ => ⟨o, g b o e, .inl rfl⟩
/-- nothing of the abstract heap changes: the frames may -/
theorem SR.keepX {c : Cx} {as : Adr} {X : List Addr} {H : AH} {s s' : Shared} (x : SR c as X H s) (k : KeptX [] X s.heap s'.heap) (hst : c.base.StaysIn s'.heap) (hx : ∀ b ∈ X, ∃ o, s'.heap.get? b = some o) (hg : s'.gens = s.gens) (ho : s'.os = s.os) : SR c as X H s' where
  len := x.len
  stays := hst
  gens := hg.trans x.gens
  os := ho.trans x.os
  objs := fun i a e => by
    obtain ⟨h1, h2, o, h3, h4⟩ := x.objs i a e
    exact ⟨h1, h2, o, h3, h4.keepX (fun b o e _ hb => k b o e (by simp) hb) fun ob e hc => k.get e (by simp) h2 hc⟩
  inj := x.inj
  dead := x.dead
  xs := hx
theorem SR.grow {c : Cx} {as : Adr} {X : List Addr} {H : AH} {s s' : Shared} (x : SR c as X H s) (g : Grown s.heap s'.heap) (hg : s'.gens = s.gens) (ho : s'.os = s.os) : SR c as X H s' :=
  x.keepX ((g.kept []).x X) (fun b o e => g b o (x.stays b o e)) (fun b hb => let ⟨o, e⟩ := x.xs b hb; ⟨o, g b o e⟩) hg ho
theorem SR.frames {c : Cx} {as : Adr} {X Y : List Addr} {H : AH} {s : Shared} (x : SR c as X H s) (hy : ∀ b o, s.heap.get? b = some o → b ∉ X → b ∉ Y) (hx : ∀ b ∈ Y, ∃ o, s.heap.get? b = some o) : SR c as Y H s where
  len := x.len
  stays := x.stays
  gens := x.gens
  os := x.os
  objs := fun i a e => by
    obtain ⟨h1, h2, o, h3, h4⟩ := x.objs i a e
    obtain ⟨ob, e', _⟩ := h4.here
    exact ⟨h1, hy _ _ e' h2, o, h3, OR.frames hy h4⟩
  inj := x.inj
  dead := x.dead
  xs := hx

/-- what an expression's evaluation hands on -/
noncomputable def Res (c : Cx) (as : Adr) (X : List Addr) (h : HP) (Q : QE) (x : Value) (s' : Shared) : Prop :=
  ∃ v H' as', Ext as h as' ∧ SR c as' X H' s' ∧ Kept as h s'.heap ∧ VR c as' X s'.heap v x ∧ Q v H'

theorem Res.grow {c : Cx} {as : Adr} {X : List Addr} {H : AH} {s s' : Shared} {Q : QE} {v : V} {x : Value} (S : SR c as X H s) (g : Grown s.heap s'.heap) (hg : s'.gens = s.gens) (ho : s'.os = s.os) (hv : VR c as X s'.heap v x) (q : Q v H) : Res c as X s.heap Q x s' :=
  ⟨v, H, as, .refl .., S.grow g hg ho, g.kept as, hv, q⟩
theorem Res.now {c : Cx} {as : Adr} {X : List Addr} {H : AH} {s : Shared} {Q : QE} {v : V} {x : Value} {tk : Nat} (S : SR c as X H s) (hv : VR c as X s.heap v x) (q : Q v H) : Res c as X s.heap Q x { s with toks := tk } :=
  Res.grow (s' := { s with toks := tk }) S (.refl _) rfl rfl hv q
theorem VR.grow {c : Cx} {as : Adr} {X : List Addr} {h h' : HP} {v : V} {x : Value} (g : Grown h h') (k : VR c as X h v x) : VR c as X h' v x := k.keep (g.kept as) (.refl ..)
theorem VRs.grow {c : Cx} {as : Adr} {X : List Addr} {h h' : HP} {v : List V} {x : List Value} (g : Grown h h') (k : VRs c as X h v x) : VRs c as X h' v x := k.keep (g.kept as) (.refl ..)

end Mine

end
noncomputable section
namespace Mine
open PySem PySem.Calls PyProof.Rows

section
variable {c : Cx} {A : Around} {E : Value → Shared → Prop} {s : Shared} {as : Adr} {X : List Addr} {H : AH} {Q : QE}

theorem sizeOf'_le : sizeOf' ≤ sizeLine := by rw [sizeLine_eq]; decide
theorem sizeOf'_bnd : sizeOf' + 5 ≤ bnd := by decide
theorem bnd_lt : (bnd : Int) < 2 ^ 62 := by decide

theorem natAbs_small {i : Int} (h : smallInt i = true) : i.natAbs < 2 ^ 41 := by
  simp only [smallInt, decide_eq_true_eq] at h
  omega
theorem log2_small {i : Int} (h : i.natAbs < 2 ^ 41) : i.natAbs.log2 < 41 := by
  by_cases h0 : i.natAbs = 0
  · rw [h0]; decide
  · exact (Nat.log2_lt h0).mpr h
theorem log2_div {i : Int} (h : 0 < i ∧ i ≤ 10 ^ 12) : i.natAbs.log2 < 9000 := by
  have := log2_small (i := i) (by omega)
  omega
theorem bits_small {i : Int} (h : smallInt i = true) : Builtin.Int.intBits i ≤ 64 := by
  have := log2_small (natAbs_small h)
  unfold Builtin.Int.intBits
  split <;> omega

theorem fresh_out (S : SR c as X H s) : some s.heap.objs.size ∉ as := fun q => by
  obtain ⟨i, hi⟩ := List.getElem?_of_mem q
  obtain ⟨_, _, o, _, ho⟩ := S.objs i _ hi
  obtain ⟨ob, e, _⟩ := OR.here ho
  exact absurd (Heap.lt_size e) (Nat.lt_irrefl _)
theorem fresh_x (S : SR c as X H s) : s.heap.objs.size ∉ X := fun q => by
  obtain ⟨o, e⟩ := S.xs _ q
  exact absurd (Heap.lt_size e) (Nat.lt_irrefl _)

/-- a new tuple -/
theorem res_tuple {items : Array Value} {vs : List V} {n : Nat} (S : SR c as X H s) (hv : VRs c as X s.heap vs items.toList) (hb : vs.length ≤ bnd) (q : Q (.tup vs) H) :
    Res c as X s.heap Q (.ref s.heap.objs.size) { s with heap := s.heap.push { cls := .type "tuple", data := .seq items n } } :=
  Res.grow (s' := { s with heap := s.heap.push { cls := .type "tuple", data := .seq items n } }) S (.push _ _) rfl rfl (.tup (fresh_out S) (fresh_x S) (Heap.get?_push_size _ rfl) (hv.grow (.push _ _)) hb) q
theorem res_list {items : Array Value} {vs : List V} {n : Nat} (S : SR c as X H s) (hv : VRs c as X s.heap vs items.toList) (hb : vs.length ≤ bnd) (q : Q (.lst vs) H) :
    Res c as X s.heap Q (.ref s.heap.objs.size) { s with heap := s.heap.push { cls := .type "list", data := .seq items n } } :=
  Res.grow (s' := { s with heap := s.heap.push { cls := .type "list", data := .seq items n } }) S (.push _ _) rfl rfl (.lst (fresh_out S) (fresh_x S) ⟨n, Heap.get?_push_size _ rfl⟩ (hv.grow (.push _ _)) hb) q

/-- a list's contents in the heap -/
theorem view_at {v : V} {x : Value} {vs : List V} (S : SR c as X H s) (hv : VR c as X s.heap v x) (e : view H v = some vs) : ∃ a items, x = .ref a ∧ s.heap.PlainList a items ∧ VRs c as X s.heap vs items.toList ∧ vs.length ≤ bnd := by
  cases hv with
  | lst ha _ hp r hb => simp only [view, Option.some.injEq] at e; subst e; exact ⟨_, _, rfl, hp, r, hb⟩
  | ref hi =>
    obtain ⟨_, _, o, ho, hr⟩ := S.objs _ _ hi
    simp only [view, ho] at e
    cases o with
    | list ws =>
      simp only [Option.some.injEq] at e; subst e
      obtain ⟨hb, items, hp, r⟩ := hr
      exact ⟨_, items, rfl, hp, r, hb⟩
    | _ => cases e
  | refD hi =>
    simp only [view, S.dead _ hi] at e
    cases e
  | _ => simp [view] at e

theorem dview_at {v : V} {x : Value} {d : List (List Char) × List V} (S : SR c as X H s) (hv : VR c as X s.heap v x) (e : dview H v = some d) : ∃ a cs, x = .ref a ∧ (a == sysModules) = false ∧ s.heap.DictOf c.kd a ((d.1.map toS).zip cs) ∧ d.1.length = cs.length ∧ VRs c as X s.heap d.2 cs ∧ d.2.length ≤ bnd := by
  cases hv with
  | dct ha _ hsm hp hl r hb => simp only [dview, Option.some.injEq] at e; subst e; exact ⟨_, _, rfl, hsm, hp, hl, r, hb⟩
  | ref hi =>
    obtain ⟨_, _, o, ho, hr⟩ := S.objs _ _ hi
    simp only [dview, ho] at e
    cases o with
    | dict ks ws =>
      simp only [Option.some.injEq] at e; subst e
      obtain ⟨hb, hsm, cs, hp, hl, r⟩ := hr
      exact ⟨_, cs, rfl, hsm, hp, hl, r, hb⟩
    | _ => cases e
  | refD hi =>
    simp only [dview, S.dead _ hi] at e
    cases e
  | _ => simp [dview] at e

theorem toS_append (a b : List Char) : toS a ++ toS b = toS (a ++ b) := by
  show Str.append _ _ = _
  simp [toS, Str.append]
theorem toS_length (a : List Char) : (toS a).length = a.length := by simp [toS, Str.length]

theorem p_add_list {x y : V} {cx cy : Value} {xs ys : List V} (S : SR c as X H s) (hx : VR c as X s.heap x cx) (hy : VR c as X s.heap y cy) (ex : view H x = some xs) (ey : view H y = some ys)
    (hz : xs.length + ys.length ≤ sizeOf') (q : Q (.lst (xs ++ ys)) H) : wpAny c.M A (binaryOp .Add cx cy) (Res c as X s.heap Q) E s := by
  obtain ⟨a, its, rfl, ⟨n, ha⟩, ra, _⟩ := view_at S hx ex
  obtain ⟨b, its', rfl, ⟨n', hb⟩, rb, _⟩ := view_at S hy ey
  have l1 := ra.length
  have l2 := rb.length
  refine P.add_list ha hb (res_list S ?_ (by rw [List.length_append]; have := sizeOf'_bnd; omega) q) ?_
  · rw [Array.toList_append]; exact ra.append rb
  · have := sizeOf'_le
    simp only [Array.length_toList] at l1 l2
    omega
theorem p_add_tup {cx cy : Value} {xs ys : List V} (S : SR c as X H s) (hx : VR c as X s.heap (.tup xs) cx) (hy : VR c as X s.heap (.tup ys) cy)
    (hz : xs.length + ys.length ≤ sizeOf') (q : Q (.tup (xs ++ ys)) H) : wpAny c.M A (binaryOp .Add cx cy) (Res c as X s.heap Q) E s := by
  cases hx with
  | tup ha1 hax ha ra hab =>
    cases hy with
    | tup hb1 hbx hb rb hbb =>
      have l1 := ra.length
      have l2 := rb.length
      rename_i a its n b its' n'
      by_cases e1 : its.isEmpty = true
      · have : its = #[] := by simpa using e1
        subst this
        cases ra
        refine concat_meets ⟨_, ha, rfl⟩ ⟨_, hb, rfl⟩ noFill_tuple_add seq_tuple_add F.slot_tuple_add F.entry_tuple_add (F.args_tuple_add_2 _ _) (AutoSeq1.tuple___add___tuple_tuple_0 _ _ _ _ _ _ e1) ⟨ha, hb, ?_⟩
        exact Res.now (tk := s.toks) S (.tup hb1 hbx hb rb hbb) q
      · by_cases e2 : its'.isEmpty = true
        · have : its' = #[] := by simpa using e2
          subst this
          cases rb
          refine concat_meets ⟨_, ha, rfl⟩ ⟨_, hb, rfl⟩ noFill_tuple_add seq_tuple_add F.slot_tuple_add F.entry_tuple_add (F.args_tuple_add_2 _ _) (AutoSeq1.tuple___add___tuple_tuple_1 _ _ _ _ _ _ e1 e2) ⟨ha, hb, ?_⟩
          exact Res.now (tk := s.toks) S (.tup ha1 hax ha (by simpa using ra) (by simpa using hab)) (by simpa using q)
        · refine P.add_tuple ha hb e1 e2 (res_tuple S ?_ (by rw [List.length_append]; have := sizeOf'_bnd; omega) q) ?_
          · rw [Array.toList_append]; exact ra.append rb
          · have := sizeOf'_le
            simp only [Array.length_toList] at l1 l2
            omega

noncomputable def opOf : Bop → Operator
  | .add => .Add | .sub => .Sub | .mul => .Mult | .fdiv => .FloorDiv | .mod => .Mod | .pow => .Pow
theorem int2_some {f : Int → Int → Option Int} {x y r : V} (e : int2 f x y = some r) : ∃ a b z, x = .int a ∧ y = .int b ∧ f a b = some z ∧ r = .int z := by
  cases x <;> first | cases e | skip
  cases y <;> first | cases e | skip
  obtain ⟨z, h1, rfl⟩ := Option.map_eq_some_iff.mp e
  exact ⟨_, _, z, rfl, rfl, h1, rfl⟩
theorem addL_some {x y r : V} (e : addL H x y = some r) : ∃ xs ys, view H x = some xs ∧ view H y = some ys ∧ xs.length + ys.length ≤ sizeOf' ∧ r = .lst (xs ++ ys) := by
  unfold addL at e
  split at e
  · split at e
    · rename_i h1 h2 h; cases e; exact ⟨_, _, h1, h2, h, rfl⟩
    · cases e
  · cases e
theorem addV_some {x y r : V} (e : addV H x y = some r) : (∃ a b, x = .int a ∧ y = .int b ∧ r = .int (a + b)) ∨ (∃ a b, x = .str a ∧ y = .str b ∧ a.length + b.length ≤ sizeOf' ∧ r = .str (a ++ b)) ∨
    (∃ a b, x = .tup a ∧ y = .tup b ∧ a.length + b.length ≤ sizeOf' ∧ r = .tup (a ++ b)) ∨ ∃ xs ys, view H x = some xs ∧ view H y = some ys ∧ xs.length + ys.length ≤ sizeOf' ∧ r = .lst (xs ++ ys) := by
  cases x with
  | int i =>
    obtain ⟨a, b, z, h1, rfl, h3, rfl⟩ := int2_some e
    cases h1; cases h3
    exact .inl ⟨_, _, rfl, rfl, rfl⟩
  | str a =>
    cases y with
    | str b =>
      have e' : (if a.length + b.length ≤ sizeOf' then some (V.str (a ++ b)) else none) = some r := e
      split at e'
      · rename_i h; cases e'; exact .inr (.inl ⟨_, _, rfl, rfl, h, rfl⟩)
      · cases e'
    | _ => cases e
  | tup a =>
    cases y with
    | tup b =>
      have e' : (if a.length + b.length ≤ sizeOf' then some (V.tup (a ++ b)) else none) = some r := e
      split at e'
      · rename_i h; cases e'; exact .inr (.inr (.inl ⟨_, _, rfl, rfl, h, rfl⟩))
      · cases e'
    | _ => cases e
  | _ => exact .inr (.inr (.inr (addL_some e)))
theorem p_binop {o : Bop} {op : Operator} {x y r : V} {cx cy : Value} (S : SR c as X H s) (hx : VR c as X s.heap x cx) (hy : VR c as X s.heap y cy)
    (ho : op = opOf o)
    (e : binop o x y H = some r) (q : Q r H) : wpAny c.M A (binaryOp op cx cy) (Res c as X s.heap Q) E s := by
  subst ho
  cases o with
  | add =>
    rcases addV_some e with ⟨a, b, rfl, rfl, rfl⟩ | ⟨a, b, rfl, rfl, h, rfl⟩ | ⟨a, b, rfl, rfl, h, rfl⟩ | ⟨xs, ys, h1, h2, h, rfl⟩
    · cases hx; cases hy
      exact add_int (Res.now S (.int _ _) q)
    · cases hx; cases hy
      refine add_str (fun t' tk => ?_) ?_
      · rw [toS_append]; exact Res.now S (.str _ _ (by rw [List.length_append]; have := sizeOf'_bnd; omega)) q
      · rw [toS_length, toS_length]; have := sizeOf'_le; omega
    · exact p_add_tup S hx hy h q
    · exact p_add_list S hx hy h1 h2 h q
  | sub =>
    obtain ⟨a, b, z, rfl, rfl, h3, rfl⟩ := int2_some e
    cases h3; cases hx; cases hy
    exact sub_int (Res.now S (.int _ _) q)
  | mul =>
    have hmI : int2 mulI x y = some r → wpAny c.M A (binaryOp .Mult cx cy) (Res c as X s.heap Q) E s := fun e => by
      obtain ⟨a, b, z, rfl, rfl, h3, rfl⟩ := int2_some e
      unfold mulI at h3
      split at h3
      · rename_i h
        cases h3; cases hx; cases hy
        exact PyProof.Rows.mul_int (Res.now S (.int _ _) q) (.of_left (bits_small (by simp only [Bool.and_eq_true] at h; exact h.1)))
      · cases h3
    exact hmI e
  | fdiv =>
    obtain ⟨a, b, z, rfl, rfl, h3, rfl⟩ := int2_some e
    unfold divI at h3
    split at h3
    · rename_i h
      cases h3; cases hx; cases hy
      refine PyProof.Rows.floordiv_int (by omega) ?_ (.inl (PyProof.noPylong_of_log2 (log2_div h)))
      rw [Int.fdiv_eq_ediv_of_nonneg _ (by omega)]; exact Res.now S (.int _ _) q
    · cases h3
  | mod =>
    obtain ⟨a, b, z, rfl, rfl, h3, rfl⟩ := int2_some e
    unfold modI at h3
    split at h3
    · cases h3; cases hx; cases hy
      refine PyProof.Rows.mod_int (by omega) ?_
      rw [Int.fmod_eq_emod_of_nonneg _ (by omega)]; exact Res.now S (.int _ _) q
    · cases h3
  | pow =>
    obtain ⟨a, b, z, rfl, rfl, h3, rfl⟩ := int2_some e
    unfold powI at h3
    split at h3
    · rename_i h
      cases h3; cases hx; cases hy
      obtain ⟨rfl, h1, h2⟩ := h
      exact pow_int_small h1 (by omega) (by decide) (Res.now S (.int _ _) q)
    · cases h3

mutual
noncomputable def toP : V → PyData
  | .none => .none
  | .bool b => .bool b
  | .int i => .int i
  | .str x => .str (toS x)
  | .tup vs => .tuple (toPs vs)
  | .lst vs => .list (toPs vs)
  | .dct _ _ | .rng _ _ | .ref _ | .exc _ => .none
noncomputable def toPs : List V → List PyData
  | [] => []
  | v :: vs => toP v :: toPs vs
end
theorem strOk_toS (s : List Char) : PyData.strOk (toS s) = true := by
  simp only [PyData.strOk, toS, Array.all_eq_true]
  intro i hi
  simp only [List.size_toArray, List.length_map] at hi
  have h : ((s.map Char.toNat).toArray)[i] = (s[i]).toNat := by simp
  have hv := (s[i]).valid
  simp only [UInt32.isValidChar, Nat.isValidChar] at hv
  simp only [decide_eq_true_eq]
  have : ((s.map Char.toNat).toArray)[i] < 0x110000 := by
    rw [h]
    show (s[i]).val.toNat < _
    omega
  simpa using this
mutual
theorem toP_ok : ∀ v : V, v.data = true → (toP v).canLay0 = true ∧ (toP v).depth = v.depth
  | .none, _ => by simp [toP, PyData.canLay0, PyData.depth, V.depth]
  | .bool _, _ => by simp [toP, PyData.canLay0, PyData.depth, V.depth]
  | .int _, _ => by simp [toP, PyData.canLay0, PyData.depth, V.depth]
  | .str s, _ => by simp [toP, PyData.canLay0, PyData.depth, V.depth, strOk_toS]
  | .tup vs, h => by
    have := toPs_ok vs (by simpa [V.data] using h)
    simp [toP, PyData.canLay0, PyData.depth, V.depth, this.1, this.2]
  | .lst vs, h => by
    have := toPs_ok vs (by simpa [V.data] using h)
    simp [toP, PyData.canLay0, PyData.depth, V.depth, this.1, this.2]
  | .dct _ _, h => by simp [V.data] at h
  | .rng _ _, h => by simp [V.data] at h
  | .ref _, h => by simp [V.data] at h
  | .exc _, h => by simp [V.data] at h
theorem toPs_ok : ∀ vs : List V, V.datas vs = true → PyData.canLayAll0 (toPs vs) = true ∧ PyData.depthAll (toPs vs) = V.depths vs
  | [], _ => by simp [toPs, PyData.canLayAll0, PyData.depthAll, V.depths]
  | v :: vs, h => by
    have h' : v.data = true ∧ V.datas vs = true := by simpa [V.datas] using h
    have a := toP_ok v h'.1
    have b := toPs_ok vs h'.2
    simp [toPs, PyData.canLayAll0, PyData.depthAll, V.depths, a.1, a.2, b.1, b.2]
end
mutual
theorem reads_of {c : Cx} {as : Adr} {X : List Addr} {h : HP} : ∀ {v : V} {x : Value}, VR c as X h v x → v.data = true → ∃ l, Reads h x (toP v) l
  | _, _, .none, _ => ⟨_, .none⟩
  | _, _, .bool b, _ => ⟨_, .bool b⟩
  | _, _, .int i t, _ => ⟨_, .int i t⟩
  | _, _, .str s t _, _ => ⟨_, .str _ t⟩
  | _, _, .tup _ _ ho r _, hd => by
    obtain ⟨l, q⟩ := reads_all r (by simpa [V.data] using hd)
    exact ⟨l, by rw [toP]; exact .tuple ho rfl rfl q⟩
  | _, _, .lst _ _ ⟨n, ho⟩ r _, hd => by
    obtain ⟨l, q⟩ := reads_all r (by simpa [V.data] using hd)
    exact ⟨_, by rw [toP]; exact .list ho rfl rfl q⟩
  | _, _, .dct _ _ _ _ _ _ _, hd => by simp [V.data] at hd
  | _, _, .rng _ _ _ _ _, hd => by simp [V.data] at hd
  | _, _, .exc _ _ _ _, hd => by simp [V.data] at hd
  | _, _, .refD _, hd => by simp [V.data] at hd
  | _, _, .ref _, hd => by simp [V.data] at hd
theorem reads_all {c : Cx} {as : Adr} {X : List Addr} {h : HP} : ∀ {vs : List V} {xs : List Value}, VRs c as X h vs xs → V.datas vs = true → ∃ l, ReadsAll h xs (toPs vs) l
  | _, _, .nil, _ => ⟨_, .nil⟩
  | _, _, .cons a r, hd => by
    have h' := (Bool.and_eq_true_iff.mp (by simpa only [V.datas] using hd))
    obtain ⟨l, q⟩ := reads_of a h'.1
    obtain ⟨l', q'⟩ := reads_all r h'.2
    exact ⟨_, by rw [toPs]; exact .cons q q'⟩
end
theorem toS_beq (a b : List Char) : (toS a == toS b) = (a == b) := by
  by_cases h : a = b
  · subst h; simp
  · have : toS a ≠ toS b := fun e => h (toS_inj e)
    rw [beq_eq_false_iff_ne.mpr h, beq_eq_false_iff_ne.mpr this]
mutual
theorem eqv_toP : ∀ v w : V, v.data = true → w.data = true → PyData.eqv (toP v) (toP w) = eqV v w
  | .lst vs, w, hv, hw => by
    cases w with
    | lst ws => simp only [toP, PyData.eqv, eqV]; exact eqvs_toP vs ws (by simpa [V.data] using hv) (by simpa [V.data] using hw)
    | _ => simp_all [toP, PyData.eqv, eqV, V.data]
  | .tup vs, w, hv, hw => by
    cases w with
    | tup ws => simp only [toP, PyData.eqv, eqV]; exact eqvs_toP vs ws (by simpa [V.data] using hv) (by simpa [V.data] using hw)
    | _ => simp_all [toP, PyData.eqv, eqV, V.data]
  | .none, w, _, hw => by cases w <;> simp_all [toP, PyData.eqv, eqV, V.data]
  | .bool _, w, _, hw => by cases w <;> simp_all [toP, PyData.eqv, eqV, V.data]
  | .int _, w, _, hw => by cases w <;> simp_all [toP, PyData.eqv, eqV, V.data]
  | .str _, w, _, hw => by cases w <;> simp_all [toP, PyData.eqv, eqV, V.data, toS_beq]
  | .dct _ _, _, h, _ => by simp [V.data] at h
  | .rng _ _, _, h, _ => by simp [V.data] at h
  | .ref _, _, h, _ => by simp [V.data] at h
  | .exc _, _, h, _ => by simp [V.data] at h
theorem eqvs_toP : ∀ vs ws : List V, V.datas vs = true → V.datas ws = true → PyData.eqvAll (toPs vs) (toPs ws) = eqVs vs ws
  | [], [], _, _ => by simp [toPs, PyData.eqvAll, eqVs]
  | [], _ :: _, _, _ => by simp [toPs, PyData.eqvAll, eqVs]
  | _ :: _, [], _, _ => by simp [toPs, PyData.eqvAll, eqVs]
  | v :: vs, w :: ws, hv, hw => by
    have h1 := (Bool.and_eq_true_iff.mp (by simpa only [V.datas] using hv))
    have h2 := (Bool.and_eq_true_iff.mp (by simpa only [V.datas] using hw))
    simp only [toPs, PyData.eqvAll, eqVs, eqv_toP v w h1.1 h2.1, eqvs_toP vs ws h1.2 h2.2]
end
theorem any_toP (w : V) (hw : w.data = true) : ∀ vs : List V, V.datas vs = true → ((toPs vs).any fun y => PyData.eqv y (toP w)) = vs.any fun y => eqV y w
  | [], _ => rfl
  | v :: vs, h => by
    have h1 := (Bool.and_eq_true_iff.mp (by simpa only [V.datas] using h))
    simp only [toPs, List.any_cons, eqv_toP v w h1.1 hw, any_toP w hw vs h1.2]

theorem rd_at {v v' : V} {x : Value} (S : SR c as X H s) (hv : VR c as X s.heap v x) (e : rd H v = some v') : v'.data = true ∧ v'.depth ≤ 51 ∧ ∃ l, Reads s.heap x (toP v') l := by
  unfold rd at e
  split at e
  · split at e
    · split at e
      · rename_i i vs hvs hd
        cases e
        simp only [Bool.and_eq_true, decide_eq_true_eq] at hd
        obtain ⟨a, items, rfl, ⟨n, ho⟩, r, _⟩ := view_at S hv hvs
        refine ⟨by simpa [V.data] using hd.1, by rw [V.depth]; omega, ?_⟩
        obtain ⟨l, q⟩ := reads_all r hd.1
        exact ⟨_, by rw [toP]; exact .list ho rfl rfl q⟩
      · cases e
    · cases e
  · split at e
    · rename_i hd
      cases e
      simp only [Bool.and_eq_true, decide_eq_true_eq] at hd
      exact ⟨hd.1, by omega, reads_of hv hd.1⟩
    · cases e

theorem p_eq {x y x' y' : V} {cx cy : Value} (S : SR c as X H s) (hx : VR c as X s.heap x cx) (hy : VR c as X s.heap y cy) (ex : rd H x = some x') (ey : rd H y = some y') (hu : A.units + 64 < cLine)
    (q : Q (.bool (eqV x' y')) H) : wpAny c.M A (compareOp .Eq cx cy) (Res c as X s.heap Q) E s := by
  obtain ⟨d1, d2, l1, r1⟩ := rd_at S hx ex
  obtain ⟨d3, d4, l2, r2⟩ := rd_at S hy ey
  have o1 := toP_ok _ d1
  have o2 := toP_ok _ d3
  refine eq_dataH r1 r2 ?_ ?_ hu ?_
  · unfold SeqAt.shaped; rw [o1.1, Bool.true_and, o1.2]; exact decide_eq_true (by omega)
  · unfold SeqAt.shaped; rw [o2.1, Bool.true_and, o2.2]; exact decide_eq_true (by omega)
  · rw [eqv_toP _ _ d1 d3]; exact Res.now (tk := s.toks) S (.bool _) q
theorem p_ne {x y x' y' : V} {cx cy : Value} (S : SR c as X H s) (hx : VR c as X s.heap x cx) (hy : VR c as X s.heap y cy) (ex : rd H x = some x') (ey : rd H y = some y') (hu : A.units + 64 < cLine)
    (q : Q (.bool (!eqV x' y')) H) : wpAny c.M A (compareOp .NotEq cx cy) (Res c as X s.heap Q) E s := by
  obtain ⟨d1, d2, l1, r1⟩ := rd_at S hx ex
  obtain ⟨d3, d4, l2, r2⟩ := rd_at S hy ey
  have o1 := toP_ok _ d1
  have o2 := toP_ok _ d3
  refine ne_dataH r1 r2 ?_ ?_ hu ?_
  · unfold SeqAt.shaped; rw [o1.1, Bool.true_and, o1.2]; exact decide_eq_true (by omega)
  · unfold SeqAt.shaped; rw [o2.1, Bool.true_and, o2.2]; exact decide_eq_true (by omega)
  · rw [eqv_toP _ _ d1 d3]; exact Res.now (tk := s.toks) S (.bool _) q

theorem found_char (s : List Char) (ch : Char) : (!(Builtin.Str.occurrences (toS s) (toS [ch]) 0 (toS s).length 1).isEmpty) = s.contains ch := by
  have e : toS [ch] = ⟨#[ch.toNat]⟩ := rfl
  rw [e, StrLaws.found_one]
  rw [Bool.eq_iff_iff]
  simp only [decide_eq_true_eq, List.contains_iff_mem, toS, List.mem_map]
  constructor
  · rintro ⟨a, ha, e⟩
    rw [← Char.toNat_inj.mp e]; exact ha
  · intro h; exact ⟨ch, h, rfl⟩

theorem kd_is (k : List Char) (t : Tok) : c.kd.is (toS k) (.str (toS k) t) = true := strKind_is c.prog c.w (toS k) t

theorem valueAt_zip {h : HP} (k : List Char) : ∀ (ks : List (List Char)) (vs : List V) (cs : List Value), ks.length = cs.length → VRs c as X h vs cs →
    (match dget k ks vs with | some v => ∃ x, valueAt ((ks.map toS).zip cs) (toS k) = some x ∧ VR c as X h v x | none => k ∉ ks ∧ valueAt ((ks.map toS).zip cs) (toS k) = none)
  | [], _, _, _, _ => by simp [dget, valueAt]
  | k' :: ks, [], _, hl, r => by cases r; simp at hl
  | k' :: ks, v :: vs, [], hl, r => by cases r
  | k' :: ks, v :: vs, x :: cs, hl, r' => by
    obtain ⟨hx, r⟩ : VR c as X h v x ∧ VRs c as X h vs cs := by cases r' with | cons a b => exact ⟨a, b⟩
    have ih := valueAt_zip k ks vs cs (by simpa using hl) r
    by_cases e : k = k'
    · subst e
      simp [dget, valueAt, hx]
    · have e' : toS k' ≠ toS k := fun q => e (toS_inj q).symm
      have e2 : valueAt (((k' :: ks).map toS).zip (x :: cs)) (toS k) = valueAt ((ks.map toS).zip cs) (toS k) := by
        simp [valueAt, e']
      rw [e2]
      simp only [dget, if_neg e]
      cases hd : dget k ks vs with
      | some v' => rw [hd] at ih; exact ih
      | none => rw [hd] at ih; exact ⟨by simp only [List.mem_cons, not_or]; exact ⟨e, ih.1⟩, ih.2⟩
theorem dget_some_mem {k : List Char} : ∀ {ks : List (List Char)} {vs : List V} {v : V}, dget k ks vs = some v → k ∈ ks
  | k' :: ks, v' :: vs, v, e => by
    simp only [dget] at e
    split at e
    · rename_i h; rw [h]; exact .head _
    · exact .tail _ (dget_some_mem e)
  | [], _, _, e => by simp [dget] at e
  | _ :: _, [], _, e => by simp [dget] at e
theorem has_key {k : List Char} {ks : List (List Char)} {vs : List V} {cs : List Value} (hl : ks.length = cs.length) (r : VRs c as X s.heap vs cs) : (valueAt ((ks.map toS).zip cs) (toS k)).isSome = ks.contains k := by
  have h := valueAt_zip k ks vs cs hl r
  cases hd : dget k ks vs with
  | some v =>
    rw [hd] at h
    obtain ⟨x, e, _⟩ := h
    rw [e]
    exact (List.contains_iff_mem.mpr (dget_some_mem hd)).symm
  | none =>
    rw [hd] at h
    rw [h.2]
    have : ¬ ks.contains k = true := fun q => h.1 (List.contains_iff_mem.mp q)
    simpa using this

theorem p_in {x y : V} {cx cy : Value} {b : Bool} (S : SR c as X H s) (hx : VR c as X s.heap x cx) (hy : VR c as X s.heap y cy) (e : inV H x y = some b) (hu : A.units + 64 < cLine) :
    (Q (.bool b) H → wpAny c.M A (compareOp .In cx cy) (Res c as X s.heap Q) E s) ∧ (Q (.bool !b) H → wpAny c.M A (compareOp .NotIn cx cy) (Res c as X s.heap Q) E s) := by
  unfold inV at e
  split at e
  · split at e
    · cases e
      cases hx; cases hy
      refine ⟨fun q => in_str ?_, fun q => notIn_str ?_⟩
      · rw [found_char]; exact Res.now (tk := s.toks) S (.bool _) q
      · rw [found_char]; exact Res.now (tk := s.toks) S (.bool _) q
    · cases e
  · split at e
    · rename_i vs _ _ x' ex hd
      cases e
      simp only [Bool.and_eq_true, decide_eq_true_eq] at hd
      obtain ⟨d1, d2, l1, r1⟩ := rd_at S hx ex
      obtain ⟨l2, r2⟩ := reads_of hy (by simpa [V.data] using hd.1)
      rw [toP] at r2
      have o1 := toP_ok _ d1
      have o2 := toPs_ok _ hd.1
      have hm : A.units + 1 + min (PyData.depthAll (toPs vs)) (toP x').depth < cLine := by rw [o2.2]; omega
      refine ⟨fun q => SeqAt.in_tuple_reads r2 r1 o2.1 o1.1 hm ?_, fun q => SeqAt.notIn_tuple_reads r2 r1 o2.1 o1.1 hm ?_⟩
      · rw [any_toP _ d1 _ hd.1]; exact Res.now (tk := s.toks) S (.bool _) q
      · rw [any_toP _ d1 _ hd.1]; exact Res.now (tk := s.toks) S (.bool _) q
    · cases e
  · split at e
    · split at e
      · rename_i vs ev _ _ x' ex hd
        cases e
        simp only [Bool.and_eq_true, decide_eq_true_eq] at hd
        obtain ⟨d1, d2, l1, r1⟩ := rd_at S hx ex
        obtain ⟨a, items, rfl, ⟨n, ho⟩, r, _⟩ := view_at S hy ev
        obtain ⟨l2, r2⟩ := reads_all r hd.1
        have r3 : Reads s.heap (.ref a) (.list (toPs vs)) (a :: l2) := .list ho rfl rfl r2
        have o1 := toP_ok _ d1
        have o2 := toPs_ok _ hd.1
        have hm : A.units + 1 + min (PyData.depthAll (toPs vs)) (toP x').depth < cLine := by rw [o2.2]; omega
        refine ⟨fun q => SeqAt.in_list_reads r3 r1 o2.1 o1.1 hm ?_, fun q => SeqAt.notIn_list_reads r3 r1 o2.1 o1.1 hm ?_⟩
        · rw [any_toP _ d1 _ hd.1]; exact Res.now (tk := s.toks) S (.bool _) q
        · rw [any_toP _ d1 _ hd.1]; exact Res.now (tk := s.toks) S (.bool _) q
      · cases e
    · split at e
      · rename_i ks ws k hdv
        cases e
        cases hx
        obtain ⟨a, cs, rfl, hsm, hd, hl, r, _⟩ := dview_at S hy hdv
        refine ⟨fun q => wpAny_in_of (knd := c.kd) (kd_is _ _) hsm hd.mapOf ?_, fun q => wpAny_notIn_of (knd := c.kd) (kd_is _ _) hsm hd.mapOf ?_⟩
        · rw [has_key hl r]; exact Res.now S (.bool _) q
        · rw [has_key hl r]; exact Res.now S (.bool _) q
      · cases e

noncomputable def copOf : Cop → CmpOp
  | .eq => .Eq | .ne => .NotEq | .lt => .Lt | .le => .LtE | .gt => .Gt | .ge => .GtE | .is => .Is | .isnot => .IsNot | .in_ => .In | .notin => .NotIn

theorem cmpI_some {f : Int → Int → Bool} {x y : V} {b : Bool} (e : cmpI f x y = some b) : ∃ i j, x = .int i ∧ y = .int j ∧ b = f i j := by
  cases x <;> first | cases e | skip
  cases y <;> first | (cases e; done) | skip
  exact ⟨_, _, rfl, rfl, (Option.some.inj e).symm⟩
theorem p_cmp {o : Cop} {x y : V} {cx cy : Value} {b : Bool} (S : SR c as X H s) (hx : VR c as X s.heap x cx) (hy : VR c as X s.heap y cy) (hu : A.units + 64 < cLine)
    (e : cmpop o x y H = some b) (q : Q (.bool b) H) : wpAny c.M A (compareOp (copOf o) cx cy) (Res c as X s.heap Q) E s := by
  cases o with
  | eq =>
    obtain ⟨x', h1, e⟩ := Option.bind_eq_some_iff.mp e
    obtain ⟨y', h2, rfl⟩ := Option.map_eq_some_iff.mp e
    exact p_eq S hx hy h1 h2 hu q
  | ne =>
    obtain ⟨z, e1, rfl⟩ := Option.map_eq_some_iff.mp e
    obtain ⟨x', h1, e1⟩ := Option.bind_eq_some_iff.mp e1
    obtain ⟨y', h2, rfl⟩ := Option.map_eq_some_iff.mp e1
    exact p_ne S hx hy h1 h2 hu q
  | lt => obtain ⟨a, b, rfl, rfl, rfl⟩ := cmpI_some e; cases hx; cases hy; exact lt_int (Res.now (tk := s.toks) S (.bool _) q)
  | le => obtain ⟨a, b, rfl, rfl, rfl⟩ := cmpI_some e; cases hx; cases hy; exact le_int (Res.now (tk := s.toks) S (.bool _) q)
  | gt => obtain ⟨a, b, rfl, rfl, rfl⟩ := cmpI_some e; cases hx; cases hy; exact gt_int (Res.now (tk := s.toks) S (.bool _) q)
  | ge => obtain ⟨a, b, rfl, rfl, rfl⟩ := cmpI_some e; cases hx; cases hy; exact ge_int (Res.now (tk := s.toks) S (.bool _) q)
  | is => cases e
  | isnot => cases e
  | in_ => exact (p_in S hx hy e hu).1 q
  | notin =>
    obtain ⟨b', h0, rfl⟩ := Option.map_eq_some_iff.mp e
    exact (p_in S hx hy h0 hu).2 q

end
end Mine

end
noncomputable section
namespace Mine
open PySem PySem.Calls PyProof.Rows

noncomputable def OVR (c : Cx) (as : Adr) (X : List Addr) (h : HP) (o : Option V) (y : Option Value) : Prop := ∀ v, o = some v → ∃ x, y = some x ∧ VR c as X h v x

structure FR (c : Cx) (as : Adr) (X : List Addr) (h : HP) (env : Env) (tab : List (Str × Nat)) (ρ : Fm) : Prop where
  kind : env.scope.kind = .function
  glob : env.globals = mainGlobals
  bi : env.builtins = builtinsNs
  lx : env.locals ∈ X
  lout : some env.locals ∉ as
  lb : c.base.get? env.locals = none
  ns : ∃ m, h.Ns env.locals m ∧ ∀ x i, tab.lookup x = some i → env.kindOf x = some .local → OVR c as X h ((ρ[i]?).join) (m x)
  cells : ∀ x i, tab.lookup x = some i → (env.kindOf x = some .cell ∨ env.kindOf x = some .free) →
    ∃ a y, env.cells.lookup x = some a ∧ a ∈ X ∧ some a ∉ as ∧ c.base.get? a = none ∧ a ≠ env.locals ∧ h.IsCell a y ∧ OVR c as X h ((ρ[i]?).join) y
  apart : ∀ x y a, env.cells.lookup x = some a → env.cells.lookup y = some a → x = y
  inj : ∀ x y i, tab.lookup x = some i → tab.lookup y = some i → x = y

theorem OVR.keepX {c : Cx} {as as' : Adr} {X : List Addr} {h h' : HP} {o : Option V} {y : Option Value} (k : KeptX as X h h') (x : Ext as h as') (z : OVR c as X h o y) : OVR c as' X h' o y :=
  fun v e => let ⟨q, e1, e2⟩ := z v e; ⟨q, e1, e2.keepX k x⟩
theorem Ns.same {h h' : HP} {L : Addr} {m : Str → Option Value} (n : h.Ns L m) (k : ∀ o, h.get? L = some o → ∃ o', h'.get? L = some o' ∧ SameO o o') : h'.Ns L m := by
  obtain ⟨o, es, ep, e, r⟩ := n
  obtain ⟨o', e', s⟩ := k o e
  refine ⟨o', es, ep, e', ?_⟩
  rcases s with rfl | ⟨_, sl, rfl⟩ <;> exact r
theorem IsCell.same {h h' : HP} {a : Addr} {y : Option Value} (n : h.IsCell a y) (k : ∀ o, h.get? a = some o → ∃ o', h'.get? a = some o' ∧ SameO o o') : h'.IsCell a y := by
  obtain ⟨o, e, r⟩ := n
  obtain ⟨o', e', s⟩ := k o e
  refine ⟨o', e', ?_⟩
  rcases s with rfl | ⟨_, sl, rfl⟩ <;> exact r

theorem FR.keep {c : Cx} {as as' : Adr} {X : List Addr} {h h' : HP} {env : Env} {tab : List (Str × Nat)} {ρ : Fm} (F : FR c as X h env tab ρ) (k : Kept as h h') (x : Ext as h as') : FR c as' X h' env tab ρ where
  kind := F.kind
  glob := F.glob
  bi := F.bi
  lx := F.lx
  lout := by
    obtain ⟨m, ⟨o, _, _, e, _⟩, _⟩ := F.ns
    exact x.out e F.lout
  lb := F.lb
  ns := by
    obtain ⟨m, n, r⟩ := F.ns
    exact ⟨m, Ns.same n fun o e => k _ o e F.lout, fun y i h1 h2 => (r y i h1 h2).keepX (k.x X) x⟩
  cells := fun y i h1 h2 => by
    obtain ⟨a, z, e1, e2, e3, e4, e5, e6, e7⟩ := F.cells y i h1 h2
    have e6' := e6
    obtain ⟨o, eo, _⟩ := e6'
    exact ⟨a, z, e1, e2, x.out eo e3, e4, e5, IsCell.same e6 fun o e => k _ o e e3, e7.keepX (k.x X) x⟩
  apart := F.apart
  inj := F.inj

section
variable {c : Cx} {A : Around} {E : Value → Shared → Prop} {s : Shared} {as : Adr} {X : List Addr} {H : AH} {Q : QE} {env : Env} {tab : List (Str × Nat)} {ρ : Fm}

theorem n_load {x : Str} {i : Nat} {v : V} {M : Model} (S : SR c as X H s) (F : FR c as X s.heap env tab ρ) (ht : tab.lookup x = some i) (hk : env.kindOf x = some .local ∨ env.kindOf x = some .cell ∨ env.kindOf x = some .free)
    (hv : ρ[i]? = some (some v)) (hn : (x == ("__classdict__" : Str)) = false) (q : Q v H) : wpAny M A (loadName env x) (Res c as X s.heap Q) E s := by
  rcases hk with hk | hk
  · obtain ⟨m, n, r⟩ := F.ns
    obtain ⟨y, e1, e2⟩ := r x i ht hk v (by rw [hv]; rfl)
    exact wpAny_loadName_local F.kind hk n e1 (Res.now (tk := s.toks) S e2 q)
  · obtain ⟨a, z, e1, e2, e3, e4, e5, e6, e7⟩ := F.cells x i ht hk
    obtain ⟨y, rfl, e8⟩ := e7 v (by rw [hv]; rfl)
    rcases hk with hk | hk
    · exact wpAny_loadName_cell F.kind hk e1 e6 (Res.now (tk := s.toks) S e8 q)
    · exact wpAny_loadName_free F.kind hk e1 e6 (Res.now (tk := s.toks) S e8 q) hn

/-- a step that may turn this frame's own objects -/
noncomputable def StepF (c : Cx) (as : Adr) (X : List Addr) (H : AH) (env : Env) (tab : List (Str × Nat)) (h : HP) (ρ' : Fm) (s' : Shared) : Prop :=
  SR c as X H s' ∧ KeptX as (env.locals :: env.cells.map (·.2)) h s'.heap ∧ FR c as X s'.heap env tab ρ'

theorem set_join (ρ : Fm) (i j : Nat) (v : V) (hi : i < ρ.length) : (((ρ.set i (some v))[j]?).join) = if i = j then some v else (ρ[j]?).join := by
  by_cases h : i = j
  · subst h; simp [hi]
  · simp [h]

theorem n_store {x : Str} {i : Nat} {v : V} {cv : Value} {M : Model} {R : Unit → Shared → Prop} (S : SR c as X H s) (F : FR c as X s.heap env tab ρ) (ht : tab.lookup x = some i) (hk : env.kindOf x = some .local ∨ env.kindOf x = some .cell)
    (hi : i < ρ.length) (hv : VR c as X s.heap v cv) (r : ∀ s', StepF c as X H env tab s.heap (ρ.set i (some v)) s' → R () s') : wpAny M A (storeName env x cv) R E s := by
  rcases hk with hk | hk
  · obtain ⟨m, n, rr⟩ := F.ns
    refine wpAny_storeName_local hk n (fun h' n' sb => r _ ?_) (by rw [F.kind]; rfl)
    have K0 : ∀ b o, s.heap.get? b = some o → b ≠ env.locals → h'.get? b = some o := fun b o e hb => (sb.2 b hb).trans e
    have KX : KeptX as X s.heap h' := fun b o e _ hb => ⟨o, K0 b o e (fun q => hb (q ▸ F.lx)), .inl rfl⟩
    have hL' : ∃ o, h'.get? env.locals = some o := let ⟨o, _, _, e, _⟩ := n'; ⟨o, e⟩
    refine ⟨S.keepX (s' := { s with heap := h', toks := s.toks + 1 }) (fun b o e _ hb => ⟨o, K0 b o e (fun q => hb (q ▸ F.lx)), .inl rfl⟩) (fun b o e => K0 b o (S.stays b o e) fun q => ?_) (fun b hb => ?_) rfl rfl, fun b o e _ hb => ⟨o, K0 b o e (fun q => hb (q ▸ .head _)), .inl rfl⟩, ?_⟩
    · subst q; rw [F.lb] at e; cases e
    · by_cases q : b = env.locals
      · rw [q]; exact hL'
      · obtain ⟨o, e⟩ := S.xs b hb
        exact ⟨o, K0 b o e q⟩
    · refine ⟨F.kind, F.glob, F.bi, F.lx, F.lout, F.lb, ⟨_, n', fun y j h1 h2 => ?_⟩, fun y j h1 h2 => ?_, F.apart, F.inj⟩
      · rw [set_join _ _ _ _ hi]
        by_cases hxy : y = x
        · subst hxy
          rw [ht] at h1; cases h1
          simp only [if_true]
          intro v' e'; cases e'
          exact ⟨cv, rfl, hv.keepX KX (.refl ..)⟩
        · have : i ≠ j := fun q => hxy (F.inj _ _ j h1 (q ▸ ht))
          simp only [if_neg this, if_neg hxy]
          exact (rr y j h1 h2).keepX KX (.refl ..)
      · obtain ⟨a, z, e1, e2, e3, e4, e5, e6, e7⟩ := F.cells y j h1 h2
        have hne : y ≠ x := fun q => by subst q; rw [hk] at h2; rcases h2 with h2 | h2 <;> cases h2
        have : i ≠ j := fun q => hne (F.inj _ _ j h1 (q ▸ ht))
        refine ⟨a, z, e1, e2, e3, e4, e5, IsCell.same e6 fun o e => ⟨o, K0 _ o e e5, .inl rfl⟩, ?_⟩
        rw [set_join _ _ _ _ hi, if_neg this]
        exact e7.keepX KX (.refl ..)
  · obtain ⟨a, z, e1, e2, e3, e4, e5, e6, e7⟩ := F.cells x i ht (.inl hk)
    refine wpAny_storeName_cell F.kind hk e1 e6 fun h' c' sb => r _ ?_
    have K0 : ∀ b o, s.heap.get? b = some o → b ≠ a → h'.get? b = some o := fun b o e hb => (sb.2 b hb).trans e
    have KX : KeptX as X s.heap h' := fun b o e _ hb => ⟨o, K0 b o e (fun q => hb (q ▸ e2)), .inl rfl⟩
    have hL' : ∃ o, h'.get? a = some o := let ⟨o, e, _⟩ := c'; ⟨o, e⟩
    refine ⟨S.keepX (s' := { s with heap := h' }) (fun b o e _ hb => ⟨o, K0 b o e (fun q => hb (q ▸ e2)), .inl rfl⟩) (fun b o e => K0 b o (S.stays b o e) fun q => ?_) (fun b hb => ?_) rfl rfl, fun b o e _ hb => ⟨o, K0 b o e (fun q => hb (q ▸ .tail _ ?_)), .inl rfl⟩, ?_⟩
    · subst q; rw [e4] at e; cases e
    · by_cases q : b = a
      · rw [q]; exact hL'
      · obtain ⟨o, e⟩ := S.xs b hb
        exact ⟨o, K0 b o e q⟩
    · exact List.mem_map.mpr ⟨(x, a), mem_of_lookup e1, rfl⟩
    · obtain ⟨m, n, rr⟩ := F.ns
      refine ⟨F.kind, F.glob, F.bi, F.lx, F.lout, F.lb, ⟨_, Ns.same n fun o e => ⟨o, K0 _ o e (Ne.symm e5), .inl rfl⟩, fun y j h1 h2 => ?_⟩, fun y j h1 h2 => ?_, F.apart, F.inj⟩
      · have hne : y ≠ x := fun q => by subst q; rw [hk] at h2; cases h2
        have : i ≠ j := fun q => hne (F.inj _ _ j h1 (q ▸ ht))
        rw [set_join _ _ _ _ hi, if_neg this]
        exact (rr y j h1 h2).keepX KX (.refl ..)
      · obtain ⟨a', z', f1, f2, f3, f4, f5, f6, f7⟩ := F.cells y j h1 h2
        by_cases hxy : y = x
        · subst hxy
          rw [ht] at h1; cases h1
          refine ⟨a, _, e1, e2, e3, e4, e5, c', ?_⟩
          rw [set_join _ _ _ _ hi, if_pos rfl]
          intro v' e'; cases e'
          exact ⟨cv, rfl, hv.keepX KX (.refl ..)⟩
        · have : i ≠ j := fun q => hxy (F.inj _ _ j h1 (q ▸ ht))
          have haa : a' ≠ a := fun q => hxy (F.apart y x a (q ▸ f1) e1)
          refine ⟨a', z', f1, f2, f3, f4, f5, IsCell.same f6 fun o e => ⟨o, K0 _ o e haa, .inl rfl⟩, ?_⟩
          rw [set_join _ _ _ _ hi, if_neg this]
          exact f7.keepX KX (.refl ..)
end
end Mine

end
noncomputable section
namespace Mine
open PySem PySem.Calls PyProof.Rows

section
variable {c : Cx} {A : Around} {E : Value → Shared → Prop} {s : Shared} {as : Adr} {X : List Addr} {H H' : AH} {Q : QE}

theorem VRs.len_arr {vs : List V} {items : Array Value} {h : HP} (r : VRs c as X h vs items.toList) : items.size = vs.length := by
  have := r.length
  simp only [Array.length_toList] at this
  exact this.symm

/-- x is a list nobody else has -/
noncomputable def FreshL (c : Cx) (as : Adr) (X : List Addr) (s : Shared) (vs : List V) (x : Value) (s' : Shared) : Prop :=
  ∃ a items, x = .ref a ∧ s.heap.get? a = none ∧ c.base.get? a = none ∧ Grown s.heap s'.heap ∧ s'.gens = s.gens ∧ s'.os = s.os ∧ s'.heap.PlainList a items ∧ VRs c as X s.heap vs items.toList ∧ vs.length ≤ bnd

theorem SR.not_as (S : SR c as X H s) {a : Addr} (hn : s.heap.get? a = none) : some a ∉ as := fun q => by
  obtain ⟨i, hi⟩ := List.getElem?_of_mem q
  obtain ⟨_, _, o, _, ho⟩ := S.objs i _ hi
  obtain ⟨ob, e, _⟩ := OR.here ho
  rw [hn] at e; cases e
theorem SR.not_x (S : SR c as X H s) {a : Addr} (hn : s.heap.get? a = none) : a ∉ X := fun q => by
  obtain ⟨o, e⟩ := S.xs _ q
  rw [hn] at e; cases e
theorem SR.base_none (S : SR c as X H s) {a : Addr} (hn : s.heap.get? a = none) : c.base.get? a = none := by
  cases h : c.base.get? a with
  | none => rfl
  | some o => rw [S.stays a o h] at hn; cases hn
theorem get_fresh (h : HP) : h.get? h.objs.size = none := by
  cases e : h.get? h.objs.size with
  | none => rfl
  | some o => exact absurd (Heap.lt_size e) (Nat.lt_irrefl _)

theorem FreshL.frozen {vs : List V} {x : Value} {s' : Shared} (S : SR c as X H s) (f : FreshL c as X s vs x s') (q : Q (.lst vs) H) : Res c as X s.heap Q x s' := by
  obtain ⟨a, items, rfl, hn, hb, g, hg, hos, ⟨n, hp⟩, r, hl⟩ := f
  exact Res.grow S g hg hos (.lst (S.not_as hn) (S.not_x hn) ⟨n, hp⟩ (r.grow g) hl) q

theorem ext_snoc (as : Adr) (h : HP) (a : Addr) (hn : h.get? a = none) : Ext as h (as ++ [some a]) :=
  ⟨fun i y e => .inl (by rw [List.getElem?_append_left (List.getElem?_eq_some_iff.mp e).1]; exact e), fun b hb => by
    rcases List.mem_append.mp hb with q | q
    · exact .inl q
    · simp only [List.mem_singleton, Option.some.injEq] at q; subst q; exact .inr hn⟩

theorem OR.keepE {as' : Adr} {h h' : HP} {a : Addr} {o : O} (k : KeptX as X h h') (x : Ext as h as') (hnd : ∀ (i : Nat) (b : Addr), as[i]? = some (some b) → as'[i]? = some (some b))
    (ha : ∀ ob, h.get? a = some ob → ob.cls ≠ .type "frame" → h'.get? a = some ob) : OR c as X h a o → OR c as' X h' a o := by
  intro z
  cases o with
  | list vs => obtain ⟨hb, items, ⟨n, e⟩, r⟩ := z; exact ⟨hb, items, ⟨n, ha _ e (by simp)⟩, r.keepX k x⟩
  | dict ks vs => obtain ⟨hb, hsm, cs, hd, hl, r⟩ := z; exact ⟨hb, hsm, cs, DictOf.same hd ha, hl, r.keepX k x⟩
  | inst k d => obtain ⟨dx, e1, e2⟩ := z; exact ⟨dx, hnd _ _ e1, ha _ e2 (by simp)⟩
  | dead => exact z.elim

/-- a new object of the abstract heap -/
theorem SR.alloc {s' : Shared} {a : Addr} {o : O} (S : SR c as X H s) (hn : s.heap.get? a = none) (g : Grown s.heap s'.heap) (hg : s'.gens = s.gens) (hos : s'.os = s.os) (ho : OR c (as ++ [some a]) X s'.heap a o) :
    SR c (as ++ [some a]) X (H ++ [o]) s' where
  len := by simp [S.len]
  stays := fun b o e => g b o (S.stays b o e)
  gens := hg.trans S.gens
  os := hos.trans S.os
  objs := fun i b hi => by
    by_cases hlt : i < as.length
    · rw [List.getElem?_append_left hlt] at hi
      obtain ⟨h1, h2, o', h3, h4⟩ := S.objs i b hi
      refine ⟨h1, h2, o', by rw [List.getElem?_append_left (by rw [← S.len]; exact hlt)]; exact h3, ?_⟩
      exact h4.keepE ((g.kept as).x X) (ext_snoc as _ a hn) (fun j b' e => by rw [List.getElem?_append_left (List.getElem?_eq_some_iff.mp e).1]; exact e) fun ob e _ => g b ob e
    · have hi' : i = as.length := by
        have := (List.getElem?_eq_some_iff.mp hi).1
        simp at this; omega
      subst hi'
      simp at hi
      subst hi
      exact ⟨S.base_none hn, S.not_x hn, o, by simp [S.len], ho⟩
  inj := fun i j b hi hj => by
    have key : ∀ k : Nat, (as ++ [some a])[k]? = some (some b) → (as[k]? = some (some b)) ∨ (k = as.length ∧ b = a) := fun k hk => by
      by_cases hlt : k < as.length
      · rw [List.getElem?_append_left hlt] at hk; exact .inl hk
      · have hk' : k = as.length := by
          have := (List.getElem?_eq_some_iff.mp hk).1
          simp at this; omega
        subst hk'
        simp at hk
        exact .inr ⟨rfl, hk.symm⟩
    rcases key i hi with h1 | ⟨h1, h1'⟩ <;> rcases key j hj with h2 | ⟨h2, h2'⟩
    · exact S.inj i j b h1 h2
    · subst h2'; exact absurd (List.mem_of_getElem? h1) (S.not_as hn)
    · subst h1'; exact absurd (List.mem_of_getElem? h2) (S.not_as hn)
    · rw [h1, h2]
  dead := fun i hi => by
    by_cases hlt : i < as.length
    · rw [List.getElem?_append_left hlt] at hi
      rw [List.getElem?_append_left (by rw [← S.len]; exact hlt)]; exact S.dead i hi
    · have hi' : i = as.length := by
        have := (List.getElem?_eq_some_iff.mp hi).1
        simp at this; omega
      subst hi'
      simp at hi
  xs := fun b hb => let ⟨o, e⟩ := S.xs b hb; ⟨o, g b o e⟩

theorem FreshL.thawed {vs : List V} {x : Value} {s' : Shared} (S : SR c as X H s) (f : FreshL c as X s vs x s') (q : Q (.ref H.length) (H ++ [.list vs])) : Res c as X s.heap Q x s' := by
  obtain ⟨a, items, rfl, hn, hb, g, hg, hos, hp, r, hl⟩ := f
  have E := ext_snoc as s.heap a hn
  refine ⟨.ref H.length, _, as ++ [some a], E, S.alloc (o := .list vs) hn g hg hos ⟨hl, items, hp, r.keep (g.kept as) E⟩, g.kept as, .ref ?_, q⟩
  rw [← S.len]; simp

theorem fresh_either {mu : Bool} {p : Prim} {us ws : List V} {t : Sem Value} (S : SR c as X H s) (hp : prim c.P p us H = some (.lst ws, H)) (hw : ∀ R : Value → Shared → Prop, (∀ x s', FreshL c as X s ws x s' → R x s') → wpAny c.M A t R E s)
    (q : okE (primM c.P mu p us H) Q) : wpAny c.M A t (Res c as X s.heap Q) E s := by
  cases mu with
  | false =>
    simp only [primM, hp, okE, Bool.false_eq_true, if_false] at q
    exact hw _ fun x s' f => f.frozen S q
  | true =>
    unfold primM at q
    simp only [if_true] at q
    split at q
    · simp only [hp, Option.bind_some, thaw, okE] at q
      exact hw _ fun x s' f => f.thawed S q
    · exact q.elim

theorem p_len {v r : V} {cv : Value} (S : SR c as X H s) (hv : VR c as X s.heap v cv) (e : pLen [v] H = some (r, H')) (q : Q r H') : wpAny c.M A (call (.builtin "len") [cv]) (Res c as X s.heap Q) E s := by
  unfold pLen at e
  have hb := bnd_lt
  split at e
  · rename_i hl
    simp only [List.cons.injEq, and_true] at hl
    subst hl
    cases e
    cases hv with
    | str _ _ hs =>
      refine len_str ?_ ?_
      · rw [toS_length]; omega
      · rw [toS_length]; exact Res.now S (.int _ _) q
  · rename_i hl
    simp only [List.cons.injEq, and_true] at hl
    subst hl
    cases e
    cases hv with
    | tup h1 h2 h3 r hs =>
      have hl := r.len_arr
      refine P.len_tuple h3 ?_ ?_
      · rw [hl]; omega
      · rw [hl]; exact Res.now S (.int _ _) q
  · rename_i hl
    simp only [List.cons.injEq, and_true] at hl
    subst hl
    split at e
    · rename_i vs hvs
      cases e
      obtain ⟨a, items, rfl, hp, r, hs⟩ := view_at S hv hvs
      have hl := r.len_arr
      refine call_len_list hp.isList ?_ ?_
      · rw [hl]; omega
      · rw [hl]; exact Res.now S (.int _ _) q
    · obtain ⟨d, hd, e'⟩ := Option.map_eq_some_iff.mp e
      cases e'
      obtain ⟨a, cs, rfl, hsm, hp, hl, r, hs⟩ := dview_at S hv hd
      have hl2 := r.length
      have hlz : ((d.1.map toS).zip cs).length = d.1.length := by simp; omega
      refine call_len_dict (knd := c.kd) hsm hp ?_ ?_
      · rw [hlz]; omega
      · rw [hlz]; exact Res.now S (.int _ _) q
  · cases e

noncomputable def tyName : Ty → String
  | .int => "int" | .bool => "bool" | .str => "str" | .list => "list" | .tuple => "tuple" | .valueError => "ValueError" | .cls _ => ""
theorem p_isinst {v r : V} {t : Ty} {cv : Value} (S : SR c as X H s) (hv : VR c as X s.heap v cv) (ht : t ≠ .valueError ∧ ∀ k, t ≠ .cls k) (e : pIsinst c.P t [v] H = some (r, H')) (q : Q r H') :
    wpAny c.M A (call (.builtin "isinstance") [cv, .type (tyName t)]) (Res c as X s.heap Q) E s := by
  unfold pIsinst at e
  obtain ⟨b, e1, e2⟩ := Option.map_eq_some_iff.mp e
  cases e2
  have F := fun tk => Res.now (tk := tk) S (VR.bool b) q
  unfold isinst at e1
  split at e1
  · cases hv; cases e1
    cases t <;> first | exact IsiPair.int_int (F _) | exact IsiPair.int_bool (F _) | exact IsiPair.int_str (F _) | exact IsiPair.int_list (F _) | exact IsiPair.int_tuple (F _) | exact absurd rfl ht.1 | exact absurd rfl (ht.2 _)
  · cases hv; cases e1
    cases t <;> first | exact IsiPair.bool_int (F _) | exact IsiPair.bool_bool (F _) | exact IsiPair.bool_str (F _) | exact IsiPair.bool_list (F _) | exact IsiPair.bool_tuple (F _) | exact absurd rfl ht.1 | exact absurd rfl (ht.2 _)
  · cases hv; cases e1
    cases t <;> first | exact IsiPair.str_int (F _) | exact IsiPair.str_bool (F _) | exact IsiPair.str_str (F _) | exact IsiPair.str_list (F _) | exact IsiPair.str_tuple (F _) | exact absurd rfl ht.1 | exact absurd rfl (ht.2 _)
  · cases hv with
    | tup _ _ ho _ _ =>
      cases e1
      cases t <;> first | exact IsiPair.tuple_int ho rfl (F _) | exact IsiPair.tuple_bool ho rfl (F _) | exact IsiPair.tuple_str ho rfl (F _) | exact IsiPair.tuple_list ho rfl (F _) | exact IsiPair.tuple_tuple ho rfl (F _) | exact absurd rfl ht.1 | exact absurd rfl (ht.2 _)
  · cases hv with
    | lst _ _ hp _ _ =>
      obtain ⟨n, ho⟩ := hp
      cases e1
      cases t <;> first | exact IsiPair.list_int ho rfl (F _) | exact IsiPair.list_bool ho rfl (F _) | exact IsiPair.list_str ho rfl (F _) | exact IsiPair.list_list ho rfl (F _) | exact IsiPair.list_tuple ho rfl (F _) | exact absurd rfl ht.1 | exact absurd rfl (ht.2 _)
  · cases hv; cases e1
    cases t <;> first | exact IsiPair.NoneType_int (F _) | exact IsiPair.NoneType_bool (F _) | exact IsiPair.NoneType_str (F _) | exact IsiPair.NoneType_list (F _) | exact IsiPair.NoneType_tuple (F _) | exact absurd rfl ht.1 | exact absurd rfl (ht.2 _)
  · cases hv with
    | dct _ _ _ hp _ _ _ =>
      obtain ⟨o, es, ep, ho, hx, _⟩ := hp
      cases e1
      cases t <;> first | exact IsiPair.dict_int ho hx.1 (F _) | exact IsiPair.dict_bool ho hx.1 (F _) | exact IsiPair.dict_str ho hx.1 (F _) | exact IsiPair.dict_list ho hx.1 (F _) | exact IsiPair.dict_tuple ho hx.1 (F _) | exact absurd rfl ht.1 | exact absurd rfl (ht.2 _)
  · cases hv with
    | ref hi =>
      obtain ⟨_, _, o, ho, hr⟩ := S.objs _ _ hi
      rw [ho] at e1
      cases o with
      | list vs =>
        obtain ⟨_, items, ⟨n, hg⟩, _⟩ := hr
        cases e1
        cases t <;> first | exact IsiPair.list_int hg rfl (F _) | exact IsiPair.list_bool hg rfl (F _) | exact IsiPair.list_str hg rfl (F _) | exact IsiPair.list_list hg rfl (F _) | exact IsiPair.list_tuple hg rfl (F _) | exact absurd rfl ht.1 | exact absurd rfl (ht.2 _)
      | dict ks vs =>
        obtain ⟨_, _, cs, ⟨o, es, ep, hg, hx, _⟩, _⟩ := hr
        cases e1
        cases t <;> first | exact IsiPair.dict_int hg hx.1 (F _) | exact IsiPair.dict_bool hg hx.1 (F _) | exact IsiPair.dict_str hg hx.1 (F _) | exact IsiPair.dict_list hg hx.1 (F _) | exact IsiPair.dict_tuple hg hx.1 (F _) | exact absurd rfl ht.1 | exact absurd rfl (ht.2 _)
      | _ => cases e1
    | refD hi => rw [S.dead _ hi] at e1; cases e1
  · exact absurd rfl (ht.2 _)
  · exact absurd rfl ht.1
  · cases e1

theorem p_range1 {v r : V} {cv : Value} (S : SR c as X H s) (hv : VR c as X s.heap v cv) (e : pRange1 [v] H = some (r, H')) (q : Q r H') : wpAny c.M A (call (.type "range") [cv]) (Res c as X s.heap Q) E s := by
  unfold pRange1 at e
  split at e
  · rename_i hl
    simp only [List.cons.injEq, and_true] at hl
    subst hl
    split at e
    · rename_i hsm
      cases e
      cases hv
      refine call_range_1 ?_
      exact Res.grow (s' := { s with heap := _, toks := _ }) S (.push _ _) rfl rfl (.rng (fresh_out S) (fresh_x S) (IsRange.new ..) (by decide) hsm) q
    · cases e
  · cases e
theorem rangeSize_eq (a b : Int) : Builtin.Range.rangeSize a b 1 = ((b - a).toNat : Nat) := by
  unfold Builtin.Range.rangeSize
  simp only [show (1 : Int) > 0 from by decide, if_true]
  split <;> omega
theorem vrs_range {h : HP} {acc : Array Value} {a : Int} {n : Nat} (hi : ItemsOf (fun i v => ∃ t, v = Value.int (a + i * 1) t) acc n) : VRs c as X h ((List.range n).map fun (i : Nat) => V.int (a + i)) acc.toList := by
  obtain ⟨h1, h2⟩ := hi
  subst h1
  have key : ∀ (l : List Value) (k : Nat), (∀ j v, l[j]? = some v → ∃ t, v = Value.int (a + ((k + j : Nat) : Int)) t) → VRs c as X h ((List.range' k l.length).map fun (i : Nat) => V.int (a + i)) l := by
    intro l
    induction l with
    | nil => intro k _; exact .nil
    | cons x l ih =>
      intro k hx
      obtain ⟨t, e⟩ := hx 0 x rfl
      subst e
      rw [List.length_cons, List.range'_succ, List.map_cons]
      refine .cons (by simpa using VR.int _ _) (ih (k + 1) fun j v hv => ?_)
      obtain ⟨t, e⟩ := hx (j + 1) v (by simpa using hv)
      exact ⟨t, by rw [e]; congr 2; omega⟩
  have := key acc.toList 0 fun j v hv => by
    obtain ⟨t, e⟩ := h2 j v (by simpa using hv)
    exact ⟨t, by rw [e]; simp⟩
  rw [List.range_eq_range']
  simpa using this
theorem range_small {a b : Int} (ha : smallInt a = true) (hb : smallInt b = true) : Builtin.Range.small a b 1 = true := by
  simp only [smallInt, decide_eq_true_eq] at ha hb
  have f : ∀ i : Int, -10 ^ 14 ≤ i → i ≤ 10 ^ 14 → Builtin.Range.rangeFitsLong i = true := fun i h1 h2 => by
    simp only [Builtin.Range.rangeFitsLong, Bool.and_eq_true, decide_eq_true_eq]; omega
  have hs := rangeSize_eq a b
  unfold Builtin.Range.small
  rw [f a (by omega) (by omega), f b (by omega) (by omega), f 1 (by omega) (by omega), f _ (by rw [hs]; omega) (by rw [hs]; omega)]
  simp only [show (1 : Int) > 0 from by decide, if_true, f (b + (1 - 1)) (by omega) (by omega), Bool.or_true, Bool.and_true]
theorem rngL_length (a b : Int) : (rngL a b).length = (b - a).toNat := by simp [rngL]
theorem freshL_G {h' : HP} {tk n : Nat} {items : Array Value} {vs : List V} (S : SR c as X H s) (g : Grown s.heap h') (ho : h'.get? s.heap.objs.size = some { cls := .type "list", data := .seq items n }) (hv : VRs c as X s.heap vs items.toList) (hb : vs.length ≤ bnd) :
    FreshL c as X s vs (.ref s.heap.objs.size) { s with heap := h', toks := tk } :=
  ⟨_, items, rfl, get_fresh _, S.base_none (get_fresh _), g, rfl, rfl, ⟨n, ho⟩, hv, hb⟩
theorem p_list {v : V} {ws : List V} {cv : Value} {R : Value → Shared → Prop} (hh : A.handled = none) (S : SR c as X H s) (hv : VR c as X s.heap v cv) (e : pList [v] H = some (.lst ws, H')) (hR : ∀ x s', FreshL c as X s ws x s' → R x s') :
    wpAny c.M A (call (.type "list") [cv]) R E s := by
  have hz := sizeOf'_bnd
  have hz2 := sizeOf'_le
  unfold pList at e
  split at e
  · rename_i a b hl
    simp only [List.cons.injEq, and_true] at hl
    subst hl
    split at e
    · rename_i hb
      cases e
      cases hv with
      | rng h1 h2 h3 h4 h5 =>
        refine call_list_range hh h3 ?_ (rangeSize_eq a b) ?_ fun h' tk acc c' g ho hi => ?_
        · exact range_small h4 h5
        · rw [sizeLine_eq] at hz2; omega
        · exact hR _ _ (freshL_G S g ho (vrs_range hi) (by rw [rngL_length]; omega))
    · cases e
  · rename_i hl
    simp only [List.cons.injEq, and_true] at hl
    subst hl
    split at e
    · rename_i hb
      cases e
      cases hv with
      | tup h1 h2 h3 r hs =>
        have hl := r.len_arr
        refine call_list_seq _ (.inr rfl) h3 rfl rfl (fun h' c' g ho => ?_) (by omega)
        exact hR _ _ (freshL_G (tk := s.toks) S g ho r hs)
    · cases e
  · rename_i hl
    simp only [List.cons.injEq, and_true] at hl
    subst hl
    split at e
    · rename_i vs hvs
      split at e
      · cases e
        obtain ⟨a, items, rfl, ⟨n, hp⟩, r, hs⟩ := view_at S hv hvs
        have hl := r.len_arr
        refine call_list_seq _ (.inl rfl) hp rfl rfl (fun h' c' g ho => ?_) (by omega)
        exact hR _ _ (freshL_G (tk := s.toks) S g ho r hs)
      · cases e
    · cases e
  · cases e
theorem shown_small {i : Int} (h : smallInt i = true) : (if i < 0 then 0 - i else i) < 10 ^ 13 := by
  simp only [smallInt, decide_eq_true_eq] at h
  split <;> omega
theorem strOf_toS (i : Int) : Str.ofString (toString i) = toS (strOf i) := by rw [Str.ofString_eq_toList]; rfl
theorem p_str {v r : V} {cv : Value} (S : SR c as X H s) (hv : VR c as X s.heap v cv) (e : pStr [v] H = some (r, H')) (q : Q r H') : wpAny c.M A (call (.type "str") [cv]) (Res c as X s.heap Q) E s := by
  unfold pStr at e
  split at e
  · rename_i i hl
    simp only [List.cons.injEq, and_true] at hl
    subst hl
    split at e
    · rename_i hsm
      cases e
      cases hv
      refine str_of_int_fit (shown_small hsm) (by decide) fun hlen => ?_
      have hl : (strOf i).length ≤ bnd := by
        have := len_str_of_int i
        rw [strOf_toS, toS_length] at this
        simp only [smallInt, decide_eq_true_eq] at hsm
        have hb : bnd = 2 ^ 40 := rfl
        omega
      show Res c as X s.heap Q (.str (Str.ofString (toString i)) _) _
      rw [strOf_toS]
      exact Res.now S (.str _ _ hl) q
    · cases e
  · rename_i hl
    simp only [List.cons.injEq, and_true] at hl
    subst hl
    cases e
    cases hv with
    | str _ _ hs => exact P.str_of_str (Res.now (tk := s.toks) S (.str _ _ hs) q)
  · cases e
theorem p_intb {r : V} {cv : Value} {b : Bool} (S : SR c as X H s) (hv : VR c as X s.heap (.bool b) cv) (e : pInt [.bool b] H = some (r, H')) (q : Q r H') : wpAny c.M A (call (.type "int") [cv]) (Res c as X s.heap Q) E s := by
  cases e
  cases hv
  exact call_int_bool (Res.now S (.int _ _) q)
theorem bools_some : ∀ {vs : List V} {bs : List Bool}, bools? vs = some bs → vs = bs.map V.bool
  | [], bs, h => by cases h; rfl
  | v :: vs, bs, h => by
    cases v with
    | bool b =>
      obtain ⟨r, h1, rfl⟩ := Option.map_eq_some_iff.mp h
      rw [bools_some h1]; rfl
    | _ => cases h
theorem p_all {v r : V} {cv : Value} (hh : A.handled = none) (S : SR c as X H s) (hv : VR c as X s.heap v cv) (e : pAll [v] H = some (r, H')) (q : Q r H') : wpAny c.M A (call (.builtin "all") [cv]) (Res c as X s.heap Q) E s := by
  obtain ⟨bs, h1, h2⟩ := Option.map_eq_some_iff.mp e
  cases h2
  obtain ⟨vs, h3, h4⟩ := Option.bind_eq_some_iff.mp h1
  obtain ⟨a, items, rfl, hp, r, hs⟩ := view_at S hv h3
  have hvs := bools_some h4
  subst hvs
  have hl := r.len_arr
  rw [List.length_map] at hl
  have hin : some a ≠ some s.heap.objs.size := fun q => by
    obtain ⟨n, e⟩ := hp
    cases q
    exact absurd (Heap.lt_size e) (Nat.lt_irrefl _)
  refine call_all_walk (wpAny_pyIter_list hp.isList ?_)
  refine ⟨_, _, _, _, _, _, fun i => (bs[i]?).getD true, rfl, Walks.list (A := A.in1) hh s.heap.objs.size a (fun q => hin (congrArg some q)) items, ⟨⟨_, Heap.get?_push_size _ rfl, rfl, rfl⟩, let ⟨o, e, r⟩ := hp.isList; ⟨o, Heap.get?_push_of_some _ e, r⟩⟩, ?_, fun h' tk hk => ?_⟩
  · intro i v s' Q' E' hi hq
    rw [← Array.getElem?_toList] at hi
    obtain ⟨w, hw, hvw⟩ := r.get' hi
    rw [List.getElem?_map, Option.map_eq_some_iff] at hw
    obtain ⟨b, hb, rfl⟩ := hw
    cases hvw
    dsimp only at hq
    rw [hb] at hq
    exact wpAny_truthy_bool hq
  · have g : Grown s.heap h' := fun b o e => hk b o (fun q => by simp at q; subst q; exact absurd (Heap.lt_size e) (Nat.lt_irrefl _)) (Heap.get?_push_of_some _ e)
    have hr : (List.range items.size).all (fun i => (bs[i]?).getD true) = bs.all id := by
      rw [hl, Bool.eq_iff_iff, List.all_eq_true, List.all_eq_true]
      constructor
      · intro z b hb
        obtain ⟨i, hi⟩ := List.getElem?_of_mem hb
        have := z i (List.mem_range.mpr (List.getElem?_eq_some_iff.mp hi).1)
        rw [hi] at this
        exact this
      · intro z i _
        cases hi : bs[i]? with
        | none => rfl
        | some b => exact z b (List.mem_of_getElem? hi)
    rw [hr]
    exact Res.grow (s' := { s with heap := h', toks := tk }) S g rfl rfl (.bool _) q
theorem idx_seq {n : Nat} {i : Int} {j : Nat} (h : idx n i = some j) : seqIndex? i n = some j ∧ j < n ∧ (0 ≤ i → (i : Int) = j) ∧ (i < 0 → i + n = j) := by
  unfold idx at h
  split at h
  · split at h
    · cases h
      refine ⟨PySem.seqIndex_of (by omega) (by omega), by omega, fun _ => by omega, fun _ => by omega⟩
    · cases h
  · split at h
    · cases h
      refine ⟨PySem.seqIndex_neg (by omega) (by omega), by omega, fun _ => by omega, fun _ => by omega⟩
    · cases h

theorem sub_plain {slice : Expr} (h : ∀ a b p, slice ≠ .Slice a b none p) (o i : Value) : subscripted slice false o i = operate [o, i] (getItem o i) := by
  cases slice with
  | Slice a b st p =>
    cases st with
    | none => exact absurd rfl (h a b p)
    | some e => rfl
  | _ => rfl

theorem pi_str {t : List Char} {i : Int} {r : V} {cv : Value} {u : Tok} {value slice : Expr} (hsl : ∀ a b p, slice ≠ .Slice a b none p) (S : SR c as X H s) (hv : VR c as X s.heap (.str t) cv) (e : itemI H (.str t) i = some r) (q : Q r H) :
    wpAny c.M A (subscriptTail value slice cv (.int i u)) (Res c as X s.heap Q) E s := by
  have hb := bnd_lt
  obtain ⟨j, h1, h2⟩ := Option.bind_eq_some_iff.mp e
  obtain ⟨ch, h3, rfl⟩ := Option.map_eq_some_iff.mp h2
  cases hv with
  | str _ t hs =>
    obtain ⟨g1, g2, g3, g4⟩ := idx_seq h1
    refine tail_any (typeIs_str _ _ _) slot_str_getitem.lookup (getItem_str ?_ (c := ch.toNat) ?_ ?_) (sub_plain hsl _ _)
    · simp only [Bool.or_eq_false_iff, decide_eq_false_iff_not]; omega
    · rw [toS_length, g1]; simp [toS, h3]
    · exact Res.now S (.str [ch] _ (by simp [bnd])) q
theorem pi_tup {vs : List V} {i : Int} {r : V} {cv : Value} {u : Tok} {value slice : Expr} (hsl : ∀ a b p, slice ≠ .Slice a b none p) (S : SR c as X H s) (hv : VR c as X s.heap (.tup vs) cv) (e : itemI H (.tup vs) i = some r) (q : Q r H) :
    wpAny c.M A (subscriptTail value slice cv (.int i u)) (Res c as X s.heap Q) E s := by
  have hb := bnd_lt
  obtain ⟨j, h1, h3⟩ := Option.bind_eq_some_iff.mp e
  cases hv with
  | tup k1 k2 k3 rr hs =>
    obtain ⟨g1, g2, g3, g4⟩ := idx_seq h1
    obtain ⟨y, e1, e2⟩ := rr.get h3
    have hl := rr.len_arr
    refine tail_any (T := "tuple") ⟨_, k3, rfl⟩ slot_tuple_getitem.lookup (P.getItem_tuple k3 (by omega) (by omega) (by rw [hl]; exact g1) (by simpa using e1) ?_) (sub_plain hsl _ _)
    exact Res.now (tk := s.toks) S e2 q
theorem pi_view {v : V} {i : Int} {r : V} {cv : Value} {u : Tok} {value slice : Expr} (hsl : ∀ a b p, slice ≠ .Slice a b none p) (S : SR c as X H s) (hv : VR c as X s.heap v cv) (e : ((view H v).bind fun vs => (idx vs.length i).bind fun j => vs[j]?) = some r) (q : Q r H) :
    wpAny c.M A (subscriptTail value slice cv (.int i u)) (Res c as X s.heap Q) E s := by
  have hb := bnd_lt
  obtain ⟨vs, hvs, e⟩ := Option.bind_eq_some_iff.mp e
  obtain ⟨j, h1, h3⟩ := Option.bind_eq_some_iff.mp e
  obtain ⟨a, items, rfl, hp, rr, hs⟩ := view_at S hv hvs
  obtain ⟨g1, g2, g3, g4⟩ := idx_seq h1
  obtain ⟨y, e1, e2⟩ := rr.get h3
  have hl := rr.len_arr
  have fin := Res.now (tk := s.toks) S e2 q
  refine tail_any hp.isList.typeIs slot_list_getitem.lookup ?_ (sub_plain hsl _ _)
  by_cases h0 : 0 ≤ i
  · refine wpAny_getItem_list hp.isList h0 (by omega) ?_ fin
    have := g3 h0
    rw [show i.toNat = j by omega]; simpa using e1
  · refine wpAny_getItem_list_neg hp.isList (by omega) (by omega) (by omega) ?_ fin
    have := g4 (by omega)
    rw [hl, show (i + vs.length).toNat = j by omega]; simpa using e1
theorem p_item {v w r : V} {cv cw : Value} {value slice : Expr} (hsl : ∀ a b p, slice ≠ .Slice a b none p) (S : SR c as X H s) (hv : VR c as X s.heap v cv) (hw : VR c as X s.heap w cw) (e : pItem [v, w] H = some (r, H')) (q : Q r H') :
    wpAny c.M A (subscriptTail value slice cv cw) (Res c as X s.heap Q) E s := by
  obtain ⟨z, e1, h⟩ := Option.map_eq_some_iff.mp e
  cases h
  clear e
  have e := e1
  cases w with
  | int i =>
    cases hw
    cases v with
    | str t => exact pi_str hsl S hv e q
    | tup vs => exact pi_tup hsl S hv e q
    | _ => exact pi_view hsl S hv e q
  | _ => cases e

theorem p_mklist {vs : List V} {cs : List Value} {ws : List V} {R : Value → Shared → Prop} (S : SR c as X H s) (hv : VRs c as X s.heap vs cs) (e : pMklist vs H = some (.lst ws, H')) (hR : ∀ x s', FreshL c as X s ws x s' → R x s') : wpAny c.M A (newList cs) R E s := by
  unfold pMklist at e
  split at e
  · cases e
    have hl := hv.length
    have h1 := sizeOf'_le
    have h2 := sizeOf'_bnd
    refine wpAny_newObj_type ?_ (by show cs.toArray.size ≤ sizeLine; rw [List.size_toArray]; omega)
    exact hR _ _ (freshL_G (tk := s.toks) S (.push _ _) (Heap.get?_push_size _ rfl) (by simpa using hv) (by omega))
  · cases e
theorem p_mktup {vs : List V} {cs : List Value} {r : V} (S : SR c as X H s) (hv : VRs c as X s.heap vs cs) (e : pMktup vs H = some (r, H')) (q : Q r H') : wpAny c.M A (newTuple cs) (Res c as X s.heap Q) E s := by
  unfold pMktup at e
  split at e
  · cases e
    have hl := hv.length
    have h1 := sizeOf'_le
    have h2 := sizeOf'_bnd
    refine wpAny_newObj_type ?_ (by show cs.toArray.size ≤ sizeLine; rw [List.size_toArray]; omega)
    exact res_tuple S (by simpa using hv) (by omega) q
  · cases e

theorem SR.kept1 {i : Nat} {a : Addr} {h h' : HP} (hi : as[i]? = some (some a)) (hk : ∀ b o, h.get? b = some o → b ≠ a → h'.get? b = some o) : Kept as h h' :=
  fun b o e hb => ⟨o, hk b o e fun q => hb (q ▸ List.mem_of_getElem? hi), .inl rfl⟩

/-- one object of the abstract heap changes -/
theorem SR.upd {s' : Shared} {i : Nat} {a : Addr} {o' : O} (S : SR c as X H s) (hi : as[i]? = some (some a)) (hk : ∀ b o, s.heap.get? b = some o → b ≠ a → s'.heap.get? b = some o)
    (hg : s'.gens = s.gens) (hos : s'.os = s.os) (ho : OR c as X s'.heap a o') : SR c as X (H.set i o') s' where
  len := by rw [List.length_set]; exact S.len
  stays := fun b o e => hk b o (S.stays b o e) fun q => by
    have := (S.objs i a hi).1
    rw [q, this] at e; cases e
  gens := hg.trans S.gens
  os := hos.trans S.os
  objs := fun j b hj => by
    obtain ⟨h1, h2, o, h3, h4⟩ := S.objs j b hj
    refine ⟨h1, h2, ?_⟩
    by_cases hij : i = j
    · subst hij
      rw [hi] at hj; cases hj
      have hl : i < H.length := by rw [← S.len]; exact (List.getElem?_eq_some_iff.mp hi).1
      exact ⟨o', by simp [hl], ho⟩
    · have hba : b ≠ a := fun q => hij (S.inj i j a hi (q ▸ hj))
      refine ⟨o, by rw [List.getElem?_set_ne hij]; exact h3, h4.keepX ((SR.kept1 hi hk).x X) fun ob e _ => hk b ob e hba⟩
  inj := S.inj
  dead := fun j hj => by
    have hij : i ≠ j := fun q => by subst q; rw [hi] at hj; cases hj
    rw [List.getElem?_set_ne hij]; exact S.dead j hj
  xs := fun b hb => by
    obtain ⟨o, e⟩ := S.xs b hb
    exact ⟨o, hk b o e fun q => (S.objs i a hi).2.1 (q ▸ hb)⟩

theorem res_upd {s' : Shared} {i : Nat} {a : Addr} {o' : O} {v : V} {x : Value} (S : SR c as X H s) (hi : as[i]? = some (some a)) (hk : ∀ b o, s.heap.get? b = some o → b ≠ a → s'.heap.get? b = some o)
    (hg : s'.gens = s.gens) (hos : s'.os = s.os) (ho : OR c as X s'.heap a o') (hv : VR c as X s'.heap v x) (q : Q v (H.set i o')) : Res c as X s.heap Q x s' :=
  ⟨v, _, as, .refl .., S.upd hi hk hg hos ho, SR.kept1 hi hk, hv, q⟩

/-- a reference to a living object -/
theorem ref_at {i : Nat} {x : Value} {o : O} (S : SR c as X H s) (hv : VR c as X s.heap (.ref i) x) (ho : H[i]? = some o) (hd : o ≠ .dead) : ∃ a, x = .ref a ∧ as[i]? = some (some a) ∧ OR c as X s.heap a o := by
  cases hv with
  | ref hi =>
    obtain ⟨_, _, o', h3, h4⟩ := S.objs _ _ hi
    rw [ho] at h3; cases h3
    exact ⟨_, rfl, hi, h4⟩
  | refD hi => rw [S.dead _ hi] at ho; cases ho; exact absurd rfl hd

theorem p_append {v x r : V} {cv cx : Value} (S : SR c as X H s) (hv : VR c as X s.heap v cv) (hx : VR c as X s.heap x cx) (e : pAppend [v, x] H = some (r, H')) (q : Q r H') :
    wpAny c.M A (call (.builtin "list.append") [cv, cx]) (Res c as X s.heap Q) E s := by
  unfold pAppend at e
  split at e
  · rename_i i x' hl
    simp only [List.cons.injEq, and_true] at hl
    obtain ⟨rfl, rfl⟩ := hl
    split at e
    · rename_i vs hvs
      split at e
      · rename_i hz
        cases e
        obtain ⟨a, rfl, hi, hb, items, hp, rr⟩ := ref_at S hv hvs (by simp)
        have hl := rr.len_arr
        have h1 := sizeOf'_le
        have h2 := sizeOf'_bnd
        refine wpAny_list_append_plain hp (fun h' hp' sb => ?_) (by omega)
        have hk : ∀ b o, s.heap.get? b = some o → b ≠ a → h'.get? b = some o := fun b o e hb => (sb.2 b hb).trans e
        have K := SR.kept1 hi hk
        refine res_upd (s' := { s with heap := h' }) (o' := .list _) S hi hk rfl rfl ⟨?_, _, hp', ?_⟩ .none q
        · simp; omega
        · rw [Array.toList_push]
          exact (rr.keep K (.refl ..)).append (.cons (hx.keep K (.refl ..)) .nil)
      · cases e
    · cases e
  · cases e
end
end Mine

end
noncomputable section
namespace Mine
open PySem PySem.Calls PyProof.Rows

section
variable {c : Cx} {A : Around} {E : Value → Shared → Prop} {s : Shared} {as : Adr} {X : List Addr} {H H' : AH} {Q : QE}
theorem p_ints {t : List Char} {r : V} {cv : Value} (S : SR c as X H s) (hv : VR c as X s.heap (.str t) cv) (e : pInt [.str t] H = some (r, H')) (q : Q r H') : wpAny c.M A (call (.type "int") [cv]) (Res c as X s.heap Q) E s := by
  obtain ⟨z, e1, h⟩ := Option.map_eq_some_iff.mp (show (intOf t).map _ = _ from e)
  cases h
  unfold intOf at e1
  split at e1
  · rename_i h
    cases e1
    obtain ⟨h1, h2⟩ := h
    cases hv
    rw [h1, ← strOf_toS]
    exact PySem.W.KIN.call_num (by omega) (by omega) (Res.now S (.int _ _) q)
  · cases e1
theorem p_int {v r : V} {cv : Value} (S : SR c as X H s) (hv : VR c as X s.heap v cv) (e : pInt [v] H = some (r, H')) (q : Q r H') : wpAny c.M A (call (.type "int") [cv]) (Res c as X s.heap Q) E s := by
  cases v with
  | bool b => exact p_intb S hv e q
  | str s => exact p_ints S hv e q
  | _ => cases e

theorem strs_some : ∀ {vs : List V} {ss : List (List Char)}, strs? vs = some ss → vs = ss.map V.str
  | [], ss, h => by cases h; rfl
  | v :: vs, ss, h => by
    cases v with
    | str t =>
      obtain ⟨r, h1, rfl⟩ := Option.map_eq_some_iff.mp h
      rw [strs_some h1]; rfl
    | _ => cases h
theorem strsAre_of {h : HP} : ∀ {ss : List (List Char)} {xs : List Value}, VRs c as X h (ss.map V.str) xs → StrsAre xs (ss.map toS)
  | [], _, r => by cases r; exact .nil
  | t :: ss, _, r => by
    cases r with
    | cons a r => cases a; exact .cons _ _ (strsAre_of r)
theorem join_toS (sep : List Char) : ∀ ss : List (List Char), Str.join (toS sep) (ss.map toS) = toS (joinL sep ss)
  | [] => rfl
  | [x] => rfl
  | x :: y :: r => by
    show toS x ++ toS sep ++ Str.join (toS sep) ((y :: r).map toS) = _
    rw [join_toS sep (y :: r), toS_append, toS_append]; rfl
theorem join_sum (sep : List Char) : ∀ ss : List (List Char), (ss.map fun t => t.length).sum ≤ (joinL sep ss).length
  | [] => Nat.le_refl _
  | [x] => by simp [joinL]
  | x :: y :: r => by
    have := join_sum sep (y :: r)
    show ((x :: y :: r).map fun t => t.length).sum ≤ (x ++ sep ++ joinL sep (y :: r)).length
    rw [List.length_append, List.length_append, List.map_cons, List.sum_cons]
    omega
theorem p_join {v w r : V} {cv cw : Value} (S : SR c as X H s) (hv : VR c as X s.heap v cv) (hw : VR c as X s.heap w cw) (e : pJoin [v, w] H = some (r, H')) (q : Q r H') : wpAny c.M A (call (.builtin "str.join") [cv, cw]) (Res c as X s.heap Q) E s := by
  cases v with
  | str sep =>
    obtain ⟨ss, h1, e1⟩ := Option.bind_eq_some_iff.mp (show ((view H w).bind strs?).bind _ = _ from e)
    obtain ⟨vs, h2, h3⟩ := Option.bind_eq_some_iff.mp h1
    have hvs := strs_some h3
    subst hvs
    split at e1
    · rename_i hb
      cases e1
      obtain ⟨b1, b2, h8⟩ := hb
      obtain ⟨a, items, rfl, hp, rr, hs⟩ := view_at S hw h2
      have hz := sizeOf'_bnd
      have hz2 : sizeOf' = 1000000 := rfl
      have hsm := join_sum sep ss
      cases hv with
      | str _ t hl =>
        refine join_list hp.isList (strsAre_of rr) ?_ fun t' k => ?_
        · rw [List.map_map, List.length_map, toS_length]
          have e1 : (ss.map ((fun x : Str => x.length) ∘ toS)) = ss.map fun t => t.length := List.map_congr_left fun t _ => toS_length t
          rw [e1]
          have : ss.length * sep.length ≤ 1000000 * 8 := Nat.mul_le_mul (by omega) h8
          omega
        · show Res c as X s.heap Q (.str (Builtin.Str.glued _ _) t') _
          rw [StrLaws.glued_eq_join, join_toS]
          exact Res.now S (.str _ _ (by omega)) q
    · cases e1
  | _ => cases e

theorem split_here {c : Char} : ∀ {l r acc : List Char}, c ∉ l → splitC c (l ++ c :: r) acc = (acc.reverse ++ l) :: splitC c r []
  | [], r, acc, _ => by simp [splitC]
  | x :: l, r, acc, h => by
    have hx : x ≠ c := fun e => h (e ▸ .head _)
    show (if x = c then _ else splitC c (l ++ c :: r) (x :: acc)) = _
    rw [if_neg hx, split_here fun q => h (.tail _ q)]
    simp
theorem split_end {c : Char} : ∀ {l acc : List Char}, c ∉ l → splitC c l acc = [acc.reverse ++ l]
  | [], acc, _ => by simp [splitC]
  | x :: l, acc, h => by
    have hx : x ≠ c := fun e => h (e ▸ .head _)
    show (if x = c then _ else splitC c l (x :: acc)) = _
    rw [if_neg hx, split_end fun q => h (.tail _ q)]
    simp
theorem split_join {c : Char} : ∀ {w : List Char} {ws : List (List Char)}, (∀ x ∈ w :: ws, c ∉ x) → splitC c (joinL [c] (w :: ws)) [] = w :: ws
  | w, [], h => by
    show splitC c w [] = _
    rw [split_end (h w (.head _))]; rfl
  | w, v :: ws, h => by
    show splitC c (w ++ [c] ++ joinL [c] (v :: ws)) [] = _
    rw [List.append_assoc, List.singleton_append, split_here (h w (.head _)), split_join fun x hx => h x (.tail _ hx)]
    rfl
theorem cps_append (a b : Str) : (a ++ b).cps.toList = a.cps.toList ++ b.cps.toList := by
  show (a.cps ++ b.cps).toList = _
  rw [Array.toList_append]
theorem mem_strJoin {sep : Str} {n : Nat} : ∀ {P : List Str} {p : Str}, p ∈ P → n ∈ p.cps.toList → n ∈ (Str.join sep P).cps.toList
  | [x], p, hp, hn => by
    cases hp with
    | head => exact hn
    | tail _ h => cases h
  | x :: y :: r, p, hp, hn => by
    show n ∈ (x ++ sep ++ Str.join sep (y :: r)).cps.toList
    rw [cps_append, cps_append, List.mem_append, List.mem_append]
    cases hp with
    | head => exact .inl (.inl hn)
    | tail _ h => exact .inr (mem_strJoin h hn)
theorem back_toS {p : Str} {s : List Char} (h : ∀ n ∈ p.cps.toList, n ∈ (toS s).cps.toList) : toS (p.cps.toList.map Char.ofNat) = p := by
  have e : (p.cps.toList.map Char.ofNat).map Char.toNat = p.cps.toList := by
    rw [List.map_map]
    conv => rhs; rw [← List.map_id p.cps.toList]
    refine List.map_congr_left fun n hn => ?_
    have h1 := h n hn
    simp only [toS, List.mem_map] at h1
    obtain ⟨ch, _, rfl⟩ := h1
    simp
  unfold toS
  rw [e]
theorem split_toS (s : List Char) (c : Char) : Txt.split (toS s) (toS [c]) = (splitC c s []).map toS := by
  have e1 : toS [c] = ⟨#[c.toNat]⟩ := rfl
  rw [e1]
  have hj := StrLaws.join_split (toS s) ⟨#[c.toNat]⟩
  have hf := StrLaws.split_free (toS s) c.toNat
  have hb : ∀ p ∈ Txt.split (toS s) ⟨#[c.toNat]⟩, toS (p.cps.toList.map Char.ofNat) = p := fun p hp => back_toS (s := s) fun n hn => by rw [← hj]; exact mem_strJoin hp hn
  generalize hP : Txt.split (toS s) ⟨#[c.toNat]⟩ = P at hj hf hb
  have hQ : P = (P.map fun p => p.cps.toList.map Char.ofNat).map toS := by
    rw [List.map_map]
    conv => lhs; rw [← List.map_id P]
    exact List.map_congr_left fun p hp => (hb p hp).symm
  generalize P.map (fun p => p.cps.toList.map Char.ofNat) = L at hQ
  subst hQ
  rw [← e1, join_toS] at hj
  have hs := toS_inj hj
  cases L with
  | nil =>
    exfalso
    have hs' : s = [] := hs.symm
    subst hs'
    have : Txt.split (toS []) ⟨#[c.toNat]⟩ = [toS []] := rfl
    rw [this] at hP
    cases hP
  | cons w ws =>
    rw [← hs, split_join fun x hx q => hf (toS x) (List.mem_map_of_mem hx) ?_]
    simp only [toS, List.mem_map]
    exact ⟨c, q, rfl⟩
theorem call_split {x y : Str} {t u : Tok} {R : Value → Shared → Prop} (hy : (y.length == 0) = false) (hsz : x.length + 2 ≤ sizeLine)
    (h : ∀ l k, l.map (·.1) = Txt.split x y → R (.ref s.heap.objs.size) { s with heap := s.heap.push { cls := .type "list", data := .seq (strValues l).toArray }, toks := k }) :
    wpAny c.M A (call (.builtin "str.split") [.str x t, .str y u]) R E s := by
  have run : ∀ {S : PySem.Spec}, Meets (Builtin.«str.split» ⟨[.str x t, .str y u], []⟩) S → S A (wants R E) s → wpAny c.M A (call (.builtin "str.split") [.str x t, .str y u]) R E s := fun m g =>
    call_meets F.slot_str_split (typeIs_str _ _ _) F.entry_str_split (F.args_str_split_2 _ _) m g
  have hsp : Txt.split x y = if (decide (x.length < y.length) || decide (Builtin.Str.strKind x < Builtin.Str.strKind y)) = true then [x] else if (Builtin.Str.occurrences x y 0 x.length (x.length + 1)).isEmpty = true then [x] else Builtin.Str.partsBetween x (Builtin.Str.occurrences x y 0 x.length (x.length + 1)) y.length := rfl
  by_cases h1 : (decide (x.length < y.length) || decide (Builtin.Str.strKind x < Builtin.Str.strKind y)) = true
  · exact run (meets_str_split_cannot_occur x y t u h1) (h [(x, t)] s.toks (by rw [hsp, if_pos h1]; rfl))
  · have h1' := Bool.eq_false_iff.mpr h1
    by_cases hf : (Builtin.Str.occurrences x y 0 x.length (x.length + 1)).isEmpty = true
    · exact run (meets_str_split_not_found x y t u h1' hy hf) (h [(x, t)] s.toks (by rw [hsp, if_neg h1, if_pos hf]; rfl))
    · have hn : (Builtin.Str.partsBetween x (Builtin.Str.occurrences x y 0 x.length (x.length + 1)) y.length).length ≤ sizeLine := by
        have e1 := StrLaws.occ_length_le x y 0 x.length (x.length + 1)
        rw [length_partsBetween]; omega
      refine run (meets_str_split_sep x y t u h1' hy (Bool.eq_false_iff.mpr hf) (by omega) hn) ?_
      have := h (numbered s.toks (Builtin.Str.partsBetween x (Builtin.Str.occurrences x y 0 x.length (x.length + 1)) y.length)) (s.toks + (Builtin.Str.partsBetween x (Builtin.Str.occurrences x y 0 x.length (x.length + 1)) y.length).length) (by rw [hsp, if_neg h1, if_neg hf, numbered_texts])
      rw [← strsFrom_eq] at this
      exact this
theorem vrs_values {h : HP} : ∀ {l : List (Str × Tok)} {ss : List (List Char)}, l.map (·.1) = ss.map toS → (∀ t ∈ ss, t.length ≤ bnd) → VRs c as X h (ss.map V.str) (strValues l)
  | [], [], _, _ => .nil
  | p :: l, t :: ss, e, hb => by
    obtain ⟨e1, e2⟩ := List.cons.inj e
    obtain ⟨x, u⟩ := p
    cases e1
    exact .cons (.str _ _ (hb t (.head _))) (vrs_values e2 fun z hz => hb z (.tail _ hz))
  | [], _ :: _, e, _ => by cases e
  | _ :: _, [], e, _ => by cases e
theorem splitC_len (c : Char) : ∀ (s acc : List Char), (splitC c s acc).length ≤ s.length + 1 ∧ ∀ t ∈ splitC c s acc, t.length ≤ s.length + acc.length
  | [], acc => ⟨Nat.le_refl _, fun t ht => by
    cases ht with
    | head => simp
    | tail _ h => cases h⟩
  | x :: r, acc => by
    show (if x = c then acc.reverse :: splitC c r [] else splitC c r (x :: acc)).length ≤ _ ∧ ∀ t ∈ (if x = c then acc.reverse :: splitC c r [] else splitC c r (x :: acc)), _
    by_cases h : x = c
    · rw [if_pos h]
      obtain ⟨h1, h2⟩ := splitC_len c r []
      refine ⟨by rw [List.length_cons, List.length_cons]; omega, fun t ht => ?_⟩
      cases ht with
      | head => rw [List.length_reverse, List.length_cons]; omega
      | tail _ ht =>
        have := h2 t ht
        rw [List.length_cons]
        simp only [List.length_nil] at this
        omega
    · rw [if_neg h]
      obtain ⟨h1, h2⟩ := splitC_len c r (x :: acc)
      refine ⟨by rw [List.length_cons]; omega, fun t ht => ?_⟩
      have := h2 t ht
      rw [List.length_cons] at this ⊢
      omega
theorem splitV_some {v w r : V} (e : splitV v w = some r) : ∃ s c, v = .str s ∧ w = .str [c] ∧ s.length ≤ sizeOf' ∧ r = .lst ((splitC c s []).map V.str) := by
  cases v <;> first | (cases e; done) | skip
  cases w <;> first | (cases e; done) | skip
  rename_i s t
  match t, e with
  | [], e => cases e
  | [c], e =>
    have e' : (if s.length ≤ sizeOf' then some (V.lst ((splitC c s []).map V.str)) else none) = some r := e
    split at e'
    · rename_i h; exact ⟨s, c, rfl, rfl, h, (Option.some.inj e').symm⟩
    · cases e'
  | _ :: _ :: _, e => cases e
theorem pSplit_lst {v w r : V} (e : pSplit [v, w] H = some (r, H')) : ∃ ws, r = .lst ws ∧ H' = H := by
  obtain ⟨z, e1, h⟩ := Option.map_eq_some_iff.mp (show (splitV v w).map _ = _ from e)
  cases h
  obtain ⟨s, c, _, _, _, rfl⟩ := splitV_some e1
  exact ⟨_, rfl, rfl⟩
theorem p_split {v w : V} {ws : List V} {cv cw : Value} {R : Value → Shared → Prop} (S : SR c as X H s) (hv : VR c as X s.heap v cv) (hw : VR c as X s.heap w cw) (e : pSplit [v, w] H = some (.lst ws, H')) (hR : ∀ x s', FreshL c as X s ws x s' → R x s') :
    wpAny c.M A (call (.builtin "str.split") [cv, cw]) R E s := by
  obtain ⟨z, e1, h⟩ := Option.map_eq_some_iff.mp (show (splitV v w).map _ = _ from e)
  obtain ⟨t, ch, rfl, rfl, hl, rfl⟩ := splitV_some e1
  cases h
  cases hv
  cases hw
  have hz := sizeOf'_bnd
  have hz2 : sizeOf' = 1000000 := rfl
  have hz3 := sizeLine_eq
  obtain ⟨l1, l2⟩ := splitC_len ch t []
  refine call_split rfl (by rw [toS_length]; omega) fun l k hl' => ?_
  rw [split_toS] at hl'
  exact hR _ _ (freshL_G S (.push _ _) (Heap.get?_push_size _ rfl) (by
    show VRs c as X s.heap _ (strValues l).toArray.toList
    exact vrs_values hl' fun t ht => by have := l2 t ht; simp only [List.length_nil] at this; omega) (by rw [List.length_map]; omega))
end
end Mine

end
noncomputable section
namespace Mine
open PySem PySem.Calls PyProof.Rows

inductive Gl where
  | fn (f : Nat)
  | cst (v : V)
  | bi (b : String)
  | ty (t : String)
  | exc (c : Nat)
  | cls (c f : Nat)

/-- what the compiler knows of a block -/
structure Tb where
  gl : List (Str × Gl)
  meths : List (Str × Nat)
  names : List (Str × NameKind)
  tab : List (Str × Nat)
  n : Nat
  mu : List (Nat × Nat)
  fz : List (Nat × List Nat)

noncomputable def Tb.isMu (T : Tb) (p : Pos) : Bool := T.mu.contains (p.line, p.col)

noncomputable def fromS (s : Str) : Option (List Char) :=
  if toS (s.cps.toList.map Char.ofNat) = s ∧ (s.cps.toList.map Char.ofNat).length ≤ 1000 then some (s.cps.toList.map Char.ofNat) else none
noncomputable def cConst : Const → Option Ex
  | .none => some (.cst .none)
  | .bool b => some (.cst (.bool b))
  | .int i => some (.cst (.int i))
  | .str s => (fromS s).map fun l => .cst (.str l)
  | _ => none
noncomputable def Tb.var (T : Tb) (x : Str) : Option Nat :=
  if x == ("__debug__" : Str) || x == ("__classdict__" : Str) then none else
  match T.names.lookup x with
  | some .local | some .cell | some .free => T.tab.lookup x
  | _ => none
noncomputable def Tb.glob (T : Tb) (x : Str) : Option Gl :=
  if x == ("__debug__" : Str) then none else
  match T.names.lookup x with
  | some .globalImplicit => T.gl.lookup x
  | _ => none
noncomputable def cName (T : Tb) (x : Str) : Option Ex :=
  match T.var x with
  | some i => some (.var i)
  | none => match T.glob x with
    | some (.cst v) => some (.cst v)
    | _ => none
noncomputable def bopOf : Operator → Option Bop
  | .Add => some .add | .Sub => some .sub | .Mult => some .mul | .FloorDiv => some .fdiv | .Mod => some .mod | .Pow => some .pow
  | _ => none
noncomputable def copOf? : CmpOp → Cop
  | .Eq => .eq | .NotEq => .ne | .Lt => .lt | .LtE => .le | .Gt => .gt | .GtE => .ge | .Is => .is | .IsNot => .isnot | .In => .in_ | .NotIn => .notin
noncomputable def mapO {α β : Type} (f : α → Option β) : List α → Option (List β)
  | [] => some []
  | a :: r => match f a, mapO f r with
    | some b, some s => some (b :: s)
    | _, _ => none
noncomputable def boolEx (op : BoolOp) : List Ex → Option Ex
  | [] => none
  | [x] => some x
  | x :: r => (boolEx op r).map fun y => match op with | .And => .and x y | .Or => .or x y

noncomputable def tyOf (t : String) : Option Ty :=
  if t = "int" then some .int else if t = "bool" then some .bool else if t = "str" then some .str else if t = "list" then some .list else if t = "tuple" then some .tuple else none
/-- a call of a built-in function or type -/
noncomputable def biPrim (b : String) (n : Nat) : Option Prim :=
  if b = "len" ∧ n = 1 then some .len else
  if b = "all" ∧ n = 1 then some .all else
  none
noncomputable def tyPrim (t : String) (n : Nat) : Option Prim :=
  if t = "range" ∧ n = 1 then some .range1 else
  if t = "list" ∧ n = 1 then some .list else
  if t = "str" ∧ n = 1 then some .str else
  if t = "int" ∧ n = 1 then some .int else
  none
noncomputable def methPrim (m : Str) (n : Nat) : Option (Mt × Prim) :=
  if m = Str.ofString "append" ∧ n = 1 then some (.list, .append) else
  if m = Str.ofString "join" ∧ n = 1 then some (.str, .join) else if m = Str.ofString "split" ∧ n = 1 then some (.str, .split) else
  none

noncomputable def isSlice : Expr → Bool
  | .Slice .. => true
  | _ => false
noncomputable def isComp : Expr → Bool
  | .ListComp .. | .SetComp .. | .DictComp .. => true
  | _ => false

/-- a comprehension's block is plain, and all that it takes from outside lies in cells -/
noncomputable def compOk (T : Tb) (x : Str) (sc : Scope) : Bool :=
  decide (sc.kind = .function) && T.tab.all (fun p => decide (p.2 < T.n)) && decide (sc.names.lookup x = some .local) &&
  sc.names.all (fun p => decide (sc.names.lookup p.1 = some p.2) && (match p.2 with
    | .local => decide (p.1 = x) || (T.tab.lookup p.1).isNone
    | .cell => false
    | .free => (decide (T.names.lookup p.1 = some .cell) || decide (T.names.lookup p.1 = some .free)) && (T.tab.lookup p.1).isSome && decide (p.1 ≠ x)
    | _ => true))

noncomputable def attrOk : Expr → Bool
  | .Call .. => false
  | _ => true


abbrev RecE := Tb → Expr → Option Ex
abbrev compTb (T : Tb) (x : Str) (sc : Scope) : Tb := { T with names := sc.names, tab := (x, T.n) :: T.tab, n := T.n + 1 }
noncomputable def cUn (op : UnaryOp) (a : Ex) : Option Ex := match op with
  | .Not => some (.prim false .not [a])
  | .USub => some (.prim false .neg [a])
  | _ => none
noncomputable def cCmp (r : Expr → Option Ex) (l : Expr) (ops : List CmpOp) (rs : List Expr) : Option Ex := match ops, rs with
  | [op], [x] => (r l).bind fun a => (r x).map fun b => .prim false (.cop (copOf? op)) [a, b]
  | [o₁, o₂], [m, x] => (r l).bind fun a => (r m).bind fun b => (r x).map fun c => .cmp2 a (copOf? o₁) b (copOf? o₂) c
  | _, _ => none
/-- isinstance(x, T) -/
noncomputable def cIsi (r : Expr → Option Ex) (T : Tb) (args : List Expr) : Option Ex := match args with
  | [x, .Name t _] => (T.glob t).bind fun g => (match g with | .ty tn => (tyOf tn).bind fun ty => (r x).map fun a => .prim false (.isinst ty) [a] | _ => none)
  | _ => none
noncomputable def cGl (r : Expr → Option Ex) (T : Tb) (args : List Expr) (pos : Pos) (g : Gl) : Option Ex := match g with
  | .fn i => (mapO r args).map fun es => .call i es
  | .bi b => if b = "isinstance" then cIsi r T args else (biPrim b args.length).bind fun p => (mapO r args).map fun es => .prim false p es
  | .ty t => (tyPrim t args.length).bind fun p => (mapO r args).map fun es => .prim (T.isMu pos) p es
  | _ => none
noncomputable def cCall (r : Expr → Option Ex) (T : Tb) (f : Expr) (args : List Expr) (kws : List Keyword) (pos : Pos) : Option Ex := match kws with
  | [] => (match f with
    | .Name g _ => (T.glob g).bind (cGl r T args pos)
    | .Attribute o name apos => if attrOk o = true ∧ apos.endLine = pos.line then
        (methPrim name args.length).bind fun tp => (r o).bind fun a => (mapO r args).map fun es => .mcall tp.1 (T.isMu pos && tp.2.fresh) tp.2 a es
        else none
    | _ => none)
  | _ :: _ => none
noncomputable def cComp (r : RecE) (T : Tb) (elt : Expr) (gens : List Comprehension) (sc : Scope) (pos : Pos) : Option Ex := match gens with
  | [⟨.Name x _, it, ifs, ia⟩] => if ia = 0 ∧ compOk T x sc = true then
      (r T it).bind fun i => (r (compTb T x sc) elt).bind fun b => (match ifs with
        | [] => some (.comp (T.isMu pos) b i none)
        | [t] => (r (compTb T x sc) t).map fun q => .comp (T.isMu pos) b i (some q)
        | _ => none)
      else none
  | _ => none
noncomputable def cOpt (r : Expr → Option Ex) (o : Option Expr) : Option Ex := match o with
  | none => some (.cst .none)
  | some e => r e
noncomputable def isNm : Expr → Bool
  | .Name _ _ => true
  | _ => false
noncomputable def cSub (r : Expr → Option Ex) (v sl : Expr) : Option Ex := match sl with
  | .Slice lo hi st _ => if st.isNone && isNm v then (r v).bind fun a => (cOpt r lo).bind fun b => (cOpt r hi).map fun c => .prim false .slice [a, b, c] else none
  | sl => if isSlice sl then none else (r v).bind fun a => (r sl).map fun b => .prim false .item [a, b]

noncomputable def cE : Nat → Tb → Expr → Option Ex
  | 0, _, _ => none
  | k + 1, T, e => match e with
    | .Constant c _ _ => cConst c
    | .Name x _ => cName T x
    | .BinOp l op r pos => (bopOf op).bind fun o => (cE k T l).bind fun a => (cE k T r).map fun b => .prim (T.isMu pos) (.bop o) [a, b]
    | .UnaryOp op x _ => (cE k T x).bind (cUn op)
    | .BoolOp op vs _ => (mapO (cE k T) vs).bind (boolEx op)
    | .Compare l ops rs _ => cCmp (cE k T) l ops rs
    | .Call f args kws pos => cCall (cE k T) T f args kws pos
    | .Subscript v sl _ => cSub (cE k T) v sl
    | .List es pos => (mapO (cE k T) es).map fun xs => .prim (T.isMu pos) .mklist xs
    | .Tuple es _ _ => (mapO (cE k T) es).map fun xs => .prim false .mktup xs
    | .ListComp elt gens sc pos => cComp (cE k) T elt gens sc pos
    | _ => none

noncomputable def Tb.slot (T : Tb) (x : Str) : Option Nat :=
  match T.names.lookup x with
  | some .local | some .cell => match T.tab.lookup x with
    | some i => if i < T.n then some i else none
    | none => none
  | _ => none

noncomputable def withFz (_ : Tb) (_ : Nat) (s : St) : List St := [s]

noncomputable def flatO : Option (List (List St)) → Option (List St)
  | some l => some l.flatten
  | none => none

noncomputable def cS : Nat → Tb → Stmt → Option (List St)
  | 0, _, _ => none
  | k + 1, T, s => match s with
    | .Assign ts v pos => (match ts with
      | [.Name x _] => (T.slot x).bind fun i => (cE k T v).map fun e => withFz T pos.line (.asg i e)
      | _ => none)
    | .Expr v pos => if isComp v then none else (cE k T v).map fun e => withFz T pos.line (.expr e)
    | .If t a b pos => (cE k T t).bind fun c => (flatO (mapO (cS k T) a)).bind fun xs => (flatO (mapO (cS k T) b)).map fun ys => withFz T pos.line (.ite c xs ys)
    | .For t it body els pos => (match t, els with
      | .Name x _, [] => (T.slot x).bind fun i => (cE k T it).bind fun e => (flatO (mapO (cS k T) body)).map fun xs => withFz T pos.line (.forIn false (.inl i) e xs)
      | _, _ => none)
    | .Return v _ => (match v with
      | some e => (cE k T e).map fun x => [.ret x]
      | none => some [.ret (.cst .none)])
    | .Raise _ _ _ => some [.expr (.var T.n)]
    | _ => none
noncomputable def cSs (k : Nat) (T : Tb) (b : List Stmt) : Option (List St) := flatO (mapO (cS k T) b)

end Mine

end
noncomputable section
namespace Mine
open PySem

structure CMono (C : Calls) : Prop where
  h : ∀ {f : Nat} {vs : List V} {H : AH} {Q Q' : QE} {X X' : XE}, (∀ v H, Q v H → Q' v H) → (∀ k H, X k H → X' k H) → C f vs H Q X → C f vs H Q' X'

theorem okE_mono {r : Option (V × AH)} {Q Q' : QE} (h : ∀ v H, Q v H → Q' v H) : okE r Q → okE r Q' := by
  unfold okE
  split
  · exact h _ _
  · exact id
theorem okB_mono {r : Option Bool} {K K' : Bool → Prop} (h : ∀ b, K b → K' b) : okB r K → okB r K' := by
  unfold okB
  split
  · exact h _
  · exact id
theorem compL_mono {F F' : V → AH → (Option V → AH → Prop) → Prop} {ok : AH → Prop} (hF : ∀ v H K K', (∀ r H, K r H → K' r H) → F v H K → F' v H K') :
    ∀ {vs acc : List V} {H : AH} {Q Q' : List V → AH → Prop}, (∀ ys H, Q ys H → Q' ys H) → compL F ok vs acc H Q → compL F' ok vs acc H Q'
  | [], _, _, _, _, hQ, ⟨h1, h2⟩ => ⟨h1, hQ _ _ h2⟩
  | _ :: _, _, _, _, _, hQ, ⟨h1, h2⟩ => ⟨h1, hF _ _ _ _ (fun _ _ => compL_mono hF hQ) h2⟩
theorem forL_mono {F F' : V → Fm → AH → KS → Prop} {ok : AH → Prop} (hF : ∀ v ρ H K K', (∀ ρ H, K ρ H → K' ρ H) → F v ρ H K → F' v ρ H K') :
    ∀ {vs : List V} {ρ : Fm} {H : AH} {K K' : KS}, (∀ ρ H, K ρ H → K' ρ H) → forL F ok vs ρ H K → forL F' ok vs ρ H K'
  | [], _, _, _, _, hQ, ⟨h1, h2⟩ => ⟨h1, hQ _ _ h2⟩
  | _ :: _, _, _, _, _, hQ, ⟨h1, h2⟩ => ⟨h1, hF _ _ _ _ _ (fun _ _ => forL_mono hF hQ) h2⟩
theorem whileL_mono {F F' : Fm → AH → KS → KS → Prop} (hF : ∀ ρ H K₁ K₁' K₂ K₂', (∀ ρ H, K₁ ρ H → K₁' ρ H) → (∀ ρ H, K₂ ρ H → K₂' ρ H) → F ρ H K₁ K₂ → F' ρ H K₁' K₂') :
    ∀ {k : Nat} {ρ : Fm} {H : AH} {K K' : KS}, (∀ ρ H, K ρ H → K' ρ H) → whileL F k ρ H K → whileL F' k ρ H K'
  | 0, _, _, _, _, _, h => h.elim
  | _ + 1, _, _, _, _, hQ, h => hF _ _ _ _ _ _ (fun _ _ => whileL_mono hF hQ) hQ h

mutual
theorem wpE_mono {P : Prog} {C : Calls} (hC : CMono C) : ∀ (e : Ex) {ρ : Fm} {H : AH} {Q Q' : QE} {X X' : XE}, (∀ v H, Q v H → Q' v H) → (∀ k H, X k H → X' k H) → wpE P C e ρ H Q X → wpE P C e ρ H Q' X'
  | .cst v, _, _, _, _, _, _, hQ, _, h => hQ _ _ h
  | .var i, _, _, _, _, _, _, hQ, _, h => by
    rw [wpE_var] at h ⊢
    split at h
    · exact hQ _ _ h
    · exact h.elim
  | .prim mu p args, _, _, _, _, _, _, hQ, hX, h => by
    rw [wpE_prim] at h ⊢
    exact wpEs_mono hC args (fun _ _ => okE_mono hQ) hX h
  | .and a b, _, _, _, _, _, _, hQ, hX, h => by
    rw [wpE_and] at h ⊢
    refine wpE_mono hC a (fun v H' => okB_mono fun t => ?_) hX h
    cases t
    · exact hQ _ _
    · exact wpE_mono hC b hQ hX
  | .or a b, _, _, _, _, _, _, hQ, hX, h => by
    rw [wpE_or] at h ⊢
    refine wpE_mono hC a (fun v H' => okB_mono fun t => ?_) hX h
    cases t
    · exact wpE_mono hC b hQ hX
    · exact hQ _ _
  | .cmp2 a o₁ b o₂ c, _, _, _, _, _, _, hQ, hX, h => by
    rw [wpE_cmp2] at h ⊢
    refine wpE_mono hC a (fun x H₁ => wpE_mono hC b (fun y H₂ => okB_mono fun t => ?_) hX) hX h
    cases t
    · exact hQ _ _
    · exact wpE_mono hC c (fun z H₃ => okB_mono fun t' => hQ _ _) hX
  | .call f args, _, _, _, _, _, _, hQ, hX, h => by
    rw [wpE_call] at h ⊢
    exact wpEs_mono hC args (fun _ _ => hC.h hQ hX) hX h
  | .meth k f name o args, _, _, _, _, _, _, hQ, hX, h => by
    rw [wpE_meth] at h ⊢
    exact wpE_mono hC o (fun v H₁ q => ⟨q.1, wpEs_mono hC args (fun vs H' => hC.h hQ hX) hX q.2⟩) hX h
  | .mcall t mu p o args, _, _, _, _, _, _, hQ, hX, h => by
    rw [wpE_mcall] at h ⊢
    exact wpE_mono hC o (fun v H₁ q => ⟨q.1, wpEs_mono hC args (fun vs H' => okE_mono hQ) hX q.2⟩) hX h
  | .new k f args, _, _, _, _, _, _, hQ, hX, h => by
    rw [wpE_new] at h ⊢
    exact wpEs_mono hC args (fun vs H' => hC.h (fun _ _ => hQ _ _) hX) hX h
  | .comp mu elt it none, _, _, _, _, _, _, hQ, hX, h => by
    rw [wpE_comp] at h ⊢
    refine wpE_mono hC it (fun v H₁ q => ?_) hX h
    obtain ⟨items, h1, h2, h3⟩ := q
    refine ⟨items, h1, h2, compL_mono ?_ (fun ys H₂ => okE_mono hQ) h3⟩
    intro v H K K' hK q
    exact wpE_mono hC elt (fun y H'' => hK _ _) hX q
  | .comp mu elt it (some c), _, _, _, _, _, _, hQ, hX, h => by
    rw [wpE_compIf] at h ⊢
    refine wpE_mono hC it (fun v H₁ q => ?_) hX h
    obtain ⟨items, h1, h2, h3⟩ := q
    refine ⟨items, h1, h2, compL_mono ?_ (fun ys H₂ => okE_mono hQ) h3⟩
    intro v H K K' hK q
    refine wpE_mono hC c (fun b H₂ => okB_mono fun t => ?_) hX q
    cases t
    · exact hK _ _
    · exact wpE_mono hC elt (fun y H'' => hK _ _) hX
theorem wpEs_mono {P : Prog} {C : Calls} (hC : CMono C) : ∀ (es : List Ex) {ρ : Fm} {H : AH} {Q Q' : List V → AH → Prop} {X X' : XE}, (∀ v H, Q v H → Q' v H) → (∀ k H, X k H → X' k H) → wpEs P C es ρ H Q X → wpEs P C es ρ H Q' X'
  | [], _, _, _, _, _, _, hQ, _, h => hQ _ _ h
  | e :: es, _, _, _, _, _, _, hQ, hX, h => by
    rw [wpEs_cons] at h ⊢
    exact wpE_mono hC e (fun v H' => wpEs_mono hC es (fun vs H'' => hQ _ _) hX) hX h
end
mutual
theorem wpS_mono {P : Prog} {C : Calls} (hC : CMono C) : ∀ (s : St) {ρ : Fm} {H : AH} {K K' : KS} {R R' : QE} {X X' : XE}, (∀ ρ H, K ρ H → K' ρ H) → (∀ v H, R v H → R' v H) → (∀ k H, X k H → X' k H) → wpS P C s ρ H K R X → wpS P C s ρ H K' R' X'
  | .asg i e, _, _, _, _, _, _, _, _, hK, hR, hX, h => by
    rw [wpS_asg] at h ⊢
    exact wpE_mono hC e (fun v H' q => ⟨q.1, hK _ _ q.2⟩) hX h
  | .asgTup is e, _, _, _, _, _, _, _, _, hK, hR, hX, h => by
    rw [wpS_asgTup] at h ⊢
    refine wpE_mono hC e (fun v H' q => ?_) hX h
    split at q
    · exact hK _ _ q
    · exact q.elim
  | .setItem o i e, _, _, _, _, _, _, _, _, hK, hR, hX, h => by
    rw [wpS_setItem] at h ⊢
    refine wpE_mono hC e (fun x H₁ => wpE_mono hC o (fun ov H₂ => wpE_mono hC i (fun iv H₃ q => ?_) hX) hX) hX h
    split at q
    · exact hK _ _ q
    · exact q.elim
  | .setAttr o n e, _, _, _, _, _, _, _, _, hK, hR, hX, h => by
    rw [wpS_setAttr] at h ⊢
    refine wpE_mono hC e (fun x H₁ => wpE_mono hC o (fun ov H₂ q => ?_) hX) hX h
    split at q
    · exact hK _ _ q
    · exact q.elim
  | .expr e, _, _, _, _, _, _, _, _, hK, hR, hX, h => by
    rw [wpS_expr] at h ⊢
    exact wpE_mono hC e (fun v H' => hK _ _) hX h
  | .ite c a b, _, _, _, _, _, _, _, _, hK, hR, hX, h => by
    rw [wpS_ite] at h ⊢
    refine wpE_mono hC c (fun v H' => okB_mono fun t => ?_) hX h
    cases t
    · exact wpSs_mono hC b hK hR hX
    · exact wpSs_mono hC a hK hR hX
  | .forIn rev tgt e body, _, _, _, _, _, _, _, _, hK, hR, hX, h => by
    rw [wpS_forIn] at h ⊢
    refine wpE_mono hC e (fun v H₁ q => ?_) hX h
    obtain ⟨items, h1, h2, h3⟩ := q
    refine ⟨items, h1, h2, forL_mono (fun v ρ H K K' hK' q => ?_) hK h3⟩
    split at q
    · exact wpSs_mono hC body hK' hR hX q
    · exact q.elim
  | .while_ c body, _, _, _, _, _, _, _, _, hK, hR, hX, h => by
    rw [wpS_while] at h ⊢
    obtain ⟨k, h⟩ := h
    refine ⟨k, whileL_mono ?_ hK h⟩
    intro ρ H K₁ K₁' K₂ K₂' h1 h2 q
    refine wpE_mono hC c (fun v H' => okB_mono fun t => ?_) hX q
    cases t
    · exact h2 _ _
    · exact wpSs_mono hC body h1 hR hX
  | .ret e, _, _, _, _, _, _, _, _, hK, hR, hX, h => by
    rw [wpS_ret] at h ⊢
    exact wpE_mono hC e hR hX h
  | .raise c, _, _, _, _, _, _, _, _, hK, hR, hX, h => hX _ _ h
  | .try_ body cls as_ hd, _, _, _, _, _, _, _, _, hK, hR, hX, h => by
    rw [wpS_try] at h ⊢
    refine wpSs_mono hC body hK hR (fun c H' q => ?_) h
    split at q
    · rename_i hs
      rw [if_pos hs]
      cases as_ with
      | none => exact wpSs_mono hC hd hK hR hX q
      | some i => exact wpSs_mono hC hd (fun _ _ => hK _ _) hR hX q
    · rename_i hs
      rw [if_neg hs]
      exact hX _ _ q
  | .freeze i, _, _, _, _, _, _, _, _, hK, hR, hX, h => by
    rw [wpS_freeze] at h ⊢
    split at h
    · split at h
      · exact hK _ _ h
      · exact h.elim
    · exact h.elim
  | .pass, _, _, _, _, _, _, _, _, hK, hR, hX, h => hK _ _ h
theorem wpSs_mono {P : Prog} {C : Calls} (hC : CMono C) : ∀ (ss : List St) {ρ : Fm} {H : AH} {K K' : KS} {R R' : QE} {X X' : XE}, (∀ ρ H, K ρ H → K' ρ H) → (∀ v H, R v H → R' v H) → (∀ k H, X k H → X' k H) → wpSs P C ss ρ H K R X → wpSs P C ss ρ H K' R' X'
  | [], _, _, _, _, _, _, _, _, hK, _, _, h => hK _ _ h
  | s :: ss, _, _, _, _, _, _, _, _, hK, hR, hX, h => by
    rw [wpSs_cons] at h ⊢
    exact wpS_mono hC s (fun ρ' H' => wpSs_mono hC ss hK hR hX) hR hX h
end

theorem Ret_mono {H : AH} {Q Q' : QE} (h : ∀ v H, Q v H → Q' v H) {v : V} {H' : AH} : Ret H Q v H' → Ret H Q' v H' := by
  rintro (q | ⟨v', h1, h2, h3, q⟩)
  · exact .inl (h _ _ q)
  · exact .inr ⟨v', h1, h2, h3, h _ _ q⟩
theorem RetX_mono {H : AH} {X X' : XE} (h : ∀ k H, X k H → X' k H) {k : Nat} {H' : AH} : RetX H X k H' → RetX H X' k H' := by
  rintro (q | ⟨h1, q⟩)
  · exact .inl (h _ _ q)
  · exact .inr ⟨h1, h _ _ q⟩
theorem callF_mono (P : Prog) : ∀ n, CMono (callF P n)
  | 0 => ⟨fun _ _ h => h.elim⟩
  | n + 1 => ⟨fun hQ hX h => by
    rw [callF_succ] at h ⊢
    split at h
    · exact ⟨h.1, wpSs_mono (callF_mono P n) _ (fun _ _ => Ret_mono hQ) (fun _ _ => Ret_mono hQ) (fun _ _ => RetX_mono hX) h.2⟩
    · exact h.elim⟩
theorem wpEs_len {P : Prog} {n : Nat} : ∀ (xs : List Ex) {ρ : Fm} {H : AH} {Q : List V → AH → Prop} {X : XE}, wpEs P (callF P n) xs ρ H Q X → wpEs P (callF P n) xs ρ H (fun vs H' => vs.length = xs.length ∧ Q vs H') X
  | [], _, _, _, _, h => ⟨rfl, h⟩
  | e :: es, _, _, _, _, h => by
    rw [wpEs_cons] at h ⊢
    refine wpE_mono (callF_mono P n) e (fun v H' q => ?_) (fun _ _ x => x) h
    exact wpEs_mono (callF_mono P n) es (fun vs H'' q => ⟨by rw [List.length_cons, List.length_cons, q.1], q.2⟩) (fun _ _ x => x) (wpEs_len es q)
end Mine

end
noncomputable section
namespace Mine
open PySem PySem.Calls PyProof.Rows

/-- an exception on its way (none is handed on in this make) -/
noncomputable def ERes (_c : Cx) (_as : Adr) (_X : List Addr) (_h : HP) (_XX : XE) (_x : Value) (_s' : Shared) : Prop := False

noncomputable def ResL (c : Cx) (as : Adr) (X : List Addr) (h : HP) (Q : List V → AH → Prop) (xs : List Value) (s' : Shared) : Prop :=
  ∃ vs H' as', Ext as h as' ∧ SR c as' X H' s' ∧ Kept as h s'.heap ∧ VRs c as' X s'.heap vs xs ∧ Q vs H'
noncomputable def ResB (c : Cx) (as : Adr) (X : List Addr) (h : HP) (Q : Bool → AH → Prop) (b : Bool) (s' : Shared) : Prop :=
  ∃ H' as', Ext as h as' ∧ SR c as' X H' s' ∧ Kept as h s'.heap ∧ Q b H'

section
variable {c : Cx} {as as₁ : Adr} {X : List Addr} {h h₁ : HP} {s' : Shared}
theorem Res.lift {Q : QE} {x : Value} (e : Ext as h as₁) (k : Kept as h h₁) (r : Res c as₁ X h₁ Q x s') : Res c as X h Q x s' := by
  obtain ⟨v, H', as', e', S, k', hv, q⟩ := r
  exact ⟨v, H', as', e.trans k e', S, k.trans e k', hv, q⟩
theorem ResL.lift {Q : List V → AH → Prop} {x : List Value} (e : Ext as h as₁) (k : Kept as h h₁) (r : ResL c as₁ X h₁ Q x s') : ResL c as X h Q x s' := by
  obtain ⟨v, H', as', e', S, k', hv, q⟩ := r
  exact ⟨v, H', as', e.trans k e', S, k.trans e k', hv, q⟩
theorem ResB.lift {Q : Bool → AH → Prop} {x : Bool} (e : Ext as h as₁) (k : Kept as h h₁) (r : ResB c as₁ X h₁ Q x s') : ResB c as X h Q x s' := by
  obtain ⟨H', as', e', S, k', q⟩ := r
  exact ⟨H', as', e.trans k e', S, k.trans e k', q⟩
theorem ERes.lift {XX : XE} {x : Value} (_e : Ext as h as₁) (_k : Kept as h h₁) (r : ERes c as₁ X h₁ XX x s') : ERes c as X h XX x s' := r.elim
end

structure AOk (A : Around) (n : Nat) : Prop where
  hh : A.handled = none
  hd : A.depth + 2 * n + 5 ≤ recursionLimit
  hu : A.units + 10 * n + 300 < cLine
theorem AOk.u64 {A : Around} {n : Nat} (a : AOk A n) : A.units + 64 < cLine := by have := a.hu; omega

/-- the block's names are of the kinds that the compiler took them for -/
structure KOk (T : Tb) (env : Env) : Prop where
  loc : ∀ x, T.names.lookup x = some .local → env.kindOf x = some .local
  cell : ∀ x, T.names.lookup x = some .cell → env.kindOf x = some .cell
  free : ∀ x, T.names.lookup x = some .free → env.kindOf x = some .free ∨ env.kindOf x = some .cell
  glob : ∀ x, T.names.lookup x = some .globalImplicit → env.kindOf x = some .globalImplicit

structure Rdy (c : Cx) (T : Tb) (env : Env) (A : Around) (n : Nat) (s : Shared) (as : Adr) (X : List Addr) (H : AH) (ρ : Fm) : Prop where
  a : AOk A n
  S : SR c as X H s
  F : FR c as X s.heap env T.tab ρ
  K : KOk T env
  len : ρ.length = T.n
theorem Rdy.next {c : Cx} {T : Tb} {env : Env} {A : Around} {n : Nat} {s s₁ : Shared} {as as₁ : Adr} {X : List Addr} {H H₁ : AH} {ρ : Fm} (R : Rdy c T env A n s as X H ρ)
    (e : Ext as s.heap as₁) (k : Kept as s.heap s₁.heap) (S : SR c as₁ X H₁ s₁) : Rdy c T env A n s₁ as₁ X H₁ ρ :=
  ⟨R.a, S, R.F.keep k e, R.K, R.len⟩

noncomputable def GlOk (c : Cx) (x : Str) : Gl → Prop
  | .fn f => c.mg x = some (.ref (c.fad f))
  | .cst v => ∃ y, c.mg x = some y ∧ ∀ as X h, VR c as X h v y
  | .bi b => c.mg x = none ∧ c.mb x = some (.builtin b)
  | .ty t => c.mg x = none ∧ c.mb x = some (.type t)
  | .exc k => c.mg x = some (.ref (c.xcls k))
  | .cls k _ => c.mg x = some (.ref (c.ccls k))

/-- a call of a compiled function with a budget of n -/
structure SC (c : Cx) (n : Nat) : Prop where
  run : ∀ {f : Nat} {fn : Fn} {A : Around} {s : Shared} {as : Adr} {X : List Addr} {H : AH} {vs : List V} {xs : List Value} {Q : QE} {XX : XE},
  c.P.fns f = some fn → AOk A n → SR c as X H s → VRs c as X s.heap vs xs → callF c.P n f vs H Q XX → wpAny c.M A (call (.ref (c.fad f)) xs) (Res c as X s.heap Q) (ERes c as X s.heap XX) s

structure Cok (c : Cx) (gl : List (Str × Gl)) : Prop where
  g : c.base.Ns mainGlobals c.mg
  b : c.base.Ns builtinsNs c.mb
  nolim : c.base.NoLimit
  gl : ∀ x v, gl.lookup x = some v → GlOk c x v
  fobj : ∀ f fn, c.P.fns f = some fn → ∃ o, c.base.get? (c.fad f) = some o ∧ o.data = .func (c.fdat f)

structure SE (c : Cx) (n : Nat) (T : Tb) (e : Expr) (ex : Ex) : Prop where
  run : ∀ {env : Env} {A : Around} {s : Shared} {as : Adr} {X : List Addr} {H : AH} {ρ : Fm} {Q : QE} {XX : XE},
  Rdy c T env A n s as X H ρ → wpE c.P (callF c.P n) ex ρ H Q XX → wpAny c.M A (eval e env) (Res c as X s.heap Q) (ERes c as X s.heap XX) s
structure ST (c : Cx) (n : Nat) (T : Tb) (e : Expr) (ex : Ex) : Prop where
  run : ∀ {env : Env} {A : Around} {s : Shared} {as : Adr} {X : List Addr} {H : AH} {ρ : Fm} {Q : Bool → AH → Prop} {XX : XE},
  Rdy c T env A n s as X H ρ → wpE c.P (callF c.P n) ex ρ H (fun v H' => okB (truth v) fun b => Q b H') XX → wpAny c.M A (isTrue e env (eval e env)) (ResB c as X s.heap Q) (ERes c as X s.heap XX) s

section
variable {c : Cx} {n : Nat} {T : Tb} {gl : List (Str × Gl)}

/-- two values, one behind the other -/
theorem se_two {e₁ e₂ : Expr} {x₁ x₂ : Ex} {env : Env} {A : Around} {s : Shared} {as : Adr} {X : List Addr} {H : AH} {ρ : Fm} {XX : XE} {W : V → V → AH → Prop} {t : Value → Value → Sem Value} {Q : QE}
    (h₁ : SE c n T e₁ x₁) (h₂ : SE c n T e₂ x₂) (R : Rdy c T env A n s as X H ρ)
    (w : wpE c.P (callF c.P n) x₁ ρ H (fun v H' => wpE c.P (callF c.P n) x₂ ρ H' (fun v' H'' => W v v' H'') XX) XX)
    (tail : ∀ {s' : Shared} {as' : Adr} {H' : AH} {v v' : V} {y y' : Value}, SR c as' X H' s' → VR c as' X s'.heap v y → VR c as' X s'.heap v' y' → W v v' H' → wpAny c.M A (t y y') (Res c as' X s'.heap Q) (ERes c as' X s'.heap XX) s') :
    wpAny c.M A (eval e₁ env) (fun y s₁ => wpAny c.M A (eval e₂ env) (fun y' s₂ => wpAny c.M A (t y y') (Res c as X s.heap Q) (ERes c as X s.heap XX) s₂) (ERes c as X s.heap XX) s₁) (ERes c as X s.heap XX) s := by
  refine wpAny_mono (h₁.run R w) (fun y s₁ r => ?_) fun _ _ e => e
  obtain ⟨v, H₁, as₁, e1, S1, k1, hv, w1⟩ := r
  refine wpAny_mono (h₂.run (R.next e1 k1 S1) w1) (fun y' s₂ r => ?_) fun _ _ e => e.lift e1 k1
  obtain ⟨v', H₂, as₂, e2, S2, k2, hv', w2⟩ := r
  refine wpAny_mono (tail S2 (hv.keep k2 e2) hv' w2) (fun x s₃ r => ?_) fun _ _ e => (e.lift e2 k2).lift e1 k1
  exact (r.lift e2 k2).lift e1 k1

theorem ge_of {x : Str} {g : Gl} (h : T.glob x = some g) : T.names.lookup x = some .globalImplicit ∧ T.gl.lookup x = some g ∧ (x == ("__debug__" : Str)) = false := by
  unfold Tb.glob at h
  split at h
  · cases h
  · rename_i hd
    split at h
    · rename_i hl; exact ⟨hl, h, by simpa using hd⟩
    · cases h

theorem n_glob {x : Str} {pos : Pos} {g : Gl} {env : Env} {A : Around} {s : Shared} {as : Adr} {X : List Addr} {H : AH} {ρ : Fm} {R : Value → Shared → Prop} {E : Value → Shared → Prop} {y : Value}
    (C : Cok c T.gl) (h : T.glob x = some g) (Rd : Rdy c T env A n s as X H ρ) (hy : c.mg x = some y ∨ (c.mg x = none ∧ c.mb x = some y)) (r : R y s) : wpAny c.M A (eval (.Name x pos) env) R E s := by
  obtain ⟨h1, h2, h3⟩ := ge_of h
  refine Name_function_global Rd.F.kind (Rd.K.glob x h1) ?_ h3
  have hg : s.heap.Ns env.globals c.mg := by rw [Rd.F.glob]; exact C.g.keeps Rd.S.stays
  have hb : s.heap.Ns env.builtins c.mb := by rw [Rd.F.bi]; exact C.b.keeps Rd.S.stays
  rcases hy with hy | ⟨hy, hy'⟩
  · exact loadGlobal_global hg hy r
  · exact loadGlobal_builtin hg hy hb hy' r

theorem var_of {x : Str} {i : Nat} (h : T.var x = some i) : T.tab.lookup x = some i ∧ (T.names.lookup x = some .local ∨ T.names.lookup x = some .cell ∨ T.names.lookup x = some .free) ∧ (x == ("__debug__" : Str)) = false ∧ (x == ("__classdict__" : Str)) = false := by
  unfold Tb.var at h
  split at h
  · cases h
  · rename_i hd
    simp only [Bool.or_eq_true, not_or, Bool.not_eq_true] at hd
    split at h
    · rename_i hl; exact ⟨h, .inl hl, hd⟩
    · rename_i hl; exact ⟨h, .inr (.inl hl), hd⟩
    · rename_i hl; exact ⟨h, .inr (.inr hl), hd⟩
    · cases h

theorem fromS_ok {s : Str} {l : List Char} (h : fromS s = some l) : toS l = s ∧ l.length ≤ bnd := by
  unfold fromS at h
  split at h
  · rename_i hh
    cases h
    exact ⟨hh.1, Nat.le_trans hh.2 (by decide)⟩
  · cases h

theorem se_const {cst : Const} {kk : Nat} {pos : Pos} {ex : Ex} (h : cConst cst = some ex) : SE c n T (.Constant cst kk pos) ex := by
  refine ⟨?_⟩
  intro env A s as X H ρ Q XX R w
  unfold cConst at h
  split at h
  · cases h; exact wpAny_pure (Res.now (tk := s.toks) R.S .none w)
  · cases h; exact wpAny_pure (Res.now (tk := s.toks) R.S (.bool _) w)
  · cases h; exact wpAny_Constant_int (Res.now R.S (.int _ _) w)
  · obtain ⟨l, h1, h2⟩ := Option.map_eq_some_iff.mp h
    cases h2
    obtain ⟨h3, h4⟩ := fromS_ok h1
    refine Constant_str ?_
    rw [← h3]
    exact Res.now R.S (.str _ _ h4) w
  · cases h

theorem se_name {x : Str} {pos : Pos} {ex : Ex} (C : Cok c T.gl) (h : cName T x = some ex) : SE c n T (.Name x pos) ex := by
  refine ⟨?_⟩
  intro env A s as X H ρ Q XX R w
  unfold cName at h
  split at h
  · rename_i i hi
    cases h
    obtain ⟨h1, h2, h3, h4⟩ := var_of hi
    rw [wpE_var] at w
    refine wpAny_Name ?_ h3
    split at w
    · rename_i v hv
      refine n_load R.S R.F h1 ?_ hv h4 w
      rcases h2 with h2 | h2 | h2
      · exact .inl (R.K.loc x h2)
      · exact .inr (.inl (R.K.cell x h2))
      · rcases R.K.free x h2 with q | q
        · exact .inr (.inr q)
        · exact .inr (.inl q)
    · exact w.elim
  · split at h
    · rename_i v hg
      cases h
      obtain ⟨h1, h2, h3⟩ := ge_of hg
      obtain ⟨y, e1, e2⟩ := C.gl x _ h2
      exact n_glob C hg R (.inl e1) (Res.now (tk := s.toks) R.S (e2 _ _ _) w)
    · cases h

theorem se_two_prim {e₁ e₂ : Expr} {x₁ x₂ : Ex} {p : Prim} {mu : Bool} {env : Env} {A : Around} {s : Shared} {as : Adr} {X : List Addr} {H : AH} {ρ : Fm} {XX : XE} {t : Value → Value → Sem Value} {Q : QE}
    (h₁ : SE c n T e₁ x₁) (h₂ : SE c n T e₂ x₂) (R : Rdy c T env A n s as X H ρ) (w : wpE c.P (callF c.P n) (.prim mu p [x₁, x₂]) ρ H Q XX)
    (tail : ∀ {s' : Shared} {as' : Adr} {H' : AH} {v v' : V} {y y' : Value}, SR c as' X H' s' → VR c as' X s'.heap v y → VR c as' X s'.heap v' y' → okE (primM c.P mu p [v, v'] H') Q → wpAny c.M A (t y y') (Res c as' X s'.heap Q) (ERes c as' X s'.heap XX) s') :
    wpAny c.M A (eval e₁ env) (fun y s₁ => wpAny c.M A (eval e₂ env) (fun y' s₂ => wpAny c.M A (t y y') (Res c as X s.heap Q) (ERes c as X s.heap XX) s₂) (ERes c as X s.heap XX) s₁) (ERes c as X s.heap XX) s := by
  rw [wpE_prim, wpEs_cons] at w
  simp only [wpEs_cons, wpEs_nil] at w
  exact se_two (W := fun v v' H' => okE (primM c.P mu p [v, v'] H') Q) h₁ h₂ R w tail

theorem okE_some {r : Option (V × AH)} {Q : QE} (h : okE r Q) : ∃ v H', r = some (v, H') ∧ Q v H' := by
  unfold okE at h
  split at h
  · exact ⟨_, _, rfl, h⟩
  · exact h.elim
theorem okB_some {r : Option Bool} {K : Bool → Prop} (h : okB r K) : ∃ b, r = some b ∧ K b := by
  unfold okB at h
  split at h
  · exact ⟨_, rfl, h⟩
  · exact h.elim

theorem thaw_some {v r : V} {H H' : AH} (h : thaw v H = some (r, H')) : (∃ vs, v = .lst vs ∧ r = .ref H.length ∧ H' = H ++ [.list vs]) ∨ (∃ ks vs, v = .dct ks vs ∧ r = .ref H.length ∧ H' = H ++ [.dict ks vs]) := by
  unfold thaw at h
  split at h
  · cases h; exact .inl ⟨_, rfl, rfl, rfl⟩
  · cases h; exact .inr ⟨_, _, rfl, rfl, rfl⟩
  · cases h

theorem bopOf_eq {op : Operator} {o : Bop} (h : bopOf op = some o) : op = opOf o := by
  unfold bopOf at h
  split at h <;> first | (cases h; rfl) | cases h

theorem binop_not_dct {o : Bop} {x y : V} {H : AH} {ks : List (List Char)} {vs : List V} : binop o x y H ≠ some (.dct ks vs) := by
  intro e
  have hi : ∀ {f : Int → Int → Option Int}, int2 f x y ≠ some (.dct ks vs) := fun {f} q => by obtain ⟨_, _, _, _, _, _, h⟩ := int2_some q; cases h
  cases o with
  | add =>
    rcases addV_some e with ⟨_, _, _, _, h⟩ | ⟨_, _, _, _, _, h⟩ | ⟨_, _, _, _, _, h⟩ | ⟨_, _, _, _, _, h⟩ <;> cases h
  | _ => exact hi e
/-- what + and * make of lists is new -/
theorem binop_fresh {o : Bop} {op : Operator} {x y : V} {ws : List V} {cx cy : Value} {A : Around} {E : Value → Shared → Prop} {s : Shared} {as : Adr} {X : List Addr} {H : AH} {R : Value → Shared → Prop} (S : SR c as X H s) (hx : VR c as X s.heap x cx) (hy : VR c as X s.heap y cy)
    (ho : op = opOf o)
    (e : binop o x y H = some (.lst ws)) (hR : ∀ x s', FreshL c as X s ws x s' → R x s') : wpAny c.M A (binaryOp op cx cy) R E s := by
  subst ho
  have hi : ∀ {f : Int → Int → Option Int}, int2 f x y ≠ some (.lst ws) := fun {f} q => by obtain ⟨_, _, _, _, _, _, h⟩ := int2_some q; cases h
  cases o with
  | add =>
    rcases addV_some e with ⟨_, _, _, _, h⟩ | ⟨_, _, _, _, _, h⟩ | ⟨_, _, _, _, _, h⟩ | ⟨xs, ys, h1, h2, h, h3⟩
    · cases h
    · cases h
    · cases h
    · cases h3
      obtain ⟨a, its, rfl, ⟨n, ha⟩, ra, _⟩ := view_at S hx h1
      obtain ⟨b, its', rfl, ⟨n', hb⟩, rb, _⟩ := view_at S hy h2
      have l1 := ra.len_arr
      have l2 := rb.len_arr
      have z1 := sizeOf'_le
      have z2 := sizeOf'_bnd
      refine P.add_list ha hb (hR _ _ (freshL_G (tk := s.toks) S (.push _ _) (Heap.get?_push_size _ rfl) ?_ ?_)) (by omega)
      · rw [Array.toList_append]; exact ra.append rb
      · rw [List.length_append]; omega
  | _ => exact (hi e).elim

theorem se_binop {l r : Expr} {op : Operator} {o : Bop} {pos : Pos} {a b : Ex} {mu : Bool} (ho : bopOf op = some o) (h₁ : SE c n T l a) (h₂ : SE c n T r b) : SE c n T (.BinOp l op r pos) (.prim mu (.bop o) [a, b]) := by
  refine ⟨?_⟩
  intro env A s as X H ρ Q XX R w
  refine wpAny_BinOp (se_two_prim h₁ h₂ R w fun S hv hv' q => ?_)
  cases mu with
  | false =>
    obtain ⟨v, H', e, q'⟩ := okE_some q
    obtain ⟨z, e1, e2⟩ := Option.map_eq_some_iff.mp (show (binop o _ _ _).map _ = _ from e)
    cases e2
    exact p_binop S hv hv' (bopOf_eq ho) e1 q'
  | true =>
    obtain ⟨v, H', e, q'⟩ := okE_some q
    unfold primM at e
    rw [if_pos rfl, show (Prim.bop o).fresh = true from rfl, if_pos rfl] at e
    obtain ⟨z, e1, e2⟩ := Option.bind_eq_some_iff.mp e
    obtain ⟨z', e3, e4⟩ := Option.map_eq_some_iff.mp (show (binop o _ _ _).map _ = _ from e1)
    cases e4
    rcases thaw_some e2 with ⟨ws, rfl, rfl, rfl⟩ | ⟨ks, ws, rfl, _, _⟩
    · exact binop_fresh S hv hv' (bopOf_eq ho) e3 fun x s' f => f.thawed S q'
    · exact absurd e3 binop_not_dct

inductive A2 {α β : Type} (R : α → β → Prop) : List α → List β → Prop
  | nil : A2 R [] []
  | cons {a : α} {b : β} {l : List α} {m : List β} : R a b → A2 R l m → A2 R (a :: l) (b :: m)
theorem mapO_A2 {α β : Type} {f : α → Option β} {R : α → β → Prop} (hf : ∀ a b, f a = some b → R a b) : ∀ {l : List α} {m : List β}, mapO f l = some m → A2 R l m
  | [], m, h => by simp only [mapO, Option.some.injEq] at h; subst h; exact .nil
  | a :: l, m, h => by
    unfold mapO at h
    split at h
    · rename_i b s h1 h2
      cases h
      exact .cons (hf _ _ h1) (mapO_A2 hf h2)
    · cases h

theorem truth_bool {v : V} {b : Bool} (h : truth v = some b) : v = .bool b := by
  unfold truth at h
  split at h
  · cases h; rfl
  · cases h

/-- the truth of an expression's value, where no test of its own is made of it -/
theorem st_plain {e : Expr} {ex : Ex} (hp : ∀ env whole, isTrue e env whole = (do let v ← whole; standAt e.pos; holding [v] (truthy v))) (h : SE c n T e ex) : ST c n T e ex := by
  refine ⟨?_⟩
  intro env A s as X H ρ Q XX R w
  rw [hp]
  refine wpAny_bind (wpAny_mono (h.run R w) (fun y s₁ r => wpAny_bind (wpAny_standAt (wpAny_holding ?_))) fun _ _ e => e)
  obtain ⟨v, H₁, as₁, e1, S1, k1, hv, q⟩ := r
  obtain ⟨b, hb, q⟩ := okB_some q
  cases truth_bool hb
  cases hv
  exact wpAny_truthy_bool ⟨H₁, as₁, e1, S1, k1, q⟩

theorem se_not {x : Expr} {pos : Pos} {a : Ex} (h : SE c n T x a) : SE c n T (.UnaryOp .Not x pos) (.prim false .not [a]) := by
  refine ⟨?_⟩
  intro env A s as X H ρ Q XX R w
  rw [wpE_prim, wpEs_cons] at w
  simp only [wpEs_nil] at w
  refine wpAny_UnaryOp (wpAny_mono (h.run R w) (fun y s₁ r => ?_) fun _ _ e => e)
  obtain ⟨v, H₁, as₁, e1, S1, k1, hv, q⟩ := r
  obtain ⟨v', H', e, q'⟩ := okE_some q
  simp only [primM, Bool.false_eq_true, if_false, prim, pNot] at e
  obtain ⟨b, e2, e3⟩ := Option.map_eq_some_iff.mp e
  cases truth_bool e2
  cases e3
  cases hv
  exact not_of (wpAny_truthy_bool ((Res.now (tk := s₁.toks) S1 (.bool _) q').lift e1 k1))
theorem st_not {x : Expr} {pos : Pos} {a : Ex} (h : ST c n T x a) : ST c n T (.UnaryOp .Not x pos) (.prim false .not [a]) := by
  refine ⟨?_⟩
  intro env A s as X H ρ Q XX R w
  rw [wpE_prim, wpEs_cons] at w
  simp only [wpEs_nil] at w
  refine wpAny_isTrue_Not (wpAny_mono (h.run (Q := fun b H' => Q (!b) H') R ?_) (fun b s₁ r => r) fun _ _ e => e)
  have key : ∀ v H', okE (primM c.P false .not [v] H') (fun v H' => okB (truth v) fun b => Q b H') = okB (truth v) fun b => Q (!b) H' := by
    intro v H'
    simp only [primM, Bool.false_eq_true, if_false, prim, pNot]
    cases truth v <;> rfl
  simpa only [key] using w
theorem se_neg {x : Expr} {pos : Pos} {a : Ex} (h : SE c n T x a) : SE c n T (.UnaryOp .USub x pos) (.prim false .neg [a]) := by
  refine ⟨?_⟩
  intro env A s as X H ρ Q XX R w
  rw [wpE_prim, wpEs_cons] at w
  simp only [wpEs_nil] at w
  refine wpAny_UnaryOp (wpAny_mono (h.run R w) (fun y s₁ r => ?_) fun _ _ e => e)
  obtain ⟨v, H₁, as₁, e1, S1, k1, hv, q⟩ := r
  obtain ⟨v', H', e, q'⟩ := okE_some q
  simp only [primM, Bool.false_eq_true, if_false, prim] at e
  unfold pNeg at e
  split at e
  · rename_i i hl
    simp only [List.cons.injEq, and_true] at hl
    subst hl
    cases e
    cases hv
    exact PyProof.Rows.neg_int ((Res.now S1 (.int _ _) q').lift e1 k1)
  · cases e

theorem se_bool {op : BoolOp} {pos : Pos} {env : Env} {A : Around} {X : List Addr} {ρ : Fm} {XX : XE} : ∀ {es : List Expr} {xs : List Ex} {ex : Ex} {s : Shared} {as : Adr} {H : AH} {Q : QE}, A2 (SE c n T) es xs → boolEx op xs = some ex →
    Rdy c T env A n s as X H ρ → wpE c.P (callF c.P n) ex ρ H Q XX → wpAny c.M A (boolOp pos op (evalEach es env)) (Res c as X s.heap Q) (ERes c as X s.heap XX) s
  | _, _, _, _, _, _, _, .nil, h, _, _ => by simp [boolEx] at h
  | _, _, _, _, _, _, _, .cons h₁ .nil, h, R, w => by
    simp only [boolEx, Option.some.injEq] at h
    subst h
    exact h₁.run R w
  | e₁ :: e₂ :: es, x₁ :: x₂ :: xs, ex, s, as, H, Q, .cons h₁ (.cons h₂ h₃), h, R, w => by
    simp only [boolEx] at h
    obtain ⟨y, hy, hex⟩ := Option.map_eq_some_iff.mp h
    show wpAny c.M A (do
      let v ← eval e₁ env
      standAt pos
      let t ← holding [v] (truthy v)
      match op, t with
      | .And, false | .Or, true => pure v
      | _, _ => boolOp pos op (evalEach (e₂ :: es) env)) _ _ s
    have tail : ∀ {s₁ : Shared} {as₁ : Adr} {H₁ : AH} {b : Bool}, Ext as s.heap as₁ → Kept as s.heap s₁.heap → SR c as₁ X H₁ s₁ →
        (match op, b with | .And, false | .Or, true => Q (.bool b) H₁ | _, _ => wpE c.P (callF c.P n) y ρ H₁ Q XX) →
        wpAny c.M A (do
          standAt pos
          let t ← holding [Value.bool b] (truthy (.bool b))
          match op, t with
          | .And, false | .Or, true => pure (.bool b)
          | _, _ => boolOp pos op (evalEach (e₂ :: es) env)) (Res c as X s.heap Q) (ERes c as X s.heap XX) s₁ := by
      intro s₁ as₁ H₁ b e1 k1 S1 q
      refine wpAny_bind (wpAny_standAt (wpAny_bind (wpAny_holding (wpAny_truthy_bool ?_))))
      have more : wpE c.P (callF c.P n) y ρ H₁ Q XX → wpAny c.M A (boolOp pos op (evalEach (e₂ :: es) env)) (Res c as X s.heap Q) (ERes c as X s.heap XX) s₁ := fun q =>
        wpAny_mono (se_bool (.cons h₂ h₃) hy (R.next e1 k1 S1) q) (fun _ _ r => r.lift e1 k1) fun _ _ e => e.lift e1 k1
      cases op <;> cases b
      · exact wpAny_pure ((Res.now (tk := s₁.toks) S1 (.bool _) q).lift e1 k1)
      · exact more q
      · exact more q
      · exact wpAny_pure ((Res.now (tk := s₁.toks) S1 (.bool _) q).lift e1 k1)
    cases op with
    | And =>
      simp only at hex
      subst hex
      rw [wpE_and] at w
      refine wpAny_bind (wpAny_mono (h₁.run R w) (fun v s₁ r => ?_) fun _ _ e => e)
      obtain ⟨v, H₁, as₁, e1, S1, k1, hv, q⟩ := r
      obtain ⟨b, hb, q⟩ := okB_some q
      cases truth_bool hb
      cases hv
      exact tail e1 k1 S1 (by cases b <;> exact q)
    | Or =>
      simp only at hex
      subst hex
      rw [wpE_or] at w
      refine wpAny_bind (wpAny_mono (h₁.run R w) (fun v s₁ r => ?_) fun _ _ e => e)
      obtain ⟨v, H₁, as₁, e1, S1, k1, hv, q⟩ := r
      obtain ⟨b, hb, q⟩ := okB_some q
      cases truth_bool hb
      cases hv
      exact tail e1 k1 S1 (by cases b <;> exact q)

theorem st_bool {op : BoolOp} {env : Env} {A : Around} {X : List Addr} {ρ : Fm} {XX : XE} : ∀ {es : List Expr} {xs : List Ex} {ex : Ex} {s : Shared} {as : Adr} {H : AH} {Q : Bool → AH → Prop}, A2 (ST c n T) es xs → boolEx op xs = some ex →
    Rdy c T env A n s as X H ρ → wpE c.P (callF c.P n) ex ρ H (fun v H' => okB (truth v) fun b => Q b H') XX → wpAny c.M A (allTrue op es env) (ResB c as X s.heap Q) (ERes c as X s.heap XX) s
  | _, _, _, _, _, _, _, .nil, h, _, _ => by simp [boolEx] at h
  | [e₁], [x₁], _, s, as, H, Q, .cons h₁ .nil, h, R, w => by
    simp only [boolEx, Option.some.injEq] at h
    subst h
    rw [arm_allTrue_cons]
    refine wpAny_bind (wpAny_mono (h₁.run R w) (fun b s₁ r => ?_) fun _ _ e => e)
    cases op <;> cases b <;> exact wpAny_pure r
  | e₁ :: e₂ :: es, x₁ :: x₂ :: xs, ex, s, as, H, Q, .cons h₁ (.cons h₂ h₃), h, R, w => by
    simp only [boolEx] at h
    obtain ⟨y, hy, hex⟩ := Option.map_eq_some_iff.mp h
    rw [arm_allTrue_cons]
    have more : ∀ {s₁ : Shared} {as₁ : Adr} {H₁ : AH}, Ext as s.heap as₁ → SR c as₁ X H₁ s₁ → Kept as s.heap s₁.heap → wpE c.P (callF c.P n) y ρ H₁ (fun v H' => okB (truth v) fun b => Q b H') XX → wpAny c.M A (allTrue op (e₂ :: es) env) (ResB c as X s.heap Q) (ERes c as X s.heap XX) s₁ :=
      fun e1 S1 k1 q => wpAny_mono (st_bool (.cons h₂ h₃) hy (R.next e1 k1 S1) q) (fun _ _ r => r.lift e1 k1) fun _ _ e => e.lift e1 k1
    cases op with
    | And =>
      simp only at hex
      subst hex
      rw [wpE_and] at w
      have w' : wpE c.P (callF c.P n) x₁ ρ H (fun v H' => okB (truth v) fun b => (fun (b : Bool) (H' : AH) => if b then wpE c.P (callF c.P n) y ρ H' (fun v H' => okB (truth v) fun b => Q b H') XX else Q false H') b H') XX := by
        refine wpE_mono (callF_mono c.P n) _ (fun v H' q => ?_) (fun _ _ x => x) w
        obtain ⟨b, hb, q⟩ := okB_some q
        rw [hb]
        cases truth_bool hb
        cases b
        · exact q
        · exact q
      refine wpAny_bind (wpAny_mono (h₁.run R w') (fun b s₁ r => ?_) fun _ _ e => e)
      obtain ⟨H₁, as₁, e1, S1, k1, q⟩ := r
      cases b
      · exact wpAny_pure ⟨H₁, as₁, e1, S1, k1, q⟩
      · exact more e1 S1 k1 q
    | Or =>
      simp only at hex
      subst hex
      rw [wpE_or] at w
      have w' : wpE c.P (callF c.P n) x₁ ρ H (fun v H' => okB (truth v) fun b => (fun (b : Bool) (H' : AH) => if b then Q true H' else wpE c.P (callF c.P n) y ρ H' (fun v H' => okB (truth v) fun b => Q b H') XX) b H') XX := by
        refine wpE_mono (callF_mono c.P n) _ (fun v H' q => ?_) (fun _ _ x => x) w
        obtain ⟨b, hb, q⟩ := okB_some q
        rw [hb]
        cases truth_bool hb
        cases b
        · exact q
        · exact q
      refine wpAny_bind (wpAny_mono (h₁.run R w') (fun b s₁ r => ?_) fun _ _ e => e)
      obtain ⟨H₁, as₁, e1, S1, k1, q⟩ := r
      cases b
      · exact more e1 S1 k1 q
      · exact wpAny_pure ⟨H₁, as₁, e1, S1, k1, q⟩

theorem copOf_eq (op : CmpOp) : copOf (copOf? op) = op := by cases op <;> rfl

theorem p_cmp' {A : Around} {E : Value → Shared → Prop} {s : Shared} {as : Adr} {X : List Addr} {H : AH} {Q : QE} {op : CmpOp} {x y : V} {cx cy : Value} {b : Bool} (S : SR c as X H s) (hx : VR c as X s.heap x cx) (hy : VR c as X s.heap y cy) (hu : A.units + 64 < cLine)
    (e : cmpop (copOf? op) x y H = some b) (q : Q (.bool b) H) : wpAny c.M A (compareOp op cx cy) (Res c as X s.heap Q) E s := by
  have h := p_cmp (A := A) (E := E) S hx hy hu e q
  rw [copOf_eq] at h
  exact h
theorem se_cmp {l r : Expr} {op : CmpOp} {pos : Pos} {a b : Ex} (hm : behindInMarks op r = false) (h₁ : SE c n T l a) (h₂ : SE c n T r b) : SE c n T (.Compare l [op] [r] pos) (.prim false (.cop (copOf? op)) [a, b]) := by
  refine ⟨?_⟩
  intro env A s as X H ρ Q XX R w
  refine wpAny_Compare1 (se_two_prim h₁ h₂ R w fun S hv hv' q => ?_) hm
  obtain ⟨v, H', e, q'⟩ := okE_some q
  simp only [primM, Bool.false_eq_true, if_false, prim, pCop] at e
  obtain ⟨z, e1, e2⟩ := Option.map_eq_some_iff.mp e
  cases e2
  exact p_cmp' S hv hv' R.a.u64 e1 q'
theorem st_cmp {l r : Expr} {op : CmpOp} {pos : Pos} {a b : Ex} (hm : behindInMarks op r = false) (h₁ : SE c n T l a) (h₂ : SE c n T r b) : ST c n T (.Compare l [op] [r] pos) (.prim false (.cop (copOf? op)) [a, b]) := by
  refine ⟨?_⟩
  intro env A s as X H ρ Q XX R w
  refine wpAny_isTrue_Compare1 ?_ hm
  rw [wpE_prim, wpEs_cons] at w
  simp only [wpEs_cons, wpEs_nil] at w
  refine wpAny_mono (h₁.run R w) (fun y s₁ r => ?_) fun _ _ e => e
  obtain ⟨v, H₁, as₁, e1, S1, k1, hv, w1⟩ := r
  refine wpAny_mono (h₂.run (R.next e1 k1 S1) w1) (fun y' s₂ r => ?_) fun _ _ e => e.lift e1 k1
  obtain ⟨v', H₂, as₂, e2, S2, k2, hv', w2⟩ := r
  obtain ⟨z, H', e, q'⟩ := okE_some w2
  simp only [primM, Bool.false_eq_true, if_false, prim, pCop] at e
  obtain ⟨t, e3, e4⟩ := Option.map_eq_some_iff.mp e
  cases e4
  obtain ⟨t', h5, q'⟩ := okB_some q'
  cases h5
  have := p_cmp' (A := A) (E := ERes c as X s.heap XX) (Q := fun v H => v = .bool t ∧ Q t H) S2 (hv.keep k2 e2) hv' R.a.u64 e3 ⟨rfl, q'⟩
  refine wpAny_mono this (fun x s₃ r => ?_) fun _ _ e => e
  obtain ⟨v3, H3, as3, e6, S3, k3, hv3, rfl, q3⟩ := r
  cases hv3
  exact wpAny_truthy_bool ((ResB.lift e1 k1 (ResB.lift e2 k2 ⟨H3, as3, e6, S3, k3, q3⟩)))

theorem cmp2_run {l m : Expr} {o₁ o₂ : CmpOp} {a b d : Ex} (h₁ : SE c n T l a) (h₂ : SE c n T m b)
    {env : Env} {A : Around} {s : Shared} {as : Adr} {X : List Addr} {H : AH} {ρ : Fm} {Q : QE} {XX : XE} (R : Rdy c T env A n s as X H ρ) (w : wpE c.P (callF c.P n) (.cmp2 a (copOf? o₁) b (copOf? o₂) d) ρ H Q XX)
    {α : Type} {k₁ : Value → Value → Value → Sem α} {R₀ : α → Shared → Prop}
    (no : ∀ {s' : Shared} {as' : Adr} {H' : AH} {y y' : Value}, Ext as s.heap as' → Kept as s.heap s'.heap → SR c as' X H' s' → Q (.bool false) H' → wpAny c.M A (k₁ y y' (.bool false)) R₀ (ERes c as X s.heap XX) s')
    (yes : ∀ {s' : Shared} {as' : Adr} {H' : AH} {v' : V} {y y' : Value}, Ext as s.heap as' → Kept as s.heap s'.heap → SR c as' X H' s' → VR c as' X s'.heap v' y' →
      wpE c.P (callF c.P n) d ρ H' (fun z H₃ => okB (cmpop (copOf? o₂) v' z H₃) fun t' => Q (.bool t') H₃) XX → wpAny c.M A (k₁ y y' (.bool true)) R₀ (ERes c as X s.heap XX) s') :
    wpAny c.M A (eval l env) (fun y s₁ => wpAny c.M A (eval m env) (fun y' s₂ => wpAny c.M A (compareOp o₁ y y') (fun x s₃ => wpAny c.M A (k₁ y y' x) R₀ (ERes c as X s.heap XX) s₃) (ERes c as X s.heap XX) s₂) (ERes c as X s.heap XX) s₁) (ERes c as X s.heap XX) s := by
  rw [wpE_cmp2] at w
  refine wpAny_mono (h₁.run R w) (fun y s₁ r => ?_) fun _ _ e => e
  obtain ⟨v, H₁, as₁, e1, S1, k1, hv, w1⟩ := r
  refine wpAny_mono (h₂.run (R.next e1 k1 S1) w1) (fun y' s₂ r => ?_) fun _ _ e => e.lift e1 k1
  obtain ⟨v', H₂, as₂, e2, S2, k2, hv', w2⟩ := r
  obtain ⟨t, e3, q⟩ := okB_some w2
  have := p_cmp' (A := A) (E := ERes c as X s.heap XX) (Q := fun v H => v = .bool t ∧ H = H₂) S2 (hv.keep k2 e2) hv' R.a.u64 e3 ⟨rfl, rfl⟩
  refine wpAny_mono this (fun x s₃ r => ?_) fun _ _ e => e
  obtain ⟨v3, H3, as3, e6, S3, k3, hv3, rfl, rfl⟩ := r
  cases hv3
  have E := (e1.trans k1 e2).trans (k1.trans e1 k2) e6
  have K := (k1.trans e1 k2).trans (e1.trans k1 e2) k3
  cases t with
  | false => exact no E K S3 q
  | true => exact yes E K S3 (hv'.keep k3 e6) q

theorem se_cmp2 {l m r : Expr} {o₁ o₂ : CmpOp} {pos : Pos} {a b d : Ex} (hm : behindInMarks o₂ r = false) (h₁ : SE c n T l a) (h₂ : SE c n T m b) (h₃ : SE c n T r d) : SE c n T (.Compare l [o₁, o₂] [m, r] pos) (.cmp2 a (copOf? o₁) b (copOf? o₂) d) := by
  refine ⟨?_⟩
  intro env A s as X H ρ Q XX R w
  have e0 : eval (.Compare l [o₁, o₂] [m, r] pos) env = (do
      let x ← eval l env
      let y ← holding [x] (eval m env)
      standAt pos
      let z ← holding [x, y] (compareOp o₁ x y)
      release [x, y] [z]
      if ← holding [z, y] (truthy z) then (do
        let u ← holding [y] (eval r env)
        standAt pos
        operate [y, u] (compareOp o₂ y u)) else pure z) := by
    have : eval (.Compare l [o₁, o₂] [m, r] pos) env = (do compareChain pos (← eval l env) [o₁, o₂] [eval m env, markedBehindIn o₂ r (eval r env)]) := rfl
    rw [this, markedBehindIn_of_false hm]
    rfl
  rw [e0]
  have hrun := cmp2_run (k₁ := fun x y z => (do
      release [x, y] [z]
      if ← holding [z, y] (truthy z) then (do
        let u ← holding [y] (eval r env)
        standAt pos
        operate [y, u] (compareOp o₂ y u)) else pure z)) (R₀ := Res c as X s.heap Q) h₁ h₂ R w ?_ ?_
  · refine wpAny_bind (wpAny_mono hrun (fun x s₁ r => wpAny_bind (wpAny_holding (wpAny_mono r (fun y s₂ r => wpAny_bind (wpAny_standAt (wpAny_bind (wpAny_holding r)))) fun _ _ e => e))) fun _ _ e => e)
  · intro s' as' H' y y' E K S q
    refine wpAny_bind (wpAny_release (wpAny_bind (wpAny_holding (wpAny_truthy_bool ?_))))
    exact wpAny_pure ((Res.now (tk := s'.toks) S (.bool _) q).lift E K)
  · intro s' as' H' v' y y' E K S hv' w3
    refine wpAny_bind (wpAny_release (wpAny_bind (wpAny_holding (wpAny_truthy_bool ?_))))
    refine wpAny_bind (wpAny_holding (wpAny_mono (h₃.run (R.next E K S) w3) (fun u s₂ r => ?_) fun _ _ e => e.lift E K))
    obtain ⟨v4, H4, as4, e4, S4, k4, hv4, q4⟩ := r
    obtain ⟨t, e5, q5⟩ := okB_some q4
    refine wpAny_bind (wpAny_standAt (wpAny_operating ?_))
    have := p_cmp' (A := A) (E := ERes c as X s.heap XX) S4 (hv'.keep k4 e4) hv4 R.a.u64 e5 q5
    exact wpAny_mono this (fun _ _ r => (r.lift e4 k4).lift E K) fun _ _ e => e

theorem st_cmp2 {l m r : Expr} {o₁ o₂ : CmpOp} {pos : Pos} {a b d : Ex} (hm : behindInMarks o₂ r = false) (h₁ : SE c n T l a) (h₂ : SE c n T m b) (h₃ : SE c n T r d) : ST c n T (.Compare l [o₁, o₂] [m, r] pos) (.cmp2 a (copOf? o₁) b (copOf? o₂) d) := by
  refine ⟨?_⟩
  intro env A s as X H ρ Q XX R w
  have e0 : isTrue (.Compare l [o₁, o₂] [m, r] pos) env (eval (.Compare l [o₁, o₂] [m, r] pos) env) = (do
      let x ← eval l env
      let y ← holding [x] (eval m env)
      standAt pos
      let z ← holding [x, y] (compareOp o₁ x y)
      release [x, y] [z]
      if ← holding [z, y] (truthy z) then (do
        let u ← holding [y] (eval r env)
        standAt pos
        let z' ← operate [y, u] (compareOp o₂ y u)
        holding [z'] (truthy z')) else pure false) := by
    have : isTrue (.Compare l [o₁, o₂] [m, r] pos) env (eval (.Compare l [o₁, o₂] [m, r] pos) env) = (do testChain pos (← eval l env) [o₁, o₂] [eval m env, markedBehindIn o₂ r (eval r env)]) := rfl
    rw [this, markedBehindIn_of_false hm]
    rfl
  rw [e0]
  have hrun := cmp2_run (k₁ := fun x y z => (do
      release [x, y] [z]
      if ← holding [z, y] (truthy z) then (do
        let u ← holding [y] (eval r env)
        standAt pos
        let z' ← operate [y, u] (compareOp o₂ y u)
        holding [z'] (truthy z')) else pure false)) (R₀ := ResB c as X s.heap Q) h₁ h₂ R w ?_ ?_
  · refine wpAny_bind (wpAny_mono hrun (fun x s₁ r => wpAny_bind (wpAny_holding (wpAny_mono r (fun y s₂ r => wpAny_bind (wpAny_standAt (wpAny_bind (wpAny_holding r)))) fun _ _ e => e))) fun _ _ e => e)
  · intro s' as' H' y y' E K S q
    refine wpAny_bind (wpAny_release (wpAny_bind (wpAny_holding (wpAny_truthy_bool ?_))))
    exact wpAny_pure ⟨H', as', E, S, K, q⟩
  · intro s' as' H' v' y y' E K S hv' w3
    refine wpAny_bind (wpAny_release (wpAny_bind (wpAny_holding (wpAny_truthy_bool ?_))))
    refine wpAny_bind (wpAny_holding (wpAny_mono (h₃.run (R.next E K S) w3) (fun u s₂ r => ?_) fun _ _ e => e.lift E K))
    obtain ⟨v4, H4, as4, e4, S4, k4, hv4, q4⟩ := r
    obtain ⟨t, e5, q5⟩ := okB_some q4
    refine wpAny_bind (wpAny_standAt (wpAny_bind (wpAny_operating ?_)))
    have := p_cmp' (A := A) (E := ERes c as X s.heap XX) (Q := fun v H => v = .bool t ∧ Q t H) S4 (hv'.keep k4 e4) hv4 R.a.u64 e5 ⟨rfl, q5⟩
    refine wpAny_mono this (fun _ _ r => ?_) fun _ _ e => e
    obtain ⟨v3, H3, as3, e6, S3, k3, hv3, rfl, q3⟩ := r
    cases hv3
    exact wpAny_holding (wpAny_truthy_bool (ResB.lift E K (ResB.lift e4 k4 ⟨H3, as3, e6, S3, k3, q3⟩)))

noncomputable def NS (e : Expr) : Prop := ∀ a p, e ≠ .Starred a p
theorem star_ns {e : Expr} (h : NS e) (r : List Expr) (env : Env) : starEach (e :: r) env = (false, eval e env) :: starEach r env := by
  cases e with
  | Starred a p => exact absurd rfl (h a p)
  | _ => rfl

abbrev SEs (c : Cx) (n : Nat) (T : Tb) (es : List Expr) (xs : List Ex) : Prop := A2 (fun e x => SE c n T e x ∧ NS e) es xs

theorem se_args {pos : Pos} {env : Env} {A : Around} {X : List Addr} {ρ : Fm} {XX : XE} : ∀ {es : List Expr} {xs : List Ex} {s : Shared} {as : Adr} {H : AH} {Q : List V → AH → Prop}, SEs c n T es xs → Rdy c T env A n s as X H ρ →
    wpEs c.P (callF c.P n) xs ρ H Q XX → wpAny c.M A (spliced (backTo pos (starEach es env))) (ResL c as X s.heap Q) (ERes c as X s.heap XX) s
  | _, _, s, as, H, Q, .nil, R, w => spliced_nil ⟨[], H, as, .refl .., R.S, Kept.refl _ _, .nil, w⟩
  | _, _, s, as, H, Q, .cons h₁ h₂, R, w => by
    rw [star_ns h₁.2]
    refine spliced_cons ?_
    rw [wpEs_cons] at w
    refine wpAny_mono (h₁.1.run R w) (fun y s₁ r => ?_) fun _ _ e => e
    obtain ⟨v, H₁, as₁, e1, S1, k1, hv, w1⟩ := r
    refine wpAny_mono (se_args h₂ (R.next e1 k1 S1) w1) (fun ys s₂ r => ?_) fun _ _ e => e.lift e1 k1
    obtain ⟨vs, H₂, as₂, e2, S2, k2, hvs, q⟩ := r
    exact ⟨v :: vs, H₂, as₂, e1.trans k1 e2, S2, k1.trans e1 k2, .cons (hv.keep k2 e2) hvs, q⟩

theorem se_evalArgs {f : Value} {pos : Pos} {env : Env} {A : Around} {X : List Addr} {ρ : Fm} {XX : XE} {es : List Expr} {xs : List Ex} {s : Shared} {as : Adr} {H : AH} {Q : List V → AH → Prop} (h : SEs c n T es xs) (R : Rdy c T env A n s as X H ρ)
    (w : wpEs c.P (callF c.P n) xs ρ H Q XX) : wpAny c.M A (evalArgs f true (backTo pos (starEach es env)) []) (fun a s' => a.kw = [] ∧ ResL c as X s.heap Q a.pos s') (ERes c as X s.heap XX) s := by
  have hr := se_args (pos := pos) h R w
  cases h with
  | nil => exact evalArgs_kw_nil (keywords := []) rfl (wpAny_evalAll_nil ⟨rfl, ⟨[], H, as, .refl .., R.S, Kept.refl _ _, .nil, w⟩⟩)
  | cons h₁ h₂ =>
    rw [star_ns h₁.2] at hr ⊢
    exact evalArgs_plain (wpAny_mono hr (fun vs s' r => ⟨rfl, r⟩) fun _ _ e => e)

theorem no_star {es : List Expr} {xs : List Ex} {pos : Pos} {env : Env} (h : SEs c n T es xs) : (backTo pos (starEach es env)).any (·.1) = false := by
  induction h with
  | nil => rfl
  | cons h₁ _ ih => rw [star_ns h₁.2]; exact ih

/-- a call of a def of the text -/
theorem se_call {g : Str} {p pos : Pos} {args : List Expr} {xs : List Ex} {f : Nat} (C : Cok c T.gl) (sc : SC c n) (hg : T.glob g = some (.fn f)) (hf : ∃ fn, c.P.fns f = some fn) (h : SEs c n T args xs) : SE c n T (.Call (.Name g p) args [] pos) (.call f xs) := by
  refine ⟨?_⟩
  intro env A s as X H ρ Q XX R w
  obtain ⟨fn, hf⟩ := hf
  rw [wpE_call] at w
  have e1 := C.gl g _ (ge_of hg).2.1
  refine wpAny_Call_Name_kw (n_glob C hg R (.inl e1) ?_)
  refine callWith_function (o := (C.fobj f fn hf).choose) (fd := c.fdat f) (wpAny_mono (se_evalArgs h R w) (fun a s₁ r => ?_) fun _ _ e => e)
  obtain ⟨hk, vs, H₁, as₁, e1, S1, k1, hvs, q⟩ := r
  have ho := (C.fobj f fn hf).choose_spec
  refine ⟨⟨S1.stays _ _ ho.1, ho.2⟩, ?_⟩
  rw [hk]
  exact wpAny_mono (sc.run hf R.a S1 hvs q) (fun _ _ r => r.lift e1 k1) fun _ _ e => e.lift e1 k1

/-- a call of a built-in function -/
theorem se_bi {g : Str} {b : String} {p pos : Pos} {args : List Expr} {xs : List Ex} {pr : Prim} (C : Cok c T.gl) (hg : T.glob g = some (.bi b)) (h : SEs c n T args xs)
    (tail : ∀ {A : Around} {s : Shared} {as : Adr} {X : List Addr} {H : AH} {Q : QE} {XX : XE} {vs : List V} {ys : List Value}, AOk A n → SR c as X H s → VRs c as X s.heap vs ys → vs.length = xs.length → okE (primM c.P false pr vs H) Q → wpAny c.M A (call (.builtin b) ys) (Res c as X s.heap Q) (ERes c as X s.heap XX) s) :
    SE c n T (.Call (.Name g p) args [] pos) (.prim false pr xs) := by
  refine ⟨?_⟩
  intro env A s as X H ρ Q XX R w
  rw [wpE_prim] at w
  have e1 := C.gl g _ (ge_of hg).2.1
  refine wpAny_Call_Name_kw (n_glob C hg R (.inr e1) ?_)
  have hlen : wpEs c.P (callF c.P n) xs ρ H (fun vs H' => vs.length = xs.length ∧ okE (primM c.P false pr vs H') Q) XX := wpEs_len _ w
  refine callWith_builtin (no_star h) (wpAny_mono (se_evalArgs h R hlen) (fun a s₁ r => ?_) fun _ _ e => e)
  obtain ⟨hk, vs, H₁, as₁, e1, S1, k1, hvs, hl, q⟩ := r
  rw [hk]
  exact wpAny_mono (tail R.a S1 hvs hl q) (fun _ _ r => r.lift e1 k1) fun _ _ e => e.lift e1 k1
/-- a call of a built-in type -/
theorem se_ty {g : Str} {b : String} {p pos : Pos} {args : List Expr} {xs : List Ex} {pr : Prim} {mu : Bool} (C : Cok c T.gl) (hg : T.glob g = some (.ty b)) (h : SEs c n T args xs)
    (tail : ∀ {A : Around} {s : Shared} {as : Adr} {X : List Addr} {H : AH} {Q : QE} {XX : XE} {vs : List V} {ys : List Value}, AOk A n → SR c as X H s → VRs c as X s.heap vs ys → vs.length = xs.length → okE (primM c.P mu pr vs H) Q → wpAny c.M A (call (.type b) ys) (Res c as X s.heap Q) (ERes c as X s.heap XX) s) :
    SE c n T (.Call (.Name g p) args [] pos) (.prim mu pr xs) := by
  refine ⟨?_⟩
  intro env A s as X H ρ Q XX R w
  rw [wpE_prim] at w
  have e1 := C.gl g _ (ge_of hg).2.1
  refine wpAny_Call_Name_kw (n_glob C hg R (.inr e1) ?_)
  have hlen : wpEs c.P (callF c.P n) xs ρ H (fun vs H' => vs.length = xs.length ∧ okE (primM c.P mu pr vs H') Q) XX := wpEs_len _ w
  refine PySem.callWith_type (no_star h) (wpAny_mono (se_evalArgs h R hlen) (fun a s₁ r => ?_) fun _ _ e => e)
  obtain ⟨hk, vs, H₁, as₁, e1, S1, k1, hvs, hl, q⟩ := r
  rw [hk]
  exact wpAny_mono (tail R.a S1 hvs hl q) (fun _ _ r => r.lift e1 k1) fun _ _ e => e.lift e1 k1

theorem len1 {vs : List V} {ys : List Value} {as : Adr} {X : List Addr} {hp : HP} (h : VRs c as X hp vs ys) (hl : vs.length = 1) : ∃ v y, vs = [v] ∧ ys = [y] ∧ VR c as X hp v y := by
  cases h with
  | nil => simp at hl
  | cons a r =>
    cases r with
    | nil => exact ⟨_, _, rfl, rfl, a⟩
    | cons _ _ => simp at hl
theorem A2.length {α β : Type} {R : α → β → Prop} {l : List α} {m : List β} (h : A2 R l m) : l.length = m.length := by
  induction h with
  | nil => rfl
  | cons _ _ ih => rw [List.length_cons, List.length_cons, ih]

theorem pList_lst {v r : V} {H H' : AH} (h : pList [v] H = some (r, H')) : ∃ ws, r = .lst ws ∧ H' = H := by
  unfold pList at h
  (repeat' split at h) <;> first | (cases h; exact ⟨_, rfl, rfl⟩) | cases h

theorem se_biPrim {g : Str} {b : String} {p pos : Pos} {args : List Expr} {xs : List Ex} {pr : Prim} (C : Cok c T.gl) (hg : T.glob g = some (.bi b)) (h : SEs c n T args xs) (hp : biPrim b args.length = some pr) : SE c n T (.Call (.Name g p) args [] pos) (.prim false pr xs) := by
  have hl := h.length
  unfold biPrim at hp
  split at hp
  · rename_i q; cases hp
    obtain ⟨rfl, hn⟩ := q
    refine se_bi C hg h fun a S hv hl' q => ?_
    obtain ⟨v, y, rfl, rfl, hv1⟩ := len1 hv (by omega)
    obtain ⟨r, H', e, q'⟩ := okE_some q
    exact p_len S hv1 e q'
  split at hp
  · rename_i q; cases hp
    obtain ⟨rfl, hn⟩ := q
    refine se_bi C hg h fun a S hv hl' q => ?_
    obtain ⟨v, y, rfl, rfl, hv1⟩ := len1 hv (by omega)
    obtain ⟨r, H', e, q'⟩ := okE_some q
    exact p_all a.hh S hv1 e q'
  cases hp

theorem prim_of_M {pr : Prim} {mu : Bool} {vs : List V} {H : AH} {Q : QE} (q : okE (primM c.P mu pr vs H) Q) : ∃ r H', prim c.P pr vs H = some (r, H') := by
  obtain ⟨r, H', e, _⟩ := okE_some q
  cases mu with
  | false => exact ⟨r, H', e⟩
  | true =>
    unfold primM at e
    simp only [if_true] at e
    split at e
    · obtain ⟨z, e1, _⟩ := Option.bind_eq_some_iff.mp e
      exact ⟨z.1, z.2, e1⟩
    · cases e
theorem nofresh {pr : Prim} {mu : Bool} {vs : List V} {H : AH} {Q : QE} (hf : pr.fresh = false) (q : okE (primM c.P mu pr vs H) Q) : okE (prim c.P pr vs H) Q := by
  cases mu with
  | false => exact q
  | true => simp [primM, hf, okE] at q

theorem se_tyPrim {g : Str} {b : String} {p pos : Pos} {args : List Expr} {xs : List Ex} {pr : Prim} {mu : Bool} (C : Cok c T.gl) (hg : T.glob g = some (.ty b)) (h : SEs c n T args xs) (hp : tyPrim b args.length = some pr) : SE c n T (.Call (.Name g p) args [] pos) (.prim mu pr xs) := by
  have hl := h.length
  unfold tyPrim at hp
  split at hp
  · rename_i q; cases hp
    obtain ⟨rfl, hn⟩ := q
    refine se_ty C hg h fun a S hv hl' q => ?_
    obtain ⟨v, y, rfl, rfl, hv1⟩ := len1 hv (by omega)
    obtain ⟨r, H', e, q'⟩ := okE_some (nofresh rfl q)
    exact p_range1 S hv1 e q'
  split at hp
  · rename_i q; cases hp
    obtain ⟨rfl, hn⟩ := q
    refine se_ty C hg h fun a S hv hl' q => ?_
    obtain ⟨v, y, rfl, rfl, hv1⟩ := len1 hv (by omega)
    obtain ⟨r, H', e⟩ := prim_of_M q
    obtain ⟨ws, rfl, rfl⟩ := pList_lst e
    exact fresh_either S e (fun R hR => p_list a.hh S hv1 e hR) q
  split at hp
  · rename_i q; cases hp
    obtain ⟨rfl, hn⟩ := q
    refine se_ty C hg h fun a S hv hl' q => ?_
    obtain ⟨v, y, rfl, rfl, hv1⟩ := len1 hv (by omega)
    obtain ⟨r, H', e, q'⟩ := okE_some (nofresh rfl q)
    exact p_str S hv1 e q'
  split at hp
  · rename_i q; cases hp
    obtain ⟨rfl, hn⟩ := q
    refine se_ty C hg h fun a S hv hl' q => ?_
    obtain ⟨v, y, rfl, rfl, hv1⟩ := len1 hv (by omega)
    obtain ⟨r, H', e, q'⟩ := okE_some (nofresh rfl q)
    exact p_int S hv1 e q'
  cases hp

theorem tyOf_eq {t : String} {ty : Ty} (h : tyOf t = some ty) : tyName ty = t ∧ ty ≠ .valueError ∧ ∀ k, ty ≠ .cls k := by
  unfold tyOf at h
  (repeat' split at h) <;> first | (cases h; subst_vars; exact ⟨rfl, by simp, by simp⟩) | cases h

theorem se_isinst {g t : Str} {tn : String} {ty : Ty} {p p' pos : Pos} {x : Expr} {a : Ex} (C : Cok c T.gl) (hg : T.glob g = some (.bi "isinstance")) (ht : T.glob t = some (.ty tn)) (hty : tyOf tn = some ty) (h : SE c n T x a) (hns : NS x) :
    SE c n T (.Call (.Name g p) [x, .Name t p'] [] pos) (.prim false (.isinst ty) [a]) := by
  refine ⟨?_⟩
  intro env A s as X H ρ Q XX R w
  rw [wpE_prim, wpEs_cons] at w
  simp only [wpEs_nil] at w
  have e1 := C.gl g _ (ge_of hg).2.1
  have e2 := C.gl t _ (ge_of ht).2.1
  refine wpAny_Call_Name_kw (n_glob C hg R (.inr e1) ?_)
  have hst : starEach [x, .Name t p'] env = [(false, eval x env), (false, eval (.Name t p') env)] := by rw [star_ns hns]; rfl
  rw [hst]
  refine callWith_builtin rfl (evalArgs_plain (spliced_cons (wpAny_mono (h.run R w) (fun y s₁ r => ?_) fun _ _ e => e)))
  obtain ⟨v, H₁, as₁, x1, S1, k1, hv, q⟩ := r
  refine spliced_cons (n_glob C ht (R.next x1 k1 S1) (.inr e2) (spliced_nil ?_))
  obtain ⟨z, H', e, q'⟩ := okE_some q
  obtain ⟨h1, h2, h3⟩ := tyOf_eq hty
  have hp := p_isinst (A := A) (E := ERes c as₁ X s₁.heap XX) S1 hv ⟨h2, h3⟩ e q'
  rw [h1] at hp
  exact wpAny_mono hp (fun _ _ r => r.lift x1 k1) fun _ _ e => e.lift x1 k1

theorem se_item {v sl : Expr} {pos : Pos} {a b : Ex} (hs : isSlice sl = false) (h₁ : SE c n T v a) (h₂ : SE c n T sl b) : SE c n T (.Subscript v sl pos) (.prim false .item [a, b]) := by
  refine ⟨?_⟩
  intro env A s as X H ρ Q XX R w
  refine Subscript_ (se_two_prim h₁ h₂ R w fun S hv hv' q => ?_)
  obtain ⟨r, H', e, q'⟩ := okE_some q
  exact p_item (fun x y p e => by subst e; simp [isSlice] at hs) S hv hv' e q'

theorem se_list {es : List Expr} {pos : Pos} {xs : List Ex} {mu : Bool} (h : SEs c n T es xs) : SE c n T (.List es pos) (.prim mu .mklist xs) := by
  refine ⟨?_⟩
  intro env A s as X H ρ Q XX R w
  rw [wpE_prim] at w
  refine List_ (wpAny_mono (se_args h R w) (fun ys s₁ r => ?_) fun _ _ e => e)
  obtain ⟨vs, H₁, as₁, e1, S1, k1, hvs, q⟩ := r
  have hsome : ∃ ws, prim c.P .mklist vs H₁ = some (.lst ws, H₁) := by
    obtain ⟨r, H', e⟩ := prim_of_M q
    have e' : pMklist vs H₁ = some (r, H') := e
    unfold pMklist at e'
    by_cases hz : vs.length ≤ sizeOf'
    · exact ⟨vs, if_pos hz⟩
    · rw [if_neg hz] at e'; cases e'
  obtain ⟨ws, e⟩ := hsome
  refine wpAny_mono (fresh_either S1 e (fun R hR => p_mklist S1 hvs e hR) q) (fun _ _ r => r.lift e1 k1) fun _ _ (e : ERes c as₁ X s₁.heap XX _ _) => e.lift e1 k1
theorem se_tup {es : List Expr} {pos : Pos} {xs : List Ex} {kk : Nat} (h : SEs c n T es xs) : SE c n T (.Tuple es kk pos) (.prim false .mktup xs) := by
  refine ⟨?_⟩
  intro env A s as X H ρ Q XX R w
  rw [wpE_prim] at w
  refine Tuple_ (wpAny_mono (se_args h R w) (fun ys s₁ r => ?_) fun _ _ e => e)
  obtain ⟨vs, H₁, as₁, e1, S1, k1, hvs, q⟩ := r
  obtain ⟨z, H', e, q'⟩ := okE_some q
  exact wpAny_mono (p_mktup S1 hvs e q') (fun _ _ r => r.lift e1 k1) fun _ _ (e : ERes c as₁ X s₁.heap XX _ _) => e.lift e1 k1

end
end Mine

end
noncomputable section
namespace Mine
open PySem PySem.Calls PyProof.Rows

theorem SR.turn {c : Cx} {as : Adr} {X Y : List Addr} {H : AH} {s s' : Shared} (x : SR c as X H s) (k : KeptX [] X s.heap s'.heap) (hst : c.base.StaysIn s'.heap) (hY : ∀ b ∈ Y, b ∈ X)
    (hx : ∀ b ∈ Y, ∃ o, s'.heap.get? b = some o) (hg : s'.gens = s.gens) (ho : s'.os = s.os) : SR c as Y H s' where
  len := x.len
  stays := hst
  gens := hg.trans x.gens
  os := ho.trans x.os
  objs := fun i a e => by
    obtain ⟨h1, h2, o, h3, h4⟩ := x.objs i a e
    exact ⟨h1, fun q => h2 (hY _ q), o, h3, (h4.keepX (fun b o e _ hb => k b o e (by simp) hb) fun ob e hc => k.get e (by simp) h2 hc).frames fun b _ _ hb q => hb (hY _ q)⟩
  inj := x.inj
  dead := x.dead
  xs := hx

theorem KeptX.mono {as : Adr} {X Y : List Addr} {h h' : HP} (k : KeptX as Y h h') (hY : ∀ b ∈ Y, b ∈ X) : KeptX as X h h' := fun b o e hb hx => k b o e hb fun q => hx (hY _ q)
/-- all but some addresses as before -/
noncomputable def But (Y : List Addr) (h h' : HP) : Prop := ∀ b o, b ∉ Y → h.get? b = some o → h'.get? b = some o
theorem But.kept {Y : List Addr} {h h' : HP} (k : But Y h h') (as : Adr) : KeptX as Y h h' := fun b o e _ hy => ⟨o, k b o hy e, .inl rfl⟩
theorem But.stays {c : Cx} {as : Adr} {X Y : List Addr} {H : AH} {s : Shared} {h' : HP} (S : SR c as X H s) (k : But Y s.heap h') (hY : ∀ b ∈ Y, c.base.get? b = none) : c.base.StaysIn h' := fun b o e =>
  k b o (fun q => by rw [hY _ q] at e; cases e) (S.stays b o e)
theorem SR.but {c : Cx} {as : Adr} {X Y Z : List Addr} {H : AH} {s s' : Shared} (S : SR c as X H s) (k : But Z s.heap s'.heap) (hZ : ∀ b ∈ Z, b ∈ X ∧ c.base.get? b = none) (hY : ∀ b ∈ Y, b ∈ X)
    (hx : ∀ b ∈ Y, b ∈ Z → ∃ o, s'.heap.get? b = some o) (hg : s'.gens = s.gens) (ho : s'.os = s.os) : SR c as Y H s' :=
  S.turn ((k.kept []).mono fun b q => (hZ b q).1) (k.stays S fun b q => (hZ b q).2) hY (fun b hb => by
    by_cases hz : b ∈ Z
    · exact hx b hb hz
    · obtain ⟨o, e⟩ := S.xs b (hY b hb)
      exact ⟨o, k b o hz e⟩) hg ho

theorem OVR.frames {c : Cx} {as : Adr} {X Y : List Addr} {h : HP} {o : Option V} {y : Option Value} (hy : ∀ b o, h.get? b = some o → b ∉ X → b ∉ Y) (z : OVR c as X h o y) : OVR c as Y h o y :=
  fun v e => let ⟨q, e1, e2⟩ := z v e; ⟨q, e1, e2.frames hy⟩
theorem FR.frames {c : Cx} {as : Adr} {X Y : List Addr} {h : HP} {env : Env} {tab : List (Str × Nat)} {ρ : Fm} (F : FR c as X h env tab ρ) (hXY : ∀ b ∈ X, b ∈ Y) (hy : ∀ b o, h.get? b = some o → b ∉ X → b ∉ Y) : FR c as Y h env tab ρ where
  kind := F.kind
  glob := F.glob
  bi := F.bi
  lx := hXY _ F.lx
  lout := F.lout
  lb := F.lb
  ns := by
    obtain ⟨m, n, r⟩ := F.ns
    exact ⟨m, n, fun x i h1 h2 => (r x i h1 h2).frames hy⟩
  cells := fun x i h1 h2 => by
    obtain ⟨a, y, e1, e2, e3, e4, e5, e6, e7⟩ := F.cells x i h1 h2
    exact ⟨a, y, e1, hXY _ e2, e3, e4, e5, e6, e7.frames hy⟩
  apart := F.apart
  inj := F.inj

/-- a frame's own objects lie elsewhere -/
noncomputable def Away (Y : List Addr) (env : Env) (tab : List (Str × Nat)) : Prop :=
  env.locals ∉ Y ∧ ∀ x i, tab.lookup x = some i → (env.kindOf x = some .cell ∨ env.kindOf x = some .free) → ∀ a, env.cells.lookup x = some a → a ∉ Y
theorem FR.away {c : Cx} {as : Adr} {X Y : List Addr} {h : HP} {env : Env} {tab : List (Str × Nat)} {ρ : Fm} (F : FR c as X h env tab ρ) (hY : ∀ b ∈ Y, b ∉ X) : Away Y env tab :=
  ⟨fun q => hY _ q F.lx, fun x i h1 h2 a e q => by
    obtain ⟨a', y, e1, e2, _⟩ := F.cells x i h1 h2
    rw [e1] at e; cases e
    exact hY _ q e2⟩
theorem FR.keepY {c : Cx} {as : Adr} {X Y : List Addr} {h h' : HP} {env : Env} {tab : List (Str × Nat)} {ρ : Fm} (F : FR c as X h env tab ρ) (k : KeptX as Y h h') (hY : ∀ b ∈ Y, b ∈ X) (aw : Away Y env tab) : FR c as X h' env tab ρ where
  kind := F.kind
  glob := F.glob
  bi := F.bi
  lx := F.lx
  lout := F.lout
  lb := F.lb
  ns := by
    obtain ⟨m, n, r⟩ := F.ns
    exact ⟨m, Ns.same n fun o e => k _ o e F.lout aw.1, fun y i h1 h2 => (r y i h1 h2).keepX (k.mono hY) (.refl ..)⟩
  cells := fun y i h1 h2 => by
    obtain ⟨a, z, e1, e2, e3, e4, e5, e6, e7⟩ := F.cells y i h1 h2
    exact ⟨a, z, e1, e2, e3, e4, e5, IsCell.same e6 fun o e => k _ o e e3 (aw.2 y i h1 h2 a e1), e7.keepX (k.mono hY) (.refl ..)⟩
  apart := F.apart
  inj := F.inj

/-- an iterator that stands ahead of the k-th item -/
noncomputable def ItC (h : HP) (I : Addr) : V → Value → Nat → Prop
  | .tup _, y, k => ∃ a, y = .ref a ∧ h.IsTupleIter I a k
  | .str _, y, k => ∃ x t, y = .str x t ∧ (h.IsStrIter I "str_ascii_iterator" x t k ∨ h.IsStrIter I "str_iterator" x t k)
  | .rng a b, _, k => IsRangeIter h I (a + (k : Nat) * 1) (((b - a).toNat : Int) - (k : Nat)) 1
  | .lst _, y, k => ∃ a, y = .ref a ∧ h.IsListIter I a k
  | .ref _, y, k => ∃ a, y = .ref a ∧ h.IsListIter I a k
  | _, _, _ => False

theorem ItC.here {h : HP} {I : Addr} {v : V} {y : Value} {k : Nat} (x : ItC h I v y k) : ∃ o, h.get? I = some o ∧ o.cls ≠ .type "frame" := by
  cases v <;> try exact x.elim
  · obtain ⟨x, t, _, h1 | h1⟩ := x
    · obtain ⟨o, e, r⟩ := h1; exact ⟨o, e, by rw [r.1]; simp⟩
    · obtain ⟨o, e, r⟩ := h1; exact ⟨o, e, by rw [r.1]; simp⟩
  · obtain ⟨a, _, o, e, r⟩ := x; exact ⟨o, e, by rw [r.1]; simp⟩
  · obtain ⟨a, _, o, e, r⟩ := x; exact ⟨o, e, by rw [r.1]; simp⟩
  · exact ⟨_, x, by simp⟩
  · obtain ⟨a, _, o, e, r⟩ := x; exact ⟨o, e, by rw [r.1]; simp⟩
theorem ItC.at {h h' : HP} {I : Addr} {v : V} {y : Value} {k : Nat} (x : ItC h I v y k) (e : ∀ o, h.get? I = some o → o.cls ≠ .type "frame" → h'.get? I = some o) : ItC h' I v y k := by
  obtain ⟨ob, eo, hc⟩ := x.here
  have e0 : ∀ o, h.get? I = some o → h'.get? I = some o := fun o q => e o q (by rw [eo] at q; cases q; exact hc)
  cases v <;> try exact x.elim
  · obtain ⟨x, t, hy, h1 | h1⟩ := x
    · obtain ⟨o, q, r⟩ := h1; exact ⟨x, t, hy, .inl ⟨o, e0 o q, r⟩⟩
    · obtain ⟨o, q, r⟩ := h1; exact ⟨x, t, hy, .inr ⟨o, e0 o q, r⟩⟩
  · obtain ⟨a, hy, o, q, r⟩ := x; exact ⟨a, hy, o, e0 o q, r⟩
  · obtain ⟨a, hy, o, q, r⟩ := x; exact ⟨a, hy, o, e0 o q, r⟩
  · exact e0 _ x
  · obtain ⟨a, hy, o, q, r⟩ := x; exact ⟨a, hy, o, e0 o q, r⟩

section
variable {c : Cx} {A : Around} {E : Value → Shared → Prop} {s : Shared} {as : Adr} {X : List Addr} {H : AH}


theorem it_start {v : V} {y : Value} {items : List V} {Q : Value → Shared → Prop} (S : SR c as X H s) (hv : VR c as X s.heap v y) (hs : src H v = some items)
    (hQ : ∀ o, ItC (s.heap.push o) s.heap.objs.size v y 0 → Q (.ref s.heap.objs.size) { s with heap := s.heap.push o }) : wpAny c.M A (pyIter y) Q E s := by
  cases hv with
  | none => simp [src, view] at hs
  | bool b => simp [src, view] at hs
  | int i t => simp [src, view] at hs
  | str x t hb =>
    cases ha : (toS x).cps.all (· < 128)
    · exact wpAny_pyIter_wide ha (hQ _ ⟨_, _, rfl, .inr ⟨_, Heap.get?_push_size _ rfl, rfl, rfl⟩⟩)
    · exact wpAny_pyIter_ascii ha (hQ _ ⟨_, _, rfl, .inl ⟨_, Heap.get?_push_size _ rfl, rfl, rfl⟩⟩)
  | tup h1 h2 h3 h4 h5 => exact wpAny_pyIter_tuple ⟨_, h3, rfl, _, rfl⟩ (hQ _ ⟨_, rfl, _, Heap.get?_push_size _ rfl, rfl, rfl⟩)
  | lst h1 h2 h3 h4 h5 => exact wpAny_pyIter_list h3.isList (hQ _ ⟨_, rfl, _, Heap.get?_push_size _ rfl, rfl, rfl⟩)
  | dct => simp [src, view] at hs
  | @rng r a b t₀ t₁ t₂ h1 h2 h3 h4 h5 =>
    refine wpAny_pyIter_range h3 (range_small h4 h5) (hQ _ ?_)
    show IsRangeIter _ _ _ _ _
    rw [rangeSize_eq, show a + ((0 : Nat) : Int) * 1 = a by omega, show ((b - a).toNat : Int) - ((0 : Nat) : Int) = ((b - a).toNat : Int) by omega]
    exact Heap.get?_push_size _ rfl
  | exc => simp [src, view] at hs
  | refD e =>
    simp only [src, view] at hs
    rw [S.dead _ e] at hs
    cases hs
  | ref e =>
    obtain ⟨_, _, o, ho, hor⟩ := S.objs _ _ e
    simp only [src, view, ho] at hs
    cases o with
    | list vs =>
      obtain ⟨_, its, hp, _⟩ := hor
      exact wpAny_pyIter_list hp.isList (hQ _ ⟨_, rfl, _, Heap.get?_push_size _ rfl, rfl, rfl⟩)
    | _ => cases hs

theorem rngL_get {a b : Int} {k : Nat} {x : V} (h : (rngL a b)[k]? = some x) : x = .int (a + k) ∧ k < (b - a).toNat := by
  simp only [rngL, List.getElem?_map, Option.map_eq_some_iff] at h
  obtain ⟨i, h1, rfl⟩ := h
  rw [List.getElem?_eq_some_iff] at h1
  obtain ⟨h1, h2⟩ := h1
  simp at h1 h2
  subst h2
  exact ⟨rfl, by omega⟩

theorem it_next {v : V} {y : Value} {items : List V} {x : V} {k : Nat} {I : Addr} {Q : Option Value → Shared → Prop} (hh : A.handled = none) (S : SR c as X H s) (hI : I ∈ X) (hb : c.base.get? I = none) (hv : VR c as X s.heap v y) (hi : ItC s.heap I v y k)
    (hs : src H v = some items) (hk : items[k]? = some x)
    (hQ : ∀ z h' tk, But [I] s.heap h' → VR c as X h' x z → VR c as X h' v y → ItC h' I v y (k + 1) → SR c as X H { s with heap := h', toks := tk } → Q (some z) { s with heap := h', toks := tk }) : wpAny c.M A (pyNext (.ref I)) Q E s := by
  have fin : ∀ z h' tk, But [I] s.heap h' → VR c as X s.heap x z → ItC h' I v y (k + 1) → Q (some z) { s with heap := h', toks := tk } := fun z h' tk b hz hit => by
    have kx : KeptX as X s.heap h' := (b.kept as).mono (by simpa using hI)
    exact hQ z h' tk b (hz.keepX kx (.refl ..)) (hv.keepX kx (.refl ..)) hit (S.but (s' := { s with heap := h', toks := tk }) b (by simpa using ⟨hI, hb⟩) (fun _ q => q) (fun b hb hz => by simp at hz; subst hz; obtain ⟨o, e, _⟩ := hit.here; exact ⟨o, e⟩) rfl rfl)
  cases hv with
  | none => simp [src, view] at hs
  | bool b => simp [src, view] at hs
  | int i t => simp [src, view] at hs
  | str xs t hb =>
    obtain ⟨x', t', e, hit⟩ := hi
    cases e
    simp only [src, Option.some.injEq] at hs
    subst hs
    simp only [List.getElem?_map, Option.map_eq_some_iff] at hk
    obtain ⟨ch, hch, rfl⟩ := hk
    have hlt : k < (toS xs).cps.size := by
      simp [toS]; exact (List.getElem?_eq_some_iff.mp hch).1
    have hsign : ∀ z, SignAt (toS xs) k z → VR c as X s.heap (.str [ch]) z := by
      rintro z ⟨q, u, hq, rfl⟩
      simp [toS, hch] at hq
      subst hq
      exact .str [ch] u (by simp [bnd])
    rcases hit with hit | hit
    · exact (Walks.strAscii hh I (toS xs) t).item k s Q E hlt hit fun z h' tk hz st b => fin z h' tk b (hsign z hz) ⟨_, _, rfl, .inl st⟩
    · exact (Walks.strWide hh I (toS xs) t).item k s Q E hlt hit fun z h' tk hz st b => fin z h' tk b (hsign z hz) ⟨_, _, rfl, .inr st⟩
  | @tup a its n vs h1 h2 h3 h4 h5 =>
    obtain ⟨a', e, hit⟩ := hi
    cases e
    simp only [src, Option.some.injEq] at hs
    subst hs
    obtain ⟨z, hz, hzr⟩ := h4.get hk
    rw [Array.getElem?_toList] at hz
    refine (Walks.tuple hh I a (fun q => h2 (q ▸ hI)) its).item k s Q E (Array.getElem?_eq_some_iff.mp hz).1 ⟨hit, _, h3, rfl, _, rfl⟩ fun z' h' tk hz' st b => fin z' h' tk b ?_ ⟨_, rfl, st.1⟩
    rw [hz] at hz'; cases hz'; exact hzr
  | @lst a its vs h1 h2 h3 h4 h5 =>
    obtain ⟨a', e, hit⟩ := hi
    cases e
    simp only [src, view, Option.some.injEq] at hs
    subst hs
    obtain ⟨z, hz, hzr⟩ := h4.get hk
    rw [Array.getElem?_toList] at hz
    refine (Walks.list hh I a (fun q => h2 (q ▸ hI)) its).item k s Q E (Array.getElem?_eq_some_iff.mp hz).1 ⟨hit, h3.isList⟩ fun z' h' tk hz' st b => fin z' h' tk b ?_ ⟨_, rfl, st.1⟩
    rw [hz] at hz'; cases hz'; exact hzr
  | dct => simp [src, view] at hs
  | @rng r a b t₀ t₁ t₂ h1 h2 h3 h4 h5 =>
    simp only [src, Option.some.injEq] at hs
    subst hs
    obtain ⟨rfl, hlt⟩ := rngL_get hk
    refine (Walks.range hh I a 1 (b - a).toNat).item k s Q E hlt hi fun z h' tk hz st bb => ?_
    obtain ⟨t, rfl⟩ := hz
    refine fin _ h' tk bb ?_ st
    rw [show a + (k : Int) * 1 = a + k by omega]
    exact .int _ _
  | exc => simp [src, view] at hs
  | refD e =>
    simp only [src, view] at hs
    rw [S.dead _ e] at hs
    cases hs
  | @ref i a e =>
    obtain ⟨a', e', hit⟩ := hi
    cases e'
    obtain ⟨_, hax, o, ho, hor⟩ := S.objs _ _ e
    simp only [src, view, ho] at hs
    cases o with
    | list vs =>
      obtain ⟨_, its, hp, h4⟩ := hor
      cases hs
      obtain ⟨z, hz, hzr⟩ := h4.get hk
      rw [Array.getElem?_toList] at hz
      refine (Walks.list hh I a (fun q => hax (q ▸ hI)) its).item k s Q E (Array.getElem?_eq_some_iff.mp hz).1 ⟨hit, hp.isList⟩ fun z' h' tk hz' st b => fin z' h' tk b ?_ ⟨_, rfl, st.1⟩
      rw [hz] at hz'; cases hz'; exact hzr
    | _ => cases hs

theorem it_done {v : V} {y : Value} {items : List V} {k : Nat} {I : Addr} {Q : Option Value → Shared → Prop} (hh : A.handled = none) (S : SR c as X H s) (hI : I ∈ X) (hv : VR c as X s.heap v y) (hi : ItC s.heap I v y k)
    (hs : src H v = some items) (hk : items.length = k)
    (hQ : ∀ h' tk, But [I] s.heap h' → Q none { s with heap := h', toks := tk }) : wpAny c.M A (pyNext (.ref I)) Q E s := by
  subst hk
  cases hv with
  | none => simp [src, view] at hs
  | bool b => simp [src, view] at hs
  | int i t => simp [src, view] at hs
  | str xs t hb =>
    obtain ⟨x', t', e, hit⟩ := hi
    cases e
    simp only [src, Option.some.injEq] at hs
    subst hs
    have hl : (xs.map fun c => V.str [c]).length = (toS xs).cps.size := by simp [toS]
    rw [hl] at hit
    rcases hit with hit | hit
    · exact (Walks.strAscii hh I (toS xs) t).done s Q E hit hQ
    · exact (Walks.strWide hh I (toS xs) t).done s Q E hit hQ
  | @tup a its n vs h1 h2 h3 h4 h5 =>
    obtain ⟨a', e, hit⟩ := hi
    cases e
    simp only [src, Option.some.injEq] at hs
    subst hs
    rw [h4.length, Array.length_toList] at hit
    exact (Walks.tuple hh I a (fun q => h2 (q ▸ hI)) its).done s Q E ⟨hit, _, h3, rfl, _, rfl⟩ hQ
  | @lst a its vs h1 h2 h3 h4 h5 =>
    obtain ⟨a', e, hit⟩ := hi
    cases e
    simp only [src, view, Option.some.injEq] at hs
    subst hs
    rw [h4.length, Array.length_toList] at hit
    exact (Walks.list hh I a (fun q => h2 (q ▸ hI)) its).done s Q E ⟨hit, h3.isList⟩ hQ
  | dct => simp [src, view] at hs
  | @rng r a b t₀ t₁ t₂ h1 h2 h3 h4 h5 =>
    simp only [src, Option.some.injEq] at hs
    subst hs
    have hi' : IsRangeIter s.heap I (a + ((rngL a b).length : Nat) * 1) (((b - a).toNat : Int) - ((rngL a b).length : Nat)) 1 := hi
    rw [rngL_length] at hi'
    exact (Walks.range hh I a 1 (b - a).toNat).done s Q E hi' hQ
  | exc => simp [src, view] at hs
  | refD e =>
    simp only [src, view] at hs
    rw [S.dead _ e] at hs
    cases hs
  | @ref i a e =>
    obtain ⟨a', e', hit⟩ := hi
    cases e'
    obtain ⟨_, hax, o, ho, hor⟩ := S.objs _ _ e
    simp only [src, view, ho] at hs
    cases o with
    | list vs =>
      obtain ⟨_, its, hp, h4⟩ := hor
      cases hs
      rw [h4.length, Array.length_toList] at hit
      exact (Walks.list hh I a (fun q => hax (q ▸ hI)) its).done s Q E ⟨hit, hp.isList⟩ hQ
    | _ => cases hs
end
end Mine

end
noncomputable section
namespace Mine
open PySem PySem.Calls PyProof.Rows

/-- of no other's -/
noncomputable def Fr (as : Adr) (h : HP) (a : Addr) : Prop := some a ∈ as ∨ h.get? a = none
theorem Kept.but {as : Adr} {h₀ h h' : HP} {Y : List Addr} (k : Kept as h₀ h) (b : But Y h h') (hY : ∀ a ∈ Y, Fr as h₀ a) : Kept as h₀ h' := fun x o e hx => by
  obtain ⟨o', e', s⟩ := k x o e hx
  exact ⟨o', b x o' (fun q => by rcases hY _ q with r | r; exact hx r; rw [r] at e; cases e) e', s⟩
theorem Kept.fr {as : Adr} {h h' : HP} {a : Addr} (k : Kept as h h') (ha : h'.get? a = none) : Fr as h a := by
  by_cases hm : some a ∈ as
  · exact .inl hm
  · cases hq : h.get? a with
    | none => exact .inr hq
    | some o => obtain ⟨o', e, _⟩ := k a o hq hm; rw [e] at ha; cases ha

structure CompF (T : Tb) (x : Str) (sc : Scope) : Prop where
  kind : sc.kind = .function
  tabs : ∀ y i, T.tab.lookup y = some i → i < T.n
  hx : sc.names.lookup x = some .local
  names : ∀ p ∈ sc.names, sc.names.lookup p.1 = some p.2
  loc : ∀ y, sc.names.lookup y = some .local → y = x ∨ T.tab.lookup y = none
  nocell : ∀ p ∈ sc.names, p.2 ≠ .cell
  free : ∀ y, sc.names.lookup y = some .free → (T.names.lookup y = some .cell ∨ T.names.lookup y = some .free) ∧ (∃ i, T.tab.lookup y = some i) ∧ y ≠ x

theorem compF {T : Tb} {x : Str} {sc : Scope} (h : compOk T x sc = true) : CompF T x sc := by
  simp only [compOk, Bool.and_eq_true, decide_eq_true_eq, List.all_eq_true] at h
  obtain ⟨⟨⟨h1, h2⟩, h3⟩, h4⟩ := h
  refine ⟨h1, fun y i e => h2 _ (mem_of_lookup e), h3, fun p hp => (h4 p hp).1, fun y e => ?_, fun p hp e => ?_, fun y e => ?_⟩
  · have := (h4 _ (mem_of_lookup e)).2
    simpa using this
  · have := (h4 p hp).2
    rw [e] at this
    simp at this
  · have := (h4 _ (mem_of_lookup e)).2
    simp only [Bool.and_eq_true, Bool.or_eq_true, decide_eq_true_eq] at this
    exact ⟨this.1.1, Option.isSome_iff_exists.mp this.1.2, this.2⟩

theorem lookup_relabel {env : Env} : ∀ (names : List (Str × NameKind)) (x : Str),
    (names.map fun (n, k) => if (k == NameKind.free && env.scope.kind == .function && env.kindOf n == some .cell) then (n, NameKind.cell) else (n, k)).lookup x =
      (names.lookup x).map fun k => if (k == NameKind.free && env.scope.kind == .function && env.kindOf x == some .cell) then NameKind.cell else k
  | [], _ => rfl
  | (n, k) :: r, x => by
    have ih := lookup_relabel (env := env) r x
    show List.lookup x ((if (k == NameKind.free && env.scope.kind == .function && env.kindOf n == some .cell) = true then (n, NameKind.cell) else (n, k)) :: _) = _
    cases hx : x == n with
    | true =>
      have hxn : x = n := by simpa using hx
      subst hxn
      simp only [List.lookup_cons, hx, Option.map_some]
      by_cases hc : (k == NameKind.free && env.scope.kind == .function && env.kindOf x == some .cell) = true
      · rw [if_pos hc, if_pos hc, List.lookup_cons, hx]
      · rw [if_neg hc, if_neg hc, List.lookup_cons, hx]
    | false =>
      simp only [List.lookup_cons, hx]
      by_cases hc : (k == NameKind.free && env.scope.kind == .function && env.kindOf n == some .cell) = true
      · rw [if_pos hc]; simp only [List.lookup_cons, hx]; exact ih
      · rw [if_neg hc]; simp only [List.lookup_cons, hx]; exact ih

theorem closure_of {sc : Scope} {env : Env} (hn : ∀ p ∈ sc.names, sc.names.lookup p.1 = some p.2) (hf : ∀ y, sc.names.lookup y = some .free → ∃ a, env.cells.lookup y = some a) :
    ∃ cl, closureFor sc env = pure cl ∧ (∀ y a, cl.lookup y = some a → env.cells.lookup y = some a) ∧ (∀ y, sc.names.lookup y = some .free → cl.lookup y = env.cells.lookup y) := by
  have go : ∀ (names : List (Str × NameKind)) (acc : List (Str × Addr)), (∀ p ∈ names, p.2 = .free → ∃ a, env.cells.lookup p.1 = some a) → (∀ y a, acc.lookup y = some a → env.cells.lookup y = some a) →
      ∃ cl, (forIn names acc fun p cs => (if (p.2 == NameKind.free) = true then do let a ← cellOf env p.1; pure (ForInStep.yield ((p.1, a) :: cs)) else pure (ForInStep.yield cs) : Sem _)) = pure cl ∧
        (∀ y a, cl.lookup y = some a → env.cells.lookup y = some a) ∧ (∀ p ∈ names, p.2 = .free → ∃ a, cl.lookup p.1 = some a) ∧ (∀ y a, acc.lookup y = some a → ∃ a, cl.lookup y = some a) := by
    intro names
    induction names with
    | nil => exact fun acc _ h2 => ⟨acc, rfl, h2, by simp, fun y a e => ⟨a, e⟩⟩
    | cons p r ih =>
      intro acc h1 h2
      by_cases hp : p.2 = .free
      · obtain ⟨a, ha⟩ := h1 p (.head _) hp
        have h2' : ∀ y b, ((p.1, a) :: acc).lookup y = some b → env.cells.lookup y = some b := fun y b e => by
          rw [List.lookup_cons] at e
          cases hy : y == p.1 with
          | true => rw [hy] at e; simp only [Option.some.injEq] at e; subst e; rw [beq_iff_eq] at hy; rw [hy]; exact ha
          | false => rw [hy] at e; exact h2 y b e
        obtain ⟨cl, e1, e2, e3, e4⟩ := ih ((p.1, a) :: acc) (fun q hq => h1 q (.tail _ hq)) h2'
        refine ⟨cl, ?_, e2, fun q hq hqf => ?_, fun y b e => ?_⟩
        · rw [List.forIn_cons]
          simp only [hp, BEq.rfl, if_true, cellOf, ha]
          exact e1
        · cases hq with
          | head => exact e4 p.1 a (by simp [List.lookup_cons])
          | tail _ hq => exact e3 q hq hqf
        · by_cases hy : y = p.1
          · subst hy; exact e4 p.1 a (by simp [List.lookup_cons])
          · exact e4 y b (by rw [List.lookup_cons, show (y == p.1) = false by simpa using hy]; exact e)
      · obtain ⟨cl, e1, e2, e3, e4⟩ := ih acc (fun q hq => h1 q (.tail _ hq)) h2
        refine ⟨cl, ?_, e2, fun q hq hqf => ?_, e4⟩
        · rw [List.forIn_cons]
          have : (p.2 == NameKind.free) = false := by simpa using hp
          simp only [this, Bool.false_eq_true, if_false]
          exact e1
        · cases hq with
          | head => exact absurd hqf hp
          | tail _ hq => exact e3 q hq hqf
  obtain ⟨cl, e1, e2, e3, _⟩ := go sc.names [] (fun p hp hpf => hf p.1 (by rw [hn p hp, hpf])) (by simp)
  refine ⟨cl, ?_, e2, fun y hy => ?_⟩
  · unfold closureFor
    simp only [bind_pure_comp] at e1 ⊢
    first
      | (rw [e1]; rfl)
      | (simp only [bind_pure_comp]; erw [e1]; rfl)
  · obtain ⟨a, ha⟩ := e3 (y, .free) (mem_of_lookup hy) rfl
    rw [ha, e2 y a ha]

/-- where a comprehension's objects lie -/
structure Ls (c : Cx) (env : Env) (tab : List (Str × Nat)) (as₀ : Adr) (h₀ : HP) (X : List Addr) (I C D : Addr) : Prop where
  ic : I ≠ C
  id : I ≠ D
  cd : C ≠ D
  bi : c.base.get? I = none
  bc : c.base.get? C = none
  bd : c.base.get? D = none
  hi : Fr as₀ h₀ I
  hc : Fr as₀ h₀ C
  hd : Fr as₀ h₀ D
  dx : D ∉ X
  cx : C ∉ X
  aw : Away [I, C, D] env tab

structure Lp (c : Cx) (T : Tb) (env : Env) (as₀ : Adr) (h₀ : HP) (X : List Addr) (ρ : Fm) (I C D : Addr) (v : V) (y : Value) (k : Nat) (acc : List V) (arr : Array Value) (s : Shared) (as : Adr) (H : AH) : Prop where
  S : SR c as (I :: C :: D :: X) H s
  F : FR c as (I :: C :: D :: X) s.heap env T.tab ρ
  hv : VR c as (I :: C :: D :: X) s.heap v y
  hi : ItC s.heap I v y k
  hD : s.heap.PlainList D arr
  hacc : VRs c as (I :: C :: D :: X) s.heap acc arr.toList
  hl : acc.length ≤ k
  hC : ∃ m, s.heap.Ns C m
  oi : some I ∉ as
  oc : some C ∉ as
  od : some D ∉ as
  E : Ext as₀ h₀ as
  K : Kept as₀ h₀ s.heap

section
variable {c : Cx} {T : Tb} {env : Env} {as₀ : Adr} {h₀ : HP} {X : List Addr} {ρ : Fm} {I C D : Addr} {v : V} {y : Value} {k : Nat} {acc : List V} {arr : Array Value} {s : Shared} {as : Adr} {H : AH}

theorem Lp.eval {s' : Shared} {as' : Adr} {H' : AH} (L : Lp c T env as₀ h₀ X ρ I C D v y k acc arr s as H) (e : Ext as s.heap as') (kp : Kept as s.heap s'.heap) (S : SR c as' (I :: C :: D :: X) H' s') : Lp c T env as₀ h₀ X ρ I C D v y k acc arr s' as' H' where
  S := S
  F := L.F.keep kp e
  hv := L.hv.keep kp e
  hi := L.hi.at fun o q hc => kp.get q L.oi hc
  hD := by obtain ⟨n, q⟩ := L.hD; exact ⟨n, kp.get q L.od (by simp)⟩
  hacc := L.hacc.keep kp e
  hl := L.hl
  hC := by obtain ⟨m, q⟩ := L.hC; exact ⟨m, Ns.same q fun o e => kp _ o e L.oc⟩
  oi := by obtain ⟨o, q, _⟩ := L.hi.here; exact e.out q L.oi
  oc := by obtain ⟨m, o, _, _, q, _⟩ := L.hC; exact e.out q L.oc
  od := by obtain ⟨n, q⟩ := L.hD; exact e.out q L.od
  E := L.E.trans L.K e
  K := L.K.trans L.E kp

/-- what is not of the run's own objects -/
theorem Lp.but {s' : Shared} {Z : List Addr} (W : Ls c env T.tab as₀ h₀ X I C D) (L : Lp c T env as₀ h₀ X ρ I C D v y k acc arr s as H) (b : But Z s.heap s'.heap) (hZ : ∀ a ∈ Z, a ∈ [I, C, D]) :
    KeptX as (I :: C :: D :: X) s.heap s'.heap ∧ FR c as (I :: C :: D :: X) s'.heap env T.tab ρ ∧ Kept as₀ h₀ s'.heap := by
  refine ⟨(b.kept as).mono fun a ha => ?_, L.F.keepY (Y := Z) (b.kept as) (fun a ha => ?_) ⟨fun q => W.aw.1 (hZ _ q), fun x i h1 h2 a e q => W.aw.2 x i h1 h2 a e (hZ _ q)⟩, L.K.but b fun a ha => ?_⟩
  · have := hZ a ha; simp at this; rcases this with h | h | h <;> simp [h]
  · have := hZ a ha; simp at this; rcases this with h | h | h <;> simp [h]
  · have := hZ a ha
    simp at this
    rcases this with rfl | rfl | rfl
    · exact W.hi
    · exact W.hc
    · exact W.hd

theorem Lp.next {h' : HP} {tk : Nat} (W : Ls c env T.tab as₀ h₀ X I C D) (L : Lp c T env as₀ h₀ X ρ I C D v y k acc arr s as H) (b : But [I] s.heap h') (hv : VR c as (I :: C :: D :: X) h' v y) (hi : ItC h' I v y (k + 1))
    (S : SR c as (I :: C :: D :: X) H { s with heap := h', toks := tk }) : Lp c T env as₀ h₀ X ρ I C D v y (k + 1) acc arr { s with heap := h', toks := tk } as H := by
  obtain ⟨b1, b2, b3⟩ := L.but (s' := { s with heap := h', toks := tk }) W b (by simp)
  refine ⟨S, b2, hv, hi, ?_, L.hacc.keepX b1 (.refl ..), by have := L.hl; omega, ?_, L.oi, L.oc, L.od, L.E, b3⟩
  · obtain ⟨n, q⟩ := L.hD; exact ⟨n, b _ _ (by simpa using Ne.symm W.id) q⟩
  · obtain ⟨m, q⟩ := L.hC; exact ⟨m, Ns.same q fun o e => ⟨o, b _ _ (by simpa using Ne.symm W.ic) e, .inl rfl⟩⟩

theorem Lp.store {h' : HP} {tk : Nat} {m : Str → Option Value} (W : Ls c env T.tab as₀ h₀ X I C D) (L : Lp c T env as₀ h₀ X ρ I C D v y k acc arr s as H) (b : But [C] s.heap h') (hm : h'.Ns C m) :
    Lp c T env as₀ h₀ X ρ I C D v y k acc arr { s with heap := h', toks := tk } as H := by
  obtain ⟨b1, b2, b3⟩ := L.but (s' := { s with heap := h', toks := tk }) W b (by simp)
  refine ⟨L.S.but (s' := { s with heap := h', toks := tk }) b (by simpa using W.bc) (fun _ q => q) (fun a ha hz => ?_) rfl rfl, b2, L.hv.keepX b1 (.refl ..), L.hi.at fun o e _ => b _ _ (by simpa using W.ic) e, ?_, L.hacc.keepX b1 (.refl ..), L.hl, ⟨m, hm⟩, L.oi, L.oc, L.od, L.E, b3⟩
  · simp at hz; subst hz; obtain ⟨o, _, _, e, _⟩ := hm; exact ⟨o, e⟩
  · obtain ⟨n, q⟩ := L.hD; exact ⟨n, b _ _ (by simpa using Ne.symm W.cd) q⟩

theorem Lp.push {h' : HP} {z : V} {zc : Value} (W : Ls c env T.tab as₀ h₀ X I C D) (L : Lp c T env as₀ h₀ X ρ I C D v y k acc arr s as H) (b : But [D] s.heap h') (hp : h'.PlainList D (arr.push zc)) (hz : VR c as (I :: C :: D :: X) s.heap z zc) (hl : acc.length + 1 ≤ k) :
    Lp c T env as₀ h₀ X ρ I C D v y k (acc ++ [z]) (arr.push zc) { s with heap := h' } as H := by
  obtain ⟨b1, b2, b3⟩ := L.but (s' := { s with heap := h' }) W b (by simp)
  refine ⟨L.S.but (s' := { s with heap := h' }) b (by simpa using W.bd) (fun _ q => q) (fun a ha hz => ?_) rfl rfl, b2, L.hv.keepX b1 (.refl ..), L.hi.at fun o e _ => b _ _ (by simpa using W.id) e, hp, ?_, by simpa using hl, ?_, L.oi, L.oc, L.od, L.E, b3⟩
  · simp at hz; subst hz; obtain ⟨n, e⟩ := hp; exact ⟨_, e⟩
  · rw [Array.toList_push]; exact (L.hacc.keepX b1 (.refl ..)).append (.cons (hz.keepX b1 (.refl ..)) .nil)
  · obtain ⟨m, q⟩ := L.hC; exact ⟨m, Ns.same q fun o e => ⟨o, b _ _ (by simpa using W.cd) e, .inl rfl⟩⟩

/-- the comprehension's own block stands ready -/
theorem Lp.rdy {A : Around} {n : Nat} {x : Str} {sc : Scope} {cl : List (Str × Addr)} {u : V} {uc : Value} {m : Str → Option Value} (W : Ls c env T.tab as₀ h₀ X I C D) (L : Lp c T env as₀ h₀ X ρ I C D v y k acc arr s as H) (a : AOk A n) (K : KOk T env) (hlen : ρ.length = T.n)
    (ok : CompF T x sc) (hcl : ∀ y a, cl.lookup y = some a → env.cells.lookup y = some a) (hcl' : ∀ y, sc.names.lookup y = some .free → cl.lookup y = env.cells.lookup y) (hm : s.heap.Ns C m) (hmx : m x = some uc) (hu : VR c as (I :: C :: D :: X) s.heap u uc) :
    Rdy c { T with names := sc.names, tab := (x, T.n) :: T.tab, n := T.n + 1 } (compEnvC sc cl C env) A n s as (I :: C :: D :: X) H (ρ ++ [some u]) := by
  have kind : ∀ y, (compEnvC sc cl C env).kindOf y = (sc.names.lookup y).map fun k => if (k == NameKind.free && env.scope.kind == .function && env.kindOf y == some .cell) then NameKind.cell else k := fun y => lookup_relabel sc.names y
  have notcell : ∀ y, sc.names.lookup y ≠ some .cell := fun y e => ok.nocell _ (mem_of_lookup e) rfl
  have kfree : ∀ y, ((compEnvC sc cl C env).kindOf y = some .cell ∨ (compEnvC sc cl C env).kindOf y = some .free) → sc.names.lookup y = some .free := fun y e => by
    rw [kind] at e
    cases hq : sc.names.lookup y with
    | none => rw [hq] at e; simp at e
    | some kk =>
      rw [hq] at e
      cases kk with
      | free => rfl
      | cell => exact absurd hq (notcell y)
      | _ => simp at e
  have kloc : ∀ y, (compEnvC sc cl C env).kindOf y = some .local → sc.names.lookup y = some .local := fun y e => by
    rw [kind] at e
    cases hq : sc.names.lookup y with
    | none => rw [hq] at e; simp at e
    | some kk =>
      rw [hq] at e
      cases kk with
      | «local» => rfl
      | free =>
        simp only [Option.map_some, Option.some.injEq] at e
        split at e <;> cases e
      | _ => simp at e
  refine ⟨a, L.S, ?_, ?_, ?_⟩
  · refine ⟨ok.kind, L.F.glob, L.F.bi, by simp [compEnvC], L.oc, W.bc, ⟨m, hm, fun z i h1 h2 => ?_⟩, fun z i h1 h2 => ?_, fun z z' b h1 h2 => L.F.apart z z' b (hcl _ _ h1) (hcl _ _ h2), fun z z' i h1 h2 => ?_⟩
    · have hz := ok.loc z (kloc z h2)
      have hzx : z = x := by
        rcases hz with hz | hz
        · exact hz
        · rw [List.lookup_cons] at h1
          cases hb : z == x with
          | true => simpa using hb
          | false => rw [hb] at h1; simp only at h1; rw [hz] at h1; cases h1
      subst hzx
      simp only [List.lookup_cons, BEq.rfl, Option.some.injEq] at h1
      subst h1
      rw [hmx, ← hlen]
      intro w ew
      simp at ew
      subst ew
      exact ⟨uc, rfl, hu⟩
    · have hz := kfree z h2
      obtain ⟨h3, ⟨j, h4⟩, h5⟩ := ok.free z hz
      have hzi : T.tab.lookup z = some i := by
        rw [List.lookup_cons, show (z == x) = false by simpa using h5] at h1; exact h1
      have hek : env.kindOf z = some .cell ∨ env.kindOf z = some .free := by
        rcases h3 with h3 | h3
        · exact .inl (K.cell z h3)
        · rcases K.free z h3 with q | q
          · exact .inr q
          · exact .inl q
      obtain ⟨a, yy, e1, e2, e3, e4, e5, e6, e7⟩ := L.F.cells z i hzi hek
      have hi := ok.tabs z i hzi
      refine ⟨a, yy, (hcl' z hz).trans e1, e2, e3, e4, fun q => W.aw.2 z i hzi hek a e1 (by rw [q]; simp [compEnvC]), e6, ?_⟩
      rw [List.getElem?_append_left (by omega)]
      exact e7
    · rw [List.lookup_cons] at h1 h2
      cases hb : z == x with
      | true =>
        cases hb' : z' == x with
        | true => rw [beq_iff_eq] at hb hb'; rw [hb, hb']
        | false =>
          rw [hb] at h1; rw [hb'] at h2
          simp only [Option.some.injEq] at h1 h2
          have := ok.tabs _ _ h2
          omega
      | false =>
        cases hb' : z' == x with
        | true =>
          rw [hb] at h1; rw [hb'] at h2
          simp only [Option.some.injEq] at h1 h2
          have := ok.tabs _ _ h1
          omega
        | false => rw [hb] at h1; rw [hb'] at h2; exact L.F.inj z z' i h1 h2
  · refine ⟨fun z hz => ?_, fun z hz => absurd hz (notcell z), fun z hz => ?_, fun z hz => ?_⟩
    · rw [kind, hz]; rfl
    · rw [kind, hz]
      simp only [Option.map_some]
      split
      · exact .inr rfl
      · exact .inl rfl
    · rw [kind, hz]; rfl
  · simp [hlen]

/-- one turn's tests and element -/
noncomputable def turnF (P : Prog) (Cs : Calls) (elt : Ex) (cond : Option Ex) (ρ : Fm) (XX : XE) : V → AH → (Option V → AH → Prop) → Prop := fun x H' K => match cond with
  | none => wpE P Cs elt (ρ ++ [some x]) H' (fun y H'' => K (some y) H'') XX
  | some q => wpE P Cs q (ρ ++ [some x]) H' (fun b H₂ => okB (truth b) fun t => if t then wpE P Cs elt (ρ ++ [some x]) H₂ (fun y H'' => K (some y) H'') XX else K none H₂) XX

theorem wpE_comp' {P : Prog} {Cs : Calls} {ρ : Fm} {H : AH} {Q : QE} {XX : XE} {mu : Bool} {elt it : Ex} {cond : Option Ex} : wpE P Cs (.comp mu elt it cond) ρ H Q XX = wpE P Cs it ρ H (fun v H₁ => ∃ items, src H₁ v = some items ∧ items.length ≤ sizeOf' ∧
      compL (turnF P Cs elt cond ρ XX) (fun H' => src H' v = some items) items [] H₁ (fun ys H₂ => okE (if mu then thaw (.lst ys) H₂ else some (.lst ys, H₂)) Q)) XX := by
  cases cond <;> rfl

theorem drop_cons {α : Type} {l : List α} {k : Nat} {x : α} (h : l[k]? = some x) : l.drop k = x :: l.drop (k + 1) := by
  obtain ⟨h1, h2⟩ := List.getElem?_eq_some_iff.mp h
  rw [List.drop_eq_getElem_cons h1, h2]

theorem comp_loop {A : Around} {n : Nat} {x : Str} {px : Pos} {elt iter : Expr} {ifs : List Expr} {sc : Scope} {pos : Pos} {cl : List (Str × Addr)} {b : Ex} {cond : Option Ex} {XX : XE} {items : List V} {QQ : List V → AH → Prop} {R : Result → Shared → Prop}
    (W : Ls c env T.tab as₀ h₀ X I C D) (a : AOk A n) (K : KOk T env) (hlen : ρ.length = T.n)
    (ok : CompF T x sc) (hcl : ∀ y a, cl.lookup y = some a → env.cells.lookup y = some a) (hcl' : ∀ y, sc.names.lookup y = some .free → cl.lookup y = env.cells.lookup y)
    (he : SE c n { T with names := sc.names, tab := (x, T.n) :: T.tab, n := T.n + 1 } elt b)
    (hc : (ifs = [] ∧ cond = none) ∨ ∃ t q, ifs = [t] ∧ cond = some q ∧ ST c n { T with names := sc.names, tab := (x, T.n) :: T.tab, n := T.n + 1 } t q)
    (hsz : items.length ≤ sizeOf')
    (L : Lp c T env as₀ h₀ X ρ I C D v y k acc arr s as H)
    (w : compL (turnF c.P (callF c.P n) b cond ρ XX) (fun H' => src H' v = some items) (items.drop k) acc H QQ) (hk : k ≤ items.length)
    (hR : ∀ k' acc' arr' s' as' H' tk h', Lp c T env as₀ h₀ X ρ I C D v y k' acc' arr' s' as' H' → k' ≤ items.length → But [I] s'.heap h' → QQ acc' H' → R (.ok .next) { s' with heap := h', toks := tk }) :
    codeAny c.M A (.compLoop (.ListComp elt [⟨.Name x px, iter, ifs, 0⟩] sc pos) 0 (.ref I) (.ref D) (compEnvC sc cl C env)) R s := by
  refine codeAny_compLoop_tests (fun m s' => ∃ k acc arr as H, m = items.length - k ∧ k ≤ items.length ∧ Lp c T env as₀ h₀ X ρ I C D v y k acc arr s' as H ∧
    compL (turnF c.P (callF c.P n) b cond ρ XX) (fun H' => src H' v = some items) (items.drop k) acc H QQ) ?_ (items.length - k) ⟨k, acc, arr, as, H, rfl, hk, L, w⟩
  clear L w hk
  rintro m s ⟨k, acc, arr, as, H, rfl, hk, L, w⟩
  cases hx : items[k]? with
  | none =>
    have hkl : items.length = k := by
      have := List.getElem?_eq_none_iff.mp hx
      omega
    rw [List.drop_eq_nil_of_le (by omega)] at w
    refine it_done a.hh L.S (by simp) L.hv L.hi w.1 hkl fun h' tk hb => ?_
    exact hR k acc arr s as H tk h' L hk hb w.2
  | some u =>
    have hlt := (List.getElem?_eq_some_iff.mp hx).1
    rw [drop_cons hx] at w
    refine it_next a.hh L.S (by simp) W.bi L.hv L.hi w.1 hx fun z h₁ tk₁ b₁ hu₁ hv₁ hi₁ S₁ => ?_
    have L₁ := L.next W b₁ hv₁ hi₁ S₁
    obtain ⟨m, hm⟩ := L₁.hC
    have hkx : (compEnvC sc cl C env).kindOf x = some .local := lookup_relabel_local ok.hx
    refine wpAny_assign_Name (wpAny_storeName_local hkx hm (fun h₂ hm₂ hs₂ => ?_) (by show (sc.kind == .class || (sc.kind == .module && _)) = false; rw [ok.kind]; rfl))
    have b₂ : But [C] h₁ h₂ := fun q o hq e => (hs₂.2 q (by simpa [compEnvC] using hq)).trans e
    have L₂ := L₁.store (tk := tk₁ + 1) W b₂ hm₂
    have hu₂ : VR c as (I :: C :: D :: X) h₂ u z := hu₁.keepX ((b₂.kept as).mono (by simp)) (.refl ..)
    have r₂ := L₂.rdy W a K hlen ok hcl hcl' hm₂ (by simp) hu₂
    have w2 := w.2
    -- behind the element
    have step : ∀ {s₃ : Shared} {as₃ : Adr} {H₃ : AH} {E' : Value → Shared → Prop}, Lp c T env as₀ h₀ X ρ I C D v y (k + 1) acc arr s₃ as₃ H₃ → Rdy c { T with names := sc.names, tab := (x, T.n) :: T.tab, n := T.n + 1 } (compEnvC sc cl C env) A n s₃ as₃ (I :: C :: D :: X) H₃ (ρ ++ [some u]) →
        wpE c.P (callF c.P n) b (ρ ++ [some u]) H₃ (fun y H'' => compL (turnF c.P (callF c.P n) b cond ρ XX) (fun H' => src H' v = some items) (items.drop (k + 1)) (acc ++ [y]) H'' QQ) XX →
        wpAny c.M A (eval elt (compEnvC sc cl C env)) (fun x s₄ =>
              wpAny c.M A (call (.builtin "list.append") [.ref D, x]) (fun _ s₅ => ∃ m, m < items.length - k ∧ ∃ k acc arr as H, m = items.length - k ∧ k ≤ items.length ∧ Lp c T env as₀ h₀ X ρ I C D v y k acc arr s₅ as H ∧
                compL (turnF c.P (callF c.P n) b cond ρ XX) (fun H' => src H' v = some items) (items.drop k) acc H QQ) E' s₄) E' s₃ := by
      intro s₃ as₃ H₃ E' L₃ r₃ w₃
      refine wpAny_mono (he.run r₃ w₃) (fun zc s₄ r => ?_) fun _ _ e => e.elim
      obtain ⟨zv, H₄, as₄, e₄, S₄, k₄, hz₄, w₄⟩ := r
      have L₄ := L₃.eval e₄ k₄ S₄
      have hsl : arr.size ≤ sizeLine := by
        have h1 := L₄.hacc.length
        have h2 := L₄.hl
        have h3 := sizeOf'_le
        have h5 : arr.toList.length = arr.size := Array.length_toList
        have h4 := L.hl
        rw [h5] at h1
        rw [← h1]
        omega
      refine wpAny_list_append_plain (hsz := hsl) L₄.hD fun h₅ hp₅ hs₅ => ?_
      have b₅ : But [D] s₄.heap h₅ := fun q o hq e => (hs₅.2 q (by simpa using hq)).trans e
      exact ⟨items.length - (k + 1), by omega, k + 1, _, _, as₄, H₄, rfl, by omega, L₄.push W b₅ hp₅ hz₄ (by have := L.hl; omega), w₄⟩
    rcases hc with ⟨rfl, rfl⟩ | ⟨t, q, rfl, rfl, ht⟩
    · refine wpAny_tests_nil ?_
      simp only [if_true]
      exact step L₂ r₂ w2
    · refine wpAny_tests_one (wpAny_mono (ht.run (Q := fun t H₂ => if t then wpE c.P (callF c.P n) b (ρ ++ [some u]) H₂ (fun y H'' => compL (turnF c.P (callF c.P n) b (some q) ρ XX) (fun H' => src H' v = some items) (items.drop (k + 1)) (acc ++ [y]) H'' QQ) XX
        else compL (turnF c.P (callF c.P n) b (some q) ρ XX) (fun H' => src H' v = some items) (items.drop (k + 1)) acc H₂ QQ) r₂ w2) (fun bb s₃ r => ?_) fun _ _ e => e.elim)
      obtain ⟨H₃, as₃, e₃, S₃, k₃, w₃⟩ := r
      have L₃ := L₂.eval e₃ k₃ S₃
      cases bb with
      | true =>
        simp only [if_true] at w₃ ⊢
        exact step L₃ (r₂.next e₃ k₃ S₃) w₃
      | false =>
        simp only [Bool.false_eq_true, if_false] at w₃ ⊢
        exact ⟨items.length - (k + 1), by omega, k + 1, _, _, as₃, H₃, rfl, by omega, L₃, w₃⟩
end

theorem SR.opens {c : Cx} {as : Adr} {X Y : List Addr} {H : AH} {s s' : Shared} (x : SR c as X H s) (g : Grown s.heap s'.heap) (hX : ∀ b ∈ Y, b ∈ X ∨ s.heap.get? b = none) (hx : ∀ b ∈ Y, ∃ o, s'.heap.get? b = some o) (hg : s'.gens = s.gens) (ho : s'.os = s.os) : SR c as Y H s' where
  len := x.len
  stays := fun b o e => g b o (x.stays b o e)
  gens := hg.trans x.gens
  os := ho.trans x.os
  objs := fun i a e => by
    obtain ⟨h1, h2, o, h3, h4⟩ := x.objs i a e
    obtain ⟨ob, hob, _⟩ := h4.here
    have hy : ∀ b o, s.heap.get? b = some o → b ∉ X → b ∉ Y := fun b o e hb q => by
      rcases hX b q with r | r
      · exact hb r
      · rw [r] at e; cases e
    exact ⟨h1, hy _ _ hob h2, o, h3, (h4.frames hy).keepX ((g.kept as).x Y) fun ob e _ => g _ _ e⟩
  inj := x.inj
  dead := x.dead
  xs := hx
theorem FR.opens {c : Cx} {as : Adr} {X Y : List Addr} {h h' : HP} {env : Env} {tab : List (Str × Nat)} {ρ : Fm} (F : FR c as X h env tab ρ) (g : Grown h h') (hXY : ∀ b ∈ X, b ∈ Y) (hX : ∀ b ∈ Y, b ∈ X ∨ h.get? b = none) : FR c as Y h' env tab ρ :=
  (F.frames hXY fun b o e hb q => by
    rcases hX b q with r | r
    · exact hb r
    · rw [r] at e; cases e).keep (g.kept as) (.refl ..)
theorem VR.opens {c : Cx} {as : Adr} {X Y : List Addr} {h h' : HP} {v : V} {y : Value} (F : VR c as X h v y) (g : Grown h h') (hX : ∀ b ∈ Y, b ∈ X ∨ h.get? b = Option.none) : VR c as Y h' v y :=
  (F.frames fun b o e hb q => by
    rcases hX b q with r | r
    · exact hb r
    · rw [r] at e; cases e).grow g

theorem adopt_k {as : Adr} {X Y : List Addr} {a : Addr} {h : HP} (ha : a ∈ X) (hY : ∀ b ∈ Y, b ∈ X) : ∀ b (o : Obj), some b ∉ as → b ∉ X → h.get? b = some o → o.cls ≠ .type "frame" → some b ∉ as ++ [some a] ∧ b ∉ Y ∧ h.get? b = some o := fun b o h1 h2 h3 _ =>
  ⟨by simp only [List.mem_append, List.mem_singleton, Option.some.injEq, not_or]; exact ⟨h1, fun q => h2 (q ▸ ha)⟩, fun q => h2 (hY _ q), h3⟩
theorem adopt_r {as : Adr} {a : Addr} : ∀ i (x : Option Addr), i < as.length → as[i]? = some x → (as ++ [some a])[i]? = some x ∨ (as ++ [some a])[i]? = some none := fun i x hi e => .inl (by rw [List.getElem?_append_left hi]; exact e)
/-- an address that no value has becomes an object's -/
theorem VR.adopt {c : Cx} {as : Adr} {X Y : List Addr} {h : HP} {a : Addr} (ha : a ∈ X) (hY : ∀ b ∈ Y, b ∈ X) {v : V} {y : Value} (r : VR c as X h v y) : VR c (as ++ [some a]) Y h v y := VR.gen as.length (adopt_k ha hY) adopt_r r r.under
theorem VRs.adopt {c : Cx} {as : Adr} {X Y : List Addr} {h : HP} {a : Addr} (ha : a ∈ X) (hY : ∀ b ∈ Y, b ∈ X) {v : List V} {y : List Value} (r : VRs c as X h v y) : VRs c (as ++ [some a]) Y h v y := VRs.gen as.length (adopt_k ha hY) adopt_r r r.under
theorem OR.adopt {c : Cx} {as : Adr} {X Y : List Addr} {h : HP} {a b : Addr} {o : O} (ha : a ∈ X) (hY : ∀ b ∈ Y, b ∈ X) (x : OR c as X h b o) : OR c (as ++ [some a]) Y h b o := by
  cases o with
  | list vs => obtain ⟨hb, items, hp, r⟩ := x; exact ⟨hb, items, hp, r.adopt ha hY⟩
  | dict ks vs => obtain ⟨hb, hsm, cs, hd, hl, r⟩ := x; exact ⟨hb, hsm, cs, hd, hl, r.adopt ha hY⟩
  | inst k d => obtain ⟨dx, e1, e2⟩ := x; exact ⟨dx, by rw [List.getElem?_append_left (List.getElem?_eq_some_iff.mp e1).1]; exact e1, e2⟩
  | dead => exact x.elim
theorem SR.adopt {c : Cx} {as : Adr} {X Y : List Addr} {H : AH} {s : Shared} {a : Addr} {o : O} (S : SR c as X H s) (ha : a ∈ X) (hb : c.base.get? a = none) (hY : ∀ b ∈ Y, b ∈ X) (haY : a ∉ Y) (ho : OR c (as ++ [some a]) Y s.heap a o) : SR c (as ++ [some a]) Y (H ++ [o]) s where
  len := by simp [S.len]
  stays := S.stays
  gens := S.gens
  os := S.os
  objs := fun i b e => by
    by_cases hi : i < as.length
    · rw [List.getElem?_append_left hi] at e
      obtain ⟨h1, h2, ob, h3, h4⟩ := S.objs i b e
      exact ⟨h1, fun q => h2 (hY _ q), ob, by rw [List.getElem?_append_left (S.len ▸ hi)]; exact h3, h4.adopt ha hY⟩
    · have hi' : i = as.length := by
        have := (List.getElem?_eq_some_iff.mp e).1
        simp at this
        omega
      subst hi'
      simp at e
      subst e
      exact ⟨hb, haY, o, by rw [S.len]; simp, ho⟩
  inj := fun i j b e1 e2 => by
    have hne : ∀ i, i < as.length → as[i]? = some (some a) → False := fun i _ e => by
      obtain ⟨_, h2, _⟩ := S.objs i a e
      exact h2 ha
    have hlt : ∀ i, (as ++ [some a])[i]? = some (some b) → i < as.length ∨ (i = as.length ∧ b = a) := fun i e => by
      by_cases hi : i < as.length
      · exact .inl hi
      · have := (List.getElem?_eq_some_iff.mp e).1
        simp at this
        have hi' : i = as.length := by omega
        subst hi'
        simp at e
        exact .inr ⟨rfl, e.symm⟩
    rcases hlt i e1 with h1 | ⟨h1, rfl⟩
    · rw [List.getElem?_append_left h1] at e1
      rcases hlt j e2 with h2 | ⟨h2, rfl⟩
      · rw [List.getElem?_append_left h2] at e2; exact S.inj i j b e1 e2
      · exact (hne i h1 e1).elim
    · rcases hlt j e2 with h2 | ⟨h2, _⟩
      · rw [List.getElem?_append_left h2] at e2; exact (hne j h2 e2).elim
      · omega
  dead := fun i e => by
    by_cases hi : i < as.length
    · rw [List.getElem?_append_left hi] at e
      rw [List.getElem?_append_left (S.len ▸ hi)]
      exact S.dead i e
    · have := (List.getElem?_eq_some_iff.mp e).1
      simp at this
      have hi' : i = as.length := by omega
      subst hi'
      simp at e
  xs := fun b hb => S.xs b (hY b hb)

theorem OVR.adopt {c : Cx} {as : Adr} {X Y : List Addr} {h : HP} {a : Addr} {o : Option V} {y : Option Value} (ha : a ∈ X) (hY : ∀ b ∈ Y, b ∈ X) (z : OVR c as X h o y) : OVR c (as ++ [some a]) Y h o y :=
  fun v e => let ⟨q, e1, e2⟩ := z v e; ⟨q, e1, e2.adopt ha hY⟩
theorem FR.narrow {c : Cx} {as : Adr} {X Y Z : List Addr} {h : HP} {env : Env} {tab : List (Str × Nat)} {ρ : Fm} (F : FR c as X h env tab ρ) (hY : ∀ b ∈ Y, b ∈ X) (hZ : ∀ b ∈ X, b ∈ Y ∨ b ∈ Z) (aw : Away Z env tab) : FR c as Y h env tab ρ where
  kind := F.kind
  glob := F.glob
  bi := F.bi
  lx := (hZ _ F.lx).resolve_right aw.1
  lout := F.lout
  lb := F.lb
  ns := by
    obtain ⟨m, n, r⟩ := F.ns
    exact ⟨m, n, fun y i h1 h2 => (r y i h1 h2).frames fun b _ _ hb q => hb (hY _ q)⟩
  cells := fun y i h1 h2 => by
    obtain ⟨a, z, e1, e2, e3, e4, e5, e6, e7⟩ := F.cells y i h1 h2
    exact ⟨a, z, e1, (hZ _ e2).resolve_right (aw.2 y i h1 h2 a e1), e3, e4, e5, e6, e7.frames fun b _ _ hb q => hb (hY _ q)⟩
  apart := F.apart
  inj := F.inj
theorem FR.adopt {c : Cx} {as : Adr} {X Y Z : List Addr} {h : HP} {a : Addr} {env : Env} {tab : List (Str × Nat)} {ρ : Fm} (F : FR c as X h env tab ρ) (ha : a ∈ X) (hY : ∀ b ∈ Y, b ∈ X) (hZ : ∀ b ∈ X, b ∈ Y ∨ b ∈ Z) (aw : Away Z env tab) (haZ : a ∈ Z) : FR c (as ++ [some a]) Y h env tab ρ where
  kind := F.kind
  glob := F.glob
  bi := F.bi
  lx := (hZ _ F.lx).resolve_right aw.1
  lout := by simp only [List.mem_append, List.mem_singleton, Option.some.injEq, not_or]; exact ⟨F.lout, fun q => aw.1 (q ▸ haZ)⟩
  lb := F.lb
  ns := by
    obtain ⟨m, n, r⟩ := F.ns
    exact ⟨m, n, fun y i h1 h2 => (r y i h1 h2).adopt ha hY⟩
  cells := fun y i h1 h2 => by
    obtain ⟨a', z, e1, e2, e3, e4, e5, e6, e7⟩ := F.cells y i h1 h2
    have hz := aw.2 y i h1 h2 a' e1
    exact ⟨a', z, e1, (hZ _ e2).resolve_right hz, by simp only [List.mem_append, List.mem_singleton, Option.some.injEq, not_or]; exact ⟨e3, fun q => hz (q ▸ haZ)⟩, e4, e5, e6, e7.adopt ha hY⟩
  apart := F.apart
  inj := F.inj

theorem it_self {prog : Program} {w : World} {A : Around} {E : Value → Shared → Prop} {s : Shared} {I : Addr} {v : V} {y : Value} {k : Nat} {Q : Value → Shared → Prop} (hi : ItC s.heap I v y k) (h : Q (.ref I) s) : wpAny (model prog w) A (pyIter (.ref I)) Q E s := by
  cases v <;> try exact hi.elim
  · obtain ⟨x, t, _, h1 | h1⟩ := hi
    · exact wpAny_pyIter_striter_ascii h1 h
    · exact wpAny_pyIter_striter_wide h1 h
  · obtain ⟨a, _, h1⟩ := hi; exact wpAny_pyIter_tupleiter h1 h
  · obtain ⟨a, _, h1⟩ := hi; exact wpAny_pyIter_listiter h1 h
  · exact wpAny_pyIter_rangeiter hi h
  · obtain ⟨a, _, h1⟩ := hi; exact wpAny_pyIter_listiter h1 h

/-- a value, with the comprehension's own names still there -/
noncomputable def ResC (c : Cx) (as : Adr) (X : List Addr) (h : HP) (env : Env) (tab : List (Str × Nat)) (ρ : Fm) (C : Addr) (Q : QE) (x : Value) (s' : Shared) : Prop :=
  ∃ v H' as', Ext as h as' ∧ SR c as' (C :: X) H' s' ∧ Kept as h s'.heap ∧ VR c as' (C :: X) s'.heap v x ∧ Q v H' ∧ FR c as' (C :: X) s'.heap env tab ρ

theorem Res.drop {c : Cx} {as : Adr} {X : List Addr} {h : HP} {C : Addr} {Q : QE} {x : Value} {s' : Shared} {h' : HP} (r : Res c as (C :: X) h Q x s') (hC : Fr as h C) (hb : c.base.get? C = none) (hX : C ∉ X) (hs : Heap.SameBut C s'.heap h') : Res c as X h Q x { s' with heap := h' } := by
  obtain ⟨v, H', as', e, S, k, hv, q⟩ := r
  have b : But [C] s'.heap h' := fun q o hq e => (hs.2 q (by simpa using hq)).trans e
  exact ⟨v, H', as', e, S.but (s' := { s' with heap := h' }) b (by simpa using hb) (fun _ q => .tail _ q) (fun a ha hz => by simp at hz; subst hz; exact (hX ha).elim) rfl rfl, k.but b (by simpa using hC),
    (hv.keepX ((b.kept as').mono (by simp)) (.refl ..)).frames fun b _ _ hb q => hb (.tail _ q), q⟩

section
variable {c : Cx} {T : Tb} {env : Env} {X : List Addr} {ρ : Fm} {s : Shared} {as : Adr} {H : AH} {E : Value → Shared → Prop}

theorem comp_block {A : Around} {n : Nat} {x : Str} {px : Pos} {elt iter : Expr} {ifs : List Expr} {sc : Scope} {pos : Pos} {cl : List (Str × Addr)} {b : Ex} {cond : Option Ex} {XX : XE} {mu : Bool} {Q : QE} {RR : Value → Addr → Result → Shared → Prop}
    {v : V} {y : Value} {s₁ : Shared} {as₁ : Adr} {H₁ : AH}
    (R : Rdy c T env A n s as X H ρ)
    (ok : CompF T x sc) (hcl : ∀ y a, cl.lookup y = some a → env.cells.lookup y = some a) (hcl' : ∀ y, sc.names.lookup y = some .free → cl.lookup y = env.cells.lookup y)
    (he : SE c n { T with names := sc.names, tab := (x, T.n) :: T.tab, n := T.n + 1 } elt b)
    (hc : (ifs = [] ∧ cond = none) ∨ ∃ t q, ifs = [t] ∧ cond = some q ∧ ST c n { T with names := sc.names, tab := (x, T.n) :: T.tab, n := T.n + 1 } t q)
    (e1 : Ext as s.heap as₁) (k1 : Kept as s.heap s₁.heap) (S1 : SR c as₁ X H₁ s₁) (hv : VR c as₁ X s₁.heap v y)
    (w : ∃ items, src H₁ v = some items ∧ items.length ≤ sizeOf' ∧ compL (turnF c.P (callF c.P n) b cond ρ XX) (fun H' => src H' v = some items) items [] H₁ (fun ys H₂ => okE (if mu then thaw (.lst ys) H₂ else some (.lst ys, H₂)) Q))
    (hRR : ∀ D C s', Fr as s.heap C → C ∉ X → c.base.get? C = none → (∃ m, s'.heap.Ns C m) → ResC c as X s.heap env T.tab ρ C Q (.ref D) s' → RR (.ref D) C (.ok .next) s') :
    wpAny c.M A (pyIter y) (fun it s₂ => wpAny c.M A (newList []) (fun acc s₃ => wpAny c.M A (newFunctionEnv sc env.globals cl [] env.qual none .none (some env)) (fun cenv s₄ =>
      codeAny c.M A (.compStart (.ListComp elt [⟨.Name x px, iter, ifs, 0⟩] sc pos) 0 it acc { cenv with scope := relabel sc env }) (RR acc cenv.locals) s₄) E s₃) E s₂) E s₁ := by
  obtain ⟨items, hsrc, hsz, w⟩ := w
  refine it_start S1 hv hsrc fun o hi => ?_
  refine wpAny_newObj_type (wpAny_newFunctionEnv ok.nocell (by intro y hy; simp at hy) (fun h₁ hns₁ hsb₁ => ?_) ok.kind)
  dsimp only at hns₁ hsb₁ ⊢
  generalize hI : s₁.heap.objs.size = I at hi ⊢
  have hfI : s₁.heap.get? I = none := hI ▸ get_fresh _
  generalize hH1 : s₁.heap.push o = G1 at hi hns₁ hsb₁ ⊢
  have gI : Grown s₁.heap G1 := hH1 ▸ .push _ _
  generalize hD : G1.objs.size = D at hns₁ hsb₁ ⊢
  have hfD : G1.get? D = none := hD ▸ get_fresh _
  generalize hH2 : G1.push { cls := .type "list", dict := none, data := .seq ([] : List Value).toArray } = G2 at hns₁ hsb₁ ⊢
  have gD : Grown G1 G2 := hH2 ▸ .push _ _
  have hlD : G2.get? D = some { cls := .type "list", dict := none, data := .seq ([] : List Value).toArray } := by rw [← hH2, ← hD]; exact Heap.get?_push_size _ rfl
  generalize hC : G2.objs.size = C at hns₁ hsb₁ ⊢
  have hfC : G2.get? C = none := hC ▸ get_fresh _
  have g3 : Grown G2 h₁ := fun q o e => hsb₁.extBut q o (fun h => by subst h; rw [hfC] at e; cases e) (Heap.get?_push_of_some _ e)
  have nI : G1.get? I ≠ none := by obtain ⟨o, e, _⟩ := hi.here; rw [e]; simp
  have hID : I ≠ D := fun h => nI (h ▸ hfD)
  have hIC : I ≠ C := fun h => by
    obtain ⟨o, e, _⟩ := hi.here
    rw [h] at e
    rw [gD _ _ e] at hfC; cases hfC
  have hCD : C ≠ D := fun h => by rw [h, hlD] at hfC; cases hfC
  have hf1 : ∀ q, G1.get? q = none → s₁.heap.get? q = none := fun q e => by
    cases hq : s₁.heap.get? q with
    | none => rfl
    | some o => rw [gI _ _ hq] at e; cases e
  have hf2 : ∀ q, G2.get? q = none → s₁.heap.get? q = none := fun q e => hf1 q (by
    cases hq : G1.get? q with
    | none => rfl
    | some o => rw [gD _ _ hq] at e; cases e)
  have fC : s₁.heap.get? C = none := hf2 _ hfC
  have fD : s₁.heap.get? D = none := hf1 _ hfD
  have g13 : Grown s₁.heap h₁ := (gI.trans gD).trans g3
  have hX' : ∀ b ∈ I :: C :: D :: X, b ∈ X ∨ s₁.heap.get? b = none := fun b hb => by
    simp only [List.mem_cons] at hb
    rcases hb with rfl | rfl | rfl | hb
    · exact .inr hfI
    · exact .inr fC
    · exact .inr fD
    · exact .inl hb
  have F1 := R.F.keep k1 e1
  have aw : Away [I, C, D] env T.tab := F1.away fun b hb => by
    simp only [List.mem_cons, List.not_mem_nil, or_false] at hb
    rcases hb with rfl | rfl | rfl
    · exact S1.not_x hfI
    · exact S1.not_x fC
    · exact S1.not_x fD
  have W : Ls c env T.tab as s.heap X I C D := ⟨hIC, hID, hCD, S1.base_none hfI, S1.base_none fC, S1.base_none fD, k1.fr hfI, k1.fr fC, k1.fr fD, S1.not_x fD, S1.not_x fC, aw⟩
  have L : Lp c T env as s.heap X ρ I C D v y 0 [] #[] { s₁ with heap := h₁, toks := s₁.toks + ([] : List (Str × Value)).length } as₁ H₁ := by
    refine ⟨S1.opens (s' := { s₁ with heap := h₁, toks := s₁.toks + ([] : List (Str × Value)).length }) g13 hX' (fun b hb => ?_) rfl rfl, F1.opens g13 (fun b hb => by simp [hb]) hX', hv.opens g13 hX', hi.at fun o e _ => g3 _ _ (gD _ _ e), ⟨_, g3 _ _ hlD⟩, .nil, by simp, ⟨_, hns₁⟩, S1.not_as hfI, S1.not_as fC, S1.not_as fD, e1, k1.trans e1 (g13.kept as₁)⟩
    simp only [List.mem_cons] at hb
    rcases hb with rfl | rfl | rfl | hb
    · obtain ⟨o, e, _⟩ := hi.here; exact ⟨o, g3 _ _ (gD _ _ e)⟩
    · obtain ⟨o, _, _, e, _⟩ := hns₁; exact ⟨o, e⟩
    · exact ⟨_, g3 _ _ hlD⟩
    · obtain ⟨o, e⟩ := S1.xs b hb; exact ⟨o, g13 _ _ e⟩
  have loop : codeAny c.M A (.compLoop (.ListComp elt [⟨.Name x px, iter, ifs, 0⟩] sc pos) 0 (.ref I) (.ref D) (compEnvC sc cl C env)) (RR (.ref D) C) { s₁ with heap := h₁, toks := s₁.toks + ([] : List (Str × Value)).length } := by
    refine comp_loop W R.a R.K R.len ok hcl hcl' he hc hsz L w (Nat.zero_le _) fun k' acc' arr' s' as' H' tk h' L' hk' bI q => ?_
    have hCI : ∃ m, h'.Ns C m := by obtain ⟨m, q⟩ := L'.hC; exact ⟨m, Ns.same q fun o e => ⟨o, bI _ _ (by simpa using Ne.symm hIC) e, .inl rfl⟩⟩
    refine hRR D C _ W.hc W.cx W.bc hCI ?_
    obtain ⟨b1, b2, b3⟩ := L'.but (s' := { s' with heap := h', toks := tk }) W bI (by simp)
    have hpD : h'.PlainList D arr' := by obtain ⟨n, q⟩ := L'.hD; exact ⟨n, bI _ _ (by simpa using Ne.symm hID) q⟩
    have hbn : acc'.length ≤ bnd := by
      have h1 := L'.hl
      have h2 := sizeOf'_bnd
      omega
    have hacc := L'.hacc.keepX b1 (.refl ..)
    have hDC : D ∉ C :: X := by simp only [List.mem_cons, not_or]; exact ⟨Ne.symm hCD, W.dx⟩
    have hsub : ∀ b ∈ C :: X, b ∈ I :: C :: D :: X := fun b hb => by
      simp only [List.mem_cons] at hb ⊢
      rcases hb with rfl | hb
      · exact .inr (.inl rfl)
      · exact .inr (.inr (.inr hb))
    have hZ : ∀ b ∈ I :: C :: D :: X, b ∈ C :: X ∨ b ∈ [I, C, D] := fun b hb => by
      simp only [List.mem_cons] at hb ⊢
      rcases hb with rfl | rfl | rfl | hb
      · simp
      · simp
      · simp
      · simp [hb]
    have hsub' : ∀ b ∈ C :: X, b ∈ C :: D :: X := fun b hb => by
      simp only [List.mem_cons] at hb ⊢
      rcases hb with rfl | hb
      · exact .inl rfl
      · exact .inr (.inr hb)
    have hZ' : ∀ b ∈ C :: D :: X, b ∈ C :: X ∨ b ∈ [I, C, D] := fun b hb => hZ b (.tail _ hb)
    -- without the iterator
    have S3 : SR c as' (C :: D :: X) H' { s' with heap := h', toks := tk } := L'.S.but (s' := { s' with heap := h', toks := tk }) bI (by simpa using W.bi) (fun b hb => .tail _ hb) (fun b hb hz => by
      simp only [List.mem_singleton] at hz
      subst hz
      have : b ∈ C :: D :: X := hb
      simp only [List.mem_cons] at this
      rcases this with h | h | h
      · exact (hIC h).elim
      · exact (hID h).elim
      · exact (S1.not_x hfI h).elim) rfl rfl
    have F3 : FR c as' (C :: D :: X) h' env T.tab ρ := b2.narrow (Z := [I, C, D]) (fun b hb => .tail _ hb) (fun b hb => by
      cases hb with
      | head => exact .inr (by simp)
      | tail _ hb => exact .inl hb) aw
    have hacc3 : VRs c as' (C :: D :: X) h' acc' arr'.toList := hacc.frames fun b _ _ hb q => hb (.tail _ q)
    cases mu with
    | false =>
      refine ⟨.lst acc', H', as', L'.E, S3.turn (s' := { s' with heap := h', toks := tk }) (fun b o e _ _ => ⟨o, e, .inl rfl⟩) S3.stays hsub' (fun b hb => S3.xs b (hsub' b hb)) rfl rfl, b3, ?_, q, F3.narrow hsub' hZ' aw⟩
      exact .lst L'.od hDC hpD (hacc3.frames fun b _ _ hb q => hb (hsub' b q)) hbn
    | true =>
      have hDin : D ∈ C :: D :: X := by simp
      have q' : Q (.ref H'.length) (H' ++ [.list acc']) := q
      refine ⟨.ref H'.length, H' ++ [.list acc'], as' ++ [some D], ⟨fun i z e => ?_, fun z hz => ?_⟩, S3.adopt (o := .list acc') hDin W.bd hsub' hDC ⟨hbn, arr', hpD, hacc3.adopt hDin hsub'⟩, b3, .ref ?_, q', F3.adopt hDin hsub' hZ' aw (by simp)⟩
      · rcases L'.E.old i z e with r | r
        · exact .inl (by rw [List.getElem?_append_left (List.getElem?_eq_some_iff.mp r).1]; exact r)
        · exact .inr (by rw [List.getElem?_append_left (List.getElem?_eq_some_iff.mp r).1]; exact r)
      · rcases List.mem_append.mp hz with r | r
        · exact L'.E.new z r
        · simp only [List.mem_singleton, Option.some.injEq] at r
          subst r
          exact W.hd
      · rw [← S3.len]; simp
  exact codeAny_compStart_list loop (it_self L.hi loop)

noncomputable def NSet (e : Expr) : Prop := ∀ a k p, e ≠ .Set a k p
theorem folded_ns {e : Expr} (h : NSet e) (env : Env) (x : Value) : foldedSetIterable e env x = pure x := by
  cases e with
  | Set a k p => exact absurd rfl (h a k p)
  | _ => rfl

theorem ResC.drop {C : Addr} {Q : QE} {x : Value} {s' : Shared} {h' : HP} (r : ResC c as X s.heap env T.tab ρ C Q x s') (hC : Fr as s.heap C) (hb : c.base.get? C = none) (hX : C ∉ X) (hs : Heap.SameBut C s'.heap h') : Res c as X s.heap Q x { s' with heap := h' } := by
  obtain ⟨v, H', as', e, S, k, hv, q, _⟩ := r
  exact Res.drop ⟨v, H', as', e, S, k, hv, q⟩ hC hb hX hs

theorem free_cells {sc : Scope} {x : Str} (F : FR c as X s.heap env T.tab ρ) (K : KOk T env) (ok : CompF T x sc) : ∀ y, sc.names.lookup y = some .free → ∃ a, env.cells.lookup y = some a := fun y hy => by
  obtain ⟨h3, ⟨j, h4⟩, h5⟩ := ok.free y hy
  have hek : env.kindOf y = some .cell ∨ env.kindOf y = some .free := by
    rcases h3 with h3 | h3
    · exact .inl (K.cell y h3)
    · rcases K.free y h3 with q | q
      · exact .inr q
      · exact .inl q
  obtain ⟨a, _, e1, _⟩ := F.cells y j h4 hek
  exact ⟨a, e1⟩

theorem se_comp {n : Nat} {x : Str} {px : Pos} {elt iter : Expr} {ifs : List Expr} {sc : Scope} {pos : Pos} {b i : Ex} {cond : Option Ex} {mu : Bool}
    (ok : CompF T x sc) (hns : NSet iter) (hi : SE c n T iter i)
    (he : SE c n { T with names := sc.names, tab := (x, T.n) :: T.tab, n := T.n + 1 } elt b)
    (hc : (ifs = [] ∧ cond = none) ∨ ∃ t q, ifs = [t] ∧ cond = some q ∧ ST c n { T with names := sc.names, tab := (x, T.n) :: T.tab, n := T.n + 1 } t q) :
    SE c n T (.ListComp elt [⟨.Name x px, iter, ifs, 0⟩] sc pos) (.comp mu b i cond) := by
  refine ⟨?_⟩
  intro env A s as X H ρ Q XX R w
  rw [wpE_comp'] at w
  obtain ⟨cl, hclos, hcl, hcl'⟩ := closure_of (env := env) ok.names (free_cells R.F R.K ok)
  rw [eval_ListComp]
  refine wpAny_comprehension_free (use := none) rfl (folded_ns hns env) hclos ok.kind (fun p hp hl => by rw [ok.names p hp, hl]) (wpAny_mono (hi.run R w) (fun y s₁ r => ?_) fun _ _ e => e)
  obtain ⟨v, H₁, as₁, e1, S1, k1, hv, w1⟩ := r
  refine comp_block (RR := fun acc C => compPost c.M A (ERes c as X s.heap XX) none (Res c as X s.heap Q) acc C) R ok hcl hcl' he hc e1 k1 S1 hv w1 fun D C s' h1 h2 h3 h4 h5 => ?_
  obtain ⟨m, hm⟩ := h4
  exact ⟨m, hm, fun h' hs' => h5.drop h1 h3 h2 hs'⟩

/-- a comprehension whose value goes at once into a name of the block -/
theorem use_comp {n : Nat} {x : Str} {px : Pos} {elt iter : Expr} {ifs : List Expr} {sc : Scope} {pos : Pos} {b i : Ex} {cond : Option Ex} {mu : Bool} {A : Around} {Q : QE} {XX : XE} {u : Value → Sem Unit} {Qf : Value → Shared → Prop}
    (ok : CompF T x sc) (hns : NSet iter) (hi : SE c n T iter i)
    (he : SE c n { T with names := sc.names, tab := (x, T.n) :: T.tab, n := T.n + 1 } elt b)
    (hc : (ifs = [] ∧ cond = none) ∨ ∃ t q, ifs = [t] ∧ cond = some q ∧ ST c n { T with names := sc.names, tab := (x, T.n) :: T.tab, n := T.n + 1 } t q)
    (R : Rdy c T env A n s as X H ρ) (w : wpE c.P (callF c.P n) (.comp mu b i cond) ρ H Q XX)
    (hu : ∀ D C s', Fr as s.heap C → C ∉ X → c.base.get? C = none → (∃ m, s'.heap.Ns C m) → ResC c as X s.heap env T.tab ρ C Q (.ref D) s' →
      wpAny c.M A (u (.ref D)) (fun _ s'' => ∃ m, s''.heap.Ns C m ∧ ∀ h', Heap.SameBut C s''.heap h' → Qf .none { s'' with heap := h' }) (ERes c as X s.heap XX) s') :
    wpAny c.M A (comprehension (.ListComp elt [⟨.Name x px, iter, ifs, 0⟩] sc pos) sc env (firstIterPos [⟨.Name x px, iter, ifs, 0⟩] pos) (newList []) false (eval iter env) (some u)) Qf (ERes c as X s.heap XX) s := by
  rw [wpE_comp'] at w
  obtain ⟨cl, hclos, hcl, hcl'⟩ := closure_of (env := env) ok.names (free_cells R.F R.K ok)
  refine wpAny_comprehension_free (use := some u) rfl (folded_ns hns env) hclos ok.kind (fun p hp hl => by rw [ok.names p hp, hl]) (wpAny_mono (hi.run R w) (fun y s₁ r => ?_) fun _ _ e => e)
  obtain ⟨v, H₁, as₁, e1, S1, k1, hv, w1⟩ := r
  exact comp_block (RR := fun acc C => compPost c.M A (ERes c as X s.heap XX) (some u) Qf acc C) R ok hcl hcl' he hc e1 k1 S1 hv w1 fun D C s' h1 h2 h3 h4 h5 => hu D C s' h1 h2 h3 h4 h5
end
end Mine

end
noncomputable section
namespace Mine
open PySem PySem.Calls PyProof.Rows

section
variable {c : Cx} {n : Nat} {T : Tb}

theorem attr_base {o : Expr} {name : Str} {env : Env} {w : Sem Value} (h : attrOk o = true) : attributeBase o name env w = w := by
  cases o <;> first | rfl | cases h

noncomputable def mtName : Mt → String
  | .list => "list"
  | .dict => "dict"
  | .str => "str"

theorem all_nostar {pos : Pos} {env : Env} {args : List Expr} {xs : List Ex} (h : SEs c n T args xs) : (backTo pos (starEach args env)).all (fun x => !x.1) = true := by
  induction h with
  | nil => rfl
  | cons h₁ _ ih => rw [star_ns h₁.2]; exact ih

theorem hasTy_type {as : Adr} {X : List Addr} {H : AH} {s : Shared} {v : V} {y : Value} {t : Mt} (S : SR c as X H s) (hv : VR c as X s.heap v y) (h : hasTy H v t = true) :
    s.TypeIs y (mtName t) ∧ (∀ a, y = .ref a → ∃ ob, s.heap.get? a = some ob ∧ ob.dict = none) := by
  cases hv with
  | none => cases t <;> cases h
  | bool b => cases t <;> cases h
  | int i u => cases t <;> cases h
  | str x u hb =>
    cases t <;> try (cases h)
    exact ⟨typeIs_str _ _ _, fun _ e => nomatch e⟩
  | tup => cases t <;> cases h
  | lst h1 h2 h3 h4 h5 =>
    cases t <;> try (cases h)
    obtain ⟨n, e⟩ := h3
    exact ⟨⟨_, e, rfl⟩, fun a q => by cases q; exact ⟨_, e, rfl⟩⟩
  | dct h1 h2 h3 h4 h5 =>
    cases t <;> try (cases h)
    obtain ⟨o, es, ep, e, hx, _⟩ := h4
    exact ⟨⟨_, e, hx.1⟩, fun a q => by cases q; exact ⟨_, e, hx.2.1⟩⟩
  | rng => cases t <;> cases h
  | exc => cases t <;> cases h
  | refD e =>
    cases t <;> simp [hasTy, S.dead _ e] at h
  | @ref i a e =>
    obtain ⟨_, _, o, ho, hor⟩ := S.objs _ _ e
    cases t <;> simp only [hasTy, ho] at h
    · cases o <;> try (cases h)
      obtain ⟨_, its, ⟨n, e⟩, _⟩ := hor
      exact ⟨⟨_, e, rfl⟩, fun a q => by cases q; exact ⟨_, e, rfl⟩⟩
    · cases o <;> try (cases h)
      obtain ⟨_, _, cs, ⟨o, es, ep, e, hx, _⟩, _⟩ := hor
      exact ⟨⟨_, e, hx.1⟩, fun a q => by cases q; exact ⟨_, e, hx.2.1⟩⟩
    · cases h

theorem se_mcall {o : Expr} {name : Str} {apos pos : Pos} {args : List Expr} {a : Ex} {xs : List Ex} {t : Mt} {mu : Bool} {pr : Prim} {id : String} (hat : attrOk o = true) (hl : apos.endLine = pos.line) (hlt : args.length < 20) (h : SE c n T o a) (hs : SEs c n T args xs)
    (pa : PlainAttrs (mtName t)) (slot : Slot (mtName t) name id) (hty : typeOf (.builtin id) = pure (.type "method_descriptor"))
    (tail : ∀ {A : Around} {s : Shared} {as : Adr} {X : List Addr} {H : AH} {Q : QE} {XX : XE} {v : V} {y : Value} {vs : List V} {ys : List Value}, AOk A n → SR c as X H s → VR c as X s.heap v y → VRs c as X s.heap vs ys → vs.length = xs.length → okE (primM c.P mu pr (v :: vs) H) Q →
      wpAny c.M A (call (.builtin id) (y :: ys)) (Res c as X s.heap Q) (ERes c as X s.heap XX) s) :
    SE c n T (.Call (.Attribute o name apos) args [] pos) (.mcall t mu pr a xs) := by
  refine ⟨?_⟩
  intro env A s as X H ρ Q XX R w
  rw [wpE_mcall] at w
  refine wpAny_Call_method_lateS (attr_base hat) ?_ (by simpa using hl) (wpAny_mono (h.run R w) (fun ov s₁ r => ?_) fun _ _ e => e)
  · rw [all_nostar hs]; simp [keywordEach, backToKw]; omega
  · obtain ⟨v, H₁, as₁, e1, S1, k1, hv, ht, w1⟩ := r
    obtain ⟨h1, h2⟩ := hasTy_type S1 hv ht
    refine ⟨mtName t, id, pa, slot, hty, h1, h2, ?_⟩
    have R1 := R.next e1 k1 S1
    have hlen := wpEs_len _ w1
    refine callWith_builtin (no_star hs) (wpAny_mono (se_evalArgs hs R1 hlen) (fun ar s₂ r => ?_) fun _ _ e => e.lift e1 k1)
    obtain ⟨hk, vs, H₂, as₂, e2, S2, k2, hvs, hln, q⟩ := r
    rw [hk]
    exact wpAny_mono (tail R.a S2 (hv.keep k2 e2) hvs hln q) (fun _ _ r => (r.lift e2 k2).lift e1 k1) fun _ _ e => (e.lift e2 k2).lift e1 k1

theorem se_methPrim {o : Expr} {name : Str} {apos pos : Pos} {args : List Expr} {a : Ex} {xs : List Ex} {t : Mt} {mu : Bool} {pr : Prim} (hat : attrOk o = true) (hl : apos.endLine = pos.line) (h : SE c n T o a) (hs : SEs c n T args xs)
    (hp : methPrim name args.length = some (t, pr)) (hmu : mu = true → pr.fresh = true) : SE c n T (.Call (.Attribute o name apos) args [] pos) (.mcall t mu pr a xs) := by
  have hxl := hs.length
  unfold methPrim at hp
  split at hp
  · rename_i q; cases hp
    obtain ⟨rfl, hn⟩ := q
    have hmu' : mu = false := by cases mu; rfl; cases hmu rfl
    subst hmu'
    refine se_mcall hat hl (by omega) h hs F.plainAttrs_list F.slot_list_append F.type_list_append fun _ S hv hvs hln q => ?_
    obtain ⟨v, y, rfl, rfl, hv1⟩ := len1 hvs (by omega)
    obtain ⟨r, H', e, q'⟩ := okE_some q
    exact p_append S hv hv1 e q'
  split at hp
  · rename_i q; cases hp
    obtain ⟨rfl, hn⟩ := q
    have hmu' : mu = false := by cases mu; rfl; cases hmu rfl
    subst hmu'
    refine se_mcall hat hl (by omega) h hs F.plainAttrs_str F.slot_str_join F.type_str_join fun a S hv hvs hln q => ?_
    obtain ⟨v, y, rfl, rfl, hv1⟩ := len1 hvs (by omega)
    obtain ⟨r, H', e, q'⟩ := okE_some q
    exact p_join S hv hv1 e q'
  split at hp
  · rename_i q; cases hp
    obtain ⟨rfl, hn⟩ := q
    refine se_mcall hat hl (by omega) h hs F.plainAttrs_str F.slot_str_split F.type_str_split fun _ S hv hvs hln q => ?_
    obtain ⟨v, y, rfl, rfl, hv1⟩ := len1 hvs (by omega)
    obtain ⟨r, H', e⟩ := prim_of_M q
    obtain ⟨ws, rfl, rfl⟩ := pSplit_lst e
    exact fresh_either S e (fun R hR => p_split S hv hv1 e hR) q
  cases hp
end
end Mine

end
noncomputable section
namespace Mine
open PySem PySem.Calls PyProof.Rows

end Mine

end
noncomputable section
namespace Mine
open PySem PySem.Calls PyProof.Rows
section
variable {c : Cx} {n : Nat} {T : Tb}
structure SO (c : Cx) (n : Nat) (T : Tb) (o : Option Expr) (ex : Ex) : Prop where
  run : ∀ {env : Env} {A : Around} {s : Shared} {as : Adr} {X : List Addr} {H : AH} {ρ : Fm} {Q : QE} {XX : XE},
  Rdy c T env A n s as X H ρ → wpE c.P (callF c.P n) ex ρ H Q XX → wpAny c.M A (evalPart o env) (Res c as X s.heap Q) (ERes c as X s.heap XX) s
theorem opt_ok {r : Expr → Option Ex} {o : Option Expr} {ex : Ex} (ih : ∀ {e : Expr} {ex : Ex}, r e = some ex → SE c n T e ex) (h : cOpt r o = some ex) : SO c n T o ex := by
  cases o with
  | none =>
    cases h
    exact ⟨fun R w => wpAny_pure (Res.now (tk := _) R.S .none w)⟩
  | some e => exact ⟨fun R w => (ih h).run R w⟩

theorem clip_int (n : Nat) (i : Int) : ((clip n i : Nat) : Int) = max 0 (min (if i < 0 then i + n else i) n) := by
  unfold clip
  by_cases h : i < 0
  · rw [if_pos h, if_pos h]
    by_cases h2 : i + n < 0
    · rw [if_pos h2]; omega
    · rw [if_neg h2]; omega
  · rw [if_neg h, if_neg h]
    by_cases h2 : i < n
    · rw [if_pos h2]; omega
    · rw [if_neg h2]; omega
theorem idx_str (lo hi : Option Int) (n : Nat) : Builtin.Str.strSliceIndices lo hi 1 n = (List.range (hiN n hi - loN n lo)).map (loN n lo + ·) := by
  rw [← sliceRange_one]
  have e1 : ∀ a b a' b' : Int, a = a' → b = b' → sliceRange a b 1 = sliceRange a' b' 1 := fun _ _ _ _ h h' => by rw [h, h']
  refine e1 _ _ _ _ ?_ ?_
  · cases lo with
    | none => rfl
    | some i => exact (clip_int n i).symm
  · cases hi with
    | none => rfl
    | some i => exact (clip_int n i).symm
theorem slice_take {α : Type} (xs : List α) (a b : Nat) : (xs.drop a).take (b - a) = sliceL xs a b := by
  unfold sliceL
  rw [List.drop_take]
theorem hiN_le (n : Nat) (o : Option Int) : hiN n o ≤ n := by
  cases o with
  | none => exact Nat.le_refl _
  | some i => have := clip_int n i; show clip n i ≤ n; omega
theorem txt_slice (xs : List Char) (lo hi : Option Int) : Txt.slice (toS xs) lo hi = toS (sliceL xs (loN xs.length lo) (hiN xs.length hi)) := by
  unfold Txt.slice
  rw [toS_length, idx_str, pick_run]
  have e : (toS xs).cps.toList = xs.map Char.toNat := by simp [toS]
  have hh := hiN_le xs.length hi
  split
  · rename_i h
    simp only [BEq.rfl, Bool.true_and, List.length_map, List.length_range, beq_iff_eq] at h
    by_cases h0 : xs.length = 0
    · have : xs = [] := List.length_eq_zero_iff.mp h0
      subst this
      simp [sliceL]
    · have h1 : loN xs.length lo = 0 := by omega
      have h2 : hiN xs.length hi = xs.length := by omega
      rw [h1, h2, sliceL, List.take_length]; rfl
  · rw [e, slice_take]
    unfold toS
    simp [sliceL, List.map_take, List.map_drop]
theorem pick_items (items : Array Value) (lo hi : Option Int) : (slicePick items lo hi none).toList = sliceL items.toList (loN items.size lo) (hiN items.size hi) := by
  unfold slicePick
  have e1 : (sliceBounds lo hi none items.size).1 = ((loN items.size lo : Nat) : Int) := by
    cases lo with
    | none => rfl
    | some i => exact (clip_int _ i).symm
  have e2 : (sliceBounds lo hi none items.size).2.1 = ((hiN items.size hi : Nat) : Int) := by
    cases hi with
    | none => rfl
    | some i => exact (clip_int _ i).symm
  rw [e1, e2, show (sliceBounds lo hi none items.size).2.2 = 1 from rfl, sliceRange_one, pick_run, slice_take]
theorem VRs.slice {as : Adr} {X : List Addr} {h : HP} {vs : List V} {cs : List Value} (r : VRs c as X h vs cs) (a b : Nat) : VRs c as X h (sliceL vs a b) (sliceL cs a b) := (r.take b).drop a

theorem part_of {as : Adr} {X : List Addr} {h : HP} {v : V} {y : Value} {o : Option Int} (hv : VR c as X h v y) (e : partOf v = some o) : IsPart y o ∧ ∃ l : Option (Int × Tok), y = partValue l ∧ l.map (·.1) = o := by
  cases v <;> first | (cases e; done) | skip
  · cases hv; cases e; exact ⟨.none, none, rfl, rfl⟩
  · cases hv; cases e; exact ⟨.int _ _, some (_, _), rfl, rfl⟩

section
variable {A : Around} {E : Value → Shared → Prop} {s : Shared} {as : Adr} {X : List Addr} {H : AH} {Q : QE} {v r : V} {lo hi : Option Int} {y yl yu : Value}
abbrev slObj (yl yu : Value) : Obj := { cls := .type "slice", data := .fields #[yl, yu, .none] }
theorem sl_str {t : List Char} (hsz : t.length ≤ sizeOf') (S : SR c as X H s) (hv : VR c as X s.heap (.str t) y) (pl : ∃ l : Option (Int × Tok), yl = partValue l ∧ l.map (·.1) = lo) (pu : ∃ l : Option (Int × Tok), yu = partValue l ∧ l.map (·.1) = hi)
    (q : Q (.str (sliceL t (loN t.length lo) (hiN t.length hi))) H) : ItemOn c.M A E y (.ref s.heap.objs.size) (Res c as X s.heap Q) { s with heap := s.heap.push (slObj yl yu) } := by
  obtain ⟨l, rfl, rfl⟩ := pl
  obtain ⟨u, rfl, rfl⟩ := pu
  cases hv with
  | str _ tk hb =>
    refine ⟨"str", _, F.slot_str_getitem.lookup, typeIs_str _ _ _, wpAny_getItem_str_slice (l := l) (u := u) (st := none) ⟨_, Heap.get?_push_size _ rfl, rfl, rfl⟩ rfl ?_⟩
    have hl : (sliceL t (loN t.length (l.map (·.1))) (hiN t.length (u.map (·.1)))).length ≤ t.length := by unfold sliceL; rw [List.length_drop, List.length_take]; omega
    have fin : ∀ t' k, Res c as X s.heap Q (.str (Txt.slice (toS t) (l.map (·.1)) (u.map (·.1))) t') { s with heap := s.heap.push (slObj (partValue l) (partValue u)), toks := k } := fun t' k => by
      rw [txt_slice]
      exact Res.grow (s' := { s with heap := s.heap.push (slObj (partValue l) (partValue u)), toks := k }) S (.push _ _) rfl rfl (.str _ _ (by omega)) q
    refine post_val_or_str (c := _) ⟨?_, fun t' k => fin t' k⟩
    show (Txt.slice (toS t) (l.map (·.1)) (u.map (·.1))).length ≤ sizeLine
    rw [txt_slice, toS_length]
    have := sizeOf'_le
    omega
theorem sl_view (S : SR c as X H s) (hv : VR c as X s.heap v y) (pl : IsPart yl lo) (pu : IsPart yu hi) (e : ((view H v).bind fun t => if t.length ≤ sizeOf' then some (V.lst (sliceL t (loN t.length lo) (hiN t.length hi))) else none) = some r)
    (q : Q r H) : ItemOn c.M A E y (.ref s.heap.objs.size) (Res c as X s.heap Q) { s with heap := s.heap.push (slObj yl yu) } := by
  obtain ⟨vs, hvs, e⟩ := Option.bind_eq_some_iff.mp e
  split at e
  · rename_i hz
    cases e
    obtain ⟨a, items, rfl, hp, rr, hs⟩ := view_at S hv hvs
    have hl := rr.len_arr
    have hz2 := sizeOf'_le
    have hz3 := sizeOf'_bnd
    have hp' : (s.heap.push (slObj yl yu)).IsList a items := let ⟨o, e, r⟩ := hp.isList; ⟨o, Heap.get?_push_of_some _ e, r⟩
    refine ⟨"list", _, slot_list_getitem.lookup, hp'.typeIs, wpAny_getItem_list_slice hp' (Heap.IsSliceOf.new ..) pl pu .none (by simp) ?_ (by omega)⟩
    have g : Grown s.heap ((s.heap.push (slObj yl yu)).push { cls := .type "list", data := .seq (slicePick items lo hi none) }) := (Grown.push _ _).trans (Grown.push _ _)
    have S1 : SR c as X H { s with heap := s.heap.push (slObj yl yu) } := S.grow (.push _ _) rfl rfl
    have hr : VRs c as X s.heap (sliceL vs (loN vs.length lo) (hiN vs.length hi)) (slicePick items lo hi none).toList := by
      rw [pick_items, hl]
      exact rr.slice _ _
    have hlen : (sliceL vs (loN vs.length lo) (hiN vs.length hi)).length ≤ vs.length := by unfold sliceL; rw [List.length_drop, List.length_take]; omega
    exact Res.grow (s' := { s with heap := _ }) S g rfl rfl (.lst (fresh_out S1) (fresh_x S1) ⟨_, Heap.get?_push_size _ rfl⟩ (hr.grow g) (by omega)) q
  · cases e
end
theorem se_slice {x : Str} {px q p : Pos} {lo hi : Option Expr} {a b d : Ex} (h₁ : SE c n T (.Name x px) a) (h₂ : SO c n T lo b) (h₃ : SO c n T hi d) : SE c n T (.Subscript (.Name x px) (.Slice lo hi none q) p) (.prim false .slice [a, b, d]) := by
  refine ⟨?_⟩
  intro env A s as X H ρ Q XX R w
  rw [wpE_prim, wpEs_cons] at w
  refine Subscript_Slice (wpAny_mono (h₁.run R w) (fun y s₁ r => ?_) fun _ _ e => e) (fun _ _ => rfl)
  obtain ⟨v, H₁, as₁, e1, S1, k1, hv, w1⟩ := r
  rw [wpEs_cons] at w1
  have R1 := R.next e1 k1 S1
  refine wpAny_Slice (wpAny_mono (h₂.run R1 w1) (fun yl s₂ r => ?_) fun _ _ e => e.lift e1 k1)
  obtain ⟨vl, H₂, as₂, e2, S2, k2, hvl, w2⟩ := r
  rw [wpEs_cons] at w2
  refine wpAny_mono (h₃.run (R1.next e2 k2 S2) w2) (fun yu s₃ r => ?_) fun _ _ e => (e.lift e2 k2).lift e1 k1
  obtain ⟨vu, H₃, as₃, e3, S3, k3, hvu, w3⟩ := r
  rw [wpEs_nil] at w3
  refine wpAny_pure ?_
  have hv3 := (hv.keep k2 e2).keep k3 e3
  have hvl3 := hvl.keep k3 e3
  obtain ⟨r, H', e, q'⟩ := okE_some w3
  obtain ⟨lo', hlo, e⟩ := Option.bind_eq_some_iff.mp (show (partOf vl).bind _ = _ from e)
  obtain ⟨hi', hhi, e⟩ := Option.bind_eq_some_iff.mp e
  obtain ⟨r', er, h⟩ := Option.map_eq_some_iff.mp e
  cases h
  obtain ⟨pl1, pl2⟩ := part_of hvl3 hlo
  obtain ⟨pu1, pu2⟩ := part_of hvu hhi
  have up : ∀ {x : Value} {s' : Shared}, Res c as₃ X s₃.heap Q x s' → Res c as X s.heap Q x s' := fun z => ((z.lift e3 k3).lift e2 k2).lift e1 k1
  have fin : ItemOn c.M A (ERes c as X s.heap XX) y (.ref s₃.heap.objs.size) (Res c as₃ X s₃.heap Q) { s₃ with heap := s₃.heap.push (slObj yl yu) } := by
    cases v with
    | str t =>
      have e' : (if t.length ≤ sizeOf' then some (V.str (sliceL t (loN t.length lo') (hiN t.length hi'))) else none) = some r := er
      split at e'
      · rename_i hz; cases e'; exact sl_str hz S3 hv3 pl2 pu2 q'
      · cases e'
    | _ => exact sl_view S3 hv3 pl1 pu1 er q'
  obtain ⟨T', id, f1, f2, f3⟩ := fin
  exact ⟨T', id, f1, f2, wpAny_mono f3 (fun _ _ z => up z) fun _ _ z => z⟩
end
end Mine

end
noncomputable section
namespace Mine
open PySem PySem.Calls PyProof.Rows

structure EOk (c : Cx) (n : Nat) (T : Tb) (e : Expr) (ex : Ex) : Prop where
  se : SE c n T e ex
  st : ST c n T e ex
  ns : NS e
  nset : NSet e

section
variable {c : Cx} {n : Nat} {gl : List (Str × Gl)}

theorem behind_ns {op : CmpOp} {e : Expr} (h : NSet e) : behindInMarks op e = false := by
  cases e with
  | Set a k p => exact absurd rfl (h a k p)
  | _ => rfl

theorem A2.imp {α β : Type} {R R' : α → β → Prop} (hi : ∀ a b, R a b → R' a b) {l : List α} {m : List β} (h : A2 R l m) : A2 R' l m := by
  induction h with
  | nil => exact .nil
  | cons x _ ih => exact .cons (hi _ _ x) ih

theorem sub_ok {r : Expr → Option Ex} {T : Tb} {v sl : Expr} {p : Pos} {ex : Ex} (ih : ∀ {e : Expr} {ex : Ex}, r e = some ex → SE c n T e ex ∧ NS e) (h : cSub r v sl = some ex) : SE c n T (.Subscript v sl p) ex := by
  have plain : isSlice sl = false → ((r v).bind fun a => (r sl).map fun b => Ex.prim false .item [a, b]) = some ex → SE c n T (.Subscript v sl p) ex := fun hs h => by
    obtain ⟨a, h1, h⟩ := Option.bind_eq_some_iff.mp h
    obtain ⟨b, h2, rfl⟩ := Option.map_eq_some_iff.mp h
    exact se_item hs (ih h1).1 (ih h2).1
  cases sl with
  | Slice lo hi st q =>
    cases st with
    | some _ => cases h
    | none =>
      cases v <;> first | (cases h; done) | skip
      obtain ⟨a, h1, h⟩ := Option.bind_eq_some_iff.mp h
      obtain ⟨b, h2, h⟩ := Option.bind_eq_some_iff.mp h
      obtain ⟨d, h3, rfl⟩ := Option.map_eq_some_iff.mp h
      exact se_slice (ih h1).1 (opt_ok (fun q => (ih q).1) h2) (opt_ok (fun q => (ih q).1) h3)
  | _ => exact plain rfl h

theorem eok_plain {T : Tb} {e : Expr} {ex : Ex} (h : SE c n T e ex) (hp : ∀ env whole, isTrue e env whole = (do let v ← whole; standAt e.pos; holding [v] (truthy v))) (ns : NS e) (nset : NSet e) : EOk c n T e ex := ⟨h, st_plain hp h, ns, nset⟩

abbrev okNS (e : Expr) : Prop := NS e ∧ NSet e

theorem call_ok {k : Nat} {T : Tb} {f : Expr} {args : List Expr} {kws : List Keyword} {pos : Pos} {ex : Ex} (C : Cok c T.gl) (sc : SC c n) (hf : ∀ x f, T.gl.lookup x = some (.fn f) → ∃ fn, c.P.fns f = some fn) (ih : ∀ {e : Expr} {ex : Ex}, cE k T e = some ex → EOk c n T e ex)
    (h : cCall (cE k T) T f args kws pos = some ex) : SE c n T (.Call f args kws pos) ex := by
  have ihE : ∀ {es : List Expr} {xs : List Ex}, mapO (cE k T) es = some xs → SEs c n T es xs := fun q => mapO_A2 (R := fun e x => SE c n T e x ∧ NS e) (fun _ _ q => ⟨(ih q).se, (ih q).ns⟩) q
  cases kws with
  | cons _ _ => cases h
  | nil =>
    cases f with
    | Name g p =>
      obtain ⟨gv, h1, h⟩ := Option.bind_eq_some_iff.mp h
      cases gv with
      | fn i =>
        obtain ⟨es, h2, rfl⟩ := Option.map_eq_some_iff.mp h
        exact se_call C sc h1 (hf _ _ (ge_of h1).2.1) (ihE h2)
      | bi b =>
        by_cases hb : b = "isinstance"
        · subst hb
          have h' : cIsi (cE k T) T args = some ex := by
            have e : cGl (cE k T) T args pos (.bi "isinstance") = cIsi (cE k T) T args := by unfold cGl; exact if_pos rfl
            rw [← e]; exact h
          match args, h' with
          | [x, y], h' =>
            cases y with
            | Name t p' =>
              obtain ⟨g2, h2, h'⟩ := Option.bind_eq_some_iff.mp h'
              cases g2 with
              | ty tn =>
                obtain ⟨ty, h4, h'⟩ := Option.bind_eq_some_iff.mp h'
                obtain ⟨a, h3, rfl⟩ := Option.map_eq_some_iff.mp h'
                exact se_isinst C h1 h2 h4 (ih h3).se (ih h3).ns
              | _ => cases h'
            | _ => cases h'
          | [], h' => cases h'
          | [x], h' => cases h'
          | x :: y :: z :: r, h' => cases y <;> cases h'
        · have h' : ((biPrim b args.length).bind fun p => (mapO (cE k T) args).map fun es => Ex.prim false p es) = some ex := by
            have e : cGl (cE k T) T args pos (.bi b) = ((biPrim b args.length).bind fun p => (mapO (cE k T) args).map fun es => Ex.prim false p es) := by unfold cGl; exact if_neg hb
            rw [← e]; exact h
          obtain ⟨p, h2, h'⟩ := Option.bind_eq_some_iff.mp h'
          obtain ⟨es, h3, rfl⟩ := Option.map_eq_some_iff.mp h'
          exact se_biPrim C h1 (ihE h3) h2
      | ty t =>
        obtain ⟨p, h2, h⟩ := Option.bind_eq_some_iff.mp h
        obtain ⟨es, h3, rfl⟩ := Option.map_eq_some_iff.mp h
        exact se_tyPrim C h1 (ihE h3) h2
      | _ => cases h
    | Attribute o name apos =>
      by_cases hc : attrOk o = true ∧ apos.endLine = pos.line
      · have h' : ((methPrim name args.length).bind fun tp => (cE k T o).bind fun a => (mapO (cE k T) args).map fun es => Ex.mcall tp.1 (T.isMu pos && tp.2.fresh) tp.2 a es) = some ex := by
          rw [← h]; exact (if_pos hc).symm
        obtain ⟨tp, h1, h'⟩ := Option.bind_eq_some_iff.mp h'
        obtain ⟨a, h2, h'⟩ := Option.bind_eq_some_iff.mp h'
        obtain ⟨es, h3, rfl⟩ := Option.map_eq_some_iff.mp h'
        refine se_methPrim hc.1 hc.2 (ih h2).se (ihE h3) h1 fun q => ?_
        rw [Bool.and_eq_true] at q
        exact q.2
      · have h' : (none : Option Ex) = some ex := by rw [← h]; exact (if_neg hc).symm
        cases h'
    | _ => cases h

theorem comp_ok {k : Nat} {T : Tb} {elt : Expr} {gens : List Comprehension} {scope : Scope} {pos : Pos} {ex : Ex} (ih : ∀ {T' : Tb} {e : Expr} {ex : Ex}, T'.gl = T.gl → cE k T' e = some ex → EOk c n T' e ex) (h : cComp (cE k) T elt gens scope pos = some ex) :
    ∃ x px iter ifs b i cond mu, gens = [⟨.Name x px, iter, ifs, 0⟩] ∧ ex = .comp mu b i cond ∧ CompF T x scope ∧ NSet iter ∧ SE c n T iter i ∧ SE c n (compTb T x scope) elt b ∧
      ((ifs = [] ∧ cond = none) ∨ ∃ t q, ifs = [t] ∧ cond = some q ∧ ST c n (compTb T x scope) t q) := by
  match gens, h with
  | [], h => cases h
  | _ :: _ :: _, h => rename_i g _ _; obtain ⟨t, _, _, _⟩ := g; cases t <;> cases h
  | [⟨t, it, ifs, ia⟩], h =>
    cases t with
    | Name x px =>
      by_cases hc : ia = 0 ∧ compOk T x scope = true
      · have h' : ((cE k T it).bind fun i => (cE k (compTb T x scope) elt).bind fun b => (match ifs with
            | [] => some (Ex.comp (T.isMu pos) b i none)
            | [t] => (cE k (compTb T x scope) t).map fun q => Ex.comp (T.isMu pos) b i (some q)
            | _ => none)) = some ex := by
          rw [← h]; exact (if_pos hc).symm
        obtain ⟨i, h1, h'⟩ := Option.bind_eq_some_iff.mp h'
        obtain ⟨b, h2, h'⟩ := Option.bind_eq_some_iff.mp h'
        obtain ⟨rfl, hok⟩ := hc
        match ifs, h' with
        | [], h' =>
          cases h'
          exact ⟨x, px, it, [], b, i, none, _, rfl, rfl, compF hok, (ih rfl h1).nset, (ih rfl h1).se, (ih (T' := compTb T x scope) rfl h2).se, .inl ⟨rfl, rfl⟩⟩
        | [t], h' =>
          obtain ⟨q, h3, rfl⟩ := Option.map_eq_some_iff.mp h'
          exact ⟨x, px, it, [t], b, i, some q, _, rfl, rfl, compF hok, (ih rfl h1).nset, (ih rfl h1).se, (ih (T' := compTb T x scope) rfl h2).se, .inr ⟨t, q, rfl, rfl, (ih (T' := compTb T x scope) rfl h3).st⟩⟩
        | _ :: _ :: _, h' => cases h'
      · have h' : (none : Option Ex) = some ex := by rw [← h]; exact (if_neg hc).symm
        cases h'
    | _ => cases h

theorem cE_ok (C : Cok c gl) (sc : SC c n) (hf : ∀ x f, gl.lookup x = some (.fn f) → ∃ fn, c.P.fns f = some fn) (k : Nat) : ∀ {T : Tb} {e : Expr} {ex : Ex}, T.gl = gl → cE k T e = some ex → EOk c n T e ex := by
  induction k with
  | zero => intro T e ex _ h; cases h
  | succ k ih =>
    intro T e ex hg h
    subst hg
    have ihs : ∀ {es : List Expr} {xs : List Ex}, mapO (cE k T) es = some xs → A2 (EOk c n T) es xs := fun q => mapO_A2 (R := EOk c n T) (fun _ _ q => ih rfl q) q
    have ihE : ∀ {es : List Expr} {xs : List Ex}, mapO (cE k T) es = some xs → SEs c n T es xs := fun q => (ihs q).imp fun _ _ x => ⟨x.se, x.ns⟩
    cases e with
    | Constant a b d => exact eok_plain (se_const h) (fun _ _ => rfl) nofun nofun
    | Name a b => exact eok_plain (se_name C h) (fun _ _ => rfl) nofun nofun
    | BinOp l op r pos =>
      obtain ⟨o, h1, h⟩ := Option.bind_eq_some_iff.mp h
      obtain ⟨a, h2, h⟩ := Option.bind_eq_some_iff.mp h
      obtain ⟨b, h3, rfl⟩ := Option.map_eq_some_iff.mp h
      exact eok_plain (se_binop h1 (ih rfl h2).se (ih rfl h3).se) (fun _ _ => rfl) nofun nofun
    | UnaryOp op x p =>
      obtain ⟨a, h1, h⟩ := Option.bind_eq_some_iff.mp h
      cases op with
      | Not => cases h; exact ⟨se_not (ih rfl h1).se, st_not (ih rfl h1).st, nofun, nofun⟩
      | USub => cases h; exact eok_plain (se_neg (ih rfl h1).se) (fun _ _ => rfl) nofun nofun
      | _ => cases h
    | BoolOp op vs p =>
      obtain ⟨xs, h1, h2⟩ := Option.bind_eq_some_iff.mp h
      have q := ihs h1
      refine ⟨⟨?_⟩, ⟨?_⟩, nofun, nofun⟩
      · intro env A s as X H ρ Q XX R w
        exact se_bool (q.imp fun _ _ x => x.se) h2 R w
      · intro env A s as X H ρ Q XX R w
        exact st_bool (q.imp fun _ _ x => x.st) h2 R w
    | Compare l ops rs p =>
      have h' : cCmp (cE k T) l ops rs = some ex := h
      match ops, rs, h' with
      | [op], [x], h' =>
        obtain ⟨a, h1, h'⟩ := Option.bind_eq_some_iff.mp h'
        obtain ⟨b, h2, rfl⟩ := Option.map_eq_some_iff.mp h'
        exact ⟨se_cmp (behind_ns (ih rfl h2).nset) (ih rfl h1).se (ih rfl h2).se, st_cmp (behind_ns (ih rfl h2).nset) (ih rfl h1).se (ih rfl h2).se, nofun, nofun⟩
      | [o₁, o₂], [m, x], h' =>
        obtain ⟨a, h1, h'⟩ := Option.bind_eq_some_iff.mp h'
        obtain ⟨b, h2, h'⟩ := Option.bind_eq_some_iff.mp h'
        obtain ⟨d, h3, rfl⟩ := Option.map_eq_some_iff.mp h'
        exact ⟨se_cmp2 (behind_ns (ih rfl h3).nset) (ih rfl h1).se (ih rfl h2).se (ih rfl h3).se, st_cmp2 (behind_ns (ih rfl h3).nset) (ih rfl h1).se (ih rfl h2).se (ih rfl h3).se, nofun, nofun⟩
      | [], _, h' => cases h'
      | [_], [], h' => cases h'
      | [_], _ :: _ :: _, h' => cases h'
      | [_, _], [], h' => cases h'
      | [_, _], [_], h' => cases h'
      | [_, _], _ :: _ :: _ :: _, h' => cases h'
      | _ :: _ :: _ :: _, [], h' => cases h'
      | _ :: _ :: _ :: _, [_], h' => cases h'
      | _ :: _ :: _ :: _, _ :: _ :: _, h' => cases h'
    | Call f args kws pos => exact eok_plain (call_ok C sc hf (fun q => ih rfl q) h) (fun _ _ => rfl) nofun nofun
    | Subscript v sl p => exact eok_plain (sub_ok (fun q => ⟨(ih rfl q).se, (ih rfl q).ns⟩) h) (fun _ _ => rfl) nofun nofun
    | List es pos =>
      obtain ⟨xs, h1, rfl⟩ := Option.map_eq_some_iff.mp h
      exact eok_plain (se_list (ihE h1)) (fun _ _ => rfl) nofun nofun
    | Tuple es kk pos =>
      obtain ⟨xs, h1, rfl⟩ := Option.map_eq_some_iff.mp h
      exact eok_plain (se_tup (ihE h1)) (fun _ _ => rfl) nofun nofun
    | ListComp elt gens scope pos =>
      obtain ⟨x, px, iter, ifs, b, i, cond, mu, rfl, rfl, ok, hns, hi, he, hc⟩ := comp_ok (fun a q => ih a q) h
      exact eok_plain (se_comp ok hns hi he hc) (fun _ _ => rfl) nofun nofun
    | _ => cases h
end
end Mine

end
noncomputable section
namespace Mine
open PySem PySem.Calls PyProof.Rows

/-- a frame's own objects -/
abbrev own (env : Env) : List Addr := env.locals :: env.cells.map (·.2)

theorem FR.away' {c : Cx} {as : Adr} {X : List Addr} {h : HP} {env : Env} {tab : List (Str × Nat)} {ρ : Fm} {a : Addr} (_F : FR c as X h env tab ρ) (ha : a ∉ own env) : Away [a] env tab :=
  ⟨fun q => ha (by simp at q; rw [← q]; exact .head _), fun x i h1 h2 b e q => ha (by simp at q; subst q; exact .tail _ (List.mem_map.mpr ⟨(x, b), mem_of_lookup e, rfl⟩))⟩

noncomputable def ResS (c : Cx) (as : Adr) (X : List Addr) (h : HP) (T : Tb) (env : Env) (K : KS) (R : QE) (f : Flow) (s' : Shared) : Prop :=
  match f with
  | .next => ∃ ρ' H' as', Ext as h as' ∧ SR c as' X H' s' ∧ KeptX as (own env) h s'.heap ∧ FR c as' X s'.heap env T.tab ρ' ∧ ρ'.length = T.n ∧ K ρ' H'
  | .ret x => ∃ v H' as', Ext as h as' ∧ SR c as' X H' s' ∧ KeptX as (own env) h s'.heap ∧ VR c as' X s'.heap v x ∧ R v H'
  | _ => False

theorem KeptX.trans {as as₁ : Adr} {Y : List Addr} {h h₁ h₂ : HP} (k : KeptX as Y h h₁) (x : Ext as h as₁) (k' : KeptX as₁ Y h₁ h₂) : KeptX as Y h h₂ := fun b o e hb hy => by
  obtain ⟨o₁, e₁, s₁⟩ := k b o e hb hy
  obtain ⟨o₂, e₂, s₂⟩ := k' b o₁ e₁ (x.out e hb) hy
  exact ⟨o₂, e₂, s₁.trans s₂⟩
theorem Ext.transX {as as₁ as₂ : Adr} {Y : List Addr} {h h₁ : HP} (x : Ext as h as₁) (k : KeptX as Y h h₁) (hY : ∀ b ∈ Y, ∃ o, h₁.get? b = some o) (y : Ext as₁ h₁ as₂) : Ext as h as₂ := by
  refine ⟨fun i a e => ?_, fun a ha => ?_⟩
  · rcases x.old i a e with e1 | e1
    · rcases y.old i _ e1 with e2 | e2
      · exact .inl e2
      · exact .inr e2
    · rcases y.old i _ e1 with e2 | e2
      · exact .inr e2
      · exact .inr e2
  · rcases y.new a ha with e1 | e1
    · exact x.new a e1
    · by_cases hm : some a ∈ as
      · exact .inl hm
      · cases hq : h.get? a with
        | none => exact .inr rfl
        | some o =>
          by_cases hy : a ∈ Y
          · obtain ⟨o', e⟩ := hY a hy; rw [e] at e1; cases e1
          · obtain ⟨o', e, _⟩ := k a o hq hm hy; rw [e] at e1; cases e1
theorem KeptX.fr {as : Adr} {Y : List Addr} {h h' : HP} {a : Addr} (k : KeptX as Y h h') (hY : ∀ b ∈ Y, ∃ o, h'.get? b = some o) (ha : h'.get? a = none) : Fr as h a := by
  by_cases hm : some a ∈ as
  · exact .inl hm
  · cases hq : h.get? a with
    | none => exact .inr hq
    | some o =>
      by_cases hy : a ∈ Y
      · obtain ⟨o', e⟩ := hY a hy; rw [e] at ha; cases ha
      · obtain ⟨o', e, _⟩ := k a o hq hm hy; rw [e] at ha; cases ha
theorem KeptX.but {as : Adr} {Y Z : List Addr} {h₀ h h' : HP} (k : KeptX as Y h₀ h) (b : But Z h h') (hZ : ∀ a ∈ Z, Fr as h₀ a) : KeptX as Y h₀ h' := fun x o e hx hy => by
  obtain ⟨o', e', s⟩ := k x o e hx hy
  exact ⟨o', b x o' (fun q => by rcases hZ _ q with r | r; exact hx r; rw [r] at e; cases e) e', s⟩

theorem ResS.lift {c : Cx} {as as₁ : Adr} {X : List Addr} {h h₁ : HP} {T : Tb} {env : Env} {K : KS} {R : QE} {f : Flow} {s' : Shared} (e : Ext as h as₁) (k : KeptX as (own env) h h₁) (hY : ∀ b ∈ own env, ∃ o, h₁.get? b = some o) (r : ResS c as₁ X h₁ T env K R f s') : ResS c as X h T env K R f s' := by
  cases f with
  | next =>
    obtain ⟨ρ', H', as', e', S, k', F, hl, q⟩ := r
    exact ⟨ρ', H', as', e.transX k hY e', S, k.trans e k', F, hl, q⟩
  | ret x =>
    obtain ⟨v, H', as', e', S, k', hv, q⟩ := r
    exact ⟨v, H', as', e.transX k hY e', S, k.trans e k', hv, q⟩
  | _ => exact r.elim
theorem ResS.mono {c : Cx} {as : Adr} {X : List Addr} {h : HP} {T : Tb} {env : Env} {K K' : KS} {R : QE} {f : Flow} {s' : Shared} (r : ResS c as X h T env K R f s') (hK : ∀ ρ H, K ρ H → K' ρ H) : ResS c as X h T env K' R f s' := by
  cases f with
  | next =>
    obtain ⟨ρ', H', as', e', S, k', F, hl, q⟩ := r
    exact ⟨ρ', H', as', e', S, k', F, hl, hK _ _ q⟩
  | ret x => exact r
  | _ => exact r.elim

structure SS (c : Cx) (n : Nat) (T : Tb) (st : Stmt) (sts : List St) : Prop where
  run : ∀ {env : Env} {A : Around} {s : Shared} {as : Adr} {X : List Addr} {H : AH} {ρ : Fm} {K : KS} {R : QE} {XX : XE},
    Rdy c T env A n s as X H ρ → (∀ b ∈ own env, b ∈ X) → wpSs c.P (callF c.P n) sts ρ H K R XX → wpAny c.M A (exec st env) (ResS c as X s.heap T env K R) (ERes c as X s.heap XX) s
structure SB (c : Cx) (n : Nat) (T : Tb) (b : List Stmt) (sts : List St) : Prop where
  run : ∀ {env : Env} {A : Around} {s : Shared} {as : Adr} {X : List Addr} {H : AH} {ρ : Fm} {K : KS} {R : QE} {XX : XE},
    Rdy c T env A n s as X H ρ → (∀ b ∈ own env, b ∈ X) → wpSs c.P (callF c.P n) sts ρ H K R XX → wpAny c.M A (execs b env) (ResS c as X s.heap T env K R) (ERes c as X s.heap XX) s

theorem wpSs_append {P : Prog} {C : Calls} {R : QE} {X : XE} {ys : List St} {K : KS} : ∀ {xs : List St} {ρ : Fm} {H : AH}, wpSs P C (xs ++ ys) ρ H K R X = wpSs P C xs ρ H (fun ρ' H' => wpSs P C ys ρ' H' K R X) R X
  | [], _, _ => rfl
  | s :: xs, ρ, H => by
    rw [List.cons_append, wpSs_cons, wpSs_cons]
    congr 1
    funext ρ' H'
    exact wpSs_append

section
variable {c : Cx} {n : Nat} {T : Tb}

theorem Rdy.step {env : Env} {A : Around} {s s₁ : Shared} {as as₁ : Adr} {X : List Addr} {H H₁ : AH} {ρ ρ₁ : Fm} (R : Rdy c T env A n s as X H ρ) (S : SR c as₁ X H₁ s₁) (F : FR c as₁ X s₁.heap env T.tab ρ₁) (hl : ρ₁.length = T.n) : Rdy c T env A n s₁ as₁ X H₁ ρ₁ := ⟨R.a, S, F, R.K, hl⟩

theorem sb_of {b : List Stmt} {xss : List (List St)} (h : A2 (SS c n T) b xss) : SB c n T b xss.flatten := by
  induction h with
  | nil =>
    refine ⟨?_⟩
    intro env A s as X H ρ K R XX r hY w
    exact wpAny_execs_nil ⟨ρ, H, as, .refl .., r.S, fun b o e _ _ => ⟨o, e, .inl rfl⟩, r.F, r.len, w⟩
  | @cons st xs l m h₁ _ ih =>
    refine ⟨?_⟩
    intro env A s as X H ρ K R XX r hY w
    rw [List.flatten_cons, wpSs_append] at w
    refine wpAny_execs_cons (wpAny_mono (h₁.run r hY w) (fun f s₁ q => ?_) fun _ _ e => e)
    cases f with
    | next =>
      obtain ⟨ρ₁, H₁, as₁, e1, S1, k1, F1, hl1, w1⟩ := q
      exact wpAny_mono (ih.run (r.step S1 F1 hl1) hY w1) (fun f s₂ q => q.lift e1 k1 fun b hb => S1.xs b (hY b hb)) fun _ _ e => e.elim
    | ret x => exact q
    | _ => exact q.elim

/-- a value of an expression goes on as a statement's -/
theorem Res.toS {env : Env} {s : Shared} {as : Adr} {X : List Addr} {h : HP} {K : KS} {Q : QE} {x : Value} {s' : Shared} (r : Res c as X h Q x s') : ResS c as X h T env K Q (.ret x) s' := by
  obtain ⟨v, H', as', e, S, k, hv, q⟩ := r
  exact ⟨v, H', as', e, S, k.x _, hv, q⟩

theorem ss_ret {e : Expr} {ex : Ex} {pos : Pos} (h : SE c n T e ex) : SS c n T (.Return (some e) pos) [.ret ex] := by
  refine ⟨?_⟩
  intro env A s as X H ρ K R XX r hY w
  rw [wpSs_cons, wpS_ret] at w
  exact wpAny_Return_some (wpAny_mono (h.run r w) (fun _ _ q => q.toS (s := s)) fun _ _ e => e)
theorem ss_ret0 {pos : Pos} : SS c n T (.Return none pos) [.ret (.cst .none)] := by
  refine ⟨?_⟩
  intro env A s as X H ρ K R XX r hY w
  rw [wpSs_cons, wpS_ret, wpE_cst] at w
  exact wpAny_Return_none ⟨.none, H, as, .refl .., r.S, fun b o e _ _ => ⟨o, e, .inl rfl⟩, .none, w⟩
/-- a raise that is never reached -/
theorem ss_raise {a b : Option Expr} {pos : Pos} : SS c n T (.Raise a b pos) [.expr (.var T.n)] := by
  refine ⟨?_⟩
  intro env A s as X H ρ K R XX r hY w
  rw [wpSs_cons, wpS_expr, wpE_var, List.getElem?_eq_none (by rw [r.len]; exact Nat.le_refl _)] at w
  exact w.elim

/-- one statement as it is -/
structure S1 (c : Cx) (n : Nat) (T : Tb) (st : Stmt) (x : St) : Prop where
  run : ∀ {env : Env} {A : Around} {s : Shared} {as : Adr} {X : List Addr} {H : AH} {ρ : Fm} {K : KS} {R : QE} {XX : XE},
    Rdy c T env A n s as X H ρ → (∀ b ∈ own env, b ∈ X) → wpS c.P (callF c.P n) x ρ H K R XX → wpAny c.M A (exec st env) (ResS c as X s.heap T env K R) (ERes c as X s.heap XX) s

theorem s1_expr {e : Expr} {ex : Ex} {pos : Pos} (hc : isComp e = false) (h : SE c n T e ex) : S1 c n T (.Expr e pos) (.expr ex) := by
  refine ⟨?_⟩
  intro env A s as X H ρ K R XX r hY w
  rw [wpS_expr] at w
  have hi : interactive env = false := by unfold interactive; rw [r.F.kind]; rfl
  have hs : swapsWith e none pos.line env = pure false := by cases e <;> first | rfl | cases hc
  rw [exec_Expr env e pos hi hs]
  refine wpAny_bind (wpAny_standAt (wpAny_bind (wpAny_mono (h.run r w) (fun v s₁ q => ?_) fun _ _ e => e)))
  obtain ⟨v, H', as', e, S, k, hv, q⟩ := q
  exact wpAny_dropValue ⟨ρ, H', as', e, S, k.x _, r.F.keep k e, r.len, q⟩

theorem s1_if {t : Expr} {ex : Ex} {a b : List Stmt} {xs ys : List St} {pos : Pos} (h : ST c n T t ex) (ha : SB c n T a xs) (hb : SB c n T b ys) : S1 c n T (.If t a b pos) (.ite ex xs ys) := by
  refine ⟨?_⟩
  intro env A s as X H ρ K R XX r hY w
  rw [wpS_ite] at w
  refine wpAny_If (wpAny_mono (h.run (Q := fun t H' => if t then wpSs c.P (callF c.P n) xs ρ H' K R XX else wpSs c.P (callF c.P n) ys ρ H' K R XX) r w) (fun t s₁ q => ?_) fun _ _ e => e)
  obtain ⟨H', as', e, S, k, q⟩ := q
  have r' := r.next e k S
  cases t with
  | true =>
    simp only [if_true] at q ⊢
    exact wpAny_mono (ha.run r' hY q) (fun _ _ q => q.lift e (k.x _) fun b hb => S.xs b (hY b hb)) fun _ _ e => e.elim
  | false =>
    simp only [Bool.false_eq_true, if_false] at q ⊢
    exact wpAny_mono (hb.run r' hY q) (fun _ _ q => q.lift e (k.x _) fun b hb => S.xs b (hY b hb)) fun _ _ e => e.elim

theorem slot_of {x : Str} {i : Nat} {env : Env} (K : KOk T env) (h : T.slot x = some i) : T.tab.lookup x = some i ∧ (env.kindOf x = some .local ∨ env.kindOf x = some .cell) ∧ i < T.n := by
  unfold Tb.slot at h
  split at h
  · rename_i hk
    split at h
    · rename_i j hj
      split at h
      · cases h; exact ⟨hj, .inl (K.loc x hk), by assumption⟩
      · cases h
    · cases h
  · rename_i hk
    split at h
    · rename_i j hj
      split at h
      · cases h; exact ⟨hj, .inr (K.cell x hk), by assumption⟩
      · cases h
    · cases h
  · cases h

theorem s1_asg {x : Str} {i : Nat} {px pos : Pos} {e : Expr} {ex : Ex} (hi : T.slot x = some i) (h : SE c n T e ex) {env : Env} {A : Around} {s : Shared} {as : Adr} {X : List Addr} {H : AH} {ρ : Fm} {K : KS} {R : QE} {XX : XE}
    (r : Rdy c T env A n s as X H ρ) (hY : ∀ b ∈ own env, b ∈ X) (w : wpS c.P (callF c.P n) (.asg i ex) ρ H K R XX) (hs : swapsWith e (some (.Name x px)) pos.line env = pure false) :
    wpAny c.M A (exec (.Assign [.Name x px] e pos) env) (ResS c as X s.heap T env K R) (ERes c as X s.heap XX) s := by
  obtain ⟨h1, h2, h3⟩ := slot_of r.K hi
  rw [wpS_asg] at w
  refine wpAny_Assign_Name (wpAny_mono (h.run r w) (fun y s₁ q => ?_) fun _ _ e => e) hs
  obtain ⟨v, H₁, as₁, e1, S1, k1, hv, hl, q⟩ := q
  refine n_store S1 (r.F.keep k1 e1) h1 h2 hl hv fun s₂ st => ?_
  obtain ⟨S2, k2, F2⟩ := st
  exact ResS.lift e1 (k1.x _) (fun b hb => S1.xs b (hY b hb)) ⟨_, H₁, as₁, .refl .., S2, k2, F2, by rw [List.length_set]; exact r.len, q⟩
end
end Mine

end
noncomputable section
namespace Mine
open PySem PySem.Calls PyProof.Rows

section
variable {c : Cx} {n : Nat} {T : Tb} {gl : List (Str × Gl)}

theorem comp_inv (C : Cok c gl) (sc : SC c n) (hf : ∀ x f, gl.lookup x = some (.fn f) → ∃ fn, c.P.fns f = some fn) {k : Nat} {elt : Expr} {gens : List Comprehension} {scope : Scope} {pos : Pos} {ex : Ex} (hg : T.gl = gl) (h : cE k T (.ListComp elt gens scope pos) = some ex) :
    ∃ x px iter ifs b i cond mu, gens = [⟨.Name x px, iter, ifs, 0⟩] ∧ ex = .comp mu b i cond ∧ CompF T x scope ∧ NSet iter ∧ SE c n T iter i ∧ SE c n (compTb T x scope) elt b ∧
      ((ifs = [] ∧ cond = none) ∨ ∃ t q, ifs = [t] ∧ cond = some q ∧ ST c n (compTb T x scope) t q) := by
  cases k with
  | zero => cases h
  | succ k => exact comp_ok (fun a q => cE_ok C sc hf k (a.trans hg) q) h

theorem swaps_comp {elt : Expr} {gens : List Comprehension} {scope : Scope} {pos px : Pos} {x : Str} {l : Nat} {env : Env} : ∃ b, swapsWith (.ListComp elt gens scope pos) (some (.Name x px)) l env = pure b := ⟨_, rfl⟩
theorem swaps_no {e : Expr} {x : Str} {px : Pos} {l : Nat} {env : Env} (h : isComp e = false) : swapsWith e (some (.Name x px)) l env = pure false := by
  cases e <;> first | rfl | cases h

theorem asg_use {x y : Str} {j : Nat} {px py spos : Pos} {elt iter : Expr} {ifs : List Expr} {sc : Scope} {pos : Pos} {b i : Ex} {cond : Option Ex} {mu : Bool} {env : Env} {A : Around} {s : Shared} {as : Adr} {X : List Addr} {H : AH} {ρ : Fm} {K : KS} {R : QE} {XX : XE}
    (hj : T.slot y = some j) (ok : CompF T x sc) (hns : NSet iter) (hi : SE c n T iter i)
    (he : SE c n { T with names := sc.names, tab := (x, T.n) :: T.tab, n := T.n + 1 } elt b)
    (hc : (ifs = [] ∧ cond = none) ∨ ∃ t q, ifs = [t] ∧ cond = some q ∧ ST c n { T with names := sc.names, tab := (x, T.n) :: T.tab, n := T.n + 1 } t q)
    (r : Rdy c T env A n s as X H ρ) (hY : ∀ b ∈ own env, b ∈ X) (w : wpS c.P (callF c.P n) (.asg j (.comp mu b i cond)) ρ H K R XX)
    (hs : swapsWith (.ListComp elt [⟨.Name x px, iter, ifs, 0⟩] sc pos) (some (.Name y py)) spos.line env = pure true) :
    wpAny c.M A (exec (.Assign [.Name y py] (.ListComp elt [⟨.Name x px, iter, ifs, 0⟩] sc pos) spos) env) (ResS c as X s.heap T env K R) (ERes c as X s.heap XX) s := by
  obtain ⟨h1, h2, h3⟩ := slot_of r.K hj
  rw [wpS_asg] at w
  rw [exec_Assign_Name_used _ _ _ _ hs]
  refine wpAny_bind (wpAny_standAt (wpAny_bind ?_))
  show wpAny _ A (do let _ ← comprehension (.ListComp elt [⟨.Name x px, iter, ifs, 0⟩] sc pos) sc env (firstIterPos [⟨.Name x px, iter, ifs, 0⟩] pos) (newList []) false (eval iter env) (some (assign (.Name y py) env))) _ _ s
  refine wpAny_bind (wpAny_mono (use_comp (Qf := fun _ s' => ResS c as X s.heap T env K R .next s') ok hns hi he hc r w ?_) (fun _ s' hq => wpAny_pure (wpAny_pure hq)) fun _ _ e => e)
  intro D Ca s' fC cX bC hm q
  obtain ⟨v, H', as', e, S, k, hv, ⟨hl, q⟩, F⟩ := q
  refine wpAny_assign_Name (n_store S F h1 h2 hl hv fun s'' st => ?_)
  obtain ⟨S2, k2, F2⟩ := st
  have hCown : Ca ∉ own env := fun q => cX (hY _ q)
  have hCas : some Ca ∉ as' := fun q => by
    obtain ⟨i, hi⟩ := List.getElem?_of_mem q
    obtain ⟨_, h2, _⟩ := S.objs i _ hi
    exact h2 (.head _)
  obtain ⟨m, hm⟩ := hm
  refine ⟨m, Ns.same hm fun o e => k2 _ o e hCas hCown, fun h' hs' => ?_⟩
  have b' : But [Ca] s''.heap h' := fun q o hq e => (hs'.2 q (by simpa using hq)).trans e
  refine ⟨_, H', as', e, S2.but (s' := { s'' with heap := h' }) b' (by simpa using bC) (fun _ q => .tail _ q) (fun a ha hz => by simp at hz; subst hz; exact (cX ha).elim) rfl rfl, ?_, ?_, by rw [List.length_set]; exact r.len, q⟩
  · exact ((k.x _).trans e k2).but b' (by simpa using fC)
  · have aw : Away [Ca] env T.tab := F2.away' (by simpa using hCown)
    exact (F2.keepY (b'.kept as') (by simp) aw).narrow (Z := [Ca]) (fun b hb => .tail _ hb) (fun b hb => by
      cases hb with
      | head => exact .inr (by simp)
      | tail _ hb => exact .inl hb) aw

structure Fl (c : Cx) (T : Tb) (env : Env) (as₀ : Adr) (h₀ : HP) (X : List Addr) (I : Addr) (v : V) (y : Value) (k : Nat) (s : Shared) (as : Adr) (H : AH) (ρ : Fm) : Prop where
  S : SR c as (I :: X) H s
  F : FR c as (I :: X) s.heap env T.tab ρ
  hl : ρ.length = T.n
  hv : VR c as (I :: X) s.heap v y
  hi : ItC s.heap I v y k
  oi : some I ∉ as
  E : Ext as₀ h₀ as
  K : KeptX as₀ (own env) h₀ s.heap

/-- an iterator of a loop has done its work -/
theorem SR.less {c : Cx} {as : Adr} {X : List Addr} {H : AH} {s : Shared} {I : Addr} (S : SR c as (I :: X) H s) : SR c as X H s :=
  S.turn (fun b o e _ _ => ⟨o, e, .inl rfl⟩) S.stays (fun _ q => .tail _ q) (fun b hb => S.xs b (.tail _ hb)) rfl rfl

theorem for_loop {x : Str} {i : Nat} {px : Pos} {body : List Stmt} {xs : List St} {env : Env} {A : Around} {X : List Addr} {XX : XE} {items : List V} {K : KS} {R : QE} {I : Addr} {as₀ : Adr} {h₀ : HP} {v : V} {y : Value} {s : Shared} {as : Adr} {H : AH} {ρ : Fm} {RR : Result → Shared → Prop} {Kn : KOk T env}
    (hi : T.slot x = some i) (hb : SB c n T body xs) (a : AOk A n) (hY : ∀ b ∈ own env, b ∈ X) (bI : c.base.get? I = none) (fI : Fr as₀ h₀ I) (iX : I ∉ X)
    (L : Fl c T env as₀ h₀ X I v y 0 s as H ρ)
    (w : forL (fun x ρ' H' K' => match setTgt ρ' (.inl i) x with | some ρ'' => wpSs c.P (callF c.P n) xs ρ'' H' K' R XX | none => False) (fun H' => src H' v = some items) items ρ H K)
    (hR : ∀ f s', ResS c as₀ X h₀ T env K R f s' → RR (.ok f) s') :
    codeAny c.M A (.forLoop (.Name x px) (.ref I) body [] env) RR s := by
  have iO : I ∉ own env := fun q => iX (hY _ q)
  refine codeAny_forLoop (fun m s' => ∃ k as H ρ, m = items.length - k ∧ k ≤ items.length ∧ Fl c T env as₀ h₀ X I v y k s' as H ρ ∧
    forL (fun x ρ' H' K' => match setTgt ρ' (.inl i) x with | some ρ'' => wpSs c.P (callF c.P n) xs ρ'' H' K' R XX | none => False) (fun H' => src H' v = some items) (items.drop k) ρ H K) ?_ (items.length - 0) ⟨0, as, H, ρ, rfl, Nat.zero_le _, L, w⟩
  clear L w
  rintro m s ⟨k, as, H, ρ, rfl, hk, L, w⟩
  cases hx : items[k]? with
  | none =>
    have hkl : items.length = k := by
      have := List.getElem?_eq_none_iff.mp hx
      omega
    rw [List.drop_eq_nil_of_le (by omega)] at w
    refine it_done a.hh L.S (by simp) L.hv L.hi w.1 hkl fun h' tk b => ?_
    refine wpAny_execs_nil (hR _ _ ?_)
    have aw : Away [I] env T.tab := L.F.away' iO
    refine ⟨ρ, H, as, L.E, L.S.but (s' := { s with heap := h', toks := tk }) b (by simpa using bI) (fun _ q => .tail _ q) (fun a ha hz => by simp at hz; subst hz; exact (iX ha).elim) rfl rfl, L.K.but b (by simpa using fI), ?_, L.hl, w.2⟩
    exact (L.F.keepY (b.kept as) (by simp) aw).narrow (Z := [I]) (fun b hb => .tail _ hb) (fun b hb => by
      cases hb with
      | head => exact .inr (by simp)
      | tail _ hb => exact .inl hb) aw
  | some u =>
    have hlt := (List.getElem?_eq_some_iff.mp hx).1
    rw [drop_cons hx] at w
    refine it_next a.hh L.S (by simp) bI L.hv L.hi w.1 hx fun z h₁ tk₁ b₁ hu₁ hv₁ hi₁ S₁ => ?_
    have aw : Away [I] env T.tab := L.F.away' iO
    have F₁ := L.F.keepY (b₁.kept as) (by simp) aw
    have K₁ := L.K.but b₁ (by simpa using fI)
    obtain ⟨h1, h2, h3⟩ := slot_of Kn hi
    refine wpAny_assign_Name (n_store S₁ F₁ h1 h2 (by rw [L.hl]; exact h3) hu₁ fun s₂ st => ?_)
    obtain ⟨S₂, k₂, F₂⟩ := st
    have w2 : wpSs c.P (callF c.P n) xs (ρ.set i (some u)) H _ R XX := w.2
    have hl₂ : (ρ.set i (some u)).length = T.n := by rw [List.length_set]; exact L.hl
    have r₂ : Rdy c T env A n s₂ as (I :: X) H (ρ.set i (some u)) := ⟨a, S₂, F₂, Kn, hl₂⟩
    refine wpAny_mono (hb.run r₂ (fun b hb => .tail _ (hY b hb)) w2) (fun f s₃ q => ?_) fun _ _ e => e.elim
    have hI₂ : ItC s₂.heap I v y (k + 1) := hi₁.at fun o e hc => k₂.get e L.oi iO hc
    have hv₂ : VR c as (I :: X) s₂.heap v y := hv₁.keepX (k₂.mono fun b hb => .tail _ (hY b hb)) (.refl ..)
    have K₂ : KeptX as₀ (own env) h₀ s₂.heap := K₁.trans L.E k₂
    have hown₂ : ∀ b ∈ own env, ∃ o, s₂.heap.get? b = some o := fun b hb => S₂.xs b (.tail _ (hY b hb))
    cases f with
    | next =>
      obtain ⟨ρ₃, H₃, as₃, e₃, S₃, k₃, F₃, hl₃, q₃⟩ := q
      refine ⟨items.length - (k + 1), by omega, k + 1, as₃, H₃, ρ₃, rfl, by omega, ⟨S₃, F₃, hl₃, ?_, ?_, ?_, L.E.transX K₂ hown₂ e₃, K₂.trans L.E k₃⟩, q₃⟩
      · exact hv₂.keepX (k₃.mono fun b hb => .tail _ (hY b hb)) e₃
      · exact hI₂.at fun o e hc => k₃.get e L.oi iO hc
      · obtain ⟨o, e, _⟩ := hI₂.here; exact e₃.out e L.oi
    | ret xv =>
      obtain ⟨v', H₃, as₃, e₃, S₃, k₃, hv₃, q₃⟩ := q
      exact hR _ _ ⟨v', H₃, as₃, L.E.transX K₂ hown₂ e₃, S₃.less, K₂.trans L.E k₃, hv₃.frames fun b _ _ hb q => hb (.tail _ q), q₃⟩
    | _ => exact q.elim

theorem s1_for {x : Str} {i : Nat} {px pos : Pos} {iter : Expr} {ex : Ex} {body : List Stmt} {xs : List St} (hi : T.slot x = some i) (hns : NSet iter) (h : SE c n T iter ex) (hb : SB c n T body xs) :
    S1 c n T (.For (.Name x px) iter body [] pos) (.forIn false (.inl i) ex xs) := by
  refine ⟨?_⟩
  intro env A s as X H ρ K R XX r hY w
  rw [wpS_forIn] at w
  refine wpAny_For (wpAny_mono (h.run r w) (fun y s₁ q => ?_) fun _ _ e => e) (folded_ns hns env)
  obtain ⟨v, H₁, as₁, e1, S1, k1, hv, items, hsrc, hsz, w⟩ := q
  simp only [Bool.false_eq_true, if_false] at w
  refine it_start S1 hv hsrc fun o hit => ?_
  have hfI : s₁.heap.get? s₁.heap.objs.size = none := get_fresh _
  generalize s₁.heap.objs.size = I at hit hfI ⊢
  have g : Grown s₁.heap (s₁.heap.push o) := .push _ _
  have hX' : ∀ b ∈ I :: X, b ∈ X ∨ s₁.heap.get? b = none := fun b hb => by
    cases hb with
    | head => exact .inr hfI
    | tail _ hb => exact .inl hb
  have F1 := r.F.keep k1 e1
  refine for_loop (Kn := r.K) hi hb r.a hY (S1.base_none hfI) (k1.fr hfI) (S1.not_x hfI) (as₀ := as) (h₀ := s.heap) ⟨S1.opens (s' := { s₁ with heap := s₁.heap.push o }) g hX' (fun b hb => ?_) rfl rfl, F1.opens g (fun b hb => .tail _ hb) hX', r.len, hv.opens g hX', hit, S1.not_as hfI, e1, (k1.trans e1 (g.kept as₁)).x _⟩ w fun f s' q => q
  cases hb with
  | head => obtain ⟨o, e, _⟩ := hit.here; exact ⟨o, e⟩
  | tail _ hb => obtain ⟨o', e⟩ := S1.xs b hb; exact ⟨o', g _ _ e⟩

/-- nobody changes this object from here on -/
theorem ss_fz {st : Stmt} {x : St} {l : Nat} (h : S1 c n T st x) : SS c n T st (withFz T l x) := by
  refine ⟨?_⟩
  intro env A s as X H ρ K R XX r hY w
  exact wpAny_mono (h.run r hY w) (fun _ _ q => q) fun _ _ e => e

theorem cE_setcomp {k : Nat} {T : Tb} {elt : Expr} {gens : List Comprehension} {scope : Scope} {pos : Pos} {ex : Ex} (h : cE k T (.SetComp elt gens scope pos) = some ex) : False := by
  cases k with
  | zero => cases h
  | succ k => cases h
theorem cE_dictcomp {k : Nat} {T : Tb} {elt elt' : Expr} {gens : List Comprehension} {scope : Scope} {pos : Pos} {ex : Ex} (h : cE k T (.DictComp elt elt' gens scope pos) = some ex) : False := by
  cases k with
  | zero => cases h
  | succ k => cases h

theorem s1_assign (C : Cok c gl) (sc : SC c n) (hf : ∀ x f, gl.lookup x = some (.fn f) → ∃ fn, c.P.fns f = some fn) {k : Nat} {x : Str} {px pos : Pos} {v : Expr} {i : Nat} {e : Ex} (hg : T.gl = gl) (h1 : T.slot x = some i) (h2 : cE k T v = some e) :
    S1 c n T (.Assign [.Name x px] v pos) (.asg i e) := by
  refine ⟨?_⟩
  intro env A s as X H ρ K R XX r hY w
  have he := cE_ok C sc hf k hg h2
  cases hcomp : isComp v with
  | false => exact s1_asg h1 he.se r hY w (swaps_no hcomp)
  | true =>
    cases v with
    | ListComp elt gens scope pos' =>
      obtain ⟨b, hb⟩ := swaps_comp (elt := elt) (gens := gens) (scope := scope) (pos := pos') (px := px) (x := x) (l := pos.line) (env := env)
      cases b with
      | false => exact s1_asg h1 he.se r hY w hb
      | true =>
        obtain ⟨x', px', iter, ifs, b, i', cond, mu, rfl, rfl, ok, hns, hi, he, hc⟩ := comp_inv C sc hf hg h2
        exact asg_use h1 ok hns hi he hc r hY w hb
    | SetComp elt gens scope pos' => exact (cE_setcomp h2).elim
    | DictComp elt elt' gens scope pos' => exact (cE_dictcomp h2).elim
    | _ => cases hcomp

theorem flatO_some {o : Option (List (List St))} {xs : List St} (h : flatO o = some xs) : ∃ l, o = some l ∧ xs = l.flatten := by
  cases o with
  | none => cases h
  | some l => cases h; exact ⟨l, rfl, rfl⟩
theorem cS_ok (C : Cok c gl) (sc : SC c n) (hf : ∀ x f, gl.lookup x = some (.fn f) → ∃ fn, c.P.fns f = some fn) (k : Nat) : ∀ {T : Tb} {st : Stmt} {sts : List St}, T.gl = gl → cS k T st = some sts → SS c n T st sts := by
  induction k with
  | zero => intro T st sts _ h; cases h
  | succ k ih =>
    intro T st sts hg h
    have ihb : ∀ {b : List Stmt} {xs : List St}, flatO (mapO (cS k T) b) = some xs → SB c n T b xs := fun {b xs} q => by
      obtain ⟨l, hl, rfl⟩ := flatO_some q
      exact sb_of (mapO_A2 (R := SS c n T) (fun _ _ q => ih hg q) hl)
    have ihe : ∀ {e : Expr} {ex : Ex}, cE k T e = some ex → EOk c n T e ex := fun q => cE_ok C sc hf k hg q
    cases st with
    | Assign ts v pos =>
      match ts, h with
      | [], h => cases h
      | [t], h =>
        cases t with
        | Name x px =>
          obtain ⟨i, h1, h⟩ := Option.bind_eq_some_iff.mp h
          obtain ⟨e, h2, rfl⟩ := Option.map_eq_some_iff.mp h
          exact ss_fz (s1_assign C sc hf hg h1 h2)
        | _ => cases h
      | t :: _ :: _, h => cases t <;> cases h
    | Expr v pos =>
      cases hc : isComp v with
      | true =>
        have h' : (none : Option (List St)) = some sts := by rw [← h]; exact (if_pos hc).symm
        cases h'
      | false =>
        have h' : ((cE k T v).map fun e => withFz T pos.line (.expr e)) = some sts := by rw [← h]; exact (if_neg (by rw [hc]; decide)).symm
        obtain ⟨ex, h1, rfl⟩ := Option.map_eq_some_iff.mp h'
        exact ss_fz (s1_expr hc (ihe h1).se)
    | If t a b pos =>
      obtain ⟨ex, h1, h⟩ := Option.bind_eq_some_iff.mp h
      obtain ⟨xs, h2, h⟩ := Option.bind_eq_some_iff.mp h
      obtain ⟨ys, h3, rfl⟩ := Option.map_eq_some_iff.mp h
      exact ss_fz (s1_if (ihe h1).st (ihb h2) (ihb h3))
    | For t it body els pos =>
      cases els with
      | nil =>
        cases t with
        | Name x px =>
          obtain ⟨i, h1, h⟩ := Option.bind_eq_some_iff.mp h
          obtain ⟨ex, h2, h⟩ := Option.bind_eq_some_iff.mp h
          obtain ⟨xs, h3, rfl⟩ := Option.map_eq_some_iff.mp h
          exact ss_fz (s1_for h1 (ihe h2).nset (ihe h2).se (ihb h3))
        | _ => cases h
      | cons _ _ => cases t <;> cases h
    | Return v p =>
      cases v with
      | some e =>
        obtain ⟨ex, h1, rfl⟩ := Option.map_eq_some_iff.mp h
        exact ss_ret (ihe h1).se
      | none => cases h; exact ss_ret0
    | Raise a b p => cases h; exact ss_raise
    | _ => cases h
theorem cSs_ok (C : Cok c gl) (sc : SC c n) (hf : ∀ x f, gl.lookup x = some (.fn f) → ∃ fn, c.P.fns f = some fn) {k : Nat} {T : Tb} {b : List Stmt} {sts : List St} (hg : T.gl = gl) (h : cSs k T b = some sts) : SB c n T b sts := by
  obtain ⟨l, hl, rfl⟩ := flatO_some h
  exact sb_of (mapO_A2 (R := SS c n T) (fun _ _ q => cS_ok C sc hf k hg q) hl)
end
end Mine

end
noncomputable section
namespace Mine
open PySem PySem.Calls PyProof.Rows

theorem take_get {as : Adr} {n i : Nat} {x : Option Addr} (h : (as.take n)[i]? = some x) : i < n ∧ as[i]? = some x := by
  rw [List.getElem?_take] at h
  split at h
  · exact ⟨by assumption, h⟩
  · cases h
theorem take_get' {as : Adr} {n i : Nat} {x : Option Addr} (h : as[i]? = some x) (hi : i < n) : (as.take n)[i]? = some x := by
  rw [List.getElem?_take, if_pos hi]; exact h

theorem VR.trunc {c : Cx} {as : Adr} {X : List Addr} {h : HP} {n : Nat} {v : V} {y : Value} (r : VR c as X h v y) (u : v.under n = true) : VR c (as.take n) X h v y :=
  VR.gen n (fun _ _ h1 h2 h3 _ => ⟨fun q => h1 (List.mem_of_mem_take q), h2, h3⟩) (fun _ _ hi e => .inl (take_get' e hi)) r u
theorem VRs.trunc {c : Cx} {as : Adr} {X : List Addr} {h : HP} {n : Nat} {v : List V} {y : List Value} (r : VRs c as X h v y) (u : V.unders n v = true) : VRs c (as.take n) X h v y :=
  VRs.gen n (fun _ _ h1 h2 h3 _ => ⟨fun q => h1 (List.mem_of_mem_take q), h2, h3⟩) (fun _ _ hi e => .inl (take_get' e hi)) r u

theorem fz_len {H : AH} {n : Nat} {vs ws : List V} (f : Fzs n H vs ws) : vs.length = ws.length :=
  Fzs.rec (motive_1 := fun _ _ _ => True) (motive_2 := fun vs ws _ => vs.length = ws.length) (fun _ => trivial) (fun _ _ => trivial) (fun _ _ => trivial) (fun _ _ => trivial) (fun _ _ _ _ => trivial) (fun _ _ _ _ => trivial) rfl (fun _ _ _ ih => by rw [List.length_cons, List.length_cons, ih]) f
theorem gone {c : Cx} {as : Adr} {X : List Addr} {H : AH} {s : Shared} {n i : Nat} {a : Addr} (S : SR c as X H s) (hi : n ≤ i) (e : as[i]? = some (some a)) : some a ∉ as.take n := fun q => by
  obtain ⟨j, hj⟩ := List.getElem?_of_mem q
  obtain ⟨h1, h2⟩ := take_get hj
  have := S.inj _ _ _ h2 e
  omega
/-- what was read out -/
theorem Fz.vr {c : Cx} {as : Adr} {X : List Addr} {H : AH} {s : Shared} {n : Nat} (S : SR c as X H s) {v w : V} {y : Value} (f : Fz n H v w) (r : VR c as X s.heap v y) (u : w.under n = true) : VR c (as.take n) X s.heap w y := by
  refine Fz.rec (motive_1 := fun v w _ => ∀ y, VR c as X s.heap v y → w.under n = true → VR c (as.take n) X s.heap w y) (motive_2 := fun vs ws _ => ∀ ys, VRs c as X s.heap vs ys → V.unders n ws = true → VRs c (as.take n) X s.heap ws ys)
    (fun _ _ r u => r.trunc u) (fun f ih y r u => ?_) (fun f ih y r u => ?_) (fun f ih y r u => ?_) (fun hi ho f ih y r u => ?_) (fun hi ho f ih y r u => ?_) (fun ys r _ => ?_) (fun _ _ i1 i2 ys r u => ?_) f y r u
  · cases r with
    | tup h1 hx ho r hb => exact .tup (fun q => h1 (List.mem_of_mem_take q)) hx ho (ih _ r u) (by rw [← fz_len f]; exact hb)
  · cases r with
    | lst h1 hx ho r hb => exact .lst (fun q => h1 (List.mem_of_mem_take q)) hx ho (ih _ r u) (by rw [← fz_len f]; exact hb)
  · cases r with
    | dct h1 hx hsm hd hl r hb => exact .dct (fun q => h1 (List.mem_of_mem_take q)) hx hsm hd hl (ih _ r u) (by rw [← fz_len f]; exact hb)
  · cases r with
    | refD e => rw [S.dead _ e] at ho; cases ho
    | ref e =>
      obtain ⟨_, hx, o, ho', hor⟩ := S.objs _ _ e
      rw [ho] at ho'; cases ho'
      obtain ⟨hb, items, hp, q⟩ := hor
      exact .lst (gone S hi e) hx hp (ih _ q u) (by rw [← fz_len f]; exact hb)
  · cases r with
    | refD e => rw [S.dead _ e] at ho; cases ho
    | ref e =>
      obtain ⟨_, hx, o, ho', hor⟩ := S.objs _ _ e
      rw [ho] at ho'; cases ho'
      obtain ⟨hb, hsm, cs, hd, hl, q⟩ := hor
      exact .dct (gone S hi e) hx hsm hd hl (ih _ q u) (by rw [← fz_len f]; exact hb)
  · cases r; exact .nil
  · cases r with
    | cons x xs =>
      have u' := Bool.and_eq_true_iff.mp u
      exact .cons (i1 _ x u'.1) (i2 _ xs u'.2)

theorem SR.trunc {c : Cx} {as as' : Adr} {X : List Addr} {H H' : AH} {s s' : Shared} (S : SR c as X H s) (S' : SR c as' X H' s') (e : Ext as s.heap as') (hp : H <+: H') : SR c (as'.take H.length) X H s' where
  len := by
    rw [List.length_take, S'.len]
    exact Nat.min_eq_left hp.length_le
  stays := S'.stays
  gens := S'.gens
  os := S'.os
  objs := fun i a hi => by
    obtain ⟨h1, h2⟩ := take_get hi
    obtain ⟨h3, h4, o, h5, h6⟩ := S'.objs i a h2
    have hi' : H[i]? = some o := by
      rw [← h5]
      obtain ⟨r, rfl⟩ := hp
      rw [List.getElem?_append_left h1]
    refine ⟨h3, h4, o, hi', ?_⟩
    have has : as[i]? = some (some a) := by
      have hlt : i < as.length := by rw [S.len]; exact h1
      have hq : as[i]? = some as[i] := List.getElem?_eq_getElem hlt
      rcases e.old i _ hq with r | r
      · rw [h2] at r; injection r with r; rw [hq, ← r]
      · rw [h2] at r; cases r
    obtain ⟨_, _, o', h7, h8⟩ := S.objs i a has
    rw [hi'] at h7; cases h7
    cases o with
    | list vs =>
      obtain ⟨hb, items, hp, r⟩ := h6
      obtain ⟨_, _, _, r0⟩ := h8
      exact ⟨hb, items, hp, r.trunc (by rw [← S.len]; exact r0.under)⟩
    | dict ks vs =>
      obtain ⟨hb, hsm, cs, hd, hl, r⟩ := h6
      obtain ⟨_, _, _, _, _, r0⟩ := h8
      exact ⟨hb, hsm, cs, hd, hl, r.trunc (by rw [← S.len]; exact r0.under)⟩
    | inst k d =>
      obtain ⟨dx, e1, e2⟩ := h6
      obtain ⟨dx0, e3, _⟩ := h8
      exact ⟨dx, take_get' e1 (by rw [← S.len]; exact (List.getElem?_eq_some_iff.mp e3).1), e2⟩
    | dead => exact h6.elim
  inj := fun i j a h1 h2 => S'.inj i j a (take_get h1).2 (take_get h2).2
  dead := fun i h => by
    obtain ⟨h1, h2⟩ := take_get h
    have h5 := S'.dead i h2
    rw [← h5]
    obtain ⟨r, rfl⟩ := hp
    rw [List.getElem?_append_left h1]
  xs := S'.xs

theorem Res.ret {c : Cx} {as as' : Adr} {X : List Addr} {H H' : AH} {s s' : Shared} {v : V} {y : Value} {Q : QE} (S : SR c as X H s) (S' : SR c as' X H' s') (e : Ext as s.heap as') (k : Kept as s.heap s'.heap) (hv : VR c as' X s'.heap v y) (q : Ret H Q v H') : Res c as X s.heap Q y s' := by
  rcases q with q | ⟨w, h1, h2, h3, q⟩
  · exact ⟨v, H', as', e, S', k, hv, q⟩
  · refine ⟨w, H, as'.take H.length, ⟨fun i x hi => ?_, fun a ha => e.new a (List.mem_of_mem_take ha)⟩, S.trunc S' e h2, k, Fz.vr S' h1 hv h3, q⟩
    have hlt : i < H.length := by rw [← S.len]; exact (List.getElem?_eq_some_iff.mp hi).1
    rcases e.old i x hi with r | r
    · exact .inl (take_get' r hlt)
    · exact .inr (take_get' r hlt)

/-- a function as it was compiled -/
structure FOk (c : Cx) (gl : List (Str × Gl)) (f : Nat) (fn : Fn) where
  name : Str
  params : Arguments
  body : List Stmt
  scope : Scope
  pm : Value
  cd : Value
  doc : Value
  ps : List Str
  T : Tb
  k : Nat
  data : c.fdat f = docDef name params body scope pm cd doc
  code : c.base.CodeRec cd name
  hgl : T.gl = gl
  names : T.names = scope.names
  hn : T.n = fn.arity + fn.extra
  hc : cSs k T body = some fn.body
  bind : ∀ xs : List Value, xs.length = fn.arity → bindArgs (docDef name params body scope pm cd doc) ⟨xs, []⟩ = pure (ps.zip xs)
  psl : ps.length = fn.arity
  psn : ps.Nodup
  psk : ∀ x ∈ ps, scope.names.lookup x = some .local ∨ scope.names.lookup x = some .cell
  tabn : (T.tab.map (·.2)).Nodup
  tabp : ∀ x i, T.tab.lookup x = some i → i < fn.arity → ps[i]? = some x
  keys : (scope.names.map (·.1)).Nodup
  nofree : ∀ p ∈ scope.names, p.2 ≠ .free
  kind : scope.kind = .function
  co : scope.isCoroutine = false
  gen : scope.isGenerator = false

theorem cells_keys : ∀ (names : List (Str × NameKind)) (n : Nat) (acc : List (Str × Addr)), ((cellsFrom n names acc).map (·.1)).Perm (((names.filter (fun p => p.2 == .cell)).map (·.1)) ++ acc.map (·.1))
  | [], n, acc => by simp [cellsFrom]
  | (x, k) :: r, n, acc => by
    unfold cellsFrom
    split
    · rename_i hk
      refine (cells_keys r (n + 1) ((x, n) :: acc)).trans ?_
      rw [List.filter_cons_of_pos (by simpa using hk)]
      simp only [List.map_cons, List.cons_append]
      exact List.perm_middle
    · rename_i hk
      rw [List.filter_cons_of_neg (by simpa using hk)]
      exact cells_keys r n acc
theorem cells_some : ∀ (names : List (Str × NameKind)) (n : Nat) (acc : List (Str × Addr)) (x : Str), ((x, NameKind.cell) ∈ names ∨ (∃ a, acc.lookup x = some a)) → ∃ a, (cellsFrom n names acc).lookup x = some a
  | [], n, acc, x, h => by
    rcases h with h | h
    · cases h
    · exact h
  | (y, k) :: r, n, acc, x, h => by
    unfold cellsFrom
    split
    · rename_i hk
      refine cells_some r (n + 1) ((y, n) :: acc) x ?_
      by_cases hxy : x = y
      · subst hxy; exact .inr ⟨n, by simp⟩
      · rcases h with h | ⟨a, h⟩
        · cases h with
          | head => exact absurd rfl hxy
          | tail _ h => exact .inl h
        · exact .inr ⟨a, by rw [List.lookup_cons, show (x == y) = false by simpa using hxy]; exact h⟩
    · rename_i hk
      refine cells_some r n acc x ?_
      rcases h with h | h
      · cases h with
        | head => exact absurd rfl hk
        | tail _ h => exact .inl h
      · exact .inr h
theorem lookup_of_mem {α β : Type} [BEq α] [LawfulBEq α] : ∀ {l : List (α × β)}, (l.map (·.1)).Nodup → ∀ {p : α × β}, p ∈ l → l.lookup p.1 = some p.2
  | q :: r, hn, p, h => by
    rw [List.map_cons, List.nodup_cons] at hn
    cases h with
    | head => obtain ⟨p1, p2⟩ := q; rw [List.lookup_cons, BEq.rfl]
    | tail _ h =>
      have : (p.1 == q.1) = false := by
        simp only [beq_eq_false_iff_ne, ne_eq]
        intro e
        exact hn.1 (e ▸ List.mem_map.mpr ⟨p, h, rfl⟩)
      obtain ⟨q1, q2⟩ := q
      rw [List.lookup_cons, this]
      exact lookup_of_mem hn.2 h

theorem inj_snd {α : Type} : ∀ {l : List (α × Nat)}, (l.map (·.2)).Nodup → ∀ {x y : α} {i : Nat}, (x, i) ∈ l → (y, i) ∈ l → x = y
  | q :: r, hn, x, y, i, h1, h2 => by
    rw [List.map_cons, List.nodup_cons] at hn
    cases h1 with
    | head =>
      cases h2 with
      | head => rfl
      | tail _ h2 => exact absurd (List.mem_map.mpr ⟨_, h2, rfl⟩) hn.1
    | tail _ h1 =>
      cases h2 with
      | head => exact absurd (List.mem_map.mpr ⟨_, h1, rfl⟩) hn.1
      | tail _ h2 => exact inj_snd hn.2 h1 h2

theorem bindL_other {kindOf : Str → Option NameKind} : ∀ {ps : List Str} {xs : List Value} {m : Str → Option Value} {x : Str}, x ∉ ps → bindL kindOf (ps.zip xs) m x = m x
  | [], _, m, x, _ => by simp [bindL]
  | _ :: _, [], m, x, _ => by simp [bindL]
  | p :: ps, y :: xs, m, x, h => by
    have h1 : x ≠ p := fun e => h (e ▸ .head _)
    have h2 : x ∉ ps := fun e => h (.tail _ e)
    simp only [List.zip_cons_cons, bindL]
    rw [bindL_other h2]
    split
    · simp [h1]
    · rfl
theorem bindL_at {kindOf : Str → Option NameKind} : ∀ {ps : List Str} {xs : List Value} {m : Str → Option Value} {x : Str} {i : Nat} {y : Value}, ps.Nodup → ps[i]? = some x → xs[i]? = some y → kindOf x = some .local → bindL kindOf (ps.zip xs) m x = some y
  | [], _, m, x, i, y, _, h, _, _ => by simp at h
  | _ :: _, [], m, x, i, y, _, _, h, _ => by simp at h
  | p :: ps, z :: xs, m, x, 0, y, hn, h1, h2, hk => by
    simp at h1 h2
    subst h1; subst h2
    simp only [List.zip_cons_cons, bindL]
    rw [bindL_other (List.nodup_cons.mp hn).1, if_pos hk]
    simp
  | p :: ps, z :: xs, m, x, i + 1, y, hn, h1, h2, hk => by
    simp only [List.zip_cons_cons, bindL]
    simp only [List.getElem?_cons_succ] at h1 h2
    exact bindL_at (List.nodup_cons.mp hn).2 h1 h2 hk
theorem bindC_other {kindOf : Str → Option NameKind} : ∀ {ps : List Str} {xs : List Value} {m : Str → Option Value} {x : Str}, x ∉ ps → bindC kindOf (ps.zip xs) m x = m x
  | [], _, m, x, _ => by simp [bindC]
  | _ :: _, [], m, x, _ => by simp [bindC]
  | p :: ps, y :: xs, m, x, h => by
    have h1 : x ≠ p := fun e => h (e ▸ .head _)
    have h2 : x ∉ ps := fun e => h (.tail _ e)
    simp only [List.zip_cons_cons, bindC]
    rw [bindC_other h2]
    split
    · rfl
    · simp [h1]
theorem bindC_at {kindOf : Str → Option NameKind} : ∀ {ps : List Str} {xs : List Value} {m : Str → Option Value} {x : Str} {i : Nat} {y : Value}, ps.Nodup → ps[i]? = some x → xs[i]? = some y → kindOf x ≠ some .local → bindC kindOf (ps.zip xs) m x = some y
  | [], _, m, x, i, y, _, h, _, _ => by simp at h
  | _ :: _, [], m, x, i, y, _, _, h, _ => by simp at h
  | p :: ps, z :: xs, m, x, 0, y, hn, h1, h2, hk => by
    simp at h1 h2
    subst h1; subst h2
    simp only [List.zip_cons_cons, bindC]
    rw [bindC_other (List.nodup_cons.mp hn).1, if_neg hk]
    simp
  | p :: ps, z :: xs, m, x, i + 1, y, hn, h1, h2, hk => by
    simp only [List.zip_cons_cons, bindC]
    simp only [List.getElem?_cons_succ] at h1 h2
    exact bindC_at (List.nodup_cons.mp hn).2 h1 h2 hk

theorem sc_succ {c : Cx} {n : Nat} {gl : List (Str × Gl)} (C : Cok c gl) (hf : ∀ x f, gl.lookup x = some (.fn f) → ∃ fn, c.P.fns f = some fn) (ok : ∀ f fn, c.P.fns f = some fn → Nonempty (FOk c gl f fn)) (sc : SC c n) : SC c (n + 1) := by
  refine ⟨?_⟩
  intro f fn A s as X H vs xs Q XX hfn a S hvs w
  obtain ⟨K⟩ := ok f fn hfn
  rw [callF_succ, hfn] at w
  obtain ⟨hlen, w⟩ := w
  obtain ⟨o, ho, hdata⟩ := C.fobj f fn hfn
  rw [K.data] at hdata
  have hxl : xs.length = fn.arity := by rw [← hvs.length]; exact hlen
  refine wpAny_call (call_cells (by have := a.hd; omega) (S.stays _ _ ho) hdata (C.nolim.keeps S.stays) (K.code.keeps S.stays) (K.bind xs hxl) (fun x hx => ?_) (fun h₁ tk F0 Cl0 => ?_) K.co K.gen K.kind)
  · have hx1 := (List.of_mem_zip hx).1
    rcases K.psk _ hx1 with q | q
    · exact .inl q
    · refine .inr ⟨q, ?_⟩
      obtain ⟨b, hb⟩ := cells_some K.scope.names (s.heap.objs.size + 1) [] x.1 (.inl (mem_of_lookup q))
      rw [hb]; rfl
  · have hfL : s.heap.get? s.heap.objs.size = none := get_fresh _
    generalize hL : s.heap.objs.size = L at F0 Cl0 hfL ⊢
    generalize henv : envOfC K.name K.scope L (c.fad f) K.cd = env at F0 Cl0 ⊢
    have ecells : env.cells = cellsFrom (L + 1) K.scope.names [] := by rw [← henv]; rfl
    have eloc : env.locals = L := by rw [← henv]; rfl
    have ekind : ∀ x, env.kindOf x = K.scope.names.lookup x := fun x => by rw [← henv]; rfl
    have hcn : ((cellsFrom (L + 1) K.scope.names []).map (·.1)).Nodup := by
      refine (cells_keys K.scope.names (L + 1) []).symm.nodup ?_
      simp only [List.map_nil, List.append_nil]
      exact (List.filter_sublist.map _).nodup K.keys
    have hcl : ∀ p ∈ cellsFrom (L + 1) K.scope.names [], (cellsFrom (L + 1) K.scope.names []).lookup p.1 = some p.2 := fun p hp => lookup_of_mem hcn hp
    have habove : ∀ p ∈ cellsFrom (L + 1) K.scope.names [], L < p.2 := fun p hp => Cl0.above p.1 p.2 hp
    have hfresh : ∀ b, L ≤ b → s.heap.get? b = none := fun b hb => by
      cases e : s.heap.get? b with
      | none => rfl
      | some o => exact absurd (Heap.lt_size e) (by rw [hL]; exact Nat.not_lt.mpr hb)
    have hown : ∀ b ∈ own env, L ≤ b := fun b hb => by
      cases hb with
      | head => rw [eloc]; exact Nat.le_refl _
      | tail _ hb =>
        obtain ⟨p, hp, rfl⟩ := List.mem_map.mp hb
        rw [ecells] at hp
        exact Nat.le_of_lt (habove p hp)
    have g : Grown s.heap h₁ := F0.keep
    have hX' : ∀ b ∈ own env ++ X, b ∈ X ∨ s.heap.get? b = none := fun b hb => by
      rcases List.mem_append.mp hb with q | q
      · exact .inr (hfresh b (hown b q))
      · exact .inl q
    have S1 : SR c as (own env ++ X) H { s with heap := h₁, toks := tk } := S.opens (s' := { s with heap := h₁, toks := tk }) g hX' (fun b hb => by
      rcases List.mem_append.mp hb with q | q
      · cases q with
        | head => rw [eloc]; obtain ⟨o, _, _, e, _⟩ := F0.ns; exact ⟨o, e⟩
        | tail _ q =>
          obtain ⟨p, hp, rfl⟩ := List.mem_map.mp q
          rw [ecells] at hp
          obtain ⟨o, e, _⟩ := Cl0.cell p.1 p.2 (hcl p hp)
          exact ⟨o, e⟩
      · obtain ⟨o, e⟩ := S.xs b q; exact ⟨o, g _ _ e⟩) rfl rfl
    have hvs1 : ∀ {i : Nat} {v : V}, vs[i]? = some v → ∃ y, xs[i]? = some y ∧ VR c as (own env ++ X) h₁ v y := fun e => by
      obtain ⟨y, e1, e2⟩ := hvs.get e
      exact ⟨y, e1, e2.opens g hX'⟩
    have hslot : ∀ {x : Str} {i : Nat} {v : V}, K.T.tab.lookup x = some i → ((vs.map some ++ List.replicate fn.extra none)[i]?).join = some v → ∃ y, K.ps[i]? = some x ∧ xs[i]? = some y ∧ VR c as (own env ++ X) h₁ v y := fun {x i v} ht e => by
      have hi : i < vs.length ∧ vs[i]? = some v := by
        by_cases hi : i < vs.length
        · rw [List.getElem?_append_left (by simpa using hi)] at e
          rw [List.getElem?_map] at e
          cases hq : vs[i]? with
          | none => rw [hq] at e; cases e
          | some v' => rw [hq] at e; simp at e; exact ⟨hi, by rw [e]⟩
        · exfalso
          rw [List.getElem?_append_right (by simpa using hi)] at e
          rw [List.getElem?_replicate] at e
          split at e <;> cases e
      obtain ⟨y, e1, e2⟩ := hvs1 hi.2
      exact ⟨y, K.tabp x i ht (by rw [← hlen]; exact hi.1), e1, e2⟩
    have F1 : FR c as (own env ++ X) h₁ env K.T.tab (vs.map some ++ List.replicate fn.extra none) := by
      refine ⟨by rw [← henv]; exact K.kind, by rw [← henv]; rfl, by rw [← henv]; rfl, by simp, ?_, ?_, ⟨_, by rw [eloc]; exact F0.ns, fun x i ht hk v e => ?_⟩, fun x i ht hk => ?_, fun x y b e1 e2 => ?_, fun x y i e1 e2 => ?_⟩
      · rw [eloc]; exact S.not_as hfL
      · rw [eloc]; exact S.base_none hfL
      · obtain ⟨y, h1, h2, h3⟩ := hslot ht e
        exact ⟨y, bindL_at K.psn h1 h2 hk, h3⟩
      · have hk' : K.scope.names.lookup x = some .cell := by
          rw [ekind] at hk
          rcases hk with hk | hk
          · exact hk
          · exact absurd rfl (K.nofree _ (mem_of_lookup hk))
        obtain ⟨b, hb⟩ := cells_some K.scope.names (L + 1) [] x (.inl (mem_of_lookup hk'))
        have hLb := Cl0.above x b (mem_of_lookup hb)
        have hnb := hfresh b (Nat.le_of_lt hLb)
        refine ⟨b, _, by rw [ecells]; exact hb, List.mem_append_left _ (.tail _ (List.mem_map.mpr ⟨(x, b), by rw [ecells]; exact mem_of_lookup hb, rfl⟩)), S.not_as hnb, S.base_none hnb, by rw [eloc]; exact Nat.ne_of_gt hLb, Cl0.cell x b hb, fun v e => ?_⟩
        obtain ⟨y, h1, h2, h3⟩ := hslot ht e
        exact ⟨y, bindC_at K.psn h1 h2 (by rw [ekind, hk']; simp), h3⟩
      · rw [ecells] at e1 e2
        exact name_of_addr Cl0.apart (mem_of_lookup e1) (mem_of_lookup e2)
      · have h1 := mem_of_lookup e1
        have h2 := mem_of_lookup e2
        have := inj_snd K.tabn h1 h2
        exact this
    have Kn : KOk K.T env := by
      refine ⟨fun x h => ?_, fun x h => ?_, fun x h => ?_, fun x h => ?_⟩
      · rw [ekind, ← K.names]; exact h
      · rw [ekind, ← K.names]; exact h
      · rw [ekind, ← K.names]; exact .inl h
      · rw [ekind, ← K.names]; exact h
    have a1 : AOk (A.deeper env) n := ⟨a.hh, by have := a.hd; simp only [Around.deeper]; omega, by have := a.hu; simp only [Around.deeper]; omega⟩
    have R1 : Rdy c K.T env (A.deeper env) n { s with heap := h₁, toks := tk } as (own env ++ X) H (vs.map some ++ List.replicate fn.extra none) := ⟨a1, S1, F1, Kn, by rw [K.hn, List.length_append, List.length_map, List.length_replicate, hlen]⟩
    have hB := (cSs_ok C sc hf K.hgl K.hc).run R1 (fun b hb => List.mem_append_left _ hb) w
    have fin : ∀ {v : V} {y : Value} {H' : AH} {as' : Adr} {s' : Shared}, Ext as h₁ as' → SR c as' (own env ++ X) H' s' → KeptX as (own env) h₁ s'.heap → VR c as' (own env ++ X) s'.heap v y → Ret H Q v H' → Res c as X s.heap Q y s' := fun {v y H' as' s'} e S' k hv q => by
      refine Res.ret S (S'.turn (fun b o e _ _ => ⟨o, e, .inl rfl⟩) S'.stays (fun b hb => List.mem_append_right _ hb) (fun b hb => S'.xs b (List.mem_append_right _ hb)) rfl rfl) ⟨e.old, fun b hb => ?_⟩ (fun b o e hb => ?_) (hv.frames fun b _ _ hb q => hb (List.mem_append_right _ q)) q
      · rcases e.new b hb with q | q
        · exact .inl q
        · refine .inr ?_
          cases hq : s.heap.get? b with
          | none => rfl
          | some o => rw [g _ _ hq] at q; cases q
      · exact k b o (g _ _ e) hb fun q => by rw [hfresh b (hown b q)] at e; cases e
    refine wpAny_mono hB (fun fl s' q => ?_) fun _ _ e => e.elim
    cases fl with
    | next =>
      obtain ⟨ρ', H', as', e, S', k, _, _, q⟩ := q
      exact fin e S' k .none q
    | ret y =>
      obtain ⟨v, H', as', e, S', k, hv, q⟩ := q
      exact fin e S' k hv q
    | _ => exact q.elim

theorem sc_zero {c : Cx} : SC c 0 := ⟨fun _ _ _ _ h => h.elim⟩
theorem sc_all {c : Cx} {gl : List (Str × Gl)} (C : Cok c gl) (hf : ∀ x f, gl.lookup x = some (.fn f) → ∃ fn, c.P.fns f = some fn) (ok : ∀ f fn, c.P.fns f = some fn → Nonempty (FOk c gl f fn)) : ∀ n, SC c n
  | 0 => sc_zero
  | n + 1 => sc_succ C hf ok (sc_all C hf ok n)
end Mine

end
noncomputable section
namespace Mine
open PySem PySem.Calls PyProof.Rows

theorem zip_lookup : ∀ {ps : List Str} {xs : List Value}, ps.length = xs.length → ∀ {x : Str}, x ∈ ps → ((ps.zip xs).lookup x).isSome = true
  | [], _, _, x, h => by cases h
  | _ :: _, [], h, _, _ => by simp at h
  | p :: ps, y :: xs, hl, x, h => by
    rw [List.zip_cons_cons, List.lookup_cons]
    cases hx : x == p with
    | true => rfl
    | false =>
      simp only
      refine zip_lookup (by simpa using hl) ?_
      cases h with
      | head => simp at hx
      | tail _ h => exact h
theorem fm_congr {α β : Type} {f g : α → Option β} : ∀ {l : List α}, (∀ a ∈ l, f a = g a) → l.filterMap f = l.filterMap g
  | [], _ => rfl
  | a :: l, h => by rw [List.filterMap_cons, List.filterMap_cons, h a (.head _), fm_congr fun b hb => h b (.tail _ hb)]
theorem zip_filterMap : ∀ {ps : List Str} {xs : List Value}, ps.length = xs.length → ps.Nodup → ps.filterMap (fun n => ((ps.zip xs).lookup n).map (n, ·)) = ps.zip xs
  | [], [], _, _ => rfl
  | _ :: _, [], h, _ => by simp at h
  | [], _ :: _, h, _ => by simp at h
  | p :: ps, y :: xs, hl, hn => by
    have hn' := List.nodup_cons.mp hn
    rw [List.zip_cons_cons, List.filterMap_cons]
    simp only [List.lookup_cons, BEq.rfl, Option.map_some]
    congr 1
    have ih := zip_filterMap (xs := xs) (by simpa using hl) hn'.2
    have : ∀ n ∈ ps, ((match n == p with | true => some y | false => (ps.zip xs).lookup n).map (n, ·)) = ((ps.zip xs).lookup n).map (n, ·) := fun n h => by
      have : (n == p) = false := by simp; rintro rfl; exact hn'.1 h
      rw [this]
    exact (fm_congr this).trans ih

theorem bind_plain {name : Str} {params : Arguments} {body : List Stmt} {scope : Scope} {pm cd doc : Value} (h1 : params.posonlyargs = []) (h2 : params.vararg = none) (h3 : params.kwonlyargs = []) (h4 : params.kwarg = none)
    (hn : (params.args.map (·.arg)).Nodup) {xs : List Value} (hl : xs.length = (params.args.map (·.arg)).length) : bindArgs (docDef name params body scope pm cd doc) ⟨xs, []⟩ = pure ((params.args.map (·.arg)).zip xs) := by
  unfold bindArgs
  have hm : ((params.args.map (·.arg)).take ((params.args.map (·.arg)).length)).filter (fun n => (((params.args.map (·.arg)).zip xs).lookup n).isNone) = [] := by
    rw [List.take_length]
    refine List.filter_eq_nil_iff.mpr fun n hn' => ?_
    have := zip_lookup hl.symm hn'
    simp only [Option.isNone_iff_eq_none]
    intro e; rw [e] at this; cases this
  have hz := zip_filterMap hl.symm hn
  generalize hps : params.args.map (·.arg) = ps at *
  have hs : seqItems? Value.none = pure none := rfl
  simp only [docDef, h1, h2, h3, h4, List.map_nil, List.nil_append, List.append_nil, List.forIn_nil, pure_bind, hps, hs, Option.getD_none, List.drop_nil, List.length_nil, Nat.sub_zero, List.zip_nil_right, hm, hz]
  have hgt : ¬ (xs.length > ps.length) := by omega
  simp only [hgt, decide_false, Bool.false_and, Bool.false_eq_true, if_false, List.isEmpty_nil, Bool.not_true]

noncomputable def psOf (d : DefRec) : List Str := d.params.args.map (·.arg)
noncomputable def othersOf (d : DefRec) : List Str := (d.scope.names.filter fun p => (decide (p.2 = .local) || decide (p.2 = .cell)) && !(psOf d).contains p.1).map (·.1)
noncomputable def tbOf (gl : List (Str × Gl)) (mu : List (Nat × Nat)) (fz : List (Nat × List Nat)) (d : DefRec) : Tb :=
  { gl, meths := [], names := d.scope.names, tab := (psOf d ++ othersOf d).zipIdx, n := (psOf d).length + (othersOf d).length, mu, fz }
noncomputable def okRec (d : DefRec) : Bool :=
  d.params.posonlyargs.isEmpty && d.params.vararg.isNone && d.params.kwonlyargs.isEmpty && d.params.kwarg.isNone && decide (psOf d).Nodup &&
  (psOf d).all (fun x => decide (d.scope.names.lookup x = some .local) || decide (d.scope.names.lookup x = some .cell)) &&
  decide (d.scope.names.map (·.1)).Nodup && d.scope.names.all (fun p => decide (p.2 ≠ .free)) && decide (d.scope.kind = .function) && !d.scope.isCoroutine && !d.scope.isGenerator
noncomputable def fnOf (gl : List (Str × Gl)) (mu : List (Nat × Nat)) (fz : List (Nat × List Nat)) (d : DefRec) : Option Fn :=
  if okRec d then (cSs 60 (tbOf gl mu fz d) d.body).map fun b => ⟨(psOf d).length, (othersOf d).length, b⟩ else none

theorem zipIdx_snd {α : Type} (l : List α) : l.zipIdx.map (·.2) = List.range l.length := by
  rw [List.zipIdx_eq_zip_range', List.map_snd_zip (by simp)]
  rw [List.range_eq_range']
theorem zipIdx_at {l : List Str} {x : Str} {i : Nat} (h : l.zipIdx.lookup x = some i) : l[i]? = some x := by
  have := mem_of_lookup h
  have h2 := List.mem_zipIdx_iff_getElem?.mp this
  simpa using h2

theorem fok_of {c : Cx} {gl : List (Str × Gl)} {mu : List (Nat × Nat)} {fz : List (Nat × List Nat)} {d : DefRec} {f : Nat} {fn : Fn} {pm cd doc : Value} (h : fnOf gl mu fz d = some fn) (hd : c.fdat f = docDef d.name d.params d.body d.scope pm cd doc)
    (hc : c.base.CodeRec cd d.name) : Nonempty (FOk c gl f fn) := by
  unfold fnOf at h
  split at h
  · rename_i hok
    obtain ⟨b, hb, rfl⟩ := Option.map_eq_some_iff.mp h
    simp only [okRec, Bool.and_eq_true, decide_eq_true_eq, List.isEmpty_iff, Option.isNone_iff_eq_none, List.all_eq_true, Bool.or_eq_true, Bool.not_eq_true'] at hok
    obtain ⟨⟨⟨⟨⟨⟨⟨⟨⟨⟨h1, h2⟩, h3⟩, h4⟩, h5⟩, h6⟩, h7⟩, h8⟩, h9⟩, h10⟩, h11⟩ := hok
    refine ⟨⟨d.name, d.params, d.body, d.scope, pm, cd, doc, psOf d, tbOf gl mu fz d, 60, hd, hc, rfl, rfl, rfl, hb,
      fun xs hl => bind_plain h1 h2 h3 h4 h5 hl, rfl, h5, h6, ?_, fun x i hx hi => ?_, h7, h8, h9, h10, h11⟩⟩
    · show ((psOf d ++ othersOf d).zipIdx.map (·.2)).Nodup
      rw [zipIdx_snd]
      exact List.nodup_range
    · have := zipIdx_at (l := psOf d ++ othersOf d) hx
      rw [List.getElem?_append_left hi] at this
      exact this
  · cases h

noncomputable def progOf (recs : List DefRec) (gl : List (Str × Gl)) (mu : List (Nat × Nat)) (fz : List (Nat × List Nat)) : Prog :=
  { fns := fun f => (recs[f]?).bind (fnOf gl mu fz), sub := fun _ _ => false }

/-- what a global name is at the top -/
noncomputable def glBi (x : String) (g : Gl) : Prop := match g with
  | .bi b => bootBuiltins (Str.ofString x) = some (.builtin b)
  | .ty b => bootBuiltins (Str.ofString x) = some (.type b)
  | _ => False

/-- a name of the top that is bound to a def of it -/
noncomputable def glOfRecs (recs : List DefRec) : List (Str × Gl) := recs.zipIdx.map fun p => (p.1.name, .fn p.2)

noncomputable def bootOk (x : Str) : Gl → Bool
  | .bi b => (bootBuiltins x).any fun v => match v with | .builtin b' => b == b' | _ => false
  | .ty b => (bootBuiltins x).any fun v => match v with | .type b' => b == b' | _ => false
  | _ => false

/-- a name that the top binds to a number or a text -/
noncomputable def cstOk (p : Program) (x : Str) : V → Bool
  | .int i => (match valOf p x with | some (.int j) => decide (i = j) | _ => false)
  | .str t => (match valOf p x with | some (.str u) => decide (u = toS t) && decide (t.length ≤ 1000) | _ => false)
  | _ => false
theorem cst_ok {p : Program} {loose : List Str} {mean : ExcName → Option Value} {mg mb : Str → Option Value} {h : HP} (T : Top p loose mean mg mb h) {c : Cx} {x : Str} {v : V} (e : cstOk p x v = true) : ∃ y, mg x = some y ∧ ∀ as X h, VR c as X h v y := by
  unfold cstOk at e
  split at e
  · split at e
    · rename_i i _ j hj
      obtain ⟨y, h1, h2⟩ := T.const x _ hj
      have := of_decide_eq_true e
      subst this
      cases h2 h with
      | int _ t => exact ⟨_, h1, fun _ _ _ => .int _ _⟩
    · cases e
  · split at e
    · rename_i t _ u hj
      obtain ⟨y, h1, h2⟩ := T.const x _ hj
      simp only [Bool.and_eq_true, decide_eq_true_eq] at e
      obtain ⟨rfl, e2⟩ := e
      have hb : (1000 : Nat) ≤ bnd := by decide
      cases h2 h with
      | str _ t => exact ⟨_, h1, fun _ _ _ => .str _ _ (by omega)⟩
    · cases e
  · cases e

structure TopOk (p : Program) (loose : List Str) (csts : List (Str × V)) (bis : List (Str × Gl)) : Prop where
  csts : csts.all (fun q => cstOk p q.1 q.2) = true
  names : ((recsOf p).map (·.name)).Nodup
  boot : bis.all (fun q => bootOk q.1 q.2) = true
  free : bis.all (fun q => decide (q.1 ≠ "__name__") && decide (q.1 ∉ startupNames) && decide (q.1 ∉ loose) && decide (q.1 ∉ (recsOf p).map (·.name)) && decide (q.1 ∉ (litsOf p).map (·.1)) && decide (q.1 ∉ (clssOf p loose).map (·.name))) = true

theorem lookup_append {α β : Type} [BEq α] {x : α} : ∀ {l m : List (α × β)} {v : β}, (l ++ m).lookup x = some v → l.lookup x = some v ∨ m.lookup x = some v
  | [], _, _, h => .inr h
  | (y, w) :: l, m, v, h => by
    rw [List.cons_append, List.lookup_cons] at h
    rw [List.lookup_cons]
    cases hx : x == y with
    | true => rw [hx] at h; exact .inl h
    | false => rw [hx] at h; exact lookup_append h

theorem ints_vrs {c : Cx} {as : Adr} {X : List Addr} {h : HP} : ∀ {vs : List Value} {zs : List Int}, IntsAre vs zs → VRs c as X h (zs.map V.int) vs := by
  intro vs zs x
  induction x with
  | nil => exact .nil
  | cons n t _ ih => exact .cons (.int n t) ih

noncomputable def glC (csts : List (Str × V)) : List (Str × Gl) := csts.map fun q => (q.1, .cst q.2)
noncomputable def glAll (recs : List DefRec) (csts : List (Str × V)) (bis : List (Str × Gl)) : List (Str × Gl) := glOfRecs recs ++ (glC csts ++ bis)
theorem top_law {p prog : Program} {w : World} {loose : List Str} {mean : ExcName → Option Value} {mg mb : Str → Option Value} {s : Shared} {bis : List (Str × Gl)} {csts : List (Str × V)} {mu : List (Nat × Nat)} {fz : List (Nat × List Nat)} {l : Addr} {items : Array Value} {zs : List Int} {d : DefRec} {f n : Nat} {fa : Addr}
    {Q E : Value → Shared → Prop}
    (T : Top p loose mean mg mb s.heap) (ok : TopOk p loose csts bis) (hg : s.gens = #[]) (hd : (recsOf p)[f]? = some d) (hfa : mg d.name = some (.ref fa)) (hfn : ∃ fn, fnOf (glAll (recsOf p) csts bis) mu fz d = some fn)
    (hall : ∀ d ∈ recsOf p, ∃ fn, fnOf (glAll (recsOf p) csts bis) mu fz d = some fn)
    (hl : s.heap.PlainList l items) (hi : IntsAre items.toList zs) (hlen : zs.length ≤ 63) (hn : n ≤ 300)
    (hlaw : callF (progOf (recsOf p) (glAll (recsOf p) csts bis) mu fz) n f [.lst (zs.map V.int)] [] (fun v _ => v = .bool true) (fun _ _ => False))
    (hR : ∀ s', (∀ b o, s.heap.get? b = some o → s'.heap.get? b = some o) → s'.os = s.os → s'.gens = #[] → Q (.bool true) s') :
    wpAny (model prog w) callerA (call (.ref fa) [.ref l]) Q E s := by
  have pick : ∀ g : Nat, ∃ q : Addr × FuncData, ∀ d, (recsOf p)[g]? = some d → mg d.name = some (.ref q.1) ∧ ∃ o pm code doc, s.heap.get? q.1 = some o ∧ o.data = .func q.2 ∧ q.2 = docDef d.name d.params d.body d.scope pm code doc ∧ s.heap.CodeRec code d.name := fun g => by
    cases hq : (recsOf p)[g]? with
    | none => exact ⟨(0, default), fun d e => by cases e⟩
    | some d =>
      obtain ⟨a, o, pm, code, doc, h1, h2, h3, h4⟩ := T.fn d (List.mem_of_getElem? hq)
      exact ⟨(a, _), fun d' e => by cases e; exact ⟨h1, o, pm, code, doc, h2, h3, rfl, h4⟩⟩
  obtain ⟨F, hF⟩ := Classical.axiomOfChoice pick
  let c : Cx := { prog := prog, w := w, base := s.heap, mg := mg, mb := mb, P := progOf (recsOf p) (glAll (recsOf p) csts bis) mu fz, os := s.os, fad := fun g => (F g).1, fdat := fun g => (F g).2, xcls := fun _ => 0, ccls := fun _ => 0 }
  have fns : ∀ g fn, c.P.fns g = some fn → ∃ d, (recsOf p)[g]? = some d ∧ fnOf (glAll (recsOf p) csts bis) mu fz d = some fn := fun g fn h => Option.bind_eq_some_iff.mp h
  have hrecs : ∀ x g, (glOfRecs (recsOf p)).lookup x = some g → ∃ i d, g = .fn i ∧ (recsOf p)[i]? = some d ∧ d.name = x := fun x g h => by
    have := mem_of_lookup h
    obtain ⟨q, hq, e⟩ := List.mem_map.mp this
    have h2 := List.mem_zipIdx_iff_getElem?.mp hq
    cases e
    exact ⟨q.2, q.1, rfl, by simpa using h2, rfl⟩
  have hbis : ∀ x g, bis.lookup x = some g → bootOk x g = true ∧ mg x = none ∧ mb x = bootBuiltins x := fun x g h => by
    have hm := mem_of_lookup h
    have h1 := List.all_eq_true.mp ok.boot _ hm
    have h2 := List.all_eq_true.mp ok.free _ hm
    simp only [Bool.and_eq_true, decide_eq_true_eq] at h2
    exact ⟨h1, T.free x h2.1.1.1.1.2 h2.1.1.1.2 h2.1.1.2 h2.1.2 h2.2, T.builtins x h2.1.1.1.1.1⟩
  have hcst : ∀ x g, (glC csts).lookup x = some g → ∃ v, cstOk p x v = true ∧ g = .cst v := fun x g h => by
    obtain ⟨q, hq, e⟩ := List.mem_map.mp (mem_of_lookup h)
    cases e
    exact ⟨q.2, List.all_eq_true.mp ok.csts _ hq, rfl⟩
  have hf : ∀ x g, (glAll (recsOf p) csts bis).lookup x = some (.fn g) → ∃ fn, c.P.fns g = some fn := fun x g h => by
    rcases lookup_append h with h | h
    · obtain ⟨i, d, e, hd, _⟩ := hrecs x _ h
      cases e
      obtain ⟨fn, hfn⟩ := hall d (List.mem_of_getElem? hd)
      exact ⟨fn, by show ((recsOf p)[g]?).bind _ = _; rw [hd]; exact hfn⟩
    rcases lookup_append h with h | h
    · obtain ⟨_, _, e⟩ := hcst x _ h
      cases e
    · exact absurd (hbis x _ h).1 (by simp [bootOk])
  have C : Cok c (glAll (recsOf p) csts bis) := by
    refine ⟨T.g, T.b, T.nolimit, fun x g h => ?_, fun g fn h => ?_⟩
    · rcases lookup_append h with h | h
      · obtain ⟨i, d, rfl, hd, rfl⟩ := hrecs x _ h
        exact (hF i d hd).1
      rcases lookup_append h with h | h
      · obtain ⟨v, h1, rfl⟩ := hcst x _ h
        exact cst_ok T h1
      · obtain ⟨h1, h2, h3⟩ := hbis x g h
        cases g with
        | bi b =>
          refine ⟨h2, ?_⟩
          show mb x = _
          rw [h3]
          simp only [bootOk, Option.any_eq_true] at h1
          obtain ⟨v, e1, e2⟩ := h1
          rw [e1]
          split at e2
          · simp at e2; rw [e2]
          · cases e2
        | ty b =>
          refine ⟨h2, ?_⟩
          show mb x = _
          rw [h3]
          simp only [bootOk, Option.any_eq_true] at h1
          obtain ⟨v, e1, e2⟩ := h1
          rw [e1]
          split at e2
          · simp at e2; rw [e2]
          · cases e2
        | _ => cases h1
    · obtain ⟨d, hd, _⟩ := fns g fn h
      obtain ⟨_, o, pm, code, doc, e1, e2, _, _⟩ := hF g d hd
      exact ⟨o, e1, e2⟩
  have sc := sc_all C hf (fun g fn h => by
    obtain ⟨d, hd, hfn⟩ := fns g fn h
    obtain ⟨_, o, pm, code, doc, e1, e2, e3, e4⟩ := hF g d hd
    exact fok_of hfn e3 e4) n
  obtain ⟨fn, hfn⟩ := hfn
  have hfs : c.P.fns f = some fn := by show ((recsOf p)[f]?).bind _ = _; rw [hd]; exact hfn
  have hfa' : c.fad f = fa := by
    have := (hF f d hd).1
    rw [hfa] at this
    cases this; rfl
  have S : SR c [] [] [] s := ⟨rfl, fun _ _ e => e, hg, rfl, by simp, by simp, by simp, by simp⟩
  have hv : ∀ {vs : List Value} {zs : List Int}, IntsAre vs zs → VRs c [] [] s.heap (zs.map V.int) vs := fun {vs zs} h => ints_vrs h
  have hbl : (zs.map V.int).length ≤ bnd := by
    rw [List.length_map]
    have : (63 : Nat) ≤ bnd := by decide
    omega
  have h1 : recursionLimit = 1000 := rfl
  have h2 : claimMargin ≤ 300 := by decide
  have aok : AOk callerA n := ⟨rfl, (by simp only [callerA]; omega), (by simp only [callerA, cLine]; omega)⟩
  have run := sc.run hfs aok S (.cons (.lst (by simp) (by simp) hl (hv hi) hbl) .nil) hlaw
  rw [hfa'] at run
  refine wpAny_mono run (fun y s' r => ?_) fun _ _ e => e.elim
  obtain ⟨v, H', as', e, S', k, hv, rfl⟩ := r
  cases hv
  exact hR s' S'.stays S'.os S'.gens
noncomputable def progL (fns : List Fn) : Prog := { fns := fun i => fns[i]?, sub := fun _ _ => false }
theorem top_law2 {p prog : Program} {w : World} {loose : List Str} {mean : ExcName → Option Value} {mg mb : Str → Option Value} {s : Shared} {bis : List (Str × Gl)} {csts : List (Str × V)} {mu : List (Nat × Nat)} {fz : List (Nat × List Nat)} {l : Addr} {items : Array Value} {zs : List Int} {nm : Str} {f n : Nat} {fa : Addr} {fns : List Fn}
    {Q E : Value → Shared → Prop}
    (T : Top p loose mean mg mb s.heap) (ok : TopOk p loose csts bis) (hg : s.gens = #[]) (hfns : (recsOf p).map (fnOf (glAll (recsOf p) csts bis) mu fz) = fns.map some) (hnm : ((recsOf p)[f]?).map (·.name) = some nm) (hfa : mg nm = some (.ref fa))
    (hl : s.heap.PlainList l items) (hi : IntsAre items.toList zs) (hlen : zs.length ≤ 63) (hn : n ≤ 300)
    (hlaw : callF (progL fns) n f [.lst (zs.map V.int)] [] (fun v _ => v = .bool true) (fun _ _ => False))
    (hR : ∀ s', (∀ b o, s.heap.get? b = some o → s'.heap.get? b = some o) → s'.os = s.os → s'.gens = #[] → Q (.bool true) s') :
    wpAny (model prog w) callerA (call (.ref fa) [.ref l]) Q E s := by
  have hP : progOf (recsOf p) (glAll (recsOf p) csts bis) mu fz = progL fns := by
    unfold progOf progL
    congr 1
    funext i
    have h := congrArg (·[i]?) hfns
    simp only [List.getElem?_map] at h
    cases h1 : (recsOf p)[i]? with
    | none =>
      rw [h1] at h
      cases h2 : fns[i]? with
      | none => rfl
      | some fn => rw [h2] at h; cases h
    | some d =>
      rw [h1] at h
      cases h2 : fns[i]? with
      | none => rw [h2] at h; cases h
      | some fn => rw [h2] at h; exact Option.some.inj h
  obtain ⟨d, hd, hdn⟩ := Option.map_eq_some_iff.mp hnm
  have hall : ∀ d ∈ recsOf p, ∃ fn, fnOf (glAll (recsOf p) csts bis) mu fz d = some fn := fun d hd => by
    have h := List.mem_map_of_mem (f := fnOf (glAll (recsOf p) csts bis) mu fz) hd
    rw [hfns] at h
    obtain ⟨fn, _, h⟩ := List.mem_map.mp h
    exact ⟨fn, h.symm⟩
  subst hdn
  exact top_law T ok hg hd hfa (hall d (List.mem_of_getElem? hd)) hall hl hi hlen hn (hP ▸ hlaw) hR
end Mine

end
noncomputable section
namespace Mine
open PySem

theorem compL_pure {F : V → AH → (Option V → AH → Prop) → Prop} {ok : AH → Prop} {H : AH} {g : V → Option V} (hok : ok H) : ∀ {items acc : List V} {Q : List V → AH → Prop},
    (∀ x ∈ items, ∀ K : Option V → AH → Prop, K (g x) H → F x H K) → Q (acc ++ items.filterMap g) H → compL F ok items acc H Q
  | [], acc, Q, _, q => ⟨hok, by simpa using q⟩
  | x :: xs, acc, Q, hF, q => by
    refine ⟨hok, hF x (.head _) _ (compL_pure hok (fun y hy => hF y (.tail _ hy)) ?_)⟩
    cases hg : g x with
    | none => simpa [List.filterMap_cons, hg] using q
    | some y => simpa [List.filterMap_cons, hg] using q
theorem forL_inv {F : V → Fm → AH → KS → Prop} {ok : AH → Prop} {K : KS} (Inv : List V → Fm → AH → Prop) (step : ∀ v vs ρ H, Inv (v :: vs) ρ H → ok H ∧ ∀ K' : KS, (∀ ρ' H', Inv vs ρ' H' → K' ρ' H') → F v ρ H K') (fin : ∀ ρ H, Inv [] ρ H → ok H ∧ K ρ H) :
    ∀ {items : List V} {ρ : Fm} {H : AH}, Inv items ρ H → forL F ok items ρ H K
  | [], ρ, H, i => fin ρ H i
  | v :: vs, ρ, H, i => ⟨(step v vs ρ H i).1, (step v vs ρ H i).2 _ fun _ _ i' => forL_inv Inv step fin i'⟩

theorem ret_same {H H' : AH} {Q : QE} {v : V} (q : Q v H') : Ret H Q v H' := .inl q
theorem ret_drop {H H' : AH} {Q : QE} {v : V} (hp : H <+: H') (hu : v.under H.length = true) (q : Q v H) : Ret H Q v H' := .inr ⟨v, .refl v, hp, hu, q⟩
theorem unders_int (n : Nat) (zs : List Int) : V.unders n (zs.map V.int) = true := by
  induction zs with
  | nil => rfl
  | cons z zs ih => show (V.under n (.int z) && V.unders n _) = true; rw [ih]; rfl
theorem fzs_refl {n : Nat} {H : AH} : ∀ (vs : List V), Fzs n H vs vs
  | [] => .nil
  | v :: vs => .cons (.refl v) (fzs_refl vs)
theorem datas_int (zs : List Int) : V.datas (zs.map V.int) = true := by
  induction zs with
  | nil => rfl
  | cons z zs ih => show (V.data (.int z) && V.datas _) = true; rw [ih]; rfl
theorem depths_int (zs : List Int) : V.depths (zs.map V.int) = 0 := by
  induction zs with
  | nil => rfl
  | cons z zs ih => show max (V.depth (.int z)) (V.depths _) = 0; rw [ih]; rfl
theorem eqVs_int : ∀ (xs ys : List Int), eqVs (xs.map V.int) (ys.map V.int) = decide (xs = ys)
  | [], [] => rfl
  | [], _ :: _ => rfl
  | _ :: _, [] => rfl
  | x :: xs, y :: ys => by
    show (eqV (.int x) (.int y) && eqVs _ _) = _
    rw [eqVs_int xs ys]
    show ((x == y) && _) = _
    by_cases h : x = y <;> by_cases h' : xs = ys <;> simp [h, h']

section
variable {P : Prog} {H : AH} {Q : QE} {a b : Int}
theorem pm_add : primM P false (.bop .add) [.int a, .int b] H = some (.int (a + b), H) := rfl
theorem pm_sub : primM P false (.bop .sub) [.int a, .int b] H = some (.int (a - b), H) := rfl
theorem pm_mul (ha : -10 ^ 12 ≤ a ∧ a ≤ 10 ^ 12) (hb : -10 ^ 12 ≤ b ∧ b ≤ 10 ^ 12) : primM P false (.bop .mul) [.int a, .int b] H = some (.int (a * b), H) := by
  show (int2 mulI (.int a) (.int b)).map _ = _
  have h1 : smallInt a = true := by simpa [smallInt] using ha
  have h2 : smallInt b = true := by simpa [smallInt] using hb
  simp only [int2, mulI, h1, h2, Bool.and_self, if_true, Option.map_some]
theorem pm_mod (hb : 0 < b) : primM P false (.bop .mod) [.int a, .int b] H = some (.int (a % b), H) := by
  show (binop .mod (.int a) (.int b) H).map _ = _
  simp only [binop, int2, modI, hb, if_true, Option.map_some]
theorem pm_fdiv (hb : 0 < b) (hb' : b ≤ 10 ^ 12) : primM P false (.bop .fdiv) [.int a, .int b] H = some (.int (a / b), H) := by
  show (binop .fdiv (.int a) (.int b) H).map _ = _
  simp only [binop, int2, divI, hb, hb', and_self, if_true, Option.map_some]
theorem pm_pow9 : primM P false (.bop .pow) [.int 10, .int 9] H = some (.int 1000000000, H) := rfl
theorem pm_adds {x y : List Char} (h : x.length + y.length ≤ sizeOf') : primM P false (.bop .add) [.str x, .str y] H = some (.str (x ++ y), H) := by
  show (binop .add (.str x) (.str y) H).map _ = _
  simp only [binop, addV, h, if_true, Option.map_some]
theorem pm_lt : primM P false (.cop .lt) [.int a, .int b] H = some (.bool (decide (a < b)), H) := rfl
theorem pm_le : primM P false (.cop .le) [.int a, .int b] H = some (.bool (decide (a ≤ b)), H) := rfl
theorem pm_gt : primM P false (.cop .gt) [.int a, .int b] H = some (.bool (decide (b < a)), H) := rfl
theorem pm_ge : primM P false (.cop .ge) [.int a, .int b] H = some (.bool (decide (b ≤ a)), H) := rfl
theorem pm_eq {x y x' y' : V} (h1 : rd H x = some x') (h2 : rd H y = some y') : primM P false (.cop .eq) [x, y] H = some (.bool (eqV x' y'), H) := by
  show (eqO H x y).map _ = _
  simp only [eqO, h1, h2, Option.map_some, Option.bind_some]
theorem pm_ne {x y x' y' : V} (h1 : rd H x = some x') (h2 : rd H y = some y') : primM P false (.cop .ne) [x, y] H = some (.bool (!eqV x' y'), H) := by
  show ((eqO H x y).map _).map _ = _
  simp only [eqO, h1, h2, Option.map_some, Option.bind_some]
theorem rd_int : rd H (.int a) = some (.int a) := rfl
theorem rd_str {s : List Char} : rd H (.str s) = some (.str s) := rfl
theorem eqV_int : eqV (.int a) (.int b) = (a == b) := rfl
theorem eqV_str {x y : List Char} : eqV (.str x) (.str y) = (x == y) := rfl
theorem pm_not {t : Bool} : primM P false .not [.bool t] H = some (.bool !t, H) := rfl
theorem pm_not_t : primM P false .not [.bool true] H = some (.bool false, H) := rfl
theorem pm_not_f : primM P false .not [.bool false] H = some (.bool true, H) := rfl
theorem pi_int_int : primM P false (.isinst .int) [.int a] H = some (.bool true, H) := rfl
theorem pi_int_bool : primM P false (.isinst .bool) [.int a] H = some (.bool false, H) := rfl
theorem pi_int_str : primM P false (.isinst .str) [.int a] H = some (.bool false, H) := rfl
theorem pi_int_tuple : primM P false (.isinst .tuple) [.int a] H = some (.bool false, H) := rfl
theorem pi_bool_int {x : Bool} : primM P false (.isinst .int) [.bool x] H = some (.bool true, H) := rfl
theorem pi_bool_bool {x : Bool} : primM P false (.isinst .bool) [.bool x] H = some (.bool true, H) := rfl
theorem pi_bool_str {x : Bool} : primM P false (.isinst .str) [.bool x] H = some (.bool false, H) := rfl
theorem pi_bool_tuple {x : Bool} : primM P false (.isinst .tuple) [.bool x] H = some (.bool false, H) := rfl
theorem pi_str_int {x : List Char} : primM P false (.isinst .int) [.str x] H = some (.bool false, H) := rfl
theorem pi_str_str {x : List Char} : primM P false (.isinst .str) [.str x] H = some (.bool true, H) := rfl
theorem pi_str_tuple {x : List Char} : primM P false (.isinst .tuple) [.str x] H = some (.bool false, H) := rfl
theorem pi_lst_str {x : List V} : primM P false (.isinst .str) [.lst x] H = some (.bool false, H) := rfl
theorem pi_lst_list {x : List V} : primM P false (.isinst .list) [.lst x] H = some (.bool true, H) := rfl
theorem pi_lst_tuple {x : List V} : primM P false (.isinst .tuple) [.lst x] H = some (.bool false, H) := rfl
theorem pi_tup_str {x : List V} : primM P false (.isinst .str) [.tup x] H = some (.bool false, H) := rfl
theorem pi_tup_tuple {x : List V} : primM P false (.isinst .tuple) [.tup x] H = some (.bool true, H) := rfl
theorem pi_none_int : primM P false (.isinst .int) [.none] H = some (.bool false, H) := rfl
theorem pi_none_str : primM P false (.isinst .str) [.none] H = some (.bool false, H) := rfl
theorem pi_none_tuple : primM P false (.isinst .tuple) [.none] H = some (.bool false, H) := rfl
theorem pm_neg : primM P false .neg [.int a] H = some (.int (-a), H) := rfl
theorem pm_lenl {xs : List V} : primM P false .len [.lst xs] H = some (.int xs.length, H) := rfl
theorem pm_lens {xs : List Char} : primM P false .len [.str xs] H = some (.int xs.length, H) := rfl
theorem pm_lent {xs : List V} : primM P false .len [.tup xs] H = some (.int xs.length, H) := rfl
theorem pm_range1 (h : -10 ^ 12 ≤ b ∧ b ≤ 10 ^ 12) : primM P false .range1 [.int b] H = some (.rng 0 b, H) := by
  have h1 : smallInt b = true := by simpa [smallInt] using h
  show pRange1 [.int b] H = _
  simp only [pRange1, h1, if_true]
theorem pM_listl {xs : List V} (h : xs.length ≤ sizeOf') : primM P true .list [.lst xs] H = some (.ref H.length, H ++ [.list xs]) := by
  show (pList [.lst xs] H).bind _ = _
  simp only [pList, view, h, if_true, Option.bind_some, thaw]
theorem pm_mkl {vs : List V} (h : vs.length ≤ sizeOf') : primM P false .mklist vs H = some (.lst vs, H) := by
  show pMklist vs H = _
  simp only [pMklist, h, if_true]
theorem pM_mkl {vs : List V} (h : vs.length ≤ sizeOf') : primM P true .mklist vs H = some (.ref H.length, H ++ [.list vs]) := by
  show (pMklist vs H).bind _ = _
  simp only [pMklist, h, if_true, Option.bind_some, thaw]
theorem pm_mkt {vs : List V} (h : vs.length ≤ sizeOf') : primM P false .mktup vs H = some (.tup vs, H) := by
  show pMktup vs H = _
  simp only [pMktup, h, if_true]
theorem pm_append {i : Nat} {vs : List V} {x : V} (h : H[i]? = some (.list vs)) (hl : vs.length ≤ sizeOf') : primM P false .append [.ref i, x] H = some (.none, H.set i (.list (vs ++ [x]))) := by
  show pAppend [.ref i, x] H = _
  simp only [pAppend, h, hl, if_true]
theorem ty_list {i : Nat} {vs : List V} (h : H[i]? = some (.list vs)) : hasTy H (.ref i) .list = true := by simp only [hasTy, h]
theorem hE {p : Option (V × AH)} {v : V} {H' : AH} (e : p = some (v, H')) (q : Q v H') : okE p Q := by rw [e]; exact q
theorem hB {t : Bool} {K : Bool → Prop} (q : K t) : okB (truth (.bool t)) K := q
theorem sz (n : Nat) (h : n ≤ 1000) : n ≤ sizeOf' := Nat.le_trans h (by decide)
end

/-- the ints that pass a test -/
noncomputable def keepInt (p : Int → Bool) : V → Option V
  | .int z => if p z then some (.int z) else none
  | _ => none
section
variable {P : Prog} {C : Calls} {ρ : Fm} {H : AH} {K : KS} {R : QE} {X : XE} {ss : List St}
theorem st_asg {i : Nat} {e : Ex} (h : wpE P C e ρ H (fun v H' => i < ρ.length ∧ wpSs P C ss (ρ.set i (some v)) H' K R X) X) : wpSs P C (.asg i e :: ss) ρ H K R X := h
theorem st_expr {e : Ex} (h : wpE P C e ρ H (fun _ H' => wpSs P C ss ρ H' K R X) X) : wpSs P C (.expr e :: ss) ρ H K R X := h
theorem st_ite {c : Ex} {a b : List St} (h : wpE P C c ρ H (fun v H' => okB (truth v) fun t => if t then wpSs P C a ρ H' (fun ρ' H' => wpSs P C ss ρ' H' K R X) R X else wpSs P C b ρ H' (fun ρ' H' => wpSs P C ss ρ' H' K R X) R X) X) : wpSs P C (.ite c a b :: ss) ρ H K R X := h
theorem st_ret {e : Ex} (h : wpE P C e ρ H R X) : wpSs P C (.ret e :: ss) ρ H K R X := h
theorem st_nil (h : K ρ H) : wpSs P C [] ρ H K R X := h
theorem st_for {rev : Bool} {tgt : Nat ⊕ List Nat} {e : Ex} {body : List St} (h : wpE P C e ρ H (fun v H₁ => ∃ items, src H₁ v = some items ∧ items.length ≤ sizeOf' ∧
      forL (fun x ρ' H' K' => match setTgt ρ' tgt x with | some ρ'' => wpSs P C body ρ'' H' K' R X | none => False)
        (fun H' => src H' v = some items) (if rev then items.reverse else items) ρ H₁ (fun ρ' H' => wpSs P C ss ρ' H' K R X)) X) : wpSs P C (.forIn rev tgt e body :: ss) ρ H K R X := h
/-- a test that is known -/
theorem it_t {p q : Prop} (h : p) : if true = true then p else q := by simpa using h
theorem it_f {p q : Prop} (h : q) : if false = true then p else q := by simpa using h
end
end Mine

end
noncomputable section
namespace Mine
open PySem
section
variable {P : Prog} {H : AH} {Q : QE} {a b : Int}
theorem hc_le {K : Bool → Prop} (q : K (decide (a ≤ b))) : okB (cmpop .le (.int a) (.int b) H) K := q
theorem pm_intb {t : Bool} : primM P false .int [.bool t] H = some (.int (if t then 1 else 0), H) := rfl
theorem bools_map : ∀ bs : List Bool, bools? (bs.map V.bool) = some bs
  | [] => rfl
  | b :: bs => by show (bools? (bs.map V.bool)).map _ = _; rw [bools_map bs]; rfl
theorem pm_all {bs : List Bool} : primM P false .all [.lst (bs.map V.bool)] H = some (.bool (bs.all id), H) := by
  show ((view H (.lst (bs.map V.bool))).bind bools?).map _ = _
  simp only [view, Option.bind_some, bools_map, Option.map_some]
theorem pm_in {c : Char} {s : List Char} : primM P false (.cop .in_) [.str [c], .str s] H = some (.bool (s.contains c), H) := rfl
/-- one of a list's values -/
theorem pm_pick {xs : List V} {i : Int} (h0 : 0 ≤ i) (h1 : i < xs.length) : ∃ v, v ∈ xs ∧ primM P false .item [.lst xs, .int i] H = some (v, H) := by
  have h2 : i.toNat < xs.length := by omega
  refine ⟨xs[i.toNat], List.getElem_mem h2, ?_⟩
  show ((idx xs.length i).bind _).map _ = _
  simp only [Option.bind_some, idx, h0, h1, if_true, List.getElem?_eq_getElem h2, Option.map_some]
theorem pm_picks {s : List Char} {i : Int} (h0 : 0 ≤ i) (h1 : i < s.length) : ∃ c, c ∈ s ∧ primM P false .item [.str s, .int i] H = some (.str [c], H) := by
  have h2 : i.toNat < s.length := by omega
  refine ⟨s[i.toNat], List.getElem_mem h2, ?_⟩
  show ((idx s.length i).bind _).map _ = _
  simp only [Option.bind_some, idx, h0, h1, if_true, List.getElem?_eq_getElem h2, Option.map_some]
theorem pm_t0 {v : V} {vs : List V} : primM P false .item [.tup (v :: vs), .int 0] H = some (v, H) := by
  show ((idx (v :: vs).length 0).bind _).map _ = _
  have : (0 : Int) < ((v :: vs).length : Nat) := by simp only [List.length_cons]; omega
  simp only [idx, Int.le_refl, this, if_true, Option.bind_some, Int.toNat_zero, List.getElem?_cons_zero, Option.map_some]
theorem pm_t1 {u v : V} {vs : List V} : primM P false .item [.tup (u :: v :: vs), .int 1] H = some (v, H) := by
  show ((idx (u :: v :: vs).length 1).bind _).map _ = _
  have : (1 : Int) < ((u :: v :: vs).length : Nat) := by simp only [List.length_cons]; omega
  simp only [idx, this, if_true, Option.bind_some, show (0 : Int) ≤ 1 from by decide, show Int.toNat 1 = 1 from rfl, List.getElem?_cons_zero, List.getElem?_cons_succ, Option.map_some]
end
/-- a value with nothing inside -/
noncomputable def atom : V → Prop
  | .none | .bool _ | .int _ | .str _ => True
  | _ => False
noncomputable def good : V → Prop
  | .none | .bool _ | .int _ | .str _ | .lst _ | .dct _ _ => True
  | .tup vs => ∀ v ∈ vs, atom v
  | _ => False
theorem atoms1 {s : List Char} : ∀ v ∈ [V.str s], atom v := fun v hv => by
  cases hv with
  | head => trivial
  | tail _ h => cases h
theorem datas_atoms : ∀ {vs : List V}, (∀ v ∈ vs, atom v) → V.datas vs = true ∧ V.depths vs = 0
  | [], _ => ⟨rfl, rfl⟩
  | v :: vs, h => by
    obtain ⟨h1, h2⟩ := datas_atoms fun w hw => h w (.tail _ hw)
    have ha := h v (.head _)
    refine ⟨?_, ?_⟩
    · show (V.data v && V.datas vs) = true
      rw [h1]
      cases v <;> first | exact ha.elim | rfl
    · show max (V.depth v) (V.depths vs) = 0
      rw [h2]
      cases v <;> first | exact ha.elim | rfl
theorem rd_lst {vs : List V} {H : AH} (h : ∀ v ∈ vs, atom v) : rd H (.lst vs) = some (.lst vs) := by
  obtain ⟨h1, h2⟩ := datas_atoms h
  simp only [rd, V.data, V.depth, h1, h2, Bool.true_and, Nat.zero_add, show decide ((1 : Nat) ≤ 50) = true from rfl, if_true]
end Mine

end
noncomputable section
namespace Mine
open PySem
section
variable {P : Prog} {H : AH} {Q : QE} {a b : Int}
theorem pm_t2 {u v x : V} {vs : List V} : primM P false .item [.tup (u :: v :: x :: vs), .int 2] H = some (x, H) := by
  show ((idx (u :: v :: x :: vs).length 2).bind _).map _ = _
  have : (2 : Int) < ((u :: v :: x :: vs).length : Nat) := by simp only [List.length_cons]; omega
  simp only [idx, this, if_true, Option.bind_some, show (0 : Int) ≤ 2 from by decide, show Int.toNat 2 = 2 from rfl, List.getElem?_cons_zero, List.getElem?_cons_succ, Option.map_some]
theorem pm_t3 {u v x y : V} {vs : List V} : primM P false .item [.tup (u :: v :: x :: y :: vs), .int 3] H = some (y, H) := by
  show ((idx (u :: v :: x :: y :: vs).length 3).bind _).map _ = _
  have : (3 : Int) < ((u :: v :: x :: y :: vs).length : Nat) := by simp only [List.length_cons]; omega
  simp only [idx, this, if_true, Option.bind_some, show (0 : Int) ≤ 3 from by decide, show Int.toNat 3 = 3 from rfl, List.getElem?_cons_zero, List.getElem?_cons_succ, Option.map_some]
theorem pm_l0 {v : V} {vs : List V} : primM P false .item [.lst (v :: vs), .int 0] H = some (v, H) := by
  show ((idx (v :: vs).length 0).bind _).map _ = _
  have : (0 : Int) < ((v :: vs).length : Nat) := by simp only [List.length_cons]; omega
  simp only [idx, Int.le_refl, this, if_true, Option.bind_some, Int.toNat_zero, List.getElem?_cons_zero, Option.map_some]
theorem pm_l1 {u v : V} {vs : List V} : primM P false .item [.lst (u :: v :: vs), .int 1] H = some (v, H) := by
  show ((idx (u :: v :: vs).length 1).bind _).map _ = _
  have : (1 : Int) < ((u :: v :: vs).length : Nat) := by simp only [List.length_cons]; omega
  simp only [idx, this, if_true, Option.bind_some, show (0 : Int) ≤ 1 from by decide, show Int.toNat 1 = 1 from rfl, List.getElem?_cons_zero, List.getElem?_cons_succ, Option.map_some]
theorem pm_l2 {u v x : V} {vs : List V} : primM P false .item [.lst (u :: v :: x :: vs), .int 2] H = some (x, H) := by
  show ((idx (u :: v :: x :: vs).length 2).bind _).map _ = _
  have : (2 : Int) < ((u :: v :: x :: vs).length : Nat) := by simp only [List.length_cons]; omega
  simp only [idx, this, if_true, Option.bind_some, show (0 : Int) ≤ 2 from by decide, show Int.toNat 2 = 2 from rfl, List.getElem?_cons_zero, List.getElem?_cons_succ, Option.map_some]
theorem pm_s0 {c : Char} {s : List Char} : primM P false .item [.str (c :: s), .int 0] H = some (.str [c], H) := by
  show ((idx (c :: s).length 0).bind _).map _ = _
  have : (0 : Int) < ((c :: s).length : Nat) := by simp only [List.length_cons]; omega
  simp only [idx, Int.le_refl, this, if_true, Option.bind_some, Int.toNat_zero, List.getElem?_cons_zero, Option.map_some]
theorem pm_last {vs : List V} {v : V} : primM P false .item [.lst (vs ++ [v]), .int (-1)] H = some (v, H) := by
  show ((idx (vs ++ [v]).length (-1)).bind _).map _ = _
  have h1 : ¬ (0 : Int) ≤ -1 := by decide
  have h2 : (0 : Int) ≤ -1 + ((vs ++ [v]).length : Nat) := by rw [List.length_append, List.length_singleton]; omega
  have h3 : (-1 + ((vs ++ [v]).length : Int)).toNat = vs.length := by rw [List.length_append, List.length_singleton]; omega
  simp only [idx, h1, h2, if_true, if_false, Option.bind_some, h3, List.getElem?_concat_length, Option.map_some]
theorem pm_sl_s {s : List Char} (h : s.length ≤ sizeOf') : primM P false .slice [.str s, .none, .int b] H = some (.str (sliceL s 0 (clip s.length b)), H) := by
  show Option.map _ (if s.length ≤ sizeOf' then _ else _) = _
  rw [if_pos h]; rfl
theorem pm_sl_s' {s : List Char} (h : s.length ≤ sizeOf') : primM P false .slice [.str s, .int a, .none] H = some (.str (sliceL s (clip s.length a) s.length), H) := by
  show Option.map _ (if s.length ≤ sizeOf' then _ else _) = _
  rw [if_pos h]; rfl
theorem pm_sl_l {s : List V} (h : s.length ≤ sizeOf') : primM P false .slice [.lst s, .none, .int b] H = some (.lst (sliceL s 0 (clip s.length b)), H) := by
  show Option.map _ (if s.length ≤ sizeOf' then _ else _) = _
  rw [if_pos h]; rfl
theorem pm_sl_l' {s : List V} (h : s.length ≤ sizeOf') : primM P false .slice [.lst s, .int a, .none] H = some (.lst (sliceL s (clip s.length a) s.length), H) := by
  show Option.map _ (if s.length ≤ sizeOf' then _ else _) = _
  rw [if_pos h]; rfl
theorem pm_stri (h : -10 ^ 12 ≤ a ∧ a ≤ 10 ^ 12) : primM P false .str [.int a] H = some (.str (strOf a), H) := by
  have h1 : smallInt a = true := by simpa [smallInt] using h
  show pStr [.int a] H = _
  simp only [pStr, h1, if_true]
theorem pm_strs {s : List Char} : primM P false .str [.str s] H = some (.str s, H) := rfl
theorem pm_ints {s : List Char} {m : Nat} (h0 : s = strOf m) (h1 : Nat.ofDigitChars 10 s 0 = m) (h2 : m < 10 ^ 10) : primM P false .int [.str s] H = some (.int m, H) := by
  show (intOf s).map _ = _
  have h : s = strOf (Nat.ofDigitChars 10 s 0) ∧ Nat.ofDigitChars 10 s 0 < 10 ^ 10 := by rw [h1]; exact ⟨h0, h2⟩
  unfold intOf
  rw [if_pos h, h1]
  rfl
theorem strs_map : ∀ ss : List (List Char), strs? (ss.map V.str) = some ss
  | [] => rfl
  | s :: ss => by show (strs? (ss.map V.str)).map _ = _; rw [strs_map ss]; rfl
theorem pm_join {sep : List Char} {v : V} {ss : List (List Char)} (hv : view H v = some (ss.map V.str)) (h1 : (joinL sep ss).length ≤ sizeOf') (h2 : ss.length ≤ sizeOf') (h3 : sep.length ≤ 8 := by decide) : primM P false .join [.str sep, v] H = some (.str (joinL sep ss), H) := by
  show ((view H v).bind strs?).bind _ = _
  simp only [hv, Option.bind_some, strs_map, h1, h2, h3, and_self, if_true]
theorem pm_split {s : List Char} {c : Char} (h : s.length ≤ sizeOf') : primM P false .split [.str s, .str [c]] H = some (.lst ((splitC c s []).map V.str), H) := by
  show Option.map _ (if s.length ≤ sizeOf' then _ else _) = _
  rw [if_pos h]; rfl
theorem pi_ref_list {i : Nat} {vs : List V} (h : H[i]? = some (.list vs)) : primM P false (.isinst .list) [.ref i] H = some (.bool true, H) := by
  show (isinst P H (.ref i) .list).map _ = _
  simp only [isinst, h]; rfl
theorem pm_inT {x x' : V} {vs : List V} (h1 : rd H x = some x') (h2 : V.datas vs = true) (h3 : V.depths vs ≤ 50) : primM P false (.cop .in_) [x, .tup vs] H = some (.bool (vs.any fun y => eqV y x'), H) := by
  show (inV H x (.tup vs)).map _ = _
  simp only [inV, h1, h2, h3, decide_true, Bool.and_self, Option.map_some]
end
/-- a comprehension whose turns hand back one of many -/
theorem compL_rel {F : V → AH → (Option V → AH → Prop) → Prop} {ok : AH → Prop} {H : AH} {P : V → Prop} (hok : ok H) : ∀ {items acc : List V} {Q : List V → AH → Prop},
    (∀ x ∈ items, ∀ K : Option V → AH → Prop, (∀ y, P y → K (some y) H) → F x H K) → (∀ ys, ys.length = items.length → (∀ y ∈ ys, P y) → Q (acc ++ ys) H) → compL F ok items acc H Q
  | [], acc, Q, _, q => ⟨hok, by simpa using q [] rfl (by simp)⟩
  | x :: xs, acc, Q, hF, q => by
    refine ⟨hok, hF x (.head _) _ fun y hy => compL_rel hok (fun z hz => hF z (.tail _ hz)) fun ys hl hp => ?_⟩
    have := q (y :: ys) (by simp [hl]) (by
      intro z hz
      cases hz with
      | head => exact hy
      | tail _ h => exact hp z h)
    simpa using this

mutual
theorem eqV_self : ∀ v : V, v.data = true → eqV v v = true
  | .none, _ => rfl
  | .bool b, _ => beq_self_eq_true b
  | .int i, _ => beq_self_eq_true i
  | .str s, _ => beq_self_eq_true s
  | .tup vs, h => eqVs_self vs h
  | .lst vs, h => eqVs_self vs h
  | .dct _ _, h => nomatch h
  | .rng _ _, h => nomatch h
  | .ref _, h => nomatch h
  | .exc _, h => nomatch h
theorem eqVs_self : ∀ vs : List V, V.datas vs = true → eqVs vs vs = true
  | [], _ => rfl
  | v :: vs, h => by
    have h' : (V.data v && V.datas vs) = true := h
    rw [Bool.and_eq_true] at h'
    show (eqV v v && eqVs vs vs) = true
    rw [eqV_self v h'.1, eqVs_self vs h'.2]
    rfl
end
end Mine

end
noncomputable section
namespace Mine
open PySem
/-- is_name ['thing'] [] -/
noncomputable def fn0 : Fn := ⟨1, 0, [(.ite (.or (.prim false .not [(.prim false (.isinst .str) [(.var 0)])]) (.prim false .not [(.cmp2 (.cst (.int 1)) .le (.prim false .len [(.var 0)]) .le (.cst (.int 8)))])) [(.ret (.cst (.bool false)))] []),
  (.ret (.prim false .all [(.comp false (.prim false (.cop .in_) [(.var 1), (.cst (.str ['a', 'b', 'c', 'd', 'e', 'f', 'g', 'h', 'i', 'j', 'k', 'l', 'm', 'n', 'o', 'p', 'q', 'r', 's', 't', 'u', 'v', 'w', 'x', 'y', 'z']))]) (.var 0) none)]))]⟩
/-- words_of ['event'] ['words'] -/
noncomputable def fn1 : Fn := ⟨1, 1, [(.asg 1 (.prim true .mklist [(.prim false .item [(.var 0), (.cst (.int 0))]), (.prim false .item [(.var 0), (.cst (.int 1))])])),
  (.ite (.prim false (.cop .gt) [(.prim false .len [(.var 0)]), (.cst (.int 2))]) [(.expr (.mcall .list false .append (.var 1) [(.prim false .str [(.prim false .item [(.var 0), (.cst (.int 2))])])]))] []),
  (.ite (.prim false (.cop .gt) [(.prim false .len [(.var 0)]), (.cst (.int 3))]) [(.asg 1 (.prim false (.bop .add) [(.var 1), (.comp false (.prim false .str [(.var 2)]) (.prim false .item [(.var 0), (.cst (.int 3))]) none)]))] []),
  (.ret (.var 1))]⟩
/-- told ['events'] [] -/
noncomputable def fn2 : Fn := ⟨1, 0, [(.ret (.mcall .str false .join (.cst (.str [])) [(.comp false (.prim false (.bop .add) [(.mcall .str false .join (.cst (.str [' '])) [(.call 1 [(.var 1)])]), (.cst (.str ['\n']))]) (.var 0) none)]))]⟩
/-- number_in ['word'] ['number'] -/
noncomputable def fn3 : Fn := ⟨1, 1, [(.ite (.or (.prim false .not [(.cmp2 (.cst (.int 1)) .le (.prim false .len [(.var 0)]) .le (.cst (.int 10)))]) (.prim false .not [(.prim false .all [(.comp false (.prim false (.cop .in_) [(.var 2), (.cst (.str ['0', '1', '2', '3', '4', '5', '6', '7', '8', '9']))]) (.var 0) none)])])) [(.expr (.var 2))] []),
  (.ite (.and (.prim false (.cop .eq) [(.prim false .item [(.var 0), (.cst (.int 0))]), (.cst (.str ['0']))]) (.prim false (.cop .gt) [(.prim false .len [(.var 0)]), (.cst (.int 1))])) [(.expr (.var 2))] []),
  (.asg 1 (.prim false .int [(.var 0)])),
  (.ite (.prim false (.cop .gt) [(.var 1), (.cst (.int 1000000000))]) [(.expr (.var 2))] []),
  (.ret (.var 1))]⟩
/-- letter_number ['word'] ['number'] -/
noncomputable def fn4 : Fn := ⟨1, 1, [(.asg 1 (.call 3 [(.var 0)])),
  (.ite (.prim false (.cop .eq) [(.var 1), (.cst (.int 0))]) [(.expr (.var 2))] []),
  (.ret (.var 1))]⟩
/-- signed ['word'] ['number'] -/
noncomputable def fn5 : Fn := ⟨1, 1, [(.ite (.prim false (.cop .ne) [(.prim false .slice [(.var 0), (.cst .none), (.cst (.int 1))]), (.cst (.str ['-']))]) [(.ret (.call 3 [(.var 0)]))] []),
  (.asg 1 (.call 3 [(.prim false .slice [(.var 0), (.cst (.int 1)), (.cst .none)])])),
  (.ite (.prim false (.cop .eq) [(.var 1), (.cst (.int 0))]) [(.expr (.var 2))] []),
  (.ret (.prim false (.bop .sub) [(.cst (.int 0)), (.var 1)]))]⟩
/-- letter_of ['words'] [] -/
noncomputable def fn6 : Fn := ⟨1, 0, [(.ite (.or (.prim false (.cop .eq) [(.var 0), (.prim false .mklist [(.cst (.str ['f', 'a', 'u', 'l', 't']))])]) (.prim false (.cop .eq) [(.var 0), (.prim false .mklist [(.cst (.str ['l', 'e', 'a', 'v', 'e']))])])) [(.ret (.prim false .mktup [(.prim false .item [(.var 0), (.cst (.int 0))])]))] []),
  (.ite (.or (.prim false (.cop .ne) [(.prim false .len [(.var 0)]), (.cst (.int 2))]) (.prim false (.cop .ne) [(.prim false .item [(.var 0), (.cst (.int 0))]), (.cst (.str ['a', 'd', 'd']))])) [(.expr (.var 1))] []),
  (.ret (.prim false .mktup [(.cst (.str ['a', 'd', 'd'])), (.call 5 [(.prim false .item [(.var 0), (.cst (.int 1))])])]))]⟩
/-- event_of ['row'] ['words'] -/
noncomputable def fn7 : Fn := ⟨1, 1, [(.asg 1 (.mcall .str false .split (.var 0) [(.cst (.str [' ']))])),
  (.ite (.or (.prim false (.cop .lt) [(.prim false .len [(.var 1)]), (.cst (.int 2))]) (.prim false .not [(.call 0 [(.prim false .item [(.var 1), (.cst (.int 1))])])])) [(.expr (.var 2))] []),
  (.ite (.and (.prim false (.cop .in_) [(.prim false .item [(.var 1), (.cst (.int 0))]), (.prim false .mktup [(.cst (.str ['b', 'e', 'g', 'i', 'n', 's'])), (.cst (.str ['e', 'n', 'd', 's'])), (.cst (.str ['f', 'a', 'i', 'l', 's'])), (.cst (.str ['l', 'e', 'a', 'v', 'e', 's']))])]) (.prim false (.cop .eq) [(.prim false .len [(.var 1)]), (.cst (.int 2))])) [(.ret (.prim false .mktup [(.prim false .item [(.var 1), (.cst (.int 0))]), (.prim false .item [(.var 1), (.cst (.int 1))])]))] []),
  (.ite (.and (.prim false (.cop .in_) [(.prim false .item [(.var 1), (.cst (.int 0))]), (.prim false .mktup [(.cst (.str ['w', 'o', 'r', 'k', 's'])), (.cst (.str ['l', 'o', 's', 't']))])]) (.prim false (.cop .eq) [(.prim false .len [(.var 1)]), (.cst (.int 3))])) [(.ret (.prim false .mktup [(.prim false .item [(.var 1), (.cst (.int 0))]), (.prim false .item [(.var 1), (.cst (.int 1))]), (.call 4 [(.prim false .item [(.var 1), (.cst (.int 2))])])]))] []),
  (.ite (.and (.prim false (.cop .eq) [(.prim false .item [(.var 1), (.cst (.int 0))]), (.cst (.str ['s', 'e', 'n', 't']))]) (.prim false (.cop .gt) [(.prim false .len [(.var 1)]), (.cst (.int 3))])) [(.ret (.prim false .mktup [(.cst (.str ['s', 'e', 'n', 't'])), (.prim false .item [(.var 1), (.cst (.int 1))]), (.call 4 [(.prim false .item [(.var 1), (.cst (.int 2))])]), (.call 6 [(.prim false .slice [(.var 1), (.cst (.int 3)), (.cst .none)])])]))] []),
  (.expr (.var 2))]⟩
/-- read ['text'] ['rows'] -/
noncomputable def fn8 : Fn := ⟨1, 1, [(.ite (.prim false .not [(.prim false (.isinst .str) [(.var 0)])]) [(.expr (.var 2))] []),
  (.asg 1 (.mcall .str false .split (.var 0) [(.cst (.str ['\n']))])),
  (.ite (.prim false (.cop .ne) [(.prim false .item [(.var 1), (.prim false .neg [(.cst (.int 1))])]), (.cst (.str []))]) [(.expr (.var 2))] []),
  (.ret (.comp true (.call 7 [(.var 2)]) (.prim false .slice [(.var 1), (.cst .none), (.prim false .neg [(.cst (.int 1))])]) none))]⟩
/-- law_cell_at ['_law_script', '_law_k'] [] -/
noncomputable def fn9 : Fn := ⟨2, 0, [(.ite (.prim false (.cop .lt) [(.var 1), (.prim false .len [(.var 0)])]) [(.ret (.prim false .item [(.var 0), (.var 1)]))] []),
  (.ret (.cst (.int 0)))]⟩
/-- law_whole ['_law_found'] [] -/
noncomputable def fn10 : Fn := ⟨1, 0, [(.ret (.and (.prim false (.isinst .int) [(.var 0)]) (.prim false .not [(.prim false (.isinst .bool) [(.var 0)])])))]⟩
/-- law_names ['_law_cell', '_law_many'] ['_law_some', '_law_head', '_law_rest', '_law_k', '_law_way', '_law_left', '_law_right'] -/
noncomputable def fn11 : Fn := ⟨2, 7, [(.asg 2 (.cst (.str ['a', 'b', 'c', 'd', 'e', 'f', 'g', 'h', 'i', 'j', 'k', 'l', 'm', 'n', 'o', 'p', 'q', 'r', 's', 't', 'u', 'v', 'w', 'x', 'y', 'z']))),
  (.asg 3 (.cst (.str []))),
  (.asg 4 (.prim false (.bop .fdiv) [(.var 0), (.cst (.int 48))])),
  (.forIn false (.inl 5) (.prim false .range1 [(.cst (.int 8))]) [(.asg 3 (.prim false (.bop .add) [(.var 3), (.prim false .item [(.var 2), (.prim false (.bop .mod) [(.var 4), (.cst (.int 26))])])])),
  (.asg 4 (.prim false (.bop .fdiv) [(.var 4), (.cst (.int 26))]))]),
  (.asg 6 (.prim false (.bop .mod) [(.var 0), (.cst (.int 6))])),
  (.ite (.and (.prim false (.cop .eq) [(.var 6), (.cst (.int 0))]) (.prim false (.cop .lt) [(.var 1), (.cst (.int 9))])) [(.ret (.comp false (.prim false .slice [(.var 3), (.cst .none), (.prim false (.bop .add) [(.var 9), (.cst (.int 1))])]) (.prim false .range1 [(.var 1)]) none))] []),
  (.ite (.and (.prim false (.cop .eq) [(.var 6), (.cst (.int 1))]) (.prim false (.cop .lt) [(.var 1), (.cst (.int 9))])) [(.ret (.comp false (.prim false .slice [(.var 3), (.prim false (.bop .sub) [(.cst (.int 7)), (.var 9)]), (.cst .none)]) (.prim false .range1 [(.var 1)]) none))] []),
  (.asg 3 (.prim false .slice [(.var 3), (.cst .none), (.prim false (.bop .mod) [(.prim false (.bop .fdiv) [(.var 0), (.cst (.int 6))]), (.cst (.int 7))])])),
  (.ite (.and (.prim false (.cop .lt) [(.var 6), (.cst (.int 4))]) (.prim false (.cop .lt) [(.var 1), (.cst (.int 27))])) [(.asg 7 (.prim false .slice [(.var 3), (.cst .none), (.prim false (.bop .mod) [(.prim false (.bop .fdiv) [(.var 0), (.cst (.int 5))]), (.prim false (.bop .add) [(.prim false .len [(.var 3)]), (.cst (.int 1))])])])),
  (.asg 8 (.prim false .slice [(.var 3), (.prim false .len [(.var 7)]), (.cst .none)])),
  (.ret (.comp false (.prim false (.bop .add) [(.prim false (.bop .add) [(.var 7), (.prim false .item [(.var 2), (.prim false (.bop .mod) [(.prim false (.bop .add) [(.prim false (.bop .fdiv) [(.var 0), (.cst (.int 7))]), (.prim false (.bop .mul) [(.cst (.int 7)), (.var 9)])]), (.cst (.int 26))])])]), (.var 8)]) (.prim false .range1 [(.var 1)]) none))] []),
  (.ret (.comp false (.prim false (.bop .add) [(.prim false (.bop .add) [(.var 3), (.prim false .item [(.var 2), (.prim false (.bop .fdiv) [(.var 9), (.cst (.int 26))])])]), (.prim false .item [(.var 2), (.prim false (.bop .mod) [(.var 9), (.cst (.int 26))])])]) (.prim false .range1 [(.var 1)]) none))]⟩
/-- law_letter_by ['_law_cell'] ['_law_number'] -/
noncomputable def fn12 : Fn := ⟨1, 1, [(.ite (.prim false (.cop .gt) [(.prim false (.bop .mod) [(.var 0), (.cst (.int 5))]), (.cst (.int 2))]) [(.ret (.prim false .item [(.prim false .mklist [(.prim false .mktup [(.cst (.str ['f', 'a', 'u', 'l', 't']))]), (.prim false .mktup [(.cst (.str ['l', 'e', 'a', 'v', 'e']))])]), (.prim false (.bop .sub) [(.prim false (.bop .mod) [(.var 0), (.cst (.int 5))]), (.cst (.int 3))])]))] []),
  (.asg 1 (.prim false .item [(.prim false .mklist [(.prim false (.bop .sub) [(.prim false (.bop .mod) [(.prim false (.bop .fdiv) [(.var 0), (.cst (.int 10))]), (.cst (.int 9))]), (.cst (.int 4))]), (.prim false (.bop .sub) [(.prim false (.bop .mod) [(.prim false (.bop .fdiv) [(.var 0), (.cst (.int 10))]), (.prim false (.bop .add) [(.prim false (.bop .mul) [(.cst (.int 2)), (.prim false (.bop .pow) [(.cst (.int 10)), (.cst (.int 9))])]), (.cst (.int 1))])]), (.prim false (.bop .pow) [(.cst (.int 10)), (.cst (.int 9))])])]), (.prim false .int [(.prim false (.cop .eq) [(.prim false (.bop .mod) [(.var 0), (.cst (.int 5))]), (.cst (.int 2))])])])),
  (.ret (.prim false .mktup [(.cst (.str ['a', 'd', 'd'])), (.var 1)]))]⟩
/-- law_events ['_law_found'] ['_law_row'] -/
noncomputable def fn13 : Fn := ⟨1, 1, [(.ite (.prim false .not [(.prim false (.isinst .list) [(.var 0)])]) [(.ret (.cst (.bool false)))] []),
  (.forIn false (.inl 1) (.var 0) [(.ite (.or (.prim false .not [(.prim false (.isinst .tuple) [(.var 1)])]) (.or (.prim false (.cop .lt) [(.prim false .len [(.var 1)]), (.cst (.int 2))]) (.or (.prim false .not [(.prim false (.isinst .str) [(.prim false .item [(.var 1), (.cst (.int 0))])])]) (.prim false .not [(.prim false (.isinst .str) [(.prim false .item [(.var 1), (.cst (.int 1))])])])))) [(.ret (.cst (.bool false)))] []),
  (.ite (.and (.prim false (.cop .gt) [(.prim false .len [(.var 1)]), (.cst (.int 2))]) (.prim false .not [(.call 10 [(.prim false .item [(.var 1), (.cst (.int 2))])])])) [(.ret (.cst (.bool false)))] []),
  (.ite (.and (.prim false (.cop .gt) [(.prim false .len [(.var 1)]), (.cst (.int 3))]) (.or (.prim false (.cop .gt) [(.prim false .len [(.var 1)]), (.cst (.int 4))]) (.prim false .not [(.prim false (.isinst .tuple) [(.prim false .item [(.var 1), (.cst (.int 3))])])]))) [(.ret (.cst (.bool false)))] [])]),
  (.ret (.cst (.bool true)))]⟩
/-- law_row_by ['_law_cell', '_law_names_here'] ['_law_word', '_law_name', '_law_number'] -/
noncomputable def fn14 : Fn := ⟨2, 3, [(.asg 2 (.prim false .item [(.prim false .mklist [(.cst (.str ['b', 'e', 'g', 'i', 'n', 's'])), (.cst (.str ['e', 'n', 'd', 's'])), (.cst (.str ['f', 'a', 'i', 'l', 's'])), (.cst (.str ['l', 'e', 'a', 'v', 'e', 's'])), (.cst (.str ['w', 'o', 'r', 'k', 's'])), (.cst (.str ['l', 'o', 's', 't'])), (.cst (.str ['s', 'e', 'n', 't'])), (.cst (.str ['s', 'e', 'n', 't']))]), (.prim false (.bop .mod) [(.var 0), (.cst (.int 8))])])),
  (.asg 3 (.prim false .item [(.var 1), (.prim false (.bop .mod) [(.prim false (.bop .fdiv) [(.var 0), (.cst (.int 8))]), (.prim false .len [(.var 1)])])])),
  (.asg 4 (.prim false (.bop .add) [(.cst (.int 1)), (.prim false .item [(.prim false .mklist [(.prim false (.bop .mod) [(.prim false (.bop .fdiv) [(.var 0), (.cst (.int 50))]), (.cst (.int 12))]), (.prim false (.bop .mod) [(.prim false (.bop .fdiv) [(.var 0), (.cst (.int 50))]), (.prim false (.bop .pow) [(.cst (.int 10)), (.cst (.int 9))])])]), (.prim false (.bop .mod) [(.prim false (.bop .fdiv) [(.var 0), (.cst (.int 8))]), (.cst (.int 2))])])])),
  (.ite (.prim false (.cop .lt) [(.prim false (.bop .mod) [(.var 0), (.cst (.int 8))]), (.cst (.int 4))]) [(.ret (.prim false .mktup [(.var 2), (.var 3)]))] []),
  (.ite (.prim false (.cop .eq) [(.var 2), (.cst (.str ['s', 'e', 'n', 't']))]) [(.ret (.prim false .mktup [(.var 2), (.var 3), (.var 4), (.call 12 [(.prim false (.bop .fdiv) [(.var 0), (.cst (.int 20))])])]))] []),
  (.ret (.prim false .mktup [(.var 2), (.var 3), (.var 4)]))]⟩
/-- law_words_of ['_law_row'] ['_law_words'] -/
noncomputable def fn15 : Fn := ⟨1, 1, [(.asg 1 (.prim true .mklist [(.prim false .item [(.var 0), (.cst (.int 0))]), (.prim false .item [(.var 0), (.cst (.int 1))])])),
  (.ite (.prim false (.cop .gt) [(.prim false .len [(.var 0)]), (.cst (.int 2))]) [(.expr (.mcall .list false .append (.var 1) [(.prim false .str [(.prim false .item [(.var 0), (.cst (.int 2))])])]))] []),
  (.ite (.prim false (.cop .gt) [(.prim false .len [(.var 0)]), (.cst (.int 3))]) [(.expr (.mcall .list false .append (.var 1) [(.prim false .item [(.prim false .item [(.var 0), (.cst (.int 3))]), (.cst (.int 0))])])),
  (.ite (.prim false (.cop .gt) [(.prim false .len [(.prim false .item [(.var 0), (.cst (.int 3))])]), (.cst (.int 1))]) [(.expr (.mcall .list false .append (.var 1) [(.prim false .str [(.prim false .item [(.prim false .item [(.var 0), (.cst (.int 3))]), (.cst (.int 1))])])]))] [])] []),
  (.ret (.mcall .str false .join (.cst (.str [' '])) [(.var 1)]))]⟩
/-- law_rows_by ['_law_script'] ['_law_cell', '_law_many', '_law_names_here'] -/
noncomputable def fn16 : Fn := ⟨1, 3, [(.asg 1 (.call 9 [(.var 0), (.cst (.int 0))])),
  (.asg 2 (.prim false (.bop .mod) [(.var 1), (.cst (.int 9))])),
  (.ite (.prim false (.cop .eq) [(.prim false (.bop .mod) [(.prim false (.bop .fdiv) [(.var 1), (.cst (.int 9))]), (.cst (.int 4))]), (.cst (.int 1))]) [(.asg 2 (.prim false (.bop .mod) [(.prim false (.bop .fdiv) [(.var 1), (.cst (.int 36))]), (.cst (.int 91))]))] []),
  (.ite (.prim false (.cop .eq) [(.prim false (.bop .mod) [(.prim false (.bop .fdiv) [(.var 1), (.cst (.int 9))]), (.cst (.int 32))]), (.cst (.int 5))]) [(.asg 2 (.cst (.int 400)))] []),
  (.asg 3 (.call 11 [(.call 9 [(.var 0), (.cst (.int 1))]), (.cst (.int 8))])),
  (.ret (.comp false (.call 14 [(.prim false (.bop .add) [(.call 9 [(.var 0), (.prim false (.bop .add) [(.cst (.int 2)), (.prim false (.bop .mod) [(.var 4), (.cst (.int 30))])])]), (.prim false (.bop .mul) [(.cst (.int 13)), (.prim false (.bop .fdiv) [(.var 4), (.cst (.int 30))])])]), (.var 3)]) (.prim false .range1 [(.var 2)]) none))]⟩
/-- law ['_law_script'] ['_law_rows', '_law_handed', '_law_due', '_law_found', '_law_first'] -/
noncomputable def fn17 : Fn := ⟨1, 5, [(.asg 1 (.call 16 [(.var 0)])),
  (.asg 2 (.prim true .list [(.var 1)])),
  (.asg 3 (.mcall .str false .join (.cst (.str [])) [(.comp false (.prim false (.bop .add) [(.call 15 [(.var 6)]), (.cst (.str ['\n']))]) (.var 1) none)])),
  (.asg 4 (.call 2 [(.var 2)])),
  (.ite (.or (.prim false .not [(.prim false (.isinst .str) [(.var 4)])]) (.or (.prim false (.cop .ne) [(.var 4), (.var 3)]) (.prim false (.cop .ne) [(.var 2), (.var 1)]))) [(.ret (.cst (.bool false)))] []),
  (.asg 5 (.call 8 [(.var 3)])),
  (.ite (.or (.prim false .not [(.call 13 [(.var 5)])]) (.prim false (.cop .ne) [(.var 5), (.var 1)])) [(.ret (.cst (.bool false)))] []),
  (.expr (.mcall .list false .append (.var 2) [(.prim false .mktup [(.cst (.str ['e', 'n', 'd', 's'])), (.cst (.str ['a']))])])),
  (.ite (.or (.prim false (.cop .ne) [(.call 2 [(.var 2)]), (.prim false (.bop .add) [(.var 3), (.cst (.str ['e', 'n', 'd', 's', ' ', 'a', '\n']))])]) (.prim false (.cop .ne) [(.var 5), (.var 1)])) [(.ret (.cst (.bool false)))] []),
  (.expr (.mcall .list false .append (.var 5) [(.prim false .mktup [(.cst (.str ['f', 'a', 'i', 'l', 's'])), (.cst (.str ['b']))])])),
  (.ret (.and (.prim false (.cop .eq) [(.call 8 [(.var 3)]), (.var 1)]) (.prim false (.cop .eq) [(.call 2 [(.var 1)]), (.var 3)])))]⟩
noncomputable def fnsL : List Fn := [fn0, fn1, fn2, fn3, fn4, fn5, fn6, fn7, fn8, fn9, fn10, fn11, fn12, fn13, fn14, fn15, fn16, fn17]
noncomputable def PL : Prog := progL fnsL
theorem P_fn0 : PL.fns 0 = some fn0 := rfl
theorem P_fn1 : PL.fns 1 = some fn1 := rfl
theorem P_fn2 : PL.fns 2 = some fn2 := rfl
theorem P_fn3 : PL.fns 3 = some fn3 := rfl
theorem P_fn4 : PL.fns 4 = some fn4 := rfl
theorem P_fn5 : PL.fns 5 = some fn5 := rfl
theorem P_fn6 : PL.fns 6 = some fn6 := rfl
theorem P_fn7 : PL.fns 7 = some fn7 := rfl
theorem P_fn8 : PL.fns 8 = some fn8 := rfl
theorem P_fn9 : PL.fns 9 = some fn9 := rfl
theorem P_fn10 : PL.fns 10 = some fn10 := rfl
theorem P_fn11 : PL.fns 11 = some fn11 := rfl
theorem P_fn12 : PL.fns 12 = some fn12 := rfl
theorem P_fn13 : PL.fns 13 = some fn13 := rfl
theorem P_fn14 : PL.fns 14 = some fn14 := rfl
theorem P_fn15 : PL.fns 15 = some fn15 := rfl
theorem P_fn16 : PL.fns 16 = some fn16 := rfl
theorem P_fn17 : PL.fns 17 = some fn17 := rfl
noncomputable def bisL : List (Str × Gl) := [("len", .bi "len"), ("all", .bi "all"), ("isinstance", .bi "isinstance"), ("range", .ty "range"), ("int", .ty "int"), ("bool", .ty "bool"), ("str", .ty "str"), ("tuple", .ty "tuple"), ("list", .ty "list")]
noncomputable def muL : List (Nat × Nat) := [(18, 12), (122, 17), (141, 18), (70, 11)]
noncomputable def cstL : List (Str × V) := [("LETTERS", .str ['a', 'b', 'c', 'd', 'e', 'f', 'g', 'h', 'i', 'j', 'k', 'l', 'm', 'n', 'o', 'p', 'q', 'r', 's', 't', 'u', 'v', 'w', 'x', 'y', 'z']), ("LONGEST", .int 8), ("GREATEST", .int 1000000000), ("FIGURES", .str ['0', '1', '2', '3', '4', '5', '6', '7', '8', '9']), ("MOST_FIGURES", .int 10)]
end Mine

end
noncomputable section
namespace Mine
open PySem

noncomputable def figs : List Char := ['0', '1', '2', '3', '4', '5', '6', '7', '8', '9']
theorem figs_digit {c : Char} (h : c.isDigit = true) : figs.contains c = true := by
  have h' : 48 ≤ c.toNat ∧ c.toNat ≤ 57 := by
    simp only [Char.isDigit, Bool.and_eq_true, decide_eq_true_eq] at h
    exact ⟨h.1, h.2⟩
  have hc : c = Char.ofNat c.toNat := (Char.ofNat_toNat c).symm
  have : c.toNat = 48 ∨ c.toNat = 49 ∨ c.toNat = 50 ∨ c.toNat = 51 ∨ c.toNat = 52 ∨ c.toNat = 53 ∨ c.toNat = 54 ∨ c.toNat = 55 ∨ c.toNat = 56 ∨ c.toNat = 57 := by omega
  rcases this with e | e | e | e | e | e | e | e | e | e <;> rw [hc, e] <;> decide
/-- a number's figures -/
abbrev dg (m : Nat) : List Char := Nat.toDigits 10 m
theorem dg_ne (m : Nat) : dg m ≠ [] := Nat.toDigits_ne_nil
theorem dg_digit {m : Nat} {c : Char} (h : c ∈ dg m) : c.isDigit = true := Nat.isDigit_of_mem_toDigits (by decide) (by decide) h
theorem dg_len {m : Nat} (h : m ≤ 1000000000) : 1 ≤ (dg m).length ∧ (dg m).length ≤ 10 := by
  refine ⟨Nat.length_toDigits_pos, (Nat.length_toDigits_le_iff (by decide) (by decide)).mpr ?_⟩
  exact Nat.lt_of_le_of_lt h (by decide)
theorem dg_one {m : Nat} (h : m < 10) : (dg m).length = 1 := by
  show (Nat.toDigits 10 m).length = 1
  rw [Nat.toDigits_of_lt_base h]; rfl
theorem dg_head : ∀ (m : Nat), 0 < m → (dg m).head? ≠ some '0' := by
  intro m
  induction m using Nat.strongRecOn with
  | _ m ih =>
    intro h
    by_cases hm : m < 10
    · show (Nat.toDigits 10 m).head? ≠ _
      rw [Nat.toDigits_of_lt_base hm]
      have : m = 1 ∨ m = 2 ∨ m = 3 ∨ m = 4 ∨ m = 5 ∨ m = 6 ∨ m = 7 ∨ m = 8 ∨ m = 9 := by omega
      rcases this with rfl | rfl | rfl | rfl | rfl | rfl | rfl | rfl | rfl <;> decide
    · show (Nat.toDigits 10 m).head? ≠ _
      rw [Nat.toDigits_of_base_le (by decide) (by omega)]
      have hi := ih (m / 10) (by omega) (by omega)
      cases hd : Nat.toDigits 10 (m / 10) with
      | nil => exact absurd hd Nat.toDigits_ne_nil
      | cons c r =>
        rw [show dg (m / 10) = c :: r from hd] at hi
        simpa using hi
theorem strOf_nat (m : Nat) : strOf (m : Int) = dg m := by
  show (toString m).toList = _
  exact Nat.toList_repr
theorem strOf_neg {z : Int} (h : z < 0) : strOf z = '-' :: dg (-z).toNat := by
  obtain ⟨m, rfl⟩ := Int.eq_negSucc_of_lt_zero h
  show ("-" ++ toString (m + 1)).toList = _
  rw [String.toList_append]
  show '-' :: (Nat.repr (m + 1)).toList = _
  rw [Nat.toList_repr]
  rfl

theorem join_nil : ∀ ss : List (List Char), joinL [] ss = ss.flatten
  | [] => rfl
  | [x] => by simp [joinL]
  | x :: y :: r => by
    show x ++ [] ++ joinL [] (y :: r) = _
    rw [join_nil (y :: r)]
    simp

noncomputable def abc : List Char := ['a', 'b', 'c', 'd', 'e', 'f', 'g', 'h', 'i', 'j', 'k', 'l', 'm', 'n', 'o', 'p', 'q', 'r', 's', 't', 'u', 'v', 'w', 'x', 'y', 'z']
structure nameOk (s : List Char) : Prop where
  pos : 1 ≤ s.length
  le : s.length ≤ 8
  all : ∀ c ∈ s, c ∈ abc

inductive Lt where
  | fault | leave | add (z : Int)
noncomputable def Lt.ok : Lt → Prop
  | .add z => -1000000000 ≤ z ∧ z ≤ 1000000000
  | _ => True
noncomputable def wFault : List Char := ['f', 'a', 'u', 'l', 't']
noncomputable def wLeave : List Char := ['l', 'e', 'a', 'v', 'e']
noncomputable def wAdd : List Char := ['a', 'd', 'd']
noncomputable def wSent : List Char := ['s', 'e', 'n', 't']
noncomputable def Lt.vs : Lt → List V
  | .fault => [.str wFault]
  | .leave => [.str wLeave]
  | .add z => [.str wAdd, .int z]
noncomputable def Lt.ws : Lt → List (List Char)
  | .fault => [wFault]
  | .leave => [wLeave]
  | .add z => [wAdd, strOf z]
noncomputable def four : List (List Char) := [['b', 'e', 'g', 'i', 'n', 's'], ['e', 'n', 'd', 's'], ['f', 'a', 'i', 'l', 's'], ['l', 'e', 'a', 'v', 'e', 's']]
noncomputable def two : List (List Char) := [['w', 'o', 'r', 'k', 's'], ['l', 'o', 's', 't']]
inductive Ev where
  | two (w nm : List Char)
  | three (w nm : List Char) (k : Int)
  | sent (nm : List Char) (k : Int) (l : Lt)
noncomputable def Ev.ok : Ev → Prop
  | .two w nm => w ∈ four ∧ nameOk nm
  | .three w nm k => w ∈ Mine.two ∧ nameOk nm ∧ 1 ≤ k ∧ k ≤ 1000000000
  | .sent nm k l => nameOk nm ∧ (1 ≤ k ∧ k ≤ 1000000000) ∧ l.ok
noncomputable def Ev.vs : Ev → List V
  | .two w nm => [.str w, .str nm]
  | .three w nm k => [.str w, .str nm, .int k]
  | .sent nm k l => [.str wSent, .str nm, .int k, .tup l.vs]
noncomputable def Ev.v (e : Ev) : V := .tup e.vs
noncomputable def Ev.ws : Ev → List (List Char)
  | .two w nm => [w, nm]
  | .three w nm k => [w, nm, strOf k]
  | .sent nm k l => wSent :: nm :: strOf k :: l.ws
noncomputable def line (e : Ev) : List Char := joinL [' '] e.ws
noncomputable def text (es : List Ev) : List Char := (es.map fun e => line e ++ ['\n']).flatten

/-- no blank, no line end -/
noncomputable def clean (s : List Char) : Prop := ∀ c ∈ s, c ≠ ' ' ∧ c ≠ '\n'
theorem clean_name {s : List Char} (h : nameOk s) : clean s := fun c hc => by
  have := h.all c hc
  constructor
  · rintro rfl; exact absurd this (by decide)
  · rintro rfl; exact absurd this (by decide)
theorem clean_dg (m : Nat) : clean (dg m) := fun c hc => by
  have := dg_digit hc
  constructor
  · rintro rfl; exact absurd this (by decide)
  · rintro rfl; exact absurd this (by decide)
theorem clean_str (z : Int) : clean (strOf z) := by
  by_cases h : z < 0
  · rw [strOf_neg h]
    intro c hc
    cases hc with
    | head => decide
    | tail _ h => exact clean_dg _ c h
  · obtain ⟨m, rfl⟩ := Int.eq_ofNat_of_zero_le (show 0 ≤ z by omega)
    rw [strOf_nat]
    exact clean_dg m
theorem clean_lit {s : List Char} (h : (s.all fun c => decide (c ≠ ' ') && decide (c ≠ '\n')) = true) : clean s := fun c hc => by
  have := List.all_eq_true.mp h c hc
  simpa using this
theorem len_str {z : Int} (h : -1000000000 ≤ z ∧ z ≤ 1000000000) : (strOf z).length ≤ 11 := by
  by_cases h0 : z < 0
  · rw [strOf_neg h0, List.length_cons]
    have := (dg_len (m := (-z).toNat) (by omega)).2
    omega
  · obtain ⟨m, rfl⟩ := Int.eq_ofNat_of_zero_le (show 0 ≤ z by omega)
    rw [strOf_nat]
    have := (dg_len (m := m) (by omega)).2
    omega
theorem Lt.clean {l : Lt} : ∀ w ∈ l.ws, Mine.clean w := by
  intro w hw
  cases l with
  | fault => cases hw with | head => exact clean_lit (by decide) | tail _ h => cases h
  | leave => cases hw with | head => exact clean_lit (by decide) | tail _ h => cases h
  | add z =>
    cases hw with
    | head => exact clean_lit (by decide)
    | tail _ h => cases h with | head => exact clean_str z | tail _ h => cases h
theorem four_clean : ∀ w ∈ four, clean w ∧ w.length ≤ 6 := by
  intro w hw
  have : four.all (fun w => (w.all fun c => decide (c ≠ ' ') && decide (c ≠ '\n')) && decide (w.length ≤ 6)) = true := by decide
  have := List.all_eq_true.mp this w hw
  rw [Bool.and_eq_true] at this
  exact ⟨clean_lit this.1, of_decide_eq_true this.2⟩
theorem two_clean : ∀ w ∈ two, clean w ∧ w.length ≤ 6 := by
  intro w hw
  have : two.all (fun w => (w.all fun c => decide (c ≠ ' ') && decide (c ≠ '\n')) && decide (w.length ≤ 6)) = true := by decide
  have := List.all_eq_true.mp this w hw
  rw [Bool.and_eq_true] at this
  exact ⟨clean_lit this.1, of_decide_eq_true this.2⟩
theorem Ev.clean {e : Ev} (h : e.ok) : ∀ w ∈ e.ws, Mine.clean w := by
  intro w hw
  cases e with
  | two x nm =>
    cases hw with
    | head => exact (four_clean _ h.1).1
    | tail _ hw => cases hw with | head => exact clean_name h.2 | tail _ h => cases h
  | three x nm k =>
    cases hw with
    | head => exact (two_clean _ h.1).1
    | tail _ hw =>
      cases hw with
      | head => exact clean_name h.2.1
      | tail _ hw => cases hw with | head => exact clean_str k | tail _ h => cases h
  | sent nm k l =>
    cases hw with
    | head => exact clean_lit (by decide)
    | tail _ hw =>
      cases hw with
      | head => exact clean_name h.1
      | tail _ hw =>
        cases hw with
        | head => exact clean_str k
        | tail _ hw => exact Lt.clean w hw
theorem join_mem {c : Char} : ∀ {ws : List (List Char)}, c ∈ joinL [' '] ws → c = ' ' ∨ ∃ w ∈ ws, c ∈ w
  | [], h => by cases h
  | [x], h => .inr ⟨x, .head _, h⟩
  | x :: y :: r, h => by
    have h' : c ∈ x ++ [' '] ++ joinL [' '] (y :: r) := h
    rw [List.mem_append, List.mem_append] at h'
    rcases h' with (h | h) | h
    · exact .inr ⟨x, .head _, h⟩
    · exact .inl (by simpa using h)
    · rcases join_mem h with h | ⟨w, hw, h⟩
      · exact .inl h
      · exact .inr ⟨w, .tail _ hw, h⟩
theorem line_nl {e : Ev} (h : e.ok) : '\n' ∉ line e := fun q => by
  rcases join_mem q with q | ⟨w, hw, q⟩
  · exact absurd q (by decide)
  · exact (e.clean h w hw _ q).2 rfl
theorem ws_cons (e : Ev) : ∃ w ws, e.ws = w :: ws := by
  cases e <;> exact ⟨_, _, rfl⟩
theorem line_split {e : Ev} (h : e.ok) : splitC ' ' (line e) [] = e.ws := by
  obtain ⟨w, ws, hw⟩ := ws_cons e
  have hc := e.clean h
  unfold line
  rw [hw] at hc ⊢
  exact split_join fun x hx q => (hc x hx _ q).1 rfl
theorem text_cons (e : Ev) (es : List Ev) : text (e :: es) = line e ++ '\n' :: text es := by
  simp [text]
theorem text_split : ∀ {es : List Ev}, (∀ e ∈ es, e.ok) → splitC '\n' (text es) [] = es.map line ++ [[]]
  | [], _ => rfl
  | e :: es, h => by
    rw [text_cons, split_here (line_nl (h e (.head _))), text_split fun x hx => h x (.tail _ hx)]
    rfl
theorem text_snoc (es : List Ev) (e : Ev) : text (es ++ [e]) = text es ++ (line e ++ ['\n']) := by
  simp [text]
theorem line_len {e : Ev} (h : e.ok) : (line e).length ≤ 49 := by
  unfold line
  cases e with
  | two w nm =>
    have h1 := (four_clean _ h.1).2
    have h2 := h.2.le
    simp only [Ev.ws, joinL, List.length_append, List.length_cons, List.length_nil]
    omega
  | three w nm k =>
    have h1 := (two_clean _ h.1).2
    have h2 := h.2.1.le
    have h3 := len_str (z := k) ⟨by have := h.2.2; omega, h.2.2.2⟩
    simp only [Ev.ws, joinL, List.length_append, List.length_cons, List.length_nil]
    omega
  | sent nm k l =>
    have h2 := h.1.le
    have h3 := len_str (z := k) ⟨by have := h.2.1; omega, h.2.1.2⟩
    have h4 := h.2.2
    cases l with
    | fault => simp only [Ev.ws, Lt.ws, joinL, List.length_append, List.length_cons, List.length_nil, wSent, wFault]; omega
    | leave => simp only [Ev.ws, Lt.ws, joinL, List.length_append, List.length_cons, List.length_nil, wSent, wLeave]; omega
    | add z =>
      have h5 := len_str (z := z) h4
      simp only [Ev.ws, Lt.ws, joinL, List.length_append, List.length_cons, List.length_nil, wSent, wAdd]; omega
theorem text_len : ∀ {es : List Ev}, (∀ e ∈ es, e.ok) → (text es).length ≤ 50 * es.length
  | [], _ => Nat.le_refl _
  | e :: es, h => by
    have h1 := line_len (h e (.head _))
    have h2 := text_len fun x hx => h x (.tail _ hx)
    rw [text_cons, List.length_append, List.length_cons, List.length_cons]
    omega
theorem Lt.data (l : Lt) : V.datas l.vs = true ∧ V.depths l.vs = 0 := by cases l <;> exact ⟨rfl, rfl⟩
theorem Ev.data (e : Ev) : e.v.data = true ∧ e.v.depth ≤ 2 := by
  cases e with
  | two => exact ⟨rfl, by show max 0 (max 0 0) + 1 ≤ 2; decide⟩
  | three => exact ⟨rfl, by show max 0 (max 0 (max 0 0)) + 1 ≤ 2; decide⟩
  | sent nm k l =>
    obtain ⟨h1, h2⟩ := l.data
    refine ⟨?_, ?_⟩
    · show (true && (true && (true && (V.datas l.vs && true)))) = true
      rw [h1]; rfl
    · show max 0 (max 0 (max 0 (max (V.depths l.vs + 1) 0))) + 1 ≤ 2
      rw [h2]; decide
theorem evs_data : ∀ es : List Ev, V.datas (es.map Ev.v) = true ∧ V.depths (es.map Ev.v) ≤ 2
  | [] => ⟨rfl, by decide⟩
  | e :: es => by
    obtain ⟨h1, h2⟩ := evs_data es
    obtain ⟨h3, h4⟩ := e.data
    refine ⟨?_, ?_⟩
    · show (V.data e.v && V.datas (es.map Ev.v)) = true
      rw [h1, h3]; rfl
    · show max (V.depth e.v) (V.depths (es.map Ev.v)) ≤ 2
      omega
end Mine

end
noncomputable section
open PySem
set_option maxHeartbeats 4000000
namespace Mine

theorem fm_in (ls s : List Char) : (s.map fun c => V.str [c]).filterMap (fun x => match x with | .str [c] => some (.bool (ls.contains c)) | _ => none) = (s.map fun c => ls.contains c).map V.bool := by
  rw [List.filterMap_map, List.map_map, ← List.filterMap_eq_map]
  rfl
theorem all_in {ls s : List Char} (h : ∀ c ∈ s, ls.contains c = true) : (s.map fun c => ls.contains c).all id = true := by
  rw [List.all_map, List.all_eq_true]
  exact h

theorem f0 {n : Nat} {s : List Char} {H : AH} {Q : QE} {X : XE} (hv : nameOk s) (q : Q (.bool true) H) : callF PL (n + 1) 0 [.str s] H Q X := by
  rw [callF_succ, P_fn0]
  refine ⟨rfl, st_ite ?_⟩
  simp only [wpE_prim, wpEs_cons, wpEs_nil, wpE_var, wpE_cst, wpE_and, wpE_or, wpE_call, wpE_mcall, List.map_cons, List.map_nil, List.cons_append, List.nil_append, List.replicate_zero, List.replicate_succ, List.getElem?_cons_zero, List.getElem?_cons_succ, List.set_cons_zero, List.set_cons_succ, List.length_cons, List.length_nil, Nat.reduceAdd, Nat.reduceLT, true_and, wpE_cmp2]
  (repeat (with_reducible first | refine hB ?_ | refine it_t ?_ | refine it_f ?_ | refine hE pm_not_t ?_ | refine hE pm_not_f ?_ | refine hE pm_not ?_ | refine hE pi_int_int ?_ | refine hE pi_int_bool ?_ | refine hE pi_bool_bool ?_ | refine hE pi_bool_int ?_ | refine hE pi_str_int ?_ | refine hE pi_str_str ?_ | refine hE pi_str_tuple ?_ | refine hE pi_tup_tuple ?_ | refine hE pi_tup_str ?_ | refine hE pi_none_str ?_ | refine hE pi_none_int ?_ | refine hE pi_none_tuple ?_ | refine hE pi_bool_str ?_ | refine hE pi_bool_tuple ?_ | refine hE pi_int_str ?_ | refine hE pi_int_tuple ?_ | refine hE pi_lst_list ?_ | refine hE pi_lst_str ?_ | refine hE pi_lst_tuple ?_ | refine hE pm_add ?_ | refine hE pm_sub ?_ | refine hE pm_pow9 ?_ | refine hE pm_lt ?_ | refine hE pm_le ?_ | refine hE pm_gt ?_ | refine hE pm_ge ?_ | refine hE pm_neg ?_ | refine hE pm_lenl ?_ | refine hE pm_lens ?_ | refine hE pm_lent ?_ | refine hE pm_intb ?_ | refine hE (pm_mod (by first | decide | omega | (simp only [List.length_cons, List.length_nil, List.length_map]; omega))) ?_ | refine hE (pm_mkl (by first | decide | omega | (simp only [List.length_cons, List.length_nil, List.length_map, sizeOf']; omega))) ?_ | refine hE (pM_mkl (by first | decide | omega | (simp only [List.length_cons, List.length_nil, List.length_map, sizeOf']; omega))) ?_ | refine hE (pm_mkt (by first | decide | omega | (simp only [List.length_cons, List.length_nil, List.length_map, sizeOf']; omega))) ?_ | refine hE (pm_range1 (by first | decide | omega | (simp only [List.length_cons, List.length_nil, List.length_map]; omega))) ?_ | refine hE (pm_fdiv (by first | decide | omega | (simp only [List.length_cons, List.length_nil, List.length_map]; omega)) (by first | decide | omega | (simp only [List.length_cons, List.length_nil, List.length_map]; omega))) ?_ | refine hc_le ?_ | refine hE (pm_mul (by first | decide | omega | (simp only [List.length_cons, List.length_nil, List.length_map]; omega)) (by first | decide | omega | (simp only [List.length_cons, List.length_nil, List.length_map]; omega))) ?_ | refine hE (pm_eq rd_int rd_int) ?_))
  have h1 : (1 : Int) ≤ s.length := by have := hv.pos; omega
  have h2 : (s.length : Int) ≤ 8 := by have := hv.le; omega
  rw [decide_eq_true h1]
  refine it_t (hc_le ?_)
  rw [decide_eq_true h2]
  (repeat (with_reducible first | refine hB ?_ | refine it_t ?_ | refine it_f ?_ | refine hE pm_not_t ?_ | refine hE pm_not_f ?_ | refine hE pm_not ?_ | refine hE pi_int_int ?_ | refine hE pi_int_bool ?_ | refine hE pi_bool_bool ?_ | refine hE pi_bool_int ?_ | refine hE pi_str_int ?_ | refine hE pi_str_str ?_ | refine hE pi_str_tuple ?_ | refine hE pi_tup_tuple ?_ | refine hE pi_tup_str ?_ | refine hE pi_none_str ?_ | refine hE pi_none_int ?_ | refine hE pi_none_tuple ?_ | refine hE pi_bool_str ?_ | refine hE pi_bool_tuple ?_ | refine hE pi_int_str ?_ | refine hE pi_int_tuple ?_ | refine hE pi_lst_list ?_ | refine hE pi_lst_str ?_ | refine hE pi_lst_tuple ?_ | refine hE pm_add ?_ | refine hE pm_sub ?_ | refine hE pm_pow9 ?_ | refine hE pm_lt ?_ | refine hE pm_le ?_ | refine hE pm_gt ?_ | refine hE pm_ge ?_ | refine hE pm_neg ?_ | refine hE pm_lenl ?_ | refine hE pm_lens ?_ | refine hE pm_lent ?_ | refine hE pm_intb ?_ | refine hE (pm_mod (by first | decide | omega | (simp only [List.length_cons, List.length_nil, List.length_map]; omega))) ?_ | refine hE (pm_mkl (by first | decide | omega | (simp only [List.length_cons, List.length_nil, List.length_map, sizeOf']; omega))) ?_ | refine hE (pM_mkl (by first | decide | omega | (simp only [List.length_cons, List.length_nil, List.length_map, sizeOf']; omega))) ?_ | refine hE (pm_mkt (by first | decide | omega | (simp only [List.length_cons, List.length_nil, List.length_map, sizeOf']; omega))) ?_ | refine hE (pm_range1 (by first | decide | omega | (simp only [List.length_cons, List.length_nil, List.length_map]; omega))) ?_ | refine hE (pm_fdiv (by first | decide | omega | (simp only [List.length_cons, List.length_nil, List.length_map]; omega)) (by first | decide | omega | (simp only [List.length_cons, List.length_nil, List.length_map]; omega))) ?_ | refine hc_le ?_ | refine hE (pm_mul (by first | decide | omega | (simp only [List.length_cons, List.length_nil, List.length_map]; omega)) (by first | decide | omega | (simp only [List.length_cons, List.length_nil, List.length_map]; omega))) ?_ | refine hE (pm_eq rd_int rd_int) ?_))
  refine st_nil (st_ret ?_)
  rw [wpE_prim, wpEs_cons, wpE_comp]
  simp only [wpE_prim, wpEs_cons, wpEs_nil, wpE_var, wpE_cst, wpE_and, wpE_or, wpE_call, wpE_mcall, List.map_cons, List.map_nil, List.cons_append, List.nil_append, List.replicate_zero, List.replicate_succ, List.getElem?_cons_zero, List.getElem?_cons_succ, List.set_cons_zero, List.set_cons_succ, List.length_cons, List.length_nil, Nat.reduceAdd, Nat.reduceLT, true_and, wpE_cmp2]
  refine ⟨s.map fun c => V.str [c], rfl, by rw [List.length_map]; exact sz _ (by omega), compL_pure (g := fun x => match x with | .str [c] => some (.bool (abc.contains c)) | _ => none) (by exact rfl) (fun x hx K hK => ?_) ?_⟩
  · obtain ⟨c, _, rfl⟩ := List.mem_map.mp hx
    exact hE pm_in hK
  · rw [List.nil_append, fm_in]
    refine hE rfl (hE pm_all (ret_same ?_))
    rw [all_in fun c hc => by simpa using hv.all c hc]
    exact q

theorem f3 {n : Nat} {m : Nat} {H : AH} {Q : QE} {X : XE} (hm : m ≤ 1000000000) (q : Q (.int m) H) : callF PL (n + 1) 3 [.str (dg m)] H Q X := by
  obtain ⟨hl1, hl2⟩ := dg_len hm
  rw [callF_succ, P_fn3]
  refine ⟨rfl, st_ite ?_⟩
  rw [wpE_or]
  simp only [show fn3.extra = 1 from rfl, wpE_prim, wpEs_cons, wpEs_nil, wpE_var, wpE_cst, wpE_and, wpE_or, wpE_call, wpE_mcall, List.map_cons, List.map_nil, List.cons_append, List.nil_append, List.replicate_zero, List.replicate_succ, List.getElem?_cons_zero, List.getElem?_cons_succ, List.set_cons_zero, List.set_cons_succ, List.length_cons, List.length_nil, Nat.reduceAdd, Nat.reduceLT, true_and, wpE_cmp2]
  (repeat (with_reducible first | refine hB ?_ | refine it_t ?_ | refine it_f ?_ | refine hE pm_not_t ?_ | refine hE pm_not_f ?_ | refine hE pm_not ?_ | refine hE pi_int_int ?_ | refine hE pi_int_bool ?_ | refine hE pi_bool_bool ?_ | refine hE pi_bool_int ?_ | refine hE pi_str_int ?_ | refine hE pi_str_str ?_ | refine hE pi_str_tuple ?_ | refine hE pi_tup_tuple ?_ | refine hE pi_tup_str ?_ | refine hE pi_none_str ?_ | refine hE pi_none_int ?_ | refine hE pi_none_tuple ?_ | refine hE pi_bool_str ?_ | refine hE pi_bool_tuple ?_ | refine hE pi_int_str ?_ | refine hE pi_int_tuple ?_ | refine hE pi_lst_list ?_ | refine hE pi_lst_str ?_ | refine hE pi_lst_tuple ?_ | refine hE pm_add ?_ | refine hE pm_sub ?_ | refine hE pm_pow9 ?_ | refine hE pm_lt ?_ | refine hE pm_le ?_ | refine hE pm_gt ?_ | refine hE pm_ge ?_ | refine hE pm_neg ?_ | refine hE pm_lenl ?_ | refine hE pm_lens ?_ | refine hE pm_lent ?_ | refine hE pm_intb ?_ | refine hE (pm_mod (by first | decide | omega | (simp only [List.length_cons, List.length_nil, List.length_map]; omega))) ?_ | refine hE (pm_mkl (by first | decide | omega | (simp only [List.length_cons, List.length_nil, List.length_map, sizeOf']; omega))) ?_ | refine hE (pM_mkl (by first | decide | omega | (simp only [List.length_cons, List.length_nil, List.length_map, sizeOf']; omega))) ?_ | refine hE (pm_mkt (by first | decide | omega | (simp only [List.length_cons, List.length_nil, List.length_map, sizeOf']; omega))) ?_ | refine hE (pm_range1 (by first | decide | omega | (simp only [List.length_cons, List.length_nil, List.length_map]; omega))) ?_ | refine hE (pm_fdiv (by first | decide | omega | (simp only [List.length_cons, List.length_nil, List.length_map]; omega)) (by first | decide | omega | (simp only [List.length_cons, List.length_nil, List.length_map]; omega))) ?_ | refine hc_le ?_ | refine hE (pm_mul (by first | decide | omega | (simp only [List.length_cons, List.length_nil, List.length_map]; omega)) (by first | decide | omega | (simp only [List.length_cons, List.length_nil, List.length_map]; omega))) ?_ | refine hE (pm_eq rd_int rd_int) ?_))
  have h1 : (1 : Int) ≤ (dg m).length := by omega
  have h2 : ((dg m).length : Int) ≤ 10 := by omega
  rw [decide_eq_true h1]
  refine it_t (hc_le ?_)
  rw [decide_eq_true h2]
  (repeat (with_reducible first | refine hB ?_ | refine it_t ?_ | refine it_f ?_ | refine hE pm_not_t ?_ | refine hE pm_not_f ?_ | refine hE pm_not ?_ | refine hE pi_int_int ?_ | refine hE pi_int_bool ?_ | refine hE pi_bool_bool ?_ | refine hE pi_bool_int ?_ | refine hE pi_str_int ?_ | refine hE pi_str_str ?_ | refine hE pi_str_tuple ?_ | refine hE pi_tup_tuple ?_ | refine hE pi_tup_str ?_ | refine hE pi_none_str ?_ | refine hE pi_none_int ?_ | refine hE pi_none_tuple ?_ | refine hE pi_bool_str ?_ | refine hE pi_bool_tuple ?_ | refine hE pi_int_str ?_ | refine hE pi_int_tuple ?_ | refine hE pi_lst_list ?_ | refine hE pi_lst_str ?_ | refine hE pi_lst_tuple ?_ | refine hE pm_add ?_ | refine hE pm_sub ?_ | refine hE pm_pow9 ?_ | refine hE pm_lt ?_ | refine hE pm_le ?_ | refine hE pm_gt ?_ | refine hE pm_ge ?_ | refine hE pm_neg ?_ | refine hE pm_lenl ?_ | refine hE pm_lens ?_ | refine hE pm_lent ?_ | refine hE pm_intb ?_ | refine hE (pm_mod (by first | decide | omega | (simp only [List.length_cons, List.length_nil, List.length_map]; omega))) ?_ | refine hE (pm_mkl (by first | decide | omega | (simp only [List.length_cons, List.length_nil, List.length_map, sizeOf']; omega))) ?_ | refine hE (pM_mkl (by first | decide | omega | (simp only [List.length_cons, List.length_nil, List.length_map, sizeOf']; omega))) ?_ | refine hE (pm_mkt (by first | decide | omega | (simp only [List.length_cons, List.length_nil, List.length_map, sizeOf']; omega))) ?_ | refine hE (pm_range1 (by first | decide | omega | (simp only [List.length_cons, List.length_nil, List.length_map]; omega))) ?_ | refine hE (pm_fdiv (by first | decide | omega | (simp only [List.length_cons, List.length_nil, List.length_map]; omega)) (by first | decide | omega | (simp only [List.length_cons, List.length_nil, List.length_map]; omega))) ?_ | refine hc_le ?_ | refine hE (pm_mul (by first | decide | omega | (simp only [List.length_cons, List.length_nil, List.length_map]; omega)) (by first | decide | omega | (simp only [List.length_cons, List.length_nil, List.length_map]; omega))) ?_ | refine hE (pm_eq rd_int rd_int) ?_))
  rw [wpE_comp]
  simp only [wpE_prim, wpEs_cons, wpEs_nil, wpE_var, wpE_cst, wpE_and, wpE_or, wpE_call, wpE_mcall, List.map_cons, List.map_nil, List.cons_append, List.nil_append, List.replicate_zero, List.replicate_succ, List.getElem?_cons_zero, List.getElem?_cons_succ, List.set_cons_zero, List.set_cons_succ, List.length_cons, List.length_nil, Nat.reduceAdd, Nat.reduceLT, true_and, wpE_cmp2]
  refine ⟨(dg m).map fun c => V.str [c], rfl, by rw [List.length_map]; exact sz _ (by omega), compL_pure (g := fun x => match x with | .str [c] => some (.bool (figs.contains c)) | _ => none) (by exact rfl) (fun x hx K hK => ?_) ?_⟩
  · obtain ⟨c, _, rfl⟩ := List.mem_map.mp hx
    exact hE pm_in hK
  rw [List.nil_append, fm_in]
  refine hE rfl (hE pm_all ?_)
  rw [all_in fun c hc => figs_digit (dg_digit hc)]
  (repeat (with_reducible first | refine hB ?_ | refine it_t ?_ | refine it_f ?_ | refine hE pm_not_t ?_ | refine hE pm_not_f ?_ | refine hE pm_not ?_ | refine hE pi_int_int ?_ | refine hE pi_int_bool ?_ | refine hE pi_bool_bool ?_ | refine hE pi_bool_int ?_ | refine hE pi_str_int ?_ | refine hE pi_str_str ?_ | refine hE pi_str_tuple ?_ | refine hE pi_tup_tuple ?_ | refine hE pi_tup_str ?_ | refine hE pi_none_str ?_ | refine hE pi_none_int ?_ | refine hE pi_none_tuple ?_ | refine hE pi_bool_str ?_ | refine hE pi_bool_tuple ?_ | refine hE pi_int_str ?_ | refine hE pi_int_tuple ?_ | refine hE pi_lst_list ?_ | refine hE pi_lst_str ?_ | refine hE pi_lst_tuple ?_ | refine hE pm_add ?_ | refine hE pm_sub ?_ | refine hE pm_pow9 ?_ | refine hE pm_lt ?_ | refine hE pm_le ?_ | refine hE pm_gt ?_ | refine hE pm_ge ?_ | refine hE pm_neg ?_ | refine hE pm_lenl ?_ | refine hE pm_lens ?_ | refine hE pm_lent ?_ | refine hE pm_intb ?_ | refine hE (pm_mod (by first | decide | omega | (simp only [List.length_cons, List.length_nil, List.length_map]; omega))) ?_ | refine hE (pm_mkl (by first | decide | omega | (simp only [List.length_cons, List.length_nil, List.length_map, sizeOf']; omega))) ?_ | refine hE (pM_mkl (by first | decide | omega | (simp only [List.length_cons, List.length_nil, List.length_map, sizeOf']; omega))) ?_ | refine hE (pm_mkt (by first | decide | omega | (simp only [List.length_cons, List.length_nil, List.length_map, sizeOf']; omega))) ?_ | refine hE (pm_range1 (by first | decide | omega | (simp only [List.length_cons, List.length_nil, List.length_map]; omega))) ?_ | refine hE (pm_fdiv (by first | decide | omega | (simp only [List.length_cons, List.length_nil, List.length_map]; omega)) (by first | decide | omega | (simp only [List.length_cons, List.length_nil, List.length_map]; omega))) ?_ | refine hc_le ?_ | refine hE (pm_mul (by first | decide | omega | (simp only [List.length_cons, List.length_nil, List.length_map]; omega)) (by first | decide | omega | (simp only [List.length_cons, List.length_nil, List.length_map]; omega))) ?_ | refine hE (pm_eq rd_int rd_int) ?_))
  refine st_nil (st_ite ?_)
  have rest : wpSs PL (callF PL n) [(.asg 1 (.prim false .int [(.var 0)])),
    (.ite (.prim false (.cop .gt) [(.var 1), (.cst (.int 1000000000))]) [(.expr (.var 2))] []),
    (.ret (.var 1))] [some (.str (dg m)), none] H (fun _ H' => Ret H Q .none H') (fun v H' => Ret H Q v H') (RetX H X) := by
    refine st_asg ?_
    simp only [wpE_prim, wpEs_cons, wpEs_nil, wpE_var, wpE_cst, wpE_and, wpE_or, wpE_call, wpE_mcall, List.map_cons, List.map_nil, List.cons_append, List.nil_append, List.replicate_zero, List.replicate_succ, List.getElem?_cons_zero, List.getElem?_cons_succ, List.set_cons_zero, List.set_cons_succ, List.length_cons, List.length_nil, Nat.reduceAdd, Nat.reduceLT, true_and, wpE_cmp2]
    refine hE (pm_ints (strOf_nat m).symm Nat.ofDigitChars_ten_toDigits (by omega)) (st_ite ?_)
    simp only [wpE_prim, wpEs_cons, wpEs_nil, wpE_var, wpE_cst, wpE_and, wpE_or, wpE_call, wpE_mcall, List.map_cons, List.map_nil, List.cons_append, List.nil_append, List.replicate_zero, List.replicate_succ, List.getElem?_cons_zero, List.getElem?_cons_succ, List.set_cons_zero, List.set_cons_succ, List.length_cons, List.length_nil, Nat.reduceAdd, Nat.reduceLT, true_and, wpE_cmp2]
    (repeat (with_reducible first | refine hB ?_ | refine it_t ?_ | refine it_f ?_ | refine hE pm_not_t ?_ | refine hE pm_not_f ?_ | refine hE pm_not ?_ | refine hE pi_int_int ?_ | refine hE pi_int_bool ?_ | refine hE pi_bool_bool ?_ | refine hE pi_bool_int ?_ | refine hE pi_str_int ?_ | refine hE pi_str_str ?_ | refine hE pi_str_tuple ?_ | refine hE pi_tup_tuple ?_ | refine hE pi_tup_str ?_ | refine hE pi_none_str ?_ | refine hE pi_none_int ?_ | refine hE pi_none_tuple ?_ | refine hE pi_bool_str ?_ | refine hE pi_bool_tuple ?_ | refine hE pi_int_str ?_ | refine hE pi_int_tuple ?_ | refine hE pi_lst_list ?_ | refine hE pi_lst_str ?_ | refine hE pi_lst_tuple ?_ | refine hE pm_add ?_ | refine hE pm_sub ?_ | refine hE pm_pow9 ?_ | refine hE pm_lt ?_ | refine hE pm_le ?_ | refine hE pm_gt ?_ | refine hE pm_ge ?_ | refine hE pm_neg ?_ | refine hE pm_lenl ?_ | refine hE pm_lens ?_ | refine hE pm_lent ?_ | refine hE pm_intb ?_ | refine hE (pm_mod (by first | decide | omega | (simp only [List.length_cons, List.length_nil, List.length_map]; omega))) ?_ | refine hE (pm_mkl (by first | decide | omega | (simp only [List.length_cons, List.length_nil, List.length_map, sizeOf']; omega))) ?_ | refine hE (pM_mkl (by first | decide | omega | (simp only [List.length_cons, List.length_nil, List.length_map, sizeOf']; omega))) ?_ | refine hE (pm_mkt (by first | decide | omega | (simp only [List.length_cons, List.length_nil, List.length_map, sizeOf']; omega))) ?_ | refine hE (pm_range1 (by first | decide | omega | (simp only [List.length_cons, List.length_nil, List.length_map]; omega))) ?_ | refine hE (pm_fdiv (by first | decide | omega | (simp only [List.length_cons, List.length_nil, List.length_map]; omega)) (by first | decide | omega | (simp only [List.length_cons, List.length_nil, List.length_map]; omega))) ?_ | refine hc_le ?_ | refine hE (pm_mul (by first | decide | omega | (simp only [List.length_cons, List.length_nil, List.length_map]; omega)) (by first | decide | omega | (simp only [List.length_cons, List.length_nil, List.length_map]; omega))) ?_ | refine hE (pm_eq rd_int rd_int) ?_))
    rw [decide_eq_false (show ¬ (1000000000 : Int) < (m : Int) by omega)]
    refine it_f (st_nil (st_ret ?_))
    simp only [wpE_prim, wpEs_cons, wpEs_nil, wpE_var, wpE_cst, wpE_and, wpE_or, wpE_call, wpE_mcall, List.map_cons, List.map_nil, List.cons_append, List.nil_append, List.replicate_zero, List.replicate_succ, List.getElem?_cons_zero, List.getElem?_cons_succ, List.set_cons_zero, List.set_cons_succ, List.length_cons, List.length_nil, Nat.reduceAdd, Nat.reduceLT, true_and, wpE_cmp2]
    exact ret_same q
  cases hd : dg m with
  | nil => exact absurd hd (dg_ne m)
  | cons c r =>
    rw [hd] at rest
    simp only [wpE_prim, wpEs_cons, wpEs_nil, wpE_var, wpE_cst, wpE_and, wpE_or, wpE_call, wpE_mcall, List.map_cons, List.map_nil, List.cons_append, List.nil_append, List.replicate_zero, List.replicate_succ, List.getElem?_cons_zero, List.getElem?_cons_succ, List.set_cons_zero, List.set_cons_succ, List.length_cons, List.length_nil, Nat.reduceAdd, Nat.reduceLT, true_and, wpE_cmp2]
    refine hE pm_s0 (hE (pm_eq rd_str rd_str) (hB ?_))
    rw [eqV_str]
    by_cases hc : [c] = ['0']
    · have hm1 : m < 10 := by
        by_cases h : m < 10
        · exact h
        · exfalso
          have := dg_head m (by omega)
          rw [hd] at this
          simp at hc
          exact this (by rw [hc]; rfl)
      have hr : (c :: r).length = 1 := by rw [← hd]; exact dg_one hm1
      rw [beq_iff_eq.mpr hc]
      refine it_t ?_
      (repeat (with_reducible first | refine hB ?_ | refine it_t ?_ | refine it_f ?_ | refine hE pm_not_t ?_ | refine hE pm_not_f ?_ | refine hE pm_not ?_ | refine hE pi_int_int ?_ | refine hE pi_int_bool ?_ | refine hE pi_bool_bool ?_ | refine hE pi_bool_int ?_ | refine hE pi_str_int ?_ | refine hE pi_str_str ?_ | refine hE pi_str_tuple ?_ | refine hE pi_tup_tuple ?_ | refine hE pi_tup_str ?_ | refine hE pi_none_str ?_ | refine hE pi_none_int ?_ | refine hE pi_none_tuple ?_ | refine hE pi_bool_str ?_ | refine hE pi_bool_tuple ?_ | refine hE pi_int_str ?_ | refine hE pi_int_tuple ?_ | refine hE pi_lst_list ?_ | refine hE pi_lst_str ?_ | refine hE pi_lst_tuple ?_ | refine hE pm_add ?_ | refine hE pm_sub ?_ | refine hE pm_pow9 ?_ | refine hE pm_lt ?_ | refine hE pm_le ?_ | refine hE pm_gt ?_ | refine hE pm_ge ?_ | refine hE pm_neg ?_ | refine hE pm_lenl ?_ | refine hE pm_lens ?_ | refine hE pm_lent ?_ | refine hE pm_intb ?_ | refine hE (pm_mod (by first | decide | omega | (simp only [List.length_cons, List.length_nil, List.length_map]; omega))) ?_ | refine hE (pm_mkl (by first | decide | omega | (simp only [List.length_cons, List.length_nil, List.length_map, sizeOf']; omega))) ?_ | refine hE (pM_mkl (by first | decide | omega | (simp only [List.length_cons, List.length_nil, List.length_map, sizeOf']; omega))) ?_ | refine hE (pm_mkt (by first | decide | omega | (simp only [List.length_cons, List.length_nil, List.length_map, sizeOf']; omega))) ?_ | refine hE (pm_range1 (by first | decide | omega | (simp only [List.length_cons, List.length_nil, List.length_map]; omega))) ?_ | refine hE (pm_fdiv (by first | decide | omega | (simp only [List.length_cons, List.length_nil, List.length_map]; omega)) (by first | decide | omega | (simp only [List.length_cons, List.length_nil, List.length_map]; omega))) ?_ | refine hc_le ?_ | refine hE (pm_mul (by first | decide | omega | (simp only [List.length_cons, List.length_nil, List.length_map]; omega)) (by first | decide | omega | (simp only [List.length_cons, List.length_nil, List.length_map]; omega))) ?_ | refine hE (pm_eq rd_int rd_int) ?_))
      rw [decide_eq_false (show ¬ (1 : Int) < ((c :: r).length : Nat) by omega)]
      exact it_f (st_nil rest)
    · rw [beq_eq_false_iff_ne.mpr hc]
      exact it_f (hB (it_f (st_nil rest)))

theorem f4 {n : Nat} {k : Int} {H : AH} {Q : QE} {X : XE} (h1 : 1 ≤ k) (h2 : k ≤ 1000000000) (q : Q (.int k) H) : callF PL (n + 2) 4 [.str (strOf k)] H Q X := by
  obtain ⟨m, rfl⟩ := Int.eq_ofNat_of_zero_le (show 0 ≤ k by omega)
  rw [strOf_nat, callF_succ, P_fn4]
  refine ⟨rfl, st_asg ?_⟩
  simp only [show fn4.extra = 1 from rfl, wpE_prim, wpEs_cons, wpEs_nil, wpE_var, wpE_cst, wpE_and, wpE_or, wpE_call, wpE_mcall, List.map_cons, List.map_nil, List.cons_append, List.nil_append, List.replicate_zero, List.replicate_succ, List.getElem?_cons_zero, List.getElem?_cons_succ, List.set_cons_zero, List.set_cons_succ, List.length_cons, List.length_nil, Nat.reduceAdd, Nat.reduceLT, true_and, wpE_cmp2]
  refine f3 (by omega) (st_ite ?_)
  simp only [wpE_prim, wpEs_cons, wpEs_nil, wpE_var, wpE_cst, wpE_and, wpE_or, wpE_call, wpE_mcall, List.map_cons, List.map_nil, List.cons_append, List.nil_append, List.replicate_zero, List.replicate_succ, List.getElem?_cons_zero, List.getElem?_cons_succ, List.set_cons_zero, List.set_cons_succ, List.length_cons, List.length_nil, Nat.reduceAdd, Nat.reduceLT, true_and, wpE_cmp2]
  (repeat (with_reducible first | refine hB ?_ | refine it_t ?_ | refine it_f ?_ | refine hE pm_not_t ?_ | refine hE pm_not_f ?_ | refine hE pm_not ?_ | refine hE pi_int_int ?_ | refine hE pi_int_bool ?_ | refine hE pi_bool_bool ?_ | refine hE pi_bool_int ?_ | refine hE pi_str_int ?_ | refine hE pi_str_str ?_ | refine hE pi_str_tuple ?_ | refine hE pi_tup_tuple ?_ | refine hE pi_tup_str ?_ | refine hE pi_none_str ?_ | refine hE pi_none_int ?_ | refine hE pi_none_tuple ?_ | refine hE pi_bool_str ?_ | refine hE pi_bool_tuple ?_ | refine hE pi_int_str ?_ | refine hE pi_int_tuple ?_ | refine hE pi_lst_list ?_ | refine hE pi_lst_str ?_ | refine hE pi_lst_tuple ?_ | refine hE pm_add ?_ | refine hE pm_sub ?_ | refine hE pm_pow9 ?_ | refine hE pm_lt ?_ | refine hE pm_le ?_ | refine hE pm_gt ?_ | refine hE pm_ge ?_ | refine hE pm_neg ?_ | refine hE pm_lenl ?_ | refine hE pm_lens ?_ | refine hE pm_lent ?_ | refine hE pm_intb ?_ | refine hE (pm_mod (by first | decide | omega | (simp only [List.length_cons, List.length_nil, List.length_map]; omega))) ?_ | refine hE (pm_mkl (by first | decide | omega | (simp only [List.length_cons, List.length_nil, List.length_map, sizeOf']; omega))) ?_ | refine hE (pM_mkl (by first | decide | omega | (simp only [List.length_cons, List.length_nil, List.length_map, sizeOf']; omega))) ?_ | refine hE (pm_mkt (by first | decide | omega | (simp only [List.length_cons, List.length_nil, List.length_map, sizeOf']; omega))) ?_ | refine hE (pm_range1 (by first | decide | omega | (simp only [List.length_cons, List.length_nil, List.length_map]; omega))) ?_ | refine hE (pm_fdiv (by first | decide | omega | (simp only [List.length_cons, List.length_nil, List.length_map]; omega)) (by first | decide | omega | (simp only [List.length_cons, List.length_nil, List.length_map]; omega))) ?_ | refine hc_le ?_ | refine hE (pm_mul (by first | decide | omega | (simp only [List.length_cons, List.length_nil, List.length_map]; omega)) (by first | decide | omega | (simp only [List.length_cons, List.length_nil, List.length_map]; omega))) ?_ | refine hE (pm_eq rd_int rd_int) ?_))
  rw [eqV_int, beq_eq_false_iff_ne.mpr (show (m : Int) ≠ 0 by omega)]
  refine it_f (st_nil (st_ret ?_))
  simp only [wpE_prim, wpEs_cons, wpEs_nil, wpE_var, wpE_cst, wpE_and, wpE_or, wpE_call, wpE_mcall, List.map_cons, List.map_nil, List.cons_append, List.nil_append, List.replicate_zero, List.replicate_succ, List.getElem?_cons_zero, List.getElem?_cons_succ, List.set_cons_zero, List.set_cons_succ, List.length_cons, List.length_nil, Nat.reduceAdd, Nat.reduceLT, true_and, wpE_cmp2]
  exact ret_same q

theorem clip1 {l : Nat} (h : 1 ≤ l) : clip l 1 = 1 := by
  unfold clip
  rw [if_neg (by decide)]
  split <;> omega
theorem f5 {n : Nat} {z : Int} {H : AH} {Q : QE} {X : XE} (h1 : -1000000000 ≤ z) (h2 : z ≤ 1000000000) (q : Q (.int z) H) : callF PL (n + 2) 5 [.str (strOf z)] H Q X := by
  rw [callF_succ, P_fn5]
  refine ⟨rfl, st_ite ?_⟩
  simp only [show fn5.extra = 1 from rfl, wpE_prim, wpEs_cons, wpEs_nil, wpE_var, wpE_cst, wpE_and, wpE_or, wpE_call, wpE_mcall, List.map_cons, List.map_nil, List.cons_append, List.nil_append, List.replicate_zero, List.replicate_succ, List.getElem?_cons_zero, List.getElem?_cons_succ, List.set_cons_zero, List.set_cons_succ, List.length_cons, List.length_nil, Nat.reduceAdd, Nat.reduceLT, true_and, wpE_cmp2]
  refine hE (pm_sl_s (sz _ (Nat.le_trans (len_str ⟨h1, h2⟩) (by decide)))) (hE (pm_ne rd_str rd_str) (hB ?_))
  rw [eqV_str]
  by_cases hz : z < 0
  · rw [strOf_neg hz]
    have hc : clip ('-' :: dg (-z).toNat).length 1 = 1 := clip1 (by rw [List.length_cons]; omega)
    rw [hc]
    refine it_f (st_nil (st_asg ?_))
    simp only [wpE_prim, wpEs_cons, wpEs_nil, wpE_var, wpE_cst, wpE_and, wpE_or, wpE_call, wpE_mcall, List.map_cons, List.map_nil, List.cons_append, List.nil_append, List.replicate_zero, List.replicate_succ, List.getElem?_cons_zero, List.getElem?_cons_succ, List.set_cons_zero, List.set_cons_succ, List.length_cons, List.length_nil, Nat.reduceAdd, Nat.reduceLT, true_and, wpE_cmp2]
    refine hE (pm_sl_s' (by rw [← strOf_neg hz]; exact sz _ (Nat.le_trans (len_str ⟨h1, h2⟩) (by decide)))) ?_
    rw [hc]
    have hs : sliceL ('-' :: dg (-z).toNat) 1 ('-' :: dg (-z).toNat).length = dg (-z).toNat := by
      unfold sliceL
      rw [List.take_length]; rfl
    rw [hs]
    refine f3 (by omega) (st_ite ?_)
    simp only [wpE_prim, wpEs_cons, wpEs_nil, wpE_var, wpE_cst, wpE_and, wpE_or, wpE_call, wpE_mcall, List.map_cons, List.map_nil, List.cons_append, List.nil_append, List.replicate_zero, List.replicate_succ, List.getElem?_cons_zero, List.getElem?_cons_succ, List.set_cons_zero, List.set_cons_succ, List.length_cons, List.length_nil, Nat.reduceAdd, Nat.reduceLT, true_and, wpE_cmp2]
    (repeat (with_reducible first | refine hB ?_ | refine it_t ?_ | refine it_f ?_ | refine hE pm_not_t ?_ | refine hE pm_not_f ?_ | refine hE pm_not ?_ | refine hE pi_int_int ?_ | refine hE pi_int_bool ?_ | refine hE pi_bool_bool ?_ | refine hE pi_bool_int ?_ | refine hE pi_str_int ?_ | refine hE pi_str_str ?_ | refine hE pi_str_tuple ?_ | refine hE pi_tup_tuple ?_ | refine hE pi_tup_str ?_ | refine hE pi_none_str ?_ | refine hE pi_none_int ?_ | refine hE pi_none_tuple ?_ | refine hE pi_bool_str ?_ | refine hE pi_bool_tuple ?_ | refine hE pi_int_str ?_ | refine hE pi_int_tuple ?_ | refine hE pi_lst_list ?_ | refine hE pi_lst_str ?_ | refine hE pi_lst_tuple ?_ | refine hE pm_add ?_ | refine hE pm_sub ?_ | refine hE pm_pow9 ?_ | refine hE pm_lt ?_ | refine hE pm_le ?_ | refine hE pm_gt ?_ | refine hE pm_ge ?_ | refine hE pm_neg ?_ | refine hE pm_lenl ?_ | refine hE pm_lens ?_ | refine hE pm_lent ?_ | refine hE pm_intb ?_ | refine hE (pm_mod (by first | decide | omega | (simp only [List.length_cons, List.length_nil, List.length_map]; omega))) ?_ | refine hE (pm_mkl (by first | decide | omega | (simp only [List.length_cons, List.length_nil, List.length_map, sizeOf']; omega))) ?_ | refine hE (pM_mkl (by first | decide | omega | (simp only [List.length_cons, List.length_nil, List.length_map, sizeOf']; omega))) ?_ | refine hE (pm_mkt (by first | decide | omega | (simp only [List.length_cons, List.length_nil, List.length_map, sizeOf']; omega))) ?_ | refine hE (pm_range1 (by first | decide | omega | (simp only [List.length_cons, List.length_nil, List.length_map]; omega))) ?_ | refine hE (pm_fdiv (by first | decide | omega | (simp only [List.length_cons, List.length_nil, List.length_map]; omega)) (by first | decide | omega | (simp only [List.length_cons, List.length_nil, List.length_map]; omega))) ?_ | refine hc_le ?_ | refine hE (pm_mul (by first | decide | omega | (simp only [List.length_cons, List.length_nil, List.length_map]; omega)) (by first | decide | omega | (simp only [List.length_cons, List.length_nil, List.length_map]; omega))) ?_ | refine hE (pm_eq rd_int rd_int) ?_))
    rw [eqV_int, beq_eq_false_iff_ne.mpr (show (((-z).toNat : Nat) : Int) ≠ 0 by omega)]
    refine it_f (st_nil (st_ret ?_))
    simp only [wpE_prim, wpEs_cons, wpEs_nil, wpE_var, wpE_cst, wpE_and, wpE_or, wpE_call, wpE_mcall, List.map_cons, List.map_nil, List.cons_append, List.nil_append, List.replicate_zero, List.replicate_succ, List.getElem?_cons_zero, List.getElem?_cons_succ, List.set_cons_zero, List.set_cons_succ, List.length_cons, List.length_nil, Nat.reduceAdd, Nat.reduceLT, true_and, wpE_cmp2]
    (repeat (with_reducible first | refine hB ?_ | refine it_t ?_ | refine it_f ?_ | refine hE pm_not_t ?_ | refine hE pm_not_f ?_ | refine hE pm_not ?_ | refine hE pi_int_int ?_ | refine hE pi_int_bool ?_ | refine hE pi_bool_bool ?_ | refine hE pi_bool_int ?_ | refine hE pi_str_int ?_ | refine hE pi_str_str ?_ | refine hE pi_str_tuple ?_ | refine hE pi_tup_tuple ?_ | refine hE pi_tup_str ?_ | refine hE pi_none_str ?_ | refine hE pi_none_int ?_ | refine hE pi_none_tuple ?_ | refine hE pi_bool_str ?_ | refine hE pi_bool_tuple ?_ | refine hE pi_int_str ?_ | refine hE pi_int_tuple ?_ | refine hE pi_lst_list ?_ | refine hE pi_lst_str ?_ | refine hE pi_lst_tuple ?_ | refine hE pm_add ?_ | refine hE pm_sub ?_ | refine hE pm_pow9 ?_ | refine hE pm_lt ?_ | refine hE pm_le ?_ | refine hE pm_gt ?_ | refine hE pm_ge ?_ | refine hE pm_neg ?_ | refine hE pm_lenl ?_ | refine hE pm_lens ?_ | refine hE pm_lent ?_ | refine hE pm_intb ?_ | refine hE (pm_mod (by first | decide | omega | (simp only [List.length_cons, List.length_nil, List.length_map]; omega))) ?_ | refine hE (pm_mkl (by first | decide | omega | (simp only [List.length_cons, List.length_nil, List.length_map, sizeOf']; omega))) ?_ | refine hE (pM_mkl (by first | decide | omega | (simp only [List.length_cons, List.length_nil, List.length_map, sizeOf']; omega))) ?_ | refine hE (pm_mkt (by first | decide | omega | (simp only [List.length_cons, List.length_nil, List.length_map, sizeOf']; omega))) ?_ | refine hE (pm_range1 (by first | decide | omega | (simp only [List.length_cons, List.length_nil, List.length_map]; omega))) ?_ | refine hE (pm_fdiv (by first | decide | omega | (simp only [List.length_cons, List.length_nil, List.length_map]; omega)) (by first | decide | omega | (simp only [List.length_cons, List.length_nil, List.length_map]; omega))) ?_ | refine hc_le ?_ | refine hE (pm_mul (by first | decide | omega | (simp only [List.length_cons, List.length_nil, List.length_map]; omega)) (by first | decide | omega | (simp only [List.length_cons, List.length_nil, List.length_map]; omega))) ?_ | refine hE (pm_eq rd_int rd_int) ?_))
    rw [show (0 : Int) - ((-z).toNat : Nat) = z by omega]
    exact ret_same q
  · obtain ⟨m, rfl⟩ := Int.eq_ofNat_of_zero_le (show 0 ≤ z by omega)
    rw [strOf_nat]
    have hb : (sliceL (dg m) 0 (clip (dg m).length 1) == ['-']) = false := by
      rw [beq_eq_false_iff_ne]
      intro e
      have : '-' ∈ sliceL (dg m) 0 (clip (dg m).length 1) := by rw [e]; exact .head _
      have := List.mem_of_mem_take (List.mem_of_mem_drop this)
      exact absurd (dg_digit this) (by decide)
    rw [hb]
    refine it_t (st_ret ?_)
    simp only [wpE_prim, wpEs_cons, wpEs_nil, wpE_var, wpE_cst, wpE_and, wpE_or, wpE_call, wpE_mcall, List.map_cons, List.map_nil, List.cons_append, List.nil_append, List.replicate_zero, List.replicate_succ, List.getElem?_cons_zero, List.getElem?_cons_succ, List.set_cons_zero, List.set_cons_succ, List.length_cons, List.length_nil, Nat.reduceAdd, Nat.reduceLT, true_and, wpE_cmp2]
    exact f3 (by omega) (ret_same q)

theorem atomsS {ss : List (List Char)} : ∀ v ∈ ss.map V.str, atom v := fun v hv => by
  obtain ⟨s, _, rfl⟩ := List.mem_map.mp hv
  trivial
theorem f6 {n : Nat} {l : Lt} {H : AH} {Q : QE} {X : XE} (hl : l.ok) (q : Q (.tup l.vs) H) : callF PL (n + 3) 6 [.lst (l.ws.map V.str)] H Q X := by
  rw [callF_succ, P_fn6]
  refine ⟨rfl, st_ite ?_⟩
  simp only [wpE_prim, wpEs_cons, wpEs_nil, wpE_var, wpE_cst, wpE_and, wpE_or, wpE_call, wpE_mcall, List.map_cons, List.map_nil, List.cons_append, List.nil_append, List.replicate_zero, List.replicate_succ, List.getElem?_cons_zero, List.getElem?_cons_succ, List.set_cons_zero, List.set_cons_succ, List.length_cons, List.length_nil, Nat.reduceAdd, Nat.reduceLT, true_and, wpE_cmp2]
  (repeat (with_reducible first | refine hB ?_ | refine it_t ?_ | refine it_f ?_ | refine hE pm_not_t ?_ | refine hE pm_not_f ?_ | refine hE pm_not ?_ | refine hE pi_int_int ?_ | refine hE pi_int_bool ?_ | refine hE pi_bool_bool ?_ | refine hE pi_bool_int ?_ | refine hE pi_str_int ?_ | refine hE pi_str_str ?_ | refine hE pi_str_tuple ?_ | refine hE pi_tup_tuple ?_ | refine hE pi_tup_str ?_ | refine hE pi_none_str ?_ | refine hE pi_none_int ?_ | refine hE pi_none_tuple ?_ | refine hE pi_bool_str ?_ | refine hE pi_bool_tuple ?_ | refine hE pi_int_str ?_ | refine hE pi_int_tuple ?_ | refine hE pi_lst_list ?_ | refine hE pi_lst_str ?_ | refine hE pi_lst_tuple ?_ | refine hE pm_add ?_ | refine hE pm_sub ?_ | refine hE pm_pow9 ?_ | refine hE pm_lt ?_ | refine hE pm_le ?_ | refine hE pm_gt ?_ | refine hE pm_ge ?_ | refine hE pm_neg ?_ | refine hE pm_lenl ?_ | refine hE pm_lens ?_ | refine hE pm_lent ?_ | refine hE pm_intb ?_ | refine hE (pm_mod (by first | decide | omega | (simp only [List.length_cons, List.length_nil, List.length_map]; omega))) ?_ | refine hE (pm_mkl (by first | decide | omega | (simp only [List.length_cons, List.length_nil, List.length_map, sizeOf']; omega))) ?_ | refine hE (pM_mkl (by first | decide | omega | (simp only [List.length_cons, List.length_nil, List.length_map, sizeOf']; omega))) ?_ | refine hE (pm_mkt (by first | decide | omega | (simp only [List.length_cons, List.length_nil, List.length_map, sizeOf']; omega))) ?_ | refine hE (pm_range1 (by first | decide | omega | (simp only [List.length_cons, List.length_nil, List.length_map]; omega))) ?_ | refine hE (pm_fdiv (by first | decide | omega | (simp only [List.length_cons, List.length_nil, List.length_map]; omega)) (by first | decide | omega | (simp only [List.length_cons, List.length_nil, List.length_map]; omega))) ?_ | refine hc_le ?_ | refine hE (pm_mul (by first | decide | omega | (simp only [List.length_cons, List.length_nil, List.length_map]; omega)) (by first | decide | omega | (simp only [List.length_cons, List.length_nil, List.length_map]; omega))) ?_ | refine hE (pm_eq rd_int rd_int) ?_))
  have a1 : ∀ s : List Char, ∀ v ∈ [V.str s], atom v := fun s => atoms1
  refine hE (pm_eq (rd_lst atomsS) (rd_lst (a1 _))) (hB ?_)
  cases l with
  | fault =>
    refine it_t (hB (it_t (st_ret ?_)))
    simp only [wpE_prim, wpEs_cons, wpEs_nil, wpE_var, wpE_cst, wpE_and, wpE_or, wpE_call, wpE_mcall, List.map_cons, List.map_nil, List.cons_append, List.nil_append, List.replicate_zero, List.replicate_succ, List.getElem?_cons_zero, List.getElem?_cons_succ, List.set_cons_zero, List.set_cons_succ, List.length_cons, List.length_nil, Nat.reduceAdd, Nat.reduceLT, true_and, wpE_cmp2]
    refine hE pm_l0 ?_
    (repeat (with_reducible first | refine hB ?_ | refine it_t ?_ | refine it_f ?_ | refine hE pm_not_t ?_ | refine hE pm_not_f ?_ | refine hE pm_not ?_ | refine hE pi_int_int ?_ | refine hE pi_int_bool ?_ | refine hE pi_bool_bool ?_ | refine hE pi_bool_int ?_ | refine hE pi_str_int ?_ | refine hE pi_str_str ?_ | refine hE pi_str_tuple ?_ | refine hE pi_tup_tuple ?_ | refine hE pi_tup_str ?_ | refine hE pi_none_str ?_ | refine hE pi_none_int ?_ | refine hE pi_none_tuple ?_ | refine hE pi_bool_str ?_ | refine hE pi_bool_tuple ?_ | refine hE pi_int_str ?_ | refine hE pi_int_tuple ?_ | refine hE pi_lst_list ?_ | refine hE pi_lst_str ?_ | refine hE pi_lst_tuple ?_ | refine hE pm_add ?_ | refine hE pm_sub ?_ | refine hE pm_pow9 ?_ | refine hE pm_lt ?_ | refine hE pm_le ?_ | refine hE pm_gt ?_ | refine hE pm_ge ?_ | refine hE pm_neg ?_ | refine hE pm_lenl ?_ | refine hE pm_lens ?_ | refine hE pm_lent ?_ | refine hE pm_intb ?_ | refine hE (pm_mod (by first | decide | omega | (simp only [List.length_cons, List.length_nil, List.length_map]; omega))) ?_ | refine hE (pm_mkl (by first | decide | omega | (simp only [List.length_cons, List.length_nil, List.length_map, sizeOf']; omega))) ?_ | refine hE (pM_mkl (by first | decide | omega | (simp only [List.length_cons, List.length_nil, List.length_map, sizeOf']; omega))) ?_ | refine hE (pm_mkt (by first | decide | omega | (simp only [List.length_cons, List.length_nil, List.length_map, sizeOf']; omega))) ?_ | refine hE (pm_range1 (by first | decide | omega | (simp only [List.length_cons, List.length_nil, List.length_map]; omega))) ?_ | refine hE (pm_fdiv (by first | decide | omega | (simp only [List.length_cons, List.length_nil, List.length_map]; omega)) (by first | decide | omega | (simp only [List.length_cons, List.length_nil, List.length_map]; omega))) ?_ | refine hc_le ?_ | refine hE (pm_mul (by first | decide | omega | (simp only [List.length_cons, List.length_nil, List.length_map]; omega)) (by first | decide | omega | (simp only [List.length_cons, List.length_nil, List.length_map]; omega))) ?_ | refine hE (pm_eq rd_int rd_int) ?_))
    exact ret_same q
  | leave =>
    refine it_f ?_
    (repeat (with_reducible first | refine hB ?_ | refine it_t ?_ | refine it_f ?_ | refine hE pm_not_t ?_ | refine hE pm_not_f ?_ | refine hE pm_not ?_ | refine hE pi_int_int ?_ | refine hE pi_int_bool ?_ | refine hE pi_bool_bool ?_ | refine hE pi_bool_int ?_ | refine hE pi_str_int ?_ | refine hE pi_str_str ?_ | refine hE pi_str_tuple ?_ | refine hE pi_tup_tuple ?_ | refine hE pi_tup_str ?_ | refine hE pi_none_str ?_ | refine hE pi_none_int ?_ | refine hE pi_none_tuple ?_ | refine hE pi_bool_str ?_ | refine hE pi_bool_tuple ?_ | refine hE pi_int_str ?_ | refine hE pi_int_tuple ?_ | refine hE pi_lst_list ?_ | refine hE pi_lst_str ?_ | refine hE pi_lst_tuple ?_ | refine hE pm_add ?_ | refine hE pm_sub ?_ | refine hE pm_pow9 ?_ | refine hE pm_lt ?_ | refine hE pm_le ?_ | refine hE pm_gt ?_ | refine hE pm_ge ?_ | refine hE pm_neg ?_ | refine hE pm_lenl ?_ | refine hE pm_lens ?_ | refine hE pm_lent ?_ | refine hE pm_intb ?_ | refine hE (pm_mod (by first | decide | omega | (simp only [List.length_cons, List.length_nil, List.length_map]; omega))) ?_ | refine hE (pm_mkl (by first | decide | omega | (simp only [List.length_cons, List.length_nil, List.length_map, sizeOf']; omega))) ?_ | refine hE (pM_mkl (by first | decide | omega | (simp only [List.length_cons, List.length_nil, List.length_map, sizeOf']; omega))) ?_ | refine hE (pm_mkt (by first | decide | omega | (simp only [List.length_cons, List.length_nil, List.length_map, sizeOf']; omega))) ?_ | refine hE (pm_range1 (by first | decide | omega | (simp only [List.length_cons, List.length_nil, List.length_map]; omega))) ?_ | refine hE (pm_fdiv (by first | decide | omega | (simp only [List.length_cons, List.length_nil, List.length_map]; omega)) (by first | decide | omega | (simp only [List.length_cons, List.length_nil, List.length_map]; omega))) ?_ | refine hc_le ?_ | refine hE (pm_mul (by first | decide | omega | (simp only [List.length_cons, List.length_nil, List.length_map]; omega)) (by first | decide | omega | (simp only [List.length_cons, List.length_nil, List.length_map]; omega))) ?_ | refine hE (pm_eq rd_int rd_int) ?_))
    refine hE (pm_eq (rd_lst atomsS) (rd_lst (a1 _))) (hB (it_t (st_ret ?_)))
    simp only [wpE_prim, wpEs_cons, wpEs_nil, wpE_var, wpE_cst, wpE_and, wpE_or, wpE_call, wpE_mcall, List.map_cons, List.map_nil, List.cons_append, List.nil_append, List.replicate_zero, List.replicate_succ, List.getElem?_cons_zero, List.getElem?_cons_succ, List.set_cons_zero, List.set_cons_succ, List.length_cons, List.length_nil, Nat.reduceAdd, Nat.reduceLT, true_and, wpE_cmp2]
    refine hE pm_l0 ?_
    (repeat (with_reducible first | refine hB ?_ | refine it_t ?_ | refine it_f ?_ | refine hE pm_not_t ?_ | refine hE pm_not_f ?_ | refine hE pm_not ?_ | refine hE pi_int_int ?_ | refine hE pi_int_bool ?_ | refine hE pi_bool_bool ?_ | refine hE pi_bool_int ?_ | refine hE pi_str_int ?_ | refine hE pi_str_str ?_ | refine hE pi_str_tuple ?_ | refine hE pi_tup_tuple ?_ | refine hE pi_tup_str ?_ | refine hE pi_none_str ?_ | refine hE pi_none_int ?_ | refine hE pi_none_tuple ?_ | refine hE pi_bool_str ?_ | refine hE pi_bool_tuple ?_ | refine hE pi_int_str ?_ | refine hE pi_int_tuple ?_ | refine hE pi_lst_list ?_ | refine hE pi_lst_str ?_ | refine hE pi_lst_tuple ?_ | refine hE pm_add ?_ | refine hE pm_sub ?_ | refine hE pm_pow9 ?_ | refine hE pm_lt ?_ | refine hE pm_le ?_ | refine hE pm_gt ?_ | refine hE pm_ge ?_ | refine hE pm_neg ?_ | refine hE pm_lenl ?_ | refine hE pm_lens ?_ | refine hE pm_lent ?_ | refine hE pm_intb ?_ | refine hE (pm_mod (by first | decide | omega | (simp only [List.length_cons, List.length_nil, List.length_map]; omega))) ?_ | refine hE (pm_mkl (by first | decide | omega | (simp only [List.length_cons, List.length_nil, List.length_map, sizeOf']; omega))) ?_ | refine hE (pM_mkl (by first | decide | omega | (simp only [List.length_cons, List.length_nil, List.length_map, sizeOf']; omega))) ?_ | refine hE (pm_mkt (by first | decide | omega | (simp only [List.length_cons, List.length_nil, List.length_map, sizeOf']; omega))) ?_ | refine hE (pm_range1 (by first | decide | omega | (simp only [List.length_cons, List.length_nil, List.length_map]; omega))) ?_ | refine hE (pm_fdiv (by first | decide | omega | (simp only [List.length_cons, List.length_nil, List.length_map]; omega)) (by first | decide | omega | (simp only [List.length_cons, List.length_nil, List.length_map]; omega))) ?_ | refine hc_le ?_ | refine hE (pm_mul (by first | decide | omega | (simp only [List.length_cons, List.length_nil, List.length_map]; omega)) (by first | decide | omega | (simp only [List.length_cons, List.length_nil, List.length_map]; omega))) ?_ | refine hE (pm_eq rd_int rd_int) ?_))
    exact ret_same q
  | add z =>
    refine it_f ?_
    (repeat (with_reducible first | refine hB ?_ | refine it_t ?_ | refine it_f ?_ | refine hE pm_not_t ?_ | refine hE pm_not_f ?_ | refine hE pm_not ?_ | refine hE pi_int_int ?_ | refine hE pi_int_bool ?_ | refine hE pi_bool_bool ?_ | refine hE pi_bool_int ?_ | refine hE pi_str_int ?_ | refine hE pi_str_str ?_ | refine hE pi_str_tuple ?_ | refine hE pi_tup_tuple ?_ | refine hE pi_tup_str ?_ | refine hE pi_none_str ?_ | refine hE pi_none_int ?_ | refine hE pi_none_tuple ?_ | refine hE pi_bool_str ?_ | refine hE pi_bool_tuple ?_ | refine hE pi_int_str ?_ | refine hE pi_int_tuple ?_ | refine hE pi_lst_list ?_ | refine hE pi_lst_str ?_ | refine hE pi_lst_tuple ?_ | refine hE pm_add ?_ | refine hE pm_sub ?_ | refine hE pm_pow9 ?_ | refine hE pm_lt ?_ | refine hE pm_le ?_ | refine hE pm_gt ?_ | refine hE pm_ge ?_ | refine hE pm_neg ?_ | refine hE pm_lenl ?_ | refine hE pm_lens ?_ | refine hE pm_lent ?_ | refine hE pm_intb ?_ | refine hE (pm_mod (by first | decide | omega | (simp only [List.length_cons, List.length_nil, List.length_map]; omega))) ?_ | refine hE (pm_mkl (by first | decide | omega | (simp only [List.length_cons, List.length_nil, List.length_map, sizeOf']; omega))) ?_ | refine hE (pM_mkl (by first | decide | omega | (simp only [List.length_cons, List.length_nil, List.length_map, sizeOf']; omega))) ?_ | refine hE (pm_mkt (by first | decide | omega | (simp only [List.length_cons, List.length_nil, List.length_map, sizeOf']; omega))) ?_ | refine hE (pm_range1 (by first | decide | omega | (simp only [List.length_cons, List.length_nil, List.length_map]; omega))) ?_ | refine hE (pm_fdiv (by first | decide | omega | (simp only [List.length_cons, List.length_nil, List.length_map]; omega)) (by first | decide | omega | (simp only [List.length_cons, List.length_nil, List.length_map]; omega))) ?_ | refine hc_le ?_ | refine hE (pm_mul (by first | decide | omega | (simp only [List.length_cons, List.length_nil, List.length_map]; omega)) (by first | decide | omega | (simp only [List.length_cons, List.length_nil, List.length_map]; omega))) ?_ | refine hE (pm_eq rd_int rd_int) ?_))
    refine hE (pm_eq (rd_lst atomsS) (rd_lst (a1 _))) (hB (it_f (st_nil (st_ite ?_))))
    simp only [wpE_prim, wpEs_cons, wpEs_nil, wpE_var, wpE_cst, wpE_and, wpE_or, wpE_call, wpE_mcall, List.map_cons, List.map_nil, List.cons_append, List.nil_append, List.replicate_zero, List.replicate_succ, List.getElem?_cons_zero, List.getElem?_cons_succ, List.set_cons_zero, List.set_cons_succ, List.length_cons, List.length_nil, Nat.reduceAdd, Nat.reduceLT, true_and, wpE_cmp2]
    refine hE pm_lenl (hE (pm_ne rd_int rd_int) (hB (it_f ?_)))
    refine hE pm_l0 (hE (pm_ne rd_str rd_str) (hB (it_f (st_nil (st_ret ?_)))))
    simp only [wpE_prim, wpEs_cons, wpEs_nil, wpE_var, wpE_cst, wpE_and, wpE_or, wpE_call, wpE_mcall, List.map_cons, List.map_nil, List.cons_append, List.nil_append, List.replicate_zero, List.replicate_succ, List.getElem?_cons_zero, List.getElem?_cons_succ, List.set_cons_zero, List.set_cons_succ, List.length_cons, List.length_nil, Nat.reduceAdd, Nat.reduceLT, true_and, wpE_cmp2]
    refine hE pm_l1 (f5 hl.1 hl.2 ?_)
    (repeat (with_reducible first | refine hB ?_ | refine it_t ?_ | refine it_f ?_ | refine hE pm_not_t ?_ | refine hE pm_not_f ?_ | refine hE pm_not ?_ | refine hE pi_int_int ?_ | refine hE pi_int_bool ?_ | refine hE pi_bool_bool ?_ | refine hE pi_bool_int ?_ | refine hE pi_str_int ?_ | refine hE pi_str_str ?_ | refine hE pi_str_tuple ?_ | refine hE pi_tup_tuple ?_ | refine hE pi_tup_str ?_ | refine hE pi_none_str ?_ | refine hE pi_none_int ?_ | refine hE pi_none_tuple ?_ | refine hE pi_bool_str ?_ | refine hE pi_bool_tuple ?_ | refine hE pi_int_str ?_ | refine hE pi_int_tuple ?_ | refine hE pi_lst_list ?_ | refine hE pi_lst_str ?_ | refine hE pi_lst_tuple ?_ | refine hE pm_add ?_ | refine hE pm_sub ?_ | refine hE pm_pow9 ?_ | refine hE pm_lt ?_ | refine hE pm_le ?_ | refine hE pm_gt ?_ | refine hE pm_ge ?_ | refine hE pm_neg ?_ | refine hE pm_lenl ?_ | refine hE pm_lens ?_ | refine hE pm_lent ?_ | refine hE pm_intb ?_ | refine hE (pm_mod (by first | decide | omega | (simp only [List.length_cons, List.length_nil, List.length_map]; omega))) ?_ | refine hE (pm_mkl (by first | decide | omega | (simp only [List.length_cons, List.length_nil, List.length_map, sizeOf']; omega))) ?_ | refine hE (pM_mkl (by first | decide | omega | (simp only [List.length_cons, List.length_nil, List.length_map, sizeOf']; omega))) ?_ | refine hE (pm_mkt (by first | decide | omega | (simp only [List.length_cons, List.length_nil, List.length_map, sizeOf']; omega))) ?_ | refine hE (pm_range1 (by first | decide | omega | (simp only [List.length_cons, List.length_nil, List.length_map]; omega))) ?_ | refine hE (pm_fdiv (by first | decide | omega | (simp only [List.length_cons, List.length_nil, List.length_map]; omega)) (by first | decide | omega | (simp only [List.length_cons, List.length_nil, List.length_map]; omega))) ?_ | refine hc_le ?_ | refine hE (pm_mul (by first | decide | omega | (simp only [List.length_cons, List.length_nil, List.length_map]; omega)) (by first | decide | omega | (simp only [List.length_cons, List.length_nil, List.length_map]; omega))) ?_ | refine hE (pm_eq rd_int rd_int) ?_))
    exact ret_same q
end Mine

end
noncomputable section
open PySem
set_option maxHeartbeats 4000000
namespace Mine

theorem Lt.ws_len (l : Lt) : 1 ≤ l.ws.length ∧ l.ws.length ≤ 2 := by cases l <;> simp [Lt.ws]
theorem four_any {w : List Char} (h : w ∈ four) : ([V.str ['b', 'e', 'g', 'i', 'n', 's'], V.str ['e', 'n', 'd', 's'], V.str ['f', 'a', 'i', 'l', 's'], V.str ['l', 'e', 'a', 'v', 'e', 's']].any fun y => eqV y (.str w)) = true := by
  simp only [four, List.mem_cons, List.not_mem_nil, or_false] at h
  rcases h with rfl | rfl | rfl | rfl <;> decide
theorem two_four {w : List Char} (h : w ∈ two) : ([V.str ['b', 'e', 'g', 'i', 'n', 's'], V.str ['e', 'n', 'd', 's'], V.str ['f', 'a', 'i', 'l', 's'], V.str ['l', 'e', 'a', 'v', 'e', 's']].any fun y => eqV y (.str w)) = false := by
  simp only [two, List.mem_cons, List.not_mem_nil, or_false] at h
  rcases h with rfl | rfl <;> decide
theorem two_any {w : List Char} (h : w ∈ two) : ([V.str ['w', 'o', 'r', 'k', 's'], V.str ['l', 'o', 's', 't']].any fun y => eqV y (.str w)) = true := by
  simp only [two, List.mem_cons, List.not_mem_nil, or_false] at h
  rcases h with rfl | rfl <;> decide
theorem sl3 {a b c : V} {r : List V} : sliceL (a :: b :: c :: r) (clip (a :: b :: c :: r).length 3) (a :: b :: c :: r).length = r := by
  have : clip (a :: b :: c :: r).length 3 = 3 := by
    unfold clip
    rw [if_neg (by decide)]
    simp only [List.length_cons]
    split <;> omega
  rw [this, sliceL, List.take_length]
  rfl

theorem f7 {n : Nat} {e : Ev} {H : AH} {Q : QE} {X : XE} (he : e.ok) (q : Q e.v H) : callF PL (n + 4) 7 [.str (line e)] H Q X := by
  have hlen := line_len he
  rw [callF_succ, P_fn7]
  refine ⟨rfl, st_asg ?_⟩
  simp only [show fn7.extra = 1 from rfl, wpE_prim, wpEs_cons, wpEs_nil, wpE_var, wpE_cst, wpE_and, wpE_or, wpE_call, wpE_mcall, List.map_cons, List.map_nil, List.cons_append, List.nil_append, List.replicate_zero, List.replicate_succ, List.getElem?_cons_zero, List.getElem?_cons_succ, List.set_cons_zero, List.set_cons_succ, List.length_cons, List.length_nil, Nat.reduceAdd, Nat.reduceLT, true_and, wpE_cmp2]
  refine ⟨rfl, hE (pm_split (sz _ (by omega))) (st_ite ?_)⟩
  rw [line_split he]
  cases e with
  | two w nm =>
    obtain ⟨hw, hn⟩ := he
    simp only [Ev.ws, wpE_prim, wpEs_cons, wpEs_nil, wpE_var, wpE_cst, wpE_and, wpE_or, wpE_call, wpE_mcall, List.map_cons, List.map_nil, List.cons_append, List.nil_append, List.replicate_zero, List.replicate_succ, List.getElem?_cons_zero, List.getElem?_cons_succ, List.set_cons_zero, List.set_cons_succ, List.length_cons, List.length_nil, Nat.reduceAdd, Nat.reduceLT, true_and, wpE_cmp2]
    (repeat (with_reducible first | refine hB ?_ | refine it_t ?_ | refine it_f ?_ | refine hE pm_not_t ?_ | refine hE pm_not_f ?_ | refine hE pm_not ?_ | refine hE pi_int_int ?_ | refine hE pi_int_bool ?_ | refine hE pi_bool_bool ?_ | refine hE pi_bool_int ?_ | refine hE pi_str_int ?_ | refine hE pi_str_str ?_ | refine hE pi_str_tuple ?_ | refine hE pi_tup_tuple ?_ | refine hE pi_tup_str ?_ | refine hE pi_none_str ?_ | refine hE pi_none_int ?_ | refine hE pi_none_tuple ?_ | refine hE pi_bool_str ?_ | refine hE pi_bool_tuple ?_ | refine hE pi_int_str ?_ | refine hE pi_int_tuple ?_ | refine hE pi_lst_list ?_ | refine hE pi_lst_str ?_ | refine hE pi_lst_tuple ?_ | refine hE pm_add ?_ | refine hE pm_sub ?_ | refine hE pm_pow9 ?_ | refine hE pm_lt ?_ | refine hE pm_le ?_ | refine hE pm_gt ?_ | refine hE pm_ge ?_ | refine hE pm_neg ?_ | refine hE pm_lenl ?_ | refine hE pm_lens ?_ | refine hE pm_lent ?_ | refine hE pm_intb ?_ | refine hE (pm_mod (by first | decide | omega | (simp only [List.length_cons, List.length_nil, List.length_map]; omega))) ?_ | refine hE (pm_mkl (by first | decide | omega | (simp only [List.length_cons, List.length_nil, List.length_map, sizeOf']; omega))) ?_ | refine hE (pM_mkl (by first | decide | omega | (simp only [List.length_cons, List.length_nil, List.length_map, sizeOf']; omega))) ?_ | refine hE (pm_mkt (by first | decide | omega | (simp only [List.length_cons, List.length_nil, List.length_map, sizeOf']; omega))) ?_ | refine hE (pm_range1 (by first | decide | omega | (simp only [List.length_cons, List.length_nil, List.length_map]; omega))) ?_ | refine hE (pm_fdiv (by first | decide | omega | (simp only [List.length_cons, List.length_nil, List.length_map]; omega)) (by first | decide | omega | (simp only [List.length_cons, List.length_nil, List.length_map]; omega))) ?_ | refine hc_le ?_ | refine hE (pm_mul (by first | decide | omega | (simp only [List.length_cons, List.length_nil, List.length_map]; omega)) (by first | decide | omega | (simp only [List.length_cons, List.length_nil, List.length_map]; omega))) ?_ | refine hE (pm_eq rd_int rd_int) ?_))
    rw [decide_eq_false (by simp only [List.length_cons, List.length_nil]; omega)]
    (repeat (with_reducible first | refine hB ?_ | refine it_t ?_ | refine it_f ?_ | refine hE pm_not_t ?_ | refine hE pm_not_f ?_ | refine hE pm_not ?_ | refine hE pi_int_int ?_ | refine hE pi_int_bool ?_ | refine hE pi_bool_bool ?_ | refine hE pi_bool_int ?_ | refine hE pi_str_int ?_ | refine hE pi_str_str ?_ | refine hE pi_str_tuple ?_ | refine hE pi_tup_tuple ?_ | refine hE pi_tup_str ?_ | refine hE pi_none_str ?_ | refine hE pi_none_int ?_ | refine hE pi_none_tuple ?_ | refine hE pi_bool_str ?_ | refine hE pi_bool_tuple ?_ | refine hE pi_int_str ?_ | refine hE pi_int_tuple ?_ | refine hE pi_lst_list ?_ | refine hE pi_lst_str ?_ | refine hE pi_lst_tuple ?_ | refine hE pm_add ?_ | refine hE pm_sub ?_ | refine hE pm_pow9 ?_ | refine hE pm_lt ?_ | refine hE pm_le ?_ | refine hE pm_gt ?_ | refine hE pm_ge ?_ | refine hE pm_neg ?_ | refine hE pm_lenl ?_ | refine hE pm_lens ?_ | refine hE pm_lent ?_ | refine hE pm_intb ?_ | refine hE (pm_mod (by first | decide | omega | (simp only [List.length_cons, List.length_nil, List.length_map]; omega))) ?_ | refine hE (pm_mkl (by first | decide | omega | (simp only [List.length_cons, List.length_nil, List.length_map, sizeOf']; omega))) ?_ | refine hE (pM_mkl (by first | decide | omega | (simp only [List.length_cons, List.length_nil, List.length_map, sizeOf']; omega))) ?_ | refine hE (pm_mkt (by first | decide | omega | (simp only [List.length_cons, List.length_nil, List.length_map, sizeOf']; omega))) ?_ | refine hE (pm_range1 (by first | decide | omega | (simp only [List.length_cons, List.length_nil, List.length_map]; omega))) ?_ | refine hE (pm_fdiv (by first | decide | omega | (simp only [List.length_cons, List.length_nil, List.length_map]; omega)) (by first | decide | omega | (simp only [List.length_cons, List.length_nil, List.length_map]; omega))) ?_ | refine hc_le ?_ | refine hE (pm_mul (by first | decide | omega | (simp only [List.length_cons, List.length_nil, List.length_map]; omega)) (by first | decide | omega | (simp only [List.length_cons, List.length_nil, List.length_map]; omega))) ?_ | refine hE (pm_eq rd_int rd_int) ?_))
    refine hE pm_l1 (f0 hn ?_)
    (repeat (with_reducible first | refine hB ?_ | refine it_t ?_ | refine it_f ?_ | refine hE pm_not_t ?_ | refine hE pm_not_f ?_ | refine hE pm_not ?_ | refine hE pi_int_int ?_ | refine hE pi_int_bool ?_ | refine hE pi_bool_bool ?_ | refine hE pi_bool_int ?_ | refine hE pi_str_int ?_ | refine hE pi_str_str ?_ | refine hE pi_str_tuple ?_ | refine hE pi_tup_tuple ?_ | refine hE pi_tup_str ?_ | refine hE pi_none_str ?_ | refine hE pi_none_int ?_ | refine hE pi_none_tuple ?_ | refine hE pi_bool_str ?_ | refine hE pi_bool_tuple ?_ | refine hE pi_int_str ?_ | refine hE pi_int_tuple ?_ | refine hE pi_lst_list ?_ | refine hE pi_lst_str ?_ | refine hE pi_lst_tuple ?_ | refine hE pm_add ?_ | refine hE pm_sub ?_ | refine hE pm_pow9 ?_ | refine hE pm_lt ?_ | refine hE pm_le ?_ | refine hE pm_gt ?_ | refine hE pm_ge ?_ | refine hE pm_neg ?_ | refine hE pm_lenl ?_ | refine hE pm_lens ?_ | refine hE pm_lent ?_ | refine hE pm_intb ?_ | refine hE (pm_mod (by first | decide | omega | (simp only [List.length_cons, List.length_nil, List.length_map]; omega))) ?_ | refine hE (pm_mkl (by first | decide | omega | (simp only [List.length_cons, List.length_nil, List.length_map, sizeOf']; omega))) ?_ | refine hE (pM_mkl (by first | decide | omega | (simp only [List.length_cons, List.length_nil, List.length_map, sizeOf']; omega))) ?_ | refine hE (pm_mkt (by first | decide | omega | (simp only [List.length_cons, List.length_nil, List.length_map, sizeOf']; omega))) ?_ | refine hE (pm_range1 (by first | decide | omega | (simp only [List.length_cons, List.length_nil, List.length_map]; omega))) ?_ | refine hE (pm_fdiv (by first | decide | omega | (simp only [List.length_cons, List.length_nil, List.length_map]; omega)) (by first | decide | omega | (simp only [List.length_cons, List.length_nil, List.length_map]; omega))) ?_ | refine hc_le ?_ | refine hE (pm_mul (by first | decide | omega | (simp only [List.length_cons, List.length_nil, List.length_map]; omega)) (by first | decide | omega | (simp only [List.length_cons, List.length_nil, List.length_map]; omega))) ?_ | refine hE (pm_eq rd_int rd_int) ?_))
    refine st_nil (st_ite ?_)
    simp only [wpE_prim, wpEs_cons, wpEs_nil, wpE_var, wpE_cst, wpE_and, wpE_or, wpE_call, wpE_mcall, List.map_cons, List.map_nil, List.cons_append, List.nil_append, List.replicate_zero, List.replicate_succ, List.getElem?_cons_zero, List.getElem?_cons_succ, List.set_cons_zero, List.set_cons_succ, List.length_cons, List.length_nil, Nat.reduceAdd, Nat.reduceLT, true_and, wpE_cmp2]
    refine hE pm_l0 ?_
    (repeat (with_reducible first | refine hB ?_ | refine it_t ?_ | refine it_f ?_ | refine hE pm_not_t ?_ | refine hE pm_not_f ?_ | refine hE pm_not ?_ | refine hE pi_int_int ?_ | refine hE pi_int_bool ?_ | refine hE pi_bool_bool ?_ | refine hE pi_bool_int ?_ | refine hE pi_str_int ?_ | refine hE pi_str_str ?_ | refine hE pi_str_tuple ?_ | refine hE pi_tup_tuple ?_ | refine hE pi_tup_str ?_ | refine hE pi_none_str ?_ | refine hE pi_none_int ?_ | refine hE pi_none_tuple ?_ | refine hE pi_bool_str ?_ | refine hE pi_bool_tuple ?_ | refine hE pi_int_str ?_ | refine hE pi_int_tuple ?_ | refine hE pi_lst_list ?_ | refine hE pi_lst_str ?_ | refine hE pi_lst_tuple ?_ | refine hE pm_add ?_ | refine hE pm_sub ?_ | refine hE pm_pow9 ?_ | refine hE pm_lt ?_ | refine hE pm_le ?_ | refine hE pm_gt ?_ | refine hE pm_ge ?_ | refine hE pm_neg ?_ | refine hE pm_lenl ?_ | refine hE pm_lens ?_ | refine hE pm_lent ?_ | refine hE pm_intb ?_ | refine hE (pm_mod (by first | decide | omega | (simp only [List.length_cons, List.length_nil, List.length_map]; omega))) ?_ | refine hE (pm_mkl (by first | decide | omega | (simp only [List.length_cons, List.length_nil, List.length_map, sizeOf']; omega))) ?_ | refine hE (pM_mkl (by first | decide | omega | (simp only [List.length_cons, List.length_nil, List.length_map, sizeOf']; omega))) ?_ | refine hE (pm_mkt (by first | decide | omega | (simp only [List.length_cons, List.length_nil, List.length_map, sizeOf']; omega))) ?_ | refine hE (pm_range1 (by first | decide | omega | (simp only [List.length_cons, List.length_nil, List.length_map]; omega))) ?_ | refine hE (pm_fdiv (by first | decide | omega | (simp only [List.length_cons, List.length_nil, List.length_map]; omega)) (by first | decide | omega | (simp only [List.length_cons, List.length_nil, List.length_map]; omega))) ?_ | refine hc_le ?_ | refine hE (pm_mul (by first | decide | omega | (simp only [List.length_cons, List.length_nil, List.length_map]; omega)) (by first | decide | omega | (simp only [List.length_cons, List.length_nil, List.length_map]; omega))) ?_ | refine hE (pm_eq rd_int rd_int) ?_))
    refine hE (pm_inT rd_str rfl (by decide)) ?_
    rw [four_any hw]
    (repeat (with_reducible first | refine hB ?_ | refine it_t ?_ | refine it_f ?_ | refine hE pm_not_t ?_ | refine hE pm_not_f ?_ | refine hE pm_not ?_ | refine hE pi_int_int ?_ | refine hE pi_int_bool ?_ | refine hE pi_bool_bool ?_ | refine hE pi_bool_int ?_ | refine hE pi_str_int ?_ | refine hE pi_str_str ?_ | refine hE pi_str_tuple ?_ | refine hE pi_tup_tuple ?_ | refine hE pi_tup_str ?_ | refine hE pi_none_str ?_ | refine hE pi_none_int ?_ | refine hE pi_none_tuple ?_ | refine hE pi_bool_str ?_ | refine hE pi_bool_tuple ?_ | refine hE pi_int_str ?_ | refine hE pi_int_tuple ?_ | refine hE pi_lst_list ?_ | refine hE pi_lst_str ?_ | refine hE pi_lst_tuple ?_ | refine hE pm_add ?_ | refine hE pm_sub ?_ | refine hE pm_pow9 ?_ | refine hE pm_lt ?_ | refine hE pm_le ?_ | refine hE pm_gt ?_ | refine hE pm_ge ?_ | refine hE pm_neg ?_ | refine hE pm_lenl ?_ | refine hE pm_lens ?_ | refine hE pm_lent ?_ | refine hE pm_intb ?_ | refine hE (pm_mod (by first | decide | omega | (simp only [List.length_cons, List.length_nil, List.length_map]; omega))) ?_ | refine hE (pm_mkl (by first | decide | omega | (simp only [List.length_cons, List.length_nil, List.length_map, sizeOf']; omega))) ?_ | refine hE (pM_mkl (by first | decide | omega | (simp only [List.length_cons, List.length_nil, List.length_map, sizeOf']; omega))) ?_ | refine hE (pm_mkt (by first | decide | omega | (simp only [List.length_cons, List.length_nil, List.length_map, sizeOf']; omega))) ?_ | refine hE (pm_range1 (by first | decide | omega | (simp only [List.length_cons, List.length_nil, List.length_map]; omega))) ?_ | refine hE (pm_fdiv (by first | decide | omega | (simp only [List.length_cons, List.length_nil, List.length_map]; omega)) (by first | decide | omega | (simp only [List.length_cons, List.length_nil, List.length_map]; omega))) ?_ | refine hc_le ?_ | refine hE (pm_mul (by first | decide | omega | (simp only [List.length_cons, List.length_nil, List.length_map]; omega)) (by first | decide | omega | (simp only [List.length_cons, List.length_nil, List.length_map]; omega))) ?_ | refine hE (pm_eq rd_int rd_int) ?_))
    refine st_ret ?_
    simp only [wpE_prim, wpEs_cons, wpEs_nil, wpE_var, wpE_cst, wpE_and, wpE_or, wpE_call, wpE_mcall, List.map_cons, List.map_nil, List.cons_append, List.nil_append, List.replicate_zero, List.replicate_succ, List.getElem?_cons_zero, List.getElem?_cons_succ, List.set_cons_zero, List.set_cons_succ, List.length_cons, List.length_nil, Nat.reduceAdd, Nat.reduceLT, true_and, wpE_cmp2]
    refine hE pm_l0 (hE pm_l1 ?_)
    (repeat (with_reducible first | refine hB ?_ | refine it_t ?_ | refine it_f ?_ | refine hE pm_not_t ?_ | refine hE pm_not_f ?_ | refine hE pm_not ?_ | refine hE pi_int_int ?_ | refine hE pi_int_bool ?_ | refine hE pi_bool_bool ?_ | refine hE pi_bool_int ?_ | refine hE pi_str_int ?_ | refine hE pi_str_str ?_ | refine hE pi_str_tuple ?_ | refine hE pi_tup_tuple ?_ | refine hE pi_tup_str ?_ | refine hE pi_none_str ?_ | refine hE pi_none_int ?_ | refine hE pi_none_tuple ?_ | refine hE pi_bool_str ?_ | refine hE pi_bool_tuple ?_ | refine hE pi_int_str ?_ | refine hE pi_int_tuple ?_ | refine hE pi_lst_list ?_ | refine hE pi_lst_str ?_ | refine hE pi_lst_tuple ?_ | refine hE pm_add ?_ | refine hE pm_sub ?_ | refine hE pm_pow9 ?_ | refine hE pm_lt ?_ | refine hE pm_le ?_ | refine hE pm_gt ?_ | refine hE pm_ge ?_ | refine hE pm_neg ?_ | refine hE pm_lenl ?_ | refine hE pm_lens ?_ | refine hE pm_lent ?_ | refine hE pm_intb ?_ | refine hE (pm_mod (by first | decide | omega | (simp only [List.length_cons, List.length_nil, List.length_map]; omega))) ?_ | refine hE (pm_mkl (by first | decide | omega | (simp only [List.length_cons, List.length_nil, List.length_map, sizeOf']; omega))) ?_ | refine hE (pM_mkl (by first | decide | omega | (simp only [List.length_cons, List.length_nil, List.length_map, sizeOf']; omega))) ?_ | refine hE (pm_mkt (by first | decide | omega | (simp only [List.length_cons, List.length_nil, List.length_map, sizeOf']; omega))) ?_ | refine hE (pm_range1 (by first | decide | omega | (simp only [List.length_cons, List.length_nil, List.length_map]; omega))) ?_ | refine hE (pm_fdiv (by first | decide | omega | (simp only [List.length_cons, List.length_nil, List.length_map]; omega)) (by first | decide | omega | (simp only [List.length_cons, List.length_nil, List.length_map]; omega))) ?_ | refine hc_le ?_ | refine hE (pm_mul (by first | decide | omega | (simp only [List.length_cons, List.length_nil, List.length_map]; omega)) (by first | decide | omega | (simp only [List.length_cons, List.length_nil, List.length_map]; omega))) ?_ | refine hE (pm_eq rd_int rd_int) ?_))
    exact ret_same q
  | three w nm k =>
    obtain ⟨hw, hn, hk1, hk2⟩ := he
    simp only [Ev.ws, wpE_prim, wpEs_cons, wpEs_nil, wpE_var, wpE_cst, wpE_and, wpE_or, wpE_call, wpE_mcall, List.map_cons, List.map_nil, List.cons_append, List.nil_append, List.replicate_zero, List.replicate_succ, List.getElem?_cons_zero, List.getElem?_cons_succ, List.set_cons_zero, List.set_cons_succ, List.length_cons, List.length_nil, Nat.reduceAdd, Nat.reduceLT, true_and, wpE_cmp2]
    (repeat (with_reducible first | refine hB ?_ | refine it_t ?_ | refine it_f ?_ | refine hE pm_not_t ?_ | refine hE pm_not_f ?_ | refine hE pm_not ?_ | refine hE pi_int_int ?_ | refine hE pi_int_bool ?_ | refine hE pi_bool_bool ?_ | refine hE pi_bool_int ?_ | refine hE pi_str_int ?_ | refine hE pi_str_str ?_ | refine hE pi_str_tuple ?_ | refine hE pi_tup_tuple ?_ | refine hE pi_tup_str ?_ | refine hE pi_none_str ?_ | refine hE pi_none_int ?_ | refine hE pi_none_tuple ?_ | refine hE pi_bool_str ?_ | refine hE pi_bool_tuple ?_ | refine hE pi_int_str ?_ | refine hE pi_int_tuple ?_ | refine hE pi_lst_list ?_ | refine hE pi_lst_str ?_ | refine hE pi_lst_tuple ?_ | refine hE pm_add ?_ | refine hE pm_sub ?_ | refine hE pm_pow9 ?_ | refine hE pm_lt ?_ | refine hE pm_le ?_ | refine hE pm_gt ?_ | refine hE pm_ge ?_ | refine hE pm_neg ?_ | refine hE pm_lenl ?_ | refine hE pm_lens ?_ | refine hE pm_lent ?_ | refine hE pm_intb ?_ | refine hE (pm_mod (by first | decide | omega | (simp only [List.length_cons, List.length_nil, List.length_map]; omega))) ?_ | refine hE (pm_mkl (by first | decide | omega | (simp only [List.length_cons, List.length_nil, List.length_map, sizeOf']; omega))) ?_ | refine hE (pM_mkl (by first | decide | omega | (simp only [List.length_cons, List.length_nil, List.length_map, sizeOf']; omega))) ?_ | refine hE (pm_mkt (by first | decide | omega | (simp only [List.length_cons, List.length_nil, List.length_map, sizeOf']; omega))) ?_ | refine hE (pm_range1 (by first | decide | omega | (simp only [List.length_cons, List.length_nil, List.length_map]; omega))) ?_ | refine hE (pm_fdiv (by first | decide | omega | (simp only [List.length_cons, List.length_nil, List.length_map]; omega)) (by first | decide | omega | (simp only [List.length_cons, List.length_nil, List.length_map]; omega))) ?_ | refine hc_le ?_ | refine hE (pm_mul (by first | decide | omega | (simp only [List.length_cons, List.length_nil, List.length_map]; omega)) (by first | decide | omega | (simp only [List.length_cons, List.length_nil, List.length_map]; omega))) ?_ | refine hE (pm_eq rd_int rd_int) ?_))
    rw [decide_eq_false (by simp only [List.length_cons, List.length_nil]; omega)]
    (repeat (with_reducible first | refine hB ?_ | refine it_t ?_ | refine it_f ?_ | refine hE pm_not_t ?_ | refine hE pm_not_f ?_ | refine hE pm_not ?_ | refine hE pi_int_int ?_ | refine hE pi_int_bool ?_ | refine hE pi_bool_bool ?_ | refine hE pi_bool_int ?_ | refine hE pi_str_int ?_ | refine hE pi_str_str ?_ | refine hE pi_str_tuple ?_ | refine hE pi_tup_tuple ?_ | refine hE pi_tup_str ?_ | refine hE pi_none_str ?_ | refine hE pi_none_int ?_ | refine hE pi_none_tuple ?_ | refine hE pi_bool_str ?_ | refine hE pi_bool_tuple ?_ | refine hE pi_int_str ?_ | refine hE pi_int_tuple ?_ | refine hE pi_lst_list ?_ | refine hE pi_lst_str ?_ | refine hE pi_lst_tuple ?_ | refine hE pm_add ?_ | refine hE pm_sub ?_ | refine hE pm_pow9 ?_ | refine hE pm_lt ?_ | refine hE pm_le ?_ | refine hE pm_gt ?_ | refine hE pm_ge ?_ | refine hE pm_neg ?_ | refine hE pm_lenl ?_ | refine hE pm_lens ?_ | refine hE pm_lent ?_ | refine hE pm_intb ?_ | refine hE (pm_mod (by first | decide | omega | (simp only [List.length_cons, List.length_nil, List.length_map]; omega))) ?_ | refine hE (pm_mkl (by first | decide | omega | (simp only [List.length_cons, List.length_nil, List.length_map, sizeOf']; omega))) ?_ | refine hE (pM_mkl (by first | decide | omega | (simp only [List.length_cons, List.length_nil, List.length_map, sizeOf']; omega))) ?_ | refine hE (pm_mkt (by first | decide | omega | (simp only [List.length_cons, List.length_nil, List.length_map, sizeOf']; omega))) ?_ | refine hE (pm_range1 (by first | decide | omega | (simp only [List.length_cons, List.length_nil, List.length_map]; omega))) ?_ | refine hE (pm_fdiv (by first | decide | omega | (simp only [List.length_cons, List.length_nil, List.length_map]; omega)) (by first | decide | omega | (simp only [List.length_cons, List.length_nil, List.length_map]; omega))) ?_ | refine hc_le ?_ | refine hE (pm_mul (by first | decide | omega | (simp only [List.length_cons, List.length_nil, List.length_map]; omega)) (by first | decide | omega | (simp only [List.length_cons, List.length_nil, List.length_map]; omega))) ?_ | refine hE (pm_eq rd_int rd_int) ?_))
    refine hE pm_l1 (f0 hn ?_)
    (repeat (with_reducible first | refine hB ?_ | refine it_t ?_ | refine it_f ?_ | refine hE pm_not_t ?_ | refine hE pm_not_f ?_ | refine hE pm_not ?_ | refine hE pi_int_int ?_ | refine hE pi_int_bool ?_ | refine hE pi_bool_bool ?_ | refine hE pi_bool_int ?_ | refine hE pi_str_int ?_ | refine hE pi_str_str ?_ | refine hE pi_str_tuple ?_ | refine hE pi_tup_tuple ?_ | refine hE pi_tup_str ?_ | refine hE pi_none_str ?_ | refine hE pi_none_int ?_ | refine hE pi_none_tuple ?_ | refine hE pi_bool_str ?_ | refine hE pi_bool_tuple ?_ | refine hE pi_int_str ?_ | refine hE pi_int_tuple ?_ | refine hE pi_lst_list ?_ | refine hE pi_lst_str ?_ | refine hE pi_lst_tuple ?_ | refine hE pm_add ?_ | refine hE pm_sub ?_ | refine hE pm_pow9 ?_ | refine hE pm_lt ?_ | refine hE pm_le ?_ | refine hE pm_gt ?_ | refine hE pm_ge ?_ | refine hE pm_neg ?_ | refine hE pm_lenl ?_ | refine hE pm_lens ?_ | refine hE pm_lent ?_ | refine hE pm_intb ?_ | refine hE (pm_mod (by first | decide | omega | (simp only [List.length_cons, List.length_nil, List.length_map]; omega))) ?_ | refine hE (pm_mkl (by first | decide | omega | (simp only [List.length_cons, List.length_nil, List.length_map, sizeOf']; omega))) ?_ | refine hE (pM_mkl (by first | decide | omega | (simp only [List.length_cons, List.length_nil, List.length_map, sizeOf']; omega))) ?_ | refine hE (pm_mkt (by first | decide | omega | (simp only [List.length_cons, List.length_nil, List.length_map, sizeOf']; omega))) ?_ | refine hE (pm_range1 (by first | decide | omega | (simp only [List.length_cons, List.length_nil, List.length_map]; omega))) ?_ | refine hE (pm_fdiv (by first | decide | omega | (simp only [List.length_cons, List.length_nil, List.length_map]; omega)) (by first | decide | omega | (simp only [List.length_cons, List.length_nil, List.length_map]; omega))) ?_ | refine hc_le ?_ | refine hE (pm_mul (by first | decide | omega | (simp only [List.length_cons, List.length_nil, List.length_map]; omega)) (by first | decide | omega | (simp only [List.length_cons, List.length_nil, List.length_map]; omega))) ?_ | refine hE (pm_eq rd_int rd_int) ?_))
    refine st_nil (st_ite ?_)
    simp only [wpE_prim, wpEs_cons, wpEs_nil, wpE_var, wpE_cst, wpE_and, wpE_or, wpE_call, wpE_mcall, List.map_cons, List.map_nil, List.cons_append, List.nil_append, List.replicate_zero, List.replicate_succ, List.getElem?_cons_zero, List.getElem?_cons_succ, List.set_cons_zero, List.set_cons_succ, List.length_cons, List.length_nil, Nat.reduceAdd, Nat.reduceLT, true_and, wpE_cmp2]
    refine hE pm_l0 ?_
    (repeat (with_reducible first | refine hB ?_ | refine it_t ?_ | refine it_f ?_ | refine hE pm_not_t ?_ | refine hE pm_not_f ?_ | refine hE pm_not ?_ | refine hE pi_int_int ?_ | refine hE pi_int_bool ?_ | refine hE pi_bool_bool ?_ | refine hE pi_bool_int ?_ | refine hE pi_str_int ?_ | refine hE pi_str_str ?_ | refine hE pi_str_tuple ?_ | refine hE pi_tup_tuple ?_ | refine hE pi_tup_str ?_ | refine hE pi_none_str ?_ | refine hE pi_none_int ?_ | refine hE pi_none_tuple ?_ | refine hE pi_bool_str ?_ | refine hE pi_bool_tuple ?_ | refine hE pi_int_str ?_ | refine hE pi_int_tuple ?_ | refine hE pi_lst_list ?_ | refine hE pi_lst_str ?_ | refine hE pi_lst_tuple ?_ | refine hE pm_add ?_ | refine hE pm_sub ?_ | refine hE pm_pow9 ?_ | refine hE pm_lt ?_ | refine hE pm_le ?_ | refine hE pm_gt ?_ | refine hE pm_ge ?_ | refine hE pm_neg ?_ | refine hE pm_lenl ?_ | refine hE pm_lens ?_ | refine hE pm_lent ?_ | refine hE pm_intb ?_ | refine hE (pm_mod (by first | decide | omega | (simp only [List.length_cons, List.length_nil, List.length_map]; omega))) ?_ | refine hE (pm_mkl (by first | decide | omega | (simp only [List.length_cons, List.length_nil, List.length_map, sizeOf']; omega))) ?_ | refine hE (pM_mkl (by first | decide | omega | (simp only [List.length_cons, List.length_nil, List.length_map, sizeOf']; omega))) ?_ | refine hE (pm_mkt (by first | decide | omega | (simp only [List.length_cons, List.length_nil, List.length_map, sizeOf']; omega))) ?_ | refine hE (pm_range1 (by first | decide | omega | (simp only [List.length_cons, List.length_nil, List.length_map]; omega))) ?_ | refine hE (pm_fdiv (by first | decide | omega | (simp only [List.length_cons, List.length_nil, List.length_map]; omega)) (by first | decide | omega | (simp only [List.length_cons, List.length_nil, List.length_map]; omega))) ?_ | refine hc_le ?_ | refine hE (pm_mul (by first | decide | omega | (simp only [List.length_cons, List.length_nil, List.length_map]; omega)) (by first | decide | omega | (simp only [List.length_cons, List.length_nil, List.length_map]; omega))) ?_ | refine hE (pm_eq rd_int rd_int) ?_))
    refine hE (pm_inT rd_str rfl (by decide)) ?_
    rw [two_four hw]
    (repeat (with_reducible first | refine hB ?_ | refine it_t ?_ | refine it_f ?_ | refine hE pm_not_t ?_ | refine hE pm_not_f ?_ | refine hE pm_not ?_ | refine hE pi_int_int ?_ | refine hE pi_int_bool ?_ | refine hE pi_bool_bool ?_ | refine hE pi_bool_int ?_ | refine hE pi_str_int ?_ | refine hE pi_str_str ?_ | refine hE pi_str_tuple ?_ | refine hE pi_tup_tuple ?_ | refine hE pi_tup_str ?_ | refine hE pi_none_str ?_ | refine hE pi_none_int ?_ | refine hE pi_none_tuple ?_ | refine hE pi_bool_str ?_ | refine hE pi_bool_tuple ?_ | refine hE pi_int_str ?_ | refine hE pi_int_tuple ?_ | refine hE pi_lst_list ?_ | refine hE pi_lst_str ?_ | refine hE pi_lst_tuple ?_ | refine hE pm_add ?_ | refine hE pm_sub ?_ | refine hE pm_pow9 ?_ | refine hE pm_lt ?_ | refine hE pm_le ?_ | refine hE pm_gt ?_ | refine hE pm_ge ?_ | refine hE pm_neg ?_ | refine hE pm_lenl ?_ | refine hE pm_lens ?_ | refine hE pm_lent ?_ | refine hE pm_intb ?_ | refine hE (pm_mod (by first | decide | omega | (simp only [List.length_cons, List.length_nil, List.length_map]; omega))) ?_ | refine hE (pm_mkl (by first | decide | omega | (simp only [List.length_cons, List.length_nil, List.length_map, sizeOf']; omega))) ?_ | refine hE (pM_mkl (by first | decide | omega | (simp only [List.length_cons, List.length_nil, List.length_map, sizeOf']; omega))) ?_ | refine hE (pm_mkt (by first | decide | omega | (simp only [List.length_cons, List.length_nil, List.length_map, sizeOf']; omega))) ?_ | refine hE (pm_range1 (by first | decide | omega | (simp only [List.length_cons, List.length_nil, List.length_map]; omega))) ?_ | refine hE (pm_fdiv (by first | decide | omega | (simp only [List.length_cons, List.length_nil, List.length_map]; omega)) (by first | decide | omega | (simp only [List.length_cons, List.length_nil, List.length_map]; omega))) ?_ | refine hc_le ?_ | refine hE (pm_mul (by first | decide | omega | (simp only [List.length_cons, List.length_nil, List.length_map]; omega)) (by first | decide | omega | (simp only [List.length_cons, List.length_nil, List.length_map]; omega))) ?_ | refine hE (pm_eq rd_int rd_int) ?_))
    refine st_nil (st_ite ?_)
    simp only [wpE_prim, wpEs_cons, wpEs_nil, wpE_var, wpE_cst, wpE_and, wpE_or, wpE_call, wpE_mcall, List.map_cons, List.map_nil, List.cons_append, List.nil_append, List.replicate_zero, List.replicate_succ, List.getElem?_cons_zero, List.getElem?_cons_succ, List.set_cons_zero, List.set_cons_succ, List.length_cons, List.length_nil, Nat.reduceAdd, Nat.reduceLT, true_and, wpE_cmp2]
    refine hE pm_l0 ?_
    (repeat (with_reducible first | refine hB ?_ | refine it_t ?_ | refine it_f ?_ | refine hE pm_not_t ?_ | refine hE pm_not_f ?_ | refine hE pm_not ?_ | refine hE pi_int_int ?_ | refine hE pi_int_bool ?_ | refine hE pi_bool_bool ?_ | refine hE pi_bool_int ?_ | refine hE pi_str_int ?_ | refine hE pi_str_str ?_ | refine hE pi_str_tuple ?_ | refine hE pi_tup_tuple ?_ | refine hE pi_tup_str ?_ | refine hE pi_none_str ?_ | refine hE pi_none_int ?_ | refine hE pi_none_tuple ?_ | refine hE pi_bool_str ?_ | refine hE pi_bool_tuple ?_ | refine hE pi_int_str ?_ | refine hE pi_int_tuple ?_ | refine hE pi_lst_list ?_ | refine hE pi_lst_str ?_ | refine hE pi_lst_tuple ?_ | refine hE pm_add ?_ | refine hE pm_sub ?_ | refine hE pm_pow9 ?_ | refine hE pm_lt ?_ | refine hE pm_le ?_ | refine hE pm_gt ?_ | refine hE pm_ge ?_ | refine hE pm_neg ?_ | refine hE pm_lenl ?_ | refine hE pm_lens ?_ | refine hE pm_lent ?_ | refine hE pm_intb ?_ | refine hE (pm_mod (by first | decide | omega | (simp only [List.length_cons, List.length_nil, List.length_map]; omega))) ?_ | refine hE (pm_mkl (by first | decide | omega | (simp only [List.length_cons, List.length_nil, List.length_map, sizeOf']; omega))) ?_ | refine hE (pM_mkl (by first | decide | omega | (simp only [List.length_cons, List.length_nil, List.length_map, sizeOf']; omega))) ?_ | refine hE (pm_mkt (by first | decide | omega | (simp only [List.length_cons, List.length_nil, List.length_map, sizeOf']; omega))) ?_ | refine hE (pm_range1 (by first | decide | omega | (simp only [List.length_cons, List.length_nil, List.length_map]; omega))) ?_ | refine hE (pm_fdiv (by first | decide | omega | (simp only [List.length_cons, List.length_nil, List.length_map]; omega)) (by first | decide | omega | (simp only [List.length_cons, List.length_nil, List.length_map]; omega))) ?_ | refine hc_le ?_ | refine hE (pm_mul (by first | decide | omega | (simp only [List.length_cons, List.length_nil, List.length_map]; omega)) (by first | decide | omega | (simp only [List.length_cons, List.length_nil, List.length_map]; omega))) ?_ | refine hE (pm_eq rd_int rd_int) ?_))
    refine hE (pm_inT rd_str rfl (by decide)) ?_
    rw [two_any hw]
    (repeat (with_reducible first | refine hB ?_ | refine it_t ?_ | refine it_f ?_ | refine hE pm_not_t ?_ | refine hE pm_not_f ?_ | refine hE pm_not ?_ | refine hE pi_int_int ?_ | refine hE pi_int_bool ?_ | refine hE pi_bool_bool ?_ | refine hE pi_bool_int ?_ | refine hE pi_str_int ?_ | refine hE pi_str_str ?_ | refine hE pi_str_tuple ?_ | refine hE pi_tup_tuple ?_ | refine hE pi_tup_str ?_ | refine hE pi_none_str ?_ | refine hE pi_none_int ?_ | refine hE pi_none_tuple ?_ | refine hE pi_bool_str ?_ | refine hE pi_bool_tuple ?_ | refine hE pi_int_str ?_ | refine hE pi_int_tuple ?_ | refine hE pi_lst_list ?_ | refine hE pi_lst_str ?_ | refine hE pi_lst_tuple ?_ | refine hE pm_add ?_ | refine hE pm_sub ?_ | refine hE pm_pow9 ?_ | refine hE pm_lt ?_ | refine hE pm_le ?_ | refine hE pm_gt ?_ | refine hE pm_ge ?_ | refine hE pm_neg ?_ | refine hE pm_lenl ?_ | refine hE pm_lens ?_ | refine hE pm_lent ?_ | refine hE pm_intb ?_ | refine hE (pm_mod (by first | decide | omega | (simp only [List.length_cons, List.length_nil, List.length_map]; omega))) ?_ | refine hE (pm_mkl (by first | decide | omega | (simp only [List.length_cons, List.length_nil, List.length_map, sizeOf']; omega))) ?_ | refine hE (pM_mkl (by first | decide | omega | (simp only [List.length_cons, List.length_nil, List.length_map, sizeOf']; omega))) ?_ | refine hE (pm_mkt (by first | decide | omega | (simp only [List.length_cons, List.length_nil, List.length_map, sizeOf']; omega))) ?_ | refine hE (pm_range1 (by first | decide | omega | (simp only [List.length_cons, List.length_nil, List.length_map]; omega))) ?_ | refine hE (pm_fdiv (by first | decide | omega | (simp only [List.length_cons, List.length_nil, List.length_map]; omega)) (by first | decide | omega | (simp only [List.length_cons, List.length_nil, List.length_map]; omega))) ?_ | refine hc_le ?_ | refine hE (pm_mul (by first | decide | omega | (simp only [List.length_cons, List.length_nil, List.length_map]; omega)) (by first | decide | omega | (simp only [List.length_cons, List.length_nil, List.length_map]; omega))) ?_ | refine hE (pm_eq rd_int rd_int) ?_))
    refine st_ret ?_
    simp only [wpE_prim, wpEs_cons, wpEs_nil, wpE_var, wpE_cst, wpE_and, wpE_or, wpE_call, wpE_mcall, List.map_cons, List.map_nil, List.cons_append, List.nil_append, List.replicate_zero, List.replicate_succ, List.getElem?_cons_zero, List.getElem?_cons_succ, List.set_cons_zero, List.set_cons_succ, List.length_cons, List.length_nil, Nat.reduceAdd, Nat.reduceLT, true_and, wpE_cmp2]
    refine hE pm_l0 (hE pm_l1 (hE pm_l2 (f4 hk1 hk2 ?_)))
    (repeat (with_reducible first | refine hB ?_ | refine it_t ?_ | refine it_f ?_ | refine hE pm_not_t ?_ | refine hE pm_not_f ?_ | refine hE pm_not ?_ | refine hE pi_int_int ?_ | refine hE pi_int_bool ?_ | refine hE pi_bool_bool ?_ | refine hE pi_bool_int ?_ | refine hE pi_str_int ?_ | refine hE pi_str_str ?_ | refine hE pi_str_tuple ?_ | refine hE pi_tup_tuple ?_ | refine hE pi_tup_str ?_ | refine hE pi_none_str ?_ | refine hE pi_none_int ?_ | refine hE pi_none_tuple ?_ | refine hE pi_bool_str ?_ | refine hE pi_bool_tuple ?_ | refine hE pi_int_str ?_ | refine hE pi_int_tuple ?_ | refine hE pi_lst_list ?_ | refine hE pi_lst_str ?_ | refine hE pi_lst_tuple ?_ | refine hE pm_add ?_ | refine hE pm_sub ?_ | refine hE pm_pow9 ?_ | refine hE pm_lt ?_ | refine hE pm_le ?_ | refine hE pm_gt ?_ | refine hE pm_ge ?_ | refine hE pm_neg ?_ | refine hE pm_lenl ?_ | refine hE pm_lens ?_ | refine hE pm_lent ?_ | refine hE pm_intb ?_ | refine hE (pm_mod (by first | decide | omega | (simp only [List.length_cons, List.length_nil, List.length_map]; omega))) ?_ | refine hE (pm_mkl (by first | decide | omega | (simp only [List.length_cons, List.length_nil, List.length_map, sizeOf']; omega))) ?_ | refine hE (pM_mkl (by first | decide | omega | (simp only [List.length_cons, List.length_nil, List.length_map, sizeOf']; omega))) ?_ | refine hE (pm_mkt (by first | decide | omega | (simp only [List.length_cons, List.length_nil, List.length_map, sizeOf']; omega))) ?_ | refine hE (pm_range1 (by first | decide | omega | (simp only [List.length_cons, List.length_nil, List.length_map]; omega))) ?_ | refine hE (pm_fdiv (by first | decide | omega | (simp only [List.length_cons, List.length_nil, List.length_map]; omega)) (by first | decide | omega | (simp only [List.length_cons, List.length_nil, List.length_map]; omega))) ?_ | refine hc_le ?_ | refine hE (pm_mul (by first | decide | omega | (simp only [List.length_cons, List.length_nil, List.length_map]; omega)) (by first | decide | omega | (simp only [List.length_cons, List.length_nil, List.length_map]; omega))) ?_ | refine hE (pm_eq rd_int rd_int) ?_))
    exact ret_same q
  | sent nm k l =>
    obtain ⟨hn, ⟨hk1, hk2⟩, hl⟩ := he
    have hll := l.ws_len
    simp only [Ev.ws, wpE_prim, wpEs_cons, wpEs_nil, wpE_var, wpE_cst, wpE_and, wpE_or, wpE_call, wpE_mcall, List.map_cons, List.map_nil, List.cons_append, List.nil_append, List.replicate_zero, List.replicate_succ, List.getElem?_cons_zero, List.getElem?_cons_succ, List.set_cons_zero, List.set_cons_succ, List.length_cons, List.length_nil, Nat.reduceAdd, Nat.reduceLT, true_and, wpE_cmp2]
    (repeat (with_reducible first | refine hB ?_ | refine it_t ?_ | refine it_f ?_ | refine hE pm_not_t ?_ | refine hE pm_not_f ?_ | refine hE pm_not ?_ | refine hE pi_int_int ?_ | refine hE pi_int_bool ?_ | refine hE pi_bool_bool ?_ | refine hE pi_bool_int ?_ | refine hE pi_str_int ?_ | refine hE pi_str_str ?_ | refine hE pi_str_tuple ?_ | refine hE pi_tup_tuple ?_ | refine hE pi_tup_str ?_ | refine hE pi_none_str ?_ | refine hE pi_none_int ?_ | refine hE pi_none_tuple ?_ | refine hE pi_bool_str ?_ | refine hE pi_bool_tuple ?_ | refine hE pi_int_str ?_ | refine hE pi_int_tuple ?_ | refine hE pi_lst_list ?_ | refine hE pi_lst_str ?_ | refine hE pi_lst_tuple ?_ | refine hE pm_add ?_ | refine hE pm_sub ?_ | refine hE pm_pow9 ?_ | refine hE pm_lt ?_ | refine hE pm_le ?_ | refine hE pm_gt ?_ | refine hE pm_ge ?_ | refine hE pm_neg ?_ | refine hE pm_lenl ?_ | refine hE pm_lens ?_ | refine hE pm_lent ?_ | refine hE pm_intb ?_ | refine hE (pm_mod (by first | decide | omega | (simp only [List.length_cons, List.length_nil, List.length_map]; omega))) ?_ | refine hE (pm_mkl (by first | decide | omega | (simp only [List.length_cons, List.length_nil, List.length_map, sizeOf']; omega))) ?_ | refine hE (pM_mkl (by first | decide | omega | (simp only [List.length_cons, List.length_nil, List.length_map, sizeOf']; omega))) ?_ | refine hE (pm_mkt (by first | decide | omega | (simp only [List.length_cons, List.length_nil, List.length_map, sizeOf']; omega))) ?_ | refine hE (pm_range1 (by first | decide | omega | (simp only [List.length_cons, List.length_nil, List.length_map]; omega))) ?_ | refine hE (pm_fdiv (by first | decide | omega | (simp only [List.length_cons, List.length_nil, List.length_map]; omega)) (by first | decide | omega | (simp only [List.length_cons, List.length_nil, List.length_map]; omega))) ?_ | refine hc_le ?_ | refine hE (pm_mul (by first | decide | omega | (simp only [List.length_cons, List.length_nil, List.length_map]; omega)) (by first | decide | omega | (simp only [List.length_cons, List.length_nil, List.length_map]; omega))) ?_ | refine hE (pm_eq rd_int rd_int) ?_))
    rw [decide_eq_false (by simp only [List.length_cons, List.length_map]; omega)]
    (repeat (with_reducible first | refine hB ?_ | refine it_t ?_ | refine it_f ?_ | refine hE pm_not_t ?_ | refine hE pm_not_f ?_ | refine hE pm_not ?_ | refine hE pi_int_int ?_ | refine hE pi_int_bool ?_ | refine hE pi_bool_bool ?_ | refine hE pi_bool_int ?_ | refine hE pi_str_int ?_ | refine hE pi_str_str ?_ | refine hE pi_str_tuple ?_ | refine hE pi_tup_tuple ?_ | refine hE pi_tup_str ?_ | refine hE pi_none_str ?_ | refine hE pi_none_int ?_ | refine hE pi_none_tuple ?_ | refine hE pi_bool_str ?_ | refine hE pi_bool_tuple ?_ | refine hE pi_int_str ?_ | refine hE pi_int_tuple ?_ | refine hE pi_lst_list ?_ | refine hE pi_lst_str ?_ | refine hE pi_lst_tuple ?_ | refine hE pm_add ?_ | refine hE pm_sub ?_ | refine hE pm_pow9 ?_ | refine hE pm_lt ?_ | refine hE pm_le ?_ | refine hE pm_gt ?_ | refine hE pm_ge ?_ | refine hE pm_neg ?_ | refine hE pm_lenl ?_ | refine hE pm_lens ?_ | refine hE pm_lent ?_ | refine hE pm_intb ?_ | refine hE (pm_mod (by first | decide | omega | (simp only [List.length_cons, List.length_nil, List.length_map]; omega))) ?_ | refine hE (pm_mkl (by first | decide | omega | (simp only [List.length_cons, List.length_nil, List.length_map, sizeOf']; omega))) ?_ | refine hE (pM_mkl (by first | decide | omega | (simp only [List.length_cons, List.length_nil, List.length_map, sizeOf']; omega))) ?_ | refine hE (pm_mkt (by first | decide | omega | (simp only [List.length_cons, List.length_nil, List.length_map, sizeOf']; omega))) ?_ | refine hE (pm_range1 (by first | decide | omega | (simp only [List.length_cons, List.length_nil, List.length_map]; omega))) ?_ | refine hE (pm_fdiv (by first | decide | omega | (simp only [List.length_cons, List.length_nil, List.length_map]; omega)) (by first | decide | omega | (simp only [List.length_cons, List.length_nil, List.length_map]; omega))) ?_ | refine hc_le ?_ | refine hE (pm_mul (by first | decide | omega | (simp only [List.length_cons, List.length_nil, List.length_map]; omega)) (by first | decide | omega | (simp only [List.length_cons, List.length_nil, List.length_map]; omega))) ?_ | refine hE (pm_eq rd_int rd_int) ?_))
    refine hE pm_l1 (f0 hn ?_)
    (repeat (with_reducible first | refine hB ?_ | refine it_t ?_ | refine it_f ?_ | refine hE pm_not_t ?_ | refine hE pm_not_f ?_ | refine hE pm_not ?_ | refine hE pi_int_int ?_ | refine hE pi_int_bool ?_ | refine hE pi_bool_bool ?_ | refine hE pi_bool_int ?_ | refine hE pi_str_int ?_ | refine hE pi_str_str ?_ | refine hE pi_str_tuple ?_ | refine hE pi_tup_tuple ?_ | refine hE pi_tup_str ?_ | refine hE pi_none_str ?_ | refine hE pi_none_int ?_ | refine hE pi_none_tuple ?_ | refine hE pi_bool_str ?_ | refine hE pi_bool_tuple ?_ | refine hE pi_int_str ?_ | refine hE pi_int_tuple ?_ | refine hE pi_lst_list ?_ | refine hE pi_lst_str ?_ | refine hE pi_lst_tuple ?_ | refine hE pm_add ?_ | refine hE pm_sub ?_ | refine hE pm_pow9 ?_ | refine hE pm_lt ?_ | refine hE pm_le ?_ | refine hE pm_gt ?_ | refine hE pm_ge ?_ | refine hE pm_neg ?_ | refine hE pm_lenl ?_ | refine hE pm_lens ?_ | refine hE pm_lent ?_ | refine hE pm_intb ?_ | refine hE (pm_mod (by first | decide | omega | (simp only [List.length_cons, List.length_nil, List.length_map]; omega))) ?_ | refine hE (pm_mkl (by first | decide | omega | (simp only [List.length_cons, List.length_nil, List.length_map, sizeOf']; omega))) ?_ | refine hE (pM_mkl (by first | decide | omega | (simp only [List.length_cons, List.length_nil, List.length_map, sizeOf']; omega))) ?_ | refine hE (pm_mkt (by first | decide | omega | (simp only [List.length_cons, List.length_nil, List.length_map, sizeOf']; omega))) ?_ | refine hE (pm_range1 (by first | decide | omega | (simp only [List.length_cons, List.length_nil, List.length_map]; omega))) ?_ | refine hE (pm_fdiv (by first | decide | omega | (simp only [List.length_cons, List.length_nil, List.length_map]; omega)) (by first | decide | omega | (simp only [List.length_cons, List.length_nil, List.length_map]; omega))) ?_ | refine hc_le ?_ | refine hE (pm_mul (by first | decide | omega | (simp only [List.length_cons, List.length_nil, List.length_map]; omega)) (by first | decide | omega | (simp only [List.length_cons, List.length_nil, List.length_map]; omega))) ?_ | refine hE (pm_eq rd_int rd_int) ?_))
    refine st_nil (st_ite ?_)
    simp only [wpE_prim, wpEs_cons, wpEs_nil, wpE_var, wpE_cst, wpE_and, wpE_or, wpE_call, wpE_mcall, List.map_cons, List.map_nil, List.cons_append, List.nil_append, List.replicate_zero, List.replicate_succ, List.getElem?_cons_zero, List.getElem?_cons_succ, List.set_cons_zero, List.set_cons_succ, List.length_cons, List.length_nil, Nat.reduceAdd, Nat.reduceLT, true_and, wpE_cmp2]
    refine hE pm_l0 ?_
    (repeat (with_reducible first | refine hB ?_ | refine it_t ?_ | refine it_f ?_ | refine hE pm_not_t ?_ | refine hE pm_not_f ?_ | refine hE pm_not ?_ | refine hE pi_int_int ?_ | refine hE pi_int_bool ?_ | refine hE pi_bool_bool ?_ | refine hE pi_bool_int ?_ | refine hE pi_str_int ?_ | refine hE pi_str_str ?_ | refine hE pi_str_tuple ?_ | refine hE pi_tup_tuple ?_ | refine hE pi_tup_str ?_ | refine hE pi_none_str ?_ | refine hE pi_none_int ?_ | refine hE pi_none_tuple ?_ | refine hE pi_bool_str ?_ | refine hE pi_bool_tuple ?_ | refine hE pi_int_str ?_ | refine hE pi_int_tuple ?_ | refine hE pi_lst_list ?_ | refine hE pi_lst_str ?_ | refine hE pi_lst_tuple ?_ | refine hE pm_add ?_ | refine hE pm_sub ?_ | refine hE pm_pow9 ?_ | refine hE pm_lt ?_ | refine hE pm_le ?_ | refine hE pm_gt ?_ | refine hE pm_ge ?_ | refine hE pm_neg ?_ | refine hE pm_lenl ?_ | refine hE pm_lens ?_ | refine hE pm_lent ?_ | refine hE pm_intb ?_ | refine hE (pm_mod (by first | decide | omega | (simp only [List.length_cons, List.length_nil, List.length_map]; omega))) ?_ | refine hE (pm_mkl (by first | decide | omega | (simp only [List.length_cons, List.length_nil, List.length_map, sizeOf']; omega))) ?_ | refine hE (pM_mkl (by first | decide | omega | (simp only [List.length_cons, List.length_nil, List.length_map, sizeOf']; omega))) ?_ | refine hE (pm_mkt (by first | decide | omega | (simp only [List.length_cons, List.length_nil, List.length_map, sizeOf']; omega))) ?_ | refine hE (pm_range1 (by first | decide | omega | (simp only [List.length_cons, List.length_nil, List.length_map]; omega))) ?_ | refine hE (pm_fdiv (by first | decide | omega | (simp only [List.length_cons, List.length_nil, List.length_map]; omega)) (by first | decide | omega | (simp only [List.length_cons, List.length_nil, List.length_map]; omega))) ?_ | refine hc_le ?_ | refine hE (pm_mul (by first | decide | omega | (simp only [List.length_cons, List.length_nil, List.length_map]; omega)) (by first | decide | omega | (simp only [List.length_cons, List.length_nil, List.length_map]; omega))) ?_ | refine hE (pm_eq rd_int rd_int) ?_))
    refine hE (pm_inT rd_str rfl (by decide)) (hB ?_)
    refine it_f (hB (it_f (st_nil (st_ite ?_))))
    simp only [wpE_prim, wpEs_cons, wpEs_nil, wpE_var, wpE_cst, wpE_and, wpE_or, wpE_call, wpE_mcall, List.map_cons, List.map_nil, List.cons_append, List.nil_append, List.replicate_zero, List.replicate_succ, List.getElem?_cons_zero, List.getElem?_cons_succ, List.set_cons_zero, List.set_cons_succ, List.length_cons, List.length_nil, Nat.reduceAdd, Nat.reduceLT, true_and, wpE_cmp2]
    refine hE pm_l0 ?_
    (repeat (with_reducible first | refine hB ?_ | refine it_t ?_ | refine it_f ?_ | refine hE pm_not_t ?_ | refine hE pm_not_f ?_ | refine hE pm_not ?_ | refine hE pi_int_int ?_ | refine hE pi_int_bool ?_ | refine hE pi_bool_bool ?_ | refine hE pi_bool_int ?_ | refine hE pi_str_int ?_ | refine hE pi_str_str ?_ | refine hE pi_str_tuple ?_ | refine hE pi_tup_tuple ?_ | refine hE pi_tup_str ?_ | refine hE pi_none_str ?_ | refine hE pi_none_int ?_ | refine hE pi_none_tuple ?_ | refine hE pi_bool_str ?_ | refine hE pi_bool_tuple ?_ | refine hE pi_int_str ?_ | refine hE pi_int_tuple ?_ | refine hE pi_lst_list ?_ | refine hE pi_lst_str ?_ | refine hE pi_lst_tuple ?_ | refine hE pm_add ?_ | refine hE pm_sub ?_ | refine hE pm_pow9 ?_ | refine hE pm_lt ?_ | refine hE pm_le ?_ | refine hE pm_gt ?_ | refine hE pm_ge ?_ | refine hE pm_neg ?_ | refine hE pm_lenl ?_ | refine hE pm_lens ?_ | refine hE pm_lent ?_ | refine hE pm_intb ?_ | refine hE (pm_mod (by first | decide | omega | (simp only [List.length_cons, List.length_nil, List.length_map]; omega))) ?_ | refine hE (pm_mkl (by first | decide | omega | (simp only [List.length_cons, List.length_nil, List.length_map, sizeOf']; omega))) ?_ | refine hE (pM_mkl (by first | decide | omega | (simp only [List.length_cons, List.length_nil, List.length_map, sizeOf']; omega))) ?_ | refine hE (pm_mkt (by first | decide | omega | (simp only [List.length_cons, List.length_nil, List.length_map, sizeOf']; omega))) ?_ | refine hE (pm_range1 (by first | decide | omega | (simp only [List.length_cons, List.length_nil, List.length_map]; omega))) ?_ | refine hE (pm_fdiv (by first | decide | omega | (simp only [List.length_cons, List.length_nil, List.length_map]; omega)) (by first | decide | omega | (simp only [List.length_cons, List.length_nil, List.length_map]; omega))) ?_ | refine hc_le ?_ | refine hE (pm_mul (by first | decide | omega | (simp only [List.length_cons, List.length_nil, List.length_map]; omega)) (by first | decide | omega | (simp only [List.length_cons, List.length_nil, List.length_map]; omega))) ?_ | refine hE (pm_eq rd_int rd_int) ?_))
    refine hE (pm_inT rd_str rfl (by decide)) (hB ?_)
    refine it_f (hB (it_f (st_nil (st_ite ?_))))
    simp only [wpE_prim, wpEs_cons, wpEs_nil, wpE_var, wpE_cst, wpE_and, wpE_or, wpE_call, wpE_mcall, List.map_cons, List.map_nil, List.cons_append, List.nil_append, List.replicate_zero, List.replicate_succ, List.getElem?_cons_zero, List.getElem?_cons_succ, List.set_cons_zero, List.set_cons_succ, List.length_cons, List.length_nil, Nat.reduceAdd, Nat.reduceLT, true_and, wpE_cmp2]
    refine hE pm_l0 (hE (pm_eq rd_str rd_str) (hB (it_t ?_)))
    (repeat (with_reducible first | refine hB ?_ | refine it_t ?_ | refine it_f ?_ | refine hE pm_not_t ?_ | refine hE pm_not_f ?_ | refine hE pm_not ?_ | refine hE pi_int_int ?_ | refine hE pi_int_bool ?_ | refine hE pi_bool_bool ?_ | refine hE pi_bool_int ?_ | refine hE pi_str_int ?_ | refine hE pi_str_str ?_ | refine hE pi_str_tuple ?_ | refine hE pi_tup_tuple ?_ | refine hE pi_tup_str ?_ | refine hE pi_none_str ?_ | refine hE pi_none_int ?_ | refine hE pi_none_tuple ?_ | refine hE pi_bool_str ?_ | refine hE pi_bool_tuple ?_ | refine hE pi_int_str ?_ | refine hE pi_int_tuple ?_ | refine hE pi_lst_list ?_ | refine hE pi_lst_str ?_ | refine hE pi_lst_tuple ?_ | refine hE pm_add ?_ | refine hE pm_sub ?_ | refine hE pm_pow9 ?_ | refine hE pm_lt ?_ | refine hE pm_le ?_ | refine hE pm_gt ?_ | refine hE pm_ge ?_ | refine hE pm_neg ?_ | refine hE pm_lenl ?_ | refine hE pm_lens ?_ | refine hE pm_lent ?_ | refine hE pm_intb ?_ | refine hE (pm_mod (by first | decide | omega | (simp only [List.length_cons, List.length_nil, List.length_map]; omega))) ?_ | refine hE (pm_mkl (by first | decide | omega | (simp only [List.length_cons, List.length_nil, List.length_map, sizeOf']; omega))) ?_ | refine hE (pM_mkl (by first | decide | omega | (simp only [List.length_cons, List.length_nil, List.length_map, sizeOf']; omega))) ?_ | refine hE (pm_mkt (by first | decide | omega | (simp only [List.length_cons, List.length_nil, List.length_map, sizeOf']; omega))) ?_ | refine hE (pm_range1 (by first | decide | omega | (simp only [List.length_cons, List.length_nil, List.length_map]; omega))) ?_ | refine hE (pm_fdiv (by first | decide | omega | (simp only [List.length_cons, List.length_nil, List.length_map]; omega)) (by first | decide | omega | (simp only [List.length_cons, List.length_nil, List.length_map]; omega))) ?_ | refine hc_le ?_ | refine hE (pm_mul (by first | decide | omega | (simp only [List.length_cons, List.length_nil, List.length_map]; omega)) (by first | decide | omega | (simp only [List.length_cons, List.length_nil, List.length_map]; omega))) ?_ | refine hE (pm_eq rd_int rd_int) ?_))
    rw [decide_eq_true (by simp only [List.length_cons, List.length_map]; omega)]
    refine it_t (st_ret ?_)
    simp only [wpE_prim, wpEs_cons, wpEs_nil, wpE_var, wpE_cst, wpE_and, wpE_or, wpE_call, wpE_mcall, List.map_cons, List.map_nil, List.cons_append, List.nil_append, List.replicate_zero, List.replicate_succ, List.getElem?_cons_zero, List.getElem?_cons_succ, List.set_cons_zero, List.set_cons_succ, List.length_cons, List.length_nil, Nat.reduceAdd, Nat.reduceLT, true_and, wpE_cmp2]
    refine hE pm_l1 (hE pm_l2 (f4 hk1 hk2 ?_))
    refine hE (pm_sl_l' (by simp only [List.length_cons, List.length_map]; exact sz _ (by omega))) ?_
    rw [sl3]
    refine f6 hl ?_
    (repeat (with_reducible first | refine hB ?_ | refine it_t ?_ | refine it_f ?_ | refine hE pm_not_t ?_ | refine hE pm_not_f ?_ | refine hE pm_not ?_ | refine hE pi_int_int ?_ | refine hE pi_int_bool ?_ | refine hE pi_bool_bool ?_ | refine hE pi_bool_int ?_ | refine hE pi_str_int ?_ | refine hE pi_str_str ?_ | refine hE pi_str_tuple ?_ | refine hE pi_tup_tuple ?_ | refine hE pi_tup_str ?_ | refine hE pi_none_str ?_ | refine hE pi_none_int ?_ | refine hE pi_none_tuple ?_ | refine hE pi_bool_str ?_ | refine hE pi_bool_tuple ?_ | refine hE pi_int_str ?_ | refine hE pi_int_tuple ?_ | refine hE pi_lst_list ?_ | refine hE pi_lst_str ?_ | refine hE pi_lst_tuple ?_ | refine hE pm_add ?_ | refine hE pm_sub ?_ | refine hE pm_pow9 ?_ | refine hE pm_lt ?_ | refine hE pm_le ?_ | refine hE pm_gt ?_ | refine hE pm_ge ?_ | refine hE pm_neg ?_ | refine hE pm_lenl ?_ | refine hE pm_lens ?_ | refine hE pm_lent ?_ | refine hE pm_intb ?_ | refine hE (pm_mod (by first | decide | omega | (simp only [List.length_cons, List.length_nil, List.length_map]; omega))) ?_ | refine hE (pm_mkl (by first | decide | omega | (simp only [List.length_cons, List.length_nil, List.length_map, sizeOf']; omega))) ?_ | refine hE (pM_mkl (by first | decide | omega | (simp only [List.length_cons, List.length_nil, List.length_map, sizeOf']; omega))) ?_ | refine hE (pm_mkt (by first | decide | omega | (simp only [List.length_cons, List.length_nil, List.length_map, sizeOf']; omega))) ?_ | refine hE (pm_range1 (by first | decide | omega | (simp only [List.length_cons, List.length_nil, List.length_map]; omega))) ?_ | refine hE (pm_fdiv (by first | decide | omega | (simp only [List.length_cons, List.length_nil, List.length_map]; omega)) (by first | decide | omega | (simp only [List.length_cons, List.length_nil, List.length_map]; omega))) ?_ | refine hc_le ?_ | refine hE (pm_mul (by first | decide | omega | (simp only [List.length_cons, List.length_nil, List.length_map]; omega)) (by first | decide | omega | (simp only [List.length_cons, List.length_nil, List.length_map]; omega))) ?_ | refine hE (pm_eq rd_int rd_int) ?_))
    exact ret_same q

theorem rows_init (es : List Ev) : sliceL ((es.map line ++ [[]]).map V.str) 0 (clip ((es.map line ++ [[]]).map V.str).length (-1)) = (es.map line).map V.str := by
  have : clip ((es.map line ++ [[]]).map V.str).length (-1) = es.length := by
    unfold clip
    simp only [List.length_map, List.length_append, List.length_cons, List.length_nil]
    split
    · split <;> omega
    · omega
  rw [this, sliceL, List.map_append, List.take_append_of_le_length (by simp)]
  rw [show es.length = ((es.map line).map V.str).length by simp, List.take_length]
  rfl
mutual
theorem under_data : ∀ (v : V) (n : Nat), v.data = true → v.under n = true
  | .none, _, _ => rfl
  | .bool _, _, _ => rfl
  | .int _, _, _ => rfl
  | .str _, _, _ => rfl
  | .tup vs, n, h => unders_data vs n h
  | .lst vs, n, h => unders_data vs n h
  | .dct _ _, _, h => nomatch h
  | .rng _ _, _, h => nomatch h
  | .ref _, _, h => nomatch h
  | .exc _, _, h => nomatch h
theorem unders_data : ∀ (vs : List V) (n : Nat), V.datas vs = true → V.unders n vs = true
  | [], _, _ => rfl
  | v :: vs, n, h => by
    have h' : (V.data v && V.datas vs) = true := h
    rw [Bool.and_eq_true] at h'
    show (V.under n v && V.unders n vs) = true
    rw [under_data v n h'.1, unders_data vs n h'.2]
    rfl
end
theorem ret_evs {H : AH} {Q : QE} {es : List Ev} (q : Q (.lst (es.map Ev.v)) H) : Ret H Q (.ref H.length) (H ++ [.list (es.map Ev.v)]) :=
  .inr ⟨.lst (es.map Ev.v), .list (Nat.le_refl _) (by simp) (fzs_refl _), List.prefix_append _ _, unders_data _ _ (evs_data es).1, q⟩

theorem f8r {n : Nat} {es : List Ev} {H : AH} {Q : QE} {X : XE} (he : ∀ e ∈ es, e.ok) (hl : es.length ≤ 1000) (q : Ret H Q (.ref H.length) (H ++ [.list (es.map Ev.v)])) : callF PL (n + 5) 8 [.str (text es)] H Q X := by
  have hlen := text_len he
  have hsz : 50 * 1000 + 10 ≤ sizeOf' := by decide
  rw [callF_succ, P_fn8]
  refine ⟨rfl, st_ite ?_⟩
  simp only [show fn8.extra = 1 from rfl, wpE_prim, wpEs_cons, wpEs_nil, wpE_var, wpE_cst, wpE_and, wpE_or, wpE_call, wpE_mcall, List.map_cons, List.map_nil, List.cons_append, List.nil_append, List.replicate_zero, List.replicate_succ, List.getElem?_cons_zero, List.getElem?_cons_succ, List.set_cons_zero, List.set_cons_succ, List.length_cons, List.length_nil, Nat.reduceAdd, Nat.reduceLT, true_and, wpE_cmp2]
  (repeat (with_reducible first | refine hB ?_ | refine it_t ?_ | refine it_f ?_ | refine hE pm_not_t ?_ | refine hE pm_not_f ?_ | refine hE pm_not ?_ | refine hE pi_int_int ?_ | refine hE pi_int_bool ?_ | refine hE pi_bool_bool ?_ | refine hE pi_bool_int ?_ | refine hE pi_str_int ?_ | refine hE pi_str_str ?_ | refine hE pi_str_tuple ?_ | refine hE pi_tup_tuple ?_ | refine hE pi_tup_str ?_ | refine hE pi_none_str ?_ | refine hE pi_none_int ?_ | refine hE pi_none_tuple ?_ | refine hE pi_bool_str ?_ | refine hE pi_bool_tuple ?_ | refine hE pi_int_str ?_ | refine hE pi_int_tuple ?_ | refine hE pi_lst_list ?_ | refine hE pi_lst_str ?_ | refine hE pi_lst_tuple ?_ | refine hE pm_add ?_ | refine hE pm_sub ?_ | refine hE pm_pow9 ?_ | refine hE pm_lt ?_ | refine hE pm_le ?_ | refine hE pm_gt ?_ | refine hE pm_ge ?_ | refine hE pm_neg ?_ | refine hE pm_lenl ?_ | refine hE pm_lens ?_ | refine hE pm_lent ?_ | refine hE pm_intb ?_ | refine hE (pm_mod (by first | decide | omega | (simp only [List.length_cons, List.length_nil, List.length_map]; omega))) ?_ | refine hE (pm_mkl (by first | decide | omega | (simp only [List.length_cons, List.length_nil, List.length_map, sizeOf']; omega))) ?_ | refine hE (pM_mkl (by first | decide | omega | (simp only [List.length_cons, List.length_nil, List.length_map, sizeOf']; omega))) ?_ | refine hE (pm_mkt (by first | decide | omega | (simp only [List.length_cons, List.length_nil, List.length_map, sizeOf']; omega))) ?_ | refine hE (pm_range1 (by first | decide | omega | (simp only [List.length_cons, List.length_nil, List.length_map]; omega))) ?_ | refine hE (pm_fdiv (by first | decide | omega | (simp only [List.length_cons, List.length_nil, List.length_map]; omega)) (by first | decide | omega | (simp only [List.length_cons, List.length_nil, List.length_map]; omega))) ?_ | refine hc_le ?_ | refine hE (pm_mul (by first | decide | omega | (simp only [List.length_cons, List.length_nil, List.length_map]; omega)) (by first | decide | omega | (simp only [List.length_cons, List.length_nil, List.length_map]; omega))) ?_ | refine hE (pm_eq rd_int rd_int) ?_))
  refine st_nil (st_asg ?_)
  simp only [wpE_prim, wpEs_cons, wpEs_nil, wpE_var, wpE_cst, wpE_and, wpE_or, wpE_call, wpE_mcall, List.map_cons, List.map_nil, List.cons_append, List.nil_append, List.replicate_zero, List.replicate_succ, List.getElem?_cons_zero, List.getElem?_cons_succ, List.set_cons_zero, List.set_cons_succ, List.length_cons, List.length_nil, Nat.reduceAdd, Nat.reduceLT, true_and, wpE_cmp2]
  refine ⟨rfl, hE (pm_split (by omega)) (st_ite ?_)⟩
  rw [text_split he]
  simp only [wpE_prim, wpEs_cons, wpEs_nil, wpE_var, wpE_cst, wpE_and, wpE_or, wpE_call, wpE_mcall, List.map_cons, List.map_nil, List.cons_append, List.nil_append, List.replicate_zero, List.replicate_succ, List.getElem?_cons_zero, List.getElem?_cons_succ, List.set_cons_zero, List.set_cons_succ, List.length_cons, List.length_nil, Nat.reduceAdd, Nat.reduceLT, true_and, wpE_cmp2]
  (repeat (with_reducible first | refine hB ?_ | refine it_t ?_ | refine it_f ?_ | refine hE pm_not_t ?_ | refine hE pm_not_f ?_ | refine hE pm_not ?_ | refine hE pi_int_int ?_ | refine hE pi_int_bool ?_ | refine hE pi_bool_bool ?_ | refine hE pi_bool_int ?_ | refine hE pi_str_int ?_ | refine hE pi_str_str ?_ | refine hE pi_str_tuple ?_ | refine hE pi_tup_tuple ?_ | refine hE pi_tup_str ?_ | refine hE pi_none_str ?_ | refine hE pi_none_int ?_ | refine hE pi_none_tuple ?_ | refine hE pi_bool_str ?_ | refine hE pi_bool_tuple ?_ | refine hE pi_int_str ?_ | refine hE pi_int_tuple ?_ | refine hE pi_lst_list ?_ | refine hE pi_lst_str ?_ | refine hE pi_lst_tuple ?_ | refine hE pm_add ?_ | refine hE pm_sub ?_ | refine hE pm_pow9 ?_ | refine hE pm_lt ?_ | refine hE pm_le ?_ | refine hE pm_gt ?_ | refine hE pm_ge ?_ | refine hE pm_neg ?_ | refine hE pm_lenl ?_ | refine hE pm_lens ?_ | refine hE pm_lent ?_ | refine hE pm_intb ?_ | refine hE (pm_mod (by first | decide | omega | (simp only [List.length_cons, List.length_nil, List.length_map]; omega))) ?_ | refine hE (pm_mkl (by first | decide | omega | (simp only [List.length_cons, List.length_nil, List.length_map, sizeOf']; omega))) ?_ | refine hE (pM_mkl (by first | decide | omega | (simp only [List.length_cons, List.length_nil, List.length_map, sizeOf']; omega))) ?_ | refine hE (pm_mkt (by first | decide | omega | (simp only [List.length_cons, List.length_nil, List.length_map, sizeOf']; omega))) ?_ | refine hE (pm_range1 (by first | decide | omega | (simp only [List.length_cons, List.length_nil, List.length_map]; omega))) ?_ | refine hE (pm_fdiv (by first | decide | omega | (simp only [List.length_cons, List.length_nil, List.length_map]; omega)) (by first | decide | omega | (simp only [List.length_cons, List.length_nil, List.length_map]; omega))) ?_ | refine hc_le ?_ | refine hE (pm_mul (by first | decide | omega | (simp only [List.length_cons, List.length_nil, List.length_map]; omega)) (by first | decide | omega | (simp only [List.length_cons, List.length_nil, List.length_map]; omega))) ?_ | refine hE (pm_eq rd_int rd_int) ?_))
  refine hE (v := .str []) (H' := H) (by rw [List.map_append]; exact pm_last) (hE (pm_ne rd_str rd_str) (hB (it_f (st_nil (st_ret ?_)))))
  rw [wpE_comp]
  simp only [wpE_prim, wpEs_cons, wpEs_nil, wpE_var, wpE_cst, wpE_and, wpE_or, wpE_call, wpE_mcall, List.map_cons, List.map_nil, List.cons_append, List.nil_append, List.replicate_zero, List.replicate_succ, List.getElem?_cons_zero, List.getElem?_cons_succ, List.set_cons_zero, List.set_cons_succ, List.length_cons, List.length_nil, Nat.reduceAdd, Nat.reduceLT, true_and, wpE_cmp2]
  (repeat (with_reducible first | refine hB ?_ | refine it_t ?_ | refine it_f ?_ | refine hE pm_not_t ?_ | refine hE pm_not_f ?_ | refine hE pm_not ?_ | refine hE pi_int_int ?_ | refine hE pi_int_bool ?_ | refine hE pi_bool_bool ?_ | refine hE pi_bool_int ?_ | refine hE pi_str_int ?_ | refine hE pi_str_str ?_ | refine hE pi_str_tuple ?_ | refine hE pi_tup_tuple ?_ | refine hE pi_tup_str ?_ | refine hE pi_none_str ?_ | refine hE pi_none_int ?_ | refine hE pi_none_tuple ?_ | refine hE pi_bool_str ?_ | refine hE pi_bool_tuple ?_ | refine hE pi_int_str ?_ | refine hE pi_int_tuple ?_ | refine hE pi_lst_list ?_ | refine hE pi_lst_str ?_ | refine hE pi_lst_tuple ?_ | refine hE pm_add ?_ | refine hE pm_sub ?_ | refine hE pm_pow9 ?_ | refine hE pm_lt ?_ | refine hE pm_le ?_ | refine hE pm_gt ?_ | refine hE pm_ge ?_ | refine hE pm_neg ?_ | refine hE pm_lenl ?_ | refine hE pm_lens ?_ | refine hE pm_lent ?_ | refine hE pm_intb ?_ | refine hE (pm_mod (by first | decide | omega | (simp only [List.length_cons, List.length_nil, List.length_map]; omega))) ?_ | refine hE (pm_mkl (by first | decide | omega | (simp only [List.length_cons, List.length_nil, List.length_map, sizeOf']; omega))) ?_ | refine hE (pM_mkl (by first | decide | omega | (simp only [List.length_cons, List.length_nil, List.length_map, sizeOf']; omega))) ?_ | refine hE (pm_mkt (by first | decide | omega | (simp only [List.length_cons, List.length_nil, List.length_map, sizeOf']; omega))) ?_ | refine hE (pm_range1 (by first | decide | omega | (simp only [List.length_cons, List.length_nil, List.length_map]; omega))) ?_ | refine hE (pm_fdiv (by first | decide | omega | (simp only [List.length_cons, List.length_nil, List.length_map]; omega)) (by first | decide | omega | (simp only [List.length_cons, List.length_nil, List.length_map]; omega))) ?_ | refine hc_le ?_ | refine hE (pm_mul (by first | decide | omega | (simp only [List.length_cons, List.length_nil, List.length_map]; omega)) (by first | decide | omega | (simp only [List.length_cons, List.length_nil, List.length_map]; omega))) ?_ | refine hE (pm_eq rd_int rd_int) ?_))
  refine hE (pm_sl_l (by simp only [List.length_map, List.length_append, List.length_cons, List.length_nil]; omega)) ?_
  rw [rows_init]
  refine ⟨(es.map line).map V.str, rfl, by simp only [List.length_map]; omega, ?_⟩
  have main : ∀ (es' : List Ev) (acc : List V) (K : List V → AH → Prop), (∀ e ∈ es', e.ok) → K (acc ++ es'.map Ev.v) H →
      compL (fun x H' K => callF PL (n + 4) 7 [x] H' (fun y H'' => K (some y) H'') (RetX H X)) (fun H' => src H' (.lst ((es.map line).map V.str)) = some ((es.map line).map V.str)) ((es'.map line).map V.str) acc H K := by
    intro es'
    induction es' with
    | nil => intro acc K _ h; exact ⟨rfl, by simpa using h⟩
    | cons e es' ih =>
      intro acc K ho h
      refine ⟨rfl, f7 (ho e (.head _)) (ih _ _ (fun x hx => ho x (.tail _ hx)) ?_)⟩
      simpa using h
  refine main es [] _ he ?_
  exact hE rfl q
theorem f8 {n : Nat} {es : List Ev} {H : AH} {Q : QE} {X : XE} (he : ∀ e ∈ es, e.ok) (hl : es.length ≤ 1000) (q : Q (.lst (es.map Ev.v)) H) : callF PL (n + 5) 8 [.str (text es)] H Q X := f8r he hl (ret_evs q)
theorem f8m {n : Nat} {es : List Ev} {H : AH} {Q : QE} {X : XE} (he : ∀ e ∈ es, e.ok) (hl : es.length ≤ 1000) (q : Q (.ref H.length) (H ++ [.list (es.map Ev.v)])) : callF PL (n + 5) 8 [.str (text es)] H Q X := f8r he hl (ret_same q)
end Mine

end
noncomputable section
open PySem
set_option maxHeartbeats 4000000
namespace Mine

theorem at1 {H : AH} (o : O) : (H ++ [o])[H.length]? = some o := by simp
theorem set1 {H : AH} (o o' : O) : (H ++ [o]).set H.length o' = H ++ [o'] := by simp
theorem unders_str (n : Nat) (ss : List (List Char)) : V.unders n (ss.map V.str) = true := by
  induction ss with
  | nil => rfl
  | cons z zs ih => show (V.under n (.str z) && V.unders n _) = true; rw [ih]; rfl
theorem ret_strs {H : AH} {Q : QE} {ss : List (List Char)} (q : Q (.lst (ss.map V.str)) H) : Ret H Q (.ref H.length) (H ++ [.list (ss.map V.str)]) :=
  .inr ⟨.lst (ss.map V.str), .list (Nat.le_refl _) (by simp) (fzs_refl _), List.prefix_append _ _, unders_str _ _, q⟩
theorem ret_strs' {H : AH} {Q : QE} {o : O} {ss : List (List Char)} (q : Q (.lst (ss.map V.str)) H) : Ret H Q (.lst (ss.map V.str)) (H ++ [o]) :=
  ret_drop (List.prefix_append _ _) (unders_str _ _) q

theorem f1 {n : Nat} {e : Ev} {H : AH} {Q : QE} {X : XE} (he : e.ok) (q : Q (.lst (e.ws.map V.str)) H) : callF PL (n + 1) 1 [e.v] H Q X := by
  rw [callF_succ, P_fn1]
  refine ⟨rfl, st_asg ?_⟩
  simp only [show fn1.extra = 1 from rfl, wpE_prim, wpEs_cons, wpEs_nil, wpE_var, wpE_cst, wpE_and, wpE_or, wpE_call, wpE_mcall, List.map_cons, List.map_nil, List.cons_append, List.nil_append, List.replicate_zero, List.replicate_succ, List.getElem?_cons_zero, List.getElem?_cons_succ, List.set_cons_zero, List.set_cons_succ, List.length_cons, List.length_nil, Nat.reduceAdd, Nat.reduceLT, true_and, wpE_cmp2]
  cases e with
  | two w nm =>
    refine hE pm_t0 (hE pm_t1 ?_)
    (repeat (with_reducible first | refine hB ?_ | refine it_t ?_ | refine it_f ?_ | refine hE pm_not_t ?_ | refine hE pm_not_f ?_ | refine hE pm_not ?_ | refine hE pi_int_int ?_ | refine hE pi_int_bool ?_ | refine hE pi_bool_bool ?_ | refine hE pi_bool_int ?_ | refine hE pi_str_int ?_ | refine hE pi_str_str ?_ | refine hE pi_str_tuple ?_ | refine hE pi_tup_tuple ?_ | refine hE pi_tup_str ?_ | refine hE pi_none_str ?_ | refine hE pi_none_int ?_ | refine hE pi_none_tuple ?_ | refine hE pi_bool_str ?_ | refine hE pi_bool_tuple ?_ | refine hE pi_int_str ?_ | refine hE pi_int_tuple ?_ | refine hE pi_lst_list ?_ | refine hE pi_lst_str ?_ | refine hE pi_lst_tuple ?_ | refine hE pm_add ?_ | refine hE pm_sub ?_ | refine hE pm_pow9 ?_ | refine hE pm_lt ?_ | refine hE pm_le ?_ | refine hE pm_gt ?_ | refine hE pm_ge ?_ | refine hE pm_neg ?_ | refine hE pm_lenl ?_ | refine hE pm_lens ?_ | refine hE pm_lent ?_ | refine hE pm_intb ?_ | refine hE (pm_mod (by first | decide | omega | (simp only [List.length_cons, List.length_nil, List.length_map]; omega))) ?_ | refine hE (pm_mkl (by first | decide | omega | (simp only [List.length_cons, List.length_nil, List.length_map, sizeOf']; omega))) ?_ | refine hE (pM_mkl (by first | decide | omega | (simp only [List.length_cons, List.length_nil, List.length_map, sizeOf']; omega))) ?_ | refine hE (pm_mkt (by first | decide | omega | (simp only [List.length_cons, List.length_nil, List.length_map, sizeOf']; omega))) ?_ | refine hE (pm_range1 (by first | decide | omega | (simp only [List.length_cons, List.length_nil, List.length_map]; omega))) ?_ | refine hE (pm_fdiv (by first | decide | omega | (simp only [List.length_cons, List.length_nil, List.length_map]; omega)) (by first | decide | omega | (simp only [List.length_cons, List.length_nil, List.length_map]; omega))) ?_ | refine hc_le ?_ | refine hE (pm_mul (by first | decide | omega | (simp only [List.length_cons, List.length_nil, List.length_map]; omega)) (by first | decide | omega | (simp only [List.length_cons, List.length_nil, List.length_map]; omega))) ?_ | refine hE (pm_eq rd_int rd_int) ?_))
    refine st_ite ?_
    simp only [wpE_prim, wpEs_cons, wpEs_nil, wpE_var, wpE_cst, wpE_and, wpE_or, wpE_call, wpE_mcall, List.map_cons, List.map_nil, List.cons_append, List.nil_append, List.replicate_zero, List.replicate_succ, List.getElem?_cons_zero, List.getElem?_cons_succ, List.set_cons_zero, List.set_cons_succ, List.length_cons, List.length_nil, Nat.reduceAdd, Nat.reduceLT, true_and, wpE_cmp2]
    refine hE pm_lent (hE pm_gt (hB (it_f (st_nil (st_ite ?_)))))
    simp only [wpE_prim, wpEs_cons, wpEs_nil, wpE_var, wpE_cst, wpE_and, wpE_or, wpE_call, wpE_mcall, List.map_cons, List.map_nil, List.cons_append, List.nil_append, List.replicate_zero, List.replicate_succ, List.getElem?_cons_zero, List.getElem?_cons_succ, List.set_cons_zero, List.set_cons_succ, List.length_cons, List.length_nil, Nat.reduceAdd, Nat.reduceLT, true_and, wpE_cmp2]
    refine hE pm_lent (hE pm_gt (hB (it_f (st_nil (st_ret ?_)))))
    simp only [wpE_prim, wpEs_cons, wpEs_nil, wpE_var, wpE_cst, wpE_and, wpE_or, wpE_call, wpE_mcall, List.map_cons, List.map_nil, List.cons_append, List.nil_append, List.replicate_zero, List.replicate_succ, List.getElem?_cons_zero, List.getElem?_cons_succ, List.set_cons_zero, List.set_cons_succ, List.length_cons, List.length_nil, Nat.reduceAdd, Nat.reduceLT, true_and, wpE_cmp2]
    exact ret_strs (ss := [w, nm]) q
  | three w nm k =>
    obtain ⟨_, _, h1, h2⟩ := he
    refine hE pm_t0 (hE pm_t1 ?_)
    (repeat (with_reducible first | refine hB ?_ | refine it_t ?_ | refine it_f ?_ | refine hE pm_not_t ?_ | refine hE pm_not_f ?_ | refine hE pm_not ?_ | refine hE pi_int_int ?_ | refine hE pi_int_bool ?_ | refine hE pi_bool_bool ?_ | refine hE pi_bool_int ?_ | refine hE pi_str_int ?_ | refine hE pi_str_str ?_ | refine hE pi_str_tuple ?_ | refine hE pi_tup_tuple ?_ | refine hE pi_tup_str ?_ | refine hE pi_none_str ?_ | refine hE pi_none_int ?_ | refine hE pi_none_tuple ?_ | refine hE pi_bool_str ?_ | refine hE pi_bool_tuple ?_ | refine hE pi_int_str ?_ | refine hE pi_int_tuple ?_ | refine hE pi_lst_list ?_ | refine hE pi_lst_str ?_ | refine hE pi_lst_tuple ?_ | refine hE pm_add ?_ | refine hE pm_sub ?_ | refine hE pm_pow9 ?_ | refine hE pm_lt ?_ | refine hE pm_le ?_ | refine hE pm_gt ?_ | refine hE pm_ge ?_ | refine hE pm_neg ?_ | refine hE pm_lenl ?_ | refine hE pm_lens ?_ | refine hE pm_lent ?_ | refine hE pm_intb ?_ | refine hE (pm_mod (by first | decide | omega | (simp only [List.length_cons, List.length_nil, List.length_map]; omega))) ?_ | refine hE (pm_mkl (by first | decide | omega | (simp only [List.length_cons, List.length_nil, List.length_map, sizeOf']; omega))) ?_ | refine hE (pM_mkl (by first | decide | omega | (simp only [List.length_cons, List.length_nil, List.length_map, sizeOf']; omega))) ?_ | refine hE (pm_mkt (by first | decide | omega | (simp only [List.length_cons, List.length_nil, List.length_map, sizeOf']; omega))) ?_ | refine hE (pm_range1 (by first | decide | omega | (simp only [List.length_cons, List.length_nil, List.length_map]; omega))) ?_ | refine hE (pm_fdiv (by first | decide | omega | (simp only [List.length_cons, List.length_nil, List.length_map]; omega)) (by first | decide | omega | (simp only [List.length_cons, List.length_nil, List.length_map]; omega))) ?_ | refine hc_le ?_ | refine hE (pm_mul (by first | decide | omega | (simp only [List.length_cons, List.length_nil, List.length_map]; omega)) (by first | decide | omega | (simp only [List.length_cons, List.length_nil, List.length_map]; omega))) ?_ | refine hE (pm_eq rd_int rd_int) ?_))
    refine st_ite ?_
    simp only [wpE_prim, wpEs_cons, wpEs_nil, wpE_var, wpE_cst, wpE_and, wpE_or, wpE_call, wpE_mcall, List.map_cons, List.map_nil, List.cons_append, List.nil_append, List.replicate_zero, List.replicate_succ, List.getElem?_cons_zero, List.getElem?_cons_succ, List.set_cons_zero, List.set_cons_succ, List.length_cons, List.length_nil, Nat.reduceAdd, Nat.reduceLT, true_and, wpE_cmp2]
    refine hE pm_lent (hE pm_gt (hB (it_t (st_expr ?_))))
    simp only [wpE_prim, wpEs_cons, wpEs_nil, wpE_var, wpE_cst, wpE_and, wpE_or, wpE_call, wpE_mcall, List.map_cons, List.map_nil, List.cons_append, List.nil_append, List.replicate_zero, List.replicate_succ, List.getElem?_cons_zero, List.getElem?_cons_succ, List.set_cons_zero, List.set_cons_succ, List.length_cons, List.length_nil, Nat.reduceAdd, Nat.reduceLT, true_and, wpE_cmp2]
    refine ⟨ty_list (at1 _), hE pm_t2 (hE (pm_stri (by omega)) (hE (pm_append (at1 _) (sz 2 (by decide))) (st_nil (st_ite ?_))))⟩
    rw [set1]
    simp only [wpE_prim, wpEs_cons, wpEs_nil, wpE_var, wpE_cst, wpE_and, wpE_or, wpE_call, wpE_mcall, List.map_cons, List.map_nil, List.cons_append, List.nil_append, List.replicate_zero, List.replicate_succ, List.getElem?_cons_zero, List.getElem?_cons_succ, List.set_cons_zero, List.set_cons_succ, List.length_cons, List.length_nil, Nat.reduceAdd, Nat.reduceLT, true_and, wpE_cmp2]
    refine hE pm_lent (hE pm_gt (hB (it_f (st_nil (st_ret ?_)))))
    simp only [wpE_prim, wpEs_cons, wpEs_nil, wpE_var, wpE_cst, wpE_and, wpE_or, wpE_call, wpE_mcall, List.map_cons, List.map_nil, List.cons_append, List.nil_append, List.replicate_zero, List.replicate_succ, List.getElem?_cons_zero, List.getElem?_cons_succ, List.set_cons_zero, List.set_cons_succ, List.length_cons, List.length_nil, Nat.reduceAdd, Nat.reduceLT, true_and, wpE_cmp2]
    exact ret_strs (ss := [w, nm, strOf k]) q
  | sent nm k l =>
    obtain ⟨_, ⟨h1, h2⟩, hl⟩ := he
    refine hE pm_t0 (hE pm_t1 ?_)
    (repeat (with_reducible first | refine hB ?_ | refine it_t ?_ | refine it_f ?_ | refine hE pm_not_t ?_ | refine hE pm_not_f ?_ | refine hE pm_not ?_ | refine hE pi_int_int ?_ | refine hE pi_int_bool ?_ | refine hE pi_bool_bool ?_ | refine hE pi_bool_int ?_ | refine hE pi_str_int ?_ | refine hE pi_str_str ?_ | refine hE pi_str_tuple ?_ | refine hE pi_tup_tuple ?_ | refine hE pi_tup_str ?_ | refine hE pi_none_str ?_ | refine hE pi_none_int ?_ | refine hE pi_none_tuple ?_ | refine hE pi_bool_str ?_ | refine hE pi_bool_tuple ?_ | refine hE pi_int_str ?_ | refine hE pi_int_tuple ?_ | refine hE pi_lst_list ?_ | refine hE pi_lst_str ?_ | refine hE pi_lst_tuple ?_ | refine hE pm_add ?_ | refine hE pm_sub ?_ | refine hE pm_pow9 ?_ | refine hE pm_lt ?_ | refine hE pm_le ?_ | refine hE pm_gt ?_ | refine hE pm_ge ?_ | refine hE pm_neg ?_ | refine hE pm_lenl ?_ | refine hE pm_lens ?_ | refine hE pm_lent ?_ | refine hE pm_intb ?_ | refine hE (pm_mod (by first | decide | omega | (simp only [List.length_cons, List.length_nil, List.length_map]; omega))) ?_ | refine hE (pm_mkl (by first | decide | omega | (simp only [List.length_cons, List.length_nil, List.length_map, sizeOf']; omega))) ?_ | refine hE (pM_mkl (by first | decide | omega | (simp only [List.length_cons, List.length_nil, List.length_map, sizeOf']; omega))) ?_ | refine hE (pm_mkt (by first | decide | omega | (simp only [List.length_cons, List.length_nil, List.length_map, sizeOf']; omega))) ?_ | refine hE (pm_range1 (by first | decide | omega | (simp only [List.length_cons, List.length_nil, List.length_map]; omega))) ?_ | refine hE (pm_fdiv (by first | decide | omega | (simp only [List.length_cons, List.length_nil, List.length_map]; omega)) (by first | decide | omega | (simp only [List.length_cons, List.length_nil, List.length_map]; omega))) ?_ | refine hc_le ?_ | refine hE (pm_mul (by first | decide | omega | (simp only [List.length_cons, List.length_nil, List.length_map]; omega)) (by first | decide | omega | (simp only [List.length_cons, List.length_nil, List.length_map]; omega))) ?_ | refine hE (pm_eq rd_int rd_int) ?_))
    refine st_ite ?_
    simp only [wpE_prim, wpEs_cons, wpEs_nil, wpE_var, wpE_cst, wpE_and, wpE_or, wpE_call, wpE_mcall, List.map_cons, List.map_nil, List.cons_append, List.nil_append, List.replicate_zero, List.replicate_succ, List.getElem?_cons_zero, List.getElem?_cons_succ, List.set_cons_zero, List.set_cons_succ, List.length_cons, List.length_nil, Nat.reduceAdd, Nat.reduceLT, true_and, wpE_cmp2]
    refine hE pm_lent (hE pm_gt (hB (it_t (st_expr ?_))))
    simp only [wpE_prim, wpEs_cons, wpEs_nil, wpE_var, wpE_cst, wpE_and, wpE_or, wpE_call, wpE_mcall, List.map_cons, List.map_nil, List.cons_append, List.nil_append, List.replicate_zero, List.replicate_succ, List.getElem?_cons_zero, List.getElem?_cons_succ, List.set_cons_zero, List.set_cons_succ, List.length_cons, List.length_nil, Nat.reduceAdd, Nat.reduceLT, true_and, wpE_cmp2]
    refine ⟨ty_list (at1 _), hE pm_t2 (hE (pm_stri (by omega)) (hE (pm_append (at1 _) (sz 2 (by decide))) (st_nil (st_ite ?_))))⟩
    rw [set1]
    simp only [wpE_prim, wpEs_cons, wpEs_nil, wpE_var, wpE_cst, wpE_and, wpE_or, wpE_call, wpE_mcall, List.map_cons, List.map_nil, List.cons_append, List.nil_append, List.replicate_zero, List.replicate_succ, List.getElem?_cons_zero, List.getElem?_cons_succ, List.set_cons_zero, List.set_cons_succ, List.length_cons, List.length_nil, Nat.reduceAdd, Nat.reduceLT, true_and, wpE_cmp2]
    refine hE pm_lent (hE pm_gt (hB (it_t (st_asg ?_))))
    simp only [wpE_prim, wpEs_cons, wpEs_nil, wpE_var, wpE_cst, wpE_and, wpE_or, wpE_call, wpE_mcall, List.map_cons, List.map_nil, List.cons_append, List.nil_append, List.replicate_zero, List.replicate_succ, List.getElem?_cons_zero, List.getElem?_cons_succ, List.set_cons_zero, List.set_cons_succ, List.length_cons, List.length_nil, Nat.reduceAdd, Nat.reduceLT, true_and, wpE_cmp2]
    rw [wpE_comp]
    simp only [wpE_prim, wpEs_cons, wpEs_nil, wpE_var, wpE_cst, wpE_and, wpE_or, wpE_call, wpE_mcall, List.map_cons, List.map_nil, List.cons_append, List.nil_append, List.replicate_zero, List.replicate_succ, List.getElem?_cons_zero, List.getElem?_cons_succ, List.set_cons_zero, List.set_cons_succ, List.length_cons, List.length_nil, Nat.reduceAdd, Nat.reduceLT, true_and, wpE_cmp2]
    refine hE pm_t3 ⟨l.vs, rfl, by cases l <;> exact sz _ (by simp [Lt.vs]), compL_pure (g := fun x => match x with | .str s => some (.str s) | .int i => some (.str (strOf i)) | _ => none) (by exact rfl) (fun x hx K hK => ?_) ?_⟩
    · cases l with
      | fault => cases hx with | head => exact hE pm_strs hK | tail _ h => cases h
      | leave => cases hx with | head => exact hE pm_strs hK | tail _ h => cases h
      | add z =>
        obtain ⟨z1, z2⟩ := hl
        cases hx with
        | head => exact hE pm_strs hK
        | tail _ h => cases h with | head => exact hE (pm_stri (by omega)) hK | tail _ h => cases h
    · have hf : [] ++ l.vs.filterMap (fun x => match x with | .str s => some (V.str s) | .int i => some (.str (strOf i)) | _ => none) = l.ws.map V.str := by cases l <;> rfl
      rw [hf]
      have hll := l.ws_len
      refine hE rfl (hE (v := .lst ((wSent :: nm :: strOf k :: l.ws).map V.str)) (H' := H ++ [.list [.str wSent, .str nm, .str (strOf k)]]) ?_ (st_nil (st_ret ?_)))
      · have hsz : [V.str wSent, V.str nm, V.str (strOf k)].length + (l.ws.map V.str).length ≤ sizeOf' := by
          simp only [List.length_cons, List.length_nil, List.length_map]; exact sz _ (by omega)
        show (binop .add (.ref H.length) (.lst (l.ws.map V.str)) _).map _ = _
        show (addL (H ++ [.list [.str wSent, .str nm, .str (strOf k)]]) (.ref H.length) (.lst (l.ws.map V.str))).map _ = _
        simp only [addL, view, at1, hsz, if_true, Option.map_some]
        rfl
      · simp only [wpE_prim, wpEs_cons, wpEs_nil, wpE_var, wpE_cst, wpE_and, wpE_or, wpE_call, wpE_mcall, List.map_cons, List.map_nil, List.cons_append, List.nil_append, List.replicate_zero, List.replicate_succ, List.getElem?_cons_zero, List.getElem?_cons_succ, List.set_cons_zero, List.set_cons_succ, List.length_cons, List.length_nil, Nat.reduceAdd, Nat.reduceLT, true_and, wpE_cmp2]
        exact ret_strs' q

theorem f2 {n : Nat} {es : List Ev} {v : V} {H : AH} {Q : QE} {X : XE} (hv : src H v = some (es.map Ev.v)) (he : ∀ e ∈ es, e.ok) (hl : es.length ≤ 1000) (q : Q (.str (text es)) H) : callF PL (n + 2) 2 [v] H Q X := by
  have hlen := text_len he
  have hsz : 50 * 1000 + 10 ≤ sizeOf' := by decide
  rw [callF_succ, P_fn2]
  refine ⟨rfl, st_ret ?_⟩
  simp only [wpE_prim, wpEs_cons, wpEs_nil, wpE_var, wpE_cst, wpE_and, wpE_or, wpE_call, wpE_mcall, List.map_cons, List.map_nil, List.cons_append, List.nil_append, List.replicate_zero, List.replicate_succ, List.getElem?_cons_zero, List.getElem?_cons_succ, List.set_cons_zero, List.set_cons_succ, List.length_cons, List.length_nil, Nat.reduceAdd, Nat.reduceLT, true_and, wpE_cmp2]
  refine ⟨rfl, ?_⟩
  rw [wpE_comp]
  simp only [wpE_prim, wpEs_cons, wpEs_nil, wpE_var, wpE_cst, wpE_and, wpE_or, wpE_call, wpE_mcall, List.map_cons, List.map_nil, List.cons_append, List.nil_append, List.replicate_zero, List.replicate_succ, List.getElem?_cons_zero, List.getElem?_cons_succ, List.set_cons_zero, List.set_cons_succ, List.length_cons, List.length_nil, Nat.reduceAdd, Nat.reduceLT, true_and, wpE_cmp2]
  refine ⟨es.map Ev.v, hv, by rw [List.length_map]; omega, ?_⟩
  have main : ∀ (es' : List Ev) (acc : List V) (K : List V → AH → Prop), (∀ e ∈ es', e.ok) → K (acc ++ (es'.map fun e => line e ++ ['\n']).map V.str) H →
      compL (fun x H' K => hasTy H' (.str [' ']) .str = true ∧ callF PL (n + 1) 1 [x] H' (fun v H'' => okE (primM PL false .join [.str [' '], v] H'') fun v H' => okE (primM PL false (.bop .add) [v, .str ['\n']] H') fun y H'' => K (some y) H'') (RetX H X)) (fun H' => src H' v = some (es.map Ev.v)) (es'.map Ev.v) acc H K := by
    intro es'
    induction es' with
    | nil => intro acc K _ h; exact ⟨hv, by simpa using h⟩
    | cons e es' ih =>
      intro acc K ho h
      have hll := line_len (ho e (.head _))
      refine ⟨hv, rfl, f1 (ho e (.head _)) (hE (pm_join rfl (by change (line e).length ≤ sizeOf'; exact sz _ (by omega)) ?_) (hE (pm_adds (by change (line e).length + 1 ≤ sizeOf'; exact sz _ (by omega))) (ih _ _ (fun x hx => ho x (.tail _ hx)) ?_)))⟩
      · cases e with
        | two => exact sz 2 (by decide)
        | three => exact sz 3 (by decide)
        | sent nm k l =>
          have h2 := l.ws_len
          show (wSent :: nm :: strOf k :: l.ws).length ≤ _
          simp only [List.length_cons]
          exact sz _ (by omega)
      · simpa [line] using h
  refine main es [] _ he ?_
  rw [List.nil_append]
  refine hE rfl (hE (pm_join (ss := es.map fun e => line e ++ ['\n']) rfl ?_ (by rw [List.length_map]; omega)) (ret_same ?_))
  · rw [join_nil]; change (text es).length ≤ _; omega
  · rw [join_nil]; exact q

theorem f15 {n : Nat} {e : Ev} {H : AH} {Q : QE} {X : XE} (he : e.ok) (q : Q (.str (line e)) H) : callF PL (n + 1) 15 [e.v] H Q X := by
  have hll := line_len he
  have fin : ∀ (o : List (List Char)), o = e.ws → wpSs PL (callF PL n) [(.ret (.mcall .str false .join (.cst (.str [' '])) [(.var 1)]))] [some e.v, some (.ref H.length)] (H ++ [.list (o.map V.str)]) (fun _ H' => Ret H Q .none H') (fun v H' => Ret H Q v H') (RetX H X) := by
    rintro _ rfl
    refine st_ret ?_
    simp only [wpE_prim, wpEs_cons, wpEs_nil, wpE_var, wpE_cst, wpE_and, wpE_or, wpE_call, wpE_mcall, List.map_cons, List.map_nil, List.cons_append, List.nil_append, List.replicate_zero, List.replicate_succ, List.getElem?_cons_zero, List.getElem?_cons_succ, List.set_cons_zero, List.set_cons_succ, List.length_cons, List.length_nil, Nat.reduceAdd, Nat.reduceLT, true_and, wpE_cmp2]
    refine ⟨rfl, hE (pm_join (ss := e.ws) (by simp only [view, at1]) (by change (line e).length ≤ sizeOf'; exact sz _ (by omega)) ?_) (ret_drop (List.prefix_append _ _) rfl q)⟩
    cases e with
    | two => exact sz 2 (by decide)
    | three => exact sz 3 (by decide)
    | sent nm k l =>
          have h2 := l.ws_len
          show (wSent :: nm :: strOf k :: l.ws).length ≤ _
          simp only [List.length_cons]
          exact sz _ (by omega)
  rw [callF_succ, P_fn15]
  refine ⟨rfl, st_asg ?_⟩
  simp only [show fn15.extra = 1 from rfl, wpE_prim, wpEs_cons, wpEs_nil, wpE_var, wpE_cst, wpE_and, wpE_or, wpE_call, wpE_mcall, List.map_cons, List.map_nil, List.cons_append, List.nil_append, List.replicate_zero, List.replicate_succ, List.getElem?_cons_zero, List.getElem?_cons_succ, List.set_cons_zero, List.set_cons_succ, List.length_cons, List.length_nil, Nat.reduceAdd, Nat.reduceLT, true_and, wpE_cmp2]
  cases e with
  | two w nm =>
    refine hE pm_t0 (hE pm_t1 ?_)
    (repeat (with_reducible first | refine hB ?_ | refine it_t ?_ | refine it_f ?_ | refine hE pm_not_t ?_ | refine hE pm_not_f ?_ | refine hE pm_not ?_ | refine hE pi_int_int ?_ | refine hE pi_int_bool ?_ | refine hE pi_bool_bool ?_ | refine hE pi_bool_int ?_ | refine hE pi_str_int ?_ | refine hE pi_str_str ?_ | refine hE pi_str_tuple ?_ | refine hE pi_tup_tuple ?_ | refine hE pi_tup_str ?_ | refine hE pi_none_str ?_ | refine hE pi_none_int ?_ | refine hE pi_none_tuple ?_ | refine hE pi_bool_str ?_ | refine hE pi_bool_tuple ?_ | refine hE pi_int_str ?_ | refine hE pi_int_tuple ?_ | refine hE pi_lst_list ?_ | refine hE pi_lst_str ?_ | refine hE pi_lst_tuple ?_ | refine hE pm_add ?_ | refine hE pm_sub ?_ | refine hE pm_pow9 ?_ | refine hE pm_lt ?_ | refine hE pm_le ?_ | refine hE pm_gt ?_ | refine hE pm_ge ?_ | refine hE pm_neg ?_ | refine hE pm_lenl ?_ | refine hE pm_lens ?_ | refine hE pm_lent ?_ | refine hE pm_intb ?_ | refine hE (pm_mod (by first | decide | omega | (simp only [List.length_cons, List.length_nil, List.length_map]; omega))) ?_ | refine hE (pm_mkl (by first | decide | omega | (simp only [List.length_cons, List.length_nil, List.length_map, sizeOf']; omega))) ?_ | refine hE (pM_mkl (by first | decide | omega | (simp only [List.length_cons, List.length_nil, List.length_map, sizeOf']; omega))) ?_ | refine hE (pm_mkt (by first | decide | omega | (simp only [List.length_cons, List.length_nil, List.length_map, sizeOf']; omega))) ?_ | refine hE (pm_range1 (by first | decide | omega | (simp only [List.length_cons, List.length_nil, List.length_map]; omega))) ?_ | refine hE (pm_fdiv (by first | decide | omega | (simp only [List.length_cons, List.length_nil, List.length_map]; omega)) (by first | decide | omega | (simp only [List.length_cons, List.length_nil, List.length_map]; omega))) ?_ | refine hc_le ?_ | refine hE (pm_mul (by first | decide | omega | (simp only [List.length_cons, List.length_nil, List.length_map]; omega)) (by first | decide | omega | (simp only [List.length_cons, List.length_nil, List.length_map]; omega))) ?_ | refine hE (pm_eq rd_int rd_int) ?_))
    refine st_ite ?_
    simp only [wpE_prim, wpEs_cons, wpEs_nil, wpE_var, wpE_cst, wpE_and, wpE_or, wpE_call, wpE_mcall, List.map_cons, List.map_nil, List.cons_append, List.nil_append, List.replicate_zero, List.replicate_succ, List.getElem?_cons_zero, List.getElem?_cons_succ, List.set_cons_zero, List.set_cons_succ, List.length_cons, List.length_nil, Nat.reduceAdd, Nat.reduceLT, true_and, wpE_cmp2]
    refine hE pm_lent (hE pm_gt (hB (it_f (st_nil (st_ite ?_)))))
    simp only [wpE_prim, wpEs_cons, wpEs_nil, wpE_var, wpE_cst, wpE_and, wpE_or, wpE_call, wpE_mcall, List.map_cons, List.map_nil, List.cons_append, List.nil_append, List.replicate_zero, List.replicate_succ, List.getElem?_cons_zero, List.getElem?_cons_succ, List.set_cons_zero, List.set_cons_succ, List.length_cons, List.length_nil, Nat.reduceAdd, Nat.reduceLT, true_and, wpE_cmp2]
    exact hE pm_lent (hE pm_gt (hB (it_f (st_nil (fin [w, nm] rfl)))))
  | three w nm k =>
    obtain ⟨_, _, h1, h2⟩ := he
    refine hE pm_t0 (hE pm_t1 ?_)
    (repeat (with_reducible first | refine hB ?_ | refine it_t ?_ | refine it_f ?_ | refine hE pm_not_t ?_ | refine hE pm_not_f ?_ | refine hE pm_not ?_ | refine hE pi_int_int ?_ | refine hE pi_int_bool ?_ | refine hE pi_bool_bool ?_ | refine hE pi_bool_int ?_ | refine hE pi_str_int ?_ | refine hE pi_str_str ?_ | refine hE pi_str_tuple ?_ | refine hE pi_tup_tuple ?_ | refine hE pi_tup_str ?_ | refine hE pi_none_str ?_ | refine hE pi_none_int ?_ | refine hE pi_none_tuple ?_ | refine hE pi_bool_str ?_ | refine hE pi_bool_tuple ?_ | refine hE pi_int_str ?_ | refine hE pi_int_tuple ?_ | refine hE pi_lst_list ?_ | refine hE pi_lst_str ?_ | refine hE pi_lst_tuple ?_ | refine hE pm_add ?_ | refine hE pm_sub ?_ | refine hE pm_pow9 ?_ | refine hE pm_lt ?_ | refine hE pm_le ?_ | refine hE pm_gt ?_ | refine hE pm_ge ?_ | refine hE pm_neg ?_ | refine hE pm_lenl ?_ | refine hE pm_lens ?_ | refine hE pm_lent ?_ | refine hE pm_intb ?_ | refine hE (pm_mod (by first | decide | omega | (simp only [List.length_cons, List.length_nil, List.length_map]; omega))) ?_ | refine hE (pm_mkl (by first | decide | omega | (simp only [List.length_cons, List.length_nil, List.length_map, sizeOf']; omega))) ?_ | refine hE (pM_mkl (by first | decide | omega | (simp only [List.length_cons, List.length_nil, List.length_map, sizeOf']; omega))) ?_ | refine hE (pm_mkt (by first | decide | omega | (simp only [List.length_cons, List.length_nil, List.length_map, sizeOf']; omega))) ?_ | refine hE (pm_range1 (by first | decide | omega | (simp only [List.length_cons, List.length_nil, List.length_map]; omega))) ?_ | refine hE (pm_fdiv (by first | decide | omega | (simp only [List.length_cons, List.length_nil, List.length_map]; omega)) (by first | decide | omega | (simp only [List.length_cons, List.length_nil, List.length_map]; omega))) ?_ | refine hc_le ?_ | refine hE (pm_mul (by first | decide | omega | (simp only [List.length_cons, List.length_nil, List.length_map]; omega)) (by first | decide | omega | (simp only [List.length_cons, List.length_nil, List.length_map]; omega))) ?_ | refine hE (pm_eq rd_int rd_int) ?_))
    refine st_ite ?_
    simp only [wpE_prim, wpEs_cons, wpEs_nil, wpE_var, wpE_cst, wpE_and, wpE_or, wpE_call, wpE_mcall, List.map_cons, List.map_nil, List.cons_append, List.nil_append, List.replicate_zero, List.replicate_succ, List.getElem?_cons_zero, List.getElem?_cons_succ, List.set_cons_zero, List.set_cons_succ, List.length_cons, List.length_nil, Nat.reduceAdd, Nat.reduceLT, true_and, wpE_cmp2]
    refine hE pm_lent (hE pm_gt (hB (it_t (st_expr ?_))))
    simp only [wpE_prim, wpEs_cons, wpEs_nil, wpE_var, wpE_cst, wpE_and, wpE_or, wpE_call, wpE_mcall, List.map_cons, List.map_nil, List.cons_append, List.nil_append, List.replicate_zero, List.replicate_succ, List.getElem?_cons_zero, List.getElem?_cons_succ, List.set_cons_zero, List.set_cons_succ, List.length_cons, List.length_nil, Nat.reduceAdd, Nat.reduceLT, true_and, wpE_cmp2]
    refine ⟨ty_list (at1 _), hE pm_t2 (hE (pm_stri (by omega)) (hE (pm_append (at1 _) (sz 2 (by decide))) (st_nil (st_ite ?_))))⟩
    rw [set1]
    simp only [wpE_prim, wpEs_cons, wpEs_nil, wpE_var, wpE_cst, wpE_and, wpE_or, wpE_call, wpE_mcall, List.map_cons, List.map_nil, List.cons_append, List.nil_append, List.replicate_zero, List.replicate_succ, List.getElem?_cons_zero, List.getElem?_cons_succ, List.set_cons_zero, List.set_cons_succ, List.length_cons, List.length_nil, Nat.reduceAdd, Nat.reduceLT, true_and, wpE_cmp2]
    exact hE pm_lent (hE pm_gt (hB (it_f (st_nil (fin [w, nm, strOf k] rfl)))))
  | sent nm k l =>
    obtain ⟨_, ⟨h1, h2⟩, hl⟩ := he
    refine hE pm_t0 (hE pm_t1 ?_)
    (repeat (with_reducible first | refine hB ?_ | refine it_t ?_ | refine it_f ?_ | refine hE pm_not_t ?_ | refine hE pm_not_f ?_ | refine hE pm_not ?_ | refine hE pi_int_int ?_ | refine hE pi_int_bool ?_ | refine hE pi_bool_bool ?_ | refine hE pi_bool_int ?_ | refine hE pi_str_int ?_ | refine hE pi_str_str ?_ | refine hE pi_str_tuple ?_ | refine hE pi_tup_tuple ?_ | refine hE pi_tup_str ?_ | refine hE pi_none_str ?_ | refine hE pi_none_int ?_ | refine hE pi_none_tuple ?_ | refine hE pi_bool_str ?_ | refine hE pi_bool_tuple ?_ | refine hE pi_int_str ?_ | refine hE pi_int_tuple ?_ | refine hE pi_lst_list ?_ | refine hE pi_lst_str ?_ | refine hE pi_lst_tuple ?_ | refine hE pm_add ?_ | refine hE pm_sub ?_ | refine hE pm_pow9 ?_ | refine hE pm_lt ?_ | refine hE pm_le ?_ | refine hE pm_gt ?_ | refine hE pm_ge ?_ | refine hE pm_neg ?_ | refine hE pm_lenl ?_ | refine hE pm_lens ?_ | refine hE pm_lent ?_ | refine hE pm_intb ?_ | refine hE (pm_mod (by first | decide | omega | (simp only [List.length_cons, List.length_nil, List.length_map]; omega))) ?_ | refine hE (pm_mkl (by first | decide | omega | (simp only [List.length_cons, List.length_nil, List.length_map, sizeOf']; omega))) ?_ | refine hE (pM_mkl (by first | decide | omega | (simp only [List.length_cons, List.length_nil, List.length_map, sizeOf']; omega))) ?_ | refine hE (pm_mkt (by first | decide | omega | (simp only [List.length_cons, List.length_nil, List.length_map, sizeOf']; omega))) ?_ | refine hE (pm_range1 (by first | decide | omega | (simp only [List.length_cons, List.length_nil, List.length_map]; omega))) ?_ | refine hE (pm_fdiv (by first | decide | omega | (simp only [List.length_cons, List.length_nil, List.length_map]; omega)) (by first | decide | omega | (simp only [List.length_cons, List.length_nil, List.length_map]; omega))) ?_ | refine hc_le ?_ | refine hE (pm_mul (by first | decide | omega | (simp only [List.length_cons, List.length_nil, List.length_map]; omega)) (by first | decide | omega | (simp only [List.length_cons, List.length_nil, List.length_map]; omega))) ?_ | refine hE (pm_eq rd_int rd_int) ?_))
    refine st_ite ?_
    simp only [wpE_prim, wpEs_cons, wpEs_nil, wpE_var, wpE_cst, wpE_and, wpE_or, wpE_call, wpE_mcall, List.map_cons, List.map_nil, List.cons_append, List.nil_append, List.replicate_zero, List.replicate_succ, List.getElem?_cons_zero, List.getElem?_cons_succ, List.set_cons_zero, List.set_cons_succ, List.length_cons, List.length_nil, Nat.reduceAdd, Nat.reduceLT, true_and, wpE_cmp2]
    refine hE pm_lent (hE pm_gt (hB (it_t (st_expr ?_))))
    simp only [wpE_prim, wpEs_cons, wpEs_nil, wpE_var, wpE_cst, wpE_and, wpE_or, wpE_call, wpE_mcall, List.map_cons, List.map_nil, List.cons_append, List.nil_append, List.replicate_zero, List.replicate_succ, List.getElem?_cons_zero, List.getElem?_cons_succ, List.set_cons_zero, List.set_cons_succ, List.length_cons, List.length_nil, Nat.reduceAdd, Nat.reduceLT, true_and, wpE_cmp2]
    refine ⟨ty_list (at1 _), hE pm_t2 (hE (pm_stri (by omega)) (hE (pm_append (at1 _) (sz 2 (by decide))) (st_nil (st_ite ?_))))⟩
    rw [set1]
    simp only [wpE_prim, wpEs_cons, wpEs_nil, wpE_var, wpE_cst, wpE_and, wpE_or, wpE_call, wpE_mcall, List.map_cons, List.map_nil, List.cons_append, List.nil_append, List.replicate_zero, List.replicate_succ, List.getElem?_cons_zero, List.getElem?_cons_succ, List.set_cons_zero, List.set_cons_succ, List.length_cons, List.length_nil, Nat.reduceAdd, Nat.reduceLT, true_and, wpE_cmp2]
    refine hE pm_lent (hE pm_gt (hB (it_t (st_expr ?_))))
    simp only [wpE_prim, wpEs_cons, wpEs_nil, wpE_var, wpE_cst, wpE_and, wpE_or, wpE_call, wpE_mcall, List.map_cons, List.map_nil, List.cons_append, List.nil_append, List.replicate_zero, List.replicate_succ, List.getElem?_cons_zero, List.getElem?_cons_succ, List.set_cons_zero, List.set_cons_succ, List.length_cons, List.length_nil, Nat.reduceAdd, Nat.reduceLT, true_and, wpE_cmp2]
    cases l with
    | fault =>
      refine ⟨ty_list (at1 _), hE pm_t3 (hE pm_t0 (hE (pm_append (at1 _) (sz 3 (by decide))) (st_ite ?_)))⟩
      rw [set1]
      simp only [wpE_prim, wpEs_cons, wpEs_nil, wpE_var, wpE_cst, wpE_and, wpE_or, wpE_call, wpE_mcall, List.map_cons, List.map_nil, List.cons_append, List.nil_append, List.replicate_zero, List.replicate_succ, List.getElem?_cons_zero, List.getElem?_cons_succ, List.set_cons_zero, List.set_cons_succ, List.length_cons, List.length_nil, Nat.reduceAdd, Nat.reduceLT, true_and, wpE_cmp2]
      exact hE pm_t3 (hE pm_lent (hE pm_gt (hB (it_f (st_nil (st_nil (fin [wSent, nm, strOf k, wFault] rfl)))))))
    | leave =>
      refine ⟨ty_list (at1 _), hE pm_t3 (hE pm_t0 (hE (pm_append (at1 _) (sz 3 (by decide))) (st_ite ?_)))⟩
      rw [set1]
      simp only [wpE_prim, wpEs_cons, wpEs_nil, wpE_var, wpE_cst, wpE_and, wpE_or, wpE_call, wpE_mcall, List.map_cons, List.map_nil, List.cons_append, List.nil_append, List.replicate_zero, List.replicate_succ, List.getElem?_cons_zero, List.getElem?_cons_succ, List.set_cons_zero, List.set_cons_succ, List.length_cons, List.length_nil, Nat.reduceAdd, Nat.reduceLT, true_and, wpE_cmp2]
      exact hE pm_t3 (hE pm_lent (hE pm_gt (hB (it_f (st_nil (st_nil (fin [wSent, nm, strOf k, wLeave] rfl)))))))
    | add z =>
      obtain ⟨z1, z2⟩ := hl
      refine ⟨ty_list (at1 _), hE pm_t3 (hE pm_t0 (hE (pm_append (at1 _) (sz 3 (by decide))) (st_ite ?_)))⟩
      rw [set1]
      simp only [wpE_prim, wpEs_cons, wpEs_nil, wpE_var, wpE_cst, wpE_and, wpE_or, wpE_call, wpE_mcall, List.map_cons, List.map_nil, List.cons_append, List.nil_append, List.replicate_zero, List.replicate_succ, List.getElem?_cons_zero, List.getElem?_cons_succ, List.set_cons_zero, List.set_cons_succ, List.length_cons, List.length_nil, Nat.reduceAdd, Nat.reduceLT, true_and, wpE_cmp2]
      refine hE pm_t3 (hE pm_lent (hE pm_gt (hB (it_t (st_expr ?_)))))
      simp only [wpE_prim, wpEs_cons, wpEs_nil, wpE_var, wpE_cst, wpE_and, wpE_or, wpE_call, wpE_mcall, List.map_cons, List.map_nil, List.cons_append, List.nil_append, List.replicate_zero, List.replicate_succ, List.getElem?_cons_zero, List.getElem?_cons_succ, List.set_cons_zero, List.set_cons_succ, List.length_cons, List.length_nil, Nat.reduceAdd, Nat.reduceLT, true_and, wpE_cmp2]
      refine ⟨ty_list (at1 _), hE pm_t3 (hE pm_t1 (hE (pm_stri (by omega)) (hE (pm_append (at1 _) (sz 4 (by decide))) (st_nil (st_nil ?_)))))⟩
      rw [set1]
      exact fin [wSent, nm, strOf k, wAdd, strOf z] rfl
end Mine

end
noncomputable section
open PySem
set_option maxHeartbeats 4000000
namespace Mine

noncomputable def cellAt (zs : List Int) (k : Nat) : Int := zs.getD k 0
theorem f9 {n : Nat} {zs : List Int} {k : Int} {H : AH} {Q : QE} {X : XE} (hk : 0 ≤ k) (q : Q (.int (cellAt zs k.toNat)) H) : callF PL (n + 1) 9 [.lst (zs.map V.int), .int k] H Q X := by
  rw [callF_succ, P_fn9]
  refine ⟨rfl, ?_⟩
  refine st_ite ?_
  simp only [wpE_prim, wpEs_cons, wpEs_nil, wpE_var, wpE_cst, wpE_and, wpE_or, wpE_call, wpE_mcall, List.map_cons, List.map_nil, List.cons_append, List.nil_append, List.replicate_zero, List.replicate_succ, List.getElem?_cons_zero, List.getElem?_cons_succ, List.set_cons_zero, List.set_cons_succ, List.length_cons, List.length_nil, Nat.reduceAdd, Nat.reduceLT, true_and, wpE_cmp2]
  (repeat (with_reducible first | refine hB ?_ | refine it_t ?_ | refine it_f ?_ | refine hE pm_not_t ?_ | refine hE pm_not_f ?_ | refine hE pm_not ?_ | refine hE pi_int_int ?_ | refine hE pi_int_bool ?_ | refine hE pi_bool_bool ?_ | refine hE pi_bool_int ?_ | refine hE pi_str_int ?_ | refine hE pi_str_str ?_ | refine hE pi_str_tuple ?_ | refine hE pi_tup_tuple ?_ | refine hE pi_tup_str ?_ | refine hE pi_none_str ?_ | refine hE pi_none_int ?_ | refine hE pi_none_tuple ?_ | refine hE pi_bool_str ?_ | refine hE pi_bool_tuple ?_ | refine hE pi_int_str ?_ | refine hE pi_int_tuple ?_ | refine hE pi_lst_list ?_ | refine hE pi_lst_str ?_ | refine hE pi_lst_tuple ?_ | refine hE pm_add ?_ | refine hE pm_sub ?_ | refine hE pm_pow9 ?_ | refine hE pm_lt ?_ | refine hE pm_le ?_ | refine hE pm_gt ?_ | refine hE pm_ge ?_ | refine hE pm_neg ?_ | refine hE pm_lenl ?_ | refine hE pm_lens ?_ | refine hE pm_lent ?_ | refine hE pm_intb ?_ | refine hE (pm_mod (by first | decide | omega | (simp only [List.length_cons, List.length_nil, List.length_map]; omega))) ?_ | refine hE (pm_mkl (by first | decide | omega | (simp only [List.length_cons, List.length_nil, List.length_map, sizeOf']; omega))) ?_ | refine hE (pM_mkl (by first | decide | omega | (simp only [List.length_cons, List.length_nil, List.length_map, sizeOf']; omega))) ?_ | refine hE (pm_mkt (by first | decide | omega | (simp only [List.length_cons, List.length_nil, List.length_map, sizeOf']; omega))) ?_ | refine hE (pm_range1 (by first | decide | omega | (simp only [List.length_cons, List.length_nil, List.length_map]; omega))) ?_ | refine hE (pm_fdiv (by first | decide | omega | (simp only [List.length_cons, List.length_nil, List.length_map]; omega)) (by first | decide | omega | (simp only [List.length_cons, List.length_nil, List.length_map]; omega))) ?_ | refine hc_le ?_ | refine hE (pm_mul (by first | decide | omega | (simp only [List.length_cons, List.length_nil, List.length_map]; omega)) (by first | decide | omega | (simp only [List.length_cons, List.length_nil, List.length_map]; omega))) ?_ | refine hE (pm_eq rd_int rd_int) ?_))
  rw [List.length_map]
  by_cases h : k < (zs.length : Int)
  · have h1 : k.toNat < zs.length := by omega
    rw [decide_eq_true h]
    refine it_t (st_ret ?_)
    simp only [wpE_prim, wpEs_cons, wpEs_nil, wpE_var, wpE_cst, wpE_and, wpE_or, wpE_call, wpE_mcall, List.map_cons, List.map_nil, List.cons_append, List.nil_append, List.replicate_zero, List.replicate_succ, List.getElem?_cons_zero, List.getElem?_cons_succ, List.set_cons_zero, List.set_cons_succ, List.length_cons, List.length_nil, Nat.reduceAdd, Nat.reduceLT, true_and, wpE_cmp2]
    refine hE (v := .int (cellAt zs k.toNat)) (H' := H) ?_ (ret_same q)
    show ((idx (zs.map V.int).length k).bind _).map _ = _
    simp only [List.length_map, idx, hk, h, if_true, Option.bind_some, List.getElem?_map, List.getElem?_eq_getElem h1, Option.map_some, cellAt, List.getD_eq_getElem?_getD, Option.getD_some]
  · rw [decide_eq_false h]
    have e : zs[k.toNat]? = none := List.getElem?_eq_none_iff.mpr (by omega)
    refine it_f (st_nil (st_ret ?_))
    rw [wpE_cst]
    refine ret_same ?_
    simpa [cellAt, List.getD_eq_getElem?_getD, e] using q
theorem f10 {n : Nat} {z : Int} {H : AH} {Q : QE} {X : XE} (q : Q (.bool true) H) : callF PL (n + 1) 10 [.int z] H Q X := by
  rw [callF_succ, P_fn10]
  refine ⟨rfl, st_ret ?_⟩
  simp only [wpE_prim, wpEs_cons, wpEs_nil, wpE_var, wpE_cst, wpE_and, wpE_or, wpE_call, wpE_mcall, List.map_cons, List.map_nil, List.cons_append, List.nil_append, List.replicate_zero, List.replicate_succ, List.getElem?_cons_zero, List.getElem?_cons_succ, List.set_cons_zero, List.set_cons_succ, List.length_cons, List.length_nil, Nat.reduceAdd, Nat.reduceLT, true_and, wpE_cmp2]
  (repeat (with_reducible first | refine hB ?_ | refine it_t ?_ | refine it_f ?_ | refine hE pm_not_t ?_ | refine hE pm_not_f ?_ | refine hE pm_not ?_ | refine hE pi_int_int ?_ | refine hE pi_int_bool ?_ | refine hE pi_bool_bool ?_ | refine hE pi_bool_int ?_ | refine hE pi_str_int ?_ | refine hE pi_str_str ?_ | refine hE pi_str_tuple ?_ | refine hE pi_tup_tuple ?_ | refine hE pi_tup_str ?_ | refine hE pi_none_str ?_ | refine hE pi_none_int ?_ | refine hE pi_none_tuple ?_ | refine hE pi_bool_str ?_ | refine hE pi_bool_tuple ?_ | refine hE pi_int_str ?_ | refine hE pi_int_tuple ?_ | refine hE pi_lst_list ?_ | refine hE pi_lst_str ?_ | refine hE pi_lst_tuple ?_ | refine hE pm_add ?_ | refine hE pm_sub ?_ | refine hE pm_pow9 ?_ | refine hE pm_lt ?_ | refine hE pm_le ?_ | refine hE pm_gt ?_ | refine hE pm_ge ?_ | refine hE pm_neg ?_ | refine hE pm_lenl ?_ | refine hE pm_lens ?_ | refine hE pm_lent ?_ | refine hE pm_intb ?_ | refine hE (pm_mod (by first | decide | omega | (simp only [List.length_cons, List.length_nil, List.length_map]; omega))) ?_ | refine hE (pm_mkl (by first | decide | omega | (simp only [List.length_cons, List.length_nil, List.length_map, sizeOf']; omega))) ?_ | refine hE (pM_mkl (by first | decide | omega | (simp only [List.length_cons, List.length_nil, List.length_map, sizeOf']; omega))) ?_ | refine hE (pm_mkt (by first | decide | omega | (simp only [List.length_cons, List.length_nil, List.length_map, sizeOf']; omega))) ?_ | refine hE (pm_range1 (by first | decide | omega | (simp only [List.length_cons, List.length_nil, List.length_map]; omega))) ?_ | refine hE (pm_fdiv (by first | decide | omega | (simp only [List.length_cons, List.length_nil, List.length_map]; omega)) (by first | decide | omega | (simp only [List.length_cons, List.length_nil, List.length_map]; omega))) ?_ | refine hc_le ?_ | refine hE (pm_mul (by first | decide | omega | (simp only [List.length_cons, List.length_nil, List.length_map]; omega)) (by first | decide | omega | (simp only [List.length_cons, List.length_nil, List.length_map]; omega))) ?_ | refine hE (pm_eq rd_int rd_int) ?_))
  exact ret_same q

theorem f12 {n : Nat} {c : Int} {H : AH} {Q : QE} {X : XE} (q : ∀ l : Lt, l.ok → Q (.tup l.vs) H) : callF PL (n + 1) 12 [.int c] H Q X := by
  rw [callF_succ, P_fn12]
  refine ⟨rfl, st_ite ?_⟩
  simp only [show fn12.extra = 1 from rfl, wpE_prim, wpEs_cons, wpEs_nil, wpE_var, wpE_cst, wpE_and, wpE_or, wpE_call, wpE_mcall, List.map_cons, List.map_nil, List.cons_append, List.nil_append, List.replicate_zero, List.replicate_succ, List.getElem?_cons_zero, List.getElem?_cons_succ, List.set_cons_zero, List.set_cons_succ, List.length_cons, List.length_nil, Nat.reduceAdd, Nat.reduceLT, true_and, wpE_cmp2]
  (repeat (with_reducible first | refine hB ?_ | refine it_t ?_ | refine it_f ?_ | refine hE pm_not_t ?_ | refine hE pm_not_f ?_ | refine hE pm_not ?_ | refine hE pi_int_int ?_ | refine hE pi_int_bool ?_ | refine hE pi_bool_bool ?_ | refine hE pi_bool_int ?_ | refine hE pi_str_int ?_ | refine hE pi_str_str ?_ | refine hE pi_str_tuple ?_ | refine hE pi_tup_tuple ?_ | refine hE pi_tup_str ?_ | refine hE pi_none_str ?_ | refine hE pi_none_int ?_ | refine hE pi_none_tuple ?_ | refine hE pi_bool_str ?_ | refine hE pi_bool_tuple ?_ | refine hE pi_int_str ?_ | refine hE pi_int_tuple ?_ | refine hE pi_lst_list ?_ | refine hE pi_lst_str ?_ | refine hE pi_lst_tuple ?_ | refine hE pm_add ?_ | refine hE pm_sub ?_ | refine hE pm_pow9 ?_ | refine hE pm_lt ?_ | refine hE pm_le ?_ | refine hE pm_gt ?_ | refine hE pm_ge ?_ | refine hE pm_neg ?_ | refine hE pm_lenl ?_ | refine hE pm_lens ?_ | refine hE pm_lent ?_ | refine hE pm_intb ?_ | refine hE (pm_mod (by first | decide | omega | (simp only [List.length_cons, List.length_nil, List.length_map]; omega))) ?_ | refine hE (pm_mkl (by first | decide | omega | (simp only [List.length_cons, List.length_nil, List.length_map, sizeOf']; omega))) ?_ | refine hE (pM_mkl (by first | decide | omega | (simp only [List.length_cons, List.length_nil, List.length_map, sizeOf']; omega))) ?_ | refine hE (pm_mkt (by first | decide | omega | (simp only [List.length_cons, List.length_nil, List.length_map, sizeOf']; omega))) ?_ | refine hE (pm_range1 (by first | decide | omega | (simp only [List.length_cons, List.length_nil, List.length_map]; omega))) ?_ | refine hE (pm_fdiv (by first | decide | omega | (simp only [List.length_cons, List.length_nil, List.length_map]; omega)) (by first | decide | omega | (simp only [List.length_cons, List.length_nil, List.length_map]; omega))) ?_ | refine hc_le ?_ | refine hE (pm_mul (by first | decide | omega | (simp only [List.length_cons, List.length_nil, List.length_map]; omega)) (by first | decide | omega | (simp only [List.length_cons, List.length_nil, List.length_map]; omega))) ?_ | refine hE (pm_eq rd_int rd_int) ?_))
  by_cases h : (2 : Int) < c % 5
  · rw [decide_eq_true h]
    refine it_t (st_ret ?_)
    simp only [wpE_prim, wpEs_cons, wpEs_nil, wpE_var, wpE_cst, wpE_and, wpE_or, wpE_call, wpE_mcall, List.map_cons, List.map_nil, List.cons_append, List.nil_append, List.replicate_zero, List.replicate_succ, List.getElem?_cons_zero, List.getElem?_cons_succ, List.set_cons_zero, List.set_cons_succ, List.length_cons, List.length_nil, Nat.reduceAdd, Nat.reduceLT, true_and, wpE_cmp2]
    (repeat (with_reducible first | refine hB ?_ | refine it_t ?_ | refine it_f ?_ | refine hE pm_not_t ?_ | refine hE pm_not_f ?_ | refine hE pm_not ?_ | refine hE pi_int_int ?_ | refine hE pi_int_bool ?_ | refine hE pi_bool_bool ?_ | refine hE pi_bool_int ?_ | refine hE pi_str_int ?_ | refine hE pi_str_str ?_ | refine hE pi_str_tuple ?_ | refine hE pi_tup_tuple ?_ | refine hE pi_tup_str ?_ | refine hE pi_none_str ?_ | refine hE pi_none_int ?_ | refine hE pi_none_tuple ?_ | refine hE pi_bool_str ?_ | refine hE pi_bool_tuple ?_ | refine hE pi_int_str ?_ | refine hE pi_int_tuple ?_ | refine hE pi_lst_list ?_ | refine hE pi_lst_str ?_ | refine hE pi_lst_tuple ?_ | refine hE pm_add ?_ | refine hE pm_sub ?_ | refine hE pm_pow9 ?_ | refine hE pm_lt ?_ | refine hE pm_le ?_ | refine hE pm_gt ?_ | refine hE pm_ge ?_ | refine hE pm_neg ?_ | refine hE pm_lenl ?_ | refine hE pm_lens ?_ | refine hE pm_lent ?_ | refine hE pm_intb ?_ | refine hE (pm_mod (by first | decide | omega | (simp only [List.length_cons, List.length_nil, List.length_map]; omega))) ?_ | refine hE (pm_mkl (by first | decide | omega | (simp only [List.length_cons, List.length_nil, List.length_map, sizeOf']; omega))) ?_ | refine hE (pM_mkl (by first | decide | omega | (simp only [List.length_cons, List.length_nil, List.length_map, sizeOf']; omega))) ?_ | refine hE (pm_mkt (by first | decide | omega | (simp only [List.length_cons, List.length_nil, List.length_map, sizeOf']; omega))) ?_ | refine hE (pm_range1 (by first | decide | omega | (simp only [List.length_cons, List.length_nil, List.length_map]; omega))) ?_ | refine hE (pm_fdiv (by first | decide | omega | (simp only [List.length_cons, List.length_nil, List.length_map]; omega)) (by first | decide | omega | (simp only [List.length_cons, List.length_nil, List.length_map]; omega))) ?_ | refine hc_le ?_ | refine hE (pm_mul (by first | decide | omega | (simp only [List.length_cons, List.length_nil, List.length_map]; omega)) (by first | decide | omega | (simp only [List.length_cons, List.length_nil, List.length_map]; omega))) ?_ | refine hE (pm_eq rd_int rd_int) ?_))
    obtain ⟨v, hv, e⟩ := pm_pick (P := PL) (H := H) (xs := [.tup [.str ['f', 'a', 'u', 'l', 't']], .tup [.str ['l', 'e', 'a', 'v', 'e']]]) (i := c % 5 - 3) (by omega) (by simp only [List.length_cons, List.length_nil]; omega)
    refine hE e (ret_same ?_)
    simp only [List.mem_cons, List.not_mem_nil, or_false] at hv
    rcases hv with rfl | rfl
    · exact q .fault trivial
    · exact q .leave trivial
  · rw [decide_eq_false h]
    refine it_f (st_nil (st_asg ?_))
    simp only [wpE_prim, wpEs_cons, wpEs_nil, wpE_var, wpE_cst, wpE_and, wpE_or, wpE_call, wpE_mcall, List.map_cons, List.map_nil, List.cons_append, List.nil_append, List.replicate_zero, List.replicate_succ, List.getElem?_cons_zero, List.getElem?_cons_succ, List.set_cons_zero, List.set_cons_succ, List.length_cons, List.length_nil, Nat.reduceAdd, Nat.reduceLT, true_and, wpE_cmp2]
    (repeat (with_reducible first | refine hB ?_ | refine it_t ?_ | refine it_f ?_ | refine hE pm_not_t ?_ | refine hE pm_not_f ?_ | refine hE pm_not ?_ | refine hE pi_int_int ?_ | refine hE pi_int_bool ?_ | refine hE pi_bool_bool ?_ | refine hE pi_bool_int ?_ | refine hE pi_str_int ?_ | refine hE pi_str_str ?_ | refine hE pi_str_tuple ?_ | refine hE pi_tup_tuple ?_ | refine hE pi_tup_str ?_ | refine hE pi_none_str ?_ | refine hE pi_none_int ?_ | refine hE pi_none_tuple ?_ | refine hE pi_bool_str ?_ | refine hE pi_bool_tuple ?_ | refine hE pi_int_str ?_ | refine hE pi_int_tuple ?_ | refine hE pi_lst_list ?_ | refine hE pi_lst_str ?_ | refine hE pi_lst_tuple ?_ | refine hE pm_add ?_ | refine hE pm_sub ?_ | refine hE pm_pow9 ?_ | refine hE pm_lt ?_ | refine hE pm_le ?_ | refine hE pm_gt ?_ | refine hE pm_ge ?_ | refine hE pm_neg ?_ | refine hE pm_lenl ?_ | refine hE pm_lens ?_ | refine hE pm_lent ?_ | refine hE pm_intb ?_ | refine hE (pm_mod (by first | decide | omega | (simp only [List.length_cons, List.length_nil, List.length_map]; omega))) ?_ | refine hE (pm_mkl (by first | decide | omega | (simp only [List.length_cons, List.length_nil, List.length_map, sizeOf']; omega))) ?_ | refine hE (pM_mkl (by first | decide | omega | (simp only [List.length_cons, List.length_nil, List.length_map, sizeOf']; omega))) ?_ | refine hE (pm_mkt (by first | decide | omega | (simp only [List.length_cons, List.length_nil, List.length_map, sizeOf']; omega))) ?_ | refine hE (pm_range1 (by first | decide | omega | (simp only [List.length_cons, List.length_nil, List.length_map]; omega))) ?_ | refine hE (pm_fdiv (by first | decide | omega | (simp only [List.length_cons, List.length_nil, List.length_map]; omega)) (by first | decide | omega | (simp only [List.length_cons, List.length_nil, List.length_map]; omega))) ?_ | refine hc_le ?_ | refine hE (pm_mul (by first | decide | omega | (simp only [List.length_cons, List.length_nil, List.length_map]; omega)) (by first | decide | omega | (simp only [List.length_cons, List.length_nil, List.length_map]; omega))) ?_ | refine hE (pm_eq rd_int rd_int) ?_))
    rw [eqV_int]
    obtain ⟨v, hv, e⟩ := pm_pick (P := PL) (H := H) (xs := [.int (c / 10 % 9 - 4), .int (c / 10 % (2 * 1000000000 + 1) - 1000000000)]) (i := if (c % 5 == 2) = true then 1 else 0) (by split <;> omega) (by simp only [List.length_cons, List.length_nil]; split <;> omega)
    have hz : ∃ z : Int, v = .int z ∧ -1000000000 ≤ z ∧ z ≤ 1000000000 := by
      simp only [List.mem_cons, List.not_mem_nil, or_false] at hv
      rcases hv with rfl | rfl
      · exact ⟨_, rfl, by omega, by omega⟩
      · exact ⟨_, rfl, by omega, by omega⟩
    obtain ⟨z, rfl, hz⟩ := hz
    refine hE e (st_ret ?_)
    simp only [wpE_prim, wpEs_cons, wpEs_nil, wpE_var, wpE_cst, wpE_and, wpE_or, wpE_call, wpE_mcall, List.map_cons, List.map_nil, List.cons_append, List.nil_append, List.replicate_zero, List.replicate_succ, List.getElem?_cons_zero, List.getElem?_cons_succ, List.set_cons_zero, List.set_cons_succ, List.length_cons, List.length_nil, Nat.reduceAdd, Nat.reduceLT, true_and, wpE_cmp2]
    (repeat (with_reducible first | refine hB ?_ | refine it_t ?_ | refine it_f ?_ | refine hE pm_not_t ?_ | refine hE pm_not_f ?_ | refine hE pm_not ?_ | refine hE pi_int_int ?_ | refine hE pi_int_bool ?_ | refine hE pi_bool_bool ?_ | refine hE pi_bool_int ?_ | refine hE pi_str_int ?_ | refine hE pi_str_str ?_ | refine hE pi_str_tuple ?_ | refine hE pi_tup_tuple ?_ | refine hE pi_tup_str ?_ | refine hE pi_none_str ?_ | refine hE pi_none_int ?_ | refine hE pi_none_tuple ?_ | refine hE pi_bool_str ?_ | refine hE pi_bool_tuple ?_ | refine hE pi_int_str ?_ | refine hE pi_int_tuple ?_ | refine hE pi_lst_list ?_ | refine hE pi_lst_str ?_ | refine hE pi_lst_tuple ?_ | refine hE pm_add ?_ | refine hE pm_sub ?_ | refine hE pm_pow9 ?_ | refine hE pm_lt ?_ | refine hE pm_le ?_ | refine hE pm_gt ?_ | refine hE pm_ge ?_ | refine hE pm_neg ?_ | refine hE pm_lenl ?_ | refine hE pm_lens ?_ | refine hE pm_lent ?_ | refine hE pm_intb ?_ | refine hE (pm_mod (by first | decide | omega | (simp only [List.length_cons, List.length_nil, List.length_map]; omega))) ?_ | refine hE (pm_mkl (by first | decide | omega | (simp only [List.length_cons, List.length_nil, List.length_map, sizeOf']; omega))) ?_ | refine hE (pM_mkl (by first | decide | omega | (simp only [List.length_cons, List.length_nil, List.length_map, sizeOf']; omega))) ?_ | refine hE (pm_mkt (by first | decide | omega | (simp only [List.length_cons, List.length_nil, List.length_map, sizeOf']; omega))) ?_ | refine hE (pm_range1 (by first | decide | omega | (simp only [List.length_cons, List.length_nil, List.length_map]; omega))) ?_ | refine hE (pm_fdiv (by first | decide | omega | (simp only [List.length_cons, List.length_nil, List.length_map]; omega)) (by first | decide | omega | (simp only [List.length_cons, List.length_nil, List.length_map]; omega))) ?_ | refine hc_le ?_ | refine hE (pm_mul (by first | decide | omega | (simp only [List.length_cons, List.length_nil, List.length_map]; omega)) (by first | decide | omega | (simp only [List.length_cons, List.length_nil, List.length_map]; omega))) ?_ | refine hE (pm_eq rd_int rd_int) ?_))
    exact ret_same (q (.add z) hz)

noncomputable def inAbc (s : List Char) : Prop := ∀ c ∈ s, c ∈ abc
theorem inAbc_slice {s : List Char} {a b : Nat} (h : inAbc s) : inAbc (sliceL s a b) := fun c hc => h c (List.mem_of_mem_take (List.mem_of_mem_drop hc))
theorem inAbc_app {s t : List Char} (h : inAbc s) (h' : inAbc t) : inAbc (s ++ t) := fun c hc => (List.mem_append.mp hc).elim (h c) (h' c)
theorem inAbc_one {c : Char} (h : c ∈ abc) : inAbc [c] := fun d hd => by
  cases hd with
  | head => exact h
  | tail _ h => cases h
theorem pm_abc {H : AH} {i : Int} (h0 : 0 ≤ i) (h1 : i < 26) : ∃ c, c ∈ abc ∧ primM PL false .item [.str ['a', 'b', 'c', 'd', 'e', 'f', 'g', 'h', 'i', 'j', 'k', 'l', 'm', 'n', 'o', 'p', 'q', 'r', 's', 't', 'u', 'v', 'w', 'x', 'y', 'z'], .int i] H = some (.str [c], H) :=
  pm_picks (s := ['a', 'b', 'c', 'd', 'e', 'f', 'g', 'h', 'i', 'j', 'k', 'l', 'm', 'n', 'o', 'p', 'q', 'r', 's', 't', 'u', 'v', 'w', 'x', 'y', 'z']) h0 (by simp only [List.length_cons, List.length_nil]; omega)
theorem slice_len {s : List Char} {a b : Nat} : (sliceL s a b).length = min b s.length - a := by simp [sliceL]
theorem clip_in {n : Nat} {i : Int} (h0 : 0 ≤ i) (h1 : i ≤ n) : clip n i = i.toNat := by
  unfold clip
  rw [if_neg (by omega)]
  split <;> omega
noncomputable def isName : V → Prop
  | .str s => nameOk s
  | _ => False
theorem names_of {ys : List V} (h : ∀ y ∈ ys, isName y) : ∃ nms : List (List Char), ys = nms.map V.str ∧ ∀ s ∈ nms, nameOk s := by
  induction ys with
  | nil => exact ⟨[], rfl, by simp⟩
  | cons y ys ih =>
    obtain ⟨nms, rfl, h2⟩ := ih fun z hz => h z (.tail _ hz)
    have hy := h y (.head _)
    cases y with
    | str s => exact ⟨s :: nms, rfl, fun t ht => by
        cases ht with
        | head => exact hy
        | tail _ ht => exact h2 t ht⟩
    | _ => exact hy.elim
theorem rng_mem {m : Int} {x : V} (h : x ∈ rngL 0 m) : ∃ k : Int, x = .int k ∧ 0 ≤ k ∧ k < m := by
  simp only [rngL, List.mem_map, List.mem_range] at h
  obtain ⟨j, hj, rfl⟩ := h
  exact ⟨_, rfl, by omega, by omega⟩

theorem f11 {n : Nat} {c : Int} {H : AH} {Q : QE} {X : XE} (q : ∀ nms : List (List Char), nms.length = 8 → (∀ s ∈ nms, nameOk s) → Q (.lst (nms.map V.str)) H) : callF PL (n + 1) 11 [.int c, .int 8] H Q X := by
  have done : ∀ ys : List V, ys.length = (rngL 0 8).length → (∀ y ∈ ys, isName y) → okE (some (.lst ([] ++ ys), H)) (fun v H' => Ret H Q v H') := fun ys hl hp => by
    obtain ⟨nms, rfl, h2⟩ := names_of hp
    exact ret_same (q nms (by simpa [rngL_length] using hl) h2)
  rw [callF_succ, P_fn11]
  refine ⟨rfl, st_asg ?_⟩
  simp only [show fn11.extra = 7 from rfl, wpE_prim, wpEs_cons, wpEs_nil, wpE_var, wpE_cst, wpE_and, wpE_or, wpE_call, wpE_mcall, List.map_cons, List.map_nil, List.cons_append, List.nil_append, List.replicate_zero, List.replicate_succ, List.getElem?_cons_zero, List.getElem?_cons_succ, List.set_cons_zero, List.set_cons_succ, List.length_cons, List.length_nil, Nat.reduceAdd, Nat.reduceLT, true_and, wpE_cmp2]
  refine st_asg ?_
  simp only [wpE_prim, wpEs_cons, wpEs_nil, wpE_var, wpE_cst, wpE_and, wpE_or, wpE_call, wpE_mcall, List.map_cons, List.map_nil, List.cons_append, List.nil_append, List.replicate_zero, List.replicate_succ, List.getElem?_cons_zero, List.getElem?_cons_succ, List.set_cons_zero, List.set_cons_succ, List.length_cons, List.length_nil, Nat.reduceAdd, Nat.reduceLT, true_and, wpE_cmp2]
  refine st_asg ?_
  simp only [wpE_prim, wpEs_cons, wpEs_nil, wpE_var, wpE_cst, wpE_and, wpE_or, wpE_call, wpE_mcall, List.map_cons, List.map_nil, List.cons_append, List.nil_append, List.replicate_zero, List.replicate_succ, List.getElem?_cons_zero, List.getElem?_cons_succ, List.set_cons_zero, List.set_cons_succ, List.length_cons, List.length_nil, Nat.reduceAdd, Nat.reduceLT, true_and, wpE_cmp2]
  (repeat (with_reducible first | refine hB ?_ | refine it_t ?_ | refine it_f ?_ | refine hE pm_not_t ?_ | refine hE pm_not_f ?_ | refine hE pm_not ?_ | refine hE pi_int_int ?_ | refine hE pi_int_bool ?_ | refine hE pi_bool_bool ?_ | refine hE pi_bool_int ?_ | refine hE pi_str_int ?_ | refine hE pi_str_str ?_ | refine hE pi_str_tuple ?_ | refine hE pi_tup_tuple ?_ | refine hE pi_tup_str ?_ | refine hE pi_none_str ?_ | refine hE pi_none_int ?_ | refine hE pi_none_tuple ?_ | refine hE pi_bool_str ?_ | refine hE pi_bool_tuple ?_ | refine hE pi_int_str ?_ | refine hE pi_int_tuple ?_ | refine hE pi_lst_list ?_ | refine hE pi_lst_str ?_ | refine hE pi_lst_tuple ?_ | refine hE pm_add ?_ | refine hE pm_sub ?_ | refine hE pm_pow9 ?_ | refine hE pm_lt ?_ | refine hE pm_le ?_ | refine hE pm_gt ?_ | refine hE pm_ge ?_ | refine hE pm_neg ?_ | refine hE pm_lenl ?_ | refine hE pm_lens ?_ | refine hE pm_lent ?_ | refine hE pm_intb ?_ | refine hE (pm_mod (by first | decide | omega | (simp only [List.length_cons, List.length_nil, List.length_map]; omega))) ?_ | refine hE (pm_mkl (by first | decide | omega | (simp only [List.length_cons, List.length_nil, List.length_map, sizeOf']; omega))) ?_ | refine hE (pM_mkl (by first | decide | omega | (simp only [List.length_cons, List.length_nil, List.length_map, sizeOf']; omega))) ?_ | refine hE (pm_mkt (by first | decide | omega | (simp only [List.length_cons, List.length_nil, List.length_map, sizeOf']; omega))) ?_ | refine hE (pm_range1 (by first | decide | omega | (simp only [List.length_cons, List.length_nil, List.length_map]; omega))) ?_ | refine hE (pm_fdiv (by first | decide | omega | (simp only [List.length_cons, List.length_nil, List.length_map]; omega)) (by first | decide | omega | (simp only [List.length_cons, List.length_nil, List.length_map]; omega))) ?_ | refine hc_le ?_ | refine hE (pm_mul (by first | decide | omega | (simp only [List.length_cons, List.length_nil, List.length_map]; omega)) (by first | decide | omega | (simp only [List.length_cons, List.length_nil, List.length_map]; omega))) ?_ | refine hE (pm_eq rd_int rd_int) ?_))
  refine st_for ?_
  simp only [wpE_prim, wpEs_cons, wpEs_nil, wpE_var, wpE_cst, wpE_and, wpE_or, wpE_call, wpE_mcall, List.map_cons, List.map_nil, List.cons_append, List.nil_append, List.replicate_zero, List.replicate_succ, List.getElem?_cons_zero, List.getElem?_cons_succ, List.set_cons_zero, List.set_cons_succ, List.length_cons, List.length_nil, Nat.reduceAdd, Nat.reduceLT, true_and, wpE_cmp2]
  (repeat (with_reducible first | refine hB ?_ | refine it_t ?_ | refine it_f ?_ | refine hE pm_not_t ?_ | refine hE pm_not_f ?_ | refine hE pm_not ?_ | refine hE pi_int_int ?_ | refine hE pi_int_bool ?_ | refine hE pi_bool_bool ?_ | refine hE pi_bool_int ?_ | refine hE pi_str_int ?_ | refine hE pi_str_str ?_ | refine hE pi_str_tuple ?_ | refine hE pi_tup_tuple ?_ | refine hE pi_tup_str ?_ | refine hE pi_none_str ?_ | refine hE pi_none_int ?_ | refine hE pi_none_tuple ?_ | refine hE pi_bool_str ?_ | refine hE pi_bool_tuple ?_ | refine hE pi_int_str ?_ | refine hE pi_int_tuple ?_ | refine hE pi_lst_list ?_ | refine hE pi_lst_str ?_ | refine hE pi_lst_tuple ?_ | refine hE pm_add ?_ | refine hE pm_sub ?_ | refine hE pm_pow9 ?_ | refine hE pm_lt ?_ | refine hE pm_le ?_ | refine hE pm_gt ?_ | refine hE pm_ge ?_ | refine hE pm_neg ?_ | refine hE pm_lenl ?_ | refine hE pm_lens ?_ | refine hE pm_lent ?_ | refine hE pm_intb ?_ | refine hE (pm_mod (by first | decide | omega | (simp only [List.length_cons, List.length_nil, List.length_map]; omega))) ?_ | refine hE (pm_mkl (by first | decide | omega | (simp only [List.length_cons, List.length_nil, List.length_map, sizeOf']; omega))) ?_ | refine hE (pM_mkl (by first | decide | omega | (simp only [List.length_cons, List.length_nil, List.length_map, sizeOf']; omega))) ?_ | refine hE (pm_mkt (by first | decide | omega | (simp only [List.length_cons, List.length_nil, List.length_map, sizeOf']; omega))) ?_ | refine hE (pm_range1 (by first | decide | omega | (simp only [List.length_cons, List.length_nil, List.length_map]; omega))) ?_ | refine hE (pm_fdiv (by first | decide | omega | (simp only [List.length_cons, List.length_nil, List.length_map]; omega)) (by first | decide | omega | (simp only [List.length_cons, List.length_nil, List.length_map]; omega))) ?_ | refine hc_le ?_ | refine hE (pm_mul (by first | decide | omega | (simp only [List.length_cons, List.length_nil, List.length_map]; omega)) (by first | decide | omega | (simp only [List.length_cons, List.length_nil, List.length_map]; omega))) ?_ | refine hE (pm_eq rd_int rd_int) ?_))
  refine ⟨rngL 0 8, rfl, by rw [rngL_length]; exact sz _ (by decide), ?_⟩
  simp only [Bool.false_eq_true, if_false]
  refine forL_inv (fun vs ρ H' => ∃ (a : Option V) (r : Int) (s : List Char), ρ = [some (.int c), some (.int 8), some (.str abc), some (.str s), some (.int r), a, none, none, none] ∧ H' = H ∧ s.length + vs.length = 8 ∧ inAbc s) ?_ ?_ ?_
  · rintro v vs ρ H' ⟨a, r, s, rfl, rfl, hlen, ha⟩
    rw [List.length_cons] at hlen
    refine ⟨rfl, fun K' hK => ?_⟩
    simp only [setTgt, wpE_prim, wpEs_cons, wpEs_nil, wpE_var, wpE_cst, wpE_and, wpE_or, wpE_call, wpE_mcall, List.map_cons, List.map_nil, List.cons_append, List.nil_append, List.replicate_zero, List.replicate_succ, List.getElem?_cons_zero, List.getElem?_cons_succ, List.set_cons_zero, List.set_cons_succ, List.length_cons, List.length_nil, Nat.reduceAdd, Nat.reduceLT, true_and, wpE_cmp2]
    refine st_asg ?_
    simp only [wpE_prim, wpEs_cons, wpEs_nil, wpE_var, wpE_cst, wpE_and, wpE_or, wpE_call, wpE_mcall, List.map_cons, List.map_nil, List.cons_append, List.nil_append, List.replicate_zero, List.replicate_succ, List.getElem?_cons_zero, List.getElem?_cons_succ, List.set_cons_zero, List.set_cons_succ, List.length_cons, List.length_nil, Nat.reduceAdd, Nat.reduceLT, true_and, wpE_cmp2]
    (repeat (with_reducible first | refine hB ?_ | refine it_t ?_ | refine it_f ?_ | refine hE pm_not_t ?_ | refine hE pm_not_f ?_ | refine hE pm_not ?_ | refine hE pi_int_int ?_ | refine hE pi_int_bool ?_ | refine hE pi_bool_bool ?_ | refine hE pi_bool_int ?_ | refine hE pi_str_int ?_ | refine hE pi_str_str ?_ | refine hE pi_str_tuple ?_ | refine hE pi_tup_tuple ?_ | refine hE pi_tup_str ?_ | refine hE pi_none_str ?_ | refine hE pi_none_int ?_ | refine hE pi_none_tuple ?_ | refine hE pi_bool_str ?_ | refine hE pi_bool_tuple ?_ | refine hE pi_int_str ?_ | refine hE pi_int_tuple ?_ | refine hE pi_lst_list ?_ | refine hE pi_lst_str ?_ | refine hE pi_lst_tuple ?_ | refine hE pm_add ?_ | refine hE pm_sub ?_ | refine hE pm_pow9 ?_ | refine hE pm_lt ?_ | refine hE pm_le ?_ | refine hE pm_gt ?_ | refine hE pm_ge ?_ | refine hE pm_neg ?_ | refine hE pm_lenl ?_ | refine hE pm_lens ?_ | refine hE pm_lent ?_ | refine hE pm_intb ?_ | refine hE (pm_mod (by first | decide | omega | (simp only [List.length_cons, List.length_nil, List.length_map]; omega))) ?_ | refine hE (pm_mkl (by first | decide | omega | (simp only [List.length_cons, List.length_nil, List.length_map, sizeOf']; omega))) ?_ | refine hE (pM_mkl (by first | decide | omega | (simp only [List.length_cons, List.length_nil, List.length_map, sizeOf']; omega))) ?_ | refine hE (pm_mkt (by first | decide | omega | (simp only [List.length_cons, List.length_nil, List.length_map, sizeOf']; omega))) ?_ | refine hE (pm_range1 (by first | decide | omega | (simp only [List.length_cons, List.length_nil, List.length_map]; omega))) ?_ | refine hE (pm_fdiv (by first | decide | omega | (simp only [List.length_cons, List.length_nil, List.length_map]; omega)) (by first | decide | omega | (simp only [List.length_cons, List.length_nil, List.length_map]; omega))) ?_ | refine hc_le ?_ | refine hE (pm_mul (by first | decide | omega | (simp only [List.length_cons, List.length_nil, List.length_map]; omega)) (by first | decide | omega | (simp only [List.length_cons, List.length_nil, List.length_map]; omega))) ?_ | refine hE (pm_eq rd_int rd_int) ?_))
    obtain ⟨ch, hch, e⟩ := pm_abc (H := H') (i := r % 26) (by omega) (by omega)
    refine hE e (hE (pm_adds (by simp only [List.length_cons, List.length_nil]; exact sz _ (by omega))) (st_asg ?_))
    simp only [wpE_prim, wpEs_cons, wpEs_nil, wpE_var, wpE_cst, wpE_and, wpE_or, wpE_call, wpE_mcall, List.map_cons, List.map_nil, List.cons_append, List.nil_append, List.replicate_zero, List.replicate_succ, List.getElem?_cons_zero, List.getElem?_cons_succ, List.set_cons_zero, List.set_cons_succ, List.length_cons, List.length_nil, Nat.reduceAdd, Nat.reduceLT, true_and, wpE_cmp2]
    (repeat (with_reducible first | refine hB ?_ | refine it_t ?_ | refine it_f ?_ | refine hE pm_not_t ?_ | refine hE pm_not_f ?_ | refine hE pm_not ?_ | refine hE pi_int_int ?_ | refine hE pi_int_bool ?_ | refine hE pi_bool_bool ?_ | refine hE pi_bool_int ?_ | refine hE pi_str_int ?_ | refine hE pi_str_str ?_ | refine hE pi_str_tuple ?_ | refine hE pi_tup_tuple ?_ | refine hE pi_tup_str ?_ | refine hE pi_none_str ?_ | refine hE pi_none_int ?_ | refine hE pi_none_tuple ?_ | refine hE pi_bool_str ?_ | refine hE pi_bool_tuple ?_ | refine hE pi_int_str ?_ | refine hE pi_int_tuple ?_ | refine hE pi_lst_list ?_ | refine hE pi_lst_str ?_ | refine hE pi_lst_tuple ?_ | refine hE pm_add ?_ | refine hE pm_sub ?_ | refine hE pm_pow9 ?_ | refine hE pm_lt ?_ | refine hE pm_le ?_ | refine hE pm_gt ?_ | refine hE pm_ge ?_ | refine hE pm_neg ?_ | refine hE pm_lenl ?_ | refine hE pm_lens ?_ | refine hE pm_lent ?_ | refine hE pm_intb ?_ | refine hE (pm_mod (by first | decide | omega | (simp only [List.length_cons, List.length_nil, List.length_map]; omega))) ?_ | refine hE (pm_mkl (by first | decide | omega | (simp only [List.length_cons, List.length_nil, List.length_map, sizeOf']; omega))) ?_ | refine hE (pM_mkl (by first | decide | omega | (simp only [List.length_cons, List.length_nil, List.length_map, sizeOf']; omega))) ?_ | refine hE (pm_mkt (by first | decide | omega | (simp only [List.length_cons, List.length_nil, List.length_map, sizeOf']; omega))) ?_ | refine hE (pm_range1 (by first | decide | omega | (simp only [List.length_cons, List.length_nil, List.length_map]; omega))) ?_ | refine hE (pm_fdiv (by first | decide | omega | (simp only [List.length_cons, List.length_nil, List.length_map]; omega)) (by first | decide | omega | (simp only [List.length_cons, List.length_nil, List.length_map]; omega))) ?_ | refine hc_le ?_ | refine hE (pm_mul (by first | decide | omega | (simp only [List.length_cons, List.length_nil, List.length_map]; omega)) (by first | decide | omega | (simp only [List.length_cons, List.length_nil, List.length_map]; omega))) ?_ | refine hE (pm_eq rd_int rd_int) ?_))
    refine st_nil (hK _ _ ⟨_, _, s ++ [ch], rfl, rfl, ?_, inAbc_app ha (inAbc_one hch)⟩)
    rw [List.length_append, List.length_singleton]; omega
  · rintro ρ H' ⟨a, r, s, rfl, rfl, hlen, ha⟩
    have hl8 : s.length = 8 := by simpa using hlen
    refine ⟨rfl, st_asg ?_⟩
    simp only [wpE_prim, wpEs_cons, wpEs_nil, wpE_var, wpE_cst, wpE_and, wpE_or, wpE_call, wpE_mcall, List.map_cons, List.map_nil, List.cons_append, List.nil_append, List.replicate_zero, List.replicate_succ, List.getElem?_cons_zero, List.getElem?_cons_succ, List.set_cons_zero, List.set_cons_succ, List.length_cons, List.length_nil, Nat.reduceAdd, Nat.reduceLT, true_and, wpE_cmp2]
    (repeat (with_reducible first | refine hB ?_ | refine it_t ?_ | refine it_f ?_ | refine hE pm_not_t ?_ | refine hE pm_not_f ?_ | refine hE pm_not ?_ | refine hE pi_int_int ?_ | refine hE pi_int_bool ?_ | refine hE pi_bool_bool ?_ | refine hE pi_bool_int ?_ | refine hE pi_str_int ?_ | refine hE pi_str_str ?_ | refine hE pi_str_tuple ?_ | refine hE pi_tup_tuple ?_ | refine hE pi_tup_str ?_ | refine hE pi_none_str ?_ | refine hE pi_none_int ?_ | refine hE pi_none_tuple ?_ | refine hE pi_bool_str ?_ | refine hE pi_bool_tuple ?_ | refine hE pi_int_str ?_ | refine hE pi_int_tuple ?_ | refine hE pi_lst_list ?_ | refine hE pi_lst_str ?_ | refine hE pi_lst_tuple ?_ | refine hE pm_add ?_ | refine hE pm_sub ?_ | refine hE pm_pow9 ?_ | refine hE pm_lt ?_ | refine hE pm_le ?_ | refine hE pm_gt ?_ | refine hE pm_ge ?_ | refine hE pm_neg ?_ | refine hE pm_lenl ?_ | refine hE pm_lens ?_ | refine hE pm_lent ?_ | refine hE pm_intb ?_ | refine hE (pm_mod (by first | decide | omega | (simp only [List.length_cons, List.length_nil, List.length_map]; omega))) ?_ | refine hE (pm_mkl (by first | decide | omega | (simp only [List.length_cons, List.length_nil, List.length_map, sizeOf']; omega))) ?_ | refine hE (pM_mkl (by first | decide | omega | (simp only [List.length_cons, List.length_nil, List.length_map, sizeOf']; omega))) ?_ | refine hE (pm_mkt (by first | decide | omega | (simp only [List.length_cons, List.length_nil, List.length_map, sizeOf']; omega))) ?_ | refine hE (pm_range1 (by first | decide | omega | (simp only [List.length_cons, List.length_nil, List.length_map]; omega))) ?_ | refine hE (pm_fdiv (by first | decide | omega | (simp only [List.length_cons, List.length_nil, List.length_map]; omega)) (by first | decide | omega | (simp only [List.length_cons, List.length_nil, List.length_map]; omega))) ?_ | refine hc_le ?_ | refine hE (pm_mul (by first | decide | omega | (simp only [List.length_cons, List.length_nil, List.length_map]; omega)) (by first | decide | omega | (simp only [List.length_cons, List.length_nil, List.length_map]; omega))) ?_ | refine hE (pm_eq rd_int rd_int) ?_))
    refine st_ite ?_
    have two : wpSs PL (callF PL n) [
      (.ite (.and (.prim false (.cop .eq) [(.var 6), (.cst (.int 1))]) (.prim false (.cop .lt) [(.var 1), (.cst (.int 9))])) [(.ret (.comp false (.prim false .slice [(.var 3), (.prim false (.bop .sub) [(.cst (.int 7)), (.var 9)]), (.cst .none)]) (.prim false .range1 [(.var 1)]) none))] []),
      (.asg 3 (.prim false .slice [(.var 3), (.cst .none), (.prim false (.bop .mod) [(.prim false (.bop .fdiv) [(.var 0), (.cst (.int 6))]), (.cst (.int 7))])])),
      (.ite (.and (.prim false (.cop .lt) [(.var 6), (.cst (.int 4))]) (.prim false (.cop .lt) [(.var 1), (.cst (.int 27))])) [(.asg 7 (.prim false .slice [(.var 3), (.cst .none), (.prim false (.bop .mod) [(.prim false (.bop .fdiv) [(.var 0), (.cst (.int 5))]), (.prim false (.bop .add) [(.prim false .len [(.var 3)]), (.cst (.int 1))])])])),
      (.asg 8 (.prim false .slice [(.var 3), (.prim false .len [(.var 7)]), (.cst .none)])),
      (.ret (.comp false (.prim false (.bop .add) [(.prim false (.bop .add) [(.var 7), (.prim false .item [(.var 2), (.prim false (.bop .mod) [(.prim false (.bop .add) [(.prim false (.bop .fdiv) [(.var 0), (.cst (.int 7))]), (.prim false (.bop .mul) [(.cst (.int 7)), (.var 9)])]), (.cst (.int 26))])])]), (.var 8)]) (.prim false .range1 [(.var 1)]) none))] []),
      (.ret (.comp false (.prim false (.bop .add) [(.prim false (.bop .add) [(.var 3), (.prim false .item [(.var 2), (.prim false (.bop .fdiv) [(.var 9), (.cst (.int 26))])])]), (.prim false .item [(.var 2), (.prim false (.bop .mod) [(.var 9), (.cst (.int 26))])])]) (.prim false .range1 [(.var 1)]) none))]
      [some (.int c), some (.int 8), some (.str abc), some (.str s), some (.int r), a, some (.int (c % 6)), none, none] H' (fun _ H'' => Ret H' Q .none H'') (fun v H'' => Ret H' Q v H'') (RetX H' X) := by
      refine st_ite ?_
      have three : wpSs PL (callF PL n) [
        (.asg 3 (.prim false .slice [(.var 3), (.cst .none), (.prim false (.bop .mod) [(.prim false (.bop .fdiv) [(.var 0), (.cst (.int 6))]), (.cst (.int 7))])])),
        (.ite (.and (.prim false (.cop .lt) [(.var 6), (.cst (.int 4))]) (.prim false (.cop .lt) [(.var 1), (.cst (.int 27))])) [(.asg 7 (.prim false .slice [(.var 3), (.cst .none), (.prim false (.bop .mod) [(.prim false (.bop .fdiv) [(.var 0), (.cst (.int 5))]), (.prim false (.bop .add) [(.prim false .len [(.var 3)]), (.cst (.int 1))])])])),
        (.asg 8 (.prim false .slice [(.var 3), (.prim false .len [(.var 7)]), (.cst .none)])),
        (.ret (.comp false (.prim false (.bop .add) [(.prim false (.bop .add) [(.var 7), (.prim false .item [(.var 2), (.prim false (.bop .mod) [(.prim false (.bop .add) [(.prim false (.bop .fdiv) [(.var 0), (.cst (.int 7))]), (.prim false (.bop .mul) [(.cst (.int 7)), (.var 9)])]), (.cst (.int 26))])])]), (.var 8)]) (.prim false .range1 [(.var 1)]) none))] []),
        (.ret (.comp false (.prim false (.bop .add) [(.prim false (.bop .add) [(.var 3), (.prim false .item [(.var 2), (.prim false (.bop .fdiv) [(.var 9), (.cst (.int 26))])])]), (.prim false .item [(.var 2), (.prim false (.bop .mod) [(.var 9), (.cst (.int 26))])])]) (.prim false .range1 [(.var 1)]) none))]
        [some (.int c), some (.int 8), some (.str abc), some (.str s), some (.int r), a, some (.int (c % 6)), none, none] H' (fun _ H'' => Ret H' Q .none H'') (fun v H'' => Ret H' Q v H'') (RetX H' X) := by
        refine st_asg ?_
        simp only [wpE_prim, wpEs_cons, wpEs_nil, wpE_var, wpE_cst, wpE_and, wpE_or, wpE_call, wpE_mcall, List.map_cons, List.map_nil, List.cons_append, List.nil_append, List.replicate_zero, List.replicate_succ, List.getElem?_cons_zero, List.getElem?_cons_succ, List.set_cons_zero, List.set_cons_succ, List.length_cons, List.length_nil, Nat.reduceAdd, Nat.reduceLT, true_and, wpE_cmp2]
        (repeat (with_reducible first | refine hB ?_ | refine it_t ?_ | refine it_f ?_ | refine hE pm_not_t ?_ | refine hE pm_not_f ?_ | refine hE pm_not ?_ | refine hE pi_int_int ?_ | refine hE pi_int_bool ?_ | refine hE pi_bool_bool ?_ | refine hE pi_bool_int ?_ | refine hE pi_str_int ?_ | refine hE pi_str_str ?_ | refine hE pi_str_tuple ?_ | refine hE pi_tup_tuple ?_ | refine hE pi_tup_str ?_ | refine hE pi_none_str ?_ | refine hE pi_none_int ?_ | refine hE pi_none_tuple ?_ | refine hE pi_bool_str ?_ | refine hE pi_bool_tuple ?_ | refine hE pi_int_str ?_ | refine hE pi_int_tuple ?_ | refine hE pi_lst_list ?_ | refine hE pi_lst_str ?_ | refine hE pi_lst_tuple ?_ | refine hE pm_add ?_ | refine hE pm_sub ?_ | refine hE pm_pow9 ?_ | refine hE pm_lt ?_ | refine hE pm_le ?_ | refine hE pm_gt ?_ | refine hE pm_ge ?_ | refine hE pm_neg ?_ | refine hE pm_lenl ?_ | refine hE pm_lens ?_ | refine hE pm_lent ?_ | refine hE pm_intb ?_ | refine hE (pm_mod (by first | decide | omega | (simp only [List.length_cons, List.length_nil, List.length_map]; omega))) ?_ | refine hE (pm_mkl (by first | decide | omega | (simp only [List.length_cons, List.length_nil, List.length_map, sizeOf']; omega))) ?_ | refine hE (pM_mkl (by first | decide | omega | (simp only [List.length_cons, List.length_nil, List.length_map, sizeOf']; omega))) ?_ | refine hE (pm_mkt (by first | decide | omega | (simp only [List.length_cons, List.length_nil, List.length_map, sizeOf']; omega))) ?_ | refine hE (pm_range1 (by first | decide | omega | (simp only [List.length_cons, List.length_nil, List.length_map]; omega))) ?_ | refine hE (pm_fdiv (by first | decide | omega | (simp only [List.length_cons, List.length_nil, List.length_map]; omega)) (by first | decide | omega | (simp only [List.length_cons, List.length_nil, List.length_map]; omega))) ?_ | refine hc_le ?_ | refine hE (pm_mul (by first | decide | omega | (simp only [List.length_cons, List.length_nil, List.length_map]; omega)) (by first | decide | omega | (simp only [List.length_cons, List.length_nil, List.length_map]; omega))) ?_ | refine hE (pm_eq rd_int rd_int) ?_))
        have hj : 0 ≤ c / 6 % 7 ∧ c / 6 % 7 ≤ 6 := by omega
        refine hE (pm_sl_s (sz _ (by omega))) (st_ite ?_)
        have hh : (sliceL s 0 (clip s.length (c / 6 % 7))).length ≤ 6 := by
          rw [slice_len, clip_in hj.1 (by omega)]; omega
        have hha : inAbc (sliceL s 0 (clip s.length (c / 6 % 7))) := inAbc_slice ha
        generalize sliceL s 0 (clip s.length (c / 6 % 7)) = hd at hh hha ⊢
        have four : wpSs PL (callF PL n) [(.ret (.comp false (.prim false (.bop .add) [(.prim false (.bop .add) [(.var 3), (.prim false .item [(.var 2), (.prim false (.bop .fdiv) [(.var 9), (.cst (.int 26))])])]), (.prim false .item [(.var 2), (.prim false (.bop .mod) [(.var 9), (.cst (.int 26))])])]) (.prim false .range1 [(.var 1)]) none))]
          [some (.int c), some (.int 8), some (.str abc), some (.str hd), some (.int r), a, some (.int (c % 6)), none, none] H' (fun _ H'' => Ret H' Q .none H'') (fun v H'' => Ret H' Q v H'') (RetX H' X) := by
          refine st_ret ?_
          rw [wpE_comp]
          simp only [wpE_prim, wpEs_cons, wpEs_nil, wpE_var, wpE_cst, wpE_and, wpE_or, wpE_call, wpE_mcall, List.map_cons, List.map_nil, List.cons_append, List.nil_append, List.replicate_zero, List.replicate_succ, List.getElem?_cons_zero, List.getElem?_cons_succ, List.set_cons_zero, List.set_cons_succ, List.length_cons, List.length_nil, Nat.reduceAdd, Nat.reduceLT, true_and, wpE_cmp2]
          (repeat (with_reducible first | refine hB ?_ | refine it_t ?_ | refine it_f ?_ | refine hE pm_not_t ?_ | refine hE pm_not_f ?_ | refine hE pm_not ?_ | refine hE pi_int_int ?_ | refine hE pi_int_bool ?_ | refine hE pi_bool_bool ?_ | refine hE pi_bool_int ?_ | refine hE pi_str_int ?_ | refine hE pi_str_str ?_ | refine hE pi_str_tuple ?_ | refine hE pi_tup_tuple ?_ | refine hE pi_tup_str ?_ | refine hE pi_none_str ?_ | refine hE pi_none_int ?_ | refine hE pi_none_tuple ?_ | refine hE pi_bool_str ?_ | refine hE pi_bool_tuple ?_ | refine hE pi_int_str ?_ | refine hE pi_int_tuple ?_ | refine hE pi_lst_list ?_ | refine hE pi_lst_str ?_ | refine hE pi_lst_tuple ?_ | refine hE pm_add ?_ | refine hE pm_sub ?_ | refine hE pm_pow9 ?_ | refine hE pm_lt ?_ | refine hE pm_le ?_ | refine hE pm_gt ?_ | refine hE pm_ge ?_ | refine hE pm_neg ?_ | refine hE pm_lenl ?_ | refine hE pm_lens ?_ | refine hE pm_lent ?_ | refine hE pm_intb ?_ | refine hE (pm_mod (by first | decide | omega | (simp only [List.length_cons, List.length_nil, List.length_map]; omega))) ?_ | refine hE (pm_mkl (by first | decide | omega | (simp only [List.length_cons, List.length_nil, List.length_map, sizeOf']; omega))) ?_ | refine hE (pM_mkl (by first | decide | omega | (simp only [List.length_cons, List.length_nil, List.length_map, sizeOf']; omega))) ?_ | refine hE (pm_mkt (by first | decide | omega | (simp only [List.length_cons, List.length_nil, List.length_map, sizeOf']; omega))) ?_ | refine hE (pm_range1 (by first | decide | omega | (simp only [List.length_cons, List.length_nil, List.length_map]; omega))) ?_ | refine hE (pm_fdiv (by first | decide | omega | (simp only [List.length_cons, List.length_nil, List.length_map]; omega)) (by first | decide | omega | (simp only [List.length_cons, List.length_nil, List.length_map]; omega))) ?_ | refine hc_le ?_ | refine hE (pm_mul (by first | decide | omega | (simp only [List.length_cons, List.length_nil, List.length_map]; omega)) (by first | decide | omega | (simp only [List.length_cons, List.length_nil, List.length_map]; omega))) ?_ | refine hE (pm_eq rd_int rd_int) ?_))
          refine ⟨rngL 0 8, rfl, by rw [rngL_length]; exact sz _ (by decide), compL_rel (P := isName) (by exact rfl) (fun x hx K hK => ?_) done⟩
          obtain ⟨k, rfl, h0, h1⟩ := rng_mem hx
          (repeat (with_reducible first | refine hB ?_ | refine it_t ?_ | refine it_f ?_ | refine hE pm_not_t ?_ | refine hE pm_not_f ?_ | refine hE pm_not ?_ | refine hE pi_int_int ?_ | refine hE pi_int_bool ?_ | refine hE pi_bool_bool ?_ | refine hE pi_bool_int ?_ | refine hE pi_str_int ?_ | refine hE pi_str_str ?_ | refine hE pi_str_tuple ?_ | refine hE pi_tup_tuple ?_ | refine hE pi_tup_str ?_ | refine hE pi_none_str ?_ | refine hE pi_none_int ?_ | refine hE pi_none_tuple ?_ | refine hE pi_bool_str ?_ | refine hE pi_bool_tuple ?_ | refine hE pi_int_str ?_ | refine hE pi_int_tuple ?_ | refine hE pi_lst_list ?_ | refine hE pi_lst_str ?_ | refine hE pi_lst_tuple ?_ | refine hE pm_add ?_ | refine hE pm_sub ?_ | refine hE pm_pow9 ?_ | refine hE pm_lt ?_ | refine hE pm_le ?_ | refine hE pm_gt ?_ | refine hE pm_ge ?_ | refine hE pm_neg ?_ | refine hE pm_lenl ?_ | refine hE pm_lens ?_ | refine hE pm_lent ?_ | refine hE pm_intb ?_ | refine hE (pm_mod (by first | decide | omega | (simp only [List.length_cons, List.length_nil, List.length_map]; omega))) ?_ | refine hE (pm_mkl (by first | decide | omega | (simp only [List.length_cons, List.length_nil, List.length_map, sizeOf']; omega))) ?_ | refine hE (pM_mkl (by first | decide | omega | (simp only [List.length_cons, List.length_nil, List.length_map, sizeOf']; omega))) ?_ | refine hE (pm_mkt (by first | decide | omega | (simp only [List.length_cons, List.length_nil, List.length_map, sizeOf']; omega))) ?_ | refine hE (pm_range1 (by first | decide | omega | (simp only [List.length_cons, List.length_nil, List.length_map]; omega))) ?_ | refine hE (pm_fdiv (by first | decide | omega | (simp only [List.length_cons, List.length_nil, List.length_map]; omega)) (by first | decide | omega | (simp only [List.length_cons, List.length_nil, List.length_map]; omega))) ?_ | refine hc_le ?_ | refine hE (pm_mul (by first | decide | omega | (simp only [List.length_cons, List.length_nil, List.length_map]; omega)) (by first | decide | omega | (simp only [List.length_cons, List.length_nil, List.length_map]; omega))) ?_ | refine hE (pm_eq rd_int rd_int) ?_))
          obtain ⟨c1, hc1, e1⟩ := pm_abc (H := H') (i := k / 26) (by omega) (by omega)
          obtain ⟨c2, hc2, e2⟩ := pm_abc (H := H') (i := k % 26) (by omega) (by omega)
          refine hE e1 (hE (pm_adds (by simp only [List.length_cons, List.length_nil]; exact sz _ (by omega))) ?_)
          (repeat (with_reducible first | refine hB ?_ | refine it_t ?_ | refine it_f ?_ | refine hE pm_not_t ?_ | refine hE pm_not_f ?_ | refine hE pm_not ?_ | refine hE pi_int_int ?_ | refine hE pi_int_bool ?_ | refine hE pi_bool_bool ?_ | refine hE pi_bool_int ?_ | refine hE pi_str_int ?_ | refine hE pi_str_str ?_ | refine hE pi_str_tuple ?_ | refine hE pi_tup_tuple ?_ | refine hE pi_tup_str ?_ | refine hE pi_none_str ?_ | refine hE pi_none_int ?_ | refine hE pi_none_tuple ?_ | refine hE pi_bool_str ?_ | refine hE pi_bool_tuple ?_ | refine hE pi_int_str ?_ | refine hE pi_int_tuple ?_ | refine hE pi_lst_list ?_ | refine hE pi_lst_str ?_ | refine hE pi_lst_tuple ?_ | refine hE pm_add ?_ | refine hE pm_sub ?_ | refine hE pm_pow9 ?_ | refine hE pm_lt ?_ | refine hE pm_le ?_ | refine hE pm_gt ?_ | refine hE pm_ge ?_ | refine hE pm_neg ?_ | refine hE pm_lenl ?_ | refine hE pm_lens ?_ | refine hE pm_lent ?_ | refine hE pm_intb ?_ | refine hE (pm_mod (by first | decide | omega | (simp only [List.length_cons, List.length_nil, List.length_map]; omega))) ?_ | refine hE (pm_mkl (by first | decide | omega | (simp only [List.length_cons, List.length_nil, List.length_map, sizeOf']; omega))) ?_ | refine hE (pM_mkl (by first | decide | omega | (simp only [List.length_cons, List.length_nil, List.length_map, sizeOf']; omega))) ?_ | refine hE (pm_mkt (by first | decide | omega | (simp only [List.length_cons, List.length_nil, List.length_map, sizeOf']; omega))) ?_ | refine hE (pm_range1 (by first | decide | omega | (simp only [List.length_cons, List.length_nil, List.length_map]; omega))) ?_ | refine hE (pm_fdiv (by first | decide | omega | (simp only [List.length_cons, List.length_nil, List.length_map]; omega)) (by first | decide | omega | (simp only [List.length_cons, List.length_nil, List.length_map]; omega))) ?_ | refine hc_le ?_ | refine hE (pm_mul (by first | decide | omega | (simp only [List.length_cons, List.length_nil, List.length_map]; omega)) (by first | decide | omega | (simp only [List.length_cons, List.length_nil, List.length_map]; omega))) ?_ | refine hE (pm_eq rd_int rd_int) ?_))
          refine hE e2 (hE (pm_adds (by simp only [List.length_append, List.length_cons, List.length_nil]; exact sz _ (by omega))) (hK _ ?_))
          exact ⟨by simp only [List.length_append, List.length_cons, List.length_nil]; omega, by simp only [List.length_append, List.length_cons, List.length_nil]; omega, inAbc_app (inAbc_app hha (inAbc_one hc1)) (inAbc_one hc2)⟩
        simp only [wpE_prim, wpEs_cons, wpEs_nil, wpE_var, wpE_cst, wpE_and, wpE_or, wpE_call, wpE_mcall, List.map_cons, List.map_nil, List.cons_append, List.nil_append, List.replicate_zero, List.replicate_succ, List.getElem?_cons_zero, List.getElem?_cons_succ, List.set_cons_zero, List.set_cons_succ, List.length_cons, List.length_nil, Nat.reduceAdd, Nat.reduceLT, true_and, wpE_cmp2]
        (repeat (with_reducible first | refine hB ?_ | refine it_t ?_ | refine it_f ?_ | refine hE pm_not_t ?_ | refine hE pm_not_f ?_ | refine hE pm_not ?_ | refine hE pi_int_int ?_ | refine hE pi_int_bool ?_ | refine hE pi_bool_bool ?_ | refine hE pi_bool_int ?_ | refine hE pi_str_int ?_ | refine hE pi_str_str ?_ | refine hE pi_str_tuple ?_ | refine hE pi_tup_tuple ?_ | refine hE pi_tup_str ?_ | refine hE pi_none_str ?_ | refine hE pi_none_int ?_ | refine hE pi_none_tuple ?_ | refine hE pi_bool_str ?_ | refine hE pi_bool_tuple ?_ | refine hE pi_int_str ?_ | refine hE pi_int_tuple ?_ | refine hE pi_lst_list ?_ | refine hE pi_lst_str ?_ | refine hE pi_lst_tuple ?_ | refine hE pm_add ?_ | refine hE pm_sub ?_ | refine hE pm_pow9 ?_ | refine hE pm_lt ?_ | refine hE pm_le ?_ | refine hE pm_gt ?_ | refine hE pm_ge ?_ | refine hE pm_neg ?_ | refine hE pm_lenl ?_ | refine hE pm_lens ?_ | refine hE pm_lent ?_ | refine hE pm_intb ?_ | refine hE (pm_mod (by first | decide | omega | (simp only [List.length_cons, List.length_nil, List.length_map]; omega))) ?_ | refine hE (pm_mkl (by first | decide | omega | (simp only [List.length_cons, List.length_nil, List.length_map, sizeOf']; omega))) ?_ | refine hE (pM_mkl (by first | decide | omega | (simp only [List.length_cons, List.length_nil, List.length_map, sizeOf']; omega))) ?_ | refine hE (pm_mkt (by first | decide | omega | (simp only [List.length_cons, List.length_nil, List.length_map, sizeOf']; omega))) ?_ | refine hE (pm_range1 (by first | decide | omega | (simp only [List.length_cons, List.length_nil, List.length_map]; omega))) ?_ | refine hE (pm_fdiv (by first | decide | omega | (simp only [List.length_cons, List.length_nil, List.length_map]; omega)) (by first | decide | omega | (simp only [List.length_cons, List.length_nil, List.length_map]; omega))) ?_ | refine hc_le ?_ | refine hE (pm_mul (by first | decide | omega | (simp only [List.length_cons, List.length_nil, List.length_map]; omega)) (by first | decide | omega | (simp only [List.length_cons, List.length_nil, List.length_map]; omega))) ?_ | refine hE (pm_eq rd_int rd_int) ?_))
        by_cases h4 : c % 6 < 4
        · rw [decide_eq_true h4]
          refine it_t ?_
          (repeat (with_reducible first | refine hB ?_ | refine it_t ?_ | refine it_f ?_ | refine hE pm_not_t ?_ | refine hE pm_not_f ?_ | refine hE pm_not ?_ | refine hE pi_int_int ?_ | refine hE pi_int_bool ?_ | refine hE pi_bool_bool ?_ | refine hE pi_bool_int ?_ | refine hE pi_str_int ?_ | refine hE pi_str_str ?_ | refine hE pi_str_tuple ?_ | refine hE pi_tup_tuple ?_ | refine hE pi_tup_str ?_ | refine hE pi_none_str ?_ | refine hE pi_none_int ?_ | refine hE pi_none_tuple ?_ | refine hE pi_bool_str ?_ | refine hE pi_bool_tuple ?_ | refine hE pi_int_str ?_ | refine hE pi_int_tuple ?_ | refine hE pi_lst_list ?_ | refine hE pi_lst_str ?_ | refine hE pi_lst_tuple ?_ | refine hE pm_add ?_ | refine hE pm_sub ?_ | refine hE pm_pow9 ?_ | refine hE pm_lt ?_ | refine hE pm_le ?_ | refine hE pm_gt ?_ | refine hE pm_ge ?_ | refine hE pm_neg ?_ | refine hE pm_lenl ?_ | refine hE pm_lens ?_ | refine hE pm_lent ?_ | refine hE pm_intb ?_ | refine hE (pm_mod (by first | decide | omega | (simp only [List.length_cons, List.length_nil, List.length_map]; omega))) ?_ | refine hE (pm_mkl (by first | decide | omega | (simp only [List.length_cons, List.length_nil, List.length_map, sizeOf']; omega))) ?_ | refine hE (pM_mkl (by first | decide | omega | (simp only [List.length_cons, List.length_nil, List.length_map, sizeOf']; omega))) ?_ | refine hE (pm_mkt (by first | decide | omega | (simp only [List.length_cons, List.length_nil, List.length_map, sizeOf']; omega))) ?_ | refine hE (pm_range1 (by first | decide | omega | (simp only [List.length_cons, List.length_nil, List.length_map]; omega))) ?_ | refine hE (pm_fdiv (by first | decide | omega | (simp only [List.length_cons, List.length_nil, List.length_map]; omega)) (by first | decide | omega | (simp only [List.length_cons, List.length_nil, List.length_map]; omega))) ?_ | refine hc_le ?_ | refine hE (pm_mul (by first | decide | omega | (simp only [List.length_cons, List.length_nil, List.length_map]; omega)) (by first | decide | omega | (simp only [List.length_cons, List.length_nil, List.length_map]; omega))) ?_ | refine hE (pm_eq rd_int rd_int) ?_))
          refine it_t (st_asg ?_)
          simp only [wpE_prim, wpEs_cons, wpEs_nil, wpE_var, wpE_cst, wpE_and, wpE_or, wpE_call, wpE_mcall, List.map_cons, List.map_nil, List.cons_append, List.nil_append, List.replicate_zero, List.replicate_succ, List.getElem?_cons_zero, List.getElem?_cons_succ, List.set_cons_zero, List.set_cons_succ, List.length_cons, List.length_nil, Nat.reduceAdd, Nat.reduceLT, true_and, wpE_cmp2]
          (repeat (with_reducible first | refine hB ?_ | refine it_t ?_ | refine it_f ?_ | refine hE pm_not_t ?_ | refine hE pm_not_f ?_ | refine hE pm_not ?_ | refine hE pi_int_int ?_ | refine hE pi_int_bool ?_ | refine hE pi_bool_bool ?_ | refine hE pi_bool_int ?_ | refine hE pi_str_int ?_ | refine hE pi_str_str ?_ | refine hE pi_str_tuple ?_ | refine hE pi_tup_tuple ?_ | refine hE pi_tup_str ?_ | refine hE pi_none_str ?_ | refine hE pi_none_int ?_ | refine hE pi_none_tuple ?_ | refine hE pi_bool_str ?_ | refine hE pi_bool_tuple ?_ | refine hE pi_int_str ?_ | refine hE pi_int_tuple ?_ | refine hE pi_lst_list ?_ | refine hE pi_lst_str ?_ | refine hE pi_lst_tuple ?_ | refine hE pm_add ?_ | refine hE pm_sub ?_ | refine hE pm_pow9 ?_ | refine hE pm_lt ?_ | refine hE pm_le ?_ | refine hE pm_gt ?_ | refine hE pm_ge ?_ | refine hE pm_neg ?_ | refine hE pm_lenl ?_ | refine hE pm_lens ?_ | refine hE pm_lent ?_ | refine hE pm_intb ?_ | refine hE (pm_mod (by first | decide | omega | (simp only [List.length_cons, List.length_nil, List.length_map]; omega))) ?_ | refine hE (pm_mkl (by first | decide | omega | (simp only [List.length_cons, List.length_nil, List.length_map, sizeOf']; omega))) ?_ | refine hE (pM_mkl (by first | decide | omega | (simp only [List.length_cons, List.length_nil, List.length_map, sizeOf']; omega))) ?_ | refine hE (pm_mkt (by first | decide | omega | (simp only [List.length_cons, List.length_nil, List.length_map, sizeOf']; omega))) ?_ | refine hE (pm_range1 (by first | decide | omega | (simp only [List.length_cons, List.length_nil, List.length_map]; omega))) ?_ | refine hE (pm_fdiv (by first | decide | omega | (simp only [List.length_cons, List.length_nil, List.length_map]; omega)) (by first | decide | omega | (simp only [List.length_cons, List.length_nil, List.length_map]; omega))) ?_ | refine hc_le ?_ | refine hE (pm_mul (by first | decide | omega | (simp only [List.length_cons, List.length_nil, List.length_map]; omega)) (by first | decide | omega | (simp only [List.length_cons, List.length_nil, List.length_map]; omega))) ?_ | refine hE (pm_eq rd_int rd_int) ?_))
          have hm : 0 ≤ c / 5 % ((hd.length : Int) + 1) ∧ c / 5 % ((hd.length : Int) + 1) ≤ hd.length := by
            have := Int.emod_nonneg (c / 5) (show ((hd.length : Int) + 1) ≠ 0 by omega)
            have := Int.emod_lt_of_pos (c / 5) (show 0 < ((hd.length : Int) + 1) by omega)
            omega
          refine hE (pm_sl_s (sz _ (by omega))) (st_asg ?_)
          have hla : inAbc (sliceL hd 0 (clip hd.length (c / 5 % ((hd.length : Int) + 1)))) := inAbc_slice hha
          have hll : (sliceL hd 0 (clip hd.length (c / 5 % ((hd.length : Int) + 1)))).length ≤ hd.length := by rw [slice_len]; omega
          generalize sliceL hd 0 (clip hd.length (c / 5 % ((hd.length : Int) + 1))) = lf at hla hll ⊢
          simp only [wpE_prim, wpEs_cons, wpEs_nil, wpE_var, wpE_cst, wpE_and, wpE_or, wpE_call, wpE_mcall, List.map_cons, List.map_nil, List.cons_append, List.nil_append, List.replicate_zero, List.replicate_succ, List.getElem?_cons_zero, List.getElem?_cons_succ, List.set_cons_zero, List.set_cons_succ, List.length_cons, List.length_nil, Nat.reduceAdd, Nat.reduceLT, true_and, wpE_cmp2]
          (repeat (with_reducible first | refine hB ?_ | refine it_t ?_ | refine it_f ?_ | refine hE pm_not_t ?_ | refine hE pm_not_f ?_ | refine hE pm_not ?_ | refine hE pi_int_int ?_ | refine hE pi_int_bool ?_ | refine hE pi_bool_bool ?_ | refine hE pi_bool_int ?_ | refine hE pi_str_int ?_ | refine hE pi_str_str ?_ | refine hE pi_str_tuple ?_ | refine hE pi_tup_tuple ?_ | refine hE pi_tup_str ?_ | refine hE pi_none_str ?_ | refine hE pi_none_int ?_ | refine hE pi_none_tuple ?_ | refine hE pi_bool_str ?_ | refine hE pi_bool_tuple ?_ | refine hE pi_int_str ?_ | refine hE pi_int_tuple ?_ | refine hE pi_lst_list ?_ | refine hE pi_lst_str ?_ | refine hE pi_lst_tuple ?_ | refine hE pm_add ?_ | refine hE pm_sub ?_ | refine hE pm_pow9 ?_ | refine hE pm_lt ?_ | refine hE pm_le ?_ | refine hE pm_gt ?_ | refine hE pm_ge ?_ | refine hE pm_neg ?_ | refine hE pm_lenl ?_ | refine hE pm_lens ?_ | refine hE pm_lent ?_ | refine hE pm_intb ?_ | refine hE (pm_mod (by first | decide | omega | (simp only [List.length_cons, List.length_nil, List.length_map]; omega))) ?_ | refine hE (pm_mkl (by first | decide | omega | (simp only [List.length_cons, List.length_nil, List.length_map, sizeOf']; omega))) ?_ | refine hE (pM_mkl (by first | decide | omega | (simp only [List.length_cons, List.length_nil, List.length_map, sizeOf']; omega))) ?_ | refine hE (pm_mkt (by first | decide | omega | (simp only [List.length_cons, List.length_nil, List.length_map, sizeOf']; omega))) ?_ | refine hE (pm_range1 (by first | decide | omega | (simp only [List.length_cons, List.length_nil, List.length_map]; omega))) ?_ | refine hE (pm_fdiv (by first | decide | omega | (simp only [List.length_cons, List.length_nil, List.length_map]; omega)) (by first | decide | omega | (simp only [List.length_cons, List.length_nil, List.length_map]; omega))) ?_ | refine hc_le ?_ | refine hE (pm_mul (by first | decide | omega | (simp only [List.length_cons, List.length_nil, List.length_map]; omega)) (by first | decide | omega | (simp only [List.length_cons, List.length_nil, List.length_map]; omega))) ?_ | refine hE (pm_eq rd_int rd_int) ?_))
          refine hE (pm_sl_s' (sz _ (by omega))) (st_ret ?_)
          have hra : inAbc (sliceL hd (clip hd.length (lf.length : Int)) hd.length) := inAbc_slice hha
          have hrl : lf.length + (sliceL hd (clip hd.length (lf.length : Int)) hd.length).length ≤ hd.length := by rw [slice_len, clip_in (by omega) (by omega)]; omega
          generalize sliceL hd (clip hd.length (lf.length : Int)) hd.length = rt at hra hrl ⊢
          rw [wpE_comp]
          simp only [wpE_prim, wpEs_cons, wpEs_nil, wpE_var, wpE_cst, wpE_and, wpE_or, wpE_call, wpE_mcall, List.map_cons, List.map_nil, List.cons_append, List.nil_append, List.replicate_zero, List.replicate_succ, List.getElem?_cons_zero, List.getElem?_cons_succ, List.set_cons_zero, List.set_cons_succ, List.length_cons, List.length_nil, Nat.reduceAdd, Nat.reduceLT, true_and, wpE_cmp2]
          (repeat (with_reducible first | refine hB ?_ | refine it_t ?_ | refine it_f ?_ | refine hE pm_not_t ?_ | refine hE pm_not_f ?_ | refine hE pm_not ?_ | refine hE pi_int_int ?_ | refine hE pi_int_bool ?_ | refine hE pi_bool_bool ?_ | refine hE pi_bool_int ?_ | refine hE pi_str_int ?_ | refine hE pi_str_str ?_ | refine hE pi_str_tuple ?_ | refine hE pi_tup_tuple ?_ | refine hE pi_tup_str ?_ | refine hE pi_none_str ?_ | refine hE pi_none_int ?_ | refine hE pi_none_tuple ?_ | refine hE pi_bool_str ?_ | refine hE pi_bool_tuple ?_ | refine hE pi_int_str ?_ | refine hE pi_int_tuple ?_ | refine hE pi_lst_list ?_ | refine hE pi_lst_str ?_ | refine hE pi_lst_tuple ?_ | refine hE pm_add ?_ | refine hE pm_sub ?_ | refine hE pm_pow9 ?_ | refine hE pm_lt ?_ | refine hE pm_le ?_ | refine hE pm_gt ?_ | refine hE pm_ge ?_ | refine hE pm_neg ?_ | refine hE pm_lenl ?_ | refine hE pm_lens ?_ | refine hE pm_lent ?_ | refine hE pm_intb ?_ | refine hE (pm_mod (by first | decide | omega | (simp only [List.length_cons, List.length_nil, List.length_map]; omega))) ?_ | refine hE (pm_mkl (by first | decide | omega | (simp only [List.length_cons, List.length_nil, List.length_map, sizeOf']; omega))) ?_ | refine hE (pM_mkl (by first | decide | omega | (simp only [List.length_cons, List.length_nil, List.length_map, sizeOf']; omega))) ?_ | refine hE (pm_mkt (by first | decide | omega | (simp only [List.length_cons, List.length_nil, List.length_map, sizeOf']; omega))) ?_ | refine hE (pm_range1 (by first | decide | omega | (simp only [List.length_cons, List.length_nil, List.length_map]; omega))) ?_ | refine hE (pm_fdiv (by first | decide | omega | (simp only [List.length_cons, List.length_nil, List.length_map]; omega)) (by first | decide | omega | (simp only [List.length_cons, List.length_nil, List.length_map]; omega))) ?_ | refine hc_le ?_ | refine hE (pm_mul (by first | decide | omega | (simp only [List.length_cons, List.length_nil, List.length_map]; omega)) (by first | decide | omega | (simp only [List.length_cons, List.length_nil, List.length_map]; omega))) ?_ | refine hE (pm_eq rd_int rd_int) ?_))
          refine ⟨rngL 0 8, rfl, by rw [rngL_length]; exact sz _ (by decide), compL_rel (P := isName) (by exact rfl) (fun x hx K hK => ?_) done⟩
          obtain ⟨k, rfl, h0, h1⟩ := rng_mem hx
          (repeat (with_reducible first | refine hB ?_ | refine it_t ?_ | refine it_f ?_ | refine hE pm_not_t ?_ | refine hE pm_not_f ?_ | refine hE pm_not ?_ | refine hE pi_int_int ?_ | refine hE pi_int_bool ?_ | refine hE pi_bool_bool ?_ | refine hE pi_bool_int ?_ | refine hE pi_str_int ?_ | refine hE pi_str_str ?_ | refine hE pi_str_tuple ?_ | refine hE pi_tup_tuple ?_ | refine hE pi_tup_str ?_ | refine hE pi_none_str ?_ | refine hE pi_none_int ?_ | refine hE pi_none_tuple ?_ | refine hE pi_bool_str ?_ | refine hE pi_bool_tuple ?_ | refine hE pi_int_str ?_ | refine hE pi_int_tuple ?_ | refine hE pi_lst_list ?_ | refine hE pi_lst_str ?_ | refine hE pi_lst_tuple ?_ | refine hE pm_add ?_ | refine hE pm_sub ?_ | refine hE pm_pow9 ?_ | refine hE pm_lt ?_ | refine hE pm_le ?_ | refine hE pm_gt ?_ | refine hE pm_ge ?_ | refine hE pm_neg ?_ | refine hE pm_lenl ?_ | refine hE pm_lens ?_ | refine hE pm_lent ?_ | refine hE pm_intb ?_ | refine hE (pm_mod (by first | decide | omega | (simp only [List.length_cons, List.length_nil, List.length_map]; omega))) ?_ | refine hE (pm_mkl (by first | decide | omega | (simp only [List.length_cons, List.length_nil, List.length_map, sizeOf']; omega))) ?_ | refine hE (pM_mkl (by first | decide | omega | (simp only [List.length_cons, List.length_nil, List.length_map, sizeOf']; omega))) ?_ | refine hE (pm_mkt (by first | decide | omega | (simp only [List.length_cons, List.length_nil, List.length_map, sizeOf']; omega))) ?_ | refine hE (pm_range1 (by first | decide | omega | (simp only [List.length_cons, List.length_nil, List.length_map]; omega))) ?_ | refine hE (pm_fdiv (by first | decide | omega | (simp only [List.length_cons, List.length_nil, List.length_map]; omega)) (by first | decide | omega | (simp only [List.length_cons, List.length_nil, List.length_map]; omega))) ?_ | refine hc_le ?_ | refine hE (pm_mul (by first | decide | omega | (simp only [List.length_cons, List.length_nil, List.length_map]; omega)) (by first | decide | omega | (simp only [List.length_cons, List.length_nil, List.length_map]; omega))) ?_ | refine hE (pm_eq rd_int rd_int) ?_))
          obtain ⟨c1, hc1, e1⟩ := pm_abc (H := H') (i := (c / 7 + 7 * k) % 26) (by omega) (by omega)
          refine hE e1 (hE (pm_adds (by simp only [List.length_cons, List.length_nil]; exact sz _ (by omega))) ?_)
          refine hE (pm_adds (by simp only [List.length_append, List.length_cons, List.length_nil]; exact sz _ (by omega))) (hK _ ?_)
          exact ⟨by simp only [List.length_append, List.length_cons, List.length_nil]; omega, by simp only [List.length_append, List.length_cons, List.length_nil]; omega, inAbc_app (inAbc_app hla (inAbc_one hc1)) hra⟩
        · rw [decide_eq_false h4]
          exact it_f (hB (it_f (st_nil four)))
      simp only [wpE_prim, wpEs_cons, wpEs_nil, wpE_var, wpE_cst, wpE_and, wpE_or, wpE_call, wpE_mcall, List.map_cons, List.map_nil, List.cons_append, List.nil_append, List.replicate_zero, List.replicate_succ, List.getElem?_cons_zero, List.getElem?_cons_succ, List.set_cons_zero, List.set_cons_succ, List.length_cons, List.length_nil, Nat.reduceAdd, Nat.reduceLT, true_and, wpE_cmp2]
      (repeat (with_reducible first | refine hB ?_ | refine it_t ?_ | refine it_f ?_ | refine hE pm_not_t ?_ | refine hE pm_not_f ?_ | refine hE pm_not ?_ | refine hE pi_int_int ?_ | refine hE pi_int_bool ?_ | refine hE pi_bool_bool ?_ | refine hE pi_bool_int ?_ | refine hE pi_str_int ?_ | refine hE pi_str_str ?_ | refine hE pi_str_tuple ?_ | refine hE pi_tup_tuple ?_ | refine hE pi_tup_str ?_ | refine hE pi_none_str ?_ | refine hE pi_none_int ?_ | refine hE pi_none_tuple ?_ | refine hE pi_bool_str ?_ | refine hE pi_bool_tuple ?_ | refine hE pi_int_str ?_ | refine hE pi_int_tuple ?_ | refine hE pi_lst_list ?_ | refine hE pi_lst_str ?_ | refine hE pi_lst_tuple ?_ | refine hE pm_add ?_ | refine hE pm_sub ?_ | refine hE pm_pow9 ?_ | refine hE pm_lt ?_ | refine hE pm_le ?_ | refine hE pm_gt ?_ | refine hE pm_ge ?_ | refine hE pm_neg ?_ | refine hE pm_lenl ?_ | refine hE pm_lens ?_ | refine hE pm_lent ?_ | refine hE pm_intb ?_ | refine hE (pm_mod (by first | decide | omega | (simp only [List.length_cons, List.length_nil, List.length_map]; omega))) ?_ | refine hE (pm_mkl (by first | decide | omega | (simp only [List.length_cons, List.length_nil, List.length_map, sizeOf']; omega))) ?_ | refine hE (pM_mkl (by first | decide | omega | (simp only [List.length_cons, List.length_nil, List.length_map, sizeOf']; omega))) ?_ | refine hE (pm_mkt (by first | decide | omega | (simp only [List.length_cons, List.length_nil, List.length_map, sizeOf']; omega))) ?_ | refine hE (pm_range1 (by first | decide | omega | (simp only [List.length_cons, List.length_nil, List.length_map]; omega))) ?_ | refine hE (pm_fdiv (by first | decide | omega | (simp only [List.length_cons, List.length_nil, List.length_map]; omega)) (by first | decide | omega | (simp only [List.length_cons, List.length_nil, List.length_map]; omega))) ?_ | refine hc_le ?_ | refine hE (pm_mul (by first | decide | omega | (simp only [List.length_cons, List.length_nil, List.length_map]; omega)) (by first | decide | omega | (simp only [List.length_cons, List.length_nil, List.length_map]; omega))) ?_ | refine hE (pm_eq rd_int rd_int) ?_))
      rw [eqV_int]
      by_cases h1 : c % 6 = 1
      · rw [beq_iff_eq.mpr h1]
        refine it_t ?_
        (repeat (with_reducible first | refine hB ?_ | refine it_t ?_ | refine it_f ?_ | refine hE pm_not_t ?_ | refine hE pm_not_f ?_ | refine hE pm_not ?_ | refine hE pi_int_int ?_ | refine hE pi_int_bool ?_ | refine hE pi_bool_bool ?_ | refine hE pi_bool_int ?_ | refine hE pi_str_int ?_ | refine hE pi_str_str ?_ | refine hE pi_str_tuple ?_ | refine hE pi_tup_tuple ?_ | refine hE pi_tup_str ?_ | refine hE pi_none_str ?_ | refine hE pi_none_int ?_ | refine hE pi_none_tuple ?_ | refine hE pi_bool_str ?_ | refine hE pi_bool_tuple ?_ | refine hE pi_int_str ?_ | refine hE pi_int_tuple ?_ | refine hE pi_lst_list ?_ | refine hE pi_lst_str ?_ | refine hE pi_lst_tuple ?_ | refine hE pm_add ?_ | refine hE pm_sub ?_ | refine hE pm_pow9 ?_ | refine hE pm_lt ?_ | refine hE pm_le ?_ | refine hE pm_gt ?_ | refine hE pm_ge ?_ | refine hE pm_neg ?_ | refine hE pm_lenl ?_ | refine hE pm_lens ?_ | refine hE pm_lent ?_ | refine hE pm_intb ?_ | refine hE (pm_mod (by first | decide | omega | (simp only [List.length_cons, List.length_nil, List.length_map]; omega))) ?_ | refine hE (pm_mkl (by first | decide | omega | (simp only [List.length_cons, List.length_nil, List.length_map, sizeOf']; omega))) ?_ | refine hE (pM_mkl (by first | decide | omega | (simp only [List.length_cons, List.length_nil, List.length_map, sizeOf']; omega))) ?_ | refine hE (pm_mkt (by first | decide | omega | (simp only [List.length_cons, List.length_nil, List.length_map, sizeOf']; omega))) ?_ | refine hE (pm_range1 (by first | decide | omega | (simp only [List.length_cons, List.length_nil, List.length_map]; omega))) ?_ | refine hE (pm_fdiv (by first | decide | omega | (simp only [List.length_cons, List.length_nil, List.length_map]; omega)) (by first | decide | omega | (simp only [List.length_cons, List.length_nil, List.length_map]; omega))) ?_ | refine hc_le ?_ | refine hE (pm_mul (by first | decide | omega | (simp only [List.length_cons, List.length_nil, List.length_map]; omega)) (by first | decide | omega | (simp only [List.length_cons, List.length_nil, List.length_map]; omega))) ?_ | refine hE (pm_eq rd_int rd_int) ?_))
        refine it_t (st_ret ?_)
        rw [wpE_comp]
        simp only [wpE_prim, wpEs_cons, wpEs_nil, wpE_var, wpE_cst, wpE_and, wpE_or, wpE_call, wpE_mcall, List.map_cons, List.map_nil, List.cons_append, List.nil_append, List.replicate_zero, List.replicate_succ, List.getElem?_cons_zero, List.getElem?_cons_succ, List.set_cons_zero, List.set_cons_succ, List.length_cons, List.length_nil, Nat.reduceAdd, Nat.reduceLT, true_and, wpE_cmp2]
        (repeat (with_reducible first | refine hB ?_ | refine it_t ?_ | refine it_f ?_ | refine hE pm_not_t ?_ | refine hE pm_not_f ?_ | refine hE pm_not ?_ | refine hE pi_int_int ?_ | refine hE pi_int_bool ?_ | refine hE pi_bool_bool ?_ | refine hE pi_bool_int ?_ | refine hE pi_str_int ?_ | refine hE pi_str_str ?_ | refine hE pi_str_tuple ?_ | refine hE pi_tup_tuple ?_ | refine hE pi_tup_str ?_ | refine hE pi_none_str ?_ | refine hE pi_none_int ?_ | refine hE pi_none_tuple ?_ | refine hE pi_bool_str ?_ | refine hE pi_bool_tuple ?_ | refine hE pi_int_str ?_ | refine hE pi_int_tuple ?_ | refine hE pi_lst_list ?_ | refine hE pi_lst_str ?_ | refine hE pi_lst_tuple ?_ | refine hE pm_add ?_ | refine hE pm_sub ?_ | refine hE pm_pow9 ?_ | refine hE pm_lt ?_ | refine hE pm_le ?_ | refine hE pm_gt ?_ | refine hE pm_ge ?_ | refine hE pm_neg ?_ | refine hE pm_lenl ?_ | refine hE pm_lens ?_ | refine hE pm_lent ?_ | refine hE pm_intb ?_ | refine hE (pm_mod (by first | decide | omega | (simp only [List.length_cons, List.length_nil, List.length_map]; omega))) ?_ | refine hE (pm_mkl (by first | decide | omega | (simp only [List.length_cons, List.length_nil, List.length_map, sizeOf']; omega))) ?_ | refine hE (pM_mkl (by first | decide | omega | (simp only [List.length_cons, List.length_nil, List.length_map, sizeOf']; omega))) ?_ | refine hE (pm_mkt (by first | decide | omega | (simp only [List.length_cons, List.length_nil, List.length_map, sizeOf']; omega))) ?_ | refine hE (pm_range1 (by first | decide | omega | (simp only [List.length_cons, List.length_nil, List.length_map]; omega))) ?_ | refine hE (pm_fdiv (by first | decide | omega | (simp only [List.length_cons, List.length_nil, List.length_map]; omega)) (by first | decide | omega | (simp only [List.length_cons, List.length_nil, List.length_map]; omega))) ?_ | refine hc_le ?_ | refine hE (pm_mul (by first | decide | omega | (simp only [List.length_cons, List.length_nil, List.length_map]; omega)) (by first | decide | omega | (simp only [List.length_cons, List.length_nil, List.length_map]; omega))) ?_ | refine hE (pm_eq rd_int rd_int) ?_))
        refine ⟨rngL 0 8, rfl, by rw [rngL_length]; exact sz _ (by decide), compL_rel (P := isName) (by exact rfl) (fun x hx K hK => ?_) done⟩
        obtain ⟨k, rfl, h0, h1⟩ := rng_mem hx
        (repeat (with_reducible first | refine hB ?_ | refine it_t ?_ | refine it_f ?_ | refine hE pm_not_t ?_ | refine hE pm_not_f ?_ | refine hE pm_not ?_ | refine hE pi_int_int ?_ | refine hE pi_int_bool ?_ | refine hE pi_bool_bool ?_ | refine hE pi_bool_int ?_ | refine hE pi_str_int ?_ | refine hE pi_str_str ?_ | refine hE pi_str_tuple ?_ | refine hE pi_tup_tuple ?_ | refine hE pi_tup_str ?_ | refine hE pi_none_str ?_ | refine hE pi_none_int ?_ | refine hE pi_none_tuple ?_ | refine hE pi_bool_str ?_ | refine hE pi_bool_tuple ?_ | refine hE pi_int_str ?_ | refine hE pi_int_tuple ?_ | refine hE pi_lst_list ?_ | refine hE pi_lst_str ?_ | refine hE pi_lst_tuple ?_ | refine hE pm_add ?_ | refine hE pm_sub ?_ | refine hE pm_pow9 ?_ | refine hE pm_lt ?_ | refine hE pm_le ?_ | refine hE pm_gt ?_ | refine hE pm_ge ?_ | refine hE pm_neg ?_ | refine hE pm_lenl ?_ | refine hE pm_lens ?_ | refine hE pm_lent ?_ | refine hE pm_intb ?_ | refine hE (pm_mod (by first | decide | omega | (simp only [List.length_cons, List.length_nil, List.length_map]; omega))) ?_ | refine hE (pm_mkl (by first | decide | omega | (simp only [List.length_cons, List.length_nil, List.length_map, sizeOf']; omega))) ?_ | refine hE (pM_mkl (by first | decide | omega | (simp only [List.length_cons, List.length_nil, List.length_map, sizeOf']; omega))) ?_ | refine hE (pm_mkt (by first | decide | omega | (simp only [List.length_cons, List.length_nil, List.length_map, sizeOf']; omega))) ?_ | refine hE (pm_range1 (by first | decide | omega | (simp only [List.length_cons, List.length_nil, List.length_map]; omega))) ?_ | refine hE (pm_fdiv (by first | decide | omega | (simp only [List.length_cons, List.length_nil, List.length_map]; omega)) (by first | decide | omega | (simp only [List.length_cons, List.length_nil, List.length_map]; omega))) ?_ | refine hc_le ?_ | refine hE (pm_mul (by first | decide | omega | (simp only [List.length_cons, List.length_nil, List.length_map]; omega)) (by first | decide | omega | (simp only [List.length_cons, List.length_nil, List.length_map]; omega))) ?_ | refine hE (pm_eq rd_int rd_int) ?_))
        refine hE (pm_sl_s' (sz _ (by omega))) (hK _ ?_)
        refine ⟨?_, ?_, inAbc_slice ha⟩
        · rw [slice_len, clip_in (by omega) (by omega)]; omega
        · rw [slice_len]; omega
      · rw [beq_eq_false_iff_ne.mpr h1]
        exact it_f (hB (it_f (st_nil three)))
    simp only [wpE_prim, wpEs_cons, wpEs_nil, wpE_var, wpE_cst, wpE_and, wpE_or, wpE_call, wpE_mcall, List.map_cons, List.map_nil, List.cons_append, List.nil_append, List.replicate_zero, List.replicate_succ, List.getElem?_cons_zero, List.getElem?_cons_succ, List.set_cons_zero, List.set_cons_succ, List.length_cons, List.length_nil, Nat.reduceAdd, Nat.reduceLT, true_and, wpE_cmp2]
    (repeat (with_reducible first | refine hB ?_ | refine it_t ?_ | refine it_f ?_ | refine hE pm_not_t ?_ | refine hE pm_not_f ?_ | refine hE pm_not ?_ | refine hE pi_int_int ?_ | refine hE pi_int_bool ?_ | refine hE pi_bool_bool ?_ | refine hE pi_bool_int ?_ | refine hE pi_str_int ?_ | refine hE pi_str_str ?_ | refine hE pi_str_tuple ?_ | refine hE pi_tup_tuple ?_ | refine hE pi_tup_str ?_ | refine hE pi_none_str ?_ | refine hE pi_none_int ?_ | refine hE pi_none_tuple ?_ | refine hE pi_bool_str ?_ | refine hE pi_bool_tuple ?_ | refine hE pi_int_str ?_ | refine hE pi_int_tuple ?_ | refine hE pi_lst_list ?_ | refine hE pi_lst_str ?_ | refine hE pi_lst_tuple ?_ | refine hE pm_add ?_ | refine hE pm_sub ?_ | refine hE pm_pow9 ?_ | refine hE pm_lt ?_ | refine hE pm_le ?_ | refine hE pm_gt ?_ | refine hE pm_ge ?_ | refine hE pm_neg ?_ | refine hE pm_lenl ?_ | refine hE pm_lens ?_ | refine hE pm_lent ?_ | refine hE pm_intb ?_ | refine hE (pm_mod (by first | decide | omega | (simp only [List.length_cons, List.length_nil, List.length_map]; omega))) ?_ | refine hE (pm_mkl (by first | decide | omega | (simp only [List.length_cons, List.length_nil, List.length_map, sizeOf']; omega))) ?_ | refine hE (pM_mkl (by first | decide | omega | (simp only [List.length_cons, List.length_nil, List.length_map, sizeOf']; omega))) ?_ | refine hE (pm_mkt (by first | decide | omega | (simp only [List.length_cons, List.length_nil, List.length_map, sizeOf']; omega))) ?_ | refine hE (pm_range1 (by first | decide | omega | (simp only [List.length_cons, List.length_nil, List.length_map]; omega))) ?_ | refine hE (pm_fdiv (by first | decide | omega | (simp only [List.length_cons, List.length_nil, List.length_map]; omega)) (by first | decide | omega | (simp only [List.length_cons, List.length_nil, List.length_map]; omega))) ?_ | refine hc_le ?_ | refine hE (pm_mul (by first | decide | omega | (simp only [List.length_cons, List.length_nil, List.length_map]; omega)) (by first | decide | omega | (simp only [List.length_cons, List.length_nil, List.length_map]; omega))) ?_ | refine hE (pm_eq rd_int rd_int) ?_))
    rw [eqV_int]
    by_cases h1 : c % 6 = 0
    · rw [beq_iff_eq.mpr h1]
      refine it_t ?_
      (repeat (with_reducible first | refine hB ?_ | refine it_t ?_ | refine it_f ?_ | refine hE pm_not_t ?_ | refine hE pm_not_f ?_ | refine hE pm_not ?_ | refine hE pi_int_int ?_ | refine hE pi_int_bool ?_ | refine hE pi_bool_bool ?_ | refine hE pi_bool_int ?_ | refine hE pi_str_int ?_ | refine hE pi_str_str ?_ | refine hE pi_str_tuple ?_ | refine hE pi_tup_tuple ?_ | refine hE pi_tup_str ?_ | refine hE pi_none_str ?_ | refine hE pi_none_int ?_ | refine hE pi_none_tuple ?_ | refine hE pi_bool_str ?_ | refine hE pi_bool_tuple ?_ | refine hE pi_int_str ?_ | refine hE pi_int_tuple ?_ | refine hE pi_lst_list ?_ | refine hE pi_lst_str ?_ | refine hE pi_lst_tuple ?_ | refine hE pm_add ?_ | refine hE pm_sub ?_ | refine hE pm_pow9 ?_ | refine hE pm_lt ?_ | refine hE pm_le ?_ | refine hE pm_gt ?_ | refine hE pm_ge ?_ | refine hE pm_neg ?_ | refine hE pm_lenl ?_ | refine hE pm_lens ?_ | refine hE pm_lent ?_ | refine hE pm_intb ?_ | refine hE (pm_mod (by first | decide | omega | (simp only [List.length_cons, List.length_nil, List.length_map]; omega))) ?_ | refine hE (pm_mkl (by first | decide | omega | (simp only [List.length_cons, List.length_nil, List.length_map, sizeOf']; omega))) ?_ | refine hE (pM_mkl (by first | decide | omega | (simp only [List.length_cons, List.length_nil, List.length_map, sizeOf']; omega))) ?_ | refine hE (pm_mkt (by first | decide | omega | (simp only [List.length_cons, List.length_nil, List.length_map, sizeOf']; omega))) ?_ | refine hE (pm_range1 (by first | decide | omega | (simp only [List.length_cons, List.length_nil, List.length_map]; omega))) ?_ | refine hE (pm_fdiv (by first | decide | omega | (simp only [List.length_cons, List.length_nil, List.length_map]; omega)) (by first | decide | omega | (simp only [List.length_cons, List.length_nil, List.length_map]; omega))) ?_ | refine hc_le ?_ | refine hE (pm_mul (by first | decide | omega | (simp only [List.length_cons, List.length_nil, List.length_map]; omega)) (by first | decide | omega | (simp only [List.length_cons, List.length_nil, List.length_map]; omega))) ?_ | refine hE (pm_eq rd_int rd_int) ?_))
      refine it_t (st_ret ?_)
      rw [wpE_comp]
      simp only [wpE_prim, wpEs_cons, wpEs_nil, wpE_var, wpE_cst, wpE_and, wpE_or, wpE_call, wpE_mcall, List.map_cons, List.map_nil, List.cons_append, List.nil_append, List.replicate_zero, List.replicate_succ, List.getElem?_cons_zero, List.getElem?_cons_succ, List.set_cons_zero, List.set_cons_succ, List.length_cons, List.length_nil, Nat.reduceAdd, Nat.reduceLT, true_and, wpE_cmp2]
      (repeat (with_reducible first | refine hB ?_ | refine it_t ?_ | refine it_f ?_ | refine hE pm_not_t ?_ | refine hE pm_not_f ?_ | refine hE pm_not ?_ | refine hE pi_int_int ?_ | refine hE pi_int_bool ?_ | refine hE pi_bool_bool ?_ | refine hE pi_bool_int ?_ | refine hE pi_str_int ?_ | refine hE pi_str_str ?_ | refine hE pi_str_tuple ?_ | refine hE pi_tup_tuple ?_ | refine hE pi_tup_str ?_ | refine hE pi_none_str ?_ | refine hE pi_none_int ?_ | refine hE pi_none_tuple ?_ | refine hE pi_bool_str ?_ | refine hE pi_bool_tuple ?_ | refine hE pi_int_str ?_ | refine hE pi_int_tuple ?_ | refine hE pi_lst_list ?_ | refine hE pi_lst_str ?_ | refine hE pi_lst_tuple ?_ | refine hE pm_add ?_ | refine hE pm_sub ?_ | refine hE pm_pow9 ?_ | refine hE pm_lt ?_ | refine hE pm_le ?_ | refine hE pm_gt ?_ | refine hE pm_ge ?_ | refine hE pm_neg ?_ | refine hE pm_lenl ?_ | refine hE pm_lens ?_ | refine hE pm_lent ?_ | refine hE pm_intb ?_ | refine hE (pm_mod (by first | decide | omega | (simp only [List.length_cons, List.length_nil, List.length_map]; omega))) ?_ | refine hE (pm_mkl (by first | decide | omega | (simp only [List.length_cons, List.length_nil, List.length_map, sizeOf']; omega))) ?_ | refine hE (pM_mkl (by first | decide | omega | (simp only [List.length_cons, List.length_nil, List.length_map, sizeOf']; omega))) ?_ | refine hE (pm_mkt (by first | decide | omega | (simp only [List.length_cons, List.length_nil, List.length_map, sizeOf']; omega))) ?_ | refine hE (pm_range1 (by first | decide | omega | (simp only [List.length_cons, List.length_nil, List.length_map]; omega))) ?_ | refine hE (pm_fdiv (by first | decide | omega | (simp only [List.length_cons, List.length_nil, List.length_map]; omega)) (by first | decide | omega | (simp only [List.length_cons, List.length_nil, List.length_map]; omega))) ?_ | refine hc_le ?_ | refine hE (pm_mul (by first | decide | omega | (simp only [List.length_cons, List.length_nil, List.length_map]; omega)) (by first | decide | omega | (simp only [List.length_cons, List.length_nil, List.length_map]; omega))) ?_ | refine hE (pm_eq rd_int rd_int) ?_))
      refine ⟨rngL 0 8, rfl, by rw [rngL_length]; exact sz _ (by decide), compL_rel (P := isName) (by exact rfl) (fun x hx K hK => ?_) done⟩
      obtain ⟨k, rfl, h0, h1⟩ := rng_mem hx
      (repeat (with_reducible first | refine hB ?_ | refine it_t ?_ | refine it_f ?_ | refine hE pm_not_t ?_ | refine hE pm_not_f ?_ | refine hE pm_not ?_ | refine hE pi_int_int ?_ | refine hE pi_int_bool ?_ | refine hE pi_bool_bool ?_ | refine hE pi_bool_int ?_ | refine hE pi_str_int ?_ | refine hE pi_str_str ?_ | refine hE pi_str_tuple ?_ | refine hE pi_tup_tuple ?_ | refine hE pi_tup_str ?_ | refine hE pi_none_str ?_ | refine hE pi_none_int ?_ | refine hE pi_none_tuple ?_ | refine hE pi_bool_str ?_ | refine hE pi_bool_tuple ?_ | refine hE pi_int_str ?_ | refine hE pi_int_tuple ?_ | refine hE pi_lst_list ?_ | refine hE pi_lst_str ?_ | refine hE pi_lst_tuple ?_ | refine hE pm_add ?_ | refine hE pm_sub ?_ | refine hE pm_pow9 ?_ | refine hE pm_lt ?_ | refine hE pm_le ?_ | refine hE pm_gt ?_ | refine hE pm_ge ?_ | refine hE pm_neg ?_ | refine hE pm_lenl ?_ | refine hE pm_lens ?_ | refine hE pm_lent ?_ | refine hE pm_intb ?_ | refine hE (pm_mod (by first | decide | omega | (simp only [List.length_cons, List.length_nil, List.length_map]; omega))) ?_ | refine hE (pm_mkl (by first | decide | omega | (simp only [List.length_cons, List.length_nil, List.length_map, sizeOf']; omega))) ?_ | refine hE (pM_mkl (by first | decide | omega | (simp only [List.length_cons, List.length_nil, List.length_map, sizeOf']; omega))) ?_ | refine hE (pm_mkt (by first | decide | omega | (simp only [List.length_cons, List.length_nil, List.length_map, sizeOf']; omega))) ?_ | refine hE (pm_range1 (by first | decide | omega | (simp only [List.length_cons, List.length_nil, List.length_map]; omega))) ?_ | refine hE (pm_fdiv (by first | decide | omega | (simp only [List.length_cons, List.length_nil, List.length_map]; omega)) (by first | decide | omega | (simp only [List.length_cons, List.length_nil, List.length_map]; omega))) ?_ | refine hc_le ?_ | refine hE (pm_mul (by first | decide | omega | (simp only [List.length_cons, List.length_nil, List.length_map]; omega)) (by first | decide | omega | (simp only [List.length_cons, List.length_nil, List.length_map]; omega))) ?_ | refine hE (pm_eq rd_int rd_int) ?_))
      refine hE (pm_sl_s (sz _ (by omega))) (hK _ ?_)
      refine ⟨?_, ?_, inAbc_slice ha⟩
      · rw [slice_len, clip_in (by omega) (by omega)]; omega
      · rw [slice_len]; omega
    · rw [beq_eq_false_iff_ne.mpr h1]
      exact it_f (hB (it_f (st_nil two)))
  · exact ⟨_, _, [], rfl, rfl, by rw [rngL_length]; rfl, fun c hc => by cases hc⟩
end Mine

end
noncomputable section
open PySem
set_option maxHeartbeats 4000000
namespace Mine

theorem pick_word {c : Int} {H : AH} : ∃ w, primM PL false .item [.lst [.str ['b', 'e', 'g', 'i', 'n', 's'], .str ['e', 'n', 'd', 's'], .str ['f', 'a', 'i', 'l', 's'], .str ['l', 'e', 'a', 'v', 'e', 's'], .str ['w', 'o', 'r', 'k', 's'], .str ['l', 'o', 's', 't'], .str ['s', 'e', 'n', 't'], .str ['s', 'e', 'n', 't']], .int (c % 8)] H = some (.str w, H) ∧
    ((c % 8 < 4 ∧ w ∈ four) ∨ (¬ c % 8 < 4 ∧ w ∈ two) ∨ (¬ c % 8 < 4 ∧ w = wSent)) := by
  have h : c % 8 = 0 ∨ c % 8 = 1 ∨ c % 8 = 2 ∨ c % 8 = 3 ∨ c % 8 = 4 ∨ c % 8 = 5 ∨ c % 8 = 6 ∨ c % 8 = 7 := by omega
  rcases h with h | h | h | h | h | h | h | h <;> rw [h]
  · exact ⟨_, rfl, .inl ⟨by decide, by decide⟩⟩
  · exact ⟨_, rfl, .inl ⟨by decide, by decide⟩⟩
  · exact ⟨_, rfl, .inl ⟨by decide, by decide⟩⟩
  · exact ⟨_, rfl, .inl ⟨by decide, by decide⟩⟩
  · exact ⟨_, rfl, .inr (.inl ⟨by decide, by decide⟩)⟩
  · exact ⟨_, rfl, .inr (.inl ⟨by decide, by decide⟩)⟩
  · exact ⟨_, rfl, .inr (.inr ⟨by decide, rfl⟩)⟩
  · exact ⟨_, rfl, .inr (.inr ⟨by decide, rfl⟩)⟩
theorem f14 {n : Nat} {c : Int} {nms : List (List Char)} {H : AH} {Q : QE} {X : XE} (hl : nms.length = 8) (hn : ∀ s ∈ nms, nameOk s) (q : ∀ e : Ev, e.ok → Q e.v H) : callF PL (n + 2) 14 [.int c, .lst (nms.map V.str)] H Q X := by
  rw [callF_succ, P_fn14]
  refine ⟨rfl, st_asg ?_⟩
  simp only [show fn14.extra = 3 from rfl, wpE_prim, wpEs_cons, wpEs_nil, wpE_var, wpE_cst, wpE_and, wpE_or, wpE_call, wpE_mcall, List.map_cons, List.map_nil, List.cons_append, List.nil_append, List.replicate_zero, List.replicate_succ, List.getElem?_cons_zero, List.getElem?_cons_succ, List.set_cons_zero, List.set_cons_succ, List.length_cons, List.length_nil, Nat.reduceAdd, Nat.reduceLT, true_and, wpE_cmp2]
  (repeat (with_reducible first | refine hB ?_ | refine it_t ?_ | refine it_f ?_ | refine hE pm_not_t ?_ | refine hE pm_not_f ?_ | refine hE pm_not ?_ | refine hE pi_int_int ?_ | refine hE pi_int_bool ?_ | refine hE pi_bool_bool ?_ | refine hE pi_bool_int ?_ | refine hE pi_str_int ?_ | refine hE pi_str_str ?_ | refine hE pi_str_tuple ?_ | refine hE pi_tup_tuple ?_ | refine hE pi_tup_str ?_ | refine hE pi_none_str ?_ | refine hE pi_none_int ?_ | refine hE pi_none_tuple ?_ | refine hE pi_bool_str ?_ | refine hE pi_bool_tuple ?_ | refine hE pi_int_str ?_ | refine hE pi_int_tuple ?_ | refine hE pi_lst_list ?_ | refine hE pi_lst_str ?_ | refine hE pi_lst_tuple ?_ | refine hE pm_add ?_ | refine hE pm_sub ?_ | refine hE pm_pow9 ?_ | refine hE pm_lt ?_ | refine hE pm_le ?_ | refine hE pm_gt ?_ | refine hE pm_ge ?_ | refine hE pm_neg ?_ | refine hE pm_lenl ?_ | refine hE pm_lens ?_ | refine hE pm_lent ?_ | refine hE pm_intb ?_ | refine hE (pm_mod (by first | decide | omega | (simp only [List.length_cons, List.length_nil, List.length_map]; omega))) ?_ | refine hE (pm_mkl (by first | decide | omega | (simp only [List.length_cons, List.length_nil, List.length_map, sizeOf']; omega))) ?_ | refine hE (pM_mkl (by first | decide | omega | (simp only [List.length_cons, List.length_nil, List.length_map, sizeOf']; omega))) ?_ | refine hE (pm_mkt (by first | decide | omega | (simp only [List.length_cons, List.length_nil, List.length_map, sizeOf']; omega))) ?_ | refine hE (pm_range1 (by first | decide | omega | (simp only [List.length_cons, List.length_nil, List.length_map]; omega))) ?_ | refine hE (pm_fdiv (by first | decide | omega | (simp only [List.length_cons, List.length_nil, List.length_map]; omega)) (by first | decide | omega | (simp only [List.length_cons, List.length_nil, List.length_map]; omega))) ?_ | refine hc_le ?_ | refine hE (pm_mul (by first | decide | omega | (simp only [List.length_cons, List.length_nil, List.length_map]; omega)) (by first | decide | omega | (simp only [List.length_cons, List.length_nil, List.length_map]; omega))) ?_ | refine hE (pm_eq rd_int rd_int) ?_))
  obtain ⟨w, e, hw⟩ := pick_word (c := c) (H := H)
  refine hE e (st_asg ?_)
  simp only [wpE_prim, wpEs_cons, wpEs_nil, wpE_var, wpE_cst, wpE_and, wpE_or, wpE_call, wpE_mcall, List.map_cons, List.map_nil, List.cons_append, List.nil_append, List.replicate_zero, List.replicate_succ, List.getElem?_cons_zero, List.getElem?_cons_succ, List.set_cons_zero, List.set_cons_succ, List.length_cons, List.length_nil, Nat.reduceAdd, Nat.reduceLT, true_and, wpE_cmp2]
  (repeat (with_reducible first | refine hB ?_ | refine it_t ?_ | refine it_f ?_ | refine hE pm_not_t ?_ | refine hE pm_not_f ?_ | refine hE pm_not ?_ | refine hE pi_int_int ?_ | refine hE pi_int_bool ?_ | refine hE pi_bool_bool ?_ | refine hE pi_bool_int ?_ | refine hE pi_str_int ?_ | refine hE pi_str_str ?_ | refine hE pi_str_tuple ?_ | refine hE pi_tup_tuple ?_ | refine hE pi_tup_str ?_ | refine hE pi_none_str ?_ | refine hE pi_none_int ?_ | refine hE pi_none_tuple ?_ | refine hE pi_bool_str ?_ | refine hE pi_bool_tuple ?_ | refine hE pi_int_str ?_ | refine hE pi_int_tuple ?_ | refine hE pi_lst_list ?_ | refine hE pi_lst_str ?_ | refine hE pi_lst_tuple ?_ | refine hE pm_add ?_ | refine hE pm_sub ?_ | refine hE pm_pow9 ?_ | refine hE pm_lt ?_ | refine hE pm_le ?_ | refine hE pm_gt ?_ | refine hE pm_ge ?_ | refine hE pm_neg ?_ | refine hE pm_lenl ?_ | refine hE pm_lens ?_ | refine hE pm_lent ?_ | refine hE pm_intb ?_ | refine hE (pm_mod (by first | decide | omega | (simp only [List.length_cons, List.length_nil, List.length_map]; omega))) ?_ | refine hE (pm_mkl (by first | decide | omega | (simp only [List.length_cons, List.length_nil, List.length_map, sizeOf']; omega))) ?_ | refine hE (pM_mkl (by first | decide | omega | (simp only [List.length_cons, List.length_nil, List.length_map, sizeOf']; omega))) ?_ | refine hE (pm_mkt (by first | decide | omega | (simp only [List.length_cons, List.length_nil, List.length_map, sizeOf']; omega))) ?_ | refine hE (pm_range1 (by first | decide | omega | (simp only [List.length_cons, List.length_nil, List.length_map]; omega))) ?_ | refine hE (pm_fdiv (by first | decide | omega | (simp only [List.length_cons, List.length_nil, List.length_map]; omega)) (by first | decide | omega | (simp only [List.length_cons, List.length_nil, List.length_map]; omega))) ?_ | refine hc_le ?_ | refine hE (pm_mul (by first | decide | omega | (simp only [List.length_cons, List.length_nil, List.length_map]; omega)) (by first | decide | omega | (simp only [List.length_cons, List.length_nil, List.length_map]; omega))) ?_ | refine hE (pm_eq rd_int rd_int) ?_))
  rw [List.length_map, hl]
  obtain ⟨v, hv, e⟩ := pm_pick (P := PL) (H := H) (xs := nms.map V.str) (i := c / 8 % ((8 : Nat) : Int)) (by omega) (by rw [List.length_map, hl]; omega)
  obtain ⟨nm, hnm, rfl⟩ := List.mem_map.mp hv
  have hname := hn nm hnm
  refine hE e (st_asg ?_)
  simp only [wpE_prim, wpEs_cons, wpEs_nil, wpE_var, wpE_cst, wpE_and, wpE_or, wpE_call, wpE_mcall, List.map_cons, List.map_nil, List.cons_append, List.nil_append, List.replicate_zero, List.replicate_succ, List.getElem?_cons_zero, List.getElem?_cons_succ, List.set_cons_zero, List.set_cons_succ, List.length_cons, List.length_nil, Nat.reduceAdd, Nat.reduceLT, true_and, wpE_cmp2]
  (repeat (with_reducible first | refine hB ?_ | refine it_t ?_ | refine it_f ?_ | refine hE pm_not_t ?_ | refine hE pm_not_f ?_ | refine hE pm_not ?_ | refine hE pi_int_int ?_ | refine hE pi_int_bool ?_ | refine hE pi_bool_bool ?_ | refine hE pi_bool_int ?_ | refine hE pi_str_int ?_ | refine hE pi_str_str ?_ | refine hE pi_str_tuple ?_ | refine hE pi_tup_tuple ?_ | refine hE pi_tup_str ?_ | refine hE pi_none_str ?_ | refine hE pi_none_int ?_ | refine hE pi_none_tuple ?_ | refine hE pi_bool_str ?_ | refine hE pi_bool_tuple ?_ | refine hE pi_int_str ?_ | refine hE pi_int_tuple ?_ | refine hE pi_lst_list ?_ | refine hE pi_lst_str ?_ | refine hE pi_lst_tuple ?_ | refine hE pm_add ?_ | refine hE pm_sub ?_ | refine hE pm_pow9 ?_ | refine hE pm_lt ?_ | refine hE pm_le ?_ | refine hE pm_gt ?_ | refine hE pm_ge ?_ | refine hE pm_neg ?_ | refine hE pm_lenl ?_ | refine hE pm_lens ?_ | refine hE pm_lent ?_ | refine hE pm_intb ?_ | refine hE (pm_mod (by first | decide | omega | (simp only [List.length_cons, List.length_nil, List.length_map]; omega))) ?_ | refine hE (pm_mkl (by first | decide | omega | (simp only [List.length_cons, List.length_nil, List.length_map, sizeOf']; omega))) ?_ | refine hE (pM_mkl (by first | decide | omega | (simp only [List.length_cons, List.length_nil, List.length_map, sizeOf']; omega))) ?_ | refine hE (pm_mkt (by first | decide | omega | (simp only [List.length_cons, List.length_nil, List.length_map, sizeOf']; omega))) ?_ | refine hE (pm_range1 (by first | decide | omega | (simp only [List.length_cons, List.length_nil, List.length_map]; omega))) ?_ | refine hE (pm_fdiv (by first | decide | omega | (simp only [List.length_cons, List.length_nil, List.length_map]; omega)) (by first | decide | omega | (simp only [List.length_cons, List.length_nil, List.length_map]; omega))) ?_ | refine hc_le ?_ | refine hE (pm_mul (by first | decide | omega | (simp only [List.length_cons, List.length_nil, List.length_map]; omega)) (by first | decide | omega | (simp only [List.length_cons, List.length_nil, List.length_map]; omega))) ?_ | refine hE (pm_eq rd_int rd_int) ?_))
  obtain ⟨v, hv, e⟩ := pm_pick (P := PL) (H := H) (xs := [.int (c / 50 % 12), .int (c / 50 % 1000000000)]) (i := c / 8 % 2) (by omega) (by simp only [List.length_cons, List.length_nil]; omega)
  have hk : ∃ k : Int, v = .int k ∧ 0 ≤ k ∧ k < 1000000000 := by
    simp only [List.mem_cons, List.not_mem_nil, or_false] at hv
    rcases hv with rfl | rfl
    · exact ⟨_, rfl, by omega, by omega⟩
    · exact ⟨_, rfl, by omega, by omega⟩
  obtain ⟨k, rfl, hk⟩ := hk
  refine hE e ?_
  (repeat (with_reducible first | refine hB ?_ | refine it_t ?_ | refine it_f ?_ | refine hE pm_not_t ?_ | refine hE pm_not_f ?_ | refine hE pm_not ?_ | refine hE pi_int_int ?_ | refine hE pi_int_bool ?_ | refine hE pi_bool_bool ?_ | refine hE pi_bool_int ?_ | refine hE pi_str_int ?_ | refine hE pi_str_str ?_ | refine hE pi_str_tuple ?_ | refine hE pi_tup_tuple ?_ | refine hE pi_tup_str ?_ | refine hE pi_none_str ?_ | refine hE pi_none_int ?_ | refine hE pi_none_tuple ?_ | refine hE pi_bool_str ?_ | refine hE pi_bool_tuple ?_ | refine hE pi_int_str ?_ | refine hE pi_int_tuple ?_ | refine hE pi_lst_list ?_ | refine hE pi_lst_str ?_ | refine hE pi_lst_tuple ?_ | refine hE pm_add ?_ | refine hE pm_sub ?_ | refine hE pm_pow9 ?_ | refine hE pm_lt ?_ | refine hE pm_le ?_ | refine hE pm_gt ?_ | refine hE pm_ge ?_ | refine hE pm_neg ?_ | refine hE pm_lenl ?_ | refine hE pm_lens ?_ | refine hE pm_lent ?_ | refine hE pm_intb ?_ | refine hE (pm_mod (by first | decide | omega | (simp only [List.length_cons, List.length_nil, List.length_map]; omega))) ?_ | refine hE (pm_mkl (by first | decide | omega | (simp only [List.length_cons, List.length_nil, List.length_map, sizeOf']; omega))) ?_ | refine hE (pM_mkl (by first | decide | omega | (simp only [List.length_cons, List.length_nil, List.length_map, sizeOf']; omega))) ?_ | refine hE (pm_mkt (by first | decide | omega | (simp only [List.length_cons, List.length_nil, List.length_map, sizeOf']; omega))) ?_ | refine hE (pm_range1 (by first | decide | omega | (simp only [List.length_cons, List.length_nil, List.length_map]; omega))) ?_ | refine hE (pm_fdiv (by first | decide | omega | (simp only [List.length_cons, List.length_nil, List.length_map]; omega)) (by first | decide | omega | (simp only [List.length_cons, List.length_nil, List.length_map]; omega))) ?_ | refine hc_le ?_ | refine hE (pm_mul (by first | decide | omega | (simp only [List.length_cons, List.length_nil, List.length_map]; omega)) (by first | decide | omega | (simp only [List.length_cons, List.length_nil, List.length_map]; omega))) ?_ | refine hE (pm_eq rd_int rd_int) ?_))
  refine st_ite ?_
  simp only [wpE_prim, wpEs_cons, wpEs_nil, wpE_var, wpE_cst, wpE_and, wpE_or, wpE_call, wpE_mcall, List.map_cons, List.map_nil, List.cons_append, List.nil_append, List.replicate_zero, List.replicate_succ, List.getElem?_cons_zero, List.getElem?_cons_succ, List.set_cons_zero, List.set_cons_succ, List.length_cons, List.length_nil, Nat.reduceAdd, Nat.reduceLT, true_and, wpE_cmp2]
  (repeat (with_reducible first | refine hB ?_ | refine it_t ?_ | refine it_f ?_ | refine hE pm_not_t ?_ | refine hE pm_not_f ?_ | refine hE pm_not ?_ | refine hE pi_int_int ?_ | refine hE pi_int_bool ?_ | refine hE pi_bool_bool ?_ | refine hE pi_bool_int ?_ | refine hE pi_str_int ?_ | refine hE pi_str_str ?_ | refine hE pi_str_tuple ?_ | refine hE pi_tup_tuple ?_ | refine hE pi_tup_str ?_ | refine hE pi_none_str ?_ | refine hE pi_none_int ?_ | refine hE pi_none_tuple ?_ | refine hE pi_bool_str ?_ | refine hE pi_bool_tuple ?_ | refine hE pi_int_str ?_ | refine hE pi_int_tuple ?_ | refine hE pi_lst_list ?_ | refine hE pi_lst_str ?_ | refine hE pi_lst_tuple ?_ | refine hE pm_add ?_ | refine hE pm_sub ?_ | refine hE pm_pow9 ?_ | refine hE pm_lt ?_ | refine hE pm_le ?_ | refine hE pm_gt ?_ | refine hE pm_ge ?_ | refine hE pm_neg ?_ | refine hE pm_lenl ?_ | refine hE pm_lens ?_ | refine hE pm_lent ?_ | refine hE pm_intb ?_ | refine hE (pm_mod (by first | decide | omega | (simp only [List.length_cons, List.length_nil, List.length_map]; omega))) ?_ | refine hE (pm_mkl (by first | decide | omega | (simp only [List.length_cons, List.length_nil, List.length_map, sizeOf']; omega))) ?_ | refine hE (pM_mkl (by first | decide | omega | (simp only [List.length_cons, List.length_nil, List.length_map, sizeOf']; omega))) ?_ | refine hE (pm_mkt (by first | decide | omega | (simp only [List.length_cons, List.length_nil, List.length_map, sizeOf']; omega))) ?_ | refine hE (pm_range1 (by first | decide | omega | (simp only [List.length_cons, List.length_nil, List.length_map]; omega))) ?_ | refine hE (pm_fdiv (by first | decide | omega | (simp only [List.length_cons, List.length_nil, List.length_map]; omega)) (by first | decide | omega | (simp only [List.length_cons, List.length_nil, List.length_map]; omega))) ?_ | refine hc_le ?_ | refine hE (pm_mul (by first | decide | omega | (simp only [List.length_cons, List.length_nil, List.length_map]; omega)) (by first | decide | omega | (simp only [List.length_cons, List.length_nil, List.length_map]; omega))) ?_ | refine hE (pm_eq rd_int rd_int) ?_))
  rcases hw with ⟨h, hw⟩ | ⟨h, hw⟩ | ⟨h, rfl⟩
  · rw [decide_eq_true h]
    refine it_t (st_ret ?_)
    simp only [wpE_prim, wpEs_cons, wpEs_nil, wpE_var, wpE_cst, wpE_and, wpE_or, wpE_call, wpE_mcall, List.map_cons, List.map_nil, List.cons_append, List.nil_append, List.replicate_zero, List.replicate_succ, List.getElem?_cons_zero, List.getElem?_cons_succ, List.set_cons_zero, List.set_cons_succ, List.length_cons, List.length_nil, Nat.reduceAdd, Nat.reduceLT, true_and, wpE_cmp2]
    (repeat (with_reducible first | refine hB ?_ | refine it_t ?_ | refine it_f ?_ | refine hE pm_not_t ?_ | refine hE pm_not_f ?_ | refine hE pm_not ?_ | refine hE pi_int_int ?_ | refine hE pi_int_bool ?_ | refine hE pi_bool_bool ?_ | refine hE pi_bool_int ?_ | refine hE pi_str_int ?_ | refine hE pi_str_str ?_ | refine hE pi_str_tuple ?_ | refine hE pi_tup_tuple ?_ | refine hE pi_tup_str ?_ | refine hE pi_none_str ?_ | refine hE pi_none_int ?_ | refine hE pi_none_tuple ?_ | refine hE pi_bool_str ?_ | refine hE pi_bool_tuple ?_ | refine hE pi_int_str ?_ | refine hE pi_int_tuple ?_ | refine hE pi_lst_list ?_ | refine hE pi_lst_str ?_ | refine hE pi_lst_tuple ?_ | refine hE pm_add ?_ | refine hE pm_sub ?_ | refine hE pm_pow9 ?_ | refine hE pm_lt ?_ | refine hE pm_le ?_ | refine hE pm_gt ?_ | refine hE pm_ge ?_ | refine hE pm_neg ?_ | refine hE pm_lenl ?_ | refine hE pm_lens ?_ | refine hE pm_lent ?_ | refine hE pm_intb ?_ | refine hE (pm_mod (by first | decide | omega | (simp only [List.length_cons, List.length_nil, List.length_map]; omega))) ?_ | refine hE (pm_mkl (by first | decide | omega | (simp only [List.length_cons, List.length_nil, List.length_map, sizeOf']; omega))) ?_ | refine hE (pM_mkl (by first | decide | omega | (simp only [List.length_cons, List.length_nil, List.length_map, sizeOf']; omega))) ?_ | refine hE (pm_mkt (by first | decide | omega | (simp only [List.length_cons, List.length_nil, List.length_map, sizeOf']; omega))) ?_ | refine hE (pm_range1 (by first | decide | omega | (simp only [List.length_cons, List.length_nil, List.length_map]; omega))) ?_ | refine hE (pm_fdiv (by first | decide | omega | (simp only [List.length_cons, List.length_nil, List.length_map]; omega)) (by first | decide | omega | (simp only [List.length_cons, List.length_nil, List.length_map]; omega))) ?_ | refine hc_le ?_ | refine hE (pm_mul (by first | decide | omega | (simp only [List.length_cons, List.length_nil, List.length_map]; omega)) (by first | decide | omega | (simp only [List.length_cons, List.length_nil, List.length_map]; omega))) ?_ | refine hE (pm_eq rd_int rd_int) ?_))
    exact ret_same (q (.two w nm) ⟨hw, hname⟩)
  · rw [decide_eq_false h]
    refine it_f (st_nil (st_ite ?_))
    simp only [wpE_prim, wpEs_cons, wpEs_nil, wpE_var, wpE_cst, wpE_and, wpE_or, wpE_call, wpE_mcall, List.map_cons, List.map_nil, List.cons_append, List.nil_append, List.replicate_zero, List.replicate_succ, List.getElem?_cons_zero, List.getElem?_cons_succ, List.set_cons_zero, List.set_cons_succ, List.length_cons, List.length_nil, Nat.reduceAdd, Nat.reduceLT, true_and, wpE_cmp2]
    refine hE (pm_eq rd_str rd_str) (hB ?_)
    have hs : eqV (.str w) (.str ['s', 'e', 'n', 't']) = false := by
      simp only [two, List.mem_cons, List.not_mem_nil, or_false] at hw
      rcases hw with rfl | rfl <;> decide
    rw [hs]
    refine it_f (st_nil (st_ret ?_))
    simp only [wpE_prim, wpEs_cons, wpEs_nil, wpE_var, wpE_cst, wpE_and, wpE_or, wpE_call, wpE_mcall, List.map_cons, List.map_nil, List.cons_append, List.nil_append, List.replicate_zero, List.replicate_succ, List.getElem?_cons_zero, List.getElem?_cons_succ, List.set_cons_zero, List.set_cons_succ, List.length_cons, List.length_nil, Nat.reduceAdd, Nat.reduceLT, true_and, wpE_cmp2]
    (repeat (with_reducible first | refine hB ?_ | refine it_t ?_ | refine it_f ?_ | refine hE pm_not_t ?_ | refine hE pm_not_f ?_ | refine hE pm_not ?_ | refine hE pi_int_int ?_ | refine hE pi_int_bool ?_ | refine hE pi_bool_bool ?_ | refine hE pi_bool_int ?_ | refine hE pi_str_int ?_ | refine hE pi_str_str ?_ | refine hE pi_str_tuple ?_ | refine hE pi_tup_tuple ?_ | refine hE pi_tup_str ?_ | refine hE pi_none_str ?_ | refine hE pi_none_int ?_ | refine hE pi_none_tuple ?_ | refine hE pi_bool_str ?_ | refine hE pi_bool_tuple ?_ | refine hE pi_int_str ?_ | refine hE pi_int_tuple ?_ | refine hE pi_lst_list ?_ | refine hE pi_lst_str ?_ | refine hE pi_lst_tuple ?_ | refine hE pm_add ?_ | refine hE pm_sub ?_ | refine hE pm_pow9 ?_ | refine hE pm_lt ?_ | refine hE pm_le ?_ | refine hE pm_gt ?_ | refine hE pm_ge ?_ | refine hE pm_neg ?_ | refine hE pm_lenl ?_ | refine hE pm_lens ?_ | refine hE pm_lent ?_ | refine hE pm_intb ?_ | refine hE (pm_mod (by first | decide | omega | (simp only [List.length_cons, List.length_nil, List.length_map]; omega))) ?_ | refine hE (pm_mkl (by first | decide | omega | (simp only [List.length_cons, List.length_nil, List.length_map, sizeOf']; omega))) ?_ | refine hE (pM_mkl (by first | decide | omega | (simp only [List.length_cons, List.length_nil, List.length_map, sizeOf']; omega))) ?_ | refine hE (pm_mkt (by first | decide | omega | (simp only [List.length_cons, List.length_nil, List.length_map, sizeOf']; omega))) ?_ | refine hE (pm_range1 (by first | decide | omega | (simp only [List.length_cons, List.length_nil, List.length_map]; omega))) ?_ | refine hE (pm_fdiv (by first | decide | omega | (simp only [List.length_cons, List.length_nil, List.length_map]; omega)) (by first | decide | omega | (simp only [List.length_cons, List.length_nil, List.length_map]; omega))) ?_ | refine hc_le ?_ | refine hE (pm_mul (by first | decide | omega | (simp only [List.length_cons, List.length_nil, List.length_map]; omega)) (by first | decide | omega | (simp only [List.length_cons, List.length_nil, List.length_map]; omega))) ?_ | refine hE (pm_eq rd_int rd_int) ?_))
    exact ret_same (q (.three w nm (1 + k)) ⟨hw, hname, by omega, by omega⟩)
  · rw [decide_eq_false h]
    refine it_f (st_nil (st_ite ?_))
    simp only [wpE_prim, wpEs_cons, wpEs_nil, wpE_var, wpE_cst, wpE_and, wpE_or, wpE_call, wpE_mcall, List.map_cons, List.map_nil, List.cons_append, List.nil_append, List.replicate_zero, List.replicate_succ, List.getElem?_cons_zero, List.getElem?_cons_succ, List.set_cons_zero, List.set_cons_succ, List.length_cons, List.length_nil, Nat.reduceAdd, Nat.reduceLT, true_and, wpE_cmp2]
    refine hE (pm_eq rd_str rd_str) (hB (it_t (st_ret ?_)))
    simp only [wpE_prim, wpEs_cons, wpEs_nil, wpE_var, wpE_cst, wpE_and, wpE_or, wpE_call, wpE_mcall, List.map_cons, List.map_nil, List.cons_append, List.nil_append, List.replicate_zero, List.replicate_succ, List.getElem?_cons_zero, List.getElem?_cons_succ, List.set_cons_zero, List.set_cons_succ, List.length_cons, List.length_nil, Nat.reduceAdd, Nat.reduceLT, true_and, wpE_cmp2]
    (repeat (with_reducible first | refine hB ?_ | refine it_t ?_ | refine it_f ?_ | refine hE pm_not_t ?_ | refine hE pm_not_f ?_ | refine hE pm_not ?_ | refine hE pi_int_int ?_ | refine hE pi_int_bool ?_ | refine hE pi_bool_bool ?_ | refine hE pi_bool_int ?_ | refine hE pi_str_int ?_ | refine hE pi_str_str ?_ | refine hE pi_str_tuple ?_ | refine hE pi_tup_tuple ?_ | refine hE pi_tup_str ?_ | refine hE pi_none_str ?_ | refine hE pi_none_int ?_ | refine hE pi_none_tuple ?_ | refine hE pi_bool_str ?_ | refine hE pi_bool_tuple ?_ | refine hE pi_int_str ?_ | refine hE pi_int_tuple ?_ | refine hE pi_lst_list ?_ | refine hE pi_lst_str ?_ | refine hE pi_lst_tuple ?_ | refine hE pm_add ?_ | refine hE pm_sub ?_ | refine hE pm_pow9 ?_ | refine hE pm_lt ?_ | refine hE pm_le ?_ | refine hE pm_gt ?_ | refine hE pm_ge ?_ | refine hE pm_neg ?_ | refine hE pm_lenl ?_ | refine hE pm_lens ?_ | refine hE pm_lent ?_ | refine hE pm_intb ?_ | refine hE (pm_mod (by first | decide | omega | (simp only [List.length_cons, List.length_nil, List.length_map]; omega))) ?_ | refine hE (pm_mkl (by first | decide | omega | (simp only [List.length_cons, List.length_nil, List.length_map, sizeOf']; omega))) ?_ | refine hE (pM_mkl (by first | decide | omega | (simp only [List.length_cons, List.length_nil, List.length_map, sizeOf']; omega))) ?_ | refine hE (pm_mkt (by first | decide | omega | (simp only [List.length_cons, List.length_nil, List.length_map, sizeOf']; omega))) ?_ | refine hE (pm_range1 (by first | decide | omega | (simp only [List.length_cons, List.length_nil, List.length_map]; omega))) ?_ | refine hE (pm_fdiv (by first | decide | omega | (simp only [List.length_cons, List.length_nil, List.length_map]; omega)) (by first | decide | omega | (simp only [List.length_cons, List.length_nil, List.length_map]; omega))) ?_ | refine hc_le ?_ | refine hE (pm_mul (by first | decide | omega | (simp only [List.length_cons, List.length_nil, List.length_map]; omega)) (by first | decide | omega | (simp only [List.length_cons, List.length_nil, List.length_map]; omega))) ?_ | refine hE (pm_eq rd_int rd_int) ?_))
    refine f12 fun l hl => ?_
    (repeat (with_reducible first | refine hB ?_ | refine it_t ?_ | refine it_f ?_ | refine hE pm_not_t ?_ | refine hE pm_not_f ?_ | refine hE pm_not ?_ | refine hE pi_int_int ?_ | refine hE pi_int_bool ?_ | refine hE pi_bool_bool ?_ | refine hE pi_bool_int ?_ | refine hE pi_str_int ?_ | refine hE pi_str_str ?_ | refine hE pi_str_tuple ?_ | refine hE pi_tup_tuple ?_ | refine hE pi_tup_str ?_ | refine hE pi_none_str ?_ | refine hE pi_none_int ?_ | refine hE pi_none_tuple ?_ | refine hE pi_bool_str ?_ | refine hE pi_bool_tuple ?_ | refine hE pi_int_str ?_ | refine hE pi_int_tuple ?_ | refine hE pi_lst_list ?_ | refine hE pi_lst_str ?_ | refine hE pi_lst_tuple ?_ | refine hE pm_add ?_ | refine hE pm_sub ?_ | refine hE pm_pow9 ?_ | refine hE pm_lt ?_ | refine hE pm_le ?_ | refine hE pm_gt ?_ | refine hE pm_ge ?_ | refine hE pm_neg ?_ | refine hE pm_lenl ?_ | refine hE pm_lens ?_ | refine hE pm_lent ?_ | refine hE pm_intb ?_ | refine hE (pm_mod (by first | decide | omega | (simp only [List.length_cons, List.length_nil, List.length_map]; omega))) ?_ | refine hE (pm_mkl (by first | decide | omega | (simp only [List.length_cons, List.length_nil, List.length_map, sizeOf']; omega))) ?_ | refine hE (pM_mkl (by first | decide | omega | (simp only [List.length_cons, List.length_nil, List.length_map, sizeOf']; omega))) ?_ | refine hE (pm_mkt (by first | decide | omega | (simp only [List.length_cons, List.length_nil, List.length_map, sizeOf']; omega))) ?_ | refine hE (pm_range1 (by first | decide | omega | (simp only [List.length_cons, List.length_nil, List.length_map]; omega))) ?_ | refine hE (pm_fdiv (by first | decide | omega | (simp only [List.length_cons, List.length_nil, List.length_map]; omega)) (by first | decide | omega | (simp only [List.length_cons, List.length_nil, List.length_map]; omega))) ?_ | refine hc_le ?_ | refine hE (pm_mul (by first | decide | omega | (simp only [List.length_cons, List.length_nil, List.length_map]; omega)) (by first | decide | omega | (simp only [List.length_cons, List.length_nil, List.length_map]; omega))) ?_ | refine hE (pm_eq rd_int rd_int) ?_))
    exact ret_same (q (.sent nm (1 + k) l) ⟨hname, ⟨by omega, by omega⟩, hl⟩)

theorem evs_of {ys : List V} (h : ∀ y ∈ ys, ∃ e : Ev, e.ok ∧ y = e.v) : ∃ es : List Ev, ys = es.map Ev.v ∧ ∀ e ∈ es, e.ok := by
  induction ys with
  | nil => exact ⟨[], rfl, by simp⟩
  | cons y ys ih =>
    obtain ⟨es, rfl, h2⟩ := ih fun z hz => h z (.tail _ hz)
    obtain ⟨e, he, rfl⟩ := h y (.head _)
    exact ⟨e :: es, rfl, fun t ht => by
      cases ht with
      | head => exact he
      | tail _ ht => exact h2 t ht⟩
theorem f16 {n : Nat} {zs : List Int} {H : AH} {Q : QE} {X : XE} (q : ∀ es : List Ev, es.length ≤ 400 → (∀ e ∈ es, e.ok) → Q (.lst (es.map Ev.v)) H) : callF PL (n + 3) 16 [.lst (zs.map V.int)] H Q X := by
  have fin : ∀ (c m : Int), 0 ≤ m → m ≤ 400 → wpSs PL (callF PL (n + 2)) [(.asg 3 (.call 11 [(.call 9 [(.var 0), (.cst (.int 1))]), (.cst (.int 8))])),
  (.ret (.comp false (.call 14 [(.prim false (.bop .add) [(.call 9 [(.var 0), (.prim false (.bop .add) [(.cst (.int 2)), (.prim false (.bop .mod) [(.var 4), (.cst (.int 30))])])]), (.prim false (.bop .mul) [(.cst (.int 13)), (.prim false (.bop .fdiv) [(.var 4), (.cst (.int 30))])])]), (.var 3)]) (.prim false .range1 [(.var 2)]) none))]
    [some (.lst (zs.map V.int)), some (.int c), some (.int m), none] H (fun _ H' => Ret H Q .none H') (fun v H' => Ret H Q v H') (RetX H X) := by
    intro c m hm0 hm1
    refine st_asg ?_
    simp only [wpE_prim, wpEs_cons, wpEs_nil, wpE_var, wpE_cst, wpE_and, wpE_or, wpE_call, wpE_mcall, List.map_cons, List.map_nil, List.cons_append, List.nil_append, List.replicate_zero, List.replicate_succ, List.getElem?_cons_zero, List.getElem?_cons_succ, List.set_cons_zero, List.set_cons_succ, List.length_cons, List.length_nil, Nat.reduceAdd, Nat.reduceLT, true_and, wpE_cmp2]
    refine f9 (by decide) (f11 fun nms hl hn => st_ret ?_)
    rw [wpE_comp]
    simp only [wpE_prim, wpEs_cons, wpEs_nil, wpE_var, wpE_cst, wpE_and, wpE_or, wpE_call, wpE_mcall, List.map_cons, List.map_nil, List.cons_append, List.nil_append, List.replicate_zero, List.replicate_succ, List.getElem?_cons_zero, List.getElem?_cons_succ, List.set_cons_zero, List.set_cons_succ, List.length_cons, List.length_nil, Nat.reduceAdd, Nat.reduceLT, true_and, wpE_cmp2]
    (repeat (with_reducible first | refine hB ?_ | refine it_t ?_ | refine it_f ?_ | refine hE pm_not_t ?_ | refine hE pm_not_f ?_ | refine hE pm_not ?_ | refine hE pi_int_int ?_ | refine hE pi_int_bool ?_ | refine hE pi_bool_bool ?_ | refine hE pi_bool_int ?_ | refine hE pi_str_int ?_ | refine hE pi_str_str ?_ | refine hE pi_str_tuple ?_ | refine hE pi_tup_tuple ?_ | refine hE pi_tup_str ?_ | refine hE pi_none_str ?_ | refine hE pi_none_int ?_ | refine hE pi_none_tuple ?_ | refine hE pi_bool_str ?_ | refine hE pi_bool_tuple ?_ | refine hE pi_int_str ?_ | refine hE pi_int_tuple ?_ | refine hE pi_lst_list ?_ | refine hE pi_lst_str ?_ | refine hE pi_lst_tuple ?_ | refine hE pm_add ?_ | refine hE pm_sub ?_ | refine hE pm_pow9 ?_ | refine hE pm_lt ?_ | refine hE pm_le ?_ | refine hE pm_gt ?_ | refine hE pm_ge ?_ | refine hE pm_neg ?_ | refine hE pm_lenl ?_ | refine hE pm_lens ?_ | refine hE pm_lent ?_ | refine hE pm_intb ?_ | refine hE (pm_mod (by first | decide | omega | (simp only [List.length_cons, List.length_nil, List.length_map]; omega))) ?_ | refine hE (pm_mkl (by first | decide | omega | (simp only [List.length_cons, List.length_nil, List.length_map, sizeOf']; omega))) ?_ | refine hE (pM_mkl (by first | decide | omega | (simp only [List.length_cons, List.length_nil, List.length_map, sizeOf']; omega))) ?_ | refine hE (pm_mkt (by first | decide | omega | (simp only [List.length_cons, List.length_nil, List.length_map, sizeOf']; omega))) ?_ | refine hE (pm_range1 (by first | decide | omega | (simp only [List.length_cons, List.length_nil, List.length_map]; omega))) ?_ | refine hE (pm_fdiv (by first | decide | omega | (simp only [List.length_cons, List.length_nil, List.length_map]; omega)) (by first | decide | omega | (simp only [List.length_cons, List.length_nil, List.length_map]; omega))) ?_ | refine hc_le ?_ | refine hE (pm_mul (by first | decide | omega | (simp only [List.length_cons, List.length_nil, List.length_map]; omega)) (by first | decide | omega | (simp only [List.length_cons, List.length_nil, List.length_map]; omega))) ?_ | refine hE (pm_eq rd_int rd_int) ?_))
    refine ⟨rngL 0 m, rfl, by rw [rngL_length]; exact sz _ (by omega), compL_rel (P := fun y => ∃ e : Ev, e.ok ∧ y = e.v) (by exact rfl) (fun x hx K hK => ?_) fun ys hys hp => ?_⟩
    · obtain ⟨k, rfl, h0, h1⟩ := rng_mem hx
      (repeat (with_reducible first | refine hB ?_ | refine it_t ?_ | refine it_f ?_ | refine hE pm_not_t ?_ | refine hE pm_not_f ?_ | refine hE pm_not ?_ | refine hE pi_int_int ?_ | refine hE pi_int_bool ?_ | refine hE pi_bool_bool ?_ | refine hE pi_bool_int ?_ | refine hE pi_str_int ?_ | refine hE pi_str_str ?_ | refine hE pi_str_tuple ?_ | refine hE pi_tup_tuple ?_ | refine hE pi_tup_str ?_ | refine hE pi_none_str ?_ | refine hE pi_none_int ?_ | refine hE pi_none_tuple ?_ | refine hE pi_bool_str ?_ | refine hE pi_bool_tuple ?_ | refine hE pi_int_str ?_ | refine hE pi_int_tuple ?_ | refine hE pi_lst_list ?_ | refine hE pi_lst_str ?_ | refine hE pi_lst_tuple ?_ | refine hE pm_add ?_ | refine hE pm_sub ?_ | refine hE pm_pow9 ?_ | refine hE pm_lt ?_ | refine hE pm_le ?_ | refine hE pm_gt ?_ | refine hE pm_ge ?_ | refine hE pm_neg ?_ | refine hE pm_lenl ?_ | refine hE pm_lens ?_ | refine hE pm_lent ?_ | refine hE pm_intb ?_ | refine hE (pm_mod (by first | decide | omega | (simp only [List.length_cons, List.length_nil, List.length_map]; omega))) ?_ | refine hE (pm_mkl (by first | decide | omega | (simp only [List.length_cons, List.length_nil, List.length_map, sizeOf']; omega))) ?_ | refine hE (pM_mkl (by first | decide | omega | (simp only [List.length_cons, List.length_nil, List.length_map, sizeOf']; omega))) ?_ | refine hE (pm_mkt (by first | decide | omega | (simp only [List.length_cons, List.length_nil, List.length_map, sizeOf']; omega))) ?_ | refine hE (pm_range1 (by first | decide | omega | (simp only [List.length_cons, List.length_nil, List.length_map]; omega))) ?_ | refine hE (pm_fdiv (by first | decide | omega | (simp only [List.length_cons, List.length_nil, List.length_map]; omega)) (by first | decide | omega | (simp only [List.length_cons, List.length_nil, List.length_map]; omega))) ?_ | refine hc_le ?_ | refine hE (pm_mul (by first | decide | omega | (simp only [List.length_cons, List.length_nil, List.length_map]; omega)) (by first | decide | omega | (simp only [List.length_cons, List.length_nil, List.length_map]; omega))) ?_ | refine hE (pm_eq rd_int rd_int) ?_))
      refine f9 (by omega) ?_
      (repeat (with_reducible first | refine hB ?_ | refine it_t ?_ | refine it_f ?_ | refine hE pm_not_t ?_ | refine hE pm_not_f ?_ | refine hE pm_not ?_ | refine hE pi_int_int ?_ | refine hE pi_int_bool ?_ | refine hE pi_bool_bool ?_ | refine hE pi_bool_int ?_ | refine hE pi_str_int ?_ | refine hE pi_str_str ?_ | refine hE pi_str_tuple ?_ | refine hE pi_tup_tuple ?_ | refine hE pi_tup_str ?_ | refine hE pi_none_str ?_ | refine hE pi_none_int ?_ | refine hE pi_none_tuple ?_ | refine hE pi_bool_str ?_ | refine hE pi_bool_tuple ?_ | refine hE pi_int_str ?_ | refine hE pi_int_tuple ?_ | refine hE pi_lst_list ?_ | refine hE pi_lst_str ?_ | refine hE pi_lst_tuple ?_ | refine hE pm_add ?_ | refine hE pm_sub ?_ | refine hE pm_pow9 ?_ | refine hE pm_lt ?_ | refine hE pm_le ?_ | refine hE pm_gt ?_ | refine hE pm_ge ?_ | refine hE pm_neg ?_ | refine hE pm_lenl ?_ | refine hE pm_lens ?_ | refine hE pm_lent ?_ | refine hE pm_intb ?_ | refine hE (pm_mod (by first | decide | omega | (simp only [List.length_cons, List.length_nil, List.length_map]; omega))) ?_ | refine hE (pm_mkl (by first | decide | omega | (simp only [List.length_cons, List.length_nil, List.length_map, sizeOf']; omega))) ?_ | refine hE (pM_mkl (by first | decide | omega | (simp only [List.length_cons, List.length_nil, List.length_map, sizeOf']; omega))) ?_ | refine hE (pm_mkt (by first | decide | omega | (simp only [List.length_cons, List.length_nil, List.length_map, sizeOf']; omega))) ?_ | refine hE (pm_range1 (by first | decide | omega | (simp only [List.length_cons, List.length_nil, List.length_map]; omega))) ?_ | refine hE (pm_fdiv (by first | decide | omega | (simp only [List.length_cons, List.length_nil, List.length_map]; omega)) (by first | decide | omega | (simp only [List.length_cons, List.length_nil, List.length_map]; omega))) ?_ | refine hc_le ?_ | refine hE (pm_mul (by first | decide | omega | (simp only [List.length_cons, List.length_nil, List.length_map]; omega)) (by first | decide | omega | (simp only [List.length_cons, List.length_nil, List.length_map]; omega))) ?_ | refine hE (pm_eq rd_int rd_int) ?_))
      exact f14 hl hn fun e he => hK _ ⟨e, he, rfl⟩
    · obtain ⟨es, rfl, h2⟩ := evs_of hp
      refine ret_same (q es ?_ h2)
      rw [List.length_map, rngL_length] at hys
      omega
  rw [callF_succ, P_fn16]
  refine ⟨rfl, st_asg ?_⟩
  simp only [show fn16.extra = 3 from rfl, wpE_prim, wpEs_cons, wpEs_nil, wpE_var, wpE_cst, wpE_and, wpE_or, wpE_call, wpE_mcall, List.map_cons, List.map_nil, List.cons_append, List.nil_append, List.replicate_zero, List.replicate_succ, List.getElem?_cons_zero, List.getElem?_cons_succ, List.set_cons_zero, List.set_cons_succ, List.length_cons, List.length_nil, Nat.reduceAdd, Nat.reduceLT, true_and, wpE_cmp2]
  refine f9 (by decide) (st_asg ?_)
  generalize cellAt zs (Int.toNat 0) = c
  simp only [wpE_prim, wpEs_cons, wpEs_nil, wpE_var, wpE_cst, wpE_and, wpE_or, wpE_call, wpE_mcall, List.map_cons, List.map_nil, List.cons_append, List.nil_append, List.replicate_zero, List.replicate_succ, List.getElem?_cons_zero, List.getElem?_cons_succ, List.set_cons_zero, List.set_cons_succ, List.length_cons, List.length_nil, Nat.reduceAdd, Nat.reduceLT, true_and, wpE_cmp2]
  (repeat (with_reducible first | refine hB ?_ | refine it_t ?_ | refine it_f ?_ | refine hE pm_not_t ?_ | refine hE pm_not_f ?_ | refine hE pm_not ?_ | refine hE pi_int_int ?_ | refine hE pi_int_bool ?_ | refine hE pi_bool_bool ?_ | refine hE pi_bool_int ?_ | refine hE pi_str_int ?_ | refine hE pi_str_str ?_ | refine hE pi_str_tuple ?_ | refine hE pi_tup_tuple ?_ | refine hE pi_tup_str ?_ | refine hE pi_none_str ?_ | refine hE pi_none_int ?_ | refine hE pi_none_tuple ?_ | refine hE pi_bool_str ?_ | refine hE pi_bool_tuple ?_ | refine hE pi_int_str ?_ | refine hE pi_int_tuple ?_ | refine hE pi_lst_list ?_ | refine hE pi_lst_str ?_ | refine hE pi_lst_tuple ?_ | refine hE pm_add ?_ | refine hE pm_sub ?_ | refine hE pm_pow9 ?_ | refine hE pm_lt ?_ | refine hE pm_le ?_ | refine hE pm_gt ?_ | refine hE pm_ge ?_ | refine hE pm_neg ?_ | refine hE pm_lenl ?_ | refine hE pm_lens ?_ | refine hE pm_lent ?_ | refine hE pm_intb ?_ | refine hE (pm_mod (by first | decide | omega | (simp only [List.length_cons, List.length_nil, List.length_map]; omega))) ?_ | refine hE (pm_mkl (by first | decide | omega | (simp only [List.length_cons, List.length_nil, List.length_map, sizeOf']; omega))) ?_ | refine hE (pM_mkl (by first | decide | omega | (simp only [List.length_cons, List.length_nil, List.length_map, sizeOf']; omega))) ?_ | refine hE (pm_mkt (by first | decide | omega | (simp only [List.length_cons, List.length_nil, List.length_map, sizeOf']; omega))) ?_ | refine hE (pm_range1 (by first | decide | omega | (simp only [List.length_cons, List.length_nil, List.length_map]; omega))) ?_ | refine hE (pm_fdiv (by first | decide | omega | (simp only [List.length_cons, List.length_nil, List.length_map]; omega)) (by first | decide | omega | (simp only [List.length_cons, List.length_nil, List.length_map]; omega))) ?_ | refine hc_le ?_ | refine hE (pm_mul (by first | decide | omega | (simp only [List.length_cons, List.length_nil, List.length_map]; omega)) (by first | decide | omega | (simp only [List.length_cons, List.length_nil, List.length_map]; omega))) ?_ | refine hE (pm_eq rd_int rd_int) ?_))
  refine st_ite ?_
  have next : ∀ m : Int, 0 ≤ m → m ≤ 400 → wpSs PL (callF PL (n + 2)) [(.ite (.prim false (.cop .eq) [(.prim false (.bop .mod) [(.prim false (.bop .fdiv) [(.var 1), (.cst (.int 9))]), (.cst (.int 32))]), (.cst (.int 5))]) [(.asg 2 (.cst (.int 400)))] []),
    (.asg 3 (.call 11 [(.call 9 [(.var 0), (.cst (.int 1))]), (.cst (.int 8))])),
    (.ret (.comp false (.call 14 [(.prim false (.bop .add) [(.call 9 [(.var 0), (.prim false (.bop .add) [(.cst (.int 2)), (.prim false (.bop .mod) [(.var 4), (.cst (.int 30))])])]), (.prim false (.bop .mul) [(.cst (.int 13)), (.prim false (.bop .fdiv) [(.var 4), (.cst (.int 30))])])]), (.var 3)]) (.prim false .range1 [(.var 2)]) none))]
    [some (.lst (zs.map V.int)), some (.int c), some (.int m), none] H (fun _ H' => Ret H Q .none H') (fun v H' => Ret H Q v H') (RetX H X) := by
    intro m h0 h1
    refine st_ite ?_
    simp only [wpE_prim, wpEs_cons, wpEs_nil, wpE_var, wpE_cst, wpE_and, wpE_or, wpE_call, wpE_mcall, List.map_cons, List.map_nil, List.cons_append, List.nil_append, List.replicate_zero, List.replicate_succ, List.getElem?_cons_zero, List.getElem?_cons_succ, List.set_cons_zero, List.set_cons_succ, List.length_cons, List.length_nil, Nat.reduceAdd, Nat.reduceLT, true_and, wpE_cmp2]
    (repeat (with_reducible first | refine hB ?_ | refine it_t ?_ | refine it_f ?_ | refine hE pm_not_t ?_ | refine hE pm_not_f ?_ | refine hE pm_not ?_ | refine hE pi_int_int ?_ | refine hE pi_int_bool ?_ | refine hE pi_bool_bool ?_ | refine hE pi_bool_int ?_ | refine hE pi_str_int ?_ | refine hE pi_str_str ?_ | refine hE pi_str_tuple ?_ | refine hE pi_tup_tuple ?_ | refine hE pi_tup_str ?_ | refine hE pi_none_str ?_ | refine hE pi_none_int ?_ | refine hE pi_none_tuple ?_ | refine hE pi_bool_str ?_ | refine hE pi_bool_tuple ?_ | refine hE pi_int_str ?_ | refine hE pi_int_tuple ?_ | refine hE pi_lst_list ?_ | refine hE pi_lst_str ?_ | refine hE pi_lst_tuple ?_ | refine hE pm_add ?_ | refine hE pm_sub ?_ | refine hE pm_pow9 ?_ | refine hE pm_lt ?_ | refine hE pm_le ?_ | refine hE pm_gt ?_ | refine hE pm_ge ?_ | refine hE pm_neg ?_ | refine hE pm_lenl ?_ | refine hE pm_lens ?_ | refine hE pm_lent ?_ | refine hE pm_intb ?_ | refine hE (pm_mod (by first | decide | omega | (simp only [List.length_cons, List.length_nil, List.length_map]; omega))) ?_ | refine hE (pm_mkl (by first | decide | omega | (simp only [List.length_cons, List.length_nil, List.length_map, sizeOf']; omega))) ?_ | refine hE (pM_mkl (by first | decide | omega | (simp only [List.length_cons, List.length_nil, List.length_map, sizeOf']; omega))) ?_ | refine hE (pm_mkt (by first | decide | omega | (simp only [List.length_cons, List.length_nil, List.length_map, sizeOf']; omega))) ?_ | refine hE (pm_range1 (by first | decide | omega | (simp only [List.length_cons, List.length_nil, List.length_map]; omega))) ?_ | refine hE (pm_fdiv (by first | decide | omega | (simp only [List.length_cons, List.length_nil, List.length_map]; omega)) (by first | decide | omega | (simp only [List.length_cons, List.length_nil, List.length_map]; omega))) ?_ | refine hc_le ?_ | refine hE (pm_mul (by first | decide | omega | (simp only [List.length_cons, List.length_nil, List.length_map]; omega)) (by first | decide | omega | (simp only [List.length_cons, List.length_nil, List.length_map]; omega))) ?_ | refine hE (pm_eq rd_int rd_int) ?_))
    rw [eqV_int]
    by_cases h : c / 9 % 32 = 5
    · rw [beq_iff_eq.mpr h]
      refine it_t (st_asg ?_)
      simp only [wpE_prim, wpEs_cons, wpEs_nil, wpE_var, wpE_cst, wpE_and, wpE_or, wpE_call, wpE_mcall, List.map_cons, List.map_nil, List.cons_append, List.nil_append, List.replicate_zero, List.replicate_succ, List.getElem?_cons_zero, List.getElem?_cons_succ, List.set_cons_zero, List.set_cons_succ, List.length_cons, List.length_nil, Nat.reduceAdd, Nat.reduceLT, true_and, wpE_cmp2]
      exact st_nil (fin c 400 (by decide) (by decide))
    · rw [beq_eq_false_iff_ne.mpr h]
      exact it_f (st_nil (fin c m h0 h1))
  simp only [wpE_prim, wpEs_cons, wpEs_nil, wpE_var, wpE_cst, wpE_and, wpE_or, wpE_call, wpE_mcall, List.map_cons, List.map_nil, List.cons_append, List.nil_append, List.replicate_zero, List.replicate_succ, List.getElem?_cons_zero, List.getElem?_cons_succ, List.set_cons_zero, List.set_cons_succ, List.length_cons, List.length_nil, Nat.reduceAdd, Nat.reduceLT, true_and, wpE_cmp2]
  (repeat (with_reducible first | refine hB ?_ | refine it_t ?_ | refine it_f ?_ | refine hE pm_not_t ?_ | refine hE pm_not_f ?_ | refine hE pm_not ?_ | refine hE pi_int_int ?_ | refine hE pi_int_bool ?_ | refine hE pi_bool_bool ?_ | refine hE pi_bool_int ?_ | refine hE pi_str_int ?_ | refine hE pi_str_str ?_ | refine hE pi_str_tuple ?_ | refine hE pi_tup_tuple ?_ | refine hE pi_tup_str ?_ | refine hE pi_none_str ?_ | refine hE pi_none_int ?_ | refine hE pi_none_tuple ?_ | refine hE pi_bool_str ?_ | refine hE pi_bool_tuple ?_ | refine hE pi_int_str ?_ | refine hE pi_int_tuple ?_ | refine hE pi_lst_list ?_ | refine hE pi_lst_str ?_ | refine hE pi_lst_tuple ?_ | refine hE pm_add ?_ | refine hE pm_sub ?_ | refine hE pm_pow9 ?_ | refine hE pm_lt ?_ | refine hE pm_le ?_ | refine hE pm_gt ?_ | refine hE pm_ge ?_ | refine hE pm_neg ?_ | refine hE pm_lenl ?_ | refine hE pm_lens ?_ | refine hE pm_lent ?_ | refine hE pm_intb ?_ | refine hE (pm_mod (by first | decide | omega | (simp only [List.length_cons, List.length_nil, List.length_map]; omega))) ?_ | refine hE (pm_mkl (by first | decide | omega | (simp only [List.length_cons, List.length_nil, List.length_map, sizeOf']; omega))) ?_ | refine hE (pM_mkl (by first | decide | omega | (simp only [List.length_cons, List.length_nil, List.length_map, sizeOf']; omega))) ?_ | refine hE (pm_mkt (by first | decide | omega | (simp only [List.length_cons, List.length_nil, List.length_map, sizeOf']; omega))) ?_ | refine hE (pm_range1 (by first | decide | omega | (simp only [List.length_cons, List.length_nil, List.length_map]; omega))) ?_ | refine hE (pm_fdiv (by first | decide | omega | (simp only [List.length_cons, List.length_nil, List.length_map]; omega)) (by first | decide | omega | (simp only [List.length_cons, List.length_nil, List.length_map]; omega))) ?_ | refine hc_le ?_ | refine hE (pm_mul (by first | decide | omega | (simp only [List.length_cons, List.length_nil, List.length_map]; omega)) (by first | decide | omega | (simp only [List.length_cons, List.length_nil, List.length_map]; omega))) ?_ | refine hE (pm_eq rd_int rd_int) ?_))
  rw [eqV_int]
  by_cases h : c / 9 % 4 = 1
  · rw [beq_iff_eq.mpr h]
    refine it_t (st_asg ?_)
    simp only [wpE_prim, wpEs_cons, wpEs_nil, wpE_var, wpE_cst, wpE_and, wpE_or, wpE_call, wpE_mcall, List.map_cons, List.map_nil, List.cons_append, List.nil_append, List.replicate_zero, List.replicate_succ, List.getElem?_cons_zero, List.getElem?_cons_succ, List.set_cons_zero, List.set_cons_succ, List.length_cons, List.length_nil, Nat.reduceAdd, Nat.reduceLT, true_and, wpE_cmp2]
    (repeat (with_reducible first | refine hB ?_ | refine it_t ?_ | refine it_f ?_ | refine hE pm_not_t ?_ | refine hE pm_not_f ?_ | refine hE pm_not ?_ | refine hE pi_int_int ?_ | refine hE pi_int_bool ?_ | refine hE pi_bool_bool ?_ | refine hE pi_bool_int ?_ | refine hE pi_str_int ?_ | refine hE pi_str_str ?_ | refine hE pi_str_tuple ?_ | refine hE pi_tup_tuple ?_ | refine hE pi_tup_str ?_ | refine hE pi_none_str ?_ | refine hE pi_none_int ?_ | refine hE pi_none_tuple ?_ | refine hE pi_bool_str ?_ | refine hE pi_bool_tuple ?_ | refine hE pi_int_str ?_ | refine hE pi_int_tuple ?_ | refine hE pi_lst_list ?_ | refine hE pi_lst_str ?_ | refine hE pi_lst_tuple ?_ | refine hE pm_add ?_ | refine hE pm_sub ?_ | refine hE pm_pow9 ?_ | refine hE pm_lt ?_ | refine hE pm_le ?_ | refine hE pm_gt ?_ | refine hE pm_ge ?_ | refine hE pm_neg ?_ | refine hE pm_lenl ?_ | refine hE pm_lens ?_ | refine hE pm_lent ?_ | refine hE pm_intb ?_ | refine hE (pm_mod (by first | decide | omega | (simp only [List.length_cons, List.length_nil, List.length_map]; omega))) ?_ | refine hE (pm_mkl (by first | decide | omega | (simp only [List.length_cons, List.length_nil, List.length_map, sizeOf']; omega))) ?_ | refine hE (pM_mkl (by first | decide | omega | (simp only [List.length_cons, List.length_nil, List.length_map, sizeOf']; omega))) ?_ | refine hE (pm_mkt (by first | decide | omega | (simp only [List.length_cons, List.length_nil, List.length_map, sizeOf']; omega))) ?_ | refine hE (pm_range1 (by first | decide | omega | (simp only [List.length_cons, List.length_nil, List.length_map]; omega))) ?_ | refine hE (pm_fdiv (by first | decide | omega | (simp only [List.length_cons, List.length_nil, List.length_map]; omega)) (by first | decide | omega | (simp only [List.length_cons, List.length_nil, List.length_map]; omega))) ?_ | refine hc_le ?_ | refine hE (pm_mul (by first | decide | omega | (simp only [List.length_cons, List.length_nil, List.length_map]; omega)) (by first | decide | omega | (simp only [List.length_cons, List.length_nil, List.length_map]; omega))) ?_ | refine hE (pm_eq rd_int rd_int) ?_))
    exact st_nil (next _ (by omega) (by omega))
  · rw [beq_eq_false_iff_ne.mpr h]
    exact it_f (st_nil (next _ (by omega) (by omega)))

theorem f13 {n : Nat} {i : Nat} {es : List Ev} {H : AH} {Q : QE} {X : XE} (hi : H[i]? = some (.list (es.map Ev.v))) (hl : es.length ≤ 1000) (q : Q (.bool true) H) : callF PL (n + 2) 13 [.ref i] H Q X := by
  have hs : src H (.ref i) = some (es.map Ev.v) := by simp only [src, view, hi]
  rw [callF_succ, P_fn13]
  refine ⟨rfl, st_ite ?_⟩
  simp only [show fn13.extra = 1 from rfl, wpE_prim, wpEs_cons, wpEs_nil, wpE_var, wpE_cst, wpE_and, wpE_or, wpE_call, wpE_mcall, List.map_cons, List.map_nil, List.cons_append, List.nil_append, List.replicate_zero, List.replicate_succ, List.getElem?_cons_zero, List.getElem?_cons_succ, List.set_cons_zero, List.set_cons_succ, List.length_cons, List.length_nil, Nat.reduceAdd, Nat.reduceLT, true_and, wpE_cmp2]
  refine hE (pi_ref_list hi) ?_
  (repeat (with_reducible first | refine hB ?_ | refine it_t ?_ | refine it_f ?_ | refine hE pm_not_t ?_ | refine hE pm_not_f ?_ | refine hE pm_not ?_ | refine hE pi_int_int ?_ | refine hE pi_int_bool ?_ | refine hE pi_bool_bool ?_ | refine hE pi_bool_int ?_ | refine hE pi_str_int ?_ | refine hE pi_str_str ?_ | refine hE pi_str_tuple ?_ | refine hE pi_tup_tuple ?_ | refine hE pi_tup_str ?_ | refine hE pi_none_str ?_ | refine hE pi_none_int ?_ | refine hE pi_none_tuple ?_ | refine hE pi_bool_str ?_ | refine hE pi_bool_tuple ?_ | refine hE pi_int_str ?_ | refine hE pi_int_tuple ?_ | refine hE pi_lst_list ?_ | refine hE pi_lst_str ?_ | refine hE pi_lst_tuple ?_ | refine hE pm_add ?_ | refine hE pm_sub ?_ | refine hE pm_pow9 ?_ | refine hE pm_lt ?_ | refine hE pm_le ?_ | refine hE pm_gt ?_ | refine hE pm_ge ?_ | refine hE pm_neg ?_ | refine hE pm_lenl ?_ | refine hE pm_lens ?_ | refine hE pm_lent ?_ | refine hE pm_intb ?_ | refine hE (pm_mod (by first | decide | omega | (simp only [List.length_cons, List.length_nil, List.length_map]; omega))) ?_ | refine hE (pm_mkl (by first | decide | omega | (simp only [List.length_cons, List.length_nil, List.length_map, sizeOf']; omega))) ?_ | refine hE (pM_mkl (by first | decide | omega | (simp only [List.length_cons, List.length_nil, List.length_map, sizeOf']; omega))) ?_ | refine hE (pm_mkt (by first | decide | omega | (simp only [List.length_cons, List.length_nil, List.length_map, sizeOf']; omega))) ?_ | refine hE (pm_range1 (by first | decide | omega | (simp only [List.length_cons, List.length_nil, List.length_map]; omega))) ?_ | refine hE (pm_fdiv (by first | decide | omega | (simp only [List.length_cons, List.length_nil, List.length_map]; omega)) (by first | decide | omega | (simp only [List.length_cons, List.length_nil, List.length_map]; omega))) ?_ | refine hc_le ?_ | refine hE (pm_mul (by first | decide | omega | (simp only [List.length_cons, List.length_nil, List.length_map]; omega)) (by first | decide | omega | (simp only [List.length_cons, List.length_nil, List.length_map]; omega))) ?_ | refine hE (pm_eq rd_int rd_int) ?_))
  refine st_nil (st_for ?_)
  simp only [wpE_prim, wpEs_cons, wpEs_nil, wpE_var, wpE_cst, wpE_and, wpE_or, wpE_call, wpE_mcall, List.map_cons, List.map_nil, List.cons_append, List.nil_append, List.replicate_zero, List.replicate_succ, List.getElem?_cons_zero, List.getElem?_cons_succ, List.set_cons_zero, List.set_cons_succ, List.length_cons, List.length_nil, Nat.reduceAdd, Nat.reduceLT, true_and, wpE_cmp2]
  refine ⟨es.map Ev.v, hs, by rw [List.length_map]; exact sz _ hl, ?_⟩
  simp only [Bool.false_eq_true, if_false]
  refine forL_inv (fun vs ρ H' => (∃ es' : List Ev, vs = es'.map Ev.v) ∧ (∃ a : Option V, ρ = [some (.ref i), a]) ∧ H' = H) ?_ ?_ ⟨⟨es, rfl⟩, ⟨_, rfl⟩, rfl⟩
  · rintro v vs ρ H' ⟨⟨es', hes⟩, ⟨a, rfl⟩, rfl⟩
    refine ⟨hs, fun K' hK => ?_⟩
    cases es' with
    | nil => cases hes
    | cons e es' =>
      cases hes
      have fin : K' [some (.ref i), some e.v] H' := hK _ _ ⟨⟨es', rfl⟩, ⟨_, rfl⟩, rfl⟩
      simp only [setTgt, wpE_prim, wpEs_cons, wpEs_nil, wpE_var, wpE_cst, wpE_and, wpE_or, wpE_call, wpE_mcall, List.map_cons, List.map_nil, List.cons_append, List.nil_append, List.replicate_zero, List.replicate_succ, List.getElem?_cons_zero, List.getElem?_cons_succ, List.set_cons_zero, List.set_cons_succ, List.length_cons, List.length_nil, Nat.reduceAdd, Nat.reduceLT, true_and, wpE_cmp2]
      refine st_ite ?_
      simp only [wpE_prim, wpEs_cons, wpEs_nil, wpE_var, wpE_cst, wpE_and, wpE_or, wpE_call, wpE_mcall, List.map_cons, List.map_nil, List.cons_append, List.nil_append, List.replicate_zero, List.replicate_succ, List.getElem?_cons_zero, List.getElem?_cons_succ, List.set_cons_zero, List.set_cons_succ, List.length_cons, List.length_nil, Nat.reduceAdd, Nat.reduceLT, true_and, wpE_cmp2]
      cases e with
      | two w nm =>
        refine hE pi_tup_tuple ?_
        (repeat (with_reducible first | refine hB ?_ | refine it_t ?_ | refine it_f ?_ | refine hE pm_not_t ?_ | refine hE pm_not_f ?_ | refine hE pm_not ?_ | refine hE pi_int_int ?_ | refine hE pi_int_bool ?_ | refine hE pi_bool_bool ?_ | refine hE pi_bool_int ?_ | refine hE pi_str_int ?_ | refine hE pi_str_str ?_ | refine hE pi_str_tuple ?_ | refine hE pi_tup_tuple ?_ | refine hE pi_tup_str ?_ | refine hE pi_none_str ?_ | refine hE pi_none_int ?_ | refine hE pi_none_tuple ?_ | refine hE pi_bool_str ?_ | refine hE pi_bool_tuple ?_ | refine hE pi_int_str ?_ | refine hE pi_int_tuple ?_ | refine hE pi_lst_list ?_ | refine hE pi_lst_str ?_ | refine hE pi_lst_tuple ?_ | refine hE pm_add ?_ | refine hE pm_sub ?_ | refine hE pm_pow9 ?_ | refine hE pm_lt ?_ | refine hE pm_le ?_ | refine hE pm_gt ?_ | refine hE pm_ge ?_ | refine hE pm_neg ?_ | refine hE pm_lenl ?_ | refine hE pm_lens ?_ | refine hE pm_lent ?_ | refine hE pm_intb ?_ | refine hE (pm_mod (by first | decide | omega | (simp only [List.length_cons, List.length_nil, List.length_map]; omega))) ?_ | refine hE (pm_mkl (by first | decide | omega | (simp only [List.length_cons, List.length_nil, List.length_map, sizeOf']; omega))) ?_ | refine hE (pM_mkl (by first | decide | omega | (simp only [List.length_cons, List.length_nil, List.length_map, sizeOf']; omega))) ?_ | refine hE (pm_mkt (by first | decide | omega | (simp only [List.length_cons, List.length_nil, List.length_map, sizeOf']; omega))) ?_ | refine hE (pm_range1 (by first | decide | omega | (simp only [List.length_cons, List.length_nil, List.length_map]; omega))) ?_ | refine hE (pm_fdiv (by first | decide | omega | (simp only [List.length_cons, List.length_nil, List.length_map]; omega)) (by first | decide | omega | (simp only [List.length_cons, List.length_nil, List.length_map]; omega))) ?_ | refine hc_le ?_ | refine hE (pm_mul (by first | decide | omega | (simp only [List.length_cons, List.length_nil, List.length_map]; omega)) (by first | decide | omega | (simp only [List.length_cons, List.length_nil, List.length_map]; omega))) ?_ | refine hE (pm_eq rd_int rd_int) ?_))
        refine it_f (hE pm_t0 ?_)
        (repeat (with_reducible first | refine hB ?_ | refine it_t ?_ | refine it_f ?_ | refine hE pm_not_t ?_ | refine hE pm_not_f ?_ | refine hE pm_not ?_ | refine hE pi_int_int ?_ | refine hE pi_int_bool ?_ | refine hE pi_bool_bool ?_ | refine hE pi_bool_int ?_ | refine hE pi_str_int ?_ | refine hE pi_str_str ?_ | refine hE pi_str_tuple ?_ | refine hE pi_tup_tuple ?_ | refine hE pi_tup_str ?_ | refine hE pi_none_str ?_ | refine hE pi_none_int ?_ | refine hE pi_none_tuple ?_ | refine hE pi_bool_str ?_ | refine hE pi_bool_tuple ?_ | refine hE pi_int_str ?_ | refine hE pi_int_tuple ?_ | refine hE pi_lst_list ?_ | refine hE pi_lst_str ?_ | refine hE pi_lst_tuple ?_ | refine hE pm_add ?_ | refine hE pm_sub ?_ | refine hE pm_pow9 ?_ | refine hE pm_lt ?_ | refine hE pm_le ?_ | refine hE pm_gt ?_ | refine hE pm_ge ?_ | refine hE pm_neg ?_ | refine hE pm_lenl ?_ | refine hE pm_lens ?_ | refine hE pm_lent ?_ | refine hE pm_intb ?_ | refine hE (pm_mod (by first | decide | omega | (simp only [List.length_cons, List.length_nil, List.length_map]; omega))) ?_ | refine hE (pm_mkl (by first | decide | omega | (simp only [List.length_cons, List.length_nil, List.length_map, sizeOf']; omega))) ?_ | refine hE (pM_mkl (by first | decide | omega | (simp only [List.length_cons, List.length_nil, List.length_map, sizeOf']; omega))) ?_ | refine hE (pm_mkt (by first | decide | omega | (simp only [List.length_cons, List.length_nil, List.length_map, sizeOf']; omega))) ?_ | refine hE (pm_range1 (by first | decide | omega | (simp only [List.length_cons, List.length_nil, List.length_map]; omega))) ?_ | refine hE (pm_fdiv (by first | decide | omega | (simp only [List.length_cons, List.length_nil, List.length_map]; omega)) (by first | decide | omega | (simp only [List.length_cons, List.length_nil, List.length_map]; omega))) ?_ | refine hc_le ?_ | refine hE (pm_mul (by first | decide | omega | (simp only [List.length_cons, List.length_nil, List.length_map]; omega)) (by first | decide | omega | (simp only [List.length_cons, List.length_nil, List.length_map]; omega))) ?_ | refine hE (pm_eq rd_int rd_int) ?_))
        refine hE pm_t1 ?_
        (repeat (with_reducible first | refine hB ?_ | refine it_t ?_ | refine it_f ?_ | refine hE pm_not_t ?_ | refine hE pm_not_f ?_ | refine hE pm_not ?_ | refine hE pi_int_int ?_ | refine hE pi_int_bool ?_ | refine hE pi_bool_bool ?_ | refine hE pi_bool_int ?_ | refine hE pi_str_int ?_ | refine hE pi_str_str ?_ | refine hE pi_str_tuple ?_ | refine hE pi_tup_tuple ?_ | refine hE pi_tup_str ?_ | refine hE pi_none_str ?_ | refine hE pi_none_int ?_ | refine hE pi_none_tuple ?_ | refine hE pi_bool_str ?_ | refine hE pi_bool_tuple ?_ | refine hE pi_int_str ?_ | refine hE pi_int_tuple ?_ | refine hE pi_lst_list ?_ | refine hE pi_lst_str ?_ | refine hE pi_lst_tuple ?_ | refine hE pm_add ?_ | refine hE pm_sub ?_ | refine hE pm_pow9 ?_ | refine hE pm_lt ?_ | refine hE pm_le ?_ | refine hE pm_gt ?_ | refine hE pm_ge ?_ | refine hE pm_neg ?_ | refine hE pm_lenl ?_ | refine hE pm_lens ?_ | refine hE pm_lent ?_ | refine hE pm_intb ?_ | refine hE (pm_mod (by first | decide | omega | (simp only [List.length_cons, List.length_nil, List.length_map]; omega))) ?_ | refine hE (pm_mkl (by first | decide | omega | (simp only [List.length_cons, List.length_nil, List.length_map, sizeOf']; omega))) ?_ | refine hE (pM_mkl (by first | decide | omega | (simp only [List.length_cons, List.length_nil, List.length_map, sizeOf']; omega))) ?_ | refine hE (pm_mkt (by first | decide | omega | (simp only [List.length_cons, List.length_nil, List.length_map, sizeOf']; omega))) ?_ | refine hE (pm_range1 (by first | decide | omega | (simp only [List.length_cons, List.length_nil, List.length_map]; omega))) ?_ | refine hE (pm_fdiv (by first | decide | omega | (simp only [List.length_cons, List.length_nil, List.length_map]; omega)) (by first | decide | omega | (simp only [List.length_cons, List.length_nil, List.length_map]; omega))) ?_ | refine hc_le ?_ | refine hE (pm_mul (by first | decide | omega | (simp only [List.length_cons, List.length_nil, List.length_map]; omega)) (by first | decide | omega | (simp only [List.length_cons, List.length_nil, List.length_map]; omega))) ?_ | refine hE (pm_eq rd_int rd_int) ?_))
        refine st_nil (st_ite ?_)
        simp only [wpE_prim, wpEs_cons, wpEs_nil, wpE_var, wpE_cst, wpE_and, wpE_or, wpE_call, wpE_mcall, List.map_cons, List.map_nil, List.cons_append, List.nil_append, List.replicate_zero, List.replicate_succ, List.getElem?_cons_zero, List.getElem?_cons_succ, List.set_cons_zero, List.set_cons_succ, List.length_cons, List.length_nil, Nat.reduceAdd, Nat.reduceLT, true_and, wpE_cmp2]
        refine hE pm_lent (hE pm_gt (hB (it_f (hB (it_f (st_nil (st_ite ?_)))))))
        simp only [wpE_prim, wpEs_cons, wpEs_nil, wpE_var, wpE_cst, wpE_and, wpE_or, wpE_call, wpE_mcall, List.map_cons, List.map_nil, List.cons_append, List.nil_append, List.replicate_zero, List.replicate_succ, List.getElem?_cons_zero, List.getElem?_cons_succ, List.set_cons_zero, List.set_cons_succ, List.length_cons, List.length_nil, Nat.reduceAdd, Nat.reduceLT, true_and, wpE_cmp2]
        exact hE pm_lent (hE pm_gt (hB (it_f (hB (it_f (st_nil (st_nil fin)))))))
      | three w nm k =>
        refine hE pi_tup_tuple ?_
        (repeat (with_reducible first | refine hB ?_ | refine it_t ?_ | refine it_f ?_ | refine hE pm_not_t ?_ | refine hE pm_not_f ?_ | refine hE pm_not ?_ | refine hE pi_int_int ?_ | refine hE pi_int_bool ?_ | refine hE pi_bool_bool ?_ | refine hE pi_bool_int ?_ | refine hE pi_str_int ?_ | refine hE pi_str_str ?_ | refine hE pi_str_tuple ?_ | refine hE pi_tup_tuple ?_ | refine hE pi_tup_str ?_ | refine hE pi_none_str ?_ | refine hE pi_none_int ?_ | refine hE pi_none_tuple ?_ | refine hE pi_bool_str ?_ | refine hE pi_bool_tuple ?_ | refine hE pi_int_str ?_ | refine hE pi_int_tuple ?_ | refine hE pi_lst_list ?_ | refine hE pi_lst_str ?_ | refine hE pi_lst_tuple ?_ | refine hE pm_add ?_ | refine hE pm_sub ?_ | refine hE pm_pow9 ?_ | refine hE pm_lt ?_ | refine hE pm_le ?_ | refine hE pm_gt ?_ | refine hE pm_ge ?_ | refine hE pm_neg ?_ | refine hE pm_lenl ?_ | refine hE pm_lens ?_ | refine hE pm_lent ?_ | refine hE pm_intb ?_ | refine hE (pm_mod (by first | decide | omega | (simp only [List.length_cons, List.length_nil, List.length_map]; omega))) ?_ | refine hE (pm_mkl (by first | decide | omega | (simp only [List.length_cons, List.length_nil, List.length_map, sizeOf']; omega))) ?_ | refine hE (pM_mkl (by first | decide | omega | (simp only [List.length_cons, List.length_nil, List.length_map, sizeOf']; omega))) ?_ | refine hE (pm_mkt (by first | decide | omega | (simp only [List.length_cons, List.length_nil, List.length_map, sizeOf']; omega))) ?_ | refine hE (pm_range1 (by first | decide | omega | (simp only [List.length_cons, List.length_nil, List.length_map]; omega))) ?_ | refine hE (pm_fdiv (by first | decide | omega | (simp only [List.length_cons, List.length_nil, List.length_map]; omega)) (by first | decide | omega | (simp only [List.length_cons, List.length_nil, List.length_map]; omega))) ?_ | refine hc_le ?_ | refine hE (pm_mul (by first | decide | omega | (simp only [List.length_cons, List.length_nil, List.length_map]; omega)) (by first | decide | omega | (simp only [List.length_cons, List.length_nil, List.length_map]; omega))) ?_ | refine hE (pm_eq rd_int rd_int) ?_))
        refine it_f (hE pm_t0 ?_)
        (repeat (with_reducible first | refine hB ?_ | refine it_t ?_ | refine it_f ?_ | refine hE pm_not_t ?_ | refine hE pm_not_f ?_ | refine hE pm_not ?_ | refine hE pi_int_int ?_ | refine hE pi_int_bool ?_ | refine hE pi_bool_bool ?_ | refine hE pi_bool_int ?_ | refine hE pi_str_int ?_ | refine hE pi_str_str ?_ | refine hE pi_str_tuple ?_ | refine hE pi_tup_tuple ?_ | refine hE pi_tup_str ?_ | refine hE pi_none_str ?_ | refine hE pi_none_int ?_ | refine hE pi_none_tuple ?_ | refine hE pi_bool_str ?_ | refine hE pi_bool_tuple ?_ | refine hE pi_int_str ?_ | refine hE pi_int_tuple ?_ | refine hE pi_lst_list ?_ | refine hE pi_lst_str ?_ | refine hE pi_lst_tuple ?_ | refine hE pm_add ?_ | refine hE pm_sub ?_ | refine hE pm_pow9 ?_ | refine hE pm_lt ?_ | refine hE pm_le ?_ | refine hE pm_gt ?_ | refine hE pm_ge ?_ | refine hE pm_neg ?_ | refine hE pm_lenl ?_ | refine hE pm_lens ?_ | refine hE pm_lent ?_ | refine hE pm_intb ?_ | refine hE (pm_mod (by first | decide | omega | (simp only [List.length_cons, List.length_nil, List.length_map]; omega))) ?_ | refine hE (pm_mkl (by first | decide | omega | (simp only [List.length_cons, List.length_nil, List.length_map, sizeOf']; omega))) ?_ | refine hE (pM_mkl (by first | decide | omega | (simp only [List.length_cons, List.length_nil, List.length_map, sizeOf']; omega))) ?_ | refine hE (pm_mkt (by first | decide | omega | (simp only [List.length_cons, List.length_nil, List.length_map, sizeOf']; omega))) ?_ | refine hE (pm_range1 (by first | decide | omega | (simp only [List.length_cons, List.length_nil, List.length_map]; omega))) ?_ | refine hE (pm_fdiv (by first | decide | omega | (simp only [List.length_cons, List.length_nil, List.length_map]; omega)) (by first | decide | omega | (simp only [List.length_cons, List.length_nil, List.length_map]; omega))) ?_ | refine hc_le ?_ | refine hE (pm_mul (by first | decide | omega | (simp only [List.length_cons, List.length_nil, List.length_map]; omega)) (by first | decide | omega | (simp only [List.length_cons, List.length_nil, List.length_map]; omega))) ?_ | refine hE (pm_eq rd_int rd_int) ?_))
        refine hE pm_t1 ?_
        (repeat (with_reducible first | refine hB ?_ | refine it_t ?_ | refine it_f ?_ | refine hE pm_not_t ?_ | refine hE pm_not_f ?_ | refine hE pm_not ?_ | refine hE pi_int_int ?_ | refine hE pi_int_bool ?_ | refine hE pi_bool_bool ?_ | refine hE pi_bool_int ?_ | refine hE pi_str_int ?_ | refine hE pi_str_str ?_ | refine hE pi_str_tuple ?_ | refine hE pi_tup_tuple ?_ | refine hE pi_tup_str ?_ | refine hE pi_none_str ?_ | refine hE pi_none_int ?_ | refine hE pi_none_tuple ?_ | refine hE pi_bool_str ?_ | refine hE pi_bool_tuple ?_ | refine hE pi_int_str ?_ | refine hE pi_int_tuple ?_ | refine hE pi_lst_list ?_ | refine hE pi_lst_str ?_ | refine hE pi_lst_tuple ?_ | refine hE pm_add ?_ | refine hE pm_sub ?_ | refine hE pm_pow9 ?_ | refine hE pm_lt ?_ | refine hE pm_le ?_ | refine hE pm_gt ?_ | refine hE pm_ge ?_ | refine hE pm_neg ?_ | refine hE pm_lenl ?_ | refine hE pm_lens ?_ | refine hE pm_lent ?_ | refine hE pm_intb ?_ | refine hE (pm_mod (by first | decide | omega | (simp only [List.length_cons, List.length_nil, List.length_map]; omega))) ?_ | refine hE (pm_mkl (by first | decide | omega | (simp only [List.length_cons, List.length_nil, List.length_map, sizeOf']; omega))) ?_ | refine hE (pM_mkl (by first | decide | omega | (simp only [List.length_cons, List.length_nil, List.length_map, sizeOf']; omega))) ?_ | refine hE (pm_mkt (by first | decide | omega | (simp only [List.length_cons, List.length_nil, List.length_map, sizeOf']; omega))) ?_ | refine hE (pm_range1 (by first | decide | omega | (simp only [List.length_cons, List.length_nil, List.length_map]; omega))) ?_ | refine hE (pm_fdiv (by first | decide | omega | (simp only [List.length_cons, List.length_nil, List.length_map]; omega)) (by first | decide | omega | (simp only [List.length_cons, List.length_nil, List.length_map]; omega))) ?_ | refine hc_le ?_ | refine hE (pm_mul (by first | decide | omega | (simp only [List.length_cons, List.length_nil, List.length_map]; omega)) (by first | decide | omega | (simp only [List.length_cons, List.length_nil, List.length_map]; omega))) ?_ | refine hE (pm_eq rd_int rd_int) ?_))
        refine st_nil (st_ite ?_)
        simp only [wpE_prim, wpEs_cons, wpEs_nil, wpE_var, wpE_cst, wpE_and, wpE_or, wpE_call, wpE_mcall, List.map_cons, List.map_nil, List.cons_append, List.nil_append, List.replicate_zero, List.replicate_succ, List.getElem?_cons_zero, List.getElem?_cons_succ, List.set_cons_zero, List.set_cons_succ, List.length_cons, List.length_nil, Nat.reduceAdd, Nat.reduceLT, true_and, wpE_cmp2]
        refine hE pm_lent (hE pm_gt (hB (it_t (hE pm_t2 (f10 ?_)))))
        (repeat (with_reducible first | refine hB ?_ | refine it_t ?_ | refine it_f ?_ | refine hE pm_not_t ?_ | refine hE pm_not_f ?_ | refine hE pm_not ?_ | refine hE pi_int_int ?_ | refine hE pi_int_bool ?_ | refine hE pi_bool_bool ?_ | refine hE pi_bool_int ?_ | refine hE pi_str_int ?_ | refine hE pi_str_str ?_ | refine hE pi_str_tuple ?_ | refine hE pi_tup_tuple ?_ | refine hE pi_tup_str ?_ | refine hE pi_none_str ?_ | refine hE pi_none_int ?_ | refine hE pi_none_tuple ?_ | refine hE pi_bool_str ?_ | refine hE pi_bool_tuple ?_ | refine hE pi_int_str ?_ | refine hE pi_int_tuple ?_ | refine hE pi_lst_list ?_ | refine hE pi_lst_str ?_ | refine hE pi_lst_tuple ?_ | refine hE pm_add ?_ | refine hE pm_sub ?_ | refine hE pm_pow9 ?_ | refine hE pm_lt ?_ | refine hE pm_le ?_ | refine hE pm_gt ?_ | refine hE pm_ge ?_ | refine hE pm_neg ?_ | refine hE pm_lenl ?_ | refine hE pm_lens ?_ | refine hE pm_lent ?_ | refine hE pm_intb ?_ | refine hE (pm_mod (by first | decide | omega | (simp only [List.length_cons, List.length_nil, List.length_map]; omega))) ?_ | refine hE (pm_mkl (by first | decide | omega | (simp only [List.length_cons, List.length_nil, List.length_map, sizeOf']; omega))) ?_ | refine hE (pM_mkl (by first | decide | omega | (simp only [List.length_cons, List.length_nil, List.length_map, sizeOf']; omega))) ?_ | refine hE (pm_mkt (by first | decide | omega | (simp only [List.length_cons, List.length_nil, List.length_map, sizeOf']; omega))) ?_ | refine hE (pm_range1 (by first | decide | omega | (simp only [List.length_cons, List.length_nil, List.length_map]; omega))) ?_ | refine hE (pm_fdiv (by first | decide | omega | (simp only [List.length_cons, List.length_nil, List.length_map]; omega)) (by first | decide | omega | (simp only [List.length_cons, List.length_nil, List.length_map]; omega))) ?_ | refine hc_le ?_ | refine hE (pm_mul (by first | decide | omega | (simp only [List.length_cons, List.length_nil, List.length_map]; omega)) (by first | decide | omega | (simp only [List.length_cons, List.length_nil, List.length_map]; omega))) ?_ | refine hE (pm_eq rd_int rd_int) ?_))
        refine st_nil (st_ite ?_)
        simp only [wpE_prim, wpEs_cons, wpEs_nil, wpE_var, wpE_cst, wpE_and, wpE_or, wpE_call, wpE_mcall, List.map_cons, List.map_nil, List.cons_append, List.nil_append, List.replicate_zero, List.replicate_succ, List.getElem?_cons_zero, List.getElem?_cons_succ, List.set_cons_zero, List.set_cons_succ, List.length_cons, List.length_nil, Nat.reduceAdd, Nat.reduceLT, true_and, wpE_cmp2]
        exact hE pm_lent (hE pm_gt (hB (it_f (hB (it_f (st_nil (st_nil fin)))))))
      | sent nm k l =>
        refine hE pi_tup_tuple ?_
        (repeat (with_reducible first | refine hB ?_ | refine it_t ?_ | refine it_f ?_ | refine hE pm_not_t ?_ | refine hE pm_not_f ?_ | refine hE pm_not ?_ | refine hE pi_int_int ?_ | refine hE pi_int_bool ?_ | refine hE pi_bool_bool ?_ | refine hE pi_bool_int ?_ | refine hE pi_str_int ?_ | refine hE pi_str_str ?_ | refine hE pi_str_tuple ?_ | refine hE pi_tup_tuple ?_ | refine hE pi_tup_str ?_ | refine hE pi_none_str ?_ | refine hE pi_none_int ?_ | refine hE pi_none_tuple ?_ | refine hE pi_bool_str ?_ | refine hE pi_bool_tuple ?_ | refine hE pi_int_str ?_ | refine hE pi_int_tuple ?_ | refine hE pi_lst_list ?_ | refine hE pi_lst_str ?_ | refine hE pi_lst_tuple ?_ | refine hE pm_add ?_ | refine hE pm_sub ?_ | refine hE pm_pow9 ?_ | refine hE pm_lt ?_ | refine hE pm_le ?_ | refine hE pm_gt ?_ | refine hE pm_ge ?_ | refine hE pm_neg ?_ | refine hE pm_lenl ?_ | refine hE pm_lens ?_ | refine hE pm_lent ?_ | refine hE pm_intb ?_ | refine hE (pm_mod (by first | decide | omega | (simp only [List.length_cons, List.length_nil, List.length_map]; omega))) ?_ | refine hE (pm_mkl (by first | decide | omega | (simp only [List.length_cons, List.length_nil, List.length_map, sizeOf']; omega))) ?_ | refine hE (pM_mkl (by first | decide | omega | (simp only [List.length_cons, List.length_nil, List.length_map, sizeOf']; omega))) ?_ | refine hE (pm_mkt (by first | decide | omega | (simp only [List.length_cons, List.length_nil, List.length_map, sizeOf']; omega))) ?_ | refine hE (pm_range1 (by first | decide | omega | (simp only [List.length_cons, List.length_nil, List.length_map]; omega))) ?_ | refine hE (pm_fdiv (by first | decide | omega | (simp only [List.length_cons, List.length_nil, List.length_map]; omega)) (by first | decide | omega | (simp only [List.length_cons, List.length_nil, List.length_map]; omega))) ?_ | refine hc_le ?_ | refine hE (pm_mul (by first | decide | omega | (simp only [List.length_cons, List.length_nil, List.length_map]; omega)) (by first | decide | omega | (simp only [List.length_cons, List.length_nil, List.length_map]; omega))) ?_ | refine hE (pm_eq rd_int rd_int) ?_))
        refine it_f (hE pm_t0 ?_)
        (repeat (with_reducible first | refine hB ?_ | refine it_t ?_ | refine it_f ?_ | refine hE pm_not_t ?_ | refine hE pm_not_f ?_ | refine hE pm_not ?_ | refine hE pi_int_int ?_ | refine hE pi_int_bool ?_ | refine hE pi_bool_bool ?_ | refine hE pi_bool_int ?_ | refine hE pi_str_int ?_ | refine hE pi_str_str ?_ | refine hE pi_str_tuple ?_ | refine hE pi_tup_tuple ?_ | refine hE pi_tup_str ?_ | refine hE pi_none_str ?_ | refine hE pi_none_int ?_ | refine hE pi_none_tuple ?_ | refine hE pi_bool_str ?_ | refine hE pi_bool_tuple ?_ | refine hE pi_int_str ?_ | refine hE pi_int_tuple ?_ | refine hE pi_lst_list ?_ | refine hE pi_lst_str ?_ | refine hE pi_lst_tuple ?_ | refine hE pm_add ?_ | refine hE pm_sub ?_ | refine hE pm_pow9 ?_ | refine hE pm_lt ?_ | refine hE pm_le ?_ | refine hE pm_gt ?_ | refine hE pm_ge ?_ | refine hE pm_neg ?_ | refine hE pm_lenl ?_ | refine hE pm_lens ?_ | refine hE pm_lent ?_ | refine hE pm_intb ?_ | refine hE (pm_mod (by first | decide | omega | (simp only [List.length_cons, List.length_nil, List.length_map]; omega))) ?_ | refine hE (pm_mkl (by first | decide | omega | (simp only [List.length_cons, List.length_nil, List.length_map, sizeOf']; omega))) ?_ | refine hE (pM_mkl (by first | decide | omega | (simp only [List.length_cons, List.length_nil, List.length_map, sizeOf']; omega))) ?_ | refine hE (pm_mkt (by first | decide | omega | (simp only [List.length_cons, List.length_nil, List.length_map, sizeOf']; omega))) ?_ | refine hE (pm_range1 (by first | decide | omega | (simp only [List.length_cons, List.length_nil, List.length_map]; omega))) ?_ | refine hE (pm_fdiv (by first | decide | omega | (simp only [List.length_cons, List.length_nil, List.length_map]; omega)) (by first | decide | omega | (simp only [List.length_cons, List.length_nil, List.length_map]; omega))) ?_ | refine hc_le ?_ | refine hE (pm_mul (by first | decide | omega | (simp only [List.length_cons, List.length_nil, List.length_map]; omega)) (by first | decide | omega | (simp only [List.length_cons, List.length_nil, List.length_map]; omega))) ?_ | refine hE (pm_eq rd_int rd_int) ?_))
        refine hE pm_t1 ?_
        (repeat (with_reducible first | refine hB ?_ | refine it_t ?_ | refine it_f ?_ | refine hE pm_not_t ?_ | refine hE pm_not_f ?_ | refine hE pm_not ?_ | refine hE pi_int_int ?_ | refine hE pi_int_bool ?_ | refine hE pi_bool_bool ?_ | refine hE pi_bool_int ?_ | refine hE pi_str_int ?_ | refine hE pi_str_str ?_ | refine hE pi_str_tuple ?_ | refine hE pi_tup_tuple ?_ | refine hE pi_tup_str ?_ | refine hE pi_none_str ?_ | refine hE pi_none_int ?_ | refine hE pi_none_tuple ?_ | refine hE pi_bool_str ?_ | refine hE pi_bool_tuple ?_ | refine hE pi_int_str ?_ | refine hE pi_int_tuple ?_ | refine hE pi_lst_list ?_ | refine hE pi_lst_str ?_ | refine hE pi_lst_tuple ?_ | refine hE pm_add ?_ | refine hE pm_sub ?_ | refine hE pm_pow9 ?_ | refine hE pm_lt ?_ | refine hE pm_le ?_ | refine hE pm_gt ?_ | refine hE pm_ge ?_ | refine hE pm_neg ?_ | refine hE pm_lenl ?_ | refine hE pm_lens ?_ | refine hE pm_lent ?_ | refine hE pm_intb ?_ | refine hE (pm_mod (by first | decide | omega | (simp only [List.length_cons, List.length_nil, List.length_map]; omega))) ?_ | refine hE (pm_mkl (by first | decide | omega | (simp only [List.length_cons, List.length_nil, List.length_map, sizeOf']; omega))) ?_ | refine hE (pM_mkl (by first | decide | omega | (simp only [List.length_cons, List.length_nil, List.length_map, sizeOf']; omega))) ?_ | refine hE (pm_mkt (by first | decide | omega | (simp only [List.length_cons, List.length_nil, List.length_map, sizeOf']; omega))) ?_ | refine hE (pm_range1 (by first | decide | omega | (simp only [List.length_cons, List.length_nil, List.length_map]; omega))) ?_ | refine hE (pm_fdiv (by first | decide | omega | (simp only [List.length_cons, List.length_nil, List.length_map]; omega)) (by first | decide | omega | (simp only [List.length_cons, List.length_nil, List.length_map]; omega))) ?_ | refine hc_le ?_ | refine hE (pm_mul (by first | decide | omega | (simp only [List.length_cons, List.length_nil, List.length_map]; omega)) (by first | decide | omega | (simp only [List.length_cons, List.length_nil, List.length_map]; omega))) ?_ | refine hE (pm_eq rd_int rd_int) ?_))
        refine st_nil (st_ite ?_)
        simp only [wpE_prim, wpEs_cons, wpEs_nil, wpE_var, wpE_cst, wpE_and, wpE_or, wpE_call, wpE_mcall, List.map_cons, List.map_nil, List.cons_append, List.nil_append, List.replicate_zero, List.replicate_succ, List.getElem?_cons_zero, List.getElem?_cons_succ, List.set_cons_zero, List.set_cons_succ, List.length_cons, List.length_nil, Nat.reduceAdd, Nat.reduceLT, true_and, wpE_cmp2]
        refine hE pm_lent (hE pm_gt (hB (it_t (hE pm_t2 (f10 ?_)))))
        (repeat (with_reducible first | refine hB ?_ | refine it_t ?_ | refine it_f ?_ | refine hE pm_not_t ?_ | refine hE pm_not_f ?_ | refine hE pm_not ?_ | refine hE pi_int_int ?_ | refine hE pi_int_bool ?_ | refine hE pi_bool_bool ?_ | refine hE pi_bool_int ?_ | refine hE pi_str_int ?_ | refine hE pi_str_str ?_ | refine hE pi_str_tuple ?_ | refine hE pi_tup_tuple ?_ | refine hE pi_tup_str ?_ | refine hE pi_none_str ?_ | refine hE pi_none_int ?_ | refine hE pi_none_tuple ?_ | refine hE pi_bool_str ?_ | refine hE pi_bool_tuple ?_ | refine hE pi_int_str ?_ | refine hE pi_int_tuple ?_ | refine hE pi_lst_list ?_ | refine hE pi_lst_str ?_ | refine hE pi_lst_tuple ?_ | refine hE pm_add ?_ | refine hE pm_sub ?_ | refine hE pm_pow9 ?_ | refine hE pm_lt ?_ | refine hE pm_le ?_ | refine hE pm_gt ?_ | refine hE pm_ge ?_ | refine hE pm_neg ?_ | refine hE pm_lenl ?_ | refine hE pm_lens ?_ | refine hE pm_lent ?_ | refine hE pm_intb ?_ | refine hE (pm_mod (by first | decide | omega | (simp only [List.length_cons, List.length_nil, List.length_map]; omega))) ?_ | refine hE (pm_mkl (by first | decide | omega | (simp only [List.length_cons, List.length_nil, List.length_map, sizeOf']; omega))) ?_ | refine hE (pM_mkl (by first | decide | omega | (simp only [List.length_cons, List.length_nil, List.length_map, sizeOf']; omega))) ?_ | refine hE (pm_mkt (by first | decide | omega | (simp only [List.length_cons, List.length_nil, List.length_map, sizeOf']; omega))) ?_ | refine hE (pm_range1 (by first | decide | omega | (simp only [List.length_cons, List.length_nil, List.length_map]; omega))) ?_ | refine hE (pm_fdiv (by first | decide | omega | (simp only [List.length_cons, List.length_nil, List.length_map]; omega)) (by first | decide | omega | (simp only [List.length_cons, List.length_nil, List.length_map]; omega))) ?_ | refine hc_le ?_ | refine hE (pm_mul (by first | decide | omega | (simp only [List.length_cons, List.length_nil, List.length_map]; omega)) (by first | decide | omega | (simp only [List.length_cons, List.length_nil, List.length_map]; omega))) ?_ | refine hE (pm_eq rd_int rd_int) ?_))
        refine st_nil (st_ite ?_)
        simp only [wpE_prim, wpEs_cons, wpEs_nil, wpE_var, wpE_cst, wpE_and, wpE_or, wpE_call, wpE_mcall, List.map_cons, List.map_nil, List.cons_append, List.nil_append, List.replicate_zero, List.replicate_succ, List.getElem?_cons_zero, List.getElem?_cons_succ, List.set_cons_zero, List.set_cons_succ, List.length_cons, List.length_nil, Nat.reduceAdd, Nat.reduceLT, true_and, wpE_cmp2]
        refine hE pm_lent (hE pm_gt (hB (it_t (hE pm_lent (hE pm_gt (hB (it_f (hE pm_t3 ?_))))))))
        (repeat (with_reducible first | refine hB ?_ | refine it_t ?_ | refine it_f ?_ | refine hE pm_not_t ?_ | refine hE pm_not_f ?_ | refine hE pm_not ?_ | refine hE pi_int_int ?_ | refine hE pi_int_bool ?_ | refine hE pi_bool_bool ?_ | refine hE pi_bool_int ?_ | refine hE pi_str_int ?_ | refine hE pi_str_str ?_ | refine hE pi_str_tuple ?_ | refine hE pi_tup_tuple ?_ | refine hE pi_tup_str ?_ | refine hE pi_none_str ?_ | refine hE pi_none_int ?_ | refine hE pi_none_tuple ?_ | refine hE pi_bool_str ?_ | refine hE pi_bool_tuple ?_ | refine hE pi_int_str ?_ | refine hE pi_int_tuple ?_ | refine hE pi_lst_list ?_ | refine hE pi_lst_str ?_ | refine hE pi_lst_tuple ?_ | refine hE pm_add ?_ | refine hE pm_sub ?_ | refine hE pm_pow9 ?_ | refine hE pm_lt ?_ | refine hE pm_le ?_ | refine hE pm_gt ?_ | refine hE pm_ge ?_ | refine hE pm_neg ?_ | refine hE pm_lenl ?_ | refine hE pm_lens ?_ | refine hE pm_lent ?_ | refine hE pm_intb ?_ | refine hE (pm_mod (by first | decide | omega | (simp only [List.length_cons, List.length_nil, List.length_map]; omega))) ?_ | refine hE (pm_mkl (by first | decide | omega | (simp only [List.length_cons, List.length_nil, List.length_map, sizeOf']; omega))) ?_ | refine hE (pM_mkl (by first | decide | omega | (simp only [List.length_cons, List.length_nil, List.length_map, sizeOf']; omega))) ?_ | refine hE (pm_mkt (by first | decide | omega | (simp only [List.length_cons, List.length_nil, List.length_map, sizeOf']; omega))) ?_ | refine hE (pm_range1 (by first | decide | omega | (simp only [List.length_cons, List.length_nil, List.length_map]; omega))) ?_ | refine hE (pm_fdiv (by first | decide | omega | (simp only [List.length_cons, List.length_nil, List.length_map]; omega)) (by first | decide | omega | (simp only [List.length_cons, List.length_nil, List.length_map]; omega))) ?_ | refine hc_le ?_ | refine hE (pm_mul (by first | decide | omega | (simp only [List.length_cons, List.length_nil, List.length_map]; omega)) (by first | decide | omega | (simp only [List.length_cons, List.length_nil, List.length_map]; omega))) ?_ | refine hE (pm_eq rd_int rd_int) ?_))
        exact st_nil (st_nil fin)
  · rintro ρ H' ⟨_, ⟨a, rfl⟩, rfl⟩
    exact ⟨hs, st_ret (show Ret H' Q (.bool true) H' from ret_same q)⟩

theorem rd_evs {H : AH} (es : List Ev) : rd H (.lst (es.map Ev.v)) = some (.lst (es.map Ev.v)) := by
  obtain ⟨h1, h2⟩ := evs_data es
  show (if (V.datas (es.map Ev.v) && decide (V.depths (es.map Ev.v) + 1 ≤ 50)) = true then some (V.lst (es.map Ev.v)) else none) = _
  rw [if_pos]
  rw [h1, Bool.true_and]
  exact decide_eq_true (by omega)
theorem rd_evr {H : AH} {i : Nat} {es : List Ev} (h : H[i]? = some (.list (es.map Ev.v))) : rd H (.ref i) = some (.lst (es.map Ev.v)) := by
  obtain ⟨h1, h2⟩ := evs_data es
  simp only [rd, view, h]
  rw [if_pos]
  rw [h1, Bool.true_and]
  exact decide_eq_true (by omega)
theorem eq_evs (es : List Ev) : eqV (.lst (es.map Ev.v)) (.lst (es.map Ev.v)) = true := eqVs_self _ (evs_data es).1
theorem eq_txt (s : List Char) : eqV (.str s) (.str s) = true := beq_self_eq_true s

noncomputable def endsA : Ev := .two ['e', 'n', 'd', 's'] ['a']
theorem endsA_ok : endsA.ok := ⟨by decide, ⟨by decide, by decide, by decide⟩⟩
noncomputable def failsB : Ev := .two ['f', 'a', 'i', 'l', 's'] ['b']

theorem law10 {n : Nat} {zs : List Int} {X : XE} : callF PL (n + 6) 17 [.lst (zs.map V.int)] [] (fun v _ => v = .bool true) X := by
  rw [callF_succ, P_fn17]
  refine ⟨rfl, st_asg ?_⟩
  simp only [show fn17.extra = 5 from rfl, wpE_prim, wpEs_cons, wpEs_nil, wpE_var, wpE_cst, wpE_and, wpE_or, wpE_call, wpE_mcall, List.map_cons, List.map_nil, List.cons_append, List.nil_append, List.replicate_zero, List.replicate_succ, List.getElem?_cons_zero, List.getElem?_cons_succ, List.set_cons_zero, List.set_cons_succ, List.length_cons, List.length_nil, Nat.reduceAdd, Nat.reduceLT, true_and, wpE_cmp2]
  refine f16 fun es hl ho => st_asg ?_
  have hsz : 50 * 1000 + 10 ≤ sizeOf' := by decide
  have htl := text_len ho
  simp only [wpE_prim, wpEs_cons, wpEs_nil, wpE_var, wpE_cst, wpE_and, wpE_or, wpE_call, wpE_mcall, List.map_cons, List.map_nil, List.cons_append, List.nil_append, List.replicate_zero, List.replicate_succ, List.getElem?_cons_zero, List.getElem?_cons_succ, List.set_cons_zero, List.set_cons_succ, List.length_cons, List.length_nil, Nat.reduceAdd, Nat.reduceLT, true_and, wpE_cmp2]
  refine hE (pM_listl (by rw [List.length_map]; omega)) (st_asg ?_)
  simp only [List.nil_append, List.length_nil]
  simp only [wpE_prim, wpEs_cons, wpEs_nil, wpE_var, wpE_cst, wpE_and, wpE_or, wpE_call, wpE_mcall, List.map_cons, List.map_nil, List.cons_append, List.nil_append, List.replicate_zero, List.replicate_succ, List.getElem?_cons_zero, List.getElem?_cons_succ, List.set_cons_zero, List.set_cons_succ, List.length_cons, List.length_nil, Nat.reduceAdd, Nat.reduceLT, true_and, wpE_cmp2]
  refine ⟨rfl, ?_⟩
  rw [wpE_comp]
  simp only [wpE_prim, wpEs_cons, wpEs_nil, wpE_var, wpE_cst, wpE_and, wpE_or, wpE_call, wpE_mcall, List.map_cons, List.map_nil, List.cons_append, List.nil_append, List.replicate_zero, List.replicate_succ, List.getElem?_cons_zero, List.getElem?_cons_succ, List.set_cons_zero, List.set_cons_succ, List.length_cons, List.length_nil, Nat.reduceAdd, Nat.reduceLT, true_and, wpE_cmp2]
  refine ⟨es.map Ev.v, rfl, by rw [List.length_map]; omega, ?_⟩
  have main : ∀ (es' : List Ev) (acc : List V) (K : List V → AH → Prop), (∀ e ∈ es', e.ok) → K (acc ++ (es'.map fun e => line e ++ ['\n']).map V.str) [.list (es.map Ev.v)] →
      compL (fun x H' K => callF PL (n + 5) 15 [x] H' (fun v H' => okE (primM PL false (.bop .add) [v, .str ['\n']] H') fun y H'' => K (some y) H'') (RetX [] X)) (fun H' => src H' (.lst (es.map Ev.v)) = some (es.map Ev.v)) (es'.map Ev.v) acc [.list (es.map Ev.v)] K := by
    intro es'
    induction es' with
    | nil => intro acc K _ h; exact ⟨rfl, by simpa using h⟩
    | cons e es' ih =>
      intro acc K ho h
      have hll := line_len (ho e (.head _))
      refine ⟨rfl, f15 (ho e (.head _)) (hE (pm_adds (by simp only [List.length_cons, List.length_nil]; exact sz _ (by omega))) (ih _ _ (fun x hx => ho x (.tail _ hx)) ?_))⟩
      simpa using h
  refine main es [] _ ho ?_
  rw [List.nil_append]
  refine hE rfl (hE (pm_join (ss := es.map fun e => line e ++ ['\n']) rfl ?_ (by rw [List.length_map]; omega)) (st_asg ?_))
  · rw [join_nil]; change (text es).length ≤ _; omega
  rw [join_nil, show (es.map fun e => line e ++ ['\n']).flatten = text es from rfl]
  simp only [wpE_prim, wpEs_cons, wpEs_nil, wpE_var, wpE_cst, wpE_and, wpE_or, wpE_call, wpE_mcall, List.map_cons, List.map_nil, List.cons_append, List.nil_append, List.replicate_zero, List.replicate_succ, List.getElem?_cons_zero, List.getElem?_cons_succ, List.set_cons_zero, List.set_cons_succ, List.length_cons, List.length_nil, Nat.reduceAdd, Nat.reduceLT, true_and, wpE_cmp2]
  refine f2 (es := es) rfl ho (by omega) (st_ite ?_)
  simp only [wpE_prim, wpEs_cons, wpEs_nil, wpE_var, wpE_cst, wpE_and, wpE_or, wpE_call, wpE_mcall, List.map_cons, List.map_nil, List.cons_append, List.nil_append, List.replicate_zero, List.replicate_succ, List.getElem?_cons_zero, List.getElem?_cons_succ, List.set_cons_zero, List.set_cons_succ, List.length_cons, List.length_nil, Nat.reduceAdd, Nat.reduceLT, true_and, wpE_cmp2]
  (repeat (with_reducible first | refine hB ?_ | refine it_t ?_ | refine it_f ?_ | refine hE pm_not_t ?_ | refine hE pm_not_f ?_ | refine hE pm_not ?_ | refine hE pi_int_int ?_ | refine hE pi_int_bool ?_ | refine hE pi_bool_bool ?_ | refine hE pi_bool_int ?_ | refine hE pi_str_int ?_ | refine hE pi_str_str ?_ | refine hE pi_str_tuple ?_ | refine hE pi_tup_tuple ?_ | refine hE pi_tup_str ?_ | refine hE pi_none_str ?_ | refine hE pi_none_int ?_ | refine hE pi_none_tuple ?_ | refine hE pi_bool_str ?_ | refine hE pi_bool_tuple ?_ | refine hE pi_int_str ?_ | refine hE pi_int_tuple ?_ | refine hE pi_lst_list ?_ | refine hE pi_lst_str ?_ | refine hE pi_lst_tuple ?_ | refine hE pm_add ?_ | refine hE pm_sub ?_ | refine hE pm_pow9 ?_ | refine hE pm_lt ?_ | refine hE pm_le ?_ | refine hE pm_gt ?_ | refine hE pm_ge ?_ | refine hE pm_neg ?_ | refine hE pm_lenl ?_ | refine hE pm_lens ?_ | refine hE pm_lent ?_ | refine hE pm_intb ?_ | refine hE (pm_mod (by first | decide | omega | (simp only [List.length_cons, List.length_nil, List.length_map]; omega))) ?_ | refine hE (pm_mkl (by first | decide | omega | (simp only [List.length_cons, List.length_nil, List.length_map, sizeOf']; omega))) ?_ | refine hE (pM_mkl (by first | decide | omega | (simp only [List.length_cons, List.length_nil, List.length_map, sizeOf']; omega))) ?_ | refine hE (pm_mkt (by first | decide | omega | (simp only [List.length_cons, List.length_nil, List.length_map, sizeOf']; omega))) ?_ | refine hE (pm_range1 (by first | decide | omega | (simp only [List.length_cons, List.length_nil, List.length_map]; omega))) ?_ | refine hE (pm_fdiv (by first | decide | omega | (simp only [List.length_cons, List.length_nil, List.length_map]; omega)) (by first | decide | omega | (simp only [List.length_cons, List.length_nil, List.length_map]; omega))) ?_ | refine hc_le ?_ | refine hE (pm_mul (by first | decide | omega | (simp only [List.length_cons, List.length_nil, List.length_map]; omega)) (by first | decide | omega | (simp only [List.length_cons, List.length_nil, List.length_map]; omega))) ?_ | refine hE (pm_eq rd_int rd_int) ?_))
  refine hE (pm_ne rd_str rd_str) ?_
  rw [eq_txt, Bool.not_true]
  (repeat (with_reducible first | refine hB ?_ | refine it_t ?_ | refine it_f ?_ | refine hE pm_not_t ?_ | refine hE pm_not_f ?_ | refine hE pm_not ?_ | refine hE pi_int_int ?_ | refine hE pi_int_bool ?_ | refine hE pi_bool_bool ?_ | refine hE pi_bool_int ?_ | refine hE pi_str_int ?_ | refine hE pi_str_str ?_ | refine hE pi_str_tuple ?_ | refine hE pi_tup_tuple ?_ | refine hE pi_tup_str ?_ | refine hE pi_none_str ?_ | refine hE pi_none_int ?_ | refine hE pi_none_tuple ?_ | refine hE pi_bool_str ?_ | refine hE pi_bool_tuple ?_ | refine hE pi_int_str ?_ | refine hE pi_int_tuple ?_ | refine hE pi_lst_list ?_ | refine hE pi_lst_str ?_ | refine hE pi_lst_tuple ?_ | refine hE pm_add ?_ | refine hE pm_sub ?_ | refine hE pm_pow9 ?_ | refine hE pm_lt ?_ | refine hE pm_le ?_ | refine hE pm_gt ?_ | refine hE pm_ge ?_ | refine hE pm_neg ?_ | refine hE pm_lenl ?_ | refine hE pm_lens ?_ | refine hE pm_lent ?_ | refine hE pm_intb ?_ | refine hE (pm_mod (by first | decide | omega | (simp only [List.length_cons, List.length_nil, List.length_map]; omega))) ?_ | refine hE (pm_mkl (by first | decide | omega | (simp only [List.length_cons, List.length_nil, List.length_map, sizeOf']; omega))) ?_ | refine hE (pM_mkl (by first | decide | omega | (simp only [List.length_cons, List.length_nil, List.length_map, sizeOf']; omega))) ?_ | refine hE (pm_mkt (by first | decide | omega | (simp only [List.length_cons, List.length_nil, List.length_map, sizeOf']; omega))) ?_ | refine hE (pm_range1 (by first | decide | omega | (simp only [List.length_cons, List.length_nil, List.length_map]; omega))) ?_ | refine hE (pm_fdiv (by first | decide | omega | (simp only [List.length_cons, List.length_nil, List.length_map]; omega)) (by first | decide | omega | (simp only [List.length_cons, List.length_nil, List.length_map]; omega))) ?_ | refine hc_le ?_ | refine hE (pm_mul (by first | decide | omega | (simp only [List.length_cons, List.length_nil, List.length_map]; omega)) (by first | decide | omega | (simp only [List.length_cons, List.length_nil, List.length_map]; omega))) ?_ | refine hE (pm_eq rd_int rd_int) ?_))
  refine hE (pm_ne (rd_evr rfl) (rd_evs es)) ?_
  rw [eq_evs, Bool.not_true]
  (repeat (with_reducible first | refine hB ?_ | refine it_t ?_ | refine it_f ?_ | refine hE pm_not_t ?_ | refine hE pm_not_f ?_ | refine hE pm_not ?_ | refine hE pi_int_int ?_ | refine hE pi_int_bool ?_ | refine hE pi_bool_bool ?_ | refine hE pi_bool_int ?_ | refine hE pi_str_int ?_ | refine hE pi_str_str ?_ | refine hE pi_str_tuple ?_ | refine hE pi_tup_tuple ?_ | refine hE pi_tup_str ?_ | refine hE pi_none_str ?_ | refine hE pi_none_int ?_ | refine hE pi_none_tuple ?_ | refine hE pi_bool_str ?_ | refine hE pi_bool_tuple ?_ | refine hE pi_int_str ?_ | refine hE pi_int_tuple ?_ | refine hE pi_lst_list ?_ | refine hE pi_lst_str ?_ | refine hE pi_lst_tuple ?_ | refine hE pm_add ?_ | refine hE pm_sub ?_ | refine hE pm_pow9 ?_ | refine hE pm_lt ?_ | refine hE pm_le ?_ | refine hE pm_gt ?_ | refine hE pm_ge ?_ | refine hE pm_neg ?_ | refine hE pm_lenl ?_ | refine hE pm_lens ?_ | refine hE pm_lent ?_ | refine hE pm_intb ?_ | refine hE (pm_mod (by first | decide | omega | (simp only [List.length_cons, List.length_nil, List.length_map]; omega))) ?_ | refine hE (pm_mkl (by first | decide | omega | (simp only [List.length_cons, List.length_nil, List.length_map, sizeOf']; omega))) ?_ | refine hE (pM_mkl (by first | decide | omega | (simp only [List.length_cons, List.length_nil, List.length_map, sizeOf']; omega))) ?_ | refine hE (pm_mkt (by first | decide | omega | (simp only [List.length_cons, List.length_nil, List.length_map, sizeOf']; omega))) ?_ | refine hE (pm_range1 (by first | decide | omega | (simp only [List.length_cons, List.length_nil, List.length_map]; omega))) ?_ | refine hE (pm_fdiv (by first | decide | omega | (simp only [List.length_cons, List.length_nil, List.length_map]; omega)) (by first | decide | omega | (simp only [List.length_cons, List.length_nil, List.length_map]; omega))) ?_ | refine hc_le ?_ | refine hE (pm_mul (by first | decide | omega | (simp only [List.length_cons, List.length_nil, List.length_map]; omega)) (by first | decide | omega | (simp only [List.length_cons, List.length_nil, List.length_map]; omega))) ?_ | refine hE (pm_eq rd_int rd_int) ?_))
  refine st_nil (st_asg ?_)
  simp only [wpE_prim, wpEs_cons, wpEs_nil, wpE_var, wpE_cst, wpE_and, wpE_or, wpE_call, wpE_mcall, List.map_cons, List.map_nil, List.cons_append, List.nil_append, List.replicate_zero, List.replicate_succ, List.getElem?_cons_zero, List.getElem?_cons_succ, List.set_cons_zero, List.set_cons_succ, List.length_cons, List.length_nil, Nat.reduceAdd, Nat.reduceLT, true_and, wpE_cmp2]
  refine f8m ho (by omega) (st_ite ?_)
  simp only [List.length_cons, List.length_nil, List.cons_append, List.nil_append]
  simp only [wpE_prim, wpEs_cons, wpEs_nil, wpE_var, wpE_cst, wpE_and, wpE_or, wpE_call, wpE_mcall, List.map_cons, List.map_nil, List.cons_append, List.nil_append, List.replicate_zero, List.replicate_succ, List.getElem?_cons_zero, List.getElem?_cons_succ, List.set_cons_zero, List.set_cons_succ, List.length_cons, List.length_nil, Nat.reduceAdd, Nat.reduceLT, true_and, wpE_cmp2]
  refine f13 (es := es) rfl (by omega) ?_
  (repeat (with_reducible first | refine hB ?_ | refine it_t ?_ | refine it_f ?_ | refine hE pm_not_t ?_ | refine hE pm_not_f ?_ | refine hE pm_not ?_ | refine hE pi_int_int ?_ | refine hE pi_int_bool ?_ | refine hE pi_bool_bool ?_ | refine hE pi_bool_int ?_ | refine hE pi_str_int ?_ | refine hE pi_str_str ?_ | refine hE pi_str_tuple ?_ | refine hE pi_tup_tuple ?_ | refine hE pi_tup_str ?_ | refine hE pi_none_str ?_ | refine hE pi_none_int ?_ | refine hE pi_none_tuple ?_ | refine hE pi_bool_str ?_ | refine hE pi_bool_tuple ?_ | refine hE pi_int_str ?_ | refine hE pi_int_tuple ?_ | refine hE pi_lst_list ?_ | refine hE pi_lst_str ?_ | refine hE pi_lst_tuple ?_ | refine hE pm_add ?_ | refine hE pm_sub ?_ | refine hE pm_pow9 ?_ | refine hE pm_lt ?_ | refine hE pm_le ?_ | refine hE pm_gt ?_ | refine hE pm_ge ?_ | refine hE pm_neg ?_ | refine hE pm_lenl ?_ | refine hE pm_lens ?_ | refine hE pm_lent ?_ | refine hE pm_intb ?_ | refine hE (pm_mod (by first | decide | omega | (simp only [List.length_cons, List.length_nil, List.length_map]; omega))) ?_ | refine hE (pm_mkl (by first | decide | omega | (simp only [List.length_cons, List.length_nil, List.length_map, sizeOf']; omega))) ?_ | refine hE (pM_mkl (by first | decide | omega | (simp only [List.length_cons, List.length_nil, List.length_map, sizeOf']; omega))) ?_ | refine hE (pm_mkt (by first | decide | omega | (simp only [List.length_cons, List.length_nil, List.length_map, sizeOf']; omega))) ?_ | refine hE (pm_range1 (by first | decide | omega | (simp only [List.length_cons, List.length_nil, List.length_map]; omega))) ?_ | refine hE (pm_fdiv (by first | decide | omega | (simp only [List.length_cons, List.length_nil, List.length_map]; omega)) (by first | decide | omega | (simp only [List.length_cons, List.length_nil, List.length_map]; omega))) ?_ | refine hc_le ?_ | refine hE (pm_mul (by first | decide | omega | (simp only [List.length_cons, List.length_nil, List.length_map]; omega)) (by first | decide | omega | (simp only [List.length_cons, List.length_nil, List.length_map]; omega))) ?_ | refine hE (pm_eq rd_int rd_int) ?_))
  refine hE (pm_ne (rd_evr rfl) (rd_evs es)) ?_
  rw [eq_evs, Bool.not_true]
  (repeat (with_reducible first | refine hB ?_ | refine it_t ?_ | refine it_f ?_ | refine hE pm_not_t ?_ | refine hE pm_not_f ?_ | refine hE pm_not ?_ | refine hE pi_int_int ?_ | refine hE pi_int_bool ?_ | refine hE pi_bool_bool ?_ | refine hE pi_bool_int ?_ | refine hE pi_str_int ?_ | refine hE pi_str_str ?_ | refine hE pi_str_tuple ?_ | refine hE pi_tup_tuple ?_ | refine hE pi_tup_str ?_ | refine hE pi_none_str ?_ | refine hE pi_none_int ?_ | refine hE pi_none_tuple ?_ | refine hE pi_bool_str ?_ | refine hE pi_bool_tuple ?_ | refine hE pi_int_str ?_ | refine hE pi_int_tuple ?_ | refine hE pi_lst_list ?_ | refine hE pi_lst_str ?_ | refine hE pi_lst_tuple ?_ | refine hE pm_add ?_ | refine hE pm_sub ?_ | refine hE pm_pow9 ?_ | refine hE pm_lt ?_ | refine hE pm_le ?_ | refine hE pm_gt ?_ | refine hE pm_ge ?_ | refine hE pm_neg ?_ | refine hE pm_lenl ?_ | refine hE pm_lens ?_ | refine hE pm_lent ?_ | refine hE pm_intb ?_ | refine hE (pm_mod (by first | decide | omega | (simp only [List.length_cons, List.length_nil, List.length_map]; omega))) ?_ | refine hE (pm_mkl (by first | decide | omega | (simp only [List.length_cons, List.length_nil, List.length_map, sizeOf']; omega))) ?_ | refine hE (pM_mkl (by first | decide | omega | (simp only [List.length_cons, List.length_nil, List.length_map, sizeOf']; omega))) ?_ | refine hE (pm_mkt (by first | decide | omega | (simp only [List.length_cons, List.length_nil, List.length_map, sizeOf']; omega))) ?_ | refine hE (pm_range1 (by first | decide | omega | (simp only [List.length_cons, List.length_nil, List.length_map]; omega))) ?_ | refine hE (pm_fdiv (by first | decide | omega | (simp only [List.length_cons, List.length_nil, List.length_map]; omega)) (by first | decide | omega | (simp only [List.length_cons, List.length_nil, List.length_map]; omega))) ?_ | refine hc_le ?_ | refine hE (pm_mul (by first | decide | omega | (simp only [List.length_cons, List.length_nil, List.length_map]; omega)) (by first | decide | omega | (simp only [List.length_cons, List.length_nil, List.length_map]; omega))) ?_ | refine hE (pm_eq rd_int rd_int) ?_))
  refine st_nil (st_expr ?_)
  simp only [wpE_prim, wpEs_cons, wpEs_nil, wpE_var, wpE_cst, wpE_and, wpE_or, wpE_call, wpE_mcall, List.map_cons, List.map_nil, List.cons_append, List.nil_append, List.replicate_zero, List.replicate_succ, List.getElem?_cons_zero, List.getElem?_cons_succ, List.set_cons_zero, List.set_cons_succ, List.length_cons, List.length_nil, Nat.reduceAdd, Nat.reduceLT, true_and, wpE_cmp2]
  refine ⟨rfl, ?_⟩
  (repeat (with_reducible first | refine hB ?_ | refine it_t ?_ | refine it_f ?_ | refine hE pm_not_t ?_ | refine hE pm_not_f ?_ | refine hE pm_not ?_ | refine hE pi_int_int ?_ | refine hE pi_int_bool ?_ | refine hE pi_bool_bool ?_ | refine hE pi_bool_int ?_ | refine hE pi_str_int ?_ | refine hE pi_str_str ?_ | refine hE pi_str_tuple ?_ | refine hE pi_tup_tuple ?_ | refine hE pi_tup_str ?_ | refine hE pi_none_str ?_ | refine hE pi_none_int ?_ | refine hE pi_none_tuple ?_ | refine hE pi_bool_str ?_ | refine hE pi_bool_tuple ?_ | refine hE pi_int_str ?_ | refine hE pi_int_tuple ?_ | refine hE pi_lst_list ?_ | refine hE pi_lst_str ?_ | refine hE pi_lst_tuple ?_ | refine hE pm_add ?_ | refine hE pm_sub ?_ | refine hE pm_pow9 ?_ | refine hE pm_lt ?_ | refine hE pm_le ?_ | refine hE pm_gt ?_ | refine hE pm_ge ?_ | refine hE pm_neg ?_ | refine hE pm_lenl ?_ | refine hE pm_lens ?_ | refine hE pm_lent ?_ | refine hE pm_intb ?_ | refine hE (pm_mod (by first | decide | omega | (simp only [List.length_cons, List.length_nil, List.length_map]; omega))) ?_ | refine hE (pm_mkl (by first | decide | omega | (simp only [List.length_cons, List.length_nil, List.length_map, sizeOf']; omega))) ?_ | refine hE (pM_mkl (by first | decide | omega | (simp only [List.length_cons, List.length_nil, List.length_map, sizeOf']; omega))) ?_ | refine hE (pm_mkt (by first | decide | omega | (simp only [List.length_cons, List.length_nil, List.length_map, sizeOf']; omega))) ?_ | refine hE (pm_range1 (by first | decide | omega | (simp only [List.length_cons, List.length_nil, List.length_map]; omega))) ?_ | refine hE (pm_fdiv (by first | decide | omega | (simp only [List.length_cons, List.length_nil, List.length_map]; omega)) (by first | decide | omega | (simp only [List.length_cons, List.length_nil, List.length_map]; omega))) ?_ | refine hc_le ?_ | refine hE (pm_mul (by first | decide | omega | (simp only [List.length_cons, List.length_nil, List.length_map]; omega)) (by first | decide | omega | (simp only [List.length_cons, List.length_nil, List.length_map]; omega))) ?_ | refine hE (pm_eq rd_int rd_int) ?_))
  refine hE (pm_append (vs := es.map Ev.v) rfl (by rw [List.length_map]; omega)) (st_ite ?_)
  simp only [List.set_cons_zero]
  have hap : es.map Ev.v ++ [V.tup [.str ['e', 'n', 'd', 's'], .str ['a']]] = (es ++ [endsA]).map Ev.v := by rw [List.map_append]; rfl
  rw [hap]
  have ho2 : ∀ e ∈ es ++ [endsA], e.ok := fun e he => by
    rcases List.mem_append.mp he with h | h
    · exact ho e h
    · cases h with
      | head => exact endsA_ok
      | tail _ h => cases h
  simp only [wpE_prim, wpEs_cons, wpEs_nil, wpE_var, wpE_cst, wpE_and, wpE_or, wpE_call, wpE_mcall, List.map_cons, List.map_nil, List.cons_append, List.nil_append, List.replicate_zero, List.replicate_succ, List.getElem?_cons_zero, List.getElem?_cons_succ, List.set_cons_zero, List.set_cons_succ, List.length_cons, List.length_nil, Nat.reduceAdd, Nat.reduceLT, true_and, wpE_cmp2]
  refine f2 (es := es ++ [endsA]) rfl ho2 (by rw [List.length_append, List.length_singleton]; omega) ?_
  refine hE (pm_adds (by simp only [List.length_cons, List.length_nil]; omega)) ?_
  refine hE (pm_ne rd_str rd_str) ?_
  have htx : text (es ++ [endsA]) = text es ++ ['e', 'n', 'd', 's', ' ', 'a', '\n'] := text_snoc es endsA
  rw [htx, eq_txt, Bool.not_true]
  (repeat (with_reducible first | refine hB ?_ | refine it_t ?_ | refine it_f ?_ | refine hE pm_not_t ?_ | refine hE pm_not_f ?_ | refine hE pm_not ?_ | refine hE pi_int_int ?_ | refine hE pi_int_bool ?_ | refine hE pi_bool_bool ?_ | refine hE pi_bool_int ?_ | refine hE pi_str_int ?_ | refine hE pi_str_str ?_ | refine hE pi_str_tuple ?_ | refine hE pi_tup_tuple ?_ | refine hE pi_tup_str ?_ | refine hE pi_none_str ?_ | refine hE pi_none_int ?_ | refine hE pi_none_tuple ?_ | refine hE pi_bool_str ?_ | refine hE pi_bool_tuple ?_ | refine hE pi_int_str ?_ | refine hE pi_int_tuple ?_ | refine hE pi_lst_list ?_ | refine hE pi_lst_str ?_ | refine hE pi_lst_tuple ?_ | refine hE pm_add ?_ | refine hE pm_sub ?_ | refine hE pm_pow9 ?_ | refine hE pm_lt ?_ | refine hE pm_le ?_ | refine hE pm_gt ?_ | refine hE pm_ge ?_ | refine hE pm_neg ?_ | refine hE pm_lenl ?_ | refine hE pm_lens ?_ | refine hE pm_lent ?_ | refine hE pm_intb ?_ | refine hE (pm_mod (by first | decide | omega | (simp only [List.length_cons, List.length_nil, List.length_map]; omega))) ?_ | refine hE (pm_mkl (by first | decide | omega | (simp only [List.length_cons, List.length_nil, List.length_map, sizeOf']; omega))) ?_ | refine hE (pM_mkl (by first | decide | omega | (simp only [List.length_cons, List.length_nil, List.length_map, sizeOf']; omega))) ?_ | refine hE (pm_mkt (by first | decide | omega | (simp only [List.length_cons, List.length_nil, List.length_map, sizeOf']; omega))) ?_ | refine hE (pm_range1 (by first | decide | omega | (simp only [List.length_cons, List.length_nil, List.length_map]; omega))) ?_ | refine hE (pm_fdiv (by first | decide | omega | (simp only [List.length_cons, List.length_nil, List.length_map]; omega)) (by first | decide | omega | (simp only [List.length_cons, List.length_nil, List.length_map]; omega))) ?_ | refine hc_le ?_ | refine hE (pm_mul (by first | decide | omega | (simp only [List.length_cons, List.length_nil, List.length_map]; omega)) (by first | decide | omega | (simp only [List.length_cons, List.length_nil, List.length_map]; omega))) ?_ | refine hE (pm_eq rd_int rd_int) ?_))
  refine hE (pm_ne (rd_evr rfl) (rd_evs es)) ?_
  rw [eq_evs, Bool.not_true]
  (repeat (with_reducible first | refine hB ?_ | refine it_t ?_ | refine it_f ?_ | refine hE pm_not_t ?_ | refine hE pm_not_f ?_ | refine hE pm_not ?_ | refine hE pi_int_int ?_ | refine hE pi_int_bool ?_ | refine hE pi_bool_bool ?_ | refine hE pi_bool_int ?_ | refine hE pi_str_int ?_ | refine hE pi_str_str ?_ | refine hE pi_str_tuple ?_ | refine hE pi_tup_tuple ?_ | refine hE pi_tup_str ?_ | refine hE pi_none_str ?_ | refine hE pi_none_int ?_ | refine hE pi_none_tuple ?_ | refine hE pi_bool_str ?_ | refine hE pi_bool_tuple ?_ | refine hE pi_int_str ?_ | refine hE pi_int_tuple ?_ | refine hE pi_lst_list ?_ | refine hE pi_lst_str ?_ | refine hE pi_lst_tuple ?_ | refine hE pm_add ?_ | refine hE pm_sub ?_ | refine hE pm_pow9 ?_ | refine hE pm_lt ?_ | refine hE pm_le ?_ | refine hE pm_gt ?_ | refine hE pm_ge ?_ | refine hE pm_neg ?_ | refine hE pm_lenl ?_ | refine hE pm_lens ?_ | refine hE pm_lent ?_ | refine hE pm_intb ?_ | refine hE (pm_mod (by first | decide | omega | (simp only [List.length_cons, List.length_nil, List.length_map]; omega))) ?_ | refine hE (pm_mkl (by first | decide | omega | (simp only [List.length_cons, List.length_nil, List.length_map, sizeOf']; omega))) ?_ | refine hE (pM_mkl (by first | decide | omega | (simp only [List.length_cons, List.length_nil, List.length_map, sizeOf']; omega))) ?_ | refine hE (pm_mkt (by first | decide | omega | (simp only [List.length_cons, List.length_nil, List.length_map, sizeOf']; omega))) ?_ | refine hE (pm_range1 (by first | decide | omega | (simp only [List.length_cons, List.length_nil, List.length_map]; omega))) ?_ | refine hE (pm_fdiv (by first | decide | omega | (simp only [List.length_cons, List.length_nil, List.length_map]; omega)) (by first | decide | omega | (simp only [List.length_cons, List.length_nil, List.length_map]; omega))) ?_ | refine hc_le ?_ | refine hE (pm_mul (by first | decide | omega | (simp only [List.length_cons, List.length_nil, List.length_map]; omega)) (by first | decide | omega | (simp only [List.length_cons, List.length_nil, List.length_map]; omega))) ?_ | refine hE (pm_eq rd_int rd_int) ?_))
  refine st_nil (st_expr ?_)
  simp only [wpE_prim, wpEs_cons, wpEs_nil, wpE_var, wpE_cst, wpE_and, wpE_or, wpE_call, wpE_mcall, List.map_cons, List.map_nil, List.cons_append, List.nil_append, List.replicate_zero, List.replicate_succ, List.getElem?_cons_zero, List.getElem?_cons_succ, List.set_cons_zero, List.set_cons_succ, List.length_cons, List.length_nil, Nat.reduceAdd, Nat.reduceLT, true_and, wpE_cmp2]
  refine ⟨rfl, ?_⟩
  (repeat (with_reducible first | refine hB ?_ | refine it_t ?_ | refine it_f ?_ | refine hE pm_not_t ?_ | refine hE pm_not_f ?_ | refine hE pm_not ?_ | refine hE pi_int_int ?_ | refine hE pi_int_bool ?_ | refine hE pi_bool_bool ?_ | refine hE pi_bool_int ?_ | refine hE pi_str_int ?_ | refine hE pi_str_str ?_ | refine hE pi_str_tuple ?_ | refine hE pi_tup_tuple ?_ | refine hE pi_tup_str ?_ | refine hE pi_none_str ?_ | refine hE pi_none_int ?_ | refine hE pi_none_tuple ?_ | refine hE pi_bool_str ?_ | refine hE pi_bool_tuple ?_ | refine hE pi_int_str ?_ | refine hE pi_int_tuple ?_ | refine hE pi_lst_list ?_ | refine hE pi_lst_str ?_ | refine hE pi_lst_tuple ?_ | refine hE pm_add ?_ | refine hE pm_sub ?_ | refine hE pm_pow9 ?_ | refine hE pm_lt ?_ | refine hE pm_le ?_ | refine hE pm_gt ?_ | refine hE pm_ge ?_ | refine hE pm_neg ?_ | refine hE pm_lenl ?_ | refine hE pm_lens ?_ | refine hE pm_lent ?_ | refine hE pm_intb ?_ | refine hE (pm_mod (by first | decide | omega | (simp only [List.length_cons, List.length_nil, List.length_map]; omega))) ?_ | refine hE (pm_mkl (by first | decide | omega | (simp only [List.length_cons, List.length_nil, List.length_map, sizeOf']; omega))) ?_ | refine hE (pM_mkl (by first | decide | omega | (simp only [List.length_cons, List.length_nil, List.length_map, sizeOf']; omega))) ?_ | refine hE (pm_mkt (by first | decide | omega | (simp only [List.length_cons, List.length_nil, List.length_map, sizeOf']; omega))) ?_ | refine hE (pm_range1 (by first | decide | omega | (simp only [List.length_cons, List.length_nil, List.length_map]; omega))) ?_ | refine hE (pm_fdiv (by first | decide | omega | (simp only [List.length_cons, List.length_nil, List.length_map]; omega)) (by first | decide | omega | (simp only [List.length_cons, List.length_nil, List.length_map]; omega))) ?_ | refine hc_le ?_ | refine hE (pm_mul (by first | decide | omega | (simp only [List.length_cons, List.length_nil, List.length_map]; omega)) (by first | decide | omega | (simp only [List.length_cons, List.length_nil, List.length_map]; omega))) ?_ | refine hE (pm_eq rd_int rd_int) ?_))
  refine hE (pm_append (vs := es.map Ev.v) rfl (by rw [List.length_map]; omega)) (st_ret ?_)
  simp only [List.set_cons_zero, List.set_cons_succ]
  simp only [wpE_prim, wpEs_cons, wpEs_nil, wpE_var, wpE_cst, wpE_and, wpE_or, wpE_call, wpE_mcall, List.map_cons, List.map_nil, List.cons_append, List.nil_append, List.replicate_zero, List.replicate_succ, List.getElem?_cons_zero, List.getElem?_cons_succ, List.set_cons_zero, List.set_cons_succ, List.length_cons, List.length_nil, Nat.reduceAdd, Nat.reduceLT, true_and, wpE_cmp2]
  refine f8 ho (by omega) ?_
  refine hE (pm_eq (rd_evs es) (rd_evs es)) ?_
  rw [eq_evs]
  (repeat (with_reducible first | refine hB ?_ | refine it_t ?_ | refine it_f ?_ | refine hE pm_not_t ?_ | refine hE pm_not_f ?_ | refine hE pm_not ?_ | refine hE pi_int_int ?_ | refine hE pi_int_bool ?_ | refine hE pi_bool_bool ?_ | refine hE pi_bool_int ?_ | refine hE pi_str_int ?_ | refine hE pi_str_str ?_ | refine hE pi_str_tuple ?_ | refine hE pi_tup_tuple ?_ | refine hE pi_tup_str ?_ | refine hE pi_none_str ?_ | refine hE pi_none_int ?_ | refine hE pi_none_tuple ?_ | refine hE pi_bool_str ?_ | refine hE pi_bool_tuple ?_ | refine hE pi_int_str ?_ | refine hE pi_int_tuple ?_ | refine hE pi_lst_list ?_ | refine hE pi_lst_str ?_ | refine hE pi_lst_tuple ?_ | refine hE pm_add ?_ | refine hE pm_sub ?_ | refine hE pm_pow9 ?_ | refine hE pm_lt ?_ | refine hE pm_le ?_ | refine hE pm_gt ?_ | refine hE pm_ge ?_ | refine hE pm_neg ?_ | refine hE pm_lenl ?_ | refine hE pm_lens ?_ | refine hE pm_lent ?_ | refine hE pm_intb ?_ | refine hE (pm_mod (by first | decide | omega | (simp only [List.length_cons, List.length_nil, List.length_map]; omega))) ?_ | refine hE (pm_mkl (by first | decide | omega | (simp only [List.length_cons, List.length_nil, List.length_map, sizeOf']; omega))) ?_ | refine hE (pM_mkl (by first | decide | omega | (simp only [List.length_cons, List.length_nil, List.length_map, sizeOf']; omega))) ?_ | refine hE (pm_mkt (by first | decide | omega | (simp only [List.length_cons, List.length_nil, List.length_map, sizeOf']; omega))) ?_ | refine hE (pm_range1 (by first | decide | omega | (simp only [List.length_cons, List.length_nil, List.length_map]; omega))) ?_ | refine hE (pm_fdiv (by first | decide | omega | (simp only [List.length_cons, List.length_nil, List.length_map]; omega)) (by first | decide | omega | (simp only [List.length_cons, List.length_nil, List.length_map]; omega))) ?_ | refine hc_le ?_ | refine hE (pm_mul (by first | decide | omega | (simp only [List.length_cons, List.length_nil, List.length_map]; omega)) (by first | decide | omega | (simp only [List.length_cons, List.length_nil, List.length_map]; omega))) ?_ | refine hE (pm_eq rd_int rd_int) ?_))
  refine f2 (es := es) rfl ho (by omega) (hE (pm_eq rd_str rd_str) ?_)
  rw [eq_txt]
  exact ret_same rfl
end Mine

end
noncomputable section
open PySem PySem.W PyProof.Rows
set_option maxHeartbeats 8000000
namespace Mine
theorem plain_of {P : Params} {h : Heap} {l : Addr} {vs : List Value} {xs : List PyData} (w1 : Well P h (.ref l) (ofPy (.list xs))) (hL : h.IsList l vs.toArray) : h.PlainList l vs.toArray := by
  have w2 : Well P h (.ref l) (.list (ofPys xs)) := w1
  cases w2 with
  | list e _ =>
    obtain ⟨o, ho, _, n, hd⟩ := hL
    rw [e] at ho
    cases ho
    cases hd
    exact ⟨_, e⟩
noncomputable def walk10.tw18279991220479877246 : Nat := 0
noncomputable def walk10.tw12719131566566041107 : Nat := 0
noncomputable def walk10.tw6318396223692161652 : Nat := 0
noncomputable def walk10.tw7174180712700120917 : Nat := 0
noncomputable def walk10.tw3183229305712786048 : Nat := 0
noncomputable def walk10.tw14860747392105019038 : Nat := 0
noncomputable def walk10.tw10067763523402242759 : Nat := 0
noncomputable def walk10.tw16736187190002452146 : Nat := 0
noncomputable def walk10.tw13680982564080360541 : Nat := 0
noncomputable def walk10.tw11461482570752607274 : Nat := 0
noncomputable def walk10.tw2655817132552719327 : Nat := 0
noncomputable def walk10.tw17777109881834377742 : Nat := 0
noncomputable def walk10.tw4149232887914051826 : Nat := 0
noncomputable def walk10.tw5652656089921792635 : Nat := 0
noncomputable def walk10.tw5165589208743122166 : Nat := 0
noncomputable def walk10.tw9205522489404892760 : Nat := 0
noncomputable def walk10.tw10653578409778187836 : Nat := 0
noncomputable def walk10.tw10635458098316435500 : Nat := 0
noncomputable def walk10.tw12068824470455530890 : Nat := 0
noncomputable def walk10.tw6660397978006827385 : Nat := 0
noncomputable def walk10.tw16119958018921655909 : Nat := 0
noncomputable def walk10.tw4732927299872537627 : Nat := 0
noncomputable def walk10.tw11194646371725633470 : Nat := 0
noncomputable def walk10.tw14898417550850376094 : Nat := 0
noncomputable def walk10.tw3789692244924375851 : Nat := 0
noncomputable def walk10.tw10766645615427350910 : Nat := 0
noncomputable def walk10.tw2908172240416946509 : Nat := 0
noncomputable def walk10.tw4021187737653637472 : Nat := 0
noncomputable def walk10.tw10735688037267896343 : Nat := 0
noncomputable def walk10.tw1110350828245687285 : Nat := 0
noncomputable def walk10.tw11612875514480386028 : Nat := 0
noncomputable def walk10.tw16704040496913805316 : Nat := 0
noncomputable def walk10.tw12498560869593486771 : Nat := 0
noncomputable def walk10.tw18293032110588534225 : Nat := 0
noncomputable def walk10.tw5959817752259931082 : Nat := 0
noncomputable def walk10.tw9945573607921755954 : Nat := 0
noncomputable def walk10.tw349241897693236501 : Nat := 0
noncomputable def walk10.tw8013986391535579269 : Nat := 0
noncomputable def walk10.tw5152765690019574703 : Nat := 0
noncomputable def walk10.tw15484884245334626643 : Nat := 0
noncomputable def walk10.tw10967024207886611288 : Nat := 0
noncomputable def walk10.tw371318535219008694 : Nat := 0
noncomputable def walk10.tw14519389205857668152 : Nat := 0
noncomputable def walk10.tw9770477029193614415 : Nat := 0
noncomputable def walk10.tw9216776582022781842 : Nat := 0
noncomputable def walk10.tw14136982379635024745 : Nat := 0
noncomputable def walk10.tw14278200607816757898 : Nat := 0
noncomputable def walk10.tw13589469981891812775 : Nat := 0
noncomputable def walk10.tw13455062689496480087 : Nat := 0
noncomputable def walk10.tw3432283551021662513 : Nat := 0
noncomputable def walk10.tw11679598313548426227 : Nat := 0
noncomputable def walk10.tw12557166188561311247 : Nat := 0
noncomputable def walk10.tw13325307327726064229 : Nat := 0
noncomputable def walk10.tw14594675667659092100 : Nat := 0
noncomputable def walk10.tw10988826128068094761 : Nat := 0
noncomputable def walk10.tw7334656656291644807 : Nat := 0
noncomputable def walk10.tw10854019537287090216 : Nat := 0
noncomputable def walk10.tw13957295898173486788 : Nat := 0
noncomputable def walk10.tw13706723534112920269 : Nat := 0
noncomputable def walk10.tw6269830777520813946 : Nat := 0
noncomputable def walk10.tw6604588709030662302 : Nat := 0
noncomputable def walk10.tw16517686955419657428 : Nat := 0
noncomputable def walk10.tw3269488272571823791 : Nat := 0
noncomputable def walk10.tw2318141385960794147 : Nat := 0
noncomputable def walk10.tw15758587682218211738 : Nat := 0
noncomputable def walk10.tw13984312574690264026 : Nat := 0
noncomputable def walk10.tw3151608146064205299 : Nat := 0
noncomputable def walk10.tw5549058697617935449 : Nat := 0
noncomputable def walk10.tw15737481397595067683 : Nat := 0
noncomputable def walk10.tw11668761747036291332 : Nat := 0
noncomputable def walk10.tw8194550720070044570 : Nat := 0
noncomputable def walk10.tw4020592798011630909 : Nat := 0
noncomputable def walk10.tw14814461871009453771 : Nat := 0
noncomputable def walk10.tw2281863751193749209 : Nat := 0
noncomputable def walk10.tw12309510233189170067 : Nat := 0
noncomputable def walk10.tw17772796596984517961 : Nat := 0
noncomputable def walk10.tw2739057600865578010 : Nat := 0
noncomputable def walk10.tw1944671001862837166 : Nat := 0
noncomputable def walk10.tw13430825933860635455 : Nat := 0
noncomputable def walk10.tw9175790259801878680 : Nat := 0
noncomputable def walk10.tw3742413204824695248 : Nat := 0
noncomputable def walk10.tw447537196238425576 : Nat := 0
noncomputable def walk10.tw10138138290371020873 : Nat := 0
noncomputable def walk10.tw6274601653876258747 : Nat := 0
noncomputable def walk10.tw12350045671897715194 : Nat := 0
noncomputable def walk10.tw8900182855594012801 : Nat := 0
noncomputable def walk10.tw7497061308401921131 : Nat := 0
noncomputable def walk10.tw906501548044043480 : Nat := 0
noncomputable def walk10.tw17713409770908077516 : Nat := 0
noncomputable def walk10.tw8134016060901281596 : Nat := 0
noncomputable def walk10.tw14790622106528153263 : Nat := 0
noncomputable def walk10.tw9791392146105838900 : Nat := 0
noncomputable def walk10.tw2354438222764731548 : Nat := 0
noncomputable def walk10.tw6771737233686688503 : Nat := 0
noncomputable def walk10.tw11317729410304098779 : Nat := 0
noncomputable def walk10.tw7712454219801182976 : Nat := 0
noncomputable def walk10.tw11808146787385263313 : Nat := 0
noncomputable def walk10.tw10037096411135559888 : Nat := 0
noncomputable def walk10.tw17329821325458874172 : Nat := 0
noncomputable def walk10.tw1529351158578610244 : Nat := 0
noncomputable def walk10.tw17142025620417767042 : Nat := 0
noncomputable def walk10.tw13162296297254891225 : Nat := 0
noncomputable def walk10.tw7307326216338772801 : Nat := 0
noncomputable def walk10.tw5171152562370884019 : Nat := 0
noncomputable def walk10.tw11877934622672392841 : Nat := 0
noncomputable def walk10.tw12530756812330547928 : Nat := 0
noncomputable def walk10.tw18019701104389467811 : Nat := 0
noncomputable def walk10.tw9990050177061410812 : Nat := 0
noncomputable def walk10.tw17279755289272484971 : Nat := 0
noncomputable def walk10.tw14535541472846600644 : Nat := 0
noncomputable def walk10.tw9223651353731620026 : Nat := 0
noncomputable def walk10.tw10355869038525356449 : Nat := 0
noncomputable def walk10.tw6673460415420156421 : Nat := 0
noncomputable def walk10.tw17284845908002208703 : Nat := 0
noncomputable def walk10.tw10883541440372140779 : Nat := 0
noncomputable def walk10.tw9338513766232598401 : Nat := 0
noncomputable def walk10.tw563145580089299203 : Nat := 0
noncomputable def walk10.tw10928927582468754373 : Nat := 0
noncomputable def walk10.tw16999180373490660589 : Nat := 0
noncomputable def walk10.tw14921167258888208526 : Nat := 0
noncomputable def walk10.tw7383701357775620003 : Nat := 0
noncomputable def walk10.tw10067243264694646781 : Nat := 0
noncomputable def walk10.tw3468344468754086488 : Nat := 0
noncomputable def walk10.tw18223793102947981293 : Nat := 0
noncomputable def walk10.tw805832025463655288 : Nat := 0
noncomputable def walk10.tw17163166438110093898 : Nat := 0
noncomputable def walk10.tw10774784816650453276 : Nat := 0
noncomputable def walk10.tw2641711645293731586 : Nat := 0
noncomputable def walk10.tw12441251507408319150 : Nat := 0
noncomputable def walk10.tw343135463192153142 : Nat := 0
noncomputable def walk10.tw17489304843747146002 : Nat := 0
noncomputable def walk10.tw5057441907036115235 : Nat := 0
noncomputable def walk10.tw3604422329463015453 : Nat := 0
noncomputable def walk10.tw1186840137437735601 : Nat := 0
noncomputable def walk10.tw4952010458025091554 : Nat := 0
noncomputable def walk10.tw4472968630164256481 : Nat := 0
noncomputable def walk10.tw11728065701858594233 : Nat := 0
noncomputable def walk10.tw1540779448131852960 : Nat := 0
set_option Elab.async true in
theorem walk10 : PySem.Challenge.rw_uf010035_10.Holds := by
  w_on
  o_law
  o_head Hook.none
  case hw => w_witness2
  intro w s₀ s₁ mg mb G Y fa o pm cd doc dV kV ho hd hcd hD hmg hg args vals as hpre hlay hrd hwl hlo
  refine Ground.open G ?_
  intro T B D TE TW
  wrow_args hpre hlay hrd hwl hlo
  all_goals (
    rename_i zs hs hlay0 hL1 hr1 hl2 as4 as3 l vs as0 hL ra w1 r0 hI hr hc1 hc0
    refine top_law2 (csts := cstL) (bis := bisL) (mu := muL) (fz := []) (fns := fnsL) (f := 17) (n := 6) T ⟨by decide +kernel, by decide +kernel, by decide +kernel, by decide +kernel⟩ hg (by kernel_rfl) (by decide +kernel) hmg (plain_of w1 hL) (by simpa using hI) (by omega) (by decide) (law10 (n := 0)) fun s' h1 h2 h3 => GoodW.toG ⟨.inl ⟨.bool true, .bool true, [], rfl, fun cls => rfl, .bool true, ?_, fun _ => ⟨.nil, by simp⟩⟩, h1, h2, h3⟩
    first | exact postW_of (by wrow_shape) (by wtm_val) (by str_meet; first | done | w_fin) | decide)
end Mine

end
theorem PySem.Challenge.cw_uf010035_10_holds : PySem.Challenge.rw_uf010035_10.Holds :=
  Mine.walk10
