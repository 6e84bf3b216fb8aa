import PyProof.Rows.All
import Wide.FinOn
import Wide.All
import PyProof.IsInstance
import PyProof.ExcClass3
import PyProof.ExcBaseAll.ValueError
import PyProof.ExcAttrAll.ValueError
import PyProof.ExcArgsOwn
import OpenK.AllK
import Open.Head
import KE.KRevIter
import PySem.Challenge.RW_uf010035_04
set_option Elab.async false
set_option maxRecDepth 100000
set_option tactic.hygienic false
set_option genSizeOfSpec false
set_option genSizeOf false
open Nat renaming le_trans → aa, le_of_eq → aq, le_of_ble_eq_true → av, succ_le_succ → ax, le_add_right → ay, le_refl → aA, lt_of_lt_of_le → aJ, zero_le → aM, add_right_comm → bg, le_succ → bJ, add_le_add → bK, add_le_add_left → bO, le_add_left → bP, lt_succ_self → bS, lt_irrefl → b6, add_le_add_right → cD, add_assoc → cK, le_of_lt_succ → cP, sub_le → db, ne_of_lt → dm, add_comm → dq, lt_of_le_of_lt → dw, ne_of_gt → dI, zero_add → eW, not_lt → fp, add_sub_cancel_left → fv, le_of_not_lt → fT, not_succ_le_zero → gp, add_sub_cancel' → gK, mul_le_mul_left → gL, le_of_lt → gY, succ_pos → gZ, lt_of_lt_of_eq → hG, le_of_succ_le → iT, min_le_right → jq, sub_zero → jX, le_of_succ_le_succ → jZ, le_antisymm → j2, add_lt_add_left → l3, add_left_cancel → l4, pos_of_ne_zero → mx, sub_add_cancel → mz, le_succ_of_le → n3, succ_ne_zero → pW, succ → tC, lt_trans → y9, sub_lt_sub_left → CS, lt_of_le_of_ne → E8, lt_of_succ_le → Fw, not_le_of_gt → GU
open List renaming getElem?_eq_some_iff → ae, length_append → af, length_map → ak, forall_mem_cons → am, mem_map → az, mem_append_right → aB, length_set → aC, getElem?_eq_getElem → aH, mem_of_getElem? → aI, lookup_cons → aK, append_nil → aN, map_append → aO, mem_append_left → aP, contains_iff_mem → aR, getElem?_map → aZ, append_assoc → a7, all_eq_true → a8, getElem?_append_left → bf, flatMap_append → bl, getElem?_set_ne → bn, range → bo, map_map → bp, not_mem_nil → br, mem_map_of_mem → bu, getElem?_set_self → bv, nodup_append → bx, flatMap_cons → bz, mem_cons → bA, nodup_cons → bD, mem_flatMap → bE, count_le_count_cons → bM, length_cons → bQ, getElem?_of_mem → bW, mem_range → cb, length_range → cj, nodup_nil → cn, mem_append → ct, not_mem_cons_of_ne_of_not_mem → cB, getElem?_concat_length → cG, map_cons → cL, getElem?_append_right → cO, getD_eq_getElem?_getD → cQ, replicate → c7, map_congr_left → de, zip_cons_cons → dy, size_toArray → dH, length_drop → dN, flatMap_nil → dP, flatMap_map → dQ, length → dU, mem_singleton → dZ, map_id' → d5, mem_zipIdx_iff_getElem? → d9, getElem?_set → eH, foldl_append → eJ, length_take → eV, length_reverse → e9, filterMap_cons → fb, length_eq_zero_iff → fq, filter_cons_of_pos → ft, filter_cons_of_neg → fu, getElem_mem → fU, count_eq_zero_of_not_mem → gm, getElem?_range → gJ, ext_getElem? → iS, all_cons → iV, any_eq_true → jr, flatMap_def → jt, filter_eq_nil_iff → jY, dropLast_eq_take → ku, count_cons_self → kL, mem_of_mem_take → kO, forall_mem_map → lZ, length_pos_iff → l5, Pairwise → l9, mem_filterMap → mq, contains_cons → mr, count_append → n5, getElem?_inj → n6, map_fst_zip → pX, take_length → pY, cons_append → pZ, perm_middle → p0, map_flatMap → p1, drop_zero → tD, getElem?_eq_none_iff → tL, forall_mem_singleton → tM, getElem?_cons_succ → wT, append_cancel_left → wV, drop_eq_nil_of_le → zd, map_set → ze, forall_mem_append → zf, length_singleton → zZ, getElem?_reverse → z4, eq_nil_or_concat → z6, concat_eq_append → z7, set_append_right → z9, range_eq_range' → Cz, length_take_le' → CB, mem_of_mem_drop → CD, map_eq_nil_iff → CT, find?_eq_none → E9, flatten_cons → Ft, isEmpty_iff → GS, cons_ne_nil → GT
open Bool renaming false_ne_true → ag, and_eq_true_iff → aj, and_eq_true → cc, or_eq_false_iff → cC, or_eq_true_iff → cR, true_and → eA, noConfusion → eX, eq_false_iff → fK, and_assoc → fL, or_eq_true → gG, false_eq_true → hH, and_true → iU, or_true → jW, not_and → j0, and_false → kM, not_eq_false' → mw, eq_iff_iff → qV, false_and → tF
open Option.some renaming inj → ah, injEq → fJ
open PySem.Heap renaming get?_push_size → aE, get?_push_of_some → aQ, get?_update_other → bY, get?_update_self → b7, lt_size → c5, SameBut → fH, ExtBut → CA, ownExc_of_ok → Fv
open Int renaming le_trans → aV, ofNat_le → aX, toNat_of_nonneg → bt, natCast_nonneg → bH, ofNat_lt → bZ, not_lt → cg, le_of_lt → dj, toNat_lt → dJ, not_le → d0, le_of_eq → gX, lt_of_le_of_lt → hO, max_eq_right → jp, ne_of_gt → jV, min_eq_left → j3, mul_one → kN, add_nonneg → kP, ofNat_inj → ma, emod_lt_of_pos → mB, toNat → pV, emod_nonneg → qW, le_add_of_nonneg_right → tE, ofNat_sub → wM, ediv_one → za, add_zero → zb, add_le_add_left → CO, sub_add_cancel → E6, min_eq_right → GR
open Option renaming map_eq_some_iff → aY, map → ba, bind_eq_some_iff → bR, isSome_iff_exists → cm, mem_toList → eG, isNone_iff_eq_none → eY, map_some → fj, isSome → gc, none → iR, bind_some → jo, any_eq_true → E7
open Array renaming length_toList → bk, getElem?_toList → cZ, toList_append → gH, getElem?_eq_some_iff → hU, size_setIfInBounds → wK, toList_push → Fs, size_append → Fu
open PySem.Builtin.Slice renaming slicePlaces → cV, sliceAdjust → dB, sliceApplied → hV
open Nat.succ renaming inj → dk
open PySem.Builtin.Tuple renaming tupleExact → fg
open Int.ofNat renaming inj → fh
open List.cons renaming inj → gf
open PySem.Heap.IsSliceOf renaming new → my
open Prod renaming snd → n4, fst → CC
open PySem.Builtin.Range renaming rangeFitsLong → sD, rangeSize → wU, small → CQ
open PySem.Builtin.List renaming listExtendWith → sE, listTooLong → wL
open List.Pairwise renaming imp_of_mem → wN
open List.Perm renaming append_left → z8
open PySem.Builtin.Int renaming intBits → CP
open PySem.Heap.SameBut renaming update → CR
noncomputable section
namespace Mine
open PySem
theorem ea0_3{A0 A1 A2:Prop}{G:Prop}(h:A0/\A1/\A2)(k:A0->A1->A2->G):G:=k h.1 h.2.1 h.2.2
theorem sd{A0 A1 A2 A3:Prop}{G:Prop}(h:A0/\A1/\A2/\A3)(k:A0->A1->A2->A3->G):G:=k h.1 h.2.1 h.2.2.1 h.2.2.2
theorem zY{A0 A1 A2 A3 A4:Prop}{G:Prop}(h:A0/\A1/\A2/\A3/\A4)(k:A0->A1->A2->A3->A4->G):G:=k h.1 h.2.1 h.2.2.1 h.2.2.2.1 h.2.2.2.2
theorem ea1_2{α0:Type}{A0 A1:α0->Prop}{G:Prop}(h:∃a0,A0 a0/\A1 a0)(k:∀a0,A0 a0->A1 a0->G):G:=h.elim λa0 h=>k a0 h.1 h.2
theorem eO{α0:Type}{A0 A1 A2:α0->Prop}{G:Prop}(h:∃a0,A0 a0/\A1 a0/\A2 a0)(k:∀a0,A0 a0->A1 a0->A2 a0->G):G:=h.elim λa0 h=>k a0 h.1 h.2.1 h.2.2
theorem dh{α0:Type}{A0 A1 A2 A3:α0->Prop}{G:Prop}(h:∃a0,A0 a0/\A1 a0/\A2 a0/\A3 a0)(k:∀a0,A0 a0->A1 a0->A2 a0->A3 a0->G):G:=h.elim λa0 h=>k a0 h.1 h.2.1 h.2.2.1 h.2.2.2
theorem uO{α0:Type}{A0 A1 A2 A3 A4:α0->Prop}{G:Prop}(h:∃a0,A0 a0/\A1 a0/\A2 a0/\A3 a0/\A4 a0)(k:∀a0,A0 a0->A1 a0->A2 a0->A3 a0->A4 a0->G):G:=h.elim λa0 h=>k a0 h.1 h.2.1 h.2.2.1 h.2.2.2.1 h.2.2.2.2
theorem mG{α0 α1:Type}{A0:α0->α1->Prop}{G:Prop}(h:∃a0 a1,A0 a0 a1)(k:∀a0 a1,A0 a0 a1->G):G:=h.elim λa0 h=>h.elim λa1 h=>k a0 a1 h
theorem dt{α0 α1:Type}{A0 A1:α0->α1->Prop}{G:Prop}(h:∃a0 a1,A0 a0 a1/\A1 a0 a1)(k:∀a0 a1,A0 a0 a1->A1 a0 a1->G):G:=h.elim λa0 h=>h.elim λa1 h=>k a0 a1 h.1 h.2
theorem c8{α0 α1:Type}{A0 A1 A2:α0->α1->Prop}{G:Prop}(h:∃a0 a1,A0 a0 a1/\A1 a0 a1/\A2 a0 a1)(k:∀a0 a1,A0 a0 a1->A1 a0 a1->A2 a0 a1->G):G:=h.elim λa0 h=>h.elim λa1 h=>k a0 a1 h.1 h.2.1 h.2.2
theorem jS{α0 α1:Type}{A0 A1 A2 A3:α0->α1->Prop}{G:Prop}(h:∃a0 a1,A0 a0 a1/\A1 a0 a1/\A2 a0 a1/\A3 a0 a1)(k:∀a0 a1,A0 a0 a1->A1 a0 a1->A2 a0 a1->A3 a0 a1->G):G:=h.elim λa0 h=>h.elim λa1 h=>k a0 a1 h.1 h.2.1 h.2.2.1 h.2.2.2
theorem i6{α0 α1:Type}{A0 A1 A2 A3 A4 A5 A6:α0->α1->Prop}{G:Prop}(h:∃a0 a1,A0 a0 a1/\A1 a0 a1/\A2 a0 a1/\A3 a0 a1/\A4 a0 a1/\A5 a0 a1/\A6 a0 a1)(k:∀a0 a1,A0 a0 a1->A1 a0 a1->A2 a0 a1->A3 a0 a1->A4 a0 a1->A5 a0 a1->A6 a0 a1->G):G:=h.elim λa0 h=>h.elim λa1 h=>k a0 a1 h.1 h.2.1 h.2.2.1 h.2.2.2.1 h.2.2.2.2.1 h.2.2.2.2.2.1 h.2.2.2.2.2.2
theorem iW{α0 α1 α2:Type}{A0 A1:α0->α1->α2->Prop}{G:Prop}(h:∃a0 a1 a2,A0 a0 a1 a2/\A1 a0 a1 a2)(k:∀a0 a1 a2,A0 a0 a1 a2->A1 a0 a1 a2->G):G:=h.elim λa0 h=>h.elim λa1 h=>h.elim λa2 h=>k a0 a1 a2 h.1 h.2
theorem lJ{α0 α1 α2:Type}{A0 A1 A2:α0->α1->α2->Prop}{G:Prop}(h:∃a0 a1 a2,A0 a0 a1 a2/\A1 a0 a1 a2/\A2 a0 a1 a2)(k:∀a0 a1 a2,A0 a0 a1 a2->A1 a0 a1 a2->A2 a0 a1 a2->G):G:=h.elim λa0 h=>h.elim λa1 h=>h.elim λa2 h=>k a0 a1 a2 h.1 h.2.1 h.2.2
theorem mJ{α0 α1 α2:Type}{A0 A1 A2 A3:α0->α1->α2->Prop}{G:Prop}(h:∃a0 a1 a2,A0 a0 a1 a2/\A1 a0 a1 a2/\A2 a0 a1 a2/\A3 a0 a1 a2)(k:∀a0 a1 a2,A0 a0 a1 a2->A1 a0 a1 a2->A2 a0 a1 a2->A3 a0 a1 a2->G):G:=h.elim λa0 h=>h.elim λa1 h=>h.elim λa2 h=>k a0 a1 a2 h.1 h.2.1 h.2.2.1 h.2.2.2
theorem kF{α0 α1 α2:Type}{A0 A1 A2 A3 A4:α0->α1->α2->Prop}{G:Prop}(h:∃a0 a1 a2,A0 a0 a1 a2/\A1 a0 a1 a2/\A2 a0 a1 a2/\A3 a0 a1 a2/\A4 a0 a1 a2)(k:∀a0 a1 a2,A0 a0 a1 a2->A1 a0 a1 a2->A2 a0 a1 a2->A3 a0 a1 a2->A4 a0 a1 a2->G):G:=h.elim λa0 h=>h.elim λa1 h=>h.elim λa2 h=>k a0 a1 a2 h.1 h.2.1 h.2.2.1 h.2.2.2.1 h.2.2.2.2
theorem gx{α0 α1 α2:Type}{A0 A1 A2 A3 A4 A5:α0->α1->α2->Prop}{G:Prop}(h:∃a0 a1 a2,A0 a0 a1 a2/\A1 a0 a1 a2/\A2 a0 a1 a2/\A3 a0 a1 a2/\A4 a0 a1 a2/\A5 a0 a1 a2)(k:∀a0 a1 a2,A0 a0 a1 a2->A1 a0 a1 a2->A2 a0 a1 a2->A3 a0 a1 a2->A4 a0 a1 a2->A5 a0 a1 a2->G):G:=h.elim λa0 h=>h.elim λa1 h=>h.elim λa2 h=>k a0 a1 a2 h.1 h.2.1 h.2.2.1 h.2.2.2.1 h.2.2.2.2.1 h.2.2.2.2.2
theorem Eb{α0 α1 α2 α3:Type}{A0 A1 A2 A3:α0->α1->α2->α3->Prop}{G:Prop}(h:∃a0 a1 a2 a3,A0 a0 a1 a2 a3/\A1 a0 a1 a2 a3/\A2 a0 a1 a2 a3/\A3 a0 a1 a2 a3)(k:∀a0 a1 a2 a3,A0 a0 a1 a2 a3->A1 a0 a1 a2 a3->A2 a0 a1 a2 a3->A3 a0 a1 a2 a3->G):G:=h.elim λa0 h=>h.elim λa1 h=>h.elim λa2 h=>h.elim λa3 h=>k a0 a1 a2 a3 h.1 h.2.1 h.2.2.1 h.2.2.2
theorem kD{α0 α1 α2 α3:Type}{A0 A1 A2 A3 A4 A5:α0->α1->α2->α3->Prop}{G:Prop}(h:∃a0 a1 a2 a3,A0 a0 a1 a2 a3/\A1 a0 a1 a2 a3/\A2 a0 a1 a2 a3/\A3 a0 a1 a2 a3/\A4 a0 a1 a2 a3/\A5 a0 a1 a2 a3)(k:∀a0 a1 a2 a3,A0 a0 a1 a2 a3->A1 a0 a1 a2 a3->A2 a0 a1 a2 a3->A3 a0 a1 a2 a3->A4 a0 a1 a2 a3->A5 a0 a1 a2 a3->G):G:=h.elim λa0 h=>h.elim λa1 h=>h.elim λa2 h=>h.elim λa3 h=>k a0 a1 a2 a3 h.1 h.2.1 h.2.2.1 h.2.2.2.1 h.2.2.2.2.1 h.2.2.2.2.2
theorem zr{α0 α1 α2 α3 α4:Type}{A0 A1 A2 A3:α0->α1->α2->α3->α4->Prop}{G:Prop}(h:∃a0 a1 a2 a3 a4,A0 a0 a1 a2 a3 a4/\A1 a0 a1 a2 a3 a4/\A2 a0 a1 a2 a3 a4/\A3 a0 a1 a2 a3 a4)(k:∀a0 a1 a2 a3 a4,A0 a0 a1 a2 a3 a4->A1 a0 a1 a2 a3 a4->A2 a0 a1 a2 a3 a4->A3 a0 a1 a2 a3 a4->G):G:=h.elim λa0 h=>h.elim λa1 h=>h.elim λa2 h=>h.elim λa3 h=>h.elim λa4 h=>k a0 a1 a2 a3 a4 h.1 h.2.1 h.2.2.1 h.2.2.2
theorem Da{α0 α1 α2 α3 α4:Type}{A0 A1 A2 A3 A4:α0->α1->α2->α3->α4->Prop}{G:Prop}(h:∃a0 a1 a2 a3 a4,A0 a0 a1 a2 a3 a4/\A1 a0 a1 a2 a3 a4/\A2 a0 a1 a2 a3 a4/\A3 a0 a1 a2 a3 a4/\A4 a0 a1 a2 a3 a4)(k:∀a0 a1 a2 a3 a4,A0 a0 a1 a2 a3 a4->A1 a0 a1 a2 a3 a4->A2 a0 a1 a2 a3 a4->A3 a0 a1 a2 a3 a4->A4 a0 a1 a2 a3 a4->G):G:=h.elim λa0 h=>h.elim λa1 h=>h.elim λa2 h=>h.elim λa3 h=>h.elim λa4 h=>k a0 a1 a2 a3 a4 h.1 h.2.1 h.2.2.1 h.2.2.2.1 h.2.2.2.2
def Is{α:Type}(o:Option α)(R:α->Prop):Prop:=match o with
 |none=>True
 |some x=>R x
section
variable {α β:Type}{o:Option α}{R:α->Prop}{S:β->Prop}
theorem Is.of{x:α}(h:Is o R)(e:o=some x):R x:=by subst e;exact h
theorem Is.bind{f:α->Option β}(h:Is o R)(k:∀x,R x->Is (f x) S):Is (o.bind f) S:=by
 cases o with
 |none=>exact trivial
 |some x=>exact k x h
theorem Is.map{f:α->β}(h:Is o R)(k:∀x,R x->S (f x)):Is (o.map f) S:=by
 cases o with
 |none=>exact trivial
 |some x=>exact k x h
theorem Is.to(k:∀x,o=some x->R x):Is o R:=by
 cases o with
 |none=>exact trivial
 |some x=>exact k x rfl
theorem Is.self:Is o λx=>o=some x:=Is.to λ_ h=>h
theorem Is.imp{R':α->Prop}(h:Is o R)(k:∀x,R x->R' x):Is o R':=by
 cases o with
 |none=>exact trivial
 |some x=>exact k x h
theorem Is.ite2{p:Prop}[Decidable p]{a:Option α}(k:p->Is a R)(l:¬p->Is o R):Is (if p then a else o) R:=by
 by_cases h:p
 ·rw [if_pos h];exact k h
 ·rw [if_neg h];exact l h
theorem Is.ite{p:Prop}[Decidable p](k:p->Is o R):Is (if p then o else none) R:=Is.ite2 k λ_=>trivial
theorem Is.nite{b:Bool}(k:b=false->Is o R):Is (if b=true then none else o) R:=by
 cases b with
 |false=>exact k rfl
 |true=>exact trivial
end
theorem ce{A0 A1:Prop}{G:Prop}(h:A0/\A1)(k:A0->A1->G):G:=k h.1 h.2
theorem cU{α0:Type}{A0:α0->Prop}{G:Prop}(h:∃a0,A0 a0)(k:∀a0,A0 a0->G):G:=h.elim k
theorem optE{α:Type}{o:Option α}{G:Prop}(n:o=none->G)(s:∀a,o=some a->G):G:=by
 cases o with
 |none=>exact n rfl
 |some a=>exact s a rfl
theorem D5{α:Type}{o:Option α}{G:Prop}(s:∀a,o=some a->G)(n:o=none->G):G:=optE n s
theorem om{o:Bool}{G:Prop}(t:o=true->G)(f:o=false->G):G:=by
 cases o with
 |false=>exact f rfl
 |true=>exact t rfl
section
variable {α:Type}{a b:α}{l:List α}{p:α->Prop}
theorem in1(h:a∈[b]):a=b:=dZ.mp h
theorem ou(h:a≠b):a∉[b]:=λq=>h (in1 q)
theorem wR(h:a∉[b]):a≠b:=λq=>h (q▸.head _)
theorem n8:∀b∈([]:List α),p b:=nofun
theorem dC(h:p a)(k:∀b∈l,p b):∀b∈a::l,p b:=λ_ q=>(bA.mp q).elim (λe=>e▸h) λq=>k _ q
theorem eK{G:Prop}(h:b∈a::l)(k:b=a->G)(k':b∈l->G):G:=(bA.mp h).elim k k'
theorem cM{l':List α}(h:∀b∈l,p b)(k:∀b∈l',p b):∀b∈l++l',p b:=λb hb=>(ct.mp hb).elim (h b) (k b)
theorem Ac(h:a∉l)(k:a≠b):a∉l++[b]:=λq=>(ct.mp q).elim h λq=>k (in1 q)
theorem cW(h:p a):∀b∈[a],p b:=dC h n8
end
theorem da{α:Type}{l m:List α}{k:Nat}{x:α}(r:l[k]? =some x):(l++m)[k]? =some x:=(bf (ae.mp r).1).trans r
theorem fm{α:Type}{l:List α}{a x:α}{k:Nat}(h:(l++[a])[k]? =some x):l[k]? =some x\/k=l.length/\x=a:=by
 by_cases hlt:k<l.length
 ·exact .inl ((bf hlt).symm.trans h)
 ·have h':=(cO (fp.mp hlt)).symm.trans h
  cases hk:k-l.length with
  |zero=>rw [hk]at h';exact .inr ⟨j2 (Nat.le_of_sub_eq_zero hk) (fp.mp hlt),(ah h').symm⟩
  |succ m=>rw [hk]at h';exact nomatch h'
theorem g9{A B L R:Nat}(h:A<=B)(v:L+B<=R+A):L<=R:=Nat.le_of_add_le_add_right (aa v (bO h R))
theorem lK{A B L R:Int}(h:A<=B)(v:L+B<=R+A):L<=R:=Int.le_of_add_le_add_right (aV v (CO h R))
theorem BC{m:Nat}(h:m<=1000):-10 ^ 12<=(m:Int)/\(m:Int)<=10 ^ 12:=⟨aV (by decide) (bH m),aV (aX.mpr h) (by decide)⟩
theorem bc{G:Prop}(h:(G->False)->False):G:=Classical.byContradiction h
theorem du{α:Type}{x:α}{p:Prop}(h:none=some x):p:=nomatch h
theorem oz{α β:Type}{a c:α}{b d:β}(h:some (a,b)=some (c,d)):a=c/\b=d:=Prod.mk.inj (ah h)
inductive V where
 |none
 |bool (b:Bool)
 |int (i:Int)
 |str (s:List Char)
 |tup (vs:List V)
 |lst (vs:List V)
 |dct (ks:List (List Char)) (vs:List V)
 |rng (a b:Int)
 |ref (i:Nat)
 |exc (k:Nat)
inductive O where
 |list (vs:List V)
 |dict (ks:List (List Char)) (vs:List V)
 |inst (c:Nat) (d:Nat)
 |ns (ks:List (List Char)) (vs:List V)
abbrev AH:=List O
abbrev Fm:=List (Option V)
mutual
noncomputable def V.data:V->Bool
 |.none|.bool _|.int _|.str _=>true
 |.tup vs|.lst vs=>V.datas vs
 |.dct _ _|.rng _ _|.ref _|.exc _=>false
noncomputable def V.datas:List V->Bool
 |[]=>true
 |v::vs=>V.data v&&V.datas vs
end
mutual
noncomputable def V.depth:V->Nat
 |.tup vs|.lst vs=>V.depths vs+1
 |.none|.bool _|.int _|.str _|.dct _ _|.rng _ _|.ref _|.exc _=>0
noncomputable def V.depths:List V->Nat
 |[]=>0
 |v::vs=>max (V.depth v) (V.depths vs)
end
mutual
noncomputable def fN:V->V->Bool
 |.none,.none=>true
 |.bool a,.bool b=>a==b
 |.bool a,.int j=>(if a then 1 else 0)==j
 |.int i,.bool b=>i==(if b then 1 else 0)
 |.int i,.int j=>i==j
 |.str x,.str y=>x==y
 |.lst xs,.lst ys=>oa xs ys
 |.tup xs,.tup ys=>oa xs ys
 |_,_=>false
noncomputable def oa:List V->List V->Bool
 |[],[]=>true
 |x::xs,y::ys=>fN x y&&oa xs ys
 |_,_=>false
end
inductive Ty where
 |int|bool|str|list|tuple
deriving DecidableEq
inductive Bop where
 |add|sub|mul|fdiv|mod|pow
deriving DecidableEq
inductive Cop where
 |eq|ne|lt|le|gt|ge|is|isnot|in_|notin
set_option genInjectivity false in
inductive Prim where
 |bop (o:Bop)
 |cop (o:Cop)
 |not|neg
 |len|isinst (t:Ty)|isX (j:Option Nat)|range1|range2|list|str|int|min|all
 |item|slice|rev
 |mklist|mktup|mkdict (ks:List (List Char))|mkdict1
 |append|pop|extend|count|upper
 |attr (n:List Char)
inductive Mt where
 |list|dict|str|tup
noncomputable def Prim.fresh:Prim->Bool
 |.list|.slice|.mklist|.mkdict _|.mkdict1|.bop .add=>true
 |_=>false
set_option genInjectivity false in
inductive Ex where
 |cst (v:V)
 |var (i:Nat)
 |prim (mu:Bool) (p:Prim) (args:List Ex)
 |and (a b:Ex)
 |or (a b:Ex)
 |cmp2 (a:Ex) (o₁:Cop) (b:Ex) (o₂:Cop) (c:Ex)
 |call (f:Nat) (args:List Ex)
 |meth (k f:Nat) (name:List Char) (o:Ex) (args:List Ex)
 |mcall (t:Mt) (mu:Bool) (p:Prim) (o:Ex) (args:List Ex)
 |new (c:Nat) (f:Nat) (args:List Ex)
 |comp (mu:Bool) (elt it:Ex) (cond:Option Ex)
set_option genInjectivity false in
inductive St where
 |asg (i:Nat) (e:Ex)
 |asgTup (is:List Nat) (e:Ex)
 |setItem (o i e:Ex)
 |setAttr (o:Ex) (n:List Char) (e:Ex)
 |expr (e:Ex)
 |ite (c:Ex) (a b:List St)
 |forIn (rev:Bool) (tgt:Nat ⊕ List Nat) (e:Ex) (body:List St)
 |while_ (c:Ex) (body:List St)
 |ret (e:Ex)
 |raise (c:Nat)
 |try_ (body:List St) (cls:Nat)
 |tryE (e:Ex) (cls i:Nat) (h:Ex)
 |pass
structure Fn where
 arity:Nat
 extra:Nat
 body:List St
noncomputable def O.lst:O->Option (List V)
 |.list vs=>some vs
 |_=>none
noncomputable def O.dct:O->Option (List (List Char)×List V)
 |.dict ks vs=>some (ks,vs)
 |_=>none
noncomputable def dM(H:AH):V->Option (List V)
 |.lst vs=>some vs
 |.ref i=>H[i]?.bind O.lst
 |_=>none
noncomputable def gz(H:AH):V->Option (List (List Char)×List V)
 |.dct ks vs=>some (ks,vs)
 |.ref i=>H[i]?.bind O.dct
 |_=>none
noncomputable def CJ(vs:List V):Bool:=V.datas vs&&decide (V.depths vs<=50)
noncomputable def rdD(v:V):Option V:=if(V.data v&&decide (V.depth v<=50))=true then some v else none
noncomputable def rd(H:AH)(v:V):Option V:=
 match v with
 |.ref i=>(dM H (.ref i)).bind λvs=>if CJ vs=true then some (.lst vs)else none
 |v=>rdD v
noncomputable def au:Nat:=1000000
noncomputable def sM(n:Nat)(i:Int):Option Nat:=
 if 0<=i then(if i<n then some i.toNat else none)else(if 0<=i+n then some (i+n).toNat else none)
noncomputable def eS(k:List Char):List (List Char)->List V->Option V
 |k'::ks,v::vs=>if k=k' then some v else eS k ks vs
 |_,_=>none
noncomputable def dE(k:List Char)(x:V):List (List Char)->List V->List (List Char)×List V
 |k'::ks,v::vs=>if k=k' then(k'::ks,x::vs)else let r:=dE k x ks vs;(k'::r.1,v::r.2)
 |_,_=>([k],[x])
noncomputable def Gq(k:List Char):List (List Char)->List V->List (List Char)×List V
 |k'::ks,v::vs=>if k=k' then(ks,vs)else let r:=Gq k ks vs;(k'::r.1,v::r.2)
 |_,_=>([],[])
noncomputable def jM(n:Nat)(i:Int):Nat:=
 if i<0 then(if i+n<0 then 0 else(i+n).toNat)else(if i<n then i.toNat else n)
noncomputable def bq{α:Type}(xs:List α)(a b:Nat):List α:=(xs.take b).drop a
noncomputable def jn:V->Option (Option Int)
 |.none=>some none
 |.int i=>some (some i)
 |_=>none
noncomputable def i0(n:Nat):Option Int->Nat
 |none=>0
 |some i=>jM n i
noncomputable def j1(n:Nat):Option Int->Nat
 |none=>n
 |some i=>jM n i
noncomputable def eB:V->Option Bool
 |.bool b=>some b
 |_=>none
noncomputable def FQ(H:AH)(i:Nat):Bool:=match H[i]? with
 |some (.list _)|some (.dict _ _)|some (.inst _ _)=>true
 |_=>false
noncomputable def xd(H:AH):V->Option Bool
 |.none=>some true
 |.ref i=>if FQ H i then some false else none
 |.rng _ _=>none
 |.exc _=>none
 |_=>some false
noncomputable def isT(t:Bool):V->Option Bool
 |.bool s=>some (s==t)
 |_=>none
noncomputable def FG(H:AH)(a b:V):Option Bool:=match b with
 |.none=>xd H a
 |.bool t=>isT t a
 |_=>none
noncomputable def bB(i:Int):Bool:=decide (-10 ^ 12<=i/\i<=10 ^ 12)
noncomputable def ml(f:Int->Int->Option Int):V->V->Option V
 |.int a,.int b=>(f a b).map V.int
 |_,_=>none
noncomputable def EU(a b:Int):Option Int:=if bB a&&bB b then some (a*b)else none
noncomputable def GC(a b:Int):Option Int:=if 0<b/\b<=10 ^ 12 then some (a/b)else none
noncomputable def Gg(a b:Int):Option Int:=if 0<b then some (a%b)else none
noncomputable def GM(a b:Int):Option Int:=if a=10/\0<=b/\b<=30 then some (10 ^ b.toNat)else none
noncomputable def Dy(H:AH)(a b:V):Option V:=(dM H a).bind λxs=>(dM H b).bind λys=>if xs.length+ys.length<=au then some (.lst (xs++ys))else none
noncomputable def AP(H:AH)(a b:V):Option V:=match a with
 |.int _=>ml (λa b=>some (a+b)) a b
 |.str x=>(match b with|.str y=>if x.length+y.length<=au then some (.str (x++y))else none|_=>none)
 |.tup x=>(match b with|.tup y=>if x.length+y.length<=au then some (.tup (x++y))else none|_=>none)
 |_=>Dy H a b
noncomputable def Fz(_:AH)(a b:V):Option V:=ml EU a b
noncomputable def vE(o:Bop)(a b:V)(H:AH):Option V:=match o with
 |.add=>AP H a b
 |.sub=>ml (λa b=>some (a-b)) a b
 |.mul=>Fz H a b
 |.fdiv=>ml GC a b
 |.mod=>ml Gg a b
 |.pow=>ml GM a b
noncomputable def inC(s:List Char):List Char->Option Bool
 |[]=>none
 |c::t=>if t.isEmpty=true then some (s.contains c)else none
noncomputable def V.txt:V->Option (List Char)
 |.str s=>some s
 |_=>iR
noncomputable def BA(H:AH)(x:V)(vs:List V):Option Bool:=(rd H x).bind λx'=>if CJ vs=true then some (vs.any λy=>fN y x')else none
noncomputable def inD(H:AH)(x c:V):Option Bool:=(gz H c).bind λd=>x.txt.map λk=>d.1.contains k
noncomputable def Fb(H:AH)(x c:V)(o:Option (List V)):Option Bool:=match o with
 |some vs=>BA H x vs
 |none=>inD H x c
noncomputable def Fc(H:AH)(x c:V):Option Bool:=
 match c with
 |.str s=>x.txt.bind (inC s)
 |.tup vs=>BA H x vs
 |c=>Fb H x c (dM H c)
noncomputable def eqO(H:AH)(a b:V):Option Bool:=(rd H a).bind λx=>(rd H b).map λy=>fN x y
noncomputable def tu(f:Int->Int->Bool):V->V->Option Bool
 |.int a,.int b=>some (f a b)
 |_,_=>none
noncomputable def gw(o:Cop)(a b:V)(H:AH):Option Bool:=match o with
 |.eq=>eqO H a b
 |.ne=>(eqO H a b).map (!·)
 |.lt=>tu (λa b=>decide (a<b)) a b
 |.le=>tu (λa b=>decide (a<=b)) a b
 |.gt=>tu (λa b=>decide (b<a)) a b
 |.ge=>tu (λa b=>decide (b<=a)) a b
 |.is=>FG H a b
 |.isnot=>(FG H a b).map (!·)
 |.in_=>Fc H a b
 |.notin=>(Fc H a b).map (!·)
noncomputable def V.isRng:V->Bool
 |.rng _ _=>true
 |_=>false
noncomputable def iz(a b:Int):List V:=(bo (b-a).toNat).map λ(i:Nat)=>V.int (a+i)
noncomputable def qr(H:AH):V->Option (List V)
 |.tup vs=>some vs
 |.str s=>some (s.map λc=>V.str [c])
 |.rng a b=>some (iz a b)
 |v=>dM H v
noncomputable def Eh:V->Option (List V)
 |.tup vs=>some vs.reverse
 |.lst vs=>some vs.reverse
 |_=>none
noncomputable def gE(rev:Bool)(H:AH)(v:V):Option (List V):=match rev with
 |false=>qr H v
 |true=>Eh v
structure Prog where
 fns:Nat->Option Fn
 sub:Nat->Nat->Bool
noncomputable def vX(cs:List (List Nat))(k j:Nat):Bool:=(cs[k]?).any (·.contains j)
noncomputable def rD(fns:List Fn)(cs:List (List Nat)):Prog:={fns:=λi=>fns[i]?,sub:=vX cs}
noncomputable def O.isTy(t:Ty):O->Option Bool
 |.list _=>some (t==.list)
 |.dict _ _=>some false
 |_=>none
noncomputable def isinst(H:AH):V->Ty->Option Bool
 |.int _,t=>some (t==.int)
 |.bool _,t=>some (t==.int||t==.bool)
 |.str _,t=>some (t==.str)
 |.tup _,t=>some (t==.tuple)
 |.lst _,t=>some (t==.list)
 |.none,_=>some false
 |.dct _ _,_=>some false
 |.ref i,t=>H[i]?.bind (O.isTy t)
 |_,_=>none
noncomputable def oq:List V->Option (List (List Char))
 |[]=>some []
 |.str b::r=>(oq r).map (b::·)
 |_::_=>none
noncomputable def oP(i:Int):List Char:=(toString i).toList
noncomputable def ij(c:Char):Char:=if 97<=c.toNat/\c.toNat<=122 then Char.ofNat (c.toNat-32)else c
noncomputable def j9:List V->Option (List Bool)
 |[]=>some []
 |.bool b::r=>(j9 r).map (b::·)
 |_::_=>none
noncomputable def V.num:V->Option Int
 |.int a=>some a
 |_=>iR
noncomputable def GI(o:Bop):List V->AH->Option (V×AH)
 |[a,b],H=>(vE o a b H).map (·,H)
 |_,_=>none
noncomputable def Gr(o:Cop):List V->AH->Option (V×AH)
 |[a,b],H=>(gw o a b H).map (V.bool ·,H)
 |_,_=>none
noncomputable def FT:List V->AH->Option (V×AH)
 |[a],H=>(eB a).map (V.bool !·,H)
 |_,_=>none
noncomputable def GQ:List V->AH->Option (V×AH)
 |[v],H=>v.num.map λa=>(V.int (-a),H)
 |_,_=>none
noncomputable def yo(d:Option Nat):Option (List V)->Option Nat
 |some vs=>some vs.length
 |none=>d
noncomputable def Di(H:AH):V->Option Nat
 |.str s=>some s.length
 |.tup s=>some s.length
 |v=>yo ((gz H v).map λd=>d.1.length) (dM H v)
noncomputable def EG:List V->AH->Option (V×AH)
 |[v],H=>(Di H v).map λ(n:Nat)=>(V.int n,H)
 |_,_=>none
noncomputable def sq(t:Ty):List V->AH->Option (V×AH)
 |[a],H=>(isinst H a t).map (V.bool ·,H)
 |_,_=>none
noncomputable def V.kind:V->Option Nat
 |.exc k=>some k
 |_=>iR
noncomputable def Gk(P:Prog)(j:Option Nat):List V->AH->Option (V×AH)
 |[v],H=>v.kind.bind λk=>if P.sub k k=true then some (.bool (j.elim true (P.sub k)),H)else none
 |_,_=>none
noncomputable def sj:List V->AH->Option (V×AH)
 |[v],H=>v.num.bind λb=>if bB b=true then some (.rng 0 b,H)else none
 |_,_=>none
noncomputable def rH:List V->AH->Option (V×AH)
 |[v,w],H=>v.num.bind λa=>w.num.bind λb=>if(bB a&&bB b)=true then some (.rng a b,H)else none
 |_,_=>none
noncomputable def zk(H:AH):V->Option V
 |.rng a b=>if(b-a).toNat<=au then some (.lst (iz a b))else none
 |.tup vs=>if vs.length<=au then some (.lst vs)else none
 |v=>(dM H v).bind λvs=>if vs.length<=au then some (.lst vs)else none
noncomputable def wG:List V->AH->Option (V×AH)
 |[v],H=>(zk H v).map (·,H)
 |_,_=>none
noncomputable def FF:V->Option V
 |.int i=>if bB i=true then some (.str (oP i))else none
 |.str s=>some (.str s)
 |_=>none
noncomputable def En:List V->AH->Option (V×AH)
 |[v],H=>(FF v).map (·,H)
 |_,_=>none
noncomputable def Bm:List V->AH->Option (V×AH)
 |[.bool b],H=>some (.int (if b then 1 else 0),H)
 |_,_=>none
noncomputable def EK:List V->AH->Option (V×AH)
 |[v,w],H=>v.num.bind λa=>w.num.map λb=>(V.int (min a b),H)
 |_,_=>none
noncomputable def DR:List V->AH->Option (V×AH)
 |[v],H=>((dM H v).bind j9).map λbs=>(.bool (bs.all id),H)
 |_,_=>none
noncomputable def wh(H:AH)(v:V)(i:Int):Option V:=match v with
 |.str s=>(sM s.length i).bind λj=>s[j]?.map λc=>.str [c]
 |.tup vs=>(sM vs.length i).bind λj=>vs[j]?
 |v=>(dM H v).bind λvs=>(sM vs.length i).bind λj=>vs[j]?
noncomputable def DH(H:AH)(v i:V):Option V:=match i with
 |.int i=>wh H v i
 |.str k=>(gz H v).bind λd=>eS k d.1 d.2
 |_=>none
noncomputable def zo:List V->AH->Option (V×AH)
 |[v,i],H=>(DH H v i).map (·,H)
 |_,_=>none
noncomputable def qR(H:AH)(v:V)(lo hi:Option Int):Option V:=match v with
 |.str s=>if s.length<=au then some (.str (bq s (i0 s.length lo) (j1 s.length hi)))else none
 |.tup s=>if s.length<=au then some (.tup (bq s (i0 s.length lo) (j1 s.length hi)))else none
 |v=>(dM H v).bind λs=>if s.length<=au then some (.lst (bq s (i0 s.length lo) (j1 s.length hi)))else none
noncomputable def qm:List V->AH->Option (V×AH)
 |[v,a,b],H=>(jn a).bind λlo=>(jn b).bind λhi=>(qR H v lo hi).map (·,H)
 |_,_=>none
noncomputable def V.tpl:V->Option (List V)
 |.tup vs=>some vs
 |_=>iR
noncomputable def FA:List V->AH->Option (V×AH)
 |[v,w],H=>w.num.bind λi=>if i=-1 then v.tpl.bind λs=>if s.length<=au then some (.tup s.reverse,H)else none else none
 |_,_=>none
noncomputable def rk(vs:List V)(H:AH):Option (V×AH):=if vs.length<=au then some (.lst vs,H)else none
noncomputable def t8(vs:List V)(H:AH):Option (V×AH):=if vs.length<=au then some (.tup vs,H)else none
noncomputable def nQ(ks:List (List Char))(vs:List V)(H:AH):Option (V×AH):=if ks.length=vs.length/\ks.length<=15/\ks.Nodup then some (.dct ks vs,H)else none
noncomputable def wl:List V->AH->Option (V×AH)
 |[k,v],H=>k.txt.map λk=>(.dct [k] [v],H)
 |_,_=>none
noncomputable def V.at:V->Option Nat
 |.ref i=>some i
 |_=>iR
noncomputable def pw(H:AH)(v:V):Option (Nat×List V):=v.at.bind λi=>(H[i]?.bind O.lst).bind λvs=>some (i,vs)
noncomputable def rh:List V->AH->Option (V×AH)
 |[v,x],H=>(pw H v).bind λp=>if p.2.length<=au then some (.none,H.set p.1 (.list (p.2++[x])))else none
 |_,_=>none
noncomputable def D0:List V->AH->Option (V×AH)
 |[v],H=>(pw H v).bind λp=>if p.2.length<=au then p.2.getLast?.map λx=>(x,H.set p.1 (.list p.2.dropLast))else none
 |_,_=>none
noncomputable def q7:List V->AH->Option (V×AH)
 |[v,w],H=>(pw H v).bind λp=>(dM H w).bind λys=>if p.2.length+ys.length<=au then some (.none,H.set p.1 (.list (p.2++ys)))else none
 |_,_=>none
noncomputable def vV:List V->AH->Option (V×AH)
 |[v,w],H=>w.txt.bind λk=>((dM H v).bind oq).map λss=>(V.int (ss.count k),H)
 |_,_=>none
noncomputable def wa:List V->AH->Option (V×AH)
 |[v],H=>v.txt.bind λs=>if(s.all λc=>decide (c.toNat<128))=true/\s.length<=au then some (.str (s.map ij),H)else none
 |_,_=>none
noncomputable def O.ins:O->Option Nat
 |.inst c d=>if c=0 then some d else none
 |_=>none
noncomputable def O.nms:O->Option (List (List Char)×List V)
 |.ns ks vs=>some (ks,vs)
 |_=>none
noncomputable def eP(H:AH)(v:V):Option (Nat×(List (List Char)×List V)):=v.at.bind λi=>(H[i]?.bind O.ins).bind λd=>(H[d]?.bind O.nms).map λq=>(d,q)
noncomputable def zy(n:List Char):List V->AH->Option (V×AH)
 |[v],H=>(eP H v).bind λq=>(eS n q.2.1 q.2.2).map (·,H)
 |_,_=>none
noncomputable def prim(P:Prog):Prim->List V->AH->Option (V×AH)
 |.bop o=>GI o
 |.cop o=>Gr o
 |.not=>FT
 |.neg=>GQ
 |.len=>EG
 |.isinst t=>sq t
 |.isX j=>Gk P j
 |.range1=>sj
 |.range2=>rH
 |.list=>wG
 |.str=>En
 |.int=>Bm
 |.min=>EK
 |.all=>DR
 |.item=>zo
 |.slice=>qm
 |.rev=>FA
 |.mklist=>rk
 |.mktup=>t8
 |.mkdict ks=>nQ ks
 |.mkdict1=>wl
 |.append=>rh
 |.pop=>D0
 |.extend=>q7
 |.count=>vV
 |.upper=>wa
 |.attr n=>zy n
noncomputable def j7:V->AH->Option (V×AH)
 |.lst vs,H=>some (.ref H.length,H++[.list vs])
 |.dct ks vs,H=>some (.ref H.length,H++[.dict ks vs])
 |_,_=>none
noncomputable def lu(H:AH)(v:V)(t:Mt):Bool:=match t with
 |.str=>v.txt.isSome
 |.list=>(dM H v).isSome
 |.dict=>(gz H v).isSome
 |.tup=>v.tpl.isSome
noncomputable def fY(H:AH)(_k:Nat)(name:List Char)(v:V):Bool:=(eP H v).any λq=>!q.2.1.contains name
noncomputable def aU(P:Prog)(mu:Bool)(p:Prim)(vs:List V)(H:AH):Option (V×AH):=
 if mu then(if p.fresh then(prim P p vs H).bind λr=>j7 r.1 r.2 else none)else prim P p vs H
abbrev QE:=V->AH->Prop
abbrev XE:=Nat->AH->Prop
abbrev Calls:=Nat->List V->AH->QE->XE->Prop
def gi(r:Option (V×AH))(Q:QE):Prop:=match r with|some (v,H)=>Q v H|none=>False
def l8(r:Option Bool)(K:Bool->Prop):Prop:=match r with|some b=>K b|none=>False
def compL(F:V->AH->(Option V->AH->Prop)->Prop)(ok:AH->Prop):List V->List V->AH->(List V->AH->Prop)->Prop
 |[],acc,H,Q=>ok H/\Q acc H
 |v::vs,acc,H,Q=>ok H/\F v H λr H'=>compL F ok vs (match r with|some x=>acc++[x]|none=>acc) H' Q
mutual
def cH(P:Prog)(C:Calls):Ex->Fm->AH->QE->XE->Prop
 |.cst v,_,H,Q,_=>Q v H
 |.var i,ρ,H,Q,_=>match ρ[i]? with|some (some v)=>Q v H|_=>False
 |.prim mu p args,ρ,H,Q,X=>fw P C args ρ H (λvs H'=>gi (aU P mu p vs H') Q) X
 |.and a b,ρ,H,Q,X=>cH P C a ρ H (λv H'=>l8 (eB v) λt=>if t then cH P C b ρ H' Q X else Q (.bool t) H') X
 |.or a b,ρ,H,Q,X=>cH P C a ρ H (λv H'=>l8 (eB v) λt=>if !t then cH P C b ρ H' Q X else Q (.bool t) H') X
 |.cmp2 a o₁ b o₂ c,ρ,H,Q,X=>cH P C a ρ H (λx H₁=>cH P C b ρ H₁ (λy H₂=>l8 (gw o₁ x y H₂) λt=>
   if t then cH P C c ρ H₂ (λz H₃=>l8 (gw o₂ y z H₃) λt'=>Q (.bool t') H₃) X else Q (.bool false) H₂) X) X
 |.call f args,ρ,H,Q,X=>fw P C args ρ H (λvs H'=>C f vs H' Q X) X
 |.meth k f name o args,ρ,H,Q,X=>cH P C o ρ H (λv H₁=>fY H₁ k name v=true/\fw P C args ρ H₁ (λvs H'=>C f (v::vs) H' Q X) X) X
 |.mcall t mu p o args,ρ,H,Q,X=>cH P C o ρ H (λv H₁=>lu H₁ v t=true/\fw P C args ρ H₁ (λvs H'=>gi (aU P mu p (v::vs) H') Q) X) X
 |.new c f args,ρ,H,Q,X=>fw P C args ρ H (λvs H'=>C f (.ref (H'.length+1)::vs) (H'++[.ns [] [],.inst c H'.length]) (λv H''=>v=.none/\Q (.ref (H'.length+1)) H'') X) X
 |.comp mu elt it cond,ρ,H,Q,X=>cH P C it ρ H (λv H₁=>∃items,qr H₁ v=some items/\items.length<=au/\
   compL (λx H' K=>match cond with
     |none=>cH P C elt (ρ++[some x]) H' (λy H''=>K (some y) H'') X
     |some c=>cH P C c (ρ++[some x]) H' (λb H₂=>l8 (eB b) λt=>if t then cH P C elt (ρ++[some x]) H₂ (λy H''=>K (some y) H'') X else K none H₂) X)
    (λH'=>qr H' v=some items) items [] H₁ (λys H₂=>gi (if mu then j7 (.lst ys) H₂ else some (.lst ys,H₂)) Q)) X
def fw(P:Prog)(C:Calls):List Ex->Fm->AH->(List V->AH->Prop)->XE->Prop
 |[],_,H,Q,_=>Q [] H
 |e::es,ρ,H,Q,X=>cH P C e ρ H (λv H'=>fw P C es ρ H' (λvs H''=>Q (v::vs) H'') X) X
end
noncomputable def eM(ρ:Fm):Nat ⊕ List Nat->V->Option Fm
 |.inl i,v=>some (ρ.set i (some v))
 |.inr is,.tup vs=>if is.length=vs.length then some ((is.zip vs).foldl (λρ p=>ρ.set p.1 (some p.2)) ρ)else none
 |_,_=>none
abbrev KS:=Fm->AH->Prop
def forL(F:V->Fm->AH->KS->Prop)(ok:AH->Prop):List V->Fm->AH->KS->Prop
 |[],ρ,H,K=>ok H/\K ρ H
 |v::vs,ρ,H,K=>ok H/\F v ρ H λρ' H'=>forL F ok vs ρ' H' K
def whileL(F:Fm->AH->KS->KS->Prop):Nat->Fm->AH->KS->Prop
 |0,_,_,_=>False
 |k+1,ρ,H,K=>F ρ H (λρ' H'=>whileL F k ρ' H' K) K
noncomputable def Bq(r:Nat)(k:List Char)(x:V)(H:AH)(o:Option O):Option AH:=match o with
 |some (.dict ks vs)=>if ks.length<=au then some (H.set r (.dict (dE k x ks vs).1 (dE k x ks vs).2))else none
 |_=>none
noncomputable def dK(o i x:V)(H:AH):Option AH:=match o with
 |.ref r=>(match i with
  |.str k=>Bq r k x H H[r]?
  |_=>none)
 |_=>none
noncomputable def gu(o:V)(n:List Char)(x:V)(H:AH):Option AH:=
 (eP H o).bind λq=>if q.2.1.length<=1000 then some (H.set q.1 (.ns (dE n x q.2.1 q.2.2).1 (dE n x q.2.1 q.2.2).2))else none
mutual
def qH(P:Prog)(C:Calls):St->Fm->AH->KS->QE->XE->Prop
 |.asg i e,ρ,H,K,_,X=>cH P C e ρ H (λv H'=>i<ρ.length/\K (ρ.set i (some v)) H') X
 |.asgTup is e,ρ,H,K,_,X=>cH P C e ρ H (λv H'=>match eM ρ (.inr is) v with|some ρ'=>K ρ' H'|none=>False) X
 |.setItem o i e,ρ,H,K,_,X=>cH P C e ρ H (λx H₁=>cH P C o ρ H₁ (λov H₂=>cH P C i ρ H₂ (λiv H₃=>match dK ov iv x H₃ with|some H'=>K ρ H'|none=>False) X) X) X
 |.setAttr o n e,ρ,H,K,_,X=>cH P C e ρ H (λx H₁=>cH P C o ρ H₁ (λov H₂=>match gu ov n x H₂ with|some H'=>K ρ H'|none=>False) X) X
 |.expr e,ρ,H,K,_,X=>cH P C e ρ H (λ_ H'=>K ρ H') X
 |.ite c a b,ρ,H,K,R,X=>cH P C c ρ H (λv H'=>l8 (eB v) λt=>if t then bh P C a ρ H' K R X else bh P C b ρ H' K R X) X
 |.forIn rev tgt e body,ρ,H,K,R,X=>cH P C e ρ H (λv H₁=>∃items,gE rev H₁ v=some items/\items.length<=au/\
   forL (λx ρ' H' K'=>match eM ρ' tgt x with|some ρ''=>bh P C body ρ'' H' K' R (λ_ _=>False)|none=>False)
    (λH'=>gE rev H' v=some items) items ρ H₁ K) X
 |.while_ c body,ρ,H,K,R,X=>∃k,whileL (λρ' H' K₁ K₂=>cH P C c ρ' H' (λv H''=>l8 (eB v) λt=>if t then bh P C body ρ' H'' K₁ R (λ_ _=>False)else K₂ ρ' H'') (λ_ _=>False)) k ρ H K
 |.ret e,ρ,H,_,R,X=>cH P C e ρ H R X
 |.raise c,_,H,_,_,X=>X c H
 |.try_ body cls,ρ,H,K,R,X=>bh P C body ρ H K R (λc H'=>(P.sub c c&&P.sub c cls)=true/\R .none H')
 |.tryE e cls i h,ρ,H,K,R,X=>cH P C e ρ H (λ_ H'=>K ρ H') (λc H'=>(P.sub c c&&P.sub c cls)=true/\cH P C h (ρ.set i (some (.exc c))) H' R (λ_ _=>False))
 |.pass,ρ,H,K,_,_=>K ρ H
def bh(P:Prog)(C:Calls):List St->Fm->AH->KS->QE->XE->Prop
 |[],ρ,H,K,_,_=>K ρ H
 |s::ss,ρ,H,K,R,X=>qH P C s ρ H (λρ' H'=>bh P C ss ρ' H' K R X) R X
end
abbrev Fp(_:AH)(Q:QE)(v:V)(H':AH):Prop:=Q v H'
abbrev EV(_:AH)(X:XE)(c:Nat)(H':AH):Prop:=X c H'
noncomputable def aG(P:Prog):Nat->Calls
 |0,_,_,_,_,_=>False
 |n+1,f,args,H,Q,X=>match P.fns f with
  |some fn=>args.length=fn.arity/\
    bh P (aG P n) fn.body (args.map some++c7 fn.extra none) H (λ_ H'=>Fp H Q .none H') (λv H'=>Fp H Q v H') (EV H X)
  |none=>False
section
variable {P:Prog}{C:Calls}{ρ:Fm}{H:AH}{Q:QE}{X:XE}{K:KS}{R:QE}
theorem xX{v:V}:cH P C (.cst v) ρ H Q X=Q v H:=rfl
theorem rN{i:Nat}:cH P C (.var i) ρ H Q X=match ρ[i]? with|some (some v)=>Q v H|_=>False:=rfl
theorem dA{mu:Bool}{p:Prim}{args:List Ex}:cH P C (.prim mu p args) ρ H Q X=fw P C args ρ H (λvs H'=>gi (aU P mu p vs H') Q) X:=rfl
theorem wE{a b c:Ex}{o₁ o₂:Cop}:cH P C (.cmp2 a o₁ b o₂ c) ρ H Q X=cH P C a ρ H (λx H₁=>cH P C b ρ H₁ (λy H₂=>l8 (gw o₁ x y H₂) λt=>
   if t then cH P C c ρ H₂ (λz H₃=>l8 (gw o₂ y z H₃) λt'=>Q (.bool t') H₃) X else Q (.bool false) H₂) X) X:=rfl
theorem wm{f:Nat}{args:List Ex}:cH P C (.call f args) ρ H Q X=fw P C args ρ H (λvs H'=>C f vs H' Q X) X:=rfl
theorem vz{k f:Nat}{name:List Char}{o:Ex}{args:List Ex}:cH P C (.meth k f name o args) ρ H Q X=cH P C o ρ H (λv H₁=>fY H₁ k name v=true/\fw P C args ρ H₁ (λvs H'=>C f (v::vs) H' Q X) X) X:=rfl
theorem s5{t:Mt}{mu:Bool}{p:Prim}{o:Ex}{args:List Ex}:cH P C (.mcall t mu p o args) ρ H Q X=cH P C o ρ H (λv H₁=>lu H₁ v t=true/\fw P C args ρ H₁ (λvs H'=>gi (aU P mu p (v::vs) H') Q) X) X:=rfl
theorem xm{c f:Nat}{args:List Ex}:cH P C (.new c f args) ρ H Q X=fw P C args ρ H (λvs H'=>C f (.ref (H'.length+1)::vs) (H'++[.ns [] [],.inst c H'.length]) (λv H''=>v=.none/\Q (.ref (H'.length+1)) H'') X) X:=rfl
theorem dL{Q:List V->AH->Prop}:fw P C [] ρ H Q X=Q [] H:=rfl
theorem c6{e:Ex}{es:List Ex}{Q:List V->AH->Prop}:fw P C (e::es) ρ H Q X=cH P C e ρ H (λv H'=>fw P C es ρ H' (λvs H''=>Q (v::vs) H'') X) X:=rfl
section
theorem rB{i:Nat}{e:Ex}:qH P C (.asg i e) ρ H K R X=cH P C e ρ H (λv H'=>i<ρ.length/\K (ρ.set i (some v)) H') X:=rfl
theorem qz{is:List Nat}{e:Ex}:qH P C (.asgTup is e) ρ H K R X=cH P C e ρ H (λv H'=>match eM ρ (.inr is) v with|some ρ'=>K ρ' H'|none=>False) X:=rfl
theorem oh{o i e:Ex}:qH P C (.setItem o i e) ρ H K R X=cH P C e ρ H (λx H₁=>cH P C o ρ H₁ (λov H₂=>cH P C i ρ H₂ (λiv H₃=>match dK ov iv x H₃ with|some H'=>K ρ H'|none=>False) X) X) X:=rfl
theorem pk{o e:Ex}{n:List Char}:qH P C (.setAttr o n e) ρ H K R X=cH P C e ρ H (λx H₁=>cH P C o ρ H₁ (λov H₂=>match gu ov n x H₂ with|some H'=>K ρ H'|none=>False) X) X:=rfl
theorem wg{e:Ex}:qH P C (.expr e) ρ H K R X=cH P C e ρ H (λ_ H'=>K ρ H') X:=rfl
theorem yQ{c:Ex}{a b:List St}:qH P C (.ite c a b) ρ H K R X=cH P C c ρ H (λv H'=>l8 (eB v) λt=>if t then bh P C a ρ H' K R X else bh P C b ρ H' K R X) X:=rfl
theorem mI{rev:Bool}{tgt:Nat ⊕ List Nat}{e:Ex}{body:List St}:qH P C (.forIn rev tgt e body) ρ H K R X=cH P C e ρ H (λv H₁=>∃items,gE rev H₁ v=some items/\items.length<=au/\
   forL (λx ρ' H' K'=>match eM ρ' tgt x with|some ρ''=>bh P C body ρ'' H' K' R (λ_ _=>False)|none=>False)
    (λH'=>gE rev H' v=some items) items ρ H₁ K) X:=rfl
theorem ta{c:Ex}{body:List St}:qH P C (.while_ c body) ρ H K R X=∃k,whileL (λρ' H' K₁ K₂=>cH P C c ρ' H' (λv H''=>l8 (eB v) λt=>if t then bh P C body ρ' H'' K₁ R (λ_ _=>False)else K₂ ρ' H'') (λ_ _=>False)) k ρ H K:=rfl
theorem rz{e:Ex}:qH P C (.ret e) ρ H K R X=cH P C e ρ H R X:=rfl
theorem s6{c:Nat}:qH P C (.raise c) ρ H K R X=X c H:=rfl
theorem iP{s:St}{ss:List St}:bh P C (s::ss) ρ H K R X=qH P C s ρ H (λρ' H'=>bh P C ss ρ' H' K R X) R X:=rfl
end
theorem lG{n f:Nat}{args:List V}:aG P (n+1) f args H Q X=match P.fns f with
  |some fn=>args.length=fn.arity/\
    bh P (aG P n) fn.body (args.map some++c7 fn.extra none) H (λ_ H'=>Fp H Q .none H') (λv H'=>Fp H Q v H') (EV H X)
  |none=>False:=rfl
end
end Mine
end
noncomputable section
namespace Mine
end Mine
end
noncomputable section
namespace Mine
open PySem PySem.Calls PyProof.Rows
abbrev bj:=List Addr
abbrev HP:=PySem.Heap
set_option genInjectivity false in
structure Cx where
 prog:Program
 w:World
 base:HP
 mg:Str->Option Value
 mb:Str->Option Value
 P:Prog
 os:OsState
 fad:Nat->Addr
 fdat:Nat->FuncData
 xcls:Nat->Addr
 ccls:Nat->Addr
 qf:Nat->Bool
noncomputable def iu:Nat:=2 ^ 40
abbrev Cx.M(c:Cx):Model:=model c.prog c.w
abbrev Cx.kd(c:Cx):KeyKind c.prog c.w Str:=strKind c.prog c.w
noncomputable def toS(s:List Char):Str:=⟨(s.map Char.toNat).toArray⟩
theorem gO{a b:List Char}(h:toS a=toS b):a=b:=by
 haveI h1:(a.map Char.toNat)=b.map Char.toNat:=by
  haveI:=congrArg (λx:Str=>x.cps.toList) h
  simpa [toS] using this
 exact(List.map_inj_right (λx y e=>Char.toNat_inj.mp e)).mp h1
theorem dR{α:Type}{p:Prop}[Decidable p]{a:Option α}{x:α}(h:(if p then a else none)=some x):p/\a=some x:=by
 by_cases hp:p
 ·rw [if_pos hp]at h;exact⟨hp,h⟩
 ·rw [if_neg hp]at h;exact du h
theorem b8{α:Type}{p:Prop}[Decidable p]{a x:α}(h:(if p then some a else none)=some x):p/\a=x:=by
 haveI h:=dR h;exact⟨h.1,ah h.2⟩
theorem bX{α β:Type}{o:Option α}{f:α->Option β}{x:β}(h:o.bind f=some x):∃a,o=some a/\f a=some x:=by
 induction o with
 |none=>exact du h
 |some a=>exact⟨a,rfl,h⟩
theorem dc{α β:Type}{o:Option α}{f:α->β}{x:β}(h:o.map f=some x):∃a,o=some a/\f a=x:=by
 cases o with
 |none=>cases h
 |some a=>exact⟨a,rfl,ah h⟩
theorem O.lst_i(o:O):Is (o.lst) λvs=>o=.list vs:=by
 cases o<;>first|exact rfl|exact trivial
theorem O.dct_i(o:O):Is (o.dct) λd=>o=.dict d.1 d.2:=by
 cases o<;>first|exact rfl|exact trivial
theorem V.txt_i(v:V):Is (v.txt) λs=>v=.str s:=by
 cases v<;>first|exact rfl|exact trivial
theorem V.txt_is{v:V}{s:List Char}(h:v.txt=some s):v=.str s:=(V.txt_i _).of h
theorem V.num_i(v:V):Is (v.num) λi=>v=.int i:=by
 cases v<;>first|exact rfl|exact trivial
theorem V.num_is{v:V}{i:Int}(h:v.num=some i):v=.int i:=(V.num_i _).of h
theorem V.at_i(v:V):Is (v.at) λi=>v=.ref i:=by
 cases v<;>first|exact rfl|exact trivial
theorem xq(H:AH)(v:V):Is (pw H v) λp=>v=.ref p.1/\H[p.1]? =some (.list p.2):=
 (V.at_i v).bind λi h1=>(Is.self.bind λo h3=>(O.lst_i o).imp (R':=λvs=>H[i]? =some (.list vs)) λ_ h4=>h4▸h3).bind λ_ h5=>⟨h1,h5⟩
theorem lH{H:AH}{v:V}{p:Nat×List V}(h:pw H v=some p):v=.ref p.1/\H[p.1]? =some (.list p.2):=(xq H v).of h
inductive VwR(H:AH)(vs:List V):V->Prop
 |lst:VwR H vs (.lst vs)
 |ref {i:Nat}:H[i]? =some (.list vs)->VwR H vs (.ref i)
theorem Ai(H:AH)(v:V):Is (dM H v) λvs=>VwR H vs v:=by
 cases v with
 |lst ws=>exact .lst
 |ref i=>exact Is.self.bind λo h1=>(O.lst_i o).imp λ_ h2=>.ref (h2▸h1)
 |_=>exact trivial
theorem wZ{H:AH}{v:V}{vs:List V}(h:dM H v=some vs):VwR H vs v:=(Ai H v).of h
inductive DwR(H:AH)(d:List (List Char)×List V):V->Prop
 |dct:DwR H d (.dct d.1 d.2)
 |ref {i:Nat}:H[i]? =some (.dict d.1 d.2)->DwR H d (.ref i)
theorem yx(H:AH)(v:V):Is (gz H v) λd=>DwR H d v:=by
 cases v with
 |dct ks ws=>exact .dct
 |ref i=>exact Is.self.bind λo h1=>(O.dct_i o).imp λ_ h2=>.ref (h2▸h1)
 |_=>exact trivial
theorem uR{H:AH}{v:V}{d:List (List Char)×List V}(h:gz H v=some d):DwR H d v:=(yx H v).of h
mutual
inductive VR(c:Cx)(as:bj)(X:List Addr)(h:HP):V->Value->Prop
 |none:VR c as X h .none .none
 |bool (b:Bool):VR c as X h (.bool b) (.bool b)
 |int (i:Int) (t:Tok):VR c as X h (.int i) (.int i t)
 |str (s:List Char) (t:Tok):s.length<=iu->VR c as X h (.str s) (.str (toS s) t)
 |tup {a:Addr} {items:Array Value} {n:Nat} {vs:List V}:a∉as->a∉X->h.get? a=some {cls:=.type "tuple",data:=.seq items n}->VRs c as X h vs items.toList->vs.length<=iu->VR c as X h (.tup vs) (.ref a)
 |lst {a:Addr} {items:Array Value} {vs:List V}:a∉as->a∉X->h.PlainList a items->VRs c as X h vs items.toList->vs.length<=iu->VR c as X h (.lst vs) (.ref a)
 |dct {a:Addr} {ks:List (List Char)} {vs:List V} {cs:List Value}:a∉as->a∉X->(a==sysModules)=false->h.DictOf c.kd a ((ks.map toS).zip cs)->ks.length=cs.length->VRs c as X h vs cs->vs.length<=iu->VR c as X h (.dct ks vs) (.ref a)
 |rng {r:Addr} {a b:Int} {t₀ t₁ t₂:Tok}:r∉as->r∉X->IsRange h r a b 1 t₀ t₁ t₂->bB a=true->bB b=true->VR c as X h (.rng a b) (.ref r)
 |ref {i:Nat} {a:Addr}:as[i]? =some a->VR c as X h (.ref i) (.ref a)
 |exc {a:Addr} {k:Nat} {o:Obj} {vs:Array Value}:a∉as->a∉X->h.get? a=some o->o.cls=.ref (c.xcls k)->o.data=.fields vs->vs[2]? =some .none->VR c as X h (.exc k) (.ref a)
inductive VRs(c:Cx)(as:bj)(X:List Addr)(h:HP):List V->List Value->Prop
 |nil:VRs c as X h [] []
 |cons {v:V} {vs:List V} {x:Value} {cs:List Value}:VR c as X h v x->VRs c as X h vs cs->VRs c as X h (v::vs) (x::cs)
end
inductive StrR(s:List Char):Value->Prop
 |str (t:Tok):s.length<=iu->StrR s (.str (toS s) t)
inductive IntR(i:Int):Value->Prop
 |int (t:Tok):IntR i (.int i t)
inductive TupR(c:Cx)(as:bj)(X:List Addr)(h:HP)(vs:List V):Value->Prop
 |tup {a:Addr} {items:Array Value} {n:Nat}:a∉as->a∉X->h.get? a=some {cls:=.type "tuple",data:=.seq items n}->VRs c as X h vs items.toList->vs.length<=iu->TupR c as X h vs (.ref a)
inductive LstR(c:Cx)(as:bj)(X:List Addr)(h:HP)(vs:List V):Value->Prop
 |lst {a:Addr} {items:Array Value}:a∉as->a∉X->h.PlainList a items->VRs c as X h vs items.toList->vs.length<=iu->LstR c as X h vs (.ref a)
inductive DctR(c:Cx)(as:bj)(X:List Addr)(h:HP)(ks:List (List Char))(vs:List V):Value->Prop
 |dct {a:Addr} {cs:List Value}:a∉as->a∉X->(a==sysModules)=false->h.DictOf c.kd a ((ks.map toS).zip cs)->ks.length=cs.length->VRs c as X h vs cs->vs.length<=iu->DctR c as X h ks vs (.ref a)
inductive RngR(as:bj)(X:List Addr)(h:HP)(a b:Int):Value->Prop
 |rng {r:Addr} {t₀ t₁ t₂:Tok}:r∉as->r∉X->IsRange h r a b 1 t₀ t₁ t₂->bB a=true->bB b=true->RngR as X h a b (.ref r)
inductive RefR(as:bj)(i:Nat):Value->Prop
 |ref {a:Addr}:as[i]? =some a->RefR as i (.ref a)
inductive ExcR(c:Cx)(as:bj)(X:List Addr)(h:HP)(k:Nat):Value->Prop
 |exc {a:Addr} {o:Obj} {vs:Array Value}:a∉as->a∉X->h.get? a=some o->o.cls=.ref (c.xcls k)->o.data=.fields vs->vs[2]? =some .none->ExcR c as X h k (.ref a)
def VI(c:Cx)(as:bj)(X:List Addr)(h:HP)(v:V)(cv:Value):Prop:=match v with
 |.none=>cv=.none
 |.bool b=>cv=.bool b
 |.int i=>IntR i cv
 |.str s=>StrR s cv
 |.tup vs=>TupR c as X h vs cv
 |.lst vs=>LstR c as X h vs cv
 |.dct ks vs=>DctR c as X h ks vs cv
 |.rng a b=>RngR as X h a b cv
 |.ref i=>RefR as i cv
 |.exc k=>ExcR c as X h k cv
theorem VR.inv{c:Cx}{as:bj}{X:List Addr}{h:HP}{v:V}{cv:Value}(r:VR c as X h v cv):VI c as X h v cv:=by
 cases r with
 |none=>exact rfl
 |bool b=>exact rfl
 |int i t=>exact .int t
 |str s t hb=>exact .str t hb
 |tup h1 h2 h3 h4 h5=>exact .tup h1 h2 h3 h4 h5
 |lst h1 h2 h3 h4 h5=>exact .lst h1 h2 h3 h4 h5
 |dct h1 h2 h3 h4 h5 h6 h7=>exact .dct h1 h2 h3 h4 h5 h6 h7
 |rng h1 h2 h3 h4 h5=>exact .rng h1 h2 h3 h4 h5
 |ref h1=>exact .ref h1
 |exc h1 h2 h3 h4 h5 h6=>exact .exc h1 h2 h3 h4 h5 h6
section
variable {c:Cx}{as as':bj}{X:List Addr}{h h':HP}
theorem VRs.length:∀{vs:List V} {cs:List Value},VRs c as X h vs cs->vs.length=cs.length
 |_,_,.nil=>rfl
 |_,_,.cons _ r=>by simp only [bQ,bQ,r.length]
theorem VRs.get:∀{vs:List V} {cs:List Value} {j:Nat} {v:V},VRs c as X h vs cs->vs[j]? =some v->∃x,cs[j]? =some x/\VR c as X h v x
 |_,_,_,_,.nil,e=>by exact du e
 |_,_,0,_,.cons x _,e=>by simp at e;subst e;exact⟨_,rfl,x⟩
 |_,_,j+1,_,.cons _ r,e=>by simp only [wT]at e ⊢;exact r.get e
theorem VRs.get':∀{vs:List V} {cs:List Value} {j:Nat} {x:Value},VRs c as X h vs cs->cs[j]? =some x->∃v,vs[j]? =some v/\VR c as X h v x
 |_,_,_,_,.nil,e=>by exact du e
 |_,_,0,_,.cons x _,e=>by simp at e;subst e;exact⟨_,rfl,x⟩
 |_,_,j+1,_,.cons _ r,e=>by simp only [wT]at e ⊢;exact r.get' e
theorem VRs.append:∀{vs ws:List V} {cs ds:List Value},VRs c as X h vs cs->VRs c as X h ws ds->VRs c as X h (vs++ws) (cs++ds)
 |_,_,_,_,.nil,k=>k
 |_,_,_,_,.cons x r,k=>.cons x (r.append k)
theorem VRs.take:∀{vs:List V} {cs:List Value} (n:Nat),VRs c as X h vs cs->VRs c as X h (vs.take n) (cs.take n)
 |_,_,0,_=>by simp only [List.take_zero];exact .nil
 |_,_,n+1,.nil=>by exact .nil
 |_,_,n+1,.cons x r=>by simp only [List.take_succ_cons];exact .cons x (r.take n)
theorem VRs.drop:∀{vs:List V} {cs:List Value} (n:Nat),VRs c as X h vs cs->VRs c as X h (vs.drop n) (cs.drop n)
 |_,_,0,k=>k
 |_,_,n+1,.nil=>by simp only [List.drop_nil];exact .nil
 |_,_,n+1,.cons x r=>by simp only [List.drop_succ_cons];exact r.drop n
theorem VRs.reverse:∀{vs:List V} {cs:List Value},VRs c as X h vs cs->VRs c as X h vs.reverse cs.reverse
 |_,_,.nil=>.nil
 |_,_,.cons x r=>by simp only [List.reverse_cons];exact r.reverse.append (.cons x .nil)
theorem VRs.set:∀{vs:List V} {cs:List Value} {v:V} {x:Value} (n:Nat),VRs c as X h vs cs->VR c as X h v x->VRs c as X h (vs.set n v) (cs.set n x)
 |_,_,_,_,_,.nil,_=>by simp only [List.set_nil];exact .nil
 |_,_,_,_,0,.cons _ r,k=>by simp only [List.set_cons_zero];exact .cons k r
 |_,_,_,_,n+1,.cons x r,k=>by simp only [List.set_cons_succ];exact .cons x (r.set n k)
theorem VRs.replicate{v:V}{x:Value}(k:VR c as X h v x):∀n:Nat,VRs c as X h (c7 n v) (c7 n x)
 |0=>.nil
 |n+1=>by simp only [List.replicate_succ];exact .cons k (VRs.replicate k n)
end
/- a frame stands twice in X -/
def SameO(X:List Addr)(b:Addr)(o o':Obj):Prop:=o'=o\/(2<=X.count b/\(∃es n,o.data=.dict es n)/\∃sl,o'={o with slots:=sl})
theorem SameO.trans{X:List Addr}{b:Addr}{o₁ o₂ o₃:Obj}(x:SameO X b o₁ o₂)(y:SameO X b o₂ o₃):SameO X b o₁ o₃:=by
 rcases x with rfl|⟨h1,h2,sl,rfl⟩
 ·exact y
 ·rcases y with rfl|⟨_,_,sl',rfl⟩
  ·exact .inr ⟨h1,h2,sl,rfl⟩
  ·exact .inr ⟨h1,h2,sl',rfl⟩
theorem SameO.eq{X:List Addr}{b:Addr}{o o':Obj}(x:SameO X b o o')(h:∀es n,o.data≠.dict es n):o'=o:=by
 refine Or.elim (x) (λe=>?_) (λq_=>?_)
 ·exact e
 ·obtain ⟨_,⟨es,n,h1⟩,_⟩:=q_;exact absurd h1 (h es n)
theorem SameO.out{X:List Addr}{b:Addr}{o o':Obj}(x:SameO X b o o')(h:b∉X):o'=o:=by
 refine Or.elim (x) (λe=>?_) (λq_=>?_)
 ·exact e
 ·(haveI h1:=q_.1;haveI _:=q_.2);replace h1:=(gm h)▸h1;cases h1
theorem SameO.mono{X Y:List Addr}{b:Addr}{o o':Obj}(x:SameO X b o o')(h:2<=X.count b->2<=Y.count b):SameO Y b o o':=x.imp id λ⟨a,r⟩=>⟨h a,r⟩
def Kept(as:bj)(X:List Addr)(h h':HP):Prop:=∀b o,h.get? b=some o->b∉as->∃o',h'.get? b=some o'/\SameO X b o o'
theorem Kept.refl(as:bj)(X:List Addr)(h:HP):Kept as X h h:=λ_ o e _=>⟨o,e,.inl rfl⟩
def KeptX(as:bj)(X Y:List Addr)(h h':HP):Prop:=∀b o,h.get? b=some o->b∉as->b∉Y->∃o',h'.get? b=some o'/\SameO X b o o'
def VK(as:bj)(X:List Addr)(h h':HP):Prop:=∀b o,h.get? b=some o->b∉as->b∉X->h'.get? b=some o
theorem Kept.y{as:bj}{X:List Addr}{h h':HP}(k:Kept as X h h')(Y:List Addr):KeptX as X Y h h':=λb o e hb _=>k b o e hb
theorem Kept.x{as:bj}{X:List Addr}{h h':HP}(k:Kept as X h h'):VK as X h h':=λb o e hb hx=>by
 refine ea1_2 (k b o e hb) ?_
 intro o' e' s
 simp only [e',s.out hx]
theorem KeptX.v{as:bj}{X Y:List Addr}{h h':HP}(k:KeptX as X Y h h')(hY:∀b∈Y,b∈X):VK as X h h':=λb o e hb hx=>by
 refine ea1_2 (k b o e hb λq=>hx (hY b q)) ?_
 intro o' e' s
 simp only [e',s.out hx]
structure Ext(as:bj)(h:HP)(as':bj):Prop where
 old:∀(i:Nat) (x:Addr),as[i]? =some x->as'[i]? =some x
 new:∀a,a∈as'->a∈as\/h.get? a=none
theorem Ext.refl(as:bj)(h:HP):Ext as h as:=⟨λ_ _ e=>e,λ_ e=>.inl e⟩
theorem Ext.trans{as as₁ as₂:bj}{X:List Addr}{h h₁:HP}(x:Ext as h as₁)(k:Kept as X h h₁)(y:Ext as₁ h₁ as₂):Ext as h as₂:=
 ⟨λi a e=>y.old i a (x.old i a e),λa ha=>(y.new a ha).elim (x.new a) λe1=>(Classical.em (a∈as)).imp id λhm=>optE (o:=h.get? a) id λo hq=>ea1_2 (k a o hq hm) λ_ e _=>du (e1.symm.trans e)⟩
theorem Ext.out{as as':bj}{h:HP}(x:Ext as h as'){b:Addr}{o:Obj}(e:h.get? b=some o)(hb:b∉as):b∉as':=λq=>(x.new b q).elim hb λq=>du (q.symm.trans e)
theorem Kept.trans{as as₁:bj}{X:List Addr}{h h₁ h₂:HP}(k:Kept as X h h₁)(x:Ext as h as₁)(k':Kept as₁ X h₁ h₂):Kept as X h h₂:=λb o e hb=>
 ea1_2 (k b o e hb) λo₁ e₁ s₁=>(k' b o₁ e₁ (x.out e hb)).imp λo₂ q=>⟨q.1,s₁.trans q.2⟩
theorem IsRange.same{h h':HP}{r:Addr}{a b:Int}{t₀ t₁ t₂:Tok}(x:IsRange h r a b 1 t₀ t₁ t₂)(k:∀o,h.get? r=some o->h'.get? r=some o):IsRange h' r a b 1 t₀ t₁ t₂:=k _ x
theorem KeptX.get{as:bj}{X Y:List Addr}{h h':HP}(k:KeptX as X Y h h'){b:Addr}{o:Obj}(e:h.get? b=some o)(hb:b∉as)(hx:b∉Y)(hc:∀es n,o.data≠.dict es n):h'.get? b=some o:=by
 refine ea1_2 (k b o e hb hx) ?_
 intro o' e' s
 simp only [e',s.eq hc]
theorem Kept.get{as:bj}{X:List Addr}{h h':HP}(k:Kept as X h h'){b:Addr}{o:Obj}(e:h.get? b=some o)(hb:b∉as)(hc:∀es n,o.data≠.dict es n):h'.get? b=some o:=by
 refine ea1_2 (k b o e hb) ?_
 intro o' e' s
 simp only [e',s.eq hc]
theorem DictOf.same{c:Cx}{h h':HP}{a:Addr}{kvs:List (Str×Value)}(x:h.DictOf c.kd a kvs)(k:∀o,h.get? a=some o->h'.get? a=some o):h'.DictOf c.kd a kvs:=by
 refine lJ x ?_
 intro o es ep ho hx r
 exact⟨o,es,ep,k o ho,hx,r⟩
theorem VRs.all{c:Cx}{as:bj}{X:List Addr}{h:HP}{P:V->Value->Prop}{vs:List V}{cs:List Value}(r:VRs c as X h vs cs)(R:List V->List Value->Prop)(hn:R [] [])(hc:∀v x vs cs,VR c as X h v x->R vs cs->R (v::vs) (x::cs)):R vs cs:=
 VRs.rec (motive_1:=λ_ _ _=>True) (motive_2:=λvs cs _=>R vs cs) trivial (λ_=>trivial) (λ_ _=>trivial) (λ_ _ _=>trivial) (λ_ _ _ _ _ _=>trivial) (λ_ _ _ _ _ _=>trivial) (λ_ _ _ _ _ _ _ _=>trivial) (λ_ _ _ _ _=>trivial) (λ_=>trivial) (λ_ _ _ _ _ _=>trivial) hn (λa _ _ ih=>hc _ _ _ _ a ih) r
theorem VR.gen{c:Cx}{as as':bj}{X X':List Addr}{h h':HP}(hk:∀a o,a∉as->a∉X->h.get? a=some o->a∉as'/\a∉X'/\h'.get? a=some o)
  (hr:∀(i:Nat) x,as[i]? =some x->as'[i]? =some x){v:V}{y:Value}(r:VR c as X h v y):VR c as' X' h' v y:=
 VR.rec (motive_1:=λv y _=>VR c as' X' h' v y) (motive_2:=λvs cs _=>VRs c as' X' h' vs cs) .none .bool .int .str
  (λha hx ho _ hb ih=>let q:=hk _ _ ha hx ho;.tup q.1 q.2.1 q.2.2 ih hb) (λha hx hp _ hb ih=>hp.elim λm ho=>let q:=hk _ _ ha hx ho;.lst q.1 q.2.1 ⟨m,q.2.2⟩ ih hb)
  (λha hx hsm hd hl _ hb ih=>lJ hd λo es ep ho hx' r=>let q:=hk _ _ ha hx ho;.dct q.1 q.2.1 hsm ⟨o,es,ep,q.2.2,hx',r⟩ hl ih hb) (λhr hx hi h1 h2=>let q:=hk _ _ hr hx hi;.rng q.1 q.2.1 q.2.2 h1 h2) (λe=>.ref (hr _ _ e)) (λha hx ho h1 h2 h3=>let q:=hk _ _ ha hx ho;.exc q.1 q.2.1 q.2.2 h1 h2 h3) .nil (λ_ _ i1 i2=>.cons i1 i2) r
theorem VRs.gen{c:Cx}{as as':bj}{X X':List Addr}{h h':HP}(hk:∀a o,a∉as->a∉X->h.get? a=some o->a∉as'/\a∉X'/\h'.get? a=some o)
  (hr:∀(i:Nat) x,as[i]? =some x->as'[i]? =some x){vs:List V}{cs:List Value}(r:VRs c as X h vs cs):VRs c as' X' h' vs cs:=
 VRs.all (P:=λ_ _=>True) r (λvs cs=>VRs c as' X' h' vs cs) .nil (λ_ _ _ _ a ih=>.cons (VR.gen hk hr a) ih)
theorem VR.keepX{c:Cx}{as as':bj}{X:List Addr}{h h':HP}(k:VK as X h h')(x:Ext as h as'){v:V}{y:Value}(r:VR c as X h v y):VR c as' X h' v y:=
 VR.gen (λ_ _ ha hx ho=>⟨x.out ho ha,hx,k _ _ ho ha hx⟩) x.old r
theorem VRs.keepX{c:Cx}{as as':bj}{X:List Addr}{h h':HP}(k:VK as X h h')(x:Ext as h as'){v:List V}{y:List Value}(r:VRs c as X h v y):VRs c as' X h' v y:=
 VRs.gen (λ_ _ ha hx ho=>⟨x.out ho ha,hx,k _ _ ho ha hx⟩) x.old r
theorem VR.keep{c:Cx}{as as':bj}{X:List Addr}{h h':HP}(k:Kept as X h h')(x:Ext as h as'){v:V}{y:Value}(z:VR c as X h v y):VR c as' X h' v y:=z.keepX k.x x
theorem VRs.keep{c:Cx}{as as':bj}{X:List Addr}{h h':HP}(k:Kept as X h h')(x:Ext as h as'){v:List V}{y:List Value}(z:VRs c as X h v y):VRs c as' X h' v y:=z.keepX k.x x
theorem VR.frames{c:Cx}{as:bj}{X Y:List Addr}{h:HP}(hy:∀b o,h.get? b=some o->b∉X->b∉Y){v:V}{y:Value}(r:VR c as X h v y):VR c as Y h v y:=
 VR.gen (λ_ _ ha hx ho=>⟨ha,hy _ _ ho hx,ho⟩) (λ_ _ e=>e) r
theorem VRs.frames{c:Cx}{as:bj}{X Y:List Addr}{h:HP}(hy:∀b o,h.get? b=some o->b∉X->b∉Y){v:List V}{y:List Value}(r:VRs c as X h v y):VRs c as Y h v y:=
 VRs.gen (λ_ _ ha hx ho=>⟨ha,hy _ _ ho hx,ho⟩) (λ_ _ e=>e) r
inductive InstAt(c:Cx)(as:bj)(h:HP)(a:Addr)(k d:Nat):Prop
 |mk (dx:Addr) (ob:Obj):as[d]? =some dx->h.get? a=some ob->ob.cls=.ref (c.ccls k)->ob.dict=some dx->(∀cd,ob.data≠.cls cd)->InstAt c as h a k d
def OR(c:Cx)(as:bj)(X:List Addr)(h:HP)(a:Addr):O->Prop
 |.list vs=>vs.length<=iu/\∃items,h.PlainList a items/\VRs c as X h vs items.toList
 |.dict ks vs=>vs.length<=iu/\(a==sysModules)=false/\∃cs,h.DictOf c.kd a ((ks.map toS).zip cs)/\ks.length=cs.length/\VRs c as X h vs cs
 |.inst k d=>InstAt c as h a k d
 |.ns ks vs=>vs.length<=iu/\∃cs mA,h.Ns1 a mA/\ks.length=cs.length/\VRs c as X h vs cs/\∀n,mA n=((ks.map toS).zip cs).lookup n
structure SR(c:Cx)(as:bj)(X:List Addr)(H:AH)(s:Shared):Prop where
 len:as.length=H.length
 stays:c.base.StaysIn s.heap
 gens:s.gens= #[]
 os:s.os=c.os
 objs:∀(i:Nat) (a:Addr),as[i]? =some a->c.base.get? a=none/\a∉X/\∃o,H[i]? =some o/\OR c as X s.heap a o
 inj:∀(i j:Nat) (a:Addr),as[i]? =some a->as[j]? =some a->i=j
 xs:∀b∈X,∃o,s.heap.get? b=some o
theorem OR.keepX{c:Cx}{as:bj}{X:List Addr}{h h':HP}{a:Addr}{o:O}(k:VK as X h h')(ha:∀ob,h.get? a=some ob->h'.get? a=some ob):OR c as X h a o->OR c as X h' a o:=by
 intro x
 induction o with
 |list vs=>
  obtain⟨hb,items,⟨n,e⟩,r⟩:=x
  exact⟨hb,items,⟨n,ha _ e⟩,r.keepX k (.refl ..)⟩
 |dict ks vs=>
  refine ea0_3 x ?_
  intro hb hsm r_3
  refine eO r_3 ?_
  intro cs hd hl r
  exact⟨hb,hsm,cs,DictOf.same hd ha,hl,r.keepX k (.refl ..)⟩
 |inst k d=>
  obtain⟨dx,ob,e1,e2,r1,r2,r3⟩:=x
  exact⟨dx,ob,e1,ha _ e2,r1,r2,r3⟩
 |ns ks vs=>
  obtain⟨hb,cs,mA,hn,hl,r,hm⟩:=x
  exact⟨hb,cs,mA,hn.at ha,hl,r.keepX k (.refl ..),hm⟩
theorem OR.here{c:Cx}{as:bj}{X:List Addr}{h:HP}{a:Addr}{o:O}(x:OR c as X h a o):∃ob,h.get? a=some ob:=by
 induction o with
 |list vs=>obtain⟨_,_,⟨n,e⟩,_⟩:=x;exact⟨_,e⟩
 |dict ks vs=>obtain⟨_,_,_,⟨o,_,_,e,hx,_⟩,_⟩:=x;exact⟨_,e⟩
 |inst k d=>obtain⟨_,_,_,e⟩:=x;exact⟨_,e⟩
 |ns ks vs=>obtain⟨_,_,_,⟨o,_,_,e,_⟩,_⟩:=x;exact⟨o,e⟩
theorem OR.frames{c:Cx}{as:bj}{X Y:List Addr}{h:HP}{a:Addr}{o:O}(hy:∀b o,h.get? b=some o->b∉X->b∉Y):OR c as X h a o->OR c as Y h a o:=by
 intro x
 induction o with
 |list vs=>refine ce (x) λhb q_=>cU q_ λitems q_=>ce q_ λhp r=>?_;exact⟨hb,items,hp,r.frames hy⟩
 |dict ks vs=>obtain⟨hb,hsm,cs,hd,hl,r⟩:=x;exact⟨hb,hsm,cs,hd,hl,r.frames hy⟩
 |inst k d=>exact x
 |ns ks vs=>obtain⟨hb,cs,mA,hn,hl,r,hm⟩:=x;exact⟨hb,cs,mA,hn,hl,r.frames hy,hm⟩
noncomputable def only(h:HP)(p:Addr->Bool):HP:={h with objs:=h.objs.mapIdx λi o=>if p i=true then o else {cls:=.none,dict:=none,data:=.freed,slots:=#[]}}
theorem uj{h:HP}{p:Addr->Bool}(a:Addr):(only h p).get? a=if p a=true then h.get? a else none:=by
 unfold only Heap.get?
 rw [Array.getElem?_mapIdx]
 refine optE (o:=h.objs[a]?) (λhe=>?_) (λo he=>?_)
 ·rw [he];simp
 ·rw [he]
  by_cases hp:p a=true
  ·simp [hp]
  ·simp [hp]
def Grown(h h':HP):Prop:=∀b o,h.get? b=some o->h'.get? b=some o
theorem Grown.refl(h:HP):Grown h h:=λ_ _ e=>e
theorem Grown.push(h:HP)(o:Obj):Grown h (h.push o):=λ_ _ e=>aQ _ e
theorem Grown.trans{h h' h'':HP}(a:Grown h h')(b:Grown h' h''):Grown h h'':=λx o e=>b x o (a x o e)
theorem Grown.kept{h h':HP}(g:Grown h h')(as:bj)(X:List Addr):Kept as X h h':=λb o e _=>⟨o,g b o e,.inl rfl⟩
theorem SR.keepX{c:Cx}{as:bj}{X:List Addr}{H:AH}{s s':Shared}(x:SR c as X H s)(k:VK [] X s.heap s'.heap)(hst:c.base.StaysIn s'.heap)(hx:∀b∈X,∃o,s'.heap.get? b=some o)(hg:s'.gens=s.gens)(ho:s'.os=s.os):SR c as X H s' where
 len:=x.len
 stays:=hst
 gens:=hg.trans x.gens
 os:=ho.trans x.os
 objs:=λi a e=>by
  refine ea0_3 (x.objs i a e) ?_
  intro h1 h2 r_3
  refine ea1_2 r_3 ?_
  intro o h3 h4
  exact⟨h1,h2,o,h3,h4.keepX (λb o e _ hb=>k b o e (λq=>nomatch q) hb) λob e=>k _ _ e (λq=>nomatch q) h2⟩
 inj:=x.inj
 xs:=hx
theorem SR.grow{c:Cx}{as:bj}{X:List Addr}{H:AH}{s s':Shared}(x:SR c as X H s)(g:Grown s.heap s'.heap)(hg:s'.gens=s.gens)(ho:s'.os=s.os):SR c as X H s':=
 x.keepX (g.kept [] X).x (λb o e=>g b o (x.stays b o e)) (λb hb=>let⟨o,e⟩:=x.xs b hb;⟨o,g b o e⟩) hg ho
theorem SR.frames{c:Cx}{as:bj}{X Y:List Addr}{H:AH}{s:Shared}(x:SR c as X H s)(hy:∀b o,s.heap.get? b=some o->b∉X->b∉Y)(hx:∀b∈Y,∃o,s.heap.get? b=some o):SR c as Y H s where
 len:=x.len
 stays:=x.stays
 gens:=x.gens
 os:=x.os
 objs:=λi a e=>by
  refine ea0_3 (x.objs i a e) ?_
  intro h1 h2 r_3
  refine ea1_2 r_3 ?_
  intro o h3 h4
  obtain⟨ob,e'⟩:=h4.here
  exact⟨h1,hy _ _ e' h2,o,h3,OR.frames hy h4⟩
 inj:=x.inj
 xs:=hx
inductive Res(c:Cx)(as:bj)(X:List Addr)(h:HP)(Q:QE)(x:Value)(s':Shared):Prop
 |mk (v:V) (H':AH) (as':bj):Ext as h as'->SR c as' X H' s'->Kept as X h s'.heap->VR c as' X s'.heap v x->Q v H'->Res c as X h Q x s'
theorem Res.grow{c:Cx}{as:bj}{X:List Addr}{H:AH}{s s':Shared}{Q:QE}{v:V}{x:Value}(S:SR c as X H s)(g:Grown s.heap s'.heap)(hg:s'.gens=s.gens)(ho:s'.os=s.os)(hv:VR c as X s'.heap v x)(q:Q v H):Res c as X s.heap Q x s':=
 ⟨v,H,as,.refl ..,S.grow g hg ho,g.kept as X,hv,q⟩
theorem Res.now{c:Cx}{as:bj}{X:List Addr}{H:AH}{s:Shared}{Q:QE}{v:V}{x:Value}{tk:Nat}(S:SR c as X H s)(hv:VR c as X s.heap v x)(q:Q v H):Res c as X s.heap Q x {s with toks:=tk}:=
 Res.grow (s':={s with toks:=tk}) S (.refl _) rfl rfl hv q
theorem VR.grow{c:Cx}{as:bj}{X:List Addr}{h h':HP}{v:V}{x:Value}(g:Grown h h')(k:VR c as X h v x):VR c as X h' v x:=k.keep (g.kept as X) (.refl ..)
theorem VRs.grow{c:Cx}{as:bj}{X:List Addr}{h h':HP}{v:List V}{x:List Value}(g:Grown h h')(k:VRs c as X h v x):VRs c as X h' v x:=k.keep (g.kept as X) (.refl ..)
def Fr(as:bj)(h:HP)(a:Addr):Prop:=a∈as\/h.get? a=none
theorem Kept.less{as:bj}{X Y:List Addr}{h h':HP}(k:Kept as Y h h')(hY:∀b,2<=Y.count b->2<=X.count b\/Fr as h b):Kept as X h h':=λb o e hb=>by
 refine ea1_2 (k b o e hb) ?_
 intro o' e' s
 exact⟨o',e',s.mono λq=>(hY b q).elim id λr=>r.elim (λr=>absurd r hb) λr=>by replace e:=(r).symm.trans e;cases e⟩
theorem Kept.more{as:bj}{X Y:List Addr}{h h':HP}(k:Kept as X h h')(hY:∀b,X.count b<=Y.count b):Kept as Y h h':=λb o e hb=>by
 refine ea1_2 (k b o e hb) ?_
 intro o' e' s
 exact⟨o',e',s.mono λq=>aa q (hY b)⟩
theorem Kept.one{as:bj}{a:Addr}{X:List Addr}{h h':HP}{o:Obj}(k:Kept as (a::X) h h')(hx:a∉X)(e:h.get? a=some o)(ha:a∉as):h'.get? a=some o:=by
 refine ea1_2 (k a o e ha) ?_
 intro o' e' s
 rcases s with rfl|⟨q,_⟩
 ·exact e'
 ·rw [kL,gm hx]at q;exact absurd q (by decide)
theorem s3{a b:Addr}{X:List Addr}(h:2<=(a::X).count b):b=a\/2<=X.count b:=by
 by_cases e:b=a
 ·exact .inl e
 ·rw [List.count_cons_of_ne (Ne.symm e)]at h;exact .inr h
theorem Fi{P:Addr->Prop}{a:Addr}{X:List Addr}(h:P a)(k:∀b,2<=X.count b->P b):∀b,2<=(a::X).count b->P b:=λb hb=>(s3 hb).elim (λe=>e▸h) (k b)
theorem Grown.none{h h':HP}{q:Addr}(g:Grown h h')(e:h'.get? q=none):h.get? q=none:=by
 cases hq:h.get? q with
 |none=>rfl
 |some o=>exact du (e.symm.trans (g _ _ hq))
theorem vJ{h:HP}{a b:Addr}{o:Obj}(ea:h.get? a=some o)(eb:h.get? b=none):a≠b:=λq=>du (eb.symm.trans (q▸ea))
theorem Kept.fr{as:bj}{X:List Addr}{h h':HP}{a:Addr}(k:Kept as X h h')(ha:h'.get? a=none):Fr as h a:=by
 by_cases hm:a∈as
 ·exact .inl hm
 ·refine optE (o:=h.get? a) (λhq=>?_) (λo hq=>?_)
  ·exact .inr hq
  ·refine cU (k a o hq hm) λo' q_=>ce q_ λe _=>?_;exact nomatch (e).symm.trans ha
theorem Fr.lift{as as₁:bj}{X:List Addr}{h h₁:HP}{a:Addr}(e:Ext as h as₁)(k:Kept as X h h₁)(x:Fr as₁ h₁ a):Fr as h a:=x.elim (e.new a) k.fr
section
variable {c:Cx}{A:Around}{E:Value->Shared->Prop}{s:Shared}{as:bj}{X:List Addr}{H:AH}{Q:QE}
theorem b0:au<=sizeLine:=by decide
theorem di:au+5<=iu:=by decide
theorem ng:(iu:Int)<2 ^ 62:=by decide
theorem jP{i:Int}(h:bB i=true):i.natAbs<2 ^ 41:=by
 haveI h:=of_decide_eq_true h
 exact dw ((Int.natAbs_eq i).elim (λe=>aX.mp (aV (gX e.symm) h.2)) λe=>aX.mp (Int.le_of_neg_le_neg (aV h.1 (gX e)))) (by decide:10 ^ 12<2 ^ 41)
theorem lD{i:Int}(h:i.natAbs<2 ^ 41):i.natAbs.log2<41:=by
 by_cases h0:i.natAbs=0
 ·rw [h0];decide
 ·exact (Nat.log2_lt h0).mpr h
theorem tZ{i:Int}(h:0<i/\i<=10 ^ 12):i.natAbs.log2<9000:=by
 exact y9 (lD (i:=i) (jP (decide_eq_true ⟨aV (by decide) (dj h.1),h.2⟩))) (by decide)
theorem qL{i:Int}(h:bB i=true):CP i<=64:=by
 haveI:=lD (jP h)
 unfold CP
 split<;>first|exact g9 this (by simp+arith only)|decide
theorem dY(S:SR c as X H s):s.heap.objs.size∉as:=λq=>by
 obtain⟨i,hi⟩:=bW q
 refine ea0_3 (S.objs i _ hi) ?_
 intro _ _ r_3
 refine ea1_2 r_3 ?_
 intro o _ ho
 obtain⟨ob,e⟩:=OR.here ho
 exact absurd (c5 e) (b6 _)
theorem fG(S:SR c as X H s):s.heap.objs.size∉X:=λq=>by
 refine cU (S.xs _ q) λo e=>?_
 exact absurd (c5 e) (b6 _)
theorem mM{items:Array Value}{vs:List V}{n:Nat}(S:SR c as X H s)(hv:VRs c as X s.heap vs items.toList)(hb:vs.length<=iu)(q:Q (.tup vs) H) :
  Res c as X s.heap Q (.ref s.heap.objs.size) {s with heap:=s.heap.push {cls:=.type "tuple",data:=.seq items n}}:=
 Res.grow (s':={s with heap:=s.heap.push {cls:=.type "tuple",data:=.seq items n}}) S (.push _ _) rfl rfl (.tup (dY S) (fG S) (aE _ rfl) (hv.grow (.push _ _)) hb) q
theorem wI{items:Array Value}{vs:List V}{n:Nat}(S:SR c as X H s)(hv:VRs c as X s.heap vs items.toList)(hb:vs.length<=iu)(q:Q (.lst vs) H) :
  Res c as X s.heap Q (.ref s.heap.objs.size) {s with heap:=s.heap.push {cls:=.type "list",data:=.seq items n}}:=
 Res.grow (s':={s with heap:=s.heap.push {cls:=.type "list",data:=.seq items n}}) S (.push _ _) rfl rfl (.lst (dY S) (fG S) ⟨n,aE _ rfl⟩ (hv.grow (.push _ _)) hb) q
inductive ViewAt(c:Cx)(as:bj)(X:List Addr)(h:HP)(vs:List V)(x:Value):Prop
 |mk (a:Addr) (items:Array Value):x=.ref a->h.PlainList a items->VRs c as X h vs items.toList->vs.length<=iu->a∉X->ViewAt c as X h vs x
theorem dF{v:V}{x:Value}{vs:List V}(S:SR c as X H s)(hv:VR c as X s.heap v x)(e:dM H v=some vs):ViewAt c as X s.heap vs x:=by
 cases wZ e with
 |lst=>cases hv.inv with|lst ha hx hp r hb=>exact⟨_,_,rfl,hp,r,hb,hx⟩
 |ref ho'=>
  cases hv.inv with
  |ref hi=>
   refine ea0_3 (S.objs _ _ hi) ?_
   intro _ hx r_3
   refine ea1_2 r_3 ?_
   intro o ho hr
   replace ho:=ho.symm.trans ho'
   (replace ho:=ah ho;subst ho)
   exact⟨_,hr.2.choose,rfl,hr.2.choose_spec.1,hr.2.choose_spec.2,hr.1,hx⟩
inductive DictAt(c:Cx)(as:bj)(X:List Addr)(h:HP)(d:List (List Char)×List V)(x:Value):Prop
 |mk (a:Addr) (cs:List Value):x=.ref a->(a==sysModules)=false->h.DictOf c.kd a ((d.1.map toS).zip cs)->d.1.length=cs.length->VRs c as X h d.2 cs->d.2.length<=iu->DictAt c as X h d x
theorem jA{v:V}{x:Value}{d:List (List Char)×List V}(S:SR c as X H s)(hv:VR c as X s.heap v x)(e:gz H v=some d):DictAt c as X s.heap d x:=by
 cases uR e with
 |dct=>cases hv.inv with|dct ha _ hsm hp hl r hb=>exact⟨_,_,rfl,hsm,hp,hl,r,hb⟩
 |ref ho'=>
  cases hv.inv with
  |ref hi=>
   refine ea0_3 (S.objs _ _ hi) ?_
   intro _ _ r_3
   refine ea1_2 r_3 ?_
   intro o ho hr
   replace ho:=ho.symm.trans ho'
   (replace ho:=ah ho;subst ho)
   refine ea0_3 hr ?_
   intro hb hsm r_3
   refine eO r_3 ?_
   intro cs hp hl r
   exact⟨_,cs,rfl,hsm,hp,hl,r,hb⟩
theorem qy(a b:List Char):toS a++toS b=toS (a++b):=by
 refine(?_:Str.append _ _=_)
 simp [toS,Str.append]
theorem c9(a:List Char):(toS a).length=a.length:=by simp [toS,Str.length]
theorem p5{x y:V}{cx cy:Value}{xs ys:List V}(S:SR c as X H s)(hx:VR c as X s.heap x cx)(hy:VR c as X s.heap y cy)(ex:dM H x=some xs)(ey:dM H y=some ys)
  (hz:xs.length+ys.length<=au)(q:Q (.lst (xs++ys)) H):wpAny c.M A (binaryOp .Add cx cy) (Res c as X s.heap Q) E s:=by
 replace hx:=dF S hx ex
 obtain⟨a,its,rfl,⟨n,ha⟩,ra,_⟩:=hx
 replace hy:=dF S hy ey
 obtain⟨b,its',rfl,⟨n',hb⟩,rb,_⟩:=hy
 haveI l1:=ra.length
 haveI l2:=rb.length
 refine P.add_list ha hb (wI S ?_ (by rw [af];haveI:=di;exact g9 hz (g9 this (by simp+arith only))) q) ?_
 ·simp only [gH];exact ra.append rb
 ·simp only [<-bk,<-bk,<-l1,<-l2]
  exact aa hz b0
noncomputable def vd:Bop->Operator
 |.add=>.Add|.sub=>.Sub|.mul=>.Mult|.fdiv=>.FloorDiv|.mod=>.Mod|.pow=>.Pow
inductive Int2R(f:Int->Int->Option Int):V->V->V->Prop
 |mk {a b z:Int}:f a b=some z->Int2R f (.int a) (.int b) (.int z)
theorem vn(f:Int->Int->Option Int)(x y:V):Is (ml f x y) (Int2R f x y):=by
 cases x with
 |int a=>
  cases y with
  |int b=>exact Is.self.map λ_ h1=>.mk h1
  |_=>exact trivial
 |_=>exact trivial
theorem sY{f:Int->Int->Option Int}{x y r:V}(e:ml f x y=some r):Int2R f x y r:=(vn f x y).of e
theorem sK{cx cy:Value}{xs ys:List V}(S:SR c as X H s)(hx:VR c as X s.heap (.tup xs) cx)(hy:VR c as X s.heap (.tup ys) cy)
  (hz:xs.length+ys.length<=au)(q:Q (.tup (xs++ys)) H):wpAny c.M A (binaryOp .Add cx cy) (Res c as X s.heap Q) E s:=by
 cases hx.inv with
 |@tup a its n ha1 hax ha ra hab=>
  cases hy.inv with
  |@tup b its' n' hb1 hbx hb rb hbb=>
   haveI l1:=ra.length
   haveI l2:=rb.length
   by_cases e1:its.isEmpty=true
   ·have:its= #[]:=by simpa using e1
    (replace this:=Eq.symm this;cases this)
    cases ra
    refine concat_meets ⟨_,ha,rfl⟩ ⟨_,hb,rfl⟩ noFill_tuple_add seq_tuple_add F.slot_tuple_add F.entry_tuple_add (F.args_tuple_add_2 _ _) (AutoSeq1.tuple___add___tuple_tuple_0 _ _ _ _ _ _ e1) ⟨ha,hb,?_⟩
    exact Res.now (tk:=s.toks) S (.tup hb1 hbx hb rb hbb) q
   ·by_cases e2:its'.isEmpty=true
    ·haveI:its'= #[]:=by simpa using e2
     subst this
     cases rb
     refine concat_meets ⟨_,ha,rfl⟩ ⟨_,hb,rfl⟩ noFill_tuple_add seq_tuple_add F.slot_tuple_add F.entry_tuple_add (F.args_tuple_add_2 _ _) (AutoSeq1.tuple___add___tuple_tuple_1 _ _ _ _ _ _ e1 e2) ⟨ha,hb,?_⟩
     exact Res.now (tk:=s.toks) S (.tup ha1 hax ha (by simpa using ra) (by simpa using hab)) (by simpa using q)
    ·refine P.add_tuple ha hb e1 e2 (mM S ?_ (by rw [af];haveI:=di;exact g9 hz (g9 this (by simp+arith only))) q) ?_
     ·exact (gH).symm▸ra.append rb
     ·simp only [<-bk,<-bk,<-l1,<-l2]
      exact aa hz b0
inductive AddR(H:AH):V->V->V->Prop
 |int (a b:Int):AddR H (.int a) (.int b) (.int (a+b))
 |str {a b:List Char}:a.length+b.length<=au->AddR H (.str a) (.str b) (.str (a++b))
 |tup {a b:List V}:a.length+b.length<=au->AddR H (.tup a) (.tup b) (.tup (a++b))
 |lst {x y:V} {xs ys:List V}:dM H x=some xs->dM H y=some ys->xs.length+ys.length<=au->AddR H x y (.lst (xs++ys))
theorem Cv(x y:V):Is (Dy H x y) (AddR H x y):=Is.self.bind λ_ h1=>Is.self.bind λ_ h2=>Is.ite λh3=>.lst h1 h2 h3
theorem mR{x y r:V}(e:AP H x y=some r):AddR H x y r:=by
 refine Is.of (R:=AddR H x y) ?_ e
 clear e
 cases x with
 |int i=>exact(vn _ _ _).imp λ_ h=>by cases h with|mk h=>exact ah h▸.int _ _
 |str a=>
  cases y with
  |str b=>exact Is.ite .str
  |_=>exact trivial
 |tup a=>
  cases y with
  |tup b=>exact Is.ite .tup
  |_=>exact trivial
 |_=>exact Cv _ _
theorem xL{o:Bop}{op:Operator}{x y r:V}{cx cy:Value}(S:SR c as X H s)(hx:VR c as X s.heap x cx)(hy:VR c as X s.heap y cy)
  (ho:op=vd o)
  (e:vE o x y H=some r)(q:Q r H):wpAny c.M A (binaryOp op cx cy) (Res c as X s.heap Q) E s:=by
 subst ho
 have hI:∀{f:Int->Int->Option Int},ml f x y=some r->(∀{a b z:Int} {t t':Tok},f a b=some z->Q (.int z) H->wpAny c.M A (binaryOp (vd o) (.int a t) (.int b t')) (Res c as X s.heap Q) E s)->wpAny c.M A (binaryOp (vd o) cx cy) (Res c as X s.heap Q) E s:=λe k=>by
  cases sY e with
  |mk h=>
   cases hx.inv
   cases hy.inv
   exact k h q
 induction o with
 |add=>
  clear hI
  cases mR e with
  |int a b=>
   cases hx.inv
   cases hy.inv
   exact add_int (Res.now S (.int _ _) q)
  |str h=>
   cases hx.inv
   cases hy.inv
   refine add_str (λt' tk=>?_) ?_
   ·rw [qy];exact Res.now S (.str _ _ (by rw [af];exact aa h (aa (ay _ 5) di))) q
   ·rw [c9,c9];exact aa h b0
  |tup h=>exact sK S hx hy h q
  |lst h1 h2 h=>exact p5 S hx hy h1 h2 h q
 |sub=>exact hI e λh q=>by(replace h:=ah h;subst h);exact sub_int (Res.now S (.int _ _) q)
 |mul=>
  exact hI e λh q=>by
   (refine ce (b8 h) λh5 e_1=>?_;subst e_1)
   exact PyProof.Rows.mul_int (Res.now S (.int _ _) q) (.of_left (qL (aj.mp h5).1))
 |fdiv=>
  exact hI e λh q=>by
   (refine ce (b8 h) λh5 e_1=>?_;subst e_1)
   refine PyProof.Rows.floordiv_int (jV h5.1) ?_ (.inl (PyProof.noPylong_of_log2 (tZ h5)))
   rw [Int.fdiv_eq_ediv_of_nonneg _ (dj h5.1)];exact Res.now S (.int _ _) q
 |mod=>
  exact hI e λh q=>by
   (refine ce (b8 h) λh5 e_1=>?_;subst e_1)
   refine PyProof.Rows.mod_int (jV h5) ?_
   rw [Int.fmod_eq_emod_of_nonneg _ (dj h5)];exact Res.now S (.int _ _) q
 |pow=>
  exact hI e λh q=>by
   obtain⟨⟨rfl,h1,h2⟩,rfl⟩:=b8 h
   exact pow_int_small h1 (by exact lK h2 (by simp+arith only)) (by decide) (Res.now S (.int _ _) q)
mutual
noncomputable def ut:V->PyData
 |.none=>.none
 |.bool b=>.bool b
 |.int i=>.int i
 |.str x=>.str (toS x)
 |.tup vs=>.tuple (jv vs)
 |.lst vs=>.list (jv vs)
 |.dct _ _|.rng _ _|.ref _|.exc _=>.none
noncomputable def jv:List V->List PyData
 |[]=>[]
 |v::vs=>ut v::jv vs
end
theorem sQ(s:List Char):PyData.strOk (toS s)=true:=by
 simp only [PyData.strOk,toS,Array.all_eq_true]
 intro i hi
 simp only [dH,ak]at hi
 haveI h:((s.map Char.toNat).toArray)[i]=(s[i]).toNat:=by simp
 haveI hv:=(s[i]).valid
 simp only [decide_eq_true_eq]
 have:((s.map Char.toNat).toArray)[i]<0x110000:=by
  rw [h]
  exact Or.elim hv (λh=>y9 h (by decide)) λh=>h.2
 exact this
mutual
theorem jj:∀v:V,v.data=true->(ut v).canLay0=true/\(ut v).depth=v.depth
 |.none,_=>⟨rfl,rfl⟩
 |.bool _,_=>⟨rfl,rfl⟩
 |.int _,_=>⟨rfl,rfl⟩
 |.str s,_=>⟨sQ s,rfl⟩
 |.tup vs,h=>⟨(gU vs h).1,congrArg (·+1) (gU vs h).2⟩
 |.lst vs,h=>⟨(gU vs h).1,congrArg (·+1) (gU vs h).2⟩
 |.dct _ _,h=>nomatch h
 |.rng _ _,h=>nomatch h
 |.ref _,h=>nomatch h
theorem gU:∀vs:List V,V.datas vs=true->PyData.canLayAll0 (jv vs)=true/\PyData.depthAll (jv vs)=V.depths vs
 |[],_=>⟨rfl,rfl⟩
 |v::vs,h=>by
  have h':=aj.mp h
  haveI a:=jj v h'.1
  haveI b:=gU vs h'.2
  exact⟨aj.mpr ⟨a.1,b.1⟩,congr (congrArg max a.2) b.2⟩
end
theorem lr{c:Cx}{as:bj}{X:List Addr}{h:HP}{v:V}{x:Value}(r:VR c as X h v x):v.data=true->∃l,Reads h x (ut v) l:=
 VR.rec (motive_1:=λv x _=>v.data=true->∃l,Reads h x (ut v) l) (motive_2:=λvs xs _=>V.datas vs=true->∃l,ReadsAll h xs (jv vs) l)
  (λ_=>⟨_,.none⟩) (λb _=>⟨_,.bool b⟩) (λi t _=>⟨_,.int i t⟩) (λs t _ _=>⟨_,.str _ t⟩)
  (λ_ _ ho _ _ ih hd=>(ih hd).elim λl q=>⟨l,.tuple ho rfl rfl q⟩) (λ_ _ hp _ _ ih hd=>hp.elim λ_ ho=>(ih hd).elim λ_ q=>⟨_,.list ho rfl rfl q⟩)
  (λ_ _ _ _ _ _ _ _ hd=>absurd hd ag) (λ_ _ _ _ _ hd=>absurd hd ag) (λ_ hd=>absurd hd ag) (λ_ _ _ _ _ _ hd=>absurd hd ag)
  (λ_=>⟨_,.nil⟩) (λ_ _ i1 i2 hd=>(i1 (aj.mp hd).1).elim λ_ q=>(i2 (aj.mp hd).2).elim λ_ q'=>⟨_,.cons q q'⟩) r
theorem mL{c:Cx}{as:bj}{X:List Addr}{h:HP}{vs:List V}{xs:List Value}(r:VRs c as X h vs xs):V.datas vs=true->∃l,ReadsAll h xs (jv vs) l:=
 VRs.all (P:=λ_ _=>True) r (λvs xs=>V.datas vs=true->∃l,ReadsAll h xs (jv vs) l) (λ_=>⟨_,.nil⟩) λ_ _ _ _ a ih hd=>(lr a (aj.mp hd).1).elim λ_ q=>(ih (aj.mp hd).2).elim λ_ q'=>⟨_,.cons q q'⟩
theorem sr(a b:List Char):(toS a==toS b)=(a==b):=by
 by_cases h:a=b
 ·subst h;simp
 ·haveI:toS a≠toS b:=λe=>h (gO e)
  simp only [beq_eq_false_iff_ne.mpr h,beq_eq_false_iff_ne.mpr this]
mutual
theorem kX:∀v w:V,v.data=true->w.data=true->PyData.eqv (ut v) (ut w)=fN v w
 |.lst vs,w,hv,hw=>by
  cases w with
  |lst ws=>exact lR vs ws hv hw
  |_=>first|rfl|cases hw
 |.tup vs,w,hv,hw=>by
  cases w with
  |tup ws=>exact lR vs ws hv hw
  |_=>first|rfl|cases hw
 |.none,w,_,hw=>by cases w<;>first|rfl|cases hw
 |.bool _,w,_,hw=>by cases w<;>first|rfl|cases hw
 |.int _,w,_,hw=>by cases w<;>first|rfl|cases hw
 |.str _,w,_,hw=>by cases w<;>first|rfl|(cases hw;done)|exact sr _ _
 |.dct _ _,_,h,_=>nomatch h
 |.rng _ _,_,h,_=>nomatch h
 |.ref _,_,h,_=>nomatch h
theorem lR:∀vs ws:List V,V.datas vs=true->V.datas ws=true->PyData.eqvAll (jv vs) (jv ws)=oa vs ws
 |[],[],_,_=>rfl
 |[],_::_,_,_=>rfl
 |_::_,[],_,_=>rfl
 |v::vs,w::ws,hv,hw=>by
  have h1:=aj.mp hv
  haveI h2:=aj.mp hw
  exact congr (congrArg and (kX v w h1.1 h2.1)) (lR vs ws h1.2 h2.2)
end
theorem jQ(w:V)(hw:w.data=true):∀vs:List V,V.datas vs=true->((jv vs).any λy=>PyData.eqv y (ut w))=vs.any λy=>fN y w
 |[],_=>rfl
 |v::vs,h=>by
  have h1:=aj.mp h
  exact congr (congrArg or (kX v w h1.1 hw)) (jQ w hw vs h1.2)
theorem Au{v v':V}(e:rdD v=some v'):(V.data v&&decide (V.depth v<=50))=true/\v'=v:=⟨(b8 e).1,(b8 e).2.symm⟩
theorem Dl{v v':V}(e:rd H v=some v'):(∃vs,dM H v=some vs/\CJ vs=true/\v'=.lst vs)\/(V.data v&&decide (V.depth v<=50))=true/\v'=v:=by
 cases v with
 |ref i=>refine cU (bX e) λvs q_=>ce q_ λh1 e=>?_;exact .inl ⟨vs,h1,(b8 e).1,(b8 e).2.symm⟩
 |_=>exact .inr (Au e)
theorem la{vs:List V}(h:CJ vs=true):V.datas vs=true/\V.depths vs<=50:=⟨(aj.mp h).1,of_decide_eq_true (aj.mp h).2⟩
inductive RdAt(h:HP)(v':V)(x:Value):Prop
 |mk:v'.data=true->v'.depth<=51->(l:List Addr)->Reads h x (ut v') l->RdAt h v' x
theorem m5{v v':V}{x:Value}(S:SR c as X H s)(hv:VR c as X s.heap v x)(e:rd H v=some v'):RdAt s.heap v' x:=by
 refine Or.elim (Dl e) (λq_=>?_) (λq_=>?_)
 ·obtain ⟨vs,hvs,hd,rfl⟩:=q_;haveI hd:=la hd
  replace S:=dF S hv hvs
  obtain⟨a,items,rfl,⟨n,ho⟩,r,_⟩:=S
  obtain⟨l,q⟩:=mL r hd.1
  exact⟨hd.1,ax hd.2,_,.list ho rfl rfl q⟩
 ·obtain ⟨hd,rfl⟩:=q_;haveI hd:=aj.mp hd
  obtain⟨l,q⟩:=lr hv hd.1
  exact⟨hd.1,n3 (of_decide_eq_true hd.2),l,q⟩
theorem FS{x y x' y':V}{cx cy:Value}(S:SR c as X H s)(hx:VR c as X s.heap x cx)(hy:VR c as X s.heap y cy)(ex:rd H x=some x')(ey:rd H y=some y')(hu:A.units+64<cLine)
  (q:Q (.bool (fN x' y')) H):wpAny c.M A (compareOp .Eq cx cy) (Res c as X s.heap Q) E s:=by
 obtain⟨d1,d2,l1,r1⟩:=m5 S hx ex
 obtain⟨d3,d4,l2,r2⟩:=m5 S hy ey
 haveI o1:=jj _ d1
 haveI o2:=jj _ d3
 refine eq_dataH r1 r2 ?_ ?_ hu ?_
 ·unfold SeqAt.shaped;rw [o1.1,eA,o1.2];exact decide_eq_true (by exact g9 d2 (by simp+arith only))
 ·unfold SeqAt.shaped;rw [o2.1,eA,o2.2];exact decide_eq_true (by exact g9 d4 (by simp+arith only))
 ·rw [kX _ _ d1 d3];exact Res.now (tk:=s.toks) S (.bool _) q
theorem FD{x y x' y':V}{cx cy:Value}(S:SR c as X H s)(hx:VR c as X s.heap x cx)(hy:VR c as X s.heap y cy)(ex:rd H x=some x')(ey:rd H y=some y')(hu:A.units+64<cLine)
  (q:Q (.bool (!fN x' y')) H):wpAny c.M A (compareOp .NotEq cx cy) (Res c as X s.heap Q) E s:=by
 obtain⟨d1,d2,l1,r1⟩:=m5 S hx ex
 obtain⟨d3,d4,l2,r2⟩:=m5 S hy ey
 haveI o1:=jj _ d1
 haveI o2:=jj _ d3
 refine ne_dataH r1 r2 ?_ ?_ hu ?_
 ·unfold SeqAt.shaped;rw [o1.1,eA,o1.2];exact decide_eq_true (by exact g9 d2 (by simp+arith only))
 ·unfold SeqAt.shaped;rw [o2.1,eA,o2.2];exact decide_eq_true (by exact g9 d4 (by simp+arith only))
 ·rw [kX _ _ d1 d3];exact Res.now (tk:=s.toks) S (.bool _) q
theorem uH{x y:V}{cx cy:Value}{b:Bool}(S:SR c as X H s)(hx:VR c as X s.heap x cx)(hy:VR c as X s.heap y cy)(e:FG H x y=some b):plainIs cx cy=true/\(cx==cy)=b:=by
 refine Is.of (R:=λb=>plainIs cx cy=true/\(cx==cy)=b) ?_ e
 clear e
 cases y with
 |none=>
  cases hy.inv
  clear hy
  cases hx with
  |ref _=>exact Is.ite λ_=>⟨rfl,rfl⟩
  |rng=>exact trivial
  |exc=>exact trivial
  |_=>exact⟨rfl,rfl⟩
 |bool t=>
  cases hy.inv
  clear hy
  cases hx with
  |bool s=>exact⟨rfl,by cases s<;>cases t<;>rfl⟩
  |_=>exact trivial
 |_=>exact trivial
theorem k8(s:List Char)(ch:Char):(!(Builtin.Str.occurrences (toS s) (toS [ch]) 0 (toS s).length 1).isEmpty)=s.contains ch:=by
 haveI e:toS [ch]=⟨#[ch.toNat]⟩:=rfl
 rw [e,StrLaws.found_one]
 rw [qV]
 rw [decide_eq_true_eq,aR,toS,az]
 constructor
 ·rintro ⟨a,ha,e⟩
  simp only [<-Char.toNat_inj.mp e];exact ha
 ·intro h;exact⟨ch,h,rfl⟩
theorem mS(k:List Char)(t:Tok):c.kd.is (toS k) (.str (toS k) t)=true:=strKind_is c.prog c.w (toS k) t
theorem kz{h:HP}(k:List Char){ks:List (List Char)}:∀{vs:List V} {cs:List Value},ks.length=cs.length->VRs c as X h vs cs->
  (match eS k ks vs with|some v=>∃x,valueAt ((ks.map toS).zip cs) (toS k)=some x/\VR c as X h v x|none=>k∉ks/\valueAt ((ks.map toS).zip cs) (toS k)=none):=by
 induction ks with
 |nil=>exact λ_ _=>⟨nofun,rfl⟩
 |cons k' ks ih=>
  intro vs cs hl r
  cases r with
  |nil=>exact nomatch hl
  |@cons v vs x cs hx r=>
   haveI ih:=ih (dk hl) r
   by_cases e:k=k'
   ·subst e
    simp only [show eS k (k::ks) (v::vs)=some v from if_pos rfl]
    exact⟨x,by simp [valueAt],hx⟩
   ·rw [show valueAt (((k'::ks).map toS).zip (x::cs)) (toS k)=valueAt ((ks.map toS).zip cs) (toS k) by simp [valueAt,show toS k'≠toS k from λq=>e (gO q).symm],show eS k (k'::ks) (v::vs)=eS k ks vs from if_neg e]
    refine D5 (o:=eS k ks vs) (λv' hd=>?_) (λhd=>?_)
    ·rw [hd];rw [hd]at ih;exact ih
    ·rw [hd];rw [hd]at ih;exact⟨cB e ih.1,ih.2⟩
theorem iZ{k:List Char}:∀{ks:List (List Char)} {vs:List V} {v:V},eS k ks vs=some v->k∈ks
 |k'::ks,v'::vs,v,e=>by
  if h:k=k' then exact h▸.head _
  else exact .tail _ (iZ ((if_neg h).symm.trans e))
 |[],_,_,e=>du e
 |_::_,[],_,e=>du e
theorem rR{k:List Char}{ks:List (List Char)}{vs:List V}{cs:List Value}(hl:ks.length=cs.length)(r:VRs c as X s.heap vs cs):(valueAt ((ks.map toS).zip cs) (toS k)).isSome=ks.contains k:=by
 haveI h:=kz k hl r
 refine D5 (o:=eS k ks vs) (λv hd=>?_) (λhd=>?_)
 ·rw [hd]at h
  refine ea1_2 h ?_
  intro x e _
  rw [e]
  exact(aR.mpr (iZ hd)).symm
 ·simp only [hd]at h
  rw [h.2]
  haveI:¬ks.contains k=true:=λq=>h.1 (aR.mp q)
  simpa using this
theorem rE{a b k:Nat}(h:a<=50)(hu:k+64<cLine):k+1+min a b<cLine:=
 dw (bO (aa (Nat.min_le_left a b) h) (k+1)) (dw (show k+1+50<=k+64 from by rw [cK];exact bO (by decide) _) hu)
theorem AQ{x y:V}{b:Bool}(e:Fc H x y=some b):(∃t ch,x=.str [ch]/\y=.str t/\b=t.contains ch)\/(∃vs,y=.tup vs/\BA H x vs=some b)\/(∃vs,dM H y=some vs/\BA H x vs=some b)\/∃d k,x=.str k/\gz H y=some d/\b=d.1.contains k:=by
 have h:Fb H x y (dM H y)=some b->(∃vs,dM H y=some vs/\BA H x vs=some b)\/∃d k,x=.str k/\gz H y=some d/\b=d.1.contains k:=λe=>by
  cases hv:dM H y with
  |some vs=>rw [hv]at e;exact .inl ⟨vs,rfl,e⟩
  |none=>
   rw [hv]at e
   replace e:=bX e
   refine ea1_2 e ?_
   intro d h1 e
   replace e:=dc e
   refine ea1_2 e ?_
   intro k h2 q_3
   subst q_3
   exact .inr ⟨d,k,V.txt_is h2,h1,rfl⟩
 cases y with
 |str t=>
  replace e:=bX e
  refine ea1_2 e ?_
  intro s' h1 e
  cases s' with
  |nil=>exact du e
  |cons ch r=>
   induction r with
   |nil=>exact .inl ⟨t,ch,V.txt_is h1,rfl,(ah e).symm⟩
   |cons=>exact du e
 |tup vs=>exact .inr (.inl ⟨vs,rfl,e⟩)
 |_=>exact .inr (.inr (h e))
theorem DZ{x y:V}{cx cy:Value}{b:Bool}(S:SR c as X H s)(hx:VR c as X s.heap x cx)(hy:VR c as X s.heap y cy)(e:Fc H x y=some b)(hu:A.units+64<cLine) :
  (Q (.bool b) H->wpAny c.M A (compareOp .In cx cy) (Res c as X s.heap Q) E s)/\(Q (.bool !b) H->wpAny c.M A (compareOp .NotIn cx cy) (Res c as X s.heap Q) E s):=by
 rcases AQ e with ⟨t,ch,rfl,rfl,rfl⟩|⟨vs,rfl,e⟩|⟨vs,ev,e⟩|⟨d,k,rfl,hdv,rfl⟩
 ·replace hx:=hx.inv;cases hy.inv
  cases hx
  refine⟨λq=>in_str ?_,λq=>notIn_str ?_⟩
  ·rw [k8];exact Res.now (tk:=s.toks) S (.bool _) q
  ·rw [k8];exact Res.now (tk:=s.toks) S (.bool _) q
 ·replace e:=bX e
  refine ea1_2 e ?_
  intro x' ex e
  replace e:=b8 e
  obtain⟨hd,rfl⟩:=e
  have hd:=(la hd).1;haveI hdd:=(la ‹_›).2
  obtain⟨d1,d2,l1,r1⟩:=m5 S hx ex
  refine cU (lr hy hd) λl2 r2=>?_
  haveI o1:=jj _ d1
  haveI o2:=gU _ hd
  haveI hm:A.units+1+min (PyData.depthAll (jv vs)) (ut x').depth<cLine:=by exact(o2.2)▸rE hdd hu
  refine⟨λq=>SeqAt.in_tuple_reads r2 r1 o2.1 o1.1 hm ?_,λq=>SeqAt.notIn_tuple_reads r2 r1 o2.1 o1.1 hm ?_⟩
  ·rw [jQ _ d1 _ hd];exact Res.now (tk:=s.toks) S (.bool _) q
  ·rw [jQ _ d1 _ hd];exact Res.now (tk:=s.toks) S (.bool _) q
 ·replace e:=bX e
  refine ea1_2 e ?_
  intro x' ex e
  replace e:=b8 e
  (refine ce (e) λhd e_1=>?_;subst e_1)
  have hd:=(la hd).1;haveI hdd:=(la ‹_›).2
  obtain⟨d1,d2,l1,r1⟩:=m5 S hx ex
  replace hy:=dF S hy ev
  obtain⟨a,items,rfl,⟨n,ho⟩,r,_⟩:=hy
  obtain⟨l2,r2⟩:=mL r hd
  haveI r3:Reads s.heap (.ref a) (.list (jv vs)) (a::l2):=.list ho rfl rfl r2
  haveI o1:=jj _ d1
  haveI o2:=gU _ hd
  haveI hm:A.units+1+min (PyData.depthAll (jv vs)) (ut x').depth<cLine:=by exact(o2.2)▸rE hdd hu
  refine⟨λq=>SeqAt.in_list_reads r3 r1 o2.1 o1.1 hm ?_,λq=>SeqAt.notIn_list_reads r3 r1 o2.1 o1.1 hm ?_⟩
  ·rw [jQ _ d1 _ hd];exact Res.now (tk:=s.toks) S (.bool _) q
  ·rw [jQ _ d1 _ hd];exact Res.now (tk:=s.toks) S (.bool _) q
 ·cases hx.inv
  replace hy:=jA S hy hdv
  obtain⟨a,cs,rfl,hsm,hd,hl,r,_⟩:=hy
  refine⟨λq=>wpAny_in_of (knd:=c.kd) (mS _ _) hsm hd.mapOf ?_,λq=>wpAny_notIn_of (knd:=c.kd) (mS _ _) hsm hd.mapOf ?_⟩
  ·rw [rR hl r];exact Res.now S (.bool _) q
  ·rw [rR hl r];exact Res.now S (.bool _) q
noncomputable def zN:Cop->CmpOp
 |.eq=>.Eq|.ne=>.NotEq|.lt=>.Lt|.le=>.LtE|.gt=>.Gt|.ge=>.GtE|.is=>.Is|.isnot=>.IsNot|.in_=>.In|.notin=>.NotIn
theorem Be(f:Int->Int->Bool)(x y:V):Is (tu f x y) λb=>∃i j,x=.int i/\y=.int j/\b=f i j:=by
 cases x with
 |int i=>cases y<;>first|exact⟨_,_,rfl,rfl,rfl⟩|exact trivial
 |_=>exact trivial
theorem iK{f:Int->Int->Bool}{x y:V}{b:Bool}(e:tu f x y=some b):∃i j,x=.int i/\y=.int j/\b=f i j:=(Be f x y).of e
theorem Ep{o:Cop}{x y:V}{cx cy:Value}{b:Bool}(S:SR c as X H s)(hx:VR c as X s.heap x cx)(hy:VR c as X s.heap y cy)(hu:A.units+64<cLine)
  (e:gw o x y H=some b)(q:Q (.bool b) H):wpAny c.M A (compareOp (zN o) cx cy) (Res c as X s.heap Q) E s:=by
 induction o with
 |eq=>
  replace e:=bR.mp e
  refine ea1_2 e ?_
  intro x' h1 e
  replace e:=aY.mp e
  refine ea1_2 e ?_
  intro y' h2 q_3
  subst q_3
  exact FS S hx hy h1 h2 hu q
 |ne=>
  replace e:=aY.mp e
  refine ea1_2 e ?_
  intro z e1 q_3
  subst q_3
  replace e1:=bR.mp e1
  refine ea1_2 e1 ?_
  intro x' h1 e1
  replace e1:=aY.mp e1
  refine ea1_2 e1 ?_
  intro y' h2 q_3
  subst q_3
  exact FD S hx hy h1 h2 hu q
 |lt=>obtain⟨a,b,rfl,rfl,rfl⟩:=iK e;cases hx.inv;cases hy.inv;exact lt_int (Res.now (tk:=s.toks) S (.bool _) q)
 |le=>obtain⟨a,b,rfl,rfl,rfl⟩:=iK e;cases hx.inv;cases hy.inv;exact le_int (Res.now (tk:=s.toks) S (.bool _) q)
 |gt=>obtain⟨a,b,rfl,rfl,rfl⟩:=iK e;cases hx.inv;cases hy.inv;exact gt_int (Res.now (tk:=s.toks) S (.bool _) q)
 |ge=>obtain⟨a,b,rfl,rfl,rfl⟩:=iK e;cases hx.inv;cases hy.inv;exact ge_int (Res.now (tk:=s.toks) S (.bool _) q)
 |is=>
  obtain⟨h1,h2⟩:=uH S hx hy e
  exact wpAny_is_plain h1 (by exact(h2)▸Res.now (tk:=s.toks) S (.bool _) q)
 |isnot=>
  replace e:=aY.mp e
  refine ea1_2 e ?_
  intro b' h0 q_3
  subst q_3
  obtain⟨h1,h2⟩:=uH S hx hy h0
  exact wpAny_isNot_plain h1 (by subst h2;exact Res.now (tk:=s.toks) S (.bool _) q)
 |in_=>exact(DZ S hx hy e hu).1 q
 |notin=>
  replace e:=aY.mp e
  refine ea1_2 e ?_
  intro b' h0 q_3
  subst q_3
  exact(DZ S hx hy h0 hu).2 q
end
def OVR(c:Cx)(as:bj)(X:List Addr)(h:HP)(o:Option V)(y:Option Value):Prop:=∀v,o=some v->∃x,y=some x/\VR c as X h v x
structure FR(c:Cx)(as:bj)(X:List Addr)(h:HP)(env:Env)(tab:List (Str×Nat))(ρ:Fm):Prop where
 kind:env.scope.kind=.function
 glob:env.globals=mainGlobals
 bi:env.builtins=builtinsNs
 lx:env.locals∈X
 lout:env.locals∉as
 lb:c.base.get? env.locals=none
 ns:∃m,h.Ns env.locals m/\∀x i,tab.lookup x=some i->env.kindOf x=some .local->OVR c as X h ((ρ[i]?).join) (m x)
 cells:∀x i,tab.lookup x=some i->(env.kindOf x=some .cell\/env.kindOf x=some .free)->
  ∃a y,env.cells.lookup x=some a/\a∈X/\a∉as/\c.base.get? a=none/\a≠env.locals/\h.IsCell a y/\OVR c as X h ((ρ[i]?).join) y
 apart:∀x y a,env.cells.lookup x=some a->env.cells.lookup y=some a->x=y
 inj:∀x y i,tab.lookup x=some i->tab.lookup y=some i->x=y
theorem OVR.keepX{c:Cx}{as as':bj}{X:List Addr}{h h':HP}{o:Option V}{y:Option Value}(k:VK as X h h')(x:Ext as h as')(z:OVR c as X h o y):OVR c as' X h' o y:=
 λv e=>let⟨q,e1,e2⟩:=z v e;⟨q,e1,e2.keepX k x⟩
theorem Ns.same{X:List Addr}{h h':HP}{L:Addr}{m:Str->Option Value}(n:h.Ns L m)(k:∀o,h.get? L=some o->∃o',h'.get? L=some o'/\SameO X L o o'):h'.Ns L m:=by
 refine iW n ?_
 intro o es ep e r
 refine ea1_2 (k o e) ?_
 intro o' e' s
 refine⟨o',es,ep,e',?_⟩
 rcases s with rfl|⟨_,_,sl,rfl⟩<;>exact r
theorem IsCell.same{X:List Addr}{h h':HP}{a:Addr}{y:Option Value}(n:h.IsCell a y)(k:∀o,h.get? a=some o->∃o',h'.get? a=some o'/\SameO X a o o'):h'.IsCell a y:=by
 refine ea1_2 n ?_
 intro o e r
 refine ea1_2 (k o e) ?_
 intro o' e' s
 refine⟨o',e',?_⟩
 rcases s with rfl|⟨_,_,sl,rfl⟩<;>exact r
theorem FR.keep{c:Cx}{as as':bj}{X:List Addr}{h h':HP}{env:Env}{tab:List (Str×Nat)}{ρ:Fm}(F:FR c as X h env tab ρ)(k:Kept as X h h')(x:Ext as h as'):FR c as' X h' env tab ρ where
 kind:=F.kind
 glob:=F.glob
 bi:=F.bi
 lx:=F.lx
 lout:=by
  refine ea1_2 F.ns ?_
  intro m p_2 _
  obtain⟨o,_,_,e,_⟩:=p_2
  exact x.out e F.lout
 lb:=F.lb
 ns:=by
  refine ea1_2 F.ns ?_
  intro m n r
  exact⟨m,Ns.same n λo e=>k _ o e F.lout,λy i h1 h2=>(r y i h1 h2).keepX k.x x⟩
 cells:=λy i h1 h2=>by
  refine i6 (F.cells y i h1 h2) ?_
  intro a z e1 e2 e3 e4 e5 e6 e7
  refine ea1_2 (e6) ?_
  intro o eo _
  exact⟨a,z,e1,e2,x.out eo e3,e4,e5,IsCell.same e6 λo e=>k _ o e e3,e7.keepX k.x x⟩
 apart:=F.apart
 inj:=F.inj
section
variable {c:Cx}{A:Around}{E:Value->Shared->Prop}{s:Shared}{as:bj}{X:List Addr}{H:AH}{Q:QE}{env:Env}{tab:List (Str×Nat)}{ρ:Fm}
theorem AD{x:Str}{i:Nat}{v:V}{M:Model}(S:SR c as X H s)(F:FR c as X s.heap env tab ρ)(ht:tab.lookup x=some i)(hk:env.kindOf x=some .local\/env.kindOf x=some .cell\/env.kindOf x=some .free)
  (hv:ρ[i]? =some (some v))(hn:(x==("__classdict__":Str))=false)(q:Q v H):wpAny M A (loadName env x) (Res c as X s.heap Q) E s:=by
 rcases hk with hk|hk
 ·refine ea1_2 F.ns ?_
  intro m n r
  refine ea1_2 (r x i ht hk v (by rw [hv];rfl)) ?_
  intro y e1 e2
  exact wpAny_loadName_local F.kind hk n e1 (Res.now (tk:=s.toks) S e2 q)
 ·refine i6 (F.cells x i ht hk) ?_
  intro a z e1 e2 e3 e4 e5 e6 e7
  replace e7:=e7 v (by rw [hv];rfl)
  refine ea1_2 e7 ?_
  intro y q_2 e8
  subst q_2
  rcases hk with hk|hk
  ·exact wpAny_loadName_cell F.kind hk e1 e6 (Res.now (tk:=s.toks) S e8 q)
  ·exact wpAny_loadName_free F.kind hk e1 e6 (Res.now (tk:=s.toks) S e8 q) hn
inductive StepF(c:Cx)(as:bj)(X:List Addr)(H:AH)(env:Env)(tab:List (Str×Nat))(h:HP)(ρ':Fm)(s':Shared):Prop
 |mk:SR c as X H s'->KeptX as X (env.locals::env.cells.map (·.2)) h s'.heap->FR c as X s'.heap env tab ρ'->StepF c as X H env tab h ρ' s'
theorem iC(ρ:Fm)(i j:Nat)(v:V)(hi:i<ρ.length):(((ρ.set i (some v))[j]?).join)=if i=j then some v else(ρ[j]?).join:=by
 by_cases h:i=j
 ·subst h;simp [hi]
 ·simp [h]
theorem iJ{x:Str}{i:Nat}{v:V}{cv:Value}{M:Model}{R:Unit->Shared->Prop}(S:SR c as X H s)(F:FR c as X s.heap env tab ρ)(ht:tab.lookup x=some i)(hk:env.kindOf x=some .local\/env.kindOf x=some .cell)
  (hi:i<ρ.length)(hv:VR c as X s.heap v cv)(r:∀s',StepF c as X H env tab s.heap (ρ.set i (some v)) s'->R () s'):wpAny M A (storeName env x cv) R E s:=by
 rcases hk with hk|hk
 ·refine ea1_2 F.ns ?_
  intro m n rr
  refine wpAny_storeName_local hk n (λh' n' sb=>r _ ?_) (by rw [F.kind];rfl)
  have K0:∀b o,s.heap.get? b=some o->b≠env.locals->h'.get? b=some o:=λb o e hb=>(sb.2 b hb).trans e
  have KX:VK as X s.heap h':=λb o e _ hb=>K0 b o e (λq=>hb (q▸F.lx))
  have hL':∃o,h'.get? env.locals=some o:=let⟨o,_,_,e,_⟩:=n';⟨o,e⟩
  refine⟨S.keepX (s':={s with heap:=h',toks:=s.toks+1}) (λb o e _ hb=>K0 b o e (λq=>hb (q▸F.lx))) (λb o e=>K0 b o (S.stays b o e) λq=>?_) (λb hb=>?_) rfl rfl,λb o e _ hb=>⟨o,K0 b o e (λq=>hb (q▸.head _)),.inl rfl⟩,?_⟩
  ·(replace q:=Eq.symm q;subst q);replace e:=(F.lb).symm.trans e;exact du e
  ·by_cases q:b=env.locals
   ·exact (q)▸hL'
   ·refine cU (S.xs b hb) λo e=>?_
    exact⟨o,K0 b o e q⟩
  ·refine ⟨F.kind,F.glob,F.bi,F.lx,F.lout,F.lb,⟨_,n',λy j h1 h2=>?_⟩,λy j h1 h2=>?_,F.apart,F.inj⟩
   ·simp only [iC _ _ _ _ hi]
    by_cases hxy:y=x
    ·(replace hxy:=Eq.symm hxy;subst hxy)
     replace h1:=(ht).symm.trans h1;(replace h1:=ah h1;subst h1)
     simp only [if_true]
     intro v' e';(replace e':=ah e';subst e')
     exact⟨cv,rfl,hv.keepX KX (.refl ..)⟩
    ·haveI:i≠j:=λq=>hxy (F.inj _ _ j h1 (q▸ht))
     rw [if_neg this,if_neg hxy]
     exact(rr y j h1 h2).keepX KX (.refl ..)
   ·refine i6 (F.cells y j h1 h2) ?_
    intro a z e1 e2 e3 e4 e5 e6 e7
    have hne:y≠x:=λq=>by subst q;replace h2:=(hk)▸h2;rcases h2 with h2|h2<;>cases h2
    have:i≠j:=λq=>hne (F.inj _ _ j h1 (q▸ht))
    refine⟨a,z,e1,e2,e3,e4,e5,IsCell.same (X:=X) e6 λo e=>⟨o,K0 _ o e e5,.inl rfl⟩,?_⟩
    rw [iC _ _ _ _ hi,if_neg this]
    exact e7.keepX KX (.refl ..)
 ·refine i6 (F.cells x i ht (.inl hk)) ?_
  intro a z e1 e2 e3 e4 e5 e6 e7
  refine wpAny_storeName_cell F.kind hk e1 e6 λh' c' sb=>r _ ?_
  have K0:∀b o,s.heap.get? b=some o->b≠a->h'.get? b=some o:=λb o e hb=>(sb.2 b hb).trans e
  have KX:VK as X s.heap h':=λb o e _ hb=>K0 b o e (λq=>hb (q▸e2))
  have hL':∃o,h'.get? a=some o:=let⟨o,e,_⟩:=c';⟨o,e⟩
  refine⟨S.keepX (s':={s with heap:=h'}) (λb o e _ hb=>K0 b o e (λq=>hb (q▸e2))) (λb o e=>K0 b o (S.stays b o e) λq=>?_) (λb hb=>?_) rfl rfl,λb o e _ hb=>⟨o,K0 b o e (λq=>hb (q▸.tail _ ?_)),.inl rfl⟩,?_⟩
  ·(replace q:=Eq.symm q;subst q);replace e:=(e4).symm.trans e;exact du e
  ·by_cases q:b=a
   ·exact (q)▸hL'
   ·refine cU (S.xs b hb) λo e=>?_
    exact⟨o,K0 b o e q⟩
  ·exact az.mpr ⟨(x,a),mem_of_lookup e1,rfl⟩
  ·refine ea1_2 F.ns ?_
   intro m n rr
   refine⟨F.kind,F.glob,F.bi,F.lx,F.lout,F.lb,⟨_,Ns.same (X:=X) n λo e=>⟨o,K0 _ o e (Ne.symm e5),.inl rfl⟩,λy j h1 h2=>?_⟩,λy j h1 h2=>?_,F.apart,F.inj⟩
   ·have hne:y≠x:=λq=>by subst q;replace h2:=(hk).symm.trans h2;cases h2
    have:i≠j:=λq=>hne (F.inj _ _ j h1 (q▸ht))
    rw [iC _ _ _ _ hi,if_neg this]
    exact(rr y j h1 h2).keepX KX (.refl ..)
   ·refine i6 (F.cells y j h1 h2) ?_
    intro a' z' f1 f2 f3 f4 f5 f6 f7
    by_cases hxy:y=x
    ·subst hxy
     replace h1:=(ht).symm.trans h1;(replace h1:=ah h1;subst h1)
     refine⟨a,_,e1,e2,e3,e4,e5,c',?_⟩
     simp only [iC _ _ _ _ hi,if_pos rfl]
     intro v' e';(replace e':=ah e';subst e')
     exact⟨cv,rfl,hv.keepX KX (.refl ..)⟩
    ·have:i≠j:=λq=>hxy (F.inj _ _ j h1 (q▸ht))
     refine⟨a',z',f1,f2,f3,f4,f5,IsCell.same (X:=X) f6 λo e=>⟨o,K0 _ o e (λq=>hxy (F.apart y x a (q▸f1) e1):a'≠a),.inl rfl⟩,?_⟩
     rw [iC _ _ _ _ hi,if_neg this]
     exact f7.keepX KX (.refl ..)
end
inductive ExcS(h:HP)(e:Addr)(cls:Value):Option Addr->Prop
 |fresh {oe:Obj} {vs:Array Value}:h.get? e=some oe->oe.cls=cls->oe.data=.fields vs->vs.size=6->vs[1]? =some .none->vs[2]? =some .none->ExcS h e cls none
 |traced {oe oT:Obj} {vs ts:Array Value} {T:Addr}:h.get? e=some oe->oe.cls=cls->oe.data=.fields vs->vs.size=6->vs[1]? =some (.ref T)->vs[2]? =some .none->
   T≠e->h.get? T=some oT->oT.data=.fields ts->3<ts.size->ExcS h e cls (some T)
def Touch(S F:List Addr)(h h':HP):Prop:=∀b o,h.get? b=some o->∃o',h'.get? b=some o'/\(b∈S\/o'=o\/b∈F/\∃sl,o'={o with slots:=sl})
theorem Touch.refl(S F:List Addr)(h:HP):Touch S F h h:=λ_ o e=>⟨o,e,.inr (.inl rfl)⟩
theorem Touch.trans{S F:List Addr}{h h₁ h₂:HP}(x:Touch S F h h₁)(y:Touch S F h₁ h₂):Touch S F h h₂:=λb o e=>by
 refine ea1_2 (x b o e) ?_
 intro o₁ e₁ q₁
 refine ea1_2 (y b o₁ e₁) ?_
 intro o₂ e₂ q₂
 refine⟨o₂,e₂,?_⟩
 rcases q₁ with q₁|rfl|⟨hF,sl,rfl⟩
 ·exact .inl q₁
 ·exact q₂
 ·rcases q₂ with q₂|rfl|⟨_,sl',rfl⟩
  ·exact .inl q₂
  ·exact .inr (.inr ⟨hF,sl,rfl⟩)
  ·exact .inr (.inr ⟨hF,sl',rfl⟩)
theorem Touch.mono{S S' F:List Addr}{h h':HP}(x:Touch S F h h')(hS:∀b∈S,b∈S'):Touch S' F h h':=λb o e=>let⟨o',e',q⟩:=x b o e;⟨o',e',q.imp (hS b) id⟩
theorem Touch.out{S F:List Addr}{h h':HP}(x:Touch S F h h'){b:Addr}{o:Obj}(e:h.get? b=some o)(hb:b∉S):∃o',h'.get? b=some o'/\(o'=o\/b∈F/\∃sl,o'={o with slots:=sl}):=
 let⟨o',e',q⟩:=x b o e;⟨o',e',q.resolve_left hb⟩
theorem Touch.frames{S:List Addr}{h h' base:HP}{l:List Env}(x:Touch S (l.filterMap (·.frame)) h h')(hS:∀b∈S,∀o,h.get? b=some o->∃vs,o.data=.fields vs)(hl:h.FunFrames base l):h'.FunFrames base l:=
 hl.of_keeps λb o e hn=>by
  obtain⟨o',e',q⟩:=x.out e λhb=>by obtain⟨vs,hd⟩:=hS b hb o e;exact hn vs hd
  rcases q with rfl|⟨_,sl,rfl⟩
  ·exact ⟨_,e',rfl⟩
  ·exact ⟨_,e',rfl⟩
section
variable {M:Model}{A:Around}{E:Value->Shared->Prop}{s:Shared}{base:HP}{env env₀:Env}{outer:List Env}{L e:Addr}{cls:Value}{t:Option Addr}
theorem qx{Q:Value->Shared->Prop}(hfr:A.frames=some (env₀::outer))(hl:s.heap.FunFrames base (env₀::outer))(hf₀:env₀.frame=some L)(hf:env.frame=some L)
  (h:∀h',Heap.SlotsOnly ((env₀::outer).filterMap (·.frame)) s.heap h'->Q (.ref L) {s with heap:=h'}):wpAny M A (PySem.frameOf env) Q E s:=by
 unfold PySem.frameOf
 refine wpAny_bind (wpAny_frameEnvs hfr ?_)
 haveI hdw:((env₀::outer).dropWhile λx=>x.frame !=env.frame)=env₀::outer:=by rw [List.dropWhile_cons_of_neg];simp only [hf₀,hf];simp
 rw [hdw]
 refine wpAny_bind (wpAny_bind (wpAny_readyFrames_fun hl λh₁ hs₁=>wpAny_pure ?_))
 rw [hf₀]
 exact wpAny_pure (h h₁ hs₁)
theorem mT{oe:Obj}{vs:Array Value}{head:Value}{hadNext:Bool}{Q:Unit->Shared->Prop}
  (hfr:A.frames=some (env₀::outer))(hl:s.heap.FunFrames base (env₀::outer))(hf₀:env₀.frame=some L)(hf:env.frame=some L)
  (he:s.heap.get? e=some oe)(hc:oe.cls=cls)(hd:oe.data=.fields vs)(hsz:vs.size=6)(h2:vs[2]? =some .none)
  (h:∀h' T,ExcS h' e cls (some T)->s.heap.get? T=none->Touch [e] ((env₀::outer).filterMap (·.frame)) s.heap h'->Q () {s with heap:=h'}) :
  wpAny M A (do let a <-PySem.frameOf env;let pl <-entryPlaceOf L hadNext;let b <-EntryCells.newEntry head a .none (rawInt L) .none pl;setField (.ref e) 1 b) Q E s:=by
 haveI hene:e∉(env₀::outer).filterMap (·.frame):=λhm=>by
  obtain⟨_,o,ho,hnf⟩:=hl.mem hm
  replace ho:=(he).symm.trans ho;(replace ho:=ah ho;subst ho);exact hnf vs hd
 refine wpAny_bind (qx hfr hl hf₀ hf λh₁ hs₁=>?_)
 refine wpAny_bind (wpAny_entryPlaceOf λpl hpl=>?_)
 unfold EntryCells.newEntry newFields
 refine wpAny_bind (wpAny_newObj_type ?_ (hpl.sizeOk5 _ _ _ _ _))
 haveI he₁:h₁.get? e=some oe:=(hs₁.2.1 e hene).trans he
 haveI he₂:=aQ (h:=h₁) {cls:=.type "traceback",dict:=none,data:=.fields ([head,.ref L,.none,rawInt L,.none]++(if pl.isEmpty then c7 6 Value.none else pl)).toArray} he₁
 refine wpAny_setField he₂ hd (hG (by decide) hsz.symm) (h _ h₁.objs.size ?_ (Heap.get?_none_of_le (by exact(hs₁.1)▸aA _)) λb o hb=>?_)
 ·haveI hTe:h₁.objs.size≠e:=dI (c5 he₁)
  haveI hd₃:=Obj.data_mapFields hd (·.setIfInBounds 1 (Value.ref h₁.objs.size))
  refine .traced (b7 _ he₂ (Obj.isFreed_of_fields hd₃)) ((Obj.cls_mapFields _ _).trans hc) hd₃ (by exact(wK).trans (hsz)) (by simp [hsz]) (by exact(Array.getElem?_setIfInBounds_ne (by decide)).trans (h2)) hTe
   ((bY _ _ (Ne.symm hTe)).trans (aE h₁ rfl)) rfl (by simp only [dH,af,bQ,List.length_nil];exact by simp+arith only)
 ·by_cases hbe':b=e
  ·(replace hbe':=Eq.symm hbe';subst hbe')
   exact⟨_,b7 _ he₂ (Obj.isFreed_of_fields (Obj.data_mapFields hd (·.setIfInBounds 1 (Value.ref h₁.objs.size)))),.inl (.head _)⟩
  by_cases hF:b∈(env₀::outer).filterMap (·.frame)
  ·refine cU (hs₁.2.2 b o hb) λsl hs=>?_
   exact⟨_,(bY _ _ (Ne.symm hbe')).trans (aQ _ hs),.inr (.inr ⟨hF,sl,rfl⟩)⟩
  ·exact ⟨o,(bY _ _ (Ne.symm hbe')).trans (aQ _ ((hs₁.2.1 b hF).trans hb)),.inr (.inl rfl)⟩
theorem lE{Q:Unit->Shared->Prop}(hfr:A.frames=some (env₀::outer))(hl:s.heap.FunFrames base (env₀::outer))(hf₀:env₀.frame=some L)(hf:env.frame=some L)(x:ExcS s.heap e cls t)
  (h:∀h' T,ExcS h' e cls (some T)->(t=some T\/s.heap.get? T=none)->Touch (e::t.toList) ((env₀::outer).filterMap (·.frame)) s.heap h'->Q () {s with heap:=h'}):wpAny M A (noteFrame (.ref e) env) Q E s:=by
 dsimp only [noteFrame]
 rw [hf]
 induction x with
 |fresh he hc hd hsz h1 h2=>
  refine wpAny_bind (wpAny_field he hd h1 ?_)
  exact mT hfr hl hf₀ hf he hc hd hsz h2 λh' T x q k=>h h' T x (.inr q) k
 |@traced oe oT vs ts T he hc hd hsz h1 h2 hTe hT hdT hts=>
  refine wpAny_bind (wpAny_field he hd h1 ?_)
  obtain⟨fl,h3⟩:∃fl,ts[3]? =some fl:=⟨ts[3],by simp [hts]⟩
  refine wpAny_bind (wpAny_field hT hdT h3 ?_)
  by_cases hfl:(fl==rawInt L)=true
  ·rw [if_pos hfl]
   exact wpAny_pure (h _ T (.traced he hc hd hsz h1 h2 hTe hT hdT hts) (.inl rfl) (Touch.refl _ _ _))
  ·rw [if_neg hfl]
   refine wpAny_bind (wpAny_setField hT hdT hts ?_)
   have other:∀b,b≠T->(s.heap.update T (Obj.mapFields (·.setIfInBounds 3 Value.none))).get? b=s.heap.get? b:=λb hb=>bY _ _ (Ne.symm hb)
   have k0:Touch [e,T] ((env₀::outer).filterMap (·.frame)) s.heap (s.heap.update T (Obj.mapFields (·.setIfInBounds 3 Value.none))):=λb o hb=>by
    by_cases q:b=T
    ·(replace q:=Eq.symm q;subst q)
     exact⟨_,b7 _ hT (Obj.isFreed_of_fields (Obj.data_mapFields hdT _)),.inl (.tail _ (.head _))⟩
    ·exact ⟨o,(other b q).trans hb,.inr (.inl rfl)⟩
   refine mT hfr (k0.frames (λb hb o ho=>?_) hl) hf₀ hf ((other e (Ne.symm hTe)).trans he) hc hd hsz h2 λh' T' x q k=>h h' T' x (.inr ?_) (k0.trans (k.mono λb q=>?_))
   ·rcases bA.mp hb with rfl|hb
    ·replace ho:=(he).symm.trans ho;(replace ho:=ah ho;subst ho);exact⟨vs,hd⟩
    ·refine Or.elim (bA.mp hb) (λq_=>?_) (λhb=>?_)
     ·(replace q_:=Eq.symm q_;subst q_);replace ho:=(hT).symm.trans ho;(replace ho:=ah ho;subst ho);exact⟨ts,hdT⟩
     ·cases hb
   ·by_cases hq:T'=T
    ·(replace hq:=Eq.symm hq;subst hq)
     haveI:=b7 (Obj.mapFields (·.setIfInBounds 3 Value.none)) hT (Obj.isFreed_of_fields (Obj.data_mapFields hdT _))
     replace this:=(q).symm.trans this;exact du this
    ·rw [<-other T' hq];exact q
   ·refine Or.elim (bA.mp q) (λq_=>?_) (λq=>?_)
    ·(replace q_:=Eq.symm q_;subst q_);exact .head _
    ·cases q
theorem fQ{fr:Option Addr}{T:Addr}{Q:Unit->Shared->Prop}(x:ExcS s.heap e cls (some T))
  (h:∀h',ExcS h' e cls (some T)->(∀b,b≠T->h'.get? b=s.heap.get? b)->Q () {s with heap:=h'}):wpAny M A (setFlight (.ref e) fr) Q E s:=by
 cases x with
 |@traced oe oT vs ts _ he hc hd hsz h1 h2 hTe hT hdT hts=>
  refine wpAny_bind (wpAny_field he hd h1 ?_)
  haveI other:∀b,b≠T->(s.heap.update T (Obj.mapFields (·.setIfInBounds 3 (fr.elim .none λf=>rawInt f)))).get? b=s.heap.get? b:=λb hb=>bY _ _ (Ne.symm hb)
  refine wpAny_setField hT hdT hts (h _ (.traced ((other e (Ne.symm hTe)).trans he) hc hd hsz h1 h2 hTe (b7 _ hT (Obj.isFreed_of_fields (Obj.data_mapFields hdT _))) (Obj.data_mapFields hdT _) (by exact(wK).symm▸hts)) other)
end
def uI(c:Cx)(as₀:bj)(h₀:HP)(as:bj)(X:List Addr)(a:Addr):Prop:=Fr as₀ h₀ a/\a∉as/\a∉X/\c.base.get? a=none
inductive ERes(c:Cx)(as:bj)(X:List Addr)(h:HP)(XX:XE)(x:Value)(s':Shared):Prop
 |mk (k:Nat) (H':AH) (as':bj) (e:Addr) (t:Option Addr) (ts:List Addr):x=.ref e->Ext as h as'->SR c as' (e::(ts++X)) H' s'->Kept as X h s'.heap->ExcS s'.heap e (.ref (c.xcls k)) t->(∀T,t=some T->T∈ts)->(∀a∈e::ts,uI c as h as' X a)->XX k H'->ERes c as X h XX x s'
theorem ERes.lift{c:Cx}{as as₁:bj}{X:List Addr}{h h₁:HP}{s':Shared}{XX:XE}{x:Value}(e:Ext as h as₁)(k:Kept as X h h₁)(r:ERes c as₁ X h₁ XX x s'):ERes c as X h XX x s':=by
 obtain⟨n,H',as',a,t,ts,hx,e',S,k',ex,ht,ap,q⟩:=r
 exact⟨n,H',as',a,t,ts,hx,e.trans k e',S,k.trans e k',ex,ht,λb hb=>⟨(ap b hb).1.lift e k,(ap b hb).2⟩,q⟩
structure FrE(c:Cx)(X:List Addr)(as:bj)(h:HP)(env:Env):Prop where
 kind:env.scope.kind≠.module
 there:∃L o es n,env.frame=some L/\c.base.get? L=none/\2<=X.count L/\L∉as/\h.get? L=some o/\o.data=.dict es n
def FrOk(c:Cx)(A:Around)(X:List Addr)(as:bj)(h:HP)(l:List Env):Prop:=A.frames=some l/\∀env∈l,FrE c X as h env
theorem FrE.keep{c:Cx}{X:List Addr}{as as':bj}{h h':HP}{env:Env}(f:FrE c X as h env)(e:Ext as h as')(k:Kept as X h h'):FrE c X as' h' env:=by
 refine kD f.there ?_
 intro L o es n h1 h2 h3 h4 h5 h6
 refine ea1_2 (k L o h5 h4) ?_
 intro o' e' s
 refine⟨f.kind,L,o',es,n,h1,h2,h3,e.out h5 h4,e',?_⟩
 rcases s with rfl|⟨_,_,sl,rfl⟩
 ·exact h6
 ·exact h6
theorem FrOk.keep{c:Cx}{A:Around}{X:List Addr}{as as':bj}{h h':HP}{l:List Env}(f:FrOk c A X as h l)(e:Ext as h as')(k:Kept as X h h'):FrOk c A X as' h' l:=⟨f.1,λenv he=>(f.2 env he).keep e k⟩
theorem FrOk.fun{c:Cx}{X:List Addr}{as:bj}{h:HP}:∀{l:List Env},(∀env∈l,FrE c X as h env)->h.FunFrames c.base l
 |[],_=>trivial
 |env::l,f=>by
  refine kD ((f env (.head _)).there) ?_
  intro L o es n h1 h2 h3 h4 h5 h6
  exact⟨(f env (.head _)).kind,⟨L,o,h1,h2,h5,λvs q=>by replace q:=(h6).symm.trans q;cases q⟩,FrOk.fun λe he=>f e (.tail _ he)⟩
theorem FrOk.touch{c:Cx}{X:List Addr}{as as':bj}{S:List Addr}{h h₀ h':HP}{l:List Env}(f:∀env∈l,FrE c X as' h env)(k:Kept as X h₀ h)(x:Touch S (l.filterMap (·.frame)) h h')(hS:∀a∈S,Fr as h₀ a):Kept as X h₀ h':=λb o e hb=>by
 refine ea1_2 (k b o e hb) ?_
 intro o₁ e₁ s₁
 haveI hn:b∉S:=λq=>(hS b q).elim (λr=>hb r) λr=>by exact du ((r).symm.trans e)
 refine ea1_2 (x.out e₁ hn) ?_
 intro o₂ e₂ s₂
 refine⟨o₂,e₂,s₁.trans ?_⟩
 rcases s₂ with rfl|⟨hF,sl,rfl⟩
 ·exact .inl rfl
 ·refine ea1_2 (mq.mp hF) ?_
  intro env he hf
  refine kD ((f env he).there) ?_
  intro L o es n h1 h2 h3 h4 h5 h6
  cases h1.symm.trans hf
  cases h5.symm.trans e₁
  exact .inr ⟨h3,⟨es,n,h6⟩,sl,rfl⟩
inductive EnvFr(c:Cx)(A:Around)(X:List Addr)(as:bj)(h:HP)(env:Env):Prop
 |mk (env₀:Env) (outer:List Env) (L:Addr):A.frames=some (env₀::outer)->(∀e∈env₀::outer,FrE c X as h e)->env₀.frame=some L->env.frame=some L->EnvFr c A X as h env
theorem EnvFr.keep{c:Cx}{A:Around}{X:List Addr}{as as':bj}{h h':HP}{env:Env}(f:EnvFr c A X as h env)(e:Ext as h as')(k:Kept as X h h'):EnvFr c A X as' h' env:=by
 obtain⟨env₀,outer,L,h1,h2,h3,h4⟩:=f
 exact⟨env₀,outer,L,h1,λa ha=>(h2 a ha).keep e k,h3,h4⟩
theorem FrE.grow{c:Cx}{X X':List Addr}{as:bj}{h h':HP}{env:Env}(f:FrE c X as h env)(g:Grown h h')(hX:∀b,X.count b<=X'.count b):FrE c X' as h' env:=by
 refine kD f.there ?_
 intro L o es n h1 h2 h3 h4 h5 h6
 exact⟨f.kind,L,o,es,n,h1,h2,aa h3 (hX L),h4,g _ _ h5,h6⟩
theorem EnvFr.grow{c:Cx}{A:Around}{X X':List Addr}{as:bj}{h h':HP}{env:Env}(f:EnvFr c A X as h env)(g:Grown h h')(hX:∀b,X.count b<=X'.count b):EnvFr c A X' as h' env:=by
 obtain⟨env₀,outer,L,h1,h2,h3,h4⟩:=f
 exact⟨env₀,outer,L,h1,λa ha=>(h2 a ha).grow g hX,h3,h4⟩
theorem EnvFr.env{c:Cx}{A:Around}{X:List Addr}{as:bj}{h:HP}{env env':Env}(f:EnvFr c A X as h env)(e:env'.frame=env.frame):EnvFr c A X as h env':=by
 obtain⟨env₀,outer,L,h1,h2,h3,h4⟩:=f
 exact⟨env₀,outer,L,h1,h2,h3,e.trans h4⟩
theorem EnvFr.all{c:Cx}{A:Around}{X:List Addr}{as:bj}{h:HP}{env:Env}(f:EnvFr c A X as h env):∃l,FrOk c A X as h l:=by
 obtain⟨env₀,outer,L,h1,h2,h3,h4⟩:=f
 exact⟨_,h1,h2⟩
theorem SR.note{c:Cx}{as:bj}{X Y S F:List Addr}{H:AH}{s:Shared}{h':HP}(x:SR c as X H s)(k:Touch S F s.heap h')(hS:∀b∈S,b∈X/\c.base.get? b=none)(hF:∀b∈F,b∈X/\c.base.get? b=none)(hXY:∀b∈X,b∈Y)(hY:∀b∈Y,b∈X\/s.heap.get? b=none)(hy:∀b∈Y,∃o,h'.get? b=some o):SR c as Y H {s with heap:=h'} where
 len:=x.len
 stays:=λb o e=>by
  obtain⟨o',e',q⟩:=k.out (x.stays b o e) λq=>by replace e:=((hS b q).2).symm.trans e;exact du e
  rcases q with rfl|⟨q,_⟩
  ·exact e'
  ·replace e:=((hF b q).2).symm.trans e;exact du e
 gens:=x.gens
 os:=x.os
 objs:=λi a e=>by
  refine ea0_3 (x.objs i a e) ?_
  intro h1 h2 r_3
  refine ea1_2 r_3 ?_
  intro o h3 h4
  haveI fy:∀b o,s.heap.get? b=some o->b∉X->b∉Y:=λb o e hb q=>(hY b q).elim hb λr=>by replace e:=(r).symm.trans e;exact du e
  have ex:∀b o,s.heap.get? b=some o->b∉X->h'.get? b=some o:=λb o e hb=>by
   refine ea1_2 (k.out e λq=>hb (hS b q).1) ?_
   intro o' e' q
   rcases q with rfl|⟨q,_⟩
   ·exact e'
   ·exact absurd (hF b q).1 hb
  obtain⟨ob,hob⟩:=h4.here
  exact⟨h1,fy _ _ hob h2,o,h3,(OR.frames fy h4).keepX (λb o e _ hb=>ex b o e λq=>hb (hXY b q)) λob e=>ex _ _ e h2⟩
 inj:=x.inj
 xs:=hy
theorem FrE.mem{c:Cx}{X:List Addr}{as:bj}{h:HP}{l:List Env}(f:∀env∈l,FrE c X as h env){b:Addr}(hb:b∈l.filterMap (·.frame)):b∈X/\c.base.get? b=none:=by
 refine ea1_2 (mq.mp hb) ?_
 intro env he hf
 refine kD ((f env he).there) ?_
 intro L o es n h1 h2 h3 h4 h5 h6
 replace h1:=h1.symm.trans hf
 (replace h1:=ah h1;subst h1)
 exact⟨List.count_pos_iff.mp (aJ (by decide) h3),h2⟩
def wQ(x:Value)(h:HP):Prop:=∃e T cls,x=.ref e/\ExcS h e cls (some T)
def Dat(h h':HP):Prop:=∀b o,h.get? b=some o->(∀vs,o.data≠.fields vs)->∃o',h'.get? b=some o'/\o'.data=o.data
theorem Dat.ns{h h':HP}{L:Addr}{m:Str->Option Value}(d:Dat h h')(n:h.Ns L m):h'.Ns L m:=by
 refine lJ n ?_
 intro o es ep e hd r
 obtain⟨o',e',hd'⟩:=d L o e λvs q=>by replace q:=(hd).symm.trans q;cases q
 exact⟨o',es,ep,e',hd'.trans hd,r⟩
theorem ExcS.fields{h:HP}{e:Addr}{cls:Value}{t:Option Addr}(x:ExcS h e cls t):∀b∈e::t.toList,∀o,h.get? b=some o->∃vs,o.data=.fields vs:=λb hb o ho=>by
 cases x with
 |fresh he hc hd=>
  rcases bA.mp hb with rfl|hb
  ·cases he.symm.trans ho;exact⟨_,hd⟩
  ·cases hb
 |traced he hc hd hsz v1 v2 hTe hT hdT=>
  rcases bA.mp hb with rfl|hb
  ·cases he.symm.trans ho;exact⟨_,hd⟩
  ·cases dZ.mp hb
   cases hT.symm.trans ho;exact⟨_,hdT⟩
theorem Touch.dat{S F:List Addr}{h h':HP}(x:Touch S F h h')(hS:∀b∈S,∀o,h.get? b=some o->∃vs,o.data=.fields vs):Dat h h':=λb o e hn=>by
 obtain⟨o',e',q⟩:=x.out e λq=>by obtain⟨vs,hd⟩:=hS b q o e;exact hn vs hd
 rcases q with rfl|⟨_,sl,rfl⟩
 ·exact ⟨_,e',rfl⟩
 ·exact ⟨_,e',rfl⟩
theorem ERes.note{c:Cx}{A:Around}{X:List Addr}{as:bj}{h:HP}{env:Env}{XX:XE}{x:Value}{s':Shared}{E:Value->Shared->Prop}{Q:Unit->Shared->Prop}(r:ERes c as X h XX x s')(hf:∀as' H' Z,Ext as h as'->Kept as X h s'.heap->SR c as' Z H' s'->(∀b∈X,b∈Z)->EnvFr c A X as' s'.heap env)
  (q:∀s'',ERes c as X h XX x s''->wQ x s''.heap->Dat s'.heap s''.heap->Q () s''):wpAny c.M A (noteFrame x env) Q E s':=by
 obtain⟨k,H',as',e,t,ts,rfl,e',S,k',ex,ht,ap,w⟩:=r
 obtain⟨env₀,outer,L,h1,h2,h3,h4⟩:=hf as' H' _ e' k' S λb hb=>.tail _ (aB _ hb)
 refine lE h1 (FrOk.fun h2) h3 h4 ex λh'' T ex' hT tc=>q _ ?_ ⟨e,T,_,rfl,ex'⟩ (tc.dat ex.fields)
 have hSm:∀a∈e::t.toList,a∈e::ts:=λa ha=>by
  refine Or.elim (bA.mp ha) (λq_=>?_) (λha=>?_)
  ·(replace q_:=Eq.symm q_;subst q_);exact .head _
  ·exact .tail _ (ht a (eG.mp ha))
 have K':Kept as X h h'':=FrOk.touch h2 k' tc λa ha=>(ap a (hSm a ha)).1
 have hS:∀b∈e::t.toList,b∈e::(ts++X)/\c.base.get? b=none:=λb hb=>⟨by
  rcases bA.mp (hSm b hb)with rfl|hb
  ·exact .head _
  ·exact .tail _ (aP _ hb),(ap b (hSm b hb)).2.2.2⟩
 have hF:∀b∈(env₀::outer).filterMap (·.frame),b∈e::(ts++X)/\c.base.get? b=none:=λb hb=>⟨.tail _ (aB _ (FrE.mem h2 hb).1),(FrE.mem h2 hb).2⟩
 have hex:∀b∈e::(ts++X),∃o,h''.get? b=some o:=λb hb=>by
  refine cU (S.xs b hb) λo eo=>?_
  refine ea1_2 (tc b o eo) ?_
  intro o' eo' _
  exact⟨o',eo'⟩
 rcases hT with rfl|hT
 ·exact ⟨k,H',as',e,some T,ts,rfl,e',S.note tc hS hF (λ_ q=>q) (λ_ q=>.inl q) hex,K',ex',ht,ap,w⟩
 ·refine ⟨k,H',as',e,some T,T::ts,rfl,e',S.note tc hS hF (λb hb=>?_) (λb hb=>?_) (λb hb=>?_),K',ex',λT' q=>by(replace q:=ah q;subst q);exact .head _,λa ha=>?_,w⟩
  ·refine Or.elim (bA.mp hb) (λq_=>?_) (λhb=>?_)
   ·(replace q_:=Eq.symm q_;subst q_);exact .head _
   ·exact .tail _ (.tail _ hb)
  ·rcases bA.mp hb with rfl|hb
   ·exact .inl (.head _)
   ·refine Or.elim (bA.mp hb) (λq_=>?_) (λhb=>?_)
    ·subst q_;exact .inr hT
    ·exact .inl (.tail _ hb)
  ·rcases bA.mp hb with rfl|hb
   ·exact hex _ (.head _)
   ·refine Or.elim (bA.mp hb) (λq_=>?_) (λhb=>?_)
    ·subst q_;cases ex' with|traced he hc hd hsz v1 v2 hTe hTT=>exact⟨_,hTT⟩
    ·exact hex _ (.tail _ hb)
  ·rcases bA.mp ha with rfl|ha
   ·exact ap _ (.head _)
   ·refine Or.elim (bA.mp ha) (λq_=>?_) (λha=>?_)
    ·subst q_;refine⟨k'.fr hT,λq=>?_,λq=>?_,?_⟩
     ·refine cU (bW q) λi hi=>?_
      refine ea0_3 (S.objs i _ hi) ?_
      intro _ _ r_3
      refine ea1_2 r_3 ?_
      intro o _ ho
      obtain⟨ob,e⟩:=ho.here
      replace e:=(hT).symm.trans e;exact du e
     ·obtain ⟨o,e⟩:=S.xs _ (.tail _ (aB _ q))
      replace e:=(hT).symm.trans e;exact du e
     ·cases hb:c.base.get? a with
      |none=>rfl
      |some o=>replace hT:=(S.stays a o hb).symm.trans hT;cases hT
    ·exact ap _ (.tail _ ha)
theorem ExcS.uniq{h:HP}{e:Addr}{cls cls':Value}{t t':Option Addr}(x:ExcS h e cls t)(y:ExcS h e cls' t'):t=t':=by
 induction x with
 |fresh a1 a2 a3 a4 a5 a6=>
  induction y with
  |fresh=>rfl
  |traced b1 b2 b3 b4 b5=>
   cases a1.symm.trans b1
   cases a3.symm.trans b3
   cases a5.symm.trans b5
 |traced a1 a2 a3 a4 a5=>
  induction y with
  |fresh b1 b2 b3 b4 b5=>
   cases a1.symm.trans b1
   cases a3.symm.trans b3
   cases a5.symm.trans b5
  |traced b1 b2 b3 b4 b5=>
   cases a1.symm.trans b1
   cases a3.symm.trans b3
   cases a5.symm.trans b5
   rfl
theorem ERes.fly{c:Cx}{A:Around}{X:List Addr}{as:bj}{h:HP}{XX:XE}{x:Value}{s':Shared}{E:Value->Shared->Prop}{fr:Option Addr}{Q:Unit->Shared->Prop}(r:ERes c as X h XX x s')(tr:wQ x s'.heap)(q:∀s'',ERes c as X h XX x s''->wQ x s''.heap->Q () s''):wpAny c.M A (setFlight x fr) Q E s':=by
 obtain⟨k,H',as',e,t,ts,rfl,e',S,k',ex,ht,ap,w⟩:=r
 refine iW tr ?_
 intro e₁ T cls he ex₁
 cases he
 replace ex₁:=ex.uniq ex₁
 obtain rfl:=ex₁
 refine fQ ex λh'' ex' hk=>q _ ?_ ⟨e,T,_,rfl,ex'⟩
 have tc:Touch [T] [] s'.heap h'':=λb o eb=>by
  by_cases hb:b=T
  ·(replace hb:=Eq.symm hb;subst hb)
   cases ex' with|traced he hc hd hsz v1 v2 hTe hTT=>exact⟨_,hTT,.inl (.head _)⟩
  ·exact ⟨o,(hk b hb).trans eb,.inr (.inl rfl)⟩
 have hT:T∈ts:=ht T rfl
 refine⟨k,H',as',e,some T,ts,rfl,e',S.note tc (λb hb=>?_) (λb hb=>nomatch hb) (λ_ q=>q) (λ_ q=>.inl q) (λb hb=>?_),λb o eb hb=>?_,ex',ht,ap,w⟩
 ·cases dZ.mp hb
  exact⟨.tail _ (aP _ hT),(ap T (.tail _ hT)).2.2.2⟩
 ·refine cU (S.xs b hb) λo eo=>?_
  refine ea1_2 (tc b o eo) ?_
  intro o' eo' _
  exact⟨o',eo'⟩
 ·refine ea1_2 (k' b o eb hb) ?_
  intro o₁ e₁ s₁
  have hbT:b≠T:=λq=>by
   subst q
   rcases(ap b (.tail _ hT)).1 with q|q
   ·exact hb q
   ·replace eb:=(q).symm.trans eb;exact du eb
  exact⟨o₁,(hk b hbT).trans e₁,s₁⟩
theorem ERes.less{c:Cx}{X Y:List Addr}{as:bj}{h:HP}{XX:XE}{x:Value}{s':Shared}(r:ERes c as Y h XX x s')(hXY:∀b∈X,b∈Y)(hY:∀b,2<=Y.count b->2<=X.count b\/Fr as h b):ERes c as X h XX x s':=by
 obtain⟨k,H',as',e,t,ts,rfl,e',S,k',ex,ht,ap,w⟩:=r
 have sub:∀b∈e::(ts++X),b∈e::(ts++Y):=dC (.head _) (cM (λb hb=>.tail _ (aP _ hb)) λb hb=>.tail _ (aB _ (hXY b hb)))
 exact⟨k,H',as',e,t,ts,rfl,e',⟨S.len,S.stays,S.gens,S.os,λi a q=>let⟨h1,h2,o,h3,h4⟩:=S.objs i a q;⟨h1,λq=>h2 (sub a q),o,h3,OR.frames (λb _ _ hb q=>hb (sub b q)) h4⟩,S.inj,λb hb=>S.xs b (sub b hb)⟩,k'.less hY,ex,ht,λa ha=>⟨(ap a ha).1,(ap a ha).2.1,λq=>(ap a ha).2.2.1 (hXY a q),(ap a ha).2.2.2⟩,w⟩
theorem ExcS.keep{h h':HP}{e:Addr}{cls:Value}{t:Option Addr}(x:ExcS h e cls t)(k:∀b∈e::t.toList,∀o,h.get? b=some o->h'.get? b=some o):ExcS h' e cls t:=by
 induction x with
 |fresh he hc hd hsz h1 h2=>exact .fresh (k _ (.head _) _ he) hc hd hsz h1 h2
 |traced he hc hd hsz h1 h2 hTe hT hdT hts=>exact .traced (k _ (.head _) _ he) hc hd hsz h1 h2 hTe (k _ (.tail _ (.head _)) _ hT) hdT hts
theorem ERes.pass{α:Type}{c:Cx}{A:Around}{X:List Addr}{as:bj}{h:HP}{env:Env}{XX:XE}{x:Value}{s':Shared}{what:String}{Q:α->Shared->Prop}{E:Value->Shared->Prop}(r:ERes c as X h XX x s')(tr:wQ x s'.heap)(q:∀s'',ERes c as X h XX x s''->wQ x s''.heap->E x s''):wpAny c.M A (PySem.passOn what x env:Sem α) Q E s':=by
 unfold PySem.passOn
 refine iW (id tr) ?_
 intro e T cls q_4 ex
 subst q_4
 cases ex with
 |traced he hc hd hsz v1 v2 hTe hTT=>
  refine wpAny_bind (wpAny_field he hd v1 ?_)
  exact wpAny_bind (r.fly tr λs'' er tr'=>wpAny_throw (q s'' er tr'))
abbrev uf:List Value:=[.type "ValueError",.type "Exception",.type "BaseException",.type "object"]
noncomputable def gM:List Str:=["__init__","__getattribute__","__getattr__","__class__"]
inductive XTail(h:HP):List Value->Prop
 |base:XTail h uf
 |own {A:Addr} {c0:Value} {dd:Option Addr} {cd:ClassData} {sl:Array (Option Value)} {mA:Str->Option Value} {tl:List Value}:
   h.get? A=some {cls:=c0,dict:=dd,data:=.cls cd,slots:=sl}->h.Ns cd.ns mA->(∀n∈gM,mA n=none)->XTail h tl->XTail h (.ref A::tl)
theorem XTail.tail{h:HP}{tl:List Value}(T:XTail h tl):OwnTail h uf tl:=by
 induction T with
 |base=>exact .base
 |own hA hN hq _ ih=>exact .own hA hN (hq _ (.head _)) ih
theorem XTail.keeps{h h':HP}{tl:List Value}(T:XTail h tl)(hk:h.StaysIn h'):XTail h' tl:=by
 induction T with
 |base=>exact .base
 |own hA hN hq _ ih=>exact .own (hk _ _ hA) (hN.keeps hk) hq ih
inductive XC(h:HP)(C:Addr)(bm:List Value):Prop
 |mk {nm q:Str} {N:Addr} {bs:List Value} {hdct:Bool} {sn:List Str} {sub:List Value} {ab:Bool} {col:Option Bool} {dd:Option Addr} {k0 k1 k2 k3 k5:Option Value} {mN:Str->Option Value}:
   h.get? C=some (excClassObj nm q C N bs bm hdct sn sub ab col dd k0 k1 k2 k3 k5 "ValueError.__new__")->h.Ns N mN->(∀n∈gM,mN n=none)->XTail h bm->XC h C bm
theorem XC.keeps{h h':HP}{C:Addr}{bm:List Value}(x:XC h C bm)(hk:h.StaysIn h'):XC h' C bm:=by
 obtain⟨hC,hN,hq,T⟩:=x
 exact⟨hk _ _ hC,hN.keeps hk,hq,T.keeps hk⟩
theorem XTail.has{h:HP}{tl:List Value}{v:Value}(T:XTail h tl)(hv:uf.contains v=true):tl.contains v=true:=by
 induction T with
 |base=>exact hv
 |own _ _ _ _ ih=>simp only [mr,ih,jW]
section
variable {M:Model}{A:Around}{E:Value->Shared->Prop}{h:HP}{g:Array GenState}{d:Drawn}{t:Nat}{os:OsState}
theorem po{tl:List Value}{n:Str}{y:Option Value}{Q:Option Value->Shared->Prop}(hn:n∈gM)(T:XTail h tl)(hrest:lookupAlong uf n=pure y)(hq:Q y ⟨h,g,d,t,os⟩) :
  wpAny M A (lookupAlong tl n) Q E ⟨h,g,d,t,os⟩:=by
 induction T with
 |base=>exact(hrest)▸wpAny_pure hq
 |own hA hN hni _ ih=>
  rw [lookupAlong_cons]
  refine wpAny_bind (wpAny_classOwn_cls hA hN ?_)
  rw [hni n hn]
  exact ih
theorem p6{C:Addr}{bm:List Value}{n:Str}{y:Option Value}{Q:Option Value->Shared->Prop}(hn:n∈gM)(x:XC h C bm)(hB:typeLookup (.type "ValueError") n=pure y)(hq:Q y ⟨h,g,d,t,os⟩) :
  wpAny M A (typeLookup (.ref C) n) Q E ⟨h,g,d,t,os⟩:=by
 obtain⟨hC,hN,hmN,T⟩:=x
 haveI hrest:lookupAlong uf n=pure y:=by exact hB
 simp only [typeLookup_eq]
 refine wpAny_bind (wpAny_mroOf_exc hC ?_)
 rw [lookupAlong_cons]
 refine wpAny_bind (wpAny_classOwn_exc hC hN ?_)
 rw [hmN n hn]
 exact po hn T hrest hq
theorem oW{C:Addr}{bm:List Value}{b:Value}{Q:Bool->Shared->Prop}(x:XC h C bm)(hq:Q ((Value.ref C::bm).contains b) ⟨h,g,d,t,os⟩):wpAny M A (isSubtype (.ref C) b) Q E ⟨h,g,d,t,os⟩:=by
 obtain⟨hC,hN,hmN,T⟩:=x
 exact wpAny_isSubtype_exc hC hq
theorem XC.base{C:Addr}{bm:List Value}(x:XC h C bm){v:Value}(hv:uf.contains v=true):(Value.ref C::bm).contains v=true:=by
 obtain⟨hC,hN,hmN,T⟩:=x
 simp only [mr,T.has hv,jW]
theorem XC.obj{C:Addr}{bm:List Value}(x:XC h C bm):∃o,h.get? C=some o/\o.cls=.type "type"/\∃cd,o.data=.cls cd:=by
 obtain⟨hC,hN,hmN,T⟩:=x
 exact⟨_,hC,rfl,_,rfl⟩
theorem rj{e C D:Addr}{bm bm':List Value}{oe:Obj}{Q:Bool->Shared->Prop}(x:XC h C bm)(y:XC h D bm')(he:h.get? e=some oe)(hcls:oe.cls=.ref C)(hs:(Value.ref C::bm).contains (.ref D)=true)(hq:Q true ⟨h,g,d,t,os⟩) :
  wpAny M A (excMatches (.ref e) (.ref D)) Q E ⟨h,g,d,t,os⟩:=by
 haveI hcB:=y.base (v:=.type "BaseException") (by decide)
 obtain⟨hC,hN,hmN,T⟩:=x
 obtain⟨hD,hN',hmN',T'⟩:=y
 haveI f:=tc_notTuple
 unfold excMatches
 repeat (first|(with_reducible refine wpAny_loadPart_at he ?_;rw [hcls])|with_reducible refine wpAny_loadPart_at hD ?_|(with_reducible refine wpAny_isSubtype_exc hD ?_;rw [hcB])|(with_reducible refine wpAny_isSubtype_exc hC ?_;rw [hs])|wp_step)
 exact hq
end
section
variable {prog:Program}{w:World}{A:Around}{E:Value->Shared->Prop}{h:HP}{g:Array GenState}{d:Drawn}{t:Nat}{os:OsState}{a C D:Addr}{o:Obj}{bm bm':List Value}
theorem og{R:Result->Shared->Prop}(x:XC h C bm)(hx:h.get? a=some o)(hc:o.cls=.ref C)(hq:R (.ok (.ret (.ref C))) ⟨h,g,d,t,os⟩) :
  codeAny (model prog w) A (.call (.builtin "getset_descriptor.__get__") ⟨[.builtin "object.__class__",.ref a,.ref C],[]⟩) R ⟨h,g,d,t,os⟩:=by
 haveI hT5:(⟨h,g,d,t,os⟩:Shared).TypeIs (.builtin "object.__class__") "getset_descriptor":=F.typeOf_object_class
 haveI hcB:(Value.ref C::bm).contains (.type (".".intercalate ("object.__class__".cutAt '.').dropLast))=true:=by
  exact x.base (by decide)
 refine codeAny_call_builtin F.slot_gs_get.plain F.entry_gs_get (F.slot_gs_get.check _ _ _ _ _ _ _ _ hT5 (F.args_gs_get _ _ _) ?_)
 repeat (any_goals (first|assumption|(with_reducible refine wpAny_loadPart_at hx ?_;simp only [hc])|(with_reducible refine oW x ?_;simp only [hcB])|wp_step))
 refine⟨Code.quiet_builtin _ (by decide+kernel),codeAny_builtin F.entry_object_class ?_⟩
 repeat (any_goals (first|assumption|(with_reducible refine wpAny_loadPart_at hx ?_;rw [hc])|wp_step))
theorem qD{M:Model}{nameV:Value}{Q:Unit->Shared->Prop}(x:XC h C bm)(hx:h.get? a=some o)(hc:o.cls=.ref C)(hq:Q () ⟨h,g,d,t,os⟩):wpAny M A (checkBuiltinCall "BaseException.__getattribute__" ⟨[.ref a,nameV],[]⟩) Q E ⟨h,g,d,t,os⟩:=by
 haveI hk:builtinKind "BaseException.__getattribute__"=some .slot:=by decide+kernel
 haveI hsplit:splitId "BaseException.__getattribute__"=some ("BaseException","__getattribute__"):=by decide+kernel
 haveI hcB:=x.base (v:=.type "BaseException") (by decide)
 haveI ha:=F.args_bexc_ga (.ref a) nameV
 rw [checkBuiltinCall,hk,hsplit]
 refine wpAny_bind ?_
 ·unfold isInstance
  repeat (first|(with_reducible refine wpAny_loadPart_at hx ?_;rw [hc])|(with_reducible refine oW x ?_;rw [hcB])|wp_step)
  exact hq
theorem qE:typeLookup (.type "ValueError") "__class__"=pure (some (.builtin "object.__class__")):=by kernel_rfl
theorem mf{tk:Tok}{Q:Fin->Shared->Prop}(x:XC h C bm)(hx:h.get? a=some o)(hc:o.cls=.ref C)(hq:Q (.done (.ret (.ref C))) ⟨h,g,d,t,os⟩) :
  wpAny (model prog w) A (Builtin.«object.__getattribute__» ⟨[.ref a,.str "__class__" tk],[]⟩) Q E ⟨h,g,d,t,os⟩:=by
 have hT5:=F.typeOf_object_class
 have f5:=F.typeOf_object_class
 haveI f6:=F.slot_gs_get.lookup
 haveI f7:=F.slot_gs_set.lookup
 haveI hm:("__class__":Str)∈gM:=.tail _ (.tail _ (.tail _ (.head _)))
 repeat (any_goals (first|assumption|(with_reducible refine wpAny_loadPart_at hx ?_;rw [hc])|with_reducible refine p6 hm x qE ?_|wp_step))
 refine og x hx hc ?_
 repeat (any_goals (first|assumption|wp_step))
theorem qd{tk:Tok}{Q:Value->Shared->Prop}(x:XC h C bm)(hx:h.get? a=some o)(hc:o.cls=.ref C)(hq:Q (.ref C) ⟨h,g,d,t,os⟩) :
  wpAny (model prog w) A (getAttrBy (.ref a) (.str "__class__" tk) false) Q E ⟨h,g,d,t,os⟩:=by
 haveI FB:=F.attrBase_ValueError
 haveI f3:=FB.ga.bind (.ref a)
 haveI hx2:(Value.builtin "BaseException.__getattribute__"==Value.builtin "object.__getattribute__")=false:=by decide+kernel
 haveI hx1:(onTheHeap (Value.ref C)&&Value.builtin "BaseException.__getattribute__"==Value.builtin "object.__getattribute__")=false:=by rfl
 haveI hm1:("__getattribute__":Str)∈gM:=.tail _ (.head _)
 haveI hm2:("__getattr__":Str)∈gM:=.tail _ (.tail _ (.head _))
 repeat (any_goals (first|assumption|(with_reducible refine wpAny_loadPart_at hx ?_;simp only [hc])|with_reducible refine p6 hm1 x FB.ga.lookup ?_|with_reducible refine p6 hm2 x FB.noGetattr ?_|wp_step))
 refine codeAny_call_builtin FB.ga.plain F.entry_bexc_ga (qD x hx hc (mf x hx hc ?_))
 repeat (any_goals (first|assumption|wp_step))
theorem nO{Q:Option Value->Shared->Prop}(x:XC h C bm)(hx:h.get? a=some o)(hc:o.cls=.ref C)(hq:Q (some (.ref C)) ⟨h,g,d,t+1,os⟩):wpAny (model prog w) A (getAttr? (.ref a) "__class__") Q E ⟨h,g,d,t,os⟩:=by
 unfold getAttr? getAttrBy?
 repeat (any_goals (first|assumption|with_reducible apply qd x hx hc|wp_step))
theorem nR{dep:Int}{tk:Tok}{Q:Fin->Shared->Prop}(x:XC h C bm)(y:XC h D bm')(hx:h.get? a=some o)(hc:o.cls=.ref C)(hq:∀t',Q (.done (.ret (.bool ((Value.ref C::bm).contains (.ref D))))) ⟨h,g,d,t',os⟩) :
  wpAny (model prog w) A (Builtin.«isinstance.nested» ⟨[.ref a,.ref D,.int dep tk],[]⟩) Q E ⟨h,g,d,t,os⟩:=by
 obtain⟨oD,hoD,hcD,cdD,hdD⟩:=y.obj
 obtain⟨oC,hoC,hcC,cdC,hdC⟩:=x.obj
 by_cases hCD:C=D
 ·subst hCD
  have e:(Value.ref C::bm).contains (.ref C)=true:=by simp
  rw [e]at hq
  have hq0:=hq t
  have hb:(Value.ref C==Value.ref C)=true:=by simp
  repeat (any_goals (first|assumption|(with_reducible refine wpAny_loadPart_at hx ?_;skip)|wp_step))
 ·have hne:(Value.ref C==Value.ref D)=false:=by simpa using hCD
  have f1:=tc_notTuple
  cases hb:(Value.ref C::bm).contains (.ref D)with
  |true=>
   rw [hb]at hq
   have hq0:=hq t
   repeat (any_goals (first|assumption|(with_reducible refine wpAny_loadPart_at hx ?_;rw [hc])|(with_reducible refine wpAny_loadPart_at hoD ?_;try rw [hcD])|(with_reducible refine oW x ?_;rw [hb])|wp_step))
  |false=>
   rw [hb]at hq
   have hq0:=hq (t+1)
   repeat (any_goals (first|assumption|(with_reducible refine wpAny_loadPart_at hx ?_;rw [hc])|(with_reducible refine wpAny_loadPart_at hoD ?_;try rw [hcD])|(with_reducible refine oW x ?_;rw [hb])|(with_reducible refine nO x hx hc ?_)|wp_step))
theorem m9{dep:Int}{tk:Tok}{Q:Fin->Shared->Prop}(x:XC h C bm)(hx:h.get? a=some o)(hc:o.cls=.ref C)(hq:Q (.done (.ret (.bool true))) ⟨h,g,d,t,os⟩) :
  wpAny (model prog w) A (Builtin.«isinstance.nested» ⟨[.ref a,.type "ValueError",.int dep tk],[]⟩) Q E ⟨h,g,d,t,os⟩:=by
 haveI hne:(Value.ref C==Value.type "ValueError")=false:=rfl
 haveI hty:typeOf (.type "ValueError")=pure (.type "type"):=by kernel_rfl
 repeat (any_goals (first|assumption|(with_reducible refine wpAny_loadPart_at hx ?_;rw [hc])|(with_reducible refine oW x ?_;rw [(x.base (v:=.type "ValueError") (by decide))])|wp_step))
end
section
variable {prog:Program}{w:World}{A:Around}{E:Value->Shared->Prop}{s:Shared}{a C D:Addr}{o:Obj}{bm bm':List Value}{Q:Value->Shared->Prop}
theorem tf(x:XC s.heap C bm)(y:XC s.heap D bm')(hx:s.heap.get? a=some o)(hc:o.cls=.ref C)(hq:∀tk,Q (.bool ((Value.ref C::bm).contains (.ref D))) {s with toks:=tk}) :
  wpAny (model prog w) A (call (.builtin "isinstance") [.ref a,.ref D]) Q E s:=
 call_isinstance (S:=λ_ R s=>(XC s.heap C bm/\XC s.heap D bm'/\s.heap.get? a=some o)/\∀tk,R (.ok (.ret (.bool ((Value.ref C::bm).contains (.ref D))))) {s with toks:=tk})
  (λ_ _ _ _ _ hs=>isinstance_outer (nR hs.1.1 hs.1.2.1 hs.1.2.2 hc hs.2) nofun) ⟨⟨x,y,hx⟩,hq⟩
theorem tx(x:XC s.heap C bm)(hx:s.heap.get? a=some o)(hc:o.cls=.ref C)(hq:∀tk,Q (.bool true) {s with toks:=tk}) :
  wpAny (model prog w) A (call (.builtin "isinstance") [.ref a,.type "ValueError"]) Q E s:=
 call_isinstance (S:=λ_ R s=>(XC s.heap C bm/\s.heap.get? a=some o)/\R (.ok (.ret (.bool true))) s)
  (λ_ _ _ _ _ hs=>isinstance_outer (m9 hs.1.1 hs.1.2 hc hs.2) nofun) ⟨⟨x,hx⟩,hq s.toks⟩
end
section
variable {c:Cx}{A:Around}{E:Value->Shared->Prop}{s:Shared}{as:bj}{X:List Addr}{H H':AH}{Q:QE}
theorem VRs.len_arr{vs:List V}{items:Array Value}{h:HP}(r:VRs c as X h vs items.toList):items.size=vs.length:=by
 haveI:=r.length
 simp only [bk]at this
 exact this.symm
inductive FreshL(c:Cx)(as:bj)(X:List Addr)(s:Shared)(vs:List V)(x:Value)(s':Shared):Prop
 |mk (a:Addr) (items:Array Value):x=.ref a->s.heap.get? a=none->c.base.get? a=none->Grown s.heap s'.heap->s'.gens=s.gens->s'.os=s.os->s'.heap.PlainList a items->VRs c as X s.heap vs items.toList->vs.length<=iu->FreshL c as X s vs x s'
theorem SR.not_as(S:SR c as X H s){a:Addr}(hn:s.heap.get? a=none):a∉as:=λq=>by
 obtain⟨i,hi⟩:=bW q
 refine ea0_3 (S.objs i _ hi) ?_
 intro _ _ r_3
 refine ea1_2 r_3 ?_
 intro o _ ho
 obtain⟨ob,e⟩:=OR.here ho
 replace e:=(hn).symm.trans e;exact du e
theorem SR.not_x(S:SR c as X H s){a:Addr}(hn:s.heap.get? a=none):a∉X:=λq=>by
 refine cU (S.xs _ q) λo e=>?_
 replace e:=(hn).symm.trans e;exact du e
theorem SR.base_none(S:SR c as X H s){a:Addr}(hn:s.heap.get? a=none):c.base.get? a=none:=by
 cases h:c.base.get? a with
 |none=>rfl
 |some o=>replace hn:=(S.stays a o h).symm.trans hn;cases hn
theorem cu(h:HP):h.get? h.objs.size=none:=by
 cases e:h.get? h.objs.size with
 |none=>rfl
 |some o=>exact absurd (c5 e) (b6 _)
theorem FreshL.frozen{vs:List V}{x:Value}{s':Shared}(S:SR c as X H s)(f:FreshL c as X s vs x s')(q:Q (.lst vs) H):Res c as X s.heap Q x s':=by
 obtain⟨a,items,rfl,hn,hb,g,hg,hos,⟨n,hp⟩,r,hl⟩:=f
 exact Res.grow S g hg hos (.lst (S.not_as hn) (S.not_x hn) ⟨n,hp⟩ (r.grow g) hl) q
theorem jO(as:bj)(h:HP)(a:Addr)(hn:h.get? a=none):Ext as h (as++[a]):=
 ⟨λ_ _ e=>da e,cM (λ_ q=>.inl q) (cW (.inr hn))⟩
theorem OR.keepE{as':bj}{h h':HP}{a:Addr}{o:O}(k:VK as X h h')(x:Ext as h as')(hnd:∀(i:Nat) (b:Addr),as[i]? =some b->as'[i]? =some b)
  (ha:∀ob,h.get? a=some ob->h'.get? a=some ob):OR c as X h a o->OR c as' X h' a o:=by
 intro z
 cases o with
 |list vs=>obtain⟨hb,items,⟨n,e⟩,r⟩:=z;exact⟨hb,items,⟨n,ha _ e⟩,r.keepX k x⟩
 |dict ks vs=>obtain⟨hb,hsm,cs,hd,hl,r⟩:=z;exact⟨hb,hsm,cs,DictOf.same hd ha,hl,r.keepX k x⟩
 |inst k d=>obtain⟨dx,ob,e1,e2,r1,r2,r3⟩:=z;exact⟨dx,ob,hnd _ _ e1,ha _ e2,r1,r2,r3⟩
 |ns ks vs=>obtain⟨hb,cs,mA,hn,hl,r,hm⟩:=z;exact⟨hb,cs,mA,hn.at ha,hl,r.keepX k x,hm⟩
theorem SR.alloc{s':Shared}{a:Addr}{o:O}(S:SR c as X H s)(hn:s.heap.get? a=none)(g:Grown s.heap s'.heap)(hg:s'.gens=s.gens)(hos:s'.os=s.os)(ho:OR c (as++[a]) X s'.heap a o) :
  SR c (as++[a]) X (H++[o]) s' where
 len:=by simp only [af,af,S.len];rfl
 stays:=λb o e=>g b o (S.stays b o e)
 gens:=hg.trans S.gens
 os:=hos.trans S.os
 objs:=λi b hi=>(fm hi).elim (λhi=>ea0_3 (S.objs i b hi) λh1 h2 r=>ea1_2 r λo' h3 h4=>⟨h1,h2,o',da h3,h4.keepE (g.kept as X).x (jO as _ a hn) (λ_ _ e=>da e) λob e=>g b ob e⟩) λq=>by
  obtain⟨rfl,rfl⟩:=q
  exact⟨S.base_none hn,S.not_x hn,o,by rw [S.len];exact cG,ho⟩
 inj:=λi j b hi hj=>(fm hi).elim (λh1=>(fm hj).elim (S.inj i j b h1) λh2=>absurd (h2.2▸aI h1) (S.not_as hn)) λh1=>(fm hj).elim (λh2=>absurd (h1.2▸aI h2) (S.not_as hn)) λh2=>h1.1.trans h2.1.symm
 xs:=λb hb=>(S.xs b hb).imp λo e=>g b o e
theorem FreshL.thawed{vs:List V}{x:Value}{s':Shared}(S:SR c as X H s)(f:FreshL c as X s vs x s')(q:Q (.ref H.length) (H++[.list vs])):Res c as X s.heap Q x s':=by
 obtain⟨a,items,rfl,hn,hb,g,hg,hos,hp,r,hl⟩:=f
 haveI E:=jO as s.heap a hn
 refine⟨.ref H.length,_,as++[a],E,S.alloc (o:=.list vs) hn g hg hos ⟨hl,items,hp,r.keep (g.kept as X) E⟩,g.kept as X,.ref ?_,q⟩
 rw [<-S.len];simp
theorem jx{mu:Bool}{p:Prim}{us ws:List V}{t:Sem Value}(S:SR c as X H s)(hp:prim c.P p us H=some (.lst ws,H))(hw:∀R:Value->Shared->Prop,(∀x s',FreshL c as X s ws x s'->R x s')->wpAny c.M A t R E s)
  (q:gi (aU c.P mu p us H) Q):wpAny c.M A t (Res c as X s.heap Q) E s:=by
 cases mu with
 |false=>
  simp only [aU,hp,gi,hH,if_false]at q
  exact hw _ λx s' f=>f.frozen S q
 |true=>
  unfold aU at q
  simp only [if_true]at q
  split at q
  ·simp only [hp,jo,j7,gi]at q
   exact hw _ λx s' f=>f.thawed S q
  ·exact q.elim
theorem yj{v:V}{n:Nat}(e:Di H v=some n):(∃s,v=.str s/\n=s.length)\/(∃vs,v=.tup vs/\n=vs.length)\/(∃vs,dM H v=some vs/\n=vs.length)\/∃d,gz H v=some d/\n=d.1.length:=by
 refine Is.of (R:=λn=>(∃s,v=.str s/\n=s.length)\/(∃vs,v=.tup vs/\n=vs.length)\/(∃vs,dM H v=some vs/\n=vs.length)\/∃d,gz H v=some d/\n=d.1.length) ?_ e
 have h:∀{o:Option (List V)},o=dM H v->Is (yo ((gz H v).map λd=>d.1.length) o) λn=>(∃s,v=.str s/\n=s.length)\/(∃vs,v=.tup vs/\n=vs.length)\/(∃vs,dM H v=some vs/\n=vs.length)\/∃d,gz H v=some d/\n=d.1.length:=λ{o} e=>by
  cases o with
  |some vs=>exact .inr (.inr (.inl ⟨vs,e.symm,rfl⟩))
  |none=>exact Is.self.map λd h1=>.inr (.inr (.inr ⟨d,h1,rfl⟩))
 cases v with
 |str s=>exact .inl ⟨s,rfl,rfl⟩
 |tup vs=>exact .inr (.inl ⟨vs,rfl,rfl⟩)
 |_=>exact h rfl
theorem kj{n:Nat}(h:n<=iu):(n:Int)<2 ^ 63:=Int.lt_trans (hO (aX.mpr h) ng) (by decide)
theorem lc{n:Nat}(h:n<=au):n<=iu:=aa h (aa (ay _ 5) di)
theorem ES{v r:V}{cv:Value}(S:SR c as X H s)(hv:VR c as X s.heap v cv)(e:EG [v] H=some (r,H'))(q:Q r H'):wpAny c.M A (call (.builtin "len") [cv]) (Res c as X s.heap Q) E s:=by
 refine ea1_2 (dc e) ?_
 intro n e1 e2
 cases e2
 haveI F:=λt tk=>Res.now (tk:=tk) S (VR.int n t) q
 rcases yj e1 with ⟨s,rfl,rfl⟩|⟨vs,rfl,rfl⟩|⟨vs,hvs,rfl⟩|⟨d,hd,rfl⟩
 ·cases hv.inv with
  |str _ hs=>
   refine len_str ?_ ?_
   ·rw [c9];exact d0.mpr (kj hs)
   ·rw [c9];exact F _ _
 ·cases hv.inv with
  |tup h1 h2 h3 r hs=>
   have hl:=r.len_arr
   refine P.len_tuple h3 ?_ ?_
   ·exact (hl)▸d0.mpr (kj hs)
   ·exact (hl)▸F _ _
 ·replace S:=dF S hv hvs
  obtain⟨a,items,rfl,hp,r,hs⟩:=S
  have hl:=r.len_arr
  refine call_len_list hp.isList ?_ ?_
  ·exact (hl)▸kj hs
  ·exact (hl)▸F _ _
 ·replace S:=jA S hv hd
  obtain⟨a,cs,rfl,hsm,hp,hl,r,hs⟩:=S
  haveI hlz:((d.1.map toS).zip cs).length=d.1.length:=by simp only [List.length_zip,ak,<-hl,Nat.min_self]
  refine call_len_dict (knd:=c.kd) hsm hp ?_ ?_
  ·simp only [hlz,hl,<-r.length];exact kj hs
  ·rw [hlz];exact F _ _
noncomputable def fO:Ty->String
 |.int=>"int"|.bool=>"bool"|.str=>"str"|.list=>"list"|.tuple=>"tuple"
theorem xf{t:Ty}{R:Value->Shared->Prop}{i:Int}{u:Tok}(F:∀tk,R (.bool (t==.int)) {s with toks:=tk}):wpAny c.M A (call (.builtin "isinstance") [.int i u,.type (fO t)]) R E s:=by
 cases t<;>first|exact IsiPair.int_int (F _)|exact IsiPair.int_bool (F _)|exact IsiPair.int_str (F _)|exact IsiPair.int_list (F _)|exact IsiPair.int_tuple (F _)
theorem uJ{t:Ty}{R:Value->Shared->Prop}{b:Bool}(F:∀tk,R (.bool (t==.int||t==.bool)) {s with toks:=tk}):wpAny c.M A (call (.builtin "isinstance") [.bool b,.type (fO t)]) R E s:=by
 cases t<;>first|exact IsiPair.bool_int (F _)|exact IsiPair.bool_bool (F _)|exact IsiPair.bool_str (F _)|exact IsiPair.bool_list (F _)|exact IsiPair.bool_tuple (F _)
theorem xu{t:Ty}{R:Value->Shared->Prop}{x:Str}{u:Tok}(F:∀tk,R (.bool (t==.str)) {s with toks:=tk}):wpAny c.M A (call (.builtin "isinstance") [.str x u,.type (fO t)]) R E s:=by
 cases t<;>first|exact IsiPair.str_int (F _)|exact IsiPair.str_bool (F _)|exact IsiPair.str_str (F _)|exact IsiPair.str_list (F _)|exact IsiPair.str_tuple (F _)
theorem th{t:Ty}{R:Value->Shared->Prop}{a:Addr}{its:Array Value}{n:Nat}(ho:s.heap.get? a=some {cls:=.type "tuple",data:=.seq its n})(F:∀tk,R (.bool (t==.tuple)) {s with toks:=tk}):wpAny c.M A (call (.builtin "isinstance") [.ref a,.type (fO t)]) R E s:=by
 cases t<;>first|exact IsiPair.tuple_int ho rfl (F _)|exact IsiPair.tuple_bool ho rfl (F _)|exact IsiPair.tuple_str ho rfl (F _)|exact IsiPair.tuple_list ho rfl (F _)|exact IsiPair.tuple_tuple ho rfl (F _)
theorem pM{t:Ty}{R:Value->Shared->Prop}{a:Addr}{its:Array Value}{n:Nat}(ho:s.heap.get? a=some {cls:=.type "list",data:=.seq its n})(F:∀tk,R (.bool (t==.list)) {s with toks:=tk}):wpAny c.M A (call (.builtin "isinstance") [.ref a,.type (fO t)]) R E s:=by
 cases t<;>first|exact IsiPair.list_int ho rfl (F _)|exact IsiPair.list_bool ho rfl (F _)|exact IsiPair.list_str ho rfl (F _)|exact IsiPair.list_list ho rfl (F _)|exact IsiPair.list_tuple ho rfl (F _)
theorem nC{t:Ty}{R:Value->Shared->Prop}(F:∀tk,R (.bool false) {s with toks:=tk}):wpAny c.M A (call (.builtin "isinstance") [.none,.type (fO t)]) R E s:=by
 cases t<;>first|exact IsiPair.NoneType_int (F _)|exact IsiPair.NoneType_bool (F _)|exact IsiPair.NoneType_str (F _)|exact IsiPair.NoneType_list (F _)|exact IsiPair.NoneType_tuple (F _)
theorem oU{t:Ty}{R:Value->Shared->Prop}{a:Addr}{o:Obj}(ho:s.heap.get? a=some o)(hx:o.cls=.type "dict")(F:∀tk,R (.bool false) {s with toks:=tk}):wpAny c.M A (call (.builtin "isinstance") [.ref a,.type (fO t)]) R E s:=by
 cases t<;>first|exact IsiPair.dict_int ho hx (F _)|exact IsiPair.dict_bool ho hx (F _)|exact IsiPair.dict_str ho hx (F _)|exact IsiPair.dict_list ho hx (F _)|exact IsiPair.dict_tuple ho hx (F _)
inductive RefAt(c:Cx)(as:bj)(X:List Addr)(h:HP)(i:Nat)(o:O):Value->Prop
 |mk (a:Addr):as[i]? =some a->OR c as X h a o->RefAt c as X h i o (.ref a)
theorem jk{i:Nat}{x:Value}{o:O}(S:SR c as X H s)(hv:VR c as X s.heap (.ref i) x)(ho:H[i]? =some o):RefAt c as X s.heap i o x:=by
 cases hv.inv with
 |ref hi=>exact ea1_2 (S.objs _ _ hi).2.2 λo' h3 h4=>.mk _ hi (ah (h3.symm.trans ho)▸h4)
theorem tV{v:V}{t:Ty}{cv:Value}{R:Value->Shared->Prop}(S:SR c as X H s)(hv:VR c as X s.heap v cv):Is (isinst H v t) λb=>(∀tk,R (.bool b) {s with toks:=tk})->wpAny c.M A (call (.builtin "isinstance") [cv,.type (fO t)]) R E s:=by
 cases v with
 |int i=>cases hv.inv;exact xf
 |bool i=>cases hv.inv;exact uJ
 |str i=>cases hv.inv;exact xu
 |none=>cases hv.inv;exact nC
 |tup vs=>cases hv.inv with|tup _ _ ho _ _=>exact th ho
 |lst vs=>cases hv.inv with|lst _ _ hp _ _=>exact λF=>hp.elim λn ho=>pM ho F
 |dct ks vs=>cases hv.inv with|dct _ _ _ hp _ _ _=>exact λF=>lJ hp λo es ep ho hx _=>oU ho hx.1 F
 |ref i=>
  refine Is.self.bind λo ho=>?_
  cases jk S hv ho with
  |mk a hi hr=>
   cases o with
   |list vs=>exact λF=>hr.2.elim λitems q=>q.1.elim λn hg=>pM hg F
   |dict ks vs=>exact λF=>hr.2.2.elim λcs q=>lJ q.1 λo es ep ho hx _=>oU ho hx.1 F
   |_=>exact trivial
 |rng=>exact trivial
 |exc=>exact trivial
theorem we{v r:V}{t:Ty}{cv:Value}(S:SR c as X H s)(hv:VR c as X s.heap v cv)(e:sq t [v] H=some (r,H'))(q:Q r H') :
  wpAny c.M A (call (.builtin "isinstance") [cv,.type (fO t)]) (Res c as X s.heap Q) E s:=
 ea1_2 (dc e) λb e1 e2=>(tV S hv).of e1 λtk=>by
  refine bc λk_=>?_
  obtain⟨rfl,rfl⟩:=Prod.mk.inj e2
  refine k_ ?_
  exact Res.now (tk:=tk) S (VR.bool b) q
theorem tQ{v r:V}{cv:Value}(S:SR c as X H s)(hv:VR c as X s.heap v cv)(e:sj [v] H=some (r,H'))(q:Q r H'):wpAny c.M A (call (.type "range") [cv]) (Res c as X s.heap Q) E s:=by
 replace e:=bX e
 refine bc λk_=>?_
 refine ea1_2 e ?_
 try clear e
 intro b h1 e
 replace h1:=V.num_is h1
 subst h1
 replace e:=b8 e
 obtain⟨hsm,e⟩:=e
 cases e
 refine k_ ?_
 cases hv.inv
 refine call_range_1 ?_
 exact Res.grow (s':={s with heap:=_,toks:=_}) S (.push _ _) rfl rfl (.rng (dY S) (fG S) (IsRange.new ..) (by decide) hsm) q
theorem ub{v w r:V}{cv cw:Value}(S:SR c as X H s)(hv:VR c as X s.heap v cv)(hw:VR c as X s.heap w cw)(e:rH [v,w] H=some (r,H'))(q:Q r H'):wpAny c.M A (call (.type "range") [cv,cw]) (Res c as X s.heap Q) E s:=by
 replace e:=bX e
 refine bc λk_=>?_
 refine ea1_2 e ?_
 try clear e
 intro a h1 e
 replace e:=bX e
 refine ea1_2 e ?_
 try clear e
 intro b h2 e
 try clear b;try clear a
 replace h1:=V.num_is h1
 subst h1
 try clear h1
 replace h2:=V.num_is h2
 subst h2
 replace e:=b8 e
 obtain⟨hsm,e⟩:=e
 haveI hsm:=aj.mp hsm
 try clear h2
 cases e
 try clear e
 refine k_ ?_
 cases hv.inv
 try clear hv
 cases hw.inv
 refine call_range_2 ?_
 exact Res.grow (s':={s with heap:=_,toks:=_}) S (.push _ _) rfl rfl (.rng (dY S) (fG S) (IsRange.new ..) hsm.1 hsm.2) q
theorem gN(a b:Int):wU a b 1=((b-a).toNat:Nat):=by
 unfold wU
 rw [if_pos (by decide:(1:Int)>0)]
 by_cases h:a<b
 ·rw [if_pos h,za,E6,bt (Int.sub_nonneg_of_le (dj h))]
 ·rw [if_neg h,Int.toNat_of_nonpos (Int.sub_nonpos_of_le (cg.mp h))];rfl
theorem sG{h:HP}{acc:Array Value}{a:Int}{n:Nat}(hi:ItemsOf (λi v=>∃t,v=Value.int (a+i*1) t) acc n):VRs c as X h ((bo n).map λ(i:Nat)=>V.int (a+i)) acc.toList:=by
 refine ce (hi) λh1 h2=>?_
 subst h1
 haveI key:∀(l:List Value) (k:Nat),(∀j v,l[j]? =some v->∃t,v=Value.int (a+((k+j:Nat):Int)) t)->VRs c as X h ((List.range' k l.length).map λ(i:Nat)=>V.int (a+i)) l:=by
  intro l
  induction l with
  |nil=>intro k _;exact .nil
  |cons x l ih=>
   intro k hx
   obtain⟨t,e⟩:=hx 0 x rfl
   subst e
   refine .cons (by exact VR.int _ _) (ih (k+1) λj v hv=>?_)
   obtain⟨t,e⟩:=hx (j+1) v (by exact hv)
   exact⟨t,by rw [e];congr 2;exact by simp+arith only⟩
 haveI:=key acc.toList 0 λj v hv=>by
  obtain⟨t,e⟩:=h2 j v (by simpa using hv)
  exact⟨t,by rw [e];simp⟩
 rw [Cz]
 simpa using this
theorem kI{a b:Int}(ha:bB a=true)(hb:bB b=true):CQ a b 1=true:=by
 simp only [bB,decide_eq_true_eq]at ha hb
 haveI f:∀i:Int,-10 ^ 14<=i->i<=10 ^ 14->sD i=true:=λi h1 h2=>by
  simp only [sD,cc,decide_eq_true_eq];exact⟨aV (by decide) h1,hO h2 (by decide)⟩
 haveI hs:=gN a b
 unfold CQ
 have b1:=aV (by decide:(-10 ^ 14:Int)<=_) hb.1
 have b2:=aV hb.2 (by decide:(_:Int)<=10 ^ 14)
 rw [f a (aV (by decide) ha.1) (aV ha.2 (by decide)),f b b1 b2,f 1 (by decide) (by decide),f _ (hs▸aV (by decide) (bH _)) (hs▸aV (aX.mpr (Int.toNat_le.mpr (aV (Int.sub_le_sub hb.2 ha.1) (by decide:_<=((10 ^ 14:Nat):Int))))) (by decide))]
 simp only [show(1:Int)>0 from by decide,if_true,f (b+(1-1)) ((zb b).symm▸b1) ((zb b).symm▸b2),jW,iU]
theorem kA(a b:Int):(iz a b).length=(b-a).toNat:=by simp [iz]
theorem ig{h':HP}{tk n:Nat}{items:Array Value}{vs:List V}(S:SR c as X H s)(g:Grown s.heap h')(ho:h'.get? s.heap.objs.size=some {cls:=.type "list",data:=.seq items n})(hv:VRs c as X s.heap vs items.toList)(hb:vs.length<=iu) :
  FreshL c as X s vs (.ref s.heap.objs.size) {s with heap:=h',toks:=tk}:=
 ⟨_,items,rfl,cu _,S.base_none (cu _),g,rfl,rfl,⟨n,ho⟩,hv,hb⟩
theorem ux{v:V}{ws:List V}(e:zk H v=some (.lst ws)):(∃a b,v=.rng a b/\(b-a).toNat<=au/\ws=iz a b)\/(v=.tup ws/\ws.length<=au)\/dM H v=some ws/\ws.length<=au:=by
 have h:((dM H v).bind λvs=>if vs.length<=au then some (V.lst vs)else none)=some (.lst ws)->dM H v=some ws/\ws.length<=au:=λe=>by
  replace e:=bX e
  refine ea1_2 e ?_
  intro vs h1 e
  cases(b8 e).2
  exact⟨h1,(b8 e).1⟩
 cases v with
 |rng a b=>cases(b8 e).2;exact .inl ⟨a,b,rfl,(b8 e).1,rfl⟩
 |tup vs=>cases(b8 e).2;exact .inr (.inl ⟨rfl,(b8 e).1⟩)
 |_=>exact .inr (.inr (h e))
theorem Ci{v:V}{ws:List V}{cv:Value}{R:Value->Shared->Prop}(hh:A.handled=none)(S:SR c as X H s)(hv:VR c as X s.heap v cv)(e:wG [v] H=some (.lst ws,H'))(hR:∀x s',FreshL c as X s ws x s'->R x s') :
  wpAny c.M A (call (.type "list") [cv]) R E s:=by
 haveI hz:=di
 have hz2:=b0
 refine ea1_2 (dc e) ?_
 intro r e1 e2
 cases e2
 rcases ux e1 with ⟨a,b,rfl,hb,rfl⟩|⟨rfl,hb⟩|⟨hvs,hb⟩
 ·cases hv.inv with
  |rng h1 h2 h3 h4 h5=>
   refine call_list_range hh h3 ?_ (gN a b) ?_ λh' tk acc c' g ho hi=>?_
   ·exact kI h4 h5
   ·exact aa hb (by decide)
   ·exact hR _ _ (ig S g ho (sG hi) (by rw [kA];exact lc hb))
 ·cases hv.inv with
  |tup h1 h2 h3 r hs=>
   refine call_list_seq _ (.inr rfl) h3 rfl rfl (λh' c' g ho=>?_) (by rw [(r.len_arr)];exact aa hb hz2)
   exact hR _ _ (ig (tk:=s.toks) S g ho r hs)
 ·replace hv:=dF S hv hvs
  obtain⟨a,items,rfl,⟨n,hp⟩,r,hs⟩:=hv
  refine call_list_seq _ (.inl rfl) hp rfl rfl (λh' c' g ho=>?_) (by rw [(r.len_arr)];exact aa hb hz2)
  exact hR _ _ (ig (tk:=s.toks) S g ho r hs)
theorem AU{r:V}{cv:Value}{b:Bool}(S:SR c as X H s)(hv:VR c as X s.heap (.bool b) cv)(e:Bm [.bool b] H=some (r,H'))(q:Q r H'):wpAny c.M A (call (.type "int") [cv]) (Res c as X s.heap Q) E s:=by
 ((refine ce (oz e) λe_0 e_1=>?_;subst e_0;subst e_1);clear e)
 cases hv.inv
 exact call_int_bool (Res.now S (.int _ _) q)
theorem lj:∀{vs:List V} {bs:List Bool},j9 vs=some bs->vs=bs.map V.bool
 |[],bs,h=>by(replace h:=ah h;subst h);rfl
 |v::vs,bs,h=>by
  cases v with
  |bool b=>
   refine ea1_2 (aY.mp h) ?_
   intro r h1 q_3
   subst q_3
   rw [lj h1];rfl
  |_=>exact du h
theorem Ee{v r:V}{cv:Value}(hh:A.handled=none)(S:SR c as X H s)(hv:VR c as X s.heap v cv)(e:DR [v] H=some (r,H'))(q:Q r H'):wpAny c.M A (call (.builtin "all") [cv]) (Res c as X s.heap Q) E s:=by
 refine bc λk_=>?_
 refine ea1_2 (aY.mp e) ?_
 intro bs h1 h2
 cases h2
 refine ea1_2 (bR.mp h1) ?_
 intro vs h3 h4
 replace hv:=dF S hv h3
 obtain⟨a,items,rfl,hp,r,hs⟩:=hv
 haveI hvs:=lj h4
 subst hvs
 refine k_ ?_
 haveI hl:=r.len_arr
 simp only [ak]at hl
 haveI hin:some a≠some s.heap.objs.size:=λq=>by
  obtain⟨n,e⟩:=hp
  (replace q:=ah q;subst q)
  exact absurd (c5 e) (b6 _)
 refine call_all_walk (wpAny_pyIter_list hp.isList ?_)
 refine⟨_,_,_,_,_,_,λi=>(bs[i]?).getD true,rfl,Walks.list (A:=A.in1) hh s.heap.objs.size a (λq=>hin (congrArg some q)) items,⟨⟨_,aE _ rfl,rfl,rfl⟩,let⟨o,e,r⟩:=hp.isList;⟨o,aQ _ e,r⟩⟩,?_,λh' tk hk=>?_⟩
 ·intro i v s' Q' E' hi hq
  rw [<-cZ]at hi
  refine ea1_2 (r.get' hi) ?_
  intro w hw hvw
  rw [aZ,aY]at hw
  refine ea1_2 hw ?_
  intro b hb q_3
  subst q_3
  cases hvw.inv
  dsimp only at hq
  replace hq:=(hb)▸hq
  exact wpAny_truthy_bool hq
 ·haveI g:Grown s.heap h':=λb o e=>hk b o (λq=>by replace q:=in1 q;subst q;exact absurd (c5 e) (b6 _)) (aQ _ e)
  have hr:(bo items.size).all (λi=>(bs[i]?).getD true)=bs.all id:=by
   rw [hl,qV,a8,a8]
   constructor
   ·intro z b hb
    refine cU (bW hb) λi hi=>?_
    haveI:=z i (cb.mpr (ae.mp hi).1)
    rw [hi]at this
    exact this
   ·intro z i _
    refine optE (o:=bs[i]?) (λhi=>?_) (λb hi=>?_)
    ·rw [hi];rfl
    ·exact (hi)▸z b (aI hi)
  rw [hr]
  exact Res.grow (s':={s with heap:=h',toks:=tk}) S g rfl rfl (.bool _) q
theorem BE{a b:Int}{t u:Tok}{h:HP}:VR c as X h (.int (min a b)) (if b<a then .int b u else .int a t):=by
 by_cases h:b<a
 ·rw [if_pos h,GR (dj h)];exact .int _ _
 ·rw [if_neg h,j3 (cg.mp h)];exact .int _ _
theorem DS{v w r:V}{cv cw:Value}(hh:A.handled=none)(S:SR c as X H s)(hv:VR c as X s.heap v cv)(hw:VR c as X s.heap w cw)(e:EK [v,w] H=some (r,H'))(q:Q r H'):wpAny c.M A (call (.builtin "min") [cv,cw]) (Res c as X s.heap Q) E s:=by
 replace e:=bX e
 refine bc λk_=>?_
 refine ea1_2 e ?_
 try clear e
 intro a h1 e
 replace e:=dc e
 refine ea1_2 e ?_
 try clear e
 intro b h2 e
 try clear b;try clear a
 replace h1:=V.num_is h1
 subst h1
 try clear h1
 replace h2:=V.num_is h2
 subst h2
 try clear h2
 replace e:=e;cases hv.inv;cases hw.inv
 cases e
 refine k_ ?_
 refine min_two_ints hh λh' tk g=>?_
 refine Res.grow (s':={s with heap:=h',toks:=tk}) S g rfl rfl ?_ q
 exact BE
theorem nV{n:Nat}{i:Int}{j:Nat}(h:sM n i=some j):seqIndex? i n=some j/\j<n/\(0<=i->(i:Int)=j)/\(i<0->i+n=j):=by
 by_cases h0:0<=i
 ·have e:(if 0<=i then(if i<n then some i.toNat else none)else(if 0<=i+n then some (i+n).toNat else none))=some j:=h
  rw [if_pos h0]at e
  replace e:=b8 e
  obtain⟨h1,rfl⟩:=e
  exact⟨PySem.seqIndex_of h0 h1,(dJ h0).mpr h1,λ_=>(bt h0).symm,λq=>absurd h0 (d0.mpr q)⟩
 ·have e:(if 0<=i then(if i<n then some i.toNat else none)else(if 0<=i+n then some (i+n).toNat else none))=some j:=h
  rw [if_neg h0]at e
  replace e:=b8 e
  obtain⟨h1,rfl⟩:=e
  exact⟨PySem.seqIndex_neg (by exact(d0.mp h0)) (by exact lK h1 (by simp+arith only)),(dJ h1).mpr (lK (d0.mp h0) (by simp+arith only)),λq=>absurd q h0,λ_=>(bt h1).symm⟩
theorem CL{i:Int}{n j:Nat}(hb:n<=iu)(g2:j<n)(g3:0<=i->i=j)(g4:i<0->i+n=j):-2 ^ 63<=i/\i<2 ^ 63:=by
 have hn:(n:Int)<=2 ^ 40:=aX.mpr hb
 refine(Decidable.em (0<=i)).elim (λh=>?_) λh=>?_
 ·exact ⟨aV (by decide) h,(g3 h).symm▸Int.lt_of_lt_of_le (bZ.mpr g2) (aV hn (by decide))⟩
 ·have h:=d0.mp h
  exact⟨aV (by decide:(-2 ^ 63:Int)<=-2 ^ 40) (aV (Int.neg_le_neg hn) (lK ((g4 h).symm▸bH j:0<=i+(n:Int)) (by simp+arith only))),Int.lt_trans h (by decide)⟩
theorem iM{slice:Expr}(h:∀a b p,slice≠.Slice a b none p)(o i:Value):subscripted slice false o i=operate [o,i] (getItem o i):=by
 cases slice with
 |Slice a b st p=>
  cases st with
  |none=>exact absurd rfl (h a b p)
  |some e=>rfl
 |_=>rfl
theorem Bl{t:List Char}{i:Int}{r:V}{cv:Value}{u:Tok}{value slice:Expr}(hsl:∀a b p,slice≠.Slice a b none p)(S:SR c as X H s)(hv:VR c as X s.heap (.str t) cv)(e:wh H (.str t) i=some r)(q:Q r H) :
  wpAny c.M A (subscriptTail value slice cv (.int i u)) (Res c as X s.heap Q) E s:=by
 haveI hb:=ng
 refine ea1_2 (bR.mp e) ?_
 intro j h1 h2
 replace h2:=aY.mp h2
 refine ea1_2 h2 ?_
 intro ch h3 q_3
 subst q_3
 cases hv.inv with
 |str t hs=>
  refine sd (nV h1) ?_
  intro g1 g2 g3 g4
  refine tail_any (typeIs_str _ _ _) slot_str_getitem.lookup (getItem_str ?_ (c:=ch.toNat) ?_ ?_) (iM hsl _ _)
  ·exact cC.mpr ⟨decide_eq_false (cg.mpr (CL hs g2 g3 g4).1),decide_eq_false (d0.mpr (CL hs g2 g3 g4).2)⟩
  ·simp only [c9,g1];simp [toS,h3]
  ·exact Res.now S (.str [ch] _ (by simp [iu])) q
theorem Bd{vs:List V}{i:Int}{r:V}{cv:Value}{u:Tok}{value slice:Expr}(hsl:∀a b p,slice≠.Slice a b none p)(S:SR c as X H s)(hv:VR c as X s.heap (.tup vs) cv)(e:wh H (.tup vs) i=some r)(q:Q r H) :
  wpAny c.M A (subscriptTail value slice cv (.int i u)) (Res c as X s.heap Q) E s:=by
 haveI hb:=ng
 refine ea1_2 (bR.mp e) ?_
 intro j h1 h3
 cases hv.inv with
 |tup k1 k2 k3 rr hs=>
  refine bc λk_=>?_
  refine sd (nV h1) ?_
  intro g1 g2 g3 g4
  refine ea1_2 (rr.get h3) ?_
  intro y e1 e2
  refine k_ ?_
  refine tail_any (T:="tuple") ⟨_,k3,rfl⟩ slot_tuple_getitem.lookup (P.getItem_tuple k3 (CL hs g2 g3 g4).1 (CL hs g2 g3 g4).2 (by exact(congrArg _ ((rr.len_arr))).trans (g1)) (by simpa using e1) ?_) (iM hsl _ _)
  exact Res.now (tk:=s.toks) S e2 q
theorem wW{v:V}{i:Int}{r:V}{cv:Value}{u:Tok}{value slice:Expr}(hsl:∀a b p,slice≠.Slice a b none p)(S:SR c as X H s)(hv:VR c as X s.heap v cv)(e:((dM H v).bind λvs=>(sM vs.length i).bind λj=>vs[j]?)=some r)(q:Q r H) :
  wpAny c.M A (subscriptTail value slice cv (.int i u)) (Res c as X s.heap Q) E s:=by
 haveI hb:=ng
 replace e:=bR.mp e
 refine bc λk_=>?_
 refine ea1_2 e ?_
 intro vs hvs e
 refine ea1_2 (bR.mp e) ?_
 intro j h1 h3
 replace hv:=dF S hv hvs
 obtain⟨a,items,rfl,hp,rr,hs⟩:=hv
 refine sd (nV h1) ?_
 intro g1 g2 g3 g4
 refine ea1_2 (rr.get h3) ?_
 intro y e1 e2
 refine k_ ?_
 have hl:=rr.len_arr
 haveI fin:=Res.now (tk:=s.toks) S e2 q
 refine tail_any hp.isList.typeIs slot_list_getitem.lookup ?_ (iM hsl _ _)
 by_cases h0:0<=i
 ·refine wpAny_getItem_list hp.isList h0 (CL hs g2 g3 g4).2 ?_ fin
  rw [show i.toNat=j from congrArg pV (g3 h0)];simpa using e1
 ·have g:=g4 (d0.mp h0)
  refine wpAny_getItem_list_neg hp.isList (d0.mp h0) (hl.symm▸lK (g.symm▸bH j:0<=i+(vs.length:Int)) (by simp+arith only)) (CL hs g2 g3 g4).1 ?_ fin
  rw [hl,show(i+vs.length).toNat=j from congrArg pV g];simpa using e1
theorem AC{v w r:V}{cv cw:Value}{value slice:Expr}(hsl:∀a b p,slice≠.Slice a b none p)(S:SR c as X H s)(hv:VR c as X s.heap v cv)(hw:VR c as X s.heap w cw)(e:zo [v,w] H=some (r,H'))(q:Q r H') :
  wpAny c.M A (subscriptTail value slice cv cw) (Res c as X s.heap Q) E s:=by
 refine ea1_2 (aY.mp e) ?_
 intro z e1 h
 cases h
 clear e
 haveI e:=e1
 cases w with
 |int i=>
  cases hw.inv
  cases v with
  |str t=>exact Bl hsl S hv e q
  |tup vs=>exact Bd hsl S hv e q
  |_=>exact wW hsl S hv e q
 |str k=>
  refine ea1_2 (bR.mp e) ?_
  intro d hd h3
  cases hw.inv
  replace hv:=jA S hv hd
  obtain⟨a,cs,rfl,hsm,hp,hl,rr,hs⟩:=hv
  have hz:∃y,valueAt ((d.1.map toS).zip cs) (toS k)=some y/\VR c as X s.heap r y:=by
   haveI hz:=kz k hl rr
   rw [h3]at hz
   exact hz
  refine ea1_2 hz ?_
  intro y e1 e2
  haveI hm:=hp.mapOf
  exact tail_any hm.typeIs slot_dict_getitem.lookup (wpAny_getItem_of (knd:=c.kd) (mS _ _) hm e1 (Res.now S e2 q)) (iM hsl _ _)
 |_=>exact du e
theorem uQ{vs:List V}{cs:List Value}{ws:List V}{R:Value->Shared->Prop}(S:SR c as X H s)(hv:VRs c as X s.heap vs cs)(e:rk vs H=some (.lst ws,H'))(hR:∀x s',FreshL c as X s ws x s'->R x s'):wpAny c.M A (newList cs) R E s:=by
 replace e:=b8 e
 refine bc λk_=>?_
 obtain⟨hb,e⟩:=e
 cases e
 refine k_ ?_
 refine wpAny_newObj_type ?_ (by show cs.toArray.size<=sizeLine;rw [dH,<-hv.length];exact aa hb b0)
 exact hR _ _ (ig (tk:=s.toks) S (.push _ _) (aE _ rfl) hv (lc hb))
theorem yX{vs:List V}{cs:List Value}{r:V}(S:SR c as X H s)(hv:VRs c as X s.heap vs cs)(e:t8 vs H=some (r,H'))(q:Q r H'):wpAny c.M A (newTuple cs) (Res c as X s.heap Q) E s:=by
 replace e:=b8 e
 refine bc λk_=>?_
 obtain⟨hb,e⟩:=e
 cases e
 refine k_ ?_
 refine wpAny_newObj_type ?_ (by show cs.toArray.size<=sizeLine;rw [dH,<-hv.length];exact aa hb b0)
 exact mM S hv (lc hb) q
theorem SR.kept1{i:Nat}{a:Addr}{h h':HP}(hi:as[i]? =some a)(hk:∀b o,h.get? b=some o->b≠a->h'.get? b=some o):Kept as X h h':=
 λb o e hb=>⟨o,hk b o e λq=>hb (q▸aI hi),.inl rfl⟩
theorem SR.upd{s':Shared}{i:Nat}{a:Addr}{o':O}(S:SR c as X H s)(hi:as[i]? =some a)(hk:∀b o,s.heap.get? b=some o->b≠a->s'.heap.get? b=some o)
  (hg:s'.gens=s.gens)(hos:s'.os=s.os)(ho:OR c as X s'.heap a o'):SR c as X (H.set i o') s' where
 len:=by simp only [aC];exact S.len
 stays:=λb o e=>hk b o (S.stays b o e) λq=>by
  have:=(S.objs i a hi).1
  simp only [q,this]at e;exact du e
 gens:=hg.trans S.gens
 os:=hos.trans S.os
 objs:=λj b hj=>by
  refine ea0_3 (S.objs j b hj) ?_
  intro h1 h2 r_3
  refine ea1_2 r_3 ?_
  intro o h3 h4
  refine⟨h1,h2,?_⟩
  by_cases hij:i=j
  ·subst hij
   replace hj:=(hi).symm.trans hj;(replace hj:=ah hj;subst hj)
   have hl:i<H.length:=by rw [<-S.len];exact(ae.mp hi).1
   exact⟨o',by simp [hl],ho⟩
  ·haveI hba:b≠a:=λq=>hij (S.inj i j a hi (q▸hj))
   refine⟨o,by rw [bn hij];exact h3,h4.keepX (SR.kept1 (X:=X) hi hk).x λob e=>hk b ob e hba⟩
 inj:=S.inj
 xs:=λb hb=>by
  obtain⟨o,e⟩:=S.xs b hb
  exact⟨o,hk b o e λq=>(S.objs i a hi).2.1 (q▸hb)⟩
theorem nN{s':Shared}{i:Nat}{a:Addr}{o':O}{v:V}{x:Value}(S:SR c as X H s)(hi:as[i]? =some a)(hk:∀b o,s.heap.get? b=some o->b≠a->s'.heap.get? b=some o)
  (hg:s'.gens=s.gens)(hos:s'.os=s.os)(ho:OR c as X s'.heap a o')(hv:VR c as X s'.heap v x)(q:Q v (H.set i o')):Res c as X s.heap Q x s':=
 ⟨v,_,as,.refl ..,S.upd hi hk hg hos ho,SR.kept1 hi hk,hv,q⟩
theorem uW{v x r:V}{cv cx:Value}(S:SR c as X H s)(hv:VR c as X s.heap v cv)(hx:VR c as X s.heap x cx)(e:rh [v,x] H=some (r,H'))(q:Q r H') :
  wpAny c.M A (call (.builtin "list.append") [cv,cx]) (Res c as X s.heap Q) E s:=by
 refine ea1_2 (bX e) ?_
 intro p_1 h0 e0
 (haveI i:=p_1.1;haveI vs:=p_1.2)
 refine bc λk_=>?_
 refine ce (b8 e0) λhz e1=>?_
 replace h0:=lH h0
 obtain⟨rfl,hvs⟩:=h0
 cases e1
 replace hv:=jk S hv hvs
 obtain⟨a,hi,hb,items,hp,rr⟩:=hv
 refine k_ ?_
 refine wpAny_list_append_plain hp (λh' hp' sb=>?_) (by simp only [rr.len_arr];haveI:=b0;exact g9 hz (g9 this (by simp+arith only)))
 have hk:∀b o,s.heap.get? b=some o->b≠a->h'.get? b=some o:=λb o e hb=>(sb.2 b hb).trans e
 haveI K:=SR.kept1 (X:=X) hi hk
 refine nN (s':={s with heap:=h'}) (o':=.list _) S hi hk rfl rfl ⟨?_,_,hp',?_⟩ .none q
 ·simp only [af,zZ];haveI:=di;exact g9 hz (g9 this (by simp+arith only))
 ·rw [Fs]
  exact(rr.keep K (.refl ..)).append (.cons (hx.keep K (.refl ..)) .nil)
theorem s0{items:Array Value}:(items.eraseIdxIfInBounds (items.size-1)).toList=items.toList.dropLast:=by
 obtain⟨l⟩:=items
 cases l with
 |nil=>rfl
 |cons x l=>
  simp only [Array.eraseIdxIfInBounds,dH]
  haveI:(x::l).length-1<(x::l).length:=by simp
  simp only [this,dif_pos]
  simp [ku,List.eraseIdx_eq_take_drop_succ]
theorem EY{v r:V}{cv:Value}(S:SR c as X H s)(hv:VR c as X s.heap v cv)(e:D0 [v] H=some (r,H'))(q:Q r H') :
  wpAny c.M A (call (.builtin "list.pop") [cv]) (Res c as X s.heap Q) E s:=by
 refine ea1_2 (bX e) ?_
 intro p_1 h0 e0
 (haveI i:=p_1.1;haveI vs:=p_1.2)
 refine bc λk_=>?_
 obtain⟨hz,e1⟩:=dR e0
 refine ea1_2 (dc e1) ?_
 intro x h1 h2
 replace h0:=lH h0
 obtain⟨rfl,hvs⟩:=h0
 cases h2
 replace hv:=jk S hv hvs
 obtain⟨a,hi,hb,items,⟨n,hp⟩,rr⟩:=hv
 haveI hl:=rr.len_arr
 obtain⟨y,e1,e2⟩:=rr.get (List.getLast?_eq_getElem?.symm.trans h1)
 refine k_ ?_
 haveI hy:items[items.size-1]? =some y:=by rw [hl,<-cZ];exact e1
 refine call_meets PySem.F.slot_list_pop ⟨_,hp,rfl⟩ PySem.F.entry_list_pop (PySem.F.args_list_pop_1 _) (PySem.MeetsSeq.list_pop_last a _ n y hy (by rw [hl];haveI:=b0;exact g9 hz (g9 this (by simp+arith only)))) ⟨hp,?_⟩
 have hk:∀b o,s.heap.get? b=some o->b≠a->(s.heap.update a (Obj.mapSeq λxs=>xs.eraseIdxIfInBounds (items.size-1))).get? b=some o:=λb o e hb=>(bY _ _ (Ne.symm hb)).trans e
 haveI K:=SR.kept1 (X:=X) hi hk
 refine nN (s':={s with heap:=s.heap.update a (Obj.mapSeq λxs=>xs.eraseIdxIfInBounds (items.size-1))}) (o':=.list _) S hi hk rfl rfl ⟨?_,_,⟨_,PySem.IsL.update hp λxs=>xs.eraseIdxIfInBounds (items.size-1)⟩,?_⟩ (e2.keep K (.refl ..)) q
 ·rw [List.length_dropLast];exact aa (db _ _) hb
 ·simp only [s0,ku,ku,<-rr.length]
  exact(rr.keep K (.refl ..)).take _
end
theorem V.tpl_is{v:V}{vs:List V}(h:v.tpl=some vs):v=.tup vs:=Is.of (R:=λvs=>v=.tup vs) (by cases v<;>first|exact rfl|exact trivial) h
section
variable {c:Cx}{A:Around}{E:Value->Shared->Prop}{s:Shared}{as:bj}{X:List Addr}{H H':AH}{Q:QE}
theorem on{i:Int}(h:bB i=true):(if i<0 then 0-i else i)<10 ^ 13:=by
 have h:=of_decide_eq_true h
 by_cases z:i<0
 ·rw [if_pos z];exact hO (lK h.1 (by simp+arith only):0-i<=10 ^ 12) (by decide)
 ·rw [if_neg z];exact hO h.2 (by decide)
theorem m7(i:Int):Str.ofString (toString i)=toS (oP i):=by rw [Str.ofString_eq_toList];rfl
theorem pT{i:Int}(hsm:bB i=true):(oP i).length<=iu:=by
 have:=len_str_of_int i
 rw [m7,c9]at this
 simp only [bB,decide_eq_true_eq]at hsm
 have hb:iu=2 ^ 40:=rfl
 omega
theorem CU{v r:V}{cv:Value}(S:SR c as X H s)(hv:VR c as X s.heap v cv)(e:En [v] H=some (r,H'))(q:Q r H'):wpAny c.M A (call (.type "str") [cv]) (Res c as X s.heap Q) E s:=by
 obtain⟨r',e1,e2⟩:=dc e
 cases e2
 cases v with
 |int i=>
  replace e1:=b8 e1
  obtain⟨hsm,rfl⟩:=e1
  cases hv.inv
  refine str_of_int_fit (on hsm) (by decide) λhlen=>?_
  show Res c as X s.heap Q (.str (Str.ofString (toString i)) _) _
  rw [m7]
  exact Res.now S (.str _ _ (pT hsm)) q
 |str x=>
  cases e1
  cases hv.inv with
  |str _ hs=>exact P.str_of_str (Res.now (tk:=s.toks) S (.str _ _ hs) q)
 |_=>cases e1
theorem mC:∀{vs:List V} {ss:List (List Char)},oq vs=some ss->vs=ss.map V.str
 |[],ss,h=>by cases h;rfl
 |v::vs,ss,h=>by
  cases v with
  |str t=>
   refine ea1_2 (aY.mp h) ?_
   intro r h1 q_3
   subst q_3
   rw [mC h1];rfl
  |_=>cases h
theorem lh{h:HP}:∀{ss:List (List Char)} {xs:List Value},VRs c as X h (ss.map V.str) xs->StrsAre xs (ss.map toS)
 |[],_,r=>by cases r;exact .nil
 |t::ss,_,r=>by
  cases r with
  |cons a r=>cases a;exact .cons _ _ (lh r)
theorem mQ(k:List Char):∀ss:List (List Char),Spec.countIn (.str (toS k)) ((ss.map toS).map PyData.str)=(ss.count k:Int)
 |[]=>rfl
 |t::ss=>by
  show(if Spec.same (.str (toS t)) (.str (toS k))=true then(1:Int)else 0)+Spec.countIn (.str (toS k)) ((ss.map toS).map PyData.str)=_
  rw [mQ k ss,List.count_cons,show Spec.same (.str (toS t)) (.str (toS k))=(toS t==toS k)from rfl,sr]
  by_cases z:(t==k)=true
  ·rw [if_pos z,if_pos z];exact(Int.add_comm ..)
  ·rw [if_neg z,if_neg z];exact(Int.zero_add _)
theorem xM{v w r:V}{cv cw:Value}(S:SR c as X H s)(hv:VR c as X s.heap v cv)(hw:VR c as X s.heap w cw)(e:vV [v,w] H=some (r,H'))(q:Q r H'):wpAny c.M A (call (.builtin "list.count") [cv,cw]) (Res c as X s.heap Q) E s:=by
 obtain⟨k,h0,e0⟩:=bX e
 obtain⟨ss,h1,h⟩:=dc e0
 cases h
 replace h0:=V.txt_is h0
 cases h0
 obtain⟨vs,h2,h3⟩:=bX h1
 have hvs:=mC h3
 subst hvs
 replace hv:=dF S hv h2
 obtain⟨a,items,rfl,hp,rr,hs⟩:=hv
 cases hw.inv
 refine count_list_strs (vs:=items.toList) (by simpa using hp.isList) (lh rr) ?_
 rw [mQ]
 exact Res.now S (.int _ _) q
theorem pJ:∀n<128,(Char.ofNat n).toNat=n:=by decide+kernel
theorem oj:∀n<128,Unicode.upperOf n=[if 97<=n/\n<=122 then n-32 else n]:=by decide+kernel
set_option tactic.hygienic true in
theorem tB(ch:Char)(h:ch.toNat<128):Unicode.upperOf ch.toNat=[(ij ch).toNat]:=by
 rw [oj _ h]
 unfold ij
 split
 ·rename_i h
  exact congrArg (λx=>[x]) (pJ _ (dw (db _ _) (by assumption))).symm
 ·rfl
theorem mU:∀l:List Char,(∀ch∈l,ch.toNat<128)->((l.map Char.toNat).map Unicode.upperOf).flatten=(l.map ij).map Char.toNat
 |[],_=>rfl
 |ch::l,hl=>by
  rw [cL,cL,Ft,cL,cL,mU l λx hx=>hl x (.tail _ hx),tB ch (hl ch (.head _)),List.singleton_append]
theorem sH(l:List Nat):(l.mapIdx λ_ c=>(Unicode.upperOf c).toArray).map Array.toList=l.map Unicode.upperOf:=by
 apply List.ext_getElem<;>simp
theorem nX{t:List Char}(h:(t.all λc=>decide (c.toNat<128))=true):placed (toS t) (λ_ c=>Unicode.upperOf c)=(toS (t.map ij)).cps:=by
 refine Array.ext' ?_
 simp only [placed,Array.toList_flatten,Array.toList_map,Array.toList_mapIdx]
 rw [sH]
 exact mU t λch hc=>of_decide_eq_true (a8.mp h ch hc)
theorem xy{v r:V}{cv:Value}(S:SR c as X H s)(hv:VR c as X s.heap v cv)(e:wa [v] H=some (r,H'))(q:Q r H'):wpAny c.M A (call (.builtin "str.upper") [cv]) (Res c as X s.heap Q) E s:=by
 obtain⟨t,h0,e0⟩:=bX e
 obtain⟨h,e1⟩:=b8 e0
 replace h0:=V.txt_is h0
 cases h0
 cases e1
 cases hv.inv
 have hp:=nX h.1
 have hl:(toS (t.map ij)).length<=sizeLine:=by rw [c9,ak];exact aa h.2 b0
 refine call_gives F.slot_str_upper (typeIs_str _ _ _) F.entry_str_upper (F.args_str_upper_1 _) (gives_str_upper _ _ ?_) ?_
 ·rw [hp]
  exact decide_eq_false (fp.mpr hl)
 ·rw [hp]
  exact⟨hl,Res.now S (.str _ _ (by rw [ak];exact lc h.2)) q⟩
end
section
variable {c:Cx}{A:Around}{E:Value->Shared->Prop}{s:Shared}{as:bj}{X:List Addr}{H H':AH}{Q:QE}
theorem Dp{v r:V}{cv:Value}(S:SR c as X H s)(hv:VR c as X s.heap v cv)(e:Bm [v] H=some (r,H'))(q:Q r H'):wpAny c.M A (call (.type "int") [cv]) (Res c as X s.heap Q) E s:=by
 cases v with
 |bool b=>exact AU S hv e q
 |_=>exact du e
theorem oN{a b:Addr}{xs ys:Array Value}{m:Nat}{R:Value->Shared->Prop}(hl:s.heap.PlainList a xs)(hb:s.heap.get? b=some {cls:=.type "list",data:=.seq ys m})(hz:xs.size+ys.size<=sizeLine)
  (h:∀h',h'.PlainList a (xs++ys)->fH a s.heap h'->R .none {s with heap:=h'}):wpAny c.M A (call (.builtin "list.extend") [.ref a,.ref b]) R E s:=by
 refine cU (hl) λn ho=>?_
 refine wpAny_call_entry F.slot_list_extend ⟨_,ho,rfl⟩ F.entry_list_extend ?_ (F.args_list_extend_2 _ _)
 refine(?_:wpAny _ _ (sE (.ref a) (.ref b) .none) _ _ s)
 unfold sE
 refine wpAny_bind (wpAny_typeOf ⟨_,hb,rfl⟩ ?_)
 haveI h1:(Builtin.List.listSameRef (.ref a) (.ref b)||Value.type "list"==Value.type "list"||Value.type "list"==Value.type "tuple")=true:=by simp
 simp only [h1,if_true]
 refine wpAny_bind ?_
 unfold Builtin.List.listItems
 refine wpAny_bind (wpAny_seqItems hb rfl (wpAny_pure ?_))
 refine wpAny_bind ?_
 refine wpAny_bind (wpAny_seqItems ho rfl (wpAny_pure ?_))
 haveI h2:(!xs.isEmpty&&wL (xs.size+ys.size))=false:=by
  simp only [show wL (xs.size+ys.size)=decide (xs.size+ys.size>sizeLine)from rfl,decide_eq_false (fp.mpr hz:¬(xs.size+ys.size>sizeLine)),kM]
 simp only [h2,hH,if_false]
 refine wpAny_bind (wpAny_updateSeq ho rfl ?_ (by exact g9 hz (by simp+arith only)) (by rw [Fu];exact g9 hz (by simp+arith only)))
 exact wpAny_pure ⟨.none,rfl,h _ ⟨_,b7 _ ho rfl⟩ (CR ..)⟩
theorem ud{v w r:V}{cv cw:Value}(S:SR c as X H s)(hv:VR c as X s.heap v cv)(hw:VR c as X s.heap w cw)(e:q7 [v,w] H=some (r,H'))(q:Q r H'):wpAny c.M A (call (.builtin "list.extend") [cv,cw]) (Res c as X s.heap Q) E s:=by
 refine ea1_2 (bX e) ?_
 clear e
 intro p h0 e0
 refine ea1_2 (bX e0) ?_
 clear e0
 intro ys h1 e1
 obtain⟨hz,e2⟩:=b8 e1
 clear e1
 (haveI i:=p.1;haveI vs:=p.2)
 replace h0:=lH h0
 obtain⟨rfl,hob⟩:=h0
 cases e2
 replace hv:=jk S hv hob
 obtain⟨a,hi,hb,items,hp,rr⟩:=hv
 clear hob
 replace hw:=dF S hw h1
 obtain⟨b,its,rfl,⟨m,hm⟩,r2,_⟩:=hw
 clear h1
 refine oN hp hm (by simp only [rr.len_arr,r2.len_arr];exact aa hz b0) λh' hp' sb=>?_
 haveI hk:∀b o,s.heap.get? b=some o->b≠a->h'.get? b=some o:=λb o e hb=>(sb.2 b hb).trans e
 haveI K:=SR.kept1 (X:=X) hi hk
 refine nN (s':={s with heap:=h'}) (o':=.list _) S hi hk rfl rfl ⟨?_,_,hp',?_⟩ .none q
 ·rw [af];exact lc hz
 ·rw [gH]
  exact(rr.keep K (.refl ..)).append (r2.keep K (.refl ..))
end
inductive Gl where
 |fn (f:Nat) (b:Bool)
 |cst (v:V)
 |bi (b:String)
 |ty (t:String)
 |exc (c:Nat)
 |cls (ms:List (Str×Nat)) (ats:List Str) (f:Nat)
set_option genInjectivity false in
structure Tb where
 gl:List (Str×Gl)
 meths:List (Str×Nat)
 names:List (Str×NameKind)
 tab:List (Str×Nat)
 n:Nat
 mu:List (Nat×Nat)
 /-- an exception may be at hand:nothing that is loud -/
 q:Bool
noncomputable def Tb.isMu(T:Tb)(p:Pos):Bool:=T.mu.contains (p.line,p.col)
noncomputable def mY(s:Str):Option (List Char):=
 if toS (s.cps.toList.map Char.ofNat)=s/\(s.cps.toList.map Char.ofNat).length<=1000 then some (s.cps.toList.map Char.ofNat)else none
noncomputable def vh:Const->Option Ex
 |.none=>some (.cst .none)
 |.bool b=>some (.cst (.bool b))
 |.int i=>some (.cst (.int i))
 |.str s=>(mY s).map λl=>.cst (.str l)
 |_=>none
noncomputable def Tb.var(T:Tb)(x:Str):Option Nat:=
 if x==("__debug__":Str)||x==("__classdict__":Str)then none else
 if T.names.lookup x=some .local\/T.names.lookup x=some .cell\/T.names.lookup x=some .free then T.tab.lookup x else none
noncomputable def Tb.glob(T:Tb)(x:Str):Option Gl:=
 if x==("__debug__":Str)then none else
 if T.names.lookup x=some .globalImplicit then T.gl.lookup x else none
noncomputable def glE:Option Gl->Option Ex
 |some (.cst v)=>some (.cst v)
 |_=>none
noncomputable def EP(o:Option Ex):Option Nat->Option Ex
 |some i=>some (.var i)
 |none=>o
noncomputable def wJ(T:Tb)(x:Str):Option Ex:=EP (glE (T.glob x)) (T.var x)
noncomputable def uk:Operator->Option Bop
 |.Add=>some .add|.Sub=>some .sub|.Mult=>some .mul|.FloorDiv=>some .fdiv|.Mod=>some .mod|.Pow=>some .pow
 |_=>none
noncomputable def d8:CmpOp->Cop
 |.Eq=>.eq|.NotEq=>.ne|.Lt=>.lt|.LtE=>.le|.Gt=>.gt|.GtE=>.ge|.Is=>.is|.IsNot=>.isnot|.In=>.in_|.NotIn=>.notin
noncomputable def gq{α β:Type}(f:α->Option β):List α->Option (List β)
 |[]=>some []
 |a::r=>(f a).bind λb=>(gq f r).map (b::·)
noncomputable def mkB(op:BoolOp)(x y:Ex):Ex:=match op with
 |.And=>.and x y
 |.Or=>.or x y
noncomputable def qK(op:BoolOp)(t:Bool):Bool:=match op with
 |.And=>t
 |.Or=>!t
theorem rS{P:Prog}{C:Calls}{op:BoolOp}{x y:Ex}{ρ:Fm}{H:AH}{Q:QE}{X:XE}:cH P C (mkB op x y) ρ H Q X=cH P C x ρ H (λv H'=>l8 (eB v) λt=>if qK op t then cH P C y ρ H' Q X else Q (.bool t) H') X:=by cases op<;>rfl
noncomputable def nf(op:BoolOp):List Ex->Option Ex
 |[]=>none
 |[x]=>some x
 |x::r=>(nf op r).map (mkB op x)
noncomputable def uT(t:String):Option Ty:=
 if t="int" then some .int else if t="bool" then some .bool else if t="str" then some .str else if t="list" then some .list else if t="tuple" then some .tuple else none
noncomputable def qI(b:String)(n:Nat):Option Prim:=
 if b="len"/\n=1 then some .len else
 if b="all"/\n=1 then some .all else
 if b="min"/\n=2 then some .min else
 none
noncomputable def p8(t:String)(n:Nat):Option Prim:=
 if t="range"/\n=1 then some .range1 else
 if t="range"/\n=2 then some .range2 else
 if t="list"/\n=1 then some .list else
 if t="int"/\n=1 then some .int else
 if t="str"/\n=1 then some .str else
 none
noncomputable def Prim.loud:Prim->Bool
 |.all|.min|.list=>true
 |_=>false
noncomputable def B5:Expr->Option Const
 |.Constant c _ _=>some c
 |_=>none
theorem uL(e:Expr):Is (B5 e) λc=>∃k p,e=.Constant c k p:=by
 cases e<;>first|exact⟨_,_,rfl⟩|exact trivial
noncomputable def FW:Const->Option Str
 |.str s=>some s
 |_=>none
noncomputable def Ax(e:Expr):Option Str:=(B5 e).bind FW
theorem tU(e:Expr):Is (Ax e) λs=>∃k p,e=.Constant (.str s) k p:=
 (uL e).bind λc h=>Is.imp (R:=λs=>c=.str s) (by cases c<;>first|exact rfl|exact trivial) λ_ q=>q▸h
noncomputable def Dw:Const->Option Unit
 |.none=>some ()
 |_=>none
theorem B9(c:Const):Is (Dw c) λ_=>c=.none:=by cases c<;>first|exact rfl|exact trivial
noncomputable def jC(m:Str)(n:Nat):Option (Mt×Prim):=
 if m=Str.ofString "append"/\n=1 then some (.list,.append)else
 if m=Str.ofString "pop"/\n=0 then some (.list,.pop)else
 if m=Str.ofString "extend"/\n=1 then some (.list,.extend)else
 if m=Str.ofString "count"/\n=1 then some (.list,.count)else
 if m=Str.ofString "upper"/\n=0 then some (.str,.upper)else
 none
noncomputable def oneL{α β:Type}(f:α->Option β):List α->Option β
 |[t]=>f t
 |_=>none
noncomputable def twoL{α β:Type}(f:α->α->Option β):List α->Option β
 |[a,b]=>f a b
 |_=>none
noncomputable def oA{α β:Type}(r:Option β):List α->Option β
 |[]=>r
 |_::_=>none
noncomputable def wO:Expr->Option Str
 |.Name x _=>some x
 |_=>none
theorem li(e:Expr):Is (wO e) λx=>∃p,e=.Name x p:=by
 cases e<;>first|exact⟨_,rfl⟩|exact trivial
theorem mW{α:Type}{b:Bool}{a:Option α}{x:α}(h:(if b=true then none else a)=some x):b=false/\a=some x:=by
 induction b with
 |false=>exact⟨rfl,h⟩
 |true=>exact du h
noncomputable def nz(e:Expr):Bool:=e.ctorIdx==26
noncomputable def im(e:Expr):Bool:=e.ctorIdx==8||e.ctorIdx==9||e.ctorIdx==10
noncomputable def qU(T:Tb)(x:Str)(sc:Scope):Bool:=
 decide (sc.kind=.function)&&T.tab.all (λp=>decide (p.2<T.n))&&decide (sc.names.lookup x=some .local)&&
 sc.names.all (λp=>decide (sc.names.lookup p.1=some p.2)&&(match p.2 with
  |.local=>decide (p.1=x)||(T.tab.lookup p.1).isNone
  |.cell=>false
  |.free=>(decide (T.names.lookup p.1=some .cell)||decide (T.names.lookup p.1=some .free))&&(T.tab.lookup p.1).isSome&&decide (p.1≠x)
  |_=>true))
noncomputable def vf(e:Expr):Bool:=e.ctorIdx==16
noncomputable def gk(e:Expr):Bool:=!vf e
noncomputable def zJ(o:Option Expr):Option (List Char):=o.bind λe=>(Ax e).bind mY
abbrev FE:=Tb->Expr->Option Ex
noncomputable def vq:Gl->Option (List (Str×Nat)×List Str×Nat)
 |.cls ms ats f=>some (ms,ats,f)
 |_=>none
theorem yv(g:Gl):Is (vq g) λq=>g=.cls q.1 q.2.1 q.2.2:=by
 cases g<;>first|exact rfl|exact trivial
noncomputable def yL:List (Str×Gl)->Option (List (Str×Nat)×List Str×Nat)
 |[]=>none
 |p::l=>if(vq p.2).isSome=true then vq p.2 else yL l
theorem ur(gl:List (Str×Gl)):Is (yL gl) λq=>∃x,(x,Gl.cls q.1 q.2.1 q.2.2)∈gl:=by
 induction gl with
 |nil=>exact trivial
 |cons p l ih=>exact Is.ite2 (λ_=>(yv p.2).imp λ_ h=>⟨p.1,h▸.head _⟩) λ_=>ih.imp λ_ h=>h.imp λ_ hx=>.tail _ hx
noncomputable def tW(r:Expr->Option Ex)(T:Tb)(o:Expr)(name:Str):Option (Ex×List Char):=if gk o=true then(yL T.gl).bind λq=>if q.2.1.contains name=true then(mY name).bind λnm=>(r o).map λa=>(a,nm)else none else none
noncomputable def C5(r:Expr->Option Ex)(T:Tb)(o:Expr)(name:Str)(args:List Expr):Option Ex:=if args.length<30 then(yL T.gl).bind λq=>(q.1.lookup name).bind λg=>(mY name).bind λnm=>(r o).bind λa=>(gq r args).map λes=>.meth 0 g nm a es else none
abbrev ka(T:Tb)(x:Str)(sc:Scope):Tb:={T with names:=sc.names,tab:=(x,T.n)::T.tab,n:=T.n+1}
noncomputable def cUn(op:UnaryOp)(a:Ex):Option Ex:=match op with
 |.Not=>some (.prim false .not [a])
 |.USub=>some (.prim false .neg [a])
 |_=>none
noncomputable def DM(r:Expr->Option Ex)(l:Expr)(ops:List CmpOp)(rs:List Expr):Option Ex:=match ops with
 |[op]=>oneL (λx=>(r l).bind λa=>(r x).map λb=>.prim false (.cop (d8 op)) [a,b]) rs
 |[o₁,o₂]=>twoL (λm x=>(r l).bind λa=>(r m).bind λb=>(r x).map λc=>.cmp2 a (d8 o₁) b (d8 o₂) c) rs
 |_=>none
noncomputable def AR:Gl->Option String
 |.ty tn=>some tn
 |_=>none
theorem AB(g:Gl):Is (AR g) λtn=>g=.ty tn:=by
 cases g<;>first|exact rfl|exact trivial
noncomputable def wn:Gl->Option Nat
 |.exc k=>some k
 |_=>none
theorem rW(g:Gl):Is (wn g) λk=>g=.exc k:=by
 cases g<;>first|exact rfl|exact trivial
noncomputable def GF(tn:String):Option Prim:=if tn="ValueError" then some (.isX none)else(uT tn).map Prim.isinst
noncomputable def Es:Gl->Option Prim
 |.ty tn=>GF tn
 |.exc j=>some (.isX (some j))
 |_=>none
noncomputable def F4(r:Expr->Option Ex)(T:Tb)(args:List Expr):Option Ex:=
 twoL (λx y=>(wO y).bind λt=>(T.glob t).bind λg=>(Es g).bind λp=>(r x).map λa=>.prim false p [a]) args
noncomputable def cGl(r:Expr->Option Ex)(T:Tb)(args:List Expr)(pos:Pos)(g:Gl):Option Ex:=match g with
 |.fn i b=>if(T.q&& !b)=true then none else(gq r args).map λes=>.call i es
 |.bi b=>if b="isinstance" then F4 r T args else(qI b args.length).bind λp=>if(T.q&&p.loud)=true then none else(gq r args).map λes=>.prim false p es
 |.ty t=>(p8 t args.length).bind λp=>if(T.q&&p.loud)=true then none else(gq r args).map λes=>.prim (T.isMu pos) p es
 |.cls _ _ f=>if T.q=true then none else oneL (λx=>(r x).map λa=>.new 0 f [a]) args
 |_=>none
noncomputable def zx(r:Expr->Option Ex)(T:Tb)(f:Expr)(args:List Expr)(kws:List Keyword)(pos:Pos):Option Ex:=oA (match f with
  |.Name g _=>(T.glob g).bind (cGl r T args pos)
  |.Attribute o name apos=>if gk o=true/\apos.endLine=pos.line then
    if(jC name args.length).isSome=true then(jC name args.length).bind λtp=>(r o).bind λa=>(gq r args).map λes=>.mcall tp.1 (T.isMu pos&&tp.2.fresh) tp.2 a es else if T.q=true then none else C5 r T o name args
    else none
  |_=>none) kws
noncomputable def Ez:Ex->Bool
 |.cst v=>v.num.isSome
 |_=>false
noncomputable def Prim.isR1:Prim->Bool
 |.range1=>true
 |_=>false
noncomputable def FH:List Ex->Bool
 |[e]=>Ez e
 |_=>false
noncomputable def qT:Ex->Bool
 |.prim mu p l=>!mu&&(p.isR1&&FH l)
 |_=>false
theorem xw{e:Ex}(h:Ez e=true):∃k,e=.cst (.int k):=by
 cases e with
 |cst v=>
  cases v with
  |int k=>exact⟨k,rfl⟩
  |_=>exact absurd h ag
 |_=>exact absurd h ag
theorem yG{p:Prim}(h:p.isR1=true):p=.range1:=by
 cases p<;>first|rfl|exact absurd h ag
theorem yP{e:Ex}(h:qT e=true):∃k,e=.prim false .range1 [.cst (.int k)]:=by
 cases e with
 |prim mu p l=>
  have h:=aj.mp h
  have h2:=aj.mp h.2
  cases mu with
  |true=>exact absurd h.1 ag
  |false=>
   cases yG h2.1
   cases l with
   |nil=>exact absurd h2.2 ag
   |cons x l=>
    cases l with
    |cons _ _=>exact absurd h2.2 ag
    |nil=>exact(xw h2.2).elim λk e=>⟨k,congrArg (λz=>Ex.prim false .range1 [z]) e⟩
 |_=>exact absurd h ag
noncomputable def EZ(r:Expr->Option Ex):List Expr->Option (Option Ex)
 |[]=>some none
 |t::l=>oA ((r t).map some) l
noncomputable def zC(r:FE)(T:Tb)(elt:Expr)(gens:List Comprehension)(sc:Scope)(pos:Pos):Option Ex:=oneL (λg=>(wO g.target).bind λx=>if g.is_async=0/\qU T x sc=true then
   (r T g.iter).bind λi=>if(T.q&& !qT i)=true then none else(r (ka T x sc) elt).bind λb=>(EZ (r (ka T x sc)) g.ifs).map λq=>.comp (T.isMu pos) b i q
   else none) gens
noncomputable def AY(r:Expr->Option Ex)(mu:Bool)(ks:List (Option Expr))(vs:List Expr):Option Ex:=
 oneL (λk=>k.bind λke=>oneL (λve=>(r ke).bind λa=>(r ve).map λb=>.prim mu .mkdict1 [a,b]) vs) ks
noncomputable def zV(r:Expr->Option Ex)(mu:Bool)(ks:List (Option Expr))(vs:List Expr):Option Ex:=
 if ks.length=vs.length/\ks.length<=15 then(gq zJ ks).bind λkcs=>(gq r vs).map λxs=>.prim mu (.mkdict kcs) xs else none
noncomputable def By(r:Expr->Option Ex)(o:Option Expr):Option Ex:=match o with
 |none=>some (.cst .none)
 |some e=>r e
noncomputable def Gf(r:Expr->Option Ex)(v e:Expr):Option Expr->Option Expr->Option Ex
 |none,none=>(r v).bind λa=>(r e).map λb=>.prim false .rev [a,b]
 |_,_=>none
noncomputable def Ea(r:Expr->Option Ex)(mu:Bool)(v sl:Expr):Option Ex:=match sl with
 |.Slice lo hi st _=>match st with
  |none=>(r v).bind λa=>(By r lo).bind λb=>(By r hi).map λc=>.prim mu .slice [a,b,c]
  |some e=>Gf r v e lo hi
 |sl=>if nz sl then none else(r v).bind λa=>(r sl).map λb=>.prim false .item [a,b]
noncomputable def cE:Nat->Tb->Expr->Option Ex
 |0,_,_=>none
 |k+1,T,e=>match e with
  |.Constant c _ _=>vh c
  |.Name x _=>wJ T x
  |.BinOp l op r pos=>(uk op).bind λo=>(cE k T l).bind λa=>(cE k T r).map λb=>.prim (T.isMu pos) (.bop o) [a,b]
  |.UnaryOp op x _=>(cE k T x).bind (cUn op)
  |.BoolOp op vs _=>(gq (cE k T) vs).bind (nf op)
  |.Compare l ops rs _=>DM (cE k T) l ops rs
  |.Call f args kws pos=>zx (cE k T) T f args kws pos
  |.Subscript v sl pos=>Ea (cE k T) (T.isMu pos) v sl
  |.List es pos=>(gq (cE k T) es).map λxs=>.prim (T.isMu pos) .mklist xs
  |.Tuple es _ _=>(gq (cE k T) es).map λxs=>.prim false .mktup xs
  |.Dict ks vs pos=>if(zV (cE k T) (T.isMu pos) ks vs).isSome=true then zV (cE k T) (T.isMu pos) ks vs else AY (cE k T) (T.isMu pos) ks vs
  |.ListComp elt gens sc pos=>zC (cE k) T elt gens sc pos
  |.Attribute o name _=>(tW (cE k T) T o name).map λq=>.prim false (.attr q.2) [q.1]
  |_=>none
noncomputable def Tb.slot(T:Tb)(x:Str):Option Nat:=
 match T.names.lookup x with
 |some .local|some .cell=>match T.tab.lookup x with
  |some i=>if i<T.n then some i else none
  |none=>none
 |_=>none
noncomputable def Tb.lslot(T:Tb)(x:Str):Option Nat:=if T.names.lookup x=some .local then T.slot x else none
noncomputable def gj(_:Tb)(_:Nat)(s:St):List St:=[s]
noncomputable def kH:Option (List (List St))->Option (List St)
 |some l=>some l.flatten
 |none=>none
noncomputable def vg(T:Tb)(a b:Expr):Option (List Nat):=(wO a).bind λx=>(wO b).bind λy=>(T.slot x).bind λi=>(T.slot y).map λj=>[i,j]
noncomputable def D7(T:Tb)(t:Expr):Option (Nat ⊕ List Nat):=match t with
 |.Name x _=>(T.slot x).map .inl
 |.Tuple es _ _=>(twoL (vg T) es).map .inr
 |_=>none
noncomputable def ui(T:Tb)(f:Expr):Bool:=(wO f).any λx=>(T.glob x).any λg=>AR g==some "reversed"
noncomputable def cIt(r:Expr->Option Ex)(T:Tb)(e:Expr):Option (Bool×Ex):=match e with
 |.Call f args kws p=>if ui T f=true then oA (oneL (λa=>(r a).map λx=>(true,x)) args) kws else(r (.Call f args kws p)).map λx=>(false,x)
 |e=>(r e).map λx=>(false,x)
noncomputable def zG(r:Expr->Option Ex)(T:Tb)(es:List Expr)(v:Expr):Option St:=
 if(vf v&& !T.q)=true then(twoL (vg T) es).bind λis=>(r v).map λe=>.asgTup is e else none
noncomputable def DA(r:Expr->Option Ex)(T:Tb)(t v:Expr)(l:Nat):Option (List St):=match t with
 |.Name x _=>(T.slot x).bind λi=>(r v).map λe=>gj T l (.asg i e)
 |.Tuple es _ _=>(zG r T es v).map λs=>gj T l s
 |.Subscript o i _=>(r v).bind λev=>(r o).bind λeo=>(r i).map λei=>gj T l (.setItem eo ei ev)
 |.Attribute o name _=>if im v then none else(r v).bind λev=>(tW r T o name).map λq=>gj T l (.setAttr q.1 q.2 ev)
 |_=>none
noncomputable def cRz(T:Tb)(e:Expr):Option Nat:=match e with
 |.Call f args kws _=>oA (oneL (λa=>(Ax a).bind λ_=>(wO f).bind λx=>(T.glob x).bind wn) args) kws
 |_=>none
noncomputable def t6(T:Tb)(e cause:Option Expr):Option Nat:=if(cause.isNone&& !T.q)=true then e.bind (cRz T)else none
noncomputable def AX:Stmt->Option Expr
 |.Return v _=>v
 |_=>none
noncomputable def EW(b:List Stmt):Option Unit:=oneL (λs=>(AX s).bind λe=>(B5 e).bind Dw) b
theorem AT(b:List Stmt):Is (EW b) λ_=>∃k p p',b=[.Return (some (.Constant .none k p)) p']:=by
 rcases b with _|⟨s,_|_⟩
 ·exact trivial
 ·refine Is.bind (R:=λe=>∃p',s=.Return (some e) p') ?_ λe h=>(uL e).bind λc h1=>(B9 c).imp λ_ h2=>?_
  ·cases s with
   |Return v p=>
    induction v with
    |none=>exact trivial
    |some e=>exact⟨p,rfl⟩
   |_=>exact trivial
  ·obtain ⟨p',rfl⟩:=h
   obtain⟨k,p,rfl⟩:=h1
   subst h2
   exact⟨k,p,p',rfl⟩
 ·exact trivial
noncomputable def GA(T:Tb)(t:Option Expr):Option Nat:=t.bind λt=>(wO t).bind λx=>(T.glob x).bind wn
noncomputable def cHd(T:Tb)(h:ExceptHandler):Option Nat:=match h with
 |.ExceptHandler t nm body _=>if nm.isSome=true then none else(GA T t).bind λj=>(EW body).map λ_=>j
noncomputable def zL:Stmt->Option Expr
 |.Expr v _=>some v
 |_=>none
noncomputable def Dh(b:List Stmt):Option Expr:=oneL zL b
theorem zw{α β:Type}{f:α->Option β}{R:α->β->Prop}(hf:∀a,Is (f a) (R a))(l:List α):Is (oneL f l) λb=>∃a,l=[a]/\R a b:=by
 rcases l with _|⟨s,_|_⟩
 ·exact trivial
 ·exact (hf s).imp λ_ h=>⟨s,rfl,h⟩
 ·exact trivial
theorem xx(s:Stmt):Is (zL s) λv=>∃p,s=.Expr v p:=by cases s<;>first|exact⟨_,rfl⟩|exact trivial
theorem B3(s:Stmt):Is (AX s) λv=>∃p,s=.Return (some v) p:=by
 cases s with
 |Return v p=>
  induction v with
  |none=>exact trivial
  |some e=>exact⟨p,rfl⟩
 |_=>exact trivial
theorem zF(T:Tb)(t:Option Expr):Is (GA T t) λj=>∃x p,t=some (.Name x p)/\T.glob x=some (.exc j):=by
 induction t with
 |none=>exact trivial
 |some t=>exact(li t).bind λx h=>Is.self.bind λg h1=>(rW g).imp λj h2=>h.elim λp h=>⟨x,p,congrArg some h,h2▸h1⟩
noncomputable def wD(r rq:Expr->Option Ex)(T:Tb)(body:List Stmt)(h:ExceptHandler):Option St:=match h with
 |.ExceptHandler t nm hb _=>nm.bind λx=>(Dh body).bind λv=>if im v=true then none else(GA T t).bind λj=>(T.lslot x).bind λi=>(oneL AX hb).bind λhe=>(r v).bind λe=>(rq he).map λy=>.tryE e j i y
noncomputable def cS:Nat->Tb->Stmt->Option (List St)
 |0,_,_=>none
 |k+1,T,s=>match s with
  |.Assign ts v pos=>oneL (λt=>DA (cE k T) T t v pos.line) ts
  |.While t body els pos=>oA ((cE k T t).bind λc=>(kH (gq (cS k T) body)).map λxs=>gj T pos.line (.while_ c xs)) els
  |.Expr v pos=>if im v then none else(cE k T v).map λe=>gj T pos.line (.expr e)
  |.If t a b pos=>(cE k T t).bind λc=>(kH (gq (cS k T) a)).bind λxs=>(kH (gq (cS k T) b)).map λys=>gj T pos.line (.ite c xs ys)
  |.For t it body els pos=>if T.q=true then none else oA ((D7 T t).bind λtg=>(cIt (cE k T) T it).bind λq=>(kH (gq (cS k T) body)).map λxs=>gj T pos.line (.forIn q.1 tg q.2 xs)) els
  |.Return v _=>(match v with
   |some e=>(cE k T e).map λx=>[.ret x]
   |none=>some [.ret (.cst .none)])
  |.Pass _=>some [.pass]
  |.Raise e cause _=>(t6 T e cause).map λj=>[.raise j]
  |.Try body hs els fin pos=>if T.q=true then none else oA (oA (oneL (λh=>if(wD (cE k T) (cE k {T with q:=true}) T body h).isSome=true then(wD (cE k T) (cE k {T with q:=true}) T body h).map λs=>[s]
   else(kH (gq (cS k T) body)).bind λbs=>(cHd T h).map λj=>gj T pos.line (.try_ bs j)) hs) fin) els
  |_=>none
noncomputable def Ga(k:Nat)(T:Tb)(b:List Stmt):Option (List St):=kH (gq (cS k T) b)
inductive ResL(c:Cx)(as:bj)(X:List Addr)(h:HP)(Q:List V->AH->Prop)(xs:List Value)(s':Shared):Prop
 |mk (vs:List V) (H':AH) (as':bj):Ext as h as'->SR c as' X H' s'->Kept as X h s'.heap->VRs c as' X s'.heap vs xs->Q vs H'->ResL c as X h Q xs s'
inductive ResB(c:Cx)(as:bj)(X:List Addr)(h:HP)(Q:Bool->AH->Prop)(b:Bool)(s':Shared):Prop
 |mk (H':AH) (as':bj):Ext as h as'->SR c as' X H' s'->Kept as X h s'.heap->Q b H'->ResB c as X h Q b s'
section
variable {c:Cx}{as as₁:bj}{X:List Addr}{h h₁:HP}{s':Shared}
theorem Res.lift{Q:QE}{x:Value}(e:Ext as h as₁)(k:Kept as X h h₁)(r:Res c as₁ X h₁ Q x s'):Res c as X h Q x s':=by
 obtain⟨v,H',as',e',S,k',hv,q⟩:=r
 exact⟨v,H',as',e.trans k e',S,k.trans e k',hv,q⟩
theorem ResL.lift{Q:List V->AH->Prop}{x:List Value}(e:Ext as h as₁)(k:Kept as X h h₁)(r:ResL c as₁ X h₁ Q x s'):ResL c as X h Q x s':=by
 obtain⟨v,H',as',e',S,k',hv,q⟩:=r
 exact⟨v,H',as',e.trans k e',S,k.trans e k',hv,q⟩
theorem ResB.lift{Q:Bool->AH->Prop}{x:Bool}(e:Ext as h as₁)(k:Kept as X h h₁)(r:ResB c as₁ X h₁ Q x s'):ResB c as X h Q x s':=by
 obtain⟨H',as',e',S,k',q⟩:=r
 exact⟨H',as',e.trans k e',S,k.trans e k',q⟩
end
structure ACk(q:Bool)(A:Around)(n:Nat):Prop where
 hh:q=false->A.handled=none
 hd:A.depth+2*n+5<=recursionLimit
 hu:A.units+10*n+300<cLine
structure AOk(q:Bool)(A:Around)(n:Nat):Prop extends ACk q A n where
 hr:A.depth+2*n+6<=recursionLimit
 hw:A.units+10*n+305<cLine
theorem AOk.u64{q:Bool}{A:Around}{n:Nat}(a:AOk q A n):A.units+64<cLine:=by haveI:=a.hu;exact g9 this (by simp+arith only)
inductive Hx(c:Cx)(as:bj)(X:List Addr)(h:HP)(A:Around):Prop
 |no:A.handled=none->Hx c as X h A
 |at {e:Addr} {k:Nat}:A.handled=some (.ref e)->VR c as X h (.exc k) (.ref e)->Hx c as X h A
theorem Hx.keepX{c:Cx}{as as':bj}{X:List Addr}{h h':HP}{A:Around}(x:Hx c as X h A)(e:Ext as h as')(k:VK as X h h'):Hx c as' X h' A:=by
 cases x with
 |no q=>exact .no q
 |«at» q r=>exact .at q (r.keepX k e)
theorem Hx.keep{c:Cx}{as as':bj}{X:List Addr}{h h':HP}{A:Around}(x:Hx c as X h A)(e:Ext as h as')(k:Kept as X h h'):Hx c as' X h' A:=x.keepX e k.x
theorem Hx.to{c:Cx}{as:bj}{X:List Addr}{h:HP}{A A':Around}(x:Hx c as X h A)(e:A'.handled=A.handled):Hx c as X h A':=by
 cases x with
 |no q=>exact .no (e.trans q)
 |«at» q r=>exact .at (e.trans q) r
theorem Hx.opens{c:Cx}{as:bj}{X Y:List Addr}{h h':HP}{A:Around}(x:Hx c as X h A)(g:Grown h h')(hX:∀b∈Y,b∈X\/h.get? b=none):Hx c as Y h' A:=by
 cases x with
 |no q=>exact .no q
 |«at» q r=>exact .at q (VR.gen (λa o ha hx ho=>⟨ha,λz=>(hX a z).elim hx λe=>du (e.symm.trans ho),g _ _ ho⟩) (λ_ _ e=>e) r)
structure KOk(T:Tb)(env:Env):Prop where
 loc:∀x,T.names.lookup x=some .local->env.kindOf x=some .local
 cell:∀x,T.names.lookup x=some .cell->env.kindOf x=some .cell
 free:∀x,T.names.lookup x=some .free->env.kindOf x=some .free\/env.kindOf x=some .cell
 glob:∀x,T.names.lookup x=some .globalImplicit->env.kindOf x=some .globalImplicit
structure Rdy(c:Cx)(T:Tb)(env:Env)(A:Around)(n:Nat)(s:Shared)(as:bj)(X:List Addr)(H:AH)(ρ:Fm):Prop where
 a:AOk T.q A n
 hx:Hx c as X s.heap A
 S:SR c as X H s
 F:FR c as X s.heap env T.tab ρ
 K:KOk T env
 len:ρ.length=T.n
 fr:EnvFr c A X as s.heap env
theorem Rdy.next{c:Cx}{T:Tb}{env:Env}{A:Around}{n:Nat}{s s₁:Shared}{as as₁:bj}{X:List Addr}{H H₁:AH}{ρ:Fm}(R:Rdy c T env A n s as X H ρ)
  (e:Ext as s.heap as₁)(k:Kept as X s.heap s₁.heap)(S:SR c as₁ X H₁ s₁):Rdy c T env A n s₁ as₁ X H₁ ρ:=
 ⟨R.a,R.hx.keep e k,S,R.F.keep k e,R.K,R.len,R.fr.keep e k⟩
def GO(c:Cx)(x:Str):Gl->Prop
 |.fn f b=>c.mg x=some (.ref (c.fad f))/\(b=true->c.qf f=true)
 |.cst v=>∃y,c.mg x=some y/\∀as X h,VR c as X h v y
 |.bi b=>c.mg x=none/\c.mb x=some (.builtin b)
 |.ty t=>c.mg x=none/\c.mb x=some (.type t)
 |.exc k=>c.mg x=some (.ref (c.xcls k))/\c.P.sub k k=true
 |.cls _ _ _=>c.mg x=some (.ref (c.ccls 0))
inductive CK(c:Cx)(ms:List (Str×Nat))(ats:List Str)(f:Nat):Prop
 |mk {N:Addr} {mN:Str->Option Value}:ClsAt c.base (c.ccls 0) N mN->mN "__setattr__"=none->mN "__getattribute__"=none->mN "__getattr__"=none->(∀n∈ats,mN n=none/\typeLookup (.type "object") n=pure none)->
   (∀n g,ms.lookup n=some g->mN n=some (.ref (c.fad g))/\(∃o,c.base.get? (c.fad g)=some o/\o.cls=.type "function")/\(∃y,typeLookup (.type "object") n=pure y)/\∃fn,c.P.fns g=some fn)->mN "__init__"=some (.ref (c.fad f))->(∃o,c.base.get? (c.fad f)=some o/\o.cls=.type "function")->(∃fn,c.P.fns f=some fn)->CK c ms ats f
structure SC(c:Cx)(n:Nat):Prop where
 run:∀{f:Nat} {fn:Fn} {A:Around} {s:Shared} {as:bj} {X:List Addr} {H:AH} {vs:List V} {xs:List Value} {Q:QE} {XX:XE},
 c.P.fns f=some fn->ACk (c.qf f) A n->Hx c as X s.heap A->(∃l,FrOk c A X as s.heap l)->SR c as X H s->VRs c as X s.heap vs xs->aG c.P n f vs H Q XX->wpAny c.M A (call (.ref (c.fad f)) xs) (Res c as X s.heap Q) (ERes c as X s.heap XX) s
structure Cok(c:Cx)(gl:List (Str×Gl)):Prop where
 g:c.base.Ns mainGlobals c.mg
 b:c.base.Ns builtinsNs c.mb
 nolim:c.base.NoLimit
 x:∀k,c.P.sub k k=true->∃bm,XC c.base (c.xcls k) bm/\∀x j,gl.lookup x=some (.exc j)->(Value.ref (c.xcls k)::bm).contains (.ref (c.xcls j))=c.P.sub k j
 cl:∀x ms ats f,(x,Gl.cls ms ats f)∈gl->CK c ms ats f
 gl:∀x v,gl.lookup x=some v->GO c x v
 fobj:∀f fn,c.P.fns f=some fn->∃o,c.base.get? (c.fad f)=some o/\o.data=.func (c.fdat f)
structure SE(c:Cx)(n:Nat)(T:Tb)(e:Expr)(ex:Ex):Prop where
 run:∀{env:Env} {A:Around} {s:Shared} {as:bj} {X:List Addr} {H:AH} {ρ:Fm} {Q:QE} {XX:XE},
 Rdy c T env A n s as X H ρ->cH c.P (aG c.P n) ex ρ H Q XX->wpAny c.M A (eval e env) (Res c as X s.heap Q) (ERes c as X s.heap XX) s
structure ST(c:Cx)(n:Nat)(T:Tb)(e:Expr)(ex:Ex):Prop where
 run:∀{env:Env} {A:Around} {s:Shared} {as:bj} {X:List Addr} {H:AH} {ρ:Fm} {P:QE} {Q:Bool->AH->Prop} {XX:XE},(∀v H,P v H->l8 (eB v) λb=>Q b H)->
 Rdy c T env A n s as X H ρ->cH c.P (aG c.P n) ex ρ H P XX->wpAny c.M A (isTrue e env (eval e env)) (ResB c as X s.heap Q) (ERes c as X s.heap XX) s
section
variable {c:Cx}{n:Nat}{T:Tb}{gl:List (Str×Gl)}
theorem Co{e₁ e₂:Expr}{x₁ x₂:Ex}{env:Env}{A:Around}{s:Shared}{as:bj}{X:List Addr}{H:AH}{ρ:Fm}{XX:XE}{W:V->V->AH->Prop}{t:Value->Value->Sem Value}{Q:QE}
  (h₁:SE c n T e₁ x₁)(h₂:SE c n T e₂ x₂)(R:Rdy c T env A n s as X H ρ)
  (w:cH c.P (aG c.P n) x₁ ρ H (λv H'=>cH c.P (aG c.P n) x₂ ρ H' (λv' H''=>W v v' H'') XX) XX)
  (tail:∀{s':Shared} {as':bj} {H':AH} {v v':V} {y y':Value},SR c as' X H' s'->VR c as' X s'.heap v y->VR c as' X s'.heap v' y'->W v v' H'->wpAny c.M A (t y y') (Res c as' X s'.heap Q) (ERes c as' X s'.heap XX) s') :
  wpAny c.M A (eval e₁ env) (λy s₁=>wpAny c.M A (eval e₂ env) (λy' s₂=>wpAny c.M A (t y y') (Res c as X s.heap Q) (ERes c as X s.heap XX) s₂) (ERes c as X s.heap XX) s₁) (ERes c as X s.heap XX) s:=by
 refine wpAny_mono (h₁.run R w) (λy s₁ r=>?_) λ_ _ e=>e
 obtain⟨v,H₁,as₁,e1,S1,k1,hv,w1⟩:=r
 refine wpAny_mono (h₂.run (R.next e1 k1 S1) w1) (λy' s₂ r=>?_) λ_ _ e=>e.lift e1 k1
 obtain⟨v',H₂,as₂,e2,S2,k2,hv',w2⟩:=r
 refine wpAny_mono (tail S2 (hv.keep k2 e2) hv' w2) (λx s₃ r=>?_) λ_ _ e=>(e.lift e2 k2).lift e1 k1
 exact(r.lift e2 k2).lift e1 k1
theorem oy{p:Prim}{vs:List V}{H:AH}:aU c.P false p vs H=prim c.P p vs H:=rfl
theorem d6{x:Str}{g:Gl}(h:T.glob x=some g):T.names.lookup x=some .globalImplicit/\T.gl.lookup x=some g/\(x==("__debug__":Str))=false:=by
 replace h:=mW h
 refine ce (h) λhd h=>?_
 refine ce (dR h) λh1 h2=>?_
 exact⟨h1,h2,hd⟩
theorem nt{x:Str}{pos:Pos}{g:Gl}{env:Env}{A:Around}{s:Shared}{R:Value->Shared->Prop}{E:Value->Shared->Prop}{y:Value}
  (C:Cok c T.gl)(h:T.glob x=some g)(hk:env.scope.kind=.function)(eg:env.globals=mainGlobals)(eb:env.builtins=builtinsNs)(K:KOk T env)(st:c.base.StaysIn s.heap)(hy:c.mg x=some y\/(c.mg x=none/\c.mb x=some y))(r:R y s):wpAny c.M A (eval (.Name x pos) env) R E s:=by
 refine Name_function_global hk (K.glob x (d6 h).1) ?_ (d6 h).2.2
 haveI hg:s.heap.Ns env.globals c.mg:=eg▸C.g.keeps st
 exact hy.elim (λhy=>loadGlobal_global hg hy r) λhy=>loadGlobal_builtin hg hy.1 (eb▸C.b.keeps st) hy.2 r
theorem fP{x:Str}{pos:Pos}{g:Gl}{env:Env}{A:Around}{s:Shared}{as:bj}{X:List Addr}{H:AH}{ρ:Fm}{R:Value->Shared->Prop}{E:Value->Shared->Prop}{y:Value}
  (C:Cok c T.gl)(h:T.glob x=some g)(Rd:Rdy c T env A n s as X H ρ)(hy:c.mg x=some y\/(c.mg x=none/\c.mb x=some y))(r:R y s):wpAny c.M A (eval (.Name x pos) env) R E s:=nt C h Rd.F.kind Rd.F.glob Rd.F.bi Rd.K Rd.S.stays hy r
theorem Bt{x:Str}{i:Nat}(h:T.var x=some i):T.tab.lookup x=some i/\(T.names.lookup x=some .local\/T.names.lookup x=some .cell\/T.names.lookup x=some .free)/\(x==("__debug__":Str))=false/\(x==("__classdict__":Str))=false:=by
 replace h:=mW h
 refine ce (h) λhd h=>?_
 refine ce (dR h) λh1 h2=>?_
 exact⟨h2,h1,cC.mp hd⟩
theorem jK{s:Str}{l:List Char}(h:mY s=some l):toS l=s/\l.length<=iu:=by
 replace h:=b8 h
 obtain⟨hh,rfl⟩:=h
 exact⟨hh.1,aa hh.2 (by decide)⟩
theorem vZ{cst:Const}{kk:Nat}{pos:Pos}{ex:Ex}(h:vh cst=some ex):SE c n T (.Constant cst kk pos) ex:=by
 refine⟨?_⟩
 intro env A s as X H ρ Q XX R w
 induction cst with
 |none=>(replace h:=ah h;(replace h:=Eq.symm h;subst h));exact wpAny_pure (Res.now (tk:=s.toks) R.S .none w)
 |bool=>(replace h:=ah h;subst h);exact wpAny_pure (Res.now (tk:=s.toks) R.S (.bool _) w)
 |int=>(replace h:=ah h;subst h);exact wpAny_Constant_int (Res.now R.S (.int _ _) w)
 |str=>
  refine ea1_2 (dc h) ?_
  intro l h1 h2
  subst h2
  refine ce (jK h1) λh3 h4=>?_
  refine Constant_str ?_
  subst h3
  exact Res.now R.S (.str _ _ h4) w
 |_=>exact du h
theorem wF{x:Str}{ex:Ex}(h:wJ T x=some ex):(∃i,T.var x=some i/\ex=.var i)\/∃v,T.glob x=some (.cst v)/\ex=.cst v:=by
 refine Is.of (o:=EP (glE (T.glob x)) (T.var x)) (R:=λex=>(∃i,T.var x=some i/\ex=.var i)\/∃v,T.glob x=some (.cst v)/\ex=.cst v) ?_ h
 clear h
 generalize T.var x=a
 induction a with
 |some i=>exact .inl ⟨i,rfl,rfl⟩
 |none=>
  generalize T.glob x=b
  induction b with
  |none=>exact trivial
  |some g=>
   induction g with
   |cst v=>exact .inr ⟨v,rfl,rfl⟩
   |_=>exact trivial
theorem qO{P:Prog}{C:Calls}{i:Nat}{ρ:Fm}{H:AH}{Q:QE}{XX:XE}(w:cH P C (.var i) ρ H Q XX):∃v,ρ[i]? =some (some v)/\Q v H:=by
 simp only [rN]at w
 match h:ρ[i]?,w with
 |some (some v),w=>exact⟨v,rfl,w⟩
theorem xF{x:Str}{pos:Pos}{ex:Ex}(C:Cok c T.gl)(h:wJ T x=some ex):SE c n T (.Name x pos) ex:=by
 refine⟨?_⟩
 intro env A s as X H ρ Q XX R w
 refine Or.elim (wF h) (λq_=>?_) (λq_=>?_)
 ·obtain ⟨i,hi,rfl⟩:=q_;refine sd (Bt hi) ?_
  intro h1 h2 h3 h4
  refine ea1_2 (qO w) ?_
  intro v hv w
  refine wpAny_Name (AD R.S R.F h1 ?_ hv h4 w) h3
  rcases h2 with h2|h2|h2
  ·exact .inl (R.K.loc x h2)
  ·exact .inr (.inl (R.K.cell x h2))
  ·refine Or.elim (R.K.free x h2) (λq=>?_) λq=>?_
   ·exact .inr (.inr q)
   ·exact .inr (.inl q)
 ·obtain ⟨v,hg,rfl⟩:=q_;refine ea0_3 (d6 hg) ?_
  intro h1 h2 h3
  refine ea1_2 (C.gl x _ h2) ?_
  intro y e1 e2
  exact fP C hg R (.inl e1) (Res.now (tk:=s.toks) R.S (e2 _ _ _) w)
theorem ix{e₁ e₂:Expr}{x₁ x₂:Ex}{p:Prim}{mu:Bool}{env:Env}{A:Around}{s:Shared}{as:bj}{X:List Addr}{H:AH}{ρ:Fm}{XX:XE}{t:Value->Value->Sem Value}{Q:QE}
  (h₁:SE c n T e₁ x₁)(h₂:SE c n T e₂ x₂)(R:Rdy c T env A n s as X H ρ)(w:cH c.P (aG c.P n) (.prim mu p [x₁,x₂]) ρ H Q XX)
  (tail:∀{s':Shared} {as':bj} {H':AH} {v v':V} {y y':Value},SR c as' X H' s'->VR c as' X s'.heap v y->VR c as' X s'.heap v' y'->gi (aU c.P mu p [v,v'] H') Q->wpAny c.M A (t y y') (Res c as' X s'.heap Q) (ERes c as' X s'.heap XX) s') :
  wpAny c.M A (eval e₁ env) (λy s₁=>wpAny c.M A (eval e₂ env) (λy' s₂=>wpAny c.M A (t y y') (Res c as X s.heap Q) (ERes c as X s.heap XX) s₂) (ERes c as X s.heap XX) s₁) (ERes c as X s.heap XX) s:=by
 simp only [dA,c6]at w
 simp only [c6,dL]at w
 exact Co (W:=λv v' H'=>gi (aU c.P mu p [v,v'] H') Q) h₁ h₂ R w tail
theorem bV{r:Option (V×AH)}{Q:QE}(h:gi r Q):∃v H',r=some (v,H')/\Q v H':=by
 induction r with
 |none=>exact h.elim
 |some p=>exact⟨p.1,p.2,rfl,h⟩
theorem gr{r:Option Bool}{K:Bool->Prop}(h:l8 r K):∃b,r=some b/\K b:=by
 induction r with
 |none=>exact h.elim
 |some p=>exact⟨p,rfl,h⟩
theorem ox{A:Around}{E:Value->Shared->Prop}{s:Shared}{as:bj}{X:List Addr}{H:AH}{Q:QE}{x y:V}{cx cy:Value}{xs ys:List V}(S:SR c as X H s)(hx:VR c as X s.heap x cx)(hy:VR c as X s.heap y cy)(ex:dM H x=some xs)(ey:dM H y=some ys)
  (hz:xs.length+ys.length<=au)(q:Q (.ref H.length) (H++[.list (xs++ys)])):wpAny c.M A (binaryOp .Add cx cy) (Res c as X s.heap Q) E s:=by
 obtain⟨a,its,rfl,⟨n,ha⟩,ra,_⟩:=dF S hx ex
 obtain⟨b,its',rfl,⟨n',hb⟩,rb,_⟩:=dF S hy ey
 refine P.add_list ha hb (FreshL.thawed S (ig (tk:=s.toks) S (.push _ _) (aE _ rfl) ((gH).symm▸ra.append rb) (aa (aq af) (aa hz (aa (ay _ 5) di)))) q) ?_
 rw [ra.len_arr,rb.len_arr]
 exact aa hz b0
theorem oL{op:Operator}{o:Bop}(h:uk op=some o):op=vd o:=Is.of (R:=λo=>op=vd o) (by cases op<;>first|exact rfl|exact trivial) h
theorem uN{l r:Expr}{op:Operator}{o:Bop}{pos:Pos}{a b:Ex}{mu:Bool}(ho:uk op=some o)(h₁:SE c n T l a)(h₂:SE c n T r b):SE c n T (.BinOp l op r pos) (.prim mu (.bop o) [a,b]):=by
 refine⟨?_⟩
 intro env A s as X H ρ Q XX R w
 refine wpAny_BinOp (ix h₁ h₂ R w λS hv hv' q=>?_)
 induction mu with
 |false=>
  refine dt (bV q) ?_
  intro v H' e q'
  refine ea1_2 (aY.mp (show(vE o _ _ _).map _=_ from e)) ?_
  intro z e1 e2
  cases e2
  exact xL S hv hv' (oL ho) e1 q'
 |true=>
  haveI e:=oL ho
  subst e
  induction o with
  |add=>
   refine dt (bV (show gi (((AP _ _ _).map _).bind _) Q from q)) λr H' e q'=>?_
   refine ea1_2 (bX e) λz e1 e2=>?_
   refine ea1_2 (dc e1) λu e3 e4=>?_
   subst e4
   cases mR e3 with
   |lst h1 h2 h3=>
    (obtain⟨rfl,rfl⟩:=oz e2;clear e2)
    exact ox S hv hv' h1 h2 h3 q'
   |_=>exact du e2
  |_=>exact q.elim
inductive A2{α β:Type}(R:α->β->Prop):List α->List β->Prop
 |nil:A2 R [] []
 |cons {a:α} {b:β} {l:List α} {m:List β}:R a b->A2 R l m->A2 R (a::l) (b::m)
theorem jm{v:V}{b:Bool}(h:eB v=some b):v=.bool b:=Is.of (R:=λb=>v=.bool b) (by cases v<;>first|exact rfl|exact trivial) h
theorem uw{e:Expr}{ex:Ex}(hp:∀env whole,isTrue e env whole=(do let v <-whole;standAt e.pos;holding [v] (truthy v)))(h:SE c n T e ex):ST c n T e ex:=by
 refine⟨?_⟩
 intro env A s as X H ρ P Q XX hP R w
 rw [hp]
 refine wpAny_bind (wpAny_mono (h.run R w) (λy s₁ r=>wpAny_bind (wpAny_standAt (wpAny_holding ?_))) λ_ _ e=>e)
 obtain⟨v,H₁,as₁,e1,S1,k1,hv,q⟩:=r
 replace q:=gr (hP _ _ q)
 refine ea1_2 q ?_
 clear q
 intro b hb q
 clear h hp hP w
 cases jm hb
 cases hv.inv
 exact wpAny_truthy_bool ⟨H₁,as₁,e1,S1,k1,q⟩
theorem BP{x:Expr}{pos:Pos}{a:Ex}(h:SE c n T x a):SE c n T (.UnaryOp .Not x pos) (.prim false .not [a]):=by
 refine⟨?_⟩
 intro env A s as X H ρ Q XX R w
 simp only [dA,c6]at w
 simp only [dL]at w
 refine wpAny_UnaryOp (wpAny_mono (h.run R w) (λy s₁ r=>?_) λ_ _ e=>e)
 obtain⟨v,H₁,as₁,e1,S1,k1,hv,q⟩:=r
 refine dt (bV q) ?_
 intro v' H' e q'
 refine ea1_2 (dc (e:(eB v).map _=_)) ?_
 intro b e2 e3
 replace e2:=jm e2
 subst e2
 cases e3
 cases hv.inv
 exact not_of (wpAny_truthy_bool ((Res.now (tk:=s₁.toks) S1 (.bool _) q').lift e1 k1))
theorem BY{x:Expr}{pos:Pos}{a:Ex}(h:ST c n T x a):ST c n T (.UnaryOp .Not x pos) (.prim false .not [a]):=by
 refine⟨?_⟩
 intro env A s as X H ρ P Q XX hP R w
 simp only [dA,c6]at w
 simp only [dL]at w
 refine wpAny_isTrue_Not (wpAny_mono (h.run (Q:=λb H'=>Q (!b) H') (λv H' q=>?_) R w) (λb s₁ r=>let⟨H₁,as₁,e1,S1,k1,q⟩:=r;⟨H₁,as₁,e1,S1,k1,q⟩) λ_ _ e=>e)
 clear h w R
 refine dt (bV q) ?_
 intro r H'' e q
 refine ea1_2 (dc (e:(eB v).map _=_)) ?_
 intro b e2 e3
 clear e
 cases e3
 rw [e2]
 exact hP _ _ q
theorem AV{x:Expr}{pos:Pos}{a:Ex}(h:SE c n T x a):SE c n T (.UnaryOp .USub x pos) (.prim false .neg [a]):=by
 refine⟨?_⟩
 intro env A s as X H ρ Q XX R w
 simp only [dA,c6]at w
 simp only [dL]at w
 refine wpAny_UnaryOp (wpAny_mono (h.run R w) (λy s₁ r=>?_) λ_ _ e=>e)
 obtain⟨v,H₁,as₁,e1,S1,k1,hv,q⟩:=r
 refine dt (bV q) ?_
 intro v' H' e q'
 refine ea1_2 (dc (e:v.num.map _=_)) ?_
 intro i e2 e3
 replace e2:=V.num_is e2
 subst e2
 cases e3
 cases hv.inv
 exact PyProof.Rows.neg_int ((Res.now S1 (.int _ _) q').lift e1 k1)
theorem oO{pos:Pos}{op:BoolOp}{e₁ e₂:Expr}{es:List Expr}{env:Env}:boolOp pos op (evalEach (e₁::e₂::es) env)=(do
  let v <-eval e₁ env
  standAt pos
  let t <-holding [v] (truthy v)
  if qK op t then boolOp pos op (evalEach (e₂::es) env)else pure v):=by
 refine(?_:(eval e₁ env>>= λv=>standAt pos>>= λ_=>holding [v] (truthy v)>>= λt=>_)=_)
 congr 1;funext v;congr 1;funext _;congr 1;funext t
 cases op<;>cases t<;>rfl
theorem yE{op:BoolOp}{pos:Pos}{env:Env}{A:Around}{X:List Addr}{ρ:Fm}{XX:XE}{es:List Expr}{xs:List Ex}(h:A2 (SE c n T) es xs):∀{ex:Ex} {s:Shared} {as:bj} {H:AH} {Q:QE},nf op xs=some ex->
  Rdy c T env A n s as X H ρ->cH c.P (aG c.P n) ex ρ H Q XX->wpAny c.M A (boolOp pos op (evalEach es env)) (Res c as X s.heap Q) (ERes c as X s.heap XX) s:=by
 induction h with
 |nil=>intro ex s as H Q h;exact du h
 |cons h₁ h₂ ih=>
  intro ex s as H Q h R w
  cases h₂ with
  |nil=>(replace h:=ah h;(replace h:=Eq.symm h;subst h));exact h₁.run R w
  |cons h₂ h₃=>
   refine ea1_2 (dc h) ?_
   clear h
   intro y hy hex
   subst hex
   simp only [rS]at w
   rw [oO]
   refine wpAny_bind (wpAny_mono (h₁.run R w) (λv s₁ r=>?_) λ_ _ e=>e)
   obtain⟨v,H₁,as₁,e1,S1,k1,hv,q⟩:=r
   refine ea1_2 (gr q) ?_
   clear q w h₁
   intro b hb q
   cases jm hb
   cases hv.inv
   refine wpAny_bind (wpAny_standAt (wpAny_bind (wpAny_holding (wpAny_truthy_bool ?_))))
   by_cases g:qK op b=true
   ·rw [if_pos g]at q ⊢;exact wpAny_mono (ih hy (R.next e1 k1 S1) q) (λ_ _ r=>r.lift e1 k1) λ_ _ e=>e.lift e1 k1
   ·rw [if_neg g]at q ⊢;exact wpAny_pure ((Res.now (tk:=s₁.toks) S1 (.bool _) q).lift e1 k1)
theorem nA{op:BoolOp}{e₁:Expr}{es:List Expr}{env:Env}:allTrue op (e₁::es) env=(do
  let t <-isTrue e₁ env (eval e₁ env)
  if qK op t then allTrue op es env else pure t):=by
 simp only [arm_allTrue_cons]
 congr 1;funext t
 cases op<;>cases t<;>rfl
theorem yC{op:BoolOp}{env:Env}{A:Around}{X:List Addr}{ρ:Fm}{XX:XE}{es:List Expr}{xs:List Ex}(h:A2 (ST c n T) es xs):∀{ex:Ex} {s:Shared} {as:bj} {H:AH} {P:QE} {Q:Bool->AH->Prop},nf op xs=some ex->(∀v H,P v H->l8 (eB v) λb=>Q b H)->
  Rdy c T env A n s as X H ρ->cH c.P (aG c.P n) ex ρ H P XX->wpAny c.M A (allTrue op es env) (ResB c as X s.heap Q) (ERes c as X s.heap XX) s:=by
 induction h with
 |nil=>intro ex s as H P Q h;exact du h
 |cons h₁ h₂ ih=>
  intro ex s as H P Q h hP R w
  rw [nA]
  cases h₂ with
  |nil=>
   (replace h:=ah h;(replace h:=Eq.symm h;subst h))
   refine wpAny_bind (wpAny_mono (h₁.run hP R w) (λb s₁ r=>?_) λ_ _ e=>e)
   by_cases g:qK op b=true
   ·cases op<;>cases b<;>first|exact wpAny_pure r|cases g
   ·exact (if_neg g)▸wpAny_pure r
  |cons h₂ h₃=>
   refine ea1_2 (dc h) ?_
   clear h
   intro y hy hex
   subst hex
   simp only [rS]at w
   refine wpAny_bind (wpAny_mono (h₁.run (Q:=λt H'=>if qK op t then cH c.P (aG c.P n) y ρ H' P XX else P (.bool t) H') (λ_ _ q=>q) R w) (λb s₁ r=>?_) λ_ _ e=>e)
   obtain⟨H₁,as₁,e1,S1,k1,q⟩:=r
   clear w h₁
   by_cases g:qK op b=true
   ·rw [if_pos g]at q ⊢;exact wpAny_mono (ih hy hP (R.next e1 k1 S1) q) (λ_ _ r=>r.lift e1 k1) λ_ _ e=>e.lift e1 k1
   ·rw [if_neg g]at q ⊢;exact wpAny_pure ⟨H₁,as₁,e1,S1,k1,hP _ _ q⟩
theorem tX(op:CmpOp):zN (d8 op)=op:=by cases op<;>rfl
theorem lB{A:Around}{E:Value->Shared->Prop}{s:Shared}{as:bj}{X:List Addr}{H:AH}{Q:QE}{op:CmpOp}{x y:V}{cx cy:Value}{b:Bool}(S:SR c as X H s)(hx:VR c as X s.heap x cx)(hy:VR c as X s.heap y cy)(hu:A.units+64<cLine)
  (e:gw (d8 op) x y H=some b)(q:Q (.bool b) H):wpAny c.M A (compareOp op cx cy) (Res c as X s.heap Q) E s:=by
 haveI h:=Ep (A:=A) (E:=E) S hx hy hu e q
 rw [tX]at h
 exact h
theorem Bb{l r:Expr}{op:CmpOp}{pos:Pos}{a b:Ex}(hm:behindInMarks op r=false)(h₁:SE c n T l a)(h₂:SE c n T r b):SE c n T (.Compare l [op] [r] pos) (.prim false (.cop (d8 op)) [a,b]):=by
 refine⟨?_⟩
 intro env A s as X H ρ Q XX R w
 refine wpAny_Compare1 (ix h₁ h₂ R w λS hv hv' q=>?_) hm
 refine dt (bV q) ?_
 intro v H' e q'
 refine ea1_2 (dc (e:(gw (d8 op) _ _ _).map _=_)) ?_
 intro z e1 e2
 cases e2
 exact lB S hv hv' R.a.u64 e1 q'
theorem Bw{l r:Expr}{op:CmpOp}{pos:Pos}{a b:Ex}(hm:behindInMarks op r=false)(h₁:SE c n T l a)(h₂:SE c n T r b):ST c n T (.Compare l [op] [r] pos) (.prim false (.cop (d8 op)) [a,b]):=by
 refine⟨?_⟩
 intro env A s as X H ρ P Q XX hP R w
 refine wpAny_isTrue_Compare1 ?_ hm
 simp only [dA,c6]at w
 simp only [c6,dL]at w
 refine wpAny_mono (h₁.run R w) (λy s₁ r=>?_) λ_ _ e=>e
 obtain⟨v,H₁,as₁,e1,S1,k1,hv,w1⟩:=r
 refine wpAny_mono (h₂.run (R.next e1 k1 S1) w1) (λy' s₂ r=>?_) λ_ _ e=>e.lift e1 k1
 obtain⟨v',H₂,as₂,e2,S2,k2,hv',w2⟩:=r
 refine dt (bV w2) ?_
 intro z H' e q'
 refine ea1_2 (dc (e:(gw (d8 op) v v' _).map _=_)) ?_
 intro t e3 e4
 cases e4
 replace q':=gr (hP _ _ q')
 refine ea1_2 q' ?_
 intro t' h5 q'
 (replace h5:=ah h5;subst h5)
 haveI:=lB (A:=A) (E:=ERes c as X s.heap XX) (Q:=λv H=>v=.bool t/\Q t H) S2 (hv.keep k2 e2) hv' R.a.u64 e3 ⟨rfl,q'⟩
 refine wpAny_mono this (λx s₃ r=>?_) λ_ _ e=>e
 obtain⟨v3,H3,as3,e6,S3,k3,hv3,rfl,q3⟩:=r
 cases hv3.inv
 exact wpAny_truthy_bool ((ResB.lift e1 k1 (ResB.lift e2 k2 ⟨H3,as3,e6,S3,k3,q3⟩)))
theorem oM{l m:Expr}{o₁ o₂:CmpOp}{a b d:Ex}(h₁:SE c n T l a)(h₂:SE c n T m b)
  {env:Env}{A:Around}{s:Shared}{as:bj}{X:List Addr}{H:AH}{ρ:Fm}{Q:QE}{XX:XE}(R:Rdy c T env A n s as X H ρ)(w:cH c.P (aG c.P n) (.cmp2 a (d8 o₁) b (d8 o₂) d) ρ H Q XX)
  {α:Type}{k₁:Value->Value->Value->Sem α}{R₀:α->Shared->Prop}
  (no:∀{s':Shared} {as':bj} {H':AH} {y y':Value},Ext as s.heap as'->Kept as X s.heap s'.heap->SR c as' X H' s'->Q (.bool false) H'->wpAny c.M A (k₁ y y' (.bool false)) R₀ (ERes c as X s.heap XX) s')
  (yes:∀{s':Shared} {as':bj} {H':AH} {v':V} {y y':Value},Ext as s.heap as'->Kept as X s.heap s'.heap->SR c as' X H' s'->VR c as' X s'.heap v' y'->
   cH c.P (aG c.P n) d ρ H' (λz H₃=>l8 (gw (d8 o₂) v' z H₃) λt'=>Q (.bool t') H₃) XX->wpAny c.M A (k₁ y y' (.bool true)) R₀ (ERes c as X s.heap XX) s') :
  wpAny c.M A (eval l env) (λy s₁=>wpAny c.M A (eval m env) (λy' s₂=>wpAny c.M A (compareOp o₁ y y') (λx s₃=>wpAny c.M A (k₁ y y' x) R₀ (ERes c as X s.heap XX) s₃) (ERes c as X s.heap XX) s₂) (ERes c as X s.heap XX) s₁) (ERes c as X s.heap XX) s:=by
 simp only [wE]at w
 refine wpAny_mono (h₁.run R w) (λy s₁ r=>?_) λ_ _ e=>e
 obtain⟨v,H₁,as₁,e1,S1,k1,hv,w1⟩:=r
 refine wpAny_mono (h₂.run (R.next e1 k1 S1) w1) (λy' s₂ r=>?_) λ_ _ e=>e.lift e1 k1
 obtain⟨v',H₂,as₂,e2,S2,k2,hv',w2⟩:=r
 refine ea1_2 (gr w2) ?_
 intro t e3 q
 have:=lB (A:=A) (E:=ERes c as X s.heap XX) (Q:=λv H=>v=.bool t/\H=H₂) S2 (hv.keep k2 e2) hv' R.a.u64 e3 ⟨rfl,rfl⟩
 refine wpAny_mono this (λx s₃ r=>?_) λ_ _ e=>e
 obtain⟨v3,H3,as3,e6,S3,k3,hv3,rfl,rfl⟩:=r
 cases hv3.inv
 haveI E:=(e1.trans k1 e2).trans (k1.trans e1 k2) e6
 haveI K:=(k1.trans e1 k2).trans (e1.trans k1 e2) k3
 induction t with
 |false=>exact no E K S3 q
 |true=>exact yes E K S3 (hv'.keep k3 e6) q
theorem y0{l m r:Expr}{o₁ o₂:CmpOp}{pos:Pos}{a b d:Ex}(hm:behindInMarks o₂ r=false)(h₁:SE c n T l a)(h₂:SE c n T m b)(h₃:SE c n T r d):SE c n T (.Compare l [o₁,o₂] [m,r] pos) (.cmp2 a (d8 o₁) b (d8 o₂) d):=by
 refine⟨?_⟩
 intro env A s as X H ρ Q XX R w
 haveI e0:eval (.Compare l [o₁,o₂] [m,r] pos) env=(do
   let x <-eval l env
   let y <-holding [x] (eval m env)
   standAt pos
   let z <-holding [x,y] (compareOp o₁ x y)
   release [x,y] [z]
   if <-holding [z,y] (truthy z)then(do
    let u <-holding [y] (eval r env)
    standAt pos
    operate [y,u] (compareOp o₂ y u))else pure z):=by
  haveI:eval (.Compare l [o₁,o₂] [m,r] pos) env=(do compareChain pos (<-eval l env) [o₁,o₂] [eval m env,markedBehindIn o₂ r (eval r env)]):=rfl
  rw [this,markedBehindIn_of_false hm]
  rfl
 rw [e0]
 haveI hrun:=oM (k₁:=λx y z=>(do
   release [x,y] [z]
   if <-holding [z,y] (truthy z)then(do
    let u <-holding [y] (eval r env)
    standAt pos
    operate [y,u] (compareOp o₂ y u))else pure z)) (R₀:=Res c as X s.heap Q) h₁ h₂ R w ?_ ?_
 ·refine wpAny_bind (wpAny_mono hrun (λx s₁ r=>wpAny_bind (wpAny_holding (wpAny_mono r (λy s₂ r=>wpAny_bind (wpAny_standAt (wpAny_bind (wpAny_holding r)))) λ_ _ e=>e))) λ_ _ e=>e)
 ·intro s' as' H' y y' E K S q
  refine wpAny_bind (wpAny_release (wpAny_bind (wpAny_holding (wpAny_truthy_bool ?_))))
  exact wpAny_pure ((Res.now (tk:=s'.toks) S (.bool _) q).lift E K)
 ·intro s' as' H' v' y y' E K S hv' w3
  refine wpAny_bind (wpAny_release (wpAny_bind (wpAny_holding (wpAny_truthy_bool ?_))))
  refine wpAny_bind (wpAny_holding (wpAny_mono (h₃.run (R.next E K S) w3) (λu s₂ r=>?_) λ_ _ e=>e.lift E K))
  obtain⟨v4,H4,as4,e4,S4,k4,hv4,q4⟩:=r
  refine ea1_2 (gr q4) ?_
  intro t e5 q5
  refine wpAny_bind (wpAny_standAt (wpAny_operating ?_))
  haveI:=lB (A:=A) (E:=ERes c as X s.heap XX) S4 (hv'.keep k4 e4) hv4 R.a.u64 e5 q5
  exact wpAny_mono this (λ_ _ r=>(r.lift e4 k4).lift E K) λ_ _ e=>e
theorem xG{l m r:Expr}{o₁ o₂:CmpOp}{pos:Pos}{a b d:Ex}(hm:behindInMarks o₂ r=false)(h₁:SE c n T l a)(h₂:SE c n T m b)(h₃:SE c n T r d):ST c n T (.Compare l [o₁,o₂] [m,r] pos) (.cmp2 a (d8 o₁) b (d8 o₂) d):=by
 refine⟨?_⟩
 intro env A s as X H ρ P Q XX hP R w
 haveI e0:isTrue (.Compare l [o₁,o₂] [m,r] pos) env (eval (.Compare l [o₁,o₂] [m,r] pos) env)=(do
   let x <-eval l env
   let y <-holding [x] (eval m env)
   standAt pos
   let z <-holding [x,y] (compareOp o₁ x y)
   release [x,y] [z]
   if <-holding [z,y] (truthy z)then(do
    let u <-holding [y] (eval r env)
    standAt pos
    let z' <-operate [y,u] (compareOp o₂ y u)
    holding [z'] (truthy z'))else pure false):=by
  haveI:isTrue (.Compare l [o₁,o₂] [m,r] pos) env (eval (.Compare l [o₁,o₂] [m,r] pos) env)=(do testChain pos (<-eval l env) [o₁,o₂] [eval m env,markedBehindIn o₂ r (eval r env)]):=rfl
  rw [this,markedBehindIn_of_false hm]
  rfl
 rw [e0]
 haveI hrun:=oM (k₁:=λx y z=>(do
   release [x,y] [z]
   if <-holding [z,y] (truthy z)then(do
    let u <-holding [y] (eval r env)
    standAt pos
    let z' <-operate [y,u] (compareOp o₂ y u)
    holding [z'] (truthy z'))else pure false)) (R₀:=ResB c as X s.heap Q) h₁ h₂ R w ?_ ?_
 ·refine wpAny_bind (wpAny_mono hrun (λx s₁ r=>wpAny_bind (wpAny_holding (wpAny_mono r (λy s₂ r=>wpAny_bind (wpAny_standAt (wpAny_bind (wpAny_holding r)))) λ_ _ e=>e))) λ_ _ e=>e)
 ·intro s' as' H' y y' E K S q
  refine wpAny_bind (wpAny_release (wpAny_bind (wpAny_holding (wpAny_truthy_bool ?_))))
  exact wpAny_pure ⟨H',as',E,S,K,hP _ _ q⟩
 ·intro s' as' H' v' y y' E K S hv' w3
  refine wpAny_bind (wpAny_release (wpAny_bind (wpAny_holding (wpAny_truthy_bool ?_))))
  refine wpAny_bind (wpAny_holding (wpAny_mono (h₃.run (R.next E K S) w3) (λu s₂ r=>?_) λ_ _ e=>e.lift E K))
  obtain⟨v4,H4,as4,e4,S4,k4,hv4,q4⟩:=r
  refine ea1_2 (gr q4) ?_
  intro t e5 q5
  refine wpAny_bind (wpAny_standAt (wpAny_bind (wpAny_operating ?_)))
  haveI:=lB (A:=A) (E:=ERes c as X s.heap XX) (Q:=λv H=>v=.bool t/\Q t H) S4 (hv'.keep k4 e4) hv4 R.a.u64 e5 ⟨rfl,hP _ _ q5⟩
  refine wpAny_mono this (λ_ _ r=>?_) λ_ _ e=>e
  obtain⟨v3,H3,as3,e6,S3,k3,hv3,rfl,q3⟩:=r
  cases hv3.inv
  exact wpAny_holding (wpAny_truthy_bool (ResB.lift E K (ResB.lift e4 k4 ⟨H3,as3,e6,S3,k3,q3⟩)))
def NS(e:Expr):Prop:=∀a p,e≠.Starred a p
theorem f8{e:Expr}(h:NS e)(r:List Expr)(env:Env):starEach (e::r) env=(false,eval e env)::starEach r env:=by
 cases e with
 |Starred a p=>exact absurd rfl (h a p)
 |_=>rfl
abbrev mE(c:Cx)(n:Nat)(T:Tb)(es:List Expr)(xs:List Ex):Prop:=A2 (λe x=>SE c n T e x/\NS e) es xs
theorem nu{pos:Pos}{env:Env}{A:Around}{X:List Addr}{ρ:Fm}{XX:XE}{es:List Expr}{xs:List Ex}(h:mE c n T es xs):∀{s:Shared} {as:bj} {H:AH} {Q:List V->AH->Prop},Rdy c T env A n s as X H ρ->
  fw c.P (aG c.P n) xs ρ H Q XX->wpAny c.M A (spliced (backTo pos (starEach es env))) (ResL c as X s.heap (λvs H'=>vs.length=xs.length/\Q vs H')) (ERes c as X s.heap XX) s:=by
 induction h with
 |nil=>exact λR w=>spliced_nil ⟨[],_,_,.refl ..,R.S,Kept.refl _ _ _,.nil,rfl,w⟩
 |cons h₁ _ ih=>
  intro s as H Q R w
  rw [f8 h₁.2]
  refine spliced_cons ?_
  simp only [c6]at w
  refine wpAny_mono (h₁.1.run R w) (λy s₁ r=>?_) λ_ _ e=>e
  obtain⟨v,H₁,as₁,e1,S1,k1,hv,w1⟩:=r
  refine wpAny_mono (ih (R.next e1 k1 S1) w1) (λys s₂ r=>?_) λ_ _ e=>e.lift e1 k1
  obtain⟨vs,H₂,as₂,e2,S2,k2,hvs,hl,q⟩:=r
  exact⟨v::vs,H₂,as₂,e1.trans k1 e2,S2,k1.trans e1 k2,.cons (hv.keep k2 e2) hvs,congrArg tC hl,q⟩
theorem eR{f:Value}{pos:Pos}{env:Env}{A:Around}{X:List Addr}{ρ:Fm}{XX:XE}{es:List Expr}{xs:List Ex}{s:Shared}{as:bj}{H:AH}{Q:List V->AH->Prop}(h:mE c n T es xs)(R:Rdy c T env A n s as X H ρ)
  (w:fw c.P (aG c.P n) xs ρ H Q XX):wpAny c.M A (evalArgs f true (backTo pos (starEach es env)) []) (λa s'=>a.kw=[]/\ResL c as X s.heap (λvs H'=>vs.length=xs.length/\Q vs H') a.pos s') (ERes c as X s.heap XX) s:=by
 haveI hr:=nu (pos:=pos) h R w
 induction h with
 |nil=>exact evalArgs_kw_nil (keywords:=[]) rfl (wpAny_evalAll_nil ⟨rfl,⟨[],H,as,.refl ..,R.S,Kept.refl _ _ _,.nil,rfl,w⟩⟩)
 |cons h₁ h₂=>
  rw [f8 h₁.2]at hr ⊢
  exact evalArgs_plain (wpAny_mono hr (λvs s' r=>⟨rfl,r⟩) λ_ _ e=>e)
theorem kT{es:List Expr}{xs:List Ex}{pos:Pos}{env:Env}(h:mE c n T es xs):(backTo pos (starEach es env)).any (·.1)=false:=by
 induction h with
 |nil=>rfl
 |cons h₁ _ ih=>rw [f8 h₁.2];exact ih
theorem xr{q b qf:Bool}(h:(q&& !b)=false)(hb:b=true->qf=true)(z:qf=false):q=false:=by
 cases b with
 |false=>exact(iU q).symm.trans h
 |true=>exact absurd (z.symm.trans (hb rfl)) ag
theorem xh{g:Str}{p pos:Pos}{args:List Expr}{xs:List Ex}{f:Nat}(C:Cok c T.gl)(sc:SC c n){b:Bool}(hg:T.glob g=some (.fn f b))(hb:(T.q&& !b)=false)(hf:∃fn,c.P.fns f=some fn)(h:mE c n T args xs):SE c n T (.Call (.Name g p) args [] pos) (.call f xs):=by
 refine⟨?_⟩
 intro env A s as X H ρ Q XX R w
 obtain⟨fn,hf⟩:=hf
 simp only [wm]at w
 haveI e1:=C.gl g _ (d6 hg).2.1
 refine wpAny_Call_Name_kw (fP C hg R (.inl e1.1) ?_)
 refine callWith_function (o:=(C.fobj f fn hf).choose) (fd:=c.fdat f) (wpAny_mono (eR h R w) (λa s₁ r=>?_) λ_ _ e=>e)
 haveI e2:=e1.2
 obtain⟨hk,vs,H₁,as₁,e1,S1,k1,hvs,_,q⟩:=r
 haveI ho:=(C.fobj f fn hf).choose_spec
 refine⟨⟨S1.stays _ _ ho.1,ho.2⟩,?_⟩
 rw [hk]
 exact wpAny_mono (sc.run hf ⟨λz=>R.a.hh (xr hb e2 z),R.a.hd,R.a.hu⟩ (R.hx.keep e1 k1) (R.fr.keep e1 k1).all S1 hvs q) (λ_ _ r=>r.lift e1 k1) λ_ _ e=>e.lift e1 k1
theorem wo{g:Str}{b:String}{p pos:Pos}{args:List Expr}{xs:List Ex}{pr:Prim}(C:Cok c T.gl)(hg:T.glob g=some (.bi b))(h:mE c n T args xs)
  (tail:∀{A:Around} {s:Shared} {as:bj} {X:List Addr} {H:AH} {Q:QE} {XX:XE} {vs:List V} {ys:List Value},AOk T.q A n->SR c as X H s->VRs c as X s.heap vs ys->vs.length=xs.length->gi (aU c.P false pr vs H) Q->wpAny c.M A (call (.builtin b) ys) (Res c as X s.heap Q) (ERes c as X s.heap XX) s) :
  SE c n T (.Call (.Name g p) args [] pos) (.prim false pr xs):=by
 refine⟨?_⟩
 intro env A s as X H ρ Q XX R w
 simp only [dA]at w
 haveI e1:=C.gl g _ (d6 hg).2.1
 refine wpAny_Call_Name_kw (fP C hg R (.inr e1) ?_)
 refine callWith_builtin (kT h) (wpAny_mono (eR h R w) (λa s₁ r=>?_) λ_ _ e=>e)
 obtain⟨hk,vs,H₁,as₁,e1,S1,k1,hvs,hl,q⟩:=r
 rw [hk]
 exact wpAny_mono (tail R.a S1 hvs hl q) (λ_ _ r=>r.lift e1 k1) λ_ _ e=>e.lift e1 k1
theorem pR{g:Str}{b:String}{p pos:Pos}{args:List Expr}{xs:List Ex}{pr:Prim}{mu:Bool}(C:Cok c T.gl)(hg:T.glob g=some (.ty b))(h:mE c n T args xs)
  (tail:∀{A:Around} {s:Shared} {as:bj} {X:List Addr} {H:AH} {Q:QE} {XX:XE} {vs:List V} {ys:List Value},AOk T.q A n->SR c as X H s->VRs c as X s.heap vs ys->vs.length=xs.length->gi (aU c.P mu pr vs H) Q->wpAny c.M A (call (.type b) ys) (Res c as X s.heap Q) (ERes c as X s.heap XX) s) :
  SE c n T (.Call (.Name g p) args [] pos) (.prim mu pr xs):=by
 refine⟨?_⟩
 intro env A s as X H ρ Q XX R w
 simp only [dA]at w
 haveI e1:=C.gl g _ (d6 hg).2.1
 refine wpAny_Call_Name_kw (fP C hg R (.inr e1) ?_)
 refine PySem.callWith_type (kT h) (wpAny_mono (eR h R w) (λa s₁ r=>?_) λ_ _ e=>e)
 obtain⟨hk,vs,H₁,as₁,e1,S1,k1,hvs,hl,q⟩:=r
 rw [hk]
 exact wpAny_mono (tail R.a S1 hvs hl q) (λ_ _ r=>r.lift e1 k1) λ_ _ e=>e.lift e1 k1
theorem oF{vs:List V}{ys:List Value}{as:bj}{X:List Addr}{hp:HP}(h:VRs c as X hp vs ys)(hl:vs.length=1):∃v y,vs=[v]/\ys=[y]/\VR c as X hp v y:=by
 cases h with
 |nil=>simp at hl
 |cons a r=>
  cases r with
  |nil=>exact⟨_,_,rfl,rfl,a⟩
  |cons _ _=>simp at hl
theorem EH{vs:List V}{ys:List Value}{as:bj}{X:List Addr}{hp:HP}(h:VRs c as X hp vs ys)(hl:vs.length=2):∃v v' y y',vs=[v,v']/\ys=[y,y']/\VR c as X hp v y/\VR c as X hp v' y':=by
 cases h with
 |nil=>simp at hl
 |cons a r=>
  cases r with
  |nil=>simp at hl
  |cons b r=>
   cases r with
   |nil=>exact⟨_,_,_,_,rfl,rfl,a,b⟩
   |cons _ _=>simp at hl
theorem A2.length{α β:Type}{R:α->β->Prop}{l:List α}{m:List β}(h:A2 R l m):l.length=m.length:=by
 induction h with
 |nil=>rfl
 |cons _ _ ih=>simp only [bQ,bQ,ih]
theorem tm{v r:V}{H H':AH}(h:wG [v] H=some (r,H')):∃ws,r=.lst ws/\H'=H:=by
 refine ea1_2 (dc h) ?_
 intro r' h1 h2
 cases h2
 have hv:((dM H v).bind λvs=>if vs.length<=au then some (V.lst vs)else none)=some r->∃ws,r=.lst ws:=λe=>by
  refine ea1_2 (bX e) ?_
  intro vs _ e
  exact⟨vs,(b8 e).2.symm⟩
 haveI key:∃ws,r=.lst ws:=by
  cases v with
  |rng a b=>exact⟨_,(b8 h1).2.symm⟩
  |tup vs=>exact⟨_,(b8 h1).2.symm⟩
  |_=>exact hv h1
 exact⟨key.choose,key.choose_spec,rfl⟩
set_option tactic.hygienic true in
theorem sZ{g:Str}{b:String}{p pos:Pos}{args:List Expr}{xs:List Ex}{pr:Prim}(C:Cok c T.gl)(hg:T.glob g=some (.bi b))(h:mE c n T args xs)(hp:qI b args.length=some pr)(hq:(T.q&&pr.loud)=false):SE c n T (.Call (.Name g p) args [] pos) (.prim false pr xs):=by
 have hl:=h.length
 unfold qI at hp
 split at hp
 ·rename_i q;(replace hp:=ah hp;cases hp)
  obtain⟨rfl,hn⟩:=q
  refine wo C hg h λa S hv hl' q=>?_
  refine c8 (oF hv (hl'.trans (hl.symm.trans hn))) ?_
  intro v y q_3 q_4 hv1
  subst q_3
  subst q_4
  refine dt (bV q) ?_
  intro r H' e q'
  exact ES S hv1 e q'
 split at hp
 ·rename_i q;(replace hp:=ah hp;(replace hp:=Eq.symm hp;subst hp))
  obtain⟨rfl,hn⟩:=q
  refine wo C hg h λa S hv hl' q=>?_
  refine c8 (oF hv (hl'.trans (hl.symm.trans hn))) ?_
  intro v y q_3 q_4 hv1
  subst q_3
  subst q_4
  refine dt (bV q) ?_
  intro r H' e q'
  exact Ee (a.hh ((iU _).symm.trans hq)) S hv1 e q'
 split at hp
 ·rename_i q;(replace hp:=ah hp;subst hp)
  obtain⟨rfl,hn⟩:=q
  refine wo C hg h λa S hv hl' q=>?_
  obtain⟨v,v',y,y',rfl,rfl,hv,hv'⟩:=EH hv (hl'.trans (hl.symm.trans hn))
  refine cU (bV q) λr q_=>cU q_ λH' q_=>ce q_ λe q'=>?_
  exact DS (a.hh ((iU _).symm.trans hq)) S hv hv' e q'
 exact du hp
theorem iF{pr:Prim}{mu:Bool}{vs:List V}{H:AH}{Q:QE}(q:gi (aU c.P mu pr vs H) Q):∃r H',prim c.P pr vs H=some (r,H'):=by
 refine dt (bV q) ?_
 intro r H' e _
 induction mu with
 |false=>exact⟨r,H',e⟩
 |true=>
  replace e:=dR (e:(if pr.fresh=true then _ else none)=_)
  refine ce (e) λ_ e=>?_
  refine ea1_2 (bX e) ?_
  intro z e1 _
  exact⟨z.1,z.2,e1⟩
theorem kR{pr:Prim}{mu:Bool}{vs:List V}{H:AH}{Q:QE}(hf:pr.fresh=false)(q:gi (aU c.P mu pr vs H) Q):gi (prim c.P pr vs H) Q:=by
 induction mu with
 |false=>exact q
 |true=>
  haveI q:gi (if pr.fresh=true then(prim c.P pr vs H).bind λr=>j7 r.1 r.2 else none) Q:=q
  replace q:=(hf)▸q
  exact q.elim
set_option tactic.hygienic true in
theorem s7{g:Str}{b:String}{p pos:Pos}{args:List Expr}{xs:List Ex}{pr:Prim}{mu:Bool}(C:Cok c T.gl)(hg:T.glob g=some (.ty b))(h:mE c n T args xs)(hp:p8 b args.length=some pr)(hq:(T.q&&pr.loud)=false):SE c n T (.Call (.Name g p) args [] pos) (.prim mu pr xs):=by
 have hl:=h.length
 unfold p8 at hp
 split at hp
 ·rename_i q;(replace hp:=ah hp;subst hp)
  obtain⟨rfl,hn⟩:=q
  refine pR C hg h λa S hv hl' q=>?_
  refine c8 (oF hv (hl'.trans (hl.symm.trans hn))) ?_
  intro v y q_3 q_4 hv1
  subst q_3
  subst q_4
  refine dt (bV (kR rfl q)) ?_
  intro r H' e q'
  exact tQ S hv1 e q'
 split at hp
 ·rename_i q;(replace hp:=ah hp;subst hp)
  obtain⟨rfl,hn⟩:=q
  refine pR C hg h λa S hv hl' q=>?_
  obtain⟨v,v',y,y',rfl,rfl,hv,hv'⟩:=EH hv (hl'.trans (hl.symm.trans hn))
  obtain⟨r,H',e,q'⟩:=bV (kR rfl q)
  exact ub S hv hv' e q'
 split at hp
 ·rename_i q;(replace hp:=ah hp;(replace hp:=Eq.symm hp;subst hp))
  (refine ce (q) λe_0 hn=>?_;subst e_0)
  refine pR C hg h λa S hv hl' q=>?_
  refine c8 (oF hv (hl'.trans (hl.symm.trans hn))) ?_
  intro v y q_3 q_4 hv1
  subst q_3
  subst q_4
  refine mG (iF q) ?_
  intro r H' e
  refine ea1_2 (tm e) ?_
  intro ws q_2 q_3
  subst q_2
  (replace q_3:=Eq.symm q_3;subst q_3)
  exact jx S e (λR hR=>Ci (a.hh ((iU _).symm.trans hq)) S hv1 e hR) q
 split at hp
 ·rename_i q;(replace hp:=ah hp;subst hp)
  obtain⟨rfl,hn⟩:=q
  refine pR C hg h λa S hv hl' q=>?_
  refine c8 (oF hv (hl'.trans (hl.symm.trans hn))) ?_
  intro v y q_3 q_4 hv1
  subst q_3
  subst q_4
  refine dt (bV (kR rfl q)) ?_
  intro r H' e q'
  exact Dp S hv1 e q'
 split at hp
 ·rename_i q;(replace hp:=ah hp;subst hp)
  obtain⟨rfl,hn⟩:=q
  refine pR C hg h λa S hv hl' q=>?_
  refine c8 (oF hv (hl'.trans (hl.symm.trans hn))) ?_
  intro v y q_3 q_4 hv1
  subst q_3
  subst q_4
  refine dt (bV (kR rfl q)) ?_
  intro r H' e q'
  exact CU S hv1 e q'
 exact du hp
theorem V.kind_is{v:V}{k:Nat}(h:v.kind=some k):v=.exc k:=Is.of (R:=λk=>v=.exc k) (by cases v<;>first|exact rfl|exact trivial) h
theorem AF{g t:Str}{gv:Gl}{j:Option Nat}{p p' pos:Pos}{x:Expr}{a:Ex}(C:Cok c T.gl)(hg:T.glob g=some (.bi "isinstance"))(ht:T.glob t=some gv)(hj:(gv=.ty "ValueError"/\j=none)\/∃i,gv=.exc i/\j=some i)(h:SE c n T x a)(hns:NS x) :
  SE c n T (.Call (.Name g p) [x,.Name t p'] [] pos) (.prim false (.isX j) [a]):=by
 refine⟨?_⟩
 intro env A s as X H ρ Q XX R w
 simp only [dA,c6,dL]at w
 have e1:=C.gl g _ (d6 hg).2.1
 obtain⟨y,hy,hjy⟩:∃y,(c.mg t=some y\/(c.mg t=none/\c.mb t=some y))/\((y=.type "ValueError"/\j=none)\/∃i,y=.ref (c.xcls i)/\j=some i/\c.P.sub i i=true/\T.gl.lookup t=some (.exc i)):=by
  have e2:=C.gl t _ (d6 ht).2.1
  rcases hj with ⟨rfl,rfl⟩|⟨i,rfl,rfl⟩
  ·exact ⟨_,.inr e2,.inl ⟨rfl,rfl⟩⟩
  ·exact ⟨_,.inl e2.1,.inr ⟨i,rfl,rfl,e2.2,(d6 ht).2.1⟩⟩
 refine wpAny_Call_Name_kw (fP C hg R (.inr e1) ?_)
 have hst:starEach [x,.Name t p'] env=[(false,eval x env),(false,eval (.Name t p') env)]:=by rw [f8 hns];rfl
 rw [hst]
 refine callWith_builtin rfl (evalArgs_plain (spliced_cons (wpAny_mono (h.run R w) (λz s₁ r=>?_) λ_ _ e=>e)))
 obtain⟨v,H₁,as₁,x1,S1,k1,hv,q⟩:=r
 refine spliced_cons (fP C ht (R.next x1 k1 S1) hy (spliced_nil ?_))
 refine dt (bV q) ?_
 intro z' H' e q'
 replace e:=bX (show v.kind.bind _=some (z',H')from e)
 refine ea1_2 e ?_
 intro k hk e2
 replace hk:=V.kind_is hk
 cases hk
 replace e2:=b8 e2
 obtain⟨hkk,e2⟩:=e2
 cases e2
 obtain⟨ha,hX,ho,hcl,_,_⟩:=hv.inv
 refine ea1_2 (C.x k hkk) ?_
 intro bm xk xs
 have fin:∀tk b,Q (.bool b) H₁->Res c as X s.heap Q (.bool b) {s₁ with toks:=tk}:=λtk b qq=>(Res.now (tk:=tk) S1 (.bool b) qq).lift x1 k1
 rcases hjy with ⟨rfl,rfl⟩|⟨i,rfl,rfl,hi,hl⟩
 ·exact tx (xk.keeps S1.stays) ho hcl λtk=>fin tk _ q'
 ·refine ea1_2 (C.x i hi) ?_
  intro bm' xi _
  refine tf (xk.keeps S1.stays) (xi.keeps S1.stays) ho hcl λtk=>?_
  rw [xs t i hl]
  exact fin tk _ q'
theorem yr{t:String}{ty:Ty}(h:uT t=some ty):fO ty=t:=
 Is.of (o:=uT t) (R:=λty=>fO ty=t) (Is.ite2 (λh=>h.symm) λ_=>Is.ite2 (λh=>h.symm) λ_=>Is.ite2 (λh=>h.symm) λ_=>Is.ite2 (λh=>h.symm) λ_=>Is.ite λh=>h.symm) h
theorem tq{g t:Str}{tn:String}{ty:Ty}{p p' pos:Pos}{x:Expr}{a:Ex}(C:Cok c T.gl)(hg:T.glob g=some (.bi "isinstance"))(ht:T.glob t=some (.ty tn))(hty:uT tn=some ty)(h:SE c n T x a)(hns:NS x) :
  SE c n T (.Call (.Name g p) [x,.Name t p'] [] pos) (.prim false (.isinst ty) [a]):=by
 refine⟨?_⟩
 intro env A s as X H ρ Q XX R w
 simp only [dA,c6]at w
 simp only [dL]at w
 have e1:=C.gl g _ (d6 hg).2.1
 have e2:=C.gl t _ (d6 ht).2.1
 refine wpAny_Call_Name_kw (fP C hg R (.inr e1) ?_)
 haveI hst:starEach [x,.Name t p'] env=[(false,eval x env),(false,eval (.Name t p') env)]:=by rw [f8 hns];rfl
 rw [hst]
 refine callWith_builtin rfl (evalArgs_plain (spliced_cons (wpAny_mono (h.run R w) (λy s₁ r=>?_) λ_ _ e=>e)))
 obtain⟨v,H₁,as₁,x1,S1,k1,hv,q⟩:=r
 refine spliced_cons (fP C ht (R.next x1 k1 S1) (.inr e2) (spliced_nil ?_))
 refine dt (bV q) ?_
 intro z H' e q'
 haveI hp:=we (A:=A) (E:=ERes c as₁ X s₁.heap XX) S1 hv e q'
 rw [yr hty]at hp
 exact wpAny_mono hp (λ_ _ r=>r.lift x1 k1) λ_ _ e=>e.lift x1 k1
theorem yn{v sl:Expr}{pos:Pos}{a b:Ex}(hs:nz sl=false)(h₁:SE c n T v a)(h₂:SE c n T sl b):SE c n T (.Subscript v sl pos) (.prim false .item [a,b]):=by
 refine⟨?_⟩
 intro env A s as X H ρ Q XX R w
 refine Subscript_ (ix h₁ h₂ R w λS hv hv' q=>?_)
 refine dt (bV q) ?_
 intro r H' e q'
 exact AC (λx y p e=>by subst e;cases hs) S hv hv' e q'
theorem xE{es:List Expr}{pos:Pos}{xs:List Ex}{mu:Bool}(h:mE c n T es xs):SE c n T (.List es pos) (.prim mu .mklist xs):=by
 refine⟨?_⟩
 intro env A s as X H ρ Q XX R w
 simp only [dA]at w
 refine List_ (wpAny_mono (nu h R w) (λys s₁ r=>?_) λ_ _ e=>e)
 obtain⟨vs,H₁,as₁,e1,S1,k1,hvs,_,q⟩:=r
 haveI hsome:∃ws,prim c.P .mklist vs H₁=some (.lst ws,H₁):=by
  refine mG (iF q) ?_
  intro r H' e
  exact⟨vs,if_pos (b8 e).1⟩
 obtain⟨ws,e⟩:=hsome
 refine wpAny_mono (jx S1 e (λR hR=>uQ S1 hvs e hR) q) (λ_ _ r=>r.lift e1 k1) λ_ _ (e:ERes c as₁ X s₁.heap XX _ _)=>e.lift e1 k1
theorem Cg{es:List Expr}{pos:Pos}{xs:List Ex}{kk:Nat}(h:mE c n T es xs):SE c n T (.Tuple es kk pos) (.prim false .mktup xs):=by
 refine⟨?_⟩
 intro env A s as X H ρ Q XX R w
 simp only [dA]at w
 refine Tuple_ (wpAny_mono (nu h R w) (λys s₁ r=>?_) λ_ _ e=>e)
 obtain⟨vs,H₁,as₁,e1,S1,k1,hvs,_,q⟩:=r
 refine dt (bV q) ?_
 intro z H' e q'
 exact wpAny_mono (yX S1 hvs e q') (λ_ _ r=>r.lift e1 k1) λ_ _ (e:ERes c as₁ X s₁.heap XX _ _)=>e.lift e1 k1
end
theorem SR.turn{c:Cx}{as:bj}{X Y:List Addr}{H:AH}{s s':Shared}(x:SR c as X H s)(k:VK [] X s.heap s'.heap)(hst:c.base.StaysIn s'.heap)(hY:∀b∈Y,b∈X)
  (hx:∀b∈Y,∃o,s'.heap.get? b=some o)(hg:s'.gens=s.gens)(ho:s'.os=s.os):SR c as Y H s' where
 len:=x.len
 stays:=hst
 gens:=hg.trans x.gens
 os:=ho.trans x.os
 objs:=λi a e=>by
  refine ea0_3 (x.objs i a e) ?_
  intro h1 h2 r_3
  refine ea1_2 r_3 ?_
  intro o h3 h4
  exact⟨h1,λq=>h2 (hY _ q),o,h3,(h4.keepX (λb o e _ hb=>k b o e (λq=>nomatch q) hb) λob e=>k _ _ e (λq=>nomatch q) h2).frames λb _ _ hb q=>hb (hY _ q)⟩
 inj:=x.inj
 xs:=hx
def But(Y:List Addr)(h h':HP):Prop:=∀b o,b∉Y->h.get? b=some o->h'.get? b=some o
theorem But.kept{Y:List Addr}{h h':HP}(k:But Y h h')(as:bj)(X:List Addr):KeptX as X Y h h':=λb o e _ hy=>⟨o,k b o hy e,.inl rfl⟩
theorem But.vk{X Y:List Addr}{h h':HP}(k:But Y h h')(as:bj)(hY:∀b∈Y,b∈X):VK as X h h':=λb o e _ hx=>k b o (λq=>hx (hY b q)) e
theorem But.stays{c:Cx}{as:bj}{X Y:List Addr}{H:AH}{s:Shared}{h':HP}(S:SR c as X H s)(k:But Y s.heap h')(hY:∀b∈Y,c.base.get? b=none):c.base.StaysIn h':=λb o e=>
 k b o (λq=>by exact du ((hY _ q).symm.trans e)) (S.stays b o e)
theorem SR.but{c:Cx}{as:bj}{X Y Z:List Addr}{H:AH}{s s':Shared}(S:SR c as X H s)(k:But Z s.heap s'.heap)(hZ:∀b∈Z,b∈X/\c.base.get? b=none)(hY:∀b∈Y,b∈X)
  (hx:∀b∈Y,b∈Z->∃o,s'.heap.get? b=some o)(hg:s'.gens=s.gens)(ho:s'.os=s.os):SR c as Y H s':=
 S.turn (k.vk [] λb q=>(hZ b q).1) (k.stays S λb q=>(hZ b q).2) hY (λb hb=>by
  by_cases hz:b∈Z
  ·exact hx b hb hz
  ·obtain ⟨o,e⟩:=S.xs b (hY b hb)
   exact⟨o,k b o hz e⟩) hg ho
theorem OVR.frames{c:Cx}{as:bj}{X Y:List Addr}{h:HP}{o:Option V}{y:Option Value}(hy:∀b o,h.get? b=some o->b∉X->b∉Y)(z:OVR c as X h o y):OVR c as Y h o y:=
 λv e=>let⟨q,e1,e2⟩:=z v e;⟨q,e1,e2.frames hy⟩
theorem FR.frames{c:Cx}{as:bj}{X Y:List Addr}{h:HP}{env:Env}{tab:List (Str×Nat)}{ρ:Fm}(F:FR c as X h env tab ρ)(hXY:∀b∈X,b∈Y)(hy:∀b o,h.get? b=some o->b∉X->b∉Y):FR c as Y h env tab ρ where
 kind:=F.kind
 glob:=F.glob
 bi:=F.bi
 lx:=hXY _ F.lx
 lout:=F.lout
 lb:=F.lb
 ns:=by
  refine ea1_2 F.ns ?_
  intro m n r
  exact⟨m,n,λx i h1 h2=>(r x i h1 h2).frames hy⟩
 cells:=λx i h1 h2=>by
  refine i6 (F.cells x i h1 h2) ?_
  intro a y e1 e2 e3 e4 e5 e6 e7
  exact⟨a,y,e1,hXY _ e2,e3,e4,e5,e6,e7.frames hy⟩
 apart:=F.apart
 inj:=F.inj
def nS(Y:List Addr)(env:Env)(tab:List (Str×Nat)):Prop:=
 env.locals∉Y/\∀x i,tab.lookup x=some i->(env.kindOf x=some .cell\/env.kindOf x=some .free)->∀a,env.cells.lookup x=some a->a∉Y
theorem FR.away{c:Cx}{as:bj}{X Y:List Addr}{h:HP}{env:Env}{tab:List (Str×Nat)}{ρ:Fm}(F:FR c as X h env tab ρ)(hY:∀b∈Y,b∉X):nS Y env tab:=
 ⟨λq=>hY _ q F.lx,λx i h1 h2 a e q=>by
  refine c8 (F.cells x i h1 h2) ?_
  intro a' y e1 e2 _
  replace e:=(e1).symm.trans e;(replace e:=ah e;subst e)
  exact hY _ q e2⟩
theorem FR.keepY{c:Cx}{as:bj}{X Y:List Addr}{h h':HP}{env:Env}{tab:List (Str×Nat)}{ρ:Fm}(F:FR c as X h env tab ρ)(k:KeptX as X Y h h')(hY:∀b∈Y,b∈X)(aw:nS Y env tab):FR c as X h' env tab ρ where
 kind:=F.kind
 glob:=F.glob
 bi:=F.bi
 lx:=F.lx
 lout:=F.lout
 lb:=F.lb
 ns:=by
  refine ea1_2 F.ns ?_
  intro m n r
  exact⟨m,Ns.same n λo e=>k _ o e F.lout aw.1,λy i h1 h2=>(r y i h1 h2).keepX (k.v hY) (.refl ..)⟩
 cells:=λy i h1 h2=>by
  refine i6 (F.cells y i h1 h2) ?_
  intro a z e1 e2 e3 e4 e5 e6 e7
  exact⟨a,z,e1,e2,e3,e4,e5,IsCell.same e6 λo e=>k _ o e e3 (aw.2 y i h1 h2 a e1),e7.keepX (k.v hY) (.refl ..)⟩
 apart:=F.apart
 inj:=F.inj
def ItC(h:HP)(I:Addr):V->Value->Nat->Prop
 |.tup _,y,k=>∃a,y=.ref a/\h.IsTupleIter I a k
 |.str _,y,k=>∃x t,y=.str x t/\(h.IsStrIter I "str_ascii_iterator" x t k\/h.IsStrIter I "str_iterator" x t k)
 |.rng a b,_,k=>IsRangeIter h I (a+(k:Nat)*1) (((b-a).toNat:Int)-(k:Nat)) 1
 |.lst _,y,k=>∃a,y=.ref a/\h.IsListIter I a k
 |.ref _,y,k=>∃a,y=.ref a/\h.IsListIter I a k
 |_,_,_=>False
theorem ItC.here{h:HP}{I:Addr}{v:V}{y:Value}{k:Nat}(x:ItC h I v y k):∃o,h.get? I=some o/\∃vs,o.data=.fields vs:=by
 cases v<;>try exact x.elim
 ·obtain ⟨x,t,_,h1|h1⟩:=x
  ·refine ea1_2 h1 ?_
   intro o e r
   exact⟨o,e,_,r.2⟩
  ·refine ea1_2 h1 ?_
   intro o e r
   exact⟨o,e,_,r.2⟩
 ·refine ea1_2 x ?_
  intro a _ r_3
  refine ea1_2 r_3 ?_
  intro o e r
  exact⟨o,e,_,r.2⟩
 ·refine ea1_2 x ?_
  intro a _ r_3
  refine ea1_2 r_3 ?_
  intro o e r
  exact⟨o,e,_,r.2⟩
 ·exact ⟨_,x,_,rfl⟩
 ·refine ea1_2 x ?_
  intro a _ r_3
  refine ea1_2 r_3 ?_
  intro o e r
  exact⟨o,e,_,r.2⟩
theorem ItC.at{h h':HP}{I:Addr}{v:V}{y:Value}{k:Nat}(x:ItC h I v y k)(e:∀o,h.get? I=some o->(∀es n,o.data≠.dict es n)->h'.get? I=some o):ItC h' I v y k:=by
 refine cU (x.here) λob q_=>ce q_ λeo q_=>cU q_ λvs hc=>?_
 have e0:∀o,h.get? I=some o->h'.get? I=some o:=λo q=>e o q λes n hd=>by replace q:=(eo).symm.trans q;(replace q:=ah q;subst q);replace hd:=(hc).symm.trans hd;cases hd
 cases v<;>try exact x.elim
 ·obtain ⟨x,t,hy,h1|h1⟩:=x
  ·refine ea1_2 h1 ?_
   intro o q r
   exact⟨x,t,hy,.inl ⟨o,e0 o q,r⟩⟩
  ·refine ea1_2 h1 ?_
   intro o q r
   exact⟨x,t,hy,.inr ⟨o,e0 o q,r⟩⟩
 ·refine ea1_2 x ?_
  intro a hy r_3
  refine ea1_2 r_3 ?_
  intro o q r
  exact⟨a,hy,o,e0 o q,r⟩
 ·refine ea1_2 x ?_
  intro a hy r_3
  refine ea1_2 r_3 ?_
  intro o q r
  exact⟨a,hy,o,e0 o q,r⟩
 ·exact e0 _ x
 ·refine ea1_2 x ?_
  intro a hy r_3
  refine ea1_2 r_3 ?_
  intro o q r
  exact⟨a,hy,o,e0 o q,r⟩
def HOk(h:HP)(e:Addr):Prop:=∃o vs,h.get? e=some o/\o.data=.fields vs/\vs[2]? =some .none
inductive Hd(A:Around)(h:HP)(v:V):Prop
 |no:A.handled=none->Hd A h v
 |rng (e:Addr):v.isRng=true->A.handled=some (.ref e)->HOk h e->Hd A h v
theorem Hd.plain{A:Around}{h:HP}{v:V}(x:Hd A h v)(hv:v.isRng=false):A.handled=none:=by
 cases x with
 |no h=>exact h
 |rng e h=>exact absurd (hv.symm.trans h) ag
theorem Hx.hand{c:Cx}{as:bj}{X:List Addr}{h:HP}{A:Around}{q:Bool}{v:V}(x:Hx c as X h A)(hh:q=false->A.handled=none)(hr:q=true->v.isRng=true):Hd A h v:=by
 cases x with
 |no z=>exact .no z
 |«at» z r=>
  cases q with
  |false=>exact .no (hh rfl)
  |true=>cases r.inv with|exc _ _ h3 _ h5 h6=>exact .rng _ (hr rfl) z ⟨_,_,h3,h5,h6⟩
theorem mm:entryFor table "proto.unchain"=some Builtin.«proto.unchain»:=entryFor_of_fast (by kernel_rfl)
theorem oS{prog:Program}{w:World}{A:Around}{E:Value->Shared->Prop}{s:Shared}{it:Addr}{x left step:Int}{e:Addr}{Q:Option Value->Shared->Prop}(hh:A.handled=some (.ref e))(he:HOk s.heap e)(hit:IsRangeIter s.heap it x left step)(hleft:left<=0)
  (hQ:∀h',CA it s.heap h'->Q none {s with heap:=h'}):wpAny (model prog w) A (pyNext (.ref it)) Q E s:=by
 have hT:s.TypeIs (.ref it) "range_iterator":=⟨_,hit,rfl⟩
 unfold pyNext
 refine wpAny_bind (wpAny_attempt (wpAny_callSpecial?_slot (name:=Str.ofString "__next__") hT F.slot_range_iterator_next
  (wpAny_call_entry F.slot_range_iterator_next hT F.entry_range_iterator_next ?_ (F.args_range_iterator_next_1 _))))
 show wpAny _ _ (field (.ref it) 0>>= _) _ _ s
 refine wpAny_bind (wpAny_field hit rfl (x:=rawInt x) rfl ?_)
 show wpAny _ _ (field (.ref it) 1>>= _) _ _ s
 refine wpAny_bind (wpAny_field hit rfl (x:=rawInt left) rfl ?_)
 show wpAny _ _ (field (.ref it) 2>>= _) _ _ s
 refine wpAny_bind (wpAny_field hit rfl (x:=rawInt step) rfl ?_)
 show wpAny _ _ (if left<=0 then _ else _) _ _ s
 rw [if_pos hleft]
 refine wpAny_bind (wpAny_rule ?_)
 refine wpAny_bind ?_
 show wpAny _ _ (newExc (.type "StopIteration") []>>= _) _ _ _
 refine wpAny_bind ?_
 simp only [newExc,newTuple]
 refine wpAny_bind (wpAny_newObj_type ?_ (by size_fits))
 refine wpAny_bind (m:=firstArgMember _ _) (wpAny_of_eq (a:=Value.none) (by first|rfl|(simp only [firstArgMember];rfl)) ?_)
 refine wpAny_newObj_type ?_ (by size_fits)
 simp only [raiseNew]
 refine wpAny_bind (wpAny_handled ?_)
 rw [show A.in1.handled=some (.ref e)from hh]
 refine c8 he ?_
 intro o vs ho hd h2
 have ho1:=aQ {cls:=Value.type "tuple",data:=Data.seq #[]} ho
 have ext1:∀b o,s.heap.get? b=some o->(s.heap.push {cls:=Value.type "tuple",data:=Data.seq #[]}).get? b=some o:=λb o h=>aQ _ h
 generalize s.heap.push {cls:=Value.type "tuple",data:=Data.seq #[]}=h1 at ho1 ext1 ⊢
 have hlt:=c5 ho1
 have hne:(Value.ref e !=Value.ref h1.objs.size)=true:=by
  have:e≠h1.objs.size:=dm hlt
  simpa using this
 show wpAny _ _ (if(Value.ref e !=Value.ref h1.objs.size)=true then _ else _) _ _ _
 rw [if_pos hne]
 refine wpAny_bind (wpAny_holding (wpAny_runValue (codeAny_builtin mm ?_)))
 show wpAny _ _ (field (.ref e) 2>>= _) _ _ _
 refine wpAny_bind (wpAny_field (aQ _ ho1) hd h2 ?_)
 refine wpAny_pure ?_
 refine wpAny_bind (m:=updateField _ _ _) (wpAny_setField (a:=h1.objs.size) (aE h1 rfl) rfl (by rw [Fu];exact aJ (by decide) (ay 6 _)) (wpAny_throw ?_))
 refine wpAny_bind (wpAny_isInstance (T:="StopIteration") (b:=true) ⟨_,b7 _ (aE h1 rfl) rfl,rfl⟩ isSubtype_stop ?_)
 refine wpAny_pure (hQ _ λb o hb hbo=>?_)
 have hb1:=ext1 b o hbo
 exact(bY _ _ (dI (c5 hb1))).trans (aQ _ hb1)
section
variable {c:Cx}{A:Around}{E:Value->Shared->Prop}{s:Shared}{as:bj}{X:List Addr}{H:AH}
inductive SrcAt(c:Cx)(as:bj)(X:List Addr)(h:HP):List V->V->Value->Prop
 |str (xs:List Char) (t:Tok):SrcAt c as X h (xs.map λc=>V.str [c]) (.str xs) (.str (toS xs) t)
 |tup {a:Addr} {its:Array Value} {n:Nat} {vs:List V}:a∉X->h.get? a=some {cls:=.type "tuple",data:=.seq its n}->VRs c as X h vs its.toList->SrcAt c as X h vs (.tup vs) (.ref a)
 |seq {a:Addr} {its:Array Value} {vs:List V} {v:V}:(∀h' I k,ItC h' I v (.ref a) k=∃b,Value.ref a=.ref b/\h'.IsListIter I b k)->v.isRng=false->a∉X->h.PlainList a its->VRs c as X h vs its.toList->SrcAt c as X h vs v (.ref a)
 |rng {a b:Int} {y:Value}:RngR as X h a b y->SrcAt c as X h (iz a b) (.rng a b) y
theorem qQ{v:V}{y:Value}{items:List V}(S:SR c as X H s)(hv:VR c as X s.heap v y)(hs:qr H v=some items):SrcAt c as X s.heap items v y:=by
 have hw:dM H v=some items->(∀a h' I k,ItC h' I v (.ref a) k=∃b,Value.ref a=.ref b/\h'.IsListIter I b k)->v.isRng=false->SrcAt c as X s.heap items v y:=λe q hr=>by
  obtain⟨a,its,rfl,hp,r,_,hx⟩:=dF S hv e
  exact .seq (q a) hr hx hp r
 cases v with
 |str xs=>(replace hs:=ah hs;subst hs);cases hv.inv;exact .str _ _
 |tup vs=>(replace hs:=ah hs;subst hs);cases hv.inv with|tup _ h2 h3 h4 _=>exact .tup h2 h3 h4
 |rng a b=>(replace hs:=ah hs;subst hs);exact .rng hv.inv
 |lst vs=>exact hw hs (λ_ _ _ _=>rfl) rfl
 |ref i=>exact hw hs (λ_ _ _ _=>rfl) rfl
 |_=>exact du hs
theorem pi{v:V}{y:Value}{items:List V}{Q:Value->Shared->Prop}(S:SR c as X H s)(hv:VR c as X s.heap v y)(hs:qr H v=some items)
  (hQ:∀o,ItC (s.heap.push o) s.heap.objs.size v y 0->Q (.ref s.heap.objs.size) {s with heap:=s.heap.push o}):wpAny c.M A (pyIter y) Q E s:=by
 cases qQ S hv hs with
 |str x t=>
  cases ha:(toS x).cps.all (·<128)
  ·exact wpAny_pyIter_wide ha (hQ _ ⟨_,_,rfl,.inr ⟨_,aE _ rfl,rfl,rfl⟩⟩)
  ·exact wpAny_pyIter_ascii ha (hQ _ ⟨_,_,rfl,.inl ⟨_,aE _ rfl,rfl,rfl⟩⟩)
 |tup h2 h3 h4=>exact wpAny_pyIter_tuple ⟨_,h3,rfl,_,rfl⟩ (hQ _ ⟨_,rfl,_,aE _ rfl,rfl,rfl⟩)
 |seq q _ h2 h3 h4=>exact wpAny_pyIter_list h3.isList (hQ _ ((q _ _ _).mpr ⟨_,rfl,_,aE _ rfl,rfl,rfl⟩))
 |@rng a b _ r=>
  cases r with
  |rng h1 h2 h3 h4 h5=>
   refine wpAny_pyIter_range h3 (kI h4 h5) (hQ _ ?_)
   show IsRangeIter _ _ _ _ _
   rw [gN,show a+((0:Nat):Int)*1=a from zb a,show((b-a).toNat:Int)-((0:Nat):Int)=((b-a).toNat:Int)from Int.sub_zero _]
   exact aE _ rfl
theorem uZ{a b:Int}{k:Nat}{x:V}(h:(iz a b)[k]? =some x):x=.int (a+k)/\k<(b-a).toNat:=by
 rw [iz,aZ,aY]at h
 refine ea1_2 h ?_
 intro i h1 q_3
 subst q_3
 rw [ae]at h1
 obtain⟨h1,h2⟩:=h1
 simp at h1 h2
 subst h2
 exact⟨rfl,Int.lt_toNat.mpr h1⟩
theorem su{v:V}{y:Value}{items:List V}{x:V}{k:Nat}{I:Addr}{Q:Option Value->Shared->Prop}(hd:Hd A s.heap v)(S:SR c as X H s)(hI:I∈X)(hb:c.base.get? I=none)(hv:VR c as X s.heap v y)(hi:ItC s.heap I v y k)
  (hs:qr H v=some items)(hk:items[k]? =some x)
  (hQ:∀z h' tk,But [I] s.heap h'->VR c as X h' x z->VR c as X h' v y->ItC h' I v y (k+1)->SR c as X H {s with heap:=h',toks:=tk}->Q (some z) {s with heap:=h',toks:=tk}):wpAny c.M A (pyNext (.ref I)) Q E s:=by
 have fin:∀z h' tk,But [I] s.heap h'->VR c as X s.heap x z->ItC h' I v y (k+1)->Q (some z) {s with heap:=h',toks:=tk}:=λz h' tk b hz hit=>by
  haveI kx:VK as X s.heap h':=b.vk as (cW hI)
  exact hQ z h' tk b (hz.keepX kx (.refl ..)) (hv.keepX kx (.refl ..)) hit (S.but (s':={s with heap:=h',toks:=tk}) b (cW ⟨hI,hb⟩) (λ_ q=>q) (λb hb hz=>in1 hz▸hit.here.imp λ_ e=>e.1) rfl rfl)
 cases qQ S hv hs with
 |str xs t=>
  refine dt hi ?_
  intro x' t' e hit
  cases e
  replace hk:=(aZ).symm.trans hk
  refine ea1_2 (dc hk) ?_
  intro ch hch q_3
  subst q_3
  haveI hlt:k<(toS xs).cps.size:=by simp only [show(toS xs).cps.size=(toS xs).length from rfl,c9];exact(ae.mp hch).1
  have hsign:∀z,SignAt (toS xs) k z->VR c as X s.heap (.str [ch]) z:=by
   rintro z ⟨q,u,hq,rfl⟩
   simp [toS,hch]at hq
   subst hq
   exact .str [ch] u (by simp [iu])
  haveI hh:=hd.plain rfl
  refine Or.elim (hit) (λhit=>?_) λhit=>?_
  ·exact (Walks.strAscii hh I (toS xs) t).item k s Q E hlt hit λz h' tk hz st b=>fin z h' tk b (hsign z hz) ⟨_,_,rfl,.inl st⟩
  ·exact (Walks.strWide hh I (toS xs) t).item k s Q E hlt hit λz h' tk hz st b=>fin z h' tk b (hsign z hz) ⟨_,_,rfl,.inr st⟩
 |@tup a its n _ h2 h3 h4=>
  refine ea1_2 hi ?_
  intro a' e hit
  cases e
  refine ea1_2 (h4.get hk) ?_
  intro z hz hzr
  replace hz:=(cZ).symm.trans hz
  refine(Walks.tuple (hd.plain rfl) I a (λq=>h2 (q▸hI)) its).item k s Q E (hU.mp hz).1 ⟨hit,_,h3,rfl,_,rfl⟩ λz' h' tk hz' st b=>fin z' h' tk b ?_ ⟨_,rfl,st.1⟩
  replace hz':=(hz).symm.trans hz';(replace hz':=ah hz';subst hz');exact hzr
 |@seq a its _ _ q hr h2 h3 h4=>
  refine ea1_2 ((q _ _ _).mp hi) ?_
  intro a' e hit
  cases e
  refine ea1_2 (h4.get hk) ?_
  intro z hz hzr
  replace hz:=(cZ).symm.trans hz
  refine(Walks.list (hd.plain hr) I a (λq=>h2 (q▸hI)) its).item k s Q E (hU.mp hz).1 ⟨hit,h3.isList⟩ λz' h' tk hz' st b=>fin z' h' tk b ?_ ((q _ _ _).mpr ⟨_,rfl,st.1⟩)
  replace hz':=(hz).symm.trans hz';(replace hz':=ah hz';subst hz');exact hzr
 |@rng a b _ r=>
  obtain⟨rfl,hlt⟩:=uZ hk
  haveI hi':=hi
  refine wpAny_pyNext_range_item hi' (Int.sub_pos_of_lt (bZ.mpr hlt)) λh' hit' hs'=>?_
  refine fin _ h' _ (λb o hb e=>hs'.extBut b o (λh=>hb (by simp [h])) e) ?_ ?_
  ·rw [kN]
   exact .int _ _
  ·refine (?_:IsRangeIter _ _ _ _ _)
   haveI e1:a+((k+1:Nat):Int)*1=a+(k:Int)*1+1:=by simp only [kN,kN];exact(Int.add_assoc a k 1).symm
   haveI e2:((b-a).toNat:Int)-((k+1:Nat):Int)=((b-a).toNat:Int)-(k:Int)-1:=by exact Int.le_antisymm (lK (gX (Eq.symm e1)) (by simp+arith only)) (lK (gX e1) (by simp+arith only))
   simp only [e1,e2];exact hit'
theorem qZ{v:V}{y:Value}{items:List V}{k:Nat}{I:Addr}{Q:Option Value->Shared->Prop}(hd:Hd A s.heap v)(S:SR c as X H s)(hI:I∈X)(hv:VR c as X s.heap v y)(hi:ItC s.heap I v y k)
  (hs:qr H v=some items)(hk:items.length=k)
  (hQ:∀h' tk,But [I] s.heap h'->Q none {s with heap:=h',toks:=tk}):wpAny c.M A (pyNext (.ref I)) Q E s:=by
 subst hk
 cases qQ S hv hs with
 |str xs t=>
  refine dt hi ?_
  intro x' t' e hit
  cases e
  rw [ak,<-c9]at hit
  haveI hh:=hd.plain rfl
  refine Or.elim (hit) (λhit=>?_) λhit=>?_
  ·exact (Walks.strAscii hh I (toS xs) t).done s Q E hit hQ
  ·exact (Walks.strWide hh I (toS xs) t).done s Q E hit hQ
 |@tup a its n _ h2 h3 h4=>
  refine ea1_2 hi ?_
  intro a' e hit
  cases e
  simp only [h4.length,bk]at hit
  exact(Walks.tuple (hd.plain rfl) I a (λq=>h2 (q▸hI)) its).done s Q E ⟨hit,_,h3,rfl,_,rfl⟩ hQ
 |@seq a its _ _ q hr h2 h3 h4=>
  refine ea1_2 ((q _ _ _).mp hi) ?_
  intro a' e hit
  cases e
  simp only [h4.length,bk]at hit
  exact(Walks.list (hd.plain hr) I a (λq=>h2 (q▸hI)) its).done s Q E ⟨hit,h3.isList⟩ hQ
 |@rng a b _ r=>
  haveI hi':=hi
  simp only [kA]at hi'
  cases hd with
  |no hd=>exact(Walks.range hd I a 1 (b-a).toNat).done s Q E hi' hQ
  |rng e _ hA he=>exact oS hA he hi' (gX (Int.sub_self _)) λh' b=>hQ h' s.toks λx o hb eo=>b x o (λz=>hb (z▸.head _)) eo
end
theorem ow:Manifest.owners.lookup (String.ofList ['d','e','s','r','e','v','e','r'].reverse)=some Manifest.sig_reversed:=by kernel_rfl
theorem jw:Slot "reversed" "__next__" "reversed.__next__":=
 .of (owner:="reversed") (n:="__next__") (by kernel_rfl) (by decide+kernel) (by decide+kernel) (by decide+kernel)
  (by first|exact .inl (by decide+kernel)|exact .inr (by decide+kernel)) (by kernel_rfl)
theorem oV:entryFor table "reversed.__next__"=some Builtin.«reversed.__next__»:=entryFor_of_tree (by kernel_rfl)
theorem rT(a:Value):argsOk "reversed.__next__" ⟨[a],[]⟩:=by
 unfold argsOk;rw [signature?_of (id:="reversed.__next__") (n:=['_','_','t','x','e','n','_','_']) (o:=['d','e','s','r','e','v','e','r']) (by kernel_rfl) ow];kernel_rfl
theorem jG:Slot "reversed" "__iter__" "reversed.__iter__":=
 .of (owner:="reversed") (n:="__iter__") (by kernel_rfl) (by decide+kernel) (by decide+kernel) (by decide+kernel)
  (by first|exact .inl (by decide+kernel)|exact .inr (by decide+kernel)) (by kernel_rfl)
theorem nF(a:Value):argsOk "reversed.__iter__" ⟨[a],[]⟩:=by
 unfold argsOk;rw [signature?_of (id:="reversed.__iter__") (n:=['_','_','r','e','t','i','_','_']) (o:=['d','e','s','r','e','v','e','r']) (by kernel_rfl) ow];kernel_rfl
theorem mj:entryFor table "reversed.__iter__"=some Builtin.«dict_keyiterator.__iter__»:=
 entryFor_alias (id':="dict_keyiterator.__iter__") (by kernel_rfl) (by first|rfl|decide+kernel|(unfold String.splitOn;simp+decide [String.splitOnAux])) (by decide+kernel) (by kernel_rfl)
theorem y4:Slot "reversed" "__init__" "object.__init__":=
 .of (owner:="object") (n:="__init__") (by kernel_rfl) (by decide+kernel) (by decide+kernel) (by decide+kernel)
  (by first|exact .inl (by decide+kernel)|exact .inr (by decide+kernel)) (by kernel_rfl)
theorem s8:TypeCalled "reversed" "reversed.__new__" "object.__init__" where
 notType:=by decide+kernel
 canCreate:=PySem.F.create_reversed
 mro:=⟨_,_,PySem.F.mro_reversed⟩
 made:=PySem.F.made_reversed
 plain:=PySem.F.plain_reversed_new
 sub:=PySem.F.sub_reversed_self
 init:=y4
theorem ER:typeLookup (.type "tuple") "__reversed__"=pure none:=by kernel_rfl
theorem tj:isSubtype (.type "tuple") (.type "dict")=pure false:=by kernel_rfl
section
variable {prog:Program}{w:World}{A:Around}{E:Value->Shared->Prop}{s:Shared}
noncomputable def lT(t:Value)(i:Int):Obj:={cls:=.type "reversed",data:=.fields #[t,rawInt i]}
theorem xU{t:Addr}{items:Array Value}{Q:Value->Shared->Prop}(ht:IsTup s.heap t items)(hz:(items.size:Int)<2 ^ 63)
  (h:∀tk,Q (.ref s.heap.objs.size) {s with heap:=s.heap.push (lT (.ref t) ((items.size:Int)-1)),toks:=tk}):wpAny (model prog w) A (call (.type "reversed") [.ref t]) Q E s:=by
 refine callType_new (S:=λA' R s=>IsTup s.heap t items/\∀tk,R (.ok (.ret (.ref s.heap.objs.size))) {s with heap:=s.heap.push (lT (.ref t) ((items.size:Int)-1)),toks:=tk}) s8 (by decide) (PySem.F.typeCall_reversed_1 _) (PySem.F.newCall_reversed_1 _) (λobj=>PySem.F.args_object_init_2 obj _) PySem.F.entry_reversed_new ?_ ⟨ht,λtk=>⟨⟨_,aE _ rfl,rfl⟩,h tk⟩⟩
 refine .of_wp λprog w A R s h=>?_
 refine ce (h) λht h=>?_
 unfold Builtin.«reversed.__new__»
 refine wpAny_bind (wpAny_of_eq (newClass_reversed _) ?_)
 refine wpAny_bind (wpAny_of_eq (a:=()) (by first|rfl|kernel_rfl) ?_)
 refine wpAny_bind (wpAny_of_eq (a:=()) (by first|rfl|kernel_rfl) ?_)
 try dsimp only
 refine wpAny_bind (wpAny_specialOf ht.typeIs ER ?_)
 refine wpAny_bind ?_
 refine wpAny_bind (wpAny_isInstance (T:="tuple") (b:=false) ht.typeIs tj ?_)
 refine wpAny_bind (wpAny_specialOf ht.typeIs slot_tuple_getitem.lookup ?_)
 refine wpAny_pure ?_
 refine wpAny_bind (len_tuple ht hz ?_)
 refine wpAny_bind (wpAny_of_eq (a:=some (items.size:Int)) rfl ?_)
 refine wpAny_bind ?_
 unfold Builtin.SmallTypes.newRecord
 refine wpAny_newObj_type (wpAny_pure ⟨_,rfl,h _⟩)
theorem x4{I:Addr}{t:Value}{i:Int}{Q:Value->Shared->Prop}(hit:s.heap.get? I=some (lT t i))(h:Q (.ref I) s):wpAny (model prog w) A (pyIter (.ref I)) Q E s:=by
 haveI hT:s.TypeIs (.ref I) "reversed":=⟨_,hit,rfl⟩
 refine wpAny_pyIter_slot hT jG (wpAny_call_entry jG hT mj ?_ (nF _))
 exact wpAny_pure ⟨_,rfl,"reversed",_,hT,jw.lookup,h⟩
theorem xH{I t:Addr}{i:Nat}{items:Array Value}{x:Value}{Q:Option Value->Shared->Prop}(hit:s.heap.get? I=some (lT (.ref t) (i:Int)))(ht:IsTup s.heap t items)(hi:(i:Int)<2 ^ 63)(hx:items[i]? =some x)
  (hQ:∀h' tk,h'.get? I=some (lT (.ref t) ((i:Int)-1))->fH I s.heap h'->Q (some x) {s with heap:=h',toks:=tk}):wpAny (model prog w) A (pyNext (.ref I)) Q E s:=by
 haveI hT:s.TypeIs (.ref I) "reversed":=⟨_,hit,rfl⟩
 refine wpAny_bind (wpAny_attempt (wpAny_callSpecial?_slot (name:=Str.ofString "__next__") hT jw
  (wpAny_call_entry jw hT oV ?_ (rT _))))
 unfold Builtin.«reversed.__next__»
 refine wpAny_bind (wpAny_of_eq (a:=(Value.ref I,[])) rfl ?_)
 refine wpAny_bind (wpAny_field hit rfl (x:=.ref t) rfl ?_)
 refine wpAny_bind (wpAny_field hit rfl (x:=rawInt (i:Int)) rfl ?_)
 refine(?_:wpAny _ _ (if(i:Int)<0 then _ else _) _ _ s)
 refine(?_:wpAny _ _ (specialOf (.ref t) "__getitem__">>= _) _ _ s)
 refine wpAny_bind (wpAny_specialOf ht.typeIs slot_tuple_getitem.lookup ?_)
 haveI hz:=(hU.mp hx).1
 refine wpAny_bind (wpAny_mkInt ?_)
 refine wpAny_bind (wpAny_attempt (getItem_tuple (s:={s with toks:=s.toks+1}) ht (aV (by decide) (bH i)) hi (j:=i) (PySem.seqIndex_of (bH i) (bZ.mpr hz)) hx ?_))
 refine wpAny_bind (wpAny_field hit rfl (x:=rawInt (i:Int)) rfl ?_)
 refine wpAny_bind (wpAny_setField hit rfl (by simp) ?_)
 refine wpAny_pure ⟨x,rfl,wpAny_pure (hQ _ _ ?_ (CR ..))⟩
 exact b7 _ hit rfl
theorem Cw{I:Addr}{t:Value}{Q:Option Value->Shared->Prop}(hh:A.handled=none)(hit:s.heap.get? I=some (lT t (-1)))
  (hQ:∀h',CA I s.heap h'->Q none {s with heap:=h'}):wpAny (model prog w) A (pyNext (.ref I)) Q E s:=by
 haveI hT:s.TypeIs (.ref I) "reversed":=⟨_,hit,rfl⟩
 refine wpAny_bind (wpAny_attempt (wpAny_callSpecial?_slot (name:=Str.ofString "__next__") hT jw
  (wpAny_call_entry jw hT oV ?_ (rT _))))
 unfold Builtin.«reversed.__next__»
 refine wpAny_bind (wpAny_of_eq (a:=(Value.ref I,[])) rfl ?_)
 try dsimp only
 refine wpAny_bind (wpAny_field hit rfl (x:=t) rfl ?_)
 refine wpAny_bind (wpAny_field hit rfl (x:=rawInt (-1)) rfl ?_)
 refine wpAny_bind (wpAny_rule ?_)
 refine wpAny_bind ?_
 refine wpAny_bind (wpAny_setField hit rfl (by simp) ?_)
 refine wpAny_setField (b7 _ hit rfl) rfl (by simp) ?_
 haveI hx:CA I s.heap ((s.heap.update I (Obj.mapFields λx=>x.setIfInBounds 1 (rawInt (-1)))).update I (Obj.mapFields λx=>x.setIfInBounds 0 Value.none)):=
  λb o hb e=>(bY _ _ (Ne.symm hb)).trans ((bY _ _ (Ne.symm hb)).trans e)
 generalize (s.heap.update I (Obj.mapFields λx=>x.setIfInBounds 1 (rawInt (-1)))).update I (Obj.mapFields λx=>x.setIfInBounds 0 Value.none)=h2 at hx ⊢
 refine wpAny_bind ?_
 refine wpAny_bind ?_
 simp only [newExc,newTuple]
 refine wpAny_bind (wpAny_newObj_type ?_ (by size_fits))
 refine wpAny_bind (m:=firstArgMember _ _) (wpAny_of_eq (a:=Value.none) (by first|rfl|(simp only [firstArgMember];rfl)) ?_)
 refine wpAny_newObj_type ?_ (by size_fits)
 dsimp only [raiseNew]
 refine wpAny_bind (wpAny_handled ?_)
 rw [show A.in1.handled=none from hh]
 refine wpAny_bind (wpAny_pure (wpAny_throw ?_))
 refine wpAny_bind (wpAny_isInstance (T:="StopIteration") (b:=true) ⟨_,aE _ rfl,rfl⟩ isSubtype_stop ?_)
 exact wpAny_pure (hQ _ ((hx.push _).push _))
end
def RvC(h:HP)(I:Addr):V->Value->Nat->Prop
 |.tup vs,y,k=>∃a,y=.ref a/\h.get? I=some (lT (.ref a) ((vs.length:Int)-1-(k:Int)))
 |.lst vs,y,k=>∃a,y=.ref a/\k<=vs.length/\h.IsRevIter I a ((vs.length:Int)-1-(k:Int))
 |_,_,_=>False
theorem RvC.here{h:HP}{I:Addr}{v:V}{y:Value}{k:Nat}(x:RvC h I v y k):∃o,h.get? I=some o/\∃vs,o.data=.fields vs:=by
 cases v with
 |tup vs=>refine cU (x) λa q_=>ce q_ λ_ e=>?_;exact⟨_,e,_,rfl⟩
 |lst vs=>obtain⟨a,_,_,o,e,r⟩:=x;exact⟨o,e,_,r.2⟩
 |_=>exact x.elim
theorem RvC.at{h h':HP}{I:Addr}{v:V}{y:Value}{k:Nat}(x:RvC h I v y k)(e:∀o,h.get? I=some o->(∀es n,o.data≠.dict es n)->h'.get? I=some o):RvC h' I v y k:=by
 cases v with
 |tup vs=>refine cU (x) λa q_=>ce q_ λhy q=>?_;exact⟨a,hy,e _ q λ_ _ h=>nomatch h⟩
 |lst vs=>obtain⟨a,hy,hk,o,q,r⟩:=x;exact⟨a,hy,hk,o,e o q (λes n hd=>by replace hd:=(r.2).symm.trans hd;cases hd),r⟩
 |_=>exact x.elim
def ItD(rev:Bool)(h:HP)(I:Addr)(v:V)(y:Value)(k:Nat):Prop:=match rev with
 |true=>RvC h I v y k
 |false=>ItC h I v y k
inductive RevIs(items:List V):V->Prop
 |tup {vs:List V}:items=vs.reverse->RevIs items (.tup vs)
 |lst {vs:List V}:items=vs.reverse->RevIs items (.lst vs)
theorem qF{H:AH}{v:V}{items:List V}(h:gE true H v=some items):RevIs items v:=
 Is.of (o:=Eh v) (R:=λitems=>RevIs items v) (by cases v<;>first|exact .tup rfl|exact .lst rfl|exact trivial) h
theorem ItD.here{rev:Bool}{h:HP}{I:Addr}{v:V}{y:Value}{k:Nat}(x:ItD rev h I v y k):∃o,h.get? I=some o/\∃vs,o.data=.fields vs:=by
 cases rev with
 |true=>exact RvC.here x
 |false=>exact ItC.here x
theorem ItD.at{rev:Bool}{h h':HP}{I:Addr}{v:V}{y:Value}{k:Nat}(x:ItD rev h I v y k)(e:∀o,h.get? I=some o->(∀es n,o.data≠.dict es n)->h'.get? I=some o):ItD rev h' I v y k:=by
 cases rev with
 |true=>exact RvC.at x e
 |false=>exact ItC.at x e
noncomputable def owners:List String:=["enumerate","zip","dict_itemiterator","dict_reverseitemiterator","odict_iterator","itertools.zip_longest","itertools.pairwise"]
inductive NoOwn(h:HP)(I:Addr):Prop
 |mk {o:Obj} {n:String}:h.get? I=some o->o.cls=.type n->owners.contains n=false->NoOwn h I
theorem ItD.cls{rev:Bool}{h:HP}{I:Addr}{v:V}{y:Value}{k:Nat}(x:ItD rev h I v y k):NoOwn h I:=by
 cases rev with
 |true=>
  cases v with
  |tup vs=>obtain⟨a,_,e⟩:=x;exact .mk e rfl (by decide+kernel)
  |lst vs=>obtain⟨a,_,_,o,e,r⟩:=x;exact .mk e r.1 (by decide+kernel)
  |_=>exact x.elim
 |false=>
  cases v with
  |str=>
   obtain⟨x,t,_,h1|h1⟩:=x
   ·refine ea1_2 h1 ?_
    intro o e r
    exact .mk e r.1 (by decide+kernel)
   ·refine ea1_2 h1 ?_
    intro o e r
    exact .mk e r.1 (by decide+kernel)
  |rng=>exact .mk x rfl (by decide+kernel)
  |tup|lst|ref=>obtain⟨a,_,o,e,r⟩:=x;exact .mk e r.1 (by decide+kernel)
  |_=>exact x.elim
set_option tactic.hygienic true in
theorem Bs{prog:Program}{w:World}{A:Around}{E:Value->Shared->Prop}{s:Shared}{te:Expr}{I:Addr}{z:Value}{Q:Unit->Shared->Prop}(h:NoOwn s.heap I)(q:Q () s):wpAny (model prog w) A (letOwnedTupleGo te (.ref I) z) Q E s:=by
 obtain⟨e,hc,hn⟩:=h
 have F:wpAny (model prog w) A (do
   let(.ref r,.ref a):=(Value.ref I,z)|return
   let o <-load r
   match o.cls,o.data with
   |.type n,.fields vs=>
    if owners.contains n&&vs[0]?==some (rawInt a)then
     rule "for.unpacks-the-owned-tuple"
     updateField r 0 .none
   |_,_=>pure ()) Q E s:=by
  cases z with
  |ref a=>
   refine wpAny_bind (wpAny_load e ?_)
   rw [hc]
   split
   ·rename_i n' vs h1 h2
    cases h1
    rw [hn]
    exact wpAny_pure q
   ·exact wpAny_pure q
  |_=>exact wpAny_pure q
 cases te<;>first|exact wpAny_pure q|exact F
section
variable {c:Cx}{A:Around}{E:Value->Shared->Prop}{s:Shared}{as:bj}{X:List Addr}{H:AH}
theorem vw{vs:List V}{k:Nat}{x:V}(h:vs.reverse[k]? =some x):vs[vs.length-1-k]? =some x/\k<vs.length:=by
 haveI hk:k<vs.length:=by rw [<-e9];exact(ae.mp h).1
 rw [z4 hk]at h
 exact⟨h,hk⟩
theorem wz{n k:Nat}(h:k<n):(n:Int)-1-(k:Int)=((n-1-k:Nat):Int):=((wM (Nat.le_sub_one_of_lt h)).trans (congrArg (·-(k:Int)) (wM (dw (aM k) h)))).symm
theorem xg{rev:Bool}{v:V}{y:Value}{items:List V}{x:V}{k:Nat}{I:Addr}{Q:Option Value->Shared->Prop}(hd:A.handled=none)(S:SR c as X H s)(hI:I∈X)(hb:c.base.get? I=none)(hv:VR c as X s.heap v y)(hi:ItD rev s.heap I v y k)
  (hs:gE rev H v=some items)(hk:items[k]? =some x)
  (hQ:∀z h' tk,But [I] s.heap h'->VR c as X h' x z->VR c as X h' v y->ItD rev h' I v y (k+1)->SR c as X H {s with heap:=h',toks:=tk}->Q (some z) {s with heap:=h',toks:=tk}):wpAny c.M A (pyNext (.ref I)) Q E s:=by
 cases rev with
 |false=>exact su (.no hd) S hI hb hv hi hs hk hQ
 |true=>
  have fin:∀z h' tk,But [I] s.heap h'->VR c as X s.heap x z->RvC h' I v y (k+1)->Q (some z) {s with heap:=h',toks:=tk}:=λz h' tk b hz hit=>by
   haveI kx:VK as X s.heap h':=b.vk as (cW hI)
   exact hQ z h' tk b (hz.keepX kx (.refl ..)) (hv.keepX kx (.refl ..)) hit (S.but (s':={s with heap:=h',toks:=tk}) b (cW ⟨hI,hb⟩) (λ_ q=>q) (λb hb hz=>in1 hz▸hit.here.imp λ_ e=>e.1) rfl rfl)
  clear hQ
  cases qF hs with
  |@tup vs e=>
   subst e
   obtain⟨hx,hk⟩:=vw hk
   refine ea1_2 hi ?_
   intro a q_2 hit
   subst q_2
   cases hv.inv with
   |@tup _ its n h1 h2 h3 h4 h5=>
    refine ea1_2 (h4.get hx) ?_
    intro z hz hzr
    rw [cZ]at hz
    rw [wz hk]at hit
    refine xH hit ⟨_,h3,rfl,_,rfl⟩ (kj (aa (db _ _) (aa (db _ _) h5))) hz λh' tk hg hs'=>fin z h' tk (λb o hb e=>hs'.extBut b o (λh=>hb (by exact(h)▸.head _)) e) hzr ⟨a,rfl,?_⟩
    rw [hg,<-wz hk,show(vs.length:Int)-1-((k+1:Nat):Int)=(vs.length:Int)-1-(k:Int)-1 from(Int.sub_sub ((vs.length:Int)-1) k 1).symm]
  |@lst vs e=>
   subst e
   obtain⟨hx,hk⟩:=vw hk
   refine eO hi ?_
   intro a q_2 _ hit
   subst q_2
   cases hv.inv with
   |@lst _ its h1 h2 h3 h4 h5=>
    refine ea1_2 (h4.get hx) ?_
    intro z hz hzr
    replace hz:=(cZ).symm.trans hz
    have hl:vs.length=its.size:=h4.length.trans bk
    refine(Walks.listRev hd I a (λq=>h2 (q▸hI)) its).item k s Q E (hl▸hk) ⟨gY (hl▸hk),hl▸hit,h3.isList⟩ λz' h' tk hz' st b=>fin z' h' tk b ?_ ⟨_,rfl,hk,by exact(hl)▸st.2.1⟩
    rw [<-hl,hz]at hz';(replace hz':=ah hz';subst hz');exact hzr
theorem vM{v:V}{y:Value}{items:List V}{Q:Value->Shared->Prop}(hv:VR c as X s.heap v y)(hs:gE true H v=some items)
  (hQ:∀o tk,ItD true (s.heap.push o) s.heap.objs.size v y 0->Q (.ref s.heap.objs.size) {s with heap:=s.heap.push o,toks:=tk}):wpAny c.M A (call (.type "reversed") [y]) Q E s:=by
 haveI z:∀n:Nat,(n:Int)-1-((0:Nat):Int)=(n:Int)-1:=λn=>Int.sub_zero _
 cases qF hs with
 |@tup vs e=>
  cases hv.inv with
  |@tup a its n h1 h2 h3 h4 h5=>
   have hl:vs.length=its.size:=h4.length.trans bk
   exact xU ⟨_,h3,rfl,_,rfl⟩ (kj (hl▸h5)) λtk=>hQ _ tk ⟨a,rfl,by rw [z,hl];exact aE _ rfl⟩
 |@lst vs e=>
  cases hv.inv with
  |@lst a its h1 h2 h3 h4 h5=>
   exact call_reversed_list h3.isList (hQ _ s.toks ⟨a,rfl,aM _,by rw [z,(h4.length.trans bk:vs.length=its.size)];exact⟨_,aE _ rfl,rfl,rfl⟩⟩)
theorem DV{v:V}{y:Value}{k:Nat}{I:Addr}{Q:Value->Shared->Prop}(h:ItD true s.heap I v y k)(q:Q (.ref I) s):wpAny c.M A (pyIter (.ref I)) Q E s:=by
 cases v with
 |tup vs=>refine cU (h) λa q_=>ce q_ λ_ e=>?_;exact x4 e q
 |lst vs=>refine cU (h) λa q_=>ce q_ λ_ q_=>ce q_ λ_ e=>?_;exact wpAny_pyIter_revIter e q
 |_=>exact h.elim
theorem yh{rev:Bool}{v:V}{y:Value}{items:List V}{k:Nat}{I:Addr}{Q:Option Value->Shared->Prop}(hd:A.handled=none)(S:SR c as X H s)(hI:I∈X)(hv:VR c as X s.heap v y)(hi:ItD rev s.heap I v y k)
  (hs:gE rev H v=some items)(hk:items.length=k)
  (hQ:∀h' tk,But [I] s.heap h'->Q none {s with heap:=h',toks:=tk}):wpAny c.M A (pyNext (.ref I)) Q E s:=by
 cases rev with
 |false=>exact qZ (.no hd) S hI hv hi hs hk hQ
 |true=>
  subst hk
  cases qF hs with
  |@tup vs e=>
   subst e
   refine ea1_2 hi ?_
   intro a q_2 hit
   (replace q_2:=Eq.symm q_2;subst q_2)
   rw [e9,show(vs.length:Int)-1-(vs.length:Int)=-1 by exact by simp+arith only]at hit
   exact Cw hd hit λh' hx=>hQ h' s.toks λb o hb e=>hx b o (λh=>hb (by exact(h)▸.head _)) e
  |@lst vs e=>
   subst e
   refine eO hi ?_
   intro a q_2 _ hit
   subst q_2
   cases hv.inv with
   |@lst _ its h1 h2 h3 h4 h5=>
    rw [e9,(h4.length.trans bk:vs.length=its.size)]at hit
    exact(Walks.listRev hd I a (λq=>h2 (q▸hI)) its).done s Q E ⟨aA _,hit,h3.isList⟩ hQ
end
theorem Kept.but{as:bj}{X:List Addr}{h₀ h h':HP}{Y:List Addr}(k:Kept as X h₀ h)(b:But Y h h')(hY:∀a∈Y,Fr as h₀ a):Kept as X h₀ h':=λx o e hx=>by
 refine ea1_2 (k x o e hx) ?_
 intro o' e' s
 exact⟨o',b x o' (λq=>by refine Or.elim (hY _ q) (λr=>?_) λr=>?_;exact hx r;replace e:=(r).symm.trans e;exact du e) e',s⟩
structure CompF(T:Tb)(x:Str)(sc:Scope):Prop where
 kind:sc.kind=.function
 tabs:∀y i,T.tab.lookup y=some i->i<T.n
 hx:sc.names.lookup x=some .local
 names:∀p∈sc.names,sc.names.lookup p.1=some p.2
 loc:∀y,sc.names.lookup y=some .local->y=x\/T.tab.lookup y=none
 nocell:∀p∈sc.names,p.2≠.cell
 free:∀y,sc.names.lookup y=some .free->(T.names.lookup y=some .cell\/T.names.lookup y=some .free)/\(∃i,T.tab.lookup y=some i)/\y≠x
theorem Et{T:Tb}{x:Str}{sc:Scope}(h:qU T x sc=true):CompF T x sc:=by
 simp only [qU,cc,decide_eq_true_eq,a8]at h
 obtain⟨⟨⟨h1,h2⟩,h3⟩,h4⟩:=h
 refine⟨h1,λy i e=>h2 _ (mem_of_lookup e),h3,λp hp=>(h4 p hp).1,λy e=>?_,λp hp e=>?_,λy e=>?_⟩
 ·haveI:=(h4 _ (mem_of_lookup e)).2
  simpa using this
 ·haveI:=(h4 p hp).2
  rw [e]at this
  simp at this
 ·haveI:=(h4 _ (mem_of_lookup e)).2
  simp only [cc,gG,decide_eq_true_eq]at this
  exact⟨this.1.1,cm.mp this.1.2,this.2⟩
theorem iw{env:Env}:∀(names:List (Str×NameKind)) (x:Str),
  (names.map λ(n,k)=>if(k==NameKind.free&&env.scope.kind==.function&&env.kindOf n==some .cell)then(n,NameKind.cell)else(n,k)).lookup x=
   (names.lookup x).map λk=>if(k==NameKind.free&&env.scope.kind==.function&&env.kindOf x==some .cell)then NameKind.cell else k
 |[],_=>rfl
 |(n,k)::r,x=>by
  have ih:=iw (env:=env) r x
  refine(?_:List.lookup x ((if(k==NameKind.free&&env.scope.kind==.function&&env.kindOf n==some .cell)=true then(n,NameKind.cell)else(n,k))::_)=_)
  refine om (o:=x==n) (λhx=>?_) (λhx=>?_)
  ·haveI hxn:x=n:=by simpa using hx
   subst hxn
   simp only [aK,hx,fj]
   by_cases hc:(k==NameKind.free&&env.scope.kind==.function&&env.kindOf x==some .cell)=true
   ·rw [if_pos hc,if_pos hc,aK,hx]
   ·rw [if_neg hc,if_neg hc,aK,hx]
  ·simp only [aK,hx]
   by_cases hc:(k==NameKind.free&&env.scope.kind==.function&&env.kindOf n==some .cell)=true
   ·rw [if_pos hc];simp only [aK,hx];exact ih
   ·rw [if_neg hc];simp only [aK,hx];exact ih
theorem lw{sc:Scope}{env:Env}(hn:∀p∈sc.names,sc.names.lookup p.1=some p.2)(hf:∀y,sc.names.lookup y=some .free->∃a,env.cells.lookup y=some a) :
  ∃cl,closureFor sc env=pure cl/\(∀y a,cl.lookup y=some a->env.cells.lookup y=some a)/\(∀y,sc.names.lookup y=some .free->cl.lookup y=env.cells.lookup y):=by
 haveI go:∀(names:List (Str×NameKind)) (acc:List (Str×Addr)),(∀p∈names,p.2=.free->∃a,env.cells.lookup p.1=some a)->(∀y a,acc.lookup y=some a->env.cells.lookup y=some a)->
   ∃cl,(forIn names acc λp cs=>(if(p.2==NameKind.free)=true then do let a <-cellOf env p.1;pure (ForInStep.yield ((p.1,a)::cs))else pure (ForInStep.yield cs):Sem _))=pure cl/\
    (∀y a,cl.lookup y=some a->env.cells.lookup y=some a)/\(∀p∈names,p.2=.free->∃a,cl.lookup p.1=some a)/\(∀y a,acc.lookup y=some a->∃a,cl.lookup y=some a):=by
  intro names
  induction names with
  |nil=>exact λacc _ h2=>⟨acc,rfl,h2,by simp,λy a e=>⟨a,e⟩⟩
  |cons p r ih=>
   intro acc h1 h2
   by_cases hp:p.2=.free
   ·refine cU (h1 p (.head _) hp) λa ha=>?_
    haveI h2':∀y b,((p.1,a)::acc).lookup y=some b->env.cells.lookup y=some b:=λy b e=>by
     simp only [aK]at e
     refine om (o:=y==p.1) (λhy=>?_) (λhy=>?_)
     ·rw [hy]at e;simp only [fJ]at e;subst e;rw [beq_iff_eq]at hy;exact(hy)▸ha
     ·rw [hy]at e;exact h2 y b e
    refine dh (ih ((p.1,a)::acc) (λq hq=>h1 q (.tail _ hq)) h2') ?_
    intro cl e1 e2 e3 e4
    refine⟨cl,?_,e2,λq hq hqf=>?_,λy b e=>?_⟩
    ·rw [List.forIn_cons]
     simp only [hp,BEq.rfl,if_true,cellOf,ha]
     exact e1
    ·refine eK (hq) (λe_=>?_) λhq=>?_
     ·exact (e_)▸e4 p.1 a (by simp [aK])
     ·exact e3 q hq hqf
    ·by_cases hy:y=p.1
     ·subst hy;exact e4 p.1 a (by simp [aK])
     ·exact e4 y b (by simp only [aK,show(y==p.1)=false by simpa using hy];exact e)
   ·refine dh (ih acc (λq hq=>h1 q (.tail _ hq)) h2) ?_
    intro cl e1 e2 e3 e4
    refine⟨cl,?_,e2,λq hq hqf=>?_,e4⟩
    ·rw [List.forIn_cons]
     haveI:(p.2==NameKind.free)=false:=by simpa using hp
     simp only [this,hH,if_false]
     exact e1
    ·refine eK (hq) (λe_=>?_) λhq=>?_
     ·replace e_:=Eq.symm e_;subst e_;exact absurd hqf hp
     ·exact e3 q hq hqf
 refine dh (go sc.names [] (λp hp hpf=>hf p.1 (by simp only [hn p hp,hpf])) (by simp)) ?_
 intro cl e1 e2 e3 _
 refine⟨cl,?_,e2,λy hy=>?_⟩
 ·dsimp only [closureFor]
  simp only [bind_pure_comp]at e1 ⊢
  first
   |(rw [e1];rfl)
   |(simp only [bind_pure_comp];erw [e1];rfl)
 ·refine cU (e3 (y,.free) (mem_of_lookup hy) rfl) λa ha=>?_
  simp only [ha,e2 y a ha]
structure Ls(c:Cx)(env:Env)(tab:List (Str×Nat))(as₀:bj)(h₀:HP)(X:List Addr)(I C D:Addr):Prop where
 ic:I≠C
 id:I≠D
 cd:C≠D
 bi:c.base.get? I=none
 bc:c.base.get? C=none
 bd:c.base.get? D=none
 hi:Fr as₀ h₀ I
 hc:Fr as₀ h₀ C
 hd:Fr as₀ h₀ D
 dx:D∉X
 cx:C∉X
 aw:nS [I,C,D] env tab
theorem Ls.cnt{c:Cx}{env:Env}{tab:List (Str×Nat)}{as₀:bj}{h₀:HP}{X:List Addr}{I C D:Addr}{Q:Addr->Prop}(W:Ls c env tab as₀ h₀ X I C D)(k:∀b,2<=X.count b->Q b\/Fr as₀ h₀ b):∀b,2<=(I::C::D::X).count b->Q b\/Fr as₀ h₀ b:=Fi (.inr W.hi) (Fi (.inr W.hc) (Fi (.inr W.hd) k))
theorem Ls.fr{c:Cx}{env:Env}{tab:List (Str×Nat)}{as₀:bj}{h₀:HP}{X:List Addr}{I C D:Addr}(W:Ls c env tab as₀ h₀ X I C D):∀a∈[I,C,D],Fr as₀ h₀ a:=dC W.hi (dC W.hc (dC W.hd n8))
theorem BW{I C D:Addr}{X:List Addr}(b:Addr):X.count b<=(I::C::D::X).count b:=aa bM (aa bM bM)
structure Lp(c:Cx)(T:Tb)(env:Env)(as₀:bj)(h₀:HP)(X:List Addr)(ρ:Fm)(I C D:Addr)(v:V)(y:Value)(k:Nat)(acc:List V)(arr:Array Value)(s:Shared)(as:bj)(H:AH):Prop where
 S:SR c as (I::C::D::X) H s
 F:FR c as (I::C::D::X) s.heap env T.tab ρ
 hv:VR c as (I::C::D::X) s.heap v y
 hi:ItC s.heap I v y k
 hD:s.heap.PlainList D arr
 hacc:VRs c as (I::C::D::X) s.heap acc arr.toList
 hl:acc.length<=k
 hC:∃m,s.heap.Ns C m
 oi:I∉as
 oc:C∉as
 od:D∉as
 E:Ext as₀ h₀ as
 K:Kept as₀ (I::C::D::X) h₀ s.heap
section
variable {c:Cx}{T:Tb}{env:Env}{as₀:bj}{h₀:HP}{X:List Addr}{ρ:Fm}{I C D:Addr}{v:V}{y:Value}{k:Nat}{acc:List V}{arr:Array Value}{s:Shared}{as:bj}{H:AH}
theorem Lp.eval{s':Shared}{as':bj}{H':AH}(L:Lp c T env as₀ h₀ X ρ I C D v y k acc arr s as H)(e:Ext as s.heap as')(kp:Kept as (I::C::D::X) s.heap s'.heap)(S:SR c as' (I::C::D::X) H' s'):Lp c T env as₀ h₀ X ρ I C D v y k acc arr s' as' H' where
 S:=S
 F:=L.F.keep kp e
 hv:=L.hv.keep kp e
 hi:=L.hi.at λo q hc=>kp.get q L.oi hc
 hD:=by obtain⟨n,q⟩:=L.hD;exact⟨n,kp.get q L.od (by simp)⟩
 hacc:=L.hacc.keep kp e
 hl:=L.hl
 hC:=by obtain⟨m,q⟩:=L.hC;exact⟨m,Ns.same q λo e=>kp _ o e L.oc⟩
 oi:=by refine cU (L.hi.here) λo q_=>ce q_ λq _=>?_;exact e.out q L.oi
 oc:=by obtain⟨m,o,_,_,q,_⟩:=L.hC;exact e.out q L.oc
 od:=by obtain⟨n,q⟩:=L.hD;exact e.out q L.od
 E:=L.E.trans L.K e
 K:=L.K.trans L.E kp
theorem Lp.but{s':Shared}{Z:List Addr}(W:Ls c env T.tab as₀ h₀ X I C D)(L:Lp c T env as₀ h₀ X ρ I C D v y k acc arr s as H)(b:But Z s.heap s'.heap)(hZ:∀a∈Z,a∈[I,C,D]) :
  VK as (I::C::D::X) s.heap s'.heap/\FR c as (I::C::D::X) s'.heap env T.tab ρ/\Kept as₀ (I::C::D::X) h₀ s'.heap:=by
 haveI hI:∀a∈Z,a∈I::C::D::X:=λa ha=>aP X (hZ a ha)
 exact⟨b.vk as hI,L.F.keepY (Y:=Z) (b.kept as _) hI ⟨λq=>W.aw.1 (hZ _ q),λx i h1 h2 a e q=>W.aw.2 x i h1 h2 a e (hZ _ q)⟩,L.K.but b λa ha=>W.fr a (hZ a ha)⟩
theorem Lp.next{h':HP}{tk:Nat}(W:Ls c env T.tab as₀ h₀ X I C D)(L:Lp c T env as₀ h₀ X ρ I C D v y k acc arr s as H)(b:But [I] s.heap h')(hv:VR c as (I::C::D::X) h' v y)(hi:ItC h' I v y (k+1))
  (S:SR c as (I::C::D::X) H {s with heap:=h',toks:=tk}):Lp c T env as₀ h₀ X ρ I C D v y (k+1) acc arr {s with heap:=h',toks:=tk} as H:=
 ea0_3 (L.but (s':={s with heap:=h',toks:=tk}) W b (cW (.head _))) λb1 b2 b3=>
 ⟨S,b2,hv,hi,L.hD.imp λn q=>b _ _ (ou (Ne.symm W.id)) q,L.hacc.keepX b1 (.refl ..),n3 L.hl,L.hC.imp λm q=>Ns.same (X:=[]) q λo e=>⟨o,b _ _ (ou (Ne.symm W.ic)) e,.inl rfl⟩,L.oi,L.oc,L.od,L.E,b3⟩
theorem Lp.store{h':HP}{tk:Nat}{m:Str->Option Value}(W:Ls c env T.tab as₀ h₀ X I C D)(L:Lp c T env as₀ h₀ X ρ I C D v y k acc arr s as H)(b:But [C] s.heap h')(hm:h'.Ns C m) :
  Lp c T env as₀ h₀ X ρ I C D v y k acc arr {s with heap:=h',toks:=tk} as H:=
 ea0_3 (L.but (s':={s with heap:=h',toks:=tk}) W b (cW (.tail _ (.head _)))) λb1 b2 b3=>
 ⟨L.S.but (s':={s with heap:=h',toks:=tk}) b (cW ⟨.tail _ (.head _),W.bc⟩) (λ_ q=>q) (λa ha hz=>in1 hz▸iW hm λo _ _ e _=>⟨o,e⟩) rfl rfl,b2,L.hv.keepX b1 (.refl ..),L.hi.at λo e _=>b _ _ (ou W.ic) e,L.hD.imp λn q=>b _ _ (ou (Ne.symm W.cd)) q,L.hacc.keepX b1 (.refl ..),L.hl,⟨m,hm⟩,L.oi,L.oc,L.od,L.E,b3⟩
theorem Lp.push{h':HP}{z:V}{zc:Value}(W:Ls c env T.tab as₀ h₀ X I C D)(L:Lp c T env as₀ h₀ X ρ I C D v y k acc arr s as H)(b:But [D] s.heap h')(hp:h'.PlainList D (arr.push zc))(hz:VR c as (I::C::D::X) s.heap z zc)(hl:acc.length+1<=k) :
  Lp c T env as₀ h₀ X ρ I C D v y k (acc++[z]) (arr.push zc) {s with heap:=h'} as H:=
 ea0_3 (L.but (s':={s with heap:=h'}) W b (cW (.tail _ (.tail _ (.head _))))) λb1 b2 b3=>
 ⟨L.S.but (s':={s with heap:=h'}) b (cW ⟨.tail _ (.tail _ (.head _)),W.bd⟩) (λ_ q=>q) (λa ha hz=>in1 hz▸hp.elim λn e=>⟨_,e⟩) rfl rfl,b2,L.hv.keepX b1 (.refl ..),L.hi.at λo e _=>b _ _ (ou W.id) e,hp,by simp only [Fs];exact(L.hacc.keepX b1 (.refl ..)).append (.cons (hz.keepX b1 (.refl ..)) .nil),aa (aq af) hl,L.hC.imp λm q=>Ns.same (X:=[]) q λo e=>⟨o,b _ _ (ou W.cd) e,.inl rfl⟩,L.oi,L.oc,L.od,L.E,b3⟩
theorem Fr.ne{as:bj}{h:HP}{a b:Addr}{o:Obj}(f:Fr as h a)(hb:b∉as)(e:h.get? b=some o):b≠a:=λq=>f.elim (λz=>hb (q▸z)) λz=>du (z.symm.trans (q▸e))
theorem Ls.hx{c:Cx}{env:Env}{tab:List (Str×Nat)}{as₀:bj}{h₀:HP}{X:List Addr}{I C D:Addr}{A:Around}(W:Ls c env tab as₀ h₀ X I C D)(x:Hx c as₀ X h₀ A):Hx c as₀ (I::C::D::X) h₀ A:=by
 cases x with
 |no q=>exact .no q
 |«at» q r=>exact .at q (VR.gen (λa o ha hx ho=>⟨ha,cB (W.hi.ne ha ho) (cB (W.hc.ne ha ho) (cB (W.hd.ne ha ho) hx)),ho⟩) (λ_ _ e=>e) r)
theorem Lp.rdy{A:Around}{n:Nat}{x:Str}{sc:Scope}{cl:List (Str×Addr)}{u:V}{uc:Value}{m:Str->Option Value}(W:Ls c env T.tab as₀ h₀ X I C D)(L:Lp c T env as₀ h₀ X ρ I C D v y k acc arr s as H)(a:AOk T.q A n)(hx:Hx c as₀ X h₀ A)(fr:EnvFr c A X as₀ h₀ env)(K:KOk T env)(hlen:ρ.length=T.n)
  (ok:CompF T x sc)(hcl:∀y a,cl.lookup y=some a->env.cells.lookup y=some a)(hcl':∀y,sc.names.lookup y=some .free->cl.lookup y=env.cells.lookup y)(hm:s.heap.Ns C m)(hmx:m x=some uc)(hu:VR c as (I::C::D::X) s.heap u uc) :
  Rdy c {T with names:=sc.names,tab:=(x,T.n)::T.tab,n:=T.n+1} (compEnvC sc cl C env) A n s as (I::C::D::X) H (ρ++[some u]):=by
 haveI kind:∀y,(compEnvC sc cl C env).kindOf y=(sc.names.lookup y).map λk=>if(k==NameKind.free&&env.scope.kind==.function&&env.kindOf y==some .cell)then NameKind.cell else k:=λy=>iw sc.names y
 have notcell:∀y,sc.names.lookup y≠some .cell:=λy e=>ok.nocell _ (mem_of_lookup e) rfl
 have kfree:∀y,((compEnvC sc cl C env).kindOf y=some .cell\/(compEnvC sc cl C env).kindOf y=some .free)->sc.names.lookup y=some .free:=λy e=>by
  rw [kind]at e
  refine optE (o:=sc.names.lookup y) (λhq=>?_) (λkk hq=>?_)
  ·replace e:=(hq)▸e;simp at e
  ·rw [hq]
   replace e:=(hq)▸e
   induction kk with
   |free=>rfl
   |cell=>exact absurd hq (notcell y)
   |_=>simp at e
 have kloc:∀y,(compEnvC sc cl C env).kindOf y=some .local->sc.names.lookup y=some .local:=λy e=>by
  rw [kind]at e
  refine optE (o:=sc.names.lookup y) (λhq=>?_) (λkk hq=>?_)
  ·simp only [hq]at e;exact du e
  ·rw [hq]
   rw [hq]at e
   induction kk with
   |«local»=>rfl
   |free=>
    simp only [fj,fJ]at e
    split at e<;>cases e
   |_=>cases e
 refine⟨a,(W.hx hx).keep L.E L.K,L.S,?_,?_,?_,((fr.grow (.refl _) BW).keep L.E L.K).env rfl⟩
 ·refine ⟨ok.kind,L.F.glob,L.F.bi,by simp [compEnvC],L.oc,W.bc,⟨m,hm,λz i h1 h2=>?_⟩,λz i h1 h2=>?_,λz z' b h1 h2=>L.F.apart z z' b (hcl _ _ h1) (hcl _ _ h2),λz z' i h1 h2=>?_⟩
  ·haveI hz:=ok.loc z (kloc z h2)
   haveI hzx:z=x:=by
    refine Or.elim (hz) (λhz=>?_) λhz=>?_
    ·exact hz
    ·simp only [aK]at h1
     refine om (o:=z==x) (λhb=>?_) (λhb=>?_)
     ·simpa using hb
     ·replace h1:=(hb)▸h1;simp only at h1;replace h1:=(hz).symm.trans h1;exact du h1
   subst hzx
   simp only [aK,BEq.rfl,fJ]at h1
   subst h1
   simp only [hmx,<-hlen]
   intro w ew
   simp at ew
   subst ew
   exact⟨uc,rfl,hu⟩
  ·haveI hz:=kfree z h2
   refine ea0_3 (ok.free z hz) ?_
   intro h3 p_2 h5
   refine cU (p_2) λj h4=>?_
   have hzi:T.tab.lookup z=some i:=by
    simp only [aK,show(z==x)=false by simpa using h5]at h1;exact h1
   have hek:env.kindOf z=some .cell\/env.kindOf z=some .free:=by
    refine Or.elim (h3) (λh3=>?_) λh3=>?_
    ·exact .inl (K.cell z h3)
    ·refine Or.elim (K.free z h3) (λq=>?_) λq=>?_
     ·exact .inr q
     ·exact .inl q
   refine i6 (L.F.cells z i hzi hek) ?_
   intro a yy e1 e2 e3 e4 e5 e6 e7
   haveI hi:=ok.tabs z i hzi
   refine⟨a,yy,(hcl' z hz).trans e1,e2,e3,e4,λq=>W.aw.2 z i hzi hek a e1 (by simp only [q];simp [compEnvC]),e6,?_⟩
   rw [bf (hG hi hlen.symm)]
   exact e7
  ·rw [aK]at h1 h2
   refine om (o:=z==x) (λhb=>?_) (λhb=>?_)
   ·cases hb':z'==x with
    |true=>rw [beq_iff_eq]at hb hb';simp only [hb,hb']
    |false=>
     rw [hb]at h1;rw [hb']at h2
     simp only [fJ]at h1 h2
     exact(b6 _ (hG (ok.tabs _ _ h2) h1)).elim
   ·cases hb':z'==x with
    |true=>
     rw [hb]at h1;rw [hb']at h2
     simp only [fJ]at h1 h2
     exact(b6 _ (hG (ok.tabs _ _ h1) h2)).elim
    |false=>rw [hb]at h1;rw [hb']at h2;exact L.F.inj z z' i h1 h2
 ·refine ⟨λz hz=>?_,λz hz=>absurd hz (notcell z),λz hz=>?_,λz hz=>?_⟩
  ·rw [kind,hz];rfl
  ·rw [kind,hz]
   simp only [fj]
   split
   ·exact .inr rfl
   ·exact .inl rfl
  ·rw [kind,hz];rfl
 ·simp [hlen]
def oX(P:Prog)(Cs:Calls)(elt:Ex)(cond:Option Ex)(ρ:Fm)(XX:XE):V->AH->(Option V->AH->Prop)->Prop:=λx H' K=>match cond with
 |none=>cH P Cs elt (ρ++[some x]) H' (λy H''=>K (some y) H'') XX
 |some q=>cH P Cs q (ρ++[some x]) H' (λb H₂=>l8 (eB b) λt=>if t then cH P Cs elt (ρ++[some x]) H₂ (λy H''=>K (some y) H'') XX else K none H₂) XX
theorem m0{P:Prog}{Cs:Calls}{ρ:Fm}{H:AH}{Q:QE}{XX:XE}{mu:Bool}{elt it:Ex}{cond:Option Ex}:cH P Cs (.comp mu elt it cond) ρ H Q XX=cH P Cs it ρ H (λv H₁=>∃items,qr H₁ v=some items/\items.length<=au/\
   compL (oX P Cs elt cond ρ XX) (λH'=>qr H' v=some items) items [] H₁ (λys H₂=>gi (if mu then j7 (.lst ys) H₂ else some (.lst ys,H₂)) Q)) XX:=by
 cases cond<;>rfl
theorem mK{α:Type}{l:List α}{k:Nat}{x:α}(h:l[k]? =some x):l.drop k=x::l.drop (k+1):=by
 obtain⟨h1,h2⟩:=ae.mp h
 simp only [List.drop_eq_getElem_cons h1,h2]
theorem ERes.nsC{as:bj}{Y:List Addr}{h:HP}{XX:XE}{x:Value}{s':Shared}(r:ERes c as Y h XX x s')(hC:∃m,h.Ns C m)(oc:C∉as):∃m,s'.heap.Ns C m:=by
 obtain⟨k,H',as',e,t,ts,_,e',S,k',ex,ht,ap,w⟩:=r
 obtain⟨m,n⟩:=hC
 exact⟨m,Ns.same n λo e=>k' _ o e oc⟩
theorem Lp.small(L:Lp c T env as₀ h₀ X ρ I C D v y k acc arr s as H)(hk:k<=au):arr.size<=sizeLine:=aa (aq (bk.symm.trans L.hacc.length.symm)) (aa L.hl (aa hk b0))
section
variable {A:Around}{n:Nat}{elt:Expr}{T':Tb}{env':Env}{b:Ex}{XX:XE}{u:V}{K:List V->AH->Prop}{J:Shared->Prop}{E':Value->Shared->Prop}
  (W:Ls c env T.tab as₀ h₀ X I C D)(he:SE c n T' elt b)(hk:k<=au)(hl:acc.length+1<=k)
  (hJ:∀{acc:List V} {arr:Array Value} {s:Shared} {as:bj} {H:AH},Lp c T env as₀ h₀ X ρ I C D v y k acc arr s as H->K acc H->J s)
  (hE:∀x s',ERes c as₀ (I::C::D::X) h₀ XX x s'->(∃m,s'.heap.Ns C m)->E' x s')
  (L:Lp c T env as₀ h₀ X ρ I C D v y k acc arr s as H)(r:Rdy c T' env' A n s as (I::C::D::X) H (ρ++[some u]))
include W he hk hl hJ hE L r
theorem ph(w:cH c.P (aG c.P n) b (ρ++[some u]) H (λy H''=>K (acc++[y]) H'') XX) :
  wpAny c.M A (eval elt env') (λx s₄=>wpAny c.M A (call (.builtin "list.append") [.ref D,x]) (λ_ s₅=>J s₅) E' s₄) E' s:=
 wpAny_mono (he.run r w) (λzc s₄ q=>by
  obtain⟨zv,H₄,as₄,e₄,S₄,k₄,hz₄,w₄⟩:=q
  exact wpAny_list_append_plain (hsz:=(L.eval e₄ k₄ S₄).small hk) (L.eval e₄ k₄ S₄).hD λh₅ hp₅ hs₅=>hJ ((L.eval e₄ k₄ S₄).push W (λq o hq e=>(hs₅.2 q (wR hq)).trans e) hp₅ hz₄ hl) w₄)
  λ_ _ e=>hE _ _ (e.lift L.E L.K) (e.nsC L.hC L.oc)
theorem sT{ifs:List Expr}{cond:Option Ex}(hc:(ifs=[]/\cond=none)\/∃t q,ifs=[t]/\cond=some q/\ST c n T' t q)(w:oX c.P (aG c.P n) b cond ρ XX u H (λr H'=>K (match r with|some x=>acc++[x]|none=>acc) H')) :
  wpAny c.M A (forIn ifs true λc r=>if r=true then do let ok <-isTrue c env' (eval c env');pure (ForInStep.yield ok)else pure (ForInStep.yield r)) (λok s₃=>
   if ok=true then wpAny c.M A (eval elt env') (λx s₄=>wpAny c.M A (call (.builtin "list.append") [.ref D,x]) (λ_ s₅=>J s₅) E' s₄) E' s₃ else J s₃) E' s:=by
 refine Or.elim hc (λh=>?_) λh=>c8 h λt q h1 h2 ht=>?_
 ·(refine ce (h) λe_0 e_1=>?_;cases e_0;subst e_1)
  exact wpAny_tests_nil (ph W he hk hl hJ hE L r w)
 ·subst h1
  subst h2
  refine wpAny_tests_one (wpAny_mono (ht.run (Q:=λt H₂=>if t then cH c.P (aG c.P n) b (ρ++[some u]) H₂ (λy H''=>K (acc++[y]) H'') XX else K acc H₂) (λ_ _ q=>q) r w) (λbb s₃ q=>?_) λ_ _ e=>hE _ _ (e.lift L.E L.K) (e.nsC L.hC L.oc))
  obtain⟨H₃,as₃,e₃,S₃,k₃,w₃⟩:=q
  induction bb with
  |true=>exact ph W he hk hl hJ hE (L.eval e₃ k₃ S₃) (r.next e₃ k₃ S₃) w₃
  |false=>exact hJ (L.eval e₃ k₃ S₃) w₃
end
def CI(c:Cx)(T:Tb)(env:Env)(as₀:bj)(h₀:HP)(X:List Addr)(ρ:Fm)(I C D:Addr)(v:V)(y:Value)(items:List V)(F:V->AH->(Option V->AH->Prop)->Prop)(QQ:List V->AH->Prop)(m:Nat)(s:Shared):Prop:=
 ∃k acc arr as H,m=items.length-k/\k<=items.length/\Lp c T env as₀ h₀ X ρ I C D v y k acc arr s as H/\compL F (λH'=>qr H' v=some items) (items.drop k) acc H QQ
theorem sN{A:Around}{n:Nat}{x:Str}{px:Pos}{elt iter:Expr}{ifs:List Expr}{sc:Scope}{pos:Pos}{cl:List (Str×Addr)}{b:Ex}{cond:Option Ex}{XX:XE}{items:List V}{QQ:List V->AH->Prop}{R:Result->Shared->Prop}
  (W:Ls c env T.tab as₀ h₀ X I C D)(a:AOk T.q A n)(hx:Hx c as₀ X h₀ A)(fr:EnvFr c A X as₀ h₀ env)(K:KOk T env)(hlen:ρ.length=T.n)
  (ok:CompF T x sc)(hcl:∀y a,cl.lookup y=some a->env.cells.lookup y=some a)(hcl':∀y,sc.names.lookup y=some .free->cl.lookup y=env.cells.lookup y)
  (he:SE c n {T with names:=sc.names,tab:=(x,T.n)::T.tab,n:=T.n+1} elt b)
  (hc:(ifs=[]/\cond=none)\/∃t q,ifs=[t]/\cond=some q/\ST c n {T with names:=sc.names,tab:=(x,T.n)::T.tab,n:=T.n+1} t q)
  (hsz:items.length<=au)(hr:T.q=true->v.isRng=true)
  (L:Lp c T env as₀ h₀ X ρ I C D v y k acc arr s as H)
  (w:compL (oX c.P (aG c.P n) b cond ρ XX) (λH'=>qr H' v=some items) (items.drop k) acc H QQ)(hk:k<=items.length)
  (hR:∀k' acc' arr' s' as' H' tk h',Lp c T env as₀ h₀ X ρ I C D v y k' acc' arr' s' as' H'->k'<=items.length->But [I] s'.heap h'->QQ acc' H'->R (.ok .next) {s' with heap:=h',toks:=tk})
  (hX:∀x s',ERes c as₀ (I::C::D::X) h₀ XX x s'->wQ x s'.heap->(∃m,s'.heap.Ns C m)->R (.error x) s') :
  codeAny c.M A (.compLoop (.ListComp elt [⟨.Name x px,iter,ifs,0⟩] sc pos) 0 (.ref I) (.ref D) (compEnvC sc cl C env)) R s:=by
 refine codeAny_compLoop_tests (CI c T env as₀ h₀ X ρ I C D v y items (oX c.P (aG c.P n) b cond ρ XX) QQ) (λm s h0=>?_) (items.length-k) ⟨k,acc,arr,as,H,rfl,hk,L,w⟩
 clear L w hk
 refine zr h0 λk acc arr as H q_0 hk L w=>?_
 clear h0
 subst q_0
 refine optE (o:=items[k]?) (λhx'=>?_) λu hx'=>?_
 ·have hkl:items.length=k:=j2 (tL.mp hx') hk
  replace w:=(zd (aq hkl))▸w
  exact qZ (((W.hx hx).keep L.E L.K).hand a.hh hr) L.S (.head _) L.hv L.hi w.1 hkl λh' tk hb=>hR k acc arr s as H tk h' L hk hb w.2
 ·have hlt:=(ae.mp hx').1
  rw [mK hx']at w
  refine su (((W.hx hx).keep L.E L.K).hand a.hh hr) L.S (.head _) W.bi L.hv L.hi w.1 hx' λz h₁ tk₁ b₁ hu₁ hv₁ hi₁ S₁=>?_
  haveI L₁:=L.next W b₁ hv₁ hi₁ S₁
  refine L₁.hC.elim λm hm=>wpAny_assign_Name (wpAny_storeName_local (lookup_relabel_local ok.hx) hm (λh₂ hm₂ hs₂=>?_) (by show(sc.kind==.class||(sc.kind==.module&&_))=false;rw [ok.kind];rfl))
  haveI b₂:But [C] h₁ h₂:=λq o hq e=>(hs₂.2 q (wR hq)).trans e
  haveI L₂:=L₁.store (tk:=tk₁+1) W b₂ hm₂
  exact sT W he (aa hlt hsz) (ax L.hl) (λL' w'=>⟨items.length-(k+1),CS hlt (bS k),k+1,_,_,_,_,rfl,hlt,L',w'⟩)
   (λx s' er hm=>hm.elim λm hm=>er.note (λas' _ _ e k _ _=>((fr.grow (.refl _) BW).keep e k).env rfl) λs'' er' tr d=>hX x s'' er' tr ⟨m,d.ns hm⟩)
   L₂ (L₂.rdy W a hx fr K hlen ok hcl hcl' hm₂ (by simp) (hu₁.keepX (b₂.vk as (cW (.tail _ (.head _)))) (.refl ..))) hc w.2
end
theorem SR.opens{c:Cx}{as:bj}{X Y:List Addr}{H:AH}{s s':Shared}(x:SR c as X H s)(g:Grown s.heap s'.heap)(hX:∀b∈Y,b∈X\/s.heap.get? b=none)(hx:∀b∈Y,∃o,s'.heap.get? b=some o)(hg:s'.gens=s.gens)(ho:s'.os=s.os):SR c as Y H s' where
 len:=x.len
 stays:=λb o e=>g b o (x.stays b o e)
 gens:=hg.trans x.gens
 os:=ho.trans x.os
 objs:=λi a e=>by
  refine ea0_3 (x.objs i a e) ?_
  intro h1 h2 r_3
  refine ea1_2 r_3 ?_
  intro o h3 h4
  obtain⟨ob,hob⟩:=h4.here
  haveI hy:∀b o,s.heap.get? b=some o->b∉X->b∉Y:=λb o e hb q=>by
   refine Or.elim (hX b q) (λr=>?_) λr=>?_
   ·exact hb r
   ·exact du ((r).symm.trans e)
  exact⟨h1,hy _ _ hob h2,o,h3,(h4.frames hy).keepX (g.kept as Y).x λob e=>g _ _ e⟩
 inj:=x.inj
 xs:=hx
theorem FR.opens{c:Cx}{as:bj}{X Y:List Addr}{h h':HP}{env:Env}{tab:List (Str×Nat)}{ρ:Fm}(F:FR c as X h env tab ρ)(g:Grown h h')(hXY:∀b∈X,b∈Y)(hX:∀b∈Y,b∈X\/h.get? b=none):FR c as Y h' env tab ρ:=
 (F.frames hXY λb o e hb q=>by
  refine Or.elim (hX b q) (λr=>?_) λr=>?_
  ·exact hb r
  ·exact du ((r).symm.trans e)).keep (g.kept as Y) (.refl ..)
theorem VR.opens{c:Cx}{as:bj}{X Y:List Addr}{h h':HP}{v:V}{y:Value}(F:VR c as X h v y)(g:Grown h h')(hX:∀b∈Y,b∈X\/h.get? b=iR):VR c as Y h' v y:=
 (F.frames λb o e hb q=>by
  refine Or.elim (hX b q) (λr=>?_) λr=>?_
  ·exact hb r
  ·exact du ((r).symm.trans e)).grow g
theorem rK{as:bj}{X Y:List Addr}{a:Addr}{h:HP}(ha:a∈X)(hY:∀b∈Y,b∈X):∀b (o:Obj),b∉as->b∉X->h.get? b=some o->b∉as++[a]/\b∉Y/\h.get? b=some o:=λb o h1 h2 h3=>
 ⟨Ac h1 λq=>h2 (q▸ha),λq=>h2 (hY _ q),h3⟩
theorem VR.adopt{c:Cx}{as:bj}{X Y:List Addr}{h:HP}{a:Addr}(ha:a∈X)(hY:∀b∈Y,b∈X){v:V}{y:Value}(r:VR c as X h v y):VR c (as++[a]) Y h v y:=VR.gen (rK ha hY) (λ_ _ e=>da e) r
theorem VRs.adopt{c:Cx}{as:bj}{X Y:List Addr}{h:HP}{a:Addr}(ha:a∈X)(hY:∀b∈Y,b∈X){v:List V}{y:List Value}(r:VRs c as X h v y):VRs c (as++[a]) Y h v y:=VRs.gen (rK ha hY) (λ_ _ e=>da e) r
theorem OR.adopt{c:Cx}{as:bj}{X Y:List Addr}{h:HP}{a b:Addr}{o:O}(ha:a∈X)(hY:∀b∈Y,b∈X)(x:OR c as X h b o):OR c (as++[a]) Y h b o:=by
 induction o with
 |list vs=>refine ce (x) λhb q_=>cU q_ λitems q_=>ce q_ λhp r=>?_;exact⟨hb,items,hp,r.adopt ha hY⟩
 |dict ks vs=>obtain⟨hb,hsm,cs,hd,hl,r⟩:=x;exact⟨hb,hsm,cs,hd,hl,r.adopt ha hY⟩
 |inst k d=>obtain⟨dx,ob,e1,r0,r1,r2,r3⟩:=x;exact⟨dx,ob,da e1,r0,r1,r2,r3⟩
 |ns ks vs=>obtain⟨hb,cs,mA,hn,hl,r,hm⟩:=x;exact⟨hb,cs,mA,hn,hl,r.adopt ha hY,hm⟩
theorem SR.adopt{c:Cx}{as:bj}{X Y:List Addr}{H:AH}{s:Shared}{a:Addr}{o:O}(S:SR c as X H s)(ha:a∈X)(hb:c.base.get? a=none)(hY:∀b∈Y,b∈X)(haY:a∉Y)(ho:OR c (as++[a]) Y s.heap a o):SR c (as++[a]) Y (H++[o]) s where
 len:=by simp only [af,af,S.len];rfl
 stays:=S.stays
 gens:=S.gens
 os:=S.os
 objs:=λi b e=>(fm e).elim (λe=>ea0_3 (S.objs i b e) λh1 h2 r=>ea1_2 r λob h3 h4=>⟨h1,λq=>h2 (hY _ q),ob,da h3,h4.adopt ha hY⟩) λq=>by
  (refine ce (q) λe_0 e_1=>?_;subst e_0;(replace e_1:=Eq.symm e_1;subst e_1))
  exact⟨hb,haY,o,by exact(S.len)▸cG,ho⟩
 inj:=λi j b e1 e2=>by
  haveI hne:∀{i:Nat},as[i]? =some b->b≠a:=λe q=>(S.objs _ _ e).2.1 (q▸ha)
  exact(fm e1).elim (λh1=>(fm e2).elim (S.inj i j b h1) λh2=>absurd h2.2 (hne h1)) λh1=>(fm e2).elim (λh2=>absurd h1.2 (hne h2)) λh2=>h1.1.trans h2.1.symm
 xs:=λb hb=>S.xs b (hY b hb)
theorem OVR.adopt{c:Cx}{as:bj}{X Y:List Addr}{h:HP}{a:Addr}{o:Option V}{y:Option Value}(ha:a∈X)(hY:∀b∈Y,b∈X)(z:OVR c as X h o y):OVR c (as++[a]) Y h o y:=
 λv e=>let⟨q,e1,e2⟩:=z v e;⟨q,e1,e2.adopt ha hY⟩
theorem FR.narrow{c:Cx}{as:bj}{X Y Z:List Addr}{h:HP}{env:Env}{tab:List (Str×Nat)}{ρ:Fm}(F:FR c as X h env tab ρ)(hY:∀b∈Y,b∈X)(hZ:∀b∈X,b∈Y\/b∈Z)(aw:nS Z env tab):FR c as Y h env tab ρ where
 kind:=F.kind
 glob:=F.glob
 bi:=F.bi
 lx:=(hZ _ F.lx).resolve_right aw.1
 lout:=F.lout
 lb:=F.lb
 ns:=by
  refine ea1_2 F.ns ?_
  intro m n r
  exact⟨m,n,λy i h1 h2=>(r y i h1 h2).frames λb _ _ hb q=>hb (hY _ q)⟩
 cells:=λy i h1 h2=>by
  refine i6 (F.cells y i h1 h2) ?_
  intro a z e1 e2 e3 e4 e5 e6 e7
  exact⟨a,z,e1,(hZ _ e2).resolve_right (aw.2 y i h1 h2 a e1),e3,e4,e5,e6,e7.frames λb _ _ hb q=>hb (hY _ q)⟩
 apart:=F.apart
 inj:=F.inj
theorem FR.adopt{c:Cx}{as:bj}{X Y Z:List Addr}{h:HP}{a:Addr}{env:Env}{tab:List (Str×Nat)}{ρ:Fm}(F:FR c as X h env tab ρ)(ha:a∈X)(hY:∀b∈Y,b∈X)(hZ:∀b∈X,b∈Y\/b∈Z)(aw:nS Z env tab)(haZ:a∈Z):FR c (as++[a]) Y h env tab ρ where
 kind:=F.kind
 glob:=F.glob
 bi:=F.bi
 lx:=(hZ _ F.lx).resolve_right aw.1
 lout:=Ac F.lout λq=>aw.1 (q▸haZ)
 lb:=F.lb
 ns:=by
  refine ea1_2 F.ns ?_
  intro m n r
  exact⟨m,n,λy i h1 h2=>(r y i h1 h2).adopt ha hY⟩
 cells:=λy i h1 h2=>by
  refine i6 (F.cells y i h1 h2) ?_
  intro a' z e1 e2 e3 e4 e5 e6 e7
  have hz:=aw.2 y i h1 h2 a' e1
  exact⟨a',z,e1,(hZ _ e2).resolve_right hz,Ac e3 λq=>hz (q▸haZ),e4,e5,e6,e7.adopt ha hY⟩
 apart:=F.apart
 inj:=F.inj
theorem yI{prog:Program}{w:World}{A:Around}{E:Value->Shared->Prop}{s:Shared}{I:Addr}{v:V}{y:Value}{k:Nat}{Q:Value->Shared->Prop}(hi:ItC s.heap I v y k)(h:Q (.ref I) s):wpAny (model prog w) A (pyIter (.ref I)) Q E s:=by
 cases v<;>try exact hi.elim
 ·obtain ⟨x,t,_,h1|h1⟩:=hi
  ·exact wpAny_pyIter_striter_ascii h1 h
  ·exact wpAny_pyIter_striter_wide h1 h
 ·refine ea1_2 hi ?_
  intro a _ h1
  exact wpAny_pyIter_tupleiter h1 h
 ·refine ea1_2 hi ?_
  intro a _ h1
  exact wpAny_pyIter_listiter h1 h
 ·exact wpAny_pyIter_rangeiter hi h
 ·refine ea1_2 hi ?_
  intro a _ h1
  exact wpAny_pyIter_listiter h1 h
def ResC(c:Cx)(as:bj)(X:List Addr)(h:HP)(env:Env)(tab:List (Str×Nat))(ρ:Fm)(C:Addr)(Q:QE)(x:Value)(s':Shared):Prop:=
 ∃v H' as',Ext as h as'/\SR c as' (C::X) H' s'/\Kept as X h s'.heap/\VR c as' (C::X) s'.heap v x/\Q v H'/\FR c as' (C::X) s'.heap env tab ρ
theorem Res.drop{c:Cx}{as:bj}{X:List Addr}{h:HP}{C:Addr}{Q:QE}{x:Value}{s':Shared}{h':HP}(r:Res c as (C::X) h Q x s')(hC:Fr as h C)(hb:c.base.get? C=none)(hX:C∉X)(hs:fH C s'.heap h'):Res c as X h Q x {s' with heap:=h'}:=by
 obtain⟨v,H',as',e,S,k,hv,q⟩:=r
 haveI b:But [C] s'.heap h':=λq o hq e=>(hs.2 q (by exact wR (hq))).trans e
 exact⟨v,H',as',e,S.but (s':={s' with heap:=h'}) b (by simpa using hb) (λ_ q=>.tail _ q) (λa ha hz=>by replace hz:=in1 hz;(replace hz:=Eq.symm hz;subst hz);exact(hX ha).elim) rfl rfl,(k.but b (by exact cW (hC))).less (λa ha=>(s3 ha).elim (λq=>.inr (q▸hC)) .inl),
  (hv.keepX (b.vk as' (by exact cW (.head _))) (.refl ..)).frames λb _ _ hb q=>hb (.tail _ q),q⟩
section
variable {c:Cx}{T:Tb}{env:Env}{X:List Addr}{ρ:Fm}{s:Shared}{as:bj}{H:AH}{E:Value->Shared->Prop}
theorem kY{A:Around}{n:Nat}{x:Str}{px:Pos}{elt iter:Expr}{ifs:List Expr}{sc:Scope}{pos:Pos}{cl:List (Str×Addr)}{b:Ex}{cond:Option Ex}{XX:XE}{mu:Bool}{Q:QE}{RR:Value->Addr->Result->Shared->Prop}
  {v:V}{y:Value}{s₁:Shared}{as₁:bj}{H₁:AH}
  (R:Rdy c T env A n s as X H ρ)
  (ok:CompF T x sc)(hcl:∀y a,cl.lookup y=some a->env.cells.lookup y=some a)(hcl':∀y,sc.names.lookup y=some .free->cl.lookup y=env.cells.lookup y)
  (he:SE c n {T with names:=sc.names,tab:=(x,T.n)::T.tab,n:=T.n+1} elt b)
  (hc:(ifs=[]/\cond=none)\/∃t q,ifs=[t]/\cond=some q/\ST c n {T with names:=sc.names,tab:=(x,T.n)::T.tab,n:=T.n+1} t q)
  (e1:Ext as s.heap as₁)(k1:Kept as X s.heap s₁.heap)(S1:SR c as₁ X H₁ s₁)(hv:VR c as₁ X s₁.heap v y)(hr:T.q=true->v.isRng=true)
  (w:∃items,qr H₁ v=some items/\items.length<=au/\compL (oX c.P (aG c.P n) b cond ρ XX) (λH'=>qr H' v=some items) items [] H₁ (λys H₂=>gi (if mu then j7 (.lst ys) H₂ else some (.lst ys,H₂)) Q))
  (hRR:∀D C s',Fr as s.heap C->C∉X->c.base.get? C=none->(∃m,s'.heap.Ns C m)->ResC c as X s.heap env T.tab ρ C Q (.ref D) s'->RR (.ref D) C (.ok .next) s')
  (hRX:∀D C x s',Fr as s.heap C->C∉X->c.base.get? C=none->(∃m,s'.heap.Ns C m)->ERes c as (C::X) s.heap XX x s'->wQ x s'.heap->RR (.ref D) C (.error x) s') :
  wpAny c.M A (pyIter y) (λit s₂=>wpAny c.M A (newList []) (λacc s₃=>wpAny c.M A (newFunctionEnv sc env.globals cl [] env.qual none .none (some env)) (λcenv s₄=>
   codeAny c.M A (.compStart (.ListComp elt [⟨.Name x px,iter,ifs,0⟩] sc pos) 0 it acc {cenv with scope:=relabel sc env}) (RR acc cenv.locals) s₄) E s₃) E s₂) E s₁:=by
 refine eO w ?_
 intro items hsrc hsz w
 refine pi S1 hv hsrc λo hi=>?_
 refine wpAny_newObj_type (wpAny_newFunctionEnv ok.nocell (by intro y hy;simp at hy) (λh₁ hns₁ hsb₁=>?_) ok.kind)
 dsimp only at hns₁ hsb₁ ⊢
 generalize hI:s₁.heap.objs.size=I at hi ⊢
 have hfI:s₁.heap.get? I=none:=hI▸cu _
 generalize hH1:s₁.heap.push o=G1 at hi hns₁ hsb₁ ⊢
 have gI:Grown s₁.heap G1:=hH1▸.push _ _
 generalize hD:G1.objs.size=D at hns₁ hsb₁ ⊢
 have hfD:G1.get? D=none:=hD▸cu _
 generalize hH2:G1.push {cls:=.type "list",dict:=none,data:=.seq ([]:List Value).toArray}=G2 at hns₁ hsb₁ ⊢
 have gD:Grown G1 G2:=hH2▸.push _ _
 have hlD:G2.get? D=some {cls:=.type "list",dict:=none,data:=.seq ([]:List Value).toArray}:=by rw [<-hH2,<-hD];exact aE _ rfl
 generalize hC:G2.objs.size=C at hns₁ hsb₁ ⊢
 have hfC:G2.get? C=none:=hC▸cu _
 have g3:Grown G2 h₁:=λq o e=>hsb₁.extBut q o (λh=>by(replace h:=Eq.symm h;subst h);replace e:=(hfC).symm.trans e;exact du e) (aQ _ e)
 refine ea1_2 hi.here λoI eI _=>?_
 haveI hID:=vJ eI hfD
 have hIC:=vJ (gD _ _ eI) hfC
 haveI hCD:=(vJ hlD hfC).symm
 have fC:=gI.none (gD.none hfC)
 haveI fD:=gI.none hfD
 have g13:=(gI.trans gD).trans g3
 haveI hX':∀b∈I::C::D::X,b∈X\/s₁.heap.get? b=none:=dC (.inr hfI) (dC (.inr fC) (dC (.inr fD) λ_ hb=>.inl hb))
 have F1:=R.F.keep k1 e1
 have aw:nS [I,C,D] env T.tab:=F1.away (dC (S1.not_x hfI) (dC (S1.not_x fC) (dC (S1.not_x fD) n8)))
 have W:Ls c env T.tab as s.heap X I C D:=⟨hIC,hID,hCD,S1.base_none hfI,S1.base_none fC,S1.base_none fD,k1.fr hfI,k1.fr fC,k1.fr fD,S1.not_x fD,S1.not_x fC,aw⟩
 haveI L:Lp c T env as s.heap X ρ I C D v y 0 [] #[] {s₁ with heap:=h₁,toks:=s₁.toks+([]:List (Str×Value)).length} as₁ H₁:=
  ⟨S1.opens (s':={s₁ with heap:=h₁,toks:=s₁.toks+([]:List (Str×Value)).length}) g13 hX' (dC ⟨oI,g3 _ _ (gD _ _ eI)⟩ (dC (iW hns₁ λo _ _ e _=>⟨o,e⟩) (dC ⟨_,g3 _ _ hlD⟩ λb hb=>(S1.xs b hb).imp λo e=>g13 _ _ e))) rfl rfl,F1.opens g13 (λb hb=>.tail _ (.tail _ (.tail _ hb))) hX',hv.opens g13 hX',hi.at λo e _=>g3 _ _ (gD _ _ e),⟨_,g3 _ _ hlD⟩,.nil,aA _,⟨_,hns₁⟩,S1.not_as hfI,S1.not_as fC,S1.not_as fD,e1,(k1.more BW).trans e1 (g13.kept as₁ _)⟩
 haveI loop:codeAny c.M A (.compLoop (.ListComp elt [⟨.Name x px,iter,ifs,0⟩] sc pos) 0 (.ref I) (.ref D) (compEnvC sc cl C env)) (RR (.ref D) C) {s₁ with heap:=h₁,toks:=s₁.toks+([]:List (Str×Value)).length}:=by
  refine sN W R.a R.hx R.fr R.K R.len ok hcl hcl' he hc hsz hr L w (aM _) (λk' acc' arr' s' as' H' tk h' L' hk' bI q=>?_) λx s' er tr hm=>hRX D C x s' W.hc W.cx W.bc hm (er.less (dC (.tail _ (.head _)) λb hb=>.tail _ (.tail _ (.tail _ hb))) (W.cnt λb hb=>.inl (aa hb bM))) tr
  refine hRR D C _ W.hc W.cx W.bc (L'.hC.imp λm q=>Ns.same (X:=[]) q λo e=>⟨o,bI _ _ (ou (Ne.symm hIC)) e,.inl rfl⟩:∃m,h'.Ns C m) ?_
  refine ea0_3 (L'.but (s':={s' with heap:=h',toks:=tk}) W bI (cW (.head _))) λb1 b2 b3=>?_
  haveI hpD:h'.PlainList D arr':=L'.hD.imp λn q=>bI _ _ (ou (Ne.symm hID)) q
  haveI hbn:acc'.length<=iu:=aa (aa L'.hl (aa hk' hsz)) (Nat.le_of_add_right_le di)
  haveI hDC:D∉C::X:=cB (Ne.symm hCD) W.dx
  have hsub':∀b∈C::X,b∈C::D::X:=dC (.head _) λb hb=>.tail _ (.tail _ hb)
  haveI hZ':∀b∈C::D::X,b∈C::X\/b∈[I,C,D]:=dC (.inl (.head _)) (dC (.inr (.tail _ (.tail _ (.head _)))) λb hb=>.inl (.tail _ hb))
  have S3:SR c as' (C::D::X) H' {s' with heap:=h',toks:=tk}:=L'.S.but (s':={s' with heap:=h',toks:=tk}) bI (cW ⟨.head _,W.bi⟩) (λb hb=>.tail _ hb) (dC (λhz=>absurd (in1 hz).symm hIC) (dC (λhz=>absurd (in1 hz).symm hID) λb hb hz=>absurd (in1 hz▸hb) (S1.not_x hfI))) rfl rfl
  haveI F3:FR c as' (C::D::X) h' env T.tab ρ:=b2.narrow (Z:=[I,C,D]) (λb hb=>.tail _ hb) (dC (.inr (.head _)) λb hb=>.inl hb) aw
  haveI hacc3:=(L'.hacc.keepX b1 (.refl ..)).frames λb _ _ hb q=>hb (.tail _ q)
  haveI b3':=b3.less (X:=X) (W.cnt λb hb=>.inl hb)
  induction mu with
  |false=>
   refine⟨.lst acc',H',as',L'.E,S3.turn (s':={s' with heap:=h',toks:=tk}) (λb o e _ _=>e) S3.stays hsub' (λb hb=>S3.xs b (hsub' b hb)) rfl rfl,b3',?_,q,F3.narrow hsub' hZ' aw⟩
   exact .lst L'.od hDC hpD (hacc3.frames λb _ _ hb q=>hb (hsub' b q)) hbn
  |true=>
   haveI hDin:D∈C::D::X:=.tail _ (.head _)
   haveI q':Q (.ref H'.length) (H'++[.list acc']):=q
   refine⟨.ref H'.length,H'++[.list acc'],as'++[D],⟨λi z e=>?_,λz hz=>?_⟩,S3.adopt (o:=.list acc') hDin W.bd hsub' hDC ⟨hbn,arr',hpD,hacc3.adopt hDin hsub'⟩,b3',.ref ?_,q',F3.adopt hDin hsub' hZ' aw (.tail _ (.tail _ (.head _)))⟩
   ·exact da (L'.E.old i z e)
   ·exact (ct.mp hz).elim (L'.E.new z) λr=>in1 r▸W.hd
   ·rw [<-S3.len];exact cG
 exact codeAny_compStart_list loop (yI L.hi loop)
def nG(e:Expr):Prop:=∀a k p,e≠.Set a k p
theorem kr{e:Expr}(h:nG e)(env:Env)(x:Value):foldedSetIterable e env x=pure x:=by
 cases e with
 |Set a k p=>exact absurd rfl (h a k p)
 |_=>rfl
theorem ResC.drop{C:Addr}{Q:QE}{x:Value}{s':Shared}{h':HP}(r:ResC c as X s.heap env T.tab ρ C Q x s')(hC:Fr as s.heap C)(hb:c.base.get? C=none)(hX:C∉X)(hs:fH C s'.heap h'):Res c as X s.heap Q x {s' with heap:=h'}:=by
 refine gx r ?_
 intro v H' as' e S k hv q _
 exact Res.drop ⟨v,H',as',e,S,k.more (λ_=>bM),hv,q⟩ hC hb hX hs
theorem lV{sc:Scope}{x:Str}(F:FR c as X s.heap env T.tab ρ)(K:KOk T env)(ok:CompF T x sc):∀y,sc.names.lookup y=some .free->∃a,env.cells.lookup y=some a:=λy hy=>by
 refine ea0_3 (ok.free y hy) ?_
 intro h3 p_2 h5
 obtain⟨j,h4⟩:=p_2
 have hek:env.kindOf y=some .cell\/env.kindOf y=some .free:=by
  refine Or.elim (h3) (λh3=>?_) λh3=>?_
  ·exact .inl (K.cell y h3)
  ·refine Or.elim (K.free y h3) (λq=>?_) λq=>?_
   ·exact .inr q
   ·exact .inl q
 refine dt (F.cells y j h4 hek) ?_
 intro a _ e1 _
 exact⟨a,e1⟩
theorem ERes.drop{C:Addr}{XX:XE}{x:Value}{s':Shared}{h':HP}(r:ERes c as (C::X) s.heap XX x s')(tr:wQ x s'.heap)(hC:Fr as s.heap C)(hb:c.base.get? C=none)(hX:C∉X)(hs:fH C s'.heap h'):ERes c as X s.heap XX x {s' with heap:=h'}/\wQ x h':=by
 obtain⟨k,H',as',e,t,ts,rfl,e',S,k',ex,ht,ap,w⟩:=r
 refine iW tr ?_
 intro e₁ T cls he ex₁
 cases he
 have b:But [C] s'.heap h':=λq o hq e=>(hs.2 q (by exact wR (hq))).trans e
 have hne:∀a∈e::ts,a≠C:=λa ha q=>(ap a ha).2.2.1 (q▸.head _)
 have kE:∀{t:Option Addr},(∀T,t=some T->T∈ts)->∀a∈e::t.toList,∀o,s'.heap.get? a=some o->h'.get? a=some o:=λ{t} ht a ha o q=>b a o (by
  rw [dZ]
  refine Or.elim (bA.mp ha) (λq_=>?_) (λha=>?_)
  ·(replace q_:=Eq.symm q_;subst q_);exact hne _ (.head _)
  ·exact hne _ (.tail _ (ht a (eG.mp ha)))) q
 have hY:∀a∈e::(ts++X),a≠C:=λa ha=>by
  rcases bA.mp ha with rfl|ha
  ·exact hne _ (.head _)
  ·refine Or.elim (ct.mp ha) (λha=>?_) λha=>?_
   ·exact hne _ (.tail _ ha)
   ·exact λq=>hX (q▸ha)
 replace ex₁:=ex.uniq ex₁
 obtain rfl:=ex₁
 refine⟨⟨k,H',as',e,some T,ts,rfl,e',S.but (s':={s' with heap:=h'}) b (λa ha=>?_) (λa ha=>?_) (λa ha hz=>absurd (dZ.mp hz) (hY a ha)) rfl rfl,(k'.but b (by exact cW (hC))).less (λa ha=>(s3 ha).elim (λq=>.inr (q▸hC)) .inl),ex.keep (kE ht),ht,λa ha=>⟨(ap a ha).1,(ap a ha).2.1,λq=>(ap a ha).2.2.1 (.tail _ q),(ap a ha).2.2.2⟩,w⟩,e,T,_,rfl,ex.keep (kE ht)⟩
 ·cases dZ.mp ha
  exact⟨.tail _ (aB _ (.head _)),hb⟩
 ·rcases bA.mp ha with rfl|ha
  ·exact .head _
  ·refine Or.elim (ct.mp ha) (λha=>?_) λha=>?_
   ·exact .tail _ (aP _ ha)
   ·exact .tail _ (aB _ (.tail _ ha))
theorem pF{A:Around}{C:Addr}{XX:XE}{x acc:Value}{s':Shared}{use:Option (Value->Sem Unit)}{Qf:Value->Shared->Prop}(hC:Fr as s.heap C)(hX:C∉X)(hb:c.base.get? C=none)(hm:∃m,s'.heap.Ns C m)(r:ERes c as (C::X) s.heap XX x s')(tr:wQ x s'.heap):compPost c.M A (ERes c as X s.heap XX) use Qf acc C (.error x) s':=by
 refine cU (hm) λm hm=>?_
 have key:∃m,s'.heap.Ns C m/\∀h',fH C s'.heap h'->∀cenv:Env,cenv.locals=C->wpAny c.M A (PySem.passOn "comprehension.variables-let-go" x cenv:Sem Value) (λ_ _=>False) (ERes c as X s.heap XX) {s' with heap:=h'}:=
  ⟨m,hm,λh' hs cenv _=>(r.drop tr hC hb hX hs).1.pass (r.drop tr hC hb hX hs).2 λ_ er _=>er⟩
 induction use with
 |none=>exact key
 |some u=>exact key
theorem jF{P:Prog}{C:Calls}{q:Bool}{i:Ex}{ρ:Fm}{H:AH}{Q:QE}{XX:XE}(hq:(q&& !qT i)=false)(w:cH P C i ρ H Q XX):∃Q':QE,cH P C i ρ H Q' XX/\∀v H',Q' v H'->(q=true->v.isRng=true)/\Q v H':=by
 cases q with
 |false=>exact⟨Q,w,λ_ _ h=>⟨λz=>absurd z ag,h⟩⟩
 |true=>
  refine⟨λv H'=>v.isRng=true/\Q v H',?_,λ_ _ h=>⟨λ_=>h.1,h.2⟩⟩
  refine(yP ((mw _).mp hq)).elim λk e=>?_
  subst e
  have w:gi (if bB k=true then some (V.rng 0 k,H)else none) Q:=w
  refine(?_:gi (if bB k=true then some (V.rng 0 k,H)else none) _)
  by_cases hs:bB k=true
  ·rw [if_pos hs]at w ⊢;exact⟨rfl,w⟩
  ·rw [if_neg hs]at w;exact w.elim
theorem xn{n:Nat}{x:Str}{px:Pos}{elt iter:Expr}{ifs:List Expr}{sc:Scope}{pos:Pos}{b i:Ex}{cond:Option Ex}{mu:Bool}
  (ok:CompF T x sc)(hns:nG iter)(hi:SE c n T iter i)(hq:(T.q&& !qT i)=false)
  (he:SE c n {T with names:=sc.names,tab:=(x,T.n)::T.tab,n:=T.n+1} elt b)
  (hc:(ifs=[]/\cond=none)\/∃t q,ifs=[t]/\cond=some q/\ST c n {T with names:=sc.names,tab:=(x,T.n)::T.tab,n:=T.n+1} t q) :
  SE c n T (.ListComp elt [⟨.Name x px,iter,ifs,0⟩] sc pos) (.comp mu b i cond):=by
 refine⟨?_⟩
 intro env A s as X H ρ Q XX R w
 simp only [m0]at w
 refine eO (lw (env:=env) ok.names (lV R.F R.K ok)) ?_
 intro cl hclos hcl hcl'
 refine wpAny_comprehension_free (use:=none) rfl (kr hns env) hclos ok.kind (λp hp hl=>by simp only [ok.names p hp,hl]) (wpAny_mono (hi.run R (jF hq w).choose_spec.1) (λy s₁ r=>?_) λ_ _ e=>e)
 obtain⟨v,H₁,as₁,e1,S1,k1,hv,w1⟩:=r
 replace w1:=(jF hq w).choose_spec.2 _ _ w1
 refine kY (RR:=λacc C=>compPost c.M A (ERes c as X s.heap XX) none (Res c as X s.heap Q) acc C) R ok hcl hcl' he hc e1 k1 S1 hv w1.1 w1.2 (λD C s' h1 h2 h3 h4 h5=>?_) λD C x s' h1 h2 h3 h4 h5 h6=>pF h1 h2 h3 h4 h5 h6
 refine cU (h4) λm hm=>?_
 exact⟨m,hm,λh' hs'=>h5.drop h1 h3 h2 hs'⟩
theorem um{n:Nat}{x:Str}{px:Pos}{elt iter:Expr}{ifs:List Expr}{sc:Scope}{pos:Pos}{b i:Ex}{cond:Option Ex}{mu:Bool}{A:Around}{Q:QE}{XX:XE}{u:Value->Sem Unit}{Qf:Value->Shared->Prop}
  (ok:CompF T x sc)(hns:nG iter)(hi:SE c n T iter i)(hq:(T.q&& !qT i)=false)
  (he:SE c n {T with names:=sc.names,tab:=(x,T.n)::T.tab,n:=T.n+1} elt b)
  (hc:(ifs=[]/\cond=none)\/∃t q,ifs=[t]/\cond=some q/\ST c n {T with names:=sc.names,tab:=(x,T.n)::T.tab,n:=T.n+1} t q)
  (R:Rdy c T env A n s as X H ρ)(w:cH c.P (aG c.P n) (.comp mu b i cond) ρ H Q XX)
  (hu:∀D C s',Fr as s.heap C->C∉X->c.base.get? C=none->(∃m,s'.heap.Ns C m)->ResC c as X s.heap env T.tab ρ C Q (.ref D) s'->
   wpAny c.M A (u (.ref D)) (λ_ s''=>∃m,s''.heap.Ns C m/\∀h',fH C s''.heap h'->Qf .none {s'' with heap:=h'}) (ERes c as X s.heap XX) s') :
  wpAny c.M A (comprehension (.ListComp elt [⟨.Name x px,iter,ifs,0⟩] sc pos) sc env (firstIterPos [⟨.Name x px,iter,ifs,0⟩] pos) (newList []) false (eval iter env) (some u)) Qf (ERes c as X s.heap XX) s:=by
 simp only [m0]at w
 refine eO (lw (env:=env) ok.names (lV R.F R.K ok)) ?_
 intro cl hclos hcl hcl'
 refine wpAny_comprehension_free (use:=some u) rfl (kr hns env) hclos ok.kind (λp hp hl=>by simp only [ok.names p hp,hl]) (wpAny_mono (hi.run R (jF hq w).choose_spec.1) (λy s₁ r=>?_) λ_ _ e=>e)
 obtain⟨v,H₁,as₁,e1,S1,k1,hv,w1⟩:=r
 replace w1:=(jF hq w).choose_spec.2 _ _ w1
 exact kY (RR:=λacc C=>compPost c.M A (ERes c as X s.heap XX) (some u) Qf acc C) R ok hcl hcl' he hc e1 k1 S1 hv w1.1 w1.2 (λD C s' h1 h2 h3 h4 h5=>hu D C s' h1 h2 h3 h4 h5) λD C x s' h1 h2 h3 h4 h5 h6=>pF h1 h2 h3 h4 h5 h6
end
section
variable {c:Cx}{n:Nat}{T:Tb}
theorem kt{o:Expr}{name:Str}{env:Env}{w:Sem Value}(h:gk o=true):attributeBase o name env w=w:=by
 cases o<;>first|rfl|cases h
noncomputable def ie:Mt->String
 |.list=>"list"
 |.dict=>"dict"
 |.str=>"str"
 |.tup=>"tuple"
theorem lP{pos:Pos}{env:Env}{args:List Expr}{xs:List Ex}(h:mE c n T args xs):(backTo pos (starEach args env)).all (λx=>!x.1)=true:=by
 induction h with
 |nil=>rfl
 |cons h₁ _ ih=>rw [f8 h₁.2];exact ih
theorem p7{as:bj}{X:List Addr}{H:AH}{s:Shared}{v:V}{y:Value}{t:Mt}(S:SR c as X H s)(hv:VR c as X s.heap v y)(h:lu H v t=true) :
  s.TypeIs y (ie t)/\(∀a,y=.ref a->∃ob,s.heap.get? a=some ob/\ob.dict=none):=by
 induction t with
 |str=>
  replace h:=cm.mp h
  obtain⟨x,h⟩:=h
  replace h:=V.txt_is h
  subst h
  cases hv.inv
  exact⟨typeIs_str _ _ _,λ_ e=>nomatch e⟩
 |list=>
  replace h:=cm.mp h
  obtain⟨x,h⟩:=h
  replace S:=dF S hv h
  obtain⟨a,its,rfl,⟨n,e⟩,_⟩:=S
  exact⟨⟨_,e,rfl⟩,λa q=>by cases q;exact⟨_,e,rfl⟩⟩
 |dict=>
  replace h:=cm.mp h
  obtain⟨x,h⟩:=h
  replace S:=jA S hv h
  obtain⟨a,cs,rfl,_,⟨o,es,ep,e,hx,_⟩,_⟩:=S
  exact⟨⟨_,e,hx.1⟩,λa q=>by cases q;exact⟨_,e,hx.2.1⟩⟩
 |tup=>
  replace h:=cm.mp h
  obtain⟨x,h⟩:=h
  replace h:=V.tpl_is h
  subst h
  cases hv.inv with
  |tup _ _ e _ _=>exact⟨⟨_,e,rfl⟩,λa q=>by cases q;exact⟨_,e,rfl⟩⟩
theorem oH{o:Expr}{name:Str}{apos pos:Pos}{args:List Expr}{a:Ex}{xs:List Ex}{t:Mt}{mu:Bool}{pr:Prim}{id:String}(hat:gk o=true)(hl:apos.endLine=pos.line)(hlt:args.length<20)(h:SE c n T o a)(hs:mE c n T args xs)
  (pa:PlainAttrs (ie t))(slot:Slot (ie t) name id)(hty:typeOf (.builtin id)=pure (.type "method_descriptor"))
  (tail:∀{A:Around} {s:Shared} {as:bj} {X:List Addr} {H:AH} {Q:QE} {XX:XE} {v:V} {y:Value} {vs:List V} {ys:List Value},AOk T.q A n->SR c as X H s->VR c as X s.heap v y->VRs c as X s.heap vs ys->vs.length=xs.length->gi (aU c.P mu pr (v::vs) H) Q->
   wpAny c.M A (call (.builtin id) (y::ys)) (Res c as X s.heap Q) (ERes c as X s.heap XX) s) :
  SE c n T (.Call (.Attribute o name apos) args [] pos) (.mcall t mu pr a xs):=by
 refine⟨?_⟩
 intro env A s as X H ρ Q XX R w
 simp only [s5]at w
 refine wpAny_Call_method_lateS (kt hat) ?_ (by simpa using hl) (wpAny_mono (h.run R w) (λov s₁ r=>?_) λ_ _ e=>e)
 ·rw [lP hs]
  exact decide_eq_true (aJ hlt (by decide))
 ·obtain ⟨v,H₁,as₁,e1,S1,k1,hv,ht,w1⟩:=r
  refine ce (p7 S1 hv ht) λh1 h2=>?_
  refine⟨ie t,id,pa,slot,hty,h1,h2,?_⟩
  refine callWith_builtin (kT hs) (wpAny_mono (eR hs (R.next e1 k1 S1) w1) (λar s₂ r=>?_) λ_ _ e=>e.lift e1 k1)
  obtain⟨hk,vs,H₂,as₂,e2,S2,k2,hvs,hln,q⟩:=r
  simp only [hk]
  exact wpAny_mono (tail R.a S2 (hv.keep k2 e2) hvs hln q) (λ_ _ r=>(r.lift e2 k2).lift e1 k1) λ_ _ e=>(e.lift e2 k2).lift e1 k1
theorem uA{o:Expr}{name:Str}{apos pos:Pos}{args:List Expr}{a:Ex}{xs:List Ex}{t:Mt}{mu:Bool}{pr:Prim}{id:String}(hat:gk o=true)(hl:apos.endLine=pos.line)(h:SE c n T o a)(hs:mE c n T args xs)(hn:args.length=1)
  (hmu:mu=true->pr.fresh=true)(hf:pr.fresh=false)(pa:PlainAttrs (ie t))(slot:Slot (ie t) name id)(hty:typeOf (.builtin id)=pure (.type "method_descriptor"))
  (tail:∀{A:Around} {s:Shared} {as:bj} {X:List Addr} {H H':AH} {Q:QE} {XX:XE} {v w r:V} {y z:Value},AOk T.q A n->SR c as X H s->VR c as X s.heap v y->VR c as X s.heap w z->prim c.P pr [v,w] H=some (r,H')->Q r H'->
   wpAny c.M A (call (.builtin id) [y,z]) (Res c as X s.heap Q) (ERes c as X s.heap XX) s):SE c n T (.Call (.Attribute o name apos) args [] pos) (.mcall t mu pr a xs):=by
 induction mu with
 |true=>exact absurd (hmu rfl) (by rw [hf];decide)
 |false=>
  refine oH hat hl (by rw [hn];decide) h hs pa slot hty λa S hv hvs hln q=>?_
  replace hs:=oF hvs (hln.trans (hs.length.symm.trans hn))
  refine c8 hs ?_
  intro v y q_3 q_4 hv1
  subst q_3
  subst q_4
  refine dt (bV q) ?_
  intro r H' e q'
  exact tail a S hv hv1 e q'
theorem zq{o:Expr}{name:Str}{apos pos:Pos}{args:List Expr}{a:Ex}{xs:List Ex}{t:Mt}{mu:Bool}{pr:Prim}{id:String}(hat:gk o=true)(hl:apos.endLine=pos.line)(h:SE c n T o a)(hs:mE c n T args xs)(hn:args.length=0)
  (hmu:mu=true->pr.fresh=true)(hf:pr.fresh=false)(pa:PlainAttrs (ie t))(slot:Slot (ie t) name id)(hty:typeOf (.builtin id)=pure (.type "method_descriptor"))
  (tail:∀{A:Around} {s:Shared} {as:bj} {X:List Addr} {H H':AH} {Q:QE} {XX:XE} {v r:V} {y:Value},SR c as X H s->VR c as X s.heap v y->prim c.P pr [v] H=some (r,H')->Q r H'->
   wpAny c.M A (call (.builtin id) [y]) (Res c as X s.heap Q) (ERes c as X s.heap XX) s):SE c n T (.Call (.Attribute o name apos) args [] pos) (.mcall t mu pr a xs):=by
 induction mu with
 |true=>exact absurd (hmu rfl) (by rw [hf];decide)
 |false=>
  refine oH hat hl (by rw [hn];decide) h hs pa slot hty λ_ S hv hvs hln q=>?_
  cases hvs with
  |cons _ _=>exact absurd (hln.trans ((hs.length).symm.trans hn)) (pW _)
  |nil=>exact dt (bV q) λr H' e q'=>tail S hv e q'
set_option tactic.hygienic true in
theorem ot{o:Expr}{name:Str}{apos pos:Pos}{args:List Expr}{a:Ex}{xs:List Ex}{t:Mt}{mu:Bool}{pr:Prim}(hat:gk o=true)(hl:apos.endLine=pos.line)(h:SE c n T o a)(hs:mE c n T args xs)
  (hp:jC name args.length=some (t,pr))(hmu:mu=true->pr.fresh=true):SE c n T (.Call (.Attribute o name apos) args [] pos) (.mcall t mu pr a xs):=by
 unfold jC at hp
 split at hp
 ·rename_i q;(obtain⟨rfl,rfl⟩:=oz hp;clear hp);cases q.1
  exact uA hat hl h hs q.2 hmu rfl F.plainAttrs_list F.slot_list_append F.type_list_append λ_ S hv hw e q=>uW S hv hw e q
 split at hp
 ·rename_i q;(obtain⟨rfl,rfl⟩:=oz hp;clear hp);cases q.1
  exact zq hat hl h hs q.2 hmu rfl F.plainAttrs_list F.slot_list_pop F.type_list_pop λS hv e q=>EY S hv e q
 split at hp
 ·rename_i q;((refine ce (oz hp) λe_0 e_1=>?_;subst e_0;subst e_1);clear hp);cases q.1
  exact uA hat hl h hs q.2 hmu rfl F.plainAttrs_list F.slot_list_extend F.type_list_extend λa S hv hw e q=>ud S hv hw e q
 split at hp
 ·rename_i q;(obtain⟨rfl,rfl⟩:=oz hp;clear hp);cases q.1
  exact uA hat hl h hs q.2 hmu rfl F.plainAttrs_list F.slot_list_count F.type_list_count λa S hv hw e q=>xM S hv hw e q
 split at hp
 ·rename_i q;(obtain⟨rfl,rfl⟩:=oz hp;clear hp);cases q.1
  exact zq hat hl h hs q.2 hmu rfl F.plainAttrs_str F.slot_str_upper F.type_str_upper λS hv e q=>xy S hv e q
 exact du hp
end
theorem O.ins_i(o:O):Is o.ins λd=>o=.inst 0 d:=by
 cases o with
 |inst c d'=>exact Is.ite λh=>h▸rfl
 |_=>exact trivial
theorem O.nms_i(o:O):Is o.nms λq=>o=.ns q.1 q.2:=by
 cases o<;>first|exact rfl|exact trivial
theorem vT{H:AH}{v:V}{d:Nat}{ks:List (List Char)}{vs:List V}(h:eP H v=some (d,ks,vs)):∃i,v=.ref i/\H[i]? =some (.inst 0 d)/\H[d]? =some (.ns ks vs):=
 Is.of (o:=eP H v) (R:=λq=>∃i,v=.ref i/\H[i]? =some (.inst 0 q.1)/\H[q.1]? =some (.ns q.2.1 q.2.2)) ((V.at_i v).bind λi h1=>(Is.self.bind λo h3=>(O.ins_i o).imp (R':=λd=>H[i]? =some (.inst 0 d)) λ_ h4=>h4▸h3).bind λd h5=>
  (Is.self.bind λo h3=>(O.nms_i o).imp (R':=λq=>H[d]? =some (.ns q.1 q.2)) λ_ h4=>h4▸h3).map λ_ h6=>⟨i,h1,h5,h6⟩) h
inductive Ins(c:Cx)(as:bj)(X:List Addr)(h:HP)(d:Nat)(ks:List (List Char))(vs:List V):Value->Prop
 |mk {x dx:Addr} {ob:Obj} {cs:List Value} {mA:Str->Option Value}:as[d]? =some dx->h.get? x=some ob->ob.cls=.ref (c.ccls 0)->ob.dict=some dx->(∀cd,ob.data≠.cls cd)->dx≠x->h.Ns1 dx mA->ks.length=cs.length->VRs c as X h vs cs->vs.length<=iu->
   (∀n,mA n=((ks.map toS).zip cs).lookup n)->x∈as->Ins c as X h d ks vs (.ref x)
section
variable {c:Cx}{A:Around}{E:Value->Shared->Prop}{s:Shared}{as:bj}{X:List Addr}{H H':AH}{Q:QE}
theorem qM{v:V}{cv:Value}{d:Nat}{ks:List (List Char)}{vs:List V}(S:SR c as X H s)(hv:VR c as X s.heap v cv)(h:eP H v=some (d,ks,vs)):Ins c as X s.heap d ks vs cv:=by
 refine eO (vT h) λi q_2 h1 h2=>?_
 subst q_2
 cases jk S hv h1 with
 |mk x e e2=>
  obtain⟨dx,ob,f1,f2,f3,f4,f5⟩:=e2
  cases jk S (.ref f1) h2 with
  |mk _ _ e4=>
   obtain⟨hb,cs,mA,hn,hl,r,hm⟩:=e4
   exact⟨f1,f2,f3,f4,f5,λq=>(by haveI:=S.inj _ _ _ e (q▸f1);subst this;exact nomatch h1.symm.trans h2),hn,hl,r,hb,hm,aI e⟩
theorem Ins.inst{x dx:Addr}{ob:Obj}{mA:Str->Option Value}{h:HP}(f2:h.get? x=some ob)(f3:ob.cls=.ref (c.ccls 0))(f4:ob.dict=some dx)(f5:∀cd,ob.data≠.cls cd)(hne:dx≠x)(hn:h.Ns1 dx mA):h.Inst x (c.ccls 0) mA:=⟨ob,f2,f3,f5,.inr ⟨dx,f4,hne,hn⟩⟩
theorem ol{h:HP}{n:List Char}:∀{ks:List (List Char)} {vs:List V} {cs:List Value} {v:V},VRs c as X h vs cs->eS n ks vs=some v->∃y,((ks.map toS).zip cs).lookup (toS n)=some y/\VR c as X h v y:=by
 intro ks
 induction ks with
 |nil=>intro vs cs v r e;cases vs<;>exact du e
 |cons k ks ih=>
  intro vs cs v r e
  cases r with
  |nil=>exact du e
  |@cons w ws y ys a r=>
   haveI e:(if n=k then some w else eS n ks ws)=some v:=e
   simp only [cL,dy,aK]
   by_cases hk:n=k
   ·replace e:=(if_pos hk).symm.trans e
    (replace e:=ah e;subst e)
    simp only [hk,beq_self_eq_true]
    exact⟨y,rfl,a⟩
   ·replace e:=(if_neg hk).symm.trans e
    haveI:(toS n==toS k)=false:=by
     rw [beq_eq_false_iff_ne]
     exact λq=>hk (gO q)
    rw [this]
    exact ih r e
theorem BZ{h:HP}{v:V}{y:Value}(r:VR c as X h v y):handedOut y=pure y:=by
 cases r<;>rfl
theorem Aa{v r:V}{cv:Value}{nm:List Char}{ms:List (Str×Nat)}{ats:List Str}{f:Nat}(K:CK c ms ats f)(hat:toS nm∈ats)(S:SR c as X H s)(hv:VR c as X s.heap v cv)(e:zy nm [v] H=some (r,H'))(q:Q r H'):wpAny c.M A (getAttr cv (toS nm) true) (Res c as X s.heap Q) E s:=by
 refine ea1_2 (bX (e:(eP H v).bind _=some (r,H'))) ?_
 intro p h1 h2
 refine ea1_2 (dc h2) λr' h3 h5=>?_
 cases h5
 obtain⟨hC,k1,k2,k3,k4,_,_,_,_⟩:=K
 obtain⟨nmC,qC,bs,sn,sub,col,dd,z0,z1,z2,z3,z5,hCo⟩:=(hC.keeps S.stays).obj
 obtain⟨f1,f2,f3,f4,f5,hne,hn,hl,rv,hb,hm,_⟩:=qM S hv h1
 refine ea1_2 (ol rv h3) ?_
 intro y e1 e2
 obtain⟨hp,g,d,t,os⟩:=s
 exact load_attr hCo (hC.keeps S.stays).ns k2 (k4 _ hat).1 (k4 _ hat).2 (Ins.inst f2 f3 f4 f5 hne hn) ((hm _).trans e1) (BZ e2) (Res.now (tk:=t+1) S e2 q)
theorem oE{h:HP}{n:List Char}{x:V}{y:Value}(hx:VR c as X h x y):∀{ks:List (List Char)} {vs:List V} {cs:List Value},VRs c as X h vs cs->ks.length=cs.length->
  ∃cs',(dE n x ks vs).1.length=cs'.length/\VRs c as X h (dE n x ks vs).2 cs'/\(dE n x ks vs).2.length<=vs.length+1/\∀m,(((dE n x ks vs).1.map toS).zip cs').lookup m=if m=toS n then some y else((ks.map toS).zip cs).lookup m:=by
 haveI one:∀m,(([n].map toS).zip [y]).lookup m=if m=toS n then some y else none:=λm=>by
  refine(?_:(match m==toS n with|true=>some y|false=>none)=_)
  by_cases hm:m=toS n
  ·rw [if_pos hm,hm,beq_self_eq_true]
  ·rw [if_neg hm,beq_eq_false_iff_ne.mpr hm]
 intro ks
 induction ks with
 |nil=>
  intro vs cs r hl
  haveI:dE n x [] vs=([n],[x]):=by cases vs<;>rfl
  exact⟨[y],rfl,.cons hx .nil,bP _ _,one⟩
 |cons k ks ih=>
  intro vs cs r hl
  cases r with
  |nil=>cases hl
  |@cons w ws z zs a r=>
   haveI hl':ks.length=zs.length:=by simpa using hl
   haveI e:dE n x (k::ks) (w::ws)=if n=k then(k::ks,x::ws)else(k::(dE n x ks ws).1,w::(dE n x ks ws).2):=rfl
   by_cases hk:n=k
   ·rw [e,if_pos hk]
    subst hk
    refine⟨y::zs,hl,.cons hx r,ay _ _,λm=>?_⟩
    simp only [cL,dy,dy,aK,aK]
    by_cases hm:m=toS n
    ·rw [if_pos hm,hm,beq_self_eq_true]
    ·rw [if_neg hm,beq_eq_false_iff_ne.mpr hm]
   ·rw [e,if_neg hk]
    refine dh (ih r hl') ?_
    intro cs' h1 h2 h3 h4
    refine⟨z::cs',congrArg tC h1,.cons a h2,ax h3,λm=>?_⟩
    simp only [cL,cL,dy,dy,aK,aK,h4]
    by_cases hm:m=toS k
    ·haveI hmn:m≠toS n:=λq=>hk (gO (q.symm.trans hm))
     rw [if_neg hmn,if_neg hmn,hm,beq_self_eq_true]
    ·rw [beq_eq_false_iff_ne.mpr hm]
theorem mP{ks:List (List Char)}{cs:List Value}{m:Str}(h:((ks.map toS).zip cs).lookup m≠none):m∈ks.map toS:=by
 cases e:((ks.map toS).zip cs).lookup m with
 |none=>exact absurd e h
 |some y=>exact(List.of_mem_zip (mem_of_lookup e)).1
theorem Obj.same{a b:Obj}(h1:a.cls=b.cls)(h2:a.data=b.data)(h3:a.slots=b.slots)(h4:a.dict=b.dict):a=b:=by
 cases a;cases b
 replace h1:=h1;subst h2;subst h3;subst h4
 subst h1
 rfl
set_option tactic.hygienic true in
theorem s9{v x:V}{cv cx:Value}{nm:List Char}{ms:List (Str×Nat)}{ats:List Str}{f:Nat}{R:Unit->Shared->Prop}(K:CK c ms ats f)(hat:toS nm∈ats)(S:SR c as X H s)(hv:VR c as X s.heap v cv)(hx:VR c as X s.heap x cx)(e:gu v nm x H=some H')
  (r:∀s',SR c as X H' s'->Kept as X s.heap s'.heap->R () s'):wpAny c.M A (setAttr cv (toS nm) cx) R E s:=by
 refine ea1_2 (bX (e:(eP H v).bind _=some H')) ?_
 intro p h1 h2
 obtain⟨hlen,h3⟩:=b8 h2
 subst h3
 obtain⟨d,ks,vs⟩:=p
 obtain⟨hC,k1,k2,k3,k4,_,_,_,_⟩:=K
 have hCk:=hC.keeps S.stays
 obtain⟨nmC,qC,bs,sn,sub,col,dd,z0,z1,z2,z3,z5,hCo⟩:=hCk.obj
 obtain⟨f1,f2,f3,f4,f5,hne,hn,hl,rv,hb,hm,hxa⟩:=qM S hv h1
 rename_i xa dx ob cs mA
 obtain⟨_,_,_,_,_,_,_,_,_,_,_,_,hC0⟩:=(hC.obj)
 have hxC:xa≠c.ccls 0:=λq=>by
  obtain⟨i,hi⟩:=bW hxa
  replace hi:=(q)▸hi
  replace hC0:=((S.objs i _ hi).1).symm.trans hC0;exact du hC0
 obtain⟨hp,g,dr,t,os⟩:=s
 refine store_attr PySem.F.store_object hCo hCk.ns k1 (k4 _ hat).1 (k4 _ hat).2 hxC (Ins.inst f2 f3 f4 f5 hne hn) (λh' tk' I' hk hsame=>?_) (ns:=ks.map toS) (λy hy=>mP (by rw [<-hm];exact hy)) (by rw [ak];exact aa hlen (by decide))
 refine uO (hsame ob f2) ?_
 intro o₁ e₁ q1 q2 q3 q4
 haveI hob:o₁=ob:=Obj.same q1 q2 q3 ((q4 dx f4).trans f4.symm)
 (replace hob:=Eq.symm hob;subst hob)
 have kk:∀b o,hp.get? b=some o->b≠dx->h'.get? b=some o:=λb o e hb=>by
  by_cases hbx:b=xa
  ·(replace hbx:=Eq.symm hbx;subst hbx);cases f2.symm.trans e;exact e₁
  ·exact hk b o hbx (λo₀ d' g1 g2=>by cases f2.symm.trans g1;cases f4.symm.trans g2;exact hb) e
 refine dh I' ?_
 intro o' g1 _ _ g4
 replace e₁:=e₁.symm.trans g1
 cases e₁
 have hns:h'.Ns1 dx (λy=>if y=toS nm then some cx else mA y):=by
  refine Or.elim (g4) (λq_=>?_) (λq_=>?_)
  ·obtain ⟨g4,_⟩:=q_;replace g4:=(f4).symm.trans g4;cases g4
  ·obtain ⟨d',g4,_,g5⟩:=q_;cases f4.symm.trans g4;exact g5
 refine dh (oE (n:=nm) hx rv hl) ?_
 intro cs' d1 d2 d3 d4
 refine r _ (S.upd (s':=⟨h',g,dr,tk',os⟩) f1 kk rfl rfl ⟨aa d3 ?_,cs',_,hns,d1,d2.keepX (λb o e ha _=>kk b o e λq=>ha (q▸aI f1):VK as X hp h') (.refl ..),λm=>?_⟩) (SR.kept1 f1 kk)
 ·have h1:vs.length=ks.length:=rv.length.trans hl.symm
  have h2:(1001:Nat)<=iu:=by decide
  rw [h1]
  exact aa (ax (hlen:ks.length<=1000)) h2
 ·simp only [d4]
  show(if m=toS nm then some cx else mA m)=_
  rw [hm]
end
section
variable {c:Cx}{n:Nat}{T:Tb}{ms:List (Str×Nat)}{ats:List Str}{f:Nat}
theorem oZ{M:Model}{A:Around}{E:Value->Shared->Prop}{s:Shared}{env:Env}{pos:Pos}{x:Expr}{Q:List Value->Shared->Prop}(hs:starEach [x] env=(false,eval x env)::starEach [] env)(h:wpAny M A (eval x env) (λy s₁=>Q [y] s₁) E s):wpAny M A (spliced (backTo pos (starEach [x] env))) Q E s:=by
 rw [hs]
 exact spliced_cons (wpAny_mono h (λ_ _ q=>spliced_nil q) λ_ _ e=>e)
theorem yp{o:Expr}{nm:List Char}{pos:Pos}{a:Ex}(K:CK c ms ats f)(hat:toS nm∈ats)(hok:gk o=true)(h:SE c n T o a):SE c n T (.Attribute o (toS nm) pos) (.prim false (.attr nm) [a]):=by
 refine⟨?_⟩
 intro env A s as X H ρ Q XX R w
 simp only [dA,c6]at w
 simp only [dL]at w
 simp only [arm_eval_Attribute,kt hok]
 refine wpAny_bind (wpAny_mono (h.run R w) (λy s₁ r=>wpAny_bind (wpAny_standAt (wpAny_bind (wpAny_holding ?_)))) λ_ _ e=>e)
 obtain⟨v,H₁,as₁,e1,S1,k1,hv,q⟩:=r
 refine dt (bV q) ?_
 intro z H' e q'
 exact wpAny_mono (Aa (E:=ERes c as₁ X s₁.heap XX) K hat S1 hv e q') (λ_ _ r=>wpAny_bind (wpAny_letTemporaryGo (wpAny_pure (r.lift e1 k1)))) λ_ _ e=>e.lift e1 k1
set_option tactic.hygienic true in
theorem yz{o:Expr}{nm:List Char}{g:Nat}{apos pos:Pos}{args:List Expr}{a:Ex}{xs:List Ex}(K:CK c ms ats f)(C:Cok c T.gl)(sc:SC c n)(hg:ms.lookup (toS nm)=some g)(hok:gk o=true)(hline:apos.endLine=pos.line)(hlt:args.length<30)(h:SE c n T o a)(hs:mE c n T args xs)(hq:T.q=false) :
  SE c n T (.Call (.Attribute o (toS nm) apos) args [] pos) (.meth 0 g nm a xs):=by
 refine⟨?_⟩
 intro env A s as X H ρ Q XX R w
 simp only [vz]at w
 simp only [arm_eval_Call,kt hok]
 refine wpAny_bind (wpAny_mono (h.run R w) (λy s₁ r=>wpAny_bind (wpAny_standAt ?_)) λ_ _ e=>e)
 obtain⟨v,H₁,as₁,e1,S1,k1,hv,hm,w1⟩:=r
 haveI hform:methodCallForm (args.length+([]:List Keyword).length) (backTo pos (starEach args env)) (backToKw pos (keywordEach [] env))=true:=by
  refine(?_:((backTo pos (starEach args env)).all (λx=>!x.1)&&true&&decide (args.length+0+0<30))=true)
  rw [lP hs]
  exact decide_eq_true hlt
 haveI hpos:methodCallPos true o env apos pos=pure pos:=by unfold methodCallPos;simp [hline]
 obtain⟨hC,k1',k2,k3,k4,k5,_,_,_⟩:=K
 obtain⟨m1,⟨of,m2,m3⟩,⟨yB,m4⟩,fn,hf⟩:=k5 _ _ hg
 have hCk:=hC.keeps S1.stays
 obtain⟨nmC,qC,bs,sn,sub,col,dd,z0,z1,z2,z3,z5,hCo⟩:=hCk.obj
 dsimp only [methodCall]
 rw [hform]
 haveI R1:=R.next e1 k1 S1
 obtain⟨p,hi,hnot⟩:∃p,eP H₁ v=some p/\(!p.2.1.contains nm)=true:=by
  unfold fY at hm
  refine optE (o:=eP H₁ v) (λhq=>?_) (λp hq=>?_)
  ·rw [hq];replace hm:=(hq)▸hm;cases hm
  ·rw [hq];rw [hq]at hm;exact⟨p,rfl,hm⟩
 obtain⟨d,ks,vs⟩:=p
 obtain⟨f1,f2,f3,f4,f5,hne,hn,hl,rv,hb,hmA,hxa⟩:=qM S1 hv hi
 rename_i xa dx ob cs mA
 have hsh:mA (toS nm)=none:=by
  rw [hmA]
  cases e:((ks.map toS).zip cs).lookup (toS nm)with
  |none=>rfl
  |some y=>
   refine ea1_2 (az.mp (mP (ks:=ks) (cs:=cs) (m:=toS nm) (by rw [e];nofun))) ?_
   intro k hk e'
   replace e':=gO e'
   cases e'
   haveI:ks.contains nm=true:=aR.mpr hk
   replace hnot:=(this)▸hnot;cases hnot
 obtain⟨hp,gg,dr,tt,os⟩:=s₁
 refine wpAny_bind (wpAny_holding (method_of hCo hCk.ns k2 k3 m1 (S1.stays _ _ m2) m3 m4 (Ins.inst f2 f3 f4 f5 hne hn) hsh ?_))
 refine wpAny_bind (wpAny_of_eq hpos ?_)
 refine callWith_function (o:=of) (fd:=c.fdat g) (wpAny_mono (eR hs R1 w1) (λar s₂ r=>?_) λ_ _ e=>e.lift e1 k1)
 obtain⟨hk,vs',H₂,as₂,e2,S2,k2,hvs,_,q⟩:=r
 refine ea1_2 (C.fobj g fn hf) ?_
 intro o' g1 g2
 replace g1:=m2.symm.trans g1
 (replace g1:=ah g1;subst g1)
 refine⟨⟨S2.stays _ _ m2,g2⟩,?_⟩
 rw [hk]
 exact wpAny_mono (sc.run hf ⟨λ_=>R.a.hh hq,R.a.hd,R.a.hu⟩ (.no (R.a.hh hq)) (R1.fr.keep e2 k2).all S2 (.cons (hv.keep k2 e2) hvs) q) (λ_ _ r=>(r.lift e2 k2).lift e1 k1) λ_ _ e=>(e.lift e2 k2).lift e1 k1
theorem AJ{g:Str}{p pos:Pos}{x:Expr}{a:Ex}(C:Cok c T.gl)(sc:SC c n)(hg:T.glob g=some (.cls ms ats f))(h:SE c n T x a)(hns:NS x)(hq:T.q=false):SE c n T (.Call (.Name g p) [x] [] pos) (.new 0 f [a]):=by
 refine⟨?_⟩
 intro env A s as X H ρ Q XX R w
 simp only [xm,c6]at w
 simp only [dL]at w
 haveI e1:=C.gl g _ (d6 hg).2.1
 obtain⟨hC,_,_,_,_,_,hi,⟨oI,hfI,hfc⟩,fn,hfn⟩:=C.cl g ms ats f (mem_of_lookup (d6 hg).2.1)
 refine wpAny_Call_Name_kw (fP C hg R (.inl e1) ?_)
 refine callWith_cls hC (oZ (f8 hns [] env) (wpAny_mono (h.run R w) (λy s₁ r=>?_) λ_ _ e=>e)) (f8 hns [] env) rfl
 obtain⟨v,H₁,as₁,e1,S1,k1,hv,q⟩:=r
 refine⟨S1.stays,?_⟩
 have hCk:=hC.keeps S1.stays
 obtain⟨nmC,qC,bs,sn,sub,col,dd,z0,z1,z2,z3,z5,hCo⟩:=hCk.obj
 obtain⟨hp,gg,dr,tt,os⟩:=s₁
 refine wpAny_call_obj_init PySem.F.objNew hCo hCk.ns hi (S1.stays _ _ hfI) hfc λh' xa dx Mk=>?_
 refine dh Mk.inst ?_
 intro ob hx hcx hncx hdx
 have hdd:=Mk.dict ob hx
 obtain⟨hnsd,hne⟩:h'.Ns1 dx (λ_=>none)/\dx≠xa:=by
  refine Or.elim (hdx) (λq_=>?_) (λq_=>?_)
  ·obtain ⟨hn0,_⟩:=q_;replace hdd:=(hn0).symm.trans hdd;exact du hdd
  ·obtain ⟨d',hd',hne',hns'⟩:=q_;try clear hdx
   cases hd'.symm.trans hdd;exact⟨hns',hne'⟩
 haveI hg1:∀b,(only h' λb=>b !=xa).get? b=if(b !=xa)=true then h'.get? b else none:=λb=>uj b
 generalize (only h' λb=>b !=xa)=h₁ at hg1
 have wR:∀b,b≠xa->h₁.get? b=h'.get? b:=λb hb=>by rw [hg1,if_pos (by simpa using hb)]
 have no1:h₁.get? xa=none:=by rw [hg1,if_neg (by simp)]
 have g1:Grown hp h₁:=λb o e=>by
  rw [wR b λq=>by rw [q,Mk.newX]at e;cases e]
  exact Mk.keeps b o e
 have g2:Grown h₁ h':=λb o e=>by
  rw [wR b λq=>by rw [q,no1]at e;cases e]at e
  exact e
 haveI Sd:=S1.alloc (s':=⟨h₁,gg,dr,tt,os⟩) (a:=dx) (o:=.ns [] []) Mk.newD g1 rfl rfl ⟨aM _,[],λ_=>none,hnsd.at λo e=>by rw [wR dx hne];exact e,rfl,.nil,λ_=>rfl⟩
 haveI Sx:=Sd.alloc (s':=⟨h',gg,dr,tt,os⟩) (a:=xa) (o:=.inst 0 H₁.length) no1 g2 rfl rfl ⟨dx,ob,by rw [<-S1.len];simp,hx,hcx,hdd,hncx⟩
 have E1:Ext as₁ hp (as₁++[dx]):=jO as₁ _ dx Mk.newD
 haveI K1:Kept as₁ X hp h₁:=g1.kept as₁ X
 haveI E2:Ext (as₁++[dx]) h₁ (as₁++[dx]++[xa]):=jO _ _ xa no1
 have E3:=E1.trans K1 E2
 have K3:=K1.trans E1 (g2.kept _ X:Kept (as₁++[dx]) X h₁ h')
 have hix:(as₁++[dx]++[xa])[H₁.length+1]? =some xa:=by rw [<-S1.len];simp
 have fr:∃l,FrOk c (A.under (.builtin "type.__call__" ⟨.ref (c.ccls 0)::[y],[]⟩)) X (as₁++[dx]++[xa]) h' l:=by
  refine cU ((R.fr.keep e1 k1).all) λl hl=>?_
  exact⟨l,hl.1,(hl.keep E3 K3).2⟩
 haveI ack:ACk (c.qf f) (A.under (.builtin "type.__call__" ⟨.ref (c.ccls 0)::[y],[]⟩)) n:=⟨λ_=>R.a.hh hq,by
  haveI:=R.a.hr
  refine(?_:A.depth+1+2*n+5<=recursionLimit)
  exact g9 this (by simp+arith only),by
  haveI:=R.a.hw
  refine(?_:A.units+1+10*n+300<cLine)
  exact g9 this (by simp+arith only)⟩
 haveI w2:aG c.P n f [.ref (H₁.length+1),v] (H₁++[.ns [] []]++[.inst 0 H₁.length]) (λv H''=>v=.none/\Q (.ref (H₁.length+1)) H'') XX:=by
  simp only [a7];exact q
 refine wpAny_mono (sc.run hfn ack (.no (R.a.hh hq)) fr Sx (.cons (.ref hix) (.cons (hv.keep K3 E3) .nil)) w2) (λr s' q=>?_) λ_ _ e=>(e.lift E3 K3).lift e1 k1
 obtain⟨z,H',as',e',S',k',hz,rfl,q⟩:=q
 refine⟨hz.inv,(Res.lift E3 K3 ⟨_,H',as',e',S',k',?_,q⟩).lift e1 k1⟩
 exact .ref (e'.old _ _ hix)
end
section
variable {c:Cx}{n:Nat}{T:Tb}
def uu(e:Option Expr)(k:List Char):Prop:=∃x kk p,e=some (.Constant (.str x) kk p)/\mY x=some k
theorem un(o:Option Expr):Is (zJ o) (uu o):=by
 induction o with
 |none=>exact trivial
 |some e=>exact(tU e).bind λs h=>Is.to λ_ h2=>h.elim λk h=>h.elim λp h=>h▸⟨s,k,p,rfl,h2⟩
theorem vW{pos:Pos}{env:Env}{A:Around}{X:List Addr}{ρ:Fm}{XX:XE}{ks:List (Option Expr)}{kcs:List (List Char)}(hk:A2 uu ks kcs):∀{es:List Expr} {xs:List Ex} {s:Shared} {as:bj} {H:AH} {Q:List V->AH->Prop},mE c n T es xs->ks.length=es.length->Rdy c T env A n s as X H ρ->
  fw c.P (aG c.P n) xs ρ H Q XX->wpAny c.M A (evalPairs (pairTrees ks es env pos)) (λps s'=>∃ys,Carries c.kd ps ((kcs.map toS).zip ys)/\kcs.length=ys.length/\ResL c as X s.heap Q ys s') (ERes c as X s.heap XX) s:=by
 induction hk with
 |nil=>
  intro es xs s as H Q h hl R w
  induction h with
  |nil=>exact pairTrees_nil_walk ⟨[],trivial,rfl,[],H,as,.refl ..,R.S,Kept.refl _ _ _,.nil,w⟩
  |cons _ _=>simp at hl
 |cons h₁ h₂ ih=>
  intro es xs s as H Q h hl R w
  induction h with
  |nil=>simp at hl
  |cons g₁ g₂=>
   refine iW h₁ ?_
   intro x kk p q_4 hk
   subst q_4
   obtain⟨h3,h4⟩:=jK hk
   simp only [c6]at w
   refine pairTrees_cons_walk (Constant_str ?_)
   haveI R1:Rdy c T env A n {s with toks:=s.toks+1} as X H ρ:=R.next (.refl ..) (Kept.refl _ _ _) (R.S.grow (.refl _) rfl rfl)
   refine wpAny_mono (g₁.1.run R1 w) (λy s₁ r=>?_) λ_ _ e=>e
   obtain⟨v,H₁,as₁,e1,S1,k1,hv,w1⟩:=r
   refine wpAny_mono (ih g₂ (by simpa using hl) (R1.next e1 k1 S1) w1) (λps s₂ r=>?_) λ_ _ e=>e.lift e1 k1
   refine eO r ?_
   intro ys hc hy p_4
   obtain⟨vs,H₂,as₂,e2,S2,k2,hvs,q⟩:=p_4
   refine⟨y::ys,⟨?_,rfl,hc⟩,by simp [hy],v::vs,H₂,as₂,e1.trans k1 e2,S2,k1.trans e1 k2,.cons (hv.keep k2 e2) hvs,q⟩
   rw [<-h3]
   exact mS _ _
theorem mF{gl:List (Str×Gl)}{s:Shared}{as:bj}{X:List Addr}{H:AH}(C:Cok c gl)(S:SR c as X H s):(s.heap.objs.size==sysModules)=false:=by
 refine iW C.g ?_
 intro o es ep e _
 haveI h2:=c5 (S.stays _ _ e)
 haveI h3:mainGlobals=3:=rfl
 haveI h1:sysModules=1:=rfl
 exact beq_eq_false_iff_ne.mpr λq=>by rw [q]at h2;exact absurd h2 (by decide)
theorem pf{kcs:List (List Char)}{vs:List V}{H:AH}{Q:QE}{mu:Bool}(q:gi (aU c.P mu (.mkdict kcs) vs H) Q):(kcs.length=vs.length/\kcs.length<=15/\kcs.Nodup)/\(if mu then Q (.ref H.length) (H++[.dict kcs vs])else Q (.dct kcs vs) H):=by
 refine mG (iF q) ?_
 intro r H' e
 haveI e':nQ kcs vs H=some (r,H'):=e
 unfold nQ at e'
 by_cases h:kcs.length=vs.length/\kcs.length<=15/\kcs.Nodup
 ·refine ⟨h,?_⟩
  have hp:prim c.P (.mkdict kcs) vs H=some (.dct kcs vs,H):=if_pos h
  induction mu with
  |false=>simp only [oy,hp]at q;exact q
  |true=>
   unfold aU at q
   rw [if_pos rfl,show(Prim.mkdict kcs).fresh=true from rfl,if_pos rfl,hp]at q
   exact q
 ·exact du ((if_neg h).symm.trans e')
theorem oo{a:Addr}{mu:Bool}{s₀:Shared}{s':Shared}{as as₂:bj}{X:List Addr}{H:AH}{Q:QE}{kcs:List (List Char)}{vs:List V}{ys:List Value}(ha:s₀.heap.get? a=none)(hx:a∉X)(ho:a∉as₂)(hsm:(a==sysModules)=false)(hb:c.base.get? a=none)
  (E:Ext as s₀.heap as₂)(K:Kept as X s₀.heap s'.heap)(S:SR c as₂ (a::X) H s')(hd:s'.heap.DictOf c.kd a ((kcs.map toS).zip ys))(hy:kcs.length=ys.length)(hv:VRs c as₂ (a::X) s'.heap vs ys)(hl:vs.length<=iu)
  (q:if mu then Q (.ref H.length) (H++[.dict kcs vs])else Q (.dct kcs vs) H):Res c as X s₀.heap Q (.ref a) s':=by
 induction mu with
 |false=>
  have q':Q (.dct kcs vs) H:=q
  exact⟨_,H,as₂,E,S.frames (λb _ _ hb q=>hb (.tail _ q)) λb hb=>S.xs b (.tail _ hb),K,.dct ho hx hsm hd hy (hv.frames λb _ _ hb q=>hb (.tail _ q)) hl,q'⟩
 |true=>
  have q':Q (.ref H.length) (H++[.dict kcs vs]):=q
  haveI hsub:∀b∈X,b∈a::X:=λb hb=>.tail _ hb
  exact⟨.ref H.length,H++[.dict kcs vs],as₂++[a],⟨λi z e=>da (E.old i z e),cM E.new (cW (.inr ha))⟩,S.adopt (o:=.dict kcs vs) (.head _) hb hsub hx ⟨hl,hsm,ys,hd,hy,hv.adopt (.head _) hsub⟩,K,.ref (by rw [<-S.len];exact cG),q'⟩
theorem mD{ks:List (Option Expr)}{es:List Expr}{pos:Pos}{mu:Bool}{env:Env}{A:Around}{s:Shared}{as:bj}{X:List Addr}{H:AH}{ρ:Fm}{Q:QE}{XX:XE}(C:Cok c T.gl)(hall:ks.all (·.isSome)=true)(hl:ks.length=es.length)(h0:ks≠[])(h15:ks.length<=15)(R:Rdy c T env A n s as X H ρ)
  (hp:∀{s₁:Shared} {X₁:List Addr},Rdy c T env A n s₁ as X₁ H ρ->wpAny c.M A (evalPairs (pairTrees ks es env pos)) (λps s'=>∃kcs ys,Carries c.kd ps ((kcs.map toS).zip ys)/\kcs.length=ys.length/\kcs.Nodup/\ResL c as X₁ s₁.heap (λvs H'=>vs.length<=15/\if mu then Q (.ref H'.length) (H'++[.dict kcs vs])else Q (.dct kcs vs) H') ys s') (ERes c as X₁ s₁.heap XX) s₁) :
  wpAny c.M A (eval (.Dict ks es pos) env) (Res c as X s.heap Q) (ERes c as X s.heap XX) s:=by
 have hX:∀b∈s.heap.objs.size::X,b∈X\/s.heap.get? b=none:=λb hb=>by
  refine eK (hb) (λe_=>?_) λh=>?_
  ·exact (e_)▸.inr (cu _)
  ·exact .inl h
 haveI hbase:c.base.get? s.heap.objs.size=none:=R.S.base_none (cu _)
 haveI S1:SR c as (s.heap.objs.size::X) H {s with heap:=s.heap.push {cls:=.type "dict",data:=.dict #[]}}:=R.S.opens (.push _ _) hX (λb hb=>by
  refine eK (hb) (λe_=>?_) λh=>?_
  ·subst e_;exact⟨_,aE _ rfl⟩
  ·obtain ⟨o,e⟩:=R.S.xs b h;exact⟨o,aQ _ e⟩) rfl rfl
 haveI g0:Grown s.heap (s.heap.push {cls:=.type "dict",data:=.dict #[]}):=.push _ _
 refine wpAny_Dict_walk (knd:=c.kd) hall hl h0 h15 ?_
 haveI R1:Rdy c T env A n _ as (s.heap.objs.size::X) H ρ:=⟨R.a,R.hx.opens g0 hX,S1,R.F.opens g0 (λb h=>.tail _ h) hX,R.K,R.len,R.fr.grow g0 λ_=>bM⟩
 refine wpAny_mono (hp R1) (λps s₂ r=>?_) λ_ _ e=>(e.lift (Ext.refl as s.heap) (g0.kept as _)).less (λ_ q=>.tail _ q) λb hb=>(s3 hb).elim (λq=>.inr (.inr (q▸cu _))) .inl
 clear hp S1 hX R1 hall hl h0 h15
 refine jS r ?_
 intro kcs ys hc hy hnd p_6
 obtain⟨vs,H₂,as₂,e2,S2,k2,hvs,hl,q⟩:=p_6
 refine⟨_,hc,DictOf.same (Heap.DictOf.new _) (λo e=>k2.one (fG R.S) e (dY R.S)),λh' hd sb=>?_⟩
 have hn:(((kcs.map toS).zip ys).map (·.1)).Nodup:=by
  rw [pX (by rw [ak,hy];exact aA _)]
  exact l9.map _ (λa b hab e=>hab (gO e)) hnd
 simp only [merged_nil_of_nodup _ hn]at hd
 clear hc hn hnd
 haveI b:But [s.heap.objs.size] s₂.heap h':=λq o hq e=>(sb.2 q (by exact wR (hq))).trans e
 refine oo (s':={s₂ with heap:=h',toks:=_}) (cu _) (fG R.S) (e2.out (aE _ rfl) (dY R.S)) (mF C R.S) hbase ((Ext.refl as s.heap).trans (g0.kept as X) e2:Ext as s.heap as₂) ((((g0.kept as _).trans (.refl ..) k2).less λb hb=>(s3 hb).elim (λq=>.inr (.inr (q▸cu _))) .inl:Kept as X s.heap s₂.heap).but b (by intro a ha;replace ha:=in1 ha;subst ha;exact .inr (cu _)))
  (S2.but (s':={s₂ with heap:=h',toks:=_}) b (by simpa using hbase) (λ_ q=>q) (λa _ hz=>by replace hz:=in1 hz;subst hz;obtain⟨o,_,_,e,_⟩:=hd;exact⟨o,e⟩) rfl rfl) hd hy (hvs.keepX (b.vk as₂ (by exact cW (.head _))) (.refl ..)) (aa hl (by decide)) q
theorem xK{ks:List (Option Expr)}{kcs:List (List Char)}{es:List Expr}{xs:List Ex}{pos:Pos}{mu:Bool}(C:Cok c T.gl)(hk:A2 uu ks kcs)(h:mE c n T es xs)(hl:ks.length=es.length)(h15:ks.length<=15) :
  SE c n T (.Dict ks es pos) (.prim mu (.mkdict kcs) xs):=by
 refine⟨?_⟩
 intro env A s as X H ρ Q XX R w
 simp only [dA]at w
 by_cases h0:ks=[]
 ·subst h0
  cases hk
  induction h with
  |cons _ _=>cases hl
  |nil=>
   simp only [dL]at w
   obtain⟨hq,q⟩:=pf w
   have hX:∀b∈s.heap.objs.size::X,b∈X\/s.heap.get? b=none:=λb hb=>by
    refine eK (hb) (λe_=>?_) λh=>?_
    ·exact (e_)▸.inr (cu _)
    ·exact .inl h
   haveI S1:SR c as (s.heap.objs.size::X) H {s with heap:=s.heap.push {cls:=.type "dict",data:=.dict #[]}}:=R.S.opens (.push _ _) hX (λb hb=>by
    refine eK (hb) (λe_=>?_) λh=>?_
    ·subst e_;exact⟨_,aE _ rfl⟩
    ·obtain ⟨o,e⟩:=R.S.xs b h;exact⟨o,aQ _ e⟩) rfl rfl
   exact wpAny_Dict_empty (oo (ys:=[]) (cu _) (fG R.S) (dY R.S) (mF C R.S) (R.S.base_none (cu _)) (.refl ..) (Grown.kept (.push _ _) as X) S1 (Heap.DictOf.new _) rfl .nil (aM _) q)
 ·haveI hall:ks.all (·.isSome)=true:=by
   clear h0 h15 hl w
   induction hk with
   |nil=>rfl
   |cons a _ ih=>obtain⟨_,_,_,rfl,_⟩:=a;exact ih
  refine mD (mu:=mu) C hall hl h0 h15 R λR1=>wpAny_mono (vW hk h hl R1 w) (λps s₂ r=>?_) λ_ _ e=>e
  refine eO r ?_
  intro ys hc hy p_4
  obtain⟨vs,H₂,as₂,e2,S2,k2,hvs,q⟩:=p_4
  replace q:=pf q
  (haveI hq:=q.1;haveI q:=q.2)
  exact⟨kcs,ys,hc,hy,hq.2.2,vs,H₂,as₂,e2,S2,k2,hvs,hq.1▸hq.2.1,q⟩
theorem sL{k v:V}{H:AH}{Q:QE}{mu:Bool}(q:gi (aU c.P mu .mkdict1 [k,v] H) Q):∃kc,k=.str kc/\if mu then Q (.ref H.length) (H++[.dict [kc] [v]])else Q (.dct [kc] [v]) H:=by
 refine mG (iF q) ?_
 intro r H' e
 refine ea1_2 (dc (e:ba _ k.txt=_)) ?_
 intro kc h1 _
 replace h1:=V.txt_is h1
 subst h1
 refine⟨kc,rfl,?_⟩
 induction mu with
 |false=>exact q
 |true=>exact q
theorem vH{ke ve:Expr}{a b:Ex}{pos:Pos}{mu:Bool}(C:Cok c T.gl)(hk:SE c n T ke a)(hv:SE c n T ve b):SE c n T (.Dict [some ke] [ve] pos) (.prim mu .mkdict1 [a,b]):=by
 refine⟨?_⟩
 intro env A s as X H ρ Q XX R w
 refine mD (mu:=mu) C rfl rfl (λh=>nomatch h) (show 1<=15 by decide) R λR1=>pairTrees_cons_walk (wpAny_mono (hk.run R1 w) (λy s₁ r=>?_) λ_ _ e=>e)
 obtain⟨kv,H₁,as₁,e1,S1,k1,hkv,w1⟩:=r
 refine wpAny_mono (hv.run (R1.next e1 k1 S1) w1) (λz s₂ r=>pairTrees_nil_walk ?_) λ_ _ e=>e.lift e1 k1
 obtain⟨v,H₂,as₂,e2,S2,k2,hvv,q⟩:=r
 replace q:=sL q
 refine ea1_2 q ?_
 intro kc q_2 q1
 subst q_2
 cases hkv.inv
 exact⟨[kc],[z],⟨mS _ _,rfl,trivial⟩,rfl,List.pairwise_singleton _ _,[v],H₂,as₂,e1.trans k1 e2,S2,k1.trans e1 k2,.cons hvv .nil,(show 1<=15 by decide),q1⟩
end
section
variable {c:Cx}{n:Nat}{T:Tb}
structure SO(c:Cx)(n:Nat)(T:Tb)(o:Option Expr)(ex:Ex):Prop where
 run:∀{env:Env} {A:Around} {s:Shared} {as:bj} {X:List Addr} {H:AH} {ρ:Fm} {Q:QE} {XX:XE},
 Rdy c T env A n s as X H ρ->cH c.P (aG c.P n) ex ρ H Q XX->wpAny c.M A (evalPart o env) (Res c as X s.heap Q) (ERes c as X s.heap XX) s
theorem vY{r:Expr->Option Ex}(ih:∀e,Is (r e) (SE c n T e))(o:Option Expr):Is (By r o) (SO c n T o):=by
 induction o with
 |none=>exact⟨λR w=>wpAny_pure (Res.now (tk:=_) R.S .none w)⟩
 |some e=>exact(ih e).imp λ_ h=>⟨λR w=>h.run R w⟩
theorem gF(n:Nat)(i:Int):((jM n i:Nat):Int)=max 0 (min (if i<0 then i+n else i) n):=by
 unfold jM
 by_cases h:i<0
 ·rw [if_pos h,if_pos h]
  by_cases h2:i+n<0
  ·rw [if_pos h2];exact(Int.max_eq_left (aV (Int.min_le_left _ _) (dj h2))).symm
  ·rw [if_neg h2,j3 (lK (dj h) (by simp+arith only)),jp (cg.mp h2),bt (cg.mp h2)]
 ·rw [if_neg h,if_neg h]
  by_cases h2:i<n
  ·rw [if_pos h2,j3 (dj h2),jp (cg.mp h),bt (cg.mp h)]
  ·rw [if_neg h2,GR (cg.mp h2),jp (bH n)]
theorem xS(lo hi:Option Int)(n:Nat):Builtin.Str.strSliceIndices lo hi 1 n=(bo (j1 n hi-i0 n lo)).map (i0 n lo+·):=by
 rw [<-sliceRange_one]
 haveI e1:∀a b a' b':Int,a=a'->b=b'->sliceRange a b 1=sliceRange a' b' 1:=λ_ _ _ _ h h'=>by rw [h,h']
 refine e1 _ _ _ _ ?_ ?_
 ·induction lo with
  |none=>rfl
  |some i=>exact(gF n i).symm
 ·induction hi with
  |none=>rfl
  |some i=>exact(gF n i).symm
theorem jd{α:Type}(xs:List α)(a b:Nat):(xs.drop a).take (b-a)=bq xs a b:=by
 unfold bq
 simp only [List.drop_take]
theorem uF(n:Nat)(o:Option Int):j1 n o<=n:=by
 induction o with
 |none=>exact aA _
 |some i=>exact aX.mp (aV (gX (gF n i)) (Int.max_le.mpr ⟨bH n,Int.min_le_right _ _⟩))
set_option tactic.hygienic true in
theorem mZ(xs:List Char)(lo hi:Option Int):Txt.slice (toS xs) lo hi=toS (bq xs (i0 xs.length lo) (j1 xs.length hi)):=by
 unfold Txt.slice
 rw [c9,xS,pick_run]
 haveI e:(toS xs).cps.toList=xs.map Char.toNat:=by rfl
 haveI hh:=uF xs.length hi
 split
 ·rename_i h
  rw [BEq.rfl,eA,ak,cj,beq_iff_eq]at h
  by_cases h0:xs.length=0
  ·have:xs=[]:=fq.mp h0
   subst this
   simp [bq]
  ·have h1:i0 xs.length lo=0:=Nat.eq_zero_of_not_pos λhp=>dm (aJ (Nat.sub_lt (mx λz=>h0 (h.symm.trans ((congrArg (·-_) z).trans (Nat.zero_sub _)))) hp) hh) h
   haveI h2:j1 xs.length hi=xs.length:=(jX _).symm.trans ((congrArg (j1 xs.length hi-·) h1).symm.trans h)
   simp only [h1,h2,bq,pY];rfl
 ·simp only [e,jd]
  unfold toS
  simp [bq,List.map_take,List.map_drop]
theorem qB(items:Array Value)(lo hi:Option Int):(slicePick items lo hi none).toList=bq items.toList (i0 items.size lo) (j1 items.size hi):=by
 dsimp only [slicePick]
 have e1:(sliceBounds lo hi none items.size).1=((i0 items.size lo:Nat):Int):=by
  induction lo with
  |none=>rfl
  |some i=>exact(gF _ i).symm
 haveI e2:(sliceBounds lo hi none items.size).2.1=((j1 items.size hi:Nat):Int):=by
  induction hi with
  |none=>rfl
  |some i=>exact(gF _ i).symm
 simp only [e1,e2,show(sliceBounds lo hi none items.size).2.2=1 from rfl,sliceRange_one,pick_run,jd]
theorem VRs.slice{as:bj}{X:List Addr}{h:HP}{vs:List V}{cs:List Value}(r:VRs c as X h vs cs)(a b:Nat):VRs c as X h (bq vs a b) (bq cs a b):=(r.take b).drop a
theorem sw{as:bj}{X:List Addr}{h:HP}{v:V}{y:Value}{o:Option Int}(hv:VR c as X h v y)(e:jn v=some o):IsPart y o/\∃l:Option (Int×Tok),y=partValue l/\l.map (·.1)=o:=by
 refine Is.of (R:=λo=>IsPart y o/\∃l:Option (Int×Tok),y=partValue l/\l.map (·.1)=o) ?_ e
 clear e
 cases v with
 |none=>cases hv.inv;exact⟨.none,none,rfl,rfl⟩
 |int _=>cases hv.inv;exact⟨.int _ _,some (_,_),rfl,rfl⟩
 |_=>exact trivial
section
variable {A:Around}{E:Value->Shared->Prop}{s:Shared}{as:bj}{X:List Addr}{H H₁:AH}{Q:QE}{v r:V}{lo hi:Option Int}{y yl yu:Value}
abbrev iA(yl yu:Value):Obj:={cls:=.type "slice",data:=.fields #[yl,yu,.none]}
theorem Bn{t:List Char}(hsz:t.length<=au)(S:SR c as X H s)(hv:VR c as X s.heap (.str t) y)(pl:∃l:Option (Int×Tok),yl=partValue l/\l.map (·.1)=lo)(pu:∃l:Option (Int×Tok),yu=partValue l/\l.map (·.1)=hi)
  (q:Q (.str (bq t (i0 t.length lo) (j1 t.length hi))) H):ItemOn c.M A E y (.ref s.heap.objs.size) (Res c as X s.heap Q) {s with heap:=s.heap.push (iA yl yu)}:=by
 refine ea1_2 pl ?_
 intro l q_2 q_3
 subst q_2
 subst q_3
 refine ea1_2 pu ?_
 intro u q_2 q_3
 subst q_2
 subst q_3
 cases hv.inv with
 |str tk hb=>
  refine⟨"str",_,F.slot_str_getitem.lookup,typeIs_str _ _ _,wpAny_getItem_str_slice (l:=l) (u:=u) (st:=none) ⟨_,aE _ rfl,rfl,rfl⟩ rfl ?_⟩
  haveI hl:(bq t (i0 t.length (l.map (·.1))) (j1 t.length (u.map (·.1)))).length<=t.length:=by unfold bq;rw [dN,eV];exact aa (db _ _) (jq _ _)
  have fin:∀t' k,Res c as X s.heap Q (.str (Txt.slice (toS t) (l.map (·.1)) (u.map (·.1))) t') {s with heap:=s.heap.push (iA (partValue l) (partValue u)),toks:=k}:=λt' k=>by
   rw [mZ]
   exact Res.grow (s':={s with heap:=s.heap.push (iA (partValue l) (partValue u)),toks:=k}) S (.push _ _) rfl rfl (.str _ _ (by exact g9 hb (g9 hl (by simp+arith only)))) q
  refine post_val_or_str (c:=_) ⟨?_,λt' k=>fin t' k⟩
  show(Txt.slice (toS t) (l.map (·.1)) (u.map (·.1))).length<=sizeLine
  rw [mZ,c9]
  have:=b0
  exact g9 hsz (g9 hl (g9 this (by simp+arith only)))
theorem Bo{mu:Bool}{o:Obj}{items:Array Value}{vs:List V}(S:SR c as X H s)(hr:VRs c as X s.heap vs items.toList)(hb:vs.length<=iu)(q:gi (if mu then j7 (.lst vs) H else some (.lst vs,H)) Q):Res c as X s.heap Q (.ref (s.heap.push o).objs.size) {s with heap:=(s.heap.push o).push {cls:=.type "list",data:=.seq items}}:=by
 haveI g:Grown s.heap ((s.heap.push o).push {cls:=.type "list",data:=.seq items}):=(Grown.push _ _).trans (Grown.push _ _)
 haveI S1:SR c as X H {s with heap:=s.heap.push o}:=S.grow (.push _ _) rfl rfl
 haveI hn:s.heap.get? (s.heap.push o).objs.size=none:=by
  cases e:s.heap.get? (s.heap.push o).objs.size with
  |none=>rfl
  |some _=>exact absurd (c5 e) (by rw [Heap.size_push];exact fp.mpr (bJ _))
 haveI f:FreshL c as X s vs (.ref (s.heap.push o).objs.size) {s with heap:=(s.heap.push o).push {cls:=.type "list",data:=.seq items}}:=.mk _ items rfl hn (S.base_none hn) g rfl rfl ⟨_,aE _ rfl⟩ hr hb
 induction mu with
 |false=>exact f.frozen S q
 |true=>exact f.thawed S q
theorem Dj{α β:Type}{f g:α->Option β}{l:List α}(h:∀k∈l,f k=g k):l.filterMap f=l.filterMap g:=by
 induction l with
 |nil=>rfl
 |cons a l ih=>simp only [fb,fb,h a (.head _),ih λk hk=>h k (.tail _ hk)]
theorem uq{t sl:Addr}{items out:Array Value}{lo step:Int}{m:Nat}{R:Value->Shared->Prop}(ht:IsTup s.heap t items)(hs:s.TypeIs (.ref sl) "slice")
  (hap:∀(A:Around) (Q:Int×Int×Nat->Shared->Prop),Q (lo,step,m) s->wpAny c.M A (hV (.ref sl) (pure (items.size:Int))) Q E s)
  (ho:((bo m).filterMap λ(k:Nat)=>items[(lo+(k:Int)*step).toNat]?).toArray=out)(hz:out.size<=sizeLine)
  (h1:(lo==0&&step==1&&m==items.size)=true->R (.ref t) s)
  (h2:R (.ref s.heap.objs.size) {s with heap:=s.heap.push {cls:=.type "tuple",data:=.seq out}}):wpAny c.M A (getItem (.ref t) (.ref sl)) R E s:=by
 unfold getItem
 try with_reducible refine wpAny_holding ?_
 first|refine wpAny_bind (wpAny_pure ?_)|skip
 refine wpAny_bind (wpAny_sequenceKey ht.typeIs (by decide) ?_)
 refine wpAny_bind (wpAny_callSpecial?_slot (name:=Str.ofString "__getitem__") ht.typeIs slot_tuple_getitem
  (wpAny_call_entry slot_tuple_getitem ht.typeIs entry_tuple_getitem ?_ (args_tuple_getitem _ _)))
 show wpAny _ _ (Builtin.Tuple.tupleItemsOf (.ref t)>>= _) _ _ s
 refine wpAny_bind (tupleItemsOf_ ht ?_)
 refine wpAny_bind (wpAny_typeOf hs ?_)
 rw [if_pos (by decide)]
 refine wpAny_bind (hap _ _ ?_)
 show wpAny _ _ (if(lo==0&&step==1&&m==items.size)=true then _ else _) _ _ s
 by_cases hw:(lo==0&&step==1&&m==items.size)=true
 ·rw [if_pos hw]
  refine wpAny_bind (wpAny_bind (wpAny_typeOf ht.typeIs (wpAny_pure ?_)))
  show wpAny _ _ (if(Value.type "tuple"==Value.type "tuple")=true then _ else _) _ _ s
  rw [if_pos (by decide)]
  first
   |exact wpAny_bind (wpAny_rule (wpAny_pure ⟨_,rfl,wpAny_pure (h1 hw)⟩))
   |exact wpAny_bind (wpAny_rule (wpAny_bind (wpAny_pure (wpAny_pure ⟨_,rfl,wpAny_pure (h1 hw)⟩))))
 ·rw [if_neg hw,ho]
  first
   |exact wpAny_bind (m:=fg _) (wpAny_newObj_type (wpAny_pure ⟨_,rfl,wpAny_pure h2⟩) hz)
   |exact wpAny_bind (m:=fg _) (wpAny_newObj_type (wpAny_bind (wpAny_pure (wpAny_pure ⟨_,rfl,wpAny_pure h2⟩))) hz)
   |exact wpAny_bind (wpAny_bind (m:=fg _) (wpAny_newObj_type (wpAny_pure (wpAny_pure ⟨_,rfl,wpAny_pure h2⟩)) hz))
   |exact wpAny_bind (wpAny_bind (m:=fg _) (wpAny_newObj_type (wpAny_pure ⟨_,rfl,wpAny_pure h2⟩) hz))
theorem k6{A:Around}{v:Value}{o:Option Int}{R:Option Int->Shared->Prop}(p:IsPart v o)(h:R o s):wpAny c.M A (Builtin.Slice.slicePartIndex v) R E s:=by
 cases p with
 |none=>exact slicePart_none h
 |int i t=>exact slicePart_int h
theorem qY{A:Around}{sl:Addr}{va vb vc:Value}{a b st:Option Int}{len lo hi:Int}{m:Nat}{R:Int×Int×Nat->Shared->Prop}(hs:s.heap.IsSliceOf sl va vb vc)(pa:IsPart va a)(pb:IsPart vb b)(pc:IsPart vc st)(h0:(st.getD 1==0)=false)
  (ha:dB a b (st.getD 1) len=(lo,hi))(hm:cV lo hi (st.getD 1)=m)(h:R (lo,st.getD 1,m) s) :
  wpAny c.M A (hV (.ref sl) (pure len)) R E s:=by
 obtain⟨os,hos,hcs,hds⟩:=id hs
 unfold hV Builtin.Slice.sliceFields
 refine wpAny_bind (wpAny_bind (wpAny_field hos hds (x:=va) rfl (wpAny_bind (wpAny_field hos hds (x:=vb) rfl (wpAny_bind (wpAny_field hos hds (x:=vc) rfl (wpAny_pure ?_)))))))
 refine wpAny_bind (k6 pc ?_)
 show wpAny _ _ (if(st.getD 1==0)=true then _ else _) _ _ s
 rw [h0,if_neg (by decide)]
 refine wpAny_bind (k6 pa (wpAny_bind (k6 pb (wpAny_bind (wpAny_pure ?_)))))
 show wpAny _ _ (match dB a b (st.getD 1) len with|(lo,hi)=>pure (lo,st.getD 1,cV lo hi (st.getD 1))) _ _ s
 rw [ha]
 show wpAny _ _ (pure (lo,st.getD 1,cV lo hi (st.getD 1))) _ _ s
 rw [hm]
 exact wpAny_pure h
theorem pz(n:Nat)(lo hi:Option Int):dB lo hi 1 (n:Int)=(((i0 n lo:Nat):Int),((j1 n hi:Nat):Int)):=by
 unfold dB
 have c1:∀i:Int,(if i<0 then max (i+n) 0 else min i (n:Int))=((jM n i:Nat):Int):=λi=>by
  rw [gF]
  by_cases h:i<0
  ·rw [if_pos h,if_pos h,j3 (lK (dj h) (by simp+arith only)),Int.max_comm]
  ·rw [if_neg h,if_neg h];exact(jp (Int.le_min.mpr ⟨cg.mp h,bH n⟩)).symm
 cases lo<;>cases hi<;>simp only [show ¬((1:Int)<0) by decide,if_false,c1,i0,j1]<;>rfl
theorem pU(a b:Nat):cV (a:Int) (b:Int) 1=b-a:=by
 unfold cV
 simp only [show(1:Int)>0 by decide,if_true,za]
 by_cases h:(a:Int)<b
 ·rw [if_pos h,E6];exact Int.toNat_sub b a
 ·rw [if_neg h];exact(Nat.sub_eq_zero_of_le (aX.mp (cg.mp h))).symm
theorem Bi{t:List V}(hsz:t.length<=au)(S:SR c as X H s)(hv:VR c as X s.heap (.tup t) y)(pl:IsPart yl lo)(pu:IsPart yu hi)
  (q:Q (.tup (bq t (i0 t.length lo) (j1 t.length hi))) H):ItemOn c.M A E y (.ref s.heap.objs.size) (Res c as X s.heap Q) {s with heap:=s.heap.push (iA yl yu)}:=by
 cases hv.inv with
 |@tup addr items nn t1 t2 t3 rr t5=>
  have hl:=rr.len_arr
  have z1:=b0
  have ht:IsTup (s.heap.push (iA yl yu)) addr items:=⟨_,aQ _ t3,rfl,_,rfl⟩
  have S1:SR c as X H {s with heap:=s.heap.push (iA yl yu)}:=S.grow (.push _ _) rfl rfl
  have hh:=uF items.size hi
  have hpick:((bo (j1 items.size hi-i0 items.size lo)).filterMap λ(k:Nat)=>items[(((i0 items.size lo:Nat):Int)+(k:Int)*1).toNat]?)=bq items.toList (i0 items.size lo) (j1 items.size hi):=by
   rw [<-jd,<-pick_run,List.filterMap_map]
   refine congrArg (λf=>List.filterMap f _) (funext λk=>?_)
   show items[(((i0 items.size lo:Nat):Int)+(k:Int)*1).toNat]? =items[i0 items.size lo+k]?
   rw [show(((i0 items.size lo:Nat):Int)+(k:Int)*1).toNat=i0 items.size lo+k by rw [kN];rfl]
  have hlen:(bq items.toList (i0 items.size lo) (j1 items.size hi)).length<=items.size:=by unfold bq;rw [dN,eV,bk];exact aa (db _ _) (jq _ _)
  refine⟨"tuple",_,slot_tuple_getitem.lookup,ht.typeIs,uq (step:=1) (out:=(bq items.toList (i0 items.size lo) (j1 items.size hi)).toArray) ht ⟨_,aE _ rfl,rfl⟩ (λA' Q' h=>qY (st:=none) (my ..) pl pu .none rfl (pz _ _ _) (pU _ _) h) (by rw [hpick]) (by rw [dH];omega) (λhw=>?_) ?_⟩
  ·simp only [cc,beq_iff_eq]at hw
   obtain⟨⟨hw1,_⟩,hw2⟩:=hw
   have h1:i0 t.length lo=0:=hl▸fh hw1
   have h2:j1 t.length hi=t.length:=hl▸(jX _).symm.trans ((congrArg (j1 items.size hi-·) (fh hw1:i0 items.size lo=0)).symm.trans hw2)
   rw [h1,h2,bq,pY]at q
   exact Res.grow (s':={s with heap:=s.heap.push (iA yl yu)}) S (.push _ _) rfl rfl (.tup t1 t2 (aQ _ t3) (rr.grow (.push _ _)) t5) q
  ·have g:Grown s.heap ((s.heap.push (iA yl yu)).push {cls:=.type "tuple",data:=.seq (bq items.toList (i0 items.size lo) (j1 items.size hi)).toArray}):=(Grown.push _ _).trans (Grown.push _ _)
   have hr:VRs c as X s.heap (bq t (i0 t.length lo) (j1 t.length hi)) (bq items.toList (i0 items.size lo) (j1 items.size hi)):=by
    rw [hl];exact rr.slice _ _
   have hlen2:(bq t (i0 t.length lo) (j1 t.length hi)).length<=t.length:=by unfold bq;rw [dN,eV];exact aa (db _ _) (jq _ _)
   exact Res.grow (s':={s with heap:=_}) S g rfl rfl (.tup (dY S1) (fG S1) (aE _ rfl) (hr.grow g) (aa hlen2 t5)) q
theorem wj(items:Array Value):((bo items.size).filterMap λ(k:Nat)=>items[((((items.size:Nat):Int)-1)+(k:Int)*(-1)).toNat]?)=items.toList.reverse:=by
 have e:∀k<items.size,items[((((items.size:Nat):Int)-1)+(k:Int)*(-1)).toNat]? =items.toList.reverse[k]?:=λk hk=>by
  rw [show((((items.size:Nat):Int)-1)+(k:Int)*(-1)).toNat=items.size-1-k by rw [Int.mul_neg,kN];exact congrArg pV (wz hk),z4 (by simpa using hk),bk,cZ]
 have h2:(bo items.size).filterMap (λk=>items.toList.reverse[k]?)=items.toList.reverse:=by
  have:=pick_run items.toList.reverse.toArray 0 items.size
  simp only [eW,d5,tD]at this
  rw [List.take_of_length_le (by simp)]at this
  simpa using this
 rw [<-h2]
 exact Dj λk hk=>e k (cb.mp hk)
theorem wX{mu:Bool}(S:SR c as X H s)(hv:VR c as X s.heap v y)(pl:IsPart yl lo)(pu:IsPart yu hi)(e:((dM H v).bind λt=>if t.length<=au then some (V.lst (bq t (i0 t.length lo) (j1 t.length hi)))else none)=some r)
  (q:gi (if mu then j7 r H else some (r,H)) Q):ItemOn c.M A E y (.ref s.heap.objs.size) (Res c as X s.heap Q) {s with heap:=s.heap.push (iA yl yu)}:=by
 refine ea1_2 (bX e) λvs hvs e=>?_
 refine ce (dR e) λhz e=>?_
 (replace e:=ah e;subst e)
 obtain⟨a,items,rfl,hp,rr,hs,_⟩:=dF S hv hvs
 haveI hl:=rr.len_arr
 haveI hz2:=b0
 haveI hp':(s.heap.push (iA yl yu)).IsList a items:=let⟨o,e,r⟩:=hp.isList;⟨o,aQ _ e,r⟩
 refine⟨"list",_,slot_list_getitem.lookup,hp'.typeIs,wpAny_getItem_list_slice hp' (my ..) pl pu .none (by decide) ?_ (by exact g9 hz (g9 (aq hl) (g9 hz2 (by simp+arith only))))⟩
 exact Bo S ((qB ..).symm▸hl.symm▸rr.slice _ _) (aa (aa (aq dN) (aa (db _ _) (CB _ _))) hs) q
theorem yM{tk:Tok}{t:List V}(hz:t.length<=au)(S:SR c as X H s)(hv:VR c as X s.heap (.tup t) y)(q':Q (.tup t.reverse) H):ItemOn c.M A E y (.ref s.heap.objs.size) (Res c as X s.heap Q) {s with heap:=s.heap.push {cls:=.type "slice",data:=.fields #[.none,.none,.int (-1) tk]}}:=by
 cases hv.inv with
 |@tup addr items nn t1 t2 t3 rr t5=>
   have hl:=rr.len_arr
   have z1:=b0
   have ht:IsTup (s.heap.push {cls:=.type "slice",data:=.fields #[.none,.none,.int (-1) tk]}) addr items:=⟨_,aQ _ t3,rfl,_,rfl⟩
   have S3:SR c as X H {s with heap:=s.heap.push {cls:=.type "slice",data:=.fields #[.none,.none,.int (-1) tk]}}:=S.grow (.push _ _) rfl rfl
   have hadj:dB none none ((some (-1:Int)).getD 1) ((items.size:Nat):Int)=(((items.size:Nat):Int)-1,-1):=rfl
   have hpl:cV (((items.size:Nat):Int)-1) (-1) ((some (-1:Int)).getD 1)=items.size:=by
    show(if(-1:Int)>0 then _ else(if((items.size:Nat):Int)-1>-1 then(((items.size:Nat):Int)-1 - -1-1)/(- -1)+1 else 0)).toNat=_
    rw [if_neg (by decide),show(- -1:Int)=1 from rfl,za]
    by_cases h:((items.size:Nat):Int)-1>-1
    ·rw [if_pos h];exact congrArg pV (by simp+arith only:(((items.size:Nat):Int)-1 - -1-1)+1=items.size)
    ·rw [if_neg h];exact(Nat.le_zero.mp (aX.mp (show(items.size:Int)<=0 from lK (cg.mp h) (by simp+arith only)))).symm
   refine⟨"tuple",_,slot_tuple_getitem.lookup,ht.typeIs,uq (step:=-1) (out:=items.toList.reverse.toArray) ht ⟨_,aE _ rfl,rfl⟩ (λA' Q' h=>qY (st:=some (-1)) (my ..) .none .none (.int _ _) rfl hadj hpl h) (by rw [wj]) (by rw [dH,e9,bk];exact aa (aq hl) (aa hz z1)) (λhw=>?_) ?_⟩
   ·rw [cc,cc]at hw
    exact absurd hw.1.2 (by decide)
   ·have g:Grown s.heap ((s.heap.push {cls:=.type "slice",data:=.fields #[.none,.none,.int (-1) tk]}).push {cls:=.type "tuple",data:=.seq items.toList.reverse.toArray}):=(Grown.push _ _).trans (Grown.push _ _)
    have hr:=rr.reverse
    exact Res.grow (s':={s with heap:=_}) S g rfl rfl (.tup (dY S3) (fG S3) (aE _ rfl) (hr.grow g) (aa (aq e9) t5)) q'
end
theorem slM{mu:Bool}{v vl vu:V}{H:AH}{Q:QE}(q:gi (aU c.P mu .slice [v,vl,vu] H) Q):∃lo hi r,jn vl=some lo/\jn vu=some hi/\qR H v lo hi=some r/\gi (if mu then j7 r H else some (r,H)) Q:=by
 have k:∀{z:V×AH},qm [v,vl,vu] H=some z->gi (if mu then j7 z.1 z.2 else some z) Q->∃lo hi r,jn vl=some lo/\jn vu=some hi/\qR H v lo hi=some r/\gi (if mu then j7 r H else some (r,H)) Q:=λ{z} e q=>
  ea1_2 (bX e) λlo h1 e=>ea1_2 (bX e) λhi h2 e=>ea1_2 (dc e) λr h3 e=>⟨lo,hi,r,h1,h2,h3,by subst e;exact q⟩
 induction mu with
 |false=>exact dt (bV q) λr H' e q=>k e q
 |true=>exact dt (bV (show gi ((qm [v,vl,vu] H).bind λr=>j7 r.1 r.2) Q from q)) λr H' e q=>ea1_2 (bX e) λz e e2=>k e (by show gi (j7 z.1 z.2) Q;exact(e2).symm▸q)
theorem vL{ve:Expr}{q p:Pos}{lo hi:Option Expr}{a b d:Ex}{mu:Bool}(h₁:SE c n T ve a)(h₂:SO c n T lo b)(h₃:SO c n T hi d):SE c n T (.Subscript ve (.Slice lo hi none q) p) (.prim mu .slice [a,b,d]):=by
 refine⟨?_⟩
 intro env A s as X H ρ Q XX R w
 refine Subscript_ (wpAny_mono (h₁.run R w) (λy s₁ r=>?_) λ_ _ e=>e)
 obtain⟨v,H₁,as₁,e1,S1,k1,hv,w1⟩:=r
 haveI R1:=R.next e1 k1 S1
 refine wpAny_Slice (wpAny_mono (h₂.run R1 w1) (λyl s₂ r=>?_) λ_ _ e=>e.lift e1 k1)
 obtain⟨vl,H₂,as₂,e2,S2,k2,hvl,w2⟩:=r
 refine wpAny_mono (h₃.run (R1.next e2 k2 S2) w2) (λyu s₃ r=>?_) λ_ _ e=>(e.lift e2 k2).lift e1 k1
 obtain⟨vu,H₃,as₃,e3,S3,k3,hvu,w3⟩:=r
 simp only [dL]at w3
 refine wpAny_pure ?_
 have hv3:=(hv.keep k2 e2).keep k3 e3
 haveI hvl3:=hvl.keep k3 e3
 obtain⟨lo',hi',r,hlo,hhi,er,q'⟩:=slM w3
 clear w3 w2 w1 w hvl hv S2 S1 R1 R h₁ h₂ h₃
 refine ce (sw hvl3 hlo) λpl1 pl2=>?_
 obtain⟨pu1,pu2⟩:=sw hvu hhi
 haveI fin:ItemOn c.M A (ERes c as X s.heap XX) y (.ref s₃.heap.objs.size) (Res c as₃ X s₃.heap Q) {s₃ with heap:=s₃.heap.push (iA yl yu)}:=by
  clear k3 e3 k2 e2 k1 e1
  cases v with
  |str t=>
   obtain⟨hz,e'⟩:=dR (er:(if t.length<=au then some (V.str (bq t (i0 t.length lo') (j1 t.length hi')))else none)=some r)
   (replace e':=ah e';subst e')
   induction mu with
   |false=>exact Bn hz S3 hv3 pl2 pu2 q'
   |true=>exact q'.elim
  |tup t=>
   obtain⟨hz,e'⟩:=dR (er:(if t.length<=au then some (V.tup (bq t (i0 t.length lo') (j1 t.length hi')))else none)=some r)
   (replace e':=ah e';subst e')
   induction mu with
   |false=>exact Bi hz S3 hv3 pl1 pu1 q'
   |true=>exact q'.elim
  |_=>exact wX S3 hv3 pl1 pu1 er q'
 refine c8 fin ?_
 intro T' id f1 f2 f3
 exact tail_any f2 f1 (wpAny_mono f3 (λ_ _ z=>(λz=>((z.lift e3 k3).lift e2 k2).lift e1 k1) z) λ_ _ z=>z) rfl
theorem B2{ve e:Expr}{q p:Pos}{a b:Ex}(h₁:SE c n T ve a)(h₂:SE c n T e b):SE c n T (.Subscript ve (.Slice none none (some e) q) p) (.prim false .rev [a,b]):=by
 refine⟨?_⟩
 intro env A s as X H ρ Q XX R w
 refine Subscript_ (wpAny_mono (h₁.run R w) (λy s₁ r=>?_) λ_ _ e=>e)
 obtain⟨v,H₁,as₁,e1,S1,k1,hv,w1⟩:=r
 refine wpAny_Slice (wpAny_pure (wpAny_pure (wpAny_mono (h₂.run (R.next e1 k1 S1) w1) (λyt s₂ r=>?_) λ_ _ e=>e.lift e1 k1)))
 obtain⟨vt,H₂,as₂,e2,S2,k2,hvt,w2⟩:=r
 simp only [dL]at w2
 refine dt (bV w2) λr H' e q'=>?_
 refine ea1_2 (bX (e:vt.num.bind _=_)) λi hi e=>?_
 (refine ce (dR e) λe_0 e=>?_;subst e_0)
 haveI ei:=V.num_is hi
 subst ei
 cases hvt.inv with
 |int tk=>
  refine ea1_2 (bX e) λt ht e=>?_
  refine ce (dR e) λhz e=>?_
  (obtain⟨rfl,rfl⟩:=oz e;clear e)
  haveI et:=V.tpl_is ht
  subst et
  refine c8 (yM (A:=A) (E:=ERes c as X s.heap XX) (tk:=tk) hz S2 (hv.keep k2 e2) q') λT' id f1 f2 f3=>?_
  exact tail_any f2 f1 (wpAny_mono f3 (λ_ _ z=>(z.lift e2 k2).lift e1 k1) λ_ _ z=>z) rfl
end
structure EOk(c:Cx)(n:Nat)(T:Tb)(e:Expr)(ex:Ex):Prop where
 se:SE c n T e ex
 st:ST c n T e ex
 ns:NS e
 nset:nG e
section
variable {c:Cx}{n:Nat}{gl:List (Str×Gl)}
theorem iD{op:CmpOp}{e:Expr}(h:nG e):behindInMarks op e=false:=by
 cases e with
 |Set a k p=>exact absurd rfl (h a k p)
 |_=>rfl
theorem A2.imp{α β:Type}{R R':α->β->Prop}(hi:∀a b,R a b->R' a b){l:List α}{m:List β}(h:A2 R l m):A2 R' l m:=by
 induction h with
 |nil=>exact .nil
 |cons x _ ih=>exact .cons (hi _ _ x) ih
theorem ju{α β:Type}{f:α->Option β}{R:α->β->Prop}(hf:∀a,Is (f a) (R a))(l:List α):Is (gq f l) (A2 R l):=by
 induction l with
 |nil=>exact A2.nil
 |cons a l ih=>exact(hf a).bind λ_ h1=>ih.map λ_ h2=>A2.cons h1 h2
inductive IsiR:Gl->Prim->Prop
 |ty {tn:String} {t:Ty}:uT tn=some t->IsiR (.ty tn) (.isinst t)
 |x {g:Gl} {j:Option Nat}:(g=.ty "ValueError"/\j=none)\/(∃i,g=.exc i/\j=some i)->IsiR g (.isX j)
abbrev EI(c:Cx)(n:Nat)(T:Tb)(r:Expr->Option Ex):Prop:=∀e,Is (r e) (EOk c n T e)
section
variable {T:Tb}{r:Expr->Option Ex}(ih:EI c n T r)
include ih
theorem A9{p:Pos}{mu:Bool}(v sl:Expr):Is (Ea r mu v sl) (SE c n T (.Subscript v sl p)):=by
 have F:nz sl=false->Is ((r v).bind λa=>(r sl).map λb=>Ex.prim false .item [a,b]) (SE c n T (.Subscript v sl p)):=λhs=>(ih v).bind λ_ h1=>(ih sl).map λ_ h2=>yn hs h1.se h2.se
 cases sl with
 |Slice lo hi st q=>
  induction st with
  |none=>exact(ih v).bind λ_ h1=>(vY (λe=>(ih e).imp λ_ q=>q.se) lo).bind λ_ h2=>(vY (λe=>(ih e).imp λ_ q=>q.se) hi).map λ_ h3=>vL h1.se h2 h3
  |some e=>
   induction lo with
   |some _=>exact trivial
   |none=>
    induction hi with
    |some _=>exact trivial
    |none=>exact(ih v).bind λ_ h1=>(ih e).map λ_ h2=>B2 h1.se h2.se
 |_=>exact F rfl
theorem f9(es:List Expr):Is (gq r es) (mE c n T es):=ju (λe=>(ih e).imp λ_ q=>⟨q.se,q.ns⟩) es
omit ih in
theorem BN(g:Gl):Is (Es g) (IsiR g):=by
 induction g with
 |ty tn=>exact Is.ite2 (λe=>.x (.inl ⟨congrArg Gl.ty e,rfl⟩)) λ_=>Is.self.map λ_ h=>.ty h
 |exc j=>exact .x (.inr ⟨j,rfl,rfl⟩)
 |_=>exact trivial
theorem yR{g:Str}{p:Pos}{gv:Gl}{args:List Expr}{pos:Pos}(C:Cok c T.gl)(sc:SC c n)(hf:∀x f b,T.gl.lookup x=some (.fn f b)->∃fn,c.P.fns f=some fn)
  (h1:T.glob g=some gv):Is (cGl r T args pos gv) (SE c n T (.Call (.Name g p) args [] pos)):=by
 induction gv with
 |fn i b=>exact Is.nite λhb=>(f9 ih args).map λ_ h2=>xh C sc h1 hb (hf _ _ _ (d6 h1).2.1) h2
 |bi b=>
  refine Is.ite2 (λhb=>?_) λ_=>Is.self.bind λ_ h2=>Is.nite λhq=>(f9 ih args).map λ_ h3=>sZ C h1 h3 h2 hq
  subst hb
  rcases args with _|⟨x,_|⟨y,_|_⟩⟩
  ·exact trivial
  ·exact trivial
  ·refine (li y).bind λt hy=>Is.self.bind λg2 h2=>(BN g2).bind λpr hp=>(ih x).map λ_ h3=>?_
   obtain⟨_,rfl⟩:=hy
   cases hp with
   |ty h5=>exact tq C h1 h2 h5 h3.se h3.ns
   |x h5=>exact AF C h1 h2 h5 h3.se h3.ns
  ·exact trivial
 |ty t=>exact Is.self.bind λ_ h2=>Is.nite λhq=>(f9 ih args).map λ_ h3=>s7 C h1 h3 h2 hq
 |cls ms ats f=>
  refine Is.nite λhq=>?_
  rcases args with _|⟨x,_|_⟩
  ·exact trivial
  ·exact (ih x).map λ_ h3=>AJ C sc h1 h3.se h3.ns hq
  ·exact trivial
 |_=>exact trivial
inductive AttrR(c:Cx)(n:Nat)(T:Tb)(o:Expr):Str->Ex×List Char->Prop
 |mk {x:Str} {ms:List (Str×Nat)} {ats:List Str} {f:Nat} {a:Ex} {nm:List Char}:(x,Gl.cls ms ats f)∈T.gl->toS nm∈ats->gk o=true->EOk c n T o a->AttrR c n T o (toS nm) (a,nm)
theorem o0(o:Expr)(name:Str):Is (tW r T o name) (AttrR c n T o name):=
 Is.ite λhok=>(ur T.gl).bind λ_ h2=>Is.ite λhin=>Is.self.bind λnm h5=>(ih o).map λ_ h7=>by
  obtain⟨x,hx⟩:=h2
  have e:=(jK h5).1
  subst e
  exact .mk hx (aR.mp hin) hok h7
theorem yf{f:Expr}{args:List Expr}{kws:List Keyword}{pos:Pos}(C:Cok c T.gl)(sc:SC c n)(hf:∀x f b,T.gl.lookup x=some (.fn f b)->∃fn,c.P.fns f=some fn):Is (zx r T f args kws pos) (SE c n T (.Call f args kws pos)):=by
 cases kws with
 |cons _ _=>exact trivial
 |nil=>
  cases f with
  |Name g p=>exact Is.self.bind λ_ h1=>yR ih C sc hf h1
  |Attribute o name apos=>
   refine Is.ite λhc=>Is.ite2 (λ_=>?_) λ_=>?_
   ·exact Is.self.bind λ_ h1=>(ih o).bind λ_ h2=>(f9 ih args).map λ_ h3=>ot hc.1 hc.2 h2.se h3 h1 λq=>(aj.mp q).2
   ·refine Is.nite λhq=>Is.ite λhlt=>(ur T.gl).bind λ_ h2=>Is.self.bind λ_ h4=>Is.self.bind λ_ h6=>(ih o).bind λ_ h8=>(f9 ih args).map λ_ h10=>?_
    refine cU (h2) λx hx=>?_
    replace h6:=(jK h6).1
    subst h6
    exact yz (C.cl x _ _ _ hx) C sc h4 hc.1 hc.2 hlt h8.se h10 hq
  |_=>exact trivial
theorem Ak(l:List Expr):Is (EZ r l) λq=>(l=[]/\q=none)\/∃t x,l=[t]/\q=some x/\ST c n T t x:=by
 rcases l with _|⟨t,_|_⟩
 ·exact .inl ⟨rfl,rfl⟩
 ·exact Is.map (o:=(r t)) (ih t) λx h1=>.inr ⟨t,x,rfl,rfl,h1.st⟩
 ·exact trivial
theorem Aw{l:Expr}{ops:List CmpOp}{rs:List Expr}{p:Pos}:Is (DM r l ops rs) λex=>SE c n T (.Compare l ops rs p) ex/\ST c n T (.Compare l ops rs p) ex:=by
 rcases ops with _|⟨op,_|⟨o₂,_|_⟩⟩
 ·exact trivial
 ·rcases rs with _|⟨x,_|_⟩
  ·exact trivial
  ·exact (ih l).bind λ_ h1=>(ih x).map λ_ h2=>⟨Bb (iD h2.nset) h1.se h2.se,Bw (iD h2.nset) h1.se h2.se⟩
  ·exact trivial
 ·rcases rs with _|⟨m,_|⟨x,_|_⟩⟩
  ·exact trivial
  ·exact trivial
  ·exact (ih l).bind λ_ h1=>(ih m).bind λ_ h2=>(ih x).map λ_ h3=>⟨y0 (iD h3.nset) h1.se h2.se h3.se,xG (iD h3.nset) h1.se h2.se h3.se⟩
  ·exact trivial
 ·exact trivial
end
inductive CompR(c:Cx)(n:Nat)(T:Tb)(elt:Expr)(scope:Scope):List Comprehension->Ex->Prop
 |mk {x:Str} {px:Pos} {iter:Expr} {ifs:List Expr} {b i:Ex} {cond:Option Ex} {mu:Bool}:CompF T x scope->nG iter->SE c n T iter i->(T.q&& !qT i)=false->SE c n (ka T x scope) elt b->
   ((ifs=[]/\cond=none)\/∃t q,ifs=[t]/\cond=some q/\ST c n (ka T x scope) t q)->CompR c n T elt scope [⟨.Name x px,iter,ifs,0⟩] (.comp mu b i cond)
theorem sf{k:Nat}{T:Tb}{elt:Expr}{gens:List Comprehension}{scope:Scope}{pos:Pos}(ih:∀{T':Tb},T'.gl=T.gl->EI c n T' (cE k T')) :
  Is (zC (cE k) T elt gens scope pos) (CompR c n T elt scope gens):=by
 rcases gens with _|⟨⟨t,it,ifs,ia⟩,_|_⟩
 ·exact trivial
 ·refine (li t).bind λx h1=>Is.ite λhc=>(ih rfl it).bind λ_ h2=>Is.nite λhq=>(ih (T':=ka T x scope) rfl elt).bind λ_ h3=>(Ak (ih (T':=ka T x scope) rfl) ifs).map λ_ h4=>?_
  obtain⟨_,rfl⟩:=h1
  obtain⟨h,hok⟩:=hc
  subst (h)
  exact .mk (Et hok) h2.nset h2.se hq h3.se h4
 ·exact trivial
theorem dz{T:Tb}{e:Expr}{ex:Ex}(hp:∀env whole,isTrue e env whole=(do let v <-whole;standAt e.pos;holding [v] (truthy v)))(ns:NS e)(nset:nG e)(h:SE c n T e ex):EOk c n T e ex:=⟨h,uw hp h,ns,nset⟩
theorem oY(C:Cok c gl)(sc:SC c n)(hf:∀x f b,gl.lookup x=some (.fn f b)->∃fn,c.P.fns f=some fn)(k:Nat):∀{T:Tb},T.gl=gl->EI c n T (cE k T):=by
 induction k with
 |zero=>exact λ_ _=>trivial
 |succ k ih=>
  intro T hg e
  subst hg
  have iht:=ih rfl
  cases e with
  |Constant a b d=>exact Is.to λ_ h=>dz (λ_ _=>rfl) nofun nofun (vZ h)
  |Name a b=>exact Is.to λ_ h=>dz (λ_ _=>rfl) nofun nofun (xF C h)
  |BinOp l op r pos=>exact Is.self.bind λ_ h1=>(iht l).bind λ_ h2=>(iht r).map λ_ h3=>dz (λ_ _=>rfl) nofun nofun (uN h1 h2.se h3.se)
  |UnaryOp op x p=>
   refine(iht x).bind λ_ h1=>?_
   induction op with
   |Not=>exact⟨BP h1.se,BY h1.st,nofun,nofun⟩
   |USub=>exact dz (λ_ _=>rfl) nofun nofun (AV h1.se)
   |_=>exact trivial
  |BoolOp op vs p=>exact(ju iht vs).bind λ_ q=>Is.to λ_ h2=>⟨⟨λR w=>yE (q.imp λ_ _ x=>x.se) h2 R w⟩,⟨λhP R w=>yC (q.imp λ_ _ x=>x.st) h2 hP R w⟩,nofun,nofun⟩
  |Compare l ops rs p=>exact(Aw iht).imp λ_ h=>⟨h.1,h.2,nofun,nofun⟩
  |Call f args kws pos=>exact(yf iht C sc hf).imp λ_=>dz (λ_ _=>rfl) nofun nofun
  |Subscript v sl p=>exact(A9 iht v sl).imp λ_=>dz (λ_ _=>rfl) nofun nofun
  |List es pos=>exact(f9 iht es).map λ_ h1=>dz (λ_ _=>rfl) nofun nofun (xE h1)
  |Tuple es kk pos=>exact(f9 iht es).map λ_ h1=>dz (λ_ _=>rfl) nofun nofun (Cg h1)
  |Dict ks vs p=>
   refine Is.imp (R:=SE c n T (.Dict ks vs p)) (Is.ite2 (λ_=>Is.ite λhc=>(ju un ks).bind λ_ h1=>(f9 iht vs).map λ_ h2=>xK C h1 h2 hc.1 hc.2) λ_=>?_) λ_=>dz (λ_ _=>rfl) nofun nofun
   rcases ks with _|⟨_|ke,_|_⟩
   ·exact trivial
   ·exact trivial
   ·exact trivial
   ·rcases vs with _|⟨ve,_|_⟩
    ·exact trivial
    ·exact (iht ke).bind λ_ h1=>(iht ve).map λ_ h2=>vH C h1.se h2.se
    ·exact trivial
   ·exact trivial
  |ListComp elt gens scope pos=>exact(sf ih).imp λ_ h=>by induction h with|mk ok hns hi hq he hc=>exact dz (λ_ _=>rfl) nofun nofun (xn ok hns hi hq he hc)
  |Attribute o name pos=>exact(o0 iht o name).map λ_ h=>by induction h with|mk hx hat hok h1=>exact dz (λ_ _=>rfl) nofun nofun (yp (C.cl _ _ _ _ hx) hat hok h1.se)
  |_=>exact trivial
end
abbrev own(env:Env):List Addr:=env.locals::env.cells.map (·.2)
abbrev fS(env:Env):List Addr:=env.locals::own env
theorem FR.away'{c:Cx}{as:bj}{X:List Addr}{h:HP}{env:Env}{tab:List (Str×Nat)}{ρ:Fm}{a:Addr}(_F:FR c as X h env tab ρ)(ha:a∉own env):nS [a] env tab:=
 ⟨λq=>ha (by replace q:=in1 q;subst q;exact .head _),λx i h1 h2 b e q=>ha (by replace q:=in1 q;subst q;exact .tail _ (az.mpr ⟨(x,b),mem_of_lookup e,rfl⟩))⟩
def ResS(c:Cx)(as:bj)(X:List Addr)(h:HP)(T:Tb)(env:Env)(K:KS)(R:QE)(f:Flow)(s':Shared):Prop:=
 match f with
 |.next=>∃ρ' H' as',Ext as h as'/\SR c as' X H' s'/\KeptX as X (own env) h s'.heap/\FR c as' X s'.heap env T.tab ρ'/\ρ'.length=T.n/\K ρ' H'
 |.ret x=>∃v H' as',Ext as h as'/\SR c as' X H' s'/\KeptX as X (own env) h s'.heap/\VR c as' X s'.heap v x/\R v H'
 |_=>False
inductive EResS(c:Cx)(as:bj)(X:List Addr)(h:HP)(env:Env)(XX:XE)(x:Value)(s':Shared):Prop
 |mk (k:Nat) (H':AH) (as':bj) (e:Addr) (t:Option Addr) (ts:List Addr):x=.ref e->Ext as h as'->SR c as' (e::(ts++X)) H' s'->KeptX as X (own env) h s'.heap->ExcS s'.heap e (.ref (c.xcls k)) t->(∀T,t=some T->T∈ts)->(∀a∈e::ts,uI c as h as' X a)->(∃m,s'.heap.Ns env.locals m)->XX k H'->EResS c as X h env XX x s'
structure Own(A:Around)(X:List Addr)(env:Env):Prop where
 mem:∀b∈own env,b∈X
 fr:env.frame=some env.locals
 out:∀l,A.frames=some l->∀e∈l,∀L,e.frame=some L->L∉env.cells.map (·.2)
theorem Own.more{A:Around}{X:List Addr}{env:Env}{I:Addr}(o:Own A X env):Own A (I::X) env:=⟨λb hb=>.tail _ (o.mem b hb),o.fr,o.out⟩
theorem EnvFr.step{c:Cx}{A:Around}{X:List Addr}{as as':bj}{h h':HP}{env:Env}(f:EnvFr c A X as h env)(o:Own A X env)(E:Ext as h as')(k:KeptX as X (own env) h h')(hn:∃m,h'.Ns env.locals m)(lo:env.locals∉as'):EnvFr c A X as' h' env:=by
 obtain⟨env₀,outer,L,h1,h2,h3,h4⟩:=f
 refine⟨env₀,outer,L,h1,λa ha=>⟨(h2 a ha).kind,?_⟩,h3,h4⟩
 refine kD ((h2 a ha).there) λL' ob es n q1 q2 q3 q4 q5 q6=>?_
 by_cases hL:L'=env.locals
 ·exact hn.elim λm hn=>lJ hn λob' es' ep e1 e2 _=>⟨L',ob',es',ep,q1,q2,q3,hL▸lo,hL▸e1,e2⟩
 ·exact ea1_2 (k L' ob q5 q4 λq=>eK q hL λq=>o.out _ h1 a ha L' q1 q) λob' e1 s=>⟨L',ob',es,n,q1,q2,q3,E.out q5 q4,e1,s.elim (λs=>s▸q6) λs=>s.2.2.elim λsl s=>s▸q6⟩
theorem KeptX.trans{as as₁:bj}{X Y:List Addr}{h h₁ h₂:HP}(k:KeptX as X Y h h₁)(x:Ext as h as₁)(k':KeptX as₁ X Y h₁ h₂):KeptX as X Y h h₂:=λb o e hb hy=>by
 refine ea1_2 (k b o e hb hy) ?_
 intro o₁ e₁ s₁
 refine ea1_2 (k' b o₁ e₁ (x.out e hb) hy) ?_
 intro o₂ e₂ s₂
 exact⟨o₂,e₂,s₁.trans s₂⟩
theorem KeptX.fr{as:bj}{X Y:List Addr}{h h':HP}{a:Addr}(k:KeptX as X Y h h')(hY:∀b∈Y,∃o,h'.get? b=some o)(ha:h'.get? a=none):Fr as h a:=
 (Classical.em (a∈as)).imp id λhm=>optE (o:=h.get? a) id λo hq=>(Classical.em (a∈Y)).elim (λhy=>(hY a hy).elim λ_ e=>du (ha.symm.trans e)) λhy=>ea1_2 (k a o hq hm hy) λ_ e _=>du (ha.symm.trans e)
theorem Ext.transX{as as₁ as₂:bj}{X Y:List Addr}{h h₁:HP}(x:Ext as h as₁)(k:KeptX as X Y h h₁)(hY:∀b∈Y,∃o,h₁.get? b=some o)(y:Ext as₁ h₁ as₂):Ext as h as₂:=
 ⟨λi a e=>y.old i a (x.old i a e),λa ha=>(y.new a ha).elim (x.new a) (k.fr hY)⟩
theorem KeptX.less{as:bj}{X X' Y:List Addr}{h h':HP}(k:KeptX as X' Y h h')(hX:∀b,2<=X'.count b->2<=X.count b\/Fr as h b):KeptX as X Y h h':=λb o e hb hy=>by
 refine ea1_2 (k b o e hb hy) ?_
 intro o' e' s
 exact⟨o',e',s.mono λq=>(hX b q).elim id λr=>r.elim (λr=>absurd r hb) λr=>by replace e:=(r).symm.trans e;cases e⟩
theorem KeptX.more{as:bj}{X X' Y:List Addr}{h h':HP}(k:KeptX as X Y h h')(hX:∀b,X.count b<=X'.count b):KeptX as X' Y h h':=λb o e hb hy=>by
 refine ea1_2 (k b o e hb hy) ?_
 intro o' e' s
 exact⟨o',e',s.mono λq=>aa q (hX b)⟩
theorem KeptX.but{as:bj}{X Y Z:List Addr}{h₀ h h':HP}(k:KeptX as X Y h₀ h)(b:But Z h h')(hZ:∀a∈Z,Fr as h₀ a)  :KeptX as X Y h₀ h':=λx o e hx hy=>by
 refine ea1_2 (k x o e hx hy) ?_
 intro o' e' s
 exact⟨o',b x o' (λq=>by refine Or.elim (hZ _ q) (λr=>?_) λr=>?_;exact hx r;replace e:=(r).symm.trans e;exact du e) e',s⟩
theorem ResS.lift{c:Cx}{as as₁:bj}{X:List Addr}{h h₁:HP}{T:Tb}{env:Env}{K:KS}{R:QE}{f:Flow}{s':Shared}(e:Ext as h as₁)(k:KeptX as X (own env) h h₁)(hY:∀b∈own env,∃o,h₁.get? b=some o)(r:ResS c as₁ X h₁ T env K R f s'):ResS c as X h T env K R f s':=by
 induction f with
 |next=>
  refine gx r ?_
  intro ρ' H' as' e' S k' F hl q
  exact⟨ρ',H',as',e.transX k hY e',S,k.trans e k',F,hl,q⟩
 |ret x=>
  refine kF r ?_
  intro v H' as' e' S k' hv q
  exact⟨v,H',as',e.transX k hY e',S,k.trans e k',hv,q⟩
 |_=>exact r.elim
theorem EResS.lift{c:Cx}{as as₁:bj}{X:List Addr}{h h₁:HP}{env:Env}{XX:XE}{x:Value}{s':Shared}(e:Ext as h as₁)(k:KeptX as X (own env) h h₁)(hY:∀b∈own env,∃o,h₁.get? b=some o)(r:EResS c as₁ X h₁ env XX x s'):EResS c as X h env XX x s':=by
 obtain⟨n,H',as',a,t,ts,hx,e',S,k',ex,ht,ap,hn,q⟩:=r
 exact⟨n,H',as',a,t,ts,hx,e.transX k hY e',S,k.trans e k',ex,ht,λb hb=>⟨(ap b hb).1.elim (e.new b) (k.fr hY),(ap b hb).2⟩,hn,q⟩
theorem ERes.none{c:Cx}{as:bj}{X:List Addr}{h:HP}{x:Value}{s':Shared}(r:ERes c as X h (λ_ _=>False) x s'):False:=by
 obtain⟨_,_,_,_,_,_,_,_,_,_,_,_,_,q⟩:=r
 exact q
theorem EResS.none{c:Cx}{as:bj}{X:List Addr}{h:HP}{env:Env}{x:Value}{s':Shared}(r:EResS c as X h env (λ_ _=>False) x s'):False:=by
 obtain⟨_,_,_,_,_,_,_,_,_,_,_,_,_,_,q⟩:=r
 exact q
theorem ERes.toS{c:Cx}{as:bj}{X:List Addr}{h:HP}{tab:List (Str×Nat)}{env:Env}{XX:XE}{x:Value}{s':Shared}{ρ:Fm}(r:ERes c as X h XX x s')(F:FR c as X h env tab ρ):EResS c as X h env XX x s':=by
 haveI hn:=r.nsC (F.ns.imp λ_ h=>h.1) F.lout
 obtain⟨n,H',as',a,t,ts,hx,e',S,k',ex,ht,ap,q⟩:=r
 exact⟨n,H',as',a,t,ts,hx,e',S,k'.y _,ex,ht,ap,hn,q⟩
theorem ResS.mono{c:Cx}{as:bj}{X:List Addr}{h:HP}{T:Tb}{env:Env}{K K':KS}{R:QE}{f:Flow}{s':Shared}(r:ResS c as X h T env K R f s')(hK:∀ρ H,K ρ H->K' ρ H):ResS c as X h T env K' R f s':=by
 induction f with
 |next=>
  refine gx r ?_
  intro ρ' H' as' e' S k' F hl q
  exact⟨ρ',H',as',e',S,k',F,hl,hK _ _ q⟩
 |ret x=>exact r
 |_=>exact r.elim
structure SS(c:Cx)(n:Nat)(T:Tb)(st:Stmt)(sts:List St):Prop where
 run:∀{env:Env} {A:Around} {s:Shared} {as:bj} {X:List Addr} {H:AH} {ρ:Fm} {K:KS} {R:QE} {XX:XE},
  Rdy c T env A n s as X H ρ->Own A X env->bh c.P (aG c.P n) sts ρ H K R XX->wpAny c.M A (exec st env) (ResS c as X s.heap T env K R) (EResS c as X s.heap env XX) s
structure SB(c:Cx)(n:Nat)(T:Tb)(b:List Stmt)(sts:List St):Prop where
 run:∀{env:Env} {A:Around} {s:Shared} {as:bj} {X:List Addr} {H:AH} {ρ:Fm} {K:KS} {R:QE} {XX:XE},
  Rdy c T env A n s as X H ρ->Own A X env->bh c.P (aG c.P n) sts ρ H K R XX->wpAny c.M A (execs b env) (ResS c as X s.heap T env K R) (EResS c as X s.heap env XX) s
theorem kB{P:Prog}{C:Calls}{R:QE}{X:XE}{ys:List St}{K:KS}:∀{xs:List St} {ρ:Fm} {H:AH},bh P C (xs++ys) ρ H K R X=bh P C xs ρ H (λρ' H'=>bh P C ys ρ' H' K R X) R X
 |[],_,_=>rfl
 |s::xs,ρ,H=>by
  simp only [pZ,iP,iP]
  congr 1
  funext ρ' H'
  exact kB
section
variable {c:Cx}{n:Nat}{T:Tb}
theorem Rdy.step{env:Env}{A:Around}{s s₁:Shared}{as as₁:bj}{X:List Addr}{H H₁:AH}{ρ ρ₁:Fm}(R:Rdy c T env A n s as X H ρ)(hY:Own A X env)(e:Ext as s.heap as₁)(k:KeptX as X (own env) s.heap s₁.heap)(S:SR c as₁ X H₁ s₁)(F:FR c as₁ X s₁.heap env T.tab ρ₁)(hl:ρ₁.length=T.n):Rdy c T env A n s₁ as₁ X H₁ ρ₁:=⟨R.a,R.hx.keepX e (k.v hY.mem),S,F,R.K,hl,R.fr.step hY e k (F.ns.imp λ_ h=>h.1) F.lout⟩
theorem zi{b:List Stmt}{xss:List (List St)}(h:A2 (SS c n T) b xss):SB c n T b xss.flatten:=by
 induction h with
 |nil=>
  refine⟨?_⟩
  intro env A s as X H ρ K R XX r hY w
  exact wpAny_execs_nil ⟨ρ,H,as,.refl ..,r.S,λb o e _ _=>⟨o,e,.inl rfl⟩,r.F,r.len,w⟩
 |@cons st xs l m h₁ _ ih=>
  refine⟨?_⟩
  intro env A s as X H ρ K R XX r hY w
  simp only [Ft,kB]at w
  refine wpAny_execs_cons (wpAny_mono (h₁.run r hY w) (λf s₁ q=>?_) λ_ _ e=>e)
  induction f with
  |next=>
   refine gx q ?_
   intro ρ₁ H₁ as₁ e1 S1 k1 F1 hl1 w1
   exact wpAny_mono (ih.run (r.step hY e1 k1 S1 F1 hl1) hY w1) (λf s₂ q=>q.lift e1 k1 λb hb=>S1.xs b (hY.mem b hb)) λ_ _ e=>e.lift e1 k1 λb hb=>S1.xs b (hY.mem b hb)
  |ret x=>exact q
  |_=>exact q.elim
theorem Res.toS{env:Env}{as:bj}{X:List Addr}{h:HP}{K:KS}{Q:QE}{x:Value}{s':Shared}(r:Res c as X h Q x s'):ResS c as X h T env K Q (.ret x) s':=by
 obtain⟨v,H',as',e,S,k,hv,q⟩:=r
 exact⟨v,H',as',e,S,k.y _,hv,q⟩
theorem BK{e:Expr}{ex:Ex}{pos:Pos}(h:SE c n T e ex):SS c n T (.Return (some e) pos) [.ret ex]:=by
 refine⟨?_⟩
 intro env A s as X H ρ K R XX r hY w
 simp only [iP,rz]at w
 exact wpAny_Return_some (wpAny_mono (h.run r w) (λ_ _ q=>q.toS) λ_ _ e=>e.toS r.F)
theorem xQ{pos:Pos}:SS c n T (.Return none pos) [.ret (.cst .none)]:=by
 refine⟨?_⟩
 intro env A s as X H ρ K R XX r hY w
 simp only [iP,rz,xX]at w
 exact wpAny_Return_none ⟨.none,H,as,.refl ..,r.S,λb o e _ _=>⟨o,e,.inl rfl⟩,.none,w⟩
theorem xZ{pos:Pos}:SS c n T (.Pass pos) [.pass]:=by
 refine⟨?_⟩
 intro env A s as X H ρ K R XX r hY w
 exact wpAny_Pass ⟨ρ,H,as,.refl ..,r.S,λb o e _ _=>⟨o,e,.inl rfl⟩,r.F,r.len,w⟩
structure S1(c:Cx)(n:Nat)(T:Tb)(st:Stmt)(x:St):Prop where
 run:∀{env:Env} {A:Around} {s:Shared} {as:bj} {X:List Addr} {H:AH} {ρ:Fm} {K:KS} {R:QE} {XX:XE},
  Rdy c T env A n s as X H ρ->Own A X env->qH c.P (aG c.P n) x ρ H K R XX->wpAny c.M A (exec st env) (ResS c as X s.heap T env K R) (EResS c as X s.heap env XX) s
theorem yN{e:Expr}{ex:Ex}{pos:Pos}(hc:im e=false)(h:SE c n T e ex):S1 c n T (.Expr e pos) (.expr ex):=by
 refine⟨?_⟩
 intro env A s as X H ρ K R XX r hY w
 simp only [wg]at w
 haveI hi:interactive env=false:=by dsimp only [interactive];rw [r.F.kind];rfl
 haveI hs:swapsWith e none pos.line env=pure false:=by cases e<;>first|rfl|cases hc
 rw [exec_Expr env e pos hi hs]
 refine wpAny_bind (wpAny_standAt (wpAny_bind (wpAny_mono (h.run r w) (λv s₁ q=>?_) λ_ _ e=>e.toS r.F)))
 obtain⟨v,H',as',e,S,k,hv,q⟩:=q
 exact wpAny_dropValue ⟨ρ,H',as',e,S,k.y _,r.F.keep k e,r.len,q⟩
theorem C6{t:Expr}{ex:Ex}{a b:List Stmt}{xs ys:List St}{pos:Pos}(h:ST c n T t ex)(ha:SB c n T a xs)(hb:SB c n T b ys):S1 c n T (.If t a b pos) (.ite ex xs ys):=by
 refine⟨?_⟩
 intro env A s as X H ρ K R XX r hY w
 simp only [yQ]at w
 refine wpAny_If (wpAny_mono (h.run (Q:=λt H'=>if t then bh c.P (aG c.P n) xs ρ H' K R XX else bh c.P (aG c.P n) ys ρ H' K R XX) (λ_ _ q=>q) r w) (λt s₁ q=>?_) λ_ _ e=>e.toS r.F)
 obtain⟨H',as',e,S,k,q⟩:=q
 haveI r':=r.next e k S
 induction t with
 |true=>
  simp only [if_true]at q ⊢
  exact wpAny_mono (ha.run r' hY q) (λ_ _ q=>q.lift e (k.y _) λb hb=>S.xs b (hY.mem b hb)) λ_ _ e'=>e'.lift e (k.y _) λb hb=>S.xs b (hY.mem b hb)
 |false=>
  simp only [hH,if_false]at q ⊢
  exact wpAny_mono (hb.run r' hY q) (λ_ _ q=>q.lift e (k.y _) λb hb=>S.xs b (hY.mem b hb)) λ_ _ e'=>e'.lift e (k.y _) λb hb=>S.xs b (hY.mem b hb)
set_option tactic.hygienic true in
theorem iQ{x:Str}{i:Nat}{env:Env}(K:KOk T env)(h:T.slot x=some i):T.tab.lookup x=some i/\(env.kindOf x=some .local\/env.kindOf x=some .cell)/\i<T.n:=by
 unfold Tb.slot at h
 split at h
 ·rename_i hk
  split at h
  ·rename_i j hj
   split at h
   ·cases h;exact⟨hj,.inl (K.loc x hk),by assumption⟩
   ·cases h
  ·cases h
 ·rename_i hk
  split at h
  ·rename_i j hj
   split at h
   ·cases h;exact⟨hj,.inr (K.cell x hk),by assumption⟩
   ·cases h
  ·cases h
 ·exact du h
theorem uz{x:Str}{i:Nat}{px pos:Pos}{e:Expr}{ex:Ex}(hi:T.slot x=some i)(h:SE c n T e ex){env:Env}{A:Around}{s:Shared}{as:bj}{X:List Addr}{H:AH}{ρ:Fm}{K:KS}{R:QE}{XX:XE}
  (r:Rdy c T env A n s as X H ρ)(hY:Own A X env)(w:qH c.P (aG c.P n) (.asg i ex) ρ H K R XX)(hs:swapsWith e (some (.Name x px)) pos.line env=pure false) :
  wpAny c.M A (exec (.Assign [.Name x px] e pos) env) (ResS c as X s.heap T env K R) (EResS c as X s.heap env XX) s:=by
 refine ea0_3 (iQ r.K hi) ?_
 intro h1 h2 h3
 simp only [rB]at w
 refine wpAny_Assign_Name (wpAny_mono (h.run r w) (λy s₁ q=>?_) λ_ _ e=>e.toS r.F) hs
 obtain⟨v,H₁,as₁,e1,S1,k1,hv,hl,q⟩:=q
 refine iJ S1 (r.F.keep k1 e1) h1 h2 hl hv λs₂ st=>?_
 obtain⟨S2,k2,F2⟩:=st
 exact ResS.lift e1 (k1.y _) (λb hb=>S1.xs b (hY.mem b hb)) ⟨_,H₁,as₁,.refl ..,S2,k2,F2,by exact(aC).symm▸r.len,q⟩
end
section
variable {c:Cx}{n:Nat}{T:Tb}
theorem vN{x m:Str}{k kk:Nat}{np mp cpos pos:Pos}(C:Cok c T.gl)(hq:T.q=false)(hg:T.glob x=some (.exc k)):S1 c n T (.Raise (some (.Call (.Name x np) [.Constant (.str m) kk mp] [] cpos)) none pos) (.raise k):=by
 refine⟨?_⟩
 intro env A s as X H ρ K R XX r hY w
 simp only [s6]at w
 refine ce (C.gl x _ (d6 hg).2.1) λhm hk=>?_
 refine ea1_2 (C.x k hk) ?_
 intro bm xc _
 have xb:(bm).contains (.type "BaseException")=true:=by obtain⟨_,_,_,tl⟩:=xc;exact tl.has (by decide)
 obtain⟨hC,hN,hmN,tl⟩:=xc.keeps r.S.stays
 refine wpAny_Raise_call_subT F.excBase_ValueError xb (r.a.hh hq) rfl (hmN _ (.head _)) (fP C hg r (.inl hm) ⟨rfl,evalArgs_plain (spliced_cons (Constant_str (k:=kk) (pos:=mp) (spliced_nil ⟨rfl,(by decide:1<=sizeLine),hC,hN,tl.tail,λh' e me=>?_⟩)))⟩)
 refine eO me.there ?_
 intro t he ht _
 have g:Grown s.heap h':=me.keeps
 refine⟨k,H,as,e,none,[],rfl,.refl ..,r.S.opens (s':={s with heap:=h',toks:=_}) g (dC (.inr me.new) λ_ hb=>.inl hb:∀b∈e::([]++X),b∈X\/s.heap.get? b=none) (dC ⟨_,he⟩ λb hb=>(r.S.xs b hb).imp λ_ eo=>g _ _ eo) rfl rfl,(g.kept as X).y _,.fresh he rfl rfl rfl rfl rfl,nofun,cW ⟨.inr me.new,r.S.not_as me.new,r.S.not_x me.new,r.S.base_none me.new⟩,r.F.ns.imp λm h=>h.1.at λo e=>g _ o e,w⟩
theorem ExcS.obj{h:HP}{e:Addr}{cls:Value}{t:Option Addr}(x:ExcS h e cls t):∃oe vs,h.get? e=some oe/\oe.cls=cls/\oe.data=.fields vs/\vs[2]? =some .none:=by
 induction x with
 |fresh he hc hd hsz v1 v2=>exact⟨_,_,he,hc,hd,v2⟩
 |traced he hc hd hsz v1 v2=>exact⟨_,_,he,hc,hd,v2⟩
theorem ExcS.trc{h:HP}{e T:Addr}{cls:Value}(x:ExcS h e cls (some T)):∃o,h.get? T=some o:=by
 cases x with|traced he hc hd hsz v1 v2 hTe hT=>exact⟨_,hT⟩
theorem yO{c:Cx}{X:List Addr}{as:bj}{h:HP}{l:List Env}{a:Addr}{o o':Obj}(h2:∀ev∈l,FrE c X as h ev)(ho:h.get? a=some o)(q:o'=o\/a∈l.filterMap (·.frame)/\∃sl,o'={o with slots:=sl}):SameO X a o o':=
 q.imp id λq=>ea1_2 (mq.mp q.1) λev he hf=>kD ((h2 ev he).there) λL' ob es m q1 _ q3 _ q5 q6=>by
  cases q1.symm.trans hf
  cases q5.symm.trans ho
  exact⟨q3,⟨es,m,q6⟩,q.2⟩
theorem nU{env₀:Env}{outer:List Env}{Y:List Addr}{s₀ s:Shared}{as as':bj}{X:List Addr}{H':AH}{e:Addr}{ts S:List Addr}{h':HP}{tk:Nat}
  (S':SR c as' (e::(ts++X)) H' s)(k':KeptX as X Y s₀.heap s.heap)(h2:∀ev∈env₀::outer,FrE c X as' s.heap ev)(ap:∀a∈e::ts,uI c as s₀.heap as' X a)
  (tc:Touch S ((env₀::outer).filterMap (·.frame)) s.heap h')(hS:∀a∈S,a∈e::ts\/s.heap.get? a=none) :
  SR c as' X H' {s with heap:=h',toks:=tk}/\KeptX as X Y s₀.heap h':=by
 have out:∀a o,s.heap.get? a=some o->a∉e::ts->∃o',h'.get? a=some o'/\(o'=o\/a∈(env₀::outer).filterMap (·.frame)/\∃sl,o'={o with slots:=sl}):=λa o ho ha=>tc.out ho λq=>(hS a q).elim ha λr=>du (r.symm.trans ho)
 have inX:∀a,a∈X->a∈e::(ts++X):=λa q=>.tail _ (aB _ q)
 refine⟨S'.but (s':={s with heap:=h',toks:=tk}) (Z:=(e::ts)++(env₀::outer).filterMap (·.frame)) (λa o ha ho=>?_) (cM (λa ha=>⟨aP X ha,(ap a ha).2.2.2⟩) λa ha=>⟨inX a (FrE.mem h2 ha).1,(FrE.mem h2 ha).2⟩) inX (λa ha _=>(S'.xs a (inX a ha)).elim λo eo=>(tc a o eo).imp λ_ q=>q.1) rfl rfl,λa o eo ha hy=>?_⟩
 ·exact ea1_2 (out a o ho λq=>ha (aP _ q)) λo' e1 q=>q.elim (λq=>q▸e1) λq=>absurd (aB _ q.1) ha
 ·exact ea1_2 (k' a o eo ha hy) λo₁ e₁ s₁=>(out a o₁ e₁ λq=>(ap a q).1.elim ha λr=>du (r.symm.trans eo)).imp λo₂ q=>⟨q.1,s₁.trans (yO h2 e₁ q.2)⟩
theorem B7{x:Str}{j kk:Nat}{xp hp p p' pos:Pos}{b:List Stmt}{bs:List St}(C:Cok c T.gl)(hg:T.glob x=some (.exc j))(hb:SB c n T b bs) :
  S1 c n T (.Try b [.ExceptHandler (some (.Name x xp)) none [.Return (some (.Constant .none kk p)) p'] hp] [] [] pos) (.try_ bs j):=by
 refine⟨?_⟩
 intro env A s as X H ρ K R XX r hY w
 refine wpAny_Try_except (wpAny_mono (hb.run r hY w) (λf s₁ q=>?_) λy s₁ q=>?_)
 ·induction f with
  |next=>exact wpAny_execs_nil q
  |_=>exact q
 obtain⟨k,H',as',e,t,ts,rfl,e',S',k',ex,ht,ap,hn,hsub,w'⟩:=q
 obtain⟨env₀,outer,L,h1,h2,h3,h4⟩:=r.fr.step hY e' k' hn (λq=>(bW q).elim λi hi=>(S'.objs i _ hi).2.1 (.tail _ (aB _ (hY.mem _ (.head _)))))
 refine lE h1 (FrOk.fun h2) h3 h4 ex λh₂ T₂ ex₂ hT tc₂=>?_
 have hS:∀a∈T₂::e::t.toList,a∈e::ts\/s₁.heap.get? a=none:=dC (hT.imp (λh=>.tail _ (ht _ h)) id) (dC (.inl (.head _)) λa ha=>.inl (.tail _ (ht a (eG.mp ha))))
 have fly:∀{h h':HP},Touch (T₂::e::t.toList) ((env₀::outer).filterMap (·.frame)) s₁.heap h->ExcS h' e (.ref (c.xcls k)) (some T₂)->(∀b,b≠T₂->h'.get? b=h.get? b)->Touch (T₂::e::t.toList) ((env₀::outer).filterMap (·.frame)) s₁.heap h':=λ{h h'} tc ex' hk=>tc.trans λb o eb=>by
  by_cases hb:b=T₂
  ·exact ex'.trc.imp λo e=>⟨hb▸e,.inl (hb▸.head _)⟩
  ·exact ⟨o,(hk b hb).trans eb,.inr (.inl rfl)⟩
 refine fQ ex₂ λh₃ ex₃ hk₃=>?_
 have tc₃:=fly (tc₂.mono λb q=>.tail _ q) ex₃ hk₃
 have st:c.base.StaysIn h₃:=(nU (tk:=0) S' k' h2 ap tc₃ hS).1.stays
 refine ea1_2 (C.x k (aj.mp hsub).1) λbm xk xs=>ea1_2 (C.x j (C.gl x _ (d6 hg).2.1).2) λbm' xj _=>?_
 refine wpAny_handleBy_cons (codeAny_handlers_test (nt C hg r.F.kind r.F.glob r.F.bi r.K st (.inl (C.gl x _ (d6 hg).2.1).1) ?_)) nofun
 refine c8 ex₃.obj λoe _ he hcl _=>rj (xk.keeps st) (xj.keeps st) he hcl ((xs x j (d6 hg).2.1).trans (aj.mp hsub).2) ?_
 refine codeAny_handlers_suite (fQ ex₃ λh₄ ex₄ hk₄=>wpAny_execs_cons (wpAny_Return_some (Constant_none ?_)))
 haveI q:=nU (tk:=s₁.toks) S' k' h2 ap (fly tc₃ ex₄ hk₄) hS
 exact⟨.none,H',as',e',q.1,q.2,.none,w'⟩
theorem BO{x:Str}{env:Env}{A:Around}{E:Value->Shared->Prop}{s:Shared}{as:bj}{X:List Addr}{H:AH}{pos:Pos}{m:Str->Option Value}{R:Unit->Shared->Prop}(S:SR c as X H s)(kind:env.scope.kind=.function)(lx:env.locals∈X)(lb:c.base.get? env.locals=none)(hk:env.kindOf x=some .local)(hn:s.heap.Ns env.locals m)
  (r:∀h' v tk,h'.Ns env.locals (λy=>if y=x then v else m y)->SR c as X H {s with heap:=h',toks:=tk}->(∀b o,s.heap.get? b=some o->b≠env.locals->h'.get? b=some o)->R () {s with heap:=h',toks:=tk}):wpAny c.M A (do bindName env x .none;unbindBehindTheSuite env x pos) R E s:=by
 refine wpAny_nameGoes_keeps hk hn (by rw [kind];rfl) λh' v hn' sb=>r h' v _ hn' ?_ ?_
 ·have K0:∀b o,s.heap.get? b=some o->b≠env.locals->h'.get? b=some o:=λb o e hb=>(sb.2 b hb).trans e
  refine S.keepX (s':={s with heap:=h',toks:=s.toks+1}) (λb o e _ hb=>K0 b o e (λq=>hb (q▸lx))) (λb o e=>K0 b o (S.stays b o e) λq=>?_) (λb hb=>?_) rfl rfl
  ·subst q;rw [lb]at e;cases e
  ·by_cases q:b=env.locals
   ·rw [q];obtain⟨o,_,_,e,_⟩:=hn';exact⟨o,e⟩
   ·obtain ⟨o,e⟩:=S.xs b hb
    exact⟨o,K0 b o e q⟩
 ·exact λb o e hb=>(sb.2 b hb).trans e
theorem y5{x y:Str}{j i:Nat}{xp hp pos ep rp:Pos}{v hexp:Expr}{ev eh:Ex}(C:Cok c T.gl)(hg:T.glob x=some (.exc j))(hsl:T.slot y=some i)(hloc:T.names.lookup y=some .local)(hc:im v=false)(hv:SE c n T v ev)(hh:SE c n {T with q:=true} hexp eh) :
  S1 c n T (.Try [.Expr v ep] [.ExceptHandler (some (.Name x xp)) (some y) [.Return (some hexp) rp] hp] [] [] pos) (.tryE ev j i eh):=by
 refine⟨?_⟩
 intro env A s as X H ρ K R XX r hY w
 haveI hin:interactive env=false:=by dsimp only [interactive];rw [r.F.kind];rfl
 haveI hs:swapsWith v none ep.line env=pure false:=by cases v<;>first|rfl|cases hc
 refine wpAny_Try_except (wpAny_execs_cons ?_)
 rw [exec_Expr env v ep hin hs]
 refine wpAny_bind (wpAny_standAt (wpAny_bind (wpAny_mono (hv.run r w) (λz s₁ q=>?_) λz s₁ q=>?_)))
 ·obtain ⟨u,H',as',e',S,k,hu,q⟩:=q
  exact wpAny_dropValue (wpAny_execs_nil (wpAny_execs_nil ⟨ρ,H',as',e',S,k.y _,r.F.keep k e',r.len,q⟩))
 obtain⟨k,H',as',e,t,ts,rfl,e',S',k',ex,ht,ap,hsub,w'⟩:=q
 obtain⟨env₀,outer,L,h1,h2,h3,h4⟩:=r.fr.keep e' k'
 refine lE h1 (FrOk.fun h2) h3 h4 ex λh₂ T₂ ex₂ hT tc₂=>?_
 have hS:∀a∈T₂::e::t.toList,a∈e::ts\/s₁.heap.get? a=none:=dC (hT.imp (λh=>.tail _ (ht _ h)) id) (dC (.inl (.head _)) λa ha=>.inl (.tail _ (ht a (eG.mp ha))))
 have fly:∀{h h':HP},Touch (T₂::e::t.toList) ((env₀::outer).filterMap (·.frame)) s₁.heap h->ExcS h' e (.ref (c.xcls k)) (some T₂)->(∀b,b≠T₂->h'.get? b=h.get? b)->Touch (T₂::e::t.toList) ((env₀::outer).filterMap (·.frame)) s₁.heap h':=λ{h h'} tc ex' hk=>tc.trans λb o eb=>by
  by_cases hb:b=T₂
  ·exact ex'.trc.imp λo e=>⟨hb▸e,.inl (hb▸.head _)⟩
  ·exact ⟨o,(hk b hb).trans eb,.inr (.inl rfl)⟩
 refine fQ ex₂ λh₃ ex₃ hk₃=>?_
 have tc₃:=fly (tc₂.mono λb q=>.tail _ q) ex₃ hk₃
 have st:c.base.StaysIn h₃:=(nU (tk:=0) S' (k'.y []) h2 ap tc₃ hS).1.stays
 refine ea1_2 (C.x k (aj.mp hsub).1) λbm xk xs=>ea1_2 (C.x j (C.gl x _ (d6 hg).2.1).2) λbm' xj _=>?_
 refine wpAny_handleBy_cons (codeAny_handlers_test (nt C hg r.F.kind r.F.glob r.F.bi r.K st (.inl (C.gl x _ (d6 hg).2.1).1) ?_)) nofun
 refine c8 ex₃.obj λoe _ he hcl _=>rj (xk.keeps st) (xj.keeps st) he hcl ((xs x j (d6 hg).2.1).trans (aj.mp hsub).2) ?_
 refine ea0_3 (iQ r.K hsl) λhx1 hx2 hx3=>?_
 refine codeAny_handlers_suite_as (fQ ex₃ λh₄ ex₄ hk₄=>?_)
 have q:=nU (tk:=s₁.toks) S' (k'.y []) h2 ap (fly tc₃ ex₄ hk₄) hS
 have K4:Kept as X s.heap h₄:=λb o eb hb=>q.2 b o eb hb nofun
 have hx:VR c as' X h₄ (.exc k) (.ref e):=jS ex₄.obj λoe vs he hcl hd h2=>.exc (ap e (.head _)).2.1 (ap e (.head _)).2.2.1 he hcl hd h2
 have r₄:Rdy c {T with q:=true} env (A.mark (some (.ref e))) n {s₁ with heap:=h₄} as' X H' ρ:=⟨⟨⟨nofun,r.a.hd,r.a.hu⟩,r.a.hr,r.a.hw⟩,.at rfl hx,q.1,r.F.keep K4 e',⟨r.K.loc,r.K.cell,r.K.free,r.K.glob⟩,r.len,by obtain⟨env₀,outer,L,h1,h2,h3,h4⟩:=r.fr.keep e' K4;exact⟨env₀,outer,L,h1,h2,h3,h4⟩⟩
 have Y':Own (A.mark (some (.ref e))) X env:=⟨hY.mem,hY.fr,hY.out⟩
 refine iJ r₄.S r₄.F hx1 hx2 (by rw [r.len];exact hx3) hx λs₅ st=>?_
 obtain⟨S5,k5,F5⟩:=st
 have r₅:=r₄.step Y' (.refl ..) k5 S5 F5 (by rw [aC];exact r.len)
 refine wpAny_execs_cons (wpAny_Return_some (wpAny_mono (hh.run r₅ w') (λz s₆ q=>?_) λ_ _ e=>(e.toS F5).none.elim))
 obtain⟨u,H₆,as₆,e₆,S₆,k₆,hu,q⟩:=q
 refine ea1_2 (F5.keep k₆ e₆).ns λm hn _=>?_
 refine BO S₆ r.F.kind r.F.lx r.F.lb (r.K.loc y hloc) hn λh' v' tk hn' S7 K0=>?_
 exact ResS.lift (f:=.ret z) e' (K4.y _) (λb hb=>r₄.S.xs b (hY.mem b hb)) (ResS.lift (f:=.ret z) (.refl ..) k5 (λb hb=>S5.xs b (hY.mem b hb)) ⟨u,H₆,as₆,e₆,S7,(k₆.y _).trans e₆ λb o e _ hb=>⟨o,K0 b o e λq=>hb (q▸.head _),.inl rfl⟩,hu.keepX (λb o e _ hb=>K0 b o e (λq=>hb (q▸r.F.lx))) (.refl ..),q⟩)
end
section
variable {c:Cx}{n:Nat}{T:Tb}
theorem uY{t:Expr}{ex:Ex}{body:List Stmt}{xs:List St}{pos:Pos}(h:ST c n T t ex)(hb:SB c n T body xs):S1 c n T (.While t body [] pos) (.while_ ex xs):=by
 refine⟨?_⟩
 intro env A s as X H ρ K R XX r hY w
 simp only [ta]at w
 obtain⟨k,w⟩:=w
 refine wpAny_While ?_
 have hown:∀{s':Shared} {as':bj} {H':AH},SR c as' X H' s'->∀b∈own env,∃o,s'.heap.get? b=some o:=λS b hb=>S.xs b (hY.mem b hb)
 refine codeAny_whileLoop (λm s'=>∃as' H' ρ',Ext as s.heap as'/\SR c as' X H' s'/\KeptX as X (own env) s.heap s'.heap/\FR c as' X s'.heap env T.tab ρ'/\ρ'.length=T.n/\
  whileL (λρ' H' K₁ K₂=>cH c.P (aG c.P n) ex ρ' H' (λv H''=>l8 (eB v) λt=>if t then bh c.P (aG c.P n) xs ρ' H'' K₁ R (λ_ _=>False)else K₂ ρ' H'') (λ_ _=>False)) m ρ' H' K) ?_ k
  ⟨as,H,ρ,.refl ..,r.S,(Kept.refl _ _ _).y _,r.F,r.len,w⟩
 clear w
 intro m s' h0
 refine gx h0 ?_
 clear h0
 intro as' H' ρ' e S kx F hl w
 induction m with
 |zero=>exact w.elim
 |succ m=>
  haveI r':Rdy c T env A n s' as' X H' ρ':=r.step hY e kx S F hl
  refine wpAny_mono (h.run (λ_ _ q=>q) r' w) (λb s₂ q=>?_) λ_ _ e=>e.none.elim
  obtain⟨H₂,as₂,e2,S2,k2,q2⟩:=q
  haveI r2:=r'.next e2 k2 S2
  have ex2:Ext as s.heap as₂:=e.transX kx (hown S) e2
  have kx2:KeptX as X (own env) s.heap s₂.heap:=kx.trans e (k2.y _)
  induction b with
  |true=>
   rw [if_pos rfl]at q2 ⊢
   refine wpAny_mono (hb.run r2 hY q2) (λf s₃ q=>?_) λ_ _ e=>e.none.elim
   induction f with
   |next=>
    refine gx q ?_
    intro ρ₃ H₃ as₃ e₃ S₃ k₃ F₃ hl₃ q₃
    exact⟨m,bS m,as₃,H₃,ρ₃,ex2.transX kx2 (hown S2) e₃,S₃,kx2.trans ex2 k₃,F₃,hl₃,q₃⟩
   |ret xv=>
    refine kF q ?_
    intro v' H₃ as₃ e₃ S₃ k₃ hv₃ q₃
    exact⟨v',H₃,as₃,ex2.transX kx2 (hown S2) e₃,S₃,kx2.trans ex2 k₃,hv₃,q₃⟩
   |_=>exact q.elim
  |false=>
   rw [if_neg (by decide)]at q2 ⊢
   exact wpAny_execs_nil ⟨ρ',H₂,as₂,ex2,S2,kx2,r2.F,hl,q2⟩
theorem sX{kvs:List (Str×Value)}{k k':Str}{x y:Value}(h:k'≠k):stored ((k',x)::kvs) k y=(k',x)::stored kvs k y:=by
 unfold stored
 simp only [List.any_cons,h,decide_false,Bool.false_or,cL,if_false]
 split<;>rfl
theorem s4{kvs:List (Str×Value)}{k:Str}{x y:Value}(h:k∉kvs.map (·.1)):stored ((k,x)::kvs) k y=(k,y)::kvs:=by
 unfold stored
 simp only [List.any_cons,decide_true,Bool.true_or,if_true,cL]
 congr 1
 conv=>rhs;rw [<-List.map_id kvs]
 refine de λp hp=>?_
 haveI:p.1≠k:=λe=>h (e▸bu hp)
 simp [this]
theorem o8{k:List Char}{v:V}{y:Value}{h:HP}{as:bj}{X:List Addr}(hv:VR c as X h v y){ks:List (List Char)}:∀{vs:List V} {cs:List Value},ks.length=cs.length->(ks.map toS).Nodup->VRs c as X h vs cs->
  ∃cs',stored ((ks.map toS).zip cs) (toS k) y=((dE k v ks vs).1.map toS).zip cs'/\(dE k v ks vs).1.length=cs'.length/\VRs c as X h (dE k v ks vs).2 cs'/\cs'.length<=cs.length+1:=by
 induction ks with
 |nil=>
  intro vs cs hl _ r
  cases r with
  |nil=>exact⟨[y],rfl,rfl,.cons hv .nil,aA _⟩
  |cons _ _=>cases hl
 |cons k' ks ih=>
  intro vs cs hl hn r
  cases r with
  |nil=>cases hl
  |@cons w vs x cs hx r=>
   haveI hn':=bD.mp hn
   haveI hl':=dk hl
   clear hn hl
   by_cases hk:k=k'
   ·subst hk
    haveI ed:dE k v (k::ks) (w::vs)=(k::ks,v::vs):=if_pos rfl
    rw [ed]
    refine⟨y::cs,?_,congrArg tC hl',.cons hv r,bJ _⟩
    show stored ((toS k,x)::(ks.map toS).zip cs) (toS k) y=_
    refine s4 ?_
    rw [pX (by rw [ak,hl'];exact aA _)]
    exact hn'.1
   ·haveI ed:dE k v (k'::ks) (w::vs)=(k'::(dE k v ks vs).1,w::(dE k v ks vs).2):=if_neg hk
    rw [ed]
    refine dh (ih hl' hn'.2 r) ?_
    intro cs' e1 e2 e3 e4
    exact⟨x::cs',(sX (λe=>hk (gO e).symm)).trans (congrArg _ e1),congrArg tC e2,.cons hx e3,ax e4⟩
inductive SetI(x:V)(H H':AH):V->V->Prop
 |mk {r:Nat} {k:List Char} {ks:List (List Char)} {vs:List V}:H[r]? =some (.dict ks vs)->ks.length<=au->H'=H.set r (.dict (dE k x ks vs).1 (dE k x ks vs).2)->SetI x H H' (.ref r) (.str k)
theorem mh{o i x:V}{H H':AH}(e:dK o i x H=some H'):SetI x H H' o i:=by
 refine Is.of (R:=λH'=>SetI x H H' o i) ?_ e
 clear e
 cases o with
 |ref r=>
  cases i with
  |str k=>
   haveI F:∀{ob},ob=H[r]?->Is (Bq r k x H ob) λH'=>SetI x H H' (.ref r) (.str k):=λ{ob} e=>by
    induction ob with
    |none=>exact trivial
    |some ob=>
     induction ob with
     |dict ks vs=>exact Is.ite λh=>.mk e.symm h rfl
     |_=>exact trivial
   exact F rfl
  |_=>exact trivial
 |_=>exact trivial
theorem sW{A:Around}{E:Value->Shared->Prop}{s:Shared}{as:bj}{X:List Addr}{H H':AH}{o i x:V}{co ci cx:Value}{R:Unit->Shared->Prop}(S:SR c as X H s)(ho:VR c as X s.heap o co)(hi:VR c as X s.heap i ci)(hx:VR c as X s.heap x cx)(e:dK o i x H=some H')
  (hR:∀s',SR c as X H' s'->Kept as X s.heap s'.heap->R () s'):wpAny c.M A (setItem co ci cx) R E s:=by
 replace e:=mh e
 induction e with
 |@mk r k ks vs hob hz q_9=>
  subst q_9
  replace ho:=jk S ho hob
  obtain⟨a,ha,hb,hsm,cs,hd,hl,rr⟩:=ho
  cases hi
  haveI h1:=b0
  haveI h2:=di
  haveI hn:(ks.map toS).Nodup:=by
   refine gx hd ?_
   intro _ _ _ _ _ _ _ _ hn
   rw [pX (by simp [hl])]at hn
   exact hn
  refine wpAny_setItem_pairs (knd:=c.kd) (mS _ _) hd (λh' hd' sb=>?_) (by simp only [List.length_zip,ak];exact aa (Nat.min_le_left _ _) (aa hz h1))
  have hk:∀b o,s.heap.get? b=some o->b≠a->h'.get? b=some o:=λb o e hb=>(sb.2 b hb).trans e
  have K:=SR.kept1 (X:=X) ha hk
  refine dh (o8 (k:=k) (hx.keep K (.refl ..)) hl hn (rr.keep K (.refl ..))) ?_
  intro cs' e1 e2 e3 e4
  simp only [e1]at hd'
  haveI e5:=e3.length
  exact hR _ (S.upd (s':={s with heap:=h',toks:=_}) (o':=.dict _ _) ha hk rfl rfl ⟨aa (aq e5) (aa e4 (aa (ax (aa (aq hl.symm) hz)) (aa (bO (by decide:1<=5) au) h2))),hsm,cs',hd',e2,e3⟩) K
theorem x9{o i v:Expr}{eo ei ev:Ex}{p' pos:Pos}(h1:SE c n T v ev)(h2:SE c n T o eo)(h3:SE c n T i ei):S1 c n T (.Assign [.Subscript o i p'] v pos) (.setItem eo ei ev):=by
 refine⟨?_⟩
 intro env A s as X H ρ K R XX r hY w
 simp only [oh]at w
 refine wpAny_Assign_Subscript (wpAny_mono (h1.run r w) (λx s₁ q=>?_) λ_ _ e=>e.toS r.F) (by cases v<;>rfl)
 obtain⟨vx,H₁,as₁,e1,S1,k1,hvx,w1⟩:=q
 have r1:=r.next e1 k1 S1
 refine wpAny_mono (h2.run r1 w1) (λy s₂ q=>?_) λ_ _ e=>(e.lift e1 k1).toS r.F
 obtain⟨vo,H₂,as₂,e2,S2,k2,hvo,w2⟩:=q
 have r2:=r1.next e2 k2 S2
 refine wpAny_mono (h3.run r2 w2) (λz s₃ q=>?_) λ_ _ e=>((e.lift e2 k2).lift e1 k1).toS r.F
 obtain⟨vi,H₃,as₃,e3,S3,k3,hvi,w3⟩:=q
 haveI r3:=r2.next e3 k3 S3
 refine optE (o:=dK vo vi vx H₃) (λhs=>?_) (λH' hs=>?_)
 ·replace w3:=(hs)▸w3;exact w3.elim
 ·simp only [hs]at w3
  refine sW S3 (hvo.keep k3 e3) hvi ((hvx.keep k2 e2).keep k3 e3) hs λs' S' k'=>?_
  haveI E1:=e1.trans k1 e2
  haveI K1:=k1.trans e1 k2
  exact⟨ρ,H',as₃,E1.trans K1 e3,S',((K1.trans E1 k3).trans (E1.trans K1 e3) k').y _,r3.F.keep k' (.refl ..),r.len,w3⟩
theorem vS{M:Model}{A:Around}{E:Value->Shared->Prop}{s:Shared}{f g:Value->Sem Unit}{a b:Value}{Q:Unit->Shared->Prop}(h:wpAny M A (f a) (λ_ s₁=>wpAny M A (g b) Q E s₁) E s):wpAny M A (assignInOrder [f,g] [a,b]) Q E s:=
 assignInOrder_cons (wpAny_mono h (λ_ _ h₁=>assignInOrder_cons (wpAny_mono h₁ (λ_ _ h₂=>assignInOrder_nil h₂) λ_ _ e=>e)) λ_ _ e=>e)
structure Tgt(c:Cx)(T:Tb)(t:Expr)(tg:Nat ⊕ List Nat):Prop where
 run:∀{env:Env} {A:Around} {s:Shared} {as:bj} {X:List Addr} {H:AH} {ρ ρ':Fm} {u:V} {z:Value} {E:Value->Shared->Prop} {Q:Unit->Shared->Prop},KOk T env->ρ.length=T.n->(∀b∈own env,b∈X)->SR c as X H s->FR c as X s.heap env T.tab ρ->VR c as X s.heap u z->
  (u.tpl.isSome=true->A.handled=none)->eM ρ tg u=some ρ'->(∀s',StepF c as X H env T.tab s.heap ρ' s'->ρ'.length=T.n->Q () s')->wpAny c.M A (assign t env z) Q E s
theorem vm{x:Str}{i:Nat}{px:Pos}(hi:T.slot x=some i):Tgt c T (.Name x px) (.inl i) where
 run:=λ{env A s as X H ρ ρ' u z E Q} K hl _ S F hv _ e q=>by
  (replace e:=ah e;subst e)
  refine ea0_3 (iQ K hi) ?_
  intro h1 h2 h3
  exact wpAny_assign_Name (iJ S F h1 h2 (by simp only [hl];exact h3) hv λs' st=>q s' st (by exact(aC).trans (hl)))
inductive Pair2(c:Cx)(as:bj)(X:List Addr)(h:HP)(ρ ρ':Fm)(i j:Nat):V->Value->Prop
 |mk {a:Addr} {ob:Obj} {n:Nat} {u v:V} {y z:Value}:ρ'=(ρ.set i (some u)).set j (some v)->h.get? a=some {cls:=.type "tuple",data:=.seq #[y,z] n}->VR c as X h u y->VR c as X h v z->Pair2 c as X h ρ ρ' i j (.tup [u,v]) (.ref a)
theorem DO{as:bj}{X:List Addr}{h:HP}{ρ ρ':Fm}{i j:Nat}{u:V}{z:Value}(hv:VR c as X h u z)(e:eM ρ (.inr [i,j]) u=some ρ'):Pair2 c as X h ρ ρ' i j u z:=by
 cases u with
 |tup vs=>
  replace e:=b8 e
  obtain⟨hl,e⟩:=e
  match vs,hl with
  |[a,b],_=>
   cases hv.inv with
   |@tup addr items nn t1 t2 t3 rr t5=>
    obtain⟨items⟩:=items
    cases rr with
    |cons ha rr=>
     cases rr with
     |cons hb rr=>
      cases rr
      exact .mk (ob:=default) e.symm t3 ha hb
 |_=>exact du e
theorem oQ{x y:Str}{i j kk:Nat}{px py pt:Pos}(hi:T.slot x=some i)(hj:T.slot y=some j):Tgt c T (.Tuple [.Name x px,.Name y py] kk pt) (.inr [i,j]) where
 run:=λ{env A s as X H ρ ρ' u z E Q} K hl hY S F hv hh e q=>by
  cases DO hv e with
  |@mk a _ n u v y z e1 t3 ha hb=>
   subst e1
   refine ea0_3 (iQ K hi) ?_
   intro x1 x2 x3
   refine ea0_3 (iQ K hj) ?_
   intro y1 y2 y3
   clear e hv hi hj
   refine assign_Tuple_tuple (hh rfl) ⟨_,t3,rfl,_,rfl⟩ rfl rfl λh' eb=>?_
   have g:Grown s.heap h':=λb o e=>eb b o (λq=>by rw [q]at e;exact absurd (c5 e) (b6 _)) e
   clear eb t3
   refine vS (wpAny_assign_Name (iJ (S.grow (s':={s with heap:=h'}) g rfl rfl) (F.keep (g.kept as _) (.refl ..)) x1 x2 (by simp only [hl];exact x3) (ha.grow g) λs₂ st=>?_))
   obtain⟨S2,k2,F2⟩:=st
   refine wpAny_assign_Name (iJ S2 F2 y1 y2 (by simp only [aC,hl];exact y3) ((hb.grow g).keepX (KeptX.v (Y:=own env) k2 hY) (.refl ..):VR c as X s₂.heap v z) λs₃ st=>q s₃ ⟨st.1,?_,st.3⟩ (by simp only [aC,aC];exact hl))
   exact(((g.kept as _).y _).trans (.refl ..) k2).trans (.refl ..) st.2
theorem xB{x y:Str}{i j kk:Nat}{px py pt:Pos}{f:Expr}{args:List Expr}{kws:List Keyword}{p pos:Pos}{ex:Ex}(hi:T.slot x=some i)(hj:T.slot y=some j)(hq:T.q=false)(h:SE c n T (.Call f args kws p) ex) :
  S1 c n T (.Assign [.Tuple [.Name x px,.Name y py] kk pt] (.Call f args kws p) pos) (.asgTup [i,j] ex):=by
 refine⟨?_⟩
 intro env A s as X H ρ K R XX r hY w
 simp only [qz]at w
 refine Assign_Tuple (wpAny_mono (h.run r w) (λv s₁ q=>?_) λ_ _ e=>e.toS r.F)
 obtain⟨vv,H₁,as₁,e1,S1,k1,hv,w1⟩:=q
 haveI r1:=r.next e1 k1 S1
 refine optE (o:=eM ρ (.inr [i,j]) vv) (λht=>?_) (λρ' ht=>?_)
 ·replace w1:=(ht)▸w1;exact w1.elim
 ·simp only [ht]at w1
  refine(oQ hi hj).run r.K r.len hY.mem S1 r1.F hv (λ_=>r.a.hh hq) ht λs₂ st hl=>?_
  obtain⟨S2,k2,F2⟩:=st
  exact⟨ρ',H₁,as₁,e1,S2,(k1.y _).trans e1 k2,F2,hl,w1⟩
theorem xR{o v:Expr}{eo ev:Ex}{nm:List Char}{ms:List (Str×Nat)}{ats:List Str}{f:Nat}{p' pos:Pos}(K:CK c ms ats f)(hat:toS nm∈ats)(hc:im v=false)(h1:SE c n T v ev)(h2:SE c n T o eo):S1 c n T (.Assign [.Attribute o (toS nm) p'] v pos) (.setAttr eo nm ev):=by
 refine⟨?_⟩
 intro env A s as X H ρ Kk R XX r hY w
 simp only [pk]at w
 refine plainObj_wpAny_Assign_Attribute (wpAny_mono (h1.run r w) (λx s₁ q=>?_) λ_ _ e=>e.toS r.F) (by cases v<;>first|rfl|cases hc)
 obtain⟨vx,H₁,as₁,e1,S1,k1,hvx,w1⟩:=q
 have r1:=r.next e1 k1 S1
 refine wpAny_mono (h2.run r1 w1) (λy s₂ q=>?_) λ_ _ e=>(e.lift e1 k1).toS r.F
 obtain⟨vo,H₂,as₂,e2,S2,k2,hvo,w2⟩:=q
 haveI r2:=r1.next e2 k2 S2
 refine optE (o:=gu vo nm vx H₂) (λhs=>?_) (λH' hs=>?_)
 ·replace w2:=(hs)▸w2;exact w2.elim
 ·simp only [hs]at w2
  refine s9 K hat S2 hvo (hvx.keep k2 e2) hs λs' S' k'=>?_
  haveI E1:=e1.trans k1 e2
  haveI K1:=k1.trans e1 k2
  exact⟨ρ,H',as₂,E1,S',(K1.trans E1 k').y _,r2.F.keep k' (.refl ..),r.len,w2⟩
end
section
variable {c:Cx}{n:Nat}{T:Tb}{gl:List (Str×Gl)}
theorem qs{elt:Expr}{gens:List Comprehension}{scope:Scope}{pos px:Pos}{x:Str}{l:Nat}{env:Env}:∃b,swapsWith (.ListComp elt gens scope pos) (some (.Name x px)) l env=pure b:=⟨_,rfl⟩
theorem ug{e:Expr}{x:Str}{px:Pos}{l:Nat}{env:Env}(h:im e=false):swapsWith e (some (.Name x px)) l env=pure false:=by
 cases e<;>first|rfl|cases h
theorem xP{x y:Str}{j:Nat}{px py spos:Pos}{elt iter:Expr}{ifs:List Expr}{sc:Scope}{pos:Pos}{b i:Ex}{cond:Option Ex}{mu:Bool}{env:Env}{A:Around}{s:Shared}{as:bj}{X:List Addr}{H:AH}{ρ:Fm}{K:KS}{R:QE}{XX:XE}
  (hj:T.slot y=some j)(ok:CompF T x sc)(hns:nG iter)(hi:SE c n T iter i)(hqr:(T.q&& !qT i)=false)
  (he:SE c n {T with names:=sc.names,tab:=(x,T.n)::T.tab,n:=T.n+1} elt b)
  (hc:(ifs=[]/\cond=none)\/∃t q,ifs=[t]/\cond=some q/\ST c n {T with names:=sc.names,tab:=(x,T.n)::T.tab,n:=T.n+1} t q)
  (r:Rdy c T env A n s as X H ρ)(hY:Own A X env)(w:qH c.P (aG c.P n) (.asg j (.comp mu b i cond)) ρ H K R XX)
  (hs:swapsWith (.ListComp elt [⟨.Name x px,iter,ifs,0⟩] sc pos) (some (.Name y py)) spos.line env=pure true) :
  wpAny c.M A (exec (.Assign [.Name y py] (.ListComp elt [⟨.Name x px,iter,ifs,0⟩] sc pos) spos) env) (ResS c as X s.heap T env K R) (EResS c as X s.heap env XX) s:=by
 refine ea0_3 (iQ r.K hj) ?_
 intro h1 h2 h3
 simp only [rB]at w
 rw [exec_Assign_Name_used _ _ _ _ hs]
 refine wpAny_bind (wpAny_standAt (wpAny_bind ?_))
 refine wpAny_bind (wpAny_mono (um (Qf:=λ_ s'=>ResS c as X s.heap T env K R .next s') ok hns hi hqr he hc r w ?_) (λ_ s' hq=>wpAny_pure (wpAny_pure hq)) λ_ _ e=>e.toS r.F)
 intro D Ca s' fC cX bC hm q
 refine gx q ?_
 intro v H' as' e S k hv p_8 F
 (haveI hl:=p_8.1;haveI q:=p_8.2)
 refine wpAny_assign_Name (iJ S F h1 h2 hl hv λs'' st=>?_)
 obtain⟨S2,k2,F2⟩:=st
 have hCown:Ca∉own env:=λq=>cX (hY.mem _ q)
 haveI hCas:Ca∉as':=λq=>by
  obtain⟨i,hi⟩:=bW q
  refine ea0_3 (S.objs i _ hi) ?_
  intro _ h2 _
  exact h2 (.head _)
 obtain⟨m,hm⟩:=hm
 refine⟨m,Ns.same hm λo e=>k2 _ o e hCas hCown,λh' hs'=>?_⟩
 haveI b':But [Ca] s''.heap h':=λq o hq e=>(hs'.2 q (by exact wR (hq))).trans e
 refine⟨_,H',as',e,S2.but (s':={s'' with heap:=h'}) b' (by simpa using bC) (λ_ q=>.tail _ q) (λa ha hz=>by replace hz:=in1 hz;(replace hz:=Eq.symm hz;subst hz);exact(cX ha).elim) rfl rfl,?_,?_,by rw [aC];exact r.len,q⟩
 ·exact ((((k.more λ_=>bM).y _).trans e k2).but b' (by exact cW (fC))).less λb hb=>(s3 hb).elim (λq=>.inr (q▸fC)) .inl
 ·haveI aw:nS [Ca] env T.tab:=F2.away' (by exact hCown)
  exact(F2.keepY (b'.kept as' _) (by exact cW (.head _)) aw).narrow (Z:=[Ca]) (λb hb=>.tail _ hb) (λb hb=>by
   refine eK (hb) (λe_=>?_) λhb=>?_
   ·replace e_:=Eq.symm e_;subst e_;exact .inr (by exact .head _)
   ·exact .inl hb) aw
structure Fl(c:Cx)(T:Tb)(env:Env)(as₀:bj)(h₀:HP)(X:List Addr)(rev:Bool)(I:Addr)(v:V)(y:Value)(k:Nat)(s:Shared)(as:bj)(H:AH)(ρ:Fm):Prop where
 S:SR c as (I::X) H s
 F:FR c as (I::X) s.heap env T.tab ρ
 hl:ρ.length=T.n
 hv:VR c as (I::X) s.heap v y
 hi:ItD rev s.heap I v y k
 oi:I∉as
 E:Ext as₀ h₀ as
 K:KeptX as₀ (I::X) (own env) h₀ s.heap
theorem SR.less{c:Cx}{as:bj}{X:List Addr}{H:AH}{s:Shared}{I:Addr}(S:SR c as (I::X) H s):SR c as X H s:=
 S.turn (λb o e _ _=>e) S.stays (λ_ q=>.tail _ q) (λb hb=>S.xs b (.tail _ hb)) rfl rfl
def FI(c:Cx)(T:Tb)(env:Env)(as₀:bj)(h₀:HP)(X:List Addr)(rev:Bool)(I:Addr)(v:V)(y:Value)(items:List V)(F:V->Fm->AH->KS->Prop)(K:KS)(m:Nat)(s:Shared):Prop:=
 ∃k as H ρ,m=items.length-k/\k<=items.length/\Fl c T env as₀ h₀ X rev I v y k s as H ρ/\forL F (λH'=>gE rev H' v=some items) (items.drop k) ρ H K
theorem uV{te:Expr}{tg:Nat ⊕ List Nat}{rev:Bool}{body:List Stmt}{xs:List St}{env:Env}{A:Around}{X:List Addr}{items:List V}{K:KS}{R:QE}{I:Addr}{as₀:bj}{h₀:HP}{v:V}{y:Value}{s:Shared}{as:bj}{H:AH}{ρ:Fm}{RR:Result->Shared->Prop}{Kn:KOk T env}{F:V->Fm->AH->KS->Prop}
  (ht:Tgt c T te tg)(hq:T.q=false)(hb:SB c n T body xs)(a:AOk T.q A n)(fr:EnvFr c A X as₀ h₀ env)(hY:Own A X env)(bI:c.base.get? I=none)(fI:Fr as₀ h₀ I)(iX:I∉X)
  (L:Fl c T env as₀ h₀ X rev I v y 0 s as H ρ)(w:forL F (λH'=>gE rev H' v=some items) items ρ H K)
  (hF:∀{x ρ' H'} {K':KS},F x ρ' H' K'->match eM ρ' tg x with|some ρ''=>bh c.P (aG c.P n) xs ρ'' H' K' R (λ_ _=>False)|none=>False)
  (hR:∀f s',ResS c as₀ X h₀ T env K R f s'->RR (.ok f) s') :
  codeAny c.M A (.forLoop te (.ref I) body [] env) RR s:=by
 have iO:I∉own env:=λq=>iX (hY.mem _ q)
 have lessI:∀b,2<=(I::X).count b->2<=X.count b\/Fr as₀ h₀ b:=Fi (.inr fI) λ_=>.inl
 refine codeAny_forLoop_any (FI c T env as₀ h₀ X rev I v y items F K) (λm s h0=>?_) (items.length-0) ⟨0,as,H,ρ,rfl,aM _,L,w⟩
 clear L w
 refine Eb h0 λk as H ρ q_0 hk L w=>?_
 clear h0
 subst q_0
 have aw:nS [I] env T.tab:=L.F.away' iO
 refine optE (o:=items[k]?) (λhx=>?_) λu hx=>?_
 ·have hkl:items.length=k:=j2 (tL.mp hx) hk
  replace w:=(zd (aq hkl))▸w
  exact yh (a.hh hq) L.S (.head _) L.hv L.hi w.1 hkl λh' tk b=>wpAny_execs_nil (hR _ _ ⟨ρ,H,as,L.E,L.S.but (s':={s with heap:=h',toks:=tk}) b (cW ⟨.head _,bI⟩) (λ_ q=>.tail _ q) (λa ha hz=>absurd (in1 hz▸ha) iX) rfl rfl,(L.K.but b (cW fI)).less lessI,(L.F.keepY (b.kept as _) (cW (.head _)) aw).narrow (Z:=[I]) (λb hb=>.tail _ hb) (dC (.inr (.head _)) λb hb=>.inl hb) aw,L.hl,w.2⟩)
 ·have hlt:=(ae.mp hx).1
  rw [mK hx]at w
  refine xg (a.hh hq) L.S (.head _) bI L.hv L.hi w.1 hx λz h₁ tk₁ b₁ hu₁ hv₁ hi₁ S₁=>?_
  refine Bs hi₁.cls ?_
  haveI F₁:=L.F.keepY (b₁.kept as _) (cW (.head _)) aw
  haveI K₁:=L.K.but b₁ (cW fI)
  haveI w2:=hF w.2
  refine optE (o:=eM ρ tg u) (λhst=>?_) (λρ₂ hst=>?_)
  ·replace w2:=(hst)▸w2;exact w2.elim
  ·rw [hst]at w2
   refine ht.run Kn L.hl (λb hb=>.tail _ (hY.mem b hb)) S₁ F₁ hu₁ (λ_=>a.hh hq) hst λs₂ st hl₂=>?_
   obtain⟨S₂,k₂,F₂⟩:=st
   haveI K₂:KeptX as₀ (I::X) (own env) h₀ s₂.heap:=K₁.trans L.E k₂
   refine wpAny_mono (hb.run ⟨a,.no (a.hh hq),S₂,F₂,Kn,hl₂,(fr.step hY L.E (K₂.less lessI) (F₂.ns.imp λ_ h=>h.1) F₂.lout).grow (.refl _) λb=>bM⟩ hY.more w2) (λf s₃ q=>?_) λ_ _ e=>e.none.elim
   haveI hI₂:ItD rev s₂.heap I v y (k+1):=hi₁.at λo e hc=>k₂.get e L.oi iO hc
   haveI hown₂:∀b∈own env,∃o,s₂.heap.get? b=some o:=λb hb=>S₂.xs b (.tail _ (hY.mem b hb))
   induction f with
   |next=>exact gx q λρ₃ H₃ as₃ e₃ S₃ k₃ F₃ hl₃ q₃=>⟨items.length-(k+1),CS hlt (bS k),k+1,as₃,H₃,ρ₃,rfl,hlt,⟨S₃,F₃,hl₃,(hv₁.keepX (KeptX.v (Y:=own env) k₂ λb hb=>.tail _ (hY.mem b hb)) (.refl ..)).keepX (k₃.v λb hb=>.tail _ (hY.mem b hb)) e₃,hI₂.at λo e hc=>k₃.get e L.oi iO hc,ea1_2 hI₂.here λo e _=>e₃.out e L.oi,L.E.transX K₂ hown₂ e₃,K₂.trans L.E k₃⟩,q₃⟩
   |ret xv=>exact kF q λv' H₃ as₃ e₃ S₃ k₃ hv₃ q₃=>hR _ _ ⟨v',H₃,as₃,L.E.transX K₂ hown₂ e₃,S₃.less,(K₂.trans L.E k₃).less lessI,hv₃.frames λb _ _ hb q=>hb (.tail _ q),q₃⟩
   |_=>exact q.elim
theorem pq{te:Expr}{tg:Nat ⊕ List Nat}{rev:Bool}{body:List Stmt}{xs:List St}{env:Env}{A:Around}{X:List Addr}{items:List V}{K:KS}{R:QE}{v:V}{y:Value}{s s₁:Shared}{as as₁:bj}{H H₁:AH}{ρ:Fm}{o:Obj}{tk:Nat}{F:V->Fm->AH->KS->Prop}
  (ht:Tgt c T te tg)(hq:T.q=false)(hb:SB c n T body xs)(r:Rdy c T env A n s as X H ρ)(hY:Own A X env)(e1:Ext as s.heap as₁)(S1:SR c as₁ X H₁ s₁)(k1:Kept as X s.heap s₁.heap)(hv:VR c as₁ X s₁.heap v y)
  (hit:ItD rev (s₁.heap.push o) s₁.heap.objs.size v y 0)(w:forL F (λH'=>gE rev H' v=some items) items ρ H₁ K)
  (hF:∀{x ρ' H'} {K':KS},F x ρ' H' K'->match eM ρ' tg x with|some ρ''=>bh c.P (aG c.P n) xs ρ'' H' K' R (λ_ _=>False)|none=>False){RR:Result->Shared->Prop}(hR:∀f s',ResS c as X s.heap T env K R f s'->RR (.ok f) s') :
  codeAny c.M A (.forLoop te (.ref s₁.heap.objs.size) body [] env) RR {s₁ with heap:=s₁.heap.push o,toks:=tk}:=by
 haveI hfI:s₁.heap.get? s₁.heap.objs.size=none:=cu _
 generalize s₁.heap.objs.size=I at hit hfI ⊢
 haveI g:Grown s₁.heap (s₁.heap.push o):=.push _ _
 haveI hX':∀b∈I::X,b∈X\/s₁.heap.get? b=none:=dC (.inr hfI) λ_ hb=>.inl hb
 exact uV (Kn:=r.K) ht hq hb r.a r.fr hY (S1.base_none hfI) (k1.fr hfI) (S1.not_x hfI) (as₀:=as) (h₀:=s.heap) ⟨S1.opens (s':={s₁ with heap:=s₁.heap.push o,toks:=tk}) g hX' (dC (hit.here.imp λ_ e=>e.1) λb hb=>(S1.xs b hb).imp λ_ e=>g _ _ e) rfl rfl,(r.F.keep k1 e1).opens g (λb hb=>.tail _ hb) hX',r.len,hv.opens g hX',hit,S1.not_as hfI,e1,((k1.trans e1 (g.kept as₁ _)).more λ_=>bM).y _⟩ w hF hR
theorem AI{te:Expr}{tg:Nat ⊕ List Nat}{pos:Pos}{iter:Expr}{ex:Ex}{body:List Stmt}{xs:List St}(ht:Tgt c T te tg)(hq:T.q=false)(hns:nG iter)(h:SE c n T iter ex)(hb:SB c n T body xs) :
  S1 c n T (.For te iter body [] pos) (.forIn false tg ex xs):=by
 refine⟨?_⟩
 intro env A s as X H ρ K R XX r hY w
 simp only [mI]at w
 refine wpAny_For (wpAny_mono (h.run r w) (λy s₁ q=>?_) λ_ _ e=>e.toS r.F) (kr hns env)
 obtain⟨v,H₁,as₁,e1,S1,k1,hv,items,hsrc,hsz,w⟩:=q
 exact pi S1 hv hsrc λo hit=>pq (rev:=false) (tk:=s₁.toks) ht hq hb r hY e1 S1 k1 hv hit w (λh=>h) λf s' q=>q
theorem tO{P:Prog}{C:Calls}{e:Ex}{ρ:Fm}{H:AH}{W:QE}{X:XE}:fw P C [e] ρ H (λvs H'=>W (vs.headD .none) H') X=cH P C e ρ H W X:=rfl
theorem sO{te:Expr}{tg:Nat ⊕ List Nat}{p p' pos:Pos}{g:Str}{e:Expr}{ex:Ex}{body:List Stmt}{xs:List St}(C:Cok c T.gl)(hg:T.glob g=some (.ty "reversed"))(ht:Tgt c T te tg)(hq:T.q=false)(h:mE c n T [e] [ex])(hb:SB c n T body xs) :
  S1 c n T (.For te (.Call (.Name g p) [e] [] p') body [] pos) (.forIn true tg ex xs):=by
 refine⟨?_⟩
 intro env A s as X H ρ K R XX r hY w
 simp only [mI]at w
 haveI e1:=C.gl g _ (d6 hg).2.1
 refine wpAny_For (wpAny_Call_Name_kw (fP C hg r (.inr e1) ?_)) (λ_=>rfl)
 rw [<-tO]at w
 refine PySem.callWith_type (kT h) (wpAny_mono (eR h r w) (λa s₁ q=>?_) λ_ _ e=>e.toS r.F)
 obtain⟨hk,vs,H₁,as₁,e1,S1,k1,hvs,hl,items,hsrc,hsz,w⟩:=q
 simp only [hk]
 refine c8 (oF hvs hl) ?_
 intro v y e2 hy hv
 subst e2
 rw [hy]
 exact vM hv hsrc λo tk hit=>DV (s:={s₁ with heap:=s₁.heap.push o,toks:=tk}) hit (pq ht hq hb r hY e1 S1 k1 hv hit w (λh=>h) λf s' q=>q)
theorem i4{st:Stmt}{x:St}{l:Nat}(h:S1 c n T st x):SS c n T st (gj T l x):=by
 refine⟨?_⟩
 intro env A s as X H ρ K R XX r hY w
 exact wpAny_mono (h.run r hY w) (λ_ _ q=>q) λ_ _ e=>e
theorem vr(C:Cok c gl)(sc:SC c n)(hf:∀x f b,gl.lookup x=some (.fn f b)->∃fn,c.P.fns f=some fn){k:Nat}{x:Str}{px pos:Pos}{i:Nat}(hg:T.gl=gl)(h1:T.slot x=some i)(v:Expr) :
  Is (cE k T v) λe=>S1 c n T (.Assign [.Name x px] v pos) (.asg i e):=by
 have he:=oY C sc hf k hg v
 have F:im v=false->Is (cE k T v) λe=>S1 c n T (.Assign [.Name x px] v pos) (.asg i e):=λhc=>he.imp λ_ h=>⟨λr hY w=>uz h1 h.se r hY w (ug hc)⟩
 cases v with
 |ListComp elt gens scope pos'=>
  refine Is.to λex h=>⟨λ{env} {A s as X H ρ K R XX} r hY w=>?_⟩
  obtain⟨b,hb⟩:=qs (elt:=elt) (gens:=gens) (scope:=scope) (pos:=pos') (px:=px) (x:=x) (l:=pos.line) (env:=env)
  induction b with
  |false=>exact uz h1 (he.of h).se r hY w hb
  |true=>
   cases k with
   |zero=>exact du h
   |succ k=>
    cases(sf λa=>oY C sc hf k (a.trans hg)).of h with
    |mk ok hns hi hq he' hc=>exact xP h1 ok hns hi hq he' hc r hY w hb
 |SetComp elt gens scope pos'=>cases k<;>exact trivial
 |DictComp elt elt' gens scope pos'=>cases k<;>exact trivial
 |_=>exact F rfl
theorem rU{o:Option (List (List St))}{R:List (List St)->Prop}{S:List St->Prop}(h:Is o R)(k:∀l,R l->S l.flatten):Is (kH o) S:=by
 induction o with
 |none=>exact trivial
 |some l=>exact k l h
inductive Tgt2R(T:Tb):List Expr->List Nat->Prop
 |mk {x y:Str} {px py:Pos} {i j:Nat}:T.slot x=some i->T.slot y=some j->Tgt2R T [.Name x px,.Name y py] [i,j]
theorem r9(T:Tb)(es:List Expr):Is (twoL (vg T) es) (Tgt2R T es):=by
 rcases es with _|⟨a,_|⟨b,_|_⟩⟩
 ·exact trivial
 ·exact trivial
 ·refine (li a).bind λx h1=>(li b).bind λy h2=>Is.self.bind λi h3=>Is.self.map λj h4=>?_
  obtain⟨_,rfl⟩:=h1
  obtain⟨_,rfl⟩:=h2
  exact .mk h3 h4
 ·exact trivial
theorem yK(t:Expr):Is (D7 T t) (Tgt c T t):=by
 cases t with
 |Name x p=>exact Is.self.map λ_ h1=>vm h1
 |Tuple es k p=>exact(r9 T es).map λ_ h=>by induction h with|mk h3 h4=>exact oQ h3 h4
 |_=>exact trivial
theorem vQ{f:Expr}(h:ui T f=true):∃g p,f=.Name g p/\T.glob g=some (.ty "reversed"):=by
 haveI k:Is (wO f) λx=>(T.glob x).any (λg=>AR g==some "reversed")=true->∃g p,f=.Name g p/\T.glob g=some (.ty "reversed"):=(li f).imp λx e=>e.elim λp e q=>by
  refine⟨x,p,e,?_⟩
  refine optE (o:=T.glob x) (λh2=>?_) (λg h2=>?_)
  ·rw [h2];rw [h2]at q;exact nomatch q
  ·rw [h2];rw [h2]at q;exact congrArg _ ((AB g).of (eq_of_beq q))
 unfold ui at h
 refine optE (o:=wO f) (λh1=>?_) (λx h1=>?_)
 ·rw [h1]at h;exact nomatch h
 ·rw [h1]at h;exact k.of h1 h
theorem As{r:Expr->Option Ex}{t:Expr}{tg:Nat ⊕ List Nat}{body:List Stmt}{xs:List St}{pos:Pos}(C:Cok c T.gl)(hq:T.q=false)(ihe:EI c n T r)(ht:Tgt c T t tg)(hb:SB c n T body xs)(it:Expr) :
  Is (cIt r T it) λq=>S1 c n T (.For t it body [] pos) (.forIn q.1 tg q.2 xs):=by
 have F:∀e,Is ((r e).map λx=>(false,x)) λq=>S1 c n T (.For t e body [] pos) (.forIn q.1 tg q.2 xs):=λe=>(ihe e).map λ_ h=>AI ht hq h.nset h.se hb
 cases it with
 |Call f args kws p=>
  refine Is.ite2 (λhr=>?_) λ_=>F _
  induction kws with
  |cons _ _=>exact trivial
  |nil=>
   rcases args with _|⟨e,_|_⟩
   ·exact trivial
   ·refine (ihe e).map λ_ h=>?_
    obtain⟨g,p',rfl,hg⟩:=vQ hr
    exact sO C hg ht hq (.cons ⟨h.se,h.ns⟩ .nil) hb
   ·exact trivial
 |_=>exact F _
theorem zT{b:Bool}(h:(!b)=true):b=false:=by cases b with|false=>rfl|true=>exact absurd h ag
theorem x5{r:Expr->Option Ex}{kk:Nat}{pt pos:Pos}(ihe:EI c n T r)(es:List Expr)(v:Expr):Is (zG r T es v) (S1 c n T (.Assign [.Tuple es kk pt] v pos)):=by
 cases v with
 |Call f a k p=>exact Is.ite λhq=>(r9 T es).bind λ_ h1=>(ihe _).map λ_ h5=>by induction h1 with|mk h3 h4=>exact xB h3 h4 (zT (aj.mp hq).2) h5.se
 |_=>exact trivial
theorem Ct(C:Cok c gl)(sc:SC c n)(hf:∀x f b,gl.lookup x=some (.fn f b)->∃fn,c.P.fns f=some fn){k:Nat}{pos:Pos}(hg:T.gl=gl)(t v:Expr):Is (DA (cE k T) T t v pos.line) (SS c n T (.Assign [t] v pos)):=by
 have ihe:=oY C sc hf k hg
 cases t with
 |Name x px=>exact Is.self.bind λ_ h1=>(vr C sc hf hg h1 v).map λ_ h=>i4 h
 |Tuple es kk pt=>exact(x5 ihe es v).map λ_ h=>i4 h
 |Subscript o i pp=>exact(ihe v).bind λ_ h1=>(ihe o).bind λ_ h2=>(ihe i).map λ_ h3=>i4 (x9 h1.se h2.se h3.se)
 |Attribute o name pp=>
  subst hg
  exact Is.nite λhc=>(ihe v).bind λ_ h2=>(o0 ihe o name).map λ_ h=>by cases h with|mk hx hat hok h1=>exact i4 (xR (C.cl _ _ _ _ hx) hat hc h2.se h1.se)
 |_=>exact trivial
inductive RzR(T:Tb):Option Expr->Option Expr->Nat->Prop
 |mk {x m:Str} {p mp cp:Pos} {kk j:Nat}:T.glob x=some (.exc j)->RzR T (some (.Call (.Name x p) [.Constant (.str m) kk mp] [] cp)) none j
theorem EB(e cause:Option Expr):Is (t6 T e cause) λj=>T.q=false/\RzR T e cause j:=by
 induction cause with
 |some _=>exact trivial
 |none=>
  refine Is.ite λhq=>?_
  induction e with
  |none=>exact trivial
  |some e=>
   cases e with
   |Call f args kws cp=>
    induction kws with
    |cons _ _=>exact trivial
    |nil=>
     rcases args with _|⟨a,_|_⟩
     ·exact trivial
     ·refine (tU a).bind λm h1=>(li f).bind λx h2=>Is.self.bind λg h3=>(rW g).imp λ_ h4=>?_
      obtain⟨_,_,rfl⟩:=h1
      obtain⟨_,rfl⟩:=h2
      subst h4
      exact⟨zT hq,.mk h3⟩
     ·exact trivial
   |_=>exact trivial
theorem Bu(C:Cok c T.gl){body:List Stmt}{bs:List St}{pos:Pos}(hb:SB c n T body bs)(hd:ExceptHandler) :
  Is (cHd T hd) λj=>S1 c n T (.Try body [hd] [] [] pos) (.try_ bs j):=by
 obtain⟨t,nm,b,p⟩:=hd
 induction nm with
 |some _=>exact trivial
 |none=>
  refine(zF T t).bind λj hj=>(AT b).map λ_ h=>?_
  obtain⟨x,px,rfl,h2⟩:=hj
  obtain⟨k,p',p'',rfl⟩:=h
  exact B7 C h2 hb
theorem xz(C:Cok c T.gl){r rq:Expr->Option Ex}(ihe:EI c n T r)(iheq:EI c n {T with q:=true} rq){body:List Stmt}{pos:Pos}(hd:ExceptHandler):Is (wD r rq T body hd) (S1 c n T (.Try body [hd] [] [] pos)):=by
 obtain⟨t,nm,b,p⟩:=hd
 induction nm with
 |none=>exact trivial
 |some y=>
  refine(zw xx body).bind λv hv=>Is.nite λhc=>(zF T t).bind λj hj=>Is.self.bind λi hi=>(zw B3 b).bind λhe hh=>(ihe v).bind λe h1=>(iheq he).map λx h2=>?_
  obtain⟨_,rfl,_,rfl⟩:=hv
  obtain⟨x,px,rfl,hx⟩:=hj
  obtain⟨_,rfl,_,rfl⟩:=hh
  have hi:=dR hi
  exact y5 C hx hi.2 hi.1 hc h1.se h2.se
theorem DX(k:Nat):∀{c:Cx},Cok c gl->SC c n->(∀x f b,gl.lookup x=some (.fn f b)->∃fn,c.P.fns f=some fn)->∀{T:Tb},T.gl=gl->∀st,Is (cS k T st) (SS c n T st):=by
 induction k with
 |zero=>exact λ_ _ _ _ _ _=>trivial
 |succ k ih=>
  intro c C sc hf T hg st
  have ihb:∀b:List Stmt,Is (kH (gq (cS k T) b)) (SB c n T b):=λb=>rU (ju (ih C sc hf hg) b) λ_ q=>zi q
  have ihe:=oY C sc hf k hg
  have iheq:=oY C sc hf k (T:={T with q:=true}) hg
  clear ih
  cases st with
  |Assign ts v pos=>
   rcases ts with _|⟨t,_|_⟩
   ·exact trivial
   ·exact Ct C sc hf hg t v
   ·exact trivial
  |While t body els pos=>
   induction els with
   |nil=>exact(ihe t).bind λ_ h1=>(ihb body).map λ_ h2=>i4 (uY h1.st h2)
   |cons _ _=>exact trivial
  |Expr v pos=>exact Is.nite λhc=>(ihe v).map λ_ h1=>i4 (yN hc h1.se)
  |If t a b pos=>exact(ihe t).bind λ_ h1=>(ihb a).bind λ_ h2=>(ihb b).map λ_ h3=>i4 (C6 h1.st h2 h3)
  |For t it body els pos=>
   refine Is.nite λhq=>?_
   induction els with
   |nil=>exact(yK t).bind λtg h1=>Is.self.bind λq h2=>(ihb body).map λxs h3=>i4 ((As (hg▸C) hq ihe h1 h3 it).of h2)
   |cons _ _=>exact trivial
  |Return v p=>
   induction v with
   |some e=>exact(ihe e).map λ_ h1=>BK h1.se
   |none=>exact xQ
  |Pass p=>exact xZ
  |Raise a b p=>exact(EB a b).map λ_ h=>by obtain⟨hq,h⟩:=h;induction h with|mk hx=>exact⟨λr hY w=>(vN (hg▸C) hq hx).run r hY w⟩
  |Try body hs els fin pos=>
   refine Is.nite λ_=>?_
   induction els with
   |cons _ _=>exact trivial
   |nil=>
    induction fin with
    |cons _ _=>exact trivial
    |nil=>
     rcases hs with _|⟨hd,_|_⟩
     ·exact trivial
     ·exact Is.ite2 (λ_=>(xz (hg▸C) ihe iheq hd).map λ_ h=>i4 (l:=0) h) λ_=>(ihb body).bind λ_ h1=>(Bu (hg▸C) h1 hd).map λ_ h2=>i4 h2
     ·exact trivial
  |_=>exact trivial
theorem Ar(C:Cok c gl)(sc:SC c n)(hf:∀x f b,gl.lookup x=some (.fn f b)->∃fn,c.P.fns f=some fn){k:Nat}{T:Tb}{b:List Stmt}{sts:List St}(hg:T.gl=gl)(h:Ga k T b=some sts):SB c n T b sts:=
 (rU (ju (DX k C sc hf hg) b) λ_ q=>zi q).of h
end
theorem pG{prog:Program}{w:World}{A:Around}{R:Result->Shared->Prop}{s:Shared}{name qual:Str}{params:Arguments}{body:List Stmt}{scope:Scope}
  {pm cd doc:Value}{a:Addr}{o:Obj}{args:List Value}{binds:List (Str×Value)}
  (hroom:A.depth<recursionLimit)(ho:s.heap.get? a=some o)(hdata:o.data=.func (methDef name qual params body scope pm cd doc))(hlim:s.heap.NoLimit)(hcd:s.heap.CodeRec cd qual)
  (hbind:bindArgs (methDef name qual params body scope pm cd doc) ⟨args,[]⟩=pure binds)
  (hkind:∀x∈binds,scope.names.lookup x.1=some .local\/(scope.names.lookup x.1=some .cell/\((cellsFrom (s.heap.objs.size+1) scope.names []).lookup x.1).isSome=true))
  (h:∀h₁ tk,PyProof.Rows.Fr s.heap s.heap.objs.size h₁ (bindL (envOfC qual scope s.heap.objs.size a cd).kindOf binds λ_=>none)->
   Cl s.heap.objs.size (cellsFrom (s.heap.objs.size+1) scope.names []) h₁ (bindC (envOfC qual scope s.heap.objs.size a cd).kindOf binds λ_=>none)->
   wpAny (model prog w) (A.deeper (envOfC qual scope s.heap.objs.size a cd)) (execs body (envOfC qual scope s.heap.objs.size a cd))
    (λf s'=>R (.ok (.ret (match f with|.ret v=>v|_=>.none))) s')
    (λe s'=>wpAny (model prog w) (A.deeper (envOfC qual scope s.heap.objs.size a cd)) (leaving (envOfC qual scope s.heap.objs.size a cd) e)
     (λ_ s''=>R (.error e) s'') (λe' s''=>R (.error e') s'') s')
    {s with heap:=h₁,toks:=tk})
  (hco:scope.isCoroutine=false)(hgen:scope.isGenerator=false)(hk:scope.kind=.function) :
  codeAny (model prog w) A (.call (.ref a) ⟨args,[]⟩) R s:=by
 refine codeAny_call_cells (fd:=methDef name qual params body scope pm cd doc) hroom ho hdata hlim hcd rfl hbind rfl hkind (λs₁ X=>?_) hco hgen hk
 refine dt X.done ?_
 intro h₁ tk q_3 _
 subst q_3
 exact h h₁ tk ⟨X.toInCall.ns,X.toInCall.keep,X.toInCall.fresh⟩ ⟨X.cell,X.apart,X.above⟩
set_option genInjectivity false in
structure FOk(c:Cx)(gl:List (Str×Gl))(f:Nat)(fn:Fn) where
 name:Str
 qual:Str
 params:Arguments
 body:List Stmt
 scope:Scope
 pm:Value
 cd:Value
 doc:Value
 ps:List Str
 T:Tb
 k:Nat
 data:c.fdat f=methDef name qual params body scope pm cd doc
 code:c.base.CodeRec cd qual
 hgl:T.gl=gl
 qq:T.q=c.qf f
 names:T.names=scope.names
 hn:T.n=fn.arity+fn.extra
 hc:Ga k T body=some fn.body
 bind:∀xs:List Value,xs.length=fn.arity->bindArgs (methDef name qual params body scope pm cd doc) ⟨xs,[]⟩=pure (ps.zip xs)
 psl:ps.length=fn.arity
 psn:ps.Nodup
 psk:∀x∈ps,scope.names.lookup x=some .local\/scope.names.lookup x=some .cell
 tabn:(T.tab.map (·.2)).Nodup
 tabp:∀x i,T.tab.lookup x=some i->i<fn.arity->ps[i]? =some x
 keys:(scope.names.map (·.1)).Nodup
 nofree:∀p∈scope.names,p.2≠.free
 kind:scope.kind=.function
 co:scope.isCoroutine=false
 gen:scope.isGenerator=false
theorem qo(names:List (Str×NameKind)):∀(n:Nat) (acc:List (Str×Addr)),((cellsFrom n names acc).map (·.1)).Perm (((names.filter (λp=>p.2==.cell)).map (·.1))++acc.map (·.1)):=by
 induction names with
 |nil=>exact λ_ _=>.refl _
 |cons p r ih=>
  intro n acc
  obtain⟨x,k⟩:=p
  dsimp only [cellsFrom]
  by_cases hk:(k==NameKind.cell)=true
  ·rw [if_pos hk,ft (p:=λp:Str×NameKind=>p.2==NameKind.cell) hk]
   exact(ih (n+1) ((x,n)::acc)).trans p0
  ·rw [if_neg hk,fu (p:=λp:Str×NameKind=>p.2==NameKind.cell) hk]
   exact ih n acc
theorem lN(names:List (Str×NameKind)):∀(n:Nat) (acc:List (Str×Addr)) (x:Str),((x,NameKind.cell)∈names\/(∃a,acc.lookup x=some a))->∃a,(cellsFrom n names acc).lookup x=some a:=by
 induction names with
 |nil=>exact λ_ _ _ h=>h.elim (λh=>nomatch h) id
 |cons p r ih=>
  intro n acc x h
  obtain⟨y,k⟩:=p
  dsimp only [cellsFrom]
  by_cases hk:(k==NameKind.cell)=true
  ·rw [if_pos hk]
   refine ih _ _ _ ?_
   by_cases hxy:x=y
   ·exact .inr ⟨n,by rw [aK,beq_iff_eq.mpr hxy]⟩
   ·exact h.imp (λh=>eK h (λe=>absurd (congrArg CC e) hxy) id) λh=>h.imp λa h=>by simp only [aK,beq_eq_false_iff_ne.mpr hxy];exact h
  ·rw [if_neg hk]
   exact ih _ _ _ (h.imp (λh=>eK h (λe=>absurd (beq_iff_eq.mpr (congrArg n4 e).symm) hk) id) id)
theorem mo{α β:Type}[BEq α][LawfulBEq α]{l:List (α×β)}(hn:(l.map (·.1)).Nodup){p:α×β}(h:p∈l):l.lookup p.1=some p.2:=by
 induction l with
 |nil=>exact nomatch h
 |cons q r ih=>
  haveI hn:=bD.mp hn
  rw [aK]
  refine eK h (λe=>?_) λh=>?_
  ·rw [e,BEq.rfl]
  ·rw [beq_eq_false_iff_ne.mpr λe:p.1=q.1=>hn.1 (az.mpr ⟨p,h,e⟩)]
   exact ih hn.2 h
theorem yw{α:Type}{l:List (α×Nat)}(hn:(l.map (·.2)).Nodup){x y:α}{i:Nat}(h1:(x,i)∈l)(h2:(y,i)∈l):x=y:=by
 induction l with
 |nil=>exact nomatch h1
 |cons q r ih=>
  haveI hn:=bD.mp hn
  refine eK h1 (λe1=>?_) λh1=>?_
  ·exact eK h2 (λe2=>congrArg CC (e1.trans e2.symm)) λh2=>absurd (az.mpr ⟨_,h2,(congrArg n4 e1:i=q.2)⟩) hn.1
  ·exact eK h2 (λe2=>absurd (az.mpr ⟨_,h1,(congrArg n4 e2:i=q.2)⟩) hn.1) λh2=>ih hn.2 h1 h2
section
variable {kindOf:Str->Option NameKind}{ps:List Str}{x:Str}
theorem o5(h:x∉ps):∀{xs:List Value} {m:Str->Option Value},bindL kindOf (ps.zip xs) m x=m x:=by
 induction ps with
 |nil=>exact rfl
 |cons p ps ih=>
  intro xs m
  induction xs with
  |nil=>exact rfl
  |cons y xs=>
   refine(ih (λe=>h (.tail _ e))).trans ?_
   by_cases hk:kindOf p=some .local
   ·rw [if_pos hk];exact if_neg λe:x=p=>h (e▸.head _)
   ·rw [if_neg hk]
theorem vp(hn:ps.Nodup):∀{xs:List Value} {m:Str->Option Value} {i:Nat} {y:Value},ps[i]? =some x->xs[i]? =some y->kindOf x=some .local->bindL kindOf (ps.zip xs) m x=some y:=by
 induction ps with
 |nil=>exact λh=>du h
 |cons p ps ih=>
  have hn:=bD.mp hn
  intro xs m i y h1 h2 hk
  cases xs with
  |nil=>exact du h2
  |cons z xs=>
   induction i with
   |zero=>
    (replace h1:=ah h1;(replace h1:=Eq.symm h1;subst h1))
    (replace h2:=ah h2;subst h2)
    refine(o5 hn.1).trans ?_
    rw [if_pos hk]
    exact if_pos rfl
   |succ i=>exact ih hn.2 h1 h2 hk
theorem o6(h:x∉ps):∀{xs:List Value} {m:Str->Option Value},bindC kindOf (ps.zip xs) m x=m x:=by
 induction ps with
 |nil=>exact rfl
 |cons p ps ih=>
  intro xs m
  induction xs with
  |nil=>exact rfl
  |cons y xs=>
   refine(ih (λe=>h (.tail _ e))).trans ?_
   by_cases hk:kindOf p=some .local
   ·rw [if_pos hk]
   ·rw [if_neg hk];exact if_neg λe:x=p=>h (e▸.head _)
theorem wc(hn:ps.Nodup):∀{xs:List Value} {m:Str->Option Value} {i:Nat} {y:Value},ps[i]? =some x->xs[i]? =some y->kindOf x≠some .local->bindC kindOf (ps.zip xs) m x=some y:=by
 induction ps with
 |nil=>exact λh=>du h
 |cons p ps ih=>
  have hn:=bD.mp hn
  intro xs m i y h1 h2 hk
  cases xs with
  |nil=>exact du h2
  |cons z xs=>
   induction i with
   |zero=>
    (replace h1:=ah h1;(replace h1:=Eq.symm h1;subst h1))
    (replace h2:=ah h2;subst h2)
    refine(o6 hn.1).trans ?_
    rw [if_neg hk]
    exact if_pos rfl
   |succ i=>exact ih hn.2 h1 h2 hk
end
theorem ACk.deep{q:Bool}{A:Around}{n:Nat}{env:Env}(a:ACk q A (n+1)):AOk q (A.deeper env) n:=⟨⟨a.hh,by have:=a.hd;simp only [Around.deeper];exact g9 this (by simp+arith only),by have:=a.hu;simp only [Around.deeper];exact g9 this (by simp+arith only)⟩,by have:=a.hd;simp only [Around.deeper];exact g9 this (by simp+arith only),by have:=a.hu;simp only [Around.deeper];exact g9 this (by simp+arith only)⟩
theorem tz{h:HP}{b:Addr}(hb:h.objs.size<=b):h.get? b=none:=optE (o:=h.get? b) id λ_ e=>absurd (c5 e) (fp.mpr hb)
theorem pg{vs:List V}{m i:Nat}{v:V}(e:((vs.map some++c7 m none)[i]?).join=some v):i<vs.length/\vs[i]? =some v:=by
 by_cases hi:i<(vs.map some).length
 ·rw [bf hi,aZ]at e
  refine⟨(ak _)▸hi,?_⟩
  refine optE (o:=vs[i]?) (λhq=>?_) (λv' hq=>?_)
  ·rw [hq];rw [hq]at e;exact du e
  ·rw [hq];rw [hq]at e;exact e
 ·rw [cO (fp.mp hi),List.getElem?_replicate]at e
  split at e<;>exact du e
theorem ri{P:Addr->Prop}{env:Env}(h:P env.locals)(k:∀p∈env.cells,P p.2):∀b∈own env,P b:=dC h (lZ.mpr k)
theorem oG{env:Env}:∀b∈fS env,b∈own env:=dC (.head _) λ_ h=>h
theorem xT{env:Env}{X:List Addr}{L:Addr}(h:env.locals=L):2<=(fS env++X).count L:=by
 rw [<-h,n5]
 exact aa (by rw [kL,kL];exact bP 2 _) (ay _ _)
theorem x7{c:Cx}{n:Nat}{gl:List (Str×Gl)}(C:Cok c gl)(hf:∀x f b,gl.lookup x=some (.fn f b)->∃fn,c.P.fns f=some fn)(ok:∀f fn,c.P.fns f=some fn->Nonempty (FOk c gl f fn))(sc:SC c n):SC c (n+1):=by
 refine⟨?_⟩
 intro f fn A s as X H vs xs Q XX hfn a hx fr S hvs w
 obtain⟨K⟩:=ok f fn hfn
 simp only [lG,hfn]at w
 refine ce (w) λhlen w=>?_
 refine ea1_2 (C.fobj f fn hfn) ?_
 intro o ho hdata
 rw [K.data]at hdata
 haveI hxl:xs.length=fn.arity:=by rw [<-hvs.length];exact hlen
 refine wpAny_call (pG (by haveI:=a.hd;exact g9 this (by simp+arith only)) (S.stays _ _ ho) hdata (C.nolim.keeps S.stays) (K.code.keeps S.stays) (K.bind xs hxl) (λx hx=>?_) (λh₁ tk F0 Cl0=>?_) K.co K.gen K.kind)
 ·exact (K.psk _ (List.of_mem_zip hx).1).imp id λq=>⟨q,cm.mpr (lN K.scope.names (s.heap.objs.size+1) [] x.1 (.inl (mem_of_lookup q)))⟩
 ·haveI hfL:s.heap.get? s.heap.objs.size=none:=cu _
  generalize hL:s.heap.objs.size=L at F0 Cl0 hfL ⊢
  generalize henv:envOfC K.qual K.scope L (c.fad f) K.cd=env at F0 Cl0 ⊢
  haveI ecells:env.cells=cellsFrom (L+1) K.scope.names []:=by rw [<-henv];rfl
  have eloc:env.locals=L:=by rw [<-henv];rfl
  have ekind:∀x,env.kindOf x=K.scope.names.lookup x:=λx=>by rw [<-henv];rfl
  haveI hcn:((cellsFrom (L+1) K.scope.names []).map (·.1)).Nodup:=by
   refine(qo K.scope.names (L+1) []).symm.nodup ?_
   simp only [List.map_nil,aN]
   exact(List.filter_sublist.map _).nodup K.keys
  haveI habove:∀p∈cellsFrom (L+1) K.scope.names [],L<p.2:=λp hp=>Cl0.above p.1 p.2 hp
  have hfresh:∀b,L<=b->s.heap.get? b=none:=λb hb=>tz (aa (aq hL) hb)
  have hownc:∀p∈env.cells,p∈cellsFrom (L+1) K.scope.names []:=λp hp=>ecells▸hp
  have hown:∀b∈own env,s.heap.get? b=none:=ri (hfresh _ (aq eloc.symm)) λp hp=>hfresh _ (gY (habove p (hownc p hp)))
  have g:Grown s.heap h₁:=F0.keep
  haveI ho2:∀b∈fS env,s.heap.get? b=none:=λb hb=>hown b (oG b hb)
  haveI hX':∀b∈fS env++X,b∈X\/s.heap.get? b=none:=cM (λb q=>.inr (ho2 b q)) λ_ q=>.inl q
  haveI S1:SR c as (fS env++X) H {s with heap:=h₁,toks:=tk}:=S.opens (s':={s with heap:=h₁,toks:=tk}) g hX' (cM (λb q=>ri (P:=λb=>∃o,h₁.get? b=some o) (eloc▸iW F0.ns λo _ _ e _=>⟨o,e⟩) (λp hp=>(Cl0.cell p.1 p.2 ((λp hp=>mo hcn hp:∀p∈cellsFrom (L+1) K.scope.names [],(cellsFrom (L+1) K.scope.names []).lookup p.1=some p.2) p (hownc p hp))).imp λ_ e=>e.1) b (oG b q)) λb q=>(S.xs b q).imp λ_ e=>g _ _ e) rfl rfl
  have hslot:∀{x:Str} {i:Nat} {v:V},K.T.tab.lookup x=some i->((vs.map some++c7 fn.extra none)[i]?).join=some v->∃y,K.ps[i]? =some x/\xs[i]? =some y/\VR c as (fS env++X) h₁ v y:=λ{x i v} ht e=>
   (hvs.get (pg e).2).imp λy q=>⟨K.tabp x i ht (hlen▸(pg e).1),q.1,q.2.opens g hX'⟩
  haveI F1:FR c as (fS env++X) h₁ env K.T.tab (vs.map some++c7 fn.extra none):=by
   refine⟨by rw [<-henv];exact K.kind,by rw [<-henv];rfl,by rw [<-henv];rfl,by simp,?_,?_,⟨_,by exact(eloc)▸F0.ns,λx i ht hk v e=>?_⟩,λx i ht hk=>?_,λx y b e1 e2=>?_,λx y i e1 e2=>?_⟩
   ·exact (eloc)▸S.not_as hfL
   ·exact (eloc)▸S.base_none hfL
   ·exact (hslot ht e).imp λy q=>⟨vp K.psn q.1 q.2.1 hk,q.2.2⟩
   ·have hk':K.scope.names.lookup x=some .cell:=hk.elim (λhk=>(ekind x).symm.trans hk) λhk=>absurd rfl (K.nofree _ (mem_of_lookup ((ekind x).symm.trans hk)))
    refine cU (lN K.scope.names (L+1) [] x (.inl (mem_of_lookup hk'))) λb hb=>?_
    haveI hLb:=Cl0.above x b (mem_of_lookup hb)
    haveI hnb:=hfresh b (gY hLb)
    refine⟨b,_,by rw [ecells];exact hb,aP _ (.tail _ (.tail _ (az.mpr ⟨(x,b),by rw [ecells];exact mem_of_lookup hb,rfl⟩))),S.not_as hnb,S.base_none hnb,by exact(eloc)▸dI hLb,Cl0.cell x b hb,λv e=>?_⟩
    exact(hslot ht e).imp λy q=>⟨wc K.psn q.1 q.2.1 (λh=>nomatch hk'.symm.trans ((ekind x).symm.trans h)),q.2.2⟩
   ·exact name_of_addr Cl0.apart (hownc _ (mem_of_lookup e1)) (hownc _ (mem_of_lookup e2))
   ·exact yw K.tabn (mem_of_lookup e1) (mem_of_lookup e2)
  haveI ek:∀x,env.kindOf x=K.T.names.lookup x:=λx=>(ekind x).trans (congrArg _ K.names.symm)
  haveI Kn:KOk K.T env:=⟨λx h=>(ek x).trans h,λx h=>(ek x).trans h,λx h=>.inl ((ek x).trans h),λx h=>(ek x).trans h⟩
  haveI a1:AOk K.T.q (A.deeper env) n:=K.qq▸a.deep
  refine ea1_2 fr ?_
  intro l hfl hfe
  have efr:env.frame=some L:=by rw [<-henv];rfl
  haveI ekd:env.scope.kind=.function:=by rw [<-henv];exact K.kind
  haveI hcnt:∀b,X.count b<=(fS env++X).count b:=λb=>by simp only [n5];exact bP _ _
  haveI hLX:L∈fS env++X:=aP _ (by simp only [<-eloc];exact .head _)
  have fr1:∀{as':bj} {Z:List Addr} {H':AH} {s':Shared},Ext as s.heap as'->Kept as (fS env++X) s.heap s'.heap->SR c as' Z H' s'->(∀b∈fS env++X,b∈Z)->(∃m,s'.heap.Ns env.locals m)->EnvFr c (A.deeper env) (fS env++X) as' s'.heap env:=λ{as' Z H' s'} e k S' hZ hn=>
   ⟨env,l,L,Around.frames_deeper hfl,dC (hn.elim λm hn=>lJ hn λob es ep e1 e2 _=>⟨ekd▸(by decide),L,ob,es,ep,efr,S.base_none hfL,xT eloc,λq=>(bW q).elim λi hi=>(S'.objs i _ hi).2.1 (hZ _ hLX),eloc▸e1,e2⟩) λev hev=>((hfe ev hev).grow (.refl _) hcnt).keep e k,efr,efr⟩
  have O1:Own (A.deeper env) (fS env++X) env:=by
   refine⟨λb hb=>aP _ (.tail _ hb),efr.trans (congrArg some eloc.symm),λl' hl' ev hev L' hL' q=>?_⟩
   haveI hev:ev∈env::l:=ah ((Around.frames_deeper (env:=env) hfl).symm.trans hl')▸hev
   have hlt:L<L':=(lZ (P:=λb=>L<b)).mpr (λp hp=>habove p (hownc p hp)) L' q
   refine dC (p:=λev=>ev.frame=some L'->False) (λhL'=>dm hlt (ah (efr.symm.trans hL'))) (λev hev hL'=>kD ((hfe ev hev).there) λL'' o' _ _ q1 _ _ _ q5 _=>?_) ev hev hL'
   cases q1.symm.trans hL'
   exact du ((hfresh _ (gY hlt)).symm.trans q5)
  have hE1:∀{as':bj},Ext as h₁ as'->Ext as s.heap as':=λe=>⟨e.old,λb hb=>(e.new b hb).imp id g.none⟩
  have hK1:∀{h':HP},KeptX as (fS env++X) (own env) h₁ h'->Kept as (fS env++X) s.heap h':=λk b o e hb=>k b o (g _ _ e) hb λq=>du ((hown b q).symm.trans e)
  have hless:∀b,2<=(fS env++X).count b->2<=X.count b\/Mine.Fr as s.heap b:=λb hb=>by
   by_cases hm:b∈fS env
   ·exact .inr (.inr (ho2 b hm))
   ·rw [n5,gm hm,eW]at hb
    exact .inl hb
  haveI R1:Rdy c K.T env (A.deeper env) n {s with heap:=h₁,toks:=tk} as (fS env++X) H (vs.map some++c7 fn.extra none):=⟨a1,(hx.opens g hX').to rfl,S1,F1,Kn,by rw [K.hn,af,ak,List.length_replicate,hlen],fr1 (.refl ..) (g.kept _ _) S1 (λ_ q=>q) (F1.ns.imp λ_ h=>h.1)⟩
  have fin:∀{v:V} {y:Value} {H':AH} {as':bj} {s':Shared},Ext as h₁ as'->SR c as' (fS env++X) H' s'->KeptX as (fS env++X) (own env) h₁ s'.heap->VR c as' (fS env++X) s'.heap v y->Q v H'->Res c as X s.heap Q y s':=λ{v y H' as' s'} e S' k hv q=>
   ⟨v,H',as',hE1 e,S'.turn (λb o e _ _=>e) S'.stays (λb hb=>aB _ hb) (λb hb=>S'.xs b (aB _ hb)) rfl rfl,(hK1 k).less hless,hv.frames λb _ _ hb q=>hb (aB _ q),q⟩
  refine wpAny_mono ((Ar C sc hf K.hgl K.hc).run R1 O1 w) (λfl s' q=>?_) λx s' r=>?_
  rotate_left
  ·obtain ⟨k,H',as',e,t,ts,rfl,e',S',k',ex,ht,ap,hn,q⟩:=r
   haveI er:ERes c as (fS env++X) s.heap XX (.ref e) s':=⟨k,H',as',e,t,ts,rfl,hE1 e',S',hK1 k',ex,ht,λa ha=>⟨(ap a ha).1.imp id g.none,(ap a ha).2⟩,q⟩
   dsimp only [leaving]
   refine wpAny_bind (er.note (λas'' _ _ e'' k'' S'' hZ=>fr1 e'' k'' S'' hZ hn) λs'' er' tr _=>er'.fly tr λs₃ er₃ _=>?_)
   exact er₃.less (λb hb=>aB _ hb) hless
  induction fl with
  |next=>
   refine gx q ?_
   intro ρ' H' as' e S' k _ _ q
   exact fin e S' k .none q
  |ret y=>
   refine kF q ?_
   intro v H' as' e S' k hv q
   exact fin e S' k hv q
  |_=>exact q.elim
theorem yY{c:Cx}:SC c 0:=⟨λ_ _ _ _ _ _ h=>h.elim⟩
theorem Aj{gl:List (Str×Gl)}{c:Cx}(C:Cok c gl)(hf:∀x f b,gl.lookup x=some (.fn f b)->∃fn,c.P.fns f=some fn)(ok:∀f fn,c.P.fns f=some fn->Nonempty (FOk c gl f fn)){n:Nat}:SC c n:=by
 induction n with
 |zero=>exact yY
 |succ n ih=>exact x7 C hf ok ih
theorem lI:∀{ps:List Str} {xs:List Value},ps.length=xs.length->∀{x:Str},x∈ps->((ps.zip xs).lookup x).isSome=true
 |[],_,_,x,h=>by cases h
 |_::_,[],h,_,_=>by cases h
 |p::ps,y::xs,hl,x,h=>by
  simp only [dy,aK]
  cases hx:x==p with
  |true=>rfl
  |false=>
   simp only
   refine lI (by simpa using hl) ?_
   refine eK (h) (λe_=>?_) λh=>?_
   ·replace e_:=Eq.symm e_;subst e_;simp at hx
   ·exact h
theorem pO{α β:Type}{f g:α->Option β}:∀{l:List α},(∀a∈l,f a=g a)->l.filterMap f=l.filterMap g
 |[],_=>rfl
 |a::l,h=>by simp only [fb,fb,h a (.head _),pO λb hb=>h b (.tail _ hb)]
theorem i5:∀{ps:List Str} {xs:List Value},ps.length=xs.length->ps.Nodup->ps.filterMap (λn=>((ps.zip xs).lookup n).map (n,·))=ps.zip xs
 |[],[],_,_=>rfl
 |_::_,[],h,_=>by simp at h
 |[],_::_,h,_=>by simp at h
 |p::ps,y::xs,hl,hn=>by
  have hn':=bD.mp hn
  simp only [dy,fb]
  simp only [aK,BEq.rfl,fj]
  congr 1
  haveI:∀n∈ps,((match n==p with|true=>some y|false=>(ps.zip xs).lookup n).map (n,·))=((ps.zip xs).lookup n).map (n,·):=λn h=>by
   haveI:(n==p)=false:=by simp;rintro rfl;exact hn'.1 h
   rw [this]
  exact(pO this).trans (i5 (xs:=xs) (by simpa using hl) hn'.2)
theorem sB{α β:Type}{x:Sem α}{a:α}{f:α->Sem β}{r:Sem β}(h:x=pure a)(k:f a=r):(x>>= f)=r:=by subst h;exact k
theorem sI{α:Type}{c:Bool}{A B r:Sem α}(h:c=false)(k:B=r):(if c=true then A else B)=r:=by subst h;exact k
theorem sV{name qual:Str}{args:List Arg}{kd:List (Option Expr)}{df:List Expr}{body:List Stmt}{scope:Scope}{pm cd doc:Value}{xs:List Value}{ps:List Str}(hp:args.map (·.arg)=ps)(hl:decide (xs.length>ps.length)=false)
  (hm:((ps.take ps.length).filter λn=>((ps.zip xs).lookup n).isNone)=[])(hz:ps.filterMap (λn=>((ps.zip xs).lookup n).map (n,·))=ps.zip xs) :
  bindArgs (methDef name qual ⟨[],args,none,[],kd,none,df⟩ body scope pm cd doc) ⟨xs,[]⟩=pure (ps.zip xs):=by
 subst hp
 haveI hd:∀k,List.drop k (((none:Option (Array Value)).getD #[]).toList)=[]:=λk=>List.drop_nil
 refine sB (α:=List (Str×Value)×List (Str×Value)) rfl ?_
 refine sB (a:=none) rfl ?_
 refine sI ?_ ?_
 ·exact congrArg (·&&true) hl
 refine sI ?_ ?_
 ·rw [hd];exact congrArg (λl:List Str=>!l.isEmpty) hm
 refine sB (a:=(args.map (·.arg)).zip xs) (by rw [hd,List.zip_nil_right];rfl) ?_
 refine sB rfl ?_
 refine sI rfl ?_
 refine congrArg pure ?_
 exact(congrArg (λl=>List.filterMap _ l) (aN _)).trans hz
theorem p4{name qual:Str}{params:Arguments}{body:List Stmt}{scope:Scope}{pm cd doc:Value}(h1:params.posonlyargs=[])(h2:params.vararg=none)(h3:params.kwonlyargs=[])(h4:params.kwarg=none)
  (hn:(params.args.map (·.arg)).Nodup){xs:List Value}(hl:xs.length=(params.args.map (·.arg)).length):bindArgs (methDef name qual params body scope pm cd doc) ⟨xs,[]⟩=pure ((params.args.map (·.arg)).zip xs):=by
 obtain⟨a,b,c,d,e,f,g⟩:=params
 subst h1
 subst h2
 subst h3
 subst h4
 refine sV rfl (decide_eq_false λh=>absurd hl (dI h)) ?_ (i5 hl.symm hn)
 refine jY.mpr λn hn' e=>?_
 haveI:=lI hl.symm (kO hn')
 rw [eY.mp e]at this
 exact nomatch this
noncomputable def nb(d:DefRec):List Str:=d.params.args.map (·.arg)
noncomputable def iy(d:DefRec):List Str:=(d.scope.names.filter λp=>(decide (p.2=.local)||decide (p.2=.cell))&& !(nb d).contains p.1).map (·.1)
noncomputable def jc(x:Str):Bool:=x==("_law_kinds":Str)
noncomputable def DK(gl:List (Str×Gl))(mu:List (Nat×Nat))(fz:List (Nat×List Nat))(d:DefRec):Tb:=
 {gl,meths:=[],names:=d.scope.names,tab:=(nb d++iy d).zipIdx,n:=(nb d).length+(iy d).length,mu,q:=jc d.name}
noncomputable def zm(d:DefRec):Bool:=
 d.params.posonlyargs.isEmpty&&d.params.vararg.isNone&&d.params.kwonlyargs.isEmpty&&d.params.kwarg.isNone&&decide (nb d).Nodup&&
 (nb d).all (λx=>decide (d.scope.names.lookup x=some .local)||decide (d.scope.names.lookup x=some .cell))&&
 decide (d.scope.names.map (·.1)).Nodup&&d.scope.names.all (λp=>decide (p.2≠.free))&&decide (d.scope.kind=.function)&& !d.scope.isCoroutine&& !d.scope.isGenerator
noncomputable def nY(gl:List (Str×Gl))(mu:List (Nat×Nat))(fz:List (Nat×List Nat))(d:DefRec):Option Fn:=
 if zm d then(Ga 60 (DK gl mu fz d) d.body).map λb=>⟨(nb d).length,(iy d).length,b⟩else none
theorem qh{α:Type}(l:List α):l.zipIdx.map (·.2)=bo l.length:=by
 rw [List.zipIdx_eq_zip_range',List.map_snd_zip (by simp)]
 simp only [Cz]
theorem tb{l:List Str}{x:Str}{i:Nat}(h:l.zipIdx.lookup x=some i):l[i]? =some x:=by
 haveI:=mem_of_lookup h
 have h2:=d9.mp this
 simpa using h2
set_option tactic.hygienic true in
theorem Aq{c:Cx}{gl:List (Str×Gl)}{mu:List (Nat×Nat)}{fz:List (Nat×List Nat)}{d:DefRec}{f:Nat}{fn:Fn}{pm cd doc:Value}{qual:Str}(h:nY gl mu fz d=some fn)(hd:c.fdat f=methDef d.name qual d.params d.body d.scope pm cd doc)
  (hc:c.base.CodeRec cd qual)(hq:jc d.name=c.qf f):Nonempty (FOk c gl f fn):=by
 unfold nY at h
 split at h
 ·rename_i hok
  replace h:=aY.mp h
  refine ea1_2 h ?_
  intro b hb q_3
  subst q_3
  simp only [zm,cc,decide_eq_true_eq,GS,eY,a8,gG,Bool.not_eq_true']at hok
  obtain⟨⟨⟨⟨⟨⟨⟨⟨⟨⟨h1,h2⟩,h3⟩,h4⟩,h5⟩,h6⟩,h7⟩,h8⟩,h9⟩,h10⟩,h11⟩:=hok
  refine⟨⟨d.name,qual,d.params,d.body,d.scope,pm,cd,doc,nb d,DK gl mu fz d,60,hd,hc,rfl,hq,rfl,rfl,hb,
   λxs hl=>p4 h1 h2 h3 h4 h5 hl,rfl,h5,h6,?_,λx i hx hi=>?_,h7,h8,h9,h10,h11⟩⟩
  ·refine (?_:((nb d++iy d).zipIdx.map (·.2)).Nodup)
   rw [qh]
   exact List.nodup_range
  ·haveI:=tb (l:=nb d++iy d) hx
   replace this:=(bf hi).symm.trans this
   exact this
 ·exact du h
noncomputable def nc(recs:List DefRec)(gl:List (Str×Gl))(mu:List (Nat×Nat))(fz:List (Nat×List Nat))(cs:List (List Nat)):Prog:=
 {fns:=λf=>(recs[f]?).bind (nY gl mu fz),sub:=vX cs}
noncomputable def wH(h:HP)(x:Str):Bool:=
 match h.clsAt mainGlobals x with
 |some (_,_,cd)=>gM.all λn=>(h.nsMap cd.ns n).isNone
 |none=>false
noncomputable def wS(h:HP)(n:Str):Value:=(h.nsMap mainGlobals n).getD .none
noncomputable def Df(owns:List OwnSpec)(h:HP):Bool:=h.isNs mainGlobals&&owns.all λo=>h.ownExcOk o.name o.chain o.bm o.newId&&wH h o.name&&decide (o.bm=uf)&&(o.newId=="ValueError.__new__")&&o.chain.all λn=>owns.any λo'=>o'.name==n
noncomputable def uh(owns:List OwnSpec)(h:HP):List (List Bool):=owns.map λo=>owns.map λo'=>(wS h o.name::(o.chain.map (wS h)++o.bm)).contains (wS h o'.name)
noncomputable def An(cs:List (List Nat))(n:Nat):List (List Bool):=(bo n).map λk=>(bo n).map λj=>vX cs k j
def XSays(owns:List OwnSpec)(cs:List (List Nat))(h:HP):Prop:=
 ∃mg,h.Ns mainGlobals mg/\∀(k:Nat) o,owns[k]? =some o->∃C bm,mg o.name=some (.ref C)/\XC h C bm/\∀(j:Nat) o',owns[j]? =some o'->(Value.ref C::bm).contains ((mg o'.name).getD .none)=vX cs k j
theorem XSays.keeps{owns:List OwnSpec}{cs:List (List Nat)}{h h':HP}(x:XSays owns cs h)(hk:∀b o,h.get? b=some o->h'.get? b=some o):XSays owns cs h':=by
 refine ea1_2 x ?_
 intro mg hn r
 exact⟨mg,hn.keeps hk,λk o e=>let⟨C,bm,h1,h2,h3⟩:=r k o e;⟨C,bm,h1,h2.keeps hk,h3⟩⟩
theorem Ek{h:HP}{o:OwnSpec}(x:h.ownExcOk o.name o.chain o.bm o.newId=true)(y:wH h o.name=true)(_hb:o.bm=uf)(hi:o.newId="ValueError.__new__") :
  ∃C,h.nsMap mainGlobals o.name=some (.ref C)/\∀_:XTail h (o.chain.map (wS h)++o.bm),XC h C (o.chain.map (wS h)++o.bm):=by
 obtain⟨C,N,nm,q,bs,hdct,sn,sub,ab,col,dd,k0,k1,k2,k3,k5,hg,hC,hN,_⟩:=Fv x
 refine⟨C,hg,λT=>⟨hi▸hC,hN,λn hn=>?_,T⟩⟩
 unfold wH at y
 cases hf:h.clsAt mainGlobals o.name with
 |none=>replace y:=(hf)▸y;cases y
 |some z=>
  obtain⟨C',o',cd'⟩:=z
  simp only [hf]at y
  refine ea0_3 (Heap.clsAt_spec hf) ?_
  intro hn' ho' hd'
  rw [hg]at hn'
  obtain rfl:C=C':=by injection hn' with q1;injection q1
  rw [hC]at ho'
  replace ho':=ah ho'
  obtain rfl:=ho'
  replace hd':=by injection hd'
  obtain rfl:_=cd':=hd'
  exact eY.mp (a8.mp y n hn)
theorem tS{owns:List OwnSpec}{cs:List (List Nat)}{h:HP}(e:(Df owns h,uh owns h)=(true,An cs owns.length)):XSays owns cs h:=by
 haveI e2:=congrArg n4 e
 obtain⟨hn,hall⟩:=aj.mp (congrArg CC e)
 have all:∀o∈owns,h.ownExcOk o.name o.chain o.bm o.newId=true/\wH h o.name=true/\o.bm=uf/\o.newId="ValueError.__new__"/\∀n∈o.chain,∃o'∈owns,o'.name=n:=λo ho=>by
  haveI:=a8.mp hall o ho
  simp only [cc,decide_eq_true_eq,beq_iff_eq]at this
  obtain⟨⟨⟨⟨h1,h2⟩,h3⟩,h4⟩,h5⟩:=this
  refine⟨h1,h2,h3,h4,λn hn=>?_⟩
  refine ea1_2 (jr.mp (a8.mp h5 n hn)) ?_
  intro o' ho' q
  exact⟨o',ho',beq_iff_eq.mp q⟩
 have tail:∀(ch:List Str),(∀n∈ch,∃o'∈owns,o'.name=n)->XTail h (ch.map (wS h)++uf):=λch=>by
  induction ch with
  |nil=>intro _;exact .base
  |cons n ch ih=>
   intro hc
   refine ea1_2 (hc n (.head _)) ?_
   intro o' ho' q_3
   subst q_3
   refine zY (all o' ho') ?_
   intro h1 h2 h3 h4 h5
   obtain⟨C,N,nm,q,bs,hdct,sn,sub,ab,col,dd,k0,k1,k2,k3,k5,hg,hC,hN,_⟩:=Fv h1
   haveI hq:∀n∈gM,h.nsMap N n=none:=λn hn=>by
    unfold wH at h2
    cases hf:h.clsAt mainGlobals o'.name with
    |none=>replace h2:=(hf)▸h2;cases h2
    |some z=>
     obtain⟨C',o',cd'⟩:=z
     simp only [hf]at h2
     refine ea0_3 (Heap.clsAt_spec hf) ?_
     intro hn' ho' hd'
     rw [hg]at hn'
     obtain rfl:C=C':=by injection hn' with q1;injection q1
     rw [hC]at ho'
     replace ho':=ah ho'
     obtain rfl:=ho'
     replace hd':=by injection hd'
     obtain rfl:_=cd':=hd'
     exact eY.mp (a8.mp h2 n hn)
   refine(?_:XTail h ((h.nsMap mainGlobals o'.name).getD .none::(ch.map (wS h)++uf)))
   rw [hg]
   exact .own hC hN hq (ih λn hn=>hc n (.tail _ hn))
 refine⟨_,.of_isNs hn,λk o ho=>?_⟩
 refine zY (all o (aI ho)) ?_
 intro h1 h2 h3 h4 h5
 refine ea1_2 (Ek h1 h2 h3 h4) ?_
 intro C hg hx
 refine⟨C,_,hg,hx (by exact(h3)▸tail o.chain h5),λj o' ho'=>?_⟩
 haveI e3:=congrArg (λl=>(l[k]?.bind λr=>r[j]?)) e2
 haveI hk:=(ae.mp ho).1
 simp only [uh,An,aZ,ho,ho',fj,jo,gJ hk,gJ ((ae.mp ho').1)]at e3
 haveI e4:=ah e3
 simp only [<-e4]
 show _=(wS h o.name::_).contains _
 haveI hgC:wS h o.name=.ref C:=by unfold wS;rw [hg];rfl
 rw [hgC]
 rfl
noncomputable def Dv(owns:List OwnSpec)(cs:List (List Nat)):PySem.W.Hook:=
 ⟨Bool×List (List Bool),λs=>(Df owns s.heap,uh owns s.heap),λ_=>(true,An cs owns.length),λ_ h=>XSays owns cs h,λ_ _ e=>tS e,λ_ _ _ x hk=>x.keeps hk⟩
def glBi(x:String)(g:Gl):Prop:=match g with
 |.bi b=>bootBuiltins (Str.ofString x)=some (.builtin b)
 |.ty b=>bootBuiltins (Str.ofString x)=some (.type b)
 |_=>False
noncomputable def uP(recs:List DefRec):List (Str×Gl):=recs.zipIdx.map λp=>(p.1.name,.fn p.2 (jc p.1.name))
noncomputable def jh(x:Str):Gl->Bool
 |.bi b=>(bootBuiltins x).any λv=>match v with|.builtin b'=>b==b'|_=>false
 |.ty b=>(bootBuiltins x).any λv=>match v with|.type b'=>b==b'|_=>false
 |_=>false
noncomputable def rg(p:Program)(x:Str):V->Bool
 |.int i=>(match valOf p x with|some (.int j)=>decide (i=j)|_=>false)
 |.str t=>(match valOf p x with|some (.str u)=>decide (u=toS t)&&decide (t.length<=1000)|_=>false)
 |_=>false
set_option tactic.hygienic true in
theorem Ck{p:Program}{loose:List Str}{mean:ExcName->Option Value}{mg mb:Str->Option Value}{h:HP}(T:Top p loose mean mg mb h){c:Cx}{x:Str}{v:V}(e:rg p x v=true):∃y,mg x=some y/\∀as X h,VR c as X h v y:=by
 unfold rg at e
 split at e
 ·split at e
  ·rename_i i _ j hj
   refine ea1_2 (T.const x _ hj) ?_
   intro y h1 h2
   have:=of_decide_eq_true e
   subst this
   cases h2 h with
   |int _ t=>exact⟨_,h1,λ_ _ _=>.int _ _⟩
  ·cases e
 ·split at e
  ·rename_i t _ u hj
   refine ea1_2 (T.const x _ hj) ?_
   intro y h1 h2
   simp only [cc,decide_eq_true_eq]at e
   obtain⟨rfl,e2⟩:=e
   haveI hb:(1000:Nat)<=iu:=by decide
   cases h2 h with
   |str _ t=>exact⟨_,h1,λ_ _ _=>.str _ _ (by exact g9 e2 (g9 hb (by simp+arith only)))⟩
  ·cases e
 ·cases e
noncomputable def EM:Value->Option Addr
 |.ref a=>some a
 |_=>none
structure TopOk(p:Program)(loose:List Str)(csts:List (Str×V))(bis:List (Str×Gl)):Prop where
 csts:csts.all (λq=>rg p q.1 q.2)=true
 names:((recsOf p).map (·.name)).Nodup
 boot:bis.all (λq=>jh q.1 q.2)=true
 free:bis.all (λq=>decide (q.1≠"__name__")&&decide (q.1∉startupNames)&&decide (q.1∉loose)&&decide (q.1∉(recsOf p).map (·.name))&&decide (q.1∉(litsOf p).map (·.1))&&decide (q.1∉(clssOf p loose).map (·.name)))=true
theorem eC{α β:Type}[BEq α]{x:α}:∀{l m:List (α×β)} {v:β},(l++m).lookup x=some v->l.lookup x=some v\/m.lookup x=some v
 |[],_,_,h=>.inr h
 |(y,w)::l,m,v,h=>by
  simp only [pZ,aK]at h
  simp only [aK]
  refine om (o:=x==y) (λhx=>?_) (λhx=>?_)
  ·rw [hx];rw [hx]at h;exact .inl h
  ·rw [hx];rw [hx]at h;exact eC h
theorem uC{c:Cx}{as:bj}{X:List Addr}{h:HP}:∀{vs:List Value} {zs:List Int},IntsAre vs zs->VRs c as X h (zs.map V.int) vs:=by
 intro vs zs x
 induction x with
 |nil=>exact .nil
 |cons n t _ ih=>exact .cons (.int n t) ih
noncomputable def glC(csts:List (Str×V)):List (Str×Gl):=csts.map λq=>(q.1,.cst q.2)
noncomputable def glX(owns:List OwnSpec):List (Str×Gl):=owns.zipIdx.map λp=>(p.1.name,.exc p.2)
noncomputable def ww(p:Program)(loose:List Str):Option ClsRec:=(plainsOf p loose).head?
noncomputable def wu(m:MethRec):DefRec:=⟨m.name,m.params,m.body,m.scope,⟨0,0,0,0⟩⟩
noncomputable def eQ(p:Program)(loose:List Str):List DefRec:=recsOf p++(ww p loose).elim [] λk=>k.meths.map wu
noncomputable def nr(k:ClsRec):Nat:=k.meths.findIdx λm=>m.name==("__init__":Str)
noncomputable def FJ(p:Program)(k:ClsRec):Str×Gl:=(k.name,.cls (k.meths.zipIdx.map λq=>(q.1.name,(recsOf p).length+q.2)) k.statics ((recsOf p).length+nr k))
noncomputable def gC(p:Program)(loose:List Str)(csts:List (Str×V))(bis:List (Str×Gl)):List (Str×Gl):=uP (recsOf p)++(glX (ownsOf p)++((ww p loose).toList.map (FJ p)++(glC csts++bis)))
noncomputable def FO(k:ClsRec):Bool:=(k.statics.all λn=>match fastLookup "object" n with|some none=>true|_=>false)&&(k.meths.all λm=>(fastLookup "object" m.name).isSome)&&k.meths.any λm=>m.name==("__init__":Str)
theorem pB{n:Str}{y:Option Value}(h:fastLookup "object" n=some y):typeLookup (.type "object") n=pure y:=by simp only [typeLookup_type,builtinLookup_eq_fast,h]
theorem ji{α β:Type}{f:α->Str}(g:α->Nat->β){l:List α}{x:Str}{v:β}(h:(l.zipIdx.map λp=>(f p.1,g p.1 p.2)).lookup x=some v):∃i d,v=g d i/\l[i]? =some d/\f d=x:=by
 refine ea1_2 (az.mp (mem_of_lookup h)) ?_
 intro q hq e
 haveI h2:=d9.mp hq
 cases e
 exact⟨q.2,q.1,rfl,by simpa using h2,rfl⟩
inductive GlR(p:Program)(loose:List Str)(bis:List (Str×Gl))(x:Str):Gl->Prop
 |fn {i:Nat} {d:DefRec}:(recsOf p)[i]? =some d->d.name=x->GlR p loose bis x (.fn i (jc d.name))
 |exc {i:Nat} {d:OwnSpec}:(ownsOf p)[i]? =some d->d.name=x->GlR p loose bis x (.exc i)
 |cls {k:ClsRec} {g:Gl}:ww p loose=some k->(x,g)=FJ p k->GlR p loose bis x g
 |cst {v:V}:rg p x v=true->GlR p loose bis x (.cst v)
 |bi {g:Gl}:bis.lookup x=some g->jh x g=true->GlR p loose bis x g
theorem qe{p:Program}{loose:List Str}{csts:List (Str×V)}{bis:List (Str×Gl)}{x:Str}{g:Gl}(ok:TopOk p loose csts bis)(h:(gC p loose csts bis).lookup x=some g):GlR p loose bis x g:=by
 rcases eC h with h|h
 ·refine c8 (ji (λ(d:DefRec) i=>Gl.fn i (jc d.name)) h) ?_
  intro i d e hd hn
  subst e
  exact .fn hd hn
 rcases eC h with h|h
 ·refine c8 (ji (λ(_:OwnSpec) i=>Gl.exc i) h) ?_
  intro i d e hd hn
  (replace e:=Eq.symm e;subst e)
  exact .exc hd hn
 rcases eC h with h|h
 ·refine ea1_2 (az.mp (mem_of_lookup h)) ?_
  intro k hk e
  exact .cls (eG.mp hk) e.symm
 rcases eC h with h|h
 ·refine ea1_2 (az.mp (mem_of_lookup h)) ?_
  intro q hq e
  cases e
  exact .cst (a8.mp ok.csts _ hq)
 ·exact .bi h (a8.mp ok.boot _ (mem_of_lookup h))
theorem yJ{p:Program}{loose:List Str}{csts:List (Str×V)}{bis:List (Str×Gl)}{x:Str}{ms:List (Str×Nat)}{ats:List Str}{f:Nat}(ok:TopOk p loose csts bis)(h:(x,Gl.cls ms ats f)∈gC p loose csts bis):∃k,ww p loose=some k/\(x,Gl.cls ms ats f)=FJ p k:=by
 have F:∀{α:Type} {l:List α} {f':α->Str×Gl},(x,Gl.cls ms ats f)∈l.map f'->(∀q,f' q≠(x,Gl.cls ms ats f))->False:=λh hq=>(az.mp h).elim λq e=>hq q e.2
 rcases ct.mp h with h|h
 ·exact (F h λ_ e=>by cases e).elim
 rcases ct.mp h with h|h
 ·exact (F h λ_ e=>by cases e).elim
 rcases ct.mp h with h|h
 ·refine ea1_2 (az.mp h) ?_
  intro k hk e
  exact⟨k,eG.mp hk,e.symm⟩
 rcases ct.mp h with h|h
 ·exact (F h λ_ e=>by cases e).elim
 ·exact absurd (a8.mp ok.boot _ h) ag
theorem yD{x:Str}{b:String}(h:jh x (.bi b)=true):bootBuiltins x=some (.builtin b):=by
 rw [jh,E7]at h
 refine ea1_2 h ?_
 intro v e1 e2
 rw [e1]
 split at e2
 ·rw [eq_of_beq e2]
 ·cases e2
theorem yk{x:Str}{b:String}(h:jh x (.ty b)=true):bootBuiltins x=some (.type b):=by
 simp only [jh,E7]at h
 refine ea1_2 h ?_
 intro v e1 e2
 rw [e1]
 split at e2
 ·rw [eq_of_beq e2]
 ·cases e2
theorem yZ{p prog:Program}{w:World}{loose:List Str}{mean:ExcName->Option Value}{mg mb:Str->Option Value}{s:Shared}{bis:List (Str×Gl)}{csts:List (Str×V)}{mu:List (Nat×Nat)}{fz:List (Nat×List Nat)}{l:Addr}{items:Array Value}{zs:List Int}{d:DefRec}{f n:Nat}{fa:Addr}{cs:List (List Nat)}
  {Q E:Value->Shared->Prop}
  (T:Top p loose mean mg mb s.heap)(TC:TopC p loose mg s.heap)(hko:(ww p loose).all FO=true)(ok:TopOk p loose csts bis)(Y:XSays (ownsOf p) cs s.heap)(hcs:cs.length<=(ownsOf p).length)(hg:s.gens= #[])(hd:(recsOf p)[f]? =some d)(hfa:mg d.name=some (.ref fa))(hfn:∃fn,nY (gC p loose csts bis) mu fz d=some fn)
  (hall:∀d∈eQ p loose,∃fn,nY (gC p loose csts bis) mu fz d=some fn)
  (hl:s.heap.PlainList l items)(hi:IntsAre items.toList zs)(hlen:zs.length<=63)(hn:n<=300)
  (hlaw:aG (nc (eQ p loose) (gC p loose csts bis) mu fz cs) n f [.lst (zs.map V.int)] [] (λv _=>v=.bool true) (λ_ _=>False))
  (hR:∀s',(∀b o,s.heap.get? b=some o->s'.heap.get? b=some o)->s'.os=s.os->s'.gens= #[]->Q (.bool true) s') :
  wpAny (model prog w) callerA (call (.ref fa) [.ref l]) Q E s:=by
 obtain⟨KC,KN,mN,hK⟩:∃(C N:Addr) (mN:Str->Option Value),∀k,ww p loose=some k->mg k.name=some (.ref C)/\PlainAt s.heap k C N mN:=by
  try clear s;try clear PlainAt;try clear mg;try clear Value;try clear Option;try clear Str;try clear Addr;try clear hK;try clear KN;try clear KC;try clear hd;try clear hall;try clear Y;try clear hi;try clear hfn;try clear hcs;try clear hfa;try clear hko;try clear hn;try clear T;try clear hlen;try clear hR;try clear hl;try clear hlaw;try clear hg;try clear ok
  cases hk:ww p loose with
  |none=>exact⟨0,0,λ_=>none,nofun⟩
  |some k=>
   refine iW (TC k (List.mem_of_mem_head? hk)) ?_
   intro C N mN h1 h2
   try clear TC;try clear k
   exact⟨C,N,mN,λk' e=>by(replace e:=ah e;subst e);exact⟨h1,h2⟩⟩
 haveI hm:∀(i:Nat) d,(eQ p loose)[i]? =some d->(recsOf p)[i]? =some d\/∃k j m,ww p loose=some k/\i=(recsOf p).length+j/\k.meths[j]? =some m/\d=wu m:=λi d h=>by
  by_cases hlt:i<(recsOf p).length
  ·exact .inl ((bf hlt).symm.trans h)
  ·have h:=(cO (fT hlt)).symm.trans h
   try clear N;try clear C;try clear mN
   cases hk:ww p loose with
   |none=>replace h:=(hk)▸h;exact du h
   |some k=>
    rw [hk]at h
    haveI h:(k.meths.map wu)[i-(recsOf p).length]? =some d:=h
    rw [aZ]at h
    refine ea1_2 (aY.mp h) ?_
    intro m h1 h2
    try clear Option;try clear h
    exact .inr ⟨k,_,m,rfl,(gK (fT hlt)).symm,h1,h2.symm⟩
 have pick:∀g:Nat,∃q:Addr×FuncData,∀d,(eQ p loose)[g]? =some d->(∃qual o pm code doc,s.heap.get? q.1=some o/\o.data=.func q.2/\q.2=methDef d.name qual d.params d.body d.scope pm code doc/\s.heap.CodeRec code qual/\((recsOf p).length<=g->mN d.name=some (.ref q.1)/\o.cls=.type "function"))/\(g<(recsOf p).length->mg d.name=some (.ref q.1)):=λg=>by
  try clear ww
  cases hq:(eQ p loose)[g]? with
  |none=>exact⟨(0,default),λd e=>by cases e⟩
  |some d=>
   try clear loose;try clear p
   rcases hm g d hq with h|⟨k,j,m,hk,rfl,hj,rfl⟩
   ·refine zr (T.fn d (aI h)) ?_
    intro a o pm code doc h1 h2 h3 h4
    try clear T
    haveI hlt:=(ae.mp h).1
    exact⟨(a,_),λd' e=>by(replace e:=ah e;subst e);exact⟨⟨d.name,o,pm,code,doc,h2,h3,rfl,h4,λq=>absurd hlt (fp.mpr q)⟩,λ_=>h1⟩⟩
   ·refine Da ((hK k hk).2.meths m (aI hj)) ?_
    intro f o pm cd doc h1 h2 h3 h4 h5
    try clear hK;try clear k
    exact⟨(f,_),λd' e=>by(replace e:=ah e;subst e);exact⟨⟨_,o,pm,cd,doc,h2,h4,rfl,h5,λ_=>⟨h1,h3⟩⟩,λq=>absurd q (fp.mpr (ay _ _))⟩⟩
 obtain⟨F,hF⟩:=Classical.axiomOfChoice pick
 let c:Cx:={prog:=prog,w:=w,base:=s.heap,mg:=mg,mb:=mb,P:=nc (eQ p loose) (gC p loose csts bis) mu fz cs,os:=s.os,fad:=λg=>(F g).1,fdat:=λg=>(F g).2,xcls:=λk=>((((ownsOf p)[k]?).bind λo=>mg o.name).bind EM).getD 0,ccls:=λ_=>KC,qf:=λg=>((eQ p loose)[g]?).any λd=>jc d.name}
 have fns:∀g fn,c.P.fns g=some fn->∃d,(eQ p loose)[g]? =some d/\nY (gC p loose csts bis) mu fz d=some fn:=λg fn h=>bR.mp h
 have hqf:∀(g:Nat) d,(eQ p loose)[g]? =some d->c.qf g=jc d.name:=λg d h=>by show((eQ p loose)[g]?).any _=_;rw [h];rfl
 have inX:∀(i:Nat) d,(recsOf p)[i]? =some d->(eQ p loose)[i]? =some d:=λi d h=>(bf (ae.mp h).1).trans h
 have has:∀(i:Nat) d,(eQ p loose)[i]? =some d->∃fn,c.P.fns i=some fn:=λi d h=>by
  refine cU (hall d (aI h)) λfn hfn=>?_
  try clear hall
  exact⟨fn,by show((eQ p loose)[i]?).bind _=_;exact(h)▸hfn⟩
 have hX:∀(k:Nat) o,(ownsOf p)[k]? =some o->mg o.name=some (.ref (c.xcls k))/\∃bm,XC s.heap (c.xcls k) bm/\∀(j:Nat) o',(ownsOf p)[j]? =some o'->(Value.ref (c.xcls k)::bm).contains (.ref (c.xcls j))=vX cs k j:=by
  refine ea1_2 Y ?_
  try clear Y
  intro mg' hn' r
  haveI hmg:mg'=mg:=funext λx=>hn'.agree T.g x
  try clear hn';try clear hxs;try clear hrecs;try clear inX;try clear fns;try clear hF;try clear F;try clear hfn
  subst hmg
  have hcl:∀(k:Nat) o,(ownsOf p)[k]? =some o->mg' o.name=some (.ref (c.xcls k)):=λk o ho=>by
   refine dt (r k o ho) ?_
   intro C bm h1 _
   try clear r
   refine(?_:_=some (Value.ref (((((ownsOf p)[k]?).bind λo=>mg' o.name).bind EM).getD 0)))
   simp only [ho,jo,h1]
   rfl
  intro k o ho
  refine c8 (r k o ho) ?_
  intro C bm h1 h2 h3
  try clear r
  have hC:=h1.symm.trans (hcl k o ho)
  try clear hmg;try clear mg';try clear k;try clear C
  cases hC
  refine⟨h1,bm,h2,λj o' ho'=>?_⟩
  simp only [<-h3 j o' ho',hcl j o' ho']
  rfl
 haveI hbis:∀x g,bis.lookup x=some g->jh x g=true/\mg x=none/\mb x=bootBuiltins x:=λx g h=>by
  have hm:=mem_of_lookup h
  haveI h2:=a8.mp ok.free _ hm
  simp only [cc,decide_eq_true_eq]at h2
  exact⟨(a8.mp ok.boot _ hm),T.free x h2.1.1.1.1.2 h2.1.1.1.2 h2.1.1.2 h2.1.2 h2.2,T.builtins x h2.1.1.1.1.1⟩
 haveI hf:∀x g b,(gC p loose csts bis).lookup x=some (.fn g b)->∃fn,c.P.fns g=some fn:=λx g b h=>by
  cases qe ok h with
  |fn hd _=>exact has _ _ (inX _ _ hd)
  |cls _ e=>cases e
  |bi _ h=>exact absurd h ag
 haveI C:Cok c (gC p loose csts bis):=by
  refine⟨T.g,T.b,T.nolimit,λk hk=>?_,λx ms ats f h=>?_,λx g h=>?_,λg fn h=>?_⟩
  ·obtain ⟨r,hr⟩:∃r,cs[k]? =some r:=by
    try clear hr
    cases hq:cs[k]? with
    |none=>haveI hk':(cs[k]?).any (·.contains k)=true:=hk;replace hk':=(hq)▸hk';cases hk'
    |some r=>exact⟨r,rfl⟩
   obtain⟨_,bm,h2,h3⟩:=hX k _ (aH (aJ (ae.mp hr).1 hcs:k<(ownsOf p).length))
   try clear k;try clear hlt
   refine⟨bm,h2,λx j h=>?_⟩
   try clear h2;try clear bm;try clear cs;try clear r
   cases qe ok h with
   |exc hd _=>exact h3 j _ hd
   |cls _ e=>cases e
   |bi _ h=>exact absurd h ag
  ·haveI hk:=yJ ok h
   refine ea1_2 hk ?_
   try clear hk
   intro k hk e
   cases e
   obtain⟨_,P⟩:=hK k hk
   try clear hK
   rw [hk]at hko
   replace hko:=aj.mp (hko:FO k=true)
   refine ce (hko) λhko ki=>?_
   obtain⟨ks,km⟩:=aj.mp hko
   try clear hko
   have hmeth:∀(j:Nat) m,k.meths[j]? =some m->mN m.name=some (.ref (c.fad ((recsOf p).length+j)))/\(∃o,s.heap.get? (c.fad ((recsOf p).length+j))=some o/\o.cls=.type "function")/\∃fn,c.P.fns ((recsOf p).length+j)=some fn:=λj m hj=>by
    have hX:(eQ p loose)[(recsOf p).length+j]? =some (wu m):=by
     unfold eQ
     rw [cO (ay _ _),fv,hk]
     show(k.meths.map wu)[j]? =_
     rw [aZ,hj];rfl
    obtain⟨⟨_,o,_,_,_,e1,_,_,_,e5⟩,_⟩:=hF _ _ hX
    try clear hF
    obtain⟨e6,e7⟩:=e5 (ay _ _)
    try clear e5
    exact⟨e6,⟨o,e1,e7⟩,has _ _ hX⟩
   obtain⟨mi,hmi,hni⟩:∃mi,k.meths[nr k]? =some mi/\mi.name="__init__":=by
    refine ea1_2 (jr.mp ki) ?_
    intro m h1 h2
    try clear ki
    haveI hlt:k.meths.findIdx (λm=>m.name==("__init__":Str))<k.meths.length:=List.findIdx_lt_length.mpr ⟨m,h1,h2⟩
    exact⟨k.meths[nr k]'hlt,aH hlt,eq_of_beq (List.findIdx_getElem (w:=hlt))⟩
   refine ea0_3 (hmeth _ mi hmi) ?_
   intro i1 i2 i3
   try clear mi;try clear hmi
   refine⟨P.cls,P.quiet _ (.head _),P.quiet _ (.tail _ (.head _)),P.quiet _ (.tail _ (.tail _ (.head _))),λn hn=>⟨P.quiet n (aB _ hn),?_⟩,λn g e=>?_,hni▸i1,i2,i3⟩
   ·have:=a8.mp ks n hn
    try clear i3;try clear i2;try clear i1;try clear __init__;try clear nr;try clear hni;try clear km;try clear ks;try clear P;try clear e;try clear hk;try clear k
    cases hq:fastLookup "object" n with
    |none=>replace this:=(hq)▸this;cases this
    |some y=>
     cases y with
     |none=>exact pB hq
     |some y=>replace this:=(hq)▸this;cases this
   ·replace p:=ji (f:=λm:MethRec=>m.name) (g:=λ_ j=>(recsOf p).length+j) e
    refine c8 p ?_
    try clear p
    intro j m q_3 hj q_5
    subst q_3
    subst q_5
    try clear e
    refine ea0_3 (hmeth j m hj) ?_
    intro m1 m2 m3
    try clear j
    obtain⟨y,hy⟩:=cm.mp (a8.mp km m (aI hj))
    try clear Option;try clear km;try clear m;try clear hj
    exact⟨m1,m2,⟨y,pB hy⟩,m3⟩
  ·cases qe ok h with
   |fn hd e=>
    subst e
    exact⟨(hF _ _ (inX _ _ hd)).2 (ae.mp hd).1,λhb=>(hqf _ _ (inX _ _ hd)).trans hb⟩
   |exc hd e=>
    subst e
    refine ce (hX _ _ hd) λh1 q_=>cU q_ λbm q_=>ce q_ λ_ h3=>?_
    exact⟨h1,(h3 _ _ hd).symm.trans (by simp)⟩
   |cls hk e=>
    cases e
    exact(hK _ hk).1
   |cst h1=>exact Ck T h1
   |bi hl hb=>
    refine ea0_3 (hbis x g hl) ?_
    intro _ h2 h3
    cases g with
    |bi b=>exact⟨h2,h3.trans (yD hb)⟩
    |ty b=>exact⟨h2,h3.trans (yk hb)⟩
    |_=>exact absurd hb ag
  ·refine ea1_2 (fns g fn h) ?_
   intro d hd _
   try clear fns
   obtain⟨⟨_,o,pm,code,doc,e1,e2,_⟩,_⟩:=hF g d hd
   try clear hF;try clear d;try clear hd
   exact⟨o,e1,e2⟩
 have sc:=Aj (n:=n) C hf (λg fn h=>by
  refine ea1_2 (fns g fn h) ?_
  intro d hd hfn
  try clear fns
  obtain⟨⟨qual,o,pm,code,doc,e1,e2,e3,e4,_⟩,_⟩:=hF g d hd
  try clear hF
  exact Aq (qual:=qual) hfn e3 e4 (hqf g d hd).symm)
 obtain⟨fn,hfn⟩:=hfn
 have hfs:c.P.fns f=some fn:=by show((eQ p loose)[f]?).bind _=_;exact(inX _ _ hd)▸hfn
 haveI hfa':c.fad f=fa:=by
  haveI:=(hF f d (inX _ _ hd)).2 (ae.mp hd).1
  replace this:=(hfa).symm.trans this
  try clear hfs;try clear fn;try clear hfn
  cases this;rfl
 have S:SR c [] [] [] s:=⟨rfl,λ_ _ e=>e,hg,rfl,(λ_ _ e=>nomatch e),(λ_ _ _ e=>du e),n8⟩
 haveI hv:∀{vs:List Value} {zs:List Int},IntsAre vs zs->VRs c [] [] s.heap (zs.map V.int) vs:=λ{vs zs} h=>uC h
 have hbl:(zs.map V.int).length<=iu:=by
  rw [ak]
  have:(63:Nat)<=iu:=by decide
  exact g9 hlen (g9 this (by simp+arith only))
 haveI aok:ACk (c.qf f) callerA n:=⟨λ_=>rfl,aa (cD (bK (bO (by decide:claimMargin<=300) 1) (gL 2 hn)) 5) (by decide),dw (cD (bO (gL 10 hn) 4) 300) (by decide)⟩
 haveI run:=sc.run hfs aok (.no rfl) ⟨[],rfl,λ_ h=>nomatch h⟩ S (.cons (.lst (by simp) (by simp) hl (hv hi) hbl) .nil) hlaw
 subst hfa'
 refine wpAny_mono run (λy s' r=>?_) λ_ _ e=>e.none.elim
 try clear run;try clear aok;try clear S
 obtain⟨v,H',as',e,S',k,hv,rfl⟩:=r
 try clear e;try clear as';try clear H';try clear v;try clear k
 cases hv.inv
 exact hR s' S'.stays S'.os S'.gens
theorem wv{p prog:Program}{w:World}{loose:List Str}{mean:ExcName->Option Value}{mg mb:Str->Option Value}{s:Shared}{bis:List (Str×Gl)}{csts:List (Str×V)}{mu:List (Nat×Nat)}{fz:List (Nat×List Nat)}{l:Addr}{items:Array Value}{zs:List Int}{nm:Str}{f n:Nat}{fa:Addr}{fns:List Fn}{cs:List (List Nat)}
  {Q E:Value->Shared->Prop}
  (T:Top p loose mean mg mb s.heap)(TC:TopC p loose mg s.heap)(hko:(ww p loose).all FO=true)(ok:TopOk p loose csts bis)(Y:XSays (ownsOf p) cs s.heap)(hcs:cs.length<=(ownsOf p).length)(hg:s.gens= #[])(hfns:(eQ p loose).map (nY (gC p loose csts bis) mu fz)=fns.map some)(hnm:((recsOf p)[f]?).map (·.name)=some nm)(hfa:mg nm=some (.ref fa))
  (hl:s.heap.PlainList l items)(hi:IntsAre items.toList zs)(hlen:zs.length<=63)(hn:n<=300)
  (hlaw:aG (rD fns cs) n f [.lst (zs.map V.int)] [] (λv _=>v=.bool true) (λ_ _=>False))
  (hR:∀s',(∀b o,s.heap.get? b=some o->s'.heap.get? b=some o)->s'.os=s.os->s'.gens= #[]->Q (.bool true) s') :
  wpAny (model prog w) callerA (call (.ref fa) [.ref l]) Q E s:=by
 have hP:nc (eQ p loose) (gC p loose csts bis) mu fz cs=rD fns cs:=by
  unfold nc rD
  congr 1
  funext i
  haveI h:=congrArg (·[i]?) hfns
  simp only [aZ]at h
  cases h1:(eQ p loose)[i]? with
  |none=>
   rw [h1]at h
   cases h2:fns[i]? with
   |none=>rfl
   |some fn=>replace h:=(h2)▸h;exact du h
  |some d=>
   rw [h1]at h
   cases h2:fns[i]? with
   |none=>replace h:=(h2)▸h;cases h
   |some fn=>rw [h2]at h;exact ah h
 refine ea1_2 (aY.mp hnm) ?_
 intro d hd hdn
 have hall:∀d∈eQ p loose,∃fn,nY (gC p loose csts bis) mu fz d=some fn:=λd hd=>by
  haveI h:=bu (f:=nY (gC p loose csts bis) mu fz) hd
  rw [hfns]at h
  replace h:=az.mp h
  refine ea1_2 h ?_
  intro fn _ h
  exact⟨fn,h.symm⟩
 subst hdn
 exact yZ T TC hko ok Y hcs hg hd hfa (hall d (aP _ (aI hd))) hall hl hi hlen hn (hP▸hlaw) hR
end Mine
end
noncomputable section
namespace Mine
open PySem
theorem lz{F:V->Fm->AH->KS->Prop}{ok:AH->Prop}{K:KS}(Inv:List V->Fm->AH->Prop)(step:∀v vs ρ H,Inv (v::vs) ρ H->ok H/\∀K':KS,(∀ρ' H',Inv vs ρ' H'->K' ρ' H')->F v ρ H K')(fin:∀ρ H,Inv [] ρ H->ok H/\K ρ H) :
  ∀{items:List V} {ρ:Fm} {H:AH},Inv items ρ H->forL F ok items ρ H K
 |[],ρ,H,i=>fin ρ H i
 |v::vs,ρ,H,i=>⟨(step v vs ρ H i).1,(step v vs ρ H i).2 _ λ_ _ i'=>lz Inv step fin i'⟩
section
variable {P:Prog}{H:AH}{Q:QE}{a b:Int}
theorem dT:aU P false (.bop .add) [.int a,.int b] H=some (.int (a+b),H):=rfl
theorem nw:aU P false (.bop .sub) [.int a,.int b] H=some (.int (a-b),H):=rfl
theorem wx(ha:-10 ^ 12<=a/\a<=10 ^ 12)(hb:-10 ^ 12<=b/\b<=10 ^ 12):aU P false (.bop .mul) [.int a,.int b] H=some (.int (a*b),H):=by
 show(ml EU (.int a) (.int b)).map _=_
 have h1:bB a=true:=decide_eq_true ha
 haveI h2:bB b=true:=decide_eq_true hb
 refine(?_:ba _ (ba V.int (if(bB a&&bB b)=true then some (a*b)else none))=_)
 rw [h1,h2];rfl
theorem cT(hb:0<b):aU P false (.bop .mod) [.int a,.int b] H=some (.int (a%b),H):=by
 show ba _ (ba V.int (if 0<b then some (a%b)else none))=_
 rw [if_pos hb];rfl
theorem cN(hb:0<b)(hb':b<=10 ^ 12):aU P false (.bop .fdiv) [.int a,.int b] H=some (.int (a/b),H):=by
 show ba _ (ba V.int (if 0<b/\b<=10 ^ 12 then some (a/b)else none))=_
 rw [if_pos ⟨hb,hb'⟩];rfl
theorem ny:aU P false (.bop .pow) [.int 10,.int 9] H=some (.int 1000000000,H):=rfl
theorem fV{x y:List Char}(h:x.length+y.length<=au):aU P false (.bop .add) [.str x,.str y] H=some (.str (x++y),H):=by
 show ba _ (if x.length+y.length<=au then some (V.str (x++y))else none)=_
 rw [if_pos h];rfl
theorem jR{x y:List V}(h:x.length+y.length<=au):aU P false (.bop .add) [.tup x,.tup y] H=some (.tup (x++y),H):=by
 show ba _ (if x.length+y.length<=au then some (V.tup (x++y))else none)=_
 rw [if_pos h];rfl
theorem nI{x y:List V}(h:x.length+y.length<=au):aU P false (.bop .add) [.lst x,.lst y] H=some (.lst (x++y),H):=by
 show ba _ (if x.length+y.length<=au then some (V.lst (x++y))else none)=_
 rw [if_pos h];rfl
theorem i7:aU P false (.cop .lt) [.int a,.int b] H=some (.bool (decide (a<b)),H):=rfl
theorem EN:aU P false (.cop .le) [.int a,.int b] H=some (.bool (decide (a<=b)),H):=rfl
theorem kJ:aU P false (.cop .gt) [.int a,.int b] H=some (.bool (decide (b<a)),H):=rfl
theorem eD{x y x' y':V}(h1:rd H x=some x')(h2:rd H y=some y'):aU P false (.cop .eq) [x,y] H=some (.bool (fN x' y'),H):=by
 show ba _ ((rd H x).bind λx=>(rd H y).map λy=>fN x y)=_
 rw [h1,h2];rfl
theorem fE{x y x' y':V}(h1:rd H x=some x')(h2:rd H y=some y'):aU P false (.cop .ne) [x,y] H=some (.bool (!fN x' y'),H):=by
 show ba _ (ba _ ((rd H x).bind λx=>(rd H y).map λy=>fN x y))=_
 rw [h1,h2];rfl
theorem b9:rd H (.int a)=some (.int a):=rfl
theorem gR{s:List Char}:rd H (.str s)=some (.str s):=rfl
theorem rZ{vs:List V}(h1:V.datas vs=true)(h2:V.depths vs=0):rd H (.lst vs)=some (.lst vs):=by
 show(if(V.datas vs&&decide (V.depths vs+1<=50))=true then some (V.lst vs)else none)=_
 rw [h1,h2];rfl
theorem ff:rd H (.lst [])=some (.lst []):=rfl
theorem rP:fN (.int a) (.int b)=(a==b):=rfl
theorem BU{t:Bool}:aU P false .not [.bool t] H=some (.bool !t,H):=rfl
theorem lY:aU P false .neg [.int a] H=some (.int (-a),H):=rfl
theorem sA{xs:List V}:aU P false .len [.lst xs] H=some (.int xs.length,H):=rfl
theorem iG{xs:List Char}:aU P false .len [.str xs] H=some (.int xs.length,H):=rfl
theorem fi{xs:List V}:aU P false .len [.tup xs] H=some (.int xs.length,H):=rfl
theorem BL:aU P false .min [.int a,.int b] H=some (.int (min a b),H):=rfl
theorem fM(h:-10 ^ 12<=b/\b<=10 ^ 12):aU P false .range1 [.int b] H=some (.rng 0 b,H):=by
 exact if_pos (decide_eq_true h:bB b=true)
theorem s2(ha:-10 ^ 12<=a/\a<=10 ^ 12)(h:-10 ^ 12<=b/\b<=10 ^ 12):aU P false .range2 [.int a,.int b] H=some (.rng a b,H):=by
 haveI h1:bB b=true:=decide_eq_true h
 haveI h2:bB a=true:=decide_eq_true ha
 refine(?_:(if(bB a&&bB b)=true then some (V.rng a b,H)else none)=_)
 rw [h1,h2];rfl
theorem fB{vs:List V}(h:vs.length<=au):aU P false .mklist vs H=some (.lst vs,H):=by
 exact if_pos h
theorem kg{vs:List V}(h:vs.length<=au):aU P true .mklist vs H=some (.ref H.length,H++[.list vs]):=by
 show(if vs.length<=au then some (V.lst vs,H)else none).bind _=_
 rw [if_pos h];rfl
theorem eT{vs:List V}(h:vs.length<=au):aU P false .mktup vs H=some (.tup vs,H):=by
 exact if_pos h
theorem fe{i:Nat}{vs:List V}{x:V}(h:H[i]? =some (.list vs))(hl:vs.length<=au):aU P false .append [.ref i,x] H=some (.none,H.set i (.list (vs++[x]))):=by
 show((H[i]?.bind O.lst).bind _).bind _=_
 rw [h]
 exact if_pos hl
theorem ul{i:Nat}{vs:List V}{x:V}(h:H[i]? =some (.list (vs++[x])))(hl:vs.length+1<=au):aU P false .pop [.ref i] H=some (x,H.set i (.list vs)):=by
 show((H[i]?.bind O.lst).bind _).bind _=_
 rw [h]
 show(if(vs++[x]).length<=au then _ else _)=_
 rw [af,zZ,if_pos hl,List.getLast?_append,List.dropLast_concat];rfl
theorem dX{i:Nat}{vs:List V}(h:H[i]? =some (.list vs)):lu H (.ref i) .list=true:=by show(H[i]?.bind O.lst).isSome=_;rw [h];rfl
theorem hE{p:Option (V×AH)}{v:V}{H':AH}(e:p=some (v,H'))(q:Q v H'):gi p Q:=by subst e;exact q
theorem hB{t:Bool}{K:Bool->Prop}(q:K t):l8 (eB (.bool t)) K:=q
theorem sz(n:Nat)(h:n<=1000):n<=au:=aa h (by decide)
end
noncomputable def Fk(p:Int->Bool):V->Option V
 |.int z=>if p z then some (.int z)else none
 |_=>none
section
variable {P:Prog}{C:Calls}{ρ:Fm}{H:AH}{K:KS}{R:QE}{X:XE}{ss:List St}
theorem d7{i:Nat}{e:Ex}(h:cH P C e ρ H (λv H'=>i<ρ.length/\bh P C ss (ρ.set i (some v)) H' K R X) X):bh P C (.asg i e::ss) ρ H K R X:=h
theorem st_expr{e:Ex}(h:cH P C e ρ H (λ_ H'=>bh P C ss ρ H' K R X) X):bh P C (.expr e::ss) ρ H K R X:=h
theorem n1{e:Ex}(h:cH P C e ρ H R X):bh P C (.ret e::ss) ρ H K R X:=h
theorem tR{rev:Bool}{tgt:Nat ⊕ List Nat}{e:Ex}{body:List St}(h:cH P C e ρ H (λv H₁=>∃items,gE rev H₁ v=some items/\items.length<=au/\
   forL (λx ρ' H' K'=>match eM ρ' tgt x with|some ρ''=>bh P C body ρ'' H' K' R (λ_ _=>False)|none=>False)
    (λH'=>gE rev H' v=some items) items ρ H₁ (λρ' H'=>bh P C ss ρ' H' K R X)) X):bh P C (.forIn rev tgt e body::ss) ρ H K R X:=h
theorem Gw{p q:Prop}(h:p):if true=true then p else q:=by exact h
theorem GE{p q:Prop}(h:q):if false=true then p else q:=by exact h
end
section
variable {P:Prog}{H:AH}{Q:QE}{a b:Int}
theorem zS{K:Bool->Prop}(q:K (decide (a<=b))):l8 (gw .le (.int a) (.int b) H) K:=q
theorem mV:∀bs:List Bool,j9 (bs.map V.bool)=some bs
 |[]=>rfl
 |b::bs=>by show(j9 (bs.map V.bool)).map _=_;rw [mV bs];rfl
theorem wp{bs:List Bool}:aU P false .all [.lst (bs.map V.bool)] H=some (.bool (bs.all id),H):=by
 show(j9 (bs.map V.bool)).map _=_
 rw [mV];rfl
theorem x6{xs:List V}{i:Int}(h0:0<=i)(h1:i<xs.length):∃v,v∈xs/\aU P false .item [.lst xs,.int i] H=some (v,H):=by
 haveI h2:i.toNat<xs.length:=(dJ h0).mpr h1
 refine⟨xs[i.toNat],fU h2,?_⟩
 refine(?_:((sM xs.length i).bind _).map _=_)
 simp only [jo,sM,h0,h1,if_true,aH h2,fj]
theorem rQ{n j:Nat}(h:j<n):sM n (j:Int)=some j:=(if_pos (bH j)).trans (if_pos (bZ.mpr h))
theorem ik{vs:List V}{j:Nat}{v:V}(hj:vs[j]? =some v):aU P false .item [.lst vs,.int j] H=some (v,H):=by
 show((sM vs.length j).bind λj=>vs[j]?).map _=_
 rw [rQ (ae.mp hj).1]
 exact congrArg (ba _) hj
theorem t9{vs:List V}{j:Nat}{v:V}(hj:vs[j]? =some v):aU P false .item [.tup vs,.int j] H=some (v,H):=ik (P:=P) hj
end
def sR:V->Prop
 |.none|.bool _|.int _|.str _=>True
 |_=>False
def good:V->Prop
 |.none|.bool _|.int _|.str _|.lst _|.dct _ _=>True
 |.tup vs=>∀v∈vs,sR v
 |_=>False
theorem fX:∀{vs:List V},(∀v∈vs,sR v)->V.datas vs=true/\V.depths vs=0
 |[],_=>⟨rfl,rfl⟩
 |v::vs,h=>by
  obtain⟨h1,h2⟩:=fX λw hw=>h w (.tail _ hw)
  have ha:=h v (.head _)
  refine⟨?_,?_⟩
  ·show (V.data v&&V.datas vs)=true
   rw [h1]
   cases v<;>first|exact ha.elim|rfl
  ·show max (V.depth v) (V.depths vs)=0
   rw [h2]
   cases v<;>first|exact ha.elim|rfl
theorem Az{vs:List V}{H:AH}(h:∀v∈vs,sR v):rd H (.lst vs)=some (.lst vs):=by
 exact rZ (fX h).1 (fX h).2
section
variable {P:Prog}{H:AH}{Q:QE}{a b:Int}
theorem zP{v:V}{vs:List V}:aU P false .item [.lst (v::vs),.int 0] H=some (v,H):=ik (j:=0) rfl
theorem n2{s:List Char}(h:s.length<=au):aU P false .slice [.str s,.none,.int b] H=some (.str (bq s 0 (jM s.length b)),H):=by
 show ba _ (if s.length<=au then _ else _)=_
 rw [if_pos h];rfl
theorem lf{s:List Char}(h:s.length<=au):aU P false .slice [.str s,.int a,.none] H=some (.str (bq s (jM s.length a) s.length),H):=by
 show ba _ (if s.length<=au then _ else _)=_
 rw [if_pos h];rfl
theorem o9{s:List V}(h:s.length<=au):aU P false .slice [.lst s,.int a,.none] H=some (.lst (bq s (jM s.length a) s.length),H):=by
 show ba _ (if s.length<=au then _ else _)=_
 rw [if_pos h];rfl
theorem jN{i:Nat}{vs:List V}(h:H[i]? =some (.list vs)):aU P false .len [.ref i] H=some (.int vs.length,H):=by
 show(yo _ (H[i]?.bind O.lst)).map _=_
 rw [h];rfl
theorem Cd{vs:List V}(h2:V.datas vs=true)(h3:V.depths vs<=50):CJ vs=true:=by
 show(V.datas vs&&decide (V.depths vs<=50))=true
 simp only [h2,decide_eq_true h3];rfl
end
mutual
theorem vP:∀v:V,v.data=true->fN v v=true
 |.none,_=>rfl
 |.bool b,_=>beq_self_eq_true b
 |.int i,_=>beq_self_eq_true i
 |.str s,_=>beq_self_eq_true s
 |.tup vs,h=>gy vs h
 |.lst vs,h=>gy vs h
 |.dct _ _,h=>nomatch h
 |.rng _ _,h=>nomatch h
 |.ref _,h=>nomatch h
theorem gy:∀vs:List V,V.datas vs=true->oa vs vs=true
 |[],_=>rfl
 |v::vs,h=>by
  have h':(V.data v&&V.datas vs)=true:=h
  simp only [cc]at h'
  refine(?_:(fN v v&&oa vs vs)=true)
  simp only [vP v h'.1,gy vs h'.2]
  rfl
end
section
variable {P:Prog}{C:Calls}{ρ:Fm}{H:AH}{K:KS}{R:QE}{X:XE}{E:XE}{ss:List St}{a b c:Ex}{v x y z:V}{s t:Bool}
def Ev(P:Prog)(C:Calls)(ρ:Fm)(H:AH)(X:XE)(e:Ex)(v:V):Prop:=∀Q:QE,Q v H->cH P C e ρ H Q X
theorem ca{e:Ex}(h:Ev P C ρ H X e v)(q:v=x):Ev P C ρ H X e x:=q▸h
theorem ai:Ev P C ρ H X (.cst v) v:=λ_ q=>q
theorem ev_var{i:Nat}(h:ρ[i]? =some (some v)):Ev P C ρ H X (.var i) v:=λQ q=>by simp only [rN,h];exact q
theorem sy{p:Prim}(e:aU P false p [] H=some (z,H)):Ev P C ρ H X (.prim false p []) z:=λ_ q=>hE e q
theorem bw{p:Prim}(h:Ev P C ρ H X a x)(e:aU P false p [x] H=some (z,H)):Ev P C ρ H X (.prim false p [a]) z:=λ_ q=>h _ (hE e q)
theorem ev_p2{p:Prim}(h:Ev P C ρ H X a x)(h2:Ev P C ρ H X b y)(e:aU P false p [x,y] H=some (z,H)):Ev P C ρ H X (.prim false p [a,b]) z:=λ_ q=>h _ (h2 _ (hE e q))
theorem fc{p:Prim}{u:V}(h:Ev P C ρ H X a x)(h2:Ev P C ρ H X b y)(h3:Ev P C ρ H X c u)(e:aU P false p [x,y,u] H=some (z,H)):Ev P C ρ H X (.prim false p [a,b,c]) z:=λ_ q=>h _ (h2 _ (h3 _ (hE e q)))
theorem bG(h:Ev P C ρ H X a (.bool s)):Ev P C ρ H X (.prim false .not [a]) (.bool !s):=bw h BU
theorem bT(h:Ev P C ρ H X a (.bool s))(h2:s=false->Ev P C ρ H X b (.bool t)):Ev P C ρ H X (.or a b) (.bool (s||t)):=λQ q=>h _ (by
 cases s with
 |true=>exact q
 |false=>exact h2 rfl Q q)
theorem cI(h:Ev P C ρ H X a (.bool s))(h2:s=true->Ev P C ρ H X b (.bool t)):Ev P C ρ H X (.and a b) (.bool (s&&t)):=λQ q=>h _ (by
 cases s with
 |false=>exact q
 |true=>exact h2 rfl Q q)
theorem kC{i j k:Int}(h:Ev P C ρ H X a (.int i))(h2:Ev P C ρ H X b (.int j))(h3:Ev P C ρ H X c (.int k)):Ev P C ρ H X (.cmp2 a .le b .le c) (.bool (decide (i<=j)&&decide (j<=k))):=λQ q=>h _ (h2 _ (zS (by
 cases hd:decide (i<=j)with
 |false=>rw [hd]at q;exact GE q
 |true=>rw [hd]at q;exact Gw (h3 _ (zS q)))))
theorem bU{f:Nat}(h:Ev P C ρ H X a x)(hc:∀Q:QE,Q v H->C f [x] H Q X):Ev P C ρ H X (.call f [a]) v:=λQ q=>h _ (hc Q q)
theorem fk{f:Nat}(h:Ev P C ρ H X a x)(h2:Ev P C ρ H X b y)(hc:∀Q:QE,Q v H->C f [x,y] H Q X):Ev P C ρ H X (.call f [a,b]) v:=λQ q=>h _ (h2 _ (hc Q q))
theorem fR{f:Nat}(h:Ev P C ρ H X a x)(h2:Ev P C ρ H X b y)(h3:Ev P C ρ H X c z)(hc:∀Q:QE,Q v H->C f [x,y,z] H Q X):Ev P C ρ H X (.call f [a,b,c]) v:=λQ q=>h _ (h2 _ (h3 _ (hc Q q)))
theorem ev_ret{e:Ex}(h:Ev P C ρ H E e v)(q:R v H):bh P C (.ret e::ss) ρ H K R E:=h _ q
theorem bL{i:Nat}{e:Ex}(h:Ev P C ρ H E e v)(hi:i<ρ.length)(k:bh P C ss (ρ.set i (some v)) H K R E):bh P C (.asg i e::ss) ρ H K R E:=h _ ⟨hi,k⟩
theorem cr{as bs:List St}(h:Ev P C ρ H E c (.bool s))(yes:s=true->bh P C as ρ H (λρ' H'=>bh P C ss ρ' H' K R E) R E)(no:s=false->bh P C bs ρ H (λρ' H'=>bh P C ss ρ' H' K R E) R E):bh P C (.ite c as bs::ss) ρ H K R E:=h _ (by
 cases s with
 |false=>exact no rfl
 |true=>exact yes rfl)
end
noncomputable def fn0:Fn:=⟨1,0,[(.while_ (.cst (.bool true)) [.pass])]⟩
noncomputable def fn1:Fn:=⟨3,0,[(.ret (.and (.prim false (.isinst .int) [.var 0]) (.and (.prim false .not [(.prim false (.isinst .bool) [.var 0])]) (.cmp2 (.var 1) .le (.var 0) .le (.var 2)))))]⟩
noncomputable def fn2:Fn:=⟨1,0,[(.ite (.or (.prim false .not [(.prim false (.isinst .str) [.var 0])]) (.prim false .not [(.cmp2 (.cst (.int 1)) .le (.prim false .len [.var 0]) .le (.cst (.int 8)))])) [(.ret (.cst (.bool false)))] []),
 (.ret (.prim false .all [(.comp false (.prim false (.cop .in_) [.var 1,.cst (.str ['a','b','c','d','e','f','g','h','i','j','k','l','m','n','o','p','q','r','s','t','u','v','w','x','y','z'])]) (.var 0) none)]))]⟩
noncomputable def fn3:Fn:=⟨1,0,[(.ite (.prim false .not [(.prim false (.isinst .tuple) [.var 0])]) [(.ret (.cst (.bool false)))] []),
 (.ite (.prim false (.cop .eq) [(.prim false .len [.var 0]),.cst (.int 2)]) [(.ret (.and (.prim false (.cop .eq) [(.prim false .item [.var 0,.cst (.int 0)]),.cst (.str ['a','d','d'])]) (.call 1 [(.prim false .item [.var 0,.cst (.int 1)]),(.prim false (.bop .sub) [.cst (.int 0),.cst (.int 1000000000)]),.cst (.int 1000000000)])))] []),
 (.ret (.or (.prim false (.cop .eq) [.var 0,(.prim false .mktup [.cst (.str ['f','a','u','l','t'])])]) (.prim false (.cop .eq) [.var 0,(.prim false .mktup [.cst (.str ['l','e','a','v','e'])])])))]⟩
noncomputable def fn4:Fn:=⟨1,0,[(.ite (.or (.prim false .not [(.prim false (.isinst .tuple) [.var 0])]) (.or (.prim false (.cop .ne) [(.prim false .len [.var 0]),.cst (.int 3)]) (.prim false (.cop .ne) [(.prim false .item [.var 0,.cst (.int 0)]),.cst (.str ['w','o','r','k','e','r'])]))) [(.ret (.cst (.bool false)))] []),
 (.ret (.and (.call 2 [(.prim false .item [.var 0,.cst (.int 1)])]) (.prim false (.cop .in_) [(.prim false .item [.var 0,.cst (.int 2)]),(.prim false .mktup [.cst (.str ['a','l','w','a','y','s']),.cst (.str ['f','a','u','l','t','e','d']),.cst (.str ['n','e','v','e','r'])])])))]⟩
noncomputable def fn5:Fn:=⟨1,0,[(.ite (.or (.prim false .not [(.prim false (.isinst .tuple) [.var 0])]) (.or (.prim false (.cop .ne) [(.prim false .len [.var 0]),.cst (.int 6)]) (.prim false (.cop .ne) [(.prim false .item [.var 0,.cst (.int 0)]),.cst (.str ['w','a','r','d','e','n'])]))) [(.ret (.cst (.bool false)))] []),
 (.ite (.or (.prim false .not [(.call 2 [(.prim false .item [.var 0,.cst (.int 1)])])]) (.prim false (.cop .notin) [(.prim false .item [.var 0,.cst (.int 2)]),(.prim false .mktup [.cst (.str ['o','n','e']),.cst (.str ['r','e','s','t']),.cst (.str ['a','l','l'])])])) [(.ret (.cst (.bool false)))] []),
 (.ite (.or (.prim false .not [(.call 1 [(.prim false .item [.var 0,.cst (.int 3)]),.cst (.int 0),.cst (.int 1000000000)])]) (.prim false .not [(.call 1 [(.prim false .item [.var 0,.cst (.int 4)]),.cst (.int 1),.cst (.int 1000000000)])])) [(.ret (.cst (.bool false)))] []),
 (.ret (.and (.prim false (.isinst .tuple) [(.prim false .item [.var 0,.cst (.int 5)])]) (.cmp2 (.cst (.int 1)) .le (.prim false .len [(.prim false .item [.var 0,.cst (.int 5)])]) .le (.cst (.int 8)))))]⟩
noncomputable def fn6:Fn:=⟨1,4,[(.ite (.prim false .not [(.call 5 [.var 0])]) [(.ret (.cst (.bool false)))] []),
 (.asg 1 (.prim true .mklist [(.prim false .mktup [.var 0,.cst (.int 0)])])),
 (.asg 2 (.prim true (.mkdict []) [])),
 (.while_ (.prim false (.cop .gt) [(.prim false .len [.var 1]),.cst (.int 0)]) [(.asgTup [3,4] (.mcall .list false .pop (.var 1) [])),
 (.ite (.or (.prim false (.cop .gt) [.var 4,.cst (.int 6)]) (.and (.prim false .not [(.call 4 [.var 3])]) (.prim false .not [(.call 5 [.var 3])]))) [(.ret (.cst (.bool false)))] []),
 (.ite (.or (.prim false (.cop .in_) [(.prim false .item [.var 3,.cst (.int 1)]),.var 2]) (.prim false (.cop .eq) [(.prim false .len [.var 2]),.cst (.int 60)])) [(.ret (.cst (.bool false)))] []),
 (.setItem (.var 2) (.prim false .item [.var 3,.cst (.int 1)]) (.cst (.bool true))),
 (.ite (.call 5 [.var 3]) [(.expr (.mcall .list false .extend (.var 1) [(.comp false (.prim false .mktup [.var 5,(.prim false (.bop .add) [.var 4,.cst (.int 1)])]) (.prim false .item [.var 3,.cst (.int 5)]) none)]))] [])]),
 (.ret (.cst (.bool true)))]⟩
noncomputable def fn7:Fn:=⟨1,2,[(.asg 1 (.prim true .mklist [.var 0])),
 (.ite (.prim false (.cop .eq) [(.prim false .item [.var 0,.cst (.int 0)]),.cst (.str ['w','a','r','d','e','n'])]) [(.forIn false (.inl 2) (.prim false .item [.var 0,.cst (.int 5)]) [(.expr (.mcall .list false .extend (.var 1) [(.call 7 [.var 2])]))])] []),
 (.ret (.var 1))]⟩
noncomputable def fn8:Fn:=⟨3,0,[(.ret (.comp false (.var 3) (.var 0) (some (.prim false (.cop .gt) [.var 3,(.prim false (.bop .sub) [.var 1,.var 2])]))))]⟩
noncomputable def fn9:Fn:=⟨2,0,[(.ite (.prim false (.cop .lt) [.var 1,(.prim false .len [.var 0])]) [(.ret (.prim false .item [.var 0,.var 1]))] []),
 (.ret (.cst (.int 0)))]⟩
noncomputable def Eu:Fn:=⟨1,0,[(.ret (.and (.prim false (.isinst .int) [.var 0]) (.prim false .not [(.prim false (.isinst .bool) [.var 0])])))]⟩
noncomputable def A7:Fn:=⟨2,7,[(.asg 2 (.cst (.str ['a','b','c','d','e','f','g','h','i','j','k','l','m','n','o','p','q','r','s','t','u','v','w','x','y','z']))),
 (.asg 3 (.cst (.str []))),
 (.asg 4 (.prim false (.bop .fdiv) [.var 0,.cst (.int 48)])),
 (.forIn false (.inl 5) (.prim false .range1 [.cst (.int 8)]) [(.asg 3 (.prim false (.bop .add) [.var 3,(.prim false .item [.var 2,(.prim false (.bop .mod) [.var 4,.cst (.int 26)])])])),
 (.asg 4 (.prim false (.bop .fdiv) [.var 4,.cst (.int 26)]))]),
 (.asg 6 (.prim false (.bop .mod) [.var 0,.cst (.int 6)])),
 (.ite (.and (.prim false (.cop .eq) [.var 6,.cst (.int 0)]) (.prim false (.cop .lt) [.var 1,.cst (.int 9)])) [(.ret (.comp false (.prim false .slice [.var 3,.cst .none,(.prim false (.bop .add) [.var 9,.cst (.int 1)])]) (.prim false .range1 [.var 1]) none))] []),
 (.ite (.and (.prim false (.cop .eq) [.var 6,.cst (.int 1)]) (.prim false (.cop .lt) [.var 1,.cst (.int 9)])) [(.ret (.comp false (.prim false .slice [.var 3,(.prim false (.bop .sub) [.cst (.int 7),.var 9]),.cst .none]) (.prim false .range1 [.var 1]) none))] []),
 (.asg 3 (.prim false .slice [.var 3,.cst .none,(.prim false (.bop .mod) [(.prim false (.bop .fdiv) [.var 0,.cst (.int 6)]),.cst (.int 7)])])),
 (.ite (.and (.prim false (.cop .lt) [.var 6,.cst (.int 4)]) (.prim false (.cop .lt) [.var 1,.cst (.int 27)])) [(.asg 7 (.prim false .slice [.var 3,.cst .none,(.prim false (.bop .mod) [(.prim false (.bop .fdiv) [.var 0,.cst (.int 5)]),(.prim false (.bop .add) [(.prim false .len [.var 3]),.cst (.int 1)])])])),
 (.asg 8 (.prim false .slice [.var 3,(.prim false .len [.var 7]),.cst .none])),
 (.ret (.comp false (.prim false (.bop .add) [(.prim false (.bop .add) [.var 7,(.prim false .item [.var 2,(.prim false (.bop .mod) [(.prim false (.bop .add) [(.prim false (.bop .fdiv) [.var 0,.cst (.int 7)]),(.prim false (.bop .mul) [.cst (.int 7),.var 9])]),.cst (.int 26)])])]),.var 8]) (.prim false .range1 [.var 1]) none))] []),
 (.ret (.comp false (.prim false (.bop .add) [(.prim false (.bop .add) [.var 3,(.prim false .item [.var 2,(.prim false (.bop .fdiv) [.var 9,.cst (.int 26)])])]),(.prim false .item [.var 2,(.prim false (.bop .mod) [.var 9,.cst (.int 26)])])]) (.prim false .range1 [.var 1]) none))]⟩
noncomputable def xJ:Fn:=⟨2,7,[(.asg 2 (.prim true .mklist [(.prim true (.mkdict [['u','p'],['w','a','r','d','e','n'],['d','e','e','p'],['i','n','n','e','r'],['c','e','l','l']]) [(.prim false .neg [.cst (.int 1)]),.cst (.bool true),.cst (.int 1),(.prim true .mklist []),(.call 9 [.var 0,.cst (.int 2)])])])),
 (.forIn false (.inl 3) (.prim false .range2 [.cst (.int 1),.var 1]) [(.asg 4 (.prim false (.bop .add) [(.call 9 [.var 0,(.prim false (.bop .add) [.cst (.int 3),(.prim false (.bop .mod) [.var 3,.cst (.int 10)])])]),(.prim false (.bop .mul) [.cst (.int 11),(.prim false (.bop .fdiv) [.var 3,.cst (.int 10)])])])),
 (.asg 5 (.comp false (.var 9) (.prim false .range1 [(.prim false .len [.var 2])]) (some (.and (.prim false .item [(.prim false .item [.var 2,.var 9]),.cst (.str ['w','a','r','d','e','n'])]) (.prim false (.cop .lt) [(.prim false .len [(.prim false .item [(.prim false .item [.var 2,.var 9]),.cst (.str ['i','n','n','e','r'])])]),.cst (.int 8)]))))),
 (.ite (.prim false (.cop .ne) [.var 5,(.prim false .mklist [])]) [(.asg 6 (.prim false .item [.var 5,(.prim false (.bop .mod) [(.prim false (.bop .fdiv) [.var 4,.cst (.int 4)]),(.prim false .len [.var 5])])])),
 (.asg 7 (.and (.prim false (.cop .eq) [(.prim false (.bop .mod) [.var 4,.cst (.int 4)]),.cst (.int 3)]) (.prim false (.cop .lt) [(.prim false .item [(.prim false .item [.var 2,.var 6]),.cst (.str ['d','e','e','p'])]),.cst (.int 6)]))),
 (.expr (.mcall .list false .append (.prim false .item [(.prim false .item [.var 2,.var 6]),.cst (.str ['i','n','n','e','r'])]) [(.prim false .len [.var 2])])),
 (.asg 8 (.prim false (.bop .add) [(.prim false .item [(.prim false .item [.var 2,.var 6]),.cst (.str ['d','e','e','p'])]),.cst (.int 1)])),
 (.expr (.mcall .list false .append (.var 2) [(.prim true (.mkdict [['u','p'],['w','a','r','d','e','n'],['d','e','e','p'],['i','n','n','e','r'],['c','e','l','l']]) [.var 6,.var 7,.var 8,(.prim true .mklist []),(.prim false (.bop .fdiv) [.var 4,.cst (.int 32)])])]))] [])]),
 (.forIn false (.inl 3) (.prim false .range1 [(.prim false .len [.var 2])]) [(.ite (.and (.prim false .item [(.prim false .item [.var 2,.var 3]),.cst (.str ['w','a','r','d','e','n'])]) (.prim false (.cop .eq) [(.prim false .item [(.prim false .item [.var 2,.var 3]),.cst (.str ['i','n','n','e','r'])]),(.prim false .mklist [])])) [(.expr (.mcall .list false .append (.prim false .item [(.prim false .item [.var 2,.var 3]),.cst (.str ['i','n','n','e','r'])]) [(.prim false .len [.var 2])])),
 (.asg 8 (.prim false (.bop .add) [(.prim false .item [(.prim false .item [.var 2,.var 3]),.cst (.str ['d','e','e','p'])]),.cst (.int 1)])),
 (.expr (.mcall .list false .append (.var 2) [(.prim true (.mkdict [['u','p'],['w','a','r','d','e','n'],['d','e','e','p'],['i','n','n','e','r'],['c','e','l','l']]) [.var 3,.cst (.bool false),.var 8,(.prim true .mklist []),(.prim false (.bop .fdiv) [(.prim false .item [(.prim false .item [.var 2,.var 3]),.cst (.str ['c','e','l','l'])]),.cst (.int 7)])])]))] [])]),
 (.ret (.var 2))]⟩
noncomputable def C2:Fn:=⟨2,3,[(.asg 2 (.prim true .mklist [])),
 (.asg 3 (.prim false .mklist [.var 1])),
 (.while_ (.prim false (.cop .ne) [.var 3,(.prim false .mklist [])]) [(.asg 4 (.prim false .item [.var 3,.cst (.int 0)])),
 (.expr (.mcall .list false .append (.var 2) [.var 4])),
 (.asg 3 (.prim false (.bop .add) [(.prim false .item [(.prim false .item [.var 0,.var 4]),.cst (.str ['i','n','n','e','r'])]),(.prim false .slice [.var 3,.cst (.int 1),.cst .none])]))]),
 (.ret (.var 2))]⟩
noncomputable def C1:Fn:=⟨1,0,[(.ret (.prim false .item [(.prim false .mklist [.cst (.int 0),.cst (.int 1),.cst (.int 2),.cst (.int 1),.cst (.int 3),(.prim false (.bop .pow) [.cst (.int 10),.cst (.int 9)]),(.prim false (.bop .mod) [(.prim false (.bop .fdiv) [.var 0,.cst (.int 6)]),.cst (.int 9)]),(.prim false (.bop .mod) [(.prim false (.bop .fdiv) [.var 0,.cst (.int 6)]),(.prim false (.bop .add) [(.prim false (.bop .pow) [.cst (.int 10),.cst (.int 9)]),.cst (.int 1)])])]),(.prim false (.bop .mod) [.var 0,.cst (.int 8)])]))]⟩
noncomputable def DE:Fn:=⟨1,0,[(.ret (.prim false .item [(.prim false .mklist [.cst (.int 3),.cst (.int 1),(.prim false (.bop .pow) [.cst (.int 10),.cst (.int 9)]),.cst (.int 2),(.prim false (.bop .add) [.cst (.int 1),(.prim false (.bop .mod) [(.prim false (.bop .fdiv) [.var 0,.cst (.int 6)]),.cst (.int 12)])]),(.prim false (.bop .add) [.cst (.int 1),(.prim false (.bop .mod) [(.prim false (.bop .fdiv) [.var 0,.cst (.int 6)]),(.prim false (.bop .pow) [.cst (.int 10),.cst (.int 9)])])])]),(.prim false (.bop .mod) [.var 0,.cst (.int 6)])]))]⟩
noncomputable def Ah:Fn:=⟨3,5,[(.asg 3 (.prim false .item [(.prim false .item [.var 0,.var 2]),.cst (.str ['c','e','l','l'])])),
 (.ite (.prim false .not [(.prim false .item [(.prim false .item [.var 0,.var 2]),.cst (.str ['w','a','r','d','e','n'])])]) [(.ret (.prim false .mktup [.cst (.str ['w','o','r','k','e','r']),(.prim false .item [.var 1,.var 2]),(.prim false .item [(.prim false .mklist [.cst (.str ['a','l','w','a','y','s']),.cst (.str ['f','a','u','l','t','e','d']),.cst (.str ['n','e','v','e','r']),.cst (.str ['f','a','u','l','t','e','d'])]),(.prim false (.bop .mod) [.var 3,.cst (.int 4)])])]))] []),
 (.asg 4 (.prim false .item [(.prim false .mklist [.cst (.str ['o','n','e']),.cst (.str ['r','e','s','t']),.cst (.str ['a','l','l'])]),(.prim false (.bop .mod) [.var 3,.cst (.int 3)])])),
 (.asg 5 (.prim false .mktup [])),
 (.forIn false (.inl 6) (.prim false .item [(.prim false .item [.var 0,.var 2]),.cst (.str ['i','n','n','e','r'])]) [(.asg 5 (.prim false (.bop .add) [.var 5,(.prim false .mktup [(.call 16 [.var 0,.var 1,.var 6])])]))]),
 (.asg 7 (.call 14 [(.prim false (.bop .fdiv) [.var 3,.cst (.int 3)])])),
 (.ite (.and (.prim false (.cop .eq) [.var 2,.cst (.int 0)]) (.prim false (.cop .gt) [(.prim false (.bop .mod) [(.prim false (.bop .fdiv) [.var 3,.cst (.int 3)]),.cst (.int 4)]),.cst (.int 0)])) [(.asg 7 (.prim false .min [(.prim false (.bop .pow) [.cst (.int 10),.cst (.int 9)]),(.prim false (.bop .add) [.var 7,.cst (.int 4)])]))] []),
 (.ret (.prim false .mktup [.cst (.str ['w','a','r','d','e','n']),(.prim false .item [.var 1,.var 2]),.var 4,.var 7,(.call 15 [(.prim false (.bop .fdiv) [.var 3,.cst (.int 24)])]),.var 5]))]⟩
noncomputable def AW:Fn:=⟨1,5,[(.asg 1 (.call 9 [.var 0,.cst (.int 0)])),
 (.asg 2 (.prim false (.bop .add) [.cst (.int 2),(.prim false (.bop .mod) [.var 1,.cst (.int 9)])])),
 (.ite (.prim false (.cop .eq) [(.prim false (.bop .mod) [(.prim false (.bop .fdiv) [.var 1,.cst (.int 9)]),.cst (.int 12)]),.cst (.int 1)]) [(.asg 2 (.cst (.int 30)))] []),
 (.asg 3 (.call 12 [.var 0,.var 2])),
 (.asg 4 (.call 11 [(.call 9 [.var 0,.cst (.int 1)]),(.prim false .len [.var 3])])),
 (.asg 5 (.comp false (.call 16 [.var 3,.var 4,.var 6]) (.prim false .range1 [(.prim false .len [.var 3])]) none)),
 (.ret (.prim false (.mkdict [['n','o','d','e','s'],['n','a','m','e','s'],['p','a','r','t','s'],['p','l','a','n'],['o','r','d','e','r']]) [.var 3,.var 4,.var 5,(.prim false .item [.var 5,.cst (.int 0)]),(.call 13 [.var 3,.cst (.int 0)])]))]⟩
noncomputable def EJ:Fn:=⟨1,0,[(.ite (.or (.prim false .not [(.prim false (.isinst .str) [.var 0])]) (.or (.prim false (.cop .lt) [(.prim false .len [.var 0]),.cst (.int 1)]) (.prim false (.cop .gt) [(.prim false .len [.var 0]),.cst (.int 8)]))) [(.ret (.cst (.bool false)))] []),
 (.ret (.prim false (.cop .eq) [(.comp false (.var 1) (.var 0) (some (.prim false (.cop .notin) [.var 1,.cst (.str ['a','b','c','d','e','f','g','h','i','j','k','l','m','n','o','p','q','r','s','t','u','v','w','x','y','z'])]))),(.prim false .mklist [])]))]⟩
noncomputable def EC:Fn:=⟨2,0,[(.ite (.or (.prim false .not [(.prim false (.isinst .tuple) [.var 0])]) (.or (.prim false (.cop .lt) [(.prim false .len [.var 0]),.cst (.int 3)]) (.or (.prim false .not [(.prim false (.isinst .str) [(.prim false .item [.var 0,.cst (.int 0)])])]) (.prim false .not [(.call 18 [(.prim false .item [.var 0,.cst (.int 1)])])])))) [(.ret (.cst (.bool false)))] []),
 (.ite (.prim false .not [(.prim false (.isinst .str) [(.prim false .item [.var 0,.cst (.int 2)])])]) [(.ret (.cst (.bool false)))] []),
 (.ite (.prim false (.cop .eq) [(.prim false .item [.var 0,.cst (.int 0)]),.cst (.str ['w','o','r','k','e','r'])]) [(.ret (.and (.prim false (.cop .eq) [(.prim false .len [.var 0]),.cst (.int 3)]) (.prim false (.cop .in_) [(.prim false .item [.var 0,.cst (.int 2)]),(.prim false .mklist [.cst (.str ['a','l','w','a','y','s']),.cst (.str ['f','a','u','l','t','e','d']),.cst (.str ['n','e','v','e','r'])])])))] []),
 (.ite (.or (.prim false (.cop .ne) [(.prim false .item [.var 0,.cst (.int 0)]),.cst (.str ['w','a','r','d','e','n'])]) (.or (.prim false (.cop .ne) [(.prim false .len [.var 0]),.cst (.int 6)]) (.or (.prim false (.cop .gt) [.var 1,.cst (.int 5)]) (.prim false (.cop .notin) [(.prim false .item [.var 0,.cst (.int 2)]),(.prim false .mklist [.cst (.str ['o','n','e']),.cst (.str ['r','e','s','t']),.cst (.str ['a','l','l'])])])))) [(.ret (.cst (.bool false)))] []),
 (.ite (.or (.prim false .not [(.call 10 [(.prim false .item [.var 0,.cst (.int 3)])])]) (.prim false .not [(.cmp2 (.cst (.int 0)) .le (.prim false .item [.var 0,.cst (.int 3)]) .le (.prim false (.bop .pow) [.cst (.int 10),.cst (.int 9)]))])) [(.ret (.cst (.bool false)))] []),
 (.ite (.or (.prim false .not [(.call 10 [(.prim false .item [.var 0,.cst (.int 4)])])]) (.prim false .not [(.cmp2 (.cst (.int 1)) .le (.prim false .item [.var 0,.cst (.int 4)]) .le (.prim false (.bop .pow) [.cst (.int 10),.cst (.int 9)]))])) [(.ret (.cst (.bool false)))] []),
 (.ite (.or (.prim false .not [(.prim false (.isinst .tuple) [(.prim false .item [.var 0,.cst (.int 5)])])]) (.prim false .not [(.cmp2 (.cst (.int 1)) .le (.prim false .len [(.prim false .item [.var 0,.cst (.int 5)])]) .le (.cst (.int 8)))])) [(.ret (.cst (.bool false)))] []),
 (.ret (.prim false (.cop .eq) [(.comp false (.var 2) (.prim false .item [.var 0,.cst (.int 5)]) (some (.prim false .not [(.call 19 [.var 2,(.prim false (.bop .add) [.var 1,.cst (.int 1)])])]))),(.prim false .mklist [])]))]⟩
noncomputable def DU:Fn:=⟨1,3,[(.asg 1 (.prim true .mklist [])),
 (.asg 2 (.prim false .mklist [.var 0])),
 (.while_ (.prim false (.cop .ne) [.var 2,(.prim false .mklist [])]) [(.asg 3 (.prim false .item [.var 2,.cst (.int 0)])),
 (.expr (.mcall .list false .append (.var 1) [(.prim false .item [.var 3,.cst (.int 1)])])),
 (.asg 2 (.prim false .slice [.var 2,.cst (.int 1),.cst .none])),
 (.ite (.prim false (.cop .eq) [(.prim false .item [.var 3,.cst (.int 0)]),.cst (.str ['w','a','r','d','e','n'])]) [(.asg 2 (.prim false (.bop .add) [(.prim false .list [(.prim false .item [.var 3,.cst (.int 5)])]),.var 2]))] [])]),
 (.ret (.var 1))]⟩
noncomputable def EF:Fn:=⟨1,1,[(.ite (.or (.prim false .not [(.call 19 [.var 0,.cst (.int 0)])]) (.prim false (.cop .ne) [(.prim false .item [.var 0,.cst (.int 0)]),.cst (.str ['w','a','r','d','e','n'])])) [(.ret (.cst (.bool false)))] []),
 (.asg 1 (.call 20 [.var 0])),
 (.ret (.and (.prim false (.cop .le) [(.prim false .len [.var 1]),.cst (.int 60)]) (.prim false (.cop .eq) [(.comp false (.var 2) (.var 1) (some (.prim false (.cop .gt) [(.mcall .list false .count (.var 1) [.var 2]),.cst (.int 1)]))),(.prim false .mklist [])])))]⟩
noncomputable def EQ:Fn:=⟨2,1,[(.ite (.prim false (.isinst .tuple) [.var 0]) [(.asg 2 (.prim false .mklist [(.prim false .list [.var 0]),(.prim false .slice [.var 0,.cst .none,(.prim false .neg [.cst (.int 1)])]),(.prim false (.bop .add) [.var 0,(.prim false .slice [.var 0,(.prim false .neg [.cst (.int 1)]),.cst .none])]),(.prim false .rev [.var 0,(.prim false .neg [.cst (.int 1)])]),(.prim false .mktup []),.cst .none,(.prim false .slice [.var 0,.cst (.int 1),.cst .none]),(.prim false (.bop .add) [.var 0,(.prim false .mktup [.var 0])]),.cst (.int 5)])),
 (.ret (.prim false .item [.var 2,(.prim false (.bop .mod) [.var 1,.cst (.int 9)])]))] []),
 (.ite (.prim false (.isinst .str) [.var 0]) [(.asg 2 (.prim false .mklist [(.prim false (.bop .add) [.var 0,.cst (.str ['a','b','c','d','e','f','g','h'])]),(.mcall .str false .upper (.var 0) []),.cst (.str []),(.prim false (.bop .add) [.var 0,.cst (.str [' '])]),.cst .none,(.prim false .slice [.var 0,.cst (.int 1),.cst .none]),.cst (.str ['n','e','v','e','r']),.cst (.str ['o','n','e']),.cst (.str ['w','a','r','d','e','n']),.cst (.str ['w','o','r','k','e','r'])])),
 (.ret (.prim false .item [(.prim false (.bop .add) [.var 2,(.prim false .mklist [.cst (.int 5),.cst (.str ['a','a']),(.prim false (.bop .add) [.var 0,.cst (.str ['\n'])]),(.prim false .mktup [.var 0])])]),(.prim false (.bop .mod) [.var 1,.cst (.int 14)])]))] []),
 (.asg 2 (.prim false .mklist [(.prim false (.bop .sub) [.var 0,.cst (.int 1)]),(.prim false (.bop .add) [.var 0,.cst (.int 1)]),(.prim false (.bop .add) [.var 0,(.prim false (.bop .pow) [.cst (.int 10),.cst (.int 9)])]),(.prim false (.bop .sub) [(.prim false .neg [.cst (.int 1)]),.var 0]),(.prim false (.cop .eq) [.var 0,.cst (.int 1)]),(.prim false .str [.var 0]),.cst .none,.cst (.int 0),(.prim false (.bop .add) [(.prim false (.bop .pow) [.cst (.int 10),.cst (.int 9)]),.cst (.int 1)]),(.prim false .mktup [.var 0])])),
 (.ret (.prim false .item [.var 2,(.prim false (.bop .mod) [.var 1,.cst (.int 10)])]))]⟩
noncomputable def D4:Fn:=⟨3,2,[(.ite (.or (.prim false (.cop .eq) [.var 2,.cst (.int 0)]) (.or (.prim false .not [(.prim false (.isinst .tuple) [.var 0])]) (.or (.prim false (.cop .eq) [.var 0,(.prim false .mktup [])]) (.prim false (.cop .eq) [(.prim false (.bop .mod) [.var 1,.cst (.int 5)]),.cst (.int 0)])))) [(.ret (.call 22 [.var 0,(.prim false (.bop .fdiv) [.var 1,.cst (.int 5)])]))] []),
 (.asg 3 (.prim false (.bop .mod) [(.prim false (.bop .fdiv) [.var 1,.cst (.int 5)]),(.prim false .len [.var 0])])),
 (.asg 4 (.call 23 [(.prim false .item [.var 0,.var 3]),(.prim false (.bop .fdiv) [(.prim false (.bop .fdiv) [.var 1,.cst (.int 5)]),(.prim false .len [.var 0])]),(.prim false (.bop .sub) [.var 2,.cst (.int 1)])])),
 (.ret (.prim false (.bop .add) [(.prim false (.bop .add) [(.prim false .slice [.var 0,.cst .none,.var 3]),(.prim false .mktup [.var 4])]),(.prim false .slice [.var 0,(.prim false (.bop .add) [.var 3,.cst (.int 1)]),.cst .none])]))]⟩
noncomputable def Ef:Fn:=⟨1,2,[(.asg 1 (.prim false .mklist [(.prim false (.isX (some 1)) [.var 0]),(.prim false (.isX (some 2)) [.var 0]),(.prim false (.isX (some 3)) [.var 0]),(.prim false (.isX (some 4)) [.var 0])])),
 (.asg 1 (.prim false (.bop .add) [.var 1,(.prim false .mklist [(.prim false (.isX (some 5)) [.var 0]),(.prim false (.isX (some 6)) [.var 0]),(.prim false (.isX (some 7)) [.var 0]),(.prim false (.isX (some 8)) [.var 0])])])),
 (.asg 2 (.comp false (.var 3) (.prim false .range1 [.cst (.int 8)]) (some (.prim false .item [.var 1,.var 3])))),
 (.ite (.prim false .not [(.prim false (.isX none) [.var 0])]) [(.ret (.prim false .mklist []))] []),
 (.ret (.var 2))]⟩
noncomputable def Ed:Fn:=⟨1,0,[(.ret (.and (.prim false (.isinst .list) [.var 0]) (.prim false (.cop .eq) [(.comp false (.var 1) (.var 0) (some (.prim false .not [(.prim false (.isinst .str) [.var 1])]))),(.prim false .mklist [])])))]⟩
noncomputable def Eo:Fn:=⟨1,1,[(.ite (.prim false .not [(.prim false (.isinst .list) [.var 0])]) [(.ret (.cst (.bool false)))] []),
 (.forIn false (.inl 1) (.var 0) [(.ite (.or (.prim false .not [(.prim false (.isinst .tuple) [.var 1])]) (.or (.prim false (.cop .lt) [(.prim false .len [.var 1]),.cst (.int 2)]) (.or (.prim false .not [(.prim false (.isinst .str) [(.prim false .item [.var 1,.cst (.int 0)])])]) (.prim false .not [(.prim false (.isinst .str) [(.prim false .item [.var 1,.cst (.int 1)])])])))) [(.ret (.cst (.bool false)))] []),
 (.ite (.and (.prim false (.cop .gt) [(.prim false .len [.var 1]),.cst (.int 2)]) (.prim false .not [(.call 10 [(.prim false .item [.var 1,.cst (.int 2)])])])) [(.ret (.cst (.bool false)))] []),
 (.ite (.and (.prim false (.cop .gt) [(.prim false .len [.var 1]),.cst (.int 3)]) (.or (.prim false (.cop .gt) [(.prim false .len [.var 1]),.cst (.int 4)]) (.prim false .not [(.prim false (.isinst .tuple) [(.prim false .item [.var 1,.cst (.int 3)])])]))) [(.ret (.cst (.bool false)))] [])]),
 (.ret (.cst (.bool true)))]⟩
noncomputable def DB:Fn:=⟨1,1,[(.tryE (.new 0 29 [.var 0]) 0 1 (.prim false (.cop .eq) [(.call 24 [.var 1]),(.prim false .mklist [.cst (.int 0)])])),
 (.ret (.cst (.bool false)))]⟩
noncomputable def Cu:Fn:=⟨1,7,[(.asg 1 (.call 17 [.var 0])),
 (.ite (.prim false (.cop .eq) [(.prim false (.bop .mod) [(.call 9 [.var 0,.cst (.int 13)]),.cst (.int 3)]),.cst (.int 1)]) [(.asg 2 (.call 23 [(.prim false .item [.var 1,.cst (.str ['p','l','a','n'])]),(.call 9 [.var 0,.cst (.int 14)]),.cst (.int 8)])),
 (.ite (.prim false .not [(.call 21 [.var 2])]) [(.ret (.call 27 [.var 2]))] [])] []),
 (.asg 3 (.new 0 29 [(.prim false .item [.var 1,.cst (.str ['p','l','a','n'])])])),
 (.asg 5 (.comp false (.prim false .item [(.prim false .item [.var 1,.cst (.str ['n','a','m','e','s'])]),.var 8]) (.prim false .item [.var 1,.cst (.str ['o','r','d','e','r'])]) none)),
 (.ite (.or (.prim false (.cop .isnot) [(.meth 0 43 ['i','s','_','o','p','e','n'] (.var 3) []),.cst (.bool true)]) (.or (.prim false .not [(.call 10 [(.meth 0 44 ['h','o','u','r'] (.var 3) [])])]) (.prim false (.cop .ne) [(.meth 0 44 ['h','o','u','r'] (.var 3) []),.cst (.int 0)]))) [(.ret (.cst (.bool false)))] []),
 (.ite (.or (.prim false .not [(.call 25 [(.meth 0 45 ['h','e','r','e'] (.var 3) [])])]) (.prim false (.cop .ne) [(.meth 0 45 ['h','e','r','e'] (.var 3) []),.var 5])) [(.ret (.cst (.bool false)))] []),
 (.asg 6 (.meth 0 46 ['h','i','s','t','o','r','y'] (.var 3) [])),
 (.ite (.or (.prim false .not [(.call 26 [.var 6])]) (.prim false (.cop .ne) [.var 6,(.comp false (.prim false .mktup [.cst (.str ['b','e','g','i','n','s']),.var 8]) (.var 5) none)])) [(.ret (.cst (.bool false)))] []),
 (.forIn false (.inl 4) (.prim false .item [.var 1,.cst (.str ['o','r','d','e','r'])]) [(.asg 7 (.prim false .item [(.prim false .item [.var 1,.cst (.str ['n','a','m','e','s'])]),.var 4])),
 (.ite (.and (.prim false .item [(.prim false .item [(.prim false .item [.var 1,.cst (.str ['n','o','d','e','s'])]),.var 4]),.cst (.str ['w','a','r','d','e','n'])]) (.prim false (.cop .ne) [(.meth 0 49 ['h','o','u','r','s'] (.var 3) [.var 7]),(.prim false .mklist [])])) [(.ret (.cst (.bool false)))] []),
 (.ite (.prim false .not [(.prim false .item [(.prim false .item [(.prim false .item [.var 1,.cst (.str ['n','o','d','e','s'])]),.var 4]),.cst (.str ['w','a','r','d','e','n'])])]) [(.ite (.or (.prim false (.cop .ne) [(.meth 0 47 ['w','a','i','t','s'] (.var 3) [.var 7]),(.prim false .mklist [])]) (.or (.prim false .not [(.call 10 [(.meth 0 48 ['s','u','m','_','o','f'] (.var 3) [.var 7])])]) (.prim false (.cop .ne) [(.meth 0 48 ['s','u','m','_','o','f'] (.var 3) [.var 7]),.cst (.int 0)]))) [(.ret (.cst (.bool false)))] [])] [])]),
 (.ret (.cst (.bool true)))]⟩
noncomputable def kK:Fn:=⟨2,1,[(.ite (.prim false .not [(.call 6 [.var 1])]) [(.raise 1)] []),
 (.setAttr (.var 0) ['p','l','a','n'] (.var 1)),
 (.setAttr (.var 0) ['r','o','w'] (.prim true .mklist [])),
 (.setAttr (.var 0) ['p','a','r','t','s'] (.prim true (.mkdict []) [])),
 (.setAttr (.var 0) ['c','h','i','e','f'] (.prim true .mkdict1 [(.prim false .item [.var 1,.cst (.int 1)]),.cst .none])),
 (.setAttr (.var 0) ['p','r','e','s','e','n','t'] (.prim true (.mkdict []) [])),
 (.setAttr (.var 0) ['s','u','m','s'] (.prim true (.mkdict []) [])),
 (.setAttr (.var 0) ['k','e','p','t'] (.prim true (.mkdict []) [])),
 (.setAttr (.var 0) ['q','u','e','u','e','s'] (.prim true (.mkdict []) [])),
 (.forIn false (.inl 2) (.call 7 [.var 1]) [(.expr (.meth 0 30 ['n','o','t','e'] (.var 0) [.var 2]))]),
 (.setAttr (.var 0) ['c','l','o','c','k'] (.cst (.int 0))),
 (.setAttr (.var 0) ['l','e','t','t','e','r','s'] (.cst (.int 0))),
 (.setAttr (.var 0) ['e','v','e','n','t','s'] (.prim true .mklist [])),
 (.expr (.meth 0 31 ['b','e','g','i','n'] (.var 0) [.var 1]))]⟩
noncomputable def Dc:Fn:=⟨2,1,[(.expr (.mcall .list false .append (.prim false (.attr ['r','o','w']) [.var 0]) [(.prim false .item [.var 1,.cst (.int 1)])])),
 (.setItem (.prim false (.attr ['p','a','r','t','s']) [.var 0]) (.prim false .item [.var 1,.cst (.int 1)]) (.var 1)),
 (.ite (.prim false (.cop .eq) [(.prim false .item [.var 1,.cst (.int 0)]),.cst (.str ['w','o','r','k','e','r'])]) [(.setItem (.prim false (.attr ['q','u','e','u','e','s']) [.var 0]) (.prim false .item [.var 1,.cst (.int 1)]) (.prim true .mklist []))] [(.forIn false (.inl 2) (.prim false .item [.var 1,.cst (.int 5)]) [(.setItem (.prim false (.attr ['c','h','i','e','f']) [.var 0]) (.prim false .item [.var 2,.cst (.int 1)]) (.var 1))])])]⟩
noncomputable def D2:Fn:=⟨2,1,[(.setItem (.prim false (.attr ['p','r','e','s','e','n','t']) [.var 0]) (.prim false .item [.var 1,.cst (.int 1)]) (.cst (.bool true))),
 (.expr (.mcall .list false .append (.prim false (.attr ['e','v','e','n','t','s']) [.var 0]) [(.prim false .mktup [.cst (.str ['b','e','g','i','n','s']),(.prim false .item [.var 1,.cst (.int 1)])])])),
 (.ite (.prim false (.cop .eq) [(.prim false .item [.var 1,.cst (.int 0)]),.cst (.str ['w','o','r','k','e','r'])]) [(.setItem (.prim false (.attr ['s','u','m','s']) [.var 0]) (.prim false .item [.var 1,.cst (.int 1)]) (.cst (.int 0)))] [(.setItem (.prim false (.attr ['k','e','p','t']) [.var 0]) (.prim false .item [.var 1,.cst (.int 1)]) (.prim true .mklist [])),
 (.forIn false (.inl 2) (.prim false .item [.var 1,.cst (.int 5)]) [(.expr (.meth 0 31 ['b','e','g','i','n'] (.var 0) [.var 2]))])])]⟩
noncomputable def FP:Fn:=⟨2,0,[(.expr (.call 0 [.cst (.int 0)]))]⟩
noncomputable def Gv:Fn:=⟨2,0,[(.expr (.call 0 [.cst (.int 1)]))]⟩
noncomputable def F9:Fn:=⟨2,0,[(.expr (.call 0 [.cst (.int 2)]))]⟩
noncomputable def GB:Fn:=⟨3,0,[(.expr (.call 0 [.cst (.int 3)]))]⟩
noncomputable def Gn:Fn:=⟨1,0,[(.expr (.call 0 [.cst (.int 4)]))]⟩
noncomputable def GP:Fn:=⟨1,0,[(.ite (.prim false .not [(.meth 0 43 ['i','s','_','o','p','e','n'] (.var 0) [])]) [(.raise 6)] [])]⟩
noncomputable def Dr:Fn:=⟨2,0,[(.ite (.or (.prim false .not [(.call 2 [.var 1])]) (.prim false (.cop .notin) [.var 1,(.prim false (.attr ['q','u','e','u','e','s']) [.var 0])])) [(.raise 3)] [])]⟩
noncomputable def Dz:Fn:=⟨2,0,[(.ite (.prim false (.cop .notin) [.var 1,(.prim false (.attr ['p','r','e','s','e','n','t']) [.var 0])]) [(.raise 4)] [])]⟩
noncomputable def Gx:Fn:=⟨3,0,[(.expr (.meth 0 37 ['n','e','e','d','_','o','p','e','n'] (.var 0) [])),
 (.ite (.prim false .not [(.call 3 [.var 2])]) [(.raise 2)] []),
 (.expr (.meth 0 38 ['n','e','e','d','_','w','o','r','k','e','r'] (.var 0) [.var 1])),
 (.expr (.meth 0 39 ['n','e','e','d','_','h','e','r','e'] (.var 0) [.var 1])),
 (.setAttr (.var 0) ['l','e','t','t','e','r','s'] (.prim false (.bop .add) [(.prim false (.attr ['l','e','t','t','e','r','s']) [.var 0]),.cst (.int 1)])),
 (.expr (.mcall .list false .append (.prim false .item [(.prim false (.attr ['q','u','e','u','e','s']) [.var 0]),.var 1]) [(.prim false .mktup [(.prim false (.attr ['l','e','t','t','e','r','s']) [.var 0]),.var 2])])),
 (.expr (.mcall .list false .append (.prim false (.attr ['e','v','e','n','t','s']) [.var 0]) [(.prim false .mktup [.cst (.str ['s','e','n','t']),.var 1,(.prim false (.attr ['l','e','t','t','e','r','s']) [.var 0]),.var 2])])),
 (.ret (.prim false (.attr ['l','e','t','t','e','r','s']) [.var 0]))]⟩
noncomputable def Gm:Fn:=⟨2,0,[(.expr (.call 0 [.cst (.int 5)]))]⟩
noncomputable def Gy:Fn:=⟨2,0,[(.expr (.call 0 [.cst (.int 6)]))]⟩
noncomputable def D6:Fn:=⟨1,0,[(.ret (.prim false (.cop .in_) [(.prim false .item [(.prim false (.attr ['p','l','a','n']) [.var 0]),.cst (.int 1)]),(.prim false (.attr ['p','r','e','s','e','n','t']) [.var 0])]))]⟩
noncomputable def C0:Fn:=⟨1,0,[(.ret (.prim false (.attr ['c','l','o','c','k']) [.var 0]))]⟩
noncomputable def Er:Fn:=⟨1,0,[(.ret (.comp false (.var 1) (.prim false (.attr ['r','o','w']) [.var 0]) (some (.prim false (.cop .in_) [.var 1,(.prim false (.attr ['p','r','e','s','e','n','t']) [.var 0])]))))]⟩
noncomputable def DG:Fn:=⟨1,0,[(.ret (.prim false .list [(.prim false (.attr ['e','v','e','n','t','s']) [.var 0])]))]⟩
noncomputable def Dm:Fn:=⟨2,0,[(.expr (.meth 0 38 ['n','e','e','d','_','w','o','r','k','e','r'] (.var 0) [.var 1])),
 (.ret (.comp false (.prim false .item [.var 2,.cst (.int 0)]) (.prim false .item [(.prim false (.attr ['q','u','e','u','e','s']) [.var 0]),.var 1]) none))]⟩
noncomputable def E5:Fn:=⟨2,0,[(.expr (.meth 0 38 ['n','e','e','d','_','w','o','r','k','e','r'] (.var 0) [.var 1])),
 (.expr (.meth 0 39 ['n','e','e','d','_','h','e','r','e'] (.var 0) [.var 1])),
 (.ret (.prim false .item [(.prim false (.attr ['s','u','m','s']) [.var 0]),.var 1]))]⟩
noncomputable def Do:Fn:=⟨2,0,[(.ite (.or (.prim false .not [(.call 2 [.var 1])]) (.or (.prim false (.cop .notin) [.var 1,(.prim false (.attr ['p','a','r','t','s']) [.var 0])]) (.prim false (.cop .ne) [(.prim false .item [(.prim false .item [(.prim false (.attr ['p','a','r','t','s']) [.var 0]),.var 1]),.cst (.int 0)]),.cst (.str ['w','a','r','d','e','n'])]))) [(.raise 3)] []),
 (.expr (.meth 0 39 ['n','e','e','d','_','h','e','r','e'] (.var 0) [.var 1])),
 (.ret (.call 8 [(.prim false .item [(.prim false (.attr ['k','e','p','t']) [.var 0]),.var 1]),(.prim false (.attr ['c','l','o','c','k']) [.var 0]),(.prim false .item [(.prim false .item [(.prim false (.attr ['p','a','r','t','s']) [.var 0]),.var 1]),.cst (.int 4)])]))]⟩
noncomputable def DN:List Fn:=[fn0,fn1,fn2,fn3,fn4,fn5,fn6,fn7,fn8,fn9,Eu,A7,xJ,C2,C1,DE,Ah,AW,EJ,EC,DU,EF,EQ,D4,Ef,Ed,Eo,DB,Cu,kK,Dc,D2,FP,Gv,F9,GB,Gn,GP,Dr,Dz,Gx,Gm,Gy,D6,C0,Er,DG,Dm,E5,Do]
noncomputable def wf:List (List Nat):=[[0],[1,0],[2,0],[3,0],[4,0],[5,0],[6,0],[7,0],[8,0]]
noncomputable def PL:Prog:=rD DN wf
theorem zE:PL.fns 1=some fn1:=rfl
theorem zj:PL.fns 2=some fn2:=rfl
theorem vI:PL.fns 3=some fn3:=rfl
theorem uD:PL.fns 4=some fn4:=rfl
theorem wB:PL.fns 5=some fn5:=rfl
theorem vj:PL.fns 6=some fn6:=rfl
theorem zO:PL.fns 7=some fn7:=rfl
theorem CY:PL.fns 8=some fn8:=rfl
theorem DF:PL.fns 9=some fn9:=rfl
theorem Bh:PL.fns 10=some Eu:=rfl
theorem Bg:PL.fns 11=some A7:=rfl
theorem BS:PL.fns 12=some xJ:=rfl
theorem AZ:PL.fns 13=some C2:=rfl
theorem BM:PL.fns 14=some C1:=rfl
theorem Bp:PL.fns 15=some DE:=rfl
theorem Cp:PL.fns 16=some Ah:=rfl
theorem Cb:PL.fns 17=some AW:=rfl
theorem AG:PL.fns 18=some EJ:=rfl
theorem AO:PL.fns 19=some EC:=rfl
theorem BG:PL.fns 20=some DU:=rfl
theorem BJ:PL.fns 21=some EF:=rfl
theorem Ag:PL.fns 22=some EQ:=rfl
theorem wA:PL.fns 23=some D4:=rfl
theorem Ao:PL.fns 24=some Ef:=rfl
theorem BX:PL.fns 25=some Ed:=rfl
theorem Ch:PL.fns 26=some Eo:=rfl
theorem Ay:PL.fns 27=some DB:=rfl
theorem Cf:PL.fns 28=some Cu:=rfl
theorem wb:PL.fns 29=some kK:=rfl
theorem ue:PL.fns 30=some Dc:=rfl
theorem ua:PL.fns 31=some D2:=rfl
theorem Am:PL.fns 38=some Dr:=rfl
theorem B6:PL.fns 39=some Dz:=rfl
theorem Ap:PL.fns 43=some D6:=rfl
theorem AA:PL.fns 44=some C0:=rfl
theorem Cn:PL.fns 45=some Er:=rfl
theorem Cc:PL.fns 46=some DG:=rfl
theorem Cr:PL.fns 47=some Dm:=rfl
theorem Ce:PL.fns 48=some E5:=rfl
theorem BR:PL.fns 49=some Do:=rfl
noncomputable def Prim.pure:Prim->Bool
 |.bop _|.cop _|.not|.isinst _|.len|.item|.mktup|.mklist=>true
 |_=>false
mutual
noncomputable def pe(P:Prog)(ρ:Fm)(H:AH):Ex->Option V
 |.cst v=>some v
 |.var i=>(ρ[i]?).join
 |.prim mu p args=>if mu=true then none else(F6 P ρ H args).bind λvs=>if p.pure=true then(prim P p vs H).map (·.1)else none
 |.and a b=>(pe P ρ H a).bind λx=>(eB x).bind λt=>if t=true then pe P ρ H b else some (.bool false)
 |.or a b=>(pe P ρ H a).bind λx=>(eB x).bind λt=>if t=true then some (.bool true)else pe P ρ H b
 |.cmp2 a o b o' c=>(pe P ρ H a).bind λx=>(pe P ρ H b).bind λy=>(gw o x y H).bind λt=>if t=true then(pe P ρ H c).bind λz=>(gw o' y z H).map V.bool else some (.bool false)
 |_=>none
noncomputable def F6(P:Prog)(ρ:Fm)(H:AH):List Ex->Option (List V)
 |[]=>some []
 |e::es=>(pe P ρ H e).bind λv=>(F6 P ρ H es).map (v::·)
end
section
variable {P:Prog}{C:Calls}{ρ:Fm}{H:AH}{X:XE}
theorem tA{p:Prim}{vs:List V}(h:p.pure=true):Is (prim P p vs H) λr=>prim P p vs H=some (r.1,H):=by
 refine Is.imp (R:=λr=>prim P p vs H=some r/\r.2=H) (Is.to λr e=>⟨e,?_⟩) λr q=>q.1.trans (congrArg some (congrArg (Prod.mk r.1) q.2))
 refine Is.of (R:=λr=>r.2=H) ?_ e
 cases p<;>first|exact absurd h ag|(rcases vs with _|⟨a,_|⟨b,_|_⟩⟩<;>first|exact trivial|exact Is.self.map λ_ _=>rfl)|exact Is.ite λ_=>rfl
theorem FC(e:Ex):Is (pe P ρ H e) (Ev P C ρ H X e):=
 Ex.rec (motive_1:=λe=>Is (pe P ρ H e) (Ev P C ρ H X e)) (motive_2:=λes=>Is (F6 P ρ H es) λvs=>∀Q:List V->AH->Prop,Q vs H->fw P C es ρ H Q X) (motive_3:=λ_=>True)
  (λv=>ai)
  (λi=>Is.to λv (h:(ρ[i]?).join=some v)=>ev_var (optE (o:=ρ[i]?) (λhi=>du ((congrArg Option.join hi).symm.trans h)) λo hi=>hi.trans (congrArg some ((congrArg Option.join hi).symm.trans h))))
  (λmu p args ih=>by
   cases mu with
   |true=>exact trivial
   |false=>exact ih.bind λvs h=>Is.ite λhp=>(tA hp).map λr e Q q=>h _ (hE e q))
  (λa b iha ihb=>iha.bind λx h1=>Is.self.bind λt ht=>Is.ite2 (λe=>ihb.imp λv h2 Q q=>h1 _ (by rw [ht];subst e;exact h2 Q q)) λe Q q=>h1 _ (by rw [ht];cases t with|true=>exact absurd rfl e|false=>exact q))
  (λa b iha ihb=>iha.bind λx h1=>Is.self.bind λt ht=>Is.ite2 (λe Q q=>h1 _ (by rw [ht];subst e;exact q)) λe=>ihb.imp λv h2 Q q=>h1 _ (by rw [ht];cases t with|true=>exact absurd rfl e|false=>exact h2 Q q))
  (λa o b o' c iha ihb ihc=>iha.bind λx h1=>ihb.bind λy h2=>Is.self.bind λt ht=>Is.ite2 (λe=>ihc.bind λz h3=>Is.self.map λt' ht' Q q=>h1 _ (h2 _ (by rw [ht];subst e;exact h3 _ (by rw [ht'];exact q)))) λe Q q=>h1 _ (h2 _ (by rw [ht];cases t with|true=>exact absurd rfl e|false=>exact q)))
  (λ_ _ _=>trivial) (λ_ _ _ _ _ _ _=>trivial) (λ_ _ _ _ _ _ _=>trivial) (λ_ _ _ _=>trivial) (λ_ _ _ _ _ _ _=>trivial)
  (λ_ q=>q) (λe es h1 h2=>h1.bind λv h1=>h2.map λvs h2 Q q=>h1 _ (h2 _ q)) trivial (λ_ _=>trivial) e
theorem a9{e:Ex}{v:V}(h:pe P ρ H e=some v):Ev P C ρ H X e v:=(FC e).of h
end
theorem ti{α:Type}{F:V->AH->(Option V->AH->Prop)->Prop}{ok:AH->Prop}{H:AH}{f g:α->V}(hok:ok H){l:List α}:∀{acc:List V} {Q:List V->AH->Prop},
  (∀a∈l,∀K:Option V->AH->Prop,K (some (g a)) H->F (f a) H K)->Q (acc++l.map g) H->compL F ok (l.map f) acc H Q:=by
 induction l with
 |nil=>exact λ{acc _} _ q=>⟨hok,aN acc▸q⟩
 |cons a l ih=>exact λ{acc _} hF q=>⟨hok,hF a (.head _) _ (ih (λb hb=>hF b (.tail _ hb)) ((a7 acc [g a] (l.map g)).symm▸q))⟩
theorem sP{α:Type}{F:V->AH->(Option V->AH->Prop)->Prop}{ok:AH->Prop}{H:AH}{f g:α->V}{p:α->Bool}(hok:ok H){l:List α}:∀{acc:List V} {Q:List V->AH->Prop},
  (∀a∈l,∀K:Option V->AH->Prop,K (if p a=true then some (g a)else none) H->F (f a) H K)->Q (acc++(l.filter p).map g) H->compL F ok (l.map f) acc H Q:=by
 induction l with
 |nil=>exact λ{acc _} _ q=>⟨hok,aN acc▸q⟩
 |cons a l ih=>
  refine λ{acc _} hF q=>⟨hok,hF a (.head _) _ (ih (λb hb=>hF b (.tail _ hb)) ?_)⟩
  cases hp:p a with
  |false=>rw [fu (by rw [hp];exact ag)]at q;exact q
  |true=>rw [ft hp]at q;exact(a7 acc [g a] _).symm▸q
section
variable {P:Prog}{C:Calls}{ρ:Fm}{H:AH}{X:XE}{α:Type}{l:List α}{f g:α->V}{p:α->Bool}{elt it c:Ex}{w:V}
theorem gT(hit:Ev P C ρ H X it w)(hs:qr H w=some (l.map f))(hl:l.length<=au)(he:∀a∈l,Ev P C (ρ++[some (f a)]) H X elt (g a)):Ev P C ρ H X (.comp false elt it none) (.lst (l.map g)):=λQ q=>
 hit _ ⟨l.map f,hs,(ak f).symm▸hl,ti hs (λa ha K hK=>he a ha _ hK) (hE rfl q)⟩
theorem io(hit:Ev P C ρ H X it w)(hs:qr H w=some (l.map f))(hl:l.length<=au)(hc:∀a∈l,Ev P C (ρ++[some (f a)]) H X c (.bool (p a)))(he:∀a∈l,p a=true->Ev P C (ρ++[some (f a)]) H X elt (g a)):Ev P C ρ H X (.comp false elt it (some c)) (.lst ((l.filter p).map g)):=λQ q=>by
 refine hit _ ⟨l.map f,hs,(ak f).symm▸hl,sP (p:=p) hs (λa ha K hK=>hc a ha _ ?_) (hE rfl q)⟩
 cases hp:p a with
 |true=>rw [hp]at hK;exact he a ha hp _ hK
 |false=>rw [hp]at hK;exact hK
end
section
variable {P:Prog}{C:Calls}{ρ:Fm}{H:AH}{K:KS}{R:QE}{X:XE}{ss body:List St}{rev:Bool}{i:Nat}{e c:Ex}{v:V}{items:List V}
theorem lg(Inv:List V->Fm->AH->Prop)(h:Ev P C ρ H X e v)(hs:∀its ρ' H',Inv its ρ' H'->gE rev H' v=some items)(hl:items.length<=au)(h0:Inv items ρ H)
  (step:∀x xs ρ' H',Inv (x::xs) ρ' H'->∀K':KS,(∀ρ'' H'',Inv xs ρ'' H''->K' ρ'' H'')->bh P C body (ρ'.set i (some x)) H' K' R (λ_ _=>False))
  (fin:∀ρ' H',Inv [] ρ' H'->bh P C ss ρ' H' K R X):bh P C (.forIn rev (.inl i) e body::ss) ρ H K R X:=
 h _ ⟨items,hs _ _ _ h0,hl,lz Inv (λx xs ρ' H' hI=>⟨hs _ _ _ hI,step x xs ρ' H' hI⟩) (λρ' H' hI=>⟨hs _ _ _ hI,fin ρ' H' hI⟩) h0⟩
theorem gQ{o i e:Ex}(h:cH P C e ρ H (λx H₁=>cH P C o ρ H₁ (λov H₂=>cH P C i ρ H₂ (λiv H₃=>match dK ov iv x H₃ with|some H'=>bh P C ss ρ H' K R X|none=>False) X) X) X):bh P C (.setItem o i e::ss) ρ H K R X:=h
theorem wi(k:Nat)(h:whileL (λρ' H' K₁ K₂=>cH P C c ρ' H' (λv H''=>l8 (eB v) λt=>if t then bh P C body ρ' H'' K₁ R (λ_ _=>False)else K₂ ρ' H'') (λ_ _=>False)) k ρ H (λρ' H'=>bh P C ss ρ' H' K R X)):bh P C (.while_ c body::ss) ρ H K R X:=⟨k,h⟩
end
section
variable {P:Prog}{C:Calls}{ρ:Fm}{H:AH}{K:KS}{R:QE}{X:XE}{ss as bs:List St}{c:Ex}
theorem dG(h:Ev P C ρ H X c (.bool true))(k:bh P C as ρ H (λρ' H'=>bh P C ss ρ' H' K R X) R X):bh P C (.ite c as bs::ss) ρ H K R X:=h _ k
theorem cJ(h:Ev P C ρ H X c (.bool false))(k:bh P C bs ρ H (λρ' H'=>bh P C ss ρ' H' K R X) R X):bh P C (.ite c as bs::ss) ρ H K R X:=h _ k
end
theorem cf{P:Prog}{n f:Nat}{args:List V}{fn:Fn}{H:AH}{Q:QE}{X:XE}(hf:P.fns f=some fn)(ha:args.length=fn.arity)(w:bh P (aG P n) fn.body (args.map some++c7 fn.extra none) H (λ_ H'=>Q .none H') Q X):aG P (n+1) f args H Q X:=by
 rw [lG,hf]
 exact⟨ha,w⟩
abbrev Nm:=List Char
abbrev AL(α:Type):=List (Nm×α)
noncomputable def dW{α:Type}(n:Nm):AL α->Option α
 |[]=>none
 |p::l=>if n=p.1 then some p.2 else dW n l
noncomputable def cY{α:Type}(n:Nm)(x:α):AL α->AL α
 |[]=>[(n,x)]
 |p::l=>if n=p.1 then(p.1,x)::l else p::cY n x l
noncomputable def D1{α:Type}(n:Nm):AL α->AL α
 |[]=>[]
 |p::l=>if n=p.1 then l else p::D1 n l
section
variable {α:Type}{val:α->V}{n m:Nm}{x:α}{l:AL α}
theorem kS:eS n (l.map (·.1)) (l.map λp=>val p.2)=(dW n l).map val:=by
 induction l with
 |nil=>rfl
 |cons p l ih=>
  refine(?_:(if n=p.1 then some (val p.2)else eS n _ _)=(if n=p.1 then some p.2 else dW n l).map val)
  by_cases h:n=p.1
  ·rw [if_pos h,if_pos h];rfl
  ·rw [if_neg h,if_neg h];exact ih
theorem yW:dE n (val x) (l.map (·.1)) (l.map λp=>val p.2)=((cY n x l).map (·.1),(cY n x l).map λp=>val p.2):=by
 induction l with
 |nil=>rfl
 |cons p l ih=>
  refine(?_:(if n=p.1 then(p.1::l.map (·.1),val x::l.map λp=>val p.2)else(p.1::(dE n (val x) _ _).1,val p.2::(dE n (val x) _ _).2))=((if n=p.1 then(p.1,x)::l else p::cY n x l).map (·.1),(if n=p.1 then(p.1,x)::l else p::cY n x l).map λp=>val p.2))
  by_cases h:n=p.1
  ·rw [if_pos h,if_pos h];rfl
  ·rw [if_neg h,if_neg h,ih];rfl
noncomputable def eZ(n:Nm)(l:AL α):Bool:=(l.map (·.1)).contains n
theorem ir:eZ n l=true↔∃x,(n,x)∈l:=by
 unfold eZ
 rw [aR,az]
 exact⟨λ⟨p,h,e⟩=>⟨p.2,e▸h⟩,λ⟨x,h⟩=>⟨_,h,rfl⟩⟩
theorem iH(h:dW n l=some x):(n,x)∈l:=by
 induction l with
 |nil=>exact nomatch h
 |cons p l ih=>
  haveI h:(if n=p.1 then some p.2 else dW n l)=some x:=h
  by_cases e:n=p.1
  ·rw [if_pos e]at h;exact e▸ah h▸.head _
  ·rw [if_neg e]at h;exact .tail _ (ih h)
theorem lS(h:eZ n l=true):∃x,dW n l=some x:=by
 induction l with
 |nil=>exact nomatch h
 |cons p l ih=>
  refine(?_:∃x,(if n=p.1 then some p.2 else dW n l)=some x)
  by_cases e:n=p.1
  ·rw [if_pos e];exact⟨_,rfl⟩
  ·rw [if_neg e];exact ih (ir.mpr ((ir.mp h).imp λx q=>eK q (λq=>absurd (congrArg CC q) e) id))
theorem wq{p:Nm×α}(h:p∈cY n x l):p=(n,x)\/p∈l:=by
 induction l with
 |nil=>exact .inl (in1 h)
 |cons q l ih=>
  haveI h:p∈(if n=q.1 then(q.1,x)::l else q::cY n x l):=h
  by_cases e:n=q.1
  ·rw [if_pos e]at h;exact eK h (λh=>.inl (e▸h)) λh=>.inr (.tail _ h)
  ·rw [if_neg e]at h;exact eK h (λh=>.inr (h▸.head _)) λh=>(ih h).imp id λh=>.tail _ h
theorem kq:(cY n x l).map (·.1)=if eZ n l=true then l.map (·.1)else l.map (·.1)++[n]:=by
 induction l with
 |nil=>rfl
 |cons q l ih=>
  refine(?_:((if n=q.1 then(q.1,x)::l else q::cY n x l).map (·.1))=_)
  by_cases e:n=q.1
  ·rw [if_pos e,if_pos (ir.mpr ⟨q.2,e▸.head _⟩)];rfl
  ·rw [if_neg e,cL,ih,show eZ n (q::l)=eZ n l from by unfold eZ;rw [cL,mr,beq_eq_false_iff_ne.mpr e,Bool.false_or]]
   by_cases h:eZ n l=true
   ·rw [if_pos h,if_pos h];rfl
   ·rw [if_neg h,if_neg h];rfl
theorem rL(h:(l.map (·.1)).Nodup):((cY n x l).map (·.1)).Nodup:=by
 rw [kq]
 by_cases e:eZ n l=true
 ·rw [if_pos e];exact h
 ·rw [if_neg e]
  exact bx.mpr ⟨h,bD.mpr ⟨nofun,cn⟩,λa ha b hb q=>e (aR.mpr (in1 hb▸q▸ha))⟩
theorem ib:eZ m (cY n x l)=(decide (m=n)||eZ m l):=by
 haveI h:eZ m (cY n x l)=((cY n x l).map (·.1)).contains m:=rfl
 rw [h,kq]
 by_cases e:eZ n l=true
 ·rw [if_pos e]
  by_cases q:m=n
  ·rw [q,decide_eq_true rfl];exact e
  ·rw [decide_eq_false q];rfl
 ·rw [if_neg e,qV,aR,ct,gG,decide_eq_true_iff]
  exact⟨λh=>h.elim (λh=>.inr (aR.mpr h)) λh=>.inl (in1 h),λh=>h.elim (λh=>.inr (h▸.head _)) λh=>.inl (aR.mp h)⟩
theorem lM:dW m (cY n x l)=if m=n then some x else dW m l:=by
 induction l with
 |nil=>rfl
 |cons q l ih=>
  refine(?_:dW m (if n=q.1 then(q.1,x)::l else q::cY n x l)=if m=n then some x else if m=q.1 then some q.2 else dW m l)
  by_cases e:n=q.1
  ·rw [if_pos e]
   show(if m=q.1 then some x else dW m l)=_
   rw [<-e]
   by_cases h:m=n
   ·rw [if_pos h,if_pos h]
   ·rw [if_neg h,if_neg h,if_neg h]
  ·rw [if_neg e]
   show(if m=q.1 then some q.2 else dW m (cY n x l))=_
   rw [ih]
   by_cases h:m=q.1
   ·rw [if_pos h,if_pos h,if_neg λz:m=n=>e (z▸h)]
   ·rw [if_neg h,if_neg h]
end
set_option genInjectivity false in
inductive Evt where
 |beg (n:Nm)|end_ (n:Nm)|fail (n:Nm)|leave (n:Nm)|sent (n:Nm) (k:Nat) (l:V)|works (n:Nm) (k:Nat)|lost (n:Nm) (k:Nat)
noncomputable def Evt.v:Evt->V
 |.beg n=>.tup [.str ['b','e','g','i','n','s'],.str n]
 |.end_ n=>.tup [.str ['e','n','d','s'],.str n]
 |.fail n=>.tup [.str ['f','a','i','l','s'],.str n]
 |.leave n=>.tup [.str ['l','e','a','v','e','s'],.str n]
 |.sent n k l=>.tup [.str ['s','e','n','t'],.str n,.int k,l]
 |.works n k=>.tup [.str ['w','o','r','k','s'],.str n,.int k]
 |.lost n k=>.tup [.str ['l','o','s','t'],.str n,.int k]
noncomputable def D9(p:Nat×V):V:=.tup [.int p.1,p.2]
set_option genInjectivity false in
structure Hst where
 pres:AL Unit
 sums:AL Int
 kept:AL (Nat×List Int)
 qu:AL (Nat×List (Nat×V))
 clock:Int
 letters:Nat
 ev:List Evt
 kl:Nat
 own:Nat->Option (Bool×Nm)
set_option genInjectivity false in
structure Ad where
 d:Nat
 i:Nat
 row:Nat
 parts:Nat
 chief:Nat
 pres:Nat
 sums:Nat
 kept:Nat
 qu:Nat
 ev:Nat
 plan:V
 names:List Nm
 partVs:List V
 chk:List Nm
 chv:List V
 G:List (Nat×O)
noncomputable def dO{α:Type}(val:α->V)(l:AL α):O:=.dict (l.map (·.1)) (l.map λp=>val p.2)
noncomputable def hk:List Nm:=[['p','l','a','n'],['r','o','w'],['p','a','r','t','s'],['c','h','i','e','f'],['p','r','e','s','e','n','t'],['s','u','m','s'],['k','e','p','t'],['q','u','e','u','e','s'],['c','l','o','c','k'],['l','e','t','t','e','r','s'],['e','v','e','n','t','s']]
noncomputable def hv(σ:Ad)(S:Hst):List V:=[σ.plan,.ref σ.row,.ref σ.parts,.ref σ.chief,.ref σ.pres,.ref σ.sums,.ref σ.kept,.ref σ.qu,.int S.clock,.int S.letters,.ref σ.ev]
noncomputable def quR(p:Nat×List (Nat×V)):V:=.ref p.1
noncomputable def Go(p:Nat×List Int):V:=.ref p.1
noncomputable def i9(σ:Ad)(S:Hst):List (Nat×O):=
 (σ.d,.ns hk (hv σ S))::(σ.i,.inst 0 σ.d)::(σ.row,.list (σ.names.map V.str))::(σ.parts,.dict σ.names σ.partVs)::(σ.chief,.dict σ.chk σ.chv)::(σ.pres,dO (λ_=>.bool true) S.pres)::(σ.sums,dO V.int S.sums)::
 (σ.kept,dO Go S.kept)::(σ.qu,dO quR S.qu)::(σ.ev,.list (S.ev.map Evt.v))::σ.G
noncomputable def pP(S:Hst)(n:Nm):Hst:={S with pres:=cY n () S.pres}
noncomputable def pD(S:Hst)(n:Nm):Hst:={S with pres:=D1 n S.pres}
noncomputable def pE(S:Hst)(t:Evt):Hst:={S with ev:=S.ev++[t]}
noncomputable def pS(S:Hst)(n:Nm)(i:Int):Hst:={S with sums:=cY n i S.sums}
noncomputable def pK(S:Hst)(n:Nm)(x:Nat×List Int)(f:Nat->Option (Bool×Nm)):Hst:={S with kept:=cY n x S.kept,own:=f}
noncomputable def pQ(S:Hst)(n:Nm)(x:Nat×List (Nat×V))(f:Nat->Option (Bool×Nm)):Hst:={S with qu:=cY n x S.qu,own:=f}
def KP(S:Hst)(H:AH):Prop:=∀p∈S.kept,S.own p.2.1=some (true,p.1)/\H[p.2.1]? =some (.list (p.2.2.map V.int))/\p.2.2.length<=S.kl
def QP(S:Hst)(H:AH):Prop:=∀p∈S.qu,S.own p.2.1=some (false,p.1)/\H[p.2.1]? =some (.list (p.2.2.map D9))/\p.2.2.length<=S.letters
structure Hs(σ:Ad)(S:Hst)(H:AH):Prop where
 nd:((i9 σ S).map (·.1)).Nodup
 fix:∀p∈i9 σ S,H[p.1]? =some p.2/\S.own p.1=none
 kp:KP S H
 qp:QP S H
 qn:(S.qu.map (·.1)).Nodup
 pn:(S.pres.map (·.1)).Nodup
 kn:(S.kept.map (·.1)).Nodup
 fr:∀a,H.length<=a->S.own a=none
section
variable {σ:Ad}{S S':Hst}{H:AH}
theorem Hs.get(h:Hs σ S H)(k:Nat){p:Nat×O}(hk:(i9 σ S)[k]? =some p):H[p.1]? =some p.2:=(h.fix p (aI hk)).1
theorem Hs.set'{σ':Ad}(h:Hs σ S H)(k:Nat){a:Nat}{o o' o'':O}(hk:(i9 σ S)[k]? =some (a,o))(e:i9 σ' S'=(i9 σ S).set k (a,o''))(z:o''=o')(eo:S'.own=S.own)(kp:KP S' H)(qp:QP S' H)(qn:(S'.qu.map (·.1)).Nodup)(pn:(S'.pres.map (·.1)).Nodup)(kn:(S'.kept.map (·.1)).Nodup):Hs σ' S' (H.set a o'):=by
 subst z
 have ha:=h.fix _ (aI hk)
 haveI hne:∀{b:Nat} {x:Bool×Nm},S'.own b=some x->a≠b:=λhb q=>du (ha.2.symm.trans (eo▸q▸hb))
 haveI hlt:a<H.length:=(ae.mp ha.1).1
 haveI hm:(i9 σ' S').map (·.1)=(i9 σ S).map (·.1):=by
  rw [e,ze]
  refine iS λj=>?_
  rw [eH]
  by_cases q:k=j
  ·subst q
   rw [if_pos rfl,aZ,hk]
   exact if_pos (by rw [ak];exact(ae.mp hk).1)
  ·rw [if_neg q]
 refine⟨hm▸h.nd,λp hp=>?_,λp hp=>?_,λp hp=>?_,qn,pn,kn,λb hb=>eo▸h.fr b (aa (aq aC.symm) hb)⟩
 ·rw [e]at hp
  obtain⟨j,hj⟩:=bW hp
  rw [eH]at hj
  by_cases q:k=j
  ·subst q
   rw [if_pos rfl]at hj
   have hp:(a,o'')=p:=by
    by_cases z:k<(i9 σ S).length
    ·rw [if_pos z]at hj;exact ah hj
    ·rw [if_neg z]at hj;exact du hj
   subst hp
   exact⟨by rw [bv hlt],eo▸ha.2⟩
  ·rw [if_neg q]at hj
   haveI hp:=h.fix p (aI hj)
   refine⟨(bn λz=>?_).trans hp.1,eo▸hp.2⟩
   haveI h1:((i9 σ S).map (·.1))[k]? =some a:=by rw [aZ,hk];rfl
   haveI h2:((i9 σ S).map (·.1))[j]? =some a:=by rw [aZ,hj,z];rfl
   exact q ((n6 (ae.mp h1).1 h.nd).mp (h1.trans h2.symm))
 ·exact ⟨(kp p hp).1,(bn (hne (kp p hp).1)).trans (kp p hp).2.1,(kp p hp).2.2⟩
 ·exact ⟨(qp p hp).1,(bn (hne (qp p hp).1)).trans (qp p hp).2.1,(qp p hp).2.2⟩
theorem Hs.set(h:Hs σ S H)(k:Nat){a:Nat}{o o' o'':O}(hk:(i9 σ S)[k]? =some (a,o))(e:i9 σ S'=(i9 σ S).set k (a,o''))(z:o''=o')(ek:S'.kept=S.kept)(eq:S'.qu=S.qu)(eo:S'.own=S.own)(el:S.kl<=S'.kl/\S.letters<=S'.letters)(pn:(S'.pres.map (·.1)).Nodup):Hs σ S' (H.set a o'):=
 h.set' k hk e z eo (λp hp=>haveI q:=h.kp p (ek▸hp);⟨eo▸q.1,q.2.1,aa q.2.2 el.1⟩) (λp hp=>haveI q:=h.qp p (eq▸hp);⟨eo▸q.1,q.2.1,aa q.2.2 el.2⟩) (eq▸h.qn) pn (ek▸h.kn)
theorem Hs.alloc(h:Hs σ S H)(o:O)(x:Option (Bool×Nm)):Hs σ {S with own:=λa=>if a=H.length then x else S.own a} (H++[o]):=by
 haveI lt:∀{b:Nat} {o:O},H[b]? =some o->(if b=H.length then x else S.own b)=S.own b:=λe=>if_neg λq=>b6 _ (q▸(ae.mp e).1)
 exact⟨h.nd,λp hp=>⟨da (h.fix p hp).1,(lt (h.fix p hp).1).trans (h.fix p hp).2⟩,λp hp=>⟨(lt (h.kp p hp).2.1).trans (h.kp p hp).1,da (h.kp p hp).2.1,(h.kp p hp).2.2⟩,
  λp hp=>⟨(lt (h.qp p hp).2.1).trans (h.qp p hp).1,da (h.qp p hp).2.1,(h.qp p hp).2.2⟩,h.qn,h.pn,h.kn,λb hb=>by
   rw [af]at hb
   exact(if_neg λe:b=H.length=>Nat.not_succ_le_self H.length (e▸hb)).trans (h.fr b (aa (bJ _) hb))⟩
noncomputable def pL(S:Hst)(n:Nat):Hst:={S with kl:=n}
theorem dS{H:AH}{o:O}:(H++[o])[H.length]? =some o:=cG
theorem wY{x:Option (Bool×Nm)}:(if H.length=H.length then x else S.own H.length)=x:=if_pos rfl
end
section
variable {P:Prog}{C:Calls}{ρ:Fm}{H:AH}{K:KS}{R:QE}{X:XE}{ss:List St}{σ:Ad}{S:Hst}{e:Ex}{nm n:Nm}{v:V}
abbrev wP(nm:Nm):Ex:=.prim false (.attr nm) [.var 0]
theorem zM(h:Hs σ S H):eP H (.ref σ.i)=some (σ.d,hk,hv σ S):=by
 show(H[σ.i]?.bind O.ins).bind _=_
 rw [h.get 1 rfl]
 show(H[σ.d]?.bind O.nms).map _=_
 rw [h.get 0 rfl]
 rfl
theorem fF(h:Hs σ S H)(h0:ρ[0]? =some (some (.ref σ.i)))(e:eS nm hk (hv σ S)=some v):Ev P C ρ H X (wP nm) v:=bw (ev_var h0) (by
 refine(?_:((eP H (.ref σ.i)).bind λq=>(eS nm q.2.1 q.2.2).map (·,H))=_)
 rw [zM h]
 exact congrArg (ba (·,H)) e)
theorem p9(h:Hs σ S H)(hn:hk.contains nm=false):fY H 0 nm (.ref σ.i)=true:=by
 show(eP H (.ref σ.i)).any _=true
 rw [zM h]
 show(!hk.contains nm)=true
 rw [hn];rfl
theorem iI{f:Nat}{a:Ex}{x:V}(h:Hs σ S H)(h0:ρ[0]? =some (some (.ref σ.i)))(hn:hk.contains nm=false)(ha:Ev P C ρ H X a x)(k:C f [.ref σ.i,x] H (λ_ H'=>bh P C ss ρ H' K R X) X):bh P C (.expr (.meth 0 f nm (.var 0) [a])::ss) ρ H K R X:=
 ev_var (P:=P) (C:=C) (X:=X) h0 (λv H₁=>fY H₁ 0 nm v=true/\fw P C [a] ρ H₁ (λvs H'=>C f (v::vs) H' (λ_ H'=>bh P C ss ρ H' K R X) X) X) ⟨p9 h hn,ha _ k⟩
theorem jB{α:Type}{l:List α}{a:α}:l.length<=(l++[a]).length:=by rw [af];exact ay _ _
theorem zA(h:Hs σ S H)(h0:ρ[0]? =some (some (.ref σ.i)))(t:Evt)(he:Ev P C ρ H X e t.v)(hl:S.ev.length<=au)(k:∀H',Hs σ (pE S t) H'->bh P C ss ρ H' K R X) :
  bh P C (.expr (.mcall .list false .append (wP ['e','v','e','n','t','s']) [e])::ss) ρ H K R X:=
 st_expr (fF h h0 rfl _ ⟨dX (h.get 9 rfl),he _ (hE (fe (h.get 9 rfl) (aa (aq (ak _)) hl)) (k _ (h.set 9 rfl rfl (congrArg O.list aO) rfl rfl rfl ⟨aA _,aA _⟩ h.pn)))⟩)
theorem ip{α:Type}{val:α->V}{l:AL α}{a:Nat}{x:α}(h:H[a]? =some (dO val l))(hl:l.length<=au):dK (.ref a) (.str n) (val x) H=some (H.set a (dO val (cY n x l))):=by
 show Bq a n (val x) H H[a]? =_
 rw [h]
 show(if(l.map (·.1)).length<=au then some (H.set a (.dict (dE n (val x) _ _).1 (dE n (val x) _ _).2))else none)=_
 rw [if_pos (aa (aq (ak _)) hl),yW]
 rfl
theorem st_put{α:Type}{val:α->V}{l:AL α}{a:Nat}{x:α}{ei:Ex}(h:Hs σ S H)(h0:ρ[0]? =some (some (.ref σ.i)))(ea:eS nm hk (hv σ S)=some (.ref a))(hd:H[a]? =some (dO val l))(he:Ev P C ρ H X e (val x))(hi:Ev P C ρ H X ei (.str n))(hl:l.length<=au)(k:bh P C ss ρ (H.set a (dO val (cY n x l))) K R X) :
  bh P C (.setItem (wP nm) ei e::ss) ρ H K R X:=gQ (he _ (fF h h0 ea _ (hi _ (by rw [ip hd hl];exact k))))
theorem r6(h:Hs σ S H)(h0:ρ[0]? =some (some (.ref σ.i)))(hi:Ev P C ρ H X e (.str n))(hl:S.pres.length<=au)(k:∀H',Hs σ (pP S n) H'->bh P C ss ρ H' K R X) :
  bh P C (.setItem (wP ['p','r','e','s','e','n','t']) e (.cst (.bool true))::ss) ρ H K R X:=
 st_put (x:=()) h h0 rfl (h.get 5 rfl) ai hi hl (k _ (h.set 5 rfl rfl rfl rfl rfl rfl ⟨aA _,aA _⟩ (rL h.pn)))
theorem xl{i:Int}{ei:Ex}(h:Hs σ S H)(h0:ρ[0]? =some (some (.ref σ.i)))(he:Ev P C ρ H X e (.int i))(hi:Ev P C ρ H X ei (.str n))(hl:S.sums.length<=au)(k:∀H',Hs σ (pS S n i) H'->bh P C ss ρ H' K R X) :
  bh P C (.setItem (wP ['s','u','m','s']) ei e::ss) ρ H K R X:=
 st_put h h0 rfl (h.get 6 rfl) he hi hl (k _ (h.set 6 rfl rfl rfl rfl rfl rfl ⟨aA _,aA _⟩ h.pn))
theorem jf{Q:QE}(q:Q (.ref H.length) (H++[.list []])):cH P C (.prim true .mklist []) ρ H Q X:=show gi (aU P true .mklist [] H) Q from hE (kg (aM _)) q
theorem yA(h:Hs σ S H)(h0:ρ[0]? =some (some (.ref σ.i)))(hi:∀H,Ev P C ρ H X e (.str n))(hl:S.kept.length<=au)(k:∀r f H',Hs σ (pK S n (r,[]) f) H'->bh P C ss ρ H' K R X) :
  bh P C (.setItem (wP ['k','e','p','t']) e (.prim true .mklist [])::ss) ρ H K R X:=by
 haveI h1:=h.alloc (.list []) (some (true,n))
 refine gQ (jf (fF h1 h0 rfl _ (hi _ _ ?_)))
 rw [show V.ref H.length=Go (H.length,[])from rfl,ip (h1.get 7 rfl) hl]
 exact k H.length _ _ (h1.set' 7 rfl rfl rfl rfl (λp hp=>(wq hp).elim (λq=>q▸⟨wY,dS,aM _⟩) (h1.kp p)) h1.qp h.qn h.pn (rL h.kn))
end
noncomputable def wk:List Char:=['w','o','r','k','e','r']
noncomputable def wd:List Char:=['w','a','r','d','e','n']
noncomputable def fA:List (List Char):=[['a','l','w','a','y','s'],['f','a','u','l','t','e','d'],['n','e','v','e','r']]
noncomputable def dD:List (List Char):=[['o','n','e'],['r','e','s','t'],['a','l','l']]
noncomputable def kU:List Char:=['a','b','c','d','e','f','g','h','i','j','k','l','m','n','o','p','q','r','s','t','u','v','w','x','y','z']
def jT(s:List Char):Prop:=1<=s.length/\s.length<=8/\∀c∈s,c∈kU
abbrev oR(nm md:Nm):V:=.tup [.str wk,.str nm,.str md]
abbrev iY(nm r:Nm)(m s:Int)(ps:List V):V:=.tup [.str wd,.str nm,.str r,.int m,.int s,.tup ps]
noncomputable def C3:List V->Nm
 |_::v::_=>v.txt.getD []
 |_=>[]
noncomputable def Dq:List V->List V
 |[_,_,_,_,_,v]=>v.tpl.getD []
 |_=>[]
noncomputable def ao(v:V):Nm:=C3 (v.tpl.getD [])
noncomputable def kids(v:V):List V:=Dq (v.tpl.getD [])
noncomputable def nms:Nat->V->List Nm
 |0,_=>[]
 |k+1,v=>ao v::(kids v).flatMap (nms k)
structure PI where
 isW:Nm->Option Bool
 ch:Nm->Option Nm
 al:Nm->Bool
 nv:Nm->Bool
 sp:Nm->Int
 mn:Nm->Int
 sb:Nm->List Nm
 kd:Nm->List Nm
 ru:Nm->Nm
inductive Pt(π:PI):Nat->V->Prop
 |wk {k:Nat} {nm md:Nm}:jT nm->md∈fA->π.isW nm=some false->(∀c,π.ch c≠some nm)->Pt π (k+1) (oR nm md)
 |wd {k:Nat} {nm r:Nm} {m s:Int} {ps:List V}:jT nm->r∈dD->(0<=m/\m<=1000000000)->(1<=s/\s<=1000000000)->(1<=ps.length/\ps.length<=8)->π.isW nm=some true->(∀c,π.ch c=some nm↔∃p∈ps,ao p=c)->(∀p∈ps,Pt π k p)->Pt π (k+1) (iY nm r m s ps)
noncomputable def hr(h:Nm->Bool):Evt->Nm->Bool
 |.beg n=>λm=>decide (m=n)||h m
 |.end_ n|.fail n|.leave n=>λm=>!decide (m=n)&&h m
 |_=>h
noncomputable def Evt.nm:Evt->Nm
 |.beg n|.end_ n|.fail n|.leave n|.sent n _ _|.works n _|.lost n _=>n
def Evt.plain(π:PI):Evt->Prop
 |.beg n|.end_ n|.fail n|.leave n=>(π.isW n).isSome=true
 |_=>False
abbrev here(S:Hst):Nm->Bool:=λm=>eZ m S.pres
noncomputable def j4(S:Hst)(c:Nm):List Int:=((dW c S.kept).map (·.2)).getD []
noncomputable def Cq(c:Nm)(l:List Int):Evt->List Int
 |.beg n=>if n=c then []else l
 |_=>l
theorem yF{S:Hst}{n c:Nm}{x:Nat×List Int}{f:Nat->Option (Bool×Nm)}:j4 (pK S n x f) c=if n=c then x.2 else j4 S c:=by
 show((dW c (cY n x S.kept)).map (·.2)).getD []=_
 rw [lM]
 by_cases e:c=n
 ·rw [if_pos e,if_pos e.symm];rfl
 ·rw [if_neg e,if_neg λq=>e q.symm];rfl
noncomputable def p2(S:Hst)(c:Nm):Int:=(dW c S.sums).getD 0
noncomputable def Al(c:Nm)(s:Int):Evt->Int
 |.beg n=>if n=c then 0 else s
 |_=>s
theorem x8{S:Hst}{n c:Nm}{i:Int}:p2 (pS S n i) c=if n=c then i else p2 S c:=by
 show(dW c (cY n i S.sums)).getD 0=_
 rw [lM]
 by_cases e:c=n
 ·rw [if_pos e,if_pos e.symm];rfl
 ·rw [if_neg e,if_neg λq=>e q.symm];rfl
structure Sp(π:PI)(k0:Nm->List Int)(S S':Hst)(es:List Evt):Prop where
 ev:S'.ev=S.ev++es
 qu:S'.qu=S.qu
 ck:S'.clock=S.clock
 lt:S'.letters=S.letters
 kl:S'.kl<=S.kl+es.length
 hr:here S'=es.foldl hr (here S)
 nm:∀e∈es,e.plain π
 kp:∀c,j4 S' c=es.foldl (Cq c) (k0 c)
 sm:∀c,p2 S' c=es.foldl (Al c) (p2 S c)
structure Gd(π:PI)(S:Hst):Prop where
 kw:∀m,eZ m S.pres=true->π.isW m=some true->eZ m S.kept=true
 ks:∀m,eZ m S.pres=true->π.isW m=some false->eZ m S.sums=true
 lp:S.pres.length<=S.ev.length
 lk:S.kept.length<=S.ev.length
 ls:S.sums.length<=S.ev.length
 ll:S.kl<=S.ev.length
 ko:∀m,eZ m S.kept=true->π.isW m=some true
 so:∀m,eZ m S.sums=true->π.isW m=some false
theorem C9{π:PI}{S:Hst}{n c:Nm}(g:Gd π S)(hw:π.isW n=some true):p2 S c=Al c (p2 S c) (.beg n):=by
 show _=if n=c then 0 else p2 S c
 by_cases e:n=c
 ·rw [if_pos e]
  unfold p2
  refine optE (o:=dW c S.sums) (λh=>by rw [h];rfl) λx h=>?_
  exact absurd (ah ((e▸g.so c (ir.mpr ⟨x,iH h⟩)).symm.trans hw)) ag
 ·rw [if_neg e]
theorem CX{π:PI}{S:Hst}{n c:Nm}(g:Gd π S)(hw:π.isW n=some false):j4 S c=Cq c (j4 S c) (.beg n):=by
 show _=if n=c then []else j4 S c
 by_cases e:n=c
 ·rw [if_pos e]
  unfold j4
  refine optE (o:=dW c S.kept) (λh=>by rw [h];rfl) λx h=>?_
  exact absurd (ah (hw.symm.trans (e▸g.ko c (ir.mpr ⟨x,iH h⟩)))) ag
 ·rw [if_neg e]
theorem Sp.refl{π:PI}(S:Hst):Sp π (j4 S) S S []:=⟨(aN _).symm,rfl,rfl,rfl,aA _,rfl,n8,λ_=>rfl,λ_=>rfl⟩
theorem Sp.trans{π:PI}{k0:Nm->List Int}{S S₁ S₂:Hst}{es es':List Evt}(a:Sp π k0 S S₁ es)(b:Sp π (j4 S₁) S₁ S₂ es'):Sp π k0 S S₂ (es++es'):=
 ⟨by rw [b.ev,a.ev,a7],b.qu.trans a.qu,b.ck.trans a.ck,b.lt.trans a.lt,by rw [af,<-cK];exact aa b.kl (cD a.kl _),by rw [b.hr,a.hr,eJ],cM a.nm b.nm,λc=>by rw [b.kp c,a.kp c,eJ],λc=>by rw [b.sm c,a.sm c,eJ]⟩
theorem gs{α:Type}{n:Nm}{x:α}{l:AL α}:(cY n x l).length<=l.length+1:=by
 rw [<-ak (f:=(·.1)),kq]
 by_cases h:eZ n l=true
 ·rw [if_pos h,ak];exact bJ _
 ·rw [if_neg h,af,ak];exact aA _
theorem iL{α:Type}{l:List α}{a:α}:l.length+1<=(l++[a]).length:=aq (af (as:=l) (bs:=[a])).symm
section
variable {π:PI}{S:Hst}{n:Nm}
theorem uG{α:Type}{x:α}{l:AL α}{m:Nm}(h:eZ m l=true):eZ m (cY n x l)=true:=by rw [ib,h,jW]
theorem oB{α:Type}{x:α}{l:AL α}:eZ n (cY n x l)=true:=by rw [ib,decide_eq_true rfl];rfl
theorem iE{α:Type}{x:α}{l:AL α}{m:Nm}(h:eZ m (cY n x l)=true):m=n\/eZ m l=true:=by
 rw [ib,gG,decide_eq_true_iff]at h;exact h
theorem GD(g:Gd π S)(hw:π.isW n=some false):Gd π (pS (pE (pP S n) (.beg n)) n 0) where
 kw:=λm hm hW=>(iE hm).elim (λe=>absurd (ah (hw.symm.trans ((congrArg π.isW e).symm.trans hW))) ag) λh=>g.kw m h hW
 ks:=λm hm hW=>(iE hm).elim (λe=>e▸oB) λh=>uG (g.ks m h hW)
 lp:=aa gs (aa (ax g.lp) iL)
 lk:=aa g.lk jB
 ls:=aa gs (aa (ax g.ls) iL)
 ll:=aa g.ll jB
 ko:=g.ko
 so:=λm hm=>(iE hm).elim (λe=>e▸hw) (g.so m)
theorem GL{r:Nat×List Int}{f:Nat->Option (Bool×Nm)}(g:Gd π S)(hw:π.isW n=some true):Gd π (pK (pE (pP S n) (.beg n)) n r f) where
 kw:=λm hm hW=>(iE hm).elim (λe=>e▸oB) λh=>uG (g.kw m h hW)
 ks:=λm hm hW=>(iE hm).elim (λe=>absurd (ah (hW.symm.trans ((congrArg π.isW e).trans hw))) ag) λh=>g.ks m h hW
 lp:=aa gs (aa (ax g.lp) iL)
 lk:=aa gs (aa (ax g.lk) iL)
 ls:=aa g.ls jB
 ll:=aa g.ll jB
 ko:=λm hm=>(iE hm).elim (λe=>e▸hw) (g.ko m)
 so:=g.so
end
def BI(π:PI)(σ:Ad)(S:Hst)(v:V)(k:Nat)(ps:List V)(total:List Evt)(its:List V)(ρ:Fm)(H:AH):Prop:=
 ∃o S' es,ρ=[some (.ref σ.i),some v,o]/\Hs σ S' H/\Gd π S'/\Sp π (j4 S) S S' es/\es++(its.flatMap (nms k)).map .beg=total/\∀p∈its,p∈ps
theorem Ge{π:PI}{k0:Nm->List Int}{S S':Hst}{es es' total:List Evt}{b:Nat}(sp:Sp π k0 S S' es)(he:es++es'=total)(hb:S.ev.length+total.length<=b):S'.ev.length+es'.length<=b:=by
 rw [sp.ev,af,cK,<-af,he];exact hb
theorem ED{k m b:Nat}{x:V}{xs:List V}(h:m+(((x::xs).flatMap (nms k)).map Evt.beg).length<=b):m+(nms k x).length<=b:=by
 rw [ak,bz,af]at h;exact aa (bO (ay _ _) _) h
theorem xe{π:PI}{σ:Ad}{k:Nat}{v:V}(hP:Pt π k v):∀{n:Nat} {S:Hst} {H:AH} {Q:QE} {X:XE},Hs σ S H->Gd π S->S.ev.length+(nms k v).length<=900000->(∀S' H',Hs σ S' H'->Gd π S'->Sp π (j4 S) S S' ((nms k v).map .beg)->Q .none H')->aG PL (n+k) 31 [.ref σ.i,v] H Q X:=by
 induction hP with
 |@wk k nm md h1 h2 h3 h4=>
  intro n S H Q X h g hb q
  have hs:S.ev.length<=au:=aa (ay _ _) (aa hb (by decide))
  exact cf ua rfl (r6 h rfl (a9 rfl) (aa g.lp hs) λH1 h1=>zA h1 rfl (.beg nm) (a9 rfl) hs λH2 h2=>dG (a9 rfl) (xl h2 rfl (a9 rfl) (a9 rfl) (aa g.ls hs) λH3 h5=>q _ _ h5 (GD g h3) ⟨rfl,rfl,rfl,rfl,bJ _,funext λm=>ib,cW (congrArg gc h3),λc=>show j4 S c=Cq c (j4 S c) (.beg nm)from CX g h3,λ_=>x8⟩))
 |@wd k nm rl m s ps h1 h2 h3 h4 h5 h6 h7 _ ih=>
  intro n S H Q X h g hb q
  have hs:S.ev.length<=au:=aa (ay _ _) (aa hb (by decide))
  refine cf ua rfl (r6 h rfl (a9 rfl) (aa g.lp hs) λH1 h1=>zA h1 rfl (.beg nm) (a9 rfl) hs λH2 h2=>cJ (a9 rfl) (yA h2 rfl (λ_=>a9 rfl) (aa g.lk hs) λr f H3 h8=>?_))
  refine lg (BI π σ S (iY nm rl m s ps) k ps ((nms (k+1) (iY nm rl m s ps)).map .beg)) (v:=.tup ps) (items:=ps) (a9 rfl) (λ_ _ _ _=>rfl) (aa h5.2 (by decide)) ⟨none,_,[.beg nm],rfl,h8,GL g h6,⟨rfl,rfl,rfl,rfl,bJ _,funext λm=>ib,cW (congrArg gc h6),λ_=>yF,λc=>show p2 S c=Al c (p2 S c) (.beg nm)from C9 g h6⟩,rfl,λ_ h=>h⟩
   (λx xs ρ' H' hI K' hK=>gx hI λo S' es e hS gS sp he hp=>?_) λρ' H' hI=>gx hI λo S' es _ hS gS sp he _=>q _ _ hS gS (he▸(aN es).symm▸sp)
  subst e
  exact iI hS rfl rfl (ev_var rfl) (ih x (hp x (.head _)) hS gS (ED (Ge sp he ((ak _).symm▸hb))) λS'' H'' h' g' sp'=>hK _ _ ⟨_,S'',_,rfl,h',g',sp.trans sp',by rw [<-he,a7,<-aO];rfl,λp hp'=>hp p (.tail _ hp')⟩)
theorem zR{α0 α1 α2 α3:Type}{A0 A1 A2 A3 A4 A5 A6:α0->α1->α2->α3->Prop}{G:Prop}(h:∃a0 a1 a2 a3,A0 a0 a1 a2 a3/\A1 a0 a1 a2 a3/\A2 a0 a1 a2 a3/\A3 a0 a1 a2 a3/\A4 a0 a1 a2 a3/\A5 a0 a1 a2 a3/\A6 a0 a1 a2 a3)(k:∀a0 a1 a2 a3,A0 a0 a1 a2 a3->A1 a0 a1 a2 a3->A2 a0 a1 a2 a3->A3 a0 a1 a2 a3->A4 a0 a1 a2 a3->A5 a0 a1 a2 a3->A6 a0 a1 a2 a3->G):G:=h.elim λa0 h=>h.elim λa1 h=>h.elim λa2 h=>h.elim λa3 h=>k a0 a1 a2 a3 h.1 h.2.1 h.2.2.1 h.2.2.2.1 h.2.2.2.2.1 h.2.2.2.2.2.1 h.2.2.2.2.2.2
def Fd(π:PI)(x:Nm)(h:Nm->Bool):Prop:=∀c m,π.ch c=some m->m≠x->h c=true->h m=true
noncomputable def F8(ns:List Nm)(h:Nm->Bool):Nm->Bool:=λm=>!ns.contains m&&h m
section
variable {π:PI}{k:Nat}{v:V}{x:Nm}{h:Nm->Bool}
theorem C4(hP:Pt π k v):ao v∈nms k v:=by
 induction hP with
 |wk=>exact .head _
 |wd=>exact .head _
end
noncomputable def eE(h:Nm->Bool)(ns:List Nm):List Evt:=(ns.reverse.filter h).map .end_
section
variable {h:Nm->Bool}{a b:List Nm}
end
def EndS(π:PI)(σ:Ad)(k:Nat)(v:V):Prop:=∀{n:Nat} {S:Hst} {H:AH} {Q:QE} {X:XE} (x:Nm),x∉nms k v->Hs σ S H->Gd π S->Fd π x (here S)->here S (ao v)=true->S.ev.length+(nms k v).length<=900000->
 (∀S' H',Hs σ S' H'->Gd π S'->Sp π (j4 S) S S' (eE (here S) (nms k v))->here S'=F8 (nms k v) (here S)->Q .none H')->aG PL (n+2*k) 33 [.ref σ.i,v] H Q X
section
variable {P:Prog}{C:Calls}{ρ:Fm}{H:AH}{X:XE}{π:PI}{σ:Ad}{S:Hst}{k i:Nat}{v:V}{e:Ex}{n:Nm}
theorem zp(hP:Pt π k v):aU P false .item [v,.int 1] H=some (.str (ao v),H):=by
 induction hP with
 |wk=>exact rfl
 |wd=>exact rfl
theorem sg(hP:Pt π k v)(h:ρ[i]? =some (some v)):Ev P C ρ H X (.prim false .item [.var i,.cst (.int 1)]) (.str (ao v)):=ev_p2 (ev_var h) ai (zp hP)
theorem qb{a:Nat}{ks:List Nm}{vs:List V}(h:H[a]? =some (.dict ks vs)):aU P false (.cop .in_) [.str n,.ref a] H=some (.bool (ks.contains n),H):=by
 show((Fb H (.str n) (.ref a) (H[a]?.bind O.lst))).map _=_
 rw [h]
 show((H[a]?.bind O.dct).bind _).map _=_
 rw [h];rfl
theorem rY(hs:Hs σ S H)(h0:ρ[0]? =some (some (.ref σ.i)))(he:Ev P C ρ H X e (.str n)):Ev P C ρ H X (.prim false (.cop .in_) [e,wP ['p','r','e','s','e','n','t']]) (.bool (here S n)):=ev_p2 he (fF hs h0 rfl) (qb (hs.get 5 rfl))
end
def EI6(π:PI)(σ:Ad)(S:Hst)(v:V)(k:Nat)(x:Nm)(ps:List V)(its:List V)(ρ:Fm)(H:AH):Prop:=
 ∃o S' dn,ρ=[some (.ref σ.i),some v,o]/\(Hs σ S' H/\Gd π S')/\Sp π (j4 S) S S' (eE (here S) (dn.reverse.flatMap (nms k)))/\ps=dn++its/\here S'=F8 (dn.flatMap (nms k)) (here S)/\Fd π x (here S')
def EndP(π:PI)(σ:Ad)(k:Nat)(v:V):Prop:=∀{n:Nat} {S:Hst} {H:AH} {Q:QE} {X:XE} (x:Nm),x∉(kids v).flatMap (nms k)->((kids v).flatMap (nms k)).Nodup->Hs σ S H->Gd π S->Fd π x (here S)->S.ev.length+((kids v).flatMap (nms k)).length<=900000->
 (∀S' H',Hs σ S' H'->Gd π S'->Sp π (j4 S) S S' (eE (here S) ((kids v).flatMap (nms k)))->here S'=F8 ((kids v).flatMap (nms k)) (here S)->Fd π x (here S')->Q .none H')->aG PL (n+2*k+1) 32 [.ref σ.i,v] H Q X
theorem nT{a b:V}:[a,b].length<=au:=show 2<=au by decide
section
variable {H:AH}{Q:QE}{X:XE}
theorem uB{P:Prog}{ρ:Fm}{C:Calls}{p:Prim}{a:Ex}(k:cH P C a ρ H (λu H'=>gi (aU P false p [u] H') Q) X):cH P C (.prim false p [a]) ρ H Q X:=k
theorem fo{P:Prog}{ρ:Fm}{C:Calls}{f:Nat}{a:Ex}{x:V}(ha:Ev P C ρ H X a x)(k:C f [x] H Q X):cH P C (.call f [a]) ρ H Q X:=ha _ k
theorem iB{P:Prog}{ρ:Fm}{C:Calls}{f:Nat}{a b:Ex}{x y:V}(ha:Ev P C ρ H X a x)(hb:Ev P C ρ H X b y)(k:C f [x,y] H Q X):cH P C (.call f [a,b]) ρ H Q X:=ha _ (hb _ k)
theorem lL{P:Prog}{C:Calls}{ρ:Fm}{a b c:Ex}{x y z:V}{f:Nat}(ha:Ev P C ρ H X a x)(hb:Ev P C ρ H X b y)(hc:Ev P C ρ H X c z)(k:C f [x,y,z] H Q X):cH P C (.call f [a,b,c]) ρ H Q X:=ha _ (hb _ (hc _ k))
end
section
variable {P:Prog}{C:Calls}{ρ:Fm}{H:AH}{Q:QE}{X:XE}{α:Type}{l:List α}{f g:α->V}{p:α->Bool}{elt it c:Ex}{w:V}
end
theorem kQ{a b:Nat}:iz a b=((bo (b-a)).map (a+·)).map λj:Nat=>V.int j:=by
 unfold iz
 rw [bp,Int.toNat_sub]
 rfl
noncomputable def plc{α:Type}(rl:Nm)(l:List α)(i:Nat)(x:α):List α:=if rl=['o','n','e']then [x]else if rl=['r','e','s','t']then l.drop i else l
def Up(π:PI)(h:Nm->Bool):Prop:=∀c m,π.ch c=some m->h c=true->h m=true
section
variable {P:Prog}{C:Calls}{ρ:Fm}{H:AH}{K:KS}{R:QE}{X:XE}{ss:List St}{σ:Ad}{S:Hst}{n:Nm}{a b c:Ex}{x y z:V}
theorem m8{d:Nat}{ks:List Nm}{vs:List V}(h:H[d]? =some (.dict ks vs))(e:eS n ks vs=some x):aU P false .item [.ref d,.str n] H=some (x,H):=by
 show((H[d]?.bind O.dct).bind λd=>eS n d.1 d.2).map _=_
 rw [h]
 show(eS n ks vs).map _=_
 rw [e];rfl
theorem qt{α:Type}{val:α->V}{l:AL α}{d:Nat}{x:α}(h:H[d]? =some (dO val l))(e:dW n l=some x):aU P false .item [.ref d,.str n] H=some (val x,H):=m8 h (kS.trans (congrArg (ba val) e))
theorem ly{t:Mt}{mu:Bool}{p:Prim}(ho:Ev P C ρ H X a x)(ht:lu H x t=true)(hb:Ev P C ρ H X b y)(k:gi (aU P mu p [x,y] H) λ_ H'=>bh P C ss ρ H' K R X):bh P C (.expr (.mcall t mu p a [b])::ss) ρ H K R X:=st_expr (ho _ ⟨ht,hb _ k⟩)
end
section
variable {n:Nm}
end
section
variable {P:Prog}{C:Calls}{ρ:Fm}{H:AH}{K:KS}{R:QE}{X:XE}{ss:List St}{σ:Ad}{S:Hst}{n:Nm}
noncomputable def pA(S:Hst)(n:Nm)(r:Nat)(q:List Int):Hst:={S with kept:=cY n (r,q) S.kept,kl:=S.kl+1}
end
theorem vF{P:Prog}{C:Calls}{ρ:Fm}{H:AH}{K:KS}{R:QE}{X:XE}{ss body:List St}{rev:Bool}{tgt:Nat ⊕ List Nat}{v:V}{α:Type}{f:α->V}{st:α->Fm->Fm}(ht:∀x ρ,eM ρ tgt (f x)=some (st x ρ)){l:List α}(Inv:List α->Fm->AH->Prop)
  (hs:∀its ρ' H',Inv its ρ' H'->gE rev H' v=some (l.map f))(hl:l.length<=au)(h0:Inv l ρ H)
  (step:∀x xs ρ' H',Inv (x::xs) ρ' H'->∀K':KS,(∀ρ'' H'',Inv xs ρ'' H''->K' ρ'' H'')->bh P C body (st x ρ') H' K' R (λ_ _=>False))
  (fin:∀ρ' H',Inv [] ρ' H'->bh P C ss ρ' H' K R X):∃items,gE rev H v=some items/\items.length<=au/\
   forL (λx ρ' H' K'=>match eM ρ' tgt x with|some ρ''=>bh P C body ρ'' H' K' R (λ_ _=>False)|none=>False) (λH'=>gE rev H' v=some items) items ρ H (λρ' H'=>bh P C ss ρ' H' K R X):=by
 refine⟨l.map f,hs _ _ _ h0,(ak f).symm▸hl,lz (λits ρ H=>∃js,js.map f=its/\Inv js ρ H) (λx xs ρ' H' q=>ea1_2 q λjs e q=>⟨hs _ _ _ q,λK' hK=>?_⟩) (λρ' H' q=>ea1_2 q λjs e q=>⟨hs _ _ _ q,fin _ _ (CT.mp e▸q)⟩) ⟨l,rfl,h0⟩⟩
 cases js with
 |nil=>exact absurd e.symm (GT _ _)
 |cons j js=>
  haveI e:=gf e
  rw [<-e.1,ht]
  exact step j js ρ' H' q K' λρ'' H'' q=>hK _ _ ⟨js,e.2,q⟩
theorem yU{P:Prog}{C:Calls}{ρ:Fm}{H:AH}{K:KS}{R:QE}{X:XE}{ss body:List St}{rev:Bool}{tgt:Nat ⊕ List Nat}{e:Ex}{v:V}{α:Type}{f:α->V}{st:α->Fm->Fm}(ht:∀x ρ,eM ρ tgt (f x)=some (st x ρ)){l:List α}(Inv:List α->Fm->AH->Prop)(h:Ev P C ρ H X e v)
  (hs:∀its ρ' H',Inv its ρ' H'->gE rev H' v=some (l.map f))(hl:l.length<=au)(h0:Inv l ρ H)
  (step:∀x xs ρ' H',Inv (x::xs) ρ' H'->∀K':KS,(∀ρ'' H'',Inv xs ρ'' H''->K' ρ'' H'')->bh P C body (st x ρ') H' K' R (λ_ _=>False))
  (fin:∀ρ' H',Inv [] ρ' H'->bh P C ss ρ' H' K R X):bh P C (.forIn rev tgt e body::ss) ρ H K R X:=tR (h _ (vF ht Inv hs hl h0 step fin))
theorem kW{P:Prog}{C:Calls}{ρ:Fm}{H:AH}{K:KS}{R:QE}{X:XE}{ss body:List St}{rev:Bool}{i:Nat}{e:Ex}{v:V}{α:Type}{f:α->V}{l:List α}(Inv:List α->Fm->AH->Prop)(h:Ev P C ρ H X e v)
  (hs:∀its ρ' H',Inv its ρ' H'->gE rev H' v=some (l.map f))(hl:l.length<=au)(h0:Inv l ρ H)
  (step:∀x xs ρ' H',Inv (x::xs) ρ' H'->∀K':KS,(∀ρ'' H'',Inv xs ρ'' H''->K' ρ'' H'')->bh P C body (ρ'.set i (some (f x))) H' K' R (λ_ _=>False))
  (fin:∀ρ' H',Inv [] ρ' H'->bh P C ss ρ' H' K R X):bh P C (.forIn rev (.inl i) e body::ss) ρ H K R X:=yU (st:=λx ρ=>ρ.set i (some (f x))) (λ_ _=>rfl) Inv h hs hl h0 step fin
theorem Fx{N m f:Nat}{args:List V}{H:AH}{Q:QE}{X:XE}(h:m<=N)(k:aG PL (N-m+m) f args H Q X):aG PL N f args H Q X:=by
 rw [mz h]at k;exact k
section
variable {π:PI}{σ:Ad}{k d:Nat}{v:V}{h:Nm->Bool}{n:Nm}
theorem oK(hP:Pt π k v):nms k v=ao v::(kids v).flatMap (nms (k-1)):=by
 induction hP with
 |wk=>exact rfl
 |wd=>exact rfl
theorem zn{ns:List Nm}{m:Nm}:∀{h:Nm->Bool},(ns.map Evt.beg).foldl hr h m=true↔m∈ns\/h m=true:=by
 induction ns with
 |nil=>exact⟨.inr,λq=>q.elim (λq=>absurd q br) id⟩
 |cons a ns ih=>
  intro h
  refine ih.trans ?_
  refine(?_:m∈ns\/(decide (m=a)||h m)=true↔_)
  rw [gG,decide_eq_true_iff,bA,or_assoc,or_left_comm]
end
noncomputable def GH:List V->Nm
 |_::_::v::_=>v.txt.getD []
 |_=>[]
noncomputable def Fa(v:V):Nm:=GH (v.tpl.getD [])
noncomputable def Fj(v:V):Bool:=Fa v==['n','e','v','e','r']
noncomputable def alV(v:V):Bool:=!(Fa v==['f','a','u','l','t','e','d']||Fj v)
noncomputable def C8(k:Nat)(vs:List V):Int:=((vs[k]?).bind V.num).getD 0
noncomputable def spV(v:V):Int:=C8 4 (v.tpl.getD [])
noncomputable def mnV(v:V):Int:=C8 3 (v.tpl.getD [])
noncomputable def fW:Nat->V->List V
 |0,_=>[]
 |k+1,v=>v::(kids v).flatMap (fW k)
structure mdOk(π:PI)(x:V):Prop where
 nv:π.nv (ao x)=Fj x
 al:π.al (ao x)=alV x
 sp:π.sp (ao x)=spV x
 mn:π.mn (ao x)=mnV x
 sb:π.sb (ao x)=nms 8 x
 kd:π.kd (ao x)=(kids x).map ao
 ru:π.ru (ao x)=Fa x
noncomputable def Fh(t s:Int)(l:List Int):List Int:=l.filter λz=>decide (t-s<z)
noncomputable def upK(k:Nm->List Int)(w:Nm)(x:List Int):Nm->List Int:=λc=>if w=c then x else k c
noncomputable def cF(π:PI)(n:Nm):Bool:=!π.nv n&&(π.ch n).isSome
noncomputable def pre(π:PI)(h:Nm->Bool)(e:Evt):List Evt:=e::eE (hr h e) (π.sb e.nm).tail
noncomputable def xI(π:PI)(h:Nm->Bool):List Nm->List Evt
 |[]=>[]
 |m::ms=>eE h (π.sb m)++xI π ((eE h (π.sb m)).foldl hr h) ms
noncomputable def anE(π:PI)(h:Nm->Bool)(w:Nm)(i:Nat)(n:Nm):List Evt:=
 xI π h ((plc (π.ru w) (π.kd w) i n).filter h).reverse++(((plc (π.ru w) (π.kd w) i n).filter λm=>m==n||(h m&& !π.nv m)).flatMap π.sb).map .beg
inductive Fe(π:PI)(t:Int):Bool->(Nm->Bool)->(Nm->List Int)->Evt->List Evt->(Nm->List Int)->Prop
 |stop {c:Bool} {h:Nm->Bool} {k k':Nm->List Int} {e:Evt} {es:List Evt}:c=false->es=pre π h e->k'=k->Fe π t c h k e es k'
 |here {c:Bool} {h:Nm->Bool} {k k':Nm->List Int} {e:Evt} {es:List Evt} {w:Nm} {i:Nat}:c=true->π.ch e.nm=some w->es=pre π h e++anE π ((pre π h e).foldl hr h) w i e.nm->k'=upK k w (k w++[t])->((Fh t (π.sp w) (k w++[t])).length:Int)<=π.mn w->(π.kd w)[i]? =some e.nm->(∀m∈π.kd w,(pre π h e).foldl hr h m=false->∀x∈π.sb m,(pre π h e).foldl hr h x=false)->Fe π t c h k e es k'
 |go {c:Bool} {h:Nm->Bool} {k k':Nm->List Int} {e:Evt} {w:Nm} {es es2:List Evt}:c=true->π.ch e.nm=some w->es=pre π h e++es2->π.mn w<((Fh t (π.sp w) (k w++[t])).length:Int)->Fe π t (cF π w) ((pre π h e).foldl hr h) (upK k w (k w++[t])) (.fail w) es2 k'->Fe π t c h k e es k'
structure Rd(π:PI)(k:Nat)(v:V):Prop where
 pt:Pt π k v
 nd:(nms k v).Nodup
 k7:k<=7
 len:(nms k v).length<=60
 md:∀x∈fW k v,mdOk π x
def Rt(π:PI)(σ:Ad):Nat->Nat->V->Prop
 |0,k,v=>Rd π k v/\eS (ao v) σ.chk σ.chv=some .none/\∀m,π.ch (ao v)≠some m
 |d+1,k,v=>Rd π k v/\∃w,Rt π σ d (k+1) w/\v∈kids w/\eS (ao v) σ.chk σ.chv=some w
theorem Rt.rd{π:PI}{σ:Ad}{d k:Nat}{v:V}(h:Rt π σ d k v):Rd π k v:=by
 cases d with
 |zero=>exact h.1
 |succ d=>exact h.1
def Gb(π:PI)(σ:Ad)(S:Hst)(c:Bool)(m:Nm)(b:Nat)(Q:QE):Prop:=∀S' H' es k',Hs σ S' H'->Gd π S'->Sp π k' S S' es->es.length<=b->Up π (here S')->Fe π S.clock c (here S) (j4 S) (.fail m) es k'->Q .none H'
def Gc(π:PI)(σ:Ad)(S:Hst)(m:Nm)(b:Nat)(Q:QE):Prop:=∀S' H' es k',Hs σ S' H'->Gd π S'->Sp π k' (pL S (S.kl+1)) S' es->es.length<=b->Up π (here S')->(∀(e:Evt) (h:Nm->Bool),e.nm=m->(pre π h e).foldl hr h=here S->Fe π S.clock true h (j4 S) e (pre π h e++es) k')->Q .none H'
noncomputable def bF(d:Nat):Nat:=60*(d+1)+960
def FallS(π:PI)(σ:Ad)(d:Nat):Prop:=∀{k n:Nat} {v:V} {S:Hst} {H:AH} {Q:QE} {X:XE},Rt π σ d k v->Hs σ S H->Gd π S->Up π (here S)->here S (ao v)=true->S.ev.length+bF d<=900000->Gb π σ S (cF π (ao v)) (ao v) (bF d) Q->aG PL (n+(2*d+20)) 34 [.ref σ.i,v] H Q X
def FolS(π:PI)(σ:Ad)(d:Nat):Prop:=∀{k n:Nat} {w p:V} {S:Hst} {H:AH} {Q:QE} {X:XE},Rt π σ d k w->p∈kids w->Hs σ S H->Gd π S->S.kl<S.ev.length->Up π (here S)->here S (ao w)=true->S.ev.length+bF d<=900000->Gc π σ S (ao p) (bF d) Q->aG PL (n+(2*d+21)) 35 [.ref σ.i,w,p] H Q X
theorem vU{α:Type}{f:α->V}{l:List α}(h:∀a,sR (f a)):∀v∈l.map f,sR v:=λ_ hv=>ea1_2 (az.mp hv) λa _ e=>e▸h a
theorem vA{π:PI}{k:Nat}{v:V}(hP:Pt π k v):v∈fW k v:=by
 induction hP with
 |wk=>exact .head _
 |wd=>exact .head _
section
variable {π:PI}{σ:Ad}{d:Nat}
theorem zD{d b:Nat}(h:b<=60):b<=bF d:=aa h (aa (bP 60 (60*d)) (ay _ 960))
end
noncomputable def pj(ps:List V)(j:Nat):V:=(ps[j]?).getD .none
theorem cz{a b:Nat}(h:Nat.ble (a+1) b=true):a<b:=av h
abbrev ni(j:Nat):V:=.int j
section
variable {π:PI}{σ:Ad}{d:Nat}
abbrev nj(ps:List V)(j:Nat):Nm:=ao (pj ps j)
def FI7(π:PI)(σ:Ad)(S:Hst)(w p kp:V)(i:Nat)(l wr:List Nat)(ps:List V)(nm:Nm)(js:List Nat)(ρ:Fm)(H:AH):Prop:=
 ∃o S' dn,ρ=[some (.ref σ.i),some w,some p,some kp,some (.int i),some (.lst (l.map ni)),o,some (.lst (wr.map ni)),none]/\(Hs σ S' H/\Gd π S'/\Up π (here S'))/\Sp π (j4 S) S S' (xI π (here S) (dn.map (nj ps)))/\((xI π (here S) (dn.map (nj ps))).length+60*js.length<=480/\dn++js=wr.reverse)/\(js.Nodup/\∀j∈js,j<ps.length/\here S' (nj ps j)=true)/\here S' nm=true
def FI8(π:PI)(σ:Ad)(S:Hst)(w p kp:V)(i:Nat)(l wr:List Nat)(ps:List V)(nm:Nm)(E0:List Evt)(cd:Nat->Bool)(js:List Nat)(ρ:Fm)(H:AH):Prop:=
 ∃o o' S' dn,ρ=[some (.ref σ.i),some w,some p,some kp,some (.int i),some (.lst (l.map ni)),o,some (.lst (wr.map ni)),o']/\(Hs σ S' H/\Gd π S')/\Up π (here S')/\Sp π (j4 S) S S' (E0++((dn.filter cd).flatMap λj=>π.sb (nj ps j)).map .beg)/\(E0++((dn.filter cd).flatMap λj=>π.sb (nj ps j)).map .beg).length+60*js.length<=960/\(dn++js=l/\∀j∈js,j<ps.length)/\here S' nm=true
end
inductive LV:V->Prop
 |add {i:Int}:-1000000000<=i/\i<=1000000000->LV (.tup [.str ['a','d','d'],.int i])
 |fault:LV (.tup [.str ['f','a','u','l','t']])
 |leave:LV (.tup [.str ['l','e','a','v','e']])
def Evt.ok(π:PI):Evt->Prop
 |.sent n _ l=>π.isW n=some false/\LV l
 |.works n _|.lost n _=>π.isW n=some false
 |.beg n|.end_ n|.fail n|.leave n=>(π.isW n).isSome=true
noncomputable def qS(S:Hst)(n:Nm):List (Nat×V):=((dW n S.qu).map (·.2)).getD []
structure Iv(π:PI)(S:Hst):Prop where
 gd:Gd π S
 up:Up π (here S)
 nm:∀e∈S.ev,e.ok π
 qk:∀n,eZ n S.qu=true↔π.isW n=some false
 lv:∀p∈S.qu,∀q∈p.2.2,LV q.2
 lq:S.qu.length<=60
section
variable {π:PI}{S S':Hst}{es:List Evt}{n:Nm}
theorem Bz(nm:∀e∈es,e.plain π):∀e∈es,e.ok π:=λe he=>by
 have p:=nm e he
 cases e with
 |beg _|end_ _|fail _|leave _=>exact p
 |sent _ _ _|works _ _|lost _ _=>exact p.elim
theorem Iv.plain{k0:Nm->List Int}(iv:Iv π S)(sp:Sp π k0 S S' es)(gd:Gd π S')(up:Up π (here S')):Iv π S':=⟨gd,up,sp.ev▸cM iv.nm (Bz sp.nm),sp.qu▸iv.qk,sp.qu▸iv.lv,sp.qu▸iv.lq⟩
theorem xV{x:Nat×List (Nat×V)}(e:dW n S.qu=some x):qS S n=x.2:=by unfold qS;rw [e];rfl
structure Pl(π:PI)(σ:Ad):Prop where
 nm:∀m,(π.isW m).isSome=true->m∈σ.names
 ok:∀m∈σ.names,jT m
 le:σ.names.length<=60
 pt:∀m∈σ.names,∃d k v,(d<=6/\(d=0->π.isW m=some true))/\Rt π σ d k v/\ao v=m/\eS m σ.names σ.partVs=some v
 top:Pt π 7 σ.plan
 nd:σ.names.Nodup
end
set_option genInjectivity false in
structure Ab where
 h:Nm->Bool
 k:Nm->List Int
 s:Nm->Int
 q:Nm->List (Nat×V)
 ev:List Evt
 t:Int
 lt:Nat
noncomputable def xo(S:Hst):Ab:=⟨here S,j4 S,p2 S,qS S,S.ev,S.clock,S.letters⟩
noncomputable def GK{α:Type}(f:Nm->α)(n:Nm)(x:α):Nm->α:=λm=>if m=n then x else f m
noncomputable def aF(es:List Evt)(k':Nm->List Int)(A:Ab):Ab:={A with h:=es.foldl hr A.h,k:=λc=>es.foldl (Cq c) (k' c),s:=λc=>es.foldl (Al c) (A.s c),ev:=A.ev++es}
noncomputable def loE(h:Nm->Bool)(q:Nm->List (Nat×V))(ns:List Nm):List Evt:=ns.flatMap λn=>if h n=true then []else(q n).map λp=>.lost n p.1
noncomputable def aL(ns:List Nm)(A:Ab):Ab:={A with q:=λn=>if A.h n=true then A.q n else [],ev:=A.ev++loE A.h A.q ns}
noncomputable def aS(m:Nm)(l:V)(A:Ab):Ab:={A with q:=GK A.q m (A.q m++[(A.lt+1,l)]),ev:=A.ev++[.sent m (A.lt+1) l],lt:=A.lt+1}
noncomputable def aT(A:Ab):Ab:={A with t:=A.t+1}
noncomputable def aW(m:Nm)(k0:Nat)(ps:List (Nat×V))(A:Ab):Ab:={A with t:=A.t+1,q:=GK A.q m ps,ev:=A.ev++[.works m k0]}
noncomputable def aD(m:Nm)(i:Int)(A:Ab):Ab:={A with s:=GK A.s m (A.s m+i)}
inductive Wk(π:PI)(m:Nm)(k0:Nat)(ps:List (Nat×V))(A:Ab):V->Ab->Prop
 |add {i:Int}:Wk π m k0 ps A (.tup [.str ['a','d','d'],.int i]) (aD m i (aW m k0 ps A))
 |fault {es:List Evt} {k':Nm->List Int}:Fe π (A.t+1) (cF π m) A.h A.k (.fail m) es k'->Wk π m k0 ps A (.tup [.str ['f','a','u','l','t']]) (aF es k' (aW m k0 ps A))
 |leave {es:List Evt} {k':Nm->List Int}:Fe π (A.t+1) (π.al m) A.h A.k (.leave m) es k'->Wk π m k0 ps A (.tup [.str ['l','e','a','v','e']]) (aF es k' (aW m k0 ps A))
inductive De(π:PI)(ns:List Nm)(A:Ab):V->Ab->Prop
 |send {m:Nm} {l:V}:De π ns A (.tup [.str ['s','e','n','d'],.str m,l]) (aS m l A)
 |work {m:Nm} {k0:Nat} {l:V} {ps:List (Nat×V)} {A2:Ab}:A.q m=(k0,l)::ps->Wk π m k0 ps A l A2->De π ns A (.tup [.str ['w','o','r','k'],.str m]) (aL ns A2)
 |fail {m:Nm} {es:List Evt} {k':Nm->List Int}:Fe π (A.t+1) (cF π m) A.h A.k (.fail m) es k'->De π ns A (.tup [.str ['f','a','i','l'],.str m]) (aL ns (aF es k' (aT A)))
noncomputable def pEs(S:Hst)(es:List Evt):Hst:={S with ev:=S.ev++es}
theorem j8{P:Prog}{H:AH}{n:Nm}{a:Nat}{ks:List Nm}{vs:List V}(h:H[a]? =some (.dict ks vs)):aU P false (.cop .notin) [.str n,.ref a] H=some (.bool (!ks.contains n),H):=by
 show(((Fb H (.str n) (.ref a) (H[a]?.bind O.lst))).map _).map _=_
 rw [h]
 show(((H[a]?.bind O.dct).bind _).map _).map _=_
 rw [h];rfl
theorem fZ{H:AH}{r:Nat}{vs:List V}(h:H[r]? =some (.list vs)):gE false H (.ref r)=some vs:=by
 show H[r]?.bind O.lst=_
 rw [h];rfl
structure Lz(S S':Hst):Prop where
 lt:S'.letters=S.letters
 pr:S'.pres=S.pres
 sm:S'.sums=S.sums
 kp:S'.kept=S.kept
 ck:S'.clock=S.clock
def LI(π:PI)(σ:Ad)(S:Hst)(its:List Nm)(ρ:Fm)(H:AH):Prop:=
 ∃a b c S' dn,ρ=[some (.ref σ.i),a,b,c]/\Hs σ S' H/\Iv π S'/\Lz S S'/\S'.ev.length+its.length*S.letters<=S.ev.length+60*S.letters/\(dn++its=σ.names/\S'.ev=S.ev++loE (here S) (qS S) dn/\∀n,qS S' n=if here S n=false/\n∈dn then []else qS S n)
def LJ(σ:Ad)(S:Hst)(n:Nm)(q its:List (Nat×V))(ρ:Fm)(H:AH):Prop:=
 ∃b c dn,ρ=[some (.ref σ.i),some (.str n),b,c]/\dn++its=q/\Hs σ (pEs S (dn.map λp=>.lost n p.1)) H
theorem Gd.mono{π:PI}{S S':Hst}(g:Gd π S)(e1:S'.pres=S.pres)(e2:S'.kept=S.kept)(e3:S'.sums=S.sums)(e4:S'.kl=S.kl)(le:S.ev.length<=S'.ev.length):Gd π S':=by
 refine⟨?_,?_,?_,?_,?_,?_,?_,?_⟩
 ·rw [e1,e2];exact g.kw
 ·rw [e1,e3];exact g.ks
 ·rw [e1];exact aa g.lp le
 ·rw [e2];exact aa g.lk le
 ·rw [e3];exact aa g.ls le
 ·rw [e4];exact aa g.ll le
 ·rw [e2];exact g.ko
 ·rw [e3];exact g.so
theorem fx{α:Type}{a b:List α}:a.length<=(a++b).length:=aa (ay _ _) (aq af.symm)
theorem vG{π:PI}{σ:Ad}(pl:Pl π σ){n:Nm}(h:π.isW n=some false):n∈σ.names:=pl.nm n (congrArg gc h)
section
variable {n:Nat}{H:AH}{Q:QE}{X:XE}
theorem f1{a b i:Int}(h:a<=i/\i<=b)(q:Q (.bool true) H):aG PL (n+1) 1 [.int i,.int a,.int b] H Q X:=
 cf zE rfl (ev_ret (cI (s:=true) (t:=true) (a9 rfl) λ_=>cI (s:=true) (t:=true) (a9 rfl) λ_=>ca (kC (ev_var rfl) (ev_var rfl) (ev_var rfl)) (by rw [decide_eq_true h.1,decide_eq_true h.2];rfl)) q)
theorem f2{s:Nm}(h:jT s)(q:Q (.bool true) H):aG PL (n+1) 2 [.str s] H Q X:=by
 refine cf zj rfl (cJ (bT (s:=false) (t:=false) (a9 rfl) λ_=>bG (s:=true) (ca (kC (i:=1) (j:=s.length) (k:=8) ai (bw (ev_var rfl) iG) ai) ?_)) (ev_ret (bw (gT (l:=s) (f:=λc=>.str [c]) (g:=λc=>.bool (kU.contains c)) (ev_var rfl) rfl (aa h.2.1 (by decide)) λ_ _=>a9 rfl) ?_) q))
 ·rw [decide_eq_true (show(1:Int)<=s.length from aX.mpr h.1),decide_eq_true (show(s.length:Int)<=8 from aX.mpr h.2.1)];rfl
 ·rw [show(s.map λc=>V.bool (kU.contains c))=(s.map λc=>kU.contains c).map V.bool from bp.symm,wp,List.all_map]
  exact congrArg (λt=>some (V.bool t,H)) (a8.mpr λc hc=>aR.mpr (h.2.2 c hc))
theorem f3{v:V}(h:LV v)(q:Q (.bool true) H):aG PL (n+2) 3 [v] H Q X:=by
 induction h with
 |add h=>exact cf vI rfl (cJ (a9 rfl) (dG (a9 rfl) (ev_ret (cI (s:=true) (t:=true) (a9 rfl) λ_=>fR (a9 rfl) (a9 rfl) (a9 rfl) λQ q=>f1 h q) q)))
 |fault=>exact cf vI rfl (cJ (a9 rfl) (cJ (a9 rfl) (ev_ret (a9 rfl) q)))
 |leave=>exact cf vI rfl (cJ (a9 rfl) (cJ (a9 rfl) (ev_ret (a9 rfl) q)))
end
section
variable {P:Prog}{C:Calls}{ρ:Fm}{H:AH}{K:KS}{R:QE}{X:XE}{ss:List St}{σ:Ad}{S S':Hst}{n nm:Nm}{e:Ex}{x:V}
theorem jJ{f i:Nat}(h:Hs σ S H)(h0:ρ[i]? =some (some (.ref σ.i)))(hn:hk.contains nm=false)(hc:∀Q:QE,Q x H->C f [.ref σ.i] H Q X):Ev P C ρ H X (.meth 0 f nm (.var i) []) x:=λQ q=>
 ev_var (P:=P) (C:=C) (X:=X) h0 (λv H₁=>fY H₁ 0 nm v=true/\fw P C [] ρ H₁ (λvs H'=>C f (v::vs) H' Q X) X) ⟨p9 h hn,hc Q q⟩
theorem lQ{f i:Nat}{a:Ex}{y:V}(h:Hs σ S H)(h0:ρ[i]? =some (some (.ref σ.i)))(hn:hk.contains nm=false)(ha:Ev P C ρ H X a y)(hc:∀Q:QE,Q x H->C f [.ref σ.i,y] H Q X):Ev P C ρ H X (.meth 0 f nm (.var i) [a]) x:=λQ q=>
 ev_var (P:=P) (C:=C) (X:=X) h0 (λv H₁=>fY H₁ 0 nm v=true/\fw P C [a] ρ H₁ (λvs H'=>C f (v::vs) H' Q X) X) ⟨p9 h hn,ha _ (hc Q q)⟩
noncomputable def pC(S:Hst)(c:Int):Hst:={S with clock:=c}
noncomputable def pN(S:Hst)(c:Nat):Hst:={S with letters:=c}
theorem Dk{i:Nat}{x:Nat×List (Nat×V)}(h:Hs σ S H)(h0:ρ[0]? =some (some (.ref σ.i)))(hi:ρ[i]? =some (some (.str n)))(e:dW n S.qu=some x):Ev P C ρ H X (.prim false .item [wP ['q','u','e','u','e','s'],.var i]) (.ref x.1):=ev_p2 (fF h h0 rfl) (ev_var hi) (qt (val:=quR) (h.get 8 rfl) e)
end
theorem ii{n j:Nat}(h:j<=n):jM n (j:Int)=j:=by
 unfold jM
 rw [if_neg (cg.mpr (bH j))]
 by_cases q:(j:Int)<n
 ·rw [if_pos q];rfl
 ·rw [if_neg q];exact j2 (aX.mp (cg.mp q)) h
structure At(π:PI)(σ:Ad)(S:Hst)(H:AH):Prop where
 hs:Hs σ S H
 iv:Iv π S
def MH(π:PI)(σ:Ad)(S:Hst)(dv:V)(b:Nat)(Q:QE):Prop:=∀S' H' es,At π σ S' H'->S'.letters<=S.letters+1->S'.ev.length<=S.ev.length+b->De π σ.names (xo S) dv (xo S')->S'.ev=S.ev++es->Q (.ref H'.length) (H'++[.list (es.map Evt.v)])
section
variable {π:PI}{σ:Ad}{n:Nat}{S:Hst}{H:AH}{Q:QE}{X:XE}{m:Nm}
theorem f38(h:Hs σ S H)(hn:jT m)(hq:eZ m S.qu=true)(q:Q .none H):aG PL (n+2) 38 [.ref σ.i,.str m] H Q X:=
 cf Am rfl (cJ (bT (s:=false) (t:=false) (bG (s:=true) (bU (ev_var rfl) λQ q=>f2 hn q)) λ_=>ca (ev_p2 (ev_var rfl) (fF h rfl rfl) (j8 (h.get 8 rfl))) (congrArg (λt=>V.bool (!t)) hq)) q)
theorem DC{k':Nm->List Int}{es:List Evt}{S₂:Hst}(sp:Sp π k' S S₂ es):xo S₂=aF es k' (xo S):=by
 show(⟨here S₂,j4 S₂,p2 S₂,qS S₂,S₂.ev,S₂.clock,S₂.letters⟩:Ab)=⟨es.foldl hr (here S),λc=>es.foldl (Cq c) (k' c),λc=>es.foldl (Al c) (p2 S c),qS S,S.ev++es,S.clock,S.letters⟩
 rw [sp.hr,sp.ev,sp.ck,sp.lt,show j4 S₂=_ from funext sp.kp,show p2 S₂=_ from funext sp.sm,show qS S₂=qS S from congrArg (λ(l:AL (Nat×List (Nat×V))) n=>((dW n l).map n4).getD []) sp.qu]
end
theorem zh{P:Prog}{C:Calls}{ρ:Fm}{H:AH}{X:XE}{a b c d:Ex}{x y u w z:V}{p:Prim}(h:Ev P C ρ H X a x)(h2:Ev P C ρ H X b y)(h3:Ev P C ρ H X c u)(h4:Ev P C ρ H X d w)(e:aU P false p [x,y,u,w] H=some (z,H)):Ev P C ρ H X (.prim false p [a,b,c,d]) z:=λ_ q=>h _ (h2 _ (h3 _ (h4 _ (hE e q))))
section
variable {π:PI}{σ:Ad}{n:Nat}{S:Hst}{H:AH}{Q:QE}{X:XE}{m:Nm}
def MS(π:PI)(σ:Ad)(S:Hst)(m:Nm)(l:V)(b:Nat)(Q:QE):Prop:=∀S' H',At π σ S' H'->S'.letters<=S.letters+1->S'.ev.length<=S.ev.length+b->xo S'=aS m l (xo S)->Q (ni S'.letters) H'
theorem lA{P:Prog}{C:Calls}{ρ:Fm}{p:Prim}{a:Ex}(k:cH P C a ρ H (λu H'=>gi (aU P true p [u] H') Q) X):cH P C (.prim true p [a]) ρ H Q X:=k
theorem Ec(h:Hs σ S H)(hh:here S m=true)(q:Q .none H):aG PL (n+1) 39 [.ref σ.i,.str m] H Q X:=cf B6 rfl (cJ (ca (ev_p2 (ev_var rfl) (fF h rfl rfl) (j8 (h.get 5 rfl))) (congrArg (λt=>V.bool (!t)) hh)) q)
theorem f48(pl:Pl π σ)(h:Hs σ S H)(iv:Iv π S)(hm:π.isW m=some false)(hh:here S m=true)(q:Q (.int (p2 S m)) H):aG PL (n+3) 48 [.ref σ.i,.str m] H Q X:=
 (lS (iv.gd.ks m hh hm)).elim λz ez=>cf Ce rfl (iI h rfl rfl (ev_var rfl) (f38 h (pl.ok m (vG pl hm)) ((iv.qk m).mpr hm) (iI h rfl rfl (ev_var rfl) (Ec h hh (ev_ret (ev_p2 (fF h rfl rfl) (ev_var rfl) (qt (val:=V.int) (h.get 6 rfl) ez)) (by unfold p2 at q;rw [ez]at q;exact q))))))
theorem BB{k:Nat}{v:V}{G:V->Prop}(hP:Pt π k v)(hw:π.isW (ao v)=some true)(g:∀nm r m s ps,G (iY nm r m s ps)):G v:=by
 induction hP with
 |wk _ _ h=>exact absurd (ah (h.symm.trans hw)) ag
 |wd=>exact g _ _ _ _ _
end
theorem rV{P:Prog}{C:Calls}{ρ:Fm}{H:AH}{K:KS}{R:QE}{X:XE}{ss:List St}{is:List Nat}{e:Ex}(h:cH P C e ρ H (λv H'=>match eM ρ (.inr is) v with|some ρ'=>bh P C ss ρ' H' K R X|none=>False) X):bh P C (.asgTup is e::ss) ρ H K R X:=h
section
variable {π:PI}{σ:Ad}{n:Nat}{S:Hst}{H:AH}{Q:QE}{X:XE}{m:Nm}
end
theorem uE{H:AH}{α:Type}{f:α->V}{l:List α}(h:∀a,sR (f a)):rd H (.lst (l.map f))=some (.lst (l.map f)):=Az (vU h)
theorem ja{a b:Int}(hb:0<b):0<=a%b/\a%b<b:=⟨qW _ (jV hb),mB _ hb⟩
section
variable {n:Nat}{H:AH}{Q:QE}{X:XE}
end
noncomputable def Db:List V->Nm
 |v::_=>v.txt.getD []
 |_=>[]
noncomputable def sdV(v:V):Bool:=Db (v.tpl.getD [])==['s','e','n','d']
noncomputable def wkD(v:V):Bool:=Db (v.tpl.getD [])==['w','o','r','k']
noncomputable def canB(r:Nm)(A:Ab)(v:V):Bool:=A.h r&&(A.h (ao v)&&(!wkD v|| !(A.q (ao v)).isEmpty))
inductive Dd(π:PI)(σ:Ad):V->Prop
 |send {m:Nm} {l:V}:π.isW m=some false->LV l->Dd π σ (.tup [.str ['s','e','n','d'],.str m,l])
 |work {m:Nm}:π.isW m=some false->Dd π σ (.tup [.str ['w','o','r','k'],.str m])
 |fail {m:Nm}:m∈σ.names->Dd π σ (.tup [.str ['f','a','i','l'],.str m])
section
variable {π:PI}{σ:Ad}{n:Nat}{S:Hst}{H:AH}{Q:QE}{X:XE}{m:Nm}
end
section
variable {π:PI}{σ:Ad}{n:Nat}{S:Hst}{H:AH}{Q:QE}{X:XE}
theorem le3{a b c:V}:[a,b,c].length<=au:=show 3<=au by decide
theorem tI{a:V}:[a].length<=au:=show 1<=au by decide
end
section
variable {H:AH}{Q:QE}{X:XE}
end
section
variable {π:PI}{n:Nat}{H:AH}{Q:QE}{X:XE}
end
section
variable {P:Prog}{C:Calls}{ρ:Fm}{H:AH}{K:KS}{R:QE}{X:XE}{ss:List St}{e a b:Ex}{x y:V}{n:Nm}
theorem sa{i j:Nat}{H':AH}(hi:ρ[i]? =some (some (.ref j)))(he:Ev P C ρ H X e (.str n))(eq:dK (.ref j) (.str n) x H=some H')(k:bh P C ss ρ H' K R X):bh P C (.setItem (.var i) e (.cst x)::ss) ρ H K R X:=gQ (ai (P:=P) (C:=C) (X:=X) _ (ev_var (P:=P) (C:=C) (X:=X) hi _ (he _ (by rw [eq];exact k))))
end
section
variable {H:AH}{n:Nm}
theorem xD{i:Nat}{l:List Nat}(h:H[i]? =some (.list (l.map ni))):rd H (.ref i)=some (.lst (l.map ni)):=by
 haveI q:=fX (vU (f:=ni) (l:=l) λ_=>trivial)
 refine(?_:(H[i]?.bind O.lst).bind _=_)
 rw [h]
 exact if_pos (Cd q.1 (aa (aq q.2) (by decide)))
theorem jy{α:Type}{x:α}{l:AL α}(h:∀p∈l,p.1≠n):cY n x l=l++[(n,x)]:=by
 induction l with
 |nil=>rfl
 |cons q l ih=>
  refine(?_:(if n=q.1 then(q.1,x)::l else q::cY n x l)=_)
  rw [if_neg (h q (.head _)).symm,ih λp hp=>h p (.tail _ hp)];rfl
end
section
variable {P:Prog}{C:Calls}{ρ:Fm}{H:AH}{Q:QE}{X:XE}{a b c:Ex}{x y z:V}
end
theorem eF{k:Nat}:∀{v:V},(fW k v).map ao=nms k v:=by
 induction k with
 |zero=>exact rfl
 |succ k ih=>
  intro v
  refine(?_:ao v::((kids v).flatMap (fW k)).map ao=ao v::(kids v).flatMap (nms k))
  rw [p1]
  exact congrArg (ao v::·) (congrArg (λf=>List.flatMap f (kids v)) (funext λ_=>ih))
theorem pd{P:Prog}{C:Calls}{ρ:Fm}{H:AH}{R:QE}{X:XE}{a b:Ex}{x:V}{t:Mt}{mu:Bool}{p:Prim}(ho:Ev P C ρ H X a x)(ht:lu H x t=true)(k:cH P C b ρ H (λy H'=>gi (aU P mu p [x,y] H') R) X):cH P C (.mcall t mu p a [b]) ρ H R X:=ho _ ⟨ht,k⟩
section
variable {π:PI}{n:Nat}{H:AH}{Q:QE}{X:XE}
theorem tv{P:Prog}{i j:Nat}{vs ws:List V}(h:H[i]? =some (.list vs))(h':H[j]? =some (.list ws))(hl:vs.length+ws.length<=au):aU P false .extend [.ref i,.ref j] H=some (.none,H.set i (.list (vs++ws))):=by
 show((H[i]?.bind O.lst).bind λvs=>some (i,vs)).bind _=_
 rw [h]
 show(H[j]?.bind O.lst).bind _=_
 rw [h']
 exact if_pos hl
def Kp(H H':AH):Prop:=H.length<=H'.length/\∀a,a<H.length->H'[a]? =H[a]?
theorem Kp.refl:Kp H H:=⟨aA _,λ_ _=>rfl⟩
theorem Kp.trans{H₁ H₂:AH}(a:Kp H H₁)(b:Kp H₁ H₂):Kp H H₂:=⟨aa a.1 b.1,λi h=>(b.2 i (aJ h a.1)).trans (a.2 i h)⟩
theorem Kp.new{o:O}:Kp H (H++[o]):=⟨fx,λ_ h=>bf h⟩
theorem Kp.set{H₁:AH}{r:Nat}{o:O}(a:Kp H H₁)(h:H.length<=r):Kp H (H₁.set r o):=⟨aa a.1 (aq aC.symm),λi hi=>(bn (dI (aJ hi h))).trans (a.2 i hi)⟩
theorem f7{k:Nat}{v:V}(hP:Pt π k v):∀{n:Nat} {H:AH} {Q:QE} {X:XE},(fW k v).length<=60->(∀r H',Kp H H'->H.length<=r->H'[r]? =some (.list (fW k v))->Q (.ref r) H')->aG PL (n+k) 7 [v] H Q X:=by
 induction hP with
 |@wk k nm md=>exact λ{n H Q X} _ q=>cf zO rfl (d7 (lA (ev_var rfl _ (hE (kg tI) ⟨cz rfl,cJ (a9 rfl) (ev_ret (ev_var rfl) (q _ _ Kp.new (aA _) dS))⟩))))
 |@wd k nm rl m s ps _ _ _ _ h5 _ _ _ ih=>
  intro n H Q X hl q
  refine cf zO rfl (d7 (lA (ev_var rfl _ (hE (kg tI) ⟨cz rfl,dG (a9 rfl) ?_⟩))))
  refine lg (λits ρ H'=>∃o dn,ρ=[some (iY nm rl m s ps),some (.ref H.length),o]/\dn++its=ps/\Kp H H'/\H'[H.length]? =some (.list (iY nm rl m s ps::dn.flatMap (fW k)))) (v:=.tup ps) (items:=ps) (a9 rfl) (λ_ _ _ _=>rfl) (aa h5.2 (by decide)) ⟨none,[],rfl,rfl,Kp.new,dS⟩ (λx xs ρ' H' hI K' hK=>jS hI λo dn e ed kp hg=>?_) λρ' H' hI=>jS hI λo dn e ed kp hg=>?_
  ·subst e
   haveI hm:x∈ps:=ed▸aB dn (.head _)
   haveI e2:(dn++[x]).flatMap (fW k)=dn.flatMap (fW k)++fW k x:=by rw [bl,bz,dP,aN]
   have e3:(iY nm rl m s ps::dn.flatMap (fW k)).length+(fW k x).length<=60:=by
    refine aa ?_ hl
    refine(?_:_<=(ps.flatMap (fW k)).length+1)
    rw [<-ed,bl,bz,af,af,bQ,bg]
    exact ax (bO (ay _ _) _)
   haveI hr:H.length<H'.length:=(ae.mp hg).1
   refine st_expr (pd (ev_var rfl) (dX hg) (fo (ev_var rfl) (ih x hm (aa (bP _ _) e3) λr H'' kp' hr' hg'=>hE (tv ((kp'.2 _ hr).trans hg) hg' (aa e3 (by decide))) (hK _ _ ⟨_,dn++[x],rfl,(a7 dn [x] xs).trans ed,(kp.trans kp').set (aA _),?_⟩))))
   rw [bv (aJ hr kp'.1),e2];rfl
  ·subst e
   exact ev_ret (ev_var rfl) (q _ _ kp (aA _) ((aN dn).symm.trans ed▸hg))
end
theorem jD{P:Prog}{C:Calls}{ρ:Fm}{H:AH}{K:KS}{R:QE}{X:XE}{ss body:List St}{c:Ex}{N:Nat}(Inv:Nat->Fm->AH->Prop)
  (step:∀N ρ' H',Inv N ρ' H'->∃t,Ev P C ρ' H' (λ_ _=>False) c (.bool t)/\(t=true->∀K':KS,(∀ρ'' H'' N',N'<N->Inv N' ρ'' H''->K' ρ'' H'')->bh P C body ρ' H' K' R (λ_ _=>False))/\(t=false->bh P C ss ρ' H' K R X))
  (h0:Inv N ρ H):bh P C (.while_ c body::ss) ρ H K R X:=by
 refine wi (N+1) ?_
 haveI g:∀M N ρ H,N<M->Inv N ρ H->whileL (λρ' H' K₁ K₂=>cH P C c ρ' H' (λv H''=>l8 (eB v) λt=>if t then bh P C body ρ' H'' K₁ R (λ_ _=>False)else K₂ ρ' H'') (λ_ _=>False)) M ρ H (λρ' H'=>bh P C ss ρ' H' K R X):=by
  intro M
  induction M with
  |zero=>exact λN _ _ h=>absurd h (Nat.not_lt_zero N)
  |succ M ih=>
   intro N ρ H hN hI
   refine eO (step N ρ H hI) λt ht yes no=>ht _ ?_
   cases t with
   |true=>exact yes rfl _ λρ'' H'' N' hn hI'=>ih N' ρ'' H'' (aJ hn (cP hN)) hI'
   |false=>exact no rfl
 exact g _ _ _ _ (bS N) h0
section
variable {π:PI}{n:Nat}{H:AH}{Q:QE}{X:XE}
theorem in3{P:Prog}{md:Nm}(h:md∈fA):aU P false (.cop .in_) [.str md,.tup [.str ['a','l','w','a','y','s'],.str ['f','a','u','l','t','e','d'],.str ['n','e','v','e','r']]] H=some (.bool true,H):=
 eK h (λe=>by subst e;rfl) λh=>eK h (λe=>by subst e;rfl) λh=>by rw [in1 h];rfl
theorem Ae{P:Prog}{rl:Nm}(h:rl∈dD):aU P false (.cop .notin) [.str rl,.tup [.str ['o','n','e'],.str ['r','e','s','t'],.str ['a','l','l']]] H=some (.bool false,H):=
 eK h (λe=>by subst e;rfl) λh=>eK h (λe=>by subst e;rfl) λh=>by rw [in1 h];rfl
theorem f4w{nm md:Nm}(h1:jT nm)(h2:md∈fA)(q:Q (.bool true) H):aG PL (n+2) 4 [oR nm md] H Q X:=
 cf uD rfl (cJ (a9 rfl) (ev_ret (cI (s:=true) (t:=true) (bU (a9 rfl) λQ q=>f2 h1 q) λ_=>ev_p2 (a9 rfl) (a9 rfl) (in3 h2)) q))
theorem f4d{nm rl:Nm}{m s:Int}{ps:List V}(q:Q (.bool false) H):aG PL (n+2) 4 [iY nm rl m s ps] H Q X:=cf uD rfl (dG (a9 rfl) (ev_ret ai q))
theorem f5w{nm md:Nm}(q:Q (.bool false) H):aG PL (n+2) 5 [oR nm md] H Q X:=cf wB rfl (dG (a9 rfl) (ev_ret ai q))
theorem f5d{nm rl:Nm}{m s:Int}{ps:List V}(h1:jT nm)(h2:rl∈dD)(h3:0<=m/\m<=1000000000)(h4:1<=s/\s<=1000000000)(h5:1<=ps.length/\ps.length<=8)(q:Q (.bool true) H):aG PL (n+2) 5 [iY nm rl m s ps] H Q X:=
 cf wB rfl (cJ (a9 rfl) (cJ (bT (s:=false) (t:=false) (bG (s:=true) (bU (a9 rfl) λQ q=>f2 h1 q)) λ_=>ev_p2 (a9 rfl) (a9 rfl) (Ae h2)) (cJ (bT (s:=false) (t:=false) (bG (s:=true) (fR (a9 rfl) ai ai λQ q=>f1 h3 q)) λ_=>bG (s:=true) (fR (a9 rfl) ai ai λQ q=>f1 h4 q)) (ev_ret (cI (s:=true) (t:=true) (a9 rfl) λ_=>ca (kC (i:=1) (j:=ps.length) (k:=8) ai (a9 rfl) ai) (by
  rw [decide_eq_true (show(1:Int)<=ps.length from aX.mpr h5.1),decide_eq_true (show(ps.length:Int)<=8 from aX.mpr h5.2)];rfl)) q))))
noncomputable def sS(v:V):Bool:=!(kids v).isEmpty
theorem xt{k:Nat}{v:V}(hP:Pt π k v):(∀{n:Nat} {H:AH} {Q:QE} {X:XE},Q (.bool !(sS v)) H->aG PL (n+2) 4 [v] H Q X)/\∀{n:Nat} {H:AH} {Q:QE} {X:XE},Q (.bool (sS v)) H->aG PL (n+2) 5 [v] H Q X:=by
 induction hP with
 |wk h1 h2=>exact⟨λq=>f4w h1 h2 q,λq=>f5w q⟩
 |@wd _ _ _ _ _ ps h1 h2 h3 h4 h5=>
  cases ps with
  |nil=>exact absurd h5.1 (gp 0)
  |cons p ps=>exact⟨λq=>f4d q,λq=>f5d h1 h2 h3 h4 h5 q⟩
end
abbrev Td:=Nat×Nat×V
noncomputable def kb(x:Td):V:=.tup [x.2.2,.int x.2.1]
abbrev lW(x:Td):List Nm:=nms x.1 x.2.2
section
variable {π:PI}{n:Nat}{H:AH}{Q:QE}{X:XE}
theorem qc{k:Nat}{v:V}(hP:Pt π k v):1<=k:=by
 induction hP with
 |wk=>exact ax (aM _)
 |wd=>exact ax (aM _)
theorem qN{k:Nat}{v:V}(hP:Pt π k v):∀p∈kids v,Pt π (k-1) p:=by
 induction hP with
 |wk=>exact n8
 |wd _ _ _ _ _ _ _ h8=>exact h8
theorem FK{P:Prog}{k:Nat}{v:V}(hP:Pt π k v)(h:sS v=true):aU P false .item [v,.int 5] H=some (.tup (kids v),H):=by
 induction hP with
 |wk=>exact absurd h ag
 |wd=>exact rfl
theorem nW{k:Nat}{v:V}(hP:Pt π k v):(kids v).length<=8:=by
 induction hP with
 |wk=>exact aM _
 |wd _ _ _ _ h5=>exact h5.2
theorem rG{P:Prog}{i:Nat}{ks:List Nm}{vs:List V}(h:H[i]? =some (.dict ks vs)):aU P false .len [.ref i] H=some (.int ks.length,H):=by
 show(yo _ (H[i]?.bind O.lst)).map _=_
 rw [h]
 show((H[i]?.bind O.dct).map _).map _=_
 rw [h];rfl
theorem lC{P:Prog}{i:Nat}{vs ws:List V}(h:H[i]? =some (.list vs))(hl:vs.length+ws.length<=au):aU P false .extend [.ref i,.lst ws] H=some (.none,H.set i (.list (vs++ws))):=by
 show((H[i]?.bind O.lst).bind λvs=>some (i,vs)).bind _=_
 rw [h]
 exact if_pos hl
theorem qg{P:Prog}{C:Calls}{ρ:Fm}{a:Ex}{x:V}{t:Mt}{mu:Bool}{p:Prim}(ho:Ev P C ρ H X a x)(ht:lu H x t=true)(k:gi (aU P mu p [x] H) Q):cH P C (.mcall t mu p a []) ρ H Q X:=ho _ ⟨ht,k⟩
theorem gV{P:Prog}{C:Calls}{ρ:Fm}(q:Q (.ref H.length) (H++[.dict [] []])):cH P C (.prim true (.mkdict []) []) ρ H Q X:=show gi (aU P true (.mkdict []) [] H) Q from hE rfl q
def IP(π:PI)(v:V)(H:AH)(N:Nat)(ρ:Fm)(H':AH):Prop:=
 ∃(td:List Td) (dn:AL Unit) (o3 o4:Option V),ρ=[some v,some (.ref H.length),some (.ref (H.length+1)),o3,o4]/\(Kp H H'/\H'.length=H.length+2)/\H'[H.length]? =some (.list (td.map kb))/\H'[H.length+1]? =some (dO (λ_=>.bool true) dn)/\(dn.map (·.1)++td.flatMap lW).Nodup/\((dn.map (·.1)++td.flatMap lW).length<=60/\(td.flatMap lW).length=N)/\∀x∈td,Pt π x.1 x.2.2/\x.1+x.2.1<=7
theorem BF{td:List Td}(h:∀x∈td,Pt π x.1 x.2.2/\x.1+x.2.1<=7):td.length<=(td.flatMap lW).length:=by
 induction td with
 |nil=>exact aA _
 |cons x td ih=>
  rw [bz,af,bQ,dq]
  refine bK ?_ (ih λy hy=>h y (.tail _ hy))
  rw [show lW x=_ from oK (h x (.head _)).1]
  exact ax (aM _)
theorem vB{H H':AH}(k:Kp H H')(h:H'.length=H.length+2):∃o₁ o₂,H'=H++[o₁,o₂]:=by
 have e:H'=H++H'.drop H.length:=by
  refine iS λa=>?_
  by_cases ha:a<H.length
  ·rw [bf ha];exact k.2 a ha
  ·rw [cO (fT ha),List.getElem?_drop,gK (fT ha)]
 have l:(H'.drop H.length).length=2:=by rw [dN,h,fv]
 cases hD:H'.drop H.length with
 |nil=>rw [hD]at l;exact absurd l (by decide)
 |cons o₁ D=>
  rw [hD]at l e
  cases D with
  |nil=>exact absurd l (by decide:¬1=2)
  |cons o₂ D=>exact⟨o₁,o₂,e.trans (congrArg (λt=>H++o₁::o₂::t) (fq.mp (dk (dk l))))⟩
theorem f6{k:Nat}{v:V}(hP:Pt π k v)(hk:k<=7)(hw:sS v=true)(nd:(nms k v).Nodup)(hl:(nms k v).length<=60)(q:∀o₁ o₂,Q (.bool true) (H++[o₁,o₂])):aG PL (n+3) 6 [v] H Q X:=by
 haveI e0:[(k,0,v)].flatMap lW=nms k v:=aN _
 refine cf vj rfl (cJ (bG (s:=true) (bU (ev_var rfl) λQ q=>(xt hP).2 (by rw [hw];exact q))) (d7 (lA (ev_p2 (ev_var rfl) ai (eT nT) _ (hE (kg tI) ⟨cz rfl,d7 (gV ⟨cz rfl,?_⟩)⟩)))))
 haveI l1:(H++[O.list [V.tup [v,.int 0]]]).length=H.length+1:=af
 rw [l1]
 refine jD (IP π v H) (N:=(nms k v).length) (λN ρ' H' hI=>zR hI λtd dn o3 o4 e kp ht hd hn hN hx=>?_) ⟨[(k,0,v)],[],none,none,rfl,⟨Kp.new.trans Kp.new,by rw [af,l1];rfl⟩,da dS,l1▸dS,e0.symm▸nd,⟨e0.symm▸hl,congrArg dU e0⟩,cW ⟨hP,hk⟩⟩
 subst e
 refine⟨_,ev_p2 (bw (ev_var rfl) (jN ht)) ai kJ,λhc K' hK=>?_,λ_=>ev_ret ai (mG (vB kp.1 kp.2) λo₁ o₂ e=>e▸q o₁ o₂)⟩
 haveI hc:=of_decide_eq_true hc
 rcases z6 td with e|⟨ini,x,e⟩
 ·subst e;exact absurd hc (by decide)
 haveI e:td=ini++[x]:=e.trans (z7 ..)
 subst e
 have hP:=hx x (aB _ (.head _))
 have f1:(ini++[x]).flatMap lW=ini.flatMap lW++(ao x.2.2::(kids x.2.2).flatMap (nms (x.1-1))):=by rw [bl,bz,dP,aN,show lW x=_ from oK hP.1]
 haveI f2:((kids x.2.2).map λc=>((x.1-1,x.2.1+1,c):Td)).flatMap lW=(kids x.2.2).flatMap (nms (x.1-1)):=dQ ..
 haveI f3:∀td',td'=(kids x.2.2).map (λc=>((x.1-1,x.2.1+1,c):Td))->((dn++[(ao x.2.2,())]).map (·.1)++(ini++td').flatMap lW).Perm (dn.map (·.1)++(ini++[x]).flatMap lW):=λtd' e=>by
  rw [e,f1,bl,f2,aO,a7]
  exact z8 _ (p0.symm:(ao x.2.2::(ini.flatMap lW++(kids x.2.2).flatMap (nms (x.1-1)))).Perm _)
 rw [aO]at ht
 haveI hlt:H.length<H'.length:=(ae.mp ht).1
 haveI hlt':H.length+1<H'.length:=(ae.mp hd).1
 have h60:(ini.map kb).length+1<=60:=by
  haveI:=aa (BF hx) (aa (bP _ _) (aa (aq af.symm) hN.1))
  rw [af]at this
  rw [ak];exact this
 have hin:ao x.2.2∉dn.map (·.1):=λz=>(bx.mp hn).2.2 _ z (ao x.2.2) (f1▸aB _ (.head _)) rfl
 have hdl:dn.length+1<=60:=by
  haveI:=hN.1
  rw [f1,af,af,ak,bQ]at this
  exact aa (bO (aa (ax (aM _)) (bP _ _)) _) this
 haveI ha:x.2.1<=6:=jZ (aa (aq (dq x.2.1 1)) (aa (cD (qc hP.1) _) hP.2))
 have fin:∀H3,(Kp H H3/\H3.length=H.length+2)->H3[H.length]? =some (.list (ini.map kb++(kids x.2.2).map λc=>kb (x.1-1,x.2.1+1,c)))->H3[H.length+1]? =some (dO (λ_=>.bool true) (dn++[(ao x.2.2,())]))->K' [some v,some (.ref H.length),some (.ref (H.length+1)),some x.2.2,some (.int x.2.1)] H3:=λH3 k3 t3 d3=>by
  refine hK _ H3 _ ?_ ⟨ini++(kids x.2.2).map (λc=>((x.1-1,x.2.1+1,c):Td)),dn++[(ao x.2.2,())],_,_,rfl,k3,?_,d3,(f3 _ rfl).nodup_iff.mpr hn,⟨(f3 _ rfl).length_eq▸hN.1,rfl⟩,cM (λy hy=>hx y (aP _ hy)) λy hy=>ea1_2 (az.mp hy) λc hc e=>e▸⟨qN hP.1 c hc,?_⟩⟩
  ·rw [<-hN.2,f1,bl,f2,af,af]
   exact bS _
  ·rw [t3,aO,bp];rfl
  ·exact aa (aq ((bg (x.1-1) x.2.1 1).trans (congrArg (·+x.2.1) (mz (qc hP.1))))) hP.2
 haveI ht1:(H'.set H.length (.list (ini.map kb)))[H.length]? =some (.list (ini.map kb)):=bv hlt
 haveI hd1:(H'.set H.length (.list (ini.map kb)))[H.length+1]? =some (dO (λ_=>.bool true) dn):=(bn (dm (bS _))).trans hd
 haveI e2:=ip (n:=ao x.2.2) (x:=()) (val:=λ_=>V.bool true) hd1 (aa (bJ _) (aa hdl (by decide)))
 rw [jy λp hp z=>hin (az.mpr ⟨p,hp,z⟩)]at e2
 haveI ht2:((H'.set H.length (.list (ini.map kb))).set (H.length+1) (dO (λ_=>.bool true) (dn++[(ao x.2.2,())])))[H.length]? =some (.list (ini.map kb)):=(bn (dI (bS _))).trans ht1
 haveI hd2:((H'.set H.length (.list (ini.map kb))).set (H.length+1) (dO (λ_=>.bool true) (dn++[(ao x.2.2,())])))[H.length+1]? =some (dO (λ_=>.bool true) (dn++[(ao x.2.2,())])):=bv (aC.symm▸hlt')
 haveI k2:Kp H ((H'.set H.length (.list (ini.map kb))).set (H.length+1) (dO (λ_=>.bool true) (dn++[(ao x.2.2,())]))):=(kp.1.set (aA _)).set (bJ _)
 haveI l2:((H'.set H.length (.list (ini.map kb))).set (H.length+1) (dO (λ_=>.bool true) (dn++[(ao x.2.2,())]))).length=H.length+2:=aC.trans (aC.trans kp.2)
 refine rV (qg (ev_var rfl) (dX ht) (hE (ul ht (aa h60 (by decide))) (?_:bh PL (aG PL (n+2)) [_,_,_,_] [some v,some (.ref H.length),some (.ref (H.length+1)),some x.2.2,some (.int x.2.1)] _ _ Q _)))
 refine cJ (bT (s:=false) (t:=false) (ca (ev_p2 (ev_var rfl) ai kJ) (congrArg V.bool (decide_eq_false (cg.mpr (aX.mpr ha))))) λ_=>ca (cI (bG (bU (ev_var rfl) λQ q=>(xt hP.1).1 q)) λ_=>bG (bU (ev_var rfl) λQ q=>(xt hP.1).2 q)) (by cases sS x.2.2<;>rfl)) (cJ (bT (s:=false) (t:=false) (ca (ev_p2 (sg hP.1 rfl) (ev_var rfl) (qb hd1)) (congrArg V.bool (fK.mpr λz=>hin (aR.mp z)))) λ_=>ca (ev_p2 (bw (ev_var rfl) (rG hd1)) ai (eD b9 b9)) ?_) (sa rfl (sg hP.1 rfl) e2 (cr (bU (ev_var rfl) λQ q=>(xt hP.1).2 q) (λhb=>?_) λhb=>?_)))
 ·refine congrArg V.bool (decide_eq_false λz:((dn.map (·.1)).length:Int)=60=>?_)
  rw [ak]at z
  exact(by decide:¬60+1<=60) ((fh z:dn.length=60)▸hdl)
 ·refine st_expr (pd (ev_var rfl) (dX ht2) (gT (l:=kids x.2.2) (f:=λc=>c) (g:=λc=>kb (x.1-1,x.2.1+1,c)) (ev_p2 (ev_var rfl) ai (FK hP.1 hb)) (congrArg some (d5 _).symm) (aa (nW hP.1) (by decide)) (λc _=>ev_p2 (ev_var rfl) (ev_p2 (ev_var rfl) ai dT) (eT nT)) _ (hE (lC ht2 ?_) (fin _ ⟨k2.set (aA _),aC.trans l2⟩ ?_ ?_))))
  ·rw [ak (as:=kids x.2.2)]
   exact aa (bK (aa (bJ _) h60) (nW hP.1)) (by decide)
  ·exact bv (ae.mp ht2).1
  ·exact (bn (dm (bS _))).trans hd2
 ·haveI ek:kids x.2.2=[]:=GS.mp (mw _▸hb)
  refine fin _ ⟨k2,l2⟩ ?_ hd2
  rw [ht2,ek]
  exact congrArg (λt=>some (O.list t)) (aN _).symm
end
def DT(v:V):Prop:=v.data=true/\v.depth<=45
theorem pI{v:V}{H:AH}(h:DT v):rd H v=some v:=by
 have:(v.data&&decide (v.depth<=50))=true:=by rw [h.1,decide_eq_true (aa h.2 (by decide))];rfl
 cases v<;>first|exact absurd h.1 ag|exact if_pos (e:=none) this
theorem uK{vs:List V}{v:V}(hv:v∈vs)(h:V.datas vs=true):v.data=true/\v.depth<=V.depths vs:=by
 induction hv with
 |@head vs=>exact⟨(aj.mp (h:(V.data v&&V.datas vs)=true)).1,Nat.le_max_left ..⟩
 |@tail w vs _ ih=>exact haveI z:=ih (aj.mp (h:(V.data w&&V.datas vs)=true)).2;⟨z.1,aa z.2 (Nat.le_max_right ..)⟩
theorem DT.mem{vs:List V}{v:V}(h:DT (.tup vs))(hv:v∈vs):DT v:=
 haveI z:=uK hv h.1
 ⟨z.1,aa z.2 (iT h.2)⟩
theorem gP{vs:List V}{d:Nat}(h:∀v∈vs,v.data=true/\v.depth<=d):V.datas vs=true/\V.depths vs<=d:=by
 induction vs with
 |nil=>exact⟨rfl,aM _⟩
 |cons w vs ih=>
  haveI z:=ih λv hv=>h v (.tail _ hv)
  exact⟨aj.mpr ⟨(h w (.head _)).1,z.1⟩,Nat.max_le.mpr ⟨(h w (.head _)).2,z.2⟩⟩
theorem g7{b:Bool}(h:(!b)=true):b=false:=by cases b with|false=>rfl|true=>exact absurd h ag
theorem gb{b:Bool}(h:(!b)=false):b=true:=by cases b with|true=>rfl|false=>exact absurd h.symm ag
theorem qJ{v:V}{s:Nm}(h:v.txt=some s):v=.str s:=by cases v<;>first|exact du h.symm|exact du h|exact congrArg V.str (ah h)
theorem jb{v:V}{s:List V}(h:v.tpl=some s):v=.tup s:=by cases v<;>first|exact du h.symm|exact du h|exact congrArg V.tup (ah h)
theorem vC{v:V}{i:Int}(h:v.num=some i):v=.int i:=by cases v<;>first|exact du h.symm|exact du h|exact congrArg V.int (ah h)
section
variable {P:Prog}{C:Calls}{ρ:Fm}{H:AH}{X:XE}{v:V}{e:Ex}
theorem nZ(h:v.data=true)(he:Ev P C ρ H X e v):Ev P C ρ H X (.prim false (.isinst .str) [e]) (.bool v.txt.isSome):=bw he (by cases v<;>first|exact absurd h ag|rfl)
theorem jg(h:v.data=true)(he:Ev P C ρ H X e v):Ev P C ρ H X (.prim false (.isinst .tuple) [e]) (.bool v.tpl.isSome):=bw he (by cases v<;>first|exact absurd h ag|rfl)
theorem vy{b:Ex}{t:Bool}(h:v.data=true)(he:Ev P C ρ H X e v)(hb:v.num.isSome=true->Ev P C ρ H X b (.bool t)):Ev P C ρ H X (.and (.prim false (.isinst .int) [e]) (.and (.prim false .not [.prim false (.isinst .bool) [e]]) b)) (.bool (v.num.isSome&&t)):=by
 cases v with
 |int i=>exact cI (s:=true) (bw he rfl) λ_=>cI (s:=true) (bG (s:=false) (bw he rfl)) λ_=>hb rfl
 |bool i=>exact cI (s:=true) (t:=false) (bw he rfl) λ_=>cI (s:=false) (t:=false) (bG (s:=true) (bw he rfl)) nofun
 |_=>first|exact absurd h ag|exact cI (s:=false) (t:=false) (bw he rfl) nofun
end
noncomputable def cq(a b:Int)(v:V):Bool:=v.num.any λi=>decide (a<=i)&&decide (i<=b)
noncomputable def qw(s:Nm):Bool:=(decide ((1:Int)<=s.length)&&decide ((s.length:Int)<=8))&&s.all λc=>kU.contains c
noncomputable def je(v:V):Bool:=v.txt.any qw
section
variable {n:Nat}{v:V}{H:AH}{Q:QE}{X:XE}
theorem g1{a b:Int}(hv:v.data=true)(q:Q (.bool (cq a b v)) H):aG PL (n+1) 1 [v,.int a,.int b] H Q X:=by
 refine cf zE rfl (optE (o:=v.num) (λe=>?_) λi e=>?_)
 ·unfold cq at q
  rw [e]at q
  exact ev_ret (ca (vy (t:=false) hv (ev_var rfl) λh=>du (e.symm.trans (Option.some_get h).symm)) (by rw [e];rfl)) q
 ·haveI e:=vC e
  subst e
  exact ev_ret (vy hv (ev_var rfl) λ_=>kC (ev_var rfl) (ev_var rfl) (ev_var rfl)) q
theorem few{s:Nm}(h:(decide ((1:Int)<=s.length)&&decide ((s.length:Int)<=8))=true):s.length<=au:=aa (aX.mp (of_decide_eq_true (aj.mp h).2):s.length<=8) (by decide)
theorem g2(hv:v.data=true)(q:Q (.bool (je v)) H):aG PL (n+1) 2 [v] H Q X:=by
 refine cf zj rfl (optE (o:=v.txt) (λe=>?_) λs e=>?_)
 ·unfold je at q
  rw [e]at q
  exact dG (bT (s:=true) (t:=true) (ca (bG (nZ hv (ev_var rfl))) (by rw [e];rfl)) nofun) (ev_ret ai q)
 ·haveI e:=qJ e
  subst e
  haveI q:Q (.bool (qw s)) H:=q
  refine cr (bT (s:=false) (a9 rfl) λ_=>bG (kC ai (bw (ev_var rfl) iG) ai)) (λh=>ev_ret ai ?_) λh=>?_
  ·unfold qw at q
   rw [g7 h]at q
   exact q
  ·unfold qw at q
   have h:=gb h
   rw [h,eA]at q
   refine ev_ret (bw (gT (l:=s) (f:=λc=>.str [c]) (g:=λc=>.bool (kU.contains c)) (ev_var rfl) rfl (few h) λ_ _=>a9 rfl) ?_) q
   rw [show(s.map λc=>V.bool (kU.contains c))=(s.map λc=>kU.contains c).map V.bool from bp.symm,wp,List.all_map];rfl
theorem B4{s:Nm}:fN (.lst ((s.filter λc=>!kU.contains c).map λc=>V.str [c])) (.lst [])=s.all λc=>kU.contains c:=by
 refine(?_:oa _ []=_)
 induction s with
 |nil=>rfl
 |cons c s ih=>
  cases hc:kU.contains c with
  |true=>rw [fu (by rw [hc];exact ag),iV,hc];exact ih
  |false=>rw [ft (by rw [hc];rfl),iV,hc];rfl
theorem rJ{s:List Nm}:rd H (.lst (s.map V.str))=some (.lst (s.map V.str)):=by
 haveI z:=gP (vs:=s.map V.str) (d:=0) λv hv=>ea1_2 (az.mp hv) λ_ _ e=>e▸⟨rfl,aA _⟩
 exact rZ z.1 (Nat.le_zero.mp z.2)
theorem g18(hv:v.data=true)(q:Q (.bool (je v)) H):aG PL (n+1) 18 [v] H Q X:=by
 refine cf AG rfl (optE (o:=v.txt) (λe=>?_) λs e=>?_)
 ·unfold je at q
  rw [e]at q
  exact dG (bT (s:=true) (t:=true) (ca (bG (nZ hv (ev_var rfl))) (by rw [e];rfl)) nofun) (ev_ret ai q)
 ·haveI e:=qJ e
  subst e
  haveI q:Q (.bool (qw s)) H:=q
  refine cr (s:=!(decide ((1:Int)<=s.length)&&decide ((s.length:Int)<=8))) (ca (bT (s:=false) (a9 rfl) λ_=>bT (ev_p2 (bw (ev_var rfl) iG) ai i7) λ_=>ev_p2 (bw (ev_var rfl) iG) ai kJ) ?_) (λh=>ev_ret ai ?_) λh=>?_
  ·rw [j0,<-decide_not,<-decide_not,decide_eq_decide.mpr d0,decide_eq_decide.mpr d0];rfl
  ·unfold qw at q
   rw [g7 h]at q
   exact q
  ·unfold qw at q
   have h:=gb h
   rw [h,eA,<-B4]at q
   exact ev_ret (ev_p2 (io (l:=s) (f:=λc=>V.str [c]) (g:=λc=>V.str [c]) (p:=λc=>!kU.contains c) (ev_var rfl) rfl (few h) (λc _=>a9 rfl) λc _ _=>ev_var rfl) (sy (fB (aM _))) (eD (bp (g:=V.str)▸rJ:rd H (.lst (List.map (V.str∘λc=>[c]) _))=_) ff)) q
end
noncomputable def l7(ws:List Nm)(v:V):Bool:=(ws.map V.str).any λy=>fN y v
abbrev ee(vs:List V)(k:Nat):V:=vs.getD k .none
noncomputable def wkL(vs:List V):Bool:=decide (vs.length=3)&&(fN (ee vs 0) (.str wk)&&(je (ee vs 1)&&l7 fA (ee vs 2)))
noncomputable def gh(v:V):Bool:=v.tpl.any wkL
noncomputable def kG(v:V):Bool:=v.tpl.any λps=>decide ((1:Int)<=ps.length)&&decide ((ps.length:Int)<=8)
noncomputable def wdL(vs:List V):Bool:=decide (vs.length=6)&&(fN (ee vs 0) (.str wd)&&(je (ee vs 1)&&(l7 dD (ee vs 2)&&(cq 0 1000000000 (ee vs 3)&&(cq 1 1000000000 (ee vs 4)&&kG (ee vs 5))))))
noncomputable def eL(v:V):Bool:=v.tpl.any wdL
theorem nJ{vs:List V}{k:Nat}(h:k<vs.length):ee vs k∈vs:=by
 unfold ee
 rw [cQ,aH h]
 exact fU h
theorem Bv{ws:List Nm}:CJ (ws.map V.str)=true:=by
 haveI z:=gP (vs:=ws.map V.str) (d:=0) λv hv=>ea1_2 (az.mp hv) λ_ _ e=>e▸⟨rfl,aA _⟩
 exact aj.mpr ⟨z.1,decide_eq_true (aa z.2 (by decide))⟩
section
variable {P:Prog}{C:Calls}{ρ:Fm}{H:AH}{X:XE}{v:V}{vs:List V}{e a b c:Ex}
theorem oJ{k:Nat}(he:Ev P C ρ H X e (.tup vs))(h:k<vs.length):Ev P C ρ H X (.prim false .item [e,.cst (.int k)]) (ee vs k):=ev_p2 he ai (by
 refine t9 (j:=k) ?_
 unfold ee
 rw [cQ,aH h];rfl)
theorem qX{ws:List Nm}(h:DT v):BA H v (ws.map V.str)=some (l7 ws v):=by
 unfold BA
 rw [pI h]
 exact if_pos Bv
theorem AM{x y z:Nm}(h:DT v)(he:Ev P C ρ H X e v):Ev P C ρ H X (.prim false (.cop .in_) [e,.prim false .mktup [.cst (.str x),.cst (.str y),.cst (.str z)]]) (.bool (l7 [x,y,z] v)):=ev_p2 he (fc ai ai ai (eT (av rfl))) (congrArg (ba (V.bool ·,H)) (qX (ws:=[x,y,z]) h))
theorem yT{x y z:Nm}(h:DT v)(he:Ev P C ρ H X e v):Ev P C ρ H X (.prim false (.cop .notin) [e,.prim false .mktup [.cst (.str x),.cst (.str y),.cst (.str z)]]) (.bool !(l7 [x,y,z] v)):=ev_p2 he (fc ai ai ai (eT (av rfl))) (congrArg (ba (V.bool ·,H)) (congrArg (ba (!·)) (qX (ws:=[x,y,z]) h)))
theorem yV{x y z:Nm}(h:DT v)(he:Ev P C ρ H X e v):Ev P C ρ H X (.prim false (.cop .in_) [e,.prim false .mklist [.cst (.str x),.cst (.str y),.cst (.str z)]]) (.bool (l7 [x,y,z] v)):=ev_p2 he (fc ai ai ai (fB (av rfl))) (congrArg (ba (V.bool ·,H)) (qX (ws:=[x,y,z]) h))
theorem wy{x y z:Nm}(h:DT v)(he:Ev P C ρ H X e v):Ev P C ρ H X (.prim false (.cop .notin) [e,.prim false .mklist [.cst (.str x),.cst (.str y),.cst (.str z)]]) (.bool !(l7 [x,y,z] v)):=ev_p2 he (fc ai ai ai (fB (av rfl))) (congrArg (ba (V.bool ·,H)) (congrArg (ba (!·)) (qX (ws:=[x,y,z]) h)))
theorem zQ{m:Nat}{w:Nm}(h:DT v)(he:Ev P C ρ H X e v):Ev P C ρ H X (.or (.prim false .not [.prim false (.isinst .tuple) [e]]) (.or (.prim false (.cop .ne) [.prim false .len [e],.cst (.int (m+1:Nat))]) (.prim false (.cop .ne) [.prim false .item [e,.cst (.int (0:Nat))],.cst (.str w)]))) (.bool !(v.tpl.any λvs=>decide (vs.length=m+1)&&fN (ee vs 0) (.str w))):=by
 refine optE (o:=v.tpl) (λz=>?_) λvs z=>?_
 ·exact ca (bT (s:=true) (t:=true) (ca (bG (jg h.1 he)) (by rw [z];rfl)) nofun) (by rw [z];rfl)
 ·haveI z:=jb z
  subst z
  refine bT (s:=false) (bG (s:=true) (jg h.1 he)) λ_=>?_
  by_cases l:vs.length=m+1
  ·exact ca (bT (s:=false) (ca (ev_p2 (bw he fi) ai (fE b9 b9)) (by rw [l,rP,beq_self_eq_true];rfl)) λ_=>ev_p2 (oJ he (l▸gZ m)) ai (fE (pI (h.mem (nJ (l▸gZ m)))) gR)) (by
    refine(?_:_=V.bool !(decide (vs.length=m+1)&&fN (ee vs 0) (.str w)))
    rw [decide_eq_true l];rfl)
  ·exact ca (bT (s:=true) (t:=true) (ca (ev_p2 (bw he fi) ai (fE b9 b9)) (by rw [rP,beq_eq_false_iff_ne.mpr λq=>l (ma.mp q)];rfl)) nofun) (by
    refine(?_:_=V.bool !(decide (vs.length=m+1)&&fN (ee vs 0) (.str w)))
    rw [decide_eq_false l];rfl)
end
section
variable {n:Nat}{v:V}{H:AH}{Q:QE}{X:XE}
theorem g4(hv:DT v)(q:Q (.bool (gh v)) H):aG PL (n+2) 4 [v] H Q X:=by
 refine cf uD rfl (cr (zQ (m:=2) hv (ev_var rfl)) (λh=>ev_ret ai ?_) λh=>?_)
 ·have h:=g7 h
  haveI e:gh v=false:=optE (o:=v.tpl) (λz=>by unfold gh;rw [z];rfl) λvs z=>by
   rw [z]at h
   unfold gh
   rw [z]
   refine(?_:(_&&(_&&_))=false)
   rw [<-fL,show(decide (vs.length=3)&&fN (ee vs 0) (.str wk))=false from h];rfl
  exact e▸q
 ·have h:=gb h
  refine optE (o:=v.tpl) (λz=>?_) λvs z=>?_
  ·rw [z]at h;exact absurd h ag
  ·haveI z:=jb z
   subst z
   haveI h:=aj.mp (h:(decide (vs.length=3)&&fN (ee vs 0) (.str wk))=true)
   have l:=of_decide_eq_true h.1
   haveI e:gh (.tup vs)=(je (ee vs 1)&&l7 fA (ee vs 2)):=by
    refine(?_:(_&&(_&&(_&&_)))=_)
    rw [h.1,show fN (ee vs 0) (.str wk)=true from h.2];rfl
   have m:∀{k},k<3->DT (ee vs k):=λhk=>hv.mem (nJ (l▸hk))
   exact ev_ret (cI (bU (oJ (k:=1) (ev_var rfl) (l▸(by decide))) λQ q=>g2 (m (by decide)).1 q) λ_=>AM (m (by decide)) (oJ (k:=2) (ev_var rfl) (l▸(by decide)))) (e▸q)
theorem EX{C:Calls}{ρ:Fm}{e:Ex}{w:V}(h:DT w)(he:Ev PL C ρ H X e w):Ev PL C ρ H X (.and (.prim false (.isinst .tuple) [e]) (.cmp2 (.cst (.int 1)) .le (.prim false .len [e]) .le (.cst (.int 8)))) (.bool (kG w)):=by
 unfold kG
 refine optE (o:=w.tpl) (λz=>?_) λvs z=>?_
 ·rw [z]
  exact cI (s:=false) (t:=false) (ca (jg h.1 he) (by rw [z];rfl)) nofun
 ·haveI z:=jb z
  subst z
  exact cI (s:=true) (jg h.1 he) λ_=>kC ai (bw he fi) ai
theorem g5(hv:DT v)(q:Q (.bool (eL v)) H):aG PL (n+2) 5 [v] H Q X:=by
 refine cf wB rfl (cr (zQ (m:=5) hv (ev_var rfl)) (λh=>ev_ret ai ?_) λh=>?_)
 ·have h:=g7 h
  haveI e:eL v=false:=optE (o:=v.tpl) (λz=>by unfold eL;rw [z];rfl) λvs z=>by
   rw [z]at h
   unfold eL
   rw [z]
   refine(?_:(_&&(_&&_))=false)
   rw [<-fL,show(decide (vs.length=6)&&fN (ee vs 0) (.str wd))=false from h];rfl
  exact e▸q
 ·have h:=gb h
  refine optE (o:=v.tpl) (λz=>?_) λvs z=>?_
  ·rw [z]at h;exact absurd h ag
  ·haveI z:=jb z
   subst z
   haveI h:=aj.mp (h:(decide (vs.length=6)&&fN (ee vs 0) (.str wd))=true)
   have l:=of_decide_eq_true h.1
   haveI e:eL (.tup vs)=(je (ee vs 1)&&(l7 dD (ee vs 2)&&(cq 0 1000000000 (ee vs 3)&&(cq 1 1000000000 (ee vs 4)&&kG (ee vs 5))))):=by
    refine(?_:(_&&(_&&(_&&_)))=_)
    rw [h.1,show fN (ee vs 0) (.str wd)=true from h.2];rfl
   rw [e]at q
   have m:∀{k},k<6->DT (ee vs k):=λhk=>hv.mem (nJ (l▸hk))
   have i:∀{P C ρ X} {k:Nat},ρ[0]? =some (some (V.tup vs))->k<6->Ev P C ρ H X (.prim false .item [.var 0,.cst (.int k)]) (ee vs k):=λh0 hk=>oJ (ev_var h0) (l▸hk)
   refine cr (bT (bG (bU (i (k:=1) rfl (by decide)) λQ q=>g2 (m (by decide)).1 q)) λ_=>yT (m (by decide)) (i (k:=2) rfl (by decide))) (λh=>ev_ret ai ?_) λh=>?_
   ·rw [<-fL,show(je (ee vs 1)&&l7 dD (ee vs 2))=false from g7 (j0 _ _▸h)]at q
    exact q
   rw [<-fL,show(je (ee vs 1)&&l7 dD (ee vs 2))=true from gb (j0 _ _▸h)]at q
   refine cr (bT (bG (fR (i (k:=3) rfl (by decide)) ai ai λQ q=>g1 (m (by decide)).1 q)) λ_=>bG (fR (i (k:=4) rfl (by decide)) ai ai λQ q=>g1 (m (by decide)).1 q)) (λh=>ev_ret ai ?_) λh=>?_
   ·rw [<-fL (cq _ _ _),show(cq 0 1000000000 (ee vs 3)&&cq 1 1000000000 (ee vs 4))=false from g7 (j0 _ _▸h)]at q
    exact q
   rw [<-fL (cq _ _ _),show(cq 0 1000000000 (ee vs 3)&&cq 1 1000000000 (ee vs 4))=true from gb (j0 _ _▸h)]at q
   exact ev_ret (EX (m (by decide)) (i (k:=5) rfl (by decide))) q
end
theorem nh{v:V}{f:List V->Bool}(h:v.tpl.any f=true):∃vs,v=.tup vs/\f vs=true:=
 optE (o:=v.tpl) (λz=>by rw [z]at h;exact absurd h ag) λvs z=>⟨vs,jb z,by rw [z]at h;exact h⟩
theorem re{v:V}{f:Nm->Bool}(h:v.txt.any f=true):∃s,v=.str s/\f s=true:=
 optE (o:=v.txt) (λz=>by rw [z]at h;exact absurd h ag) λvs z=>⟨vs,qJ z,by rw [z]at h;exact h⟩
theorem qP{v:V}{s:Nm}(h:fN v (.str s)=true):v=.str s:=by
 cases v<;>first|exact absurd h ag|exact congrArg V.str (beq_iff_eq.mp h)
theorem jL{vs:List V}{n:Nat}(h:vs.length=n+1):∃a ws,vs=a::ws/\ws.length=n:=by
 cases vs with
 |nil=>exact absurd h.symm (pW n)
 |cons a ws=>exact⟨a,ws,rfl,dk h⟩
theorem rx{v:V}(h0:gh v=true):∃s c,v=.tup [.str wk,.str s,c]/\qw s=true/\l7 fA c=true:=by
 refine ea1_2 (nh h0) λvs e h1=>?_
 clear h0
 have h:=aj.mp (h1:(_&&(_&&(_&&_)))=true)
 clear h1
 obtain⟨a,ws,e1,l⟩:=jL (of_decide_eq_true h.1)
 obtain⟨b,ws,e2,l⟩:=jL l
 obtain⟨c,ws,e3,l⟩:=jL l
 haveI e4:=fq.mp l
 subst e4 e3 e2 e1 e
 haveI h2:=aj.mp h.2
 haveI h3:=aj.mp h2.2
 exact ea1_2 (re h3.1) λs es hs=>⟨s,c,by rw [show a=_ from qP h2.1,show b=_ from es],hs,h3.2⟩
theorem i8{v:V}(h0:eL v=true):∃s c d e ps,v=.tup [.str wd,.str s,c,d,e,.tup ps]/\qw s=true/\(l7 dD c=true/\cq 0 1000000000 d=true/\cq 1 1000000000 e=true)/\1<=ps.length/\ps.length<=8:=by
 refine ea1_2 (nh h0) λvs z h1=>?_
 clear h0
 have h:=aj.mp (h1:(_&&(_&&(_&&(_&&(_&&(_&&_))))))=true)
 clear h1
 obtain⟨a,ws,e1,l⟩:=jL (of_decide_eq_true h.1)
 obtain⟨b,ws,e2,l⟩:=jL l
 obtain⟨c,ws,e3,l⟩:=jL l
 obtain⟨d,ws,e4,l⟩:=jL l
 obtain⟨e,ws,e5,l⟩:=jL l
 obtain⟨f,ws,e6,l⟩:=jL l
 haveI e7:=fq.mp l
 subst e7 e6 e5 e4 e3 e2 e1 z
 haveI h2:=aj.mp h.2
 haveI h3:=aj.mp h2.2
 haveI h4:=aj.mp h3.2
 haveI h5:=aj.mp h4.2
 haveI h6:=aj.mp h5.2
 exact ea1_2 (re h3.1) λs es hs=>ea1_2 (nh h6.2) λps ep hp=>haveI hp:=aj.mp hp;⟨s,c,d,e,ps,by rw [show a=_ from qP h2.1,show b=_ from es,show f=_ from ep],hs,⟨h4.1,h5.1,h6.1⟩,aX.mp (of_decide_eq_true hp.1),aX.mp (of_decide_eq_true hp.2)⟩
noncomputable def na(v:V):Bool:=gh v||eL v
section
variable {P:Prog}{C:Calls}{ρ:Fm}{H:AH}{X:XE}{v:V}{e:Ex}
theorem jI(h:gh v=true):kids v=[]/\eL v=false:=by
 obtain⟨s,c,z,_⟩:=rx h
 subst z;exact⟨rfl,rfl⟩
theorem rO(h:eL v=true):1<=(kids v).length/\(kids v).length<=8:=by
 obtain⟨s,c,d,e,ps,z,_,_,l⟩:=i8 h
 subst z;exact l
theorem qG(h:eL v=true)(he:Ev P C ρ H X e v):Ev P C ρ H X (.prim false .item [e,.cst (.int 5)]) (.tup (kids v)):=by
 obtain⟨s,c,d,e,ps,z,_,_,l⟩:=i8 h
 subst z;exact ev_p2 he ai rfl
theorem nB(h:na v=true)(he:Ev P C ρ H X e v):Ev P C ρ H X (.prim false .item [e,.cst (.int 1)]) (.str (ao v)):=by
 cases hk:gh v with
 |true=>
  obtain⟨s,c,z,_⟩:=rx hk
  subst z;exact ev_p2 he ai rfl
 |false=>
  unfold na at h
  rw [hk]at h
  obtain⟨s,c,d,e,ps,z,_⟩:=i8 (h:eL v=true)
  subst z;exact ev_p2 he ai rfl
theorem rM(h:na v=true)(he:Ev P C ρ H X e v):Ev P C ρ H X (.prim false .item [e,.cst (.int 0)]) (.str (if eL v=true then wd else wk)):=by
 cases hk:gh v with
 |true=>
  obtain⟨s,c,z,_⟩:=rx hk
  subst z;exact ev_p2 he ai rfl
 |false=>
  unfold na at h
  rw [hk]at h
  rw [show eL v=true from h]
  obtain⟨s,c,d,e,ps,z,_⟩:=i8 (h:eL v=true)
  subst z;exact ev_p2 he ai rfl
theorem nH(h:DT v)(hw:na v=true):∀c∈kids v,DT c:=by
 cases hk:gh v with
 |true=>rw [(jI hk).1];exact n8
 |false=>
  unfold na at hw
  rw [hk]at hw
  obtain⟨s,c,d,e,ps,z,_⟩:=i8 (hw:eL v=true)
  subst z
  exact λc hc=>(h.mem (v:=.tup ps) (.tail _ (.tail _ (.tail _ (.tail _ (.tail _ (.head _))))))).mem hc
end
noncomputable def dg:Nat->V->Bool
 |0,_=>false
 |k+1,v=>na v&&(kids v).all (dg k)
def PV(v:V):Prop:=eL v=true/\dg 7 v=true/\(nms 7 v).Nodup/\(nms 7 v).length<=60
abbrev mN(x:Td):List Nm:=nms (x.1+1) x.2.2
def RG(dn:List Nm)(td:List Td):Prop:=(∀x∈td,dg x.1 x.2.2=true)/\(dn++td.flatMap lW).Nodup/\(dn++td.flatMap lW).length<=60
abbrev CM(j a:Nat)(v:V):List Td:=(kids v).map λc=>(j,a+1,c)
theorem Dt{j a:Nat}{v:V}:(CM j a v).flatMap lW=(kids v).flatMap (nms j):=dQ ..
theorem FL{j a:Nat}{v:V}:(CM j a v).flatMap mN=(kids v).flatMap (nms (j+1)):=dQ ..
theorem y8{dn:List Nm}{ini:List Td}{j a:Nat}{v:V}(h:na v=true):RG dn (ini++[(j+1,a,v)])↔RG (dn++[ao v]) (ini++CM j a v):=by
 have f1:(ini++[(j+1,a,v)]).flatMap lW=ini.flatMap lW++(ao v::(kids v).flatMap (nms j)):=by rw [bl,bz,dP,aN];rfl
 have f3:((dn++[ao v])++(ini++CM j a v).flatMap lW).Perm (dn++(ini++[(j+1,a,v)]).flatMap lW):=by
  rw [f1,bl,Dt,a7]
  exact z8 _ (p0.symm:(ao v::(ini.flatMap lW++(kids v).flatMap (nms j))).Perm _)
 unfold RG
 rw [f3.nodup_iff,f3.length_eq,zf,zf,tM,lZ]
 refine and_congr_left' (and_congr_right' ?_)
 show(na v&&(kids v).all (dg j))=true↔_
 rw [h,eA,a8]
def IG(v:V)(H:AH)(N:Nat)(ρ:Fm)(H':AH):Prop:=
 ∃(td:List Td) (dn:AL Unit) (o3 o4:Option V),ρ=[some v,some (.ref H.length),some (.ref (H.length+1)),o3,o4]/\(Kp H H'/\H'.length=H.length+2)/\H'[H.length]? =some (.list (td.map kb))/\H'[H.length+1]? =some (dO (λ_=>.bool true) dn)/\((dn.map (·.1)).Nodup/\dn.length<=60/\td.length<=8*dn.length+1)/\((RG (dn.map (·.1)) td↔PV v)/\(td.flatMap mN).length=N)/\∀x∈td,DT x.2.2/\x.1+x.2.1=7
theorem j6{v:V}(h:na v=true):(kids v).length<=8:=by
 cases hk:gh v with
 |true=>rw [(jI hk).1];exact aM _
 |false=>
  unfold na at h
  rw [hk]at h
  exact(rO h).2
theorem g6{n:Nat}{v:V}{H:AH}{Q:QE}{X:XE}(hv:DT v)(q0:¬PV v->Q (.bool false) H)(q:∀b o₁ o₂,(b=true↔PV v)->Q (.bool b) (H++[o₁,o₂])):aG PL (n+3) 6 [v] H Q X:=by
 cases hw:eL v with
 |false=>exact cf vj rfl (dG (bG (s:=false) (bU (ev_var rfl) λQ q=>g5 hv (hw.symm▸q))) (ev_ret ai (q0 λh=>absurd (hw.symm.trans h.1) ag)))
 |true=>
 have ret:∀b H3,Kp H H3->H3.length=H.length+2->(b=true↔PV v)->Q (.bool b) H3:=λb H3 k l e=>mG (vB k l) λo₁ o₂ z=>z▸q b o₁ o₂ e
 refine cf vj rfl (cJ (bG (s:=true) (bU (ev_var rfl) λQ q=>g5 hv (hw.symm▸q))) (d7 (lA (ev_p2 (ev_var rfl) ai (eT nT) _ (hE (kg tI) ⟨cz rfl,d7 (gV ⟨cz rfl,?_⟩)⟩)))))
 haveI l1:(H++[O.list [V.tup [v,.int 0]]]).length=H.length+1:=af
 rw [l1]
 refine jD (IG v H) (λN ρ' H' hI=>zR hI λtd dn o3 o4 e kp ht hd hn hN hx=>?_) ⟨[(7,0,v)],[],none,none,rfl,⟨Kp.new.trans Kp.new,by rw [af,l1];rfl⟩,da dS,l1▸dS,⟨cn,aM _,aA _⟩,⟨?_,rfl⟩,cW ⟨hv,rfl⟩⟩
 ·subst e
  refine⟨_,ev_p2 (bw (ev_var rfl) (jN ht)) ai kJ,λhc K' hK=>?_,λhc=>ev_ret ai (ret _ _ kp.1 kp.2 ?_)⟩
  ·haveI hc:=of_decide_eq_true hc
   rcases z6 td with e|⟨ini,⟨k,a,w⟩,e⟩
   ·subst e;exact absurd hc (by decide)
   haveI e:td=ini++[(k,a,w)]:=e.trans (z7 ..)
   subst e
   have hP:=hx (k,a,w) (aB _ (.head _))
   have rgp:PV v->dg k w=true:=λh=>(hN.1.mpr h).1 (k,a,w) (aB _ (.head _))
   rw [aO]at ht
   haveI hlt:H.length<H'.length:=(ae.mp ht).1
   haveI hlt':H.length+1<H'.length:=(ae.mp hd).1
   have h9:(ini.map kb).length+1<=500:=by
    haveI:=hn.2.2
    rw [af]at this
    rw [ak];exact aa this (aa (ax (gL 8 hn.2.1)) (by decide))
   haveI ht1:(H'.set H.length (.list (ini.map kb)))[H.length]? =some (.list (ini.map kb)):=bv hlt
   haveI hd1:(H'.set H.length (.list (ini.map kb)))[H.length+1]? =some (dO (λ_=>.bool true) dn):=(bn (dm (bS _))).trans hd
   have no:¬PV v->Q (.bool false) (H'.set H.length (.list (ini.map kb))):=λh=>ret _ _ (kp.1.set (aA _)) (aC.trans kp.2) ⟨nofun,λz=>absurd z h⟩
   refine rV (qg (ev_var rfl) (dX ht) (hE (ul ht (aa h9 (by decide))) (?_:bh PL (aG PL (n+2)) [_,_,_,_] [some v,some (.ref H.length),some (.ref (H.length+1)),some w,some (.int a)] _ _ Q _)))
   refine cr (bT (ev_p2 (ev_var rfl) ai kJ) λ_=>ca (cI (bG (bU (ev_var rfl) λQ q=>g4 hP.1 q)) λ_=>bG (bU (ev_var rfl) λQ q=>g5 hP.1 q)) (congrArg V.bool (Bool.not_or _ _).symm)) (λh=>ev_ret ai (no λz=>?_)) λh=>?_
   ·haveI z:=rgp z
    cases k with
    |zero=>exact absurd z ag
    |succ j=>
     rcases cR.mp h with h|h
     ·exact absurd (of_decide_eq_true h) (cg.mpr (aX.mpr (aa (bP a j) (aq (dk ((bg j a 1).trans hP.2))))))
     ·exact absurd ((g7 h).symm.trans (aj.mp z).1) ag
   have h:=cC.mp h
   have hi:na w=true:=gb h.2
   cases k with
   |zero=>exact absurd h.1 (by rw [(eW a).symm.trans hP.2];decide)
   |succ j=>
   have rgs:RG (dn.map (·.1)++[ao w]) (ini++CM j a w)↔PV v:=(y8 hi).symm.trans hN.1
   refine cr (bT (ev_p2 (nB hi (ev_var rfl)) (ev_var rfl) (qb hd1)) λ_=>ev_p2 (bw (ev_var rfl) (rG hd1)) ai (eD b9 b9)) (λh=>ev_ret ai (no λz=>?_)) λh=>?_
   ·haveI z:=rgs.mpr z
    rcases cR.mp h with h|h
    ·haveI z:=(bx.mp z.2.1).1
     exact(bx.mp z).2.2 _ (aR.mp h) _ (.head _) rfl
    ·haveI h:=of_decide_eq_true (h:decide (((dn.map (·.1)).length:Int)=60)=true)
     haveI z:=z.2.2
     rw [af,af,(fh h:(dn.map (·.1)).length=60)]at z
     exact absurd (aa (ay 61 _) z) (by decide)
   have h:=cC.mp h
   have hin:ao w∉dn.map (·.1):=λz=>absurd (h.1.symm.trans (aR.mpr z)) ag
   have hdl:dn.length+1<=60:=E8 hn.2.1 λz=>absurd h.2 (by
    refine(?_:¬decide (((dn.map (·.1)).length:Int)=60)=false)
    rw [ak,z];decide)
   have fin:∀H3,(Kp H H3/\H3.length=H.length+2)->H3[H.length]? =some (.list (ini.map kb++(kids w).map λc=>kb (j,a+1,c)))->H3[H.length+1]? =some (dO (λ_=>.bool true) (dn++[(ao w,())]))->K' [some v,some (.ref H.length),some (.ref (H.length+1)),some w,some (.int a)] H3:=λH3 k3 t3 d3=>by
    refine hK _ H3 _ ?_ ⟨ini++CM j a w,dn++[(ao w,())],_,_,rfl,k3,?_,d3,⟨?_,?_,?_⟩,⟨?_,rfl⟩,cM (λy hy=>hx y (aP _ hy)) λy hy=>ea1_2 (az.mp hy) λc hc e=>e▸⟨nH hP.1 hi c hc,?_⟩⟩
    ·rw [<-hN.2,bl,bl,FL,af,af,bz,dP,aN]
     exact l3 (bS _) _
    ·rw [t3,aO,bp];rfl
    ·rw [aO]
     exact bx.mpr ⟨hn.1,bD.mpr ⟨nofun,cn⟩,λx hx y hy z=>hin ((z.trans (in1 hy):x=ao w)▸hx)⟩
    ·rw [af];exact hdl
    ·haveI:=hn.2.2
     rw [af]at this
     rw [af,ak,af]
     exact aa (bK (jZ this) (j6 hi)) (bJ _)
    ·rw [aO];exact rgs
    ·exact (bg j 1 a▸hP.2:j+a+1=7)
   haveI e2:=ip (n:=ao w) (x:=()) (val:=λ_=>V.bool true) hd1 (aa (bJ _) (aa hdl (by decide)))
   rw [jy λp hp z=>hin (az.mpr ⟨p,hp,z⟩)]at e2
   haveI ht2:((H'.set H.length (.list (ini.map kb))).set (H.length+1) (dO (λ_=>.bool true) (dn++[(ao w,())])))[H.length]? =some (.list (ini.map kb)):=(bn (dI (bS _))).trans ht1
   haveI hd2:((H'.set H.length (.list (ini.map kb))).set (H.length+1) (dO (λ_=>.bool true) (dn++[(ao w,())])))[H.length+1]? =some (dO (λ_=>.bool true) (dn++[(ao w,())])):=bv (aC.symm▸hlt')
   haveI k2:Kp H ((H'.set H.length (.list (ini.map kb))).set (H.length+1) (dO (λ_=>.bool true) (dn++[(ao w,())]))):=(kp.1.set (aA _)).set (bJ _)
   haveI l2:((H'.set H.length (.list (ini.map kb))).set (H.length+1) (dO (λ_=>.bool true) (dn++[(ao w,())]))).length=H.length+2:=aC.trans (aC.trans kp.2)
   refine sa rfl (nB hi (ev_var rfl)) e2 (cr (bU (ev_var rfl) λQ q=>g5 hP.1 q) (λhb=>?_) λhb=>?_)
   ·refine st_expr (pd (ev_var rfl) (dX ht2) (gT (l:=kids w) (f:=λc=>c) (g:=λc=>kb (j,a+1,c)) (qG hb (ev_var rfl)) (congrArg some (d5 _).symm) (aa (j6 hi) (by decide)) (λc _=>ev_p2 (ev_var rfl) (ev_p2 (ev_var rfl) ai dT) (eT nT)) _ (hE (lC ht2 ?_) (fin _ ⟨k2.set (aA _),aC.trans l2⟩ ?_ ?_))))
    ·rw [ak (as:=kids w)]
     exact aa (bK (aa (bJ _) h9) (j6 hi)) (by decide)
    ·exact bv (ae.mp ht2).1
    ·exact (bn (dm (bS _))).trans hd2
   ·haveI ek:kids w=[]:=(jI ((cR.mp hi).resolve_right λz=>absurd (hb.symm.trans z) ag)).1
    refine fin _ ⟨k2,l2⟩ ?_ hd2
    rw [ht2,ek]
    exact congrArg (λt=>some (O.list t)) (aN _).symm
  ·haveI e:td=[]:=by
    cases td with
    |nil=>rfl
    |cons x td=>exact absurd (bZ.mpr (gZ _)) (of_decide_eq_false hc)
   subst e
   refine⟨λ_=>hN.1.mp ⟨nofun,?_⟩,λ_=>rfl⟩
   rw [show(dn.map (·.1)++([]:List Td).flatMap lW)=dn.map (·.1)from aN _]
   exact⟨hn.1,aa (aq (ak _)) hn.2.1⟩
 ·unfold RG PV
  rw [tM,show [(7,0,v)].flatMap lW=nms 7 v from aN _]
  exact⟨λh=>⟨hw,h⟩,λh=>h.2⟩
def DD(d:Nat)(v:V):Prop:=v.data=true/\v.depth<=d
inductive Sm:Nat->V->Prop
 |int {d:Nat} {i:Int}:-10000000000<=i/\i<=10000000000->Sm d (.int i)
 |str {d:Nat} {s:Nm}:s.length<=20->(∀c∈s,c.toNat<128)->Sm d (.str s)
 |tup {d:Nat} {vs:List V}:vs.length<=10->(∀v∈vs,Sm d v)->Sm (d+1) (.tup vs)
section
variable {d:Nat}{v:V}{vs:List V}
theorem DD.tup(h:∀v∈vs,DD d v):DD (d+1) (.tup vs):=haveI z:=gP h;⟨z.1,ax z.2⟩
theorem DD.lst(h:∀v∈vs,DD d v):DD (d+1) (.lst vs):=haveI z:=gP h;⟨z.1,ax z.2⟩
theorem DD.up(h:DD d v):DD (d+1) v:=⟨h.1,n3 h.2⟩
theorem DD.zero(h:DD 0 v):DD d v:=⟨h.1,aa h.2 (aM _)⟩
theorem Sm.dd(h:Sm d v):DD d v:=by
 induction h with
 |int=>exact⟨rfl,aM _⟩
 |str=>exact⟨rfl,aM _⟩
 |tup _ _ ih=>exact DD.tup ih
theorem lU{p:V->Prop}{a b:Nat}(h:∀v∈vs,p v):∀v∈bq vs a b,p v:=λv hv=>h v (kO (CD hv))
theorem rF{α:Type}{vs:List α}{a b:Nat}:(bq vs a b).length<=vs.length:=by
 unfold bq
 rw [dN]
 exact aa (db _ _) (CB ..)
theorem xN:∀c∈kU,c.toNat<128:=by decide
theorem Sm.nm{s:Nm}(h:jT s):Sm d (.str s):=.str (aa h.2.1 (by decide)) λc hc=>xN c (h.2.2 c hc)
theorem Sm.wd{ws:List Nm}{s:Nm}(hw:∀s∈ws,s.length<=20/\∀c∈s,c.toNat<128)(h:s∈ws):Sm d (.str s):=.str (hw s h).1 (hw s h).2
theorem zI{π:PI}{k:Nat}(h:Pt π k v):Sm (2*k) v:=by
 induction h with
 |wk h1 h2=>exact .tup (av rfl) (am.mpr ⟨.str (by decide) (by decide),am.mpr ⟨.nm h1,cW (.wd (ws:=fA) (by decide) h2)⟩⟩)
 |@wd k nm r m s ps h1 h2 h3 h4 h5 _ _ _ ih=>exact .tup (av rfl) (am.mpr ⟨.str (by decide) (by decide),am.mpr ⟨.nm h1,am.mpr ⟨.wd (ws:=dD) (by decide) h2,am.mpr ⟨.int ⟨aV (by decide) h3.1,aV h3.2 (by decide)⟩,am.mpr ⟨.int ⟨aV (by decide) h4.1,aV h4.2 (by decide)⟩,cW (.tup (d:=2*k) (aa h5.2 (by decide)) ih)⟩⟩⟩⟩⟩)
end
theorem Du{s:Nm}(h:jT s):qw s=true:=by
 unfold qw
 rw [decide_eq_true (show(1:Int)<=s.length from aX.mpr h.1),decide_eq_true (show(s.length:Int)<=8 from aX.mpr h.2.1)]
 exact a8.mpr λc hc=>aR.mpr (h.2.2 c hc)
theorem Ey{ws:List Nm}{s:Nm}(h:s∈ws):l7 ws (.str s)=true:=jr.mpr ⟨.str s,bu h,beq_self_eq_true s⟩
theorem zK{a b i:Int}(h:a<=i/\i<=b):cq a b (.int i)=true:=aj.mpr ⟨decide_eq_true h.1,decide_eq_true h.2⟩
theorem zH{nm r:Nm}{m s:Int}{ps:List V}(h1:jT nm)(h2:r∈dD)(h3:0<=m/\m<=1000000000)(h4:1<=s/\s<=1000000000)(h5:1<=ps.length/\ps.length<=8):eL (iY nm r m s ps)=true:=by
 refine(?_:(qw nm&&(l7 dD (.str r)&&(cq 0 1000000000 (.int m)&&(cq 1 1000000000 (.int s)&&(decide ((1:Int)<=ps.length)&&decide ((ps.length:Int)<=8))))))=true)
 rw [Du h1,Ey h2,zK h3,zK h4,decide_eq_true (show(1:Int)<=ps.length from aX.mpr h5.1),decide_eq_true (show(ps.length:Int)<=8 from aX.mpr h5.2)];rfl
theorem CZ{π:PI}{k:Nat}{v:V}(h:Pt π k v):dg k v=true:=by
 induction h with
 |@wk k nm md h1 h2=>
  refine(?_:((gh (oR nm md)||eL (oR nm md))&&true)=true)
  rw [show gh (oR nm md)=(qw nm&&l7 fA (.str md))from rfl,Du h1,Ey h2];rfl
 |@wd k nm r m s ps h1 h2 h3 h4 h5 _ _ _ ih=>
  refine(?_:((gh (iY nm r m s ps)||eL (iY nm r m s ps))&&ps.all (dg k))=true)
  rw [zH h1 h2 h3 h4 h5,a8.mpr ih,jW];rfl
theorem nq{π:PI}{v:V}(h:Pt π 7 v)(hw:sS v=true)(nd:(nms 7 v).Nodup)(hl:(nms 7 v).length<=60):DT v/\PV v:=by
 haveI z:=(zI h).dd
 refine⟨⟨z.1,aa z.2 (by decide)⟩,?_,CZ h,nd,hl⟩
 cases h with
 |wk=>exact absurd hw ag
 |wd h1 h2 h3 h4 h5=>exact zH h1 h2 h3 h4 h5
section
variable {B Y:AH}{j:Nat}{o:O}
theorem m6:(B++Y)[B.length+j]? =Y[j]?:=by rw [cO (ay _ _),fv]
theorem CV:(B++Y).set (B.length+j) o=B++Y.set j o:=by rw [z9 _ _ (ay _ _),fv]
end
section
variable {P:Prog}{C:Calls}{ρ:Fm}{B Y:AH}{K:KS}{R:QE}{X:XE}{ss:List St}{nm:Nm}{e:Ex}{x:V}{ks:List Nm}{vs:List V}{o:O}
theorem CW(h0:Y[0]? =some (.ns ks vs))(h1:Y[1]? =some (.inst 0 B.length)):eP (B++Y) (.ref (B.length+1))=some (B.length,ks,vs):=by
 show((B++Y)[B.length+1]?.bind O.ins).bind _=_
 rw [m6,h1]
 show((B++Y)[B.length+0]?.bind O.nms).map _=_
 rw [m6,h0]
 rfl
theorem Dg(h0:Y[0]? =some (.ns ks vs))(h1:Y[1]? =some (.inst 0 B.length))(hl:ks.length<=1000):gu (.ref (B.length+1)) nm x (B++Y)=some (B++Y.set 0 (.ns (dE nm x ks vs).1 (dE nm x ks vs).2)):=by
 show(eP (B++Y) (.ref (B.length+1))).bind _=_
 rw [CW h0 h1]
 show(if ks.length<=1000 then some ((B++Y).set (B.length+0) _)else none)=_
 rw [if_pos hl,CV]
theorem D8(hρ:ρ[0]? =some (some (.ref (B.length+1))))(he:Ev P C ρ (B++Y) X e x)(h0:Y[0]? =some (.ns ks vs))(h1:Y[1]? =some (.inst 0 B.length))(hl:ks.length<=1000)(k:bh P C ss ρ (B++Y.set 0 (.ns (dE nm x ks vs).1 (dE nm x ks vs).2)) K R X):bh P C (.setAttr (.var 0) nm e::ss) ρ (B++Y) K R X:=
 he _ (ev_var (P:=P) (C:=C) (X:=X) hρ _ (by rw [Dg h0 h1 hl];exact k))
theorem jl(hρ:ρ[0]? =some (some (.ref (B.length+1))))(he:∀Q:QE,Q (.ref (B++Y).length) (B++Y++[o])->cH P C e ρ (B++Y) Q X)(h0:(Y++[o])[0]? =some (.ns ks vs))(h1:(Y++[o])[1]? =some (.inst 0 B.length))(hl:ks.length<=1000)(k:bh P C ss ρ (B++(Y++[o]).set 0 (.ns (dE nm (.ref (B.length+Y.length)) ks vs).1 (dE nm (.ref (B.length+Y.length)) ks vs).2)) K R X):bh P C (.setAttr (.var 0) nm e::ss) ρ (B++Y) K R X:=
 he _ (ev_var (P:=P) (C:=C) (X:=X) hρ _ (by rw [a7,af,Dg h0 h1 hl];exact k))
theorem yd{H:AH}{a:Ex}{n:Nm}{Q:QE}(ha:Ev P C ρ H X a (.str n))(q:Q (.ref H.length) (H++[.dict [n] [.none]])):cH P C (.prim true .mkdict1 [a,.cst .none]) ρ H Q X:=ha _ (hE rfl q:gi (aU P true .mkdict1 [.str n,.none] H) Q)
end
noncomputable def tJ(b:Nat)(v:V):List V:=[v,.ref (b+4),.ref (b+5),.ref (b+6),.ref (b+7),.ref (b+8),.ref (b+9),.ref (b+10)]
noncomputable def objs(n:Nm):List O:=[.list [],.dict [] [],.dict [n] [.none],.dict [] [],.dict [] [],.dict [] [],.dict [] []]
noncomputable def yS(b:Nat)(v:V)(n:Nm)(o₁ o₂:O)(m:Nat):AH:=.ns (hk.take m) ((tJ b v).take m)::.inst 0 b::o₁::o₂::(objs n).take (m-1)
theorem DQ{π:PI}{C:Calls}{B:AH}{K:KS}{Q:QE}{X:XE}{k:Nat}{v:V}{o₁ o₂:O}(hP:Pt π k v)
  (w:bh PL C (kK.body.drop 9) [some (.ref (B.length+1)),some v,none] (B++yS B.length v (ao v) o₁ o₂ 8) K Q X) :
  bh PL C (kK.body.drop 1) [some (.ref (B.length+1)),some v,none] (B++[.ns [] [],.inst 0 B.length,o₁,o₂]) K Q X:=
 D8 rfl (ev_var rfl) rfl rfl (av rfl) (show bh PL C (kK.body.drop 2) _ (B++yS B.length v (ao v) o₁ o₂ 1) K Q X from jl rfl (λQ q=>jf q) rfl rfl (av rfl) (show bh PL C (kK.body.drop 3) _ (B++yS B.length v (ao v) o₁ o₂ 2) K Q X from jl rfl (λQ q=>gV q) rfl rfl (av rfl) (show bh PL C (kK.body.drop 4) _ (B++yS B.length v (ao v) o₁ o₂ 3) K Q X from jl rfl (λQ q=>yd (sg hP rfl) q) rfl rfl (av rfl) (show bh PL C (kK.body.drop 5) _ (B++yS B.length v (ao v) o₁ o₂ 4) K Q X from jl rfl (λQ q=>gV q) rfl rfl (av rfl) (show bh PL C (kK.body.drop 6) _ (B++yS B.length v (ao v) o₁ o₂ 5) K Q X from jl rfl (λQ q=>gV q) rfl rfl (av rfl) (show bh PL C (kK.body.drop 7) _ (B++yS B.length v (ao v) o₁ o₂ 6) K Q X from jl rfl (λQ q=>gV q) rfl rfl (av rfl) (jl rfl (λQ q=>gV q) rfl rfl (av rfl) w:bh PL C (kK.body.drop 8) _ (B++yS B.length v (ao v) o₁ o₂ 7) K Q X)))))))
structure Cl(B:AH)(L:List (Nat×O))(H:AH):Prop where
 nd:(L.map (·.1)).Nodup
 cell:∀p∈L,H[p.1]? =some p.2/\B.length<=p.1
 pre:∀a,a<B.length->H[a]? =B[a]?
section
variable {B H:AH}{L:List (Nat×O)}
theorem Cl.get(h:Cl B L H)(k:Nat){p:Nat×O}(hk:L[k]? =some p):H[p.1]? =some p.2:=(h.cell p (aI hk)).1
theorem Cl.set(h:Cl B L H)(k:Nat){a:Nat}{o o':O}(hk:L[k]? =some (a,o)):Cl B (L.set k (a,o')) (H.set a o'):=by
 have ha:=h.cell _ (aI hk)
 haveI hlt:a<H.length:=(ae.mp ha.1).1
 have hkl:k<L.length:=(ae.mp hk).1
 haveI hm:(L.set k (a,o')).map (·.1)=L.map (·.1):=by
  rw [ze]
  refine iS λj=>?_
  rw [eH]
  by_cases q:k=j
  ·subst q
   rw [if_pos rfl,aZ,hk]
   exact if_pos (by rw [ak];exact hkl)
  ·rw [if_neg q]
 refine⟨hm▸h.nd,λp hp=>?_,λb hb=>(bn (dI (aJ hb ha.2))).trans (h.pre b hb)⟩
 obtain⟨j,hj⟩:=bW hp
 rw [eH]at hj
 by_cases q:k=j
 ·subst q
  rw [if_pos rfl,if_pos hkl]at hj
  haveI hp:(a,o')=p:=ah hj
  subst hp
  exact⟨bv hlt,ha.2⟩
 ·rw [if_neg q]at hj
  haveI hp:=h.cell p (aI hj)
  refine⟨(bn λz=>?_).trans hp.1,hp.2⟩
  haveI h1:(L.map (·.1))[k]? =some a:=by rw [aZ,hk];rfl
  haveI h2:(L.map (·.1))[j]? =some a:=by rw [aZ,hj,z];rfl
  exact q ((n6 (ae.mp h1).1 h.nd).mp (h1.trans h2.symm))
theorem Cl.lt(h:Cl B L H){p:Nat×O}(hp:p∈L):p.1<H.length:=(ae.mp (h.cell p hp).1).1
theorem Cl.new(h:Cl B L H)(o:O)(hb:B.length<=H.length):Cl B (L++[(H.length,o)]) (H++[o]):=by
 refine⟨?_,cM (λp hp=>⟨da (h.cell p hp).1,(h.cell p hp).2⟩) (cW ⟨dS,hb⟩),λa ha=>(bf (aJ ha hb)).trans (h.pre a ha)⟩
 rw [aO]
 refine bx.mpr ⟨h.nd,bD.mpr ⟨br,cn⟩,λa ha b hb=>?_⟩
 rw [in1 hb]
 exact ea1_2 (az.mp ha) λp hp e=>e▸dm (h.lt hp)
end
noncomputable def mc(x:V):V:=x
noncomputable def NL(b r:Nat)(v:V)(all:List V)(ns:List Nm)(pv ch:AL V)(qu:AL Nat):List (Nat×O):=
 [(b,.ns (hk.take 8) (tJ b v)),(b+1,.inst 0 b),(b+4,.list (ns.map V.str)),(b+5,dO mc pv),(b+6,dO mc ch),(b+7,.dict [] []),(b+8,.dict [] []),(b+9,.dict [] []),(b+10,dO V.ref qu),(r,.list all)]++qu.map λp=>(p.2,.list [])
section
variable {P:Prog}{C:Calls}{ρ:Fm}{B H:AH}{X:XE}{r:Nat}{v x:V}{all:List V}{ns:List Nm}{pv ch:AL V}{qu:AL Nat}{nm:Nm}
theorem zU(g0:H[B.length]? =some (.ns (hk.take 8) (tJ B.length v)))(g1:H[B.length+1]? =some (.inst 0 B.length)):eP H (.ref (B.length+1))=some (B.length,hk.take 8,tJ B.length v):=by
 show(H[B.length+1]?.bind O.ins).bind _=_
 rw [g1]
 show(H[B.length]?.bind O.nms).map _=_
 rw [g0]
 rfl
theorem j5(g0:H[B.length]? =some (.ns (hk.take 8) (tJ B.length v)))(g1:H[B.length+1]? =some (.inst 0 B.length))(h0:ρ[0]? =some (some (.ref (B.length+1))))(e:eS nm (hk.take 8) (tJ B.length v)=some x):Ev P C ρ H X (wP nm) x:=bw (ev_var h0) (by
 refine(?_:((eP H (.ref (B.length+1))).bind λq=>(eS nm q.2.1 q.2.2).map (·,H))=_)
 rw [zU g0 g1]
 exact congrArg (ba (·,H)) e)
end
section
variable {π:PI}{n:Nat}{B H:AH}{Q:QE}{X:XE}{r:Nat}{v:V}{all:List V}{ns:List Nm}{pv ch:AL V}{qu:AL Nat}
noncomputable def tH(w:V)(ps:List V)(ch:AL V):AL V:=ps.foldl (λc p=>cY (ao p) w c) ch
theorem sk{w:V}{ps:List V}:∀{ch:AL V},(tH w ps ch).length<=ch.length+ps.length:=by
 induction ps with
 |nil=>exact λ{ch}=>aA _
 |cons p ps ih=>exact λ{ch}=>aa ih (aa (cD gs _) (aq (by rw [cK,dq 1];rfl)))
theorem Fy{nm md:Nm}(h:Cl B (NL B.length r v all ns pv ch qu) H)(hb:B.length<=H.length)(h1:ns.length<=60)(h2:pv.length<=60)(h3:qu.length<=60)(hn:∀p∈qu,p.1≠nm)
  (q:∀a H',Cl B (NL B.length r v all (ns++[nm]) (cY nm (oR nm md) pv) ch (qu++[(nm,a)])) H'->B.length<=H'.length->Q .none H'):aG PL (n+1) 30 [.ref (B.length+1),oR nm md] H Q X:=by
 haveI sz:∀{j:Nat},j<=60->j<=au:=λh=>aa h (by decide)
 refine cf ue rfl (ly (j5 (h.get 0 rfl) (h.get 1 rfl) rfl rfl) (dX (h.get 2 rfl)) (a9 rfl) (hE (fe (h.get 2 rfl) (aa (aq (ak _)) (sz h1))) ?_))
 have c1:Cl B (NL B.length r v all (ns++[nm]) pv ch qu) (H.set (B.length+4) (.list (ns.map V.str++[.str nm]))):=by
  haveI c:=h.set 2 (o':=.list (ns.map V.str++[.str nm])) rfl
  rw [show ns.map V.str++[.str nm]=(ns++[nm]).map V.str from by rw [aO];rfl]at c ⊢
  exact c
 refine gQ (ev_var rfl _ (j5 (c1.get 0 rfl) (c1.get 1 rfl) rfl rfl _ (a9 (v:=.str nm) rfl _ ?_)))
 haveI e1:dK (.ref (B.length+5)) (.str nm) (oR nm md) _=_:=ip (val:=mc) (x:=oR nm md) (c1.get 3 rfl) (sz h2)
 rw [e1]
 haveI c2:Cl B (NL B.length r v all (ns++[nm]) (cY nm (oR nm md) pv) ch qu) _:=c1.set 3 (o':=dO mc (cY nm (oR nm md) pv)) rfl
 have l2:∀{a b:Nat} {o o':O},B.length<=((H.set a o).set b o').length:=λ{a b o o'}=>aa hb (aq (aC.trans aC).symm)
 refine dG (a9 rfl) (gQ (jf (j5 ((c2.new (.list []) l2).get 0 rfl) ((c2.new (.list []) l2).get 1 rfl) rfl rfl _ (a9 (v:=.str nm) rfl _ ?_))))
 haveI e2:dK (.ref (B.length+10)) (.str nm) (.ref _) _=_:=ip (n:=nm) (val:=V.ref) (x:=((H.set (B.length+4) (.list (ns.map V.str++[.str nm]))).set (B.length+5) (dO mc (cY nm (oR nm md) pv))).length) ((c2.new (.list []) l2).get 8 rfl) (sz h3)
 rw [e2,jy hn]
 haveI c3:=(c2.new (.list []) l2).set 8 (o':=dO V.ref (qu++[(nm,((H.set (B.length+4) (.list (ns.map V.str++[.str nm]))).set (B.length+5) (dO mc (cY nm (oR nm md) pv))).length)])) rfl
 refine q ((H.set (B.length+4) (.list (ns.map V.str++[.str nm]))).set (B.length+5) (dO mc (cY nm (oR nm md) pv))).length _ ?_ (aa l2 (aa fx (aq aC.symm)))
 unfold NL
 rw [aO (l₁:=qu)]
 exact c3
end
section
variable {π:PI}{n:Nat}{B H:AH}{Q:QE}{X:XE}{r:Nat}{v:V}{all:List V}{ns:List Nm}{pv ch:AL V}{qu:AL Nat}
theorem GG{k:Nat}{nm rl:Nm}{m s:Int}{ps:List V}(h8:∀p∈ps,Pt π k p)(h5:ps.length<=8)(h:Cl B (NL B.length r v all ns pv ch qu) H)(hb:B.length<=H.length)(h1:ns.length<=60)(h2:pv.length<=60)(h3:ch.length<=900)
  (q:∀H',Cl B (NL B.length r v all (ns++[nm]) (cY nm (iY nm rl m s ps) pv) (tH (iY nm rl m s ps) ps ch) qu) H'->B.length<=H'.length->Q .none H'):aG PL (n+1) 30 [.ref (B.length+1),iY nm rl m s ps] H Q X:=by
 haveI sz:∀{j:Nat},j<=60->j<=au:=λh=>aa h (by decide)
 refine cf ue rfl (ly (j5 (h.get 0 rfl) (h.get 1 rfl) rfl rfl) (dX (h.get 2 rfl)) (a9 rfl) (hE (fe (h.get 2 rfl) (aa (aq (ak _)) (sz h1))) ?_))
 have c1:Cl B (NL B.length r v all (ns++[nm]) pv ch qu) (H.set (B.length+4) (.list (ns.map V.str++[.str nm]))):=by
  haveI c:=h.set 2 (o':=.list (ns.map V.str++[.str nm])) rfl
  rw [show ns.map V.str++[.str nm]=(ns++[nm]).map V.str from by rw [aO];rfl]at c ⊢
  exact c
 refine gQ (ev_var rfl _ (j5 (c1.get 0 rfl) (c1.get 1 rfl) rfl rfl _ (a9 (v:=.str nm) rfl _ ?_)))
 haveI e1:dK (.ref (B.length+5)) (.str nm) (iY nm rl m s ps) _=_:=ip (val:=mc) (x:=iY nm rl m s ps) (c1.get 3 rfl) (sz h2)
 rw [e1]
 haveI c2:Cl B (NL B.length r v all (ns++[nm]) (cY nm (iY nm rl m s ps) pv) ch qu) _:=c1.set 3 (o':=dO mc (cY nm (iY nm rl m s ps) pv)) rfl
 haveI l2:∀{a b:Nat} {o o':O},B.length<=((H.set a o).set b o').length:=λ{a b o o'}=>aa hb (aq (aC.trans aC).symm)
 refine cJ (a9 rfl) (lg (λits ρ H'=>∃o dn,ρ=[some (.ref (B.length+1)),some (iY nm rl m s ps),o]/\dn++its=ps/\Cl B (NL B.length r v all (ns++[nm]) (cY nm (iY nm rl m s ps) pv) (tH (iY nm rl m s ps) dn ch) qu) H'/\B.length<=H'.length) (v:=.tup ps) (items:=ps) (a9 rfl) (λ_ _ _ _=>rfl) (aa h5 (by decide)) ⟨none,[],rfl,rfl,c2,l2⟩ (λx xs ρ' H' hI K' hK=>jS hI λo dn e ed c l=>?_) λρ' H' hI=>jS hI λo dn e ed c l=>q H' ((aN dn).symm.trans ed▸c) l)
 subst e
 haveI hm:x∈ps:=ed▸aB dn (.head _)
 refine gQ (ev_var rfl _ (j5 (c.get 0 rfl) (c.get 1 rfl) rfl rfl _ (sg (h8 x hm) rfl _ ?_)))
 haveI hl:(tH (iY nm rl m s ps) dn ch).length<=au:=aa sk (aa (bK h3 (aa (ed▸fx) h5)) (by decide))
 haveI e2:dK (.ref (B.length+6)) (.str (ao x)) (iY nm rl m s ps) _=_:=ip (val:=mc) (x:=iY nm rl m s ps) (c.get 4 rfl) hl
 rw [e2]
 refine hK _ _ ⟨_,dn++[x],rfl,(a7 dn [x] xs).trans ed,?_,aa l (aq aC.symm)⟩
 rw [show tH (iY nm rl m s ps) (dn++[x]) ch=cY (ao x) (iY nm rl m s ps) (tH (iY nm rl m s ps) dn ch)from eJ ..]
 exact c.set 4 (o':=dO mc (cY (ao x) (iY nm rl m s ps) (tH (iY nm rl m s ps) dn ch))) rfl
end
section
variable {π:PI}{n:Nat}{B H:AH}{Q:QE}{X:XE}{r:Nat}{v:V}{all:List V}{ns:List Nm}{pv ch:AL V}{qu:AL Nat}
noncomputable def p3(x:V):List Nm:=if sS x then []else [ao x]
theorem f30{k:Nat}{x:V}(hP:Pt π k x)(h:Cl B (NL B.length r v all ns pv ch qu) H)(hb:B.length<=H.length)(h1:ns.length<=60)(h2:pv.length<=60)(h3:ch.length<=900)(h4:qu.length<=60)(hn:∀p∈qu,p.1≠ao x)
  (q:∀qu' H',Cl B (NL B.length r v all (ns++[ao x]) (cY (ao x) x pv) (tH x (kids x) ch) qu') H'->B.length<=H'.length->qu'.map (·.1)=qu.map (·.1)++p3 x->Q .none H'):aG PL (n+1) 30 [.ref (B.length+1),x] H Q X:=by
 induction hP with
 |@wk _ nm=>exact Fy h hb h1 h2 h4 hn λa H' c l=>q (qu++[(nm,a)]) H' c l aO
 |@wd _ _ _ _ _ ps _ _ _ _ h5 _ _ h8=>
  refine GG h8 h5.2 h hb h1 h2 h3 λH' c l=>q qu H' c l ?_
  cases ps with
  |nil=>exact absurd h5.1 (gp 0)
  |cons p ps=>exact(aN _).symm
noncomputable def y7(dn:List V):AL V:=dn.foldl (λc p=>cY (ao p) p c) []
noncomputable def tK(n0:Nm)(dn:List V):AL V:=dn.foldl (λc p=>tH p (kids p) c) [(n0,.none)]
def NI(B:AH)(v:V)(r:Nat)(all:List V)(n0:Nm)(its:List V)(ρ:Fm)(H:AH):Prop:=
 ∃o dn qu,ρ=[some (.ref (B.length+1)),some v,o]/\dn++its=all/\Cl B (NL B.length r v all (dn.map ao) (y7 dn) (tK n0 dn) qu) H/\qu.map (·.1)=dn.flatMap p3/\(B.length<=H.length/\(y7 dn).length<=dn.length/\(tK n0 dn).length<=8*dn.length+1)
end
section
variable {π:PI}{n:Nat}{B H:AH}{K:KS}{Q:QE}{X:XE}{r:Nat}{v:V}{all:List V}
theorem ya{dn:List V}{a:Nm}(h:a∈dn.flatMap p3):a∈dn.map ao:=ea1_2 (bE.mp h) λx hx ha=>by
 unfold p3 at ha
 by_cases e:sS x=true
 ·rw [if_pos e]at ha;exact absurd ha br
 ·rw [if_neg e]at ha;exact in1 ha▸bu hx
theorem ry{dn:List V}:(dn.flatMap p3).length<=dn.length:=by
 induction dn with
 |nil=>exact aA _
 |cons x dn ih=>
  rw [bz,af,bQ,dq]
  refine bK ih ?_
  unfold p3
  by_cases e:sS x=true
  ·rw [if_pos e];exact aM _
  ·rw [if_neg e];exact aA _
theorem Ew{n0:Nm}{ss:List St}{e:Ex}{H0:AH}(he:∀Q:QE,(∀r H,Cl B (NL B.length r v all [] [] [(n0,.none)] []) H->B.length<=H.length->Q (.ref r) H)->cH PL (aG PL (n+1)) e [some (.ref (B.length+1)),some v,none] H0 Q X)(hP:∀x∈all,∃k,Pt π k x)(nd:(all.map ao).Nodup)(hl:all.length<=60)
  (q:∀r o qu H',Cl B (NL B.length r v all (all.map ao) (y7 all) (tK n0 all) qu) H'->qu.map (·.1)=all.flatMap p3->B.length<=H'.length->bh PL (aG PL (n+1)) ss [some (.ref (B.length+1)),some v,o] H' K Q X) :
  bh PL (aG PL (n+1)) (.forIn false (.inl 2) e [(.expr (.meth 0 30 ['n','o','t','e'] (.var 0) [.var 2]))]::ss) [some (.ref (B.length+1)),some v,none] H0 K Q X:=by
 refine tR (he _ λr H h hb=>vF (rev:=false) (tgt:=.inl 2) (v:=.ref r) (l:=all) (f:=λx=>x) (st:=λx ρ=>ρ.set 2 (some x)) (λ_ _=>rfl) (NI B v r all n0) (λ_ _ _ q=>kF q λo dn qu _ _ c _ _=>(fZ (c.get 9 rfl)).trans (congrArg some (d5 all).symm)) (aa hl (by decide)) ⟨none,[],[],rfl,rfl,h,rfl,hb,aA _,aA _⟩ (λx xs ρ' H' hI K' hK=>kF hI λo dn qu e ed c hq l=>?_) λρ' H' hI=>kF hI λo dn qu e ed c hq l=>?_)
 ·subst e
  haveI hd:dn.length+1<=60:=by
   rw [<-ed,af]at hl
   exact aa (bO (ax (aM xs.length)) _) hl
  haveI nx:ao x∉dn.map ao:=λz=>by
   rw [<-ed,aO]at nd
   exact(bx.mp nd).2.2 _ z _ (.head _) rfl
  haveI e1:y7 (dn++[x])=cY (ao x) x (y7 dn):=eJ ..
  haveI e2:tK n0 (dn++[x])=tH x (kids x) (tK n0 dn):=eJ ..
  refine(hP x (ed▸aB dn (.head _))).elim λk hP=>?_
  refine st_expr (ev_var (P:=PL) (C:=aG PL (n+1)) (X:=λ_ _=>False) (ρ:=[some (.ref (B.length+1)),some v,some x]) (i:=0) rfl (λv' H₁=>fY H₁ 0 ['n','o','t','e'] v'=true/\fw PL (aG PL (n+1)) [.var 2] [some (.ref (B.length+1)),some v,some x] H₁ (λvs H'=>aG PL (n+1) 30 (v'::vs) H' (λ_ H'=>K' [some (.ref (B.length+1)),some v,some x] H') (λ_ _=>False)) (λ_ _=>False)) ⟨?_,ev_var (P:=PL) (C:=aG PL (n+1)) (X:=λ_ _=>False) rfl _ (f30 hP c l.1 ?_ ?_ ?_ ?_ ?_ λqu' H'' c' l' hq'=>hK _ _ ⟨_,dn++[x],qu',rfl,(a7 dn [x] xs).trans ed,?_,?_,l',?_,?_⟩)⟩)
  ·show (eP H' (.ref (B.length+1))).any _=true
   rw [zU (c.get 0 rfl) (c.get 1 rfl)];rfl
  ·rw [ak];exact aa (bJ _) hd
  ·exact aa l.2.1 (aa (bJ _) hd)
  ·exact aa l.2.2 (aa (ax (gL 8 (aa (bJ _) hd))) (by decide))
  ·rw [<-ak (f:=(·.1)),hq];exact aa ry (aa (bJ _) hd)
  ·exact λp hp z=>nx (z▸ya (hq▸bu hp))
  ·rw [aO,e1,e2];exact c'
  ·rw [hq',hq,bl,bz,dP,aN]
  ·rw [e1,af];exact aa gs (ax l.2.1)
  ·rw [e2,af]
   exact aa sk (aa (bK l.2.2 (nW hP)) (aq (bg _ _ _)))
 ·subst e
  haveI ed:dn=all:=(aN dn).symm.trans ed
  subst ed
  exact q r o qu H' c hq l.1
end
theorem Bf{l:List V}:∀{c:AL V},(c.map (·.1)++l.map ao).Nodup->l.foldl (λc p=>cY (ao p) p c) c=c++l.map λp=>(ao p,p):=by
 induction l with
 |nil=>exact λ{c} _=>(aN c).symm
 |cons p l ih=>
  intro c nd
  haveI e:cY (ao p) p c=c++[(ao p,p)]:=jy λq hq z=>(bx.mp nd).2.2 _ (bu hq) _ (.head _) z
  refine(?_:l.foldl _ (cY (ao p) p c)=_)
  rw [e,ih (by rw [aO,a7];exact nd),a7]
  rfl
theorem Bc{l:List V}(nd:(l.map ao).Nodup):y7 l=l.map λp=>(ao p,p):=Bf nd
theorem y6{m:Nm}{w:V}{ps:List V}:∀{c:AL V},dW m (tH w ps c)=if m∈ps.map ao then some w else dW m c:=by
 induction ps with
 |nil=>exact λ{c}=>(if_neg br).symm
 |cons p ps ih=>
  intro c
  refine(ih (c:=cY (ao p) w c)).trans ?_
  rw [lM]
  by_cases h:m∈ps.map ao
  ·rw [if_pos h,if_pos (.tail _ h)]
  ·rw [if_neg h]
   by_cases e:m=ao p
   ·rw [if_pos e,if_pos (e▸.head _)]
   ·rw [if_neg e];exact(if_neg λz=>eK z e h).symm
theorem vD{m:Nm}{w:V}{l:List V}(h:∀x∈l,m∈(kids x).map ao->x=w):∀{c:AL V},(dW m c=some w\/∃x∈l,m∈(kids x).map ao)->dW m (l.foldl (λc p=>tH p (kids p) c) c)=some w:=by
 induction l with
 |nil=>exact λq=>q.elim id λq=>ea1_2 q λx hx _=>absurd hx br
 |cons p l ih=>
  intro c q
  refine ih (λx hx=>h x (.tail _ hx)) ?_
  rw [y6]
  by_cases e:m∈(kids p).map ao
  ·rw [if_pos e];exact .inl (congrArg some (h p (.head _) e))
  ·rw [if_neg e];exact q.imp id λq=>ea1_2 q λx hx hm=>eK hx (λz=>absurd (z▸hm) e) λhx=>⟨x,hx,hm⟩
section
variable {π:PI}{k:Nat}{v w x p:V}
theorem nK(hP:Pt π k w)(hp:p∈kids w):π.ch (ao p)=some (ao w):=by
 induction hP with
 |wk=>exact absurd hp br
 |wd _ _ _ _ _ _ h7=>exact(h7 _).mpr ⟨p,hp,rfl⟩
theorem yb(hP:Pt π k w):π.isW (ao w)=some (sS w):=by
 induction hP with
 |wk _ _ h=>exact h
 |@wd _ _ _ _ _ ps _ _ _ _ h5 h6=>
  cases ps with
  |nil=>exact absurd h5.1 (gp 0)
  |cons p ps=>exact h6
theorem EO(hP:Pt π k w):jT (ao w):=by
 induction hP with
 |wk h=>exact h
 |wd h=>exact h
theorem kh:∀{k:Nat} {v:V},Pt π k v->∀x∈fW k v,∃k,Pt π k x:=by
 intro k
 induction k with
 |zero=>exact λ_=>n8
 |succ k ih=>exact λhP=>dC ⟨_,hP⟩ λx hx=>ea1_2 (bE.mp hx) λp hp hx=>ih (qN hP p hp) x hx
theorem vO{l:List V}(nd:(l.map ao).Nodup)(hx:x∈l)(hw:w∈l)(e:ao x=ao w):x=w:=by
 induction l with
 |nil=>exact absurd hx br
 |cons y l ih=>
  have n:=bD.mp nd
  exact eK hx (λe1=>eK hw (λe2=>e1.trans e2.symm) λh=>absurd (bu h) λz=>n.1 (e1▸e.symm▸z)) λh=>eK hw (λe2=>absurd (bu h) λz=>n.1 (e2▸e▸z)) λh'=>ih n.2 h h'
theorem ye{l:List V}(hp:∀x∈l,∃k,Pt π k x){m:Nm}(hn:(π.isW m).isSome=true->m∈l.map ao):m∈l.flatMap p3↔π.isW m=some false:=by
 refine⟨λh=>ea1_2 (bE.mp h) λx hx hm=>(hp x hx).elim λk hk=>?_,λh=>ea1_2 (az.mp (hn (congrArg gc h))) λx hx e=>(hp x hx).elim λk hk=>bE.mpr ⟨x,hx,?_⟩⟩
 ·unfold p3 at hm
  by_cases e:sS x=true
  ·rw [if_pos e]at hm;exact absurd hm br
  ·rw [if_neg e]at hm;rw [in1 hm,yb hk,fK.mpr e]
 ·unfold p3
  have z:=(yb hk).symm.trans (e.symm▸h)
  rw [ah z,<-e];exact .head _
theorem AS{l:List V}(nd:(l.map ao).Nodup):(l.flatMap p3).Nodup:=by
 refine List.Nodup.sublist (?_:(l.flatMap p3).Sublist (l.map ao)) nd
 clear nd
 induction l with
 |nil=>exact .slnil
 |cons x l ih=>
  rw [bz]
  unfold p3
  by_cases e:sS x=true
  ·rw [if_pos e];exact .cons _ ih
  ·rw [if_neg e];exact .cons_cons _ ih
end
noncomputable def gB(B:AH):List (Nat×O):=B.zipIdx.map Prod.swap
theorem tT{B:AH}{p:Nat×O}(h:p∈gB B):B[p.1]? =some p.2:=ea1_2 (az.mp h) λ_ hx e=>e▸d9.mp hx
theorem t0{B:AH}{a:Nat}{o:O}(h:B[a]? =some o):(a,o)∈gB B:=az.mpr ⟨(o,a),d9.mpr h,rfl⟩
theorem EA{B:AH}:((gB B).map (·.1)).Nodup:=by
 unfold gB
 rw [bp]
 show(B.zipIdx.map n4).Nodup
 rw [List.zipIdx_map_snd]
 exact List.nodup_range'
noncomputable def ym(B:AH)(v:V)(all:List V)(n0:Nm)(e:Nat):Ad:=⟨B.length,B.length+1,B.length+4,B.length+5,B.length+6,B.length+7,B.length+8,B.length+9,B.length+10,e,v,all.map ao,all,(tK n0 all).map (·.1),(tK n0 all).map (·.2),gB B⟩
noncomputable def qj(qu:AL Nat)(a:Nat):Option (Bool×Nm):=(qu.find? λp=>p.2==a).map λp=>(false,p.1)
noncomputable def yH(qu:AL Nat):Hst:=⟨[],[],[],qu.map λp=>(p.1,p.2,[]),0,0,[],0,qj qu⟩
theorem xW{qu:AL Nat}(nd:(qu.map (·.2)).Nodup){p:Nm×Nat}(hp:p∈qu):qj qu p.2=some (false,p.1):=by
 unfold qj
 induction qu with
 |nil=>exact absurd hp br
 |cons x qu ih=>
  have n:=bD.mp nd
  rw [List.find?_cons]
  refine eK hp (λe=>?_) λh=>?_
  ·rw [e,beq_self_eq_true];rfl
  ·rw [show(x.2==p.2)=false from beq_eq_false_iff_ne.mpr λe=>n.1 (az.mpr ⟨p,h,e.symm⟩)];exact ih n.2 h
theorem jH{qu:AL Nat}{a:Nat}(h:a∉qu.map (·.2)):qj qu a=none:=by
 unfold qj
 rw [E9.mpr λ(x:Nm×Nat) hx (e:(x.2==a)=true)=>h (az.mpr ⟨x,hx,beq_iff_eq.mp e⟩)];rfl
theorem DJ{B H:AH}{v:V}{all:List V}{n0:Nm}{qu:AL Nat}{r e:Nat}(hn:(all.map ao).Nodup)(hq:qu.map (·.1)=all.flatMap p3)
  (c:Cl B ([(B.length,.ns hk (tJ B.length v++[.int 0,.int 0,.ref e])),(B.length+1,.inst 0 B.length),(B.length+4,.list ((all.map ao).map V.str)),(B.length+5,dO mc (y7 all)),(B.length+6,dO mc (tK n0 all)),(B.length+7,.dict [] []),(B.length+8,.dict [] []),(B.length+9,.dict [] []),(B.length+10,dO V.ref qu),(r,.list all)]++(qu.map λp=>(p.2,.list []))++[(e,.list [])]) H) :
  Hs (ym B v all n0 e) (yH qu) H:=by
 haveI nd:=c.nd
 rw [aO,aO,a7,bp (l:=qu)]at nd
 have nd1:=bx.mp nd
 have nd2:=bx.mp nd1.2.1
 haveI hm:∀{k:Nat} {p:Nat×O},([(B.length,.ns hk (tJ B.length v++[.int 0,.int 0,.ref e])),(B.length+1,.inst 0 B.length),(B.length+4,.list ((all.map ao).map V.str)),(B.length+5,dO mc (y7 all)),(B.length+6,dO mc (tK n0 all)),(B.length+7,.dict [] []),(B.length+8,.dict [] []),(B.length+9,.dict [] []),(B.length+10,dO V.ref qu),(r,.list all)]:List (Nat×O))[k]? =some p->H[p.1]? =some p.2/\qj qu p.1=none:=λ{k p} h=>by
  haveI m:=aI h
  exact⟨(c.cell p (aP _ (aP _ m))).1,jH λz=>nd1.2.2 _ (bu m) _ (aP _ z) rfl⟩
 haveI he:H[e]? =some (.list [])/\qj qu e=none:=⟨(c.cell _ (aB _ (.head _))).1,jH λz=>nd2.2.2 _ z _ (.head _) rfl⟩
 have hge:∀{p:Nm×Nat},p∈qu->H[p.2]? =some (.list [])/\B.length<=p.2:=λ{p} hp=>c.cell (p.2,.list []) (aP _ (aB _ (az.mpr ⟨p,hp,rfl⟩)))
 refine⟨?_,?_,n8,λp hp=>?_,?_,cn,cn,λb hb=>jH λz=>ea1_2 (az.mp z) λq hq e=>b6 _ (aJ (ae.mp (hge hq).1).1 (e▸hb))⟩
 ·refine (?_:(([B.length,B.length+1,B.length+4,B.length+5,B.length+6,B.length+7,B.length+8,B.length+9,B.length+10]++[e])++(gB B).map (·.1)).Nodup)
  refine bx.mpr ⟨bx.mpr ⟨?_,bD.mpr ⟨br,cn⟩,?_⟩,EA,?_⟩
  ·exact (bx (l₁:=[B.length,B.length+1,B.length+4,B.length+5,B.length+6,B.length+7,B.length+8,B.length+9,B.length+10]) (l₂:=[r]).mp nd1.1).1
  ·exact λa ha b hb=>nd1.2.2 a (aP [r] ha) b (aB _ hb)
  ·intro a ha b hb
   have h1:B.length<=a:=cM (p:=λa=>B.length<=a) (dC (aA _) (dC (ay _ _) (dC (ay _ _) (dC (ay _ _) (dC (ay _ _) (dC (ay _ _) (dC (ay _ _) (dC (ay _ _) (cW (ay _ _)))))))))) (cW (show B.length<=e from(c.cell _ (aB _ (.head _))).2)) a ha
   exact ea1_2 (az.mp hb) λp hp e=>e▸dI (aJ (ae.mp (tT hp)).1 h1)
 ·refine dC (hm (k:=0) rfl) (dC (hm (k:=1) rfl) (dC (hm (k:=2) rfl) (dC ?_ (dC (hm (k:=4) rfl) (dC (hm (k:=5) rfl) (dC (hm (k:=6) rfl) (dC (hm (k:=7) rfl) (dC ?_ (dC he λp hp=>?_)))))))))
  ·haveI:=hm (k:=3) rfl
   rw [Bc hn,dO,bp,bp]at this
   exact⟨this.1.trans (congrArg (λt=>some (O.dict _ t)) (d5 all)),this.2⟩
  ·haveI:=hm (k:=8) rfl
   refine⟨this.1.trans (congrArg some ?_),this.2⟩
   unfold dO yH
   rw [bp,bp];rfl
  ·have hb:=tT hp
   have hl:=(ae.mp hb).1
   exact⟨(c.pre _ hl).trans hb,jH λz=>ea1_2 (az.mp z) λq hq e=>b6 _ (aJ hl (e▸(hge hq).2))⟩
 ·refine ea1_2 (az.mp hp) λq hq e=>e▸⟨xW nd2.1 hq,(hge hq).1,aM _⟩
 ·refine (?_:((qu.map _).map _).Nodup)
  rw [bp]
  exact hq.symm▸AS hn
section
variable {π:PI}{σ:Ad}{B:AH}{v:V}{n0:Nm}{e:Nat}
theorem Gj:∀{k d:Nat} {w:V},Rt π σ d k w->d+k=7->(∀w'∈fW k w,∀p∈kids w',eS (ao p) σ.chk σ.chv=some w')->∀x∈fW k w,∃d' k',d'+k'=7/\Rt π σ d' k' x/\(d'=0->x=w):=by
 intro k
 induction k with
 |zero=>exact λ_ _ _=>n8
 |succ k ih=>
  intro d w h e hc
  refine dC ⟨d,k+1,e,h,λ_=>rfl⟩ λx hx=>ea1_2 (bE.mp hx) λp hp hx=>?_
  have r:=h.rd
  have nd:((kids w).flatMap (nms k)).Nodup:=(bD.mp r.nd).2
  have sub:(nms k p).Sublist ((kids w).flatMap (nms k)):=List.sublist_flatten_of_mem (bu hp)
  have hr:Rt π σ (d+1) k p:=⟨⟨qN r.pt p hp,nd.sublist sub,aa (bJ k) r.k7,aa sub.length_le (aa (bJ _) r.len),λx hx=>r.md x (.tail _ (bE.mpr ⟨p,hp,hx⟩))⟩,w,h,hp,hc w (.head _) p hp⟩
  refine(ih hr ((bg d 1 k).trans e) (λw' hw'=>hc w' (.tail _ (bE.mpr ⟨p,hp,hw'⟩))) x hx).imp λd' q=>q.imp λk' q=>⟨q.1,q.2.1,λz=>?_⟩
  subst z
  have z:=q.2.2 rfl
  subst z
  haveI z:V.none=w:=ah (q.2.1.2.1.symm.trans (hc w (.head _) x hp))
  subst z
  exact absurd hp br
theorem BV{l:List V}{x:V}(nd:(l.map ao).Nodup)(hx:x∈l):dW (ao x) (l.map λp=>(ao p,p))=some x:=by
 induction l with
 |nil=>exact absurd hx br
 |cons y l ih=>
  haveI n:=bD.mp nd
  refine(?_:(if ao x=ao y then some y else dW (ao x) (l.map λp=>(ao p,p)))=some x)
  by_cases h:ao x=ao y
  ·rw [if_pos h,vO nd hx (.head _) h]
  ·rw [if_neg h];exact ih n.2 (eK hx (λe=>absurd (congrArg ao e) h) id)
theorem Af(hP:Pt π 7 v)(nd:(nms 7 v).Nodup):∀w∈fW 7 v,∀p∈kids w,eS (ao p) (ym B v (fW 7 v) n0 e).chk (ym B v (fW 7 v) n0 e).chv=some w:=λw hw p hp=>by
 refine(kS (val:=mc)).trans (congrArg (ba mc) (?_:dW (ao p) (tK n0 (fW 7 v))=some w))
 refine vD (λx hx hm=>vO (eF.symm▸nd) hx hw ?_) (.inr ⟨w,hw,bu hp⟩)
 exact ea1_2 (az.mp hm) λy hy e=>(kh hP x hx).elim λ_ hx=>(kh hP w hw).elim λ_ hw=>ah ((nK hx hy).symm.trans (e▸nK hw hp))
theorem Cy(hP:Pt π 7 v)(hr:∀w,π.ch (ao v)≠some w):eS (ao v) (ym B v (fW 7 v) (ao v) e).chk (ym B v (fW 7 v) (ao v) e).chv=some .none:=by
 refine(kS (val:=mc)).trans (congrArg (ba mc) (?_:dW (ao v) (tK (ao v) (fW 7 v))=some .none))
 exact vD (λx hx hm=>ea1_2 (az.mp hm) λy hy e=>(kh hP x hx).elim λ_ hx=>absurd (e▸nK hx hy) (hr _)) (.inl (if_pos rfl))
structure Plan(π:PI)(v:V):Prop where
 pt:Pt π 7 v
 w:sS v=true
 nd:(nms 7 v).Nodup
 le:(nms 7 v).length<=60
 top:∀w,π.ch (ao v)≠some w
 nm:∀m,(π.isW m).isSome=true->m∈nms 7 v
 md:∀x∈fW 7 v,mdOk π x
theorem Plan.rt(h:Plan π v):∀x∈fW 7 v,∃d k,d+k=7/\Rt π (ym B v (fW 7 v) (ao v) e) d k x/\(d=0->x=v):=Gj (d:=0) ⟨⟨h.pt,h.nd,aA _,h.le,h.md⟩,Cy h.pt h.top,h.top⟩ rfl (Af h.pt h.nd)
theorem Plan.pl(h:Plan π v):Pl π (ym B v (fW 7 v) (ao v) e) where
 nm:=λm hm=>show m∈(fW 7 v).map ao from eF.symm▸h.nm m hm
 ok:=λm hm=>ea1_2 (az.mp hm) λx hx e=>(kh h.pt x hx).elim λk hk=>e▸EO hk
 le:=aa (aq (congrArg dU (eF (k:=7)))) h.le
 pt:=λm hm=>ea1_2 (az.mp hm) λx hx ex=>c8 (h.rt (B:=B) (e:=e) x hx) λd k q1 q2 q3=>⟨d,k,x,⟨cP (aJ (Nat.lt_add_of_pos_right (qc q2.rd.pt)) (aq q1)),λz=>by rw [<-ex,q3 z,yb h.pt,h.w]⟩,q2,ex,by
  have nd:((fW 7 v).map ao).Nodup:=eF.symm▸h.nd
  haveI z:=kS (n:=m) (val:=mc) (l:=(fW 7 v).map λp=>(ao p,p))
  rw [bp,bp]at z
  refine Eq.trans ?_ (z.trans (congrArg (ba mc) (?_:_=some x)))
  ·exact congrArg (eS m _) (d5 _).symm
  ·rw [<-ex];exact BV nd hx⟩
 top:=h.pt
 nd:=show((fW 7 v).map ao).Nodup from eF.symm▸h.nd
end
section
variable {P:Prog}{C:Calls}{ρ:Fm}{B H:AH}{K:KS}{R:QE}{X:XE}{ss:List St}{nm:Nm}{e:Ex}{x:V}{ks:List Nm}{vs:List V}
theorem Em{b:Nat}(g0:H[b]? =some (.ns ks vs))(g1:H[b+1]? =some (.inst 0 b)):eP H (.ref (b+1))=some (b,ks,vs):=by
 show(H[b+1]?.bind O.ins).bind _=_
 rw [g1]
 show(H[b]?.bind O.nms).map _=_
 rw [g0]
 rfl
theorem FU{b:Nat}(g0:H[b]? =some (.ns ks vs))(g1:H[b+1]? =some (.inst 0 b))(hl:ks.length<=1000):gu (.ref (b+1)) nm x H=some (H.set b (.ns (dE nm x ks vs).1 (dE nm x ks vs).2)):=by
 show(eP H (.ref (b+1))).bind _=_
 rw [Em g0 g1]
 exact if_pos hl
theorem uo{b:Nat}(hρ:ρ[0]? =some (some (.ref (b+1))))(he:∀Q:QE,Q x H->cH P C e ρ B Q X)(g0:H[b]? =some (.ns ks vs))(g1:H[b+1]? =some (.inst 0 b))(hl:ks.length<=1000)(k:bh P C ss ρ (H.set b (.ns (dE nm x ks vs).1 (dE nm x ks vs).2)) K R X):bh P C (.setAttr (.var 0) nm e::ss) ρ B K R X:=
 he _ (ev_var (P:=P) (C:=C) (X:=X) hρ _ (by rw [FU g0 g1 hl];exact k))
end
section
variable {π:PI}{n:Nat}{B H:AH}{K:KS}{Q:QE}{X:XE}{r:Nat}{v:V}{qu:AL Nat}
theorem iv0(h:Plan π v)(hq:qu.map (·.1)=(fW 7 v).flatMap p3):Iv π (yH qu) where
 gd:=⟨λ_ z=>absurd z ag,λ_ z=>absurd z ag,aA _,aA _,aA _,aA _,λ_ z=>absurd z ag,λ_ z=>absurd z ag⟩
 up:=λ_ _ _ z=>absurd z ag
 nm:=n8
 qk:=λm=>by
  refine(?_:((qu.map λp=>(p.1,(p.2,([]:List (Nat×V))))).map (·.1)).contains m=true↔_)
  rw [bp,show((·.1)∘λp:Nm×Nat=>(p.1,(p.2,([]:List (Nat×V)))))=(·.1)from rfl,hq,aR]
  exact ye (kh h.pt) λz=>eF.symm▸h.nm m z
 lv:=λp hp=>ea1_2 (az.mp hp) λq _ e=>e▸n8
 lq:=by
  refine(?_:(qu.map _).length<=60)
  rw [ak,<-ak (f:=(·.1)),hq]
  exact aa ry (aa (aq ((ak ao).symm.trans (congrArg dU eF))) h.le)
noncomputable def Gh:Ab:=⟨λ_=>false,λ_=>[],λ_=>0,λ_=>[],[],0,0⟩
theorem F7:xo (yH qu)=Gh:=by
 refine congrArg (λq=>(⟨λ_=>false,λ_=>[],λ_=>0,q,[],0,0⟩:Ab)) (funext λm=>?_)
 refine(?_:((dW m (qu.map λp=>(p.1,(p.2,([]:List (Nat×V)))))).map _).getD []=[])
 induction qu with
 |nil=>rfl
 |cons p qu ih=>
  refine(?_:((if m=p.1 then some (p.2,[])else dW m (qu.map λp=>(p.1,(p.2,([]:List (Nat×V)))))).map _).getD []=[])
  by_cases e:m=p.1
  ·rw [if_pos e];rfl
  ·rw [if_neg e];exact ih
theorem EL{o:Option V}(h:Plan π v)(c:Cl B (NL B.length r v (fW 7 v) ((fW 7 v).map ao) (y7 (fW 7 v)) (tK (ao v) (fW 7 v)) qu) H)(hq:qu.map (·.1)=(fW 7 v).flatMap p3)(hb:B.length<=H.length)
  (q:∀e S H',At π (ym B v (fW 7 v) (ao v) e) S H'->S.ev.length<=60->xo S=aF ((nms 7 v).map .beg) (λ_=>[]) Gh->Q .none H') :
  bh PL (aG PL (n+8)) (kK.body.drop 10) [some (.ref (B.length+1)),some v,o] H (λ_ H'=>Q .none H') Q X:=by
 haveI nd:((fW 7 v).map ao).Nodup:=eF.symm▸h.nd
 have ln:(nms 7 v).length<=60:=h.le
 refine uo (x:=.int 0) (H:=H) rfl (λQ q=>q) (c.get 0 rfl) (c.get 1 rfl) (av rfl) ?_
 haveI c1:=c.set 0 (o':=.ns (dE ['c','l','o','c','k'] (.int 0) (hk.take 8) (tJ B.length v)).1 (dE ['c','l','o','c','k'] (.int 0) (hk.take 8) (tJ B.length v)).2) rfl
 refine uo (x:=.int 0) rfl (λQ q=>q) (c1.get 0 rfl) (c1.get 1 rfl) (av rfl) ?_
 haveI c2:=c1.set 0 (o':=.ns (hk.take 10) (tJ B.length v++[.int 0,.int 0])) rfl
 haveI c3:=c2.new (.list []) (aa hb (aq (aC.trans aC).symm))
 refine uo (x:=.ref _) rfl (λQ q=>jf q) (c3.get 0 rfl) (c3.get 1 rfl) (av rfl) ?_
 have hs:=DJ nd hq (c3.set 0 (o':=.ns hk (tJ B.length v++[.int 0,.int 0,.ref _])) rfl)
 have iv:=iv0 h hq
 refine iI hs rfl rfl (ev_var rfl) (xe (n:=n+1) h.pt hs iv.gd (aa (bO ln _) (av rfl)) λS' H' hs' gd' sp=>?_)
 have hh:∀m,here S' m=true↔m∈nms 7 v:=λm=>by
  rw [sp.hr]
  exact zn.trans ⟨λz=>z.elim id λz=>absurd z ag,.inl⟩
 haveI up:Up π (here S'):=λa m e z=>by
  haveI z:=(hh a).mp z
  rw [<-eF]at z
  refine ea1_2 (az.mp z) λx hx ex=>c8 (h.rt (B:=B) (e:=r) x hx) λd k q1 q2 q3=>?_
  cases d with
  |zero=>exact absurd (q3 rfl▸ex▸e) (h.top m)
  |succ d=>exact eO q2.2 λw hw hx _=>(hh m).mpr (h.nm m (ah ((nK hw.rd.pt hx).symm.trans (ex▸e))▸congrArg gc (yb hw.rd.pt)))
 refine q _ S' H' ⟨hs',iv.plain sp gd' up⟩ ?_ ((DC sp).trans (congrArg (aF _ _) F7))
 rw [sp.ev];exact aa (aq (ak _)) ln
theorem cl0{o₁ o₂:O}{all:List V}(kp:Kp (B++yS B.length v (ao v) o₁ o₂ 8) H)(hr:(B++yS B.length v (ao v) o₁ o₂ 8).length<=r)(hg:H[r]? =some (.list all)):Cl B (NL B.length r v all [] [] [(ao v,.none)] []) H:=by
 rw [af]at hr
 haveI g:∀{j:Nat} {o:O},(yS B.length v (ao v) o₁ o₂ 8)[j]? =some o->H[B.length+j]? =some o/\B.length<=B.length+j:=λ{j o} e=>⟨(kp.2 _ (by rw [af];exact l3 (ae.mp e).1 _)).trans (m6.trans e),ay _ _⟩
 refine⟨?_,dC (g (j:=0) rfl) (dC (g (j:=1) rfl) (dC (g (j:=4) rfl) (dC (g (j:=5) rfl) (dC (g (j:=6) rfl) (dC (g (j:=7) rfl) (dC (g (j:=8) rfl) (dC (g (j:=9) rfl) (dC (g (j:=10) rfl) (cW ⟨hg,aa (ay _ _) hr⟩))))))))),λa ha=>(kp.2 a (aJ ha fx)).trans (bf ha)⟩
 refine(?_:([0,1,4,5,6,7,8,9,10].map (B.length+·)++[r]).Nodup)
 refine bx.mpr ⟨l9.map _ (λa b (h:a≠b) e=>h (l4 e)) (by decide:([0,1,4,5,6,7,8,9,10]:List Nat).Nodup),bD.mpr ⟨br,cn⟩,λa ha b hb=>?_⟩
 refine ea1_2 (az.mp ha) λj hj e=>in1 hb▸e▸dm (aJ (l3 ?_ _) hr)
 exact(by decide:∀j∈([0,1,4,5,6,7,8,9,10]:List Nat),j<11) j hj
theorem f29(h:Plan π v)(q:∀e S H',At π (ym B v (fW 7 v) (ao v) e) S H'->S.ev.length<=60->xo S=aF ((nms 7 v).map .beg) (λ_=>[]) Gh->Q .none H'):aG PL (n+9) 29 [.ref (B.length+1),v] (B++[.ns [] [],.inst 0 B.length]) Q X:=by
 have nl:(fW 7 v).length<=60:=aa (aq ((ak ao).symm.trans (congrArg dU eF))) h.le
 refine cf wb rfl (uB (fo (ev_var rfl) (g6 (n:=n+5) (nq h.pt h.w h.nd h.le).1 (λz=>absurd (nq h.pt h.w h.nd h.le).2 z) λb o₁ o₂ e=>(e.mpr (nq h.pt h.w h.nd h.le).2:b=true).symm▸hE rfl ?_)))
 rw [a7]
 refine DQ h.pt ?_
 refine Ew (n:=n+7) (n0:=ao v) (λQ q=>fo (ev_var rfl) (f7 (n:=n+1) h.pt nl λr H kp hr hg=>q r H (cl0 kp hr hg) (aa fx kp.1))) (kh h.pt) (eF.symm▸h.nd) nl λr o qu H' c hq hb=>EL h c hq hb q
end
noncomputable def cA(i:Int):Char:=kU.getD i.toNat 'a'
def rI(s:Nm):Prop:=∀c∈s,c∈kU
theorem nL{i:Int}(h:0<=i/\i<26):kU[i.toNat]? =some (cA i):=by
 haveI l:i.toNat<kU.length:=show i.toNat<26 from(dJ h.1).mpr h.2
 unfold cA
 rw [cQ,aH l];rfl
theorem q9{i:Int}(h:0<=i/\i<26):rI [cA i]:=cW (aI (nL h))
theorem qA{i j:Int}(hi:0<=i/\i<26)(hj:0<=j/\j<26)(e:cA i=cA j):i=j:=by
 haveI l:i.toNat<kU.length:=show i.toNat<26 from(dJ hi.1).mpr hi.2
 haveI z:=(n6 l (by decide:kU.Nodup)).mp ((nL hi).trans ((congrArg some e).trans (nL hj).symm))
 rw [<-bt hi.1,<-bt hj.1,z]
theorem jE{s t:Nm}(h:rI s)(h':rI t):rI (s++t):=cM h h'
theorem lm{s:Nm}{a b:Nat}(h:rI s):rI (bq s a b):=λc hc=>h c (kO (CD hc))
theorem rc{s:Nm}{b:Nat}(h:b<=s.length):(bq s 0 b).length=b:=by
 unfold bq
 rw [tD,eV,Nat.min_eq_left h]
theorem sC{s:Nm}{a:Nat}:(bq s a s.length).length=s.length-a:=by
 unfold bq
 rw [dN,eV,Nat.min_self]
section
variable {P:Prog}{C:Calls}{ρ:Fm}{H:AH}{K:KS}{R:QE}{X:XE}{ss:List St}{m:Nat}{elt:Ex}{hd:Nm}
theorem nP{i:Int}(h:0<=i/\i<26):aU P false .item [.str kU,.int i] H=some (.str [cA i],H):=by
 show((sM 26 i).bind λk=>(kU[k]?).map λc=>V.str [c]).map _=_
 rw [show sM 26 i=some i.toNat from(if_pos h.1).trans (if_pos h.2)]
 show((kU[i.toNat]?).map _).map _=_
 rw [nL h];rfl
structure Nms(m:Nat)(f:Nat->Nm):Prop where
 ok:∀k,k<m->jT (f k)
 inj:∀j k,j<m->k<m->f j=f k->j=k
theorem nM{f:Nat->Nm}(hm:m<=60)(h1:ρ[1]? =some (some (.int m)))(he:∀k:Nat,k<m->Ev P C (ρ++[some (.int k)]) H X elt (.str (f k)))(ok:Nms m f)(q:∀f,Nms m f->R (.lst ((bo m).map λk=>.str (f k))) H):bh P C (.ret (.comp false elt (.prim false .range1 [.var 1]) none)::ss) ρ H K R X:=
 ev_ret (gT (l:=bo m) (f:=λk:Nat=>V.int k) (g:=λk=>V.str (f k)) (bw (ev_var h1) (fM (BC (aa hm (by decide))))) (congrArg some ((show iz 0 m=iz (0:Nat) m from rfl).trans (kQ.trans (by rw [bp,jX];exact de λk _=>congrArg (λj:Nat=>V.int j) (eW k))))) (by rw [cj];exact aa hm (by decide)) λk hk=>he k (cb.mp hk)) (q f ok)
theorem uS{s:Nm}{k:Nat}(h:rI s)(e:s.length=k+1)(hk:k<8):jT s:=⟨e▸ax (aM k),e▸hk,h⟩
end
section
variable {n:Nat}{H:AH}{K:KS}{R:QE}{X:XE}{m:Nat}{hd:Nm}{c:Int}
theorem ok3{l r:Nm}{x:Char}(hl:rI l)(hr:rI r)(hx:rI [x])(h:l.length+r.length<=6):jT (l++[x]++r):=⟨by rw [af,af];exact aa (bP 1 l.length) (ay _ _),by rw [af,af,bg];exact aa (ax h) (by decide),jE (jE hl hx) hr⟩
theorem n7{a:Int}{j k:Nat}(hj:j<26)(hk:k<26)(h:(a+7*j)%26=(a+7*k)%26):j=k:=(by decide:∀j<26,∀k<26,7*j%26=7*k%26->j=k) j hj k hk (fh (Int.emod_add_cancel_left.mp h))
theorem n26{j k:Nat}(h1:(j:Int)/26=k/26)(h2:(j:Int)%26=k%26):j=k:=(Nat.div_add_mod j 26).symm.trans ((congrArg (26*·+j%26) (fh h1)).trans ((congrArg (26*(k/26)+·) (fh h2)).trans (Nat.div_add_mod k 26)))
theorem Fg{k m:Nat}(h:k<m)(hm:m<=60):0<=(k:Int)/26/\(k:Int)/26<26:=⟨bH (k/26),(bZ (n:=k/26) (m:=26)).mpr (Nat.div_lt_of_lt_mul (aJ h (aa hm (by decide))))⟩
theorem Gp{r5 r7 r8:Option V}{w rs:Int}(hm:m<=60)(hh:hd.length<=6)(ha:rI hd)(q:∀f,Nms m f->R (.lst ((bo m).map λk=>.str (f k))) H) :
  bh PL (aG PL n) (A7.body.drop 8) [some (.int c),some (.int m),some (.str kU),some (.str hd),some (.int rs),r5,some (.int w),r7,r8] H K R X:=by
 haveI hs:hd.length<=au:=aa hh (by decide)
 refine cr (cI (ev_p2 (ev_var rfl) ai i7) λ_=>ev_p2 (ev_var rfl) ai i7) (λh=>?_) λ_=>?_
 ·haveI hm':m<27:=bZ.mp (of_decide_eq_true (aj.mp h).2)
  refine bL (fc (ev_var rfl) ai (ev_p2 (ev_p2 (ev_var rfl) ai (cN (by decide) (by decide))) (ev_p2 (bw (ev_var rfl) iG) ai dT) (cT (Int.lt_add_one_of_le (bH _)))) (n2 hs)) (cz rfl) ?_
  refine bL (fc (ev_var rfl) (bw (ev_var rfl) iG) ai (lf hs)) (cz rfl) ?_
  generalize hL:bq hd 0 _=L
  generalize hR:bq hd _ _=T
  haveI hLT:L.length+T.length<=6:=by
   have e:L.length<=hd.length:=by rw [<-hL];unfold bq;rw [tD,eV];exact jq _ _
   have e2:T.length=hd.length-L.length:=by rw [<-hR,ii e];exact sC
   exact aa (aq ((congrArg (L.length+·) e2).trans (gK e))) hh
  haveI hLa:rI L:=hL▸lm ha
  haveI hTa:rI T:=hR▸lm ha
  haveI h26:∀k:Nat,0<=(c/7+7*(k:Int))%26/\(c/7+7*(k:Int))%26<26:=λk=>ja (by decide)
  refine nM (f:=λk=>L++[cA ((c/7+7*(k:Int))%26)]++T) hm rfl (λk hk=>?_) ⟨λk _=>ok3 hLa hTa (q9 (h26 k)) hLT,λj k hj hk e=>n7 (aJ hj (cP hm')) (aJ hk (cP hm')) (qA (h26 j) (h26 k) (gf (wV (List.append_cancel_right e))).1)⟩ q
  refine ev_p2 (ev_p2 (ev_var rfl) (ev_p2 (ev_var rfl) (ev_p2 (ev_p2 (ev_p2 (ev_var rfl) ai (cN (by decide) (by decide))) (ev_p2 ai (ev_var rfl) (wx (by decide) (BC (aa (gY hk) (aa hm (by decide)))))) dT) ai (cT (by decide))) (nP (h26 k))) (fV ?_)) (ev_var rfl) (fV ?_)
  ·exact aa (ax (aa (ay _ _) hLT)) (by decide)
  ·rw [af,bg];exact aa (ax hLT) (by decide)
 ·haveI h26:∀k:Nat,0<=(k:Int)%26/\(k:Int)%26<26:=λk=>ja (by decide)
  refine nM (f:=λk=>hd++[cA ((k:Int)/26)]++[cA ((k:Int)%26)]) hm rfl (λk hk=>?_) ⟨λk hk=>?_,λj k hj hk e=>?_⟩ q
  ·refine ev_p2 (ev_p2 (ev_var rfl) (ev_p2 (ev_var rfl) (ev_p2 (ev_var rfl) ai (cN (by decide) (by decide))) (nP (Fg hk hm))) (fV ?_)) (ev_p2 (ev_var rfl) (ev_p2 (ev_var rfl) ai (cT (by decide))) (nP (h26 k))) (fV ?_)
   ·exact aa (ax hh) (by decide)
   ·rw [af];exact aa (ax (ax hh)) (by decide)
  ·exact ⟨by rw [af];exact bP 1 _,by rw [af,af];exact ax (ax hh),jE (jE ha (q9 (Fg hk hm))) (q9 (h26 k))⟩
  ·haveI z:=List.append_inj' e rfl
   exact n26 (qA (Fg hj hm) (Fg hk hm) (gf (wV z.1)).1) (qA (h26 j) (h26 k) (gf z.2).1)
end
section
variable {n:Nat}{H:AH}{K:KS}{Q:QE}{X:XE}{m:Nat}{c:Int}
def NH(H0:AH)(c:Int)(m:Nat)(its:List Int)(ρ:Fm)(H:AH):Prop:=∃hd rs o,H=H0/\ρ=[some (.int c),some (.int m),some (.str kU),some (.str hd),some (.int rs),o,none,none,none]/\hd.length+its.length=8/\rI hd
theorem n9{c d:Int}{m:Nat}(h:(fN (.int c) (.int d)&&decide ((m:Int)<9))=true):m<=8:=cP (bZ.mp (of_decide_eq_true (aj.mp h).2))
theorem f12(hm:m<=60)(q:∀f,Nms m f->Q (.lst ((bo m).map λk=>.str (f k))) H):aG PL (n+1) 11 [.int c,.int m] H Q X:=by
 refine cf Bg rfl (bL ai (cz rfl) (bL ai (cz rfl) (bL (ev_p2 (ev_var rfl) ai (cN (by decide) (by decide))) (cz rfl) (kW (NH H c m) (f:=V.int) (l:=[0,1,2,3,4,5,6,7]) (v:=.rng 0 8) (bw ai (fM ⟨by decide,by decide⟩)) (λ_ _ _ _=>rfl) (by decide) ⟨[],_,none,rfl,rfl,rfl,n8⟩ (λx xs ρ' H' hI K' hK=>mJ hI λhd rs o e0 e hl ha=>?_) λρ' H' hI=>mJ hI λhd rs o e0 e hl ha=>?_))))
 ·subst e e0
  haveI h:=ja (a:=rs) (b:=26) (by decide)
  refine bL (ev_p2 (ev_var rfl) (ev_p2 (ev_var rfl) (ev_p2 (ev_var rfl) ai (cT (by decide))) (nP h)) (fV ?_)) (cz rfl) (bL (ev_p2 (ev_var rfl) ai (cN (by decide) (by decide))) (cz rfl) (hK _ _ ⟨_,_,_,rfl,rfl,?_,jE ha (q9 h)⟩))
  ·exact aa (ax (aa (ay _ _) (aq hl))) (by decide)
  ·rw [af,cK,dq _ xs.length];exact hl
 ·subst e e0
  haveI hl:hd.length=8:=hl
  haveI hs:hd.length<=au:=aa (aq hl) (by decide)
  refine bL (ev_p2 (ev_var rfl) ai (cT (by decide))) (cz rfl) (cr (cI (ev_p2 (ev_var rfl) ai (eD b9 b9)) λ_=>ev_p2 (ev_var rfl) ai i7) (λh=>?_) λ_=>cr (cI (ev_p2 (ev_var rfl) ai (eD b9 b9)) λ_=>ev_p2 (ev_var rfl) ai i7) (λh=>?_) λ_=>?_)
  ·have h8:∀{k},k<m->k+1<=hd.length:=λhk=>hl▸aa hk (n9 h)
   have e:∀{k},k<m->(bq hd 0 (k+1)).length=k+1:=λhk=>rc (h8 hk)
   exact nM (f:=λk=>bq hd 0 (k+1)) hm rfl (λk hk=>fc (ev_var rfl) ai (ev_p2 (ev_var rfl) ai dT) ((n2 hs).trans (congrArg (λt=>some (V.str (bq hd 0 t),H')) (ii (j:=k+1) (h8 hk))))) ⟨λk hk=>uS (lm ha) (e hk) (aa hk (n9 h)),λj k hj hk z=>dk ((e hj).symm.trans ((congrArg dU z).trans (e hk)))⟩ q
  ·have hk8:m<=8:=n9 h
   have e0:∀{k},k<m->8-(7-k)=k+1:=λhk=>(Nat.succ_sub (db 7 _)).trans (congrArg tC (Nat.sub_sub_self (cP (aa hk hk8))))
   have e:∀{k},k<m->(bq hd (7-k) hd.length).length=k+1:=λhk=>sC.trans (hl.symm▸e0 hk)
   refine nM (f:=λk=>bq hd (7-k) hd.length) hm rfl (λk hk=>fc (ev_var rfl) (ev_p2 ai (ev_var rfl) nw) ai ((lf hs).trans (congrArg (λt=>some (V.str (bq hd t hd.length),H')) ?_))) ⟨λk hk=>uS (lm ha) (e hk) (aa hk hk8),λj k hj hk z=>dk ((e hj).symm.trans ((congrArg dU z).trans (e hk)))⟩ q
   rw [show(7:Int)-k=((7-k:Nat):Int)from(wM (cP (aa hk hk8))).symm]
   exact ii (hl▸aa (db _ _) (by decide))
  ·haveI h7:=ja (a:=c/6) (b:=7) (by decide)
   refine bL (fc (ev_var rfl) ai (ev_p2 (ev_p2 (ev_var rfl) ai (cN (by decide) (by decide))) ai (cT (by decide))) (n2 hs)) (cz rfl) (Gp hm ?_ (lm ha) q)
   haveI h6:(c/6%7).toNat<=6:=cP ((dJ h7.1).mpr h7.2)
   rw [<-bt h7.1,ii (hl.symm▸aa h6 (by decide)),rc (hl.symm▸aa h6 (by decide))]
   exact h6
end
set_option genInjectivity false in
structure Nd where
 d:Nat
 a:Nat
 up:Int
 w:Bool
 deep:Nat
 inner:List Nat
 cell:Int
noncomputable def rA:List Nm:=[['u','p'],['w','a','r','d','e','n'],['d','e','e','p'],['i','n','n','e','r'],['c','e','l','l']]
noncomputable def rn(x:Nd):List V:=[.int x.up,.bool x.w,.int x.deep,.ref x.a,.int x.cell]
noncomputable def iN(x:Nd):O:=.list (x.inner.map ni)
noncomputable def Cj(x:Nd):List (Nat×O):=[(x.a,iN x),(x.d,.dict rA (rn x))]
noncomputable def LN(r:Nat)(ns:List Nd):List (Nat×O):=(r,.list (ns.map λx=>.ref x.d))::ns.flatMap Cj
def GN(r:Nat)(ns:List Nd)(H:AH):Prop:=∀p∈LN r ns,H[p.1]? =some p.2
section
variable {P:Prog}{C:Calls}{ρ:Fm}{B H:AH}{K:KS}{R:QE}{X:XE}{ss:List St}{r i j k:Nat}{ns:List Nd}{x:Nd}{key:Nm}{v:V}
theorem Cl.gn(c:Cl B (LN r ns) H):GN r ns H:=λp hp=>(c.cell p hp).1
theorem GN.row(g:GN r ns H):H[r]? =some (.list (ns.map λx=>.ref x.d)):=g _ (.head _)
theorem GN.inn(g:GN r ns H)(hj:ns[j]? =some x):H[x.a]? =some (iN x):=g _ (.tail _ (bE.mpr ⟨x,aI hj,.head _⟩))
theorem GN.dic(g:GN r ns H)(hj:ns[j]? =some x):H[x.d]? =some (.dict rA (rn x)):=g _ (.tail _ (bE.mpr ⟨x,aI hj,.tail _ (.head _)⟩))
theorem t4{vs:List V}(h:H[r]? =some (.list vs))(hj:vs[j]? =some v):aU P false .item [.ref r,.int j] H=some (v,H):=by
 show((H[r]?.bind O.lst).bind λvs=>(sM vs.length j).bind λj=>vs[j]?).map _=_
 rw [h]
 show((sM vs.length j).bind λj=>vs[j]?).map _=_
 rw [rQ (ae.mp hj).1]
 exact congrArg (ba _) hj
theorem Dn(g:GN r ns H)(hj:ns[j]? =some x)(h:ρ[i]? =some (some (.ref r)))(hk:ρ[k]? =some (some (.int j))):Ev P C ρ H X (.prim false .item [.var i,.var k]) (.ref x.d):=
 ev_p2 (ev_var h) (ev_var hk) (t4 g.row (by rw [aZ,hj];rfl))
theorem g8(g:GN r ns H)(hj:ns[j]? =some x)(h:ρ[i]? =some (some (.ref r)))(hk:ρ[k]? =some (some (.int j)))(e:eS key rA (rn x)=some v):Ev P C ρ H X (.prim false .item [.prim false .item [.var i,.var k],.cst (.str key)]) v:=
 ev_p2 (Dn g hj h hk) ai (m8 (g.dic hj) e)
theorem k9(g:GN r ns H)(h:ρ[i]? =some (some (.ref r))):Ev P C ρ H X (.prim false .len [.var i]) (ni ns.length):=ca (bw (ev_var h) (jN g.row)) (congrArg ni (ak _))
theorem si{a b c e:Ex}{u z:Int}{t:Bool}{dp:Nat}(ha:Ev P C ρ H X a (.int u))(hb:Ev P C ρ H X b (.bool t))(hc:Ev P C ρ H X c (.int dp))(he:Ev P C ρ (H++[.list []]) X e (.int z))(q:R (.ref (H.length+1)) (H++[.list []]++[.dict rA (rn ⟨H.length+1,H.length,u,t,dp,[],z⟩)])) :
  cH P C (.prim true (.mkdict rA) [a,b,c,.prim true .mklist [],e]) ρ H R X:=
 ha _ (hb _ (hc _ (jf (he _ (hE rfl ((congrArg V.ref (af (as:=H) (bs:=[O.list []]))).symm▸q):gi (aU P true (.mkdict rA) (rn ⟨H.length+1,H.length,u,t,dp,[],z⟩) (H++[.list []])) R)))))
theorem A8{y:Nd}:∀{ns:List Nd} {u:Nat} {x:Nd},ns[u]? =some x->y.a=x.a/\y.d=x.d/\rn y=rn x->(ns.flatMap Cj).set (2*u) (x.a,iN y)=(ns.set u y).flatMap Cj:=by
 intro ns
 induction ns with
 |nil=>exact λh=>nomatch h
 |cons z ns ih=>
  intro u x h e
  cases u with
  |zero=>
   haveI h:z=x:=ah h
   subst h
   refine(?_:(z.a,iN y)::(z.d,.dict rA (rn z))::ns.flatMap Cj=(y.a,iN y)::(y.d,.dict rA (rn y))::ns.flatMap Cj)
   rw [e.1,e.2.1,e.2.2]
  |succ u=>exact congrArg (λt=>(z.a,iN z)::(z.d,O.dict rA (rn z))::t) (ih (u:=u) h e)
theorem Cm:∀{ns:List Nd} {u:Nat} {x:Nd},ns[u]? =some x->(ns.flatMap Cj)[2*u]? =some (x.a,iN x):=by
 intro ns
 induction ns with
 |nil=>exact λh=>nomatch h
 |cons z ns ih=>
  intro u x h
  cases u with
  |zero=>exact congrArg (λz=>some (z.a,iN z)) (ah h)
  |succ u=>exact ih (u:=u) h
noncomputable def pH(y:Nd)(n:Nat):Nd:={y with inner:=y.inner++[n]}
theorem Br{u:Nat}{y:Nd}{m:Nat}(h:ns[u]? =some y):(ns.set u (pH y m)).map (λx=>V.ref x.d)=ns.map λx=>V.ref x.d:=by
 rw [ze]
 refine iS λl=>?_
 rw [eH]
 by_cases q:u=l
 ·subst q
  rw [if_pos rfl,aZ,h]
  exact if_pos (by rw [ak];exact(ae.mp h).1)
 ·rw [if_neg q]
theorem Cl.push{u:Nat}{y:Nd}(c:Cl B (LN r ns) H)(h:ns[u]? =some y)(m:Nat):Cl B (LN r (ns.set u (pH y m))) (H.set y.a (.list (y.inner.map ni++[ni m]))):=by
 haveI z:=c.set (2*u+1) (a:=y.a) (o':=iN (pH y m)) (Cm h)
 unfold LN
 rw [Br h,<-A8 (y:=pH y m) h ⟨rfl,rfl,rfl⟩,show O.list (y.inner.map ni++[ni m])=iN (pH y m)from congrArg O.list (aO (f:=ni) (l₁:=y.inner) (l₂:=[m])).symm]
 exact z
theorem vR{e1 e2 e5:Ex}{u:Nat}{y:Nd}{z:Int}{t:Bool}(c:Cl B (LN r ns) H)(hb:B.length<=H.length)(hu:ns[u]? =some y)(hl:ns.length<=60)(hil:y.inner.length<=60)(h2:ρ[2]? =some (some (.ref r)))(hi:ρ[i]? =some (some (.int u)))(h8:8<ρ.length)(hi8:i≠8)
  (h1:∀H,Ev P C (ρ.set 8 (some (ni (y.deep+1)))) H X e1 (.int u))(h3:∀H,Ev P C (ρ.set 8 (some (ni (y.deep+1)))) H X e2 (.bool t))(h5:∀H,GN r (ns.set u (pH y ns.length)) H->Ev P C (ρ.set 8 (some (ni (y.deep+1)))) H X e5 (.int z))
  (q:∀d a H',Cl B (LN r (ns.set u (pH y ns.length)++[⟨d,a,u,t,y.deep+1,[],z⟩])) H'->B.length<=H'.length->bh P C ss (ρ.set 8 (some (ni (y.deep+1)))) H' K R X) :
  bh P C (.expr (.mcall .list false .append (.prim false .item [.prim false .item [.var 2,.var i],.cst (.str ['i','n','n','e','r'])]) [.prim false .len [.var 2]])::
   .asg 8 (.prim false (.bop .add) [.prim false .item [.prim false .item [.var 2,.var i],.cst (.str ['d','e','e','p'])],.cst (.int 1)])::
   .expr (.mcall .list false .append (.var 2) [.prim true (.mkdict rA) [e1,e2,.var 8,.prim true .mklist [],e5]])::ss) ρ H K R X:=by
 have sz:∀{j:Nat},j<=60->j<=au:=λh=>aa h (by decide)
 have g:=c.gn
 refine ly (g8 g hu h2 hi rfl) (dX (g.inn hu)) (k9 g h2) (hE (fe (g.inn hu) (aa (aq (ak _)) (sz hil))) ?_)
 have c1:=c.push hu ns.length
 have hu1:(ns.set u (pH y ns.length))[u]? =some (pH y ns.length):=bv (ae.mp hu).1
 refine bL (v:=ni (y.deep+1)) (ev_p2 (g8 c1.gn hu1 h2 hi rfl) ai dT) h8 ?_
 haveI h2':(ρ.set 8 (some (ni (y.deep+1))))[2]? =some (some (.ref r)):=(bn (by decide)).trans h2
 have hb1:=aa hb (aq (aC (as:=H) (i:=y.a) (a:=O.list (y.inner.map ni++[ni ns.length]))).symm)
 haveI c2:=c1.new (.list []) hb1
 haveI c3:=c2.new (.dict rA (rn ⟨(H.set y.a (.list (y.inner.map ni++[ni ns.length]))).length+1,(H.set y.a (.list (y.inner.map ni++[ni ns.length]))).length,u,t,y.deep+1,[],z⟩)) (aa hb1 fx)
 refine st_expr (pd (ev_var h2') (dX c1.gn.row) (si (h1 _) (h3 _) (ev_var (bv h8)) (h5 _ λp hp=>da (c1.gn p hp)) (hE (fe (c3.get 0 rfl) ?_) ?_)))
 ·rw [ak,aC];exact sz hl
 ·refine q ((H.set y.a (.list (y.inner.map ni++[ni ns.length]))).length+1) (H.set y.a (.list (y.inner.map ni++[ni ns.length]))).length _ ?_ (aa hb1 (aa fx (aa fx (aq aC.symm))))
  haveI c4:=c3.set 0 (o':=.list ((ns.set u (pH y ns.length)).map (λx=>.ref x.d)++[.ref ((H.set y.a (.list (y.inner.map ni++[ni ns.length]))).length+1)])) rfl
  haveI e:∀{x:Nd} {l:List Nd} {o:O},LN r (l++[x])=(r,.list (l.map (λx=>.ref x.d)++[.ref x.d]))::(l.flatMap Cj++[(x.a,iN x)]++[(x.d,.dict rA (rn x))]):=λ{x l o}=>by
   unfold LN
   rw [aO,bl,a7];rfl
  rw [e (o:=.list [])]
  rw [show(H.set y.a (.list (y.inner.map ni++[ni ns.length]))++[O.list []]).length=(H.set y.a (.list (y.inner.map ni++[ni ns.length]))).length+1 from af]at c4
  exact c4
end
structure Lim(y:Nd):Prop where
 le:y.inner.length<=8
 nd:y.inner.Nodup
 dp:y.deep<=if y.w=true then 6 else 7
 wk:y.w=false->y.inner=[]
structure Tr(ns:List Nd):Prop where
 top:∃x,ns[0]? =some x/\x.w=true/\x.deep=1
 tup:∀(i:Nat) (x:Nd),ns[i]? =some x->i=0->x.up=-1
 up:∀(i:Nat) (x:Nd),ns[i]? =some x->0<i->∃(j:Nat) (y:Nd),ns[j]? =some y/\j<i/\x.up=j/\i∈y.inner
 inn:∀(j:Nat) (y:Nd),ns[j]? =some y->∀i∈y.inner,∃x,ns[i]? =some x/\j<i/\x.up=j/\x.deep=y.deep+1
 lim:∀(j:Nat) (y:Nd),ns[j]? =some y->Lim y
section
variable {ns:List Nd}{u i:Nat}{x y z:Nd}
noncomputable def qa(u n i:Nat)(x:Nd):Nd:=if i=u then pH x n else x
theorem gW{F:Nd->Prop}(h:F x)(h':∀l,F {x with inner:=l}){n:Nat}:F (qa u n i x):=by
 unfold qa
 by_cases e:i=u
 ·rw [if_pos e];exact h' _
 ·rw [if_neg e];exact h
theorem sh{n k:Nat}(h:k∈x.inner):k∈(qa u n i x).inner:=by
 unfold qa
 by_cases e:i=u
 ·rw [if_pos e];exact aP _ h
 ·rw [if_neg e];exact h
theorem jU(hu:ns[u]? =some y)(h:ns[i]? =some x):(ns.set u (pH y ns.length)++[z])[i]? =some (qa u ns.length i x):=by
 haveI l:=(ae.mp h).1
 rw [bf (aC.symm▸l),eH]
 unfold qa
 by_cases e:u=i
 ·subst e
  rw [if_pos rfl,if_pos l,if_pos rfl,ah (hu.symm.trans h)]
 ·rw [if_neg e,if_neg (Ne.symm e)];exact h
theorem sx:(ns.set u (pH y ns.length)++[z])[ns.length]? =some z:=by
 haveI:=cG (l:=ns.set u (pH y ns.length)) (a:=z)
 rw [aC]at this
 exact this
theorem jz{F:Nat->Nd->Prop}(hu:ns[u]? =some y)(hz:F ns.length z)(ho:∀(i:Nat) (x:Nd),ns[i]? =some x->F i (qa u ns.length i x)):∀(i:Nat) (x:Nd),(ns.set u (pH y ns.length)++[z])[i]? =some x->F i x:=by
 intro i x h
 haveI l:=(ae.mp h).1
 rw [af,aC]at l
 by_cases e:i=ns.length
 ·subst e
  exact ah (sx.symm.trans h)▸hz
 ·have l:i<ns.length:=E8 (cP l) e
  haveI h':=aH l
  exact ah ((jU hu h').symm.trans h)▸ho i _ h'
theorem Tr.add(T:Tr ns)(hu:ns[u]? =some y)(hy:y.w=true)(hl:y.inner.length<8)(hz:z.up=u/\z.deep=y.deep+1/\z.inner=[]/\(z.w=true->y.deep<6)):Tr (ns.set u (pH y ns.length)++[z]) where
 top:=eO T.top λx h0 hw hd=>⟨_,jU hu h0,gW (F:=λx=>x.w=true) hw λ_=>hw,gW (F:=λx=>x.deep=1) hd λ_=>hd⟩
 tup:=jz hu (λz=>absurd (z▸(ae.mp hu).1) (Nat.not_lt_zero u)) λi x h z=>gW (F:=λx=>x.up=-1) (T.tup i x h z) λ_=>T.tup i x h z
 up:=jz hu (λ_=>⟨u,_,jU hu hu,(ae.mp hu).1,hz.1,by unfold qa;rw [if_pos rfl];exact aB _ (.head _)⟩) λi x h hi=>jS (T.up i x h hi) λj w hj hji e hm=>⟨j,_,jU hu hj,hji,gW (F:=λx=>x.up=j) e λ_=>e,sh hm⟩
 inn:=jz hu (hz.2.2.1.symm▸n8) λj w h k hk=>by
  have old:k∈w.inner->∃x,(ns.set u (pH y ns.length)++[z])[k]? =some x/\j<k/\x.up=j/\x.deep=(qa u ns.length j w).deep+1:=λhk=>dh (T.inn j w h k hk) λx hx l e d=>⟨_,jU hu hx,l,gW (F:=λx=>x.up=j) e λ_=>e,gW (F:=λt=>(qa u ns.length k x).deep=t.deep+1) (gW (F:=λx=>x.deep=w.deep+1) d λ_=>d) λ_=>gW (F:=λx=>x.deep=w.deep+1) d λ_=>d⟩
  by_cases e:j=u
  ·subst e
   haveI ew:=ah (hu.symm.trans h)
   subst ew
   unfold qa at hk
   rw [if_pos rfl]at hk
   refine(ct.mp hk).elim old λhk=>⟨z,by rw [in1 hk];exact sx,in1 hk▸(ae.mp hu).1,hz.1,?_⟩
   unfold qa
   rw [if_pos rfl];exact hz.2.1
  ·unfold qa at hk
   rw [if_neg e]at hk
   exact old hk
 lim:=jz hu ⟨hz.2.2.1.symm▸aM _,hz.2.2.1.symm▸cn,by
   haveI d:=(T.lim u y hu).dp
   rw [hy,if_pos rfl]at d
   rw [hz.2.1]
   by_cases e:z.w=true
   ·rw [if_pos e];exact hz.2.2.2 e
   ·rw [if_neg e];exact ax d,λ_=>hz.2.2.1⟩ λj w h=>by
  have L:=T.lim j w h
  unfold qa
  by_cases e:j=u
  ·subst e
   have ew:=ah (hu.symm.trans h)
   subst ew
   rw [if_pos rfl]
   refine⟨by show(y.inner++[ns.length]).length<=8;rw [af];exact hl,bx.mpr ⟨L.nd,bD.mpr ⟨br,cn⟩,λa ha b hb=>?_⟩,L.dp,λq=>absurd (hy.symm.trans q) eX⟩
   exact in1 hb▸dh (T.inn _ _ hu a ha) λx hx _ _ _=>dm (ae.mp hx).1
  ·rw [if_neg e];exact L
end
noncomputable def stB:St->List St
 |.forIn _ _ _ b=>b
 |_=>[]
section
variable {n:Nat}{B H:AH}{K:KS}{Q:QE}{X:XE}{zs:List Int}{m r:Nat}{ns:List Nd}
theorem CE{i:Int}(h:0<=i)(q:Q (.int (zs.getD i.toNat 0)) H):aG PL (n+1) 9 [.lst (zs.map V.int),.int i] H Q X:=by
 refine cf DF rfl (cr (ev_p2 (ev_var rfl) (bw (ev_var rfl) sA) i7) (λhd=>?_) λhd=>?_)
 ·have hl:i.toNat<zs.length:=(dJ h).mpr (ak V.int▸of_decide_eq_true hd)
  have e:(zs.map V.int)[i.toNat]? =some (.int (zs.getD i.toNat 0)):=by rw [aZ,cQ,aH hl];rfl
  refine ev_ret (ev_p2 (ev_var rfl) (ev_var rfl) ?_) q
  haveI z:=ik (P:=PL) (H:=H) e
  rw [bt h]at z
  exact z
 ·haveI hd:=cg.mp (of_decide_eq_false hd)
  rw [ak,<-bt h]at hd
  have hl:zs.length<=i.toNat:=aX.mp hd
  rw [cQ,List.getElem?_eq_none hl]at q
  exact ev_ret ai q
noncomputable def Ej(zs:List Int)(m r:Nat)(o:Nat->Option V):Fm:=[some (.lst (zs.map V.int)),some (ni m),some (.ref r),o 3,o 4,o 5,o 6,o 7,o 8]
theorem kf{a b c d e f:Option V}:∃o,[some (.lst (zs.map V.int)),some (ni m),some (.ref r),a,b,c,d,e,f]=Ej zs m r o:=⟨λi=>([a,b,c,d,e,f][i-3]?).join,rfl⟩
def NI1(B:AH)(zs:List Int)(m r:Nat)(its:List Nat)(ρ:Fm)(H:AH):Prop:=∃ns,(∃o,ρ=Ej zs m r o)/\Cl B (LN r ns) H/\Tr ns/\(ns.length+its.length<=m/\B.length<=H.length)/\∀j∈its,j<=60
noncomputable def DP(ns:List Nd)(j:Nat):Bool:=(ns[j]?).any λx=>x.w&&decide ((x.inner.length:Int)<8)
theorem B8{u:Nat}(h:u∈(bo ns.length).filter (DP ns)):∃y,ns[u]? =some y/\y.w=true/\y.inner.length<8:=by
 have h1:=List.mem_filter.mp h
 haveI e:=aH (cb.mp h1.1)
 haveI h2:=h1.2
 unfold DP at h2
 rw [e]at h2
 haveI h2:=aj.mp h2
 exact⟨_,e,h2.1,bZ.mp (of_decide_eq_true h2.2)⟩
theorem yq{P:Prog}{l:List Nat}{z:Int}(h:l≠[]):∃w,w∈l/\aU P false .item [.lst (l.map ni),.int (z%((l.map ni).length:Int))] H=some (ni w,H):=by
 haveI hp:0<((l.map ni).length:Int):=by rw [ak];exact bZ.mpr (l5.mpr h)
 exact ea1_2 (x6 (P:=P) (H:=H) (ja (a:=z) hp).1 (ja (a:=z) hp).2) λv hv e=>ea1_2 (az.mp hv) λw hw ew=>⟨w,hw,ew▸e⟩
theorem zl{l:List Nat}:(!fN (.lst (l.map ni)) (.lst []))=true->l≠[]:=λh e=>by subst e;exact absurd h ag
theorem n12{k:Nat}(h:k<=60):-10 ^ 12<=(k:Int)/10/\(k:Int)/10<=10 ^ 12:=BC (m:=k/10) (aa (Nat.div_le_self _ _) (aa h (by decide)))
theorem n13{a b m:Nat}(h:a+(b+1)<=m):a+1+b<=m/\a+b<=m/\a<=m:=⟨bg a b 1▸h,iT h,aa (ay a _) h⟩
theorem DL{k:Nat}{its:List Nat}{o:Nat->Option V}{K':KS}(hm:m<=30)(c:Cl B (LN r ns) H)(T:Tr ns)(hl:ns.length+(its.length+1)<=m)(hb:B.length<=H.length)(hk:k<=60)(hj:∀j∈its,j<=60)(hK:∀ρ'' H'',NI1 B zs m r its ρ'' H''->K' ρ'' H'') :
  bh PL (aG PL (n+1)) (stB (xJ.body.getD 1 .pass)) ((Ej zs m r o).set 3 (some (ni k))) H K' Q X:=by
 have g:=c.gn
 haveI hl':=n13 hl
 refine bL (ev_p2 (fk (ev_var rfl) (ev_p2 ai (ev_p2 (ev_var rfl) ai (cT (by decide))) dT) λQ q=>CE (kP (by decide) (ja (by decide)).1) q) (ev_p2 ai (ev_p2 (ev_var rfl) ai (cN (by decide) (by decide))) (wx (by decide) (n12 hk))) dT) (cz rfl) ?_
 generalize zs.getD _ 0+11*((k:Int)/10)=z
 refine bL (v:=.lst (((bo ns.length).filter (DP ns)).map ni)) (io (l:=bo ns.length) (f:=ni) (g:=ni) (p:=DP ns) (bw (k9 g rfl) (fM (BC (aa hl'.2.2 (aa hm (by decide)))))) ?_ ?_ (λj hj=>?_) λj _ _=>ev_var rfl) (cz rfl) ?_
 ·exact congrArg some ((rfl:iz 0 ns.length=iz (0:Nat) ns.length).trans (kQ.trans (by rw [bp,jX];exact de λk _=>congrArg ni (eW k))))
 ·rw [cj];exact aa hl'.2.2 (aa hm (by decide))
 ·haveI e:=aH (cb.mp hj)
  refine ca (cI (g8 g e rfl rfl rfl) λ_=>ev_p2 (bw (g8 g e rfl rfl rfl) (jN (g.inn e))) ai i7) ?_
  unfold DP
  rw [e,ak];rfl
 refine cr (ev_p2 (ev_var rfl) (a9 rfl) (fE (uE (f:=ni) λ_=>trivial) ff)) (λhn=>?_) λ_=>hK _ _ ⟨ns,kf,c,T,⟨hl'.2.1,hb⟩,hj⟩
 refine ea1_2 (yq (P:=PL) (H:=H) (z:=z/4) (zl hn)) λu hu eu=>eO (B8 hu) λy hy hw h8=>?_
 refine bL (ev_p2 (ev_var rfl) (ev_p2 (ev_p2 (ev_var rfl) ai (cN (by decide) (by decide))) (bw (ev_var rfl) sA) (cT ?_)) eu) (cz rfl) ?_
 ·rw [ak];exact bZ.mpr (l5.mpr (zl hn))
 refine bL (cI (ev_p2 (ev_p2 (ev_var rfl) ai (cT (by decide))) ai (eD b9 b9)) λ_=>ev_p2 (g8 g hy rfl rfl rfl) ai i7) (cz rfl) ?_
 refine vR c hb hy (aa hl'.2.2 (aa hm (by decide))) (aa (gY h8) (by decide)) rfl rfl (cz rfl) (by decide) (λ_=>ev_var rfl) (λ_=>ev_var rfl) (λ_ _=>ev_p2 (ev_var rfl) ai (cN (by decide) (by decide))) λd a H' c' hb'=>hK _ _ ⟨_,kf,c',T.add hy hw h8 ⟨rfl,rfl,rfl,λht=>bZ.mp (of_decide_eq_true (aj.mp ht).2)⟩,⟨?_,hb'⟩,hj⟩
 rw [af,aC];exact hl'.1
end
theorem zt{α0:Type}{A0 A1 A2 A3 A4 A5:α0->Prop}{G:Prop}(h:∃a0,A0 a0/\A1 a0/\A2 a0/\A3 a0/\A4 a0/\A5 a0)(k:∀a0,A0 a0->A1 a0->A2 a0->A3 a0->A4 a0->A5 a0->G):G:=h.elim λa0 h=>k a0 h.1 h.2.1 h.2.2.1 h.2.2.2.1 h.2.2.2.2.1 h.2.2.2.2.2
theorem sF{l:List V}(h:fN (.lst l) (.lst [])=true):l=[]:=by
 cases l with
 |nil=>rfl
 |cons _ _=>exact absurd h ag
section
variable {n:Nat}{B H:AH}{K:KS}{Q:QE}{X:XE}{zs:List Int}{m r:Nat}{ns:List Nd}
theorem uX{m:Nat}:iz 0 m=(bo m).map ni:=(show iz 0 m=iz (0:Nat) m from rfl).trans (kQ.trans (by rw [bp,jX];exact de λk _=>congrArg ni (eW k)))
def Emp(ns:List Nd)(its:List Nat):Prop:=∀(i:Nat) (x:Nd),ns[i]? =some x->x.w=true->x.inner≠[]\/i∈its
def NI2(B:AH)(zs:List Int)(m r:Nat)(its:List Nat)(ρ:Fm)(H:AH):Prop:=∃ns,(∃o,ρ=Ej zs m r o)/\Cl B (LN r ns) H/\Tr ns/\(ns.length+its.length<=60/\B.length<=H.length)/\Emp ns its/\∀j∈its,j<ns.length
theorem DI{k:Nat}{its:List Nat}{o:Nat->Option V}{K':KS}(c:Cl B (LN r ns) H)(T:Tr ns)(hl:ns.length+(its.length+1)<=60)(hb:B.length<=H.length)(he:Emp ns (k::its))(hj:∀j∈k::its,j<ns.length)(hK:∀ρ'' H'',NI2 B zs m r its ρ'' H''->K' ρ'' H'') :
  bh PL (aG PL (n+1)) (stB (xJ.body.getD 2 .pass)) ((Ej zs m r o).set 3 (some (ni k))) H K' Q X:=by
 have g:=c.gn
 haveI hl':=n13 hl
 refine(⟨_,aH (hj k (.head _))⟩:∃y,ns[k]? =some y).elim λy e=>?_
 have hj':∀j∈its,j<ns.length:=λj h=>hj j (.tail _ h)
 refine cr (cI (g8 g e rfl rfl rfl) λ_=>ev_p2 (g8 g e rfl rfl rfl) (a9 rfl) (eD (xD (g.inn e)) ff)) (λh=>?_) λh=>hK _ _ ⟨ns,kf,c,T,⟨hl'.2.1,hb⟩,λi x hx hw=>?_,hj'⟩
 ·have h:=aj.mp h
  have h0:y.inner=[]:=CT.mp (sF h.2)
  refine vR c hb e hl'.2.2 (h0.symm▸aM _) rfl rfl (cz rfl) (by decide) (λ_=>ev_var rfl) (λ_=>ai) (λH' g'=>ev_p2 (g8 g' (bv (hj k (.head _))) rfl rfl rfl) ai (cN (by decide) (by decide))) λd a H' c' hb'=>hK _ _ ⟨_,kf,c',T.add e h.1 (h0.symm▸(by decide:0<8)) ⟨rfl,rfl,rfl,λz=>absurd z ag⟩,⟨?_,hb'⟩,?_,λj hj=>?_⟩
  ·rw [af,aC];exact hl'.1
  ·refine jz e (λz=>absurd z ag) λi x hx hw=>?_
   haveI hw:x.w=true:=gW (F:=λt=>t.w=true->x.w=true) id (λ_=>id) hw
   refine(he i x hx hw).elim (λh=>.inl (λz=>?_)) λh=>eK h (λh=>.inl λz=>?_) .inr
   ·exact h (List.eq_nil_iff_forall_not_mem.mpr λk hk=>br (z▸sh hk))
   ·subst h
    unfold qa at z
    rw [if_pos rfl]at z
    exact absurd (List.append_eq_nil_iff.mp z).2 (GT _ _)
  ·rw [af,aC];exact Nat.lt_succ_of_lt (hj' j hj)
 ·refine (he i x hx hw).elim .inl λh'=>eK h' (λz=>.inl λz'=>?_) .inr
  subst z
  haveI ex:=ah (e.symm.trans hx)
  rw [ex,hw,z']at h
  exact absurd h (eX:¬true=false)
structure Tree(ns:List Nd):Prop where
 tr:Tr ns
 le:ns.length<=60
 ne:∀(i:Nat) (x:Nd),ns[i]? =some x->x.w=true->x.inner≠[]
theorem f14(h2:2<=m)(hm:m<=30)(q:∀ns H',Cl B (LN (B.length+2) ns) H'->Tree ns->Q (.ref (B.length+2)) H'):aG PL (n+2) 12 [.lst (zs.map V.int),ni m] B Q X:=by
 refine cf BS rfl (d7 (lA (si (bw ai lY) ai (dp:=1) ai (fk (ev_var rfl) ai λQ q=>CE (by decide) q) (hE (kg tI) ⟨cz rfl,?_⟩))))
 generalize zs.getD _ 0=z
 haveI c0:Cl B (LN (B.length+2) [⟨B.length+1,B.length,-1,true,1,[],z⟩]) (B++[.list []]++[.dict rA (rn ⟨B.length+1,B.length,-1,true,1,[],z⟩)]++[.list [.ref (B.length+1)]]):=by
  rw [a7,a7]
  refine⟨?_,dC ⟨m6 (j:=2),ay _ _⟩ (dC ⟨m6 (j:=0),aA _⟩ (cW ⟨m6 (j:=1),ay _ _⟩)),λa ha=>bf ha⟩
  exact l9.map (B.length+·) (λa b (h:a≠b) e=>h (l4 e)) (by decide:([2,0,1]:List Nat).Nodup)
 haveI T0:Tr [⟨B.length+1,B.length,-1,true,1,[],z⟩]:=⟨⟨_,rfl,rfl,rfl⟩,λi x h z=>by subst z;exact ah h▸rfl,λi x h h0=>?_,λj y h=>?_,λj y h=>?_⟩
 ·haveI hl:(B++[O.list []]++[O.dict rA (rn ⟨B.length+1,B.length,-1,true,1,[],z⟩)]).length=B.length+2:=by rw [af,af];rfl
  rw [hl]
  refine kW (NI1 B zs m (B.length+2)) (f:=ni) (l:=(bo (m-1)).map (1+·)) (v:=.rng 1 m) (ev_p2 ai (ev_var rfl) (s2 (by decide) (BC (aa hm (by decide))))) (λ_ _ _ _=>congrArg some (kQ (a:=1))) ?_ ⟨_,kf,c0,T0,⟨?_,?_⟩,λj hj=>?_⟩ (λk its ρ' H' hI K' hK=>uO hI λns e c T l hj=>e.elim λo e=>?_) λρ' H' hI=>uO hI λns e c T l hj=>e.elim λo e=>?_
  ·rw [ak,cj];exact aa (db _ _) (aa hm (by decide))
  ·rw [ak,cj];exact aq (gK (show 1<=m from aa (by decide) h2))
  ·exact aa fx (aa fx fx)
  ·refine ea1_2 (az.mp hj) λk hk e=>?_
   exact e▸aa (aq (dq 1 k)) (aa (cb.mp hk) (aa (db _ _) (aa hm (by decide))))
  ·subst e
   exact DL hm c T l.1 l.2 (hj k (.head _)) (λj h=>hj j (.tail _ h)) hK
  ·subst e
   haveI l0:ns.length<=30:=aa l.1 hm
   refine kW (NI2 B zs m (B.length+2)) (f:=ni) (l:=bo ns.length) (v:=.rng 0 ns.length) (bw (k9 c.gn rfl) (fM (BC (aa l0 (by decide))))) (λ_ _ _ _=>congrArg some uX) (by rw [cj];exact aa l0 (by decide)) ⟨ns,kf,c,T,⟨?_,l.2⟩,λi x hx _=>.inr (cb.mpr (ae.mp hx).1),λj hj=>cb.mp hj⟩ (λk its ρ' H' hI K' hK=>zt hI λns e c T l he hj=>e.elim λo e=>?_) λρ' H' hI=>zt hI λns e c T l he hj=>e.elim λo e=>?_
   ·rw [cj];exact bK l0 l0
   ·subst e
    exact DI c T l.1 l.2 he hj hK
   ·subst e
    exact ev_ret (ev_var rfl) (q ns H' c ⟨T,l.1,λi x hx hw=>(he i x hx hw).elim id λh=>absurd h br⟩)
 ·cases i with
  |zero=>exact absurd h0 (b6 0)
  |succ i=>exact nomatch h
 ·cases j with
  |zero=>exact ah h▸n8
  |succ j=>exact nomatch h
 ·cases j with
  |zero=>exact ah h▸⟨aM _,cn,(by decide:1<=6),λh=>absurd h eX⟩
  |succ j=>exact nomatch h
end
theorem iq{α:Type}{P:Prog}{H:AH}{l:List α}{f:α->V}(d:α){c L:Int}(hL:(l.length:Int)=L)(h0:0<L):aU P false .item [.lst (l.map f),.int (c%L)] H=some (f (l.getD (c%L).toNat d),H)/\l.getD (c%L).toNat d∈l:=by
 haveI h:=ja (a:=c) h0
 have hl:(c%L).toNat<l.length:=(dJ h.1).mpr (hL.symm▸h.2)
 have e:l.getD (c%L).toNat d=l[(c%L).toNat]:=by rw [cQ,aH hl];rfl
 haveI z:=ik (P:=P) (H:=H) (vs:=l.map f) (j:=(c%L).toNat) (v:=f (l.getD (c%L).toNat d)) (by rw [aZ,e,aH hl];rfl)
 rw [bt h.1]at z
 exact⟨z,e▸fU hl⟩
def DY(P:Prog)(C:Calls)(ρ:Fm)(H:AH)(X:XE)(es:List Ex)(vs:List V):Prop:=∀Q:List V->AH->Prop,Q vs H->fw P C es ρ H Q X
section
variable {P:Prog}{C:Calls}{ρ:Fm}{H:AH}{X:XE}{e:Ex}{es:List Ex}{v:V}{vs:List V}{p:Prim}
theorem lF:DY P C ρ H X [] []:=λ_ q=>q
theorem bN(h:Ev P C ρ H X e v)(k:DY P C ρ H X es vs):DY P C ρ H X (e::es) (v::vs):=λ_ q=>h _ (k _ q)
theorem q8(h:DY P C ρ H X es vs)(e:aU P false p vs H=some (v,H)):Ev P C ρ H X (.prim false p es) v:=λ_ q=>h _ (hE e q)
end
noncomputable def DW:List Nm:=[['a','l','w','a','y','s'],['f','a','u','l','t','e','d'],['n','e','v','e','r'],['f','a','u','l','t','e','d']]
noncomputable def yi(c:Int):Nm:=DW.getD (c%4).toNat []
noncomputable def CH(c:Int):Nm:=dD.getD (c%3).toNat []
noncomputable def vK(c:Int):List Int:=[0,1,2,1,3,1000000000,c/6%9,c/6%1000000001]
noncomputable def EE(c:Int):Int:=(vK c).getD (c%8).toNat 0
noncomputable def uM(c:Int):List Int:=[3,1,1000000000,2,1+c/6%12,1+c/6%1000000000]
noncomputable def CG(c:Int):Int:=(uM c).getD (c%6).toNat 0
noncomputable def BH(k:Nat)(c:Int):Int:=if(fN (ni k) (.int 0)&&decide (0<c/3%4))=true then min 1000000000 (EE (c/3)+4)else EE (c/3)
section
variable {n:Nat}{H:AH}{K:KS}{Q:QE}{X:XE}{c:Int}
theorem xY:yi c∈fA:=(by decide:∀x∈DW,x∈fA) _ (iq (P:=PL) (H:=[]) (f:=V.str) (l:=DW) (L:=4) [] rfl (by decide)).2
theorem Bj:CH c∈dD:=(iq (P:=PL) (H:=[]) (f:=V.str) (l:=dD) (L:=3) [] rfl (by decide)).2
theorem AK{a b d:Int}(h:0<b)(hd:b<=d):0<=a%b/\a%b<=d:=⟨(ja h).1,aV (dj (ja h).2) hd⟩
theorem rC{a b d:Int}(h:0<b)(hd:b<=d):1<=1+a%b/\1+a%b<=d:=⟨tE (ja h).1,Int.add_comm 1 _▸aV (ja h).2 hd⟩
theorem AE:0<=EE c/\EE c<=1000000000:=(dC (by decide) (dC (by decide) (dC (by decide) (dC (by decide) (dC (by decide) (dC (by decide) (dC (AK (by decide) (by decide)) (cW ⟨(ja (by decide)).1,Int.le_of_lt_add_one (ja (by decide)).2⟩))))))):∀x∈vK c,0<=x/\x<=1000000000) _ (iq (P:=PL) (H:=[]) (f:=V.int) (l:=vK c) (L:=8) 0 rfl (by decide)).2
theorem Av:1<=CG c/\CG c<=1000000000:=(dC (by decide) (dC (by decide) (dC (by decide) (dC (by decide) (dC (rC (by decide) (by decide)) (cW (rC (by decide) (by decide))))))):∀x∈uM c,1<=x/\x<=1000000000) _ (iq (P:=PL) (H:=[]) (f:=V.int) (l:=uM c) (L:=6) 0 rfl (by decide)).2
theorem BD{k:Nat}:0<=BH k c/\BH k c<=1000000000:=by
 unfold BH
 haveI h:=AE (c:=c/3)
 by_cases e:(fN (ni k) (.int 0)&&decide (0<c/3%4))=true
 ·rw [if_pos e];exact⟨Int.le_min.mpr ⟨by decide,kP h.1 (by decide)⟩,Int.min_le_left _ _⟩
 ·rw [if_neg e];exact h
theorem f16(q:Q (.int (EE c)) H):aG PL (n+1) 14 [.int c] H Q X:=
 cf BM rfl (ev_ret (ev_p2 (q8 (vs:=(vK c).map V.int) (bN ai (bN ai (bN ai (bN ai (bN ai (bN (a9 rfl) (bN (ev_p2 (ev_p2 (ev_var rfl) ai (cN (by decide) (by decide))) ai (cT (by decide))) (bN (ev_p2 (ev_p2 (ev_var rfl) ai (cN (by decide) (by decide))) (a9 (v:=.int 1000000001) rfl) (cT (by decide))) lF)))))))) (fB (av rfl))) (ev_p2 (ev_var rfl) ai (cT (by decide))) (iq (l:=vK c) (L:=8) 0 rfl (by decide)).1) q)
theorem f17(q:Q (.int (CG c)) H):aG PL (n+1) 15 [.int c] H Q X:=
 cf Bp rfl (ev_ret (ev_p2 (q8 (vs:=(uM c).map V.int) (bN ai (bN ai (bN (a9 rfl) (bN ai (bN (ev_p2 ai (ev_p2 (ev_p2 (ev_var rfl) ai (cN (by decide) (by decide))) ai (cT (by decide))) dT) (bN (ev_p2 ai (ev_p2 (ev_p2 (ev_var rfl) ai (cN (by decide) (by decide))) (a9 (v:=.int 1000000000) rfl) (cT (by decide))) dT) lF)))))) (fB (av rfl))) (ev_p2 (ev_var rfl) ai (cT (by decide))) (iq (l:=uM c) (L:=6) 0 rfl (by decide)).1) q)
end
noncomputable def bd(ns:List Nd)(nm:Nat->Nm):Nat->Nat->V
 |0,_=>.none
 |f+1,k=>(ns[k]?).elim .none λx=>if x.w=true then iY (nm k) (CH x.cell) (BH k x.cell) (CG (x.cell/24)) (x.inner.map (bd ns nm f))else oR (nm k) (yi x.cell)
noncomputable def CN(nm:Nat->Nm)(m:Nat):V:=.lst ((bo m).map λk=>.str (nm k))
section
variable {n r:Nat}{H:AH}{ns:List Nd}{nm:Nat->Nm}
theorem nD{P:Prog}{m k:Nat}(h:k<m):aU P false .item [CN nm m,ni k] H=some (.str (nm k),H):=ik (by rw [aZ,gJ h];rfl)
theorem lO{f k:Nat}{x:Nd}(h:ns[k]? =some x):bd ns nm (f+1) k=if x.w=true then iY (nm k) (CH x.cell) (BH k x.cell) (CG (x.cell/24)) (x.inner.map (bd ns nm f))else oR (nm k) (yi x.cell):=by
 show(ns[k]?).elim _ _=_
 rw [h];rfl
def FM(H0:AH)(r:Nat)(nv:V)(k:Nat)(c:Int)(rl:Nm)(il:List Nat)(g:Nat->V)(its:List Nat)(ρ:Fm)(H:AH):Prop:=∃o dn,H=H0/\ρ=[some (.ref r),some nv,some (ni k),some (.int c),some (.str rl),some (.tup (dn.map g)),o,none]/\dn++its=il
theorem f18(T:Tr ns)(g:GN r ns H):∀{f k:Nat} {x:Nd} {Q:QE} {X:XE},ns[k]? =some x->f+x.deep=8->Q (bd ns nm f k) H->aG PL (n+f+1) 16 [.ref r,CN nm ns.length,ni k] H Q X:=by
 intro f
 induction f with
 |zero=>
  intro k x Q X h e q
  haveI:=(T.lim k x h).dp
  exact absurd (aa this (by cases x.w<;>decide)) (GU (aq (e.symm.trans (eW _)):7<x.deep))
 |succ f ih=>
  intro k x Q X h e q
  have hk:k<ns.length:=(ae.mp h).1
  rw [lO h]at q
  refine cf Cp rfl (bL (g8 g h rfl rfl rfl) (cz rfl) (cr (bG (g8 g h rfl rfl rfl)) (λhw=>?_) λhw=>?_))
  ·rw [if_neg λz:x.w=true=>absurd (z▸hw:(!true)=true) ag]at q
   exact ev_ret (fc ai (ev_p2 (ev_var rfl) (ev_var rfl) (nD hk)) (ev_p2 (x:=.lst (DW.map V.str)) (a9 rfl) (ev_p2 (ev_var rfl) ai (cT (by decide))) (iq (l:=DW) (L:=4) [] rfl (by decide)).1) (eT le3)) q
  ·rw [if_pos (mw _▸hw)]at q
   haveI L:=T.lim k x h
   refine bL (ev_p2 (x:=.lst (dD.map V.str)) (a9 rfl) (ev_p2 (ev_var rfl) ai (cT (by decide))) (iq (l:=dD) (L:=3) [] rfl (by decide)).1) (cz rfl) (bL (a9 rfl) (cz rfl) ?_)
   refine kW (FM H r (CN nm ns.length) k x.cell (CH x.cell) x.inner (bd ns nm f)) (f:=ni) (l:=x.inner) (g8 g h rfl rfl rfl) (λ_ _ _ q=>c8 q λ_ _ e0 _ _=>e0▸fZ (g.inn h)) (aa L.le (by decide)) ⟨none,[],rfl,rfl,rfl⟩ (λi its ρ' H' hI K' hK=>c8 hI λo dn e0 er ed=>?_) λρ' H' hI=>c8 hI λo dn e0 er ed=>?_
   ·subst e0 er
    have hi:i∈x.inner:=ed▸aB dn (.head _)
    refine dh (T.inn k x h i hi) λy hy _ _ hd=>?_
    refine bL (ev_p2 (ev_var rfl) (bw (fR (ev_var rfl) (ev_var rfl) (ev_var rfl) λQ q=>ih hy ((congrArg (f+·) hd).trans ((bg f x.deep 1).trans e)) q) (eT tI)) (jR ?_)) (cz rfl) (hK _ _ ⟨some (ni i),dn++[i],rfl,?_,(a7 dn [i] its).trans ed⟩)
    ·rw [ak]
     exact aa (ax (aa (ed▸fx) L.le)) (by decide)
    ·rw [aO];rfl
   ·subst e0 er
    have ed:dn=x.inner:=(aN dn).symm.trans ed
    subst ed
    have fin:∀{mv:Int},mv=BH k x.cell->bh PL (aG PL (n+(f+1))) (Ah.body.drop 7) [some (.ref r),some (CN nm ns.length),some (ni k),some (.int x.cell),some (.str (CH x.cell)),some (.tup (x.inner.map (bd ns nm f))),o,some (.int mv)] H' (λ_ H'=>Q .none H') Q X:=λe=>by
     subst e
     exact ev_ret (q8 (bN ai (bN (ev_p2 (ev_var rfl) (ev_var rfl) (nD hk)) (bN (ev_var rfl) (bN (ev_var rfl) (bN (bU (ev_p2 (ev_var rfl) ai (cN (by decide) (by decide))) λQ q=>f17 q) (bN (ev_var rfl) lF)))))) (eT (av rfl))) q
    refine bL (bU (ev_p2 (ev_var rfl) ai (cN (by decide) (by decide))) λQ q=>f16 q) (cz rfl) (cr (cI (ev_p2 (ev_var rfl) ai (eD b9 b9)) λ_=>ev_p2 (ev_p2 (ev_p2 (ev_var rfl) ai (cN (by decide) (by decide))) ai (cT (by decide))) ai kJ) (λhc=>?_) λhc=>?_)
    ·exact bL (ev_p2 (x:=.int 1000000000) (a9 rfl) (ev_p2 (ev_var rfl) ai dT) BL) (cz rfl) (fin (if_pos hc).symm)
    ·exact fin (if_neg (by rw [hc];exact ag)).symm
end
noncomputable def sJ(ns:List Nd)(k:Nat):List Nat:=(ns[k]?).elim [] Nd.inner
noncomputable def sub(ns:List Nd):Nat->Nat->List Nat
 |0,_=>[]
 |f+1,k=>k::(sJ ns k).flatMap (sub ns f)
section
variable {ns:List Nd}{nm:Nat->Nm}{f k i j:Nat}{x:Nd}
theorem eU(h:ns[k]? =some x):sJ ns k=x.inner:=congrArg (Option.elim · [] Nd.inner) h
noncomputable def FV(ns:List Nd)(i:Nat):Nat:=(ns[i]?).elim 0 λx=>x.up.toNat
noncomputable def Gu(ns:List Nd):Nat->Nat->Nat
 |0,i=>i
 |d+1,i=>FV ns (Gu ns d i)
theorem Tr.fpos(T:Tr ns)(h:ns[k]? =some x)(e:f+x.deep=8):∃f',f=f'+1:=by
 cases f with
 |zero=>
  haveI:=aa (T.lim k x h).dp (show(if x.w=true then 6 else 7)<=7 by cases x.w<;>decide)
  exact absurd (aq (e.symm.trans (eW _))) (GU (Nat.lt_succ_of_le this))
 |succ f=>exact⟨f,rfl⟩
theorem Tr.anc(T:Tr ns):∀{f k:Nat} {x:Nd},ns[k]? =some x->∀i∈sub ns f k,∃d y,ns[i]? =some y/\y.deep=x.deep+d/\Gu ns d i=k:=by
 intro f
 induction f with
 |zero=>exact λ_=>n8
 |succ f ih=>
  intro k x h
  refine dC ⟨0,x,h,rfl,rfl⟩ λi hi=>ea1_2 (bE.mp hi) λj hj hi=>?_
  rw [eU h]at hj
  refine dh (T.inn k x h j hj) λy hy _ hu hd=>c8 (ih hy i hi) λd z hz e eu=>⟨d+1,z,hz,by rw [e,hd,cK,dq 1],?_⟩
  show FV ns (Gu ns d i)=k
  unfold FV
  rw [eu,hy]
  exact congrArg pV hu
theorem Tr.nd(T:Tr ns):∀{f k:Nat} {x:Nd},ns[k]? =some x->(sub ns f k).Nodup:=by
 intro f
 induction f with
 |zero=>exact λ_=>cn
 |succ f ih=>
  intro k x h
  refine bD.mpr ⟨λz=>?_,List.pairwise_flatMap.mpr ⟨λj hj=>?_,?_⟩⟩
  ·refine ea1_2 (bE.mp z) λj hj hk=>?_
   rw [eU h]at hj
   refine dh (T.inn k x h j hj) λy hy _ _ hd=>c8 (T.anc hy k hk) λd z hz e _=>?_
   rw [ah (hz.symm.trans h),hd]at e
   exact absurd e (dm (aJ (bS _) (ay _ _)))
  ·rw [eU h]at hj
   exact dh (T.inn k x h j hj) λy hy _ _ _=>ih hy
  ·rw [eU h]
   refine wN (λ{a b} ha hb hab u hu v hv e=>hab ?_) (T.lim k x h).nd
   subst e
   refine dh (T.inn k x h a ha) λy hy _ _ hd=>dh (T.inn k x h b hb) λy' hy' _ _ hd'=>c8 (T.anc hy u hu) λd z hz e eu=>c8 (T.anc hy' u hv) λd' z' hz' e' eu'=>?_
   rw [ah (hz.symm.trans hz'),e',hd,hd']at e
   rw [<-eu,<-eu',l4 e]
theorem Tr.step(T:Tr ns):∀{f k:Nat} {x:Nd},ns[k]? =some x->f+x.deep=8->∀i∈sub ns f k,∀j∈sJ ns i,j∈sub ns f k:=by
 intro f
 induction f with
 |zero=>exact λ_ _=>n8
 |succ f ih=>
  intro k x h e
  have e':∀{y:Nd},y.deep=x.deep+1->f+y.deep=8:=λh=>by rw [h,<-cK,bg];exact e
  refine dC (λj hj=>.tail _ (bE.mpr ⟨j,hj,?_⟩)) λi hi j hj=>ea1_2 (bE.mp hi) λl hl hi=>.tail _ (bE.mpr ⟨l,hl,?_⟩)
  ·rw [eU h]at hj
   refine dh (T.inn k x h j hj) λy hy _ _ hd=>(T.fpos hy (e' hd)).elim λf' ef=>?_
   subst ef
   exact .head _
  ·rw [eU h]at hl
   exact dh (T.inn k x h l hl) λy hy _ _ hd=>ih hy (e' hd) i hi j hj
theorem Tr.all(T:Tr ns):∀{i:Nat},i<ns.length->i∈sub ns 7 0:=by
 intro i
 induction i using Nat.strongRecOn with
 |_ i ih=>
  intro hi
  refine eO T.top λx h0 _ hd=>?_
  cases i with
  |zero=>exact .head _
  |succ i=>exact jS (T.up _ _ (aH hi) (gZ i)) λj y hj hji _ hm=>T.step h0 (hd.symm▸rfl) j (ih j hji (y9 hji hi)) _ (eU hj▸hm)
theorem Tr.lt(T:Tr ns)(h:ns[k]? =some x):∀i∈sub ns f k,i<ns.length:=λi hi=>c8 (T.anc h i hi) λd y hy _ _=>(ae.mp hy).1
theorem gA(h:ns[k]? =some x):ao (bd ns nm (f+1) k)=nm k:=by
 rw [lO h]
 by_cases e:x.w=true
 ·rw [if_pos e];rfl
 ·rw [if_neg e];rfl
theorem Tr.kids(T:Tr ns)(h:ns[k]? =some x):kids (bd ns nm (f+1) k)=x.inner.map (bd ns nm f):=by
 rw [lO h]
 by_cases e:x.w=true
 ·rw [if_pos e];rfl
 ·rw [if_neg e,(T.lim k x h).wk (fK.mpr e)];rfl
theorem Tr.nms(T:Tr ns):∀{f k:Nat} {x:Nd},ns[k]? =some x->nms f (bd ns nm f k)=(sub ns f k).map nm:=by
 intro f
 induction f with
 |zero=>exact λ_=>rfl
 |succ f ih=>
  intro k x h
  refine(?_:ao _::(Mine.kids _).flatMap (Mine.nms f)=nm k::((sJ ns k).flatMap (sub ns f)).map nm)
  rw [gA h,T.kids h,eU h,dQ,p1]
  refine congrArg (nm k::·) ?_
  rw [jt,jt]
  exact congrArg List.flatten (de λi hi=>dh (T.inn k x h i hi) λy hy _ _ _=>ih hy)
end
noncomputable def ky(m:Nat)(nm:Nat->Nm)(a:Nm):Option Nat:=(bo m).find? λk=>nm k==a
noncomputable def qi(x:Nd):Nm:=if x.w=true then CH x.cell else yi x.cell
noncomputable def FN(x:Nd):Bool:=qi x==['n','e','v','e','r']
noncomputable def alN(x:Nd):Bool:=!(qi x==['f','a','u','l','t','e','d']||FN x)
noncomputable def Ff(x:Nd):Int:=if x.w=true then CG (x.cell/24)else 0
noncomputable def Fo(k:Nat)(x:Nd):Int:=if x.w=true then BH k x.cell else 0
noncomputable def sU(ns:List Nd)(nm:Nat->Nm):PI:=⟨λa=>(ky ns.length nm a).bind λk=>(ns[k]?).map Nd.w,λa=>(ky ns.length nm a).bind λk=>if k=0 then none else(ns[k]?).map λx=>nm x.up.toNat,λa=>(ky ns.length nm a).any λk=>(ns[k]?).any alN,λa=>(ky ns.length nm a).any λk=>(ns[k]?).any FN,λa=>(ky ns.length nm a).elim 0 λk=>(ns[k]?).elim 0 Ff,λa=>(ky ns.length nm a).elim 0 λk=>(ns[k]?).elim 0 (Fo k),λa=>(ky ns.length nm a).elim [] λk=>(sub ns 8 k).map nm,λa=>(ky ns.length nm a).elim [] λk=>(sJ ns k).map nm,λa=>(ky ns.length nm a).elim [] λk=>(ns[k]?).elim [] qi⟩
section
variable {ns:List Nd}{nm:Nat->Nm}{f k i j:Nat}{x:Nd}{a:Nm}
theorem mO(h:ky ns.length nm a=some k):nm k=a/\k<ns.length:=⟨beq_iff_eq.mp (List.find?_some (p:=λk=>nm k==a) h),cb.mp (List.mem_of_find?_eq_some h)⟩
theorem mH(N:Nms ns.length nm)(h:k<ns.length):ky ns.length nm (nm k)=some k:=by
 refine optE (o:=ky ns.length nm (nm k)) (λe=>?_) λj e=>?_
 ·exact absurd (beq_self_eq_true (nm k)) (E9.mp e k (cb.mpr h))
 ·rw [e,N.inj j k (mO e).2 h (mO e).1]
theorem ql(N:Nms ns.length nm)(h:ns[k]? =some x):(sU ns nm).isW (nm k)=some x.w:=by
 show(ky ns.length nm (nm k)).bind _=_
 rw [mH N (ae.mp h).1]
 exact congrArg (ba Nd.w) h
theorem ET(T:Tr ns)(N:Nms ns.length nm)(h:ns[k]? =some x)(hi:i∈x.inner):(sU ns nm).ch (nm i)=some (nm k):=dh (T.inn k x h i hi) λy hy hk hu _=>by
 refine(?_:(ky ns.length nm (nm i)).bind _=_)
 rw [mH N (ae.mp hy).1]
 show(if i=0 then none else(ns[i]?).map λx=>nm x.up.toNat)=_
 rw [if_neg (dI (dw (aM k) hk)),hy]
 show some (nm y.up.toNat)=_
 rw [hu];rfl
theorem zz(T:Tr ns){m:Nm}(h:(sU ns nm).ch a=some m):∃i j x,nm i=a/\nm j=m/\ns[j]? =some x/\i∈x.inner/\0<i:=by
 haveI h:(ky ns.length nm a).bind _=some m:=h
 refine optE (o:=ky ns.length nm a) (λe=>du ((by rw [e];rfl:none=(ky ns.length nm a).bind _).trans h)) λi e=>?_
 rw [e]at h
 have h:(if i=0 then none else(ns[i]?).map λx=>nm x.up.toNat)=some m:=h
 by_cases z:i=0
 ·rw [if_pos z]at h;exact du h
 ·refine (⟨_,aH (mO e).2⟩:∃x,ns[i]? =some x).elim λx hx=>?_
  rw [if_neg z,hx]at h
  exact jS (T.up i x hx (mx z)) λj y hj _ hu hm=>⟨i,j,y,(mO e).1,(by rw [hu];rfl:nm j=nm x.up.toNat).trans (ah h),hj,hm,mx z⟩
theorem Tr.pt(T:Tr ns)(N:Nms ns.length nm)(ne:∀(i:Nat) (x:Nd),ns[i]? =some x->x.w=true->x.inner≠[]):∀{f k:Nat} {x:Nd},ns[k]? =some x->f+x.deep=8->Pt (sU ns nm) f (bd ns nm f k):=by
 intro f
 induction f with
 |zero=>exact λh e=>(T.fpos h e).elim λf' e=>nomatch e
 |succ f ih=>
  intro k x h e
  have hk:=(ae.mp h).1
  have L:=T.lim k x h
  have e':∀{y:Nd},y.deep=x.deep+1->f+y.deep=8:=λh=>by rw [h,<-cK,bg];exact e
  have up:∀{c:Nm},(sU ns nm).ch c=some (nm k)->∃i,i∈x.inner/\nm i=c:=λ{c} hc=>(zz T hc).elim λi q=>q.elim λj q=>q.elim λy q=>by
   haveI ej:=N.inj j k (ae.mp q.2.2.1).1 hk q.2.1
   subst ej
   exact⟨i,ah (q.2.2.1.symm.trans h)▸q.2.2.2.1,q.1⟩
  rw [lO h]
  by_cases w:x.w=true
  ·rw [if_pos w]
   refine .wd (N.ok k hk) Bj BD Av ⟨?_,?_⟩ ((ql N h).trans (congrArg some w)) (λc=>⟨λhc=>?_,λhp=>?_⟩) λp hp=>?_
   ·rw [ak];exact l5.mpr (ne k x h w)
   ·rw [ak];exact L.le
   ·refine ea1_2 (up hc) λi hi ei=>dh (T.inn k x h i hi) λy hy _ _ hd=>(T.fpos hy (e' hd)).elim λf' ef=>⟨_,bu hi,?_⟩
    subst ef
    exact(gA hy).trans ei
   ·refine ea1_2 hp λp hp ec=>ea1_2 (az.mp hp) λi hi ei=>dh (T.inn k x h i hi) λy hy _ _ hd=>(T.fpos hy (e' hd)).elim λf' ef=>?_
    subst ef ei
    rw [<-ec,gA hy]
    exact ET T N h hi
   ·exact ea1_2 (az.mp hp) λi hi ei=>dh (T.inn k x h i hi) λy hy _ _ hd=>ei▸ih hy (e' hd)
  ·rw [if_neg w]
   haveI w:=fK.mpr w
   exact .wk (N.ok k hk) xY ((ql N h).trans (congrArg some w)) λc hc=>ea1_2 (up hc) λi hi _=>absurd hi (L.wk w▸br)
theorem qv(h:ns[k]? =some x):Fa (bd ns nm (f+1) k)=qi x:=by
 rw [lO h]
 unfold qi
 by_cases e:x.w=true
 ·rw [if_pos e,if_pos e];rfl
 ·rw [if_neg e,if_neg e];rfl
theorem zu(N:Nms ns.length nm)(h:ns[k]? =some x):(sU ns nm).sp (nm k)=Ff x/\(sU ns nm).mn (nm k)=Fo k x:=by
 haveI e:=mH N (ae.mp h).1
 refine⟨?_,?_⟩
 ·show (ky ns.length nm (nm k)).elim 0 _=_
  rw [e]
  show(ns[k]?).elim 0 Ff=_
  rw [h];rfl
 ·show (ky ns.length nm (nm k)).elim 0 _=_
  rw [e]
  show(ns[k]?).elim 0 (Fo k)=_
  rw [h];rfl
theorem El(N:Nms ns.length nm)(h:ns[k]? =some x):(sU ns nm).sb (nm k)=(sub ns 8 k).map nm:=by
 show(ky ns.length nm (nm k)).elim [] _=_
 rw [mH N (ae.mp h).1];rfl
theorem zB(N:Nms ns.length nm)(h:ns[k]? =some x):(sU ns nm).kd (nm k)=x.inner.map nm/\(sU ns nm).ru (nm k)=qi x:=by
 haveI e:=mH N (ae.mp h).1
 refine⟨?_,?_⟩
 ·show (ky ns.length nm (nm k)).elim [] _=_
  rw [e]
  exact congrArg (List.map nm) (eU h)
 ·show (ky ns.length nm (nm k)).elim [] _=_
  rw [e]
  show(ns[k]?).elim [] qi=_
  rw [h];rfl
theorem Tr.nmsG(T:Tr ns):∀{f k j:Nat} {x:Nd},ns[k]? =some x->f+x.deep=8->f<=j->Mine.nms j (bd ns nm f k)=(sub ns j k).map nm:=by
 intro f
 induction f with
 |zero=>exact λh e _=>(T.fpos h e).elim λf' e=>nomatch e
 |succ f ih=>
  intro k j x h e hj
  cases j with
  |zero=>exact absurd hj (gp _)
  |succ j=>
   refine(?_:ao _::(Mine.kids _).flatMap (Mine.nms j)=nm k::((sJ ns k).flatMap (sub ns j)).map nm)
   rw [gA h,T.kids h,eU h,dQ,p1]
   refine congrArg (nm k::·) ?_
   rw [jt,jt]
   exact congrArg List.flatten (de λi hi=>dh (T.inn k x h i hi) λy hy _ _ hd=>ih hy (by rw [hd,<-cK,bg];exact e) (jZ hj))
theorem Ei(T:Tr ns)(N:Nms ns.length nm)(h:ns[k]? =some x)(e8:f+1+x.deep=8):mdOk (sU ns nm) (bd ns nm (f+1) k):=by
 haveI e:=mH N (ae.mp h).1
 refine⟨?_,?_,?_,?_,?_,?_,?_⟩
 ·rw [gA h]
  show(ky ns.length nm (nm k)).any _=_
  rw [e]
  show(ns[k]?).any FN=_
  rw [h]
  unfold Fj
  rw [qv h];rfl
 ·rw [gA h]
  show(ky ns.length nm (nm k)).any _=_
  rw [e]
  show(ns[k]?).any alN=_
  rw [h]
  unfold alV Fj
  rw [qv h];rfl
 ·rw [gA h,(zu N h).1,lO h]
  unfold Ff
  by_cases e:x.w=true
  ·rw [if_pos e,if_pos e];rfl
  ·rw [if_neg e,if_neg e];rfl
 ·rw [gA h,(zu N h).2,lO h]
  unfold Fo
  by_cases e:x.w=true
  ·rw [if_pos e,if_pos e];rfl
  ·rw [if_neg e,if_neg e];rfl
 ·rw [gA h,El N h,T.nmsG h e8 (aa (ay _ _) (aq e8))]
 ·rw [gA h,(zB N h).1,T.kids h,bp]
  exact de λi hi=>dh (T.inn k x h i hi) λy hy _ _ hd=>(T.fpos (f:=f) hy (by rw [hd,<-cK,bg];exact e8)).elim λf' ef=>by
   subst ef
   exact(gA hy).symm
 ·rw [gA h,(zB N h).2,qv h]
theorem Tr.md(T:Tr ns)(N:Nms ns.length nm):∀{f k:Nat} {x:Nd},ns[k]? =some x->f+x.deep=8->∀y∈fW f (bd ns nm f k),mdOk (sU ns nm) y:=by
 intro f
 induction f with
 |zero=>exact λ_ _=>n8
 |succ f ih=>
  intro k x h e8
  refine dC (Ei T N h e8) λy hy=>ea1_2 (bE.mp hy) λp hp hy=>?_
  rw [T.kids h]at hp
  exact ea1_2 (az.mp hp) λi hi e=>dh (T.inn k x h i hi) λz hz _ _ hd=>ih hz (by rw [hd,<-cK,bg];exact e8) y (e▸hy)
theorem Tree.plan(t:Tree ns)(N:Nms ns.length nm):Plan (sU ns nm) (bd ns nm 7 0):=eO t.tr.top λx h0 hw hd=>by
 haveI e8:7+x.deep=8:=hd.symm▸rfl
 haveI en:nms 7 (bd ns nm 7 0)=(sub ns 7 0).map nm:=t.tr.nms h0
 haveI e0:ao (bd ns nm 7 0)=nm 0:=gA h0
 refine⟨t.tr.pt N t.ne h0 e8,?_,?_,?_,λw z=>?_,λm hm=>?_,t.tr.md N h0 e8⟩
 ·refine (?_:(!(kids (bd ns nm 7 0)).isEmpty)=true)
  rw [t.tr.kids h0]
  haveI:=t.ne 0 x h0 hw
  cases hx:x.inner with
  |nil=>exact absurd hx this
  |cons a l=>rfl
 ·rw [en]
  exact l9.map nm (λ_ _ h=>h) (wN (λ{a b} ha hb hab e=>hab (N.inj a b (t.tr.lt h0 a ha) (t.tr.lt h0 b hb) e)) (t.tr.nd h0))
 ·rw [en,ak]
  exact aa ((t.tr.nd h0).length_le_of_subset (l₂:=bo ns.length) λi hi=>cb.mpr (t.tr.lt h0 i hi)) (aa (aq cj) t.le)
 ·rw [e0]at z
  refine(zz t.tr z).elim λi q=>q.elim λj q=>q.elim λy q=>?_
  refine dh (t.tr.inn j y q.2.2.1 i q.2.2.2.1) λu hu _ _ _=>?_
  haveI:=N.inj i 0 (ae.mp hu).1 (ae.mp h0).1 q.1
  exact absurd (this▸q.2.2.2.2) (b6 0)
 ·rw [en]
  haveI hm:((ky ns.length nm m).bind _).isSome=true:=hm
  refine optE (o:=ky ns.length nm m) (λe=>?_) λk e=>(mO e).1▸bu (t.tr.all (mO e).2)
  rw [e]at hm
  exact absurd hm ag
end
section
variable {n r:Nat}{H:AH}{Q:QE}{X:XE}{ns:List Nd}{nm:Nat->Nm}
theorem yc{P:Prog}{a:Nat}{x y:List V}(hg:H[a]? =some (.list x))(h:x.length+y.length<=au):aU P false (.bop .add) [.ref a,.lst y] H=some (.lst (x++y),H):=by
 show((H[a]?.bind O.lst).bind λvs=>if vs.length+y.length<=au then some (V.lst (vs++y))else none).map _=_
 rw [hg]
 show(if x.length+y.length<=au then some (V.lst (x++y))else none).map _=_
 rw [if_pos h];rfl
theorem rm{o o':O}:(H++[o]).set H.length o'=H++[o']:=by rw [z9 _ _ (aA _),Nat.sub_self];rfl
theorem rf{a:V}{l:List V}:bq (a::l) (jM (a::l).length 1) (a::l).length=l:=by
 rw [show jM (a::l).length 1=1 from ii (j:=1) (ax (aM _))]
 unfold bq
 rw [pY];rfl
abbrev sb(ns:List Nd)(p:Nat×Nat):List Nat:=sub ns p.1 p.2
theorem AN{td:List (Nat×Nat)}(h:∀p∈td,∃f,p.1=f+1):td.length<=(td.flatMap (sb ns)).length:=by
 induction td with
 |nil=>exact aA _
 |cons p td ih=>
  rw [bz,af,bQ,dq]
  refine bK ((h p (.head _)).elim λf e=>?_) (ih λy hy=>h y (.tail _ hy))
  refine(?_:1<=(sub ns p.1 p.2).length)
  rw [e];exact ax (aM _)
def IU(ns:List Nd)(r k0:Nat)(H:AH)(tot:List Nat)(N:Nat)(ρ:Fm)(H':AH):Prop:=
 ∃(td:List (Nat×Nat)) (dn:List Nat) (o:Option V),ρ=[some (.ref r),some (ni k0),some (.ref H.length),some (.lst (td.map λp=>ni p.2)),o]/\H'=H++[.list (dn.map ni)]/\dn++td.flatMap (sb ns)=tot/\(td.flatMap (sb ns)).length=N/\(td.length<=N/\N<=60)/\∀p∈td,∃x,ns[p.2]? =some x/\p.1+x.deep=8
theorem f15{f0 k0:Nat}{x0:Nd}(t:Tree ns)(g:GN r ns H)(h0:ns[k0]? =some x0)(e80:f0+x0.deep=8)(q:Q (.ref H.length) (H++[.list ((sub ns f0 k0).map ni)])):aG PL (n+1) 13 [.ref r,ni k0] H Q X:=by
 have T:=t.tr
 have zD:(sub ns f0 k0).length<=60:=aa ((T.nd h0).length_le_of_subset (l₂:=bo ns.length) λi hi=>cb.mpr (T.lt h0 i hi)) (aa (aq cj) t.le)
 haveI e0:[((f0,k0):Nat×Nat)].flatMap (sb ns)=sub ns f0 k0:=aN _
 refine cf AZ rfl (d7 (jf ⟨cz rfl,bL (a9 rfl) (cz rfl) ?_⟩))
 refine jD (IU ns r k0 H (sub ns f0 k0)) (N:=(sub ns f0 k0).length) (λN ρ' H' hI=>gx hI λtd dn o e eh ed eN l hp=>?_) ⟨[(f0,k0)],[],none,rfl,rfl,e0,congrArg dU e0,⟨(T.fpos h0 e80).elim λf' ef=>ef▸ax (aM _),zD⟩,cW ⟨x0,h0,e80⟩⟩
 subst e eh
 refine⟨_,ev_p2 (ev_var rfl) (a9 rfl) (fE (uE (f:=λp:Nat×Nat=>ni p.2) λ_=>trivial) ff),λhc K' hK=>?_,λhc=>?_⟩
 ·cases td with
  |nil=>exact absurd hc ag
  |cons p td=>
   refine ea1_2 (hp p (.head _)) λx hx e8=>(T.fpos hx e8).elim λf ef=>?_
   have es:sb ns p=p.2::x.inner.flatMap (sub ns f):=by
    show sub ns p.1 p.2=_
    rw [ef]
    exact congrArg (λt=>p.2::List.flatMap (sub ns f) t) (eU hx)
   haveI ei:(x.inner.map λi=>(f,i)).flatMap (sb ns)=x.inner.flatMap (sub ns f):=dQ ..
   haveI g':∀{l:List Nat},GN r ns (H++[.list (l.map ni)]):=λp hp=>da (g p hp)
   rw [bz,es]at ed eN
   haveI lt:td.length<=60:=aa (bJ _) (aa l.1 l.2)
   haveI lx:=(T.lim _ x hx).le
   refine bL (ev_p2 (ev_var rfl) ai zP) (cz rfl) (ly (ev_var rfl) (dX dS) (ev_var rfl) (hE (fe dS ?_) ?_))
   ·rw [ak]
    haveI:=congrArg dU ed
    rw [af]at this
    exact aa (ay _ _) (aa (aq this) (aa zD (by decide)))
   rw [rm,show dn.map ni++[ni p.2]=(dn++[p.2]).map ni from(aO (f:=ni) (l₁:=dn) (l₂:=[p.2])).symm]
   have kid8:∀i∈x.inner,∃y,ns[i]? =some y/\f+y.deep=8:=λi hi=>dh (T.inn _ x hx i hi) λy hy _ _ hd=>⟨y,hy,by rw [hd,<-cK,bg];exact ef▸e8⟩
   haveI ln:(x.inner.map λi=>(f,i)).length+td.length<=(x.inner.flatMap (sub ns f)++td.flatMap (sb ns)).length:=by
    haveI:=AN (ns:=ns) (td:=(x.inner.map λi=>(f,i))++td) (cM (λy hy=>ea1_2 (az.mp hy) λi hi e=>e▸ea1_2 (kid8 i hi) λy hy e=>(T.fpos hy e).imp λ_ e=>e) λy hy=>ea1_2 (hp y (.tail _ hy)) λz hz e=>(T.fpos hz e).imp λ_ e=>e)
    rw [af,bl,ei]at this
    exact this
   haveI eN':(x.inner.flatMap (sub ns f)++td.flatMap (sb ns)).length+1=N:=eN
   refine bL (ev_p2 (g8 g' hx rfl rfl rfl) (fc (ev_var rfl) ai ai ((o9 ?_).trans (congrArg (λt=>some (V.lst t,H++[O.list ((dn++[p.2]).map ni)])) rf))) (yc (g'.inn hx) ?_)) (cz rfl) (hK _ _ (x.inner.flatMap (sub ns f)++td.flatMap (sb ns)).length (Fw (aq eN')) ⟨(x.inner.map λi=>(f,i))++td,dn++[p.2],some (ni p.2),?_,rfl,?_,?_,⟨?_,?_⟩,cM (λy hy=>ea1_2 (az.mp hy) λi hi e=>e▸kid8 i hi) λy hy=>hp y (.tail _ hy)⟩)
   ·rw [ak];exact aa l.1 (aa l.2 (by decide))
   ·rw [ak,ak];exact aa (bK lx lt) (by decide)
   ·rw [aO,bp];rfl
   ·rw [bl,ei,a7];exact ed
   ·rw [bl,ei]
   ·rw [af];exact ln
   ·exact aa (bJ _) (aa (aq eN') l.2)
 ·cases td with
  |nil=>
   refine ev_ret (ev_var rfl) ?_
   rw [<-ed,dP,aN]at q
   exact q
  |cons p td=>exact absurd hc (eX:¬true=false)
end
noncomputable def CF(ns:List Nd)(k:Nat):Nat:=(ns[k]?).elim 0 λx=>8-x.deep
noncomputable def psL(ns:List Nd)(nm:Nat->Nm):List V:=(bo ns.length).map λk=>bd ns nm (CF ns k) k
noncomputable def mX(r:Nat)(ns:List Nd)(nm:Nat->Nm)(o:Nat):V:=.dct [['n','o','d','e','s'],['n','a','m','e','s'],['p','a','r','t','s'],['p','l','a','n'],['o','r','d','e','r']] [.ref r,CN nm ns.length,.lst (psL ns nm),bd ns nm 7 0,.ref o]
section
variable {n r:Nat}{H:AH}{Q:QE}{X:XE}{ns:List Nd}{nm:Nat->Nm}{zs:List Int}
theorem n30{a:Int}:∃m:Nat,(2+a%9:Int)=m/\2<=m/\m<=30:=haveI h:=ja (a:=a) (b:=9) (by decide);⟨(2+a%9).toNat,(bt (kP (by decide) h.1)).symm,(Int.le_toNat (kP (by decide) h.1)).mpr (tE h.1),Int.toNat_le.mpr (aV (CO (dj h.2) 2) (by decide))⟩
theorem Ds{m:Nat}{c:Int}{K:KS}(h2:2<=m)(hm:m<=30)(q:∀ns nm o H',Tree ns->Nms ns.length nm->GN (H.length+2) ns H'->H'[o]? =some (.list ((sub ns 7 0).map ni))->Q (mX (H.length+2) ns nm o) H') :
  bh PL (aG PL (n+12)) (AW.body.drop 3) [some (.lst (zs.map V.int)),some (.int c),some (ni m),none,none,none] H K Q X:=by
 refine d7 (iB (ev_var rfl) (ev_var rfl) (f14 h2 hm λns H' cl t=>⟨cz rfl,?_⟩))
 have g:=cl.gn
 haveI T:=t.tr
 refine d7 (iB (fk (ev_var rfl) ai λQ q=>CE (by decide) q) (k9 g rfl) (f12 t.le λnm N=>⟨cz rfl,?_⟩))
 refine eO T.top λx0 h0 _ hd0=>?_
 haveI hl:=(ae.mp h0).1
 refine bL (gT (l:=bo ns.length) (f:=ni) (g:=λk=>bd ns nm (CF ns k) k) (bw (k9 g rfl) (fM (BC (aa t.le (by decide))))) (congrArg some uX) (by rw [cj];exact aa t.le (by decide)) λk hk=>fR (ev_var rfl) (ev_var rfl) (ev_var rfl) λQ q=>?_) (cz rfl) ?_
 ·refine (⟨_,aH (cb.mp hk)⟩:∃x,ns[k]? =some x).elim λx hx=>?_
  haveI e:CF ns k=8-x.deep:=congrArg (λt:Option Nd=>t.elim 0 λx=>8-x.deep) hx
  haveI d:=aa (T.lim k x hx).dp (show(if x.w=true then 6 else 7)<=7 by cases x.w<;>decide)
  rw [e]at q
  exact Fx (m:=8-x.deep+1) (aa (ax (db _ _)) (aa (by decide:9<=12) (bP _ _))) (f18 T g hx (mz (aa d (by decide))) q)
 haveI e7:CF ns 0=7:=(congrArg (λt:Option Nd=>t.elim 0 λx=>8-x.deep) h0).trans (show 8-x0.deep=7 by rw [hd0])
 refine n1 (show fw PL (aG PL (n+12)) [_,_,_,_,_] _ _ _ _ from ev_var (P:=PL) (C:=aG PL (n+12)) (X:=X) (v:=.ref (H.length+2)) rfl _ (ev_var (P:=PL) (C:=aG PL (n+12)) (X:=X) (v:=CN nm ns.length) rfl _ (ev_var (P:=PL) (C:=aG PL (n+12)) (X:=X) (v:=.lst ((bo ns.length).map λk=>bd ns nm (CF ns k) k)) rfl _ (ev_p2 (P:=PL) (C:=aG PL (n+12)) (X:=X) (z:=bd ns nm 7 0) (ev_var rfl) ai ?_ _ (iB (ev_var rfl) ai (f15 t g h0 (hd0.symm▸rfl) (hE rfl (q ns nm H'.length _ t N (λp hp=>da (g p hp)) dS))))))))
 refine(ik (j:=0) (v:=bd ns nm (CF ns 0) 0) ?_).trans (by rw [e7])
 rw [aZ,gJ hl];rfl
theorem f19(q:∀ns nm o H',Tree ns->Nms ns.length nm->GN (H.length+2) ns H'->H'[o]? =some (.list ((sub ns 7 0).map ni))->Q (mX (H.length+2) ns nm o) H'):aG PL (n+13) 17 [.lst (zs.map V.int)] H Q X:=by
 refine cf Cb rfl (bL (fk (ev_var rfl) ai λQ q=>CE (by decide) q) (cz rfl) ?_)
 generalize zs.getD _ 0=z
 refine eO (n30 (a:=z)) λm em h2 hm=>bL (v:=ni m) (ca (ev_p2 ai (ev_p2 (ev_var rfl) ai (cT (by decide))) dT) (congrArg V.int em)) (cz rfl) ?_
 exact cr (ev_p2 (ev_p2 (ev_p2 (ev_var rfl) ai (cN (by decide) (by decide))) ai (cT (by decide))) ai (eD b9 b9)) (λ_=>bL (v:=ni 30) ai (cz rfl) (Ds (by decide) (aA _) q)) λ_=>Ds h2 hm q
noncomputable def wkP(ns:List Nd)(k:Nat):Bool:=!(ns[k]?).any Nd.w
end
section
variable {π:PI}{σ:Ad}{n:Nat}{S:Hst}{H:AH}{Q:QE}{X:XE}{m:Nm}
theorem f8v{r:Nat}{hrs:List Int}{a b:Int}(h:H[r]? =some (.list (hrs.map V.int)))(hl:hrs.length<=au)(q:Q (.lst ((hrs.filter λz=>decide (a-b<z)).map V.int)) H):aG PL (n+1) 8 [.ref r,.int a,.int b] H Q X:=
 cf CY rfl (ev_ret (io (l:=hrs) (f:=V.int) (g:=V.int) (p:=λz=>decide (a-b<z)) (ev_var rfl) (fZ h) hl (λ_ _=>a9 rfl) λ_ _ _=>ev_var rfl) q)
theorem f44(h:Hs σ S H)(q:Q (.int S.clock) H):aG PL (n+1) 44 [.ref σ.i] H Q X:=cf AA rfl (ev_ret (fF h rfl rfl) q)
theorem FZ(pl:Pl π σ)(h:Hs σ S H)(q:Q (.lst ((σ.names.filter (here S)).map V.str)) H):aG PL (n+1) 45 [.ref σ.i] H Q X:=
 cf Cn rfl (ev_ret (io (l:=σ.names) (f:=V.str) (g:=V.str) (fF h rfl rfl) (fZ (h.get 2 rfl)) (aa pl.le (by decide)) (λm _=>rY h rfl (ev_var rfl)) λ_ _ _=>ev_var rfl) q)
theorem FX(h:Hs σ S H)(hb:S.ev.length<=900000)(q:Q (.lst (S.ev.map Evt.v)) H):aG PL (n+1) 46 [.ref σ.i] H Q X:=
 cf Cc rfl (ev_ret (bw (fF h rfl rfl) (by
  refine(?_:((H[σ.ev]?.bind O.lst).bind _).map _=_)
  rw [h.get 9 rfl]
  refine(?_:(if(S.ev.map Evt.v).length<=au then some _ else none:Option V).map _=_)
  rw [if_pos (aa (aq (ak _)) (aa hb (by decide)))];rfl)) q)
theorem FY(pl:Pl π σ)(h:Hs σ S H)(iv:Iv π S)(hL:S.letters<=110)(hm:π.isW m=some false)(q:Q (.lst ((qS S m).map λp=>ni p.1)) H):aG PL (n+3) 47 [.ref σ.i,.str m] H Q X:=by
 have hq:=(iv.qk m).mpr hm
 refine(lS hq).elim λx ex=>cf Cr rfl (iI h rfl rfl (ev_var rfl) (f38 h (pl.ok m (vG pl hm)) hq ?_))
 haveI hx:=h.qp _ (iH ex)
 rw [xV ex]at q
 exact ev_ret (gT (l:=x.2) (f:=D9) (g:=λp=>ni p.1) (Dk h rfl rfl ex) (fZ hx.2.1) (aa hx.2.2 (aa hL (by decide))) λ_ _=>a9 rfl) q
theorem Gs(pl:Pl π σ)(h:Hs σ S H)(iv:Iv π S)(hw:π.isW m=some true)(hh:here S m=true)(hb:S.ev.length<=900000)(q:Q (.lst (((j4 S m).filter λz=>decide (S.clock-π.sp m<z)).map V.int)) H):aG PL (n+2) 49 [.ref σ.i,.str m] H Q X:=by
 have hm:=pl.nm m (congrArg gc hw)
 refine mJ (pl.pt m hm) λd k v hd rt en ed=>(lS (iv.gd.kw m hh hw)).elim λx ex=>?_
 haveI hk:=h.kp _ (iH ex)
 haveI ek:j4 S m=x.2:=by unfold j4;rw [ex];rfl
 haveI md:=rt.rd.md v (vA rt.rd.pt)
 have z:=BB (G:=λv=>aU PL false .item [v,.int 0] H=some (.str wd,H)/\aU PL false .item [v,.int 4] H=some (.int (spV v),H)) rt.rd.pt (en.symm▸hw) λ_ _ _ _ _=>⟨rfl,rfl⟩
 have hv:∀{C X},Ev PL C [some (.ref σ.i),some (.str m)] H X (.prim false .item [(wP ['p','a','r','t','s']),.var 1]) v:=λ{C X}=>ev_p2 (fF h rfl rfl) (ev_var rfl) (m8 (h.get 3 rfl) ed)
 refine cf BR rfl (cJ (bT (s:=false) (t:=false) (bG (s:=true) (bU (ev_var rfl) λQ q=>f2 (pl.ok m hm) q)) λ_=>bT (s:=false) (t:=false) (ca (ev_p2 (ev_var rfl) (fF h rfl rfl) (j8 (h.get 3 rfl))) (congrArg (λt=>V.bool (!t)) (aR.mpr hm))) λ_=>ev_p2 (ev_p2 hv ai z.1) ai rfl) (iI h rfl rfl (ev_var rfl) (Ec h hh (n1 (lL (ev_p2 (fF h rfl rfl) (ev_var rfl) (qt (val:=Go) (h.get 7 rfl) ex)) (fF h rfl rfl) (ev_p2 hv ai z.2) (f8v hk.2.1 (aa hk.2.2 (aa iv.gd.ll (aa hb (by decide)))) ?_))))))
 rw [<-en,<-md.sp,en,<-ek];exact q
end
theorem ro{ws:List Nm}{v:V}(h:l7 ws v=true):∃s,v=.str s/\s∈ws:=by
 refine ea1_2 (jr.mp h) λy hy e=>ea1_2 (az.mp hy) λs hs z=>?_
 subst z
 refine⟨s,?_,hs⟩
 cases v<;>first|exact absurd e ag|exact congrArg V.str (beq_iff_eq.mp e).symm
theorem xC{v:V}(h:na v=true):∃a s t r,v=.tup (.str a::.str s::.str t::r)/\qw s=true:=by
 rcases cR.mp h with h|h
 ·obtain ⟨s,c,e,hs,hc⟩:=rx h
  exact ea1_2 (ro hc) λt z _=>⟨wk,s,t,[],z▸e,hs⟩
 ·obtain ⟨s,c,d,f,ps,e,hs,hc,_⟩:=i8 h
  exact ea1_2 (ro hc.1) λt z _=>⟨wd,s,t,[d,f,.tup ps],z▸e,hs⟩
section
variable {n:Nat}{v:V}{H:AH}{Q:QE}{X:XE}{C:Calls}{ρ:Fm}{e:Ex}
theorem Fq(hv:v.data=true)(q:Q (.bool v.num.isSome) H):aG PL (n+1) 10 [v] H Q X:=by
 refine cf Bh rfl ?_
 cases v<;>first|exact absurd hv ag|exact ev_ret (a9 rfl) q
theorem zW{a:Int}(hv:v.data=true)(he:Ev PL (aG PL (n+1)) ρ H X e v):Ev PL (aG PL (n+1)) ρ H X (.or (.prim false .not [.call 10 [e]]) (.prim false .not [.cmp2 (.cst (.int a)) .le e .le (.prim false (.bop .pow) [.cst (.int 10),.cst (.int 9)])])) (.bool !(cq a 1000000000 v)):=by
 unfold cq
 refine optE (o:=v.num) (λz=>?_) λi z=>?_
 ·rw [z]
  exact bT (s:=true) (t:=true) (bG (s:=false) (bU he λQ q=>Fq hv (z.symm▸q))) nofun
 ·haveI z:=vC z
  subst z
  exact bT (s:=false) (bG (s:=true) (bU he λQ q=>Fq rfl q)) λ_=>bG (kC ai he (ev_p2 ai ai ny))
theorem xA{f:V->Bool}{l:List V}:fN (.lst ((l.filter λc=>!f c).map λc=>c)) (.lst [])=l.all f:=by
 refine(?_:oa _ []=_)
 induction l with
 |nil=>rfl
 |cons c s ih=>
  cases hc:f c with
  |true=>rw [fu (by rw [hc];exact ag),iV,hc];exact ih
  |false=>rw [ft (by rw [hc];rfl),iV,hc];rfl
theorem wC{vs:List V}(h:∀v∈vs,DT v):rd H (.lst vs)=some (.lst vs):=by
 haveI z:=gP h
 exact if_pos (aj.mpr ⟨z.1,decide_eq_true (aa (ax z.2) (by decide))⟩)
end
theorem E4{vs:List V}(h1:vs.length=6)(h2:fN (ee vs 0) (.str wd)=true)(h3:je (ee vs 1)=true)(h4:l7 dD (ee vs 2)=true)(h5:cq 0 1000000000 (ee vs 3)=true)(h6:cq 1 1000000000 (ee vs 4)=true)(h7:kG (ee vs 5)=true):eL (.tup vs)=true:=by
 refine(?_:(decide (vs.length=6)&&(fN (ee vs 0) (.str wd)&&(je (ee vs 1)&&(l7 dD (ee vs 2)&&(cq 0 1000000000 (ee vs 3)&&(cq 1 1000000000 (ee vs 4)&&kG (ee vs 5)))))))=true)
 rw [decide_eq_true h1,h2,h3,h4,h5,h6,h7];rfl
theorem yg{k:Nat}{v:V}(h:eL v=false):dg (k+1) v=gh v:=by
 refine(?_:((gh v||eL v)&&_)=_)
 rw [h]
 cases e:gh v with
 |false=>rfl
 |true=>rw [(jI e).1];rfl
theorem D3{v:V}(h:gh v=false):dg 1 v=false:=by
 refine(?_:((gh v||eL v)&&(kids v).all λ_=>false)=false)
 cases e:eL v with
 |false=>rw [h];rfl
 |true=>
  haveI l:=(rO e).1
  cases hk:kids v with
  |nil=>rw [hk]at l;exact absurd l (by decide)
  |cons c cs=>rw [iV,tF,kM]
theorem BQ{C:Calls}{ρ:Fm}{H:AH}{X:XE}{e:Ex}{w:V}(h:DT w)(he:Ev PL C ρ H X e w):Ev PL C ρ H X (.or (.prim false .not [.prim false (.isinst .tuple) [e]]) (.prim false .not [.cmp2 (.cst (.int 1)) .le (.prim false .len [e]) .le (.cst (.int 8))])) (.bool !(kG w)):=by
 unfold kG
 refine optE (o:=w.tpl) (λz=>?_) λvs z=>?_
 ·rw [z]
  exact bT (s:=true) (t:=true) (ca (bG (jg h.1 he)) (by rw [z];rfl)) nofun
 ·haveI z:=jb z
  subst z
  exact bT (s:=false) (bG (s:=true) (jg h.1 he)) λ_=>bG (kC ai (bw he fi) ai)
theorem Dx{k n a:Nat}{v:V}{H:AH}{Q:QE}{X:XE}(ih:0<k->∀c∈kids v,DT c->∀{Q:QE} {X:XE},Q (.bool (dg k c)) H->aG PL (n+1) 19 [c,.int (a+1:Nat)] H Q X)(hv:DT v)(hk:k+1+a=7)(q:Q (.bool (dg (k+1) v)) H):aG PL (n+2) 19 [v,.int a] H Q X:=by
 have no:(na v=true->False)->Q (.bool false) H:=λh=>(show dg (k+1) v=false from by
  refine(?_:(na v&&_)=false)
  rw [fK.mpr h];rfl)▸q
 refine cf AO rfl (optE (o:=v.tpl) (λz=>?_) λvs z=>?_)
 ·exact dG (bT (s:=true) (t:=true) (ca (bG (jg hv.1 (ev_var rfl))) (by rw [z];rfl)) nofun) (ev_ret ai (no λh=>by
   obtain⟨_,_,_,_,e,_⟩:=xC h
   rw [e]at z;exact du z.symm))
 haveI z:=jb z
 subst z
 by_cases l:3<=vs.length
 ·have m:∀{j},j<vs.length->DT (ee vs j):=λh=>hv.mem (nJ h)
  have i:∀{P C X} {j:Nat},j<vs.length->Ev P C [some (.tup vs),some (.int a)] H X (.prim false .item [.var 0,.cst (.int j)]) (ee vs j):=λh=>oJ (ev_var rfl) h
  have l0:0<vs.length:=aJ (by decide) l
  have l1:1<vs.length:=aJ (by decide) l
  refine cr (bT (s:=false) (a9 rfl) λ_=>bT (s:=false) (ca (ev_p2 (bw (ev_var rfl) fi) ai i7) (congrArg V.bool (decide_eq_false (cg.mpr (aX.mpr l))))) λ_=>bT (bG (nZ (m l0).1 (i (j:=0) l0))) λ_=>bG (bU (i (j:=1) l1) λQ q=>g18 (m l1).1 q)) (λh=>ev_ret ai (no λz=>?_)) λh=>?_
  ·obtain ⟨_,s,_,_,e,hs⟩:=xC z
   haveI e:=V.tup.inj e
   subst e
   haveI h:(!qw s)=true:=h
   exact absurd (g7 h▸hs) ag
  haveI h:(!(ee vs 0).txt.isSome|| !je (ee vs 1))=false:=h
  have h1:je (ee vs 1)=true:=gb (cC.mp h).2
  clear h
  refine cr (bG (nZ (m l).1 (i (j:=2) l))) (λh=>ev_ret ai (no λz=>?_)) λ_=>?_
  ·obtain ⟨_,s,_,_,e,hs⟩:=xC z
   haveI e:=V.tup.inj e
   subst e
   exact absurd h ag
  refine cr (ev_p2 (i (j:=0) l0) ai (eD (pI (m l0)) gR)) (λh2=>?_) λh2=>?_
  ·refine ev_ret (cI (ev_p2 (bw (ev_var rfl) fi) ai (eD b9 b9)) λ_=>yV (m l) (i (j:=2) l)) ?_
   haveI e:dg (k+1) (.tup vs)=(fN (.int vs.length) (.int 3)&&l7 fA (ee vs 2)):=by
    rw [yg (show eL (.tup vs)=false from ?_)]
    ·refine (?_:(decide (vs.length=3)&&(fN (ee vs 0) (.str wk)&&(je (ee vs 1)&&l7 fA (ee vs 2))))=_)
     rw [show fN (ee vs 0) (.str wk)=true from h2,h1,show fN (.int vs.length) (.int 3)=decide (vs.length=3)from decide_eq_decide.mpr ma];rfl
    ·refine (?_:(_&&(fN (ee vs 0) (.str wd)&&_))=false)
     rw [(qP h2:ee vs 0=.str wk),show fN (.str wk) (.str wd)=false from rfl,tF,kM]
   exact e▸q
  have nk:gh (.tup vs)=false:=by
   refine(?_:(_&&(fN (ee vs 0) (.str wk)&&_))=false)
   rw [show fN (ee vs 0) (.str wk)=false from h2,tF,kM]
  have no:(eL (.tup vs)=true->False)->Q (.bool false) H:=λh=>no λz=>h ((cR.mp z).resolve_left λz=>absurd (nk.symm.trans z) ag)
  refine cr (bT (ev_p2 (i (j:=0) l0) ai (fE (pI (m l0)) gR)) λ_=>bT (ev_p2 (bw (ev_var rfl) fi) ai (fE b9 b9)) λ_=>bT (ev_p2 (ev_var rfl) ai kJ) λ_=>wy (m l) (i (j:=2) l)) (λh=>ev_ret ai ?_) λh=>?_
  ·cases k with
   |zero=>exact(D3 nk:dg 1 _=false)▸q
   |succ j=>
    refine no λz=>?_
    obtain⟨s,c,d,f,ps,e,hs,hc,_⟩:=i8 z
    haveI e:=V.tup.inj e
    subst e
    haveI h:(decide ((5:Int)<a)|| !(l7 dD c))=true:=h
    rcases cR.mp h with h|h
    ·exact absurd (of_decide_eq_true h) (cg.mpr (aX.mpr (aa (bP a j) (aq (dk (dk ((bg j a 2).trans hk)))))))
    ·exact absurd ((g7 h).symm.trans hc.1) ag
  have h:=cC.mp h
  have h3:=cC.mp h.2
  have h4:=cC.mp h3.2
  have l6:vs.length=6:=ma.mp (beq_iff_eq.mp (gb h3.1))
  have ll:∀{j},j<6->j<vs.length:=λh=>l6▸h
  refine cr (zW (m (ll (by decide))).1 (i (j:=3) (ll (by decide)))) (λh=>ev_ret ai (no λz=>?_)) λh5=>?_
  ·obtain ⟨s,c,d,f,ps,e,hs,hc,_⟩:=i8 z
   haveI e:=V.tup.inj e
   subst e
   exact absurd ((g7 h).symm.trans hc.2.1) ag
  refine cr (zW (m (ll (by decide))).1 (i (j:=4) (ll (by decide)))) (λh=>ev_ret ai (no λz=>?_)) λh6=>?_
  ·obtain ⟨s,c,d,f,ps,e,hs,hc,_⟩:=i8 z
   haveI e:=V.tup.inj e
   subst e
   exact absurd ((g7 h).symm.trans hc.2.2) ag
  refine cr (BQ (m (ll (by decide))) (i (j:=5) (ll (by decide)))) (λh=>ev_ret ai (no λz=>?_)) λh7=>?_
  ·obtain ⟨s,c,d,f,ps,e,hs,hc,hp⟩:=i8 z
   haveI e:=V.tup.inj e
   subst e
   exact absurd ((g7 h).symm.trans (aj.mpr ⟨decide_eq_true (aX.mpr hp.1),decide_eq_true (aX.mpr hp.2)⟩)) ag
  have hd:eL (.tup vs)=true:=E4 l6 (gb h.1) h1 (gb h4.2) (gb h5) (gb h6) (gb h7)
  have hi:na (.tup vs)=true:=cR.mpr (.inr hd)
  have hk0:0<k:=by
   cases k with
   |zero=>exact absurd h4.1 (by rw [show a=6 from dk ((dq a 1).trans hk)];decide)
   |succ k=>exact gZ k
  refine ev_ret (ca (ev_p2 (io (l:=kids (.tup vs)) (f:=λc=>c) (g:=λc=>c) (p:=λc=>!dg k c) (qG hd (ev_var rfl)) (congrArg some (d5 _).symm) (aa (j6 hi) (by decide)) (λc hc=>bG (fk (ev_var rfl) (ev_p2 (ev_var rfl) ai dT) λQ q=>ih hk0 c hc (nH hv hi c hc) q)) λc _ _=>ev_var rfl) (sy (fB (aM _))) (eD (wC λc hc=>nH hv hi c (List.mem_filter.mp ((d5 _:List.map (λc=>c) _=_)▸hc)).1) ff)) (congrArg V.bool xA)) ?_
  rw [show dg (k+1) (.tup vs)=(na (.tup vs)&&(kids (.tup vs)).all (dg k))from rfl,hi]at q
  exact q
 ·exact dG (bT (s:=false) (t:=true) (a9 rfl) λ_=>bT (s:=true) (t:=true) (ca (ev_p2 (bw (ev_var rfl) fi) ai i7) (congrArg V.bool (decide_eq_true (bZ.mpr (Nat.lt_of_not_le l))))) nofun) (ev_ret ai (no λh=>by
   obtain⟨_,_,_,r,e,_⟩:=xC h
   rw [V.tup.inj e]at l
   exact l (bP 3 r.length)))
theorem g19{k:Nat}:∀{n a:Nat} {v:V} {H:AH} {Q:QE} {X:XE},DT v->k+1+a=7->Q (.bool (dg (k+1) v)) H->aG PL (n+k+2) 19 [v,.int a] H Q X:=by
 induction k with
 |zero=>exact λhv hk q=>Dx (λh=>absurd h (b6 0)) hv hk q
 |succ k ih=>exact λ{n a _ _ _ _} hv hk q=>Dx (n:=n+k+1) (λ_ c _ hd {_ _} q=>ih hd ((bg (k+1) 1 a).symm.trans hk) q) hv hk q
noncomputable def bnN:Nat->Nat
 |0=>0
 |k+1=>8*bnN k+1
theorem Eg{α β:Type}{f:α->List β}{B:Nat}{l:List α}(h:∀c∈l,(f c).length<=B):(l.flatMap f).length<=l.length*B:=by
 induction l with
 |nil=>exact aM _
 |cons c l ih=>
  rw [bz,af,bQ,Nat.succ_mul,dq]
  exact bK (ih λx hx=>h x (.tail _ hx)) (h c (.head _))
theorem Bx{k:Nat}{v:V}(h:dg (k+1) v=true):na v=true/\∀c∈kids v,dg k c=true:=
 haveI h:=aj.mp (h:(na v&&(kids v).all (dg k))=true)
 ⟨h.1,a8.mp h.2⟩
theorem uy{k:Nat}:∀{v:V},dg k v=true->(nms k v).length<=bnN k:=by
 induction k with
 |zero=>exact λh=>absurd h ag
 |succ k ih=>
  intro v h
  haveI h:=Bx h
  exact ax (aa (Eg λc hc=>ih (h.2 c hc)) (Nat.mul_le_mul_right _ (j6 h.1)))
theorem uv{P:Prog}{H:AH}{vs:List V}(h:vs.length<=au):aU P false .list [.tup vs] H=some (.lst vs,H):=by
 show ba _ (if vs.length<=au then some (V.lst vs)else none)=_
 rw [if_pos h];rfl
abbrev tN(p:Nat×V):List Nm:=nms p.1 p.2
theorem B0{td:List (Nat×V)}(h:∀p∈td,∃k,p.1=k+1):td.length<=(td.flatMap tN).length:=by
 induction td with
 |nil=>exact aA _
 |cons p td ih=>
  rw [bz,af,bQ,dq]
  refine bK ((h p (.head _)).elim λf e=>?_) (ih λy hy=>h y (.tail _ hy))
  refine(?_:1<=(nms p.1 p.2).length)
  rw [e];exact ax (aM _)
def IA(v:V)(H:AH)(N:Nat)(ρ:Fm)(H':AH):Prop:=
 ∃(td:List (Nat×V)) (dn:List Nm) (o:Option V),ρ=[some v,some (.ref H.length),some (.lst (td.map (·.2))),o]/\H'=H++[.list (dn.map V.str)]/\dn++td.flatMap tN=nms 7 v/\(td.flatMap tN).length=N/\∀p∈td,DT p.2/\dg p.1 p.2=true
theorem g20{n:Nat}{v:V}{H:AH}{Q:QE}{X:XE}(hv:DT v)(hp:dg 7 v=true)(q:Q (.ref H.length) (H++[.list ((nms 7 v).map V.str)])):aG PL (n+1) 20 [v] H Q X:=by
 refine cf BG rfl (d7 (jf ⟨cz rfl,bL (bw (ev_var rfl) (fB tI)) (cz rfl) ?_⟩))
 have tot:(nms 7 v).length<=299593:=uy hp
 refine jD (IA v H) (λN ρ' H' hI=>kF hI λtd dn o e eh ed eN hx=>?_) ⟨[(7,v)],[],none,rfl,rfl,aN _,rfl,cW ⟨hv,hp⟩⟩
 subst e eh
 have sz:∀{td':List (Nat×V)},(∀p∈td',dg p.1 p.2=true)->(td'.flatMap tN).length<=(nms 7 v).length->td'.length<=au:=λh l=>aa (B0 λp hp=>by
  haveI h:=h p hp
  cases hk:p.1 with
  |zero=>rw [hk]at h;exact absurd h ag
  |succ k=>exact⟨k,rfl⟩) (aa l (aa tot (by decide)))
 refine⟨_,ev_p2 (ev_var rfl) (a9 rfl) (fE (wC λc hc=>ea1_2 (az.mp hc) λp hp e=>e▸(hx p hp).1) ff),λhc K' hK=>?_,λhc=>?_⟩
 ·cases td with
  |nil=>exact absurd hc ag
  |cons p td=>
   obtain⟨k,w⟩:=p
   have hw:=hx (k,w) (.head _)
   cases k with
   |zero=>exact absurd hw.2 ag
   |succ k=>
   have hn:=Bx hw.2
   rw [bz,show tN (k+1,w)=ao w::(kids w).flatMap (nms k)from rfl]at ed eN
   have le:=congrArg dU ed
   rw [af,pZ,bQ]at le
   refine bL (ev_p2 (ev_var rfl) ai zP) (cz rfl) (ly (ev_var rfl) (dX dS) (nB hn.1 (ev_var rfl)) (hE (fe dS ?_) ?_))
   ·rw [ak]
    exact aa (ay _ _) (aa (aq le) (aa tot (by decide)))
   rw [rm,show dn.map V.str++[.str (ao w)]=(dn++[ao w]).map V.str from(aO (f:=V.str) (l₁:=dn) (l₂:=[ao w])).symm]
   have hx':∀p∈td,DT p.2/\dg p.1 p.2=true:=λp hp=>hx p (.tail _ hp)
   have hk':∀p∈(kids w).map (λc=>(k,c))++td,DT p.2/\dg p.1 p.2=true:=cM (λp hp=>ea1_2 (az.mp hp) λc hc e=>e▸⟨nH hw.1 hn.1 c hc,hn.2 c hc⟩) hx'
   have ei:((kids w).map (λc=>(k,c))++td).flatMap tN=(kids w).flatMap (nms k)++td.flatMap tN:=by rw [bl];exact congrArg (·++td.flatMap tN) (dQ ..)
   have l1:((kids w).flatMap (nms k)++td.flatMap tN).length+1<=(nms 7 v).length:=aa (bP _ _) (aq le)
   have s1:=sz (λp hp=>(hk' p hp).2) (ei▸iT l1)
   have fin:∀x,K' [some v,some (.ref H.length),some (.lst (((kids w).map (λc=>(k,c))++td).map (·.2))),x] (H++[.list ((dn++[ao w]).map V.str)]):=λx=>hK _ _ ((kids w).flatMap (nms k)++td.flatMap tN).length (Fw (aq eN)) ⟨(kids w).map (λc=>(k,c))++td,dn++[ao w],x,rfl,rfl,by rw [ei,a7];exact ed,congrArg dU ei,hk'⟩
   refine bL (fc (ev_var rfl) ai ai ((o9 ?_).trans (congrArg (λt=>some (V.lst t,H++[O.list ((dn++[ao w]).map V.str)])) rf))) (cz rfl) (cr (ev_p2 (rM hn.1 (ev_var rfl)) ai (eD gR gR)) (λh=>?_) λh=>?_)
   ·rw [ak]
    exact sz (λp hp=>(hx p hp).2) (aa (aq eN) (eN▸l1))
   ·cases hb:eL w with
    |false=>rw [hb]at h;exact absurd h (by decide)
    |true=>
    refine bL (ev_p2 (bw (qG hb (ev_var rfl)) (uv (aa (j6 hn.1) (by decide)))) (ev_var rfl) (nI ?_)) (cz rfl) ?_
    ·rw [ak]
     rw [af,ak]at s1
     exact s1
    ·haveI f:=fin (some w)
     rw [aO,bp,show(kids w).map ((·.2)∘λc=>(k,c))=kids w from d5 _]at f
     exact f
   ·cases hb:eL w with
    |true=>rw [hb]at h;exact absurd h (by decide)
    |false=>
    haveI f:=fin (some w)
    rw [(jI ((cR.mp hn.1).resolve_right λz=>absurd (hb.symm.trans z) ag)).1]at f
    exact f
 ·cases td with
  |nil=>
   refine ev_ret (ev_var rfl) ?_
   rw [<-ed,dP,aN]at q
   exact q
  |cons p td=>exact absurd hc (eX:¬true=false)
theorem tY{ns:List Nm}:oq (ns.map V.str)=some ns:=by
 induction ns with
 |nil=>rfl
 |cons a ns ih=>exact congrArg (ba (a::·)) ih
theorem t7{P:Prog}{H:AH}{r:Nat}{ns:List Nm}{k:Nm}(h:H[r]? =some (.list (ns.map V.str))):aU P false .count [.ref r,.str k] H=some (.int (ns.count k),H):=by
 refine(?_:((H[r]?.bind O.lst).bind oq).map _=_)
 rw [h]
 exact congrArg (ba λss:List Nm=>(V.int (ss.count k),H)) tY
theorem Ba{ns:List Nm}:fN (.lst ((ns.filter λk=>decide ((1:Int)<ns.count k)).map V.str)) (.lst [])=true↔ns.Nodup:=by
 haveI e:fN (.lst ((ns.filter λk=>decide ((1:Int)<ns.count k)).map V.str)) (.lst [])=true↔ns.filter (λk=>decide ((1:Int)<ns.count k))=[]:=by
  cases ns.filter λk=>decide ((1:Int)<ns.count k)with
  |nil=>exact⟨λ_=>rfl,λ_=>rfl⟩
  |cons a l=>exact⟨nofun,nofun⟩
 rw [e,jY,List.nodup_iff_count]
 refine⟨λh k=>?_,λh k _ z=>b6 _ (aJ (bZ.mp (of_decide_eq_true z)) (h k))⟩
 by_cases hk:k∈ns
 ·exact fT λz=>h k hk (decide_eq_true (bZ.mpr z))
 ·rw [List.count_eq_zero.mpr hk];exact aM _
theorem g21{n:Nat}{v:V}{H:AH}{Q:QE}{X:XE}(hv:DT v)(q:∀b H',Kp H H'->(b=true↔PV v)->Q (.bool b) H'):aG PL (n+10) 21 [v] H Q X:=by
 have no:¬PV v->Q (.bool false) H:=λh=>q _ _ Kp.refl ⟨nofun,λz=>absurd z h⟩
 have c19:Ev PL (aG PL (n+9)) [some v,none] H X (.call 19 [.var 0,.cst (.int 0)]) (.bool (dg 7 v)):=fk (ev_var rfl) ai λQ q=>g19 (k:=6) (n:=n+1) (a:=0) hv rfl q
 refine cf BJ rfl ?_
 cases hp:dg 7 v with
 |false=>exact dG (bT (s:=true) (t:=true) (bG (s:=false) (hp▸c19)) nofun) (ev_ret ai (no λh=>absurd (hp.symm.trans h.2.1) ag))
 |true=>
 have hn:=(Bx hp).1
 have hd:=rM (P:=PL) (C:=aG PL (n+9)) (X:=X) (ρ:=[some v,none]) (e:=.var 0) hn (H:=H) (ev_var rfl)
 cases hb:eL v with
 |false=>
  rw [hb]at hd
  exact dG (bT (s:=false) (t:=true) (bG (s:=true) (hp▸c19)) λ_=>ev_p2 hd ai (fE gR gR)) (ev_ret ai (no λh=>absurd (hb.symm.trans h.1) ag))
 |true=>
 rw [hb]at hd
 refine cJ (bT (s:=false) (t:=false) (bG (s:=true) (hp▸c19)) λ_=>ev_p2 hd ai (fE gR gR)) (d7 (fo (ev_var rfl) (g20 hv hp ⟨cz rfl,?_⟩)))
 have hl:(nms 7 v).length<=au:=aa (uy hp) (by decide)
 refine ev_ret (cI (ev_p2 (bw (ev_var rfl) (jN dS)) ai EN) λ_=>ev_p2 (io (l:=nms 7 v) (f:=V.str) (g:=V.str) (p:=λk=>decide ((1:Int)<(nms 7 v).count k)) (ev_var rfl) (fZ dS) hl (λk _=>ev_p2 (λQ q=>pd (ev_var rfl) (dX dS) (ev_var (v:=.str k) rfl _ (hE (t7 dS) q))) ai kJ) λk _ _=>ev_var rfl) (sy (fB (aM _))) (eD rJ ff)) (q _ _ Kp.new ?_)
 rw [aj,Ba,decide_eq_true_iff,ak]
 exact⟨λh=>⟨hb,hp,h.2,aX.mp h.1⟩,λh=>⟨aX.mpr h.2.2.2,h.2.2.1⟩⟩
section
variable {P:Prog}{C:Calls}{ρ:Fm}{H:AH}{X:XE}{Q:QE}{K:KS}{R:QE}{ss:List St}
theorem r4{a:Ex}{x:V}{c f:Nat}(ha:Ev P C ρ H X a x)(k:C f [.ref (H.length+1),x] (H++[.ns [] [],.inst c H.length]) (λv H'=>v=.none/\Q (.ref (H.length+1)) H') X):cH P C (.new c f [a]) ρ H Q X:=ha _ k
theorem xO{e h:Ex}{cls i:Nat}(w:cH P C e ρ H (λ_ H'=>bh P C ss ρ H' K R X) (λc H'=>(P.sub c c&&P.sub c cls)=true/\cH P C h (ρ.set i (some (.exc c))) H' R (λ_ _=>False))):bh P C (.tryE e cls i h::ss) ρ H K R X:=w
end
section
variable {n:Nat}{v:V}{H:AH}{Q:QE}{X:XE}
theorem f24(q:Q (.lst [.int 0]) H):aG PL (n+1) 24 [.exc 1] H Q X:=by
 refine cf Ao rfl (bL (zh (bw (ev_var rfl) rfl) (bw (ev_var rfl) rfl) (bw (ev_var rfl) rfl) (bw (ev_var rfl) rfl) (fB (av rfl))) (cz rfl) (bL (ev_p2 (ev_var rfl) (zh (bw (ev_var rfl) rfl) (bw (ev_var rfl) rfl) (bw (ev_var rfl) rfl) (bw (ev_var rfl) rfl) (fB (av rfl))) (nI (av rfl))) (cz rfl) ?_))
 refine bL (io (l:=bo 8) (f:=λi=>.int (i:Nat)) (g:=λi=>.int (i:Nat)) (p:=λi=>decide (i=0)) (bw ai (fM (by decide))) rfl (by decide) (λi hi=>ev_p2 (ev_var rfl) (ev_var rfl) (ik ?_)) λ_ _ _=>ev_var rfl) (cz rfl) (cJ (bG (s:=true) (bw (ev_var rfl) rfl)) (ev_ret (ev_var rfl) q))
 exact(am.mpr ⟨rfl,am.mpr ⟨rfl,am.mpr ⟨rfl,am.mpr ⟨rfl,am.mpr ⟨rfl,am.mpr ⟨rfl,am.mpr ⟨rfl,cW rfl⟩⟩⟩⟩⟩⟩⟩:∀i∈[0,1,2,3,4,5,6,7],([.bool true,.bool false,.bool false,.bool false,.bool false,.bool false,.bool false,.bool false]:List V)[i]? =some (.bool (decide (i=0)))) i hi
theorem Gi{r:V}(hv:DT v)(hn:¬PV v)(q:∀H',X 1 H'):aG PL (n+4) 29 [r,v] H Q X:=
 cf wb rfl (uB (fo (ev_var rfl) (g6 hv (λ_=>hE rfl (q _)) λb o₁ o₂ e=>by
  cases b with
  |false=>exact hE rfl (q _)
  |true=>exact absurd (e.mp rfl) hn)))
theorem f27(hv:DT v)(hn:¬PV v)(q:∀H',Q (.bool true) H'):aG PL (n+5) 27 [v] H Q X:=
 cf Ay rfl (xO (r4 (ev_var rfl) (Gi hv hn λH'=>⟨rfl,ev_p2 (bU (ev_var rfl) λQ q=>f24 q) (bw ai (fB tI)) (eD (x':=.lst [.int 0]) (y':=.lst [.int 0]) rfl rfl) _ (q H')⟩)))
end
section
variable {P:Prog}{C:Calls}{ρ:Fm}{H:AH}{X:XE}{Q:QE}{K:KS}{ss:List St}
theorem nE{es:List Ex}{vs:List V}(h:DY P C ρ H X es vs)(l:vs.length<=1000):Ev P C ρ H X (.prim false .mklist es) (.lst vs):=q8 h (fB (aa l (by decide)))
theorem lX{xs:List V}{c:Int}{m:Nat}{e b:Ex}(he:Ev P C ρ H X e (.lst xs))(hc:Ev P C ρ H X b (.int (c%m)))(hl:xs.length=m)(hm:0<m)(hq:∀w∈xs,Q w H):bh P C (.ret (.prim false .item [e,b])::ss) ρ H K Q X:=by
 have hm':(0:Int)<m:=bZ.mpr hm
 haveI h0:=qW c (jV hm')
 haveI h1:=mB c hm'
 have h2:(c%m).toNat<xs.length:=(dJ h0).mpr (hl▸h1)
 refine ev_ret (ev_p2 he (ca hc (congrArg V.int (bt h0).symm)) (ik (aH h2))) (hq _ (fU h2))
theorem rX{s:List V}{b:Int}(h:s.length<=au):aU P false .slice [.tup s,.none,.int b] H=some (.tup (bq s 0 (jM s.length b)),H):=by
 show ba _ (if s.length<=au then _ else _)=_
 rw [if_pos h];rfl
theorem kZ{s:List V}{a:Int}(h:s.length<=au):aU P false .slice [.tup s,.int a,.none] H=some (.tup (bq s (jM s.length a) s.length),H):=by
 show ba _ (if s.length<=au then _ else _)=_
 rw [if_pos h];rfl
theorem Bk{s:List V}(h:s.length<=au):aU P false .rev [.tup s,.int (-1)] H=some (.tup s.reverse,H):=if_pos h
theorem uU{x:Nm}(h:∀c∈x,c.toNat<128)(hl:x.length<=au):aU P false .upper [.str x] H=some (.str (x.map ij),H):=by
 refine(?_:(if(x.all λc=>decide (c.toNat<128))=true/\x.length<=au then some (V.str (x.map ij),H)else none)=_)
 exact if_pos ⟨a8.mpr λc hc=>decide_eq_true (h c hc),hl⟩
theorem B1{i:Int}(h:bB i=true):aU P false .str [.int i] H=some (.str (oP i),H):=by
 show ba _ (if bB i=true then some (V.str (oP i))else none)=_
 rw [if_pos h];rfl
end
section
variable {n d:Nat}{v:V}{c:Int}{H:AH}{Q:QE}{X:XE}
theorem f22(hv:Sm d v)(q:∀w,DD (d+2) w->Q w H):aG PL (n+1) 22 [v,.int c] H Q X:=by
 refine cf Ag rfl ?_
 have z:∀{w:V},DD 0 w->Q w H:=λh=>q _ h.zero
 have hdd:=hv.dd
 cases hv with
 |@tup d vs hl hs=>
  have hd:∀v∈vs,DD d v:=λv h=>(hs v h).dd
  have hl':vs.length<=au:=aa hl (by decide)
  have t:∀{ws:List V},(∀v∈ws,DD d v)->Q (.tup ws) H:=λh=>q _ (DD.tup h).up.up
  refine dG (a9 rfl) (bL (nE (bN (bw (ev_var rfl) (uv hl')) (bN (fc (ev_var rfl) ai (bw ai lY) (rX hl')) (bN (ev_p2 (ev_var rfl) (fc (ev_var rfl) (bw ai lY) ai (kZ hl')) (jR (aa (bK hl (aa rF hl)) (by decide)))) (bN (ev_p2 (ev_var rfl) (bw ai lY) (Bk hl')) (bN (a9 rfl) (bN ai (bN (fc (ev_var rfl) ai ai (kZ hl')) (bN (ev_p2 (ev_var rfl) (bw (ev_var rfl) (eT tI)) (jR (aa (cD hl 1) (by decide)))) (bN ai lF))))))))) (av rfl)) (cz rfl) ?_)
  refine lX (m:=9) (ev_var rfl) (ev_p2 (ev_var rfl) ai (cT (by decide))) rfl (by decide) (am.mpr ⟨q _ (DD.lst hd).up.up,am.mpr ⟨t (lU hd),am.mpr ⟨t (cM hd (lU hd)),am.mpr ⟨t λv h=>hd v (List.mem_reverse.mp h),am.mpr ⟨t nofun,am.mpr ⟨z ⟨rfl,aA _⟩,am.mpr ⟨t (lU hd),am.mpr ⟨q _ (DD.tup (cM (λv h=>(hd v h).up) (cW hdd))).up,cW (z ⟨rfl,aA _⟩)⟩⟩⟩⟩⟩⟩⟩⟩)
 |@str _ s hl hs=>
  have hl':s.length<=au:=aa hl (by decide)
  have t:∀{s:Nm},Q (.str s) H:=z ⟨rfl,aA _⟩
  have a:∀{x:Nm},x.length<=20->s.length+x.length<=au:=λh=>aa (bK hl h) (by decide)
  refine cJ (a9 rfl) (dG (a9 rfl) (bL (nE (bN (ev_p2 (ev_var rfl) ai (fV (a (by decide)))) (bN (λQ q=>qg (ev_var rfl) rfl (hE (uU hs hl') q)) (bN ai (bN (ev_p2 (ev_var rfl) ai (fV (a (by decide)))) (bN ai (bN (fc (ev_var rfl) ai ai (lf hl')) (bN ai (bN ai (bN ai (bN ai lF)))))))))) (av rfl)) (cz rfl) ?_))
  refine lX (m:=14) (ev_p2 (ev_var rfl) (nE (bN ai (bN ai (bN (ev_p2 (ev_var rfl) ai (fV (a (by decide)))) (bN (bw (ev_var rfl) (eT tI)) lF)))) (av rfl)) (nI (av rfl))) (ev_p2 (ev_var rfl) ai (cT (by decide))) rfl (by decide) (cM (am.mpr ⟨t,am.mpr ⟨t,am.mpr ⟨t,am.mpr ⟨t,am.mpr ⟨z ⟨rfl,aA _⟩,am.mpr ⟨t,am.mpr ⟨t,am.mpr ⟨t,am.mpr ⟨t,cW t⟩⟩⟩⟩⟩⟩⟩⟩⟩) (am.mpr ⟨z ⟨rfl,aA _⟩,am.mpr ⟨t,am.mpr ⟨t,cW (q _ (DD.tup (cW (DD.zero ⟨rfl,aA _⟩))))⟩⟩⟩))
 |@int _ i hi=>
  have t:∀{s:Int},Q (.int s) H:=z ⟨rfl,aA _⟩
  refine cJ (a9 rfl) (cJ (a9 rfl) (bL (nE (bN (ev_p2 (ev_var rfl) ai nw) (bN (ev_p2 (ev_var rfl) ai dT) (bN (ev_p2 (ev_var rfl) (ev_p2 ai ai ny) dT) (bN (ev_p2 (bw ai lY) (ev_var rfl) nw) (bN (ev_p2 (ev_var rfl) ai (eD b9 b9)) (bN (bw (ev_var rfl) (B1 (decide_eq_true ⟨aV (by decide) hi.1,aV hi.2 (by decide)⟩))) (bN ai (bN ai (bN (ev_p2 (ev_p2 ai ai ny) ai dT) (bN (bw (ev_var rfl) (eT tI)) lF)))))))))) (av rfl)) (cz rfl) ?_))
  refine lX (m:=10) (ev_var rfl) (ev_p2 (ev_var rfl) ai (cT (by decide))) rfl (by decide) (am.mpr ⟨t,am.mpr ⟨t,am.mpr ⟨t,am.mpr ⟨t,am.mpr ⟨z ⟨rfl,aA _⟩,am.mpr ⟨z ⟨rfl,aA _⟩,am.mpr ⟨z ⟨rfl,aA _⟩,am.mpr ⟨t,am.mpr ⟨t,cW (q _ (DD.tup (cW (DD.zero ⟨rfl,aA _⟩))))⟩⟩⟩⟩⟩⟩⟩⟩⟩)
end
theorem f23{k:Nat}:∀{n d:Nat} {v:V} {c:Int} {H:AH} {Q:QE} {X:XE},d<=45->Sm d v->(∀w,DD (d+2) w->Q w H)->aG PL (n+k+2) 23 [v,.int c,.int k] H Q X:=by
 induction k with
 |zero=>exact λhd hv q=>cf wA rfl (dG (bT (s:=true) (t:=true) (a9 rfl) nofun) (n1 (iB (ev_var rfl) (ev_p2 (ev_var rfl) ai (cN (by decide) (by decide))) (f22 hv q))))
 |succ k ih=>
  intro n d v c H Q X hd hv q
  have f5:∀{m:Nat} {ρ:Fm},ρ[1]? =some (some (.int c))->Ev PL (aG PL m) ρ H X (.prim false (.bop .fdiv) [.var 1,.cst (.int 5)]) (.int (c/5)):=λh=>ev_p2 (ev_var h) ai (cN (by decide) (by decide))
  have go:∀{K:KS} {ss:List St},bh PL (aG PL (n+(k+1)+1)) (.ret (.call 22 [.var 0,.prim false (.bop .fdiv) [.var 1,.cst (.int 5)]])::ss) [some v,some (.int c),some (.int (k+1:Nat)),none,none] H K Q X:=n1 (iB (ev_var rfl) (f5 rfl) (f22 hv q))
  have g0:Ev PL (aG PL (n+(k+1)+1)) [some v,some (.int c),some (.int (k+1:Nat)),none,none] H X (.prim false (.cop .eq) [.var 2,.cst (.int 0)]) (.bool false):=ca (ev_p2 (ev_var rfl) ai (eD b9 b9)) (congrArg V.bool (beq_eq_false_iff_ne.mpr λz=>absurd (ma.mp z) (pW k)))
  refine cf wA rfl ?_
  have hdd:=hv.dd
  cases hv with
  |int=>exact dG (bT (s:=false) (t:=true) g0 λ_=>bT (s:=true) (t:=true) (a9 rfl) nofun) go
  |str=>exact dG (bT (s:=false) (t:=true) g0 λ_=>bT (s:=true) (t:=true) (a9 rfl) nofun) go
  |@tup d vs hl hs=>
   refine cr (bT (s:=false) g0 λ_=>bT (s:=false) (a9 rfl) λ_=>bT (ev_p2 (ev_var rfl) (sy (eT (aM _))) (eD (pI ⟨hdd.1,aa hdd.2 hd⟩) rfl)) λ_=>ev_p2 (ev_p2 (ev_var rfl) ai (cT (by decide))) ai (eD b9 b9)) (λ_=>go) λh=>?_
   cases vs with
   |nil=>exact absurd h (eX:¬true=false)
   |cons x xs=>
   clear h go g0
   generalize hvs:x::xs=vs at*
   have l0:0<vs.length:=hvs▸gZ _
   have hm':(0:Int)<vs.length:=bZ.mpr l0
   have hM:(vs.length:Int)<=10 ^ 12:=aV (aX.mpr hl) (by decide)
   have h0:=qW (c/5) (jV hm')
   have h2:(c/5%vs.length).toNat<vs.length:=(dJ h0).mpr (mB _ hm')
   have hl':vs.length<=au:=aa hl (by decide)
   have dd:∀v∈vs,DD (d+2) v:=λv h=>(hs v h).dd.up.up
   refine bL (v:=.int ((c/5%vs.length).toNat:Nat)) (ca (ev_p2 (f5 rfl) (bw (ev_var rfl) fi) (cT hm')) (congrArg V.int (bt h0).symm)) (cz rfl) (d7 (lL (ev_p2 (ev_var rfl) (ev_var rfl) (t9 (aH h2))) (ev_p2 (f5 rfl) (bw (ev_var rfl) fi) (cN hm' hM)) (ca (ev_p2 (ev_var rfl) ai nw) (congrArg V.int (Int.add_sub_cancel (k:Int) 1))) (ih (iT hd) (hs _ (fU h2)) λw hw=>⟨cz rfl,?_⟩)))
   refine ev_ret (ev_p2 (ev_p2 (fc (ev_var rfl) ai (ev_var rfl) (rX hl')) (bw (ev_var rfl) (eT tI)) (jR ?_)) (fc (ev_var rfl) (ev_p2 (ev_var rfl) ai dT) ai (kZ hl')) (jR ?_)) (q _ (DD.tup (cM (cM (lU dd) (cW hw)) (lU dd))))
   ·exact aa (cD (aa rF hl) 1) (by decide)
   ·rw [af]
    exact aa (bK (cD (aa rF hl) 1) (aa rF hl)) (by decide)
noncomputable def tG(n:Nm):V:=.tup [.str ['b','e','g','i','n','s'],.str n]
section
variable {n:Nat}{H:AH}{Q:QE}{X:XE}{l:List Nm}
theorem f25(hl:l.length<=60)(q:Q (.bool true) H):aG PL (n+1) 25 [.lst (l.map V.str)] H Q X:=
 cf BX rfl (ev_ret (cI (s:=true) (t:=true) (a9 rfl) λ_=>ev_p2 (x:=.lst []) (ca (io (l:=l) (f:=V.str) (g:=V.str) (p:=λ_=>false) (ev_var rfl) rfl (aa hl (by decide)) (λ_ _=>a9 rfl) λ_ _ h=>absurd h ag) (congrArg (λt=>V.lst (t.map V.str)) (jY.mpr λ_ _=>ag))) (a9 rfl) (eD ff ff)) q)
theorem f26(hl:l.length<=60)(q:Q (.bool true) H):aG PL (n+1) 26 [.lst (l.map tG)] H Q X:=by
 refine cf Ch rfl (cJ (a9 rfl) (lg (λits ρ H'=>∃(o:Option V) (l':List Nm),ρ=[some (.lst (l.map tG)),o]/\H'=H/\its=l'.map tG) (v:=.lst (l.map tG)) (items:=l.map tG) (ev_var rfl) (λ_ _ _ _=>rfl) (aa (aq (ak _)) (aa hl (by decide))) ⟨none,l,rfl,rfl,rfl⟩ (λx xs ρ' H' hI K' hK=>c8 hI λo l' e eh ei=>?_) λρ' H' hI=>c8 hI λo l' e eh ei=>?_))
 ·subst e eh
  cases l' with
  |nil=>exact nomatch ei
  |cons m l'=>
   haveI ei:=gf ei
   rw [ei.1]
   exact cJ (a9 rfl) (cJ (a9 rfl) (cJ (a9 rfl) (hK _ _ ⟨_,l',rfl,rfl,ei.2⟩)))
 ·subst e eh
  exact ev_ret ai q
end
theorem zg{σ:Ad}{S:Hst}{p:Nat×O}(h:p∈σ.G):p∈i9 σ S:=.tail _ (.tail _ (.tail _ (.tail _ (.tail _ (.tail _ (.tail _ (.tail _ (.tail _ (.tail _ h)))))))))
theorem kp0{c:Nm}{l:List Nm}:(l.map Evt.beg).foldl (Cq c) []=[]:=by
 induction l with
 |nil=>rfl
 |cons a l ih=>exact(congrArg ((l.map Evt.beg).foldl (Cq c)) (ite_self (c:=a=c) ([]:List Int))).trans ih
theorem sm0{c:Nm}{l:List Nm}:(l.map Evt.beg).foldl (Al c) 0=0:=by
 induction l with
 |nil=>rfl
 |cons a l ih=>exact(congrArg ((l.map Evt.beg).foldl (Al c)) (ite_self (c:=a=c) (0:Int))).trans ih
section
variable {n r o:Nat}{H B:AH}{Q:QE}{X:XE}{K:KS}{ns:List Nd}{nm:Nat->Nm}{o2:Option V}{sv:V}{zs:List Int}
theorem zX(t:Tree ns)(N:Nms ns.length nm)(g:GN r ns B)(ho:B[o]? =some (.list ((sub ns 7 0).map ni)))(q:∀H',Q (.bool true) H'):bh PL (aG PL (n+36)) (Cu.body.drop 2) [some sv,some (mX r ns nm o),o2,none,none,none,none,none] B K Q X:=by
 refine eO t.tr.top λx0 h0 _ _=>?_
 have pn:=t.plan N
 have en:nms 7 (bd ns nm 7 0)=(sub ns 7 0).map nm:=t.tr.nms h0
 refine d7 (r4 (ev_p2 (ev_var rfl) ai rfl) (f29 (n:=n+27) pn λe1 S H1 A l1 a1=>⟨rfl,cz rfl,?_⟩))
 have pl:=pn.pl (B:=B) (e:=e1)
 have g1:GN r ns H1:=λp hp=>(A.hs.fix p (zg (t0 (g p hp)))).1
 have ho1:H1[o]? =some (.list ((sub ns 7 0).map ni)):=(A.hs.fix (o,_) (zg (t0 ho))).1
 have zD:((sub ns 7 0).map nm).length<=60:=en▸pn.le
 have l60':(sub ns 7 0).length<=60:=aa (aq (ak _).symm) zD
 have hh:∀{c},c∈(sub ns 7 0).map nm->here S c=true:=λ{c} hc=>(congrFun (congrArg Ab.h a1) c).trans (zn.mpr (.inl (en▸hc)))
 have hc:S.clock=0:=congrArg Ab.t a1
 have he:S.ev=((sub ns 7 0).map nm).map .beg:=en▸congrArg Ab.ev a1
 refine bL (v:=.lst (((sub ns 7 0).map nm).map V.str)) (ca (gT (l:=sub ns 7 0) (f:=ni) (g:=λk=>.str (nm k)) (ev_p2 (ev_var rfl) ai rfl) (fZ ho1) (aa l60' (by decide)) λk hk=>ev_p2 (ev_p2 (ev_var rfl) ai rfl) (ev_var rfl) (nD (t.tr.lt h0 k hk))) (congrArg V.lst bp.symm)) (cz rfl) ?_
 have c44:∀{ρ:Fm} {X:XE},ρ[3]? =some (some (.ref (B.length+1)))->Ev PL (aG PL (n+36)) ρ H1 X (.meth 0 44 ['h','o','u','r'] (.var 3) []) (.int 0):=λh=>ca (jJ A.hs h rfl λQ q=>f44 A.hs q) (congrArg V.int hc)
 refine cJ (bT (s:=false) (t:=false) (ev_p2 (x:=.bool true) (ca (jJ A.hs rfl rfl λQ q=>cf Ap rfl (ev_ret (rY A.hs rfl (ev_p2 (fF A.hs rfl rfl) ai (zp pn.pt))) q)) (congrArg V.bool (hh (en▸C4 pn.pt)))) ai rfl) λ_=>bT (s:=false) (t:=false) (bG (s:=true) (bU (c44 rfl) λQ q=>Fq rfl q)) λ_=>ev_p2 (c44 rfl) ai (fE b9 b9)) ?_
 have c45:∀{ρ:Fm} {X:XE},ρ[3]? =some (some (.ref (B.length+1)))->Ev PL (aG PL (n+36)) ρ H1 X (.meth 0 45 ['h','e','r','e'] (.var 3) []) (.lst (((sub ns 7 0).map nm).map V.str)):=λh=>ca (jJ A.hs h rfl λQ q=>FZ pl A.hs q) (congrArg (λt:List Nm=>V.lst (t.map V.str)) (show((fW 7 (bd ns nm 7 0)).map ao).filter (here S)=_ by
  rw [eF,en];exact List.filter_eq_self.mpr λc hc=>hh hc))
 have ds:∀{l:List Nm},V.datas (l.map V.str)=true:=λ{l}=>(gP (d:=0) λv hv=>ea1_2 (az.mp hv) λ_ _ e=>e▸⟨rfl,aA _⟩).1
 refine cJ (bT (s:=false) (t:=false) (bG (s:=true) (bU (c45 rfl) λQ q=>f25 zD q)) λ_=>ca (ev_p2 (c45 rfl) (ev_var rfl) (fE rJ rJ)) (congrArg (λt=>V.bool !t) (gy _ ds:fN (.lst _) (.lst _)=true))) ?_
 refine bL (v:=.lst (((sub ns 7 0).map nm).map tG)) (ca (jJ A.hs rfl rfl λQ q=>FX A.hs (aa l1 (by decide)) q) (by rw [he,bp];rfl)) (cz rfl) ?_
 have rb:∀{l:List Nm},(∀v∈l.map tG,v.data=true/\v.depth<=1):=λ{l} v hv=>ea1_2 (az.mp hv) λ_ _ e=>e▸⟨rfl,aA _⟩
 have rr:rd H1 (.lst (((sub ns 7 0).map nm).map tG))=some (.lst (((sub ns 7 0).map nm).map tG)):=wC λv hv=>⟨(rb v hv).1,aa (rb v hv).2 (by decide)⟩
 refine cJ (bT (s:=false) (t:=false) (bG (s:=true) (bU (ev_var rfl) λQ q=>f26 zD q)) λ_=>ca (ev_p2 (ev_var rfl) (gT (l:=(sub ns 7 0).map nm) (f:=V.str) (g:=tG) (ev_var rfl) rfl (aa zD (by decide)) λ_ _=>a9 rfl) (fE rr rr)) (congrArg (λt=>V.bool !t) (gy _ (gP rb).1:fN (.lst _) (.lst _)=true))) ?_
 refine lg (λits ρ H'=>∃(o4 o7:Option V) (ks:List Nat),ρ=[some sv,some (mX r ns nm o),o2,some (.ref (B.length+1)),o4,some (.lst (((sub ns 7 0).map nm).map V.str)),some (.lst (((sub ns 7 0).map nm).map tG)),o7]/\H'=H1/\its=ks.map ni/\∀k∈ks,k∈sub ns 7 0) (v:=.ref o) (items:=(sub ns 7 0).map ni) (ev_p2 (ev_var rfl) ai rfl) (λits ρ' H' hI=>mJ hI λ_ _ _ _ eh _ _=>eh▸fZ ho1) (aa (aq (ak _)) (aa l60' (by decide))) ⟨none,none,sub ns 7 0,rfl,rfl,rfl,λ_ h=>h⟩ (λx xs ρ' H' hI K' hK=>mJ hI λo4 o7 ks e eh ei hk=>?_) λρ' H' hI=>mJ hI λo4 o7 ks e eh _ _=>?_
 ·subst e eh
  cases ks with
  |nil=>exact nomatch ei
  |cons k ks=>
   haveI ei:=gf ei
   rw [ei.1]
   have hl:=t.tr.lt h0 k (hk k (.head _))
   refine(⟨_,aH hl⟩:∃x,ns[k]? =some x).elim λx hx=>?_
   have hm:=hh (bu (hk k (.head _)):nm k∈_)
   have hw:=ql N hx
   have nx:∀{C:Calls} {ρ:Fm} {X:XE},ρ[1]? =some (some (mX r ns nm o))->ρ[4]? =some (some (ni k))->Ev PL C ρ H' X (.prim false .item [.prim false .item [.prim false .item [.var 1,.cst (.str ['n','o','d','e','s'])],.var 4],.cst (.str ['w','a','r','d','e','n'])]) (.bool x.w):=λh1 h4=>ev_p2 (ev_p2 (ev_p2 (ev_var h1) ai rfl) (ev_var h4) (t4 g1.row (by rw [aZ,hx];rfl))) ai (m8 (g1.dic hx) rfl)
   refine bL (ev_p2 (ev_p2 (ev_var rfl) ai rfl) (ev_var rfl) (nD hl)) (cz rfl) ?_
   have done:K' [some sv,some (mX r ns nm o),o2,some (.ref (B.length+1)),some (ni k),some (.lst (((sub ns 7 0).map nm).map V.str)),some (.lst (((sub ns 7 0).map nm).map tG)),some (.str (nm k))] H':=hK _ _ ⟨_,_,ks,rfl,rfl,ei.2,λj hj=>hk j (.tail _ hj)⟩
   cases ew:x.w with
   |true=>
    rw [ew]at nx hw
    refine cJ (cI (s:=true) (t:=false) (nx rfl rfl) λ_=>ev_p2 (x:=.lst []) (ca (lQ A.hs rfl rfl (ev_var rfl) λQ q=>Gs pl A.hs A.iv hw hm (aa l1 (by decide)) q) ?_) (a9 rfl) (fE ff ff)) (cJ (bG (s:=true) (nx rfl rfl)) done)
    rw [show j4 S (nm k)=[]from(congrFun (congrArg Ab.k a1) (nm k)).trans kp0];rfl
   |false=>
    rw [ew]at nx hw
    have c48:∀{ρ:Fm} {X:XE},ρ[3]? =some (some (.ref (B.length+1)))->ρ[7]? =some (some (.str (nm k)))->Ev PL (aG PL (n+36)) ρ H' X (.meth 0 48 ['s','u','m','_','o','f'] (.var 3) [.var 7]) (.int 0):=λh h7=>ca (lQ A.hs h rfl (ev_var h7) λQ q=>f48 pl A.hs A.iv hw hm q) (congrArg V.int ((congrFun (congrArg Ab.s a1) (nm k)).trans sm0))
    refine cJ (cI (s:=false) (t:=false) (nx rfl rfl) nofun) (dG (bG (s:=false) (nx rfl rfl)) (cJ (bT (s:=false) (t:=false) (ev_p2 (x:=.lst []) (ca (lQ A.hs rfl rfl (ev_var rfl) λQ q=>FY pl A.hs A.iv (aa (aq (congrArg Ab.lt a1)) (aM _)) hw q) ?_) (a9 rfl) (fE ff ff)) λ_=>bT (s:=false) (t:=false) (bG (s:=true) (bU (c48 rfl rfl) λQ q=>Fq rfl q)) λ_=>ev_p2 (c48 rfl rfl) ai (fE b9 b9)) done))
    rw [show qS S (nm k)=[]from congrFun (congrArg Ab.q a1) (nm k)];rfl
 ·subst e eh
  exact ev_ret ai (q _)
theorem C7(q:∀H',Q (.bool true) H'):aG PL (n+37) 28 [.lst (zs.map V.int)] H Q X:=by
 refine cf Cf rfl (d7 (fo (ev_var rfl) (f19 (n:=n+23) λns nm o B t N g ho=>⟨cz rfl,?_⟩)))
 have pn:=t.plan N
 refine cr (ev_p2 (ev_p2 (fk (ev_var rfl) ai λQ q=>CE (by decide) q) ai (cT (by decide))) ai (eD b9 b9)) (λ_=>?_) λ_=>zX t N g ho q
 refine d7 (lL (ev_p2 (ev_var rfl) ai rfl) (fk (ev_var rfl) ai λQ q=>CE (by decide) q) ai (f23 (k:=8) (n:=n+26) (d:=14) (by decide) (zI pn.pt) λw hw=>⟨cz rfl,?_⟩))
 have hD:DT w:=⟨hw.1,aa hw.2 (by decide)⟩
 refine uB (fo (ev_var rfl) (g21 (n:=n+26) hD λb B' kp e=>hE rfl ?_))
 cases b with
 |false=>exact fo (ev_var rfl) (f27 (n:=n+31) hD (λz=>absurd (e.mpr z) ag) q)
 |true=>exact zX t N (λp hp=>(kp.2 _ (ae.mp (g p hp)).1).trans (g p hp)) ((kp.2 _ (ae.mp ho).1).trans ho) q
end
end Mine
end
noncomputable section
open PySem PySem.W PyProof.Rows
set_option maxHeartbeats 8000000
namespace Mine
noncomputable def Gz:List (Str×Gl):=[("len",.bi "len"),("all",.bi "all"),("isinstance",.bi "isinstance"),("min",.bi "min"),("range",.ty "range"),("int",.ty "int"),("bool",.ty "bool"),("str",.ty "str"),("tuple",.ty "tuple"),("list",.ty "list"),("ValueError",.ty "ValueError"),("reversed",.ty "reversed")]
noncomputable def muL:List (Nat×Nat):=[(57,11),(58,12),(70,12),(85,19),(86,21),(87,21),(88,23),(89,20),(90,20),(91,22),(96,22),(103,35),(114,33),(214,22),(214,23),(214,70),(223,35),(223,102),(228,35),(228,95),(231,17),(284,17)]
noncomputable def GJ:List (Str×V):=[("LETTERS",.str ['a','b','c','d','e','f','g','h','i','j','k','l','m','n','o','p','q','r','s','t','u','v','w','x','y','z']),("LONGEST",.int 8),("GREATEST",.int 1000000000),("MOST_NAMES",.int 60),("MOST_ABOVE",.int 6),("MOST_PARTS",.int 8)]
theorem tP{P:Params}{h:Heap}{l:Addr}{vs:List Value}{xs:List PyData}(w1:Well P h (.ref l) (ofPy (.list xs)))(hL:h.IsList l vs.toArray):h.PlainList l vs.toArray:=by
 have w2:Well P h (.ref l) (.list (ofPys xs)):=w1
 cases w2 with
 |list e _=>
  obtain⟨o,ho,_,n,hd⟩:=hL
  rw [e]at ho
  cases ho
  cases hd
  exact⟨_,e⟩
theorem wt{a b:List OwnSpec}{cs:List (List Nat)}{h:HP}(e:a=b)(x:XSays b cs h):XSays a cs h:=e▸x
namespace walk04
theorem tw8871398713709428752:0=0:=rfl
theorem tw15057530086702848243:0=0:=rfl
theorem tw16579850337224777055:0=0:=rfl
theorem tw15827572353815367786:0=0:=rfl
theorem tw2963889772716157165:0=0:=rfl
theorem tw14200865596230077435:0=0:=rfl
theorem tw7093868603377129840:0=0:=rfl
theorem tw13462971440900226905:0=0:=rfl
theorem tw9876651425354643896:0=0:=rfl
theorem tw9796612310044810995:0=0:=rfl
theorem tw4614315454452514803:0=0:=rfl
theorem tw1544439689816598046:0=0:=rfl
theorem tw14376992316050915153:0=0:=rfl
theorem tw521656524125884427:0=0:=rfl
theorem tw542038272378972156:0=0:=rfl
theorem tw15605752116390356123:0=0:=rfl
theorem tw496350421140245891:0=0:=rfl
theorem tw12782660714741824602:0=0:=rfl
theorem tw6147985440739344703:0=0:=rfl
theorem tw17618793888230120630:0=0:=rfl
theorem tw15219480598676848612:0=0:=rfl
theorem tw6443832600455695525:0=0:=rfl
theorem tw1665602335510093060:0=0:=rfl
theorem tw18194441849074895943:0=0:=rfl
theorem tw9405631038780458537:0=0:=rfl
theorem tw827752668602374970:0=0:=rfl
theorem tw14092103205796318165:0=0:=rfl
theorem tw1047034374012240025:0=0:=rfl
theorem tw15127327816192458963:0=0:=rfl
theorem tw15606988604813938412:0=0:=rfl
theorem tw15674235812517187645:0=0:=rfl
theorem tw10382791720722372999:0=0:=rfl
theorem tw9851381896860179612:0=0:=rfl
theorem tw13161067155555104471:0=0:=rfl
theorem tw10888829190819146849:0=0:=rfl
theorem tw12935489579314772150:0=0:=rfl
theorem tw17486553261101994989:0=0:=rfl
theorem tw7144675083855833714:0=0:=rfl
theorem tw16351483056274583069:0=0:=rfl
theorem tw8180079190624458975:0=0:=rfl
theorem tw5214978600873035042:0=0:=rfl
theorem tw3501710340011449481:0=0:=rfl
theorem tw3756699155463861326:0=0:=rfl
theorem tw5656280837889919280:0=0:=rfl
theorem tw4186152564268044745:0=0:=rfl
theorem tw18002681092893331870:0=0:=rfl
theorem tw18224343907693088356:0=0:=rfl
theorem tw2324973175245061641:0=0:=rfl
theorem tw4635491246769520397:0=0:=rfl
theorem tw5155912095608349359:0=0:=rfl
theorem tw16545565813094088528:0=0:=rfl
theorem tw9278914428653104636:0=0:=rfl
theorem tw13201913434902028542:0=0:=rfl
theorem tw13255915489123184084:0=0:=rfl
theorem tw176152157678991469:0=0:=rfl
theorem tw10801541323282996123:0=0:=rfl
theorem tw15730230339412784243:0=0:=rfl
theorem tw989225708212565718:0=0:=rfl
theorem tw12186103384068062636:0=0:=rfl
theorem tw8257433110789837071:0=0:=rfl
theorem tw2405804494075350841:0=0:=rfl
theorem tw17923005252245585848:0=0:=rfl
theorem tw4173102786646378289:0=0:=rfl
theorem tw9858608077390284221:0=0:=rfl
theorem tw11313020005419221743:0=0:=rfl
theorem tw9683948068799194349:0=0:=rfl
theorem tw8027797556459300629:0=0:=rfl
theorem tw12444430335117342416:0=0:=rfl
theorem tw7635798278643603362:0=0:=rfl
theorem tw6033911729890851016:0=0:=rfl
theorem tw9444300618861047804:0=0:=rfl
theorem tw8138390948640190891:0=0:=rfl
theorem tw3848082159851867161:0=0:=rfl
theorem tw13150933998835578202:0=0:=rfl
theorem tw10357159442097741305:0=0:=rfl
theorem tw6156109070970604897:0=0:=rfl
theorem tw3497044822305787851:0=0:=rfl
theorem tw8220519127637790339:0=0:=rfl
theorem tw434226667902271250:0=0:=rfl
theorem tw626798725930472507:0=0:=rfl
theorem tw14007012121100876310:0=0:=rfl
theorem tw1480739443862600030:0=0:=rfl
theorem tw3676635499531448904:0=0:=rfl
theorem tw13254226760196825908:0=0:=rfl
theorem tw5237874630542554734:0=0:=rfl
theorem tw14631871602005596179:0=0:=rfl
theorem tw11368664320638563550:0=0:=rfl
theorem tw2004467033377852686:0=0:=rfl
theorem tw16511029537632299520:0=0:=rfl
theorem tw13795958216277923654:0=0:=rfl
theorem tw3844081620336661333:0=0:=rfl
theorem tw4863826669979808303:0=0:=rfl
theorem tw14777980007283986514:0=0:=rfl
theorem tw17562992461038910110:0=0:=rfl
theorem tw8855960496142309732:0=0:=rfl
theorem tw10423644348794521517:0=0:=rfl
theorem tw16656813038190263352:0=0:=rfl
theorem tw5342420497536989061:0=0:=rfl
theorem tw117913605266237958:0=0:=rfl
theorem tw7405913716476280754:0=0:=rfl
theorem tw9960402541517284959:0=0:=rfl
theorem tw9920614877530398361:0=0:=rfl
theorem tw6117533072025267422:0=0:=rfl
theorem tw5870492316614216625:0=0:=rfl
theorem tw14584858066822439227:0=0:=rfl
theorem tw6830737661948740556:0=0:=rfl
theorem tw5590644411052390737:0=0:=rfl
theorem tw796482040698260572:0=0:=rfl
theorem tw9368239484054044993:0=0:=rfl
theorem tw11660477538331692559:0=0:=rfl
theorem tw12117902846897312452:0=0:=rfl
theorem tw5496890913707345872:0=0:=rfl
theorem tw6006845861033372139:0=0:=rfl
theorem tw5120411453376662860:0=0:=rfl
theorem tw18256164303261532566:0=0:=rfl
theorem tw15081570922167382658:0=0:=rfl
theorem tw9873562008546544954:0=0:=rfl
theorem tw16972709600893317255:0=0:=rfl
theorem tw11251431958328012787:0=0:=rfl
theorem tw14133611566352008844:0=0:=rfl
theorem tw7848634507559783501:0=0:=rfl
theorem tw6004609904611666771:0=0:=rfl
theorem tw18092876468945453645:0=0:=rfl
theorem tw12033395695469599812:0=0:=rfl
theorem tw4435031062117469561:0=0:=rfl
theorem tw9938688220472705366:0=0:=rfl
theorem tw1237038507127494489:0=0:=rfl
theorem tw12787725355642446034:0=0:=rfl
theorem tw5246240985284081302:0=0:=rfl
theorem tw3002830699332689067:0=0:=rfl
theorem tw7466132489783307925:0=0:=rfl
theorem tw15019898726844146974:0=0:=rfl
theorem tw7851549617614528176:0=0:=rfl
theorem tw2788117050653451675:0=0:=rfl
theorem tw14333227879810790441:0=0:=rfl
theorem tw2051157211404183960:0=0:=rfl
theorem tw9678455306350675365:0=0:=rfl
theorem tw1184759020523810578:0=0:=rfl
theorem tw2819151818094054667:0=0:=rfl
theorem tw4322188097226357671:0=0:=rfl
theorem tw17837369102418386290:0=0:=rfl
theorem tw15605877619574846876:0=0:=rfl
theorem tw4244694774704664455:0=0:=rfl
theorem tw14133457648580458158:0=0:=rfl
theorem tw12887454015091351237:0=0:=rfl
theorem tw3957685806393075680:0=0:=rfl
theorem tw4459504997288365450:0=0:=rfl
theorem tw10264020845965175667:0=0:=rfl
theorem tw18152401420736346293:0=0:=rfl
theorem tw15070088699492717463:0=0:=rfl
theorem tw2201816321249819796:0=0:=rfl
theorem tw6595557157888365851:0=0:=rfl
theorem tw281306857643561622:0=0:=rfl
theorem tw3403953625705272528:0=0:=rfl
theorem tw10368039890214026941:0=0:=rfl
theorem tw2080584586190504523:0=0:=rfl
theorem tw16083033033115352871:0=0:=rfl
theorem tw6257747574062527633:0=0:=rfl
theorem tw2409978641671569085:0=0:=rfl
theorem tw11500507263750764882:0=0:=rfl
theorem tw4103375855456469212:0=0:=rfl
theorem tw8285526824554278586:0=0:=rfl
theorem tw3601862222532567746:0=0:=rfl
theorem tw2428122676525091137:0=0:=rfl
theorem tw1717265590613913343:0=0:=rfl
theorem tw13622084972981965938:0=0:=rfl
theorem tw8715968201560595012:0=0:=rfl
theorem tw4580359347095177444:0=0:=rfl
theorem tw6764324253930149761:0=0:=rfl
theorem tw11167616063302146297:0=0:=rfl
theorem tw10282197655058593687:0=0:=rfl
theorem tw18366479188054385484:0=0:=rfl
theorem tw14951540508031879070:0=0:=rfl
theorem tw15717820297810592078:0=0:=rfl
theorem tw7420550684663007459:0=0:=rfl
theorem tw7361239258524341372:0=0:=rfl
theorem tw6801204481422422522:0=0:=rfl
theorem tw6904591970316801049:0=0:=rfl
theorem tw2503825965411756271:0=0:=rfl
theorem tw1391151592163155005:0=0:=rfl
theorem tw2844609086749609178:0=0:=rfl
theorem tw5637904679256125999:0=0:=rfl
theorem tw7146540347882923144:0=0:=rfl
theorem tw16093552181063877570:0=0:=rfl
theorem tw16413080727141032260:0=0:=rfl
theorem tw6573307737102092254:0=0:=rfl
theorem tw3144484244815993775:0=0:=rfl
theorem tw3317703604216823660:0=0:=rfl
theorem tw3409555779952939938:0=0:=rfl
theorem tw5137603539019124481:0=0:=rfl
theorem tw6678182387699155140:0=0:=rfl
theorem tw7086301653251633746:0=0:=rfl
theorem tw12560582246670911350:0=0:=rfl
theorem tw10538849459357038677:0=0:=rfl
theorem tw750624406414706515:0=0:=rfl
theorem tw12356493413806338095:0=0:=rfl
theorem tw12546333932271943388:0=0:=rfl
theorem tw1681408430925382885:0=0:=rfl
theorem tw13518954747591037450:0=0:=rfl
theorem tw3320673334527553600:0=0:=rfl
theorem tw17893083148686051681:0=0:=rfl
theorem tw17433735637791769759:0=0:=rfl
theorem tw2177202463953563103:0=0:=rfl
theorem tw10380537363518500649:0=0:=rfl
theorem tw1652690189834494252:0=0:=rfl
theorem tw6650921532373746216:0=0:=rfl
theorem tw18022511376088560421:0=0:=rfl
theorem tw6289339624715242123:0=0:=rfl
theorem tw7948463385447213111:0=0:=rfl
theorem tw10850396440875383441:0=0:=rfl
theorem tw9178440205641022298:0=0:=rfl
theorem tw4829754402646295255:0=0:=rfl
theorem tw3812596959905235161:0=0:=rfl
theorem tw6639790424004923624:0=0:=rfl
theorem tw7202149563712765355:0=0:=rfl
theorem tw9745161613201588646:0=0:=rfl
theorem tw4702266309469054919:0=0:=rfl
theorem tw10131445537155456708:0=0:=rfl
theorem tw4583136565366300604:0=0:=rfl
theorem tw9166974132866225964:0=0:=rfl
theorem tw15822573070519883325:0=0:=rfl
theorem tw13731535906163766075:0=0:=rfl
theorem tw14569967147416543818:0=0:=rfl
theorem tw2651861216517928181:0=0:=rfl
theorem tw14160694466292403274:0=0:=rfl
theorem tw10405760650455565870:0=0:=rfl
theorem tw12699627636392001421:0=0:=rfl
theorem tw11159056774605431743:0=0:=rfl
theorem tw17808177475183319117:0=0:=rfl
theorem tw14272837022074942564:0=0:=rfl
theorem tw12088936913197205342:0=0:=rfl
theorem tw13345785360404757002:0=0:=rfl
theorem tw13691406217239077867:0=0:=rfl
theorem tw16361266646555223776:0=0:=rfl
theorem tw10005272742558823707:0=0:=rfl
theorem tw9972760963407261429:0=0:=rfl
theorem tw11298640049567214984:0=0:=rfl
theorem tw643653884208298229:0=0:=rfl
theorem tw17019859289561956043:0=0:=rfl
theorem tw7166244098117846502:0=0:=rfl
theorem tw11855861013200366623:0=0:=rfl
theorem tw2868124001318190864:0=0:=rfl
theorem tw17745329431053737961:0=0:=rfl
theorem tw10140952371290395856:0=0:=rfl
theorem tw496013191247683527:0=0:=rfl
theorem tw12842341037940062555:0=0:=rfl
theorem tw5517974970544973229:0=0:=rfl
theorem tw8697955531136122322:0=0:=rfl
theorem tw17680999435738707201:0=0:=rfl
theorem tw15487511039530321077:0=0:=rfl
theorem tw9106859571547056525:0=0:=rfl
theorem tw11432631827600870997:0=0:=rfl
theorem tw11718749509630201082:0=0:=rfl
theorem tw17649098898075663779:0=0:=rfl
theorem tw1911175803583993810:0=0:=rfl
theorem tw9134402775994197671:0=0:=rfl
theorem tw12425503813956538493:0=0:=rfl
theorem tw9333434525620494858:0=0:=rfl
theorem tw3265272467138025098:0=0:=rfl
theorem tw14557898774258658377:0=0:=rfl
theorem tw270039711947143835:0=0:=rfl
theorem tw14817099284057957942:0=0:=rfl
theorem tw17719876277827700941:0=0:=rfl
theorem tw8771152954623911746:0=0:=rfl
theorem tw2604126086050632985:0=0:=rfl
theorem tw2833947507332712860:0=0:=rfl
theorem tw1744362473617050693:0=0:=rfl
theorem tw7877152555299466037:0=0:=rfl
theorem tw10499341196764898588:0=0:=rfl
theorem tw672589929949533581:0=0:=rfl
theorem tw11083051204907470003:0=0:=rfl
theorem tw10911568907700809165:0=0:=rfl
theorem tw14272871472120790662:0=0:=rfl
theorem tw2716299679492024818:0=0:=rfl
theorem tw17159858000550758336:0=0:=rfl
theorem tw6384181990173727369:0=0:=rfl
theorem tw1006692955630325897:0=0:=rfl
theorem tw10740996562862190265:0=0:=rfl
theorem tw6506963132078974109:0=0:=rfl
theorem tw14726039927861147130:0=0:=rfl
theorem tw10228067120358141915:0=0:=rfl
theorem tw4591617983845801436:0=0:=rfl
theorem tw9681788968625129206:0=0:=rfl
theorem tw5615436355931449698:0=0:=rfl
theorem tw1439902098658894808:0=0:=rfl
theorem tw12657743519518773419:0=0:=rfl
theorem tw6260143214966849830:0=0:=rfl
theorem tw4563184099486527993:0=0:=rfl
theorem tw7780915783673327655:0=0:=rfl
theorem tw16632498982807923164:0=0:=rfl
theorem tw11455304104033173983:0=0:=rfl
theorem tw15590976424020875116:0=0:=rfl
theorem tw6606660751555442368:0=0:=rfl
theorem tw15979366562950582210:0=0:=rfl
theorem tw10136997186910640108:0=0:=rfl
theorem tw4161328325868703984:0=0:=rfl
theorem tw8694269797448771218:0=0:=rfl
theorem tw1180966487775878625:0=0:=rfl
theorem tw10945041713130191274:0=0:=rfl
theorem tw237085507292774762:0=0:=rfl
theorem tw12379935984548526684:0=0:=rfl
theorem tw6914759648896758020:0=0:=rfl
theorem tw909735384841829415:0=0:=rfl
theorem tw11763346339887017441:0=0:=rfl
theorem tw1762633815016584999:0=0:=rfl
theorem tw17224174553202865635:0=0:=rfl
theorem tw7281505623270123661:0=0:=rfl
theorem tw7537913719332280838:0=0:=rfl
theorem tw11940810114299541737:0=0:=rfl
theorem tw11943592958682230462:0=0:=rfl
theorem tw10006133107266691392:0=0:=rfl
theorem tw17557301106820061411:0=0:=rfl
theorem tw13741153801952606478:0=0:=rfl
theorem tw7010547069872287518:0=0:=rfl
theorem tw18249640795642890607:0=0:=rfl
theorem tw16233306343084637077:0=0:=rfl
theorem tw2356613796960595778:0=0:=rfl
theorem tw13169650511734540446:0=0:=rfl
theorem tw7367559448170461162:0=0:=rfl
theorem tw10873793473388874560:0=0:=rfl
theorem tw1159253740081721847:0=0:=rfl
theorem tw255663158321567754:0=0:=rfl
theorem tw16175956066741213171:0=0:=rfl
theorem tw6567041600138097911:0=0:=rfl
theorem tw15898238703293707966:0=0:=rfl
theorem tw1099191530252673206:0=0:=rfl
theorem tw6796903946828194132:0=0:=rfl
theorem tw5168899619958198554:0=0:=rfl
theorem tw8232530601287905606:0=0:=rfl
theorem tw1711084145111936876:0=0:=rfl
theorem tw107430464207208627:0=0:=rfl
theorem tw12403114003113406558:0=0:=rfl
theorem tw3569625738880375016:0=0:=rfl
theorem tw18159788429653936:0=0:=rfl
theorem tw5304600211423700471:0=0:=rfl
theorem tw2981078979176859460:0=0:=rfl
theorem tw9233446540030543132:0=0:=rfl
theorem tw6542810578021439861:0=0:=rfl
theorem tw4454372426937246310:0=0:=rfl
theorem tw11673324064288182382:0=0:=rfl
theorem tw10616351816947375346:0=0:=rfl
theorem tw1840529551603672214:0=0:=rfl
theorem tw8068193660762429651:0=0:=rfl
theorem tw13779696178567361492:0=0:=rfl
theorem tw4367395104985026324:0=0:=rfl
theorem tw7062623450721051890:0=0:=rfl
theorem tw2419436161613075419:0=0:=rfl
theorem tw14356152185073480922:0=0:=rfl
theorem tw13804612508219994601:0=0:=rfl
theorem tw15374004348364079131:0=0:=rfl
theorem tw16045358596011341371:0=0:=rfl
theorem tw5604337688276567677:0=0:=rfl
theorem tw14743563825792979426:0=0:=rfl
theorem tw4567880666127911514:0=0:=rfl
theorem tw4886780262930750309:0=0:=rfl
theorem tw13697702450303844465:0=0:=rfl
theorem tw2957674014326332529:0=0:=rfl
theorem tw2016920904252743742:0=0:=rfl
theorem tw15067634574257943929:0=0:=rfl
theorem tw2117507206618139894:0=0:=rfl
theorem tw10614624526254065947:0=0:=rfl
theorem tw1367758302215672984:0=0:=rfl
theorem tw13416998635999525825:0=0:=rfl
theorem tw7688047971464586182:0=0:=rfl
theorem tw2003266919455910625:0=0:=rfl
theorem tw9844484218711901446:0=0:=rfl
theorem tw2232037662666552378:0=0:=rfl
theorem tw10542405604890850528:0=0:=rfl
theorem tw7957259146416812224:0=0:=rfl
theorem tw10817066937997406299:0=0:=rfl
theorem tw793300170158190303:0=0:=rfl
theorem tw18059673407862752650:0=0:=rfl
theorem tw17067617364483643419:0=0:=rfl
theorem tw2958416646339893342:0=0:=rfl
theorem tw7146387353188113513:0=0:=rfl
theorem tw16838788796009326393:0=0:=rfl
theorem tw3342881138555750351:0=0:=rfl
theorem tw268413494558750915:0=0:=rfl
theorem tw114136970807696245:0=0:=rfl
theorem tw14360091468838723080:0=0:=rfl
theorem tw8137248510560304538:0=0:=rfl
theorem tw15880646062631740194:0=0:=rfl
theorem tw2298937830764638300:0=0:=rfl
theorem tw12345473904443067335:0=0:=rfl
theorem tw7510591171064817247:0=0:=rfl
theorem tw2775348922115403927:0=0:=rfl
theorem tw15174283988950507987:0=0:=rfl
theorem tw7344356499678585085:0=0:=rfl
theorem tw4689210988232144903:0=0:=rfl
theorem tw10396799329844354281:0=0:=rfl
theorem tw13800297582150003368:0=0:=rfl
theorem tw16279956411271031977:0=0:=rfl
theorem tw12130444319707202124:0=0:=rfl
theorem tw10521963407314619025:0=0:=rfl
theorem tw168599147555206268:0=0:=rfl
theorem tw9005770736663364781:0=0:=rfl
theorem tw12995293368557393402:0=0:=rfl
theorem tw12943754842154003272:0=0:=rfl
theorem tw1616068793231030294:0=0:=rfl
theorem tw381545990382270512:0=0:=rfl
theorem tw8649915145351118497:0=0:=rfl
theorem tw4755718444146778899:0=0:=rfl
theorem tw11337921432789603065:0=0:=rfl
theorem tw11844329503978212152:0=0:=rfl
theorem tw6384679823362532687:0=0:=rfl
theorem tw11242896914305547793:0=0:=rfl
theorem tw2282755510470981601:0=0:=rfl
theorem tw8221351555159594726:0=0:=rfl
theorem tw13033738515791239553:0=0:=rfl
theorem tw16893813396198763285:0=0:=rfl
theorem tw17258215425611016085:0=0:=rfl
theorem tw16728124519555743662:0=0:=rfl
theorem tw12582652781095805584:0=0:=rfl
theorem tw3818473416661728155:0=0:=rfl
theorem tw3010521081778964599:0=0:=rfl
theorem tw12811061055326708712:0=0:=rfl
theorem tw8711694508021631468:0=0:=rfl
theorem tw16558310677574589768:0=0:=rfl
theorem tw15936775056538965777:0=0:=rfl
theorem tw5750496094085540701:0=0:=rfl
theorem tw18302296534141593755:0=0:=rfl
theorem tw4232081115714137277:0=0:=rfl
theorem tw5280454661679213939:0=0:=rfl
theorem tw3360082657310878111:0=0:=rfl
theorem tw886114897536799281:0=0:=rfl
theorem tw3109725889761711155:0=0:=rfl
theorem tw16703519752627821073:0=0:=rfl
theorem tw6853107829460502001:0=0:=rfl
theorem tw16913554935452756971:0=0:=rfl
theorem tw6426029039200799087:0=0:=rfl
theorem tw3803150405302901815:0=0:=rfl
theorem tw6365794396461713603:0=0:=rfl
theorem tw923424305773716139:0=0:=rfl
theorem tw318520855564267881:0=0:=rfl
theorem tw1362336278055357120:0=0:=rfl
theorem tw13797780463451959454:0=0:=rfl
theorem tw3218500722048244047:0=0:=rfl
theorem tw6586326257890201250:0=0:=rfl
theorem tw7737752132436784195:0=0:=rfl
theorem tw17440319017526973306:0=0:=rfl
theorem tw10927084448993395132:0=0:=rfl
theorem tw6918972208813628109:0=0:=rfl
theorem tw17450926499174113406:0=0:=rfl
theorem tw3355075050797745208:0=0:=rfl
theorem tw9044060873888188950:0=0:=rfl
theorem tw6946269479266873883:0=0:=rfl
theorem tw9486937360964520753:0=0:=rfl
theorem tw18214619025002852669:0=0:=rfl
theorem tw11681548061462561582:0=0:=rfl
theorem tw4890044852162701522:0=0:=rfl
theorem tw4446164798549402630:0=0:=rfl
theorem tw7746704674803309975:0=0:=rfl
theorem tw14297767707304127470:0=0:=rfl
theorem tw7223786140293311041:0=0:=rfl
theorem tw9321500750944233489:0=0:=rfl
theorem tw15237797413070167500:0=0:=rfl
theorem tw17585631692373660393:0=0:=rfl
theorem tw4161468273537736030:0=0:=rfl
theorem tw18038794388744101116:0=0:=rfl
theorem tw1522045448656493398:0=0:=rfl
theorem tw17382392046495689636:0=0:=rfl
theorem tw6638227197099315572:0=0:=rfl
theorem tw3408211128373863844:0=0:=rfl
theorem tw10474791162840981950:0=0:=rfl
theorem tw325979283465914724:0=0:=rfl
theorem tw15599942363356089582:0=0:=rfl
theorem tw5505826429486316045:0=0:=rfl
theorem tw3387251141829241505:0=0:=rfl
theorem tw16334047371117251644:0=0:=rfl
theorem tw7079640699407340545:0=0:=rfl
theorem tw12425287098750021186:0=0:=rfl
theorem tw2213796482182072598:0=0:=rfl
theorem tw7615740398088112644:0=0:=rfl
theorem tw10498639745214593063:0=0:=rfl
theorem tw11749143679911071267:0=0:=rfl
theorem tw11979510784237499732:0=0:=rfl
theorem tw1497922968236458903:0=0:=rfl
theorem tw13171955141824993965:0=0:=rfl
theorem tw11753428463152524501:0=0:=rfl
theorem tw13239429181663901299:0=0:=rfl
theorem tw12938981068014080101:0=0:=rfl
theorem tw13664441941425712065:0=0:=rfl
theorem tw12407895148795425497:0=0:=rfl
theorem tw651154129136311054:0=0:=rfl
theorem tw13140876789337438551:0=0:=rfl
theorem tw3281261167756600367:0=0:=rfl
theorem tw10239521605439409329:0=0:=rfl
theorem tw5582673989891108088:0=0:=rfl
theorem tw13028127312885005630:0=0:=rfl
theorem tw2604441005628967758:0=0:=rfl
theorem tw10337228873002951940:0=0:=rfl
theorem tw15511930712162918203:0=0:=rfl
theorem tw1621056186195824095:0=0:=rfl
theorem tw13827713325452940146:0=0:=rfl
theorem tw1009546364380606070:0=0:=rfl
theorem tw6640730859483513111:0=0:=rfl
theorem tw3579250848330855237:0=0:=rfl
theorem tw14383275468395506338:0=0:=rfl
theorem tw17924023175643296481:0=0:=rfl
theorem tw8419434898967301408:0=0:=rfl
theorem tw1229740774598102780:0=0:=rfl
theorem tw12409870852451688088:0=0:=rfl
theorem tw15078738446680093347:0=0:=rfl
theorem tw6537283949681149614:0=0:=rfl
theorem tw9912822866465235105:0=0:=rfl
theorem tw9648705277432119712:0=0:=rfl
theorem tw3944847048550054779:0=0:=rfl
theorem tw7895023072959339022:0=0:=rfl
theorem tw4535763893935452676:0=0:=rfl
theorem tw16826989223236491957:0=0:=rfl
theorem tw18401598778526820264:0=0:=rfl
theorem tw9128734506594340078:0=0:=rfl
theorem tw13974139371923485843:0=0:=rfl
theorem tw15209401891582655271:0=0:=rfl
theorem tw17943501636536740663:0=0:=rfl
end walk04
set_option Elab.async true in
set_option tactic.hygienic true in
theorem walk04:PySem.Challenge.rw_uf010035_04.Holds:=by
 w_on
 o_law
 o_head (Dv (ownsOf PySem.Challenge.pw_uf010035_04) wf)
 case hw=>w_witness2
 intro w s₀ s₁ mg mb G Y fa o pm cd doc dV kV ho hd hcd hD hmg hg args vals as hpre hlay hrd hwl hlo
 refine Ground.open G ?_
 intro T B D TE TW
 wrow_args hpre hlay hrd hwl hlo
 all_goals (
  rename_i zs hs hlay0 hL1 hr1 hl2 as4 as3 l vs as0 hL ra w1 r0 hI hr hc1 hc0
  refine wv (csts:=GJ) (bis:=Gz) (mu:=muL) (fz:=[]) (fns:=DN) (cs:=wf) (f:=28) (n:=37) T TE.topC (by decide+kernel) ⟨by decide+kernel,by decide+kernel,by decide+kernel,by decide+kernel⟩ (wt (by kernel_rfl) Y) (by decide+kernel) hg (by kernel_rfl) (by decide+kernel) hmg (tP w1 hL) (by simpa using hI) (by omega) (by decide) (C7 (n:=0) λ_=>rfl) λs' h1 h2 h3=>GoodW.toG ⟨.inl ⟨.bool true,.bool true,[],rfl,λcls=>rfl,.bool true,?_,λ_=>⟨.nil,by simp⟩⟩,h1,h2,h3⟩
  first|exact postW_of (by wrow_shape) (by wtm_val) (by str_meet;first|done|w_fin)|decide)
end Mine
end
theorem PySem.Challenge.cw_uf010035_04_holds : PySem.Challenge.rw_uf010035_04.Holds :=
 Mine.walk04
