import PyProof.Rows.All
import Wide.FinOn
import Wide.All
import PyProof.Rows.ListMul
import PyProof.IsInstance
import PyProof.ExcClass3
import PyProof.ExcBaseAll.ValueError
import PyProof.ExcAttrAll.ValueError
import PyProof.ExcArgsOwn
import PyProof.EqAt
import OpenK.AllK
import Open.Head
import KE.KRevIter
import PySem.Challenge.RW_uf010035_09
set_option Elab.async false
set_option maxRecDepth 100000
set_option tactic.hygienic false
set_option genSizeOfSpec false
set_option genSizeOf false
open Nat renaming le_trans → aa, le_of_eq → ao, le_add_right → aq, succ_le_succ → ax, add_le_add_left → aC, le_refl → aI, add_le_add_right → aN, zero_le → aQ, le_of_ble_eq_true → aU, le_succ → a9, lt_of_lt_of_le → bk, mul_le_mul_left → bn, add_assoc → bt, le_add_left → bw, add_right_comm → bD, add_le_add → bP, add_comm → ce, lt_irrefl → cm, lt_of_le_of_lt → cQ, lt_succ_self → cW, zero_add → da, le_of_lt_succ → du, pos_of_ne_zero → dC, le_of_not_lt → dD, not_succ_le_zero → dI, add_sub_cancel_left → dM, ne_of_lt → d9, le_of_lt → eB, sub_le → eK, sub_add_cancel → fG, le_of_succ_le_succ → fK, ne_of_gt → gm, not_lt → gV, max_le → gY, lt_trans → hU, add_sub_cancel' → ji, lt_of_lt_of_eq → jA, le_antisymm → lY, succ → mV, add_left_cancel → ol, lt_of_le_of_ne → oH, min_self → qQ, sub_zero → qR, min_le_right → sM, not_le_of_gt → sR, lt_of_succ_lt_succ → CS, mul_le_mul_right → GZ, sub_lt_sub_left → Hb, add_lt_add_left → Hg, le_succ_of_le → Kv, le_of_succ_le → Kx, sub_pos_of_lt → Ky
open List renaming getElem?_eq_some_iff → ae, length_append → af, length_map → ah, append_assoc → aj, mem_append_right → ak, mem_append_left → av, append_nil → aA, map_append → aB, mem_map → aG, getElem?_eq_getElem → aH, mem_of_getElem? → aM, getElem?_map → aO, length_set → aR, range → aV, contains_iff_mem → aX, not_mem_nil → aZ, nodup_append → a8, length_range → ba, mem_map_of_mem → bf, nodup_cons → bg, lookup_cons → bh, mem_flatMap → bj, getElem?_append_left → bl, flatMap_append → bo, getElem?_set_ne → bp, mem_range → bx, foldl_append → bz, map_map → bB, mem_cons → bG, replicate → bH, length_cons → bK, all_eq_true → bL, getElem?_set_self → bS, mem_append → bT, mem_filter → bU, length_reverse → bX, flatMap_cons → b0, count_le_count_cons → b7, map_congr_left → cb, getElem?_range → cc, getElem?_of_mem → cn, length_filter_le → cJ, filter_cons_of_pos → cM, getElem?_append_right → cP, nodup_nil → cR, flatMap_def → dh, getElem?_concat_length → di, length → dH, filter_cons_of_neg → dL, map_cons → eC, mem_reverse → eG, zip_cons_cons → eO, getElem?_eq_none → eQ, findIdx?_eq_some_iff_getElem → eV, ext_getElem? → fi, getElem?_set → fj, mem_singleton → fE, filter_eq_nil_iff → fH, filter_append → fJ, mem_zipIdx_iff_getElem? → fN, getD_eq_getElem?_getD → gb, length_drop → gr, map_reverse → gu, flatMap_map → gw, filterMap_cons → gC, length_pos_iff → gE, contains_cons → gW, size_toArray → hV, getElem?_inj → ij, map → ik, length_take → iB, any_eq_true → iC, flatMap_nil → iD, count_eq_zero_of_not_mem → iT, filter_map → jh, sublist_flatten_of_mem → jv, reverse_perm → ka, map_fst_zip → kY, take_length → kZ, getElem_map → k6, map_id' → lW, dropLast_eq_take → mC, pairwise_flatMap → mD, set_append_right → mE, count_cons_self → mU, replicate_succ → og, map_eq_nil_iff → oj, Pairwise → om, map_drop → on, not_mem_cons_of_ne_of_not_mem → oE, mem_filterMap → oF, count_append → qU, filter_congr → qV, flatten → qW, cons_append → sN, getElem_mem → sO, cons_ne_nil → sP, map_flatMap → sQ, length_nil → ug, length_zip → uh, of_mem_zip → uj, drop_zero → wO, getElem?_eq_none_iff → wY, getElem?_cons_succ → AF, length_eq_zero_iff → AI, append_cancel_left → AJ, drop_eq_nil_of_le → CT, map_nil → CU, map_set → CV, length_singleton → DE, length_replicate → DF, getElem?_reverse → DG, range' → GR, range_eq_range' → GS, filter → GU, mem_of_mem_take → GW, findIdx_getElem → GX, mem_of_mem_drop → GY, forall_mem_map → Hc, filter_sublist → He, reverse_append → Hf, filterMap_map → Kb, getElem?_drop → Ke, find?_eq_none → Kf, getElem_range → Kg, filter_filter → Kh, perm_middle → L3, isEmpty_iff → L4, nodup_range → L5
open Option.some renaming inj → ai, injEq → ii
open Bool renaming false_ne_true → am, and_eq_true_iff → ay, not_eq_true' → bZ, eq_iff_iff → cg, eq_false_iff → cK, and_eq_true → cV, not_eq_false' → dc, and_false → eM, noConfusion → gx, true_and → gK, or_eq_true → jg, false_eq_true → jB, and_true → kt, or_true → qP, false_or → Ax, or_false → Ay, or_eq_false_iff → GT
open PySem.Heap renaming get?_push_size → be, get?_push_of_some → bQ, get?_update_other → cr, get?_update_self → cI, lt_size → fh, SameBut → gq, ownExc_of_ok → Kz
open Option renaming map_eq_some_iff → bq, map → bR, bind_eq_some_iff → cj, isSome → cH, isSome_iff_exists → c8, isNone_iff_eq_none → eW, map_some → gN, mem_toList → ig, bind_some → kX, none → mT, any_eq_true → Kd
open Int renaming le_trans → bu, natCast_nonneg → bv, toNat_of_nonneg → bO, ofNat_le → ca, ofNat_lt → cu, not_lt → dB, le_of_lt → fc, toNat_lt → fF, not_le → ga, le_of_eq → lV, add_nonneg → mW, lt_of_le_of_lt → oG, toNat_le → qO, toNat → sK, max_eq_right → sL, min_eq_left → ui, le_add_of_nonneg_right → wP, ofNat_sub → Aw, ne_of_gt → CP, lt_trans → CQ, add_zero → CR, sub_nonneg_of_le → GQ, mul_one → GV, add_le_add_left → G8, lt_of_lt_of_le → Ka, min_eq_right → L2
open Array renaming length_toList → bE, getElem?_toList → b9, getElem?_eq_getElem → gy, toList_append → gA, getElem?_eq_some_iff → jC, size_setIfInBounds → Au, eraseIdxIfInBounds → Av, toList_push → Kw
open Nat.succ renaming inj → ib
open Int.ofNat renaming inj → iK
open Prod renaming snd → jD, fst → qT
open PySem.Builtin.List renaming listTooLong → ku, listExtendWith → vQ
open List.Pairwise renaming imp_of_mem → ky
open PySem.Heap.SameBut renaming update → oh
open List.cons renaming inj → oo
open PySem.Builtin.Range renaming rangeFitsLong → vP, rangeSize → AG, small → Ha
open PySem.Builtin.Int renaming intBits → G9
open PySem.Heap.IsSliceOf renaming new → Kc
noncomputable section
namespace Mine
open PySem
theorem ea0_3{A0 A1 A2:Prop}{G:Prop}(h:A0/\A1/\A2)(k:A0->A1->A2->G):G:=k h.1 h.2.1 h.2.2
theorem ux{A0 A1 A2 A3:Prop}{G:Prop}(h:A0/\A1/\A2/\A3)(k:A0->A1->A2->A3->G):G:=k h.1 h.2.1 h.2.2.1 h.2.2.2
theorem Dx{A0 A1 A2 A3 A4:Prop}{G:Prop}(h:A0/\A1/\A2/\A3/\A4)(k:A0->A1->A2->A3->A4->G):G:=k h.1 h.2.1 h.2.2.1 h.2.2.2.1 h.2.2.2.2
theorem ea1_2{α0:Type}{A0 A1:α0->Prop}{G:Prop}(h:∃a0,A0 a0/\A1 a0)(k:∀a0,A0 a0->A1 a0->G):G:=h.elim λa0 h=>k a0 h.1 h.2
theorem dm{α0:Type}{A0 A1 A2:α0->Prop}{G:Prop}(h:∃a0,A0 a0/\A1 a0/\A2 a0)(k:∀a0,A0 a0->A1 a0->A2 a0->G):G:=h.elim λa0 h=>k a0 h.1 h.2.1 h.2.2
theorem dg{α0:Type}{A0 A1 A2 A3:α0->Prop}{G:Prop}(h:∃a0,A0 a0/\A1 a0/\A2 a0/\A3 a0)(k:∀a0,A0 a0->A1 a0->A2 a0->A3 a0->G):G:=h.elim λa0 h=>k a0 h.1 h.2.1 h.2.2.1 h.2.2.2
theorem yv{α0:Type}{A0 A1 A2 A3 A4:α0->Prop}{G:Prop}(h:∃a0,A0 a0/\A1 a0/\A2 a0/\A3 a0/\A4 a0)(k:∀a0,A0 a0->A1 a0->A2 a0->A3 a0->A4 a0->G):G:=h.elim λa0 h=>k a0 h.1 h.2.1 h.2.2.1 h.2.2.2.1 h.2.2.2.2
theorem q9{α0 α1:Type}{A0:α0->α1->Prop}{G:Prop}(h:∃a0 a1,A0 a0 a1)(k:∀a0 a1,A0 a0 a1->G):G:=h.elim λa0 h=>h.elim λa1 h=>k a0 a1 h
theorem d0{α0 α1:Type}{A0 A1:α0->α1->Prop}{G:Prop}(h:∃a0 a1,A0 a0 a1/\A1 a0 a1)(k:∀a0 a1,A0 a0 a1->A1 a0 a1->G):G:=h.elim λa0 h=>h.elim λa1 h=>k a0 a1 h.1 h.2
theorem c6{α0 α1:Type}{A0 A1 A2:α0->α1->Prop}{G:Prop}(h:∃a0 a1,A0 a0 a1/\A1 a0 a1/\A2 a0 a1)(k:∀a0 a1,A0 a0 a1->A1 a0 a1->A2 a0 a1->G):G:=h.elim λa0 h=>h.elim λa1 h=>k a0 a1 h.1 h.2.1 h.2.2
theorem gP{α0 α1:Type}{A0 A1 A2 A3:α0->α1->Prop}{G:Prop}(h:∃a0 a1,A0 a0 a1/\A1 a0 a1/\A2 a0 a1/\A3 a0 a1)(k:∀a0 a1,A0 a0 a1->A1 a0 a1->A2 a0 a1->A3 a0 a1->G):G:=h.elim λa0 h=>h.elim λa1 h=>k a0 a1 h.1 h.2.1 h.2.2.1 h.2.2.2
theorem kA{α0 α1:Type}{A0 A1 A2 A3 A4 A5 A6:α0->α1->Prop}{G:Prop}(h:∃a0 a1,A0 a0 a1/\A1 a0 a1/\A2 a0 a1/\A3 a0 a1/\A4 a0 a1/\A5 a0 a1/\A6 a0 a1)(k:∀a0 a1,A0 a0 a1->A1 a0 a1->A2 a0 a1->A3 a0 a1->A4 a0 a1->A5 a0 a1->A6 a0 a1->G):G:=h.elim λa0 h=>h.elim λa1 h=>k a0 a1 h.1 h.2.1 h.2.2.1 h.2.2.2.1 h.2.2.2.2.1 h.2.2.2.2.2.1 h.2.2.2.2.2.2
theorem kD{α0 α1 α2:Type}{A0 A1:α0->α1->α2->Prop}{G:Prop}(h:∃a0 a1 a2,A0 a0 a1 a2/\A1 a0 a1 a2)(k:∀a0 a1 a2,A0 a0 a1 a2->A1 a0 a1 a2->G):G:=h.elim λa0 h=>h.elim λa1 h=>h.elim λa2 h=>k a0 a1 a2 h.1 h.2
theorem i6{α0 α1 α2:Type}{A0 A1 A2:α0->α1->α2->Prop}{G:Prop}(h:∃a0 a1 a2,A0 a0 a1 a2/\A1 a0 a1 a2/\A2 a0 a1 a2)(k:∀a0 a1 a2,A0 a0 a1 a2->A1 a0 a1 a2->A2 a0 a1 a2->G):G:=h.elim λa0 h=>h.elim λa1 h=>h.elim λa2 h=>k a0 a1 a2 h.1 h.2.1 h.2.2
theorem oX{α0 α1 α2:Type}{A0 A1 A2 A3:α0->α1->α2->Prop}{G:Prop}(h:∃a0 a1 a2,A0 a0 a1 a2/\A1 a0 a1 a2/\A2 a0 a1 a2/\A3 a0 a1 a2)(k:∀a0 a1 a2,A0 a0 a1 a2->A1 a0 a1 a2->A2 a0 a1 a2->A3 a0 a1 a2->G):G:=h.elim λa0 h=>h.elim λa1 h=>h.elim λa2 h=>k a0 a1 a2 h.1 h.2.1 h.2.2.1 h.2.2.2
theorem nU{α0 α1 α2:Type}{A0 A1 A2 A3 A4:α0->α1->α2->Prop}{G:Prop}(h:∃a0 a1 a2,A0 a0 a1 a2/\A1 a0 a1 a2/\A2 a0 a1 a2/\A3 a0 a1 a2/\A4 a0 a1 a2)(k:∀a0 a1 a2,A0 a0 a1 a2->A1 a0 a1 a2->A2 a0 a1 a2->A3 a0 a1 a2->A4 a0 a1 a2->G):G:=h.elim λa0 h=>h.elim λa1 h=>h.elim λa2 h=>k a0 a1 a2 h.1 h.2.1 h.2.2.1 h.2.2.2.1 h.2.2.2.2
theorem gF{α0 α1 α2:Type}{A0 A1 A2 A3 A4 A5:α0->α1->α2->Prop}{G:Prop}(h:∃a0 a1 a2,A0 a0 a1 a2/\A1 a0 a1 a2/\A2 a0 a1 a2/\A3 a0 a1 a2/\A4 a0 a1 a2/\A5 a0 a1 a2)(k:∀a0 a1 a2,A0 a0 a1 a2->A1 a0 a1 a2->A2 a0 a1 a2->A3 a0 a1 a2->A4 a0 a1 a2->A5 a0 a1 a2->G):G:=h.elim λa0 h=>h.elim λa1 h=>h.elim λa2 h=>k a0 a1 a2 h.1 h.2.1 h.2.2.1 h.2.2.2.1 h.2.2.2.2.1 h.2.2.2.2.2
theorem Il{α0 α1 α2 α3:Type}{A0 A1 A2 A3:α0->α1->α2->α3->Prop}{G:Prop}(h:∃a0 a1 a2 a3,A0 a0 a1 a2 a3/\A1 a0 a1 a2 a3/\A2 a0 a1 a2 a3/\A3 a0 a1 a2 a3)(k:∀a0 a1 a2 a3,A0 a0 a1 a2 a3->A1 a0 a1 a2 a3->A2 a0 a1 a2 a3->A3 a0 a1 a2 a3->G):G:=h.elim λa0 h=>h.elim λa1 h=>h.elim λa2 h=>h.elim λa3 h=>k a0 a1 a2 a3 h.1 h.2.1 h.2.2.1 h.2.2.2
theorem mP{α0 α1 α2 α3:Type}{A0 A1 A2 A3 A4 A5:α0->α1->α2->α3->Prop}{G:Prop}(h:∃a0 a1 a2 a3,A0 a0 a1 a2 a3/\A1 a0 a1 a2 a3/\A2 a0 a1 a2 a3/\A3 a0 a1 a2 a3/\A4 a0 a1 a2 a3/\A5 a0 a1 a2 a3)(k:∀a0 a1 a2 a3,A0 a0 a1 a2 a3->A1 a0 a1 a2 a3->A2 a0 a1 a2 a3->A3 a0 a1 a2 a3->A4 a0 a1 a2 a3->A5 a0 a1 a2 a3->G):G:=h.elim λa0 h=>h.elim λa1 h=>h.elim λa2 h=>h.elim λa3 h=>k a0 a1 a2 a3 h.1 h.2.1 h.2.2.1 h.2.2.2.1 h.2.2.2.2.1 h.2.2.2.2.2
theorem DA{α0 α1 α2 α3 α4:Type}{A0 A1 A2 A3:α0->α1->α2->α3->α4->Prop}{G:Prop}(h:∃a0 a1 a2 a3 a4,A0 a0 a1 a2 a3 a4/\A1 a0 a1 a2 a3 a4/\A2 a0 a1 a2 a3 a4/\A3 a0 a1 a2 a3 a4)(k:∀a0 a1 a2 a3 a4,A0 a0 a1 a2 a3 a4->A1 a0 a1 a2 a3 a4->A2 a0 a1 a2 a3 a4->A3 a0 a1 a2 a3 a4->G):G:=h.elim λa0 h=>h.elim λa1 h=>h.elim λa2 h=>h.elim λa3 h=>h.elim λa4 h=>k a0 a1 a2 a3 a4 h.1 h.2.1 h.2.2.1 h.2.2.2
theorem IX{α0 α1 α2 α3 α4:Type}{A0 A1 A2 A3 A4:α0->α1->α2->α3->α4->Prop}{G:Prop}(h:∃a0 a1 a2 a3 a4,A0 a0 a1 a2 a3 a4/\A1 a0 a1 a2 a3 a4/\A2 a0 a1 a2 a3 a4/\A3 a0 a1 a2 a3 a4/\A4 a0 a1 a2 a3 a4)(k:∀a0 a1 a2 a3 a4,A0 a0 a1 a2 a3 a4->A1 a0 a1 a2 a3 a4->A2 a0 a1 a2 a3 a4->A3 a0 a1 a2 a3 a4->A4 a0 a1 a2 a3 a4->G):G:=h.elim λa0 h=>h.elim λa1 h=>h.elim λa2 h=>h.elim λa3 h=>h.elim λa4 h=>k a0 a1 a2 a3 a4 h.1 h.2.1 h.2.2.1 h.2.2.2.1 h.2.2.2.2
theorem yL{α0 α1 α2 α3 α4:Type}{A0 A1 A2 A3 A4 A5:α0->α1->α2->α3->α4->Prop}{G:Prop}(h:∃a0 a1 a2 a3 a4,A0 a0 a1 a2 a3 a4/\A1 a0 a1 a2 a3 a4/\A2 a0 a1 a2 a3 a4/\A3 a0 a1 a2 a3 a4/\A4 a0 a1 a2 a3 a4/\A5 a0 a1 a2 a3 a4)(k:∀a0 a1 a2 a3 a4,A0 a0 a1 a2 a3 a4->A1 a0 a1 a2 a3 a4->A2 a0 a1 a2 a3 a4->A3 a0 a1 a2 a3 a4->A4 a0 a1 a2 a3 a4->A5 a0 a1 a2 a3 a4->G):G:=h.elim λa0 h=>h.elim λa1 h=>h.elim λa2 h=>h.elim λa3 h=>h.elim λa4 h=>k a0 a1 a2 a3 a4 h.1 h.2.1 h.2.2.1 h.2.2.2.1 h.2.2.2.2.1 h.2.2.2.2.2
theorem Ht{α0 α1 α2 α3 α4 α5:Type}{A0 A1:α0->α1->α2->α3->α4->α5->Prop}{G:Prop}(h:∃a0 a1 a2 a3 a4 a5,A0 a0 a1 a2 a3 a4 a5/\A1 a0 a1 a2 a3 a4 a5)(k:∀a0 a1 a2 a3 a4 a5,A0 a0 a1 a2 a3 a4 a5->A1 a0 a1 a2 a3 a4 a5->G):G:=h.elim λa0 h=>h.elim λa1 h=>h.elim λa2 h=>h.elim λa3 h=>h.elim λa4 h=>h.elim λa5 h=>k a0 a1 a2 a3 a4 a5 h.1 h.2
def Is{α:Type}(o:Option α)(R:α->Prop):Prop:=match o with
 |none=>True
 |some x=>R x
section
variable {α β:Type}{o:Option α}{R:α->Prop}{S:β->Prop}
theorem Is.of{x:α}(h:Is o R)(e:o=some x):R x:=by subst e;exact h
theorem Is.bind{f:α->Option β}(h:Is o R)(k:∀x,R x->Is (f x) S):Is (o.bind f) S:=by
 cases o with
 |none=>exact trivial
 |some x=>exact k x h
theorem Is.map{f:α->β}(h:Is o R)(k:∀x,R x->S (f x)):Is (o.map f) S:=by
 cases o with
 |none=>exact trivial
 |some x=>exact k x h
theorem Is.to(k:∀x,o=some x->R x):Is o R:=by
 cases o with
 |none=>exact trivial
 |some x=>exact k x rfl
theorem Is.self:Is o λx=>o=some x:=Is.to λ_ h=>h
theorem Is.imp{R':α->Prop}(h:Is o R)(k:∀x,R x->R' x):Is o R':=by
 cases o with
 |none=>exact trivial
 |some x=>exact k x h
theorem Is.ite2{p:Prop}[Decidable p]{a:Option α}(k:p->Is a R)(l:¬p->Is o R):Is (if p then a else o) R:=by
 by_cases h:p
 ·rw [if_pos h];exact k h
 ·rw [if_neg h];exact l h
theorem Is.ite{p:Prop}[Decidable p](k:p->Is o R):Is (if p then o else none) R:=Is.ite2 k λ_=>trivial
theorem Is.nite{b:Bool}(k:b=false->Is o R):Is (if b=true then none else o) R:=by
 cases b with
 |false=>exact k rfl
 |true=>exact trivial
end
theorem cO{A0 A1:Prop}{G:Prop}(h:A0/\A1)(k:A0->A1->G):G:=k h.1 h.2
theorem dw{α0:Type}{A0:α0->Prop}{G:Prop}(h:∃a0,A0 a0)(k:∀a0,A0 a0->G):G:=h.elim k
theorem fA{α:Type}{o:Option α}{G:Prop}(n:o=none->G)(s:∀a,o=some a->G):G:=by
 cases o with
 |none=>exact n rfl
 |some a=>exact s a rfl
theorem Js{α:Type}{o:Option α}{G:Prop}(s:∀a,o=some a->G)(n:o=none->G):G:=fA n s
theorem rj{o:Bool}{G:Prop}(t:o=true->G)(f:o=false->G):G:=by
 cases o with
 |false=>exact f rfl
 |true=>exact t rfl
section
variable {α:Type}{a b:α}{l:List α}{p:α->Prop}
theorem in1(h:a∈[b]):a=b:=fE.mp h
theorem rz(h:a≠b):a∉[b]:=λq=>h (in1 q)
theorem AD(h:a∉[b]):a≠b:=λq=>h (q▸.head _)
theorem qY:∀b∈([]:List α),p b:=nofun
theorem eJ(h:p a)(k:∀b∈l,p b):∀b∈a::l,p b:=λ_ q=>(bG.mp q).elim (λe=>e▸h) λq=>k _ q
theorem dN{G:Prop}(h:b∈a::l)(k:b=a->G)(k':b∈l->G):G:=(bG.mp h).elim k k'
theorem cq{l':List α}(h:∀b∈l,p b)(k:∀b∈l',p b):∀b∈l++l',p b:=λb hb=>(bT.mp hb).elim (h b) (k b)
theorem ED(h:a∉l)(k:a≠b):a∉l++[b]:=λq=>(bT.mp q).elim h λq=>k (in1 q)
theorem dk(h:p a):∀b∈[a],p b:=eJ h qY
end
theorem dt{α:Type}{l m:List α}{k:Nat}{x:α}(r:l[k]? =some x):(l++m)[k]? =some x:=(bl (ae.mp r).1).trans r
theorem gQ{α:Type}{l:List α}{a x:α}{k:Nat}(h:(l++[a])[k]? =some x):l[k]? =some x\/k=l.length/\x=a:=by
 by_cases hlt:k<l.length
 ·exact .inl ((bl hlt).symm.trans h)
 ·have h':=(cP (gV.mp hlt)).symm.trans h
  cases hk:k-l.length with
  |zero=>rw [hk]at h';exact .inr ⟨lY (Nat.le_of_sub_eq_zero hk) (gV.mp hlt),(ai h').symm⟩
  |succ m=>rw [hk]at h';exact nomatch h'
theorem fp{A B L R:Nat}(h:A<=B)(v:L+B<=R+A):L<=R:=Nat.le_of_add_le_add_right (aa v (aC h R))
theorem jz{A B L R:Int}(h:A<=B)(v:L+B<=R+A):L<=R:=Int.le_of_add_le_add_right (bu v (G8 h R))
theorem yA{m:Nat}(h:m<=1000):-10 ^ 12<=(m:Int)/\(m:Int)<=10 ^ 12:=⟨bu (by decide) (bv m),bu (ca.mpr h) (by decide)⟩
theorem smt{a b:Nat}(h:a<=1000):((a:Int)-b).toNat<=1000000:=qO.mpr (bu (Int.sub_le_self _ (bv b)) (bu (ca.mpr h) (by decide)))
theorem bc{G:Prop}(h:(G->False)->False):G:=Classical.byContradiction h
theorem eY{α:Type}{x:α}{p:Prop}(h:none=some x):p:=nomatch h
theorem oC{α β:Type}{a c:α}{b d:β}(h:some (a,b)=some (c,d)):a=c/\b=d:=Prod.mk.inj (ai h)
inductive V where
 |none
 |bool (b:Bool)
 |int (i:Int)
 |str (s:List Char)
 |tup (vs:List V)
 |lst (vs:List V)
 |dct (ks:List (List Char)) (vs:List V)
 |rng (a b:Int)
 |ref (i:Nat)
inductive O where
 |list (vs:List V)
 |dict (ks:List (List Char)) (vs:List V)
 |inst (c:Nat) (d:Nat)
 |ns (ks:List (List Char)) (vs:List V)
abbrev AH:=List O
abbrev Fm:=List (Option V)
mutual
noncomputable def V.data:V->Bool
 |.none|.bool _|.int _|.str _=>true
 |.tup vs|.lst vs=>V.datas vs
 |.dct _ _|.rng _ _|.ref _=>false
noncomputable def V.datas:List V->Bool
 |[]=>true
 |v::vs=>V.data v&&V.datas vs
end
mutual
noncomputable def V.depth:V->Nat
 |.tup vs|.lst vs=>V.depths vs+1
 |.none|.bool _|.int _|.str _|.dct _ _|.rng _ _|.ref _=>0
noncomputable def V.depths:List V->Nat
 |[]=>0
 |v::vs=>max (V.depth v) (V.depths vs)
end
mutual
noncomputable def gf:V->V->Bool
 |.none,.none=>true
 |.bool a,.bool b=>a==b
 |.bool a,.int j=>(if a then 1 else 0)==j
 |.int i,.bool b=>i==(if b then 1 else 0)
 |.int i,.int j=>i==j
 |.str x,.str y=>x==y
 |.lst xs,.lst ys=>wH xs ys
 |.tup xs,.tup ys=>wH xs ys
 |_,_=>false
noncomputable def wH:List V->List V->Bool
 |[],[]=>true
 |x::xs,y::ys=>gf x y&&wH xs ys
 |_,_=>false
end
inductive Ty where
 |int|bool|str|list|tuple
deriving DecidableEq
inductive Bop where
 |add|sub|mul|fdiv|mod|pow
deriving DecidableEq
inductive Cop where
 |eq|ne|lt|le|gt|ge|is|isnot|in_|notin
set_option genInjectivity false in
inductive Prim where
 |bop (o:Bop)
 |cop (o:Cop)
 |not|neg
 |len|isinst (t:Ty)|range1|range2|list|int|min|all
 |item|slice|rev
 |mklist|mktup|mkdict (ks:List (List Char))|mkdict1
 |append|pop|pop0|extend|index|dpop|lindex|rep
 |attr (n:List Char)
inductive Mt where
 |list|dict|str|tup
noncomputable def Prim.fresh:Prim->Bool
 |.list|.slice|.mklist|.mkdict _|.mkdict1|.rep|.bop .add=>true
 |_=>false
set_option genInjectivity false in
inductive Ex where
 |cst (v:V)
 |var (i:Nat)
 |prim (mu:Bool) (p:Prim) (args:List Ex)
 |and (a b:Ex)
 |or (a b:Ex)
 |cmp2 (a:Ex) (o₁:Cop) (b:Ex) (o₂:Cop) (c:Ex)
 |call (f:Nat) (args:List Ex)
 |meth (k f:Nat) (name:List Char) (o:Ex) (args:List Ex)
 |mcall (t:Mt) (mu:Bool) (p:Prim) (o:Ex) (args:List Ex)
 |new (c:Nat) (f:Nat) (args:List Ex)
 |comp (mu:Bool) (elt it:Ex) (cond:Option Ex)
set_option genInjectivity false in
inductive St where
 |asg (i:Nat) (e:Ex)
 |asgTup (is:List Nat) (e:Ex)
 |setItem (o i e:Ex)
 |setAttr (o:Ex) (n:List Char) (e:Ex)
 |expr (e:Ex)
 |ite (c:Ex) (a b:List St)
 |forIn (rev:Bool) (tgt:Nat ⊕ List Nat) (e:Ex) (body:List St)
 |while_ (c:Ex) (body:List St)
 |ret (e:Ex)
 |raise (c:Nat)
 |try_ (body:List St) (cls:Nat)
 |pass
structure Fn where
 arity:Nat
 extra:Nat
 body:List St
noncomputable def O.lst:O->Option (List V)
 |.list vs=>some vs
 |_=>none
noncomputable def O.dct:O->Option (List (List Char)×List V)
 |.dict ks vs=>some (ks,vs)
 |_=>none
noncomputable def dJ(H:AH):V->Option (List V)
 |.lst vs=>some vs
 |.ref i=>H[i]?.bind O.lst
 |_=>none
noncomputable def iY(H:AH):V->Option (List (List Char)×List V)
 |.dct ks vs=>some (ks,vs)
 |.ref i=>H[i]?.bind O.dct
 |_=>none
noncomputable def rH(vs:List V):Bool:=V.datas vs&&decide (V.depths vs<=50)
noncomputable def rdD(v:V):Option V:=if(V.data v&&decide (V.depth v<=50))=true then some v else none
noncomputable def rd(H:AH)(v:V):Option V:=
 match v with
 |.ref i=>(dJ H (.ref i)).bind λvs=>if rH vs=true then some (.lst vs)else none
 |v=>rdD v
noncomputable def az:Nat:=1000000
noncomputable def tb(n:Nat)(i:Int):Option Nat:=
 if 0<=i then(if i<n then some i.toNat else none)else(if 0<=i+n then some (i+n).toNat else none)
noncomputable def ft(k:List Char):List (List Char)->List V->Option V
 |k'::ks,v::vs=>if k=k' then some v else ft k ks vs
 |_,_=>none
noncomputable def dK(k:List Char)(x:V):List (List Char)->List V->List (List Char)×List V
 |k'::ks,v::vs=>if k=k' then(k'::ks,x::vs)else let r:=dK k x ks vs;(k'::r.1,v::r.2)
 |_,_=>([k],[x])
noncomputable def kj(k:List Char):List (List Char)->List V->List (List Char)×List V
 |k'::ks,v::vs=>if k=k' then(ks,vs)else let r:=kj k ks vs;(k'::r.1,v::r.2)
 |_,_=>([],[])
noncomputable def jo(n:Nat)(i:Int):Nat:=
 if i<0 then(if i+n<0 then 0 else(i+n).toNat)else(if i<n then i.toNat else n)
noncomputable def bM{α:Type}(xs:List α)(a b:Nat):List α:=(xs.take b).drop a
noncomputable def kI:V->Option (Option Int)
 |.none=>some none
 |.int i=>some (some i)
 |_=>none
noncomputable def wR(n:Nat):Option Int->Nat
 |none=>0
 |some i=>jo n i
noncomputable def wj(n:Nat):Option Int->Nat
 |none=>n
 |some i=>jo n i
noncomputable def fk:V->Option Bool
 |.bool b=>some b
 |_=>none
noncomputable def LA(H:AH)(i:Nat):Bool:=match H[i]? with
 |some (.list _)|some (.dict _ _)|some (.inst _ _)=>true
 |_=>false
noncomputable def Bl(H:AH):V->Option Bool
 |.none=>some true
 |.ref i=>if LA H i then some false else none
 |.rng _ _=>none
 |_=>some false
noncomputable def LU(H:AH)(a b:V):Option Bool:=match b with
 |.none=>Bl H a
 |_=>none
noncomputable def cC(i:Int):Bool:=decide (-10 ^ 12<=i/\i<=10 ^ 12)
noncomputable def oy(f:Int->Int->Option Int):V->V->Option V
 |.int a,.int b=>(f a b).map V.int
 |_,_=>none
noncomputable def Iz(a b:Int):Option Int:=if cC a&&cC b then some (a*b)else none
noncomputable def LG(a b:Int):Option Int:=if 0<b/\b<=10 ^ 12 then some (a/b)else none
noncomputable def Lh(a b:Int):Option Int:=if 0<b then some (a%b)else none
noncomputable def Lk(a b:Int):Option Int:=if a=10/\0<=b/\b<=30 then some (10 ^ b.toNat)else none
noncomputable def Hx(H:AH)(a b:V):Option V:=(dJ H a).bind λxs=>(dJ H b).bind λys=>if xs.length+ys.length<=az then some (.lst (xs++ys))else none
noncomputable def FY(H:AH)(a b:V):Option V:=match a with
 |.int _=>oy (λa b=>some (a+b)) a b
 |.str x=>(match b with|.str y=>if x.length+y.length<=az then some (.str (x++y))else none|_=>none)
 |.tup x=>(match b with|.tup y=>if x.length+y.length<=az then some (.tup (x++y))else none|_=>none)
 |_=>Hx H a b
noncomputable def Lf(_:AH)(a b:V):Option V:=oy Iz a b
noncomputable def xW(o:Bop)(a b:V)(H:AH):Option V:=match o with
 |.add=>FY H a b
 |.sub=>oy (λa b=>some (a-b)) a b
 |.mul=>Lf H a b
 |.fdiv=>oy LG a b
 |.mod=>oy Lh a b
 |.pow=>oy Lk a b
noncomputable def inC(s:List Char):List Char->Option Bool
 |[]=>none
 |c::t=>if t.isEmpty=true then some (s.contains c)else none
noncomputable def V.txt:V->Option (List Char)
 |.str s=>some s
 |_=>mT
noncomputable def JE(H:AH)(x:V)(vs:List V):Option Bool:=(rd H x).bind λx'=>if rH vs=true then some (vs.any λy=>gf y x')else none
noncomputable def inD(H:AH)(x c:V):Option Bool:=(iY H c).bind λd=>x.txt.map λk=>d.1.contains k
noncomputable def HI(H:AH)(x c:V)(o:Option (List V)):Option Bool:=match o with
 |some vs=>JE H x vs
 |none=>inD H x c
noncomputable def Ko(H:AH)(x c:V):Option Bool:=
 match c with
 |.str s=>x.txt.bind (inC s)
 |.tup vs=>JE H x vs
 |c=>HI H x c (dJ H c)
noncomputable def eqO(H:AH)(a b:V):Option Bool:=(rd H a).bind λx=>(rd H b).map λy=>gf x y
noncomputable def vT(f:Int->Int->Bool):V->V->Option Bool
 |.int a,.int b=>some (f a b)
 |_,_=>none
noncomputable def iV(o:Cop)(a b:V)(H:AH):Option Bool:=match o with
 |.eq=>eqO H a b
 |.ne=>(eqO H a b).map (!·)
 |.lt=>vT (λa b=>decide (a<b)) a b
 |.le=>vT (λa b=>decide (a<=b)) a b
 |.gt=>vT (λa b=>decide (b<a)) a b
 |.ge=>vT (λa b=>decide (b<=a)) a b
 |.is=>LU H a b
 |.isnot=>(LU H a b).map (!·)
 |.in_=>Ko H a b
 |.notin=>(Ko H a b).map (!·)
noncomputable def V.isRng:V->Bool
 |.rng _ _=>true
 |_=>false
noncomputable def iL(a b:Int):List V:=(aV (b-a).toNat).map λ(i:Nat)=>V.int (a+i)
noncomputable def p4(H:AH):V->Option (List V)
 |.tup vs=>some vs
 |.str s=>some (s.map λc=>V.str [c])
 |.rng a b=>some (iL a b)
 |v=>dJ H v
noncomputable def HS:V->Option (List V)
 |.tup vs=>some vs.reverse
 |.lst vs=>some vs.reverse
 |_=>none
noncomputable def je(rev:Bool)(H:AH)(v:V):Option (List V):=match rev with
 |false=>p4 H v
 |true=>HS v
structure Prog where
 fns:Nat->Option Fn
 sub:Nat->Nat->Bool
noncomputable def yk(cs:List (List Nat))(k j:Nat):Bool:=(cs[k]?).any (·.contains j)
noncomputable def uJ(fns:List Fn)(cs:List (List Nat)):Prog:={fns:=λi=>fns[i]?,sub:=yk cs}
noncomputable def O.isTy(t:Ty):O->Option Bool
 |.list _=>some (t==.list)
 |.dict _ _=>some false
 |_=>none
noncomputable def isinst(H:AH):V->Ty->Option Bool
 |.int _,t=>some (t==.int)
 |.bool _,t=>some (t==.int||t==.bool)
 |.str _,t=>some (t==.str)
 |.tup _,t=>some (t==.tuple)
 |.lst _,t=>some (t==.list)
 |.none,_=>some false
 |.dct _ _,_=>some false
 |.ref i,t=>H[i]?.bind (O.isTy t)
 |_,_=>none
noncomputable def mm:List V->Option (List Bool)
 |[]=>some []
 |.bool b::r=>(mm r).map (b::·)
 |_::_=>none
noncomputable def V.num:V->Option Int
 |.int a=>some a
 |_=>mT
noncomputable def KJ(o:Bop):List V->AH->Option (V×AH)
 |[a,b],H=>(xW o a b H).map (·,H)
 |_,_=>none
noncomputable def LP(o:Cop):List V->AH->Option (V×AH)
 |[a,b],H=>(iV o a b H).map (V.bool ·,H)
 |_,_=>none
noncomputable def KU:List V->AH->Option (V×AH)
 |[a],H=>(fk a).map (V.bool !·,H)
 |_,_=>none
noncomputable def Lw:List V->AH->Option (V×AH)
 |[v],H=>v.num.map λa=>(V.int (-a),H)
 |_,_=>none
noncomputable def Cm(d:Option Nat):Option (List V)->Option Nat
 |some vs=>some vs.length
 |none=>d
noncomputable def JV(H:AH):V->Option Nat
 |.str s=>some s.length
 |.tup s=>some s.length
 |v=>Cm ((iY H v).map λd=>d.1.length) (dJ H v)
noncomputable def Hq:List V->AH->Option (V×AH)
 |[v],H=>(JV H v).map λ(n:Nat)=>(V.int n,H)
 |_,_=>none
noncomputable def vd(t:Ty):List V->AH->Option (V×AH)
 |[a],H=>(isinst H a t).map (V.bool ·,H)
 |_,_=>none
noncomputable def uQ:List V->AH->Option (V×AH)
 |[v],H=>v.num.bind λb=>if cC b=true then some (.rng 0 b,H)else none
 |_,_=>none
noncomputable def vI:List V->AH->Option (V×AH)
 |[v,w],H=>v.num.bind λa=>w.num.bind λb=>if(cC a&&cC b)=true then some (.rng a b,H)else none
 |_,_=>none
noncomputable def DB(H:AH):V->Option V
 |.rng a b=>if(b-a).toNat<=az then some (.lst (iL a b))else none
 |.tup vs=>if vs.length<=az then some (.lst vs)else none
 |v=>(dJ H v).bind λvs=>if vs.length<=az then some (.lst vs)else none
noncomputable def xK:List V->AH->Option (V×AH)
 |[v],H=>(DB H v).map (·,H)
 |_,_=>none
noncomputable def EH:List V->AH->Option (V×AH)
 |[.bool b],H=>some (.int (if b then 1 else 0),H)
 |_,_=>none
noncomputable def IW:List V->AH->Option (V×AH)
 |[v,w],H=>v.num.bind λa=>w.num.map λb=>(V.int (min a b),H)
 |_,_=>none
noncomputable def HT:List V->AH->Option (V×AH)
 |[v],H=>((dJ H v).bind mm).map λbs=>(.bool (bs.all id),H)
 |_,_=>none
noncomputable def y5(H:AH)(v:V)(i:Int):Option V:=match v with
 |.str s=>(tb s.length i).bind λj=>s[j]?.map λc=>.str [c]
 |.tup vs=>(tb vs.length i).bind λj=>vs[j]?
 |v=>(dJ H v).bind λvs=>(tb vs.length i).bind λj=>vs[j]?
noncomputable def IG(H:AH)(v i:V):Option V:=match i with
 |.int i=>y5 H v i
 |.str k=>(iY H v).bind λd=>ft k d.1 d.2
 |_=>none
noncomputable def CZ:List V->AH->Option (V×AH)
 |[v,i],H=>(IG H v i).map (·,H)
 |_,_=>none
noncomputable def tm(H:AH)(v:V)(lo hi:Option Int):Option V:=match v with
 |.str s=>if s.length<=az then some (.str (bM s (wR s.length lo) (wj s.length hi)))else none
 |v=>(dJ H v).bind λs=>if s.length<=az then some (.lst (bM s (wR s.length lo) (wj s.length hi)))else none
noncomputable def sY:List V->AH->Option (V×AH)
 |[v,a,b],H=>(kI a).bind λlo=>(kI b).bind λhi=>(tm H v lo hi).map (·,H)
 |_,_=>none
noncomputable def L0:List V->AH->Option (V×AH)
 |[v,w],H=>w.num.bind λi=>if i=-1 then(dJ H v).bind λs=>if s.length<=az then some (.lst s.reverse,H)else none else none
 |_,_=>none
noncomputable def vO(vs:List V)(H:AH):Option (V×AH):=if vs.length<=az then some (.lst vs,H)else none
noncomputable def zl(vs:List V)(H:AH):Option (V×AH):=if vs.length<=az then some (.tup vs,H)else none
noncomputable def qJ(ks:List (List Char))(vs:List V)(H:AH):Option (V×AH):=if ks.length=vs.length/\ks.length<=15/\ks.Nodup then some (.dct ks vs,H)else none
noncomputable def ye:List V->AH->Option (V×AH)
 |[k,v],H=>k.txt.map λk=>(.dct [k] [v],H)
 |_,_=>none
noncomputable def V.at:V->Option Nat
 |.ref i=>some i
 |_=>mT
noncomputable def oO(H:AH)(v:V):Option (Nat×List V):=v.at.bind λi=>(H[i]?.bind O.lst).bind λvs=>some (i,vs)
noncomputable def un:List V->AH->Option (V×AH)
 |[v,x],H=>(oO H v).bind λp=>if p.2.length<=az then some (.none,H.set p.1 (.list (p.2++[x])))else none
 |_,_=>none
noncomputable def IM:List V->AH->Option (V×AH)
 |[v],H=>(oO H v).bind λp=>if p.2.length<=az then p.2.getLast?.map λx=>(x,H.set p.1 (.list p.2.dropLast))else none
 |_,_=>none
noncomputable def CW:List V->AH->Option (V×AH)
 |[v,w],H=>(oO H v).bind λp=>w.num.bind λn=>if n=0/\p.2.length<=az then p.2.head?.map λx=>(x,H.set p.1 (.list p.2.tail))else none
 |_,_=>none
noncomputable def uP:List V->AH->Option (V×AH)
 |[v,w],H=>(oO H v).bind λp=>(dJ H w).bind λys=>if p.2.length+ys.length<=az then some (.none,H.set p.1 (.list (p.2++ys)))else none
 |_,_=>none
noncomputable def V.tpl:V->Option (List V)
 |.tup vs=>some vs
 |_=>mT
noncomputable def y4:List V->AH->Option (V×AH)
 |[v,x],H=>v.tpl.bind λvs=>(rd H x).bind λx'=>if rH vs=true then(vs.findIdx? λy=>gf y x').map λ(k:Nat)=>(V.int k,H)else none
 |_,_=>none
noncomputable def vK:List V->AH->Option (V×AH)
 |[v,x],H=>(dJ H v).bind λvs=>(rd H x).bind λx'=>if rH vs=true then(vs.findIdx? λy=>gf y x').map λ(k:Nat)=>(V.int k,H)else none
 |_,_=>none
noncomputable def HR:List V->AH->Option (V×AH)
 |[.lst [x],.int n],H=>if 0<=n/\n<=1000 then some (.lst (bH n.toNat x),H)else none
 |_,_=>none
noncomputable def z8(H:AH)(v:V):Option (Nat×(List (List Char)×List V)):=v.at.bind λi=>(H[i]?.bind O.dct).bind λd=>some (i,d)
noncomputable def C6:List V->AH->Option (V×AH)
 |[v,w],H=>(z8 H v).bind λp=>w.txt.bind λk=>if p.2.1.length<=az then(ft k p.2.1 p.2.2).map λx=>(x,H.set p.1 (.dict (kj k p.2.1 p.2.2).1 (kj k p.2.1 p.2.2).2))else none
 |_,_=>none
noncomputable def O.ins:O->Option Nat
 |.inst c d=>if c=0 then some d else none
 |_=>none
noncomputable def O.nms:O->Option (List (List Char)×List V)
 |.ns ks vs=>some (ks,vs)
 |_=>none
noncomputable def fO(H:AH)(v:V):Option (Nat×(List (List Char)×List V)):=v.at.bind λi=>(H[i]?.bind O.ins).bind λd=>(H[d]?.bind O.nms).map λq=>(d,q)
noncomputable def C1(n:List Char):List V->AH->Option (V×AH)
 |[v],H=>(fO H v).bind λq=>(ft n q.2.1 q.2.2).map (·,H)
 |_,_=>none
noncomputable def prim(P:Prog):Prim->List V->AH->Option (V×AH)
 |.bop o=>KJ o
 |.cop o=>LP o
 |.not=>KU
 |.neg=>Lw
 |.len=>Hq
 |.isinst t=>vd t
 |.range1=>uQ
 |.range2=>vI
 |.list=>xK
 |.int=>EH
 |.min=>IW
 |.all=>HT
 |.item=>CZ
 |.slice=>sY
 |.rev=>L0
 |.mklist=>vO
 |.mktup=>zl
 |.mkdict ks=>qJ ks
 |.mkdict1=>ye
 |.append=>un
 |.pop=>IM
 |.pop0=>CW
 |.extend=>uP
 |.index=>y4
 |.dpop=>C6
 |.lindex=>vK
 |.rep=>HR
 |.attr n=>C1 n
noncomputable def kT:V->AH->Option (V×AH)
 |.lst vs,H=>some (.ref H.length,H++[.list vs])
 |.dct ks vs,H=>some (.ref H.length,H++[.dict ks vs])
 |_,_=>none
noncomputable def kF(H:AH)(v:V)(t:Mt):Bool:=match t with
 |.str=>v.txt.isSome
 |.list=>(dJ H v).isSome
 |.dict=>(iY H v).isSome
 |.tup=>v.tpl.isSome
noncomputable def e9(H:AH)(_k:Nat)(name:List Char)(v:V):Bool:=(fO H v).any λq=>!q.2.1.contains name
noncomputable def aY(P:Prog)(mu:Bool)(p:Prim)(vs:List V)(H:AH):Option (V×AH):=
 if mu then(if p.fresh then(prim P p vs H).bind λr=>kT r.1 r.2 else none)else prim P p vs H
abbrev QE:=V->AH->Prop
abbrev XE:=Nat->AH->Prop
abbrev Calls:=Nat->List V->AH->QE->XE->Prop
def g7(r:Option (V×AH))(Q:QE):Prop:=match r with|some (v,H)=>Q v H|none=>False
def mK(r:Option Bool)(K:Bool->Prop):Prop:=match r with|some b=>K b|none=>False
def compL(F:V->AH->(Option V->AH->Prop)->Prop)(ok:AH->Prop):List V->List V->AH->(List V->AH->Prop)->Prop
 |[],acc,H,Q=>ok H/\Q acc H
 |v::vs,acc,H,Q=>ok H/\F v H λr H'=>compL F ok vs (match r with|some x=>acc++[x]|none=>acc) H' Q
mutual
def cz(P:Prog)(C:Calls):Ex->Fm->AH->QE->XE->Prop
 |.cst v,_,H,Q,_=>Q v H
 |.var i,ρ,H,Q,_=>match ρ[i]? with|some (some v)=>Q v H|_=>False
 |.prim mu p args,ρ,H,Q,X=>fR P C args ρ H (λvs H'=>g7 (aY P mu p vs H') Q) X
 |.and a b,ρ,H,Q,X=>cz P C a ρ H (λv H'=>mK (fk v) λt=>if t then cz P C b ρ H' Q X else Q (.bool t) H') X
 |.or a b,ρ,H,Q,X=>cz P C a ρ H (λv H'=>mK (fk v) λt=>if !t then cz P C b ρ H' Q X else Q (.bool t) H') X
 |.cmp2 a o₁ b o₂ c,ρ,H,Q,X=>cz P C a ρ H (λx H₁=>cz P C b ρ H₁ (λy H₂=>mK (iV o₁ x y H₂) λt=>
   if t then cz P C c ρ H₂ (λz H₃=>mK (iV o₂ y z H₃) λt'=>Q (.bool t') H₃) X else Q (.bool false) H₂) X) X
 |.call f args,ρ,H,Q,X=>fR P C args ρ H (λvs H'=>C f vs H' Q X) X
 |.meth k f name o args,ρ,H,Q,X=>cz P C o ρ H (λv H₁=>e9 H₁ k name v=true/\fR P C args ρ H₁ (λvs H'=>C f (v::vs) H' Q X) X) X
 |.mcall t mu p o args,ρ,H,Q,X=>cz P C o ρ H (λv H₁=>kF H₁ v t=true/\fR P C args ρ H₁ (λvs H'=>g7 (aY P mu p (v::vs) H') Q) X) X
 |.new c f args,ρ,H,Q,X=>fR P C args ρ H (λvs H'=>C f (.ref (H'.length+1)::vs) (H'++[.ns [] [],.inst c H'.length]) (λv H''=>v=.none/\Q (.ref (H'.length+1)) H'') X) X
 |.comp mu elt it cond,ρ,H,Q,X=>cz P C it ρ H (λv H₁=>∃items,p4 H₁ v=some items/\items.length<=az/\
   compL (λx H' K=>match cond with
     |none=>cz P C elt (ρ++[some x]) H' (λy H''=>K (some y) H'') X
     |some c=>cz P C c (ρ++[some x]) H' (λb H₂=>mK (fk b) λt=>if t then cz P C elt (ρ++[some x]) H₂ (λy H''=>K (some y) H'') X else K none H₂) X)
    (λH'=>p4 H' v=some items) items [] H₁ (λys H₂=>g7 (if mu then kT (.lst ys) H₂ else some (.lst ys,H₂)) Q)) X
def fR(P:Prog)(C:Calls):List Ex->Fm->AH->(List V->AH->Prop)->XE->Prop
 |[],_,H,Q,_=>Q [] H
 |e::es,ρ,H,Q,X=>cz P C e ρ H (λv H'=>fR P C es ρ H' (λvs H''=>Q (v::vs) H'') X) X
end
noncomputable def fX(ρ:Fm):Nat ⊕ List Nat->V->Option Fm
 |.inl i,v=>some (ρ.set i (some v))
 |.inr is,.tup vs=>if is.length=vs.length then some ((is.zip vs).foldl (λρ p=>ρ.set p.1 (some p.2)) ρ)else none
 |_,_=>none
abbrev KS:=Fm->AH->Prop
def forL(F:V->Fm->AH->KS->Prop)(ok:AH->Prop):List V->Fm->AH->KS->Prop
 |[],ρ,H,K=>ok H/\K ρ H
 |v::vs,ρ,H,K=>ok H/\F v ρ H λρ' H'=>forL F ok vs ρ' H' K
def whileL(F:Fm->AH->KS->KS->Prop):Nat->Fm->AH->KS->Prop
 |0,_,_,_=>False
 |k+1,ρ,H,K=>F ρ H (λρ' H'=>whileL F k ρ' H' K) K
noncomputable def yD(r:Nat)(k:List Char)(x:V)(H:AH)(o:Option O):Option AH:=match o with
 |some (.dict ks vs)=>if ks.length<=az then some (H.set r (.dict (dK k x ks vs).1 (dK k x ks vs).2))else none
 |_=>none
noncomputable def EA(r:Nat)(i:Int)(x:V)(H:AH)(o:Option O):Option AH:=match o with
 |some (.list vs)=>if 0<=i/\i<vs.length then some (H.set r (.list (vs.set i.toNat x)))else none
 |_=>none
noncomputable def d7(o i x:V)(H:AH):Option AH:=match o with
 |.ref r=>(match i with
  |.str k=>yD r k x H H[r]?
  |.int k=>EA r k x H H[r]?
  |_=>none)
 |_=>none
noncomputable def iu(o:V)(n:List Char)(x:V)(H:AH):Option AH:=
 (fO H o).bind λq=>if q.2.1.length<=1000 then some (H.set q.1 (.ns (dK n x q.2.1 q.2.2).1 (dK n x q.2.1 q.2.2).2))else none
mutual
def s8(P:Prog)(C:Calls):St->Fm->AH->KS->QE->XE->Prop
 |.asg i e,ρ,H,K,_,X=>cz P C e ρ H (λv H'=>i<ρ.length/\K (ρ.set i (some v)) H') X
 |.asgTup is e,ρ,H,K,_,X=>cz P C e ρ H (λv H'=>match fX ρ (.inr is) v with|some ρ'=>K ρ' H'|none=>False) X
 |.setItem o i e,ρ,H,K,_,X=>cz P C e ρ H (λx H₁=>cz P C o ρ H₁ (λov H₂=>cz P C i ρ H₂ (λiv H₃=>match d7 ov iv x H₃ with|some H'=>K ρ H'|none=>False) X) X) X
 |.setAttr o n e,ρ,H,K,_,X=>cz P C e ρ H (λx H₁=>cz P C o ρ H₁ (λov H₂=>match iu ov n x H₂ with|some H'=>K ρ H'|none=>False) X) X
 |.expr e,ρ,H,K,_,X=>cz P C e ρ H (λ_ H'=>K ρ H') X
 |.ite c a b,ρ,H,K,R,X=>cz P C c ρ H (λv H'=>mK (fk v) λt=>if t then a7 P C a ρ H' K R X else a7 P C b ρ H' K R X) X
 |.forIn rev tgt e body,ρ,H,K,R,X=>cz P C e ρ H (λv H₁=>∃items,je rev H₁ v=some items/\items.length<=az/\
   forL (λx ρ' H' K'=>match fX ρ' tgt x with|some ρ''=>a7 P C body ρ'' H' K' R (λ_ _=>False)|none=>False)
    (λH'=>je rev H' v=some items) items ρ H₁ K) X
 |.while_ c body,ρ,H,K,R,X=>∃k,whileL (λρ' H' K₁ K₂=>cz P C c ρ' H' (λv H''=>mK (fk v) λt=>if t then a7 P C body ρ' H'' K₁ R (λ_ _=>False)else K₂ ρ' H'') (λ_ _=>False)) k ρ H K
 |.ret e,ρ,H,_,R,X=>cz P C e ρ H R X
 |.raise c,_,H,_,_,X=>X c H
 |.try_ body cls,ρ,H,K,R,X=>a7 P C body ρ H K R (λc H'=>(P.sub c c&&P.sub c cls)=true/\R .none H')
 |.pass,ρ,H,K,_,_=>K ρ H
def a7(P:Prog)(C:Calls):List St->Fm->AH->KS->QE->XE->Prop
 |[],ρ,H,K,_,_=>K ρ H
 |s::ss,ρ,H,K,R,X=>s8 P C s ρ H (λρ' H'=>a7 P C ss ρ' H' K R X) R X
end
abbrev Km(_:AH)(Q:QE)(v:V)(H':AH):Prop:=Q v H'
abbrev HY(_:AH)(X:XE)(c:Nat)(H':AH):Prop:=X c H'
noncomputable def aJ(P:Prog):Nat->Calls
 |0,_,_,_,_,_=>False
 |n+1,f,args,H,Q,X=>match P.fns f with
  |some fn=>args.length=fn.arity/\
    a7 P (aJ P n) fn.body (args.map some++bH fn.extra none) H (λ_ H'=>Km H Q .none H') (λv H'=>Km H Q v H') (HY H X)
  |none=>False
section
variable {P:Prog}{C:Calls}{ρ:Fm}{H:AH}{Q:QE}{X:XE}{K:KS}{R:QE}
theorem Ck{v:V}:cz P C (.cst v) ρ H Q X=Q v H:=rfl
theorem uD{i:Nat}:cz P C (.var i) ρ H Q X=match ρ[i]? with|some (some v)=>Q v H|_=>False:=rfl
theorem fm{mu:Bool}{p:Prim}{args:List Ex}:cz P C (.prim mu p args) ρ H Q X=fR P C args ρ H (λvs H'=>g7 (aY P mu p vs H') Q) X:=rfl
theorem xR{a b c:Ex}{o₁ o₂:Cop}:cz P C (.cmp2 a o₁ b o₂ c) ρ H Q X=cz P C a ρ H (λx H₁=>cz P C b ρ H₁ (λy H₂=>mK (iV o₁ x y H₂) λt=>
   if t then cz P C c ρ H₂ (λz H₃=>mK (iV o₂ y z H₃) λt'=>Q (.bool t') H₃) X else Q (.bool false) H₂) X) X:=rfl
theorem xA{f:Nat}{args:List Ex}:cz P C (.call f args) ρ H Q X=fR P C args ρ H (λvs H'=>C f vs H' Q X) X:=rfl
theorem zb{k f:Nat}{name:List Char}{o:Ex}{args:List Ex}:cz P C (.meth k f name o args) ρ H Q X=cz P C o ρ H (λv H₁=>e9 H₁ k name v=true/\fR P C args ρ H₁ (λvs H'=>C f (v::vs) H' Q X) X) X:=rfl
theorem wx{t:Mt}{mu:Bool}{p:Prim}{o:Ex}{args:List Ex}:cz P C (.mcall t mu p o args) ρ H Q X=cz P C o ρ H (λv H₁=>kF H₁ v t=true/\fR P C args ρ H₁ (λvs H'=>g7 (aY P mu p (v::vs) H') Q) X) X:=rfl
theorem B1{c f:Nat}{args:List Ex}:cz P C (.new c f args) ρ H Q X=fR P C args ρ H (λvs H'=>C f (.ref (H'.length+1)::vs) (H'++[.ns [] [],.inst c H'.length]) (λv H''=>v=.none/\Q (.ref (H'.length+1)) H'') X) X:=rfl
theorem fw{Q:List V->AH->Prop}:fR P C [] ρ H Q X=Q [] H:=rfl
theorem dX{e:Ex}{es:List Ex}{Q:List V->AH->Prop}:fR P C (e::es) ρ H Q X=cz P C e ρ H (λv H'=>fR P C es ρ H' (λvs H''=>Q (v::vs) H'') X) X:=rfl
section
theorem ur{i:Nat}{e:Ex}:s8 P C (.asg i e) ρ H K R X=cz P C e ρ H (λv H'=>i<ρ.length/\K (ρ.set i (some v)) H') X:=rfl
theorem tM{is:List Nat}{e:Ex}:s8 P C (.asgTup is e) ρ H K R X=cz P C e ρ H (λv H'=>match fX ρ (.inr is) v with|some ρ'=>K ρ' H'|none=>False) X:=rfl
theorem r4{o i e:Ex}:s8 P C (.setItem o i e) ρ H K R X=cz P C e ρ H (λx H₁=>cz P C o ρ H₁ (λov H₂=>cz P C i ρ H₂ (λiv H₃=>match d7 ov iv x H₃ with|some H'=>K ρ H'|none=>False) X) X) X:=rfl
theorem rI{o e:Ex}{n:List Char}:s8 P C (.setAttr o n e) ρ H K R X=cz P C e ρ H (λx H₁=>cz P C o ρ H₁ (λov H₂=>match iu ov n x H₂ with|some H'=>K ρ H'|none=>False) X) X:=rfl
theorem yF{e:Ex}:s8 P C (.expr e) ρ H K R X=cz P C e ρ H (λ_ H'=>K ρ H') X:=rfl
theorem Cn{c:Ex}{a b:List St}:s8 P C (.ite c a b) ρ H K R X=cz P C c ρ H (λv H'=>mK (fk v) λt=>if t then a7 P C a ρ H' K R X else a7 P C b ρ H' K R X) X:=rfl
theorem pM{rev:Bool}{tgt:Nat ⊕ List Nat}{e:Ex}{body:List St}:s8 P C (.forIn rev tgt e body) ρ H K R X=cz P C e ρ H (λv H₁=>∃items,je rev H₁ v=some items/\items.length<=az/\
   forL (λx ρ' H' K'=>match fX ρ' tgt x with|some ρ''=>a7 P C body ρ'' H' K' R (λ_ _=>False)|none=>False)
    (λH'=>je rev H' v=some items) items ρ H₁ K) X:=rfl
theorem wF{c:Ex}{body:List St}:s8 P C (.while_ c body) ρ H K R X=∃k,whileL (λρ' H' K₁ K₂=>cz P C c ρ' H' (λv H''=>mK (fk v) λt=>if t then a7 P C body ρ' H'' K₁ R (λ_ _=>False)else K₂ ρ' H'') (λ_ _=>False)) k ρ H K:=rfl
theorem vg{e:Ex}:s8 P C (.ret e) ρ H K R X=cz P C e ρ H R X:=rfl
theorem we{c:Nat}:s8 P C (.raise c) ρ H K R X=X c H:=rfl
theorem j2{s:St}{ss:List St}:a7 P C (s::ss) ρ H K R X=s8 P C s ρ H (λρ' H'=>a7 P C ss ρ' H' K R X) R X:=rfl
end
theorem nh{n f:Nat}{args:List V}:aJ P (n+1) f args H Q X=match P.fns f with
  |some fn=>args.length=fn.arity/\
    a7 P (aJ P n) fn.body (args.map some++bH fn.extra none) H (λ_ H'=>Km H Q .none H') (λv H'=>Km H Q v H') (HY H X)
  |none=>False:=rfl
end
end Mine
end
noncomputable section
namespace Mine
end Mine
end
noncomputable section
namespace Mine
open PySem PySem.Calls PyProof.Rows
abbrev bA:=List Addr
abbrev HP:=PySem.Heap
set_option genInjectivity false in
structure Cx where
 prog:Program
 w:World
 base:HP
 mg:Str->Option Value
 mb:Str->Option Value
 P:Prog
 os:OsState
 fad:Nat->Addr
 fdat:Nat->FuncData
 xcls:Nat->Addr
 ccls:Nat->Addr
noncomputable def jR:Nat:=2 ^ 40
abbrev Cx.M(c:Cx):Model:=model c.prog c.w
abbrev Cx.kd(c:Cx):KeyKind c.prog c.w Str:=strKind c.prog c.w
noncomputable def toS(s:List Char):Str:=⟨(s.map Char.toNat).toArray⟩
theorem iF{a b:List Char}(h:toS a=toS b):a=b:=by
 haveI h1:(a.map Char.toNat)=b.map Char.toNat:=by
  haveI:=congrArg (λx:Str=>x.cps.toList) h
  simpa [toS] using this
 exact(List.map_inj_right (λx y e=>Char.toNat_inj.mp e)).mp h1
theorem eT{α:Type}{p:Prop}[Decidable p]{a:Option α}{x:α}(h:(if p then a else none)=some x):p/\a=some x:=by
 by_cases hp:p
 ·rw [if_pos hp]at h;exact⟨hp,h⟩
 ·rw [if_neg hp]at h;exact eY h
theorem c5{α:Type}{p:Prop}[Decidable p]{a x:α}(h:(if p then some a else none)=some x):p/\a=x:=by
 haveI h:=eT h;exact⟨h.1,ai h.2⟩
theorem bY{α β:Type}{o:Option α}{f:α->Option β}{x:β}(h:o.bind f=some x):∃a,o=some a/\f a=some x:=by
 induction o with
 |none=>exact eY h
 |some a=>exact⟨a,rfl,h⟩
theorem dF{α β:Type}{o:Option α}{f:α->β}{x:β}(h:o.map f=some x):∃a,o=some a/\f a=x:=by
 cases o with
 |none=>cases h
 |some a=>exact⟨a,rfl,ai h⟩
theorem O.lst_i(o:O):Is (o.lst) λvs=>o=.list vs:=by
 cases o<;>first|exact rfl|exact trivial
theorem O.dct_i(o:O):Is (o.dct) λd=>o=.dict d.1 d.2:=by
 cases o<;>first|exact rfl|exact trivial
theorem V.txt_i(v:V):Is (v.txt) λs=>v=.str s:=by
 cases v<;>first|exact rfl|exact trivial
theorem V.txt_is{v:V}{s:List Char}(h:v.txt=some s):v=.str s:=(V.txt_i _).of h
theorem V.num_i(v:V):Is (v.num) λi=>v=.int i:=by
 cases v<;>first|exact rfl|exact trivial
theorem V.num_is{v:V}{i:Int}(h:v.num=some i):v=.int i:=(V.num_i _).of h
theorem V.at_i(v:V):Is (v.at) λi=>v=.ref i:=by
 cases v<;>first|exact rfl|exact trivial
theorem AW(H:AH)(v:V):Is (oO H v) λp=>v=.ref p.1/\H[p.1]? =some (.list p.2):=
 (V.at_i v).bind λi h1=>(Is.self.bind λo h3=>(O.lst_i o).imp (R':=λvs=>H[i]? =some (.list vs)) λ_ h4=>h4▸h3).bind λ_ h5=>⟨h1,h5⟩
theorem lc{H:AH}{v:V}{p:Nat×List V}(h:oO H v=some p):v=.ref p.1/\H[p.1]? =some (.list p.2):=(AW H v).of h
inductive VwR(H:AH)(vs:List V):V->Prop
 |lst:VwR H vs (.lst vs)
 |ref {i:Nat}:H[i]? =some (.list vs)->VwR H vs (.ref i)
theorem DJ(H:AH)(v:V):Is (dJ H v) λvs=>VwR H vs v:=by
 cases v with
 |lst ws=>exact .lst
 |ref i=>exact Is.self.bind λo h1=>(O.lst_i o).imp λ_ h2=>.ref (h2▸h1)
 |_=>exact trivial
theorem Bj{H:AH}{v:V}{vs:List V}(h:dJ H v=some vs):VwR H vs v:=(DJ H v).of h
inductive DwR(H:AH)(d:List (List Char)×List V):V->Prop
 |dct:DwR H d (.dct d.1 d.2)
 |ref {i:Nat}:H[i]? =some (.dict d.1 d.2)->DwR H d (.ref i)
theorem Cw(H:AH)(v:V):Is (iY H v) λd=>DwR H d v:=by
 cases v with
 |dct ks ws=>exact .dct
 |ref i=>exact Is.self.bind λo h1=>(O.dct_i o).imp λ_ h2=>.ref (h2▸h1)
 |_=>exact trivial
theorem yC{H:AH}{v:V}{d:List (List Char)×List V}(h:iY H v=some d):DwR H d v:=(Cw H v).of h
mutual
inductive VR(c:Cx)(as:bA)(X:List Addr)(h:HP):V->Value->Prop
 |none:VR c as X h .none .none
 |bool (b:Bool):VR c as X h (.bool b) (.bool b)
 |int (i:Int) (t:Tok):VR c as X h (.int i) (.int i t)
 |str (s:List Char) (t:Tok):s.length<=jR->VR c as X h (.str s) (.str (toS s) t)
 |tup {a:Addr} {items:Array Value} {n:Nat} {vs:List V}:a∉as->a∉X->h.get? a=some {cls:=.type "tuple",data:=.seq items n}->VRs c as X h vs items.toList->vs.length<=jR->VR c as X h (.tup vs) (.ref a)
 |lst {a:Addr} {items:Array Value} {vs:List V}:a∉as->a∉X->h.PlainList a items->VRs c as X h vs items.toList->vs.length<=jR->VR c as X h (.lst vs) (.ref a)
 |dct {a:Addr} {ks:List (List Char)} {vs:List V} {cs:List Value}:a∉as->a∉X->(a==sysModules)=false->h.DictOf c.kd a ((ks.map toS).zip cs)->ks.length=cs.length->VRs c as X h vs cs->vs.length<=jR->VR c as X h (.dct ks vs) (.ref a)
 |rng {r:Addr} {a b:Int} {t₀ t₁ t₂:Tok}:r∉as->r∉X->IsRange h r a b 1 t₀ t₁ t₂->cC a=true->cC b=true->VR c as X h (.rng a b) (.ref r)
 |ref {i:Nat} {a:Addr}:as[i]? =some a->VR c as X h (.ref i) (.ref a)
inductive VRs(c:Cx)(as:bA)(X:List Addr)(h:HP):List V->List Value->Prop
 |nil:VRs c as X h [] []
 |cons {v:V} {vs:List V} {x:Value} {cs:List Value}:VR c as X h v x->VRs c as X h vs cs->VRs c as X h (v::vs) (x::cs)
end
inductive StrR(s:List Char):Value->Prop
 |str (t:Tok):s.length<=jR->StrR s (.str (toS s) t)
inductive IntR(i:Int):Value->Prop
 |int (t:Tok):IntR i (.int i t)
inductive TupR(c:Cx)(as:bA)(X:List Addr)(h:HP)(vs:List V):Value->Prop
 |tup {a:Addr} {items:Array Value} {n:Nat}:a∉as->a∉X->h.get? a=some {cls:=.type "tuple",data:=.seq items n}->VRs c as X h vs items.toList->vs.length<=jR->TupR c as X h vs (.ref a)
inductive LstR(c:Cx)(as:bA)(X:List Addr)(h:HP)(vs:List V):Value->Prop
 |lst {a:Addr} {items:Array Value}:a∉as->a∉X->h.PlainList a items->VRs c as X h vs items.toList->vs.length<=jR->LstR c as X h vs (.ref a)
inductive DctR(c:Cx)(as:bA)(X:List Addr)(h:HP)(ks:List (List Char))(vs:List V):Value->Prop
 |dct {a:Addr} {cs:List Value}:a∉as->a∉X->(a==sysModules)=false->h.DictOf c.kd a ((ks.map toS).zip cs)->ks.length=cs.length->VRs c as X h vs cs->vs.length<=jR->DctR c as X h ks vs (.ref a)
inductive RngR(as:bA)(X:List Addr)(h:HP)(a b:Int):Value->Prop
 |rng {r:Addr} {t₀ t₁ t₂:Tok}:r∉as->r∉X->IsRange h r a b 1 t₀ t₁ t₂->cC a=true->cC b=true->RngR as X h a b (.ref r)
inductive RefR(as:bA)(i:Nat):Value->Prop
 |ref {a:Addr}:as[i]? =some a->RefR as i (.ref a)
def VI(c:Cx)(as:bA)(X:List Addr)(h:HP)(v:V)(cv:Value):Prop:=match v with
 |.none=>cv=.none
 |.bool b=>cv=.bool b
 |.int i=>IntR i cv
 |.str s=>StrR s cv
 |.tup vs=>TupR c as X h vs cv
 |.lst vs=>LstR c as X h vs cv
 |.dct ks vs=>DctR c as X h ks vs cv
 |.rng a b=>RngR as X h a b cv
 |.ref i=>RefR as i cv
theorem VR.inv{c:Cx}{as:bA}{X:List Addr}{h:HP}{v:V}{cv:Value}(r:VR c as X h v cv):VI c as X h v cv:=by
 cases r with
 |none=>exact rfl
 |bool b=>exact rfl
 |int i t=>exact .int t
 |str s t hb=>exact .str t hb
 |tup h1 h2 h3 h4 h5=>exact .tup h1 h2 h3 h4 h5
 |lst h1 h2 h3 h4 h5=>exact .lst h1 h2 h3 h4 h5
 |dct h1 h2 h3 h4 h5 h6 h7=>exact .dct h1 h2 h3 h4 h5 h6 h7
 |rng h1 h2 h3 h4 h5=>exact .rng h1 h2 h3 h4 h5
 |ref h1=>exact .ref h1
section
variable {c:Cx}{as as':bA}{X:List Addr}{h h':HP}
theorem VRs.length:∀{vs:List V} {cs:List Value},VRs c as X h vs cs->vs.length=cs.length
 |_,_,.nil=>rfl
 |_,_,.cons _ r=>by simp only [bK,bK,r.length]
theorem VRs.get:∀{vs:List V} {cs:List Value} {j:Nat} {v:V},VRs c as X h vs cs->vs[j]? =some v->∃x,cs[j]? =some x/\VR c as X h v x
 |_,_,_,_,.nil,e=>by exact eY e
 |_,_,0,_,.cons x _,e=>by simp at e;subst e;exact⟨_,rfl,x⟩
 |_,_,j+1,_,.cons _ r,e=>by simp only [AF]at e ⊢;exact r.get e
theorem VRs.get':∀{vs:List V} {cs:List Value} {j:Nat} {x:Value},VRs c as X h vs cs->cs[j]? =some x->∃v,vs[j]? =some v/\VR c as X h v x
 |_,_,_,_,.nil,e=>by exact eY e
 |_,_,0,_,.cons x _,e=>by simp at e;subst e;exact⟨_,rfl,x⟩
 |_,_,j+1,_,.cons _ r,e=>by simp only [AF]at e ⊢;exact r.get' e
theorem VRs.append:∀{vs ws:List V} {cs ds:List Value},VRs c as X h vs cs->VRs c as X h ws ds->VRs c as X h (vs++ws) (cs++ds)
 |_,_,_,_,.nil,k=>k
 |_,_,_,_,.cons x r,k=>.cons x (r.append k)
theorem VRs.take:∀{vs:List V} {cs:List Value} (n:Nat),VRs c as X h vs cs->VRs c as X h (vs.take n) (cs.take n)
 |_,_,0,_=>by simp only [List.take_zero];exact .nil
 |_,_,n+1,.nil=>by exact .nil
 |_,_,n+1,.cons x r=>by simp only [List.take_succ_cons];exact .cons x (r.take n)
theorem VRs.drop:∀{vs:List V} {cs:List Value} (n:Nat),VRs c as X h vs cs->VRs c as X h (vs.drop n) (cs.drop n)
 |_,_,0,k=>k
 |_,_,n+1,.nil=>by simp only [List.drop_nil];exact .nil
 |_,_,n+1,.cons x r=>by simp only [List.drop_succ_cons];exact r.drop n
theorem VRs.reverse:∀{vs:List V} {cs:List Value},VRs c as X h vs cs->VRs c as X h vs.reverse cs.reverse
 |_,_,.nil=>.nil
 |_,_,.cons x r=>by simp only [List.reverse_cons];exact r.reverse.append (.cons x .nil)
theorem VRs.set:∀{vs:List V} {cs:List Value} {v:V} {x:Value} (n:Nat),VRs c as X h vs cs->VR c as X h v x->VRs c as X h (vs.set n v) (cs.set n x)
 |_,_,_,_,_,.nil,_=>by simp only [List.set_nil];exact .nil
 |_,_,_,_,0,.cons _ r,k=>by simp only [List.set_cons_zero];exact .cons k r
 |_,_,_,_,n+1,.cons x r,k=>by simp only [List.set_cons_succ];exact .cons x (r.set n k)
theorem VRs.replicate{v:V}{x:Value}(k:VR c as X h v x):∀n:Nat,VRs c as X h (bH n v) (bH n x)
 |0=>.nil
 |n+1=>by simp only [og];exact .cons k (VRs.replicate k n)
end
/- a frame stands twice in X -/
def SameO(X:List Addr)(b:Addr)(o o':Obj):Prop:=o'=o\/(2<=X.count b/\(∃es n,o.data=.dict es n)/\∃sl,o'={o with slots:=sl})
theorem SameO.trans{X:List Addr}{b:Addr}{o₁ o₂ o₃:Obj}(x:SameO X b o₁ o₂)(y:SameO X b o₂ o₃):SameO X b o₁ o₃:=by
 rcases x with rfl|⟨h1,h2,sl,rfl⟩
 ·exact y
 ·rcases y with rfl|⟨_,_,sl',rfl⟩
  ·exact .inr ⟨h1,h2,sl,rfl⟩
  ·exact .inr ⟨h1,h2,sl',rfl⟩
theorem SameO.eq{X:List Addr}{b:Addr}{o o':Obj}(x:SameO X b o o')(h:∀es n,o.data≠.dict es n):o'=o:=by
 refine Or.elim (x) (λe=>?_) (λq_=>?_)
 ·exact e
 ·obtain ⟨_,⟨es,n,h1⟩,_⟩:=q_;exact absurd h1 (h es n)
theorem SameO.out{X:List Addr}{b:Addr}{o o':Obj}(x:SameO X b o o')(h:b∉X):o'=o:=by
 refine Or.elim (x) (λe=>?_) (λq_=>?_)
 ·exact e
 ·(haveI h1:=q_.1;haveI _:=q_.2);replace h1:=(iT h)▸h1;cases h1
theorem SameO.mono{X Y:List Addr}{b:Addr}{o o':Obj}(x:SameO X b o o')(h:2<=X.count b->2<=Y.count b):SameO Y b o o':=x.imp id λ⟨a,r⟩=>⟨h a,r⟩
def Kept(as:bA)(X:List Addr)(h h':HP):Prop:=∀b o,h.get? b=some o->b∉as->∃o',h'.get? b=some o'/\SameO X b o o'
theorem Kept.refl(as:bA)(X:List Addr)(h:HP):Kept as X h h:=λ_ o e _=>⟨o,e,.inl rfl⟩
def KeptX(as:bA)(X Y:List Addr)(h h':HP):Prop:=∀b o,h.get? b=some o->b∉as->b∉Y->∃o',h'.get? b=some o'/\SameO X b o o'
def VK(as:bA)(X:List Addr)(h h':HP):Prop:=∀b o,h.get? b=some o->b∉as->b∉X->h'.get? b=some o
theorem Kept.y{as:bA}{X:List Addr}{h h':HP}(k:Kept as X h h')(Y:List Addr):KeptX as X Y h h':=λb o e hb _=>k b o e hb
theorem Kept.x{as:bA}{X:List Addr}{h h':HP}(k:Kept as X h h'):VK as X h h':=λb o e hb hx=>by
 refine ea1_2 (k b o e hb) ?_
 intro o' e' s
 simp only [e',s.out hx]
theorem KeptX.v{as:bA}{X Y:List Addr}{h h':HP}(k:KeptX as X Y h h')(hY:∀b∈Y,b∈X):VK as X h h':=λb o e hb hx=>by
 refine ea1_2 (k b o e hb λq=>hx (hY b q)) ?_
 intro o' e' s
 simp only [e',s.out hx]
structure Ext(as:bA)(h:HP)(as':bA):Prop where
 old:∀(i:Nat) (x:Addr),as[i]? =some x->as'[i]? =some x
 new:∀a,a∈as'->a∈as\/h.get? a=none
theorem Ext.refl(as:bA)(h:HP):Ext as h as:=⟨λ_ _ e=>e,λ_ e=>.inl e⟩
theorem Ext.trans{as as₁ as₂:bA}{X:List Addr}{h h₁:HP}(x:Ext as h as₁)(k:Kept as X h h₁)(y:Ext as₁ h₁ as₂):Ext as h as₂:=
 ⟨λi a e=>y.old i a (x.old i a e),λa ha=>(y.new a ha).elim (x.new a) λe1=>(Classical.em (a∈as)).imp id λhm=>fA (o:=h.get? a) id λo hq=>ea1_2 (k a o hq hm) λ_ e _=>eY (e1.symm.trans e)⟩
theorem Ext.out{as as':bA}{h:HP}(x:Ext as h as'){b:Addr}{o:Obj}(e:h.get? b=some o)(hb:b∉as):b∉as':=λq=>(x.new b q).elim hb λq=>eY (q.symm.trans e)
theorem Kept.trans{as as₁:bA}{X:List Addr}{h h₁ h₂:HP}(k:Kept as X h h₁)(x:Ext as h as₁)(k':Kept as₁ X h₁ h₂):Kept as X h h₂:=λb o e hb=>
 ea1_2 (k b o e hb) λo₁ e₁ s₁=>(k' b o₁ e₁ (x.out e hb)).imp λo₂ q=>⟨q.1,s₁.trans q.2⟩
theorem IsRange.same{h h':HP}{r:Addr}{a b:Int}{t₀ t₁ t₂:Tok}(x:IsRange h r a b 1 t₀ t₁ t₂)(k:∀o,h.get? r=some o->h'.get? r=some o):IsRange h' r a b 1 t₀ t₁ t₂:=k _ x
theorem KeptX.get{as:bA}{X Y:List Addr}{h h':HP}(k:KeptX as X Y h h'){b:Addr}{o:Obj}(e:h.get? b=some o)(hb:b∉as)(hx:b∉Y)(hc:∀es n,o.data≠.dict es n):h'.get? b=some o:=by
 refine ea1_2 (k b o e hb hx) ?_
 intro o' e' s
 simp only [e',s.eq hc]
theorem Kept.get{as:bA}{X:List Addr}{h h':HP}(k:Kept as X h h'){b:Addr}{o:Obj}(e:h.get? b=some o)(hb:b∉as)(hc:∀es n,o.data≠.dict es n):h'.get? b=some o:=by
 refine ea1_2 (k b o e hb) ?_
 intro o' e' s
 simp only [e',s.eq hc]
theorem DictOf.same{c:Cx}{h h':HP}{a:Addr}{kvs:List (Str×Value)}(x:h.DictOf c.kd a kvs)(k:∀o,h.get? a=some o->h'.get? a=some o):h'.DictOf c.kd a kvs:=by
 refine i6 x ?_
 intro o es ep ho hx r
 exact⟨o,es,ep,k o ho,hx,r⟩
theorem VRs.all{c:Cx}{as:bA}{X:List Addr}{h:HP}{P:V->Value->Prop}{vs:List V}{cs:List Value}(r:VRs c as X h vs cs)(R:List V->List Value->Prop)(hn:R [] [])(hc:∀v x vs cs,VR c as X h v x->R vs cs->R (v::vs) (x::cs)):R vs cs:=
 VRs.rec (motive_1:=λ_ _ _=>True) (motive_2:=λvs cs _=>R vs cs) trivial (λ_=>trivial) (λ_ _=>trivial) (λ_ _ _=>trivial) (λ_ _ _ _ _ _=>trivial) (λ_ _ _ _ _ _=>trivial) (λ_ _ _ _ _ _ _ _=>trivial) (λ_ _ _ _ _=>trivial) (λ_=>trivial) hn (λa _ _ ih=>hc _ _ _ _ a ih) r
theorem VR.gen{c:Cx}{as as':bA}{X X':List Addr}{h h':HP}(hk:∀a o,a∉as->a∉X->h.get? a=some o->a∉as'/\a∉X'/\h'.get? a=some o)
  (hr:∀(i:Nat) x,as[i]? =some x->as'[i]? =some x){v:V}{y:Value}(r:VR c as X h v y):VR c as' X' h' v y:=
 VR.rec (motive_1:=λv y _=>VR c as' X' h' v y) (motive_2:=λvs cs _=>VRs c as' X' h' vs cs) .none .bool .int .str
  (λha hx ho _ hb ih=>let q:=hk _ _ ha hx ho;.tup q.1 q.2.1 q.2.2 ih hb) (λha hx hp _ hb ih=>hp.elim λm ho=>let q:=hk _ _ ha hx ho;.lst q.1 q.2.1 ⟨m,q.2.2⟩ ih hb)
  (λha hx hsm hd hl _ hb ih=>i6 hd λo es ep ho hx' r=>let q:=hk _ _ ha hx ho;.dct q.1 q.2.1 hsm ⟨o,es,ep,q.2.2,hx',r⟩ hl ih hb) (λhr hx hi h1 h2=>let q:=hk _ _ hr hx hi;.rng q.1 q.2.1 q.2.2 h1 h2) (λe=>.ref (hr _ _ e)) .nil (λ_ _ i1 i2=>.cons i1 i2) r
theorem VRs.gen{c:Cx}{as as':bA}{X X':List Addr}{h h':HP}(hk:∀a o,a∉as->a∉X->h.get? a=some o->a∉as'/\a∉X'/\h'.get? a=some o)
  (hr:∀(i:Nat) x,as[i]? =some x->as'[i]? =some x){vs:List V}{cs:List Value}(r:VRs c as X h vs cs):VRs c as' X' h' vs cs:=
 VRs.all (P:=λ_ _=>True) r (λvs cs=>VRs c as' X' h' vs cs) .nil (λ_ _ _ _ a ih=>.cons (VR.gen hk hr a) ih)
theorem VR.keepX{c:Cx}{as as':bA}{X:List Addr}{h h':HP}(k:VK as X h h')(x:Ext as h as'){v:V}{y:Value}(r:VR c as X h v y):VR c as' X h' v y:=
 VR.gen (λ_ _ ha hx ho=>⟨x.out ho ha,hx,k _ _ ho ha hx⟩) x.old r
theorem VRs.keepX{c:Cx}{as as':bA}{X:List Addr}{h h':HP}(k:VK as X h h')(x:Ext as h as'){v:List V}{y:List Value}(r:VRs c as X h v y):VRs c as' X h' v y:=
 VRs.gen (λ_ _ ha hx ho=>⟨x.out ho ha,hx,k _ _ ho ha hx⟩) x.old r
theorem VR.keep{c:Cx}{as as':bA}{X:List Addr}{h h':HP}(k:Kept as X h h')(x:Ext as h as'){v:V}{y:Value}(z:VR c as X h v y):VR c as' X h' v y:=z.keepX k.x x
theorem VRs.keep{c:Cx}{as as':bA}{X:List Addr}{h h':HP}(k:Kept as X h h')(x:Ext as h as'){v:List V}{y:List Value}(z:VRs c as X h v y):VRs c as' X h' v y:=z.keepX k.x x
theorem VR.frames{c:Cx}{as:bA}{X Y:List Addr}{h:HP}(hy:∀b o,h.get? b=some o->b∉X->b∉Y){v:V}{y:Value}(r:VR c as X h v y):VR c as Y h v y:=
 VR.gen (λ_ _ ha hx ho=>⟨ha,hy _ _ ho hx,ho⟩) (λ_ _ e=>e) r
theorem VRs.frames{c:Cx}{as:bA}{X Y:List Addr}{h:HP}(hy:∀b o,h.get? b=some o->b∉X->b∉Y){v:List V}{y:List Value}(r:VRs c as X h v y):VRs c as Y h v y:=
 VRs.gen (λ_ _ ha hx ho=>⟨ha,hy _ _ ho hx,ho⟩) (λ_ _ e=>e) r
inductive InstAt(c:Cx)(as:bA)(h:HP)(a:Addr)(k d:Nat):Prop
 |mk (dx:Addr) (ob:Obj):as[d]? =some dx->h.get? a=some ob->ob.cls=.ref (c.ccls k)->ob.dict=some dx->(∀cd,ob.data≠.cls cd)->InstAt c as h a k d
def OR(c:Cx)(as:bA)(X:List Addr)(h:HP)(a:Addr):O->Prop
 |.list vs=>vs.length<=jR/\∃items,h.PlainList a items/\VRs c as X h vs items.toList
 |.dict ks vs=>vs.length<=jR/\(a==sysModules)=false/\∃cs,h.DictOf c.kd a ((ks.map toS).zip cs)/\ks.length=cs.length/\VRs c as X h vs cs
 |.inst k d=>InstAt c as h a k d
 |.ns ks vs=>vs.length<=jR/\∃cs mA,h.Ns1 a mA/\ks.length=cs.length/\VRs c as X h vs cs/\∀n,mA n=((ks.map toS).zip cs).lookup n
structure SR(c:Cx)(as:bA)(X:List Addr)(H:AH)(s:Shared):Prop where
 len:as.length=H.length
 stays:c.base.StaysIn s.heap
 gens:s.gens= #[]
 os:s.os=c.os
 objs:∀(i:Nat) (a:Addr),as[i]? =some a->c.base.get? a=none/\a∉X/\∃o,H[i]? =some o/\OR c as X s.heap a o
 inj:∀(i j:Nat) (a:Addr),as[i]? =some a->as[j]? =some a->i=j
 xs:∀b∈X,∃o,s.heap.get? b=some o
theorem OR.keepX{c:Cx}{as:bA}{X:List Addr}{h h':HP}{a:Addr}{o:O}(k:VK as X h h')(ha:∀ob,h.get? a=some ob->h'.get? a=some ob):OR c as X h a o->OR c as X h' a o:=by
 intro x
 induction o with
 |list vs=>
  obtain⟨hb,items,⟨n,e⟩,r⟩:=x
  exact⟨hb,items,⟨n,ha _ e⟩,r.keepX k (.refl ..)⟩
 |dict ks vs=>
  refine ea0_3 x ?_
  intro hb hsm r_3
  refine dm r_3 ?_
  intro cs hd hl r
  exact⟨hb,hsm,cs,DictOf.same hd ha,hl,r.keepX k (.refl ..)⟩
 |inst k d=>
  obtain⟨dx,ob,e1,e2,r1,r2,r3⟩:=x
  exact⟨dx,ob,e1,ha _ e2,r1,r2,r3⟩
 |ns ks vs=>
  obtain⟨hb,cs,mA,hn,hl,r,hm⟩:=x
  exact⟨hb,cs,mA,hn.at ha,hl,r.keepX k (.refl ..),hm⟩
theorem OR.here{c:Cx}{as:bA}{X:List Addr}{h:HP}{a:Addr}{o:O}(x:OR c as X h a o):∃ob,h.get? a=some ob:=by
 induction o with
 |list vs=>obtain⟨_,_,⟨n,e⟩,_⟩:=x;exact⟨_,e⟩
 |dict ks vs=>obtain⟨_,_,_,⟨o,_,_,e,hx,_⟩,_⟩:=x;exact⟨_,e⟩
 |inst k d=>obtain⟨_,_,_,e⟩:=x;exact⟨_,e⟩
 |ns ks vs=>obtain⟨_,_,_,⟨o,_,_,e,_⟩,_⟩:=x;exact⟨o,e⟩
theorem OR.frames{c:Cx}{as:bA}{X Y:List Addr}{h:HP}{a:Addr}{o:O}(hy:∀b o,h.get? b=some o->b∉X->b∉Y):OR c as X h a o->OR c as Y h a o:=by
 intro x
 induction o with
 |list vs=>refine cO (x) λhb q_=>dw q_ λitems q_=>cO q_ λhp r=>?_;exact⟨hb,items,hp,r.frames hy⟩
 |dict ks vs=>obtain⟨hb,hsm,cs,hd,hl,r⟩:=x;exact⟨hb,hsm,cs,hd,hl,r.frames hy⟩
 |inst k d=>exact x
 |ns ks vs=>obtain⟨hb,cs,mA,hn,hl,r,hm⟩:=x;exact⟨hb,cs,mA,hn,hl,r.frames hy,hm⟩
noncomputable def only(h:HP)(p:Addr->Bool):HP:={h with objs:=h.objs.mapIdx λi o=>if p i=true then o else {cls:=.none,dict:=none,data:=.freed,slots:=#[]}}
theorem wZ{h:HP}{p:Addr->Bool}(a:Addr):(only h p).get? a=if p a=true then h.get? a else none:=by
 unfold only Heap.get?
 rw [Array.getElem?_mapIdx]
 refine fA (o:=h.objs[a]?) (λhe=>?_) (λo he=>?_)
 ·rw [he];simp
 ·rw [he]
  by_cases hp:p a=true
  ·simp [hp]
  ·simp [hp]
def Grown(h h':HP):Prop:=∀b o,h.get? b=some o->h'.get? b=some o
theorem Grown.refl(h:HP):Grown h h:=λ_ _ e=>e
theorem Grown.push(h:HP)(o:Obj):Grown h (h.push o):=λ_ _ e=>bQ _ e
theorem Grown.trans{h h' h'':HP}(a:Grown h h')(b:Grown h' h''):Grown h h'':=λx o e=>b x o (a x o e)
theorem Grown.kept{h h':HP}(g:Grown h h')(as:bA)(X:List Addr):Kept as X h h':=λb o e _=>⟨o,g b o e,.inl rfl⟩
theorem SR.keepX{c:Cx}{as:bA}{X:List Addr}{H:AH}{s s':Shared}(x:SR c as X H s)(k:VK [] X s.heap s'.heap)(hst:c.base.StaysIn s'.heap)(hx:∀b∈X,∃o,s'.heap.get? b=some o)(hg:s'.gens=s.gens)(ho:s'.os=s.os):SR c as X H s' where
 len:=x.len
 stays:=hst
 gens:=hg.trans x.gens
 os:=ho.trans x.os
 objs:=λi a e=>by
  refine ea0_3 (x.objs i a e) ?_
  intro h1 h2 r_3
  refine ea1_2 r_3 ?_
  intro o h3 h4
  exact⟨h1,h2,o,h3,h4.keepX (λb o e _ hb=>k b o e (λq=>nomatch q) hb) λob e=>k _ _ e (λq=>nomatch q) h2⟩
 inj:=x.inj
 xs:=hx
theorem SR.grow{c:Cx}{as:bA}{X:List Addr}{H:AH}{s s':Shared}(x:SR c as X H s)(g:Grown s.heap s'.heap)(hg:s'.gens=s.gens)(ho:s'.os=s.os):SR c as X H s':=
 x.keepX (g.kept [] X).x (λb o e=>g b o (x.stays b o e)) (λb hb=>let⟨o,e⟩:=x.xs b hb;⟨o,g b o e⟩) hg ho
theorem SR.frames{c:Cx}{as:bA}{X Y:List Addr}{H:AH}{s:Shared}(x:SR c as X H s)(hy:∀b o,s.heap.get? b=some o->b∉X->b∉Y)(hx:∀b∈Y,∃o,s.heap.get? b=some o):SR c as Y H s where
 len:=x.len
 stays:=x.stays
 gens:=x.gens
 os:=x.os
 objs:=λi a e=>by
  refine ea0_3 (x.objs i a e) ?_
  intro h1 h2 r_3
  refine ea1_2 r_3 ?_
  intro o h3 h4
  obtain⟨ob,e'⟩:=h4.here
  exact⟨h1,hy _ _ e' h2,o,h3,OR.frames hy h4⟩
 inj:=x.inj
 xs:=hx
inductive Res(c:Cx)(as:bA)(X:List Addr)(h:HP)(Q:QE)(x:Value)(s':Shared):Prop
 |mk (v:V) (H':AH) (as':bA):Ext as h as'->SR c as' X H' s'->Kept as X h s'.heap->VR c as' X s'.heap v x->Q v H'->Res c as X h Q x s'
theorem Res.grow{c:Cx}{as:bA}{X:List Addr}{H:AH}{s s':Shared}{Q:QE}{v:V}{x:Value}(S:SR c as X H s)(g:Grown s.heap s'.heap)(hg:s'.gens=s.gens)(ho:s'.os=s.os)(hv:VR c as X s'.heap v x)(q:Q v H):Res c as X s.heap Q x s':=
 ⟨v,H,as,.refl ..,S.grow g hg ho,g.kept as X,hv,q⟩
theorem Res.now{c:Cx}{as:bA}{X:List Addr}{H:AH}{s:Shared}{Q:QE}{v:V}{x:Value}{tk:Nat}(S:SR c as X H s)(hv:VR c as X s.heap v x)(q:Q v H):Res c as X s.heap Q x {s with toks:=tk}:=
 Res.grow (s':={s with toks:=tk}) S (.refl _) rfl rfl hv q
theorem VR.grow{c:Cx}{as:bA}{X:List Addr}{h h':HP}{v:V}{x:Value}(g:Grown h h')(k:VR c as X h v x):VR c as X h' v x:=k.keep (g.kept as X) (.refl ..)
theorem VRs.grow{c:Cx}{as:bA}{X:List Addr}{h h':HP}{v:List V}{x:List Value}(g:Grown h h')(k:VRs c as X h v x):VRs c as X h' v x:=k.keep (g.kept as X) (.refl ..)
def Fr(as:bA)(h:HP)(a:Addr):Prop:=a∈as\/h.get? a=none
theorem Kept.less{as:bA}{X Y:List Addr}{h h':HP}(k:Kept as Y h h')(hY:∀b,2<=Y.count b->2<=X.count b\/Fr as h b):Kept as X h h':=λb o e hb=>by
 refine ea1_2 (k b o e hb) ?_
 intro o' e' s
 exact⟨o',e',s.mono λq=>(hY b q).elim id λr=>r.elim (λr=>absurd r hb) λr=>by replace e:=(r).symm.trans e;cases e⟩
theorem Kept.more{as:bA}{X Y:List Addr}{h h':HP}(k:Kept as X h h')(hY:∀b,X.count b<=Y.count b):Kept as Y h h':=λb o e hb=>by
 refine ea1_2 (k b o e hb) ?_
 intro o' e' s
 exact⟨o',e',s.mono λq=>aa q (hY b)⟩
theorem Kept.one{as:bA}{a:Addr}{X:List Addr}{h h':HP}{o:Obj}(k:Kept as (a::X) h h')(hx:a∉X)(e:h.get? a=some o)(ha:a∉as):h'.get? a=some o:=by
 refine ea1_2 (k a o e ha) ?_
 intro o' e' s
 rcases s with rfl|⟨q,_⟩
 ·exact e'
 ·rw [mU,iT hx]at q;exact absurd q (by decide)
theorem vW{a b:Addr}{X:List Addr}(h:2<=(a::X).count b):b=a\/2<=X.count b:=by
 by_cases e:b=a
 ·exact .inl e
 ·rw [List.count_cons_of_ne (Ne.symm e)]at h;exact .inr h
theorem Kr{P:Addr->Prop}{a:Addr}{X:List Addr}(h:P a)(k:∀b,2<=X.count b->P b):∀b,2<=(a::X).count b->P b:=λb hb=>(vW hb).elim (λe=>e▸h) (k b)
theorem Grown.none{h h':HP}{q:Addr}(g:Grown h h')(e:h'.get? q=none):h.get? q=none:=by
 cases hq:h.get? q with
 |none=>rfl
 |some o=>exact eY (e.symm.trans (g _ _ hq))
theorem xI{h:HP}{a b:Addr}{o:Obj}(ea:h.get? a=some o)(eb:h.get? b=none):a≠b:=λq=>eY (eb.symm.trans (q▸ea))
theorem Kept.fr{as:bA}{X:List Addr}{h h':HP}{a:Addr}(k:Kept as X h h')(ha:h'.get? a=none):Fr as h a:=by
 by_cases hm:a∈as
 ·exact .inl hm
 ·refine fA (o:=h.get? a) (λhq=>?_) (λo hq=>?_)
  ·exact .inr hq
  ·refine dw (k a o hq hm) λo' q_=>cO q_ λe _=>?_;exact nomatch (e).symm.trans ha
theorem Fr.lift{as as₁:bA}{X:List Addr}{h h₁:HP}{a:Addr}(e:Ext as h as₁)(k:Kept as X h h₁)(x:Fr as₁ h₁ a):Fr as h a:=x.elim (e.new a) k.fr
section
variable {c:Cx}{A:Around}{E:Value->Shared->Prop}{s:Shared}{as:bA}{X:List Addr}{H:AH}{Q:QE}
theorem cB:az<=sizeLine:=by decide
theorem dZ:az+5<=jR:=by decide
theorem qd:(jR:Int)<2 ^ 62:=by decide
theorem lF{i:Int}(h:cC i=true):i.natAbs<2 ^ 41:=by
 have h:=of_decide_eq_true h
 exact cQ ((Int.natAbs_eq i).elim (λe=>ca.mp (bu (lV e.symm) h.2)) λe=>ca.mp (Int.le_of_neg_le_neg (bu h.1 (lV e)))) (by decide:10 ^ 12<2 ^ 41)
theorem nM{i:Int}(h:i.natAbs<2 ^ 41):i.natAbs.log2<41:=by
 by_cases h0:i.natAbs=0
 ·rw [h0];decide
 ·exact (Nat.log2_lt h0).mpr h
theorem y9{i:Int}(h:0<i/\i<=10 ^ 12):i.natAbs.log2<9000:=by
 exact hU (nM (i:=i) (lF (decide_eq_true ⟨bu (by decide) (fc h.1),h.2⟩))) (by decide)
theorem uf{i:Int}(h:cC i=true):G9 i<=64:=by
 haveI:=nM (lF h)
 unfold G9
 split<;>first|exact fp this (by simp+arith only)|decide
theorem gG(S:SR c as X H s):s.heap.objs.size∉as:=λq=>by
 obtain⟨i,hi⟩:=cn q
 refine ea0_3 (S.objs i _ hi) ?_
 intro _ _ r_3
 refine ea1_2 r_3 ?_
 intro o _ ho
 obtain⟨ob,e⟩:=OR.here ho
 exact absurd (fh e) (cm _)
theorem jk(S:SR c as X H s):s.heap.objs.size∉X:=λq=>by
 refine dw (S.xs _ q) λo e=>?_
 exact absurd (fh e) (cm _)
theorem oL{items:Array Value}{vs:List V}{n:Nat}(S:SR c as X H s)(hv:VRs c as X s.heap vs items.toList)(hb:vs.length<=jR)(q:Q (.tup vs) H) :
  Res c as X s.heap Q (.ref s.heap.objs.size) {s with heap:=s.heap.push {cls:=.type "tuple",data:=.seq items n}}:=
 Res.grow (s':={s with heap:=s.heap.push {cls:=.type "tuple",data:=.seq items n}}) S (.push _ _) rfl rfl (.tup (gG S) (jk S) (be _ rfl) (hv.grow (.push _ _)) hb) q
theorem yO{items:Array Value}{vs:List V}{n:Nat}(S:SR c as X H s)(hv:VRs c as X s.heap vs items.toList)(hb:vs.length<=jR)(q:Q (.lst vs) H) :
  Res c as X s.heap Q (.ref s.heap.objs.size) {s with heap:=s.heap.push {cls:=.type "list",data:=.seq items n}}:=
 Res.grow (s':={s with heap:=s.heap.push {cls:=.type "list",data:=.seq items n}}) S (.push _ _) rfl rfl (.lst (gG S) (jk S) ⟨n,be _ rfl⟩ (hv.grow (.push _ _)) hb) q
inductive ViewAt(c:Cx)(as:bA)(X:List Addr)(h:HP)(vs:List V)(x:Value):Prop
 |mk (a:Addr) (items:Array Value):x=.ref a->h.PlainList a items->VRs c as X h vs items.toList->vs.length<=jR->a∉X->ViewAt c as X h vs x
theorem eP{v:V}{x:Value}{vs:List V}(S:SR c as X H s)(hv:VR c as X s.heap v x)(e:dJ H v=some vs):ViewAt c as X s.heap vs x:=by
 cases Bj e with
 |lst=>cases hv.inv with|lst ha hx hp r hb=>exact⟨_,_,rfl,hp,r,hb,hx⟩
 |ref ho'=>
  cases hv.inv with
  |ref hi=>
   refine ea0_3 (S.objs _ _ hi) ?_
   intro _ hx r_3
   refine ea1_2 r_3 ?_
   intro o ho hr
   replace ho:=ho.symm.trans ho'
   (replace ho:=ai ho;subst ho)
   exact⟨_,hr.2.choose,rfl,hr.2.choose_spec.1,hr.2.choose_spec.2,hr.1,hx⟩
inductive DictAt(c:Cx)(as:bA)(X:List Addr)(h:HP)(d:List (List Char)×List V)(x:Value):Prop
 |mk (a:Addr) (cs:List Value):x=.ref a->(a==sysModules)=false->h.DictOf c.kd a ((d.1.map toS).zip cs)->d.1.length=cs.length->VRs c as X h d.2 cs->d.2.length<=jR->DictAt c as X h d x
theorem lL{v:V}{x:Value}{d:List (List Char)×List V}(S:SR c as X H s)(hv:VR c as X s.heap v x)(e:iY H v=some d):DictAt c as X s.heap d x:=by
 cases yC e with
 |dct=>cases hv.inv with|dct ha _ hsm hp hl r hb=>exact⟨_,_,rfl,hsm,hp,hl,r,hb⟩
 |ref ho'=>
  cases hv.inv with
  |ref hi=>
   refine ea0_3 (S.objs _ _ hi) ?_
   intro _ _ r_3
   refine ea1_2 r_3 ?_
   intro o ho hr
   replace ho:=ho.symm.trans ho'
   (replace ho:=ai ho;subst ho)
   refine ea0_3 hr ?_
   intro hb hsm r_3
   refine dm r_3 ?_
   intro cs hp hl r
   exact⟨_,cs,rfl,hsm,hp,hl,r,hb⟩
theorem tG(a b:List Char):toS a++toS b=toS (a++b):=by
 refine(?_:Str.append _ _=_)
 simp [toS,Str.append]
theorem eZ(a:List Char):(toS a).length=a.length:=by simp [toS,Str.length]
theorem tF{x y:V}{cx cy:Value}{xs ys:List V}(S:SR c as X H s)(hx:VR c as X s.heap x cx)(hy:VR c as X s.heap y cy)(ex:dJ H x=some xs)(ey:dJ H y=some ys)
  (hz:xs.length+ys.length<=az)(q:Q (.lst (xs++ys)) H):wpAny c.M A (binaryOp .Add cx cy) (Res c as X s.heap Q) E s:=by
 replace hx:=eP S hx ex
 obtain⟨a,its,rfl,⟨n,ha⟩,ra,_⟩:=hx
 replace hy:=eP S hy ey
 obtain⟨b,its',rfl,⟨n',hb⟩,rb,_⟩:=hy
 haveI l1:=ra.length
 haveI l2:=rb.length
 refine P.add_list ha hb (yO S ?_ (by rw [af];haveI:=dZ;exact fp hz (fp this (by simp+arith only))) q) ?_
 ·simp only [gA];exact ra.append rb
 ·rw [<-bE,<-bE,<-l1,<-l2]
  exact aa hz cB
noncomputable def zK:Bop->Operator
 |.add=>.Add|.sub=>.Sub|.mul=>.Mult|.fdiv=>.FloorDiv|.mod=>.Mod|.pow=>.Pow
inductive Int2R(f:Int->Int->Option Int):V->V->V->Prop
 |mk {a b z:Int}:f a b=some z->Int2R f (.int a) (.int b) (.int z)
theorem zj(f:Int->Int->Option Int)(x y:V):Is (oy f x y) (Int2R f x y):=by
 cases x with
 |int a=>
  cases y with
  |int b=>exact Is.self.map λ_ h1=>.mk h1
  |_=>exact trivial
 |_=>exact trivial
theorem wg{f:Int->Int->Option Int}{x y r:V}(e:oy f x y=some r):Int2R f x y r:=(zj f x y).of e
theorem vX{cx cy:Value}{xs ys:List V}(S:SR c as X H s)(hx:VR c as X s.heap (.tup xs) cx)(hy:VR c as X s.heap (.tup ys) cy)
  (hz:xs.length+ys.length<=az)(q:Q (.tup (xs++ys)) H):wpAny c.M A (binaryOp .Add cx cy) (Res c as X s.heap Q) E s:=by
 cases hx.inv with
 |@tup a its n ha1 hax ha ra hab=>
  cases hy.inv with
  |@tup b its' n' hb1 hbx hb rb hbb=>
   haveI l1:=ra.length
   haveI l2:=rb.length
   by_cases e1:its.isEmpty=true
   ·have:its= #[]:=by simpa using e1
    (replace this:=Eq.symm this;subst this)
    cases ra
    refine concat_meets ⟨_,ha,rfl⟩ ⟨_,hb,rfl⟩ noFill_tuple_add seq_tuple_add F.slot_tuple_add F.entry_tuple_add (F.args_tuple_add_2 _ _) (AutoSeq1.tuple___add___tuple_tuple_0 _ _ _ _ _ _ e1) ⟨ha,hb,?_⟩
    exact Res.now (tk:=s.toks) S (.tup hb1 hbx hb rb hbb) q
   ·by_cases e2:its'.isEmpty=true
    ·haveI:its'= #[]:=by simpa using e2
     subst this
     cases rb
     refine concat_meets ⟨_,ha,rfl⟩ ⟨_,hb,rfl⟩ noFill_tuple_add seq_tuple_add F.slot_tuple_add F.entry_tuple_add (F.args_tuple_add_2 _ _) (AutoSeq1.tuple___add___tuple_tuple_1 _ _ _ _ _ _ e1 e2) ⟨ha,hb,?_⟩
     exact Res.now (tk:=s.toks) S (.tup ha1 hax ha (by simpa using ra) (by simpa using hab)) (by simpa using q)
    ·refine P.add_tuple ha hb e1 e2 (oL S ?_ (by rw [af];haveI:=dZ;exact fp hz (fp this (by simp+arith only))) q) ?_
     ·exact (gA).symm▸ra.append rb
     ·rw [<-bE,<-bE,<-l1,<-l2]
      exact aa hz cB
inductive AddR(H:AH):V->V->V->Prop
 |int (a b:Int):AddR H (.int a) (.int b) (.int (a+b))
 |str {a b:List Char}:a.length+b.length<=az->AddR H (.str a) (.str b) (.str (a++b))
 |tup {a b:List V}:a.length+b.length<=az->AddR H (.tup a) (.tup b) (.tup (a++b))
 |lst {x y:V} {xs ys:List V}:dJ H x=some xs->dJ H y=some ys->xs.length+ys.length<=az->AddR H x y (.lst (xs++ys))
theorem GB(x y:V):Is (Hx H x y) (AddR H x y):=Is.self.bind λ_ h1=>Is.self.bind λ_ h2=>Is.ite λh3=>.lst h1 h2 h3
theorem pI{x y r:V}(e:FY H x y=some r):AddR H x y r:=by
 refine Is.of (R:=AddR H x y) ?_ e
 clear e
 cases x with
 |int i=>exact(zj _ _ _).imp λ_ h=>by cases h with|mk h=>exact ai h▸.int _ _
 |str a=>
  cases y with
  |str b=>exact Is.ite .str
  |_=>exact trivial
 |tup a=>
  cases y with
  |tup b=>exact Is.ite .tup
  |_=>exact trivial
 |_=>exact GB _ _
theorem Br{o:Bop}{op:Operator}{x y r:V}{cx cy:Value}(S:SR c as X H s)(hx:VR c as X s.heap x cx)(hy:VR c as X s.heap y cy)
  (ho:op=zK o)
  (e:xW o x y H=some r)(q:Q r H):wpAny c.M A (binaryOp op cx cy) (Res c as X s.heap Q) E s:=by
 subst ho
 have hI:∀{f:Int->Int->Option Int},oy f x y=some r->(∀{a b z:Int} {t t':Tok},f a b=some z->Q (.int z) H->wpAny c.M A (binaryOp (zK o) (.int a t) (.int b t')) (Res c as X s.heap Q) E s)->wpAny c.M A (binaryOp (zK o) cx cy) (Res c as X s.heap Q) E s:=λe k=>by
  cases wg e with
  |mk h=>
   cases hx.inv
   cases hy.inv
   exact k h q
 cases o with
 |add=>
  clear hI
  cases pI e with
  |int a b=>
   cases hx.inv
   cases hy.inv
   exact add_int (Res.now S (.int _ _) q)
  |str h=>
   cases hx.inv
   cases hy.inv
   refine add_str (λt' tk=>?_) ?_
   ·rw [tG];exact Res.now S (.str _ _ (by rw [af];exact aa h (aa (aq _ 5) dZ))) q
   ·rw [eZ,eZ];exact aa h cB
  |tup h=>exact vX S hx hy h q
  |lst h1 h2 h=>exact tF S hx hy h1 h2 h q
 |sub=>exact hI e λh q=>by(replace h:=ai h;subst h);exact sub_int (Res.now S (.int _ _) q)
 |mul=>
  exact hI e λh q=>by
   (refine cO (c5 h) λh5 e_1=>?_;subst e_1)
   exact PyProof.Rows.mul_int (Res.now S (.int _ _) q) (.of_left (uf (ay.mp h5).1))
 |fdiv=>
  exact hI e λh q=>by
   (refine cO (c5 h) λh5 e_1=>?_;subst e_1)
   refine PyProof.Rows.floordiv_int (CP h5.1) ?_ (.inl (PyProof.noPylong_of_log2 (y9 h5)))
   rw [Int.fdiv_eq_ediv_of_nonneg _ (fc h5.1)];exact Res.now S (.int _ _) q
 |mod=>
  exact hI e λh q=>by
   (refine cO (c5 h) λh5 e_1=>?_;subst e_1)
   refine PyProof.Rows.mod_int (CP h5) ?_
   rw [Int.fmod_eq_emod_of_nonneg _ (fc h5)];exact Res.now S (.int _ _) q
 |pow=>
  exact hI e λh q=>by
   obtain⟨⟨rfl,h1,h2⟩,rfl⟩:=c5 h
   exact pow_int_small h1 (by exact jz h2 (by simp+arith only)) (by decide) (Res.now S (.int _ _) q)
mutual
noncomputable def qX:V->PyData
 |.none=>.none
 |.bool b=>.bool b
 |.int i=>.int i
 |.str x=>.str (toS x)
 |.tup vs=>.tuple (ju vs)
 |.lst vs=>.list (ju vs)
 |.dct _ _|.rng _ _|.ref _=>.none
noncomputable def ju:List V->List PyData
 |[]=>[]
 |v::vs=>qX v::ju vs
end
theorem wu(s:List Char):PyData.strOk (toS s)=true:=by
 simp only [PyData.strOk,toS,Array.all_eq_true]
 intro i hi
 simp only [hV,ah]at hi
 haveI h:((s.map Char.toNat).toArray)[i]=(s[i]).toNat:=by simp
 haveI hv:=(s[i]).valid
 simp only [decide_eq_true_eq]
 have:((s.map Char.toNat).toArray)[i]<0x110000:=by
  rw [h]
  exact Or.elim hv (λh=>hU h (by decide)) λh=>h.2
 exact this
mutual
theorem jt:∀v:V,v.data=true->(qX v).canLay0=true/\(qX v).depth=v.depth
 |.none,_=>⟨rfl,rfl⟩
 |.bool _,_=>⟨rfl,rfl⟩
 |.int _,_=>⟨rfl,rfl⟩
 |.str s,_=>⟨wu s,rfl⟩
 |.tup vs,h=>⟨(hH vs h).1,congrArg (·+1) (hH vs h).2⟩
 |.lst vs,h=>⟨(hH vs h).1,congrArg (·+1) (hH vs h).2⟩
 |.dct _ _,h=>nomatch h
 |.rng _ _,h=>nomatch h
 |.ref _,h=>nomatch h
theorem hH:∀vs:List V,V.datas vs=true->PyData.canLayAll0 (ju vs)=true/\PyData.depthAll (ju vs)=V.depths vs
 |[],_=>⟨rfl,rfl⟩
 |v::vs,h=>by
  have h':=ay.mp h
  haveI a:=jt v h'.1
  haveI b:=hH vs h'.2
  exact⟨ay.mpr ⟨a.1,b.1⟩,congr (congrArg max a.2) b.2⟩
end
theorem nF{c:Cx}{as:bA}{X:List Addr}{h:HP}{v:V}{x:Value}(r:VR c as X h v x):v.data=true->∃l,Reads h x (qX v) l:=
 VR.rec (motive_1:=λv x _=>v.data=true->∃l,Reads h x (qX v) l) (motive_2:=λvs xs _=>V.datas vs=true->∃l,ReadsAll h xs (ju vs) l)
  (λ_=>⟨_,.none⟩) (λb _=>⟨_,.bool b⟩) (λi t _=>⟨_,.int i t⟩) (λs t _ _=>⟨_,.str _ t⟩)
  (λ_ _ ho _ _ ih hd=>(ih hd).elim λl q=>⟨l,.tuple ho rfl rfl q⟩) (λ_ _ hp _ _ ih hd=>hp.elim λ_ ho=>(ih hd).elim λ_ q=>⟨_,.list ho rfl rfl q⟩)
  (λ_ _ _ _ _ _ _ _ hd=>absurd hd am) (λ_ _ _ _ _ hd=>absurd hd am) (λ_ hd=>absurd hd am)
  (λ_=>⟨_,.nil⟩) (λ_ _ i1 i2 hd=>(i1 (ay.mp hd).1).elim λ_ q=>(i2 (ay.mp hd).2).elim λ_ q'=>⟨_,.cons q q'⟩) r
theorem j4{c:Cx}{as:bA}{X:List Addr}{h:HP}{vs:List V}{xs:List Value}(r:VRs c as X h vs xs):V.datas vs=true->∃l,ReadsAll h xs (ju vs) l:=
 VRs.all (P:=λ_ _=>True) r (λvs xs=>V.datas vs=true->∃l,ReadsAll h xs (ju vs) l) (λ_=>⟨_,.nil⟩) λ_ _ _ _ a ih hd=>(nF a (ay.mp hd).1).elim λ_ q=>(ih (ay.mp hd).2).elim λ_ q'=>⟨_,.cons q q'⟩
theorem BM(a b:List Char):(toS a==toS b)=(a==b):=by
 by_cases h:a=b
 ·subst h;simp
 ·haveI:toS a≠toS b:=λe=>h (iF e)
  simp only [beq_eq_false_iff_ne.mpr h,beq_eq_false_iff_ne.mpr this]
mutual
theorem j5:∀v w:V,v.data=true->w.data=true->PyData.eqv (qX v) (qX w)=gf v w
 |.lst vs,w,hv,hw=>by
  cases w with
  |lst ws=>exact nw vs ws hv hw
  |_=>first|rfl|cases hw
 |.tup vs,w,hv,hw=>by
  cases w with
  |tup ws=>exact nw vs ws hv hw
  |_=>first|rfl|cases hw
 |.none,w,_,hw=>by cases w<;>first|rfl|cases hw
 |.bool _,w,_,hw=>by cases w<;>first|rfl|cases hw
 |.int _,w,_,hw=>by cases w<;>first|rfl|cases hw
 |.str _,w,_,hw=>by cases w<;>first|rfl|(cases hw;done)|exact BM _ _
 |.dct _ _,_,h,_=>nomatch h
 |.rng _ _,_,h,_=>nomatch h
 |.ref _,_,h,_=>nomatch h
theorem nw:∀vs ws:List V,V.datas vs=true->V.datas ws=true->PyData.eqvAll (ju vs) (ju ws)=wH vs ws
 |[],[],_,_=>rfl
 |[],_::_,_,_=>rfl
 |_::_,[],_,_=>rfl
 |v::vs,w::ws,hv,hw=>by
  have h1:=ay.mp hv
  haveI h2:=ay.mp hw
  exact congr (congrArg and (j5 v w h1.1 h2.1)) (nw vs ws h1.2 h2.2)
end
theorem lI(w:V)(hw:w.data=true):∀vs:List V,V.datas vs=true->((ju vs).any λy=>PyData.eqv y (qX w))=vs.any λy=>gf y w
 |[],_=>rfl
 |v::vs,h=>by
  have h1:=ay.mp h
  exact congr (congrArg or (j5 v w h1.1 hw)) (lI w hw vs h1.2)
theorem FM{v v':V}(e:rdD v=some v'):(V.data v&&decide (V.depth v<=50))=true/\v'=v:=⟨(c5 e).1,(c5 e).2.symm⟩
theorem Hz{v v':V}(e:rd H v=some v'):(∃vs,dJ H v=some vs/\rH vs=true/\v'=.lst vs)\/(V.data v&&decide (V.depth v<=50))=true/\v'=v:=by
 cases v with
 |ref i=>refine dw (bY e) λvs q_=>cO q_ λh1 e=>?_;exact .inl ⟨vs,h1,(c5 e).1,(c5 e).2.symm⟩
 |_=>exact .inr (FM e)
theorem kU{vs:List V}(h:rH vs=true):V.datas vs=true/\V.depths vs<=50:=⟨(ay.mp h).1,of_decide_eq_true (ay.mp h).2⟩
inductive RdAt(h:HP)(v':V)(x:Value):Prop
 |mk:v'.data=true->v'.depth<=51->(l:List Addr)->Reads h x (qX v') l->RdAt h v' x
theorem mL{v v':V}{x:Value}(S:SR c as X H s)(hv:VR c as X s.heap v x)(e:rd H v=some v'):RdAt s.heap v' x:=by
 refine Or.elim (Hz e) (λq_=>?_) (λq_=>?_)
 ·obtain ⟨vs,hvs,hd,rfl⟩:=q_;haveI hd:=kU hd
  replace S:=eP S hv hvs
  obtain⟨a,items,rfl,⟨n,ho⟩,r,_⟩:=S
  obtain⟨l,q⟩:=j4 r hd.1
  exact⟨hd.1,ax hd.2,_,.list ho rfl rfl q⟩
 ·obtain ⟨hd,rfl⟩:=q_;haveI hd:=ay.mp hd
  obtain⟨l,q⟩:=nF hv hd.1
  exact⟨hd.1,Kv (of_decide_eq_true hd.2),l,q⟩
theorem Lb{x y x' y':V}{cx cy:Value}(S:SR c as X H s)(hx:VR c as X s.heap x cx)(hy:VR c as X s.heap y cy)(ex:rd H x=some x')(ey:rd H y=some y')(hu:A.units+64<cLine)
  (q:Q (.bool (gf x' y')) H):wpAny c.M A (compareOp .Eq cx cy) (Res c as X s.heap Q) E s:=by
 obtain⟨d1,d2,l1,r1⟩:=mL S hx ex
 obtain⟨d3,d4,l2,r2⟩:=mL S hy ey
 have o1:=jt _ d1
 haveI o2:=jt _ d3
 refine eq_dataH r1 r2 ?_ ?_ hu ?_
 ·unfold SeqAt.shaped;rw [o1.1,gK,o1.2];exact decide_eq_true (by exact fp d2 (by simp+arith only))
 ·unfold SeqAt.shaped;rw [o2.1,gK,o2.2];exact decide_eq_true (by exact fp d4 (by simp+arith only))
 ·rw [j5 _ _ d1 d3];exact Res.now (tk:=s.toks) S (.bool _) q
theorem KZ{x y x' y':V}{cx cy:Value}(S:SR c as X H s)(hx:VR c as X s.heap x cx)(hy:VR c as X s.heap y cy)(ex:rd H x=some x')(ey:rd H y=some y')(hu:A.units+64<cLine)
  (q:Q (.bool (!gf x' y')) H):wpAny c.M A (compareOp .NotEq cx cy) (Res c as X s.heap Q) E s:=by
 obtain⟨d1,d2,l1,r1⟩:=mL S hx ex
 obtain⟨d3,d4,l2,r2⟩:=mL S hy ey
 have o1:=jt _ d1
 haveI o2:=jt _ d3
 refine ne_dataH r1 r2 ?_ ?_ hu ?_
 ·unfold SeqAt.shaped;rw [o1.1,gK,o1.2];exact decide_eq_true (by exact fp d2 (by simp+arith only))
 ·unfold SeqAt.shaped;rw [o2.1,gK,o2.2];exact decide_eq_true (by exact fp d4 (by simp+arith only))
 ·rw [j5 _ _ d1 d3];exact Res.now (tk:=s.toks) S (.bool _) q
theorem Ak{x y:V}{cx cy:Value}{b:Bool}(S:SR c as X H s)(hx:VR c as X s.heap x cx)(hy:VR c as X s.heap y cy)(e:LU H x y=some b):plainIs cx cy=true/\(cx==cy)=b:=by
 refine Is.of (R:=λb=>plainIs cx cy=true/\(cx==cy)=b) ?_ e
 clear e
 cases y with
 |none=>
  cases hy.inv
  clear hy
  cases hx with
  |ref _=>exact Is.ite λ_=>⟨rfl,rfl⟩
  |rng=>exact trivial
  |_=>exact⟨rfl,rfl⟩
 |_=>exact trivial
theorem nq(s:List Char)(ch:Char):(!(Builtin.Str.occurrences (toS s) (toS [ch]) 0 (toS s).length 1).isEmpty)=s.contains ch:=by
 haveI e:toS [ch]=⟨#[ch.toNat]⟩:=rfl
 rw [e,StrLaws.found_one]
 rw [cg]
 rw [decide_eq_true_eq,aX,toS,aG]
 constructor
 ·rintro ⟨a,ha,e⟩
  simp only [<-Char.toNat_inj.mp e];exact ha
 ·intro h;exact⟨ch,h,rfl⟩
theorem nR(k:List Char)(t:Tok):c.kd.is (toS k) (.str (toS k) t)=true:=strKind_is c.prog c.w (toS k) t
theorem jK{h:HP}(k:List Char){ks:List (List Char)}:∀{vs:List V} {cs:List Value},ks.length=cs.length->VRs c as X h vs cs->
  (match ft k ks vs with|some v=>∃x,valueAt ((ks.map toS).zip cs) (toS k)=some x/\VR c as X h v x|none=>k∉ks/\valueAt ((ks.map toS).zip cs) (toS k)=none):=by
 induction ks with
 |nil=>exact λ_ _=>⟨nofun,rfl⟩
 |cons k' ks ih=>
  intro vs cs hl r
  cases r with
  |nil=>exact nomatch hl
  |@cons v vs x cs hx r=>
   haveI ih:=ih (ib hl) r
   by_cases e:k=k'
   ·subst e
    rw [show ft k (k::ks) (v::vs)=some v from if_pos rfl]
    exact⟨x,by simp [valueAt],hx⟩
   ·rw [show valueAt (((k'::ks).map toS).zip (x::cs)) (toS k)=valueAt ((ks.map toS).zip cs) (toS k) by simp [valueAt,show toS k'≠toS k from λq=>e (iF q).symm],show ft k (k'::ks) (v::vs)=ft k ks vs from if_neg e]
    refine Js (o:=ft k ks vs) (λv' hd=>?_) (λhd=>?_)
    ·rw [hd];rw [hd]at ih;exact ih
    ·rw [hd];rw [hd]at ih;exact⟨oE e ih.1,ih.2⟩
theorem kG{k:List Char}:∀{ks:List (List Char)} {vs:List V} {v:V},ft k ks vs=some v->k∈ks
 |k'::ks,v'::vs,v,e=>by
  if h:k=k' then exact h▸.head _
  else exact .tail _ (kG ((if_neg h).symm.trans e))
 |[],_,_,e=>eY e
 |_::_,[],_,e=>eY e
theorem um{k:List Char}{ks:List (List Char)}{vs:List V}{cs:List Value}(hl:ks.length=cs.length)(r:VRs c as X s.heap vs cs):(valueAt ((ks.map toS).zip cs) (toS k)).isSome=ks.contains k:=by
 haveI h:=jK k hl r
 refine Js (o:=ft k ks vs) (λv hd=>?_) (λhd=>?_)
 ·rw [hd]at h
  refine ea1_2 h ?_
  intro x e _
  rw [e]
  exact(aX.mpr (kG hd)).symm
 ·simp only [hd]at h
  rw [h.2]
  haveI:¬ks.contains k=true:=λq=>h.1 (aX.mp q)
  simpa using this
theorem m7{a b k:Nat}(h:a<=50)(hu:k+64<cLine):k+1+min a b<cLine:=
 cQ (aC (aa (Nat.min_le_left a b) h) (k+1)) (cQ (show k+1+50<=k+64 from by rw [bt];exact aC (by decide) _) hu)
theorem Gp{x y:V}{b:Bool}(e:Ko H x y=some b):(∃t ch,x=.str [ch]/\y=.str t/\b=t.contains ch)\/(∃vs,y=.tup vs/\JE H x vs=some b)\/(∃vs,dJ H y=some vs/\JE H x vs=some b)\/∃d k,x=.str k/\iY H y=some d/\b=d.1.contains k:=by
 have h:HI H x y (dJ H y)=some b->(∃vs,dJ H y=some vs/\JE H x vs=some b)\/∃d k,x=.str k/\iY H y=some d/\b=d.1.contains k:=λe=>by
  cases hv:dJ H y with
  |some vs=>rw [hv]at e;exact .inl ⟨vs,rfl,e⟩
  |none=>
   rw [hv]at e
   replace e:=bY e
   refine ea1_2 e ?_
   intro d h1 e
   replace e:=dF e
   refine ea1_2 e ?_
   intro k h2 q_3
   subst q_3
   exact .inr ⟨d,k,V.txt_is h2,h1,rfl⟩
 cases y with
 |str t=>
  replace e:=bY e
  refine ea1_2 e ?_
  intro s' h1 e
  cases s' with
  |nil=>exact eY e
  |cons ch r=>
   cases r with
   |nil=>exact .inl ⟨t,ch,V.txt_is h1,rfl,(ai e).symm⟩
   |cons=>exact eY e
 |tup vs=>exact .inr (.inl ⟨vs,rfl,e⟩)
 |_=>exact .inr (.inr (h e))
theorem IA{x y:V}{cx cy:Value}{b:Bool}(S:SR c as X H s)(hx:VR c as X s.heap x cx)(hy:VR c as X s.heap y cy)(e:Ko H x y=some b)(hu:A.units+64<cLine) :
  (Q (.bool b) H->wpAny c.M A (compareOp .In cx cy) (Res c as X s.heap Q) E s)/\(Q (.bool !b) H->wpAny c.M A (compareOp .NotIn cx cy) (Res c as X s.heap Q) E s):=by
 rcases Gp e with ⟨t,ch,rfl,rfl,rfl⟩|⟨vs,rfl,e⟩|⟨vs,ev,e⟩|⟨d,k,rfl,hdv,rfl⟩
 ·replace hx:=hx.inv;cases hy.inv
  cases hx
  refine⟨λq=>in_str ?_,λq=>notIn_str ?_⟩
  ·rw [nq];exact Res.now (tk:=s.toks) S (.bool _) q
  ·rw [nq];exact Res.now (tk:=s.toks) S (.bool _) q
 ·replace e:=bY e
  refine ea1_2 e ?_
  intro x' ex e
  replace e:=c5 e
  obtain⟨hd,rfl⟩:=e
  have hd:=(kU hd).1;haveI hdd:=(kU ‹_›).2
  obtain⟨d1,d2,l1,r1⟩:=mL S hx ex
  refine dw (nF hy hd) λl2 r2=>?_
  haveI o1:=jt _ d1
  haveI o2:=hH _ hd
  haveI hm:A.units+1+min (PyData.depthAll (ju vs)) (qX x').depth<cLine:=by exact(o2.2)▸m7 hdd hu
  refine⟨λq=>SeqAt.in_tuple_reads r2 r1 o2.1 o1.1 hm ?_,λq=>SeqAt.notIn_tuple_reads r2 r1 o2.1 o1.1 hm ?_⟩
  ·rw [lI _ d1 _ hd];exact Res.now (tk:=s.toks) S (.bool _) q
  ·rw [lI _ d1 _ hd];exact Res.now (tk:=s.toks) S (.bool _) q
 ·replace e:=bY e
  refine ea1_2 e ?_
  intro x' ex e
  replace e:=c5 e
  (refine cO (e) λhd e_1=>?_;subst e_1)
  have hd:=(kU hd).1;haveI hdd:=(kU ‹_›).2
  obtain⟨d1,d2,l1,r1⟩:=mL S hx ex
  replace hy:=eP S hy ev
  obtain⟨a,items,rfl,⟨n,ho⟩,r,_⟩:=hy
  obtain⟨l2,r2⟩:=j4 r hd
  haveI r3:Reads s.heap (.ref a) (.list (ju vs)) (a::l2):=.list ho rfl rfl r2
  haveI o1:=jt _ d1
  haveI o2:=hH _ hd
  haveI hm:A.units+1+min (PyData.depthAll (ju vs)) (qX x').depth<cLine:=by exact(o2.2)▸m7 hdd hu
  refine⟨λq=>SeqAt.in_list_reads r3 r1 o2.1 o1.1 hm ?_,λq=>SeqAt.notIn_list_reads r3 r1 o2.1 o1.1 hm ?_⟩
  ·rw [lI _ d1 _ hd];exact Res.now (tk:=s.toks) S (.bool _) q
  ·rw [lI _ d1 _ hd];exact Res.now (tk:=s.toks) S (.bool _) q
 ·cases hx.inv
  replace hy:=lL S hy hdv
  obtain⟨a,cs,rfl,hsm,hd,hl,r,_⟩:=hy
  refine⟨λq=>wpAny_in_of (knd:=c.kd) (nR _ _) hsm hd.mapOf ?_,λq=>wpAny_notIn_of (knd:=c.kd) (nR _ _) hsm hd.mapOf ?_⟩
  ·rw [um hl r];exact Res.now S (.bool _) q
  ·rw [um hl r];exact Res.now S (.bool _) q
noncomputable def Dy:Cop->CmpOp
 |.eq=>.Eq|.ne=>.NotEq|.lt=>.Lt|.le=>.LtE|.gt=>.Gt|.ge=>.GtE|.is=>.Is|.isnot=>.IsNot|.in_=>.In|.notin=>.NotIn
theorem DX(f:Int->Int->Bool)(x y:V):Is (vT f x y) λb=>∃i j,x=.int i/\y=.int j/\b=f i j:=by
 cases x with
 |int i=>cases y<;>first|exact⟨_,_,rfl,rfl,rfl⟩|exact trivial
 |_=>exact trivial
theorem j9{f:Int->Int->Bool}{x y:V}{b:Bool}(e:vT f x y=some b):∃i j,x=.int i/\y=.int j/\b=f i j:=(DX f x y).of e
theorem JT{o:Cop}{x y:V}{cx cy:Value}{b:Bool}(S:SR c as X H s)(hx:VR c as X s.heap x cx)(hy:VR c as X s.heap y cy)(hu:A.units+64<cLine)
  (e:iV o x y H=some b)(q:Q (.bool b) H):wpAny c.M A (compareOp (Dy o) cx cy) (Res c as X s.heap Q) E s:=by
 cases o with
 |eq=>
  replace e:=cj.mp e
  refine ea1_2 e ?_
  intro x' h1 e
  replace e:=bq.mp e
  refine ea1_2 e ?_
  intro y' h2 q_3
  subst q_3
  exact Lb S hx hy h1 h2 hu q
 |ne=>
  replace e:=bq.mp e
  refine ea1_2 e ?_
  intro z e1 q_3
  subst q_3
  replace e1:=cj.mp e1
  refine ea1_2 e1 ?_
  intro x' h1 e1
  replace e1:=bq.mp e1
  refine ea1_2 e1 ?_
  intro y' h2 q_3
  subst q_3
  exact KZ S hx hy h1 h2 hu q
 |lt=>obtain⟨a,b,rfl,rfl,rfl⟩:=j9 e;cases hx.inv;cases hy.inv;exact lt_int (Res.now (tk:=s.toks) S (.bool _) q)
 |le=>obtain⟨a,b,rfl,rfl,rfl⟩:=j9 e;cases hx.inv;cases hy.inv;exact le_int (Res.now (tk:=s.toks) S (.bool _) q)
 |gt=>obtain⟨a,b,rfl,rfl,rfl⟩:=j9 e;cases hx.inv;cases hy.inv;exact gt_int (Res.now (tk:=s.toks) S (.bool _) q)
 |ge=>obtain⟨a,b,rfl,rfl,rfl⟩:=j9 e;cases hx.inv;cases hy.inv;exact ge_int (Res.now (tk:=s.toks) S (.bool _) q)
 |is=>
  obtain⟨h1,h2⟩:=Ak S hx hy e
  exact wpAny_is_plain h1 (by exact(h2)▸Res.now (tk:=s.toks) S (.bool _) q)
 |isnot=>
  replace e:=bq.mp e
  refine ea1_2 e ?_
  intro b' h0 q_3
  subst q_3
  obtain⟨h1,h2⟩:=Ak S hx hy h0
  exact wpAny_isNot_plain h1 (by subst h2;exact Res.now (tk:=s.toks) S (.bool _) q)
 |in_=>exact(IA S hx hy e hu).1 q
 |notin=>
  replace e:=bq.mp e
  refine ea1_2 e ?_
  intro b' h0 q_3
  subst q_3
  exact(IA S hx hy h0 hu).2 q
end
def OVR(c:Cx)(as:bA)(X:List Addr)(h:HP)(o:Option V)(y:Option Value):Prop:=∀v,o=some v->∃x,y=some x/\VR c as X h v x
structure FR(c:Cx)(as:bA)(X:List Addr)(h:HP)(env:Env)(tab:List (Str×Nat))(ρ:Fm):Prop where
 kind:env.scope.kind=.function
 glob:env.globals=mainGlobals
 bi:env.builtins=builtinsNs
 lx:env.locals∈X
 lout:env.locals∉as
 lb:c.base.get? env.locals=none
 ns:∃m,h.Ns env.locals m/\∀x i,tab.lookup x=some i->env.kindOf x=some .local->OVR c as X h ((ρ[i]?).join) (m x)
 cells:∀x i,tab.lookup x=some i->(env.kindOf x=some .cell\/env.kindOf x=some .free)->
  ∃a y,env.cells.lookup x=some a/\a∈X/\a∉as/\c.base.get? a=none/\a≠env.locals/\h.IsCell a y/\OVR c as X h ((ρ[i]?).join) y
 apart:∀x y a,env.cells.lookup x=some a->env.cells.lookup y=some a->x=y
 inj:∀x y i,tab.lookup x=some i->tab.lookup y=some i->x=y
theorem OVR.keepX{c:Cx}{as as':bA}{X:List Addr}{h h':HP}{o:Option V}{y:Option Value}(k:VK as X h h')(x:Ext as h as')(z:OVR c as X h o y):OVR c as' X h' o y:=
 λv e=>let⟨q,e1,e2⟩:=z v e;⟨q,e1,e2.keepX k x⟩
theorem Ns.same{X:List Addr}{h h':HP}{L:Addr}{m:Str->Option Value}(n:h.Ns L m)(k:∀o,h.get? L=some o->∃o',h'.get? L=some o'/\SameO X L o o'):h'.Ns L m:=by
 refine kD n ?_
 intro o es ep e r
 refine ea1_2 (k o e) ?_
 intro o' e' s
 refine⟨o',es,ep,e',?_⟩
 rcases s with rfl|⟨_,_,sl,rfl⟩<;>exact r
theorem IsCell.same{X:List Addr}{h h':HP}{a:Addr}{y:Option Value}(n:h.IsCell a y)(k:∀o,h.get? a=some o->∃o',h'.get? a=some o'/\SameO X a o o'):h'.IsCell a y:=by
 refine ea1_2 n ?_
 intro o e r
 refine ea1_2 (k o e) ?_
 intro o' e' s
 refine⟨o',e',?_⟩
 rcases s with rfl|⟨_,_,sl,rfl⟩<;>exact r
theorem FR.keep{c:Cx}{as as':bA}{X:List Addr}{h h':HP}{env:Env}{tab:List (Str×Nat)}{ρ:Fm}(F:FR c as X h env tab ρ)(k:Kept as X h h')(x:Ext as h as'):FR c as' X h' env tab ρ where
 kind:=F.kind
 glob:=F.glob
 bi:=F.bi
 lx:=F.lx
 lout:=by
  refine ea1_2 F.ns ?_
  intro m p_2 _
  obtain⟨o,_,_,e,_⟩:=p_2
  exact x.out e F.lout
 lb:=F.lb
 ns:=by
  refine ea1_2 F.ns ?_
  intro m n r
  exact⟨m,Ns.same n λo e=>k _ o e F.lout,λy i h1 h2=>(r y i h1 h2).keepX k.x x⟩
 cells:=λy i h1 h2=>by
  refine kA (F.cells y i h1 h2) ?_
  intro a z e1 e2 e3 e4 e5 e6 e7
  refine ea1_2 (e6) ?_
  intro o eo _
  exact⟨a,z,e1,e2,x.out eo e3,e4,e5,IsCell.same e6 λo e=>k _ o e e3,e7.keepX k.x x⟩
 apart:=F.apart
 inj:=F.inj
section
variable {c:Cx}{A:Around}{E:Value->Shared->Prop}{s:Shared}{as:bA}{X:List Addr}{H:AH}{Q:QE}{env:Env}{tab:List (Str×Nat)}{ρ:Fm}
theorem Fz{x:Str}{i:Nat}{v:V}{M:Model}(S:SR c as X H s)(F:FR c as X s.heap env tab ρ)(ht:tab.lookup x=some i)(hk:env.kindOf x=some .local\/env.kindOf x=some .cell\/env.kindOf x=some .free)
  (hv:ρ[i]? =some (some v))(hn:(x==("__classdict__":Str))=false)(q:Q v H):wpAny M A (loadName env x) (Res c as X s.heap Q) E s:=by
 rcases hk with hk|hk
 ·refine ea1_2 F.ns ?_
  intro m n r
  refine ea1_2 (r x i ht hk v (by rw [hv];rfl)) ?_
  intro y e1 e2
  exact wpAny_loadName_local F.kind hk n e1 (Res.now (tk:=s.toks) S e2 q)
 ·refine kA (F.cells x i ht hk) ?_
  intro a z e1 e2 e3 e4 e5 e6 e7
  replace e7:=e7 v (by rw [hv];rfl)
  refine ea1_2 e7 ?_
  intro y q_2 e8
  subst q_2
  rcases hk with hk|hk
  ·exact wpAny_loadName_cell F.kind hk e1 e6 (Res.now (tk:=s.toks) S e8 q)
  ·exact wpAny_loadName_free F.kind hk e1 e6 (Res.now (tk:=s.toks) S e8 q) hn
inductive StepF(c:Cx)(as:bA)(X:List Addr)(H:AH)(env:Env)(tab:List (Str×Nat))(h:HP)(ρ':Fm)(s':Shared):Prop
 |mk:SR c as X H s'->KeptX as X (env.locals::env.cells.map (·.2)) h s'.heap->FR c as X s'.heap env tab ρ'->StepF c as X H env tab h ρ' s'
theorem jP(ρ:Fm)(i j:Nat)(v:V)(hi:i<ρ.length):(((ρ.set i (some v))[j]?).join)=if i=j then some v else(ρ[j]?).join:=by
 by_cases h:i=j
 ·subst h;simp [hi]
 ·simp [h]
theorem lK{x:Str}{i:Nat}{v:V}{cv:Value}{M:Model}{R:Unit->Shared->Prop}(S:SR c as X H s)(F:FR c as X s.heap env tab ρ)(ht:tab.lookup x=some i)(hk:env.kindOf x=some .local\/env.kindOf x=some .cell)
  (hi:i<ρ.length)(hv:VR c as X s.heap v cv)(r:∀s',StepF c as X H env tab s.heap (ρ.set i (some v)) s'->R () s'):wpAny M A (storeName env x cv) R E s:=by
 rcases hk with hk|hk
 ·refine ea1_2 F.ns ?_
  intro m n rr
  refine wpAny_storeName_local hk n (λh' n' sb=>r _ ?_) (by rw [F.kind];rfl)
  have K0:∀b o,s.heap.get? b=some o->b≠env.locals->h'.get? b=some o:=λb o e hb=>(sb.2 b hb).trans e
  have KX:VK as X s.heap h':=λb o e _ hb=>K0 b o e (λq=>hb (q▸F.lx))
  have hL':∃o,h'.get? env.locals=some o:=let⟨o,_,_,e,_⟩:=n';⟨o,e⟩
  refine⟨S.keepX (s':={s with heap:=h',toks:=s.toks+1}) (λb o e _ hb=>K0 b o e (λq=>hb (q▸F.lx))) (λb o e=>K0 b o (S.stays b o e) λq=>?_) (λb hb=>?_) rfl rfl,λb o e _ hb=>⟨o,K0 b o e (λq=>hb (q▸.head _)),.inl rfl⟩,?_⟩
  ·(replace q:=Eq.symm q;subst q);replace e:=(F.lb).symm.trans e;exact eY e
  ·by_cases q:b=env.locals
   ·exact (q)▸hL'
   ·refine dw (S.xs b hb) λo e=>?_
    exact⟨o,K0 b o e q⟩
  ·refine ⟨F.kind,F.glob,F.bi,F.lx,F.lout,F.lb,⟨_,n',λy j h1 h2=>?_⟩,λy j h1 h2=>?_,F.apart,F.inj⟩
   ·simp only [jP _ _ _ _ hi]
    by_cases hxy:y=x
    ·(replace hxy:=Eq.symm hxy;subst hxy)
     replace h1:=(ht).symm.trans h1;(replace h1:=ai h1;subst h1)
     simp only [if_true]
     intro v' e';(replace e':=ai e';subst e')
     exact⟨cv,rfl,hv.keepX KX (.refl ..)⟩
    ·haveI:i≠j:=λq=>hxy (F.inj _ _ j h1 (q▸ht))
     rw [if_neg this,if_neg hxy]
     exact(rr y j h1 h2).keepX KX (.refl ..)
   ·refine kA (F.cells y j h1 h2) ?_
    intro a z e1 e2 e3 e4 e5 e6 e7
    have hne:y≠x:=λq=>by subst q;replace h2:=(hk)▸h2;rcases h2 with h2|h2<;>cases h2
    have:i≠j:=λq=>hne (F.inj _ _ j h1 (q▸ht))
    refine⟨a,z,e1,e2,e3,e4,e5,IsCell.same (X:=X) e6 λo e=>⟨o,K0 _ o e e5,.inl rfl⟩,?_⟩
    rw [jP _ _ _ _ hi,if_neg this]
    exact e7.keepX KX (.refl ..)
 ·refine kA (F.cells x i ht (.inl hk)) ?_
  intro a z e1 e2 e3 e4 e5 e6 e7
  refine wpAny_storeName_cell F.kind hk e1 e6 λh' c' sb=>r _ ?_
  have K0:∀b o,s.heap.get? b=some o->b≠a->h'.get? b=some o:=λb o e hb=>(sb.2 b hb).trans e
  have KX:VK as X s.heap h':=λb o e _ hb=>K0 b o e (λq=>hb (q▸e2))
  have hL':∃o,h'.get? a=some o:=let⟨o,e,_⟩:=c';⟨o,e⟩
  refine⟨S.keepX (s':={s with heap:=h'}) (λb o e _ hb=>K0 b o e (λq=>hb (q▸e2))) (λb o e=>K0 b o (S.stays b o e) λq=>?_) (λb hb=>?_) rfl rfl,λb o e _ hb=>⟨o,K0 b o e (λq=>hb (q▸.tail _ ?_)),.inl rfl⟩,?_⟩
  ·(replace q:=Eq.symm q;subst q);replace e:=(e4).symm.trans e;exact eY e
  ·by_cases q:b=a
   ·exact (q)▸hL'
   ·refine dw (S.xs b hb) λo e=>?_
    exact⟨o,K0 b o e q⟩
  ·exact aG.mpr ⟨(x,a),mem_of_lookup e1,rfl⟩
  ·refine ea1_2 F.ns ?_
   intro m n rr
   refine⟨F.kind,F.glob,F.bi,F.lx,F.lout,F.lb,⟨_,Ns.same (X:=X) n λo e=>⟨o,K0 _ o e (Ne.symm e5),.inl rfl⟩,λy j h1 h2=>?_⟩,λy j h1 h2=>?_,F.apart,F.inj⟩
   ·have hne:y≠x:=λq=>by subst q;replace h2:=(hk).symm.trans h2;cases h2
    have:i≠j:=λq=>hne (F.inj _ _ j h1 (q▸ht))
    rw [jP _ _ _ _ hi,if_neg this]
    exact(rr y j h1 h2).keepX KX (.refl ..)
   ·refine kA (F.cells y j h1 h2) ?_
    intro a' z' f1 f2 f3 f4 f5 f6 f7
    by_cases hxy:y=x
    ·subst hxy
     replace h1:=(ht).symm.trans h1;(replace h1:=ai h1;subst h1)
     refine⟨a,_,e1,e2,e3,e4,e5,c',?_⟩
     simp only [jP _ _ _ _ hi,if_pos rfl]
     intro v' e';(replace e':=ai e';subst e')
     exact⟨cv,rfl,hv.keepX KX (.refl ..)⟩
    ·have:i≠j:=λq=>hxy (F.inj _ _ j h1 (q▸ht))
     refine⟨a',z',f1,f2,f3,f4,f5,IsCell.same (X:=X) f6 λo e=>⟨o,K0 _ o e (λq=>hxy (F.apart y x a (q▸f1) e1):a'≠a),.inl rfl⟩,?_⟩
     rw [jP _ _ _ _ hi,if_neg this]
     exact f7.keepX KX (.refl ..)
end
inductive ExcS(h:HP)(e:Addr)(cls:Value):Option Addr->Prop
 |fresh {oe:Obj} {vs:Array Value}:h.get? e=some oe->oe.cls=cls->oe.data=.fields vs->vs.size=6->vs[1]? =some .none->vs[2]? =some .none->ExcS h e cls none
 |traced {oe oT:Obj} {vs ts:Array Value} {T:Addr}:h.get? e=some oe->oe.cls=cls->oe.data=.fields vs->vs.size=6->vs[1]? =some (.ref T)->vs[2]? =some .none->
   T≠e->h.get? T=some oT->oT.data=.fields ts->3<ts.size->ExcS h e cls (some T)
def Touch(S F:List Addr)(h h':HP):Prop:=∀b o,h.get? b=some o->∃o',h'.get? b=some o'/\(b∈S\/o'=o\/b∈F/\∃sl,o'={o with slots:=sl})
theorem Touch.refl(S F:List Addr)(h:HP):Touch S F h h:=λ_ o e=>⟨o,e,.inr (.inl rfl)⟩
theorem Touch.trans{S F:List Addr}{h h₁ h₂:HP}(x:Touch S F h h₁)(y:Touch S F h₁ h₂):Touch S F h h₂:=λb o e=>by
 refine ea1_2 (x b o e) ?_
 intro o₁ e₁ q₁
 refine ea1_2 (y b o₁ e₁) ?_
 intro o₂ e₂ q₂
 refine⟨o₂,e₂,?_⟩
 rcases q₁ with q₁|rfl|⟨hF,sl,rfl⟩
 ·exact .inl q₁
 ·exact q₂
 ·rcases q₂ with q₂|rfl|⟨_,sl',rfl⟩
  ·exact .inl q₂
  ·exact .inr (.inr ⟨hF,sl,rfl⟩)
  ·exact .inr (.inr ⟨hF,sl',rfl⟩)
theorem Touch.mono{S S' F:List Addr}{h h':HP}(x:Touch S F h h')(hS:∀b∈S,b∈S'):Touch S' F h h':=λb o e=>let⟨o',e',q⟩:=x b o e;⟨o',e',q.imp (hS b) id⟩
theorem Touch.out{S F:List Addr}{h h':HP}(x:Touch S F h h'){b:Addr}{o:Obj}(e:h.get? b=some o)(hb:b∉S):∃o',h'.get? b=some o'/\(o'=o\/b∈F/\∃sl,o'={o with slots:=sl}):=
 let⟨o',e',q⟩:=x b o e;⟨o',e',q.resolve_left hb⟩
theorem Touch.frames{S:List Addr}{h h' base:HP}{l:List Env}(x:Touch S (l.filterMap (·.frame)) h h')(hS:∀b∈S,∀o,h.get? b=some o->∃vs,o.data=.fields vs)(hl:h.FunFrames base l):h'.FunFrames base l:=
 hl.of_keeps λb o e hn=>by
  obtain⟨o',e',q⟩:=x.out e λhb=>by obtain⟨vs,hd⟩:=hS b hb o e;exact hn vs hd
  rcases q with rfl|⟨_,sl,rfl⟩
  ·exact ⟨_,e',rfl⟩
  ·exact ⟨_,e',rfl⟩
section
variable {M:Model}{A:Around}{E:Value->Shared->Prop}{s:Shared}{base:HP}{env env₀:Env}{outer:List Env}{L e:Addr}{cls:Value}{t:Option Addr}
theorem tB{Q:Value->Shared->Prop}(hfr:A.frames=some (env₀::outer))(hl:s.heap.FunFrames base (env₀::outer))(hf₀:env₀.frame=some L)(hf:env.frame=some L)
  (h:∀h',Heap.SlotsOnly ((env₀::outer).filterMap (·.frame)) s.heap h'->Q (.ref L) {s with heap:=h'}):wpAny M A (PySem.frameOf env) Q E s:=by
 unfold PySem.frameOf
 refine wpAny_bind (wpAny_frameEnvs hfr ?_)
 haveI hdw:((env₀::outer).dropWhile λx=>x.frame !=env.frame)=env₀::outer:=by rw [List.dropWhile_cons_of_neg];simp only [hf₀,hf];simp
 rw [hdw]
 refine wpAny_bind (wpAny_bind (wpAny_readyFrames_fun hl λh₁ hs₁=>wpAny_pure ?_))
 rw [hf₀]
 exact wpAny_pure (h h₁ hs₁)
theorem oN{oe:Obj}{vs:Array Value}{head:Value}{hadNext:Bool}{Q:Unit->Shared->Prop}
  (hfr:A.frames=some (env₀::outer))(hl:s.heap.FunFrames base (env₀::outer))(hf₀:env₀.frame=some L)(hf:env.frame=some L)
  (he:s.heap.get? e=some oe)(hc:oe.cls=cls)(hd:oe.data=.fields vs)(hsz:vs.size=6)(h2:vs[2]? =some .none)
  (h:∀h' T,ExcS h' e cls (some T)->s.heap.get? T=none->Touch [e] ((env₀::outer).filterMap (·.frame)) s.heap h'->Q () {s with heap:=h'}) :
  wpAny M A (do let a <-PySem.frameOf env;let pl <-entryPlaceOf L hadNext;let b <-EntryCells.newEntry head a .none (rawInt L) .none pl;setField (.ref e) 1 b) Q E s:=by
 haveI hene:e∉(env₀::outer).filterMap (·.frame):=λhm=>by
  obtain⟨_,o,ho,hnf⟩:=hl.mem hm
  replace ho:=(he).symm.trans ho;(replace ho:=ai ho;subst ho);exact hnf vs hd
 refine wpAny_bind (tB hfr hl hf₀ hf λh₁ hs₁=>?_)
 refine wpAny_bind (wpAny_entryPlaceOf λpl hpl=>?_)
 unfold EntryCells.newEntry newFields
 refine wpAny_bind (wpAny_newObj_type ?_ (hpl.sizeOk5 _ _ _ _ _))
 haveI he₁:h₁.get? e=some oe:=(hs₁.2.1 e hene).trans he
 haveI he₂:=bQ (h:=h₁) {cls:=.type "traceback",dict:=none,data:=.fields ([head,.ref L,.none,rawInt L,.none]++(if pl.isEmpty then bH 6 Value.none else pl)).toArray} he₁
 refine wpAny_setField he₂ hd (jA (by decide) hsz.symm) (h _ h₁.objs.size ?_ (Heap.get?_none_of_le (by exact(hs₁.1)▸aI _)) λb o hb=>?_)
 ·haveI hTe:h₁.objs.size≠e:=gm (fh he₁)
  haveI hd₃:=Obj.data_mapFields hd (·.setIfInBounds 1 (Value.ref h₁.objs.size))
  refine .traced (cI _ he₂ (Obj.isFreed_of_fields hd₃)) ((Obj.cls_mapFields _ _).trans hc) hd₃ (by exact(Au).trans (hsz)) (by simp [hsz]) (by exact(Array.getElem?_setIfInBounds_ne (by decide)).trans (h2)) hTe
   ((cr _ _ (Ne.symm hTe)).trans (be h₁ rfl)) rfl (by simp only [hV,af,bK,ug];exact by simp+arith only)
 ·by_cases hbe':b=e
  ·(replace hbe':=Eq.symm hbe';subst hbe')
   exact⟨_,cI _ he₂ (Obj.isFreed_of_fields (Obj.data_mapFields hd (·.setIfInBounds 1 (Value.ref h₁.objs.size)))),.inl (.head _)⟩
  by_cases hF:b∈(env₀::outer).filterMap (·.frame)
  ·refine dw (hs₁.2.2 b o hb) λsl hs=>?_
   exact⟨_,(cr _ _ (Ne.symm hbe')).trans (bQ _ hs),.inr (.inr ⟨hF,sl,rfl⟩)⟩
  ·exact ⟨o,(cr _ _ (Ne.symm hbe')).trans (bQ _ ((hs₁.2.1 b hF).trans hb)),.inr (.inl rfl)⟩
theorem rP{Q:Unit->Shared->Prop}(hfr:A.frames=some (env₀::outer))(hl:s.heap.FunFrames base (env₀::outer))(hf₀:env₀.frame=some L)(hf:env.frame=some L)(x:ExcS s.heap e cls t)
  (h:∀h' T,ExcS h' e cls (some T)->(t=some T\/s.heap.get? T=none)->Touch (e::t.toList) ((env₀::outer).filterMap (·.frame)) s.heap h'->Q () {s with heap:=h'}):wpAny M A (noteFrame (.ref e) env) Q E s:=by
 dsimp only [noteFrame]
 rw [hf]
 induction x with
 |fresh he hc hd hsz h1 h2=>
  refine wpAny_bind (wpAny_field he hd h1 ?_)
  exact oN hfr hl hf₀ hf he hc hd hsz h2 λh' T x q k=>h h' T x (.inr q) k
 |@traced oe oT vs ts T he hc hd hsz h1 h2 hTe hT hdT hts=>
  refine wpAny_bind (wpAny_field he hd h1 ?_)
  obtain⟨fl,h3⟩:∃fl,ts[3]? =some fl:=⟨ts[3],by simp [hts]⟩
  refine wpAny_bind (wpAny_field hT hdT h3 ?_)
  by_cases hfl:(fl==rawInt L)=true
  ·rw [if_pos hfl]
   exact wpAny_pure (h _ T (.traced he hc hd hsz h1 h2 hTe hT hdT hts) (.inl rfl) (Touch.refl _ _ _))
  ·rw [if_neg hfl]
   refine wpAny_bind (wpAny_setField hT hdT hts ?_)
   have other:∀b,b≠T->(s.heap.update T (Obj.mapFields (·.setIfInBounds 3 Value.none))).get? b=s.heap.get? b:=λb hb=>cr _ _ (Ne.symm hb)
   have k0:Touch [e,T] ((env₀::outer).filterMap (·.frame)) s.heap (s.heap.update T (Obj.mapFields (·.setIfInBounds 3 Value.none))):=λb o hb=>by
    by_cases q:b=T
    ·(replace q:=Eq.symm q;subst q)
     exact⟨_,cI _ hT (Obj.isFreed_of_fields (Obj.data_mapFields hdT _)),.inl (.tail _ (.head _))⟩
    ·exact ⟨o,(other b q).trans hb,.inr (.inl rfl)⟩
   refine oN hfr (k0.frames (λb hb o ho=>?_) hl) hf₀ hf ((other e (Ne.symm hTe)).trans he) hc hd hsz h2 λh' T' x q k=>h h' T' x (.inr ?_) (k0.trans (k.mono λb q=>?_))
   ·rcases bG.mp hb with rfl|hb
    ·replace ho:=(he).symm.trans ho;(replace ho:=ai ho;subst ho);exact⟨vs,hd⟩
    ·refine Or.elim (bG.mp hb) (λq_=>?_) (λhb=>?_)
     ·(replace q_:=Eq.symm q_;subst q_);replace ho:=(hT).symm.trans ho;(replace ho:=ai ho;subst ho);exact⟨ts,hdT⟩
     ·cases hb
   ·by_cases hq:T'=T
    ·(replace hq:=Eq.symm hq;subst hq)
     haveI:=cI (Obj.mapFields (·.setIfInBounds 3 Value.none)) hT (Obj.isFreed_of_fields (Obj.data_mapFields hdT _))
     replace this:=(q).symm.trans this;exact eY this
    ·rw [<-other T' hq];exact q
   ·refine Or.elim (bG.mp q) (λq_=>?_) (λq=>?_)
    ·(replace q_:=Eq.symm q_;subst q_);exact .head _
    ·cases q
theorem kH{fr:Option Addr}{T:Addr}{Q:Unit->Shared->Prop}(x:ExcS s.heap e cls (some T))
  (h:∀h',ExcS h' e cls (some T)->(∀b,b≠T->h'.get? b=s.heap.get? b)->Q () {s with heap:=h'}):wpAny M A (setFlight (.ref e) fr) Q E s:=by
 cases x with
 |@traced oe oT vs ts _ he hc hd hsz h1 h2 hTe hT hdT hts=>
  refine wpAny_bind (wpAny_field he hd h1 ?_)
  haveI other:∀b,b≠T->(s.heap.update T (Obj.mapFields (·.setIfInBounds 3 (fr.elim .none λf=>rawInt f)))).get? b=s.heap.get? b:=λb hb=>cr _ _ (Ne.symm hb)
  refine wpAny_setField hT hdT hts (h _ (.traced ((other e (Ne.symm hTe)).trans he) hc hd hsz h1 h2 hTe (cI _ hT (Obj.isFreed_of_fields (Obj.data_mapFields hdT _))) (Obj.data_mapFields hdT _) (by exact(Au).symm▸hts)) other)
end
def yU(c:Cx)(as₀:bA)(h₀:HP)(as:bA)(X:List Addr)(a:Addr):Prop:=Fr as₀ h₀ a/\a∉as/\a∉X/\c.base.get? a=none
inductive ERes(c:Cx)(as:bA)(X:List Addr)(h:HP)(XX:XE)(x:Value)(s':Shared):Prop
 |mk (k:Nat) (H':AH) (as':bA) (e:Addr) (t:Option Addr) (ts:List Addr):x=.ref e->Ext as h as'->SR c as' (e::(ts++X)) H' s'->Kept as X h s'.heap->ExcS s'.heap e (.ref (c.xcls k)) t->(∀T,t=some T->T∈ts)->(∀a∈e::ts,yU c as h as' X a)->XX k H'->ERes c as X h XX x s'
theorem ERes.lift{c:Cx}{as as₁:bA}{X:List Addr}{h h₁:HP}{s':Shared}{XX:XE}{x:Value}(e:Ext as h as₁)(k:Kept as X h h₁)(r:ERes c as₁ X h₁ XX x s'):ERes c as X h XX x s':=by
 obtain⟨n,H',as',a,t,ts,hx,e',S,k',ex,ht,ap,q⟩:=r
 exact⟨n,H',as',a,t,ts,hx,e.trans k e',S,k.trans e k',ex,ht,λb hb=>⟨(ap b hb).1.lift e k,(ap b hb).2⟩,q⟩
structure FrE(c:Cx)(X:List Addr)(as:bA)(h:HP)(env:Env):Prop where
 kind:env.scope.kind≠.module
 there:∃L o es n,env.frame=some L/\c.base.get? L=none/\2<=X.count L/\L∉as/\h.get? L=some o/\o.data=.dict es n
def FrOk(c:Cx)(A:Around)(X:List Addr)(as:bA)(h:HP)(l:List Env):Prop:=A.frames=some l/\∀env∈l,FrE c X as h env
theorem FrE.keep{c:Cx}{X:List Addr}{as as':bA}{h h':HP}{env:Env}(f:FrE c X as h env)(e:Ext as h as')(k:Kept as X h h'):FrE c X as' h' env:=by
 refine mP f.there ?_
 intro L o es n h1 h2 h3 h4 h5 h6
 refine ea1_2 (k L o h5 h4) ?_
 intro o' e' s
 refine⟨f.kind,L,o',es,n,h1,h2,h3,e.out h5 h4,e',?_⟩
 rcases s with rfl|⟨_,_,sl,rfl⟩
 ·exact h6
 ·exact h6
theorem FrOk.keep{c:Cx}{A:Around}{X:List Addr}{as as':bA}{h h':HP}{l:List Env}(f:FrOk c A X as h l)(e:Ext as h as')(k:Kept as X h h'):FrOk c A X as' h' l:=⟨f.1,λenv he=>(f.2 env he).keep e k⟩
theorem FrOk.fun{c:Cx}{X:List Addr}{as:bA}{h:HP}:∀{l:List Env},(∀env∈l,FrE c X as h env)->h.FunFrames c.base l
 |[],_=>trivial
 |env::l,f=>by
  refine mP ((f env (.head _)).there) ?_
  intro L o es n h1 h2 h3 h4 h5 h6
  exact⟨(f env (.head _)).kind,⟨L,o,h1,h2,h5,λvs q=>by replace q:=(h6).symm.trans q;cases q⟩,FrOk.fun λe he=>f e (.tail _ he)⟩
theorem FrOk.touch{c:Cx}{X:List Addr}{as as':bA}{S:List Addr}{h h₀ h':HP}{l:List Env}(f:∀env∈l,FrE c X as' h env)(k:Kept as X h₀ h)(x:Touch S (l.filterMap (·.frame)) h h')(hS:∀a∈S,Fr as h₀ a):Kept as X h₀ h':=λb o e hb=>by
 refine ea1_2 (k b o e hb) ?_
 intro o₁ e₁ s₁
 haveI hn:b∉S:=λq=>(hS b q).elim (λr=>hb r) λr=>by exact eY ((r).symm.trans e)
 refine ea1_2 (x.out e₁ hn) ?_
 intro o₂ e₂ s₂
 refine⟨o₂,e₂,s₁.trans ?_⟩
 rcases s₂ with rfl|⟨hF,sl,rfl⟩
 ·exact .inl rfl
 ·refine ea1_2 (oF.mp hF) ?_
  intro env he hf
  refine mP ((f env he).there) ?_
  intro L o es n h1 h2 h3 h4 h5 h6
  cases h1.symm.trans hf
  cases h5.symm.trans e₁
  exact .inr ⟨h3,⟨es,n,h6⟩,sl,rfl⟩
inductive EnvFr(c:Cx)(A:Around)(X:List Addr)(as:bA)(h:HP)(env:Env):Prop
 |mk (env₀:Env) (outer:List Env) (L:Addr):A.frames=some (env₀::outer)->(∀e∈env₀::outer,FrE c X as h e)->env₀.frame=some L->env.frame=some L->EnvFr c A X as h env
theorem EnvFr.keep{c:Cx}{A:Around}{X:List Addr}{as as':bA}{h h':HP}{env:Env}(f:EnvFr c A X as h env)(e:Ext as h as')(k:Kept as X h h'):EnvFr c A X as' h' env:=by
 obtain⟨env₀,outer,L,h1,h2,h3,h4⟩:=f
 exact⟨env₀,outer,L,h1,λa ha=>(h2 a ha).keep e k,h3,h4⟩
theorem FrE.grow{c:Cx}{X X':List Addr}{as:bA}{h h':HP}{env:Env}(f:FrE c X as h env)(g:Grown h h')(hX:∀b,X.count b<=X'.count b):FrE c X' as h' env:=by
 refine mP f.there ?_
 intro L o es n h1 h2 h3 h4 h5 h6
 exact⟨f.kind,L,o,es,n,h1,h2,aa h3 (hX L),h4,g _ _ h5,h6⟩
theorem EnvFr.grow{c:Cx}{A:Around}{X X':List Addr}{as:bA}{h h':HP}{env:Env}(f:EnvFr c A X as h env)(g:Grown h h')(hX:∀b,X.count b<=X'.count b):EnvFr c A X' as h' env:=by
 obtain⟨env₀,outer,L,h1,h2,h3,h4⟩:=f
 exact⟨env₀,outer,L,h1,λa ha=>(h2 a ha).grow g hX,h3,h4⟩
theorem EnvFr.env{c:Cx}{A:Around}{X:List Addr}{as:bA}{h:HP}{env env':Env}(f:EnvFr c A X as h env)(e:env'.frame=env.frame):EnvFr c A X as h env':=by
 obtain⟨env₀,outer,L,h1,h2,h3,h4⟩:=f
 exact⟨env₀,outer,L,h1,h2,h3,e.trans h4⟩
theorem EnvFr.all{c:Cx}{A:Around}{X:List Addr}{as:bA}{h:HP}{env:Env}(f:EnvFr c A X as h env):∃l,FrOk c A X as h l:=by
 obtain⟨env₀,outer,L,h1,h2,h3,h4⟩:=f
 exact⟨_,h1,h2⟩
theorem SR.note{c:Cx}{as:bA}{X Y S F:List Addr}{H:AH}{s:Shared}{h':HP}(x:SR c as X H s)(k:Touch S F s.heap h')(hS:∀b∈S,b∈X/\c.base.get? b=none)(hF:∀b∈F,b∈X/\c.base.get? b=none)(hXY:∀b∈X,b∈Y)(hY:∀b∈Y,b∈X\/s.heap.get? b=none)(hy:∀b∈Y,∃o,h'.get? b=some o):SR c as Y H {s with heap:=h'} where
 len:=x.len
 stays:=λb o e=>by
  obtain⟨o',e',q⟩:=k.out (x.stays b o e) λq=>by replace e:=((hS b q).2).symm.trans e;exact eY e
  rcases q with rfl|⟨q,_⟩
  ·exact e'
  ·replace e:=((hF b q).2).symm.trans e;exact eY e
 gens:=x.gens
 os:=x.os
 objs:=λi a e=>by
  refine ea0_3 (x.objs i a e) ?_
  intro h1 h2 r_3
  refine ea1_2 r_3 ?_
  intro o h3 h4
  haveI fy:∀b o,s.heap.get? b=some o->b∉X->b∉Y:=λb o e hb q=>(hY b q).elim hb λr=>by replace e:=(r).symm.trans e;exact eY e
  have ex:∀b o,s.heap.get? b=some o->b∉X->h'.get? b=some o:=λb o e hb=>by
   refine ea1_2 (k.out e λq=>hb (hS b q).1) ?_
   intro o' e' q
   rcases q with rfl|⟨q,_⟩
   ·exact e'
   ·exact absurd (hF b q).1 hb
  obtain⟨ob,hob⟩:=h4.here
  exact⟨h1,fy _ _ hob h2,o,h3,(OR.frames fy h4).keepX (λb o e _ hb=>ex b o e λq=>hb (hXY b q)) λob e=>ex _ _ e h2⟩
 inj:=x.inj
 xs:=hy
theorem FrE.mem{c:Cx}{X:List Addr}{as:bA}{h:HP}{l:List Env}(f:∀env∈l,FrE c X as h env){b:Addr}(hb:b∈l.filterMap (·.frame)):b∈X/\c.base.get? b=none:=by
 refine ea1_2 (oF.mp hb) ?_
 intro env he hf
 refine mP ((f env he).there) ?_
 intro L o es n h1 h2 h3 h4 h5 h6
 replace h1:=h1.symm.trans hf
 (replace h1:=ai h1;subst h1)
 exact⟨List.count_pos_iff.mp (bk (by decide) h3),h2⟩
def AB(x:Value)(h:HP):Prop:=∃e T cls,x=.ref e/\ExcS h e cls (some T)
def Dat(h h':HP):Prop:=∀b o,h.get? b=some o->(∀vs,o.data≠.fields vs)->∃o',h'.get? b=some o'/\o'.data=o.data
theorem Dat.ns{h h':HP}{L:Addr}{m:Str->Option Value}(d:Dat h h')(n:h.Ns L m):h'.Ns L m:=by
 refine i6 n ?_
 intro o es ep e hd r
 obtain⟨o',e',hd'⟩:=d L o e λvs q=>by replace q:=(hd).symm.trans q;cases q
 exact⟨o',es,ep,e',hd'.trans hd,r⟩
theorem ExcS.fields{h:HP}{e:Addr}{cls:Value}{t:Option Addr}(x:ExcS h e cls t):∀b∈e::t.toList,∀o,h.get? b=some o->∃vs,o.data=.fields vs:=λb hb o ho=>by
 cases x with
 |fresh he hc hd=>
  rcases bG.mp hb with rfl|hb
  ·cases he.symm.trans ho;exact⟨_,hd⟩
  ·cases hb
 |traced he hc hd hsz v1 v2 hTe hT hdT=>
  rcases bG.mp hb with rfl|hb
  ·cases he.symm.trans ho;exact⟨_,hd⟩
  ·cases fE.mp hb
   cases hT.symm.trans ho;exact⟨_,hdT⟩
theorem Touch.dat{S F:List Addr}{h h':HP}(x:Touch S F h h')(hS:∀b∈S,∀o,h.get? b=some o->∃vs,o.data=.fields vs):Dat h h':=λb o e hn=>by
 obtain⟨o',e',q⟩:=x.out e λq=>by obtain⟨vs,hd⟩:=hS b q o e;exact hn vs hd
 rcases q with rfl|⟨_,sl,rfl⟩
 ·exact ⟨_,e',rfl⟩
 ·exact ⟨_,e',rfl⟩
theorem ERes.note{c:Cx}{A:Around}{X:List Addr}{as:bA}{h:HP}{env:Env}{XX:XE}{x:Value}{s':Shared}{E:Value->Shared->Prop}{Q:Unit->Shared->Prop}(r:ERes c as X h XX x s')(hf:∀as' H' Z,Ext as h as'->Kept as X h s'.heap->SR c as' Z H' s'->(∀b∈X,b∈Z)->EnvFr c A X as' s'.heap env)
  (q:∀s'',ERes c as X h XX x s''->AB x s''.heap->Dat s'.heap s''.heap->Q () s''):wpAny c.M A (noteFrame x env) Q E s':=by
 obtain⟨k,H',as',e,t,ts,rfl,e',S,k',ex,ht,ap,w⟩:=r
 obtain⟨env₀,outer,L,h1,h2,h3,h4⟩:=hf as' H' _ e' k' S λb hb=>.tail _ (ak _ hb)
 refine rP h1 (FrOk.fun h2) h3 h4 ex λh'' T ex' hT tc=>q _ ?_ ⟨e,T,_,rfl,ex'⟩ (tc.dat ex.fields)
 have hSm:∀a∈e::t.toList,a∈e::ts:=λa ha=>by
  refine Or.elim (bG.mp ha) (λq_=>?_) (λha=>?_)
  ·(replace q_:=Eq.symm q_;subst q_);exact .head _
  ·exact .tail _ (ht a (ig.mp ha))
 have K':Kept as X h h'':=FrOk.touch h2 k' tc λa ha=>(ap a (hSm a ha)).1
 have hS:∀b∈e::t.toList,b∈e::(ts++X)/\c.base.get? b=none:=λb hb=>⟨by
  rcases bG.mp (hSm b hb)with rfl|hb
  ·exact .head _
  ·exact .tail _ (av _ hb),(ap b (hSm b hb)).2.2.2⟩
 have hF:∀b∈(env₀::outer).filterMap (·.frame),b∈e::(ts++X)/\c.base.get? b=none:=λb hb=>⟨.tail _ (ak _ (FrE.mem h2 hb).1),(FrE.mem h2 hb).2⟩
 have hex:∀b∈e::(ts++X),∃o,h''.get? b=some o:=λb hb=>by
  refine dw (S.xs b hb) λo eo=>?_
  refine ea1_2 (tc b o eo) ?_
  intro o' eo' _
  exact⟨o',eo'⟩
 rcases hT with rfl|hT
 ·exact ⟨k,H',as',e,some T,ts,rfl,e',S.note tc hS hF (λ_ q=>q) (λ_ q=>.inl q) hex,K',ex',ht,ap,w⟩
 ·refine ⟨k,H',as',e,some T,T::ts,rfl,e',S.note tc hS hF (λb hb=>?_) (λb hb=>?_) (λb hb=>?_),K',ex',λT' q=>by(replace q:=ai q;subst q);exact .head _,λa ha=>?_,w⟩
  ·refine Or.elim (bG.mp hb) (λq_=>?_) (λhb=>?_)
   ·(replace q_:=Eq.symm q_;subst q_);exact .head _
   ·exact .tail _ (.tail _ hb)
  ·rcases bG.mp hb with rfl|hb
   ·exact .inl (.head _)
   ·refine Or.elim (bG.mp hb) (λq_=>?_) (λhb=>?_)
    ·subst q_;exact .inr hT
    ·exact .inl (.tail _ hb)
  ·rcases bG.mp hb with rfl|hb
   ·exact hex _ (.head _)
   ·refine Or.elim (bG.mp hb) (λq_=>?_) (λhb=>?_)
    ·subst q_;cases ex' with|traced he hc hd hsz v1 v2 hTe hTT=>exact⟨_,hTT⟩
    ·exact hex _ (.tail _ hb)
  ·rcases bG.mp ha with rfl|ha
   ·exact ap _ (.head _)
   ·refine Or.elim (bG.mp ha) (λq_=>?_) (λha=>?_)
    ·subst q_;refine⟨k'.fr hT,λq=>?_,λq=>?_,?_⟩
     ·refine dw (cn q) λi hi=>?_
      refine ea0_3 (S.objs i _ hi) ?_
      intro _ _ r_3
      refine ea1_2 r_3 ?_
      intro o _ ho
      obtain⟨ob,e⟩:=ho.here
      replace e:=(hT).symm.trans e;exact eY e
     ·obtain ⟨o,e⟩:=S.xs _ (.tail _ (ak _ q))
      replace e:=(hT).symm.trans e;exact eY e
     ·cases hb:c.base.get? a with
      |none=>rfl
      |some o=>replace hT:=(S.stays a o hb).symm.trans hT;cases hT
    ·exact ap _ (.tail _ ha)
theorem ExcS.uniq{h:HP}{e:Addr}{cls cls':Value}{t t':Option Addr}(x:ExcS h e cls t)(y:ExcS h e cls' t'):t=t':=by
 induction x with
 |fresh a1 a2 a3 a4 a5 a6=>
  induction y with
  |fresh=>rfl
  |traced b1 b2 b3 b4 b5=>
   cases a1.symm.trans b1
   cases a3.symm.trans b3
   cases a5.symm.trans b5
 |traced a1 a2 a3 a4 a5=>
  induction y with
  |fresh b1 b2 b3 b4 b5=>
   cases a1.symm.trans b1
   cases a3.symm.trans b3
   cases a5.symm.trans b5
  |traced b1 b2 b3 b4 b5=>
   cases a1.symm.trans b1
   cases a3.symm.trans b3
   cases a5.symm.trans b5
   rfl
theorem ERes.fly{c:Cx}{A:Around}{X:List Addr}{as:bA}{h:HP}{XX:XE}{x:Value}{s':Shared}{E:Value->Shared->Prop}{fr:Option Addr}{Q:Unit->Shared->Prop}(r:ERes c as X h XX x s')(tr:AB x s'.heap)(q:∀s'',ERes c as X h XX x s''->AB x s''.heap->Q () s''):wpAny c.M A (setFlight x fr) Q E s':=by
 obtain⟨k,H',as',e,t,ts,rfl,e',S,k',ex,ht,ap,w⟩:=r
 refine kD tr ?_
 intro e₁ T cls he ex₁
 cases he
 replace ex₁:=ex.uniq ex₁
 obtain rfl:=ex₁
 refine kH ex λh'' ex' hk=>q _ ?_ ⟨e,T,_,rfl,ex'⟩
 have tc:Touch [T] [] s'.heap h'':=λb o eb=>by
  by_cases hb:b=T
  ·(replace hb:=Eq.symm hb;subst hb)
   cases ex' with|traced he hc hd hsz v1 v2 hTe hTT=>exact⟨_,hTT,.inl (.head _)⟩
  ·exact ⟨o,(hk b hb).trans eb,.inr (.inl rfl)⟩
 have hT:T∈ts:=ht T rfl
 refine⟨k,H',as',e,some T,ts,rfl,e',S.note tc (λb hb=>?_) (λb hb=>nomatch hb) (λ_ q=>q) (λ_ q=>.inl q) (λb hb=>?_),λb o eb hb=>?_,ex',ht,ap,w⟩
 ·cases fE.mp hb
  exact⟨.tail _ (av _ hT),(ap T (.tail _ hT)).2.2.2⟩
 ·refine dw (S.xs b hb) λo eo=>?_
  refine ea1_2 (tc b o eo) ?_
  intro o' eo' _
  exact⟨o',eo'⟩
 ·refine ea1_2 (k' b o eb hb) ?_
  intro o₁ e₁ s₁
  have hbT:b≠T:=λq=>by
   subst q
   rcases(ap b (.tail _ hT)).1 with q|q
   ·exact hb q
   ·replace eb:=(q).symm.trans eb;exact eY eb
  exact⟨o₁,(hk b hbT).trans e₁,s₁⟩
theorem ERes.less{c:Cx}{X Y:List Addr}{as:bA}{h:HP}{XX:XE}{x:Value}{s':Shared}(r:ERes c as Y h XX x s')(hXY:∀b∈X,b∈Y)(hY:∀b,2<=Y.count b->2<=X.count b\/Fr as h b):ERes c as X h XX x s':=by
 obtain⟨k,H',as',e,t,ts,rfl,e',S,k',ex,ht,ap,w⟩:=r
 have sub:∀b∈e::(ts++X),b∈e::(ts++Y):=eJ (.head _) (cq (λb hb=>.tail _ (av _ hb)) λb hb=>.tail _ (ak _ (hXY b hb)))
 exact⟨k,H',as',e,t,ts,rfl,e',⟨S.len,S.stays,S.gens,S.os,λi a q=>let⟨h1,h2,o,h3,h4⟩:=S.objs i a q;⟨h1,λq=>h2 (sub a q),o,h3,OR.frames (λb _ _ hb q=>hb (sub b q)) h4⟩,S.inj,λb hb=>S.xs b (sub b hb)⟩,k'.less hY,ex,ht,λa ha=>⟨(ap a ha).1,(ap a ha).2.1,λq=>(ap a ha).2.2.1 (hXY a q),(ap a ha).2.2.2⟩,w⟩
theorem ExcS.keep{h h':HP}{e:Addr}{cls:Value}{t:Option Addr}(x:ExcS h e cls t)(k:∀b∈e::t.toList,∀o,h.get? b=some o->h'.get? b=some o):ExcS h' e cls t:=by
 induction x with
 |fresh he hc hd hsz h1 h2=>exact .fresh (k _ (.head _) _ he) hc hd hsz h1 h2
 |traced he hc hd hsz h1 h2 hTe hT hdT hts=>exact .traced (k _ (.head _) _ he) hc hd hsz h1 h2 hTe (k _ (.tail _ (.head _)) _ hT) hdT hts
theorem ERes.pass{α:Type}{c:Cx}{A:Around}{X:List Addr}{as:bA}{h:HP}{env:Env}{XX:XE}{x:Value}{s':Shared}{what:String}{Q:α->Shared->Prop}{E:Value->Shared->Prop}(r:ERes c as X h XX x s')(tr:AB x s'.heap)(q:∀s'',ERes c as X h XX x s''->AB x s''.heap->E x s''):wpAny c.M A (PySem.passOn what x env:Sem α) Q E s':=by
 unfold PySem.passOn
 refine kD (id tr) ?_
 intro e T cls q_4 ex
 subst q_4
 cases ex with
 |traced he hc hd hsz v1 v2 hTe hTT=>
  refine wpAny_bind (wpAny_field he hd v1 ?_)
  exact wpAny_bind (r.fly tr λs'' er tr'=>wpAny_throw (q s'' er tr'))
abbrev AX:List Value:=[.type "ValueError",.type "Exception",.type "BaseException",.type "object"]
noncomputable def qA:List Str:=["__init__","__getattribute__","__getattr__","__class__"]
inductive XTail(h:HP):List Value->Prop
 |base:XTail h AX
 |own {A:Addr} {c0:Value} {dd:Option Addr} {cd:ClassData} {sl:Array (Option Value)} {mA:Str->Option Value} {tl:List Value}:
   h.get? A=some {cls:=c0,dict:=dd,data:=.cls cd,slots:=sl}->h.Ns cd.ns mA->(∀n∈qA,mA n=none)->XTail h tl->XTail h (.ref A::tl)
theorem XTail.tail{h:HP}{tl:List Value}(T:XTail h tl):OwnTail h AX tl:=by
 induction T with
 |base=>exact .base
 |own hA hN hq _ ih=>exact .own hA hN (hq _ (.head _)) ih
theorem XTail.keeps{h h':HP}{tl:List Value}(T:XTail h tl)(hk:h.StaysIn h'):XTail h' tl:=by
 induction T with
 |base=>exact .base
 |own hA hN hq _ ih=>exact .own (hk _ _ hA) (hN.keeps hk) hq ih
inductive XC(h:HP)(C:Addr)(bm:List Value):Prop
 |mk {nm q:Str} {N:Addr} {bs:List Value} {hdct:Bool} {sn:List Str} {sub:List Value} {ab:Bool} {col:Option Bool} {dd:Option Addr} {k0 k1 k2 k3 k5:Option Value} {mN:Str->Option Value}:
   h.get? C=some (excClassObj nm q C N bs bm hdct sn sub ab col dd k0 k1 k2 k3 k5 "ValueError.__new__")->h.Ns N mN->(∀n∈qA,mN n=none)->XTail h bm->XC h C bm
theorem XC.keeps{h h':HP}{C:Addr}{bm:List Value}(x:XC h C bm)(hk:h.StaysIn h'):XC h' C bm:=by
 obtain⟨hC,hN,hq,T⟩:=x
 exact⟨hk _ _ hC,hN.keeps hk,hq,T.keeps hk⟩
theorem XTail.has{h:HP}{tl:List Value}{v:Value}(T:XTail h tl)(hv:AX.contains v=true):tl.contains v=true:=by
 induction T with
 |base=>exact hv
 |own _ _ _ _ ih=>simp only [gW,ih,qP]
section
variable {M:Model}{A:Around}{E:Value->Shared->Prop}{h:HP}{g:Array GenState}{d:Drawn}{t:Nat}{os:OsState}
theorem XC.base{C:Addr}{bm:List Value}(x:XC h C bm){v:Value}(hv:AX.contains v=true):(Value.ref C::bm).contains v=true:=by
 obtain⟨hC,hN,hmN,T⟩:=x
 simp only [gW,T.has hv,qP]
theorem XC.obj{C:Addr}{bm:List Value}(x:XC h C bm):∃o,h.get? C=some o/\o.cls=.type "type"/\∃cd,o.data=.cls cd:=by
 obtain⟨hC,hN,hmN,T⟩:=x
 exact⟨_,hC,rfl,_,rfl⟩
theorem Bq{e C D:Addr}{bm bm':List Value}{oe:Obj}{Q:Bool->Shared->Prop}(x:XC h C bm)(y:XC h D bm')(he:h.get? e=some oe)(hcls:oe.cls=.ref C)(hs:(Value.ref C::bm).contains (.ref D)=true)(hq:Q true ⟨h,g,d,t,os⟩) :
  wpAny M A (excMatches (.ref e) (.ref D)) Q E ⟨h,g,d,t,os⟩:=by
 haveI hcB:=y.base (v:=.type "BaseException") (by decide)
 obtain⟨hC,hN,hmN,T⟩:=x
 obtain⟨hD,hN',hmN',T'⟩:=y
 haveI f:=tc_notTuple
 unfold excMatches
 repeat (first|(with_reducible refine wpAny_loadPart_at he ?_;rw [hcls])|with_reducible refine wpAny_loadPart_at hD ?_|(with_reducible refine wpAny_isSubtype_exc hD ?_;rw [hcB])|(with_reducible refine wpAny_isSubtype_exc hC ?_;rw [hs])|wp_step)
 exact hq
end
section
variable {prog:Program}{w:World}{A:Around}{E:Value->Shared->Prop}{h:HP}{g:Array GenState}{d:Drawn}{t:Nat}{os:OsState}{a C D:Addr}{o:Obj}{bm bm':List Value}
end
section
variable {prog:Program}{w:World}{A:Around}{E:Value->Shared->Prop}{s:Shared}{a C D:Addr}{o:Obj}{bm bm':List Value}{Q:Value->Shared->Prop}
end
section
variable {c:Cx}{A:Around}{E:Value->Shared->Prop}{s:Shared}{as:bA}{X:List Addr}{H H':AH}{Q:QE}
theorem VRs.len_arr{vs:List V}{items:Array Value}{h:HP}(r:VRs c as X h vs items.toList):items.size=vs.length:=by
 haveI:=r.length
 simp only [bE]at this
 exact this.symm
inductive FreshL(c:Cx)(as:bA)(X:List Addr)(s:Shared)(vs:List V)(x:Value)(s':Shared):Prop
 |mk (a:Addr) (items:Array Value):x=.ref a->s.heap.get? a=none->c.base.get? a=none->Grown s.heap s'.heap->s'.gens=s.gens->s'.os=s.os->s'.heap.PlainList a items->VRs c as X s.heap vs items.toList->vs.length<=jR->FreshL c as X s vs x s'
theorem SR.not_as(S:SR c as X H s){a:Addr}(hn:s.heap.get? a=none):a∉as:=λq=>by
 obtain⟨i,hi⟩:=cn q
 refine ea0_3 (S.objs i _ hi) ?_
 intro _ _ r_3
 refine ea1_2 r_3 ?_
 intro o _ ho
 obtain⟨ob,e⟩:=OR.here ho
 replace e:=(hn).symm.trans e;exact eY e
theorem SR.not_x(S:SR c as X H s){a:Addr}(hn:s.heap.get? a=none):a∉X:=λq=>by
 refine dw (S.xs _ q) λo e=>?_
 replace e:=(hn).symm.trans e;exact eY e
theorem SR.base_none(S:SR c as X H s){a:Addr}(hn:s.heap.get? a=none):c.base.get? a=none:=by
 cases h:c.base.get? a with
 |none=>rfl
 |some o=>replace hn:=(S.stays a o h).symm.trans hn;cases hn
theorem db(h:HP):h.get? h.objs.size=none:=by
 cases e:h.get? h.objs.size with
 |none=>rfl
 |some o=>exact absurd (fh e) (cm _)
theorem FreshL.frozen{vs:List V}{x:Value}{s':Shared}(S:SR c as X H s)(f:FreshL c as X s vs x s')(q:Q (.lst vs) H):Res c as X s.heap Q x s':=by
 obtain⟨a,items,rfl,hn,hb,g,hg,hos,⟨n,hp⟩,r,hl⟩:=f
 exact Res.grow S g hg hos (.lst (S.not_as hn) (S.not_x hn) ⟨n,hp⟩ (r.grow g) hl) q
theorem lh(as:bA)(h:HP)(a:Addr)(hn:h.get? a=none):Ext as h (as++[a]):=
 ⟨λ_ _ e=>dt e,cq (λ_ q=>.inl q) (dk (.inr hn))⟩
theorem OR.keepE{as':bA}{h h':HP}{a:Addr}{o:O}(k:VK as X h h')(x:Ext as h as')(hnd:∀(i:Nat) (b:Addr),as[i]? =some b->as'[i]? =some b)
  (ha:∀ob,h.get? a=some ob->h'.get? a=some ob):OR c as X h a o->OR c as' X h' a o:=by
 intro z
 cases o with
 |list vs=>obtain⟨hb,items,⟨n,e⟩,r⟩:=z;exact⟨hb,items,⟨n,ha _ e⟩,r.keepX k x⟩
 |dict ks vs=>obtain⟨hb,hsm,cs,hd,hl,r⟩:=z;exact⟨hb,hsm,cs,DictOf.same hd ha,hl,r.keepX k x⟩
 |inst k d=>obtain⟨dx,ob,e1,e2,r1,r2,r3⟩:=z;exact⟨dx,ob,hnd _ _ e1,ha _ e2,r1,r2,r3⟩
 |ns ks vs=>obtain⟨hb,cs,mA,hn,hl,r,hm⟩:=z;exact⟨hb,cs,mA,hn.at ha,hl,r.keepX k x,hm⟩
theorem SR.alloc{s':Shared}{a:Addr}{o:O}(S:SR c as X H s)(hn:s.heap.get? a=none)(g:Grown s.heap s'.heap)(hg:s'.gens=s.gens)(hos:s'.os=s.os)(ho:OR c (as++[a]) X s'.heap a o) :
  SR c (as++[a]) X (H++[o]) s' where
 len:=by simp only [af,af,S.len];rfl
 stays:=λb o e=>g b o (S.stays b o e)
 gens:=hg.trans S.gens
 os:=hos.trans S.os
 objs:=λi b hi=>(gQ hi).elim (λhi=>ea0_3 (S.objs i b hi) λh1 h2 r=>ea1_2 r λo' h3 h4=>⟨h1,h2,o',dt h3,h4.keepE (g.kept as X).x (lh as _ a hn) (λ_ _ e=>dt e) λob e=>g b ob e⟩) λq=>by
  obtain⟨rfl,rfl⟩:=q
  exact⟨S.base_none hn,S.not_x hn,o,by rw [S.len];exact di,ho⟩
 inj:=λi j b hi hj=>(gQ hi).elim (λh1=>(gQ hj).elim (S.inj i j b h1) λh2=>absurd (h2.2▸aM h1) (S.not_as hn)) λh1=>(gQ hj).elim (λh2=>absurd (h1.2▸aM h2) (S.not_as hn)) λh2=>h1.1.trans h2.1.symm
 xs:=λb hb=>(S.xs b hb).imp λo e=>g b o e
theorem FreshL.thawed{vs:List V}{x:Value}{s':Shared}(S:SR c as X H s)(f:FreshL c as X s vs x s')(q:Q (.ref H.length) (H++[.list vs])):Res c as X s.heap Q x s':=by
 obtain⟨a,items,rfl,hn,hb,g,hg,hos,hp,r,hl⟩:=f
 haveI E:=lh as s.heap a hn
 refine⟨.ref H.length,_,as++[a],E,S.alloc (o:=.list vs) hn g hg hos ⟨hl,items,hp,r.keep (g.kept as X) E⟩,g.kept as X,.ref ?_,q⟩
 rw [<-S.len];simp
theorem lP{mu:Bool}{p:Prim}{us ws:List V}{t:Sem Value}(S:SR c as X H s)(hp:prim c.P p us H=some (.lst ws,H))(hw:∀R:Value->Shared->Prop,(∀x s',FreshL c as X s ws x s'->R x s')->wpAny c.M A t R E s)
  (q:g7 (aY c.P mu p us H) Q):wpAny c.M A t (Res c as X s.heap Q) E s:=by
 cases mu with
 |false=>
  simp only [aY,hp,g7,jB,if_false]at q
  exact hw _ λx s' f=>f.frozen S q
 |true=>
  unfold aY at q
  simp only [if_true]at q
  split at q
  ·simp only [hp,kX,kT,g7]at q
   exact hw _ λx s' f=>f.thawed S q
  ·exact q.elim
theorem By{v:V}{n:Nat}(e:JV H v=some n):(∃s,v=.str s/\n=s.length)\/(∃vs,v=.tup vs/\n=vs.length)\/(∃vs,dJ H v=some vs/\n=vs.length)\/∃d,iY H v=some d/\n=d.1.length:=by
 refine Is.of (R:=λn=>(∃s,v=.str s/\n=s.length)\/(∃vs,v=.tup vs/\n=vs.length)\/(∃vs,dJ H v=some vs/\n=vs.length)\/∃d,iY H v=some d/\n=d.1.length) ?_ e
 have h:∀{o:Option (List V)},o=dJ H v->Is (Cm ((iY H v).map λd=>d.1.length) o) λn=>(∃s,v=.str s/\n=s.length)\/(∃vs,v=.tup vs/\n=vs.length)\/(∃vs,dJ H v=some vs/\n=vs.length)\/∃d,iY H v=some d/\n=d.1.length:=λ{o} e=>by
  cases o with
  |some vs=>exact .inr (.inr (.inl ⟨vs,e.symm,rfl⟩))
  |none=>exact Is.self.map λd h1=>.inr (.inr (.inr ⟨d,h1,rfl⟩))
 cases v with
 |str s=>exact .inl ⟨s,rfl,rfl⟩
 |tup vs=>exact .inr (.inl ⟨vs,rfl,rfl⟩)
 |_=>exact h rfl
theorem kK{n:Nat}(h:n<=jR):(n:Int)<2 ^ 63:=CQ (oG (ca.mpr h) qd) (by decide)
theorem pX{n:Nat}(h:n<=az):n<=jR:=aa h (aa (aq _ 5) dZ)
theorem It{v r:V}{cv:Value}(S:SR c as X H s)(hv:VR c as X s.heap v cv)(e:Hq [v] H=some (r,H'))(q:Q r H'):wpAny c.M A (call (.builtin "len") [cv]) (Res c as X s.heap Q) E s:=by
 refine ea1_2 (dF e) ?_
 intro n e1 e2
 cases e2
 haveI F:=λt tk=>Res.now (tk:=tk) S (VR.int n t) q
 rcases By e1 with ⟨s,rfl,rfl⟩|⟨vs,rfl,rfl⟩|⟨vs,hvs,rfl⟩|⟨d,hd,rfl⟩
 ·cases hv.inv with
  |str _ hs=>
   refine len_str ?_ ?_
   ·rw [eZ];exact ga.mpr (kK hs)
   ·rw [eZ];exact F _ _
 ·cases hv.inv with
  |tup h1 h2 h3 r hs=>
   have hl:=r.len_arr
   refine P.len_tuple h3 ?_ ?_
   ·exact (hl)▸ga.mpr (kK hs)
   ·exact (hl)▸F _ _
 ·replace S:=eP S hv hvs
  obtain⟨a,items,rfl,hp,r,hs⟩:=S
  have hl:=r.len_arr
  refine call_len_list hp.isList ?_ ?_
  ·exact (hl)▸kK hs
  ·exact (hl)▸F _ _
 ·replace S:=lL S hv hd
  obtain⟨a,cs,rfl,hsm,hp,hl,r,hs⟩:=S
  haveI hlz:((d.1.map toS).zip cs).length=d.1.length:=by simp only [uh,ah,<-hl,qQ]
  refine call_len_dict (knd:=c.kd) hsm hp ?_ ?_
  ·simp only [hlz,hl,<-r.length];exact kK hs
  ·rw [hlz];exact F _ _
noncomputable def ix:Ty->String
 |.int=>"int"|.bool=>"bool"|.str=>"str"|.list=>"list"|.tuple=>"tuple"
theorem AQ{t:Ty}{R:Value->Shared->Prop}{i:Int}{u:Tok}(F:∀tk,R (.bool (t==.int)) {s with toks:=tk}):wpAny c.M A (call (.builtin "isinstance") [.int i u,.type (ix t)]) R E s:=by
 cases t<;>first|exact IsiPair.int_int (F _)|exact IsiPair.int_bool (F _)|exact IsiPair.int_str (F _)|exact IsiPair.int_list (F _)|exact IsiPair.int_tuple (F _)
theorem zS{t:Ty}{R:Value->Shared->Prop}{b:Bool}(F:∀tk,R (.bool (t==.int||t==.bool)) {s with toks:=tk}):wpAny c.M A (call (.builtin "isinstance") [.bool b,.type (ix t)]) R E s:=by
 cases t<;>first|exact IsiPair.bool_int (F _)|exact IsiPair.bool_bool (F _)|exact IsiPair.bool_str (F _)|exact IsiPair.bool_list (F _)|exact IsiPair.bool_tuple (F _)
theorem Bf{t:Ty}{R:Value->Shared->Prop}{x:Str}{u:Tok}(F:∀tk,R (.bool (t==.str)) {s with toks:=tk}):wpAny c.M A (call (.builtin "isinstance") [.str x u,.type (ix t)]) R E s:=by
 cases t<;>first|exact IsiPair.str_int (F _)|exact IsiPair.str_bool (F _)|exact IsiPair.str_str (F _)|exact IsiPair.str_list (F _)|exact IsiPair.str_tuple (F _)
theorem wz{t:Ty}{R:Value->Shared->Prop}{a:Addr}{its:Array Value}{n:Nat}(ho:s.heap.get? a=some {cls:=.type "tuple",data:=.seq its n})(F:∀tk,R (.bool (t==.tuple)) {s with toks:=tk}):wpAny c.M A (call (.builtin "isinstance") [.ref a,.type (ix t)]) R E s:=by
 cases t<;>first|exact IsiPair.tuple_int ho rfl (F _)|exact IsiPair.tuple_bool ho rfl (F _)|exact IsiPair.tuple_str ho rfl (F _)|exact IsiPair.tuple_list ho rfl (F _)|exact IsiPair.tuple_tuple ho rfl (F _)
theorem rM{t:Ty}{R:Value->Shared->Prop}{a:Addr}{its:Array Value}{n:Nat}(ho:s.heap.get? a=some {cls:=.type "list",data:=.seq its n})(F:∀tk,R (.bool (t==.list)) {s with toks:=tk}):wpAny c.M A (call (.builtin "isinstance") [.ref a,.type (ix t)]) R E s:=by
 cases t<;>first|exact IsiPair.list_int ho rfl (F _)|exact IsiPair.list_bool ho rfl (F _)|exact IsiPair.list_str ho rfl (F _)|exact IsiPair.list_list ho rfl (F _)|exact IsiPair.list_tuple ho rfl (F _)
theorem pV{t:Ty}{R:Value->Shared->Prop}(F:∀tk,R (.bool false) {s with toks:=tk}):wpAny c.M A (call (.builtin "isinstance") [.none,.type (ix t)]) R E s:=by
 cases t<;>first|exact IsiPair.NoneType_int (F _)|exact IsiPair.NoneType_bool (F _)|exact IsiPair.NoneType_str (F _)|exact IsiPair.NoneType_list (F _)|exact IsiPair.NoneType_tuple (F _)
theorem sg{t:Ty}{R:Value->Shared->Prop}{a:Addr}{o:Obj}(ho:s.heap.get? a=some o)(hx:o.cls=.type "dict")(F:∀tk,R (.bool false) {s with toks:=tk}):wpAny c.M A (call (.builtin "isinstance") [.ref a,.type (ix t)]) R E s:=by
 cases t<;>first|exact IsiPair.dict_int ho hx (F _)|exact IsiPair.dict_bool ho hx (F _)|exact IsiPair.dict_str ho hx (F _)|exact IsiPair.dict_list ho hx (F _)|exact IsiPair.dict_tuple ho hx (F _)
inductive RefAt(c:Cx)(as:bA)(X:List Addr)(h:HP)(i:Nat)(o:O):Value->Prop
 |mk (a:Addr):as[i]? =some a->OR c as X h a o->RefAt c as X h i o (.ref a)
theorem iR{i:Nat}{x:Value}{o:O}(S:SR c as X H s)(hv:VR c as X s.heap (.ref i) x)(ho:H[i]? =some o):RefAt c as X s.heap i o x:=by
 cases hv.inv with
 |ref hi=>exact ea1_2 (S.objs _ _ hi).2.2 λo' h3 h4=>.mk _ hi (ai (h3.symm.trans ho)▸h4)
theorem yW{v:V}{t:Ty}{cv:Value}{R:Value->Shared->Prop}(S:SR c as X H s)(hv:VR c as X s.heap v cv):Is (isinst H v t) λb=>(∀tk,R (.bool b) {s with toks:=tk})->wpAny c.M A (call (.builtin "isinstance") [cv,.type (ix t)]) R E s:=by
 cases v with
 |int i=>cases hv.inv;exact AQ
 |bool i=>cases hv.inv;exact zS
 |str i=>cases hv.inv;exact Bf
 |none=>cases hv.inv;exact pV
 |tup vs=>cases hv.inv with|tup _ _ ho _ _=>exact wz ho
 |lst vs=>cases hv.inv with|lst _ _ hp _ _=>exact λF=>hp.elim λn ho=>rM ho F
 |dct ks vs=>cases hv.inv with|dct _ _ _ hp _ _ _=>exact λF=>i6 hp λo es ep ho hx _=>sg ho hx.1 F
 |ref i=>
  refine Is.self.bind λo ho=>?_
  cases iR S hv ho with
  |mk a hi hr=>
   cases o with
   |list vs=>exact λF=>hr.2.elim λitems q=>q.1.elim λn hg=>rM hg F
   |dict ks vs=>exact λF=>hr.2.2.elim λcs q=>i6 q.1 λo es ep ho hx _=>sg ho hx.1 F
   |_=>exact trivial
 |rng=>exact trivial
theorem zP{v r:V}{t:Ty}{cv:Value}(S:SR c as X H s)(hv:VR c as X s.heap v cv)(e:vd t [v] H=some (r,H'))(q:Q r H') :
  wpAny c.M A (call (.builtin "isinstance") [cv,.type (ix t)]) (Res c as X s.heap Q) E s:=
 ea1_2 (dF e) λb e1 e2=>(yW S hv).of e1 λtk=>by
  refine bc λk_=>?_
  obtain⟨rfl,rfl⟩:=Prod.mk.inj e2
  refine k_ ?_
  exact Res.now (tk:=tk) S (VR.bool b) q
theorem Aj{v r:V}{cv:Value}(S:SR c as X H s)(hv:VR c as X s.heap v cv)(e:uQ [v] H=some (r,H'))(q:Q r H'):wpAny c.M A (call (.type "range") [cv]) (Res c as X s.heap Q) E s:=by
 replace e:=bY e
 refine bc λk_=>?_
 refine ea1_2 e ?_
 try clear e
 intro b h1 e
 replace h1:=V.num_is h1
 subst h1
 replace e:=c5 e
 obtain⟨hsm,e⟩:=e
 cases e
 refine k_ ?_
 cases hv.inv
 refine call_range_1 ?_
 exact Res.grow (s':={s with heap:=_,toks:=_}) S (.push _ _) rfl rfl (.rng (gG S) (jk S) (IsRange.new ..) (by decide) hsm) q
theorem xw{v w r:V}{cv cw:Value}(S:SR c as X H s)(hv:VR c as X s.heap v cv)(hw:VR c as X s.heap w cw)(e:vI [v,w] H=some (r,H'))(q:Q r H'):wpAny c.M A (call (.type "range") [cv,cw]) (Res c as X s.heap Q) E s:=by
 replace e:=bY e
 refine bc λk_=>?_
 refine ea1_2 e ?_
 try clear e
 intro a h1 e
 replace e:=bY e
 refine ea1_2 e ?_
 try clear e
 intro b h2 e
 try clear b;try clear a
 replace h1:=V.num_is h1
 subst h1
 try clear h1
 replace h2:=V.num_is h2
 subst h2
 replace e:=c5 e
 obtain⟨hsm,e⟩:=e
 haveI hsm:=ay.mp hsm
 try clear h2
 cases e
 try clear e
 refine k_ ?_
 cases hv.inv
 try clear hv
 cases hw.inv
 refine call_range_2 ?_
 exact Res.grow (s':={s with heap:=_,toks:=_}) S (.push _ _) rfl rfl (.rng (gG S) (jk S) (IsRange.new ..) hsm.1 hsm.2) q
theorem jp(a b:Int):AG a b 1=((b-a).toNat:Nat):=by
 unfold AG
 rw [if_pos (by decide:(1:Int)>0)]
 by_cases h:a<b
 ·rw [if_pos h,Int.ediv_one,Int.sub_add_cancel,bO (GQ (fc h))]
 ·rw [if_neg h,Int.toNat_of_nonpos (Int.sub_nonpos_of_le (dB.mp h))];rfl
theorem wo{h:HP}{acc:Array Value}{a:Int}{n:Nat}(hi:ItemsOf (λi v=>∃t,v=Value.int (a+i*1) t) acc n):VRs c as X h ((aV n).map λ(i:Nat)=>V.int (a+i)) acc.toList:=by
 refine cO (hi) λh1 h2=>?_
 subst h1
 haveI key:∀(l:List Value) (k:Nat),(∀j v,l[j]? =some v->∃t,v=Value.int (a+((k+j:Nat):Int)) t)->VRs c as X h ((GR k l.length).map λ(i:Nat)=>V.int (a+i)) l:=by
  intro l
  induction l with
  |nil=>intro k _;exact .nil
  |cons x l ih=>
   intro k hx
   obtain⟨t,e⟩:=hx 0 x rfl
   subst e
   refine .cons (by exact VR.int _ _) (ih (k+1) λj v hv=>?_)
   obtain⟨t,e⟩:=hx (j+1) v (by exact hv)
   exact⟨t,by rw [e];congr 2;exact by simp+arith only⟩
 haveI:=key acc.toList 0 λj v hv=>by
  obtain⟨t,e⟩:=h2 j v (by simpa using hv)
  exact⟨t,by rw [e];simp⟩
 rw [GS]
 simpa using this
theorem mG{a b:Int}(ha:cC a=true)(hb:cC b=true):Ha a b 1=true:=by
 simp only [cC,decide_eq_true_eq]at ha hb
 haveI f:∀i:Int,-10 ^ 14<=i->i<=10 ^ 14->vP i=true:=λi h1 h2=>by
  simp only [vP,cV,decide_eq_true_eq];exact⟨bu (by decide) h1,oG h2 (by decide)⟩
 haveI hs:=jp a b
 unfold Ha
 have b1:=bu (by decide:(-10 ^ 14:Int)<=_) hb.1
 have b2:=bu hb.2 (by decide:(_:Int)<=10 ^ 14)
 rw [f a (bu (by decide) ha.1) (bu ha.2 (by decide)),f b b1 b2,f 1 (by decide) (by decide),f _ (hs▸bu (by decide) (bv _)) (hs▸bu (ca.mpr (qO.mpr (bu (Int.sub_le_sub hb.2 ha.1) (by decide:_<=((10 ^ 14:Nat):Int))))) (by decide))]
 simp only [show(1:Int)>0 from by decide,if_true,f (b+(1-1)) ((CR b).symm▸b1) ((CR b).symm▸b2),qP,kt]
theorem mM(a b:Int):(iL a b).length=(b-a).toNat:=by simp [iL]
theorem i7{h':HP}{tk n:Nat}{items:Array Value}{vs:List V}(S:SR c as X H s)(g:Grown s.heap h')(ho:h'.get? s.heap.objs.size=some {cls:=.type "list",data:=.seq items n})(hv:VRs c as X s.heap vs items.toList)(hb:vs.length<=jR) :
  FreshL c as X s vs (.ref s.heap.objs.size) {s with heap:=h',toks:=tk}:=
 ⟨_,items,rfl,db _,S.base_none (db _),g,rfl,rfl,⟨n,ho⟩,hv,hb⟩
theorem Ap{v:V}{ws:List V}(e:DB H v=some (.lst ws)):(∃a b,v=.rng a b/\(b-a).toNat<=az/\ws=iL a b)\/(v=.tup ws/\ws.length<=az)\/dJ H v=some ws/\ws.length<=az:=by
 have h:((dJ H v).bind λvs=>if vs.length<=az then some (V.lst vs)else none)=some (.lst ws)->dJ H v=some ws/\ws.length<=az:=λe=>by
  replace e:=bY e
  refine ea1_2 e ?_
  intro vs h1 e
  cases(c5 e).2
  exact⟨h1,(c5 e).1⟩
 cases v with
 |rng a b=>cases(c5 e).2;exact .inl ⟨a,b,rfl,(c5 e).1,rfl⟩
 |tup vs=>cases(c5 e).2;exact .inr (.inl ⟨rfl,(c5 e).1⟩)
 |_=>exact .inr (.inr (h e))
theorem Ge{v:V}{ws:List V}{cv:Value}{R:Value->Shared->Prop}(hh:A.handled=none)(S:SR c as X H s)(hv:VR c as X s.heap v cv)(e:xK [v] H=some (.lst ws,H'))(hR:∀x s',FreshL c as X s ws x s'->R x s') :
  wpAny c.M A (call (.type "list") [cv]) R E s:=by
 haveI hz:=dZ
 have hz2:=cB
 refine ea1_2 (dF e) ?_
 intro r e1 e2
 cases e2
 rcases Ap e1 with ⟨a,b,rfl,hb,rfl⟩|⟨rfl,hb⟩|⟨hvs,hb⟩
 ·cases hv.inv with
  |rng h1 h2 h3 h4 h5=>
   refine call_list_range hh h3 ?_ (jp a b) ?_ λh' tk acc c' g ho hi=>?_
   ·exact mG h4 h5
   ·exact aa hb (by decide)
   ·exact hR _ _ (i7 S g ho (wo hi) (by rw [mM];exact pX hb))
 ·cases hv.inv with
  |tup h1 h2 h3 r hs=>
   refine call_list_seq _ (.inr rfl) h3 rfl rfl (λh' c' g ho=>?_) (by rw [(r.len_arr)];exact aa hb hz2)
   exact hR _ _ (i7 (tk:=s.toks) S g ho r hs)
 ·replace hv:=eP S hv hvs
  obtain⟨a,items,rfl,⟨n,hp⟩,r,hs⟩:=hv
  refine call_list_seq _ (.inl rfl) hp rfl rfl (λh' c' g ho=>?_) (by rw [(r.len_arr)];exact aa hb hz2)
  exact hR _ _ (i7 (tk:=s.toks) S g ho r hs)
theorem Fg{r:V}{cv:Value}{b:Bool}(S:SR c as X H s)(hv:VR c as X s.heap (.bool b) cv)(e:EH [.bool b] H=some (r,H'))(q:Q r H'):wpAny c.M A (call (.type "int") [cv]) (Res c as X s.heap Q) E s:=by
 ((refine cO (oC e) λe_0 e_1=>?_;subst e_0;subst e_1);clear e)
 cases hv.inv
 exact call_int_bool (Res.now S (.int _ _) q)
theorem nW:∀{vs:List V} {bs:List Bool},mm vs=some bs->vs=bs.map V.bool
 |[],bs,h=>by(replace h:=ai h;subst h);rfl
 |v::vs,bs,h=>by
  cases v with
  |bool b=>
   refine ea1_2 (bq.mp h) ?_
   intro r h1 q_3
   subst q_3
   rw [nW h1];rfl
  |_=>exact eY h
theorem JR{v r:V}{cv:Value}(hh:A.handled=none)(S:SR c as X H s)(hv:VR c as X s.heap v cv)(e:HT [v] H=some (r,H'))(q:Q r H'):wpAny c.M A (call (.builtin "all") [cv]) (Res c as X s.heap Q) E s:=by
 refine bc λk_=>?_
 refine ea1_2 (bq.mp e) ?_
 intro bs h1 h2
 cases h2
 refine ea1_2 (cj.mp h1) ?_
 intro vs h3 h4
 replace hv:=eP S hv h3
 obtain⟨a,items,rfl,hp,r,hs⟩:=hv
 haveI hvs:=nW h4
 subst hvs
 refine k_ ?_
 haveI hl:=r.len_arr
 simp only [ah]at hl
 haveI hin:some a≠some s.heap.objs.size:=λq=>by
  obtain⟨n,e⟩:=hp
  (replace q:=ai q;subst q)
  exact absurd (fh e) (cm _)
 refine call_all_walk (wpAny_pyIter_list hp.isList ?_)
 refine⟨_,_,_,_,_,_,λi=>(bs[i]?).getD true,rfl,Walks.list (A:=A.in1) hh s.heap.objs.size a (λq=>hin (congrArg some q)) items,⟨⟨_,be _ rfl,rfl,rfl⟩,let⟨o,e,r⟩:=hp.isList;⟨o,bQ _ e,r⟩⟩,?_,λh' tk hk=>?_⟩
 ·intro i v s' Q' E' hi hq
  rw [<-b9]at hi
  refine ea1_2 (r.get' hi) ?_
  intro w hw hvw
  rw [aO,bq]at hw
  refine ea1_2 hw ?_
  intro b hb q_3
  subst q_3
  cases hvw.inv
  dsimp only at hq
  replace hq:=(hb)▸hq
  exact wpAny_truthy_bool hq
 ·haveI g:Grown s.heap h':=λb o e=>hk b o (λq=>by replace q:=in1 q;subst q;exact absurd (fh e) (cm _)) (bQ _ e)
  have hr:(aV items.size).all (λi=>(bs[i]?).getD true)=bs.all id:=by
   rw [hl,cg,bL,bL]
   constructor
   ·intro z b hb
    refine dw (cn hb) λi hi=>?_
    haveI:=z i (bx.mpr (ae.mp hi).1)
    rw [hi]at this
    exact this
   ·intro z i _
    refine fA (o:=bs[i]?) (λhi=>?_) (λb hi=>?_)
    ·rw [hi];rfl
    ·exact (hi)▸z b (aM hi)
  rw [hr]
  exact Res.grow (s':={s with heap:=h',toks:=tk}) S g rfl rfl (.bool _) q
theorem Ey{a b:Int}{t u:Tok}{h:HP}:VR c as X h (.int (min a b)) (if b<a then .int b u else .int a t):=by
 by_cases h:b<a
 ·rw [if_pos h,L2 (fc h)];exact .int _ _
 ·rw [if_neg h,ui (dB.mp h)];exact .int _ _
theorem HE{v w r:V}{cv cw:Value}(hh:A.handled=none)(S:SR c as X H s)(hv:VR c as X s.heap v cv)(hw:VR c as X s.heap w cw)(e:IW [v,w] H=some (r,H'))(q:Q r H'):wpAny c.M A (call (.builtin "min") [cv,cw]) (Res c as X s.heap Q) E s:=by
 replace e:=bY e
 refine bc λk_=>?_
 refine ea1_2 e ?_
 try clear e
 intro a h1 e
 replace e:=dF e
 refine ea1_2 e ?_
 try clear e
 intro b h2 e
 try clear b;try clear a
 replace h1:=V.num_is h1
 subst h1
 try clear h1
 replace h2:=V.num_is h2
 subst h2
 try clear h2
 replace e:=e;cases hv.inv;cases hw.inv
 cases e
 refine k_ ?_
 refine min_two_ints hh λh' tk g=>?_
 refine Res.grow (s':={s with heap:=h',toks:=tk}) S g rfl rfl ?_ q
 exact Ey
theorem qe{n:Nat}{i:Int}{j:Nat}(h:tb n i=some j):seqIndex? i n=some j/\j<n/\(0<=i->(i:Int)=j)/\(i<0->i+n=j):=by
 by_cases h0:0<=i
 ·have e:(if 0<=i then(if i<n then some i.toNat else none)else(if 0<=i+n then some (i+n).toNat else none))=some j:=h
  rw [if_pos h0]at e
  replace e:=c5 e
  obtain⟨h1,rfl⟩:=e
  exact⟨PySem.seqIndex_of h0 h1,(fF h0).mpr h1,λ_=>(bO h0).symm,λq=>absurd h0 (ga.mpr q)⟩
 ·have e:(if 0<=i then(if i<n then some i.toNat else none)else(if 0<=i+n then some (i+n).toNat else none))=some j:=h
  rw [if_neg h0]at e
  replace e:=c5 e
  obtain⟨h1,rfl⟩:=e
  exact⟨PySem.seqIndex_neg (by exact(ga.mp h0)) (by exact jz h1 (by simp+arith only)),(fF h1).mpr (jz (ga.mp h0) (by simp+arith only)),λq=>absurd q h0,λ_=>(bO h1).symm⟩
theorem G7{i:Int}{n j:Nat}(hb:n<=jR)(g2:j<n)(g3:0<=i->i=j)(g4:i<0->i+n=j):-2 ^ 63<=i/\i<2 ^ 63:=by
 have hn:(n:Int)<=2 ^ 40:=ca.mpr hb
 refine(Decidable.em (0<=i)).elim (λh=>?_) λh=>?_
 ·exact ⟨bu (by decide) h,(g3 h).symm▸Ka (cu.mpr g2) (bu hn (by decide))⟩
 ·have h:=ga.mp h
  exact⟨bu (by decide:(-2 ^ 63:Int)<=-2 ^ 40) (bu (Int.neg_le_neg hn) (jz ((g4 h).symm▸bv j:0<=i+(n:Int)) (by simp+arith only))),CQ h (by decide)⟩
theorem j0{slice:Expr}(h:∀a b p,slice≠.Slice a b none p)(o i:Value):subscripted slice false o i=operate [o,i] (getItem o i):=by
 cases slice with
 |Slice a b st p=>
  cases st with
  |none=>exact absurd rfl (h a b p)
  |some e=>rfl
 |_=>rfl
theorem FS{t:List Char}{i:Int}{r:V}{cv:Value}{u:Tok}{value slice:Expr}(hsl:∀a b p,slice≠.Slice a b none p)(S:SR c as X H s)(hv:VR c as X s.heap (.str t) cv)(e:y5 H (.str t) i=some r)(q:Q r H) :
  wpAny c.M A (subscriptTail value slice cv (.int i u)) (Res c as X s.heap Q) E s:=by
 haveI hb:=qd
 refine ea1_2 (cj.mp e) ?_
 intro j h1 h2
 replace h2:=bq.mp h2
 refine ea1_2 h2 ?_
 intro ch h3 q_3
 subst q_3
 cases hv.inv with
 |str t hs=>
  refine ux (qe h1) ?_
  intro g1 g2 g3 g4
  refine tail_any (typeIs_str _ _ _) slot_str_getitem.lookup (getItem_str ?_ (c:=ch.toNat) ?_ ?_) (j0 hsl _ _)
  ·exact GT.mpr ⟨decide_eq_false (dB.mpr (G7 hs g2 g3 g4).1),decide_eq_false (ga.mpr (G7 hs g2 g3 g4).2)⟩
  ·simp only [eZ,g1];simp [toS,h3]
  ·exact Res.now S (.str [ch] _ (by simp [jR])) q
theorem ET{vs:List V}{i:Int}{r:V}{cv:Value}{u:Tok}{value slice:Expr}(hsl:∀a b p,slice≠.Slice a b none p)(S:SR c as X H s)(hv:VR c as X s.heap (.tup vs) cv)(e:y5 H (.tup vs) i=some r)(q:Q r H) :
  wpAny c.M A (subscriptTail value slice cv (.int i u)) (Res c as X s.heap Q) E s:=by
 haveI hb:=qd
 refine ea1_2 (cj.mp e) ?_
 intro j h1 h3
 cases hv.inv with
 |tup k1 k2 k3 rr hs=>
  refine bc λk_=>?_
  refine ux (qe h1) ?_
  intro g1 g2 g3 g4
  refine ea1_2 (rr.get h3) ?_
  intro y e1 e2
  refine k_ ?_
  refine tail_any (T:="tuple") ⟨_,k3,rfl⟩ slot_tuple_getitem.lookup (P.getItem_tuple k3 (G7 hs g2 g3 g4).1 (G7 hs g2 g3 g4).2 (by exact(congrArg _ ((rr.len_arr))).trans (g1)) (by simpa using e1) ?_) (j0 hsl _ _)
  exact Res.now (tk:=s.toks) S e2 q
theorem Bi{v:V}{i:Int}{r:V}{cv:Value}{u:Tok}{value slice:Expr}(hsl:∀a b p,slice≠.Slice a b none p)(S:SR c as X H s)(hv:VR c as X s.heap v cv)(e:((dJ H v).bind λvs=>(tb vs.length i).bind λj=>vs[j]?)=some r)(q:Q r H) :
  wpAny c.M A (subscriptTail value slice cv (.int i u)) (Res c as X s.heap Q) E s:=by
 haveI hb:=qd
 replace e:=cj.mp e
 refine bc λk_=>?_
 refine ea1_2 e ?_
 intro vs hvs e
 refine ea1_2 (cj.mp e) ?_
 intro j h1 h3
 replace hv:=eP S hv hvs
 obtain⟨a,items,rfl,hp,rr,hs⟩:=hv
 refine ux (qe h1) ?_
 intro g1 g2 g3 g4
 refine ea1_2 (rr.get h3) ?_
 intro y e1 e2
 refine k_ ?_
 have hl:=rr.len_arr
 haveI fin:=Res.now (tk:=s.toks) S e2 q
 refine tail_any hp.isList.typeIs slot_list_getitem.lookup ?_ (j0 hsl _ _)
 by_cases h0:0<=i
 ·refine wpAny_getItem_list hp.isList h0 (G7 hs g2 g3 g4).2 ?_ fin
  rw [show i.toNat=j from congrArg sK (g3 h0)];simpa using e1
 ·have g:=g4 (ga.mp h0)
  refine wpAny_getItem_list_neg hp.isList (ga.mp h0) (hl.symm▸jz (g.symm▸bv j:0<=i+(vs.length:Int)) (by simp+arith only)) (G7 hs g2 g3 g4).1 ?_ fin
  rw [hl,show(i+vs.length).toNat=j from congrArg sK g];simpa using e1
theorem D0{v w r:V}{cv cw:Value}{value slice:Expr}(hsl:∀a b p,slice≠.Slice a b none p)(S:SR c as X H s)(hv:VR c as X s.heap v cv)(hw:VR c as X s.heap w cw)(e:CZ [v,w] H=some (r,H'))(q:Q r H') :
  wpAny c.M A (subscriptTail value slice cv cw) (Res c as X s.heap Q) E s:=by
 refine ea1_2 (bq.mp e) ?_
 intro z e1 h
 cases h
 clear e
 haveI e:=e1
 cases w with
 |int i=>
  cases hw.inv
  cases v with
  |str t=>exact FS hsl S hv e q
  |tup vs=>exact ET hsl S hv e q
  |_=>exact Bi hsl S hv e q
 |str k=>
  refine ea1_2 (cj.mp e) ?_
  intro d hd h3
  cases hw.inv
  replace hv:=lL S hv hd
  obtain⟨a,cs,rfl,hsm,hp,hl,rr,hs⟩:=hv
  have hz:∃y,valueAt ((d.1.map toS).zip cs) (toS k)=some y/\VR c as X s.heap r y:=by
   haveI hz:=jK k hl rr
   rw [h3]at hz
   exact hz
  refine ea1_2 hz ?_
  intro y e1 e2
  haveI hm:=hp.mapOf
  exact tail_any hm.typeIs slot_dict_getitem.lookup (wpAny_getItem_of (knd:=c.kd) (nR _ _) hm e1 (Res.now S e2 q)) (j0 hsl _ _)
 |_=>exact eY e
theorem xX{vs:List V}{cs:List Value}{ws:List V}{R:Value->Shared->Prop}(S:SR c as X H s)(hv:VRs c as X s.heap vs cs)(e:vO vs H=some (.lst ws,H'))(hR:∀x s',FreshL c as X s ws x s'->R x s'):wpAny c.M A (newList cs) R E s:=by
 replace e:=c5 e
 refine bc λk_=>?_
 obtain⟨hb,e⟩:=e
 cases e
 refine k_ ?_
 refine wpAny_newObj_type ?_ (by show cs.toArray.size<=sizeLine;rw [hV,<-hv.length];exact aa hb cB)
 exact hR _ _ (i7 (tk:=s.toks) S (.push _ _) (be _ rfl) hv (pX hb))
theorem A8{vs:List V}{cs:List Value}{r:V}(S:SR c as X H s)(hv:VRs c as X s.heap vs cs)(e:zl vs H=some (r,H'))(q:Q r H'):wpAny c.M A (newTuple cs) (Res c as X s.heap Q) E s:=by
 replace e:=c5 e
 refine bc λk_=>?_
 obtain⟨hb,e⟩:=e
 cases e
 refine k_ ?_
 refine wpAny_newObj_type ?_ (by show cs.toArray.size<=sizeLine;rw [hV,<-hv.length];exact aa hb cB)
 exact oL S hv (pX hb) q
theorem SR.kept1{i:Nat}{a:Addr}{h h':HP}(hi:as[i]? =some a)(hk:∀b o,h.get? b=some o->b≠a->h'.get? b=some o):Kept as X h h':=
 λb o e hb=>⟨o,hk b o e λq=>hb (q▸aM hi),.inl rfl⟩
theorem SR.upd{s':Shared}{i:Nat}{a:Addr}{o':O}(S:SR c as X H s)(hi:as[i]? =some a)(hk:∀b o,s.heap.get? b=some o->b≠a->s'.heap.get? b=some o)
  (hg:s'.gens=s.gens)(hos:s'.os=s.os)(ho:OR c as X s'.heap a o'):SR c as X (H.set i o') s' where
 len:=by simp only [aR];exact S.len
 stays:=λb o e=>hk b o (S.stays b o e) λq=>by
  have:=(S.objs i a hi).1
  simp only [q,this]at e;exact eY e
 gens:=hg.trans S.gens
 os:=hos.trans S.os
 objs:=λj b hj=>by
  refine ea0_3 (S.objs j b hj) ?_
  intro h1 h2 r_3
  refine ea1_2 r_3 ?_
  intro o h3 h4
  refine⟨h1,h2,?_⟩
  by_cases hij:i=j
  ·subst hij
   replace hj:=(hi).symm.trans hj;(replace hj:=ai hj;subst hj)
   have hl:i<H.length:=by rw [<-S.len];exact(ae.mp hi).1
   exact⟨o',by simp [hl],ho⟩
  ·haveI hba:b≠a:=λq=>hij (S.inj i j a hi (q▸hj))
   refine⟨o,by rw [bp hij];exact h3,h4.keepX (SR.kept1 (X:=X) hi hk).x λob e=>hk b ob e hba⟩
 inj:=S.inj
 xs:=λb hb=>by
  obtain⟨o,e⟩:=S.xs b hb
  exact⟨o,hk b o e λq=>(S.objs i a hi).2.1 (q▸hb)⟩
theorem lf{s':Shared}{i:Nat}{a:Addr}{o':O}{v:V}{x:Value}(S:SR c as X H s)(hi:as[i]? =some a)(hk:∀b o,s.heap.get? b=some o->b≠a->s'.heap.get? b=some o)
  (hg:s'.gens=s.gens)(hos:s'.os=s.os)(ho:OR c as X s'.heap a o')(hv:VR c as X s'.heap v x)(q:Q v (H.set i o')):Res c as X s.heap Q x s':=
 ⟨v,_,as,.refl ..,S.upd hi hk hg hos ho,SR.kept1 hi hk,hv,q⟩
theorem zU{v x r:V}{cv cx:Value}(S:SR c as X H s)(hv:VR c as X s.heap v cv)(hx:VR c as X s.heap x cx)(e:un [v,x] H=some (r,H'))(q:Q r H') :
  wpAny c.M A (call (.builtin "list.append") [cv,cx]) (Res c as X s.heap Q) E s:=by
 refine ea1_2 (bY e) ?_
 intro p_1 h0 e0
 (haveI i:=p_1.1;haveI vs:=p_1.2)
 refine bc λk_=>?_
 refine cO (c5 e0) λhz e1=>?_
 replace h0:=lc h0
 obtain⟨rfl,hvs⟩:=h0
 cases e1
 replace hv:=iR S hv hvs
 obtain⟨a,hi,hb,items,hp,rr⟩:=hv
 refine k_ ?_
 refine wpAny_list_append_plain hp (λh' hp' sb=>?_) (by simp only [rr.len_arr];haveI:=cB;exact fp hz (fp this (by simp+arith only)))
 have hk:∀b o,s.heap.get? b=some o->b≠a->h'.get? b=some o:=λb o e hb=>(sb.2 b hb).trans e
 haveI K:=SR.kept1 (X:=X) hi hk
 refine lf (s':={s with heap:=h'}) (o':=.list _) S hi hk rfl rfl ⟨?_,_,hp',?_⟩ .none q
 ·simp only [af,DE];haveI:=dZ;exact fp hz (fp this (by simp+arith only))
 ·rw [Kw]
  exact(rr.keep K (.refl ..)).append (.cons (hx.keep K (.refl ..)) .nil)
theorem wv{items:Array Value}:(items.eraseIdxIfInBounds (items.size-1)).toList=items.toList.dropLast:=by
 obtain⟨l⟩:=items
 cases l with
 |nil=>rfl
 |cons x l=>
  simp only [Av,hV]
  haveI:(x::l).length-1<(x::l).length:=by simp
  simp only [this,dif_pos]
  simp [mC,List.eraseIdx_eq_take_drop_succ]
theorem I0{v r:V}{cv:Value}(S:SR c as X H s)(hv:VR c as X s.heap v cv)(e:IM [v] H=some (r,H'))(q:Q r H') :
  wpAny c.M A (call (.builtin "list.pop") [cv]) (Res c as X s.heap Q) E s:=by
 refine ea1_2 (bY e) ?_
 intro p_1 h0 e0
 (haveI i:=p_1.1;haveI vs:=p_1.2)
 refine bc λk_=>?_
 obtain⟨hz,e1⟩:=eT e0
 refine ea1_2 (dF e1) ?_
 intro x h1 h2
 replace h0:=lc h0
 obtain⟨rfl,hvs⟩:=h0
 cases h2
 replace hv:=iR S hv hvs
 obtain⟨a,hi,hb,items,⟨n,hp⟩,rr⟩:=hv
 haveI hl:=rr.len_arr
 obtain⟨y,e1,e2⟩:=rr.get (List.getLast?_eq_getElem?.symm.trans h1)
 refine k_ ?_
 haveI hy:items[items.size-1]? =some y:=by rw [hl,<-b9];exact e1
 refine call_meets PySem.F.slot_list_pop ⟨_,hp,rfl⟩ PySem.F.entry_list_pop (PySem.F.args_list_pop_1 _) (PySem.MeetsSeq.list_pop_last a _ n y hy (by rw [hl];haveI:=cB;exact fp hz (fp this (by simp+arith only)))) ⟨hp,?_⟩
 have hk:∀b o,s.heap.get? b=some o->b≠a->(s.heap.update a (Obj.mapSeq λxs=>xs.eraseIdxIfInBounds (items.size-1))).get? b=some o:=λb o e hb=>(cr _ _ (Ne.symm hb)).trans e
 haveI K:=SR.kept1 (X:=X) hi hk
 refine lf (s':={s with heap:=s.heap.update a (Obj.mapSeq λxs=>xs.eraseIdxIfInBounds (items.size-1))}) (o':=.list _) S hi hk rfl rfl ⟨?_,_,⟨_,PySem.IsL.update hp λxs=>xs.eraseIdxIfInBounds (items.size-1)⟩,?_⟩ (e2.keep K (.refl ..)) q
 ·rw [List.length_dropLast];exact aa (eK _ _) hb
 ·simp only [wv,mC,mC,<-rr.length]
  exact(rr.keep K (.refl ..)).take _
end
section
variable {c:Cx}{A:Around}{E:Value->Shared->Prop}{s:Shared}{as:bA}{X:List Addr}{H H':AH}{Q:QE}
theorem FP{v w r:V}{cv cw:Value}(S:SR c as X H s)(hv:VR c as X s.heap v cv)(hw:VR c as X s.heap w cw)(e:CW [v,w] H=some (r,H'))(q:Q r H') :
  wpAny c.M A (call (.builtin "list.pop") [cv,cw]) (Res c as X s.heap Q) E s:=by
 refine ea1_2 (bY e) ?_
 intro p_1 h0 e0
 obtain⟨i,vs⟩:=p_1
 refine ea1_2 (bY e0) ?_
 intro n hn e1
 obtain⟨⟨rfl,hz⟩,e2⟩:=eT e1
 refine ea1_2 (dF e2) ?_
 intro x h1 h2
 replace h0:=lc h0
 obtain⟨rfl,hvs⟩:=h0
 replace hn:=V.num_is hn
 subst hn
 cases h2
 replace hv:=iR S hv hvs
 obtain⟨a,hi,hb,items,⟨k,hp⟩,rr⟩:=hv
 cases hw.inv with
 |int u=>
  cases vs with
  |nil=>exact eY h1
  |cons x' vs=>
   (replace h1:=ai h1;subst h1)
   have hl:=rr.len_arr
   refine ea1_2 (rr.get (j:=0) rfl) ?_
   intro y e1 e2
   have hy:items[0]? =some y:=by rw [<-b9];exact e1
   have hpos:0<items.size:=by simp only [hl];exact Nat.succ_pos _
   haveI hk0:seqIndex? (0:Int) items.size=some 0:=by
    unfold seqIndex?
    simp [hpos]
   refine call_meets PySem.F.slot_list_pop ⟨_,hp,rfl⟩ PySem.F.entry_list_pop (PySem.F.args_list_pop_2 _ _) (PySem.MeetsSeq.list_pop_at a _ k 0 u 0 y (by decide) hk0 hy (by haveI:=cB;exact fp hz (fp (ao hl) (fp this (by simp+arith only))))) ⟨hp,?_⟩
   haveI hk:∀b o,s.heap.get? b=some o->b≠a->(s.heap.update a (Obj.mapSeq λxs=>xs.eraseIdxIfInBounds 0)).get? b=some o:=λb o e hb=>(cr _ _ (Ne.symm hb)).trans e
   haveI K:=SR.kept1 (X:=X) hi hk
   refine lf (s':={s with heap:=s.heap.update a (Obj.mapSeq λxs=>xs.eraseIdxIfInBounds 0)}) (o':=.list _) S hi hk rfl rfl ⟨?_,_,⟨_,PySem.IsL.update hp λxs=>xs.eraseIdxIfInBounds 0⟩,?_⟩ (e2.keep K (.refl ..)) q
   ·exact Kx hb
   ·haveI ht:(items.eraseIdxIfInBounds 0).toList=items.toList.drop 1:=by
     simp only [Av,dif_pos hpos,Array.toList_eraseIdx,List.eraseIdx_zero,List.drop_one]
    simp only [ht]
    exact(rr.keep K (.refl ..)).drop 1
theorem yN{v:V}{p:Nat×(List (List Char)×List V)}(h:z8 H v=some p):v=.ref p.1/\H[p.1]? =some (.dict p.2.1 p.2.2):=
 Is.of (o:=z8 H v) (R:=λp=>v=.ref p.1/\H[p.1]? =some (.dict p.2.1 p.2.2)) ((V.at_i v).bind λi h1=>(Is.self.bind λo h3=>(O.dct_i o).imp (R':=λd=>H[i]? =some (.dict d.1 d.2)) λ_ h4=>h4▸h3).bind λ_ h5=>⟨h1,h5⟩) h
theorem qG{k:List Char}{h:HP}:∀{ks:List (List Char)} {vs:List V} {cs:List Value},ks.length=cs.length->(ks.map toS).Nodup->VRs c as X h vs cs->
  ∃cs',without ((ks.map toS).zip cs) (toS k)=((kj k ks vs).1.map toS).zip cs'/\(kj k ks vs).1.length=cs'.length/\VRs c as X h (kj k ks vs).2 cs'/\cs'.length<=cs.length:=by
 intro ks
 induction ks with
 |nil=>intro vs cs hl _ r;exact⟨[],rfl,rfl,.nil,aQ _⟩
 |cons k' ks ih=>
  intro vs cs hl hn r
  cases r with
  |nil=>cases hl
  |@cons v vs x cs hx r=>
   haveI hn':=bg.mp hn
   haveI hl':=ib hl
   refine dg (ih hl' hn'.2 r) ?_
   intro cs' e1 e2 e3 e4
   by_cases hk:k=k'
   ·subst hk
    haveI ed:kj k (k::ks) (v::vs)=(ks,vs):=if_pos rfl
    rw [ed]
    refine⟨cs,?_,hl',r,a9 _⟩
    show GU _ ((toS k,x)::(ks.map toS).zip cs)=_
    rw [dL (by simp)]
    refine List.filter_eq_self.mpr λp hp=>decide_eq_true λq=>hn'.1 ?_
    simp only [<-q]
    exact(uj hp).1
   ·haveI ed:kj k (k'::ks) (v::vs)=(k'::(kj k ks vs).1,v::(kj k ks vs).2):=if_neg hk
    rw [ed]
    refine⟨x::cs',?_,congrArg mV e2,.cons hx e3,ax e4⟩
    show GU _ ((toS k',x)::(ks.map toS).zip cs)=(toS k',x)::((kj k ks vs).1.map toS).zip cs'
    exact(cM (p:=λkv:Str×Value=>decide (kv.1≠toS k)) (a:=(toS k',x)) (decide_eq_true λq=>hk (iF q).symm)).trans (congrArg _ e1)
theorem GH{v w r:V}{cv cw:Value}(S:SR c as X H s)(hv:VR c as X s.heap v cv)(hw:VR c as X s.heap w cw)(e:C6 [v,w] H=some (r,H'))(q:Q r H') :
  wpAny c.M A (call (.builtin "dict.pop") [cv,cw]) (Res c as X s.heap Q) E s:=by
 refine ea1_2 (bY e) ?_
 intro p_1 h0 e0
 obtain⟨i,ks,vs⟩:=p_1
 refine ea1_2 (bY e0) ?_
 intro k hn e1
 obtain⟨hsz,e2⟩:=eT e1
 refine ea1_2 (dF e2) ?_
 intro x h1 h2
 replace h0:=yN h0
 obtain⟨rfl,hob⟩:=h0
 cases V.txt_is hn
 cases h2
 replace hv:=iR S hv hob
 obtain⟨a,ha,hb,hsm,cs,hd,hl,rr⟩:=hv
 cases hw.inv with
 |str _ hs=>
  have hn:(ks.map toS).Nodup:=by
   refine gF hd ?_
   intro _ _ _ _ _ _ _ _ hn
   rw [kY (by simp [hl])]at hn
   exact hn
  haveI hz:=jK k hl rr
  rw [h1]at hz
  refine ea1_2 hz ?_
  intro y hy hvy
  haveI h2:=rr.length
  refine call_meetsIn PySem.F.slot_dict_pop hd.typeIs PySem.F.entry_dict_pop (PySem.F.args_dict_pop_2 _ _) (meets_dict_pop_there c.kd a (nR _ _) [] (.inl rfl) rfl) ⟨_,y,hd,?_,hy,λh' hd' sb=>?_⟩
  ·simp only [uh,ah,<-hl,qQ];exact aa hsz cB
  ·have hk:∀b o,s.heap.get? b=some o->b≠a->h'.get? b=some o:=λb o e hb=>(sb.2 b hb).trans e
   haveI K:=SR.kept1 (X:=X) ha hk
   refine dg (qG (k:=k) hl hn (rr.keep K (.refl ..))) ?_
   intro cs' e1 e2 e3 e4
   rw [e1]at hd'
   haveI e5:=e3.length
   exact lf (s':={s with heap:=h',toks:=_}) (o':=.dict _ _) S ha hk rfl rfl ⟨aa (ao e5) (aa e4 (aa (ao h2.symm) hb)),hsm,cs',hd',e2,e3⟩ (hvy.keep K (.refl ..)) q
theorem rU{vs:List V}{m:Nat}(h:m<vs.length):(ju vs)[m]? =some (qX vs[m]):=by
 induction vs generalizing m with
 |nil=>cases h
 |cons v vs ih=>induction m with
  |zero=>rfl
  |succ m=>exact ih (CS h)
theorem pw{vs:List V}{m:Nat}(h:V.datas vs=true)(hm:m<vs.length):vs[m].data=true:=by
 induction vs generalizing m with
 |nil=>cases hm
 |cons v vs ih=>
  have h':=ay.mp h
  cases m with
  |zero=>exact h'.1
  |succ m=>exact ih h'.2 (CS hm)
theorem V.tpl_is{v:V}{vs:List V}(h:v.tpl=some vs):v=.tup vs:=Is.of (R:=λvs=>v=.tup vs) (by cases v<;>first|exact rfl|exact trivial) h
theorem mS{M:Model}{β:Type}{r:Std.Legacy.Range}(f:Nat->β->Sem (ForInStep β))(I:List Nat->β->Shared->Prop)(Q:β->Shared->Prop)
  (turn:∀x rest b s,I (x::rest) b s->wpAny M A (f x b) (λr s'=>match r with|.yield b'=>I rest b' s'|.done b'=>Q b' s') E s)
  (fin:∀b s,I [] b s->Q b s)(b:β)(h:I (GR r.start r.size r.step) b s):wpAny M A (forIn r b f) Q E s:=by
 rw [Std.Legacy.Range.forIn_eq_forIn_range']
 exact wpAny_forIn_list f I Q turn fin _ b h
open PySem.SeqAt PySem.MeetsSeq2 in
theorem oq(l:Addr)(items:Array Value)(n:Nat)(x:Value)(e:Value->Bool)(j:Nat)(hj:j<items.size)(hit:e items[j]=true)(hno:∀m (hm:m<items.size),m<j->e items[m]=false) :
  Meets (Builtin.«tuple.index» ⟨[.ref l,x],[]⟩)
   (λA R s=>s.heap.get? l=some {cls:=.type "tuple",data:=.seq items n}/\(∀y,y∈items->EqAt A.in1 s y x (e y))/\R (.ok (.ret (.int j s.toks))) {s with toks:=s.toks+1}):=
 .of_wp λprog w A R s h=>by
  obtain⟨hp,g,d,tk,os⟩:=s;refine cO (h) λhl q_=>cO q_ λhe h=>?_
  wp_walk using PySem.AutoSeq1.wpAny_loadPart' hl,mS _ (λrest b s'=>b.1=none/\s'=⟨hp,g,d,tk,os⟩/\∃i,i<=j/\rest=GR i (items.size-i)) _
  case turn=>
   rintro m rest b s' ⟨_,rfl,i,hij,hr⟩
   obtain⟨k,hk⟩:∃k,items.size-i=k+1:=⟨items.size-i-1,(fG (Ky (cQ hij hj))).symm⟩
   simp only [hk,List.range'_succ]at hr
   cases hr
   haveI hlt:m<items.size:=by exact fp hj (fp hij (by simp+arith only))
   rw [gy hlt]
   refine wpAny_bind (he _ (Array.getElem_mem hlt) prog w _ _ ?_)
   by_cases hi:m=j
   ·(replace hi:=Eq.symm hi;subst hi)
    wp_walk
    exact⟨_,rfl,h⟩
   ·rw [hno m hlt (oH hij hi)]
    wp_walk
    exact⟨rfl,rfl,m+1,oH hij hi,by rw [show items.size-(m+1)=k from congrArg Nat.pred hk]⟩
  case fin=>
   rintro b s' ⟨_,_,i,hij,hr⟩
   haveI:=congrArg dH hr
   simp only [List.length_range',ug]at this
   exact absurd this (d9 (Ky (cQ hij hj)))
  case h=>exact⟨rfl,rfl,0,aQ _,by simp [Std.Legacy.Range.size]⟩
open PySem.SeqAt in
theorem A9{v w r:V}{cv cw:Value}(S:SR c as X H s)(hv:VR c as X s.heap v cv)(hw:VR c as X s.heap w cw)(e:y4 [v,w] H=some (r,H'))(q:Q r H')(hu:A.units+64<cLine) :
  wpAny c.M A (call (.builtin "tuple.index") [cv,cw]) (Res c as X s.heap Q) E s:=by
 refine ea1_2 (bY e) ?_
 intro vs h1 e1
 refine ea1_2 (bY e1) ?_
 intro x' ex e2
 obtain⟨hok,e3⟩:=eT e2
 refine ea1_2 (dF e3) ?_
 intro k hk e4
 cases e4
 replace h1:=V.tpl_is h1
 subst h1
 obtain⟨hd,hdd⟩:=kU hok
 obtain⟨d1,d2,l1,r1⟩:=mL S hw ex
 cases hv.inv with
 |@tup a items n t1 t2 t3 rr t5=>
  obtain⟨l2,r2⟩:=j4 rr hd
  haveI o1:=jt _ d1
  haveI o2:=hH _ hd
  haveI hm:A.units+1+min (PyData.depthAll (ju vs)) (qX x').depth<cLine:=by exact(o2.2)▸m7 hdd hu
  have hl:=rr.len_arr
  obtain⟨hlt,hit,hno⟩:=eV.mp hk
  have he:∀m (hm:m<items.size) (hm':m<vs.length),PyData.eqv (readOf s.heap items[m]) (qX x')=gf vs[m] x':=λm hm hm'=>by
   haveI h3:(items.toList.map (readOf s.heap))[m]? =(ju vs)[m]?:=by rw [(readsAll_map _ _ _ o2.1 r2)]
   simp only [rU hm',aO,b9,gy hm]at h3
   rw [ai h3]
   exact j5 _ _ (pw hd hm') d1
  refine call_meets PySem.F.slot_tuple_index ⟨_,t3,rfl⟩ PySem.F.entry_tuple_index (PySem.F.args_tuple_index_2 _ _) (oq a items n cw (λy=>PyData.eqv (readOf s.heap y) (qX x')) k (by exact(hl)▸hlt) ?_ ?_) ⟨t3,items_eqAt r2 r1 o2.1 o1.1 hm,?_⟩
  ·exact (he k _ hlt).trans hit
  ·intro m hm hmk
   exact(he m hm (hl▸hm)).trans (by simpa using hno m hmk)
  ·exact Res.now (tk:=s.toks+1) S (.int _ _) q
end
section
variable {prog:Program}{w:World}{A:Around}{E:Value->Shared->Prop}{s:Shared}
theorem ox{l:Addr}{items:Array Value}{k:Int}{t:Tok}{v:Value}{Q:Unit->Shared->Prop}(hl:s.heap.PlainList l items)(h0:0<=k)(hfit:k<2 ^ 63)(hn:k<items.size)
  (hQ:∀h',h'.PlainList l (items.setIfInBounds k.toNat v)->gq l s.heap h'->Q () {s with heap:=h'}):wpAny (model prog w) A (setItem (.ref l) (.int k t) v) Q E s:=by
 refine dw (hl) λn ho=>?_
 haveI hT:s.TypeIs (.ref l) "list":=⟨_,ho,rfl⟩
 unfold setItem
 try with_reducible refine wpAny_holding ?_
 first|refine wpAny_bind (wpAny_pure ?_)|skip
 refine wpAny_bind (wpAny_sequenceKey hT (by decide) ?_)
 refine wpAny_bind (wpAny_callSpecial?_slot (name:=Str.ofString "__setitem__") hT F.slot_list_setitem (wpAny_call_entry F.slot_list_setitem hT F.entry_list_setitem ?_ (F.args_list_setitem_3 _ _ _)))
 refine(?_:wpAny _ _ (Builtin.List.listSubscript? (.int k t)>>= _) _ _ s)
 refine wpAny_bind (wpAny_listSubscript_int (fitsIndex_of h0 hfit) ?_)
 clear hfit
 obtain⟨j,rfl⟩:=Int.eq_ofNat_of_zero_le h0
 haveI hj:items[j]? =some (items[j]'(cu.mp hn)):=gy _
 refine(?_:wpAny _ _ ((seqItemAt l j>>= λr=>pure (r.map (j,·)))>>= _) _ _ s)
 refine wpAny_bind (wpAny_bind (wpAny_seqItemAt ho rfl (wpAny_pure ?_)))
 rw [hj]
 show wpAny _ _ (setSeqItemAt l j v>>= _) _ _ s
 refine wpAny_bind (wpAny_setSeqItemAt ho rfl ?_)
 haveI z:=hQ _ ⟨n,?_⟩ (oh (a:=l) (f:=Obj.mapSeq (·.setIfInBounds j v)) ..)
 first
  |exact wpAny_bind (wpAny_pure (wpAny_pure ⟨.none,rfl,wpAny_pure z⟩))
  |exact wpAny_pure ⟨.none,rfl,wpAny_pure z⟩
 haveI e:Obj.mapSeq (·.setIfInBounds j v) {cls:=.type "list",data:=.seq items n}={cls:=.type "list",data:=.seq (items.setIfInBounds j v) n}:=by simp [Obj.mapSeq]
 rw [cI _ ho (by rw [e];rfl),e]
 rfl
end
section
variable {c:Cx}{A:Around}{E:Value->Shared->Prop}{s:Shared}{as:bA}{X:List Addr}{H H':AH}{Q:QE}
open PySem.SeqAt in
theorem An{v w r:V}{cv cw:Value}(S:SR c as X H s)(hv:VR c as X s.heap v cv)(hw:VR c as X s.heap w cw)(e:vK [v,w] H=some (r,H'))(q:Q r H')(hu:A.units+64<cLine) :
  wpAny c.M A (call (.builtin "list.index") [cv,cw]) (Res c as X s.heap Q) E s:=by
 refine ea1_2 (bY e) λvs hvs e1=>?_
 refine ea1_2 (bY e1) λx' ex e2=>?_
 obtain⟨hok,e3⟩:=eT e2
 refine ea1_2 (dF e3) λk hk e4=>?_
 cases e4
 obtain⟨hd,hdd⟩:=kU hok
 obtain⟨d1,d2,l1,r1⟩:=mL S hw ex
 clear e e1 e2 e3 hok hw ex d2
 obtain⟨a,items,rfl,⟨n,t3⟩,rr,t5,_⟩:=eP S hv hvs
 obtain⟨l2,r2⟩:=j4 rr hd
 haveI o1:=jt _ d1
 haveI o2:=hH _ hd
 haveI hm:A.units+1+min (PyData.depthAll (ju vs)) (qX x').depth<cLine:=o2.2▸m7 hdd hu
 have hl:=rr.len_arr
 obtain⟨hlt,hit,hno⟩:=eV.mp hk
 have he:∀m (hm:m<items.size) (hm':m<vs.length),PyData.eqv (readOf s.heap items[m]) (qX x')=gf vs[m] x':=λm hm hm'=>by
  haveI h3:(items.toList.map (readOf s.heap))[m]? =(ju vs)[m]?:=by rw [(readsAll_map _ _ _ o2.1 r2)]
  simp only [rU hm',aO,b9,gy hm]at h3
  rw [ai h3]
  exact j5 _ _ (pw hd hm') d1
 refine call_meets PySem.F.slot_list_index ⟨_,t3,rfl⟩ PySem.F.entry_list_index (PySem.F.args_list_index_2 _ _) (list_indexAt a items n none #[] cw (λy=>PyData.eqv (readOf s.heap y) (qX x')) k (hl▸hlt) ?_ ?_ ?_) ⟨t3,items_eqAt r2 r1 o2.1 o1.1 hm,?_⟩
 ·exact Ka (cu.mpr hlt) (bu (ca.mpr t5) (by decide))
 ·exact (he k _ hlt).trans hit
 ·intro m hm hmk
  exact(he m hm (hl▸hm)).trans (by simpa using hno m hmk)
 ·exact Res.now (tk:=s.toks+1) S (.int _ _) q
end
section
variable {c:Cx}{A:Around}{E:Value->Shared->Prop}{s:Shared}{as:bA}{X:List Addr}{H H':AH}{Q:QE}
theorem BB{y:Value}{n:Nat}:∀{acc:Array Value},(List.foldl (λx1 x2=>x1++x2) acc (bH n #[y])).toList=acc.toList++bH n y:=by
 induction n with
 |zero=>exact λ{acc}=>(aA _).symm
 |succ n ih=>
  intro acc
  simp only [og,og,List.foldl_cons,ih,gA,aj]
  rfl
theorem Cf{h:HP}{x:V}{y:Value}(hx:VR c as X h x y){n:Nat}:VRs c as X h (bH n x) (bH n y):=by
 induction n with
 |zero=>exact .nil
 |succ n ih=>exact .cons hx ih
theorem Iq{x:V}{n:Int}{cv cw:Value}(S:SR c as X H s)(hv:VR c as X s.heap (.lst [x]) cv)(hw:VR c as X s.heap (.int n) cw)(h0:0<=n)(h1:n<=1000)(q:Q (.ref H.length) (H++[.list (bH n.toNat x)])) :
  wpAny c.M A (binaryOp .Mult cv cw) (Res c as X s.heap Q) E s:=by
 cases hw.inv with
 |int u=>
 cases hv.inv with
 |@lst l items t1 t2 t3 rr t5=>
 obtain⟨k,hl⟩:=t3
 obtain⟨its⟩:=items
 cases rr with
 |@cons _ _ y _ r1 r2=>
 cases r2 with
 |nil=>
 refine wpAny_binaryOp_repeat_ref (T:="list") (U:="int") (by decide) ⟨_,hl,rfl⟩ (λs'=>typeIs_int s' n u) noFill_list_mul PySem.F.fills_int_mul PySem.F.slot_int_rmul repeat_list PySem.F.slot_int_index.lookup
  (call_meets PySem.F.slot_int_rmul (typeIs_int s n u) PySem.F.entry_int_rmul (PySem.F.args_int_rmul_2 _ _) (int___rmul___int_list n u l #[y] k)
   ⟨hl,rfl,⟨_,hl,rfl⟩,call_meets PySem.F.slot_list_mul ⟨_,hl,rfl⟩ PySem.F.entry_list_mul (PySem.F.args_list_mul_2 _ _)
    (AutoListH.list___mul___list_int_3 l #[y] k n u (by simp [Builtin.List.listFitsIndex];exact⟨jz h0 (by simp+arith only),jz h1 (by simp+arith only)⟩) (by simp;exact jz h1 (by simp+arith only)) (by simp [ku,sizeLine];exact jz h1 (by simp+arith only))) ⟨hl,?_⟩⟩)
 refine FreshL.thawed S (i7 (tk:=s.toks) S (.push _ _) (be _ rfl) ?_ ?_) q
 ·refine (BB (acc:=#[])).symm▸Cf r1
 ·rw [DF];exact aa (qO.mpr h1) (by decide)
end
section
variable {c:Cx}{A:Around}{E:Value->Shared->Prop}{s:Shared}{as:bA}{X:List Addr}{H H':AH}{Q:QE}
theorem Hl{v r:V}{cv:Value}(S:SR c as X H s)(hv:VR c as X s.heap v cv)(e:EH [v] H=some (r,H'))(q:Q r H'):wpAny c.M A (call (.type "int") [cv]) (Res c as X s.heap Q) E s:=by
 cases v with
 |bool b=>exact Fg S hv e q
 |_=>exact eY e
theorem rm{a b:Addr}{xs ys:Array Value}{m:Nat}{R:Value->Shared->Prop}(hl:s.heap.PlainList a xs)(hb:s.heap.get? b=some {cls:=.type "list",data:=.seq ys m})(hz:xs.size+ys.size<=sizeLine)
  (h:∀h',h'.PlainList a (xs++ys)->gq a s.heap h'->R .none {s with heap:=h'}):wpAny c.M A (call (.builtin "list.extend") [.ref a,.ref b]) R E s:=by
 refine dw (hl) λn ho=>?_
 refine wpAny_call_entry F.slot_list_extend ⟨_,ho,rfl⟩ F.entry_list_extend ?_ (F.args_list_extend_2 _ _)
 refine(?_:wpAny _ _ (vQ (.ref a) (.ref b) .none) _ _ s)
 unfold vQ
 refine wpAny_bind (wpAny_typeOf ⟨_,hb,rfl⟩ ?_)
 haveI h1:(Builtin.List.listSameRef (.ref a) (.ref b)||Value.type "list"==Value.type "list"||Value.type "list"==Value.type "tuple")=true:=by simp
 simp only [h1,if_true]
 refine wpAny_bind ?_
 unfold Builtin.List.listItems
 refine wpAny_bind (wpAny_seqItems hb rfl (wpAny_pure ?_))
 refine wpAny_bind ?_
 refine wpAny_bind (wpAny_seqItems ho rfl (wpAny_pure ?_))
 haveI h2:(!xs.isEmpty&&ku (xs.size+ys.size))=false:=by
  simp only [show ku (xs.size+ys.size)=decide (xs.size+ys.size>sizeLine)from rfl,decide_eq_false (gV.mpr hz:¬(xs.size+ys.size>sizeLine)),eM]
 simp only [h2,jB,if_false]
 refine wpAny_bind (wpAny_updateSeq ho rfl ?_ (by exact fp hz (by simp+arith only)) (by rw [Array.size_append];exact fp hz (by simp+arith only)))
 exact wpAny_pure ⟨.none,rfl,h _ ⟨_,cI _ ho rfl⟩ (oh ..)⟩
theorem yd{v w r:V}{cv cw:Value}(S:SR c as X H s)(hv:VR c as X s.heap v cv)(hw:VR c as X s.heap w cw)(e:uP [v,w] H=some (r,H'))(q:Q r H'):wpAny c.M A (call (.builtin "list.extend") [cv,cw]) (Res c as X s.heap Q) E s:=by
 refine ea1_2 (bY e) ?_
 clear e
 intro p h0 e0
 refine ea1_2 (bY e0) ?_
 clear e0
 intro ys h1 e1
 obtain⟨hz,e2⟩:=c5 e1
 clear e1
 (haveI i:=p.1;haveI vs:=p.2)
 replace h0:=lc h0
 obtain⟨rfl,hob⟩:=h0
 cases e2
 replace hv:=iR S hv hob
 obtain⟨a,hi,hb,items,hp,rr⟩:=hv
 clear hob
 replace hw:=eP S hw h1
 obtain⟨b,its,rfl,⟨m,hm⟩,r2,_⟩:=hw
 clear h1
 refine rm hp hm (by simp only [rr.len_arr,r2.len_arr];exact aa hz cB) λh' hp' sb=>?_
 haveI hk:∀b o,s.heap.get? b=some o->b≠a->h'.get? b=some o:=λb o e hb=>(sb.2 b hb).trans e
 haveI K:=SR.kept1 (X:=X) hi hk
 refine lf (s':={s with heap:=h'}) (o':=.list _) S hi hk rfl rfl ⟨?_,_,hp',?_⟩ .none q
 ·rw [af];exact pX hz
 ·rw [gA]
  exact(rr.keep K (.refl ..)).append (r2.keep K (.refl ..))
end
inductive Gl where
 |fn (f:Nat)
 |cst (v:V)
 |bi (b:String)
 |ty (t:String)
 |exc (c:Nat)
 |cls (ms:List (Str×Nat)) (ats:List Str) (f:Nat)
set_option genInjectivity false in
structure Tb where
 gl:List (Str×Gl)
 meths:List (Str×Nat)
 names:List (Str×NameKind)
 tab:List (Str×Nat)
 n:Nat
 mu:List (Nat×Nat)
 fz:List (Nat×List Nat)
noncomputable def Tb.isMu(T:Tb)(p:Pos):Bool:=T.mu.contains (p.line,p.col)
noncomputable def oJ(s:Str):Option (List Char):=
 if toS (s.cps.toList.map Char.ofNat)=s/\(s.cps.toList.map Char.ofNat).length<=1000 then some (s.cps.toList.map Char.ofNat)else none
noncomputable def yg:Const->Option Ex
 |.none=>some (.cst .none)
 |.bool b=>some (.cst (.bool b))
 |.int i=>some (.cst (.int i))
 |.str s=>(oJ s).map λl=>.cst (.str l)
 |_=>none
noncomputable def Tb.var(T:Tb)(x:Str):Option Nat:=
 if x==("__debug__":Str)||x==("__classdict__":Str)then none else
 if T.names.lookup x=some .local\/T.names.lookup x=some .cell\/T.names.lookup x=some .free then T.tab.lookup x else none
noncomputable def Tb.glob(T:Tb)(x:Str):Option Gl:=
 if x==("__debug__":Str)then none else
 if T.names.lookup x=some .globalImplicit then T.gl.lookup x else none
noncomputable def glE:Option Gl->Option Ex
 |some (.cst v)=>some (.cst v)
 |_=>none
noncomputable def Jd(o:Option Ex):Option Nat->Option Ex
 |some i=>some (.var i)
 |none=>o
noncomputable def zt(T:Tb)(x:Str):Option Ex:=Jd (glE (T.glob x)) (T.var x)
noncomputable def uG:Operator->Option Bop
 |.Add=>some .add|.Sub=>some .sub|.Mult=>some .mul|.FloorDiv=>some .fdiv|.Mod=>some .mod|.Pow=>some .pow
 |_=>none
noncomputable def fL:CmpOp->Cop
 |.Eq=>.eq|.NotEq=>.ne|.Lt=>.lt|.LtE=>.le|.Gt=>.gt|.GtE=>.ge|.Is=>.is|.IsNot=>.isnot|.In=>.in_|.NotIn=>.notin
noncomputable def i8{α β:Type}(f:α->Option β):List α->Option (List β)
 |[]=>some []
 |a::r=>(f a).bind λb=>(i8 f r).map (b::·)
noncomputable def mkB(op:BoolOp)(x y:Ex):Ex:=match op with
 |.And=>.and x y
 |.Or=>.or x y
noncomputable def tD(op:BoolOp)(t:Bool):Bool:=match op with
 |.And=>t
 |.Or=>!t
theorem uz{P:Prog}{C:Calls}{op:BoolOp}{x y:Ex}{ρ:Fm}{H:AH}{Q:QE}{X:XE}:cz P C (mkB op x y) ρ H Q X=cz P C x ρ H (λv H'=>mK (fk v) λt=>if tD op t then cz P C y ρ H' Q X else Q (.bool t) H') X:=by cases op<;>rfl
noncomputable def qw(op:BoolOp):List Ex->Option Ex
 |[]=>none
 |[x]=>some x
 |x::r=>(qw op r).map (mkB op x)
noncomputable def Bx(t:String):Option Ty:=
 if t="int" then some .int else if t="bool" then some .bool else if t="str" then some .str else if t="list" then some .list else if t="tuple" then some .tuple else none
noncomputable def t6(b:String)(n:Nat):Option Prim:=
 if b="len"/\n=1 then some .len else
 if b="all"/\n=1 then some .all else
 if b="min"/\n=2 then some .min else
 none
noncomputable def tZ(t:String)(n:Nat):Option Prim:=
 if t="range"/\n=1 then some .range1 else
 if t="range"/\n=2 then some .range2 else
 if t="list"/\n=1 then some .list else
 if t="int"/\n=1 then some .int else
 none
noncomputable def AV:Expr->Option Const
 |.Constant c _ _=>some c
 |_=>none
theorem zC(e:Expr):Is (AV e) λc=>∃k p,e=.Constant c k p:=by
 cases e<;>first|exact⟨_,_,rfl⟩|exact trivial
noncomputable def Le:Const->Option Str
 |.str s=>some s
 |_=>none
noncomputable def BX(e:Expr):Option Str:=(AV e).bind Le
theorem yn(e:Expr):Is (BX e) λs=>∃k p,e=.Constant (.str s) k p:=
 (zC e).bind λc h=>Is.imp (R:=λs=>c=.str s) (by cases c<;>first|exact rfl|exact trivial) λ_ q=>q▸h
noncomputable def J5:Const->Option Unit
 |.none=>some ()
 |_=>none
theorem Ei(c:Const):Is (J5 c) λ_=>c=.none:=by cases c<;>first|exact rfl|exact trivial
noncomputable def LZ:Const->Option Int
 |.int i=>some i
 |_=>none
noncomputable def IJ(l:List Expr):Bool:=match l with
 |[e]=>decide ((AV e).bind LZ=some 0)
 |_=>false
noncomputable def Ea(e:Expr):Bool:=match e with
 |.Subscript _ i _=>(BX i).isSome
 |.Name _ _=>true
 |_=>false
noncomputable def zOf(m:Str)(o:Expr)(l:List Expr):Bool:=if m=Str.ofString "index" then Ea o else IJ l
noncomputable def lD(m:Str)(n:Nat)(z:Bool):Option (Mt×Prim):=
 if m=Str.ofString "append"/\n=1 then some (.list,.append)else
 if m=Str.ofString "pop"/\n=0 then some (.list,.pop)else
 if m=Str.ofString "pop"/\n=1/\z=true then some (.list,.pop0)else
 if m=Str.ofString "pop"/\n=1 then some (.dict,.dpop)else
 if m=Str.ofString "index"/\n=1/\z=true then some (.list,.lindex)else
 if m=Str.ofString "index"/\n=1 then some (.tup,.index)else
 if m=Str.ofString "extend"/\n=1 then some (.list,.extend)else
 none
noncomputable def oneL{α β:Type}(f:α->Option β):List α->Option β
 |[t]=>f t
 |_=>none
noncomputable def twoL{α β:Type}(f:α->α->Option β):List α->Option β
 |[a,b]=>f a b
 |_=>none
noncomputable def qZ{α β:Type}(r:Option β):List α->Option β
 |[]=>r
 |_::_=>none
noncomputable def AA:Expr->Option Str
 |.Name x _=>some x
 |_=>none
theorem ng(e:Expr):Is (AA e) λx=>∃p,e=.Name x p:=by
 cases e<;>first|exact⟨_,rfl⟩|exact trivial
theorem oS{α:Type}{b:Bool}{a:Option α}{x:α}(h:(if b=true then none else a)=some x):b=false/\a=some x:=by
 induction b with
 |false=>exact⟨rfl,h⟩
 |true=>exact eY h
noncomputable def Jh(e:Expr):Bool:=match e with
 |.List _ _=>true
 |_=>false
noncomputable def qF(e:Expr):Bool:=e.ctorIdx==26
noncomputable def ma(e:Expr):Bool:=e.ctorIdx==8||e.ctorIdx==9||e.ctorIdx==10
noncomputable def tU(T:Tb)(x:Str)(sc:Scope):Bool:=
 decide (sc.kind=.function)&&T.tab.all (λp=>decide (p.2<T.n))&&decide (sc.names.lookup x=some .local)&&
 sc.names.all (λp=>decide (sc.names.lookup p.1=some p.2)&&(match p.2 with
  |.local=>decide (p.1=x)||(T.tab.lookup p.1).isNone
  |.cell=>false
  |.free=>(decide (T.names.lookup p.1=some .cell)||decide (T.names.lookup p.1=some .free))&&(T.tab.lookup p.1).isSome&&decide (p.1≠x)
  |_=>true))
noncomputable def y6(e:Expr):Bool:=e.ctorIdx==16
noncomputable def jm(e:Expr):Bool:=!y6 e
noncomputable def Dz(o:Option Expr):Option (List Char):=o.bind λe=>(BX e).bind oJ
abbrev KQ:=Tb->Expr->Option Ex
noncomputable def zH:Gl->Option (List (Str×Nat)×List Str×Nat)
 |.cls ms ats f=>some (ms,ats,f)
 |_=>none
theorem Cu(g:Gl):Is (zH g) λq=>g=.cls q.1 q.2.1 q.2.2:=by
 cases g<;>first|exact rfl|exact trivial
noncomputable def AM:List (Str×Gl)->Option (List (Str×Nat)×List Str×Nat)
 |[]=>none
 |p::l=>if(zH p.2).isSome=true then zH p.2 else AM l
theorem z4(gl:List (Str×Gl)):Is (AM gl) λq=>∃x,(x,Gl.cls q.1 q.2.1 q.2.2)∈gl:=by
 induction gl with
 |nil=>exact trivial
 |cons p l ih=>exact Is.ite2 (λ_=>(Cu p.2).imp λ_ h=>⟨p.1,h▸.head _⟩) λ_=>ih.imp λ_ h=>h.imp λ_ hx=>.tail _ hx
noncomputable def z9(r:Expr->Option Ex)(T:Tb)(o:Expr)(name:Str):Option (Ex×List Char):=if jm o=true then(AM T.gl).bind λq=>if q.2.1.contains name=true then(oJ name).bind λnm=>(r o).map λa=>(a,nm)else none else none
noncomputable def Jl(r:Expr->Option Ex)(T:Tb)(o:Expr)(name:Str)(args:List Expr):Option Ex:=if args.length<30 then(AM T.gl).bind λq=>(q.1.lookup name).bind λg=>(oJ name).bind λnm=>(r o).bind λa=>(i8 r args).map λes=>.meth 0 g nm a es else none
abbrev l9(T:Tb)(x:Str)(sc:Scope):Tb:={T with names:=sc.names,tab:=(x,T.n)::T.tab,n:=T.n+1}
noncomputable def cUn(op:UnaryOp)(a:Ex):Option Ex:=match op with
 |.Not=>some (.prim false .not [a])
 |.USub=>some (.prim false .neg [a])
 |_=>none
noncomputable def JC(r:Expr->Option Ex)(l:Expr)(ops:List CmpOp)(rs:List Expr):Option Ex:=match ops with
 |[op]=>oneL (λx=>(r l).bind λa=>(r x).map λb=>.prim false (.cop (fL op)) [a,b]) rs
 |[o₁,o₂]=>twoL (λm x=>(r l).bind λa=>(r m).bind λb=>(r x).map λc=>.cmp2 a (fL o₁) b (fL o₂) c) rs
 |_=>none
noncomputable def BF:Gl->Option String
 |.ty tn=>some tn
 |_=>none
theorem xF(g:Gl):Is (BF g) λtn=>g=.ty tn:=by
 cases g<;>first|exact rfl|exact trivial
noncomputable def yq:Gl->Option Nat
 |.exc k=>some k
 |_=>none
theorem vm(g:Gl):Is (yq g) λk=>g=.exc k:=by
 cases g<;>first|exact rfl|exact trivial
noncomputable def Lg(r:Expr->Option Ex)(T:Tb)(args:List Expr):Option Ex:=
 twoL (λx y=>(AA y).bind λt=>(T.glob t).bind λg=>(BF g).bind λtn=>(Bx tn).bind λty=>(r x).map λa=>.prim false (.isinst ty) [a]) args
noncomputable def cGl(r:Expr->Option Ex)(T:Tb)(args:List Expr)(pos:Pos)(g:Gl):Option Ex:=match g with
 |.fn i=>(i8 r args).map λes=>.call i es
 |.bi b=>if b="isinstance" then Lg r T args else(t6 b args.length).bind λp=>(i8 r args).map λes=>.prim false p es
 |.ty t=>(tZ t args.length).bind λp=>(i8 r args).map λes=>.prim (T.isMu pos) p es
 |.cls _ _ f=>oneL (λx=>(r x).map λa=>.new 0 f [a]) args
 |_=>none
noncomputable def Dj(r:Expr->Option Ex)(T:Tb)(f:Expr)(args:List Expr)(kws:List Keyword)(pos:Pos):Option Ex:=qZ (match f with
  |.Name g _=>(T.glob g).bind (cGl r T args pos)
  |.Attribute o name apos=>if jm o=true/\apos.endLine=pos.line then
    if(lD name args.length (zOf name o args)).isSome=true then(lD name args.length (zOf name o args)).bind λtp=>(r o).bind λa=>(i8 r args).map λes=>.mcall tp.1 (T.isMu pos&&tp.2.fresh) tp.2 a es else Jl r T o name args
    else none
  |_=>none) kws
noncomputable def Hv(r:Expr->Option Ex):List Expr->Option (Option Ex)
 |[]=>some none
 |t::l=>qZ ((r t).map some) l
noncomputable def Dp(r:KQ)(T:Tb)(elt:Expr)(gens:List Comprehension)(sc:Scope)(pos:Pos):Option Ex:=oneL (λg=>(AA g.target).bind λx=>if g.is_async=0/\tU T x sc=true then
   (r T g.iter).bind λi=>(r (l9 T x sc) elt).bind λb=>(Hv (r (l9 T x sc)) g.ifs).map λq=>.comp (T.isMu pos) b i q
   else none) gens
noncomputable def Et(r:Expr->Option Ex)(mu:Bool)(ks:List (Option Expr))(vs:List Expr):Option Ex:=
 oneL (λk=>k.bind λke=>oneL (λve=>(r ke).bind λa=>(r ve).map λb=>.prim mu .mkdict1 [a,b]) vs) ks
noncomputable def Db(r:Expr->Option Ex)(mu:Bool)(ks:List (Option Expr))(vs:List Expr):Option Ex:=
 if ks.length=vs.length/\ks.length<=15 then(i8 Dz ks).bind λkcs=>(i8 r vs).map λxs=>.prim mu (.mkdict kcs) xs else none
noncomputable def Fy(r:Expr->Option Ex)(o:Option Expr):Option Ex:=match o with
 |none=>some (.cst .none)
 |some e=>r e
noncomputable def KR(r:Expr->Option Ex)(v e:Expr):Option Expr->Option Expr->Option Ex
 |none,none=>(r v).bind λa=>(r e).map λb=>.prim false .rev [a,b]
 |_,_=>none
noncomputable def JX(r:Expr->Option Ex)(mu:Bool)(v sl:Expr):Option Ex:=match sl with
 |.Slice lo hi st _=>match st with
  |none=>(r v).bind λa=>(Fy r lo).bind λb=>(Fy r hi).map λc=>.prim mu .slice [a,b,c]
  |some e=>KR r v e lo hi
 |sl=>if qF sl then none else(r v).bind λa=>(r sl).map λb=>.prim false .item [a,b]
noncomputable def cE:Nat->Tb->Expr->Option Ex
 |0,_,_=>none
 |k+1,T,e=>match e with
  |.Constant c _ _=>yg c
  |.Name x _=>zt T x
  |.BinOp l op r pos=>(uG op).bind λo=>(cE k T l).bind λa=>(cE k T r).bind λb=>if o=.mul/\Jh l=true then some (.prim true .rep [a,b])else some (.prim (T.isMu pos) (.bop o) [a,b])
  |.UnaryOp op x _=>(cE k T x).bind (cUn op)
  |.BoolOp op vs _=>(i8 (cE k T) vs).bind (qw op)
  |.Compare l ops rs _=>JC (cE k T) l ops rs
  |.Call f args kws pos=>Dj (cE k T) T f args kws pos
  |.Subscript v sl pos=>JX (cE k T) (T.isMu pos) v sl
  |.List es pos=>(i8 (cE k T) es).map λxs=>.prim (T.isMu pos) .mklist xs
  |.Tuple es _ _=>(i8 (cE k T) es).map λxs=>.prim false .mktup xs
  |.Dict ks vs pos=>if(Db (cE k T) (T.isMu pos) ks vs).isSome=true then Db (cE k T) (T.isMu pos) ks vs else Et (cE k T) (T.isMu pos) ks vs
  |.ListComp elt gens sc pos=>Dp (cE k) T elt gens sc pos
  |.Attribute o name _=>(z9 (cE k T) T o name).map λq=>.prim false (.attr q.2) [q.1]
  |_=>none
noncomputable def Tb.slot(T:Tb)(x:Str):Option Nat:=
 match T.names.lookup x with
 |some .local|some .cell=>match T.tab.lookup x with
  |some i=>if i<T.n then some i else none
  |none=>none
 |_=>none
noncomputable def iM(_:Tb)(_:Nat)(s:St):List St:=[s]
noncomputable def mQ:Option (List (List St))->Option (List St)
 |some l=>some l.flatten
 |none=>none
noncomputable def xt(T:Tb)(a b:Expr):Option (List Nat):=(AA a).bind λx=>(AA b).bind λy=>(T.slot x).bind λi=>(T.slot y).map λj=>[i,j]
noncomputable def J8(T:Tb)(t:Expr):Option (Nat ⊕ List Nat):=match t with
 |.Name x _=>(T.slot x).map .inl
 |.Tuple es _ _=>(twoL (xt T) es).map .inr
 |_=>none
noncomputable def zw(T:Tb)(f:Expr):Bool:=(AA f).any λx=>(T.glob x).any λg=>BF g==some "reversed"
noncomputable def cIt(r:Expr->Option Ex)(T:Tb)(e:Expr):Option (Bool×Ex):=match e with
 |.Call f args kws p=>if zw T f=true then qZ (oneL (λa=>(r a).map λx=>(true,x)) args) kws else(r (.Call f args kws p)).map λx=>(false,x)
 |e=>(r e).map λx=>(false,x)
noncomputable def Dr(r:Expr->Option Ex)(T:Tb)(es:List Expr)(v:Expr):Option St:=
 if y6 v then(twoL (xt T) es).bind λis=>(r v).map λe=>.asgTup is e else none
noncomputable def Hw(r:Expr->Option Ex)(T:Tb)(t v:Expr)(l:Nat):Option (List St):=match t with
 |.Name x _=>(T.slot x).bind λi=>(r v).map λe=>iM T l (.asg i e)
 |.Tuple es _ _=>(Dr r T es v).map λs=>iM T l s
 |.Subscript o i _=>(r v).bind λev=>(r o).bind λeo=>(r i).map λei=>iM T l (.setItem eo ei ev)
 |.Attribute o name _=>if ma v then none else(r v).bind λev=>(z9 r T o name).map λq=>iM T l (.setAttr q.1 q.2 ev)
 |_=>none
noncomputable def cRz(T:Tb)(e:Expr):Option Nat:=match e with
 |.Call f args kws _=>qZ (oneL (λa=>(BX a).bind λ_=>(AA f).bind λx=>(T.glob x).bind yq) args) kws
 |_=>none
noncomputable def xP(T:Tb)(e cause:Option Expr):Option Nat:=if cause.isNone=true then e.bind (cRz T)else none
noncomputable def Lv:Stmt->Option Expr
 |.Return v _=>v
 |_=>none
noncomputable def IS(b:List Stmt):Option Unit:=oneL (λs=>(Lv s).bind λe=>(AV e).bind J5) b
theorem EP(b:List Stmt):Is (IS b) λ_=>∃k p p',b=[.Return (some (.Constant .none k p)) p']:=by
 rcases b with _|⟨s,_|_⟩
 ·exact trivial
 ·refine Is.bind (R:=λe=>∃p',s=.Return (some e) p') ?_ λe h=>(zC e).bind λc h1=>(Ei c).imp λ_ h2=>?_
  ·cases s with
   |Return v p=>
    induction v with
    |none=>exact trivial
    |some e=>exact⟨p,rfl⟩
   |_=>exact trivial
  ·obtain ⟨p',rfl⟩:=h
   obtain⟨k,p,rfl⟩:=h1
   subst h2
   exact⟨k,p,p',rfl⟩
 ·exact trivial
noncomputable def cHd(T:Tb)(h:ExceptHandler):Option Nat:=match h with
 |.ExceptHandler t nm body _=>if nm.isSome=true then none else t.bind λt=>(AA t).bind λx=>(T.glob x).bind λg=>(yq g).bind λj=>(IS body).map λ_=>j
noncomputable def cS:Nat->Tb->Stmt->Option (List St)
 |0,_,_=>none
 |k+1,T,s=>match s with
  |.Assign ts v pos=>oneL (λt=>Hw (cE k T) T t v pos.line) ts
  |.While t body els pos=>qZ ((cE k T t).bind λc=>(mQ (i8 (cS k T) body)).map λxs=>iM T pos.line (.while_ c xs)) els
  |.Expr v pos=>if ma v then none else(cE k T v).map λe=>iM T pos.line (.expr e)
  |.If t a b pos=>(cE k T t).bind λc=>(mQ (i8 (cS k T) a)).bind λxs=>(mQ (i8 (cS k T) b)).map λys=>iM T pos.line (.ite c xs ys)
  |.For t it body els pos=>qZ ((J8 T t).bind λtg=>(cIt (cE k T) T it).bind λq=>(mQ (i8 (cS k T) body)).map λxs=>iM T pos.line (.forIn q.1 tg q.2 xs)) els
  |.Return v _=>(match v with
   |some e=>(cE k T e).map λx=>[.ret x]
   |none=>some [.ret (.cst .none)])
  |.Pass _=>some [.pass]
  |.Raise e cause _=>(xP T e cause).map λj=>[.raise j]
  |.Try body hs els fin pos=>qZ (qZ (oneL (λh=>(mQ (i8 (cS k T) body)).bind λbs=>(cHd T h).map λj=>iM T pos.line (.try_ bs j)) hs) fin) els
  |_=>none
noncomputable def KH(k:Nat)(T:Tb)(b:List Stmt):Option (List St):=mQ (i8 (cS k T) b)
inductive ResL(c:Cx)(as:bA)(X:List Addr)(h:HP)(Q:List V->AH->Prop)(xs:List Value)(s':Shared):Prop
 |mk (vs:List V) (H':AH) (as':bA):Ext as h as'->SR c as' X H' s'->Kept as X h s'.heap->VRs c as' X s'.heap vs xs->Q vs H'->ResL c as X h Q xs s'
inductive ResB(c:Cx)(as:bA)(X:List Addr)(h:HP)(Q:Bool->AH->Prop)(b:Bool)(s':Shared):Prop
 |mk (H':AH) (as':bA):Ext as h as'->SR c as' X H' s'->Kept as X h s'.heap->Q b H'->ResB c as X h Q b s'
section
variable {c:Cx}{as as₁:bA}{X:List Addr}{h h₁:HP}{s':Shared}
theorem Res.lift{Q:QE}{x:Value}(e:Ext as h as₁)(k:Kept as X h h₁)(r:Res c as₁ X h₁ Q x s'):Res c as X h Q x s':=by
 obtain⟨v,H',as',e',S,k',hv,q⟩:=r
 exact⟨v,H',as',e.trans k e',S,k.trans e k',hv,q⟩
theorem ResL.lift{Q:List V->AH->Prop}{x:List Value}(e:Ext as h as₁)(k:Kept as X h h₁)(r:ResL c as₁ X h₁ Q x s'):ResL c as X h Q x s':=by
 obtain⟨v,H',as',e',S,k',hv,q⟩:=r
 exact⟨v,H',as',e.trans k e',S,k.trans e k',hv,q⟩
theorem ResB.lift{Q:Bool->AH->Prop}{x:Bool}(e:Ext as h as₁)(k:Kept as X h h₁)(r:ResB c as₁ X h₁ Q x s'):ResB c as X h Q x s':=by
 obtain⟨H',as',e',S,k',q⟩:=r
 exact⟨H',as',e.trans k e',S,k.trans e k',q⟩
end
structure ACk(c:Cx)(A:Around)(n:Nat):Prop where
 hh:A.handled=none
 hd:A.depth+2*n+5<=recursionLimit
 hu:A.units+10*n+300<cLine
structure AOk(c:Cx)(A:Around)(n:Nat):Prop extends ACk c A n where
 hr:A.depth+2*n+6<=recursionLimit
 hw:A.units+10*n+305<cLine
theorem AOk.u64{c:Cx}{A:Around}{n:Nat}(a:AOk c A n):A.units+64<cLine:=by haveI:=a.hu;exact fp this (by simp+arith only)
structure KOk(T:Tb)(env:Env):Prop where
 loc:∀x,T.names.lookup x=some .local->env.kindOf x=some .local
 cell:∀x,T.names.lookup x=some .cell->env.kindOf x=some .cell
 free:∀x,T.names.lookup x=some .free->env.kindOf x=some .free\/env.kindOf x=some .cell
 glob:∀x,T.names.lookup x=some .globalImplicit->env.kindOf x=some .globalImplicit
structure Rdy(c:Cx)(T:Tb)(env:Env)(A:Around)(n:Nat)(s:Shared)(as:bA)(X:List Addr)(H:AH)(ρ:Fm):Prop where
 a:AOk c A n
 S:SR c as X H s
 F:FR c as X s.heap env T.tab ρ
 K:KOk T env
 len:ρ.length=T.n
 fr:EnvFr c A X as s.heap env
theorem Rdy.next{c:Cx}{T:Tb}{env:Env}{A:Around}{n:Nat}{s s₁:Shared}{as as₁:bA}{X:List Addr}{H H₁:AH}{ρ:Fm}(R:Rdy c T env A n s as X H ρ)
  (e:Ext as s.heap as₁)(k:Kept as X s.heap s₁.heap)(S:SR c as₁ X H₁ s₁):Rdy c T env A n s₁ as₁ X H₁ ρ:=
 ⟨R.a,S,R.F.keep k e,R.K,R.len,R.fr.keep e k⟩
def L1(c:Cx)(x:Str):Gl->Prop
 |.fn f=>c.mg x=some (.ref (c.fad f))
 |.cst v=>∃y,c.mg x=some y/\∀as X h,VR c as X h v y
 |.bi b=>c.mg x=none/\c.mb x=some (.builtin b)
 |.ty t=>c.mg x=none/\c.mb x=some (.type t)
 |.exc k=>c.mg x=some (.ref (c.xcls k))/\c.P.sub k k=true
 |.cls _ _ _=>c.mg x=some (.ref (c.ccls 0))
inductive CK(c:Cx)(ms:List (Str×Nat))(ats:List Str)(f:Nat):Prop
 |mk {N:Addr} {mN:Str->Option Value}:ClsAt c.base (c.ccls 0) N mN->mN "__setattr__"=none->mN "__getattribute__"=none->mN "__getattr__"=none->(∀n∈ats,mN n=none/\typeLookup (.type "object") n=pure none)->
   (∀n g,ms.lookup n=some g->mN n=some (.ref (c.fad g))/\(∃o,c.base.get? (c.fad g)=some o/\o.cls=.type "function")/\(∃y,typeLookup (.type "object") n=pure y)/\∃fn,c.P.fns g=some fn)->mN "__init__"=some (.ref (c.fad f))->(∃o,c.base.get? (c.fad f)=some o/\o.cls=.type "function")->(∃fn,c.P.fns f=some fn)->CK c ms ats f
structure SC(c:Cx)(n:Nat):Prop where
 run:∀{f:Nat} {fn:Fn} {A:Around} {s:Shared} {as:bA} {X:List Addr} {H:AH} {vs:List V} {xs:List Value} {Q:QE} {XX:XE},
 c.P.fns f=some fn->ACk c A n->(∃l,FrOk c A X as s.heap l)->SR c as X H s->VRs c as X s.heap vs xs->aJ c.P n f vs H Q XX->wpAny c.M A (call (.ref (c.fad f)) xs) (Res c as X s.heap Q) (ERes c as X s.heap XX) s
structure Cok(c:Cx)(gl:List (Str×Gl)):Prop where
 g:c.base.Ns mainGlobals c.mg
 b:c.base.Ns builtinsNs c.mb
 nolim:c.base.NoLimit
 x:∀k,c.P.sub k k=true->∃bm,XC c.base (c.xcls k) bm/\∀x j,gl.lookup x=some (.exc j)->(Value.ref (c.xcls k)::bm).contains (.ref (c.xcls j))=c.P.sub k j
 cl:∀x ms ats f,(x,Gl.cls ms ats f)∈gl->CK c ms ats f
 gl:∀x v,gl.lookup x=some v->L1 c x v
 fobj:∀f fn,c.P.fns f=some fn->∃o,c.base.get? (c.fad f)=some o/\o.data=.func (c.fdat f)
structure SE(c:Cx)(n:Nat)(T:Tb)(e:Expr)(ex:Ex):Prop where
 run:∀{env:Env} {A:Around} {s:Shared} {as:bA} {X:List Addr} {H:AH} {ρ:Fm} {Q:QE} {XX:XE},
 Rdy c T env A n s as X H ρ->cz c.P (aJ c.P n) ex ρ H Q XX->wpAny c.M A (eval e env) (Res c as X s.heap Q) (ERes c as X s.heap XX) s
structure ST(c:Cx)(n:Nat)(T:Tb)(e:Expr)(ex:Ex):Prop where
 run:∀{env:Env} {A:Around} {s:Shared} {as:bA} {X:List Addr} {H:AH} {ρ:Fm} {P:QE} {Q:Bool->AH->Prop} {XX:XE},(∀v H,P v H->mK (fk v) λb=>Q b H)->
 Rdy c T env A n s as X H ρ->cz c.P (aJ c.P n) ex ρ H P XX->wpAny c.M A (isTrue e env (eval e env)) (ResB c as X s.heap Q) (ERes c as X s.heap XX) s
section
variable {c:Cx}{n:Nat}{T:Tb}{gl:List (Str×Gl)}
theorem Ek{e₁ e₂:Expr}{x₁ x₂:Ex}{env:Env}{A:Around}{s:Shared}{as:bA}{X:List Addr}{H:AH}{ρ:Fm}{XX:XE}{W:V->V->AH->Prop}{t:Value->Value->Sem Value}{Q:QE}
  (h₁:SE c n T e₁ x₁)(h₂:SE c n T e₂ x₂)(R:Rdy c T env A n s as X H ρ)
  (w:cz c.P (aJ c.P n) x₁ ρ H (λv H'=>cz c.P (aJ c.P n) x₂ ρ H' (λv' H''=>W v v' H'') XX) XX)
  (tail:∀{s':Shared} {as':bA} {H':AH} {v v':V} {y y':Value},SR c as' X H' s'->VR c as' X s'.heap v y->VR c as' X s'.heap v' y'->W v v' H'->wpAny c.M A (t y y') (Res c as' X s'.heap Q) (ERes c as' X s'.heap XX) s') :
  wpAny c.M A (eval e₁ env) (λy s₁=>wpAny c.M A (eval e₂ env) (λy' s₂=>wpAny c.M A (t y y') (Res c as X s.heap Q) (ERes c as X s.heap XX) s₂) (ERes c as X s.heap XX) s₁) (ERes c as X s.heap XX) s:=by
 refine wpAny_mono (h₁.run R w) (λy s₁ r=>?_) λ_ _ e=>e
 obtain⟨v,H₁,as₁,e1,S1,k1,hv,w1⟩:=r
 refine wpAny_mono (h₂.run (R.next e1 k1 S1) w1) (λy' s₂ r=>?_) λ_ _ e=>e.lift e1 k1
 obtain⟨v',H₂,as₂,e2,S2,k2,hv',w2⟩:=r
 refine wpAny_mono (tail S2 (hv.keep k2 e2) hv' w2) (λx s₃ r=>?_) λ_ _ e=>(e.lift e2 k2).lift e1 k1
 exact(r.lift e2 k2).lift e1 k1
theorem q8{p:Prim}{vs:List V}{H:AH}:aY c.P false p vs H=prim c.P p vs H:=rfl
theorem g8{x:Str}{g:Gl}(h:T.glob x=some g):T.names.lookup x=some .globalImplicit/\T.gl.lookup x=some g/\(x==("__debug__":Str))=false:=by
 replace h:=oS h
 refine cO (h) λhd h=>?_
 refine cO (eT h) λh1 h2=>?_
 exact⟨h1,h2,hd⟩
theorem uR{x:Str}{pos:Pos}{g:Gl}{env:Env}{A:Around}{s:Shared}{R:Value->Shared->Prop}{E:Value->Shared->Prop}{y:Value}
  (C:Cok c T.gl)(h:T.glob x=some g)(hk:env.scope.kind=.function)(eg:env.globals=mainGlobals)(eb:env.builtins=builtinsNs)(K:KOk T env)(st:c.base.StaysIn s.heap)(hy:c.mg x=some y\/(c.mg x=none/\c.mb x=some y))(r:R y s):wpAny c.M A (eval (.Name x pos) env) R E s:=by
 refine Name_function_global hk (K.glob x (g8 h).1) ?_ (g8 h).2.2
 haveI hg:s.heap.Ns env.globals c.mg:=eg▸C.g.keeps st
 exact hy.elim (λhy=>loadGlobal_global hg hy r) λhy=>loadGlobal_builtin hg hy.1 (eb▸C.b.keeps st) hy.2 r
theorem jj{x:Str}{pos:Pos}{g:Gl}{env:Env}{A:Around}{s:Shared}{as:bA}{X:List Addr}{H:AH}{ρ:Fm}{R:Value->Shared->Prop}{E:Value->Shared->Prop}{y:Value}
  (C:Cok c T.gl)(h:T.glob x=some g)(Rd:Rdy c T env A n s as X H ρ)(hy:c.mg x=some y\/(c.mg x=none/\c.mb x=some y))(r:R y s):wpAny c.M A (eval (.Name x pos) env) R E s:=uR C h Rd.F.kind Rd.F.glob Rd.F.bi Rd.K Rd.S.stays hy r
theorem FO{x:Str}{i:Nat}(h:T.var x=some i):T.tab.lookup x=some i/\(T.names.lookup x=some .local\/T.names.lookup x=some .cell\/T.names.lookup x=some .free)/\(x==("__debug__":Str))=false/\(x==("__classdict__":Str))=false:=by
 replace h:=oS h
 refine cO (h) λhd h=>?_
 refine cO (eT h) λh1 h2=>?_
 exact⟨h2,h1,GT.mp hd⟩
theorem lC{s:Str}{l:List Char}(h:oJ s=some l):toS l=s/\l.length<=jR:=by
 replace h:=c5 h
 obtain⟨hh,rfl⟩:=h
 exact⟨hh.1,aa hh.2 (by decide)⟩
theorem zf{cst:Const}{kk:Nat}{pos:Pos}{ex:Ex}(h:yg cst=some ex):SE c n T (.Constant cst kk pos) ex:=by
 refine⟨?_⟩
 intro env A s as X H ρ Q XX R w
 induction cst with
 |none=>(replace h:=ai h;(replace h:=Eq.symm h;subst h));exact wpAny_pure (Res.now (tk:=s.toks) R.S .none w)
 |bool=>(replace h:=ai h;subst h);exact wpAny_pure (Res.now (tk:=s.toks) R.S (.bool _) w)
 |int=>(replace h:=ai h;subst h);exact wpAny_Constant_int (Res.now R.S (.int _ _) w)
 |str=>
  refine ea1_2 (dF h) ?_
  intro l h1 h2
  subst h2
  refine cO (lC h1) λh3 h4=>?_
  refine Constant_str ?_
  subst h3
  exact Res.now R.S (.str _ _ h4) w
 |_=>exact eY h
theorem xg{x:Str}{ex:Ex}(h:zt T x=some ex):(∃i,T.var x=some i/\ex=.var i)\/∃v,T.glob x=some (.cst v)/\ex=.cst v:=by
 refine Is.of (o:=Jd (glE (T.glob x)) (T.var x)) (R:=λex=>(∃i,T.var x=some i/\ex=.var i)\/∃v,T.glob x=some (.cst v)/\ex=.cst v) ?_ h
 clear h
 generalize T.var x=a
 induction a with
 |some i=>exact .inl ⟨i,rfl,rfl⟩
 |none=>
  generalize T.glob x=b
  induction b with
  |none=>exact trivial
  |some g=>
   induction g with
   |cst v=>exact .inr ⟨v,rfl,rfl⟩
   |_=>exact trivial
theorem s0{P:Prog}{C:Calls}{i:Nat}{ρ:Fm}{H:AH}{Q:QE}{XX:XE}(w:cz P C (.var i) ρ H Q XX):∃v,ρ[i]? =some (some v)/\Q v H:=by
 simp only [uD]at w
 match h:ρ[i]?,w with
 |some (some v),w=>exact⟨v,rfl,w⟩
theorem AY{x:Str}{pos:Pos}{ex:Ex}(C:Cok c T.gl)(h:zt T x=some ex):SE c n T (.Name x pos) ex:=by
 refine⟨?_⟩
 intro env A s as X H ρ Q XX R w
 refine Or.elim (xg h) (λq_=>?_) (λq_=>?_)
 ·obtain ⟨i,hi,rfl⟩:=q_;refine ux (FO hi) ?_
  intro h1 h2 h3 h4
  refine ea1_2 (s0 w) ?_
  intro v hv w
  refine wpAny_Name (Fz R.S R.F h1 ?_ hv h4 w) h3
  rcases h2 with h2|h2|h2
  ·exact .inl (R.K.loc x h2)
  ·exact .inr (.inl (R.K.cell x h2))
  ·refine Or.elim (R.K.free x h2) (λq=>?_) λq=>?_
   ·exact .inr (.inr q)
   ·exact .inr (.inl q)
 ·obtain ⟨v,hg,rfl⟩:=q_;refine ea0_3 (g8 hg) ?_
  intro h1 h2 h3
  refine ea1_2 (C.gl x _ h2) ?_
  intro y e1 e2
  exact jj C hg R (.inl e1) (Res.now (tk:=s.toks) R.S (e2 _ _ _) w)
theorem iI{e₁ e₂:Expr}{x₁ x₂:Ex}{p:Prim}{mu:Bool}{env:Env}{A:Around}{s:Shared}{as:bA}{X:List Addr}{H:AH}{ρ:Fm}{XX:XE}{t:Value->Value->Sem Value}{Q:QE}
  (h₁:SE c n T e₁ x₁)(h₂:SE c n T e₂ x₂)(R:Rdy c T env A n s as X H ρ)(w:cz c.P (aJ c.P n) (.prim mu p [x₁,x₂]) ρ H Q XX)
  (tail:∀{s':Shared} {as':bA} {H':AH} {v v':V} {y y':Value},SR c as' X H' s'->VR c as' X s'.heap v y->VR c as' X s'.heap v' y'->g7 (aY c.P mu p [v,v'] H') Q->wpAny c.M A (t y y') (Res c as' X s'.heap Q) (ERes c as' X s'.heap XX) s') :
  wpAny c.M A (eval e₁ env) (λy s₁=>wpAny c.M A (eval e₂ env) (λy' s₂=>wpAny c.M A (t y y') (Res c as X s.heap Q) (ERes c as X s.heap XX) s₂) (ERes c as X s.heap XX) s₁) (ERes c as X s.heap XX) s:=by
 simp only [fm,dX]at w
 simp only [dX,fw]at w
 exact Ek (W:=λv v' H'=>g7 (aY c.P mu p [v,v'] H') Q) h₁ h₂ R w tail
theorem cG{r:Option (V×AH)}{Q:QE}(h:g7 r Q):∃v H',r=some (v,H')/\Q v H':=by
 induction r with
 |none=>exact h.elim
 |some p=>exact⟨p.1,p.2,rfl,h⟩
theorem iZ{r:Option Bool}{K:Bool->Prop}(h:mK r K):∃b,r=some b/\K b:=by
 induction r with
 |none=>exact h.elim
 |some p=>exact⟨p,rfl,h⟩
theorem rO{A:Around}{E:Value->Shared->Prop}{s:Shared}{as:bA}{X:List Addr}{H:AH}{Q:QE}{x y:V}{cx cy:Value}{xs ys:List V}(S:SR c as X H s)(hx:VR c as X s.heap x cx)(hy:VR c as X s.heap y cy)(ex:dJ H x=some xs)(ey:dJ H y=some ys)
  (hz:xs.length+ys.length<=az)(q:Q (.ref H.length) (H++[.list (xs++ys)])):wpAny c.M A (binaryOp .Add cx cy) (Res c as X s.heap Q) E s:=by
 obtain⟨a,its,rfl,⟨n,ha⟩,ra,_⟩:=eP S hx ex
 obtain⟨b,its',rfl,⟨n',hb⟩,rb,_⟩:=eP S hy ey
 refine P.add_list ha hb (FreshL.thawed S (i7 (tk:=s.toks) S (.push _ _) (be _ rfl) ((gA).symm▸ra.append rb) (aa (ao af) (aa hz (aa (aq _ 5) dZ)))) q) ?_
 rw [ra.len_arr,rb.len_arr]
 exact aa hz cB
theorem m9{op:Operator}{o:Bop}(h:uG op=some o):op=zK o:=Is.of (R:=λo=>op=zK o) (by cases op<;>first|exact rfl|exact trivial) h
theorem xy{l r:Expr}{op:Operator}{o:Bop}{pos:Pos}{a b:Ex}{mu:Bool}(ho:uG op=some o)(h₁:SE c n T l a)(h₂:SE c n T r b):SE c n T (.BinOp l op r pos) (.prim mu (.bop o) [a,b]):=by
 refine⟨?_⟩
 intro env A s as X H ρ Q XX R w
 refine wpAny_BinOp (iI h₁ h₂ R w λS hv hv' q=>?_)
 induction mu with
 |false=>
  refine d0 (cG q) ?_
  intro v H' e q'
  refine ea1_2 (bq.mp (show(xW o _ _ _).map _=_ from e)) ?_
  intro z e1 e2
  cases e2
  exact Br S hv hv' (m9 ho) e1 q'
 |true=>
  haveI e:=m9 ho
  subst e
  induction o with
  |add=>
   refine d0 (cG (show g7 (((FY _ _ _).map _).bind _) Q from q)) λr H' e q'=>?_
   refine ea1_2 (bY e) λz e1 e2=>?_
   refine ea1_2 (dF e1) λu e3 e4=>?_
   subst e4
   cases pI e3 with
   |lst h1 h2 h3=>
    (obtain⟨rfl,rfl⟩:=oC e2;clear e2)
    exact rO S hv hv' h1 h2 h3 q'
   |_=>exact eY e2
  |_=>exact q.elim
theorem Ez{l r:Expr}{op:Operator}{o:Bop}{pos:Pos}{a b:Ex}(ho:uG op=some o)(hm:o=.mul)(h₁:SE c n T l a)(h₂:SE c n T r b):SE c n T (.BinOp l op r pos) (.prim true .rep [a,b]):=by
 refine⟨?_⟩
 intro env A s as X H ρ Q XX R w
 refine wpAny_BinOp (iI h₁ h₂ R w λ{s' as' H' v v' y y'} S hv hv' q=>?_)
 haveI e:=m9 ho
 subst hm
 subst e
 replace q:g7 ((HR [v,v'] H').bind λr=>kT r.1 r.2) Q:=q
 cases v with
 |lst vs=>
  cases vs with
  |nil=>exact q.elim
  |cons x vs=>
   induction vs with
   |cons _ _=>exact q.elim
   |nil=>
    cases v' with
    |int k=>
     replace q:g7 ((if 0<=k/\k<=1000 then some (V.lst (bH k.toNat x),H')else none:Option (V×AH)).bind λr=>kT r.1 r.2) Q:=q
     by_cases h:0<=k/\k<=1000
     ·rw [if_pos h]at q
      exact Iq S hv hv' h.1 h.2 q
     ·rw [if_neg h]at q
      exact q.elim
    |_=>exact q.elim
 |_=>exact q.elim
inductive A2{α β:Type}(R:α->β->Prop):List α->List β->Prop
 |nil:A2 R [] []
 |cons {a:α} {b:β} {l:List α} {m:List β}:R a b->A2 R l m->A2 R (a::l) (b::m)
theorem kJ{v:V}{b:Bool}(h:fk v=some b):v=.bool b:=Is.of (R:=λb=>v=.bool b) (by cases v<;>first|exact rfl|exact trivial) h
theorem yp{e:Expr}{ex:Ex}(hp:∀env whole,isTrue e env whole=(do let v <-whole;standAt e.pos;holding [v] (truthy v)))(h:SE c n T e ex):ST c n T e ex:=by
 refine⟨?_⟩
 intro env A s as X H ρ P Q XX hP R w
 rw [hp]
 refine wpAny_bind (wpAny_mono (h.run R w) (λy s₁ r=>wpAny_bind (wpAny_standAt (wpAny_holding ?_))) λ_ _ e=>e)
 obtain⟨v,H₁,as₁,e1,S1,k1,hv,q⟩:=r
 replace q:=iZ (hP _ _ q)
 refine ea1_2 q ?_
 clear q
 intro b hb q
 clear h hp hP w
 cases kJ hb
 cases hv.inv
 exact wpAny_truthy_bool ⟨H₁,as₁,e1,S1,k1,q⟩
theorem EF{x:Expr}{pos:Pos}{a:Ex}(h:SE c n T x a):SE c n T (.UnaryOp .Not x pos) (.prim false .not [a]):=by
 refine⟨?_⟩
 intro env A s as X H ρ Q XX R w
 simp only [fm,dX]at w
 simp only [fw]at w
 refine wpAny_UnaryOp (wpAny_mono (h.run R w) (λy s₁ r=>?_) λ_ _ e=>e)
 obtain⟨v,H₁,as₁,e1,S1,k1,hv,q⟩:=r
 refine d0 (cG q) ?_
 intro v' H' e q'
 refine ea1_2 (dF (e:(fk v).map _=_)) ?_
 intro b e2 e3
 replace e2:=kJ e2
 subst e2
 cases e3
 cases hv.inv
 exact not_of (wpAny_truthy_bool ((Res.now (tk:=s₁.toks) S1 (.bool _) q').lift e1 k1))
theorem D7{x:Expr}{pos:Pos}{a:Ex}(h:ST c n T x a):ST c n T (.UnaryOp .Not x pos) (.prim false .not [a]):=by
 refine⟨?_⟩
 intro env A s as X H ρ P Q XX hP R w
 simp only [fm,dX]at w
 simp only [fw]at w
 refine wpAny_isTrue_Not (wpAny_mono (h.run (Q:=λb H'=>Q (!b) H') (λv H' q=>?_) R w) (λb s₁ r=>let⟨H₁,as₁,e1,S1,k1,q⟩:=r;⟨H₁,as₁,e1,S1,k1,q⟩) λ_ _ e=>e)
 clear h w R
 refine d0 (cG q) ?_
 intro r H'' e q
 refine ea1_2 (dF (e:(fk v).map _=_)) ?_
 intro b e2 e3
 clear e
 cases e3
 rw [e2]
 exact hP _ _ q
theorem Gr{x:Expr}{pos:Pos}{a:Ex}(h:SE c n T x a):SE c n T (.UnaryOp .USub x pos) (.prim false .neg [a]):=by
 refine⟨?_⟩
 intro env A s as X H ρ Q XX R w
 simp only [fm,dX]at w
 simp only [fw]at w
 refine wpAny_UnaryOp (wpAny_mono (h.run R w) (λy s₁ r=>?_) λ_ _ e=>e)
 obtain⟨v,H₁,as₁,e1,S1,k1,hv,q⟩:=r
 refine d0 (cG q) ?_
 intro v' H' e q'
 refine ea1_2 (dF (e:v.num.map _=_)) ?_
 intro i e2 e3
 replace e2:=V.num_is e2
 subst e2
 cases e3
 cases hv.inv
 exact PyProof.Rows.neg_int ((Res.now S1 (.int _ _) q').lift e1 k1)
theorem su{pos:Pos}{op:BoolOp}{e₁ e₂:Expr}{es:List Expr}{env:Env}:boolOp pos op (evalEach (e₁::e₂::es) env)=(do
  let v <-eval e₁ env
  standAt pos
  let t <-holding [v] (truthy v)
  if tD op t then boolOp pos op (evalEach (e₂::es) env)else pure v):=by
 refine(?_:(eval e₁ env>>= λv=>standAt pos>>= λ_=>holding [v] (truthy v)>>= λt=>_)=_)
 congr 1;funext v;congr 1;funext _;congr 1;funext t
 cases op<;>cases t<;>rfl
theorem Cc{op:BoolOp}{pos:Pos}{env:Env}{A:Around}{X:List Addr}{ρ:Fm}{XX:XE}{es:List Expr}{xs:List Ex}(h:A2 (SE c n T) es xs):∀{ex:Ex} {s:Shared} {as:bA} {H:AH} {Q:QE},qw op xs=some ex->
  Rdy c T env A n s as X H ρ->cz c.P (aJ c.P n) ex ρ H Q XX->wpAny c.M A (boolOp pos op (evalEach es env)) (Res c as X s.heap Q) (ERes c as X s.heap XX) s:=by
 induction h with
 |nil=>intro ex s as H Q h;exact eY h
 |cons h₁ h₂ ih=>
  intro ex s as H Q h R w
  cases h₂ with
  |nil=>(replace h:=ai h;(replace h:=Eq.symm h;subst h));exact h₁.run R w
  |cons h₂ h₃=>
   refine ea1_2 (dF h) ?_
   clear h
   intro y hy hex
   subst hex
   simp only [uz]at w
   rw [su]
   refine wpAny_bind (wpAny_mono (h₁.run R w) (λv s₁ r=>?_) λ_ _ e=>e)
   obtain⟨v,H₁,as₁,e1,S1,k1,hv,q⟩:=r
   refine ea1_2 (iZ q) ?_
   clear q w h₁
   intro b hb q
   cases kJ hb
   cases hv.inv
   refine wpAny_bind (wpAny_standAt (wpAny_bind (wpAny_holding (wpAny_truthy_bool ?_))))
   by_cases g:tD op b=true
   ·rw [if_pos g]at q ⊢;exact wpAny_mono (ih hy (R.next e1 k1 S1) q) (λ_ _ r=>r.lift e1 k1) λ_ _ e=>e.lift e1 k1
   ·rw [if_neg g]at q ⊢;exact wpAny_pure ((Res.now (tk:=s₁.toks) S1 (.bool _) q).lift e1 k1)
theorem p5{op:BoolOp}{e₁:Expr}{es:List Expr}{env:Env}:allTrue op (e₁::es) env=(do
  let t <-isTrue e₁ env (eval e₁ env)
  if tD op t then allTrue op es env else pure t):=by
 simp only [arm_allTrue_cons]
 congr 1;funext t
 cases op<;>cases t<;>rfl
theorem Cb{op:BoolOp}{env:Env}{A:Around}{X:List Addr}{ρ:Fm}{XX:XE}{es:List Expr}{xs:List Ex}(h:A2 (ST c n T) es xs):∀{ex:Ex} {s:Shared} {as:bA} {H:AH} {P:QE} {Q:Bool->AH->Prop},qw op xs=some ex->(∀v H,P v H->mK (fk v) λb=>Q b H)->
  Rdy c T env A n s as X H ρ->cz c.P (aJ c.P n) ex ρ H P XX->wpAny c.M A (allTrue op es env) (ResB c as X s.heap Q) (ERes c as X s.heap XX) s:=by
 induction h with
 |nil=>intro ex s as H P Q h;exact eY h
 |cons h₁ h₂ ih=>
  intro ex s as H P Q h hP R w
  rw [p5]
  cases h₂ with
  |nil=>
   (replace h:=ai h;(replace h:=Eq.symm h;subst h))
   refine wpAny_bind (wpAny_mono (h₁.run hP R w) (λb s₁ r=>?_) λ_ _ e=>e)
   by_cases g:tD op b=true
   ·cases op<;>cases b<;>first|exact wpAny_pure r|cases g
   ·exact (if_neg g)▸wpAny_pure r
  |cons h₂ h₃=>
   refine ea1_2 (dF h) ?_
   clear h
   intro y hy hex
   subst hex
   simp only [uz]at w
   refine wpAny_bind (wpAny_mono (h₁.run (Q:=λt H'=>if tD op t then cz c.P (aJ c.P n) y ρ H' P XX else P (.bool t) H') (λ_ _ q=>q) R w) (λb s₁ r=>?_) λ_ _ e=>e)
   obtain⟨H₁,as₁,e1,S1,k1,q⟩:=r
   clear w h₁
   by_cases g:tD op b=true
   ·rw [if_pos g]at q ⊢;exact wpAny_mono (ih hy hP (R.next e1 k1 S1) q) (λ_ _ r=>r.lift e1 k1) λ_ _ e=>e.lift e1 k1
   ·rw [if_neg g]at q ⊢;exact wpAny_pure ⟨H₁,as₁,e1,S1,k1,hP _ _ q⟩
theorem zJ(op:CmpOp):Dy (fL op)=op:=by cases op<;>rfl
theorem m8{A:Around}{E:Value->Shared->Prop}{s:Shared}{as:bA}{X:List Addr}{H:AH}{Q:QE}{op:CmpOp}{x y:V}{cx cy:Value}{b:Bool}(S:SR c as X H s)(hx:VR c as X s.heap x cx)(hy:VR c as X s.heap y cy)(hu:A.units+64<cLine)
  (e:iV (fL op) x y H=some b)(q:Q (.bool b) H):wpAny c.M A (compareOp op cx cy) (Res c as X s.heap Q) E s:=by
 haveI h:=JT (A:=A) (E:=E) S hx hy hu e q
 rw [zJ]at h
 exact h
theorem Fj{l r:Expr}{op:CmpOp}{pos:Pos}{a b:Ex}(hm:behindInMarks op r=false)(h₁:SE c n T l a)(h₂:SE c n T r b):SE c n T (.Compare l [op] [r] pos) (.prim false (.cop (fL op)) [a,b]):=by
 refine⟨?_⟩
 intro env A s as X H ρ Q XX R w
 refine wpAny_Compare1 (iI h₁ h₂ R w λS hv hv' q=>?_) hm
 refine d0 (cG q) ?_
 intro v H' e q'
 refine ea1_2 (dF (e:(iV (fL op) _ _ _).map _=_)) ?_
 intro z e1 e2
 cases e2
 exact m8 S hv hv' R.a.u64 e1 q'
theorem EO{l r:Expr}{op:CmpOp}{pos:Pos}{a b:Ex}(hm:behindInMarks op r=false)(h₁:SE c n T l a)(h₂:SE c n T r b):ST c n T (.Compare l [op] [r] pos) (.prim false (.cop (fL op)) [a,b]):=by
 refine⟨?_⟩
 intro env A s as X H ρ P Q XX hP R w
 refine wpAny_isTrue_Compare1 ?_ hm
 simp only [fm,dX]at w
 simp only [dX,fw]at w
 refine wpAny_mono (h₁.run R w) (λy s₁ r=>?_) λ_ _ e=>e
 obtain⟨v,H₁,as₁,e1,S1,k1,hv,w1⟩:=r
 refine wpAny_mono (h₂.run (R.next e1 k1 S1) w1) (λy' s₂ r=>?_) λ_ _ e=>e.lift e1 k1
 obtain⟨v',H₂,as₂,e2,S2,k2,hv',w2⟩:=r
 refine d0 (cG w2) ?_
 intro z H' e q'
 refine ea1_2 (dF (e:(iV (fL op) v v' _).map _=_)) ?_
 intro t e3 e4
 cases e4
 replace q':=iZ (hP _ _ q')
 refine ea1_2 q' ?_
 intro t' h5 q'
 (replace h5:=ai h5;subst h5)
 haveI:=m8 (A:=A) (E:=ERes c as X s.heap XX) (Q:=λv H=>v=.bool t/\Q t H) S2 (hv.keep k2 e2) hv' R.a.u64 e3 ⟨rfl,q'⟩
 refine wpAny_mono this (λx s₃ r=>?_) λ_ _ e=>e
 obtain⟨v3,H3,as3,e6,S3,k3,hv3,rfl,q3⟩:=r
 cases hv3.inv
 exact wpAny_truthy_bool ((ResB.lift e1 k1 (ResB.lift e2 k2 ⟨H3,as3,e6,S3,k3,q3⟩)))
theorem rk{l m:Expr}{o₁ o₂:CmpOp}{a b d:Ex}(h₁:SE c n T l a)(h₂:SE c n T m b)
  {env:Env}{A:Around}{s:Shared}{as:bA}{X:List Addr}{H:AH}{ρ:Fm}{Q:QE}{XX:XE}(R:Rdy c T env A n s as X H ρ)(w:cz c.P (aJ c.P n) (.cmp2 a (fL o₁) b (fL o₂) d) ρ H Q XX)
  {α:Type}{k₁:Value->Value->Value->Sem α}{R₀:α->Shared->Prop}
  (no:∀{s':Shared} {as':bA} {H':AH} {y y':Value},Ext as s.heap as'->Kept as X s.heap s'.heap->SR c as' X H' s'->Q (.bool false) H'->wpAny c.M A (k₁ y y' (.bool false)) R₀ (ERes c as X s.heap XX) s')
  (yes:∀{s':Shared} {as':bA} {H':AH} {v':V} {y y':Value},Ext as s.heap as'->Kept as X s.heap s'.heap->SR c as' X H' s'->VR c as' X s'.heap v' y'->
   cz c.P (aJ c.P n) d ρ H' (λz H₃=>mK (iV (fL o₂) v' z H₃) λt'=>Q (.bool t') H₃) XX->wpAny c.M A (k₁ y y' (.bool true)) R₀ (ERes c as X s.heap XX) s') :
  wpAny c.M A (eval l env) (λy s₁=>wpAny c.M A (eval m env) (λy' s₂=>wpAny c.M A (compareOp o₁ y y') (λx s₃=>wpAny c.M A (k₁ y y' x) R₀ (ERes c as X s.heap XX) s₃) (ERes c as X s.heap XX) s₂) (ERes c as X s.heap XX) s₁) (ERes c as X s.heap XX) s:=by
 simp only [xR]at w
 refine wpAny_mono (h₁.run R w) (λy s₁ r=>?_) λ_ _ e=>e
 obtain⟨v,H₁,as₁,e1,S1,k1,hv,w1⟩:=r
 refine wpAny_mono (h₂.run (R.next e1 k1 S1) w1) (λy' s₂ r=>?_) λ_ _ e=>e.lift e1 k1
 obtain⟨v',H₂,as₂,e2,S2,k2,hv',w2⟩:=r
 refine ea1_2 (iZ w2) ?_
 intro t e3 q
 have:=m8 (A:=A) (E:=ERes c as X s.heap XX) (Q:=λv H=>v=.bool t/\H=H₂) S2 (hv.keep k2 e2) hv' R.a.u64 e3 ⟨rfl,rfl⟩
 refine wpAny_mono this (λx s₃ r=>?_) λ_ _ e=>e
 obtain⟨v3,H3,as3,e6,S3,k3,hv3,rfl,rfl⟩:=r
 cases hv3.inv
 haveI E:=(e1.trans k1 e2).trans (k1.trans e1 k2) e6
 haveI K:=(k1.trans e1 k2).trans (e1.trans k1 e2) k3
 induction t with
 |false=>exact no E K S3 q
 |true=>exact yes E K S3 (hv'.keep k3 e6) q
theorem Bu{l m r:Expr}{o₁ o₂:CmpOp}{pos:Pos}{a b d:Ex}(hm:behindInMarks o₂ r=false)(h₁:SE c n T l a)(h₂:SE c n T m b)(h₃:SE c n T r d):SE c n T (.Compare l [o₁,o₂] [m,r] pos) (.cmp2 a (fL o₁) b (fL o₂) d):=by
 refine⟨?_⟩
 intro env A s as X H ρ Q XX R w
 haveI e0:eval (.Compare l [o₁,o₂] [m,r] pos) env=(do
   let x <-eval l env
   let y <-holding [x] (eval m env)
   standAt pos
   let z <-holding [x,y] (compareOp o₁ x y)
   release [x,y] [z]
   if <-holding [z,y] (truthy z)then(do
    let u <-holding [y] (eval r env)
    standAt pos
    operate [y,u] (compareOp o₂ y u))else pure z):=by
  haveI:eval (.Compare l [o₁,o₂] [m,r] pos) env=(do compareChain pos (<-eval l env) [o₁,o₂] [eval m env,markedBehindIn o₂ r (eval r env)]):=rfl
  rw [this,markedBehindIn_of_false hm]
  rfl
 rw [e0]
 haveI hrun:=rk (k₁:=λx y z=>(do
   release [x,y] [z]
   if <-holding [z,y] (truthy z)then(do
    let u <-holding [y] (eval r env)
    standAt pos
    operate [y,u] (compareOp o₂ y u))else pure z)) (R₀:=Res c as X s.heap Q) h₁ h₂ R w ?_ ?_
 ·refine wpAny_bind (wpAny_mono hrun (λx s₁ r=>wpAny_bind (wpAny_holding (wpAny_mono r (λy s₂ r=>wpAny_bind (wpAny_standAt (wpAny_bind (wpAny_holding r)))) λ_ _ e=>e))) λ_ _ e=>e)
 ·intro s' as' H' y y' E K S q
  refine wpAny_bind (wpAny_release (wpAny_bind (wpAny_holding (wpAny_truthy_bool ?_))))
  exact wpAny_pure ((Res.now (tk:=s'.toks) S (.bool _) q).lift E K)
 ·intro s' as' H' v' y y' E K S hv' w3
  refine wpAny_bind (wpAny_release (wpAny_bind (wpAny_holding (wpAny_truthy_bool ?_))))
  refine wpAny_bind (wpAny_holding (wpAny_mono (h₃.run (R.next E K S) w3) (λu s₂ r=>?_) λ_ _ e=>e.lift E K))
  obtain⟨v4,H4,as4,e4,S4,k4,hv4,q4⟩:=r
  refine ea1_2 (iZ q4) ?_
  intro t e5 q5
  refine wpAny_bind (wpAny_standAt (wpAny_operating ?_))
  haveI:=m8 (A:=A) (E:=ERes c as X s.heap XX) S4 (hv'.keep k4 e4) hv4 R.a.u64 e5 q5
  exact wpAny_mono this (λ_ _ r=>(r.lift e4 k4).lift E K) λ_ _ e=>e
theorem Bh{l m r:Expr}{o₁ o₂:CmpOp}{pos:Pos}{a b d:Ex}(hm:behindInMarks o₂ r=false)(h₁:SE c n T l a)(h₂:SE c n T m b)(h₃:SE c n T r d):ST c n T (.Compare l [o₁,o₂] [m,r] pos) (.cmp2 a (fL o₁) b (fL o₂) d):=by
 refine⟨?_⟩
 intro env A s as X H ρ P Q XX hP R w
 haveI e0:isTrue (.Compare l [o₁,o₂] [m,r] pos) env (eval (.Compare l [o₁,o₂] [m,r] pos) env)=(do
   let x <-eval l env
   let y <-holding [x] (eval m env)
   standAt pos
   let z <-holding [x,y] (compareOp o₁ x y)
   release [x,y] [z]
   if <-holding [z,y] (truthy z)then(do
    let u <-holding [y] (eval r env)
    standAt pos
    let z' <-operate [y,u] (compareOp o₂ y u)
    holding [z'] (truthy z'))else pure false):=by
  haveI:isTrue (.Compare l [o₁,o₂] [m,r] pos) env (eval (.Compare l [o₁,o₂] [m,r] pos) env)=(do testChain pos (<-eval l env) [o₁,o₂] [eval m env,markedBehindIn o₂ r (eval r env)]):=rfl
  rw [this,markedBehindIn_of_false hm]
  rfl
 rw [e0]
 haveI hrun:=rk (k₁:=λx y z=>(do
   release [x,y] [z]
   if <-holding [z,y] (truthy z)then(do
    let u <-holding [y] (eval r env)
    standAt pos
    let z' <-operate [y,u] (compareOp o₂ y u)
    holding [z'] (truthy z'))else pure false)) (R₀:=ResB c as X s.heap Q) h₁ h₂ R w ?_ ?_
 ·refine wpAny_bind (wpAny_mono hrun (λx s₁ r=>wpAny_bind (wpAny_holding (wpAny_mono r (λy s₂ r=>wpAny_bind (wpAny_standAt (wpAny_bind (wpAny_holding r)))) λ_ _ e=>e))) λ_ _ e=>e)
 ·intro s' as' H' y y' E K S q
  refine wpAny_bind (wpAny_release (wpAny_bind (wpAny_holding (wpAny_truthy_bool ?_))))
  exact wpAny_pure ⟨H',as',E,S,K,hP _ _ q⟩
 ·intro s' as' H' v' y y' E K S hv' w3
  refine wpAny_bind (wpAny_release (wpAny_bind (wpAny_holding (wpAny_truthy_bool ?_))))
  refine wpAny_bind (wpAny_holding (wpAny_mono (h₃.run (R.next E K S) w3) (λu s₂ r=>?_) λ_ _ e=>e.lift E K))
  obtain⟨v4,H4,as4,e4,S4,k4,hv4,q4⟩:=r
  refine ea1_2 (iZ q4) ?_
  intro t e5 q5
  refine wpAny_bind (wpAny_standAt (wpAny_bind (wpAny_operating ?_)))
  haveI:=m8 (A:=A) (E:=ERes c as X s.heap XX) (Q:=λv H=>v=.bool t/\Q t H) S4 (hv'.keep k4 e4) hv4 R.a.u64 e5 ⟨rfl,hP _ _ q5⟩
  refine wpAny_mono this (λ_ _ r=>?_) λ_ _ e=>e
  obtain⟨v3,H3,as3,e6,S3,k3,hv3,rfl,q3⟩:=r
  cases hv3.inv
  exact wpAny_holding (wpAny_truthy_bool (ResB.lift E K (ResB.lift e4 k4 ⟨H3,as3,e6,S3,k3,q3⟩)))
def NS(e:Expr):Prop:=∀a p,e≠.Starred a p
theorem jn{e:Expr}(h:NS e)(r:List Expr)(env:Env):starEach (e::r) env=(false,eval e env)::starEach r env:=by
 cases e with
 |Starred a p=>exact absurd rfl (h a p)
 |_=>rfl
abbrev qz(c:Cx)(n:Nat)(T:Tb)(es:List Expr)(xs:List Ex):Prop:=A2 (λe x=>SE c n T e x/\NS e) es xs
theorem p7{pos:Pos}{env:Env}{A:Around}{X:List Addr}{ρ:Fm}{XX:XE}{es:List Expr}{xs:List Ex}(h:qz c n T es xs):∀{s:Shared} {as:bA} {H:AH} {Q:List V->AH->Prop},Rdy c T env A n s as X H ρ->
  fR c.P (aJ c.P n) xs ρ H Q XX->wpAny c.M A (spliced (backTo pos (starEach es env))) (ResL c as X s.heap (λvs H'=>vs.length=xs.length/\Q vs H')) (ERes c as X s.heap XX) s:=by
 induction h with
 |nil=>exact λR w=>spliced_nil ⟨[],_,_,.refl ..,R.S,Kept.refl _ _ _,.nil,rfl,w⟩
 |cons h₁ _ ih=>
  intro s as H Q R w
  rw [jn h₁.2]
  refine spliced_cons ?_
  simp only [dX]at w
  refine wpAny_mono (h₁.1.run R w) (λy s₁ r=>?_) λ_ _ e=>e
  obtain⟨v,H₁,as₁,e1,S1,k1,hv,w1⟩:=r
  refine wpAny_mono (ih (R.next e1 k1 S1) w1) (λys s₂ r=>?_) λ_ _ e=>e.lift e1 k1
  obtain⟨vs,H₂,as₂,e2,S2,k2,hvs,hl,q⟩:=r
  exact⟨v::vs,H₂,as₂,e1.trans k1 e2,S2,k1.trans e1 k2,.cons (hv.keep k2 e2) hvs,congrArg mV hl,q⟩
theorem fZ{f:Value}{pos:Pos}{env:Env}{A:Around}{X:List Addr}{ρ:Fm}{XX:XE}{es:List Expr}{xs:List Ex}{s:Shared}{as:bA}{H:AH}{Q:List V->AH->Prop}(h:qz c n T es xs)(R:Rdy c T env A n s as X H ρ)
  (w:fR c.P (aJ c.P n) xs ρ H Q XX):wpAny c.M A (evalArgs f true (backTo pos (starEach es env)) []) (λa s'=>a.kw=[]/\ResL c as X s.heap (λvs H'=>vs.length=xs.length/\Q vs H') a.pos s') (ERes c as X s.heap XX) s:=by
 haveI hr:=p7 (pos:=pos) h R w
 induction h with
 |nil=>exact evalArgs_kw_nil (keywords:=[]) rfl (wpAny_evalAll_nil ⟨rfl,⟨[],H,as,.refl ..,R.S,Kept.refl _ _ _,.nil,rfl,w⟩⟩)
 |cons h₁ h₂=>
  rw [jn h₁.2]at hr ⊢
  exact evalArgs_plain (wpAny_mono hr (λvs s' r=>⟨rfl,r⟩) λ_ _ e=>e)
theorem m5{es:List Expr}{xs:List Ex}{pos:Pos}{env:Env}(h:qz c n T es xs):(backTo pos (starEach es env)).any (·.1)=false:=by
 induction h with
 |nil=>rfl
 |cons h₁ _ ih=>rw [jn h₁.2];exact ih
theorem B7{g:Str}{p pos:Pos}{args:List Expr}{xs:List Ex}{f:Nat}(C:Cok c T.gl)(sc:SC c n)(hg:T.glob g=some (.fn f))(hf:∃fn,c.P.fns f=some fn)(h:qz c n T args xs):SE c n T (.Call (.Name g p) args [] pos) (.call f xs):=by
 refine⟨?_⟩
 intro env A s as X H ρ Q XX R w
 obtain⟨fn,hf⟩:=hf
 simp only [xA]at w
 haveI e1:=C.gl g _ (g8 hg).2.1
 refine wpAny_Call_Name_kw (jj C hg R (.inl e1) ?_)
 refine callWith_function (o:=(C.fobj f fn hf).choose) (fd:=c.fdat f) (wpAny_mono (fZ h R w) (λa s₁ r=>?_) λ_ _ e=>e)
 obtain⟨hk,vs,H₁,as₁,e1,S1,k1,hvs,_,q⟩:=r
 haveI ho:=(C.fobj f fn hf).choose_spec
 refine⟨⟨S1.stays _ _ ho.1,ho.2⟩,?_⟩
 rw [hk]
 exact wpAny_mono (sc.run hf R.a.toACk (R.fr.keep e1 k1).all S1 hvs q) (λ_ _ r=>r.lift e1 k1) λ_ _ e=>e.lift e1 k1
theorem zB{g:Str}{b:String}{p pos:Pos}{args:List Expr}{xs:List Ex}{pr:Prim}(C:Cok c T.gl)(hg:T.glob g=some (.bi b))(h:qz c n T args xs)
  (tail:∀{A:Around} {s:Shared} {as:bA} {X:List Addr} {H:AH} {Q:QE} {XX:XE} {vs:List V} {ys:List Value},AOk c A n->SR c as X H s->VRs c as X s.heap vs ys->vs.length=xs.length->g7 (aY c.P false pr vs H) Q->wpAny c.M A (call (.builtin b) ys) (Res c as X s.heap Q) (ERes c as X s.heap XX) s) :
  SE c n T (.Call (.Name g p) args [] pos) (.prim false pr xs):=by
 refine⟨?_⟩
 intro env A s as X H ρ Q XX R w
 simp only [fm]at w
 haveI e1:=C.gl g _ (g8 hg).2.1
 refine wpAny_Call_Name_kw (jj C hg R (.inr e1) ?_)
 refine callWith_builtin (m5 h) (wpAny_mono (fZ h R w) (λa s₁ r=>?_) λ_ _ e=>e)
 obtain⟨hk,vs,H₁,as₁,e1,S1,k1,hvs,hl,q⟩:=r
 rw [hk]
 exact wpAny_mono (tail R.a S1 hvs hl q) (λ_ _ r=>r.lift e1 k1) λ_ _ e=>e.lift e1 k1
theorem uH{g:Str}{b:String}{p pos:Pos}{args:List Expr}{xs:List Ex}{pr:Prim}{mu:Bool}(C:Cok c T.gl)(hg:T.glob g=some (.ty b))(h:qz c n T args xs)
  (tail:∀{A:Around} {s:Shared} {as:bA} {X:List Addr} {H:AH} {Q:QE} {XX:XE} {vs:List V} {ys:List Value},AOk c A n->SR c as X H s->VRs c as X s.heap vs ys->vs.length=xs.length->g7 (aY c.P mu pr vs H) Q->wpAny c.M A (call (.type b) ys) (Res c as X s.heap Q) (ERes c as X s.heap XX) s) :
  SE c n T (.Call (.Name g p) args [] pos) (.prim mu pr xs):=by
 refine⟨?_⟩
 intro env A s as X H ρ Q XX R w
 simp only [fm]at w
 haveI e1:=C.gl g _ (g8 hg).2.1
 refine wpAny_Call_Name_kw (jj C hg R (.inr e1) ?_)
 refine PySem.callWith_type (m5 h) (wpAny_mono (fZ h R w) (λa s₁ r=>?_) λ_ _ e=>e)
 obtain⟨hk,vs,H₁,as₁,e1,S1,k1,hvs,hl,q⟩:=r
 rw [hk]
 exact wpAny_mono (tail R.a S1 hvs hl q) (λ_ _ r=>r.lift e1 k1) λ_ _ e=>e.lift e1 k1
theorem t0{vs:List V}{ys:List Value}{as:bA}{X:List Addr}{hp:HP}(h:VRs c as X hp vs ys)(hl:vs.length=1):∃v y,vs=[v]/\ys=[y]/\VR c as X hp v y:=by
 cases h with
 |nil=>simp at hl
 |cons a r=>
  cases r with
  |nil=>exact⟨_,_,rfl,rfl,a⟩
  |cons _ _=>simp at hl
theorem Hm{vs:List V}{ys:List Value}{as:bA}{X:List Addr}{hp:HP}(h:VRs c as X hp vs ys)(hl:vs.length=2):∃v v' y y',vs=[v,v']/\ys=[y,y']/\VR c as X hp v y/\VR c as X hp v' y':=by
 cases h with
 |nil=>simp at hl
 |cons a r=>
  cases r with
  |nil=>simp at hl
  |cons b r=>
   cases r with
   |nil=>exact⟨_,_,_,_,rfl,rfl,a,b⟩
   |cons _ _=>simp at hl
theorem A2.length{α β:Type}{R:α->β->Prop}{l:List α}{m:List β}(h:A2 R l m):l.length=m.length:=by
 induction h with
 |nil=>rfl
 |cons _ _ ih=>simp only [bK,bK,ih]
theorem wA{v r:V}{H H':AH}(h:xK [v] H=some (r,H')):∃ws,r=.lst ws/\H'=H:=by
 refine ea1_2 (dF h) ?_
 intro r' h1 h2
 cases h2
 have hv:((dJ H v).bind λvs=>if vs.length<=az then some (V.lst vs)else none)=some r->∃ws,r=.lst ws:=λe=>by
  refine ea1_2 (bY e) ?_
  intro vs _ e
  exact⟨vs,(c5 e).2.symm⟩
 haveI key:∃ws,r=.lst ws:=by
  cases v with
  |rng a b=>exact⟨_,(c5 h1).2.symm⟩
  |tup vs=>exact⟨_,(c5 h1).2.symm⟩
  |_=>exact hv h1
 exact⟨key.choose,key.choose_spec,rfl⟩
set_option tactic.hygienic true in
theorem vY{g:Str}{b:String}{p pos:Pos}{args:List Expr}{xs:List Ex}{pr:Prim}(C:Cok c T.gl)(hg:T.glob g=some (.bi b))(h:qz c n T args xs)(hp:t6 b args.length=some pr):SE c n T (.Call (.Name g p) args [] pos) (.prim false pr xs):=by
 have hl:=h.length
 unfold t6 at hp
 split at hp
 ·rename_i q;(replace hp:=ai hp;cases hp)
  obtain⟨rfl,hn⟩:=q
  refine zB C hg h λa S hv hl' q=>?_
  refine c6 (t0 hv (hl'.trans (hl.symm.trans hn))) ?_
  intro v y q_3 q_4 hv1
  subst q_3
  subst q_4
  refine d0 (cG q) ?_
  intro r H' e q'
  exact It S hv1 e q'
 split at hp
 ·rename_i q;(replace hp:=ai hp;(replace hp:=Eq.symm hp;subst hp))
  obtain⟨rfl,hn⟩:=q
  refine zB C hg h λa S hv hl' q=>?_
  refine c6 (t0 hv (hl'.trans (hl.symm.trans hn))) ?_
  intro v y q_3 q_4 hv1
  subst q_3
  subst q_4
  refine d0 (cG q) ?_
  intro r H' e q'
  exact JR a.hh S hv1 e q'
 split at hp
 ·rename_i q;(replace hp:=ai hp;subst hp)
  obtain⟨rfl,hn⟩:=q
  refine zB C hg h λa S hv hl' q=>?_
  obtain⟨v,v',y,y',rfl,rfl,hv,hv'⟩:=Hm hv (hl'.trans (hl.symm.trans hn))
  refine dw (cG q) λr q_=>dw q_ λH' q_=>cO q_ λe q'=>?_
  exact HE a.hh S hv hv' e q'
 exact eY hp
theorem j8{pr:Prim}{mu:Bool}{vs:List V}{H:AH}{Q:QE}(q:g7 (aY c.P mu pr vs H) Q):∃r H',prim c.P pr vs H=some (r,H'):=by
 refine d0 (cG q) ?_
 intro r H' e _
 induction mu with
 |false=>exact⟨r,H',e⟩
 |true=>
  replace e:=eT (e:(if pr.fresh=true then _ else none)=_)
  refine cO (e) λ_ e=>?_
  refine ea1_2 (bY e) ?_
  intro z e1 _
  exact⟨z.1,z.2,e1⟩
theorem qc{pr:Prim}{mu:Bool}{vs:List V}{H:AH}{Q:QE}(hf:pr.fresh=false)(q:g7 (aY c.P mu pr vs H) Q):g7 (prim c.P pr vs H) Q:=by
 induction mu with
 |false=>exact q
 |true=>
  haveI q:g7 (if pr.fresh=true then(prim c.P pr vs H).bind λr=>kT r.1 r.2 else none) Q:=q
  replace q:=(hf)▸q
  exact q.elim
set_option tactic.hygienic true in
theorem wh{g:Str}{b:String}{p pos:Pos}{args:List Expr}{xs:List Ex}{pr:Prim}{mu:Bool}(C:Cok c T.gl)(hg:T.glob g=some (.ty b))(h:qz c n T args xs)(hp:tZ b args.length=some pr):SE c n T (.Call (.Name g p) args [] pos) (.prim mu pr xs):=by
 have hl:=h.length
 unfold tZ at hp
 split at hp
 ·rename_i q;(replace hp:=ai hp;subst hp)
  obtain⟨rfl,hn⟩:=q
  refine uH C hg h λa S hv hl' q=>?_
  refine c6 (t0 hv (hl'.trans (hl.symm.trans hn))) ?_
  intro v y q_3 q_4 hv1
  subst q_3
  subst q_4
  refine d0 (cG (qc rfl q)) ?_
  intro r H' e q'
  exact Aj S hv1 e q'
 split at hp
 ·rename_i q;(replace hp:=ai hp;subst hp)
  obtain⟨rfl,hn⟩:=q
  refine uH C hg h λa S hv hl' q=>?_
  obtain⟨v,v',y,y',rfl,rfl,hv,hv'⟩:=Hm hv (hl'.trans (hl.symm.trans hn))
  obtain⟨r,H',e,q'⟩:=cG (qc rfl q)
  exact xw S hv hv' e q'
 split at hp
 ·rename_i q;(replace hp:=ai hp;(replace hp:=Eq.symm hp;subst hp))
  (refine cO (q) λe_0 hn=>?_;subst e_0)
  refine uH C hg h λa S hv hl' q=>?_
  refine c6 (t0 hv (hl'.trans (hl.symm.trans hn))) ?_
  intro v y q_3 q_4 hv1
  subst q_3
  subst q_4
  refine q9 (j8 q) ?_
  intro r H' e
  refine ea1_2 (wA e) ?_
  intro ws q_2 q_3
  subst q_2
  (replace q_3:=Eq.symm q_3;subst q_3)
  exact lP S e (λR hR=>Ge a.hh S hv1 e hR) q
 split at hp
 ·rename_i q;(replace hp:=ai hp;subst hp)
  obtain⟨rfl,hn⟩:=q
  refine uH C hg h λa S hv hl' q=>?_
  refine c6 (t0 hv (hl'.trans (hl.symm.trans hn))) ?_
  intro v y q_3 q_4 hv1
  subst q_3
  subst q_4
  refine d0 (cG (qc rfl q)) ?_
  intro r H' e q'
  exact Hl S hv1 e q'
 exact eY hp
theorem Ba{t:String}{ty:Ty}(h:Bx t=some ty):ix ty=t:=
 Is.of (o:=Bx t) (R:=λty=>ix ty=t) (Is.ite2 (λh=>h.symm) λ_=>Is.ite2 (λh=>h.symm) λ_=>Is.ite2 (λh=>h.symm) λ_=>Is.ite2 (λh=>h.symm) λ_=>Is.ite λh=>h.symm) h
theorem vU{g t:Str}{tn:String}{ty:Ty}{p p' pos:Pos}{x:Expr}{a:Ex}(C:Cok c T.gl)(hg:T.glob g=some (.bi "isinstance"))(ht:T.glob t=some (.ty tn))(hty:Bx tn=some ty)(h:SE c n T x a)(hns:NS x) :
  SE c n T (.Call (.Name g p) [x,.Name t p'] [] pos) (.prim false (.isinst ty) [a]):=by
 refine⟨?_⟩
 intro env A s as X H ρ Q XX R w
 simp only [fm,dX]at w
 simp only [fw]at w
 have e1:=C.gl g _ (g8 hg).2.1
 have e2:=C.gl t _ (g8 ht).2.1
 refine wpAny_Call_Name_kw (jj C hg R (.inr e1) ?_)
 haveI hst:starEach [x,.Name t p'] env=[(false,eval x env),(false,eval (.Name t p') env)]:=by rw [jn hns];rfl
 rw [hst]
 refine callWith_builtin rfl (evalArgs_plain (spliced_cons (wpAny_mono (h.run R w) (λy s₁ r=>?_) λ_ _ e=>e)))
 obtain⟨v,H₁,as₁,x1,S1,k1,hv,q⟩:=r
 refine spliced_cons (jj C ht (R.next x1 k1 S1) (.inr e2) (spliced_nil ?_))
 refine d0 (cG q) ?_
 intro z H' e q'
 haveI hp:=zP (A:=A) (E:=ERes c as₁ X s₁.heap XX) S1 hv e q'
 rw [Ba hty]at hp
 exact wpAny_mono hp (λ_ _ r=>r.lift x1 k1) λ_ _ e=>e.lift x1 k1
theorem BD{v sl:Expr}{pos:Pos}{a b:Ex}(hs:qF sl=false)(h₁:SE c n T v a)(h₂:SE c n T sl b):SE c n T (.Subscript v sl pos) (.prim false .item [a,b]):=by
 refine⟨?_⟩
 intro env A s as X H ρ Q XX R w
 refine Subscript_ (iI h₁ h₂ R w λS hv hv' q=>?_)
 refine d0 (cG q) ?_
 intro r H' e q'
 exact D0 (λx y p e=>by subst e;cases hs) S hv hv' e q'
theorem Ch{es:List Expr}{pos:Pos}{xs:List Ex}{mu:Bool}(h:qz c n T es xs):SE c n T (.List es pos) (.prim mu .mklist xs):=by
 refine⟨?_⟩
 intro env A s as X H ρ Q XX R w
 simp only [fm]at w
 refine List_ (wpAny_mono (p7 h R w) (λys s₁ r=>?_) λ_ _ e=>e)
 obtain⟨vs,H₁,as₁,e1,S1,k1,hvs,_,q⟩:=r
 haveI hsome:∃ws,prim c.P .mklist vs H₁=some (.lst ws,H₁):=by
  refine q9 (j8 q) ?_
  intro r H' e
  exact⟨vs,if_pos (c5 e).1⟩
 obtain⟨ws,e⟩:=hsome
 refine wpAny_mono (lP S1 e (λR hR=>xX S1 hvs e hR) q) (λ_ _ r=>r.lift e1 k1) λ_ _ (e:ERes c as₁ X s₁.heap XX _ _)=>e.lift e1 k1
theorem D6{es:List Expr}{pos:Pos}{xs:List Ex}{kk:Nat}(h:qz c n T es xs):SE c n T (.Tuple es kk pos) (.prim false .mktup xs):=by
 refine⟨?_⟩
 intro env A s as X H ρ Q XX R w
 simp only [fm]at w
 refine Tuple_ (wpAny_mono (p7 h R w) (λys s₁ r=>?_) λ_ _ e=>e)
 obtain⟨vs,H₁,as₁,e1,S1,k1,hvs,_,q⟩:=r
 refine d0 (cG q) ?_
 intro z H' e q'
 exact wpAny_mono (A8 S1 hvs e q') (λ_ _ r=>r.lift e1 k1) λ_ _ (e:ERes c as₁ X s₁.heap XX _ _)=>e.lift e1 k1
end
theorem SR.turn{c:Cx}{as:bA}{X Y:List Addr}{H:AH}{s s':Shared}(x:SR c as X H s)(k:VK [] X s.heap s'.heap)(hst:c.base.StaysIn s'.heap)(hY:∀b∈Y,b∈X)
  (hx:∀b∈Y,∃o,s'.heap.get? b=some o)(hg:s'.gens=s.gens)(ho:s'.os=s.os):SR c as Y H s' where
 len:=x.len
 stays:=hst
 gens:=hg.trans x.gens
 os:=ho.trans x.os
 objs:=λi a e=>by
  refine ea0_3 (x.objs i a e) ?_
  intro h1 h2 r_3
  refine ea1_2 r_3 ?_
  intro o h3 h4
  exact⟨h1,λq=>h2 (hY _ q),o,h3,(h4.keepX (λb o e _ hb=>k b o e (λq=>nomatch q) hb) λob e=>k _ _ e (λq=>nomatch q) h2).frames λb _ _ hb q=>hb (hY _ q)⟩
 inj:=x.inj
 xs:=hx
def But(Y:List Addr)(h h':HP):Prop:=∀b o,b∉Y->h.get? b=some o->h'.get? b=some o
theorem But.kept{Y:List Addr}{h h':HP}(k:But Y h h')(as:bA)(X:List Addr):KeptX as X Y h h':=λb o e _ hy=>⟨o,k b o hy e,.inl rfl⟩
theorem But.vk{X Y:List Addr}{h h':HP}(k:But Y h h')(as:bA)(hY:∀b∈Y,b∈X):VK as X h h':=λb o e _ hx=>k b o (λq=>hx (hY b q)) e
theorem But.stays{c:Cx}{as:bA}{X Y:List Addr}{H:AH}{s:Shared}{h':HP}(S:SR c as X H s)(k:But Y s.heap h')(hY:∀b∈Y,c.base.get? b=none):c.base.StaysIn h':=λb o e=>
 k b o (λq=>by exact eY ((hY _ q).symm.trans e)) (S.stays b o e)
theorem SR.but{c:Cx}{as:bA}{X Y Z:List Addr}{H:AH}{s s':Shared}(S:SR c as X H s)(k:But Z s.heap s'.heap)(hZ:∀b∈Z,b∈X/\c.base.get? b=none)(hY:∀b∈Y,b∈X)
  (hx:∀b∈Y,b∈Z->∃o,s'.heap.get? b=some o)(hg:s'.gens=s.gens)(ho:s'.os=s.os):SR c as Y H s':=
 S.turn (k.vk [] λb q=>(hZ b q).1) (k.stays S λb q=>(hZ b q).2) hY (λb hb=>by
  by_cases hz:b∈Z
  ·exact hx b hb hz
  ·obtain ⟨o,e⟩:=S.xs b (hY b hb)
   exact⟨o,k b o hz e⟩) hg ho
theorem OVR.frames{c:Cx}{as:bA}{X Y:List Addr}{h:HP}{o:Option V}{y:Option Value}(hy:∀b o,h.get? b=some o->b∉X->b∉Y)(z:OVR c as X h o y):OVR c as Y h o y:=
 λv e=>let⟨q,e1,e2⟩:=z v e;⟨q,e1,e2.frames hy⟩
theorem FR.frames{c:Cx}{as:bA}{X Y:List Addr}{h:HP}{env:Env}{tab:List (Str×Nat)}{ρ:Fm}(F:FR c as X h env tab ρ)(hXY:∀b∈X,b∈Y)(hy:∀b o,h.get? b=some o->b∉X->b∉Y):FR c as Y h env tab ρ where
 kind:=F.kind
 glob:=F.glob
 bi:=F.bi
 lx:=hXY _ F.lx
 lout:=F.lout
 lb:=F.lb
 ns:=by
  refine ea1_2 F.ns ?_
  intro m n r
  exact⟨m,n,λx i h1 h2=>(r x i h1 h2).frames hy⟩
 cells:=λx i h1 h2=>by
  refine kA (F.cells x i h1 h2) ?_
  intro a y e1 e2 e3 e4 e5 e6 e7
  exact⟨a,y,e1,hXY _ e2,e3,e4,e5,e6,e7.frames hy⟩
 apart:=F.apart
 inj:=F.inj
def p8(Y:List Addr)(env:Env)(tab:List (Str×Nat)):Prop:=
 env.locals∉Y/\∀x i,tab.lookup x=some i->(env.kindOf x=some .cell\/env.kindOf x=some .free)->∀a,env.cells.lookup x=some a->a∉Y
theorem FR.away{c:Cx}{as:bA}{X Y:List Addr}{h:HP}{env:Env}{tab:List (Str×Nat)}{ρ:Fm}(F:FR c as X h env tab ρ)(hY:∀b∈Y,b∉X):p8 Y env tab:=
 ⟨λq=>hY _ q F.lx,λx i h1 h2 a e q=>by
  refine c6 (F.cells x i h1 h2) ?_
  intro a' y e1 e2 _
  replace e:=(e1).symm.trans e;(replace e:=ai e;subst e)
  exact hY _ q e2⟩
theorem FR.keepY{c:Cx}{as:bA}{X Y:List Addr}{h h':HP}{env:Env}{tab:List (Str×Nat)}{ρ:Fm}(F:FR c as X h env tab ρ)(k:KeptX as X Y h h')(hY:∀b∈Y,b∈X)(aw:p8 Y env tab):FR c as X h' env tab ρ where
 kind:=F.kind
 glob:=F.glob
 bi:=F.bi
 lx:=F.lx
 lout:=F.lout
 lb:=F.lb
 ns:=by
  refine ea1_2 F.ns ?_
  intro m n r
  exact⟨m,Ns.same n λo e=>k _ o e F.lout aw.1,λy i h1 h2=>(r y i h1 h2).keepX (k.v hY) (.refl ..)⟩
 cells:=λy i h1 h2=>by
  refine kA (F.cells y i h1 h2) ?_
  intro a z e1 e2 e3 e4 e5 e6 e7
  exact⟨a,z,e1,e2,e3,e4,e5,IsCell.same e6 λo e=>k _ o e e3 (aw.2 y i h1 h2 a e1),e7.keepX (k.v hY) (.refl ..)⟩
 apart:=F.apart
 inj:=F.inj
def ItC(h:HP)(I:Addr):V->Value->Nat->Prop
 |.tup _,y,k=>∃a,y=.ref a/\h.IsTupleIter I a k
 |.str _,y,k=>∃x t,y=.str x t/\(h.IsStrIter I "str_ascii_iterator" x t k\/h.IsStrIter I "str_iterator" x t k)
 |.rng a b,_,k=>IsRangeIter h I (a+(k:Nat)*1) (((b-a).toNat:Int)-(k:Nat)) 1
 |.lst _,y,k=>∃a,y=.ref a/\h.IsListIter I a k
 |.ref _,y,k=>∃a,y=.ref a/\h.IsListIter I a k
 |_,_,_=>False
theorem ItC.here{h:HP}{I:Addr}{v:V}{y:Value}{k:Nat}(x:ItC h I v y k):∃o,h.get? I=some o/\∃vs,o.data=.fields vs:=by
 cases v<;>try exact x.elim
 ·obtain ⟨x,t,_,h1|h1⟩:=x
  ·refine ea1_2 h1 ?_
   intro o e r
   exact⟨o,e,_,r.2⟩
  ·refine ea1_2 h1 ?_
   intro o e r
   exact⟨o,e,_,r.2⟩
 ·refine ea1_2 x ?_
  intro a _ r_3
  refine ea1_2 r_3 ?_
  intro o e r
  exact⟨o,e,_,r.2⟩
 ·refine ea1_2 x ?_
  intro a _ r_3
  refine ea1_2 r_3 ?_
  intro o e r
  exact⟨o,e,_,r.2⟩
 ·exact ⟨_,x,_,rfl⟩
 ·refine ea1_2 x ?_
  intro a _ r_3
  refine ea1_2 r_3 ?_
  intro o e r
  exact⟨o,e,_,r.2⟩
theorem ItC.at{h h':HP}{I:Addr}{v:V}{y:Value}{k:Nat}(x:ItC h I v y k)(e:∀o,h.get? I=some o->(∀es n,o.data≠.dict es n)->h'.get? I=some o):ItC h' I v y k:=by
 refine dw (x.here) λob q_=>cO q_ λeo q_=>dw q_ λvs hc=>?_
 have e0:∀o,h.get? I=some o->h'.get? I=some o:=λo q=>e o q λes n hd=>by replace q:=(eo).symm.trans q;(replace q:=ai q;subst q);replace hd:=(hc).symm.trans hd;cases hd
 cases v<;>try exact x.elim
 ·obtain ⟨x,t,hy,h1|h1⟩:=x
  ·refine ea1_2 h1 ?_
   intro o q r
   exact⟨x,t,hy,.inl ⟨o,e0 o q,r⟩⟩
  ·refine ea1_2 h1 ?_
   intro o q r
   exact⟨x,t,hy,.inr ⟨o,e0 o q,r⟩⟩
 ·refine ea1_2 x ?_
  intro a hy r_3
  refine ea1_2 r_3 ?_
  intro o q r
  exact⟨a,hy,o,e0 o q,r⟩
 ·refine ea1_2 x ?_
  intro a hy r_3
  refine ea1_2 r_3 ?_
  intro o q r
  exact⟨a,hy,o,e0 o q,r⟩
 ·exact e0 _ x
 ·refine ea1_2 x ?_
  intro a hy r_3
  refine ea1_2 r_3 ?_
  intro o q r
  exact⟨a,hy,o,e0 o q,r⟩
section
variable {c:Cx}{A:Around}{E:Value->Shared->Prop}{s:Shared}{as:bA}{X:List Addr}{H:AH}
inductive SrcAt(c:Cx)(as:bA)(X:List Addr)(h:HP):List V->V->Value->Prop
 |str (xs:List Char) (t:Tok):SrcAt c as X h (xs.map λc=>V.str [c]) (.str xs) (.str (toS xs) t)
 |tup {a:Addr} {its:Array Value} {n:Nat} {vs:List V}:a∉X->h.get? a=some {cls:=.type "tuple",data:=.seq its n}->VRs c as X h vs its.toList->SrcAt c as X h vs (.tup vs) (.ref a)
 |seq {a:Addr} {its:Array Value} {vs:List V} {v:V}:(∀h' I k,ItC h' I v (.ref a) k=∃b,Value.ref a=.ref b/\h'.IsListIter I b k)->v.isRng=false->a∉X->h.PlainList a its->VRs c as X h vs its.toList->SrcAt c as X h vs v (.ref a)
 |rng {a b:Int} {y:Value}:RngR as X h a b y->SrcAt c as X h (iL a b) (.rng a b) y
theorem tE{v:V}{y:Value}{items:List V}(S:SR c as X H s)(hv:VR c as X s.heap v y)(hs:p4 H v=some items):SrcAt c as X s.heap items v y:=by
 have hw:dJ H v=some items->(∀a h' I k,ItC h' I v (.ref a) k=∃b,Value.ref a=.ref b/\h'.IsListIter I b k)->v.isRng=false->SrcAt c as X s.heap items v y:=λe q hr=>by
  obtain⟨a,its,rfl,hp,r,_,hx⟩:=eP S hv e
  exact .seq (q a) hr hx hp r
 cases v with
 |str xs=>(replace hs:=ai hs;subst hs);cases hv.inv;exact .str _ _
 |tup vs=>(replace hs:=ai hs;subst hs);cases hv.inv with|tup _ h2 h3 h4 _=>exact .tup h2 h3 h4
 |rng a b=>(replace hs:=ai hs;subst hs);exact .rng hv.inv
 |lst vs=>exact hw hs (λ_ _ _ _=>rfl) rfl
 |ref i=>exact hw hs (λ_ _ _ _=>rfl) rfl
 |_=>exact eY hs
theorem sH{v:V}{y:Value}{items:List V}{Q:Value->Shared->Prop}(S:SR c as X H s)(hv:VR c as X s.heap v y)(hs:p4 H v=some items)
  (hQ:∀o,ItC (s.heap.push o) s.heap.objs.size v y 0->Q (.ref s.heap.objs.size) {s with heap:=s.heap.push o}):wpAny c.M A (pyIter y) Q E s:=by
 cases tE S hv hs with
 |str x t=>
  cases ha:(toS x).cps.all (·<128)
  ·exact wpAny_pyIter_wide ha (hQ _ ⟨_,_,rfl,.inr ⟨_,be _ rfl,rfl,rfl⟩⟩)
  ·exact wpAny_pyIter_ascii ha (hQ _ ⟨_,_,rfl,.inl ⟨_,be _ rfl,rfl,rfl⟩⟩)
 |tup h2 h3 h4=>exact wpAny_pyIter_tuple ⟨_,h3,rfl,_,rfl⟩ (hQ _ ⟨_,rfl,_,be _ rfl,rfl,rfl⟩)
 |seq q _ h2 h3 h4=>exact wpAny_pyIter_list h3.isList (hQ _ ((q _ _ _).mpr ⟨_,rfl,_,be _ rfl,rfl,rfl⟩))
 |@rng a b _ r=>
  cases r with
  |rng h1 h2 h3 h4 h5=>
   refine wpAny_pyIter_range h3 (mG h4 h5) (hQ _ ?_)
   show IsRangeIter _ _ _ _ _
   rw [jp,show a+((0:Nat):Int)*1=a from CR a,show((b-a).toNat:Int)-((0:Nat):Int)=((b-a).toNat:Int)from Int.sub_zero _]
   exact be _ rfl
theorem za{a b:Int}{k:Nat}{x:V}(h:(iL a b)[k]? =some x):x=.int (a+k)/\k<(b-a).toNat:=by
 rw [iL,aO,bq]at h
 refine ea1_2 h ?_
 intro i h1 q_3
 subst q_3
 rw [ae]at h1
 obtain⟨h1,h2⟩:=h1
 simp at h1 h2
 subst h2
 exact⟨rfl,Int.lt_toNat.mpr h1⟩
theorem vB{v:V}{y:Value}{items:List V}{x:V}{k:Nat}{I:Addr}{Q:Option Value->Shared->Prop}(hd:A.handled=none)(S:SR c as X H s)(hI:I∈X)(hb:c.base.get? I=none)(hv:VR c as X s.heap v y)(hi:ItC s.heap I v y k)
  (hs:p4 H v=some items)(hk:items[k]? =some x)
  (hQ:∀z h' tk,But [I] s.heap h'->VR c as X h' x z->VR c as X h' v y->ItC h' I v y (k+1)->SR c as X H {s with heap:=h',toks:=tk}->Q (some z) {s with heap:=h',toks:=tk}):wpAny c.M A (pyNext (.ref I)) Q E s:=by
 have fin:∀z h' tk,But [I] s.heap h'->VR c as X s.heap x z->ItC h' I v y (k+1)->Q (some z) {s with heap:=h',toks:=tk}:=λz h' tk b hz hit=>by
  haveI kx:VK as X s.heap h':=b.vk as (dk hI)
  exact hQ z h' tk b (hz.keepX kx (.refl ..)) (hv.keepX kx (.refl ..)) hit (S.but (s':={s with heap:=h',toks:=tk}) b (dk ⟨hI,hb⟩) (λ_ q=>q) (λb hb hz=>in1 hz▸hit.here.imp λ_ e=>e.1) rfl rfl)
 cases tE S hv hs with
 |str xs t=>
  refine d0 hi ?_
  intro x' t' e hit
  cases e
  replace hk:=(aO).symm.trans hk
  refine ea1_2 (dF hk) ?_
  intro ch hch q_3
  subst q_3
  haveI hlt:k<(toS xs).cps.size:=by simp only [show(toS xs).cps.size=(toS xs).length from rfl,eZ];exact(ae.mp hch).1
  have hsign:∀z,SignAt (toS xs) k z->VR c as X s.heap (.str [ch]) z:=by
   rintro z ⟨q,u,hq,rfl⟩
   simp [toS,hch]at hq
   subst hq
   exact .str [ch] u (by simp [jR])
  haveI hh:=hd
  refine Or.elim (hit) (λhit=>?_) λhit=>?_
  ·exact (Walks.strAscii hh I (toS xs) t).item k s Q E hlt hit λz h' tk hz st b=>fin z h' tk b (hsign z hz) ⟨_,_,rfl,.inl st⟩
  ·exact (Walks.strWide hh I (toS xs) t).item k s Q E hlt hit λz h' tk hz st b=>fin z h' tk b (hsign z hz) ⟨_,_,rfl,.inr st⟩
 |@tup a its n _ h2 h3 h4=>
  refine ea1_2 hi ?_
  intro a' e hit
  cases e
  refine ea1_2 (h4.get hk) ?_
  intro z hz hzr
  replace hz:=(b9).symm.trans hz
  refine(Walks.tuple hd I a (λq=>h2 (q▸hI)) its).item k s Q E (jC.mp hz).1 ⟨hit,_,h3,rfl,_,rfl⟩ λz' h' tk hz' st b=>fin z' h' tk b ?_ ⟨_,rfl,st.1⟩
  replace hz':=(hz).symm.trans hz';(replace hz':=ai hz';subst hz');exact hzr
 |@seq a its _ _ q hr h2 h3 h4=>
  refine ea1_2 ((q _ _ _).mp hi) ?_
  intro a' e hit
  cases e
  refine ea1_2 (h4.get hk) ?_
  intro z hz hzr
  replace hz:=(b9).symm.trans hz
  refine(Walks.list hd I a (λq=>h2 (q▸hI)) its).item k s Q E (jC.mp hz).1 ⟨hit,h3.isList⟩ λz' h' tk hz' st b=>fin z' h' tk b ?_ ((q _ _ _).mpr ⟨_,rfl,st.1⟩)
  replace hz':=(hz).symm.trans hz';(replace hz':=ai hz';subst hz');exact hzr
 |@rng a b _ r=>
  obtain⟨rfl,hlt⟩:=za hk
  haveI hi':=hi
  refine wpAny_pyNext_range_item hi' (Int.sub_pos_of_lt (cu.mpr hlt)) λh' hit' hs'=>?_
  refine fin _ h' _ (λb o hb e=>hs'.extBut b o (λh=>hb (by simp [h])) e) ?_ ?_
  ·rw [GV]
   exact .int _ _
  ·refine (?_:IsRangeIter _ _ _ _ _)
   haveI e1:a+((k+1:Nat):Int)*1=a+(k:Int)*1+1:=by simp only [GV,GV];exact(Int.add_assoc a k 1).symm
   haveI e2:((b-a).toNat:Int)-((k+1:Nat):Int)=((b-a).toNat:Int)-(k:Int)-1:=by exact Int.le_antisymm (jz (lV (Eq.symm e1)) (by simp+arith only)) (jz (lV e1) (by simp+arith only))
   simp only [e1,e2];exact hit'
theorem vp{v:V}{y:Value}{items:List V}{k:Nat}{I:Addr}{Q:Option Value->Shared->Prop}(hd:A.handled=none)(S:SR c as X H s)(hI:I∈X)(hv:VR c as X s.heap v y)(hi:ItC s.heap I v y k)
  (hs:p4 H v=some items)(hk:items.length=k)
  (hQ:∀h' tk,But [I] s.heap h'->Q none {s with heap:=h',toks:=tk}):wpAny c.M A (pyNext (.ref I)) Q E s:=by
 subst hk
 cases tE S hv hs with
 |str xs t=>
  refine d0 hi ?_
  intro x' t' e hit
  cases e
  rw [ah,<-eZ]at hit
  haveI hh:=hd
  refine Or.elim (hit) (λhit=>?_) λhit=>?_
  ·exact (Walks.strAscii hh I (toS xs) t).done s Q E hit hQ
  ·exact (Walks.strWide hh I (toS xs) t).done s Q E hit hQ
 |@tup a its n _ h2 h3 h4=>
  refine ea1_2 hi ?_
  intro a' e hit
  cases e
  simp only [h4.length,bE]at hit
  exact(Walks.tuple hd I a (λq=>h2 (q▸hI)) its).done s Q E ⟨hit,_,h3,rfl,_,rfl⟩ hQ
 |@seq a its _ _ q hr h2 h3 h4=>
  refine ea1_2 ((q _ _ _).mp hi) ?_
  intro a' e hit
  cases e
  simp only [h4.length,bE]at hit
  exact(Walks.list hd I a (λq=>h2 (q▸hI)) its).done s Q E ⟨hit,h3.isList⟩ hQ
 |@rng a b _ r=>
  haveI hi':=hi
  simp only [mM]at hi'
  exact(Walks.range hd I a 1 (b-a).toNat).done s Q E hi' hQ
end
theorem r6:Manifest.owners.lookup (String.ofList ['d','e','s','r','e','v','e','r'].reverse)=some Manifest.sig_reversed:=by kernel_rfl
theorem lU:Slot "reversed" "__next__" "reversed.__next__":=
 .of (owner:="reversed") (n:="__next__") (by kernel_rfl) (by decide+kernel) (by decide+kernel) (by decide+kernel)
  (by first|exact .inl (by decide+kernel)|exact .inr (by decide+kernel)) (by kernel_rfl)
theorem rL:entryFor table "reversed.__next__"=some Builtin.«reversed.__next__»:=entryFor_of_tree (by kernel_rfl)
theorem vA(a:Value):argsOk "reversed.__next__" ⟨[a],[]⟩:=by
 unfold argsOk;rw [signature?_of (id:="reversed.__next__") (n:=['_','_','t','x','e','n','_','_']) (o:=['d','e','s','r','e','v','e','r']) (by kernel_rfl) r6];kernel_rfl
theorem lQ:Slot "reversed" "__iter__" "reversed.__iter__":=
 .of (owner:="reversed") (n:="__iter__") (by kernel_rfl) (by decide+kernel) (by decide+kernel) (by decide+kernel)
  (by first|exact .inl (by decide+kernel)|exact .inr (by decide+kernel)) (by kernel_rfl)
theorem qm(a:Value):argsOk "reversed.__iter__" ⟨[a],[]⟩:=by
 unfold argsOk;rw [signature?_of (id:="reversed.__iter__") (n:=['_','_','r','e','t','i','_','_']) (o:=['d','e','s','r','e','v','e','r']) (by kernel_rfl) r6];kernel_rfl
theorem ot:entryFor table "reversed.__iter__"=some Builtin.«dict_keyiterator.__iter__»:=
 entryFor_alias (id':="dict_keyiterator.__iter__") (by kernel_rfl) (by first|rfl|decide+kernel|(unfold String.splitOn;simp+decide [String.splitOnAux])) (by decide+kernel) (by kernel_rfl)
theorem B2:Slot "reversed" "__init__" "object.__init__":=
 .of (owner:="object") (n:="__init__") (by kernel_rfl) (by decide+kernel) (by decide+kernel) (by decide+kernel)
  (by first|exact .inl (by decide+kernel)|exact .inr (by decide+kernel)) (by kernel_rfl)
theorem vR:TypeCalled "reversed" "reversed.__new__" "object.__init__" where
 notType:=by decide+kernel
 canCreate:=PySem.F.create_reversed
 mro:=⟨_,_,PySem.F.mro_reversed⟩
 made:=PySem.F.made_reversed
 plain:=PySem.F.plain_reversed_new
 sub:=PySem.F.sub_reversed_self
 init:=B2
theorem Ii:typeLookup (.type "tuple") "__reversed__"=pure none:=by kernel_rfl
theorem wc:isSubtype (.type "tuple") (.type "dict")=pure false:=by kernel_rfl
section
variable {prog:Program}{w:World}{A:Around}{E:Value->Shared->Prop}{s:Shared}
noncomputable def nf(t:Value)(i:Int):Obj:={cls:=.type "reversed",data:=.fields #[t,rawInt i]}
theorem Cg{t:Addr}{items:Array Value}{Q:Value->Shared->Prop}(ht:IsTup s.heap t items)(hz:(items.size:Int)<2 ^ 63)
  (h:∀tk,Q (.ref s.heap.objs.size) {s with heap:=s.heap.push (nf (.ref t) ((items.size:Int)-1)),toks:=tk}):wpAny (model prog w) A (call (.type "reversed") [.ref t]) Q E s:=by
 refine callType_new (S:=λA' R s=>IsTup s.heap t items/\∀tk,R (.ok (.ret (.ref s.heap.objs.size))) {s with heap:=s.heap.push (nf (.ref t) ((items.size:Int)-1)),toks:=tk}) vR (by decide) (PySem.F.typeCall_reversed_1 _) (PySem.F.newCall_reversed_1 _) (λobj=>PySem.F.args_object_init_2 obj _) PySem.F.entry_reversed_new ?_ ⟨ht,λtk=>⟨⟨_,be _ rfl,rfl⟩,h tk⟩⟩
 refine .of_wp λprog w A R s h=>?_
 refine cO (h) λht h=>?_
 unfold Builtin.«reversed.__new__»
 refine wpAny_bind (wpAny_of_eq (newClass_reversed _) ?_)
 refine wpAny_bind (wpAny_of_eq (a:=()) (by first|rfl|kernel_rfl) ?_)
 refine wpAny_bind (wpAny_of_eq (a:=()) (by first|rfl|kernel_rfl) ?_)
 try dsimp only
 refine wpAny_bind (wpAny_specialOf ht.typeIs Ii ?_)
 refine wpAny_bind ?_
 refine wpAny_bind (wpAny_isInstance (T:="tuple") (b:=false) ht.typeIs wc ?_)
 refine wpAny_bind (wpAny_specialOf ht.typeIs slot_tuple_getitem.lookup ?_)
 refine wpAny_pure ?_
 refine wpAny_bind (len_tuple ht hz ?_)
 refine wpAny_bind (wpAny_of_eq (a:=some (items.size:Int)) rfl ?_)
 refine wpAny_bind ?_
 unfold Builtin.SmallTypes.newRecord
 refine wpAny_newObj_type (wpAny_pure ⟨_,rfl,h _⟩)
theorem BV{I:Addr}{t:Value}{i:Int}{Q:Value->Shared->Prop}(hit:s.heap.get? I=some (nf t i))(h:Q (.ref I) s):wpAny (model prog w) A (pyIter (.ref I)) Q E s:=by
 haveI hT:s.TypeIs (.ref I) "reversed":=⟨_,hit,rfl⟩
 refine wpAny_pyIter_slot hT lQ (wpAny_call_entry lQ hT ot ?_ (qm _))
 exact wpAny_pure ⟨_,rfl,"reversed",_,hT,lU.lookup,h⟩
theorem Bv{I t:Addr}{i:Nat}{items:Array Value}{x:Value}{Q:Option Value->Shared->Prop}(hit:s.heap.get? I=some (nf (.ref t) (i:Int)))(ht:IsTup s.heap t items)(hi:(i:Int)<2 ^ 63)(hx:items[i]? =some x)
  (hQ:∀h' tk,h'.get? I=some (nf (.ref t) ((i:Int)-1))->gq I s.heap h'->Q (some x) {s with heap:=h',toks:=tk}):wpAny (model prog w) A (pyNext (.ref I)) Q E s:=by
 haveI hT:s.TypeIs (.ref I) "reversed":=⟨_,hit,rfl⟩
 refine wpAny_bind (wpAny_attempt (wpAny_callSpecial?_slot (name:=Str.ofString "__next__") hT lU
  (wpAny_call_entry lU hT rL ?_ (vA _))))
 unfold Builtin.«reversed.__next__»
 refine wpAny_bind (wpAny_of_eq (a:=(Value.ref I,[])) rfl ?_)
 refine wpAny_bind (wpAny_field hit rfl (x:=.ref t) rfl ?_)
 refine wpAny_bind (wpAny_field hit rfl (x:=rawInt (i:Int)) rfl ?_)
 refine(?_:wpAny _ _ (if(i:Int)<0 then _ else _) _ _ s)
 refine(?_:wpAny _ _ (specialOf (.ref t) "__getitem__">>= _) _ _ s)
 refine wpAny_bind (wpAny_specialOf ht.typeIs slot_tuple_getitem.lookup ?_)
 haveI hz:=(jC.mp hx).1
 refine wpAny_bind (wpAny_mkInt ?_)
 refine wpAny_bind (wpAny_attempt (getItem_tuple (s:={s with toks:=s.toks+1}) ht (bu (by decide) (bv i)) hi (j:=i) (PySem.seqIndex_of (bv i) (cu.mpr hz)) hx ?_))
 refine wpAny_bind (wpAny_field hit rfl (x:=rawInt (i:Int)) rfl ?_)
 refine wpAny_bind (wpAny_setField hit rfl (by simp) ?_)
 refine wpAny_pure ⟨x,rfl,wpAny_pure (hQ _ _ ?_ (oh ..))⟩
 exact cI _ hit rfl
theorem D8{I:Addr}{t:Value}{Q:Option Value->Shared->Prop}(hh:A.handled=none)(hit:s.heap.get? I=some (nf t (-1)))
  (hQ:∀h',Heap.ExtBut I s.heap h'->Q none {s with heap:=h'}):wpAny (model prog w) A (pyNext (.ref I)) Q E s:=by
 haveI hT:s.TypeIs (.ref I) "reversed":=⟨_,hit,rfl⟩
 refine wpAny_bind (wpAny_attempt (wpAny_callSpecial?_slot (name:=Str.ofString "__next__") hT lU
  (wpAny_call_entry lU hT rL ?_ (vA _))))
 unfold Builtin.«reversed.__next__»
 refine wpAny_bind (wpAny_of_eq (a:=(Value.ref I,[])) rfl ?_)
 try dsimp only
 refine wpAny_bind (wpAny_field hit rfl (x:=t) rfl ?_)
 refine wpAny_bind (wpAny_field hit rfl (x:=rawInt (-1)) rfl ?_)
 refine wpAny_bind (wpAny_rule ?_)
 refine wpAny_bind ?_
 refine wpAny_bind (wpAny_setField hit rfl (by simp) ?_)
 refine wpAny_setField (cI _ hit rfl) rfl (by simp) ?_
 haveI hx:Heap.ExtBut I s.heap ((s.heap.update I (Obj.mapFields λx=>x.setIfInBounds 1 (rawInt (-1)))).update I (Obj.mapFields λx=>x.setIfInBounds 0 Value.none)):=
  λb o hb e=>(cr _ _ (Ne.symm hb)).trans ((cr _ _ (Ne.symm hb)).trans e)
 generalize (s.heap.update I (Obj.mapFields λx=>x.setIfInBounds 1 (rawInt (-1)))).update I (Obj.mapFields λx=>x.setIfInBounds 0 Value.none)=h2 at hx ⊢
 refine wpAny_bind ?_
 refine wpAny_bind ?_
 simp only [newExc,newTuple]
 refine wpAny_bind (wpAny_newObj_type ?_ (by size_fits))
 refine wpAny_bind (m:=firstArgMember _ _) (wpAny_of_eq (a:=Value.none) (by first|rfl|(simp only [firstArgMember];rfl)) ?_)
 refine wpAny_newObj_type ?_ (by size_fits)
 dsimp only [raiseNew]
 refine wpAny_bind (wpAny_handled ?_)
 rw [show A.in1.handled=none from hh]
 refine wpAny_bind (wpAny_pure (wpAny_throw ?_))
 refine wpAny_bind (wpAny_isInstance (T:="StopIteration") (b:=true) ⟨_,be _ rfl,rfl⟩ isSubtype_stop ?_)
 exact wpAny_pure (hQ _ ((hx.push _).push _))
end
def RvC(h:HP)(I:Addr):V->Value->Nat->Prop
 |.tup vs,y,k=>∃a,y=.ref a/\h.get? I=some (nf (.ref a) ((vs.length:Int)-1-(k:Int)))
 |.lst vs,y,k=>∃a,y=.ref a/\k<=vs.length/\h.IsRevIter I a ((vs.length:Int)-1-(k:Int))
 |_,_,_=>False
theorem RvC.here{h:HP}{I:Addr}{v:V}{y:Value}{k:Nat}(x:RvC h I v y k):∃o,h.get? I=some o/\∃vs,o.data=.fields vs:=by
 cases v with
 |tup vs=>refine dw (x) λa q_=>cO q_ λ_ e=>?_;exact⟨_,e,_,rfl⟩
 |lst vs=>obtain⟨a,_,_,o,e,r⟩:=x;exact⟨o,e,_,r.2⟩
 |_=>exact x.elim
theorem RvC.at{h h':HP}{I:Addr}{v:V}{y:Value}{k:Nat}(x:RvC h I v y k)(e:∀o,h.get? I=some o->(∀es n,o.data≠.dict es n)->h'.get? I=some o):RvC h' I v y k:=by
 cases v with
 |tup vs=>refine dw (x) λa q_=>cO q_ λhy q=>?_;exact⟨a,hy,e _ q λ_ _ h=>nomatch h⟩
 |lst vs=>obtain⟨a,hy,hk,o,q,r⟩:=x;exact⟨a,hy,hk,o,e o q (λes n hd=>by replace hd:=(r.2).symm.trans hd;cases hd),r⟩
 |_=>exact x.elim
def ItD(rev:Bool)(h:HP)(I:Addr)(v:V)(y:Value)(k:Nat):Prop:=match rev with
 |true=>RvC h I v y k
 |false=>ItC h I v y k
inductive RevIs(items:List V):V->Prop
 |tup {vs:List V}:items=vs.reverse->RevIs items (.tup vs)
 |lst {vs:List V}:items=vs.reverse->RevIs items (.lst vs)
theorem tj{H:AH}{v:V}{items:List V}(h:je true H v=some items):RevIs items v:=
 Is.of (o:=HS v) (R:=λitems=>RevIs items v) (by cases v<;>first|exact .tup rfl|exact .lst rfl|exact trivial) h
theorem ItD.here{rev:Bool}{h:HP}{I:Addr}{v:V}{y:Value}{k:Nat}(x:ItD rev h I v y k):∃o,h.get? I=some o/\∃vs,o.data=.fields vs:=by
 cases rev with
 |true=>exact RvC.here x
 |false=>exact ItC.here x
theorem ItD.at{rev:Bool}{h h':HP}{I:Addr}{v:V}{y:Value}{k:Nat}(x:ItD rev h I v y k)(e:∀o,h.get? I=some o->(∀es n,o.data≠.dict es n)->h'.get? I=some o):ItD rev h' I v y k:=by
 cases rev with
 |true=>exact RvC.at x e
 |false=>exact ItC.at x e
noncomputable def owners:List String:=["enumerate","zip","dict_itemiterator","dict_reverseitemiterator","odict_iterator","itertools.zip_longest","itertools.pairwise"]
inductive NoOwn(h:HP)(I:Addr):Prop
 |mk {o:Obj} {n:String}:h.get? I=some o->o.cls=.type n->owners.contains n=false->NoOwn h I
theorem ItD.cls{rev:Bool}{h:HP}{I:Addr}{v:V}{y:Value}{k:Nat}(x:ItD rev h I v y k):NoOwn h I:=by
 cases rev with
 |true=>
  cases v with
  |tup vs=>obtain⟨a,_,e⟩:=x;exact .mk e rfl (by decide+kernel)
  |lst vs=>obtain⟨a,_,_,o,e,r⟩:=x;exact .mk e r.1 (by decide+kernel)
  |_=>exact x.elim
 |false=>
  cases v with
  |str=>
   obtain⟨x,t,_,h1|h1⟩:=x
   ·refine ea1_2 h1 ?_
    intro o e r
    exact .mk e r.1 (by decide+kernel)
   ·refine ea1_2 h1 ?_
    intro o e r
    exact .mk e r.1 (by decide+kernel)
  |rng=>exact .mk x rfl (by decide+kernel)
  |tup|lst|ref=>obtain⟨a,_,o,e,r⟩:=x;exact .mk e r.1 (by decide+kernel)
  |_=>exact x.elim
set_option tactic.hygienic true in
theorem FK{prog:Program}{w:World}{A:Around}{E:Value->Shared->Prop}{s:Shared}{te:Expr}{I:Addr}{z:Value}{Q:Unit->Shared->Prop}(h:NoOwn s.heap I)(q:Q () s):wpAny (model prog w) A (letOwnedTupleGo te (.ref I) z) Q E s:=by
 obtain⟨e,hc,hn⟩:=h
 have F:wpAny (model prog w) A (do
   let(.ref r,.ref a):=(Value.ref I,z)|return
   let o <-load r
   match o.cls,o.data with
   |.type n,.fields vs=>
    if owners.contains n&&vs[0]?==some (rawInt a)then
     rule "for.unpacks-the-owned-tuple"
     updateField r 0 .none
   |_,_=>pure ()) Q E s:=by
  cases z with
  |ref a=>
   refine wpAny_bind (wpAny_load e ?_)
   rw [hc]
   split
   ·rename_i n' vs h1 h2
    cases h1
    rw [hn]
    exact wpAny_pure q
   ·exact wpAny_pure q
  |_=>exact wpAny_pure q
 cases te<;>first|exact wpAny_pure q|exact F
section
variable {c:Cx}{A:Around}{E:Value->Shared->Prop}{s:Shared}{as:bA}{X:List Addr}{H:AH}
theorem yP{vs:List V}{k:Nat}{x:V}(h:vs.reverse[k]? =some x):vs[vs.length-1-k]? =some x/\k<vs.length:=by
 haveI hk:k<vs.length:=by rw [<-bX];exact(ae.mp h).1
 rw [DG hk]at h
 exact⟨h,hk⟩
theorem zL{n k:Nat}(h:k<n):(n:Int)-1-(k:Int)=((n-1-k:Nat):Int):=((Aw (Nat.le_sub_one_of_lt h)).trans (congrArg (·-(k:Int)) (Aw (cQ (aQ k) h)))).symm
theorem BJ{rev:Bool}{v:V}{y:Value}{items:List V}{x:V}{k:Nat}{I:Addr}{Q:Option Value->Shared->Prop}(hd:A.handled=none)(S:SR c as X H s)(hI:I∈X)(hb:c.base.get? I=none)(hv:VR c as X s.heap v y)(hi:ItD rev s.heap I v y k)
  (hs:je rev H v=some items)(hk:items[k]? =some x)
  (hQ:∀z h' tk,But [I] s.heap h'->VR c as X h' x z->VR c as X h' v y->ItD rev h' I v y (k+1)->SR c as X H {s with heap:=h',toks:=tk}->Q (some z) {s with heap:=h',toks:=tk}):wpAny c.M A (pyNext (.ref I)) Q E s:=by
 cases rev with
 |false=>exact vB hd S hI hb hv hi hs hk hQ
 |true=>
  have fin:∀z h' tk,But [I] s.heap h'->VR c as X s.heap x z->RvC h' I v y (k+1)->Q (some z) {s with heap:=h',toks:=tk}:=λz h' tk b hz hit=>by
   haveI kx:VK as X s.heap h':=b.vk as (dk hI)
   exact hQ z h' tk b (hz.keepX kx (.refl ..)) (hv.keepX kx (.refl ..)) hit (S.but (s':={s with heap:=h',toks:=tk}) b (dk ⟨hI,hb⟩) (λ_ q=>q) (λb hb hz=>in1 hz▸hit.here.imp λ_ e=>e.1) rfl rfl)
  clear hQ
  cases tj hs with
  |@tup vs e=>
   subst e
   obtain⟨hx,hk⟩:=yP hk
   refine ea1_2 hi ?_
   intro a q_2 hit
   subst q_2
   cases hv.inv with
   |@tup _ its n h1 h2 h3 h4 h5=>
    refine ea1_2 (h4.get hx) ?_
    intro z hz hzr
    rw [b9]at hz
    rw [zL hk]at hit
    refine Bv hit ⟨_,h3,rfl,_,rfl⟩ (kK (aa (eK _ _) (aa (eK _ _) h5))) hz λh' tk hg hs'=>fin z h' tk (λb o hb e=>hs'.extBut b o (λh=>hb (by exact(h)▸.head _)) e) hzr ⟨a,rfl,?_⟩
    rw [hg,<-zL hk,show(vs.length:Int)-1-((k+1:Nat):Int)=(vs.length:Int)-1-(k:Int)-1 from(Int.sub_sub ((vs.length:Int)-1) k 1).symm]
  |@lst vs e=>
   subst e
   obtain⟨hx,hk⟩:=yP hk
   refine dm hi ?_
   intro a q_2 _ hit
   subst q_2
   cases hv.inv with
   |@lst _ its h1 h2 h3 h4 h5=>
    refine ea1_2 (h4.get hx) ?_
    intro z hz hzr
    replace hz:=(b9).symm.trans hz
    have hl:vs.length=its.size:=h4.length.trans bE
    refine(Walks.listRev hd I a (λq=>h2 (q▸hI)) its).item k s Q E (hl▸hk) ⟨eB (hl▸hk),hl▸hit,h3.isList⟩ λz' h' tk hz' st b=>fin z' h' tk b ?_ ⟨_,rfl,hk,by exact(hl)▸st.2.1⟩
    rw [<-hl,hz]at hz';(replace hz':=ai hz';subst hz');exact hzr
theorem xu{v:V}{y:Value}{items:List V}{Q:Value->Shared->Prop}(hv:VR c as X s.heap v y)(hs:je true H v=some items)
  (hQ:∀o tk,ItD true (s.heap.push o) s.heap.objs.size v y 0->Q (.ref s.heap.objs.size) {s with heap:=s.heap.push o,toks:=tk}):wpAny c.M A (call (.type "reversed") [y]) Q E s:=by
 haveI z:∀n:Nat,(n:Int)-1-((0:Nat):Int)=(n:Int)-1:=λn=>Int.sub_zero _
 cases tj hs with
 |@tup vs e=>
  cases hv.inv with
  |@tup a its n h1 h2 h3 h4 h5=>
   have hl:vs.length=its.size:=h4.length.trans bE
   exact Cg ⟨_,h3,rfl,_,rfl⟩ (kK (hl▸h5)) λtk=>hQ _ tk ⟨a,rfl,by rw [z,hl];exact be _ rfl⟩
 |@lst vs e=>
  cases hv.inv with
  |@lst a its h1 h2 h3 h4 h5=>
   exact call_reversed_list h3.isList (hQ _ s.toks ⟨a,rfl,aQ _,by rw [z,(h4.length.trans bE:vs.length=its.size)];exact⟨_,be _ rfl,rfl,rfl⟩⟩)
theorem IV{v:V}{y:Value}{k:Nat}{I:Addr}{Q:Value->Shared->Prop}(h:ItD true s.heap I v y k)(q:Q (.ref I) s):wpAny c.M A (pyIter (.ref I)) Q E s:=by
 cases v with
 |tup vs=>refine dw (h) λa q_=>cO q_ λ_ e=>?_;exact BV e q
 |lst vs=>refine dw (h) λa q_=>cO q_ λ_ q_=>cO q_ λ_ e=>?_;exact wpAny_pyIter_revIter e q
 |_=>exact h.elim
theorem Ce{rev:Bool}{v:V}{y:Value}{items:List V}{k:Nat}{I:Addr}{Q:Option Value->Shared->Prop}(hd:A.handled=none)(S:SR c as X H s)(hI:I∈X)(hv:VR c as X s.heap v y)(hi:ItD rev s.heap I v y k)
  (hs:je rev H v=some items)(hk:items.length=k)
  (hQ:∀h' tk,But [I] s.heap h'->Q none {s with heap:=h',toks:=tk}):wpAny c.M A (pyNext (.ref I)) Q E s:=by
 cases rev with
 |false=>exact vp hd S hI hv hi hs hk hQ
 |true=>
  subst hk
  cases tj hs with
  |@tup vs e=>
   subst e
   refine ea1_2 hi ?_
   intro a q_2 hit
   (replace q_2:=Eq.symm q_2;subst q_2)
   rw [bX,show(vs.length:Int)-1-(vs.length:Int)=-1 by exact by simp+arith only]at hit
   exact D8 hd hit λh' hx=>hQ h' s.toks λb o hb e=>hx b o (λh=>hb (by exact(h)▸.head _)) e
  |@lst vs e=>
   subst e
   refine dm hi ?_
   intro a q_2 _ hit
   subst q_2
   cases hv.inv with
   |@lst _ its h1 h2 h3 h4 h5=>
    rw [bX,(h4.length.trans bE:vs.length=its.size)]at hit
    exact(Walks.listRev hd I a (λq=>h2 (q▸hI)) its).done s Q E ⟨aI _,hit,h3.isList⟩ hQ
end
theorem Kept.but{as:bA}{X:List Addr}{h₀ h h':HP}{Y:List Addr}(k:Kept as X h₀ h)(b:But Y h h')(hY:∀a∈Y,Fr as h₀ a):Kept as X h₀ h':=λx o e hx=>by
 refine ea1_2 (k x o e hx) ?_
 intro o' e' s
 exact⟨o',b x o' (λq=>by refine Or.elim (hY _ q) (λr=>?_) λr=>?_;exact hx r;replace e:=(r).symm.trans e;exact eY e) e',s⟩
structure CompF(T:Tb)(x:Str)(sc:Scope):Prop where
 kind:sc.kind=.function
 tabs:∀y i,T.tab.lookup y=some i->i<T.n
 hx:sc.names.lookup x=some .local
 names:∀p∈sc.names,sc.names.lookup p.1=some p.2
 loc:∀y,sc.names.lookup y=some .local->y=x\/T.tab.lookup y=none
 nocell:∀p∈sc.names,p.2≠.cell
 free:∀y,sc.names.lookup y=some .free->(T.names.lookup y=some .cell\/T.names.lookup y=some .free)/\(∃i,T.tab.lookup y=some i)/\y≠x
theorem JO{T:Tb}{x:Str}{sc:Scope}(h:tU T x sc=true):CompF T x sc:=by
 simp only [tU,cV,decide_eq_true_eq,bL]at h
 obtain⟨⟨⟨h1,h2⟩,h3⟩,h4⟩:=h
 refine⟨h1,λy i e=>h2 _ (mem_of_lookup e),h3,λp hp=>(h4 p hp).1,λy e=>?_,λp hp e=>?_,λy e=>?_⟩
 ·haveI:=(h4 _ (mem_of_lookup e)).2
  simpa using this
 ·haveI:=(h4 p hp).2
  rw [e]at this
  simp at this
 ·haveI:=(h4 _ (mem_of_lookup e)).2
  simp only [cV,jg,decide_eq_true_eq]at this
  exact⟨this.1.1,c8.mp this.1.2,this.2⟩
theorem jM{env:Env}:∀(names:List (Str×NameKind)) (x:Str),
  (names.map λ(n,k)=>if(k==NameKind.free&&env.scope.kind==.function&&env.kindOf n==some .cell)then(n,NameKind.cell)else(n,k)).lookup x=
   (names.lookup x).map λk=>if(k==NameKind.free&&env.scope.kind==.function&&env.kindOf x==some .cell)then NameKind.cell else k
 |[],_=>rfl
 |(n,k)::r,x=>by
  have ih:=jM (env:=env) r x
  refine(?_:List.lookup x ((if(k==NameKind.free&&env.scope.kind==.function&&env.kindOf n==some .cell)=true then(n,NameKind.cell)else(n,k))::_)=_)
  refine rj (o:=x==n) (λhx=>?_) (λhx=>?_)
  ·haveI hxn:x=n:=by simpa using hx
   subst hxn
   simp only [bh,hx,gN]
   by_cases hc:(k==NameKind.free&&env.scope.kind==.function&&env.kindOf x==some .cell)=true
   ·rw [if_pos hc,if_pos hc,bh,hx]
   ·rw [if_neg hc,if_neg hc,bh,hx]
  ·simp only [bh,hx]
   by_cases hc:(k==NameKind.free&&env.scope.kind==.function&&env.kindOf n==some .cell)=true
   ·rw [if_pos hc];simp only [bh,hx];exact ih
   ·rw [if_neg hc];simp only [bh,hx];exact ih
theorem nQ{sc:Scope}{env:Env}(hn:∀p∈sc.names,sc.names.lookup p.1=some p.2)(hf:∀y,sc.names.lookup y=some .free->∃a,env.cells.lookup y=some a) :
  ∃cl,closureFor sc env=pure cl/\(∀y a,cl.lookup y=some a->env.cells.lookup y=some a)/\(∀y,sc.names.lookup y=some .free->cl.lookup y=env.cells.lookup y):=by
 haveI go:∀(names:List (Str×NameKind)) (acc:List (Str×Addr)),(∀p∈names,p.2=.free->∃a,env.cells.lookup p.1=some a)->(∀y a,acc.lookup y=some a->env.cells.lookup y=some a)->
   ∃cl,(forIn names acc λp cs=>(if(p.2==NameKind.free)=true then do let a <-cellOf env p.1;pure (ForInStep.yield ((p.1,a)::cs))else pure (ForInStep.yield cs):Sem _))=pure cl/\
    (∀y a,cl.lookup y=some a->env.cells.lookup y=some a)/\(∀p∈names,p.2=.free->∃a,cl.lookup p.1=some a)/\(∀y a,acc.lookup y=some a->∃a,cl.lookup y=some a):=by
  intro names
  induction names with
  |nil=>exact λacc _ h2=>⟨acc,rfl,h2,by simp,λy a e=>⟨a,e⟩⟩
  |cons p r ih=>
   intro acc h1 h2
   by_cases hp:p.2=.free
   ·refine dw (h1 p (.head _) hp) λa ha=>?_
    haveI h2':∀y b,((p.1,a)::acc).lookup y=some b->env.cells.lookup y=some b:=λy b e=>by
     simp only [bh]at e
     refine rj (o:=y==p.1) (λhy=>?_) (λhy=>?_)
     ·rw [hy]at e;simp only [ii]at e;subst e;rw [beq_iff_eq]at hy;exact(hy)▸ha
     ·rw [hy]at e;exact h2 y b e
    refine dg (ih ((p.1,a)::acc) (λq hq=>h1 q (.tail _ hq)) h2') ?_
    intro cl e1 e2 e3 e4
    refine⟨cl,?_,e2,λq hq hqf=>?_,λy b e=>?_⟩
    ·rw [List.forIn_cons]
     simp only [hp,BEq.rfl,if_true,cellOf,ha]
     exact e1
    ·refine dN (hq) (λe_=>?_) λhq=>?_
     ·exact (e_)▸e4 p.1 a (by simp [bh])
     ·exact e3 q hq hqf
    ·by_cases hy:y=p.1
     ·subst hy;exact e4 p.1 a (by simp [bh])
     ·exact e4 y b (by simp only [bh,show(y==p.1)=false by simpa using hy];exact e)
   ·refine dg (ih acc (λq hq=>h1 q (.tail _ hq)) h2) ?_
    intro cl e1 e2 e3 e4
    refine⟨cl,?_,e2,λq hq hqf=>?_,e4⟩
    ·rw [List.forIn_cons]
     haveI:(p.2==NameKind.free)=false:=by simpa using hp
     simp only [this,jB,if_false]
     exact e1
    ·refine dN (hq) (λe_=>?_) λhq=>?_
     ·replace e_:=Eq.symm e_;subst e_;exact absurd hqf hp
     ·exact e3 q hq hqf
 refine dg (go sc.names [] (λp hp hpf=>hf p.1 (by simp only [hn p hp,hpf])) (by simp)) ?_
 intro cl e1 e2 e3 _
 refine⟨cl,?_,e2,λy hy=>?_⟩
 ·dsimp only [closureFor]
  simp only [bind_pure_comp]at e1 ⊢
  first
   |(rw [e1];rfl)
   |(simp only [bind_pure_comp];erw [e1];rfl)
 ·refine dw (e3 (y,.free) (mem_of_lookup hy) rfl) λa ha=>?_
  simp only [ha,e2 y a ha]
structure Ls(c:Cx)(env:Env)(tab:List (Str×Nat))(as₀:bA)(h₀:HP)(X:List Addr)(I C D:Addr):Prop where
 ic:I≠C
 id:I≠D
 cd:C≠D
 bi:c.base.get? I=none
 bc:c.base.get? C=none
 bd:c.base.get? D=none
 hi:Fr as₀ h₀ I
 hc:Fr as₀ h₀ C
 hd:Fr as₀ h₀ D
 dx:D∉X
 cx:C∉X
 aw:p8 [I,C,D] env tab
theorem Ls.cnt{c:Cx}{env:Env}{tab:List (Str×Nat)}{as₀:bA}{h₀:HP}{X:List Addr}{I C D:Addr}{Q:Addr->Prop}(W:Ls c env tab as₀ h₀ X I C D)(k:∀b,2<=X.count b->Q b\/Fr as₀ h₀ b):∀b,2<=(I::C::D::X).count b->Q b\/Fr as₀ h₀ b:=Kr (.inr W.hi) (Kr (.inr W.hc) (Kr (.inr W.hd) k))
theorem Ls.fr{c:Cx}{env:Env}{tab:List (Str×Nat)}{as₀:bA}{h₀:HP}{X:List Addr}{I C D:Addr}(W:Ls c env tab as₀ h₀ X I C D):∀a∈[I,C,D],Fr as₀ h₀ a:=eJ W.hi (eJ W.hc (eJ W.hd qY))
theorem DU{I C D:Addr}{X:List Addr}(b:Addr):X.count b<=(I::C::D::X).count b:=aa b7 (aa b7 b7)
structure Lp(c:Cx)(T:Tb)(env:Env)(as₀:bA)(h₀:HP)(X:List Addr)(ρ:Fm)(I C D:Addr)(v:V)(y:Value)(k:Nat)(acc:List V)(arr:Array Value)(s:Shared)(as:bA)(H:AH):Prop where
 S:SR c as (I::C::D::X) H s
 F:FR c as (I::C::D::X) s.heap env T.tab ρ
 hv:VR c as (I::C::D::X) s.heap v y
 hi:ItC s.heap I v y k
 hD:s.heap.PlainList D arr
 hacc:VRs c as (I::C::D::X) s.heap acc arr.toList
 hl:acc.length<=k
 hC:∃m,s.heap.Ns C m
 oi:I∉as
 oc:C∉as
 od:D∉as
 E:Ext as₀ h₀ as
 K:Kept as₀ (I::C::D::X) h₀ s.heap
section
variable {c:Cx}{T:Tb}{env:Env}{as₀:bA}{h₀:HP}{X:List Addr}{ρ:Fm}{I C D:Addr}{v:V}{y:Value}{k:Nat}{acc:List V}{arr:Array Value}{s:Shared}{as:bA}{H:AH}
theorem Lp.eval{s':Shared}{as':bA}{H':AH}(L:Lp c T env as₀ h₀ X ρ I C D v y k acc arr s as H)(e:Ext as s.heap as')(kp:Kept as (I::C::D::X) s.heap s'.heap)(S:SR c as' (I::C::D::X) H' s'):Lp c T env as₀ h₀ X ρ I C D v y k acc arr s' as' H' where
 S:=S
 F:=L.F.keep kp e
 hv:=L.hv.keep kp e
 hi:=L.hi.at λo q hc=>kp.get q L.oi hc
 hD:=by obtain⟨n,q⟩:=L.hD;exact⟨n,kp.get q L.od (by simp)⟩
 hacc:=L.hacc.keep kp e
 hl:=L.hl
 hC:=by obtain⟨m,q⟩:=L.hC;exact⟨m,Ns.same q λo e=>kp _ o e L.oc⟩
 oi:=by refine dw (L.hi.here) λo q_=>cO q_ λq _=>?_;exact e.out q L.oi
 oc:=by obtain⟨m,o,_,_,q,_⟩:=L.hC;exact e.out q L.oc
 od:=by obtain⟨n,q⟩:=L.hD;exact e.out q L.od
 E:=L.E.trans L.K e
 K:=L.K.trans L.E kp
theorem Lp.but{s':Shared}{Z:List Addr}(W:Ls c env T.tab as₀ h₀ X I C D)(L:Lp c T env as₀ h₀ X ρ I C D v y k acc arr s as H)(b:But Z s.heap s'.heap)(hZ:∀a∈Z,a∈[I,C,D]) :
  VK as (I::C::D::X) s.heap s'.heap/\FR c as (I::C::D::X) s'.heap env T.tab ρ/\Kept as₀ (I::C::D::X) h₀ s'.heap:=by
 haveI hI:∀a∈Z,a∈I::C::D::X:=λa ha=>av X (hZ a ha)
 exact⟨b.vk as hI,L.F.keepY (Y:=Z) (b.kept as _) hI ⟨λq=>W.aw.1 (hZ _ q),λx i h1 h2 a e q=>W.aw.2 x i h1 h2 a e (hZ _ q)⟩,L.K.but b λa ha=>W.fr a (hZ a ha)⟩
theorem Lp.next{h':HP}{tk:Nat}(W:Ls c env T.tab as₀ h₀ X I C D)(L:Lp c T env as₀ h₀ X ρ I C D v y k acc arr s as H)(b:But [I] s.heap h')(hv:VR c as (I::C::D::X) h' v y)(hi:ItC h' I v y (k+1))
  (S:SR c as (I::C::D::X) H {s with heap:=h',toks:=tk}):Lp c T env as₀ h₀ X ρ I C D v y (k+1) acc arr {s with heap:=h',toks:=tk} as H:=
 ea0_3 (L.but (s':={s with heap:=h',toks:=tk}) W b (dk (.head _))) λb1 b2 b3=>
 ⟨S,b2,hv,hi,L.hD.imp λn q=>b _ _ (rz (Ne.symm W.id)) q,L.hacc.keepX b1 (.refl ..),Kv L.hl,L.hC.imp λm q=>Ns.same (X:=[]) q λo e=>⟨o,b _ _ (rz (Ne.symm W.ic)) e,.inl rfl⟩,L.oi,L.oc,L.od,L.E,b3⟩
theorem Lp.store{h':HP}{tk:Nat}{m:Str->Option Value}(W:Ls c env T.tab as₀ h₀ X I C D)(L:Lp c T env as₀ h₀ X ρ I C D v y k acc arr s as H)(b:But [C] s.heap h')(hm:h'.Ns C m) :
  Lp c T env as₀ h₀ X ρ I C D v y k acc arr {s with heap:=h',toks:=tk} as H:=
 ea0_3 (L.but (s':={s with heap:=h',toks:=tk}) W b (dk (.tail _ (.head _)))) λb1 b2 b3=>
 ⟨L.S.but (s':={s with heap:=h',toks:=tk}) b (dk ⟨.tail _ (.head _),W.bc⟩) (λ_ q=>q) (λa ha hz=>in1 hz▸kD hm λo _ _ e _=>⟨o,e⟩) rfl rfl,b2,L.hv.keepX b1 (.refl ..),L.hi.at λo e _=>b _ _ (rz W.ic) e,L.hD.imp λn q=>b _ _ (rz (Ne.symm W.cd)) q,L.hacc.keepX b1 (.refl ..),L.hl,⟨m,hm⟩,L.oi,L.oc,L.od,L.E,b3⟩
theorem Lp.push{h':HP}{z:V}{zc:Value}(W:Ls c env T.tab as₀ h₀ X I C D)(L:Lp c T env as₀ h₀ X ρ I C D v y k acc arr s as H)(b:But [D] s.heap h')(hp:h'.PlainList D (arr.push zc))(hz:VR c as (I::C::D::X) s.heap z zc)(hl:acc.length+1<=k) :
  Lp c T env as₀ h₀ X ρ I C D v y k (acc++[z]) (arr.push zc) {s with heap:=h'} as H:=
 ea0_3 (L.but (s':={s with heap:=h'}) W b (dk (.tail _ (.tail _ (.head _))))) λb1 b2 b3=>
 ⟨L.S.but (s':={s with heap:=h'}) b (dk ⟨.tail _ (.tail _ (.head _)),W.bd⟩) (λ_ q=>q) (λa ha hz=>in1 hz▸hp.elim λn e=>⟨_,e⟩) rfl rfl,b2,L.hv.keepX b1 (.refl ..),L.hi.at λo e _=>b _ _ (rz W.id) e,hp,by simp only [Kw];exact(L.hacc.keepX b1 (.refl ..)).append (.cons (hz.keepX b1 (.refl ..)) .nil),aa (ao af) hl,L.hC.imp λm q=>Ns.same (X:=[]) q λo e=>⟨o,b _ _ (rz W.cd) e,.inl rfl⟩,L.oi,L.oc,L.od,L.E,b3⟩
theorem Lp.rdy{A:Around}{n:Nat}{x:Str}{sc:Scope}{cl:List (Str×Addr)}{u:V}{uc:Value}{m:Str->Option Value}(W:Ls c env T.tab as₀ h₀ X I C D)(L:Lp c T env as₀ h₀ X ρ I C D v y k acc arr s as H)(a:AOk c A n)(fr:EnvFr c A X as₀ h₀ env)(K:KOk T env)(hlen:ρ.length=T.n)
  (ok:CompF T x sc)(hcl:∀y a,cl.lookup y=some a->env.cells.lookup y=some a)(hcl':∀y,sc.names.lookup y=some .free->cl.lookup y=env.cells.lookup y)(hm:s.heap.Ns C m)(hmx:m x=some uc)(hu:VR c as (I::C::D::X) s.heap u uc) :
  Rdy c {T with names:=sc.names,tab:=(x,T.n)::T.tab,n:=T.n+1} (compEnvC sc cl C env) A n s as (I::C::D::X) H (ρ++[some u]):=by
 haveI kind:∀y,(compEnvC sc cl C env).kindOf y=(sc.names.lookup y).map λk=>if(k==NameKind.free&&env.scope.kind==.function&&env.kindOf y==some .cell)then NameKind.cell else k:=λy=>jM sc.names y
 have notcell:∀y,sc.names.lookup y≠some .cell:=λy e=>ok.nocell _ (mem_of_lookup e) rfl
 have kfree:∀y,((compEnvC sc cl C env).kindOf y=some .cell\/(compEnvC sc cl C env).kindOf y=some .free)->sc.names.lookup y=some .free:=λy e=>by
  rw [kind]at e
  refine fA (o:=sc.names.lookup y) (λhq=>?_) (λkk hq=>?_)
  ·replace e:=(hq)▸e;simp at e
  ·rw [hq]
   replace e:=(hq)▸e
   induction kk with
   |free=>rfl
   |cell=>exact absurd hq (notcell y)
   |_=>simp at e
 have kloc:∀y,(compEnvC sc cl C env).kindOf y=some .local->sc.names.lookup y=some .local:=λy e=>by
  rw [kind]at e
  refine fA (o:=sc.names.lookup y) (λhq=>?_) (λkk hq=>?_)
  ·simp only [hq]at e;exact eY e
  ·rw [hq]
   rw [hq]at e
   induction kk with
   |«local»=>rfl
   |free=>
    simp only [gN,ii]at e
    split at e<;>cases e
   |_=>cases e
 refine⟨a,L.S,?_,?_,?_,((fr.grow (.refl _) DU).keep L.E L.K).env rfl⟩
 ·refine ⟨ok.kind,L.F.glob,L.F.bi,by simp [compEnvC],L.oc,W.bc,⟨m,hm,λz i h1 h2=>?_⟩,λz i h1 h2=>?_,λz z' b h1 h2=>L.F.apart z z' b (hcl _ _ h1) (hcl _ _ h2),λz z' i h1 h2=>?_⟩
  ·haveI hz:=ok.loc z (kloc z h2)
   haveI hzx:z=x:=by
    refine Or.elim (hz) (λhz=>?_) λhz=>?_
    ·exact hz
    ·simp only [bh]at h1
     refine rj (o:=z==x) (λhb=>?_) (λhb=>?_)
     ·simpa using hb
     ·replace h1:=(hb)▸h1;simp only at h1;replace h1:=(hz).symm.trans h1;exact eY h1
   subst hzx
   simp only [bh,BEq.rfl,ii]at h1
   subst h1
   simp only [hmx,<-hlen]
   intro w ew
   simp at ew
   subst ew
   exact⟨uc,rfl,hu⟩
  ·haveI hz:=kfree z h2
   refine ea0_3 (ok.free z hz) ?_
   intro h3 p_2 h5
   refine dw (p_2) λj h4=>?_
   have hzi:T.tab.lookup z=some i:=by
    simp only [bh,show(z==x)=false by simpa using h5]at h1;exact h1
   have hek:env.kindOf z=some .cell\/env.kindOf z=some .free:=by
    refine Or.elim (h3) (λh3=>?_) λh3=>?_
    ·exact .inl (K.cell z h3)
    ·refine Or.elim (K.free z h3) (λq=>?_) λq=>?_
     ·exact .inr q
     ·exact .inl q
   refine kA (L.F.cells z i hzi hek) ?_
   intro a yy e1 e2 e3 e4 e5 e6 e7
   haveI hi:=ok.tabs z i hzi
   refine⟨a,yy,(hcl' z hz).trans e1,e2,e3,e4,λq=>W.aw.2 z i hzi hek a e1 (by simp only [q];simp [compEnvC]),e6,?_⟩
   rw [bl (jA hi hlen.symm)]
   exact e7
  ·rw [bh]at h1 h2
   refine rj (o:=z==x) (λhb=>?_) (λhb=>?_)
   ·cases hb':z'==x with
    |true=>rw [beq_iff_eq]at hb hb';simp only [hb,hb']
    |false=>
     rw [hb]at h1;rw [hb']at h2
     simp only [ii]at h1 h2
     exact(cm _ (jA (ok.tabs _ _ h2) h1)).elim
   ·cases hb':z'==x with
    |true=>
     rw [hb]at h1;rw [hb']at h2
     simp only [ii]at h1 h2
     exact(cm _ (jA (ok.tabs _ _ h1) h2)).elim
    |false=>rw [hb]at h1;rw [hb']at h2;exact L.F.inj z z' i h1 h2
 ·refine ⟨λz hz=>?_,λz hz=>absurd hz (notcell z),λz hz=>?_,λz hz=>?_⟩
  ·rw [kind,hz];rfl
  ·rw [kind,hz]
   simp only [gN]
   split
   ·exact .inr rfl
   ·exact .inl rfl
  ·rw [kind,hz];rfl
 ·simp [hlen]
def re(P:Prog)(Cs:Calls)(elt:Ex)(cond:Option Ex)(ρ:Fm)(XX:XE):V->AH->(Option V->AH->Prop)->Prop:=λx H' K=>match cond with
 |none=>cz P Cs elt (ρ++[some x]) H' (λy H''=>K (some y) H'') XX
 |some q=>cz P Cs q (ρ++[some x]) H' (λb H₂=>mK (fk b) λt=>if t then cz P Cs elt (ρ++[some x]) H₂ (λy H''=>K (some y) H'') XX else K none H₂) XX
theorem oM{P:Prog}{Cs:Calls}{ρ:Fm}{H:AH}{Q:QE}{XX:XE}{mu:Bool}{elt it:Ex}{cond:Option Ex}:cz P Cs (.comp mu elt it cond) ρ H Q XX=cz P Cs it ρ H (λv H₁=>∃items,p4 H₁ v=some items/\items.length<=az/\
   compL (re P Cs elt cond ρ XX) (λH'=>p4 H' v=some items) items [] H₁ (λys H₂=>g7 (if mu then kT (.lst ys) H₂ else some (.lst ys,H₂)) Q)) XX:=by
 cases cond<;>rfl
theorem oY{α:Type}{l:List α}{k:Nat}{x:α}(h:l[k]? =some x):l.drop k=x::l.drop (k+1):=by
 obtain⟨h1,h2⟩:=ae.mp h
 simp only [List.drop_eq_getElem_cons h1,h2]
theorem ERes.nsC{as:bA}{Y:List Addr}{h:HP}{XX:XE}{x:Value}{s':Shared}(r:ERes c as Y h XX x s')(hC:∃m,h.Ns C m)(oc:C∉as):∃m,s'.heap.Ns C m:=by
 obtain⟨k,H',as',e,t,ts,_,e',S,k',ex,ht,ap,w⟩:=r
 obtain⟨m,n⟩:=hC
 exact⟨m,Ns.same n λo e=>k' _ o e oc⟩
theorem Lp.small(L:Lp c T env as₀ h₀ X ρ I C D v y k acc arr s as H)(hk:k<=az):arr.size<=sizeLine:=aa (ao (bE.symm.trans L.hacc.length.symm)) (aa L.hl (aa hk cB))
section
variable {A:Around}{n:Nat}{elt:Expr}{T':Tb}{env':Env}{b:Ex}{XX:XE}{u:V}{K:List V->AH->Prop}{J:Shared->Prop}{E':Value->Shared->Prop}
  (W:Ls c env T.tab as₀ h₀ X I C D)(he:SE c n T' elt b)(hk:k<=az)(hl:acc.length+1<=k)
  (hJ:∀{acc:List V} {arr:Array Value} {s:Shared} {as:bA} {H:AH},Lp c T env as₀ h₀ X ρ I C D v y k acc arr s as H->K acc H->J s)
  (hE:∀x s',ERes c as₀ (I::C::D::X) h₀ XX x s'->(∃m,s'.heap.Ns C m)->E' x s')
  (L:Lp c T env as₀ h₀ X ρ I C D v y k acc arr s as H)(r:Rdy c T' env' A n s as (I::C::D::X) H (ρ++[some u]))
include W he hk hl hJ hE L r
theorem sA(w:cz c.P (aJ c.P n) b (ρ++[some u]) H (λy H''=>K (acc++[y]) H'') XX) :
  wpAny c.M A (eval elt env') (λx s₄=>wpAny c.M A (call (.builtin "list.append") [.ref D,x]) (λ_ s₅=>J s₅) E' s₄) E' s:=
 wpAny_mono (he.run r w) (λzc s₄ q=>by
  obtain⟨zv,H₄,as₄,e₄,S₄,k₄,hz₄,w₄⟩:=q
  exact wpAny_list_append_plain (hsz:=(L.eval e₄ k₄ S₄).small hk) (L.eval e₄ k₄ S₄).hD λh₅ hp₅ hs₅=>hJ ((L.eval e₄ k₄ S₄).push W (λq o hq e=>(hs₅.2 q (AD hq)).trans e) hp₅ hz₄ hl) w₄)
  λ_ _ e=>hE _ _ (e.lift L.E L.K) (e.nsC L.hC L.oc)
theorem wL{ifs:List Expr}{cond:Option Ex}(hc:(ifs=[]/\cond=none)\/∃t q,ifs=[t]/\cond=some q/\ST c n T' t q)(w:re c.P (aJ c.P n) b cond ρ XX u H (λr H'=>K (match r with|some x=>acc++[x]|none=>acc) H')) :
  wpAny c.M A (forIn ifs true λc r=>if r=true then do let ok <-isTrue c env' (eval c env');pure (ForInStep.yield ok)else pure (ForInStep.yield r)) (λok s₃=>
   if ok=true then wpAny c.M A (eval elt env') (λx s₄=>wpAny c.M A (call (.builtin "list.append") [.ref D,x]) (λ_ s₅=>J s₅) E' s₄) E' s₃ else J s₃) E' s:=by
 refine Or.elim hc (λh=>?_) λh=>c6 h λt q h1 h2 ht=>?_
 ·(refine cO (h) λe_0 e_1=>?_;cases e_0;subst e_1)
  exact wpAny_tests_nil (sA W he hk hl hJ hE L r w)
 ·subst h1
  subst h2
  refine wpAny_tests_one (wpAny_mono (ht.run (Q:=λt H₂=>if t then cz c.P (aJ c.P n) b (ρ++[some u]) H₂ (λy H''=>K (acc++[y]) H'') XX else K acc H₂) (λ_ _ q=>q) r w) (λbb s₃ q=>?_) λ_ _ e=>hE _ _ (e.lift L.E L.K) (e.nsC L.hC L.oc))
  obtain⟨H₃,as₃,e₃,S₃,k₃,w₃⟩:=q
  induction bb with
  |true=>exact sA W he hk hl hJ hE (L.eval e₃ k₃ S₃) (r.next e₃ k₃ S₃) w₃
  |false=>exact hJ (L.eval e₃ k₃ S₃) w₃
end
def CI(c:Cx)(T:Tb)(env:Env)(as₀:bA)(h₀:HP)(X:List Addr)(ρ:Fm)(I C D:Addr)(v:V)(y:Value)(items:List V)(F:V->AH->(Option V->AH->Prop)->Prop)(QQ:List V->AH->Prop)(m:Nat)(s:Shared):Prop:=
 ∃k acc arr as H,m=items.length-k/\k<=items.length/\Lp c T env as₀ h₀ X ρ I C D v y k acc arr s as H/\compL F (λH'=>p4 H' v=some items) (items.drop k) acc H QQ
theorem wE{A:Around}{n:Nat}{x:Str}{px:Pos}{elt iter:Expr}{ifs:List Expr}{sc:Scope}{pos:Pos}{cl:List (Str×Addr)}{b:Ex}{cond:Option Ex}{XX:XE}{items:List V}{QQ:List V->AH->Prop}{R:Result->Shared->Prop}
  (W:Ls c env T.tab as₀ h₀ X I C D)(a:AOk c A n)(fr:EnvFr c A X as₀ h₀ env)(K:KOk T env)(hlen:ρ.length=T.n)
  (ok:CompF T x sc)(hcl:∀y a,cl.lookup y=some a->env.cells.lookup y=some a)(hcl':∀y,sc.names.lookup y=some .free->cl.lookup y=env.cells.lookup y)
  (he:SE c n {T with names:=sc.names,tab:=(x,T.n)::T.tab,n:=T.n+1} elt b)
  (hc:(ifs=[]/\cond=none)\/∃t q,ifs=[t]/\cond=some q/\ST c n {T with names:=sc.names,tab:=(x,T.n)::T.tab,n:=T.n+1} t q)
  (hsz:items.length<=az)
  (L:Lp c T env as₀ h₀ X ρ I C D v y k acc arr s as H)
  (w:compL (re c.P (aJ c.P n) b cond ρ XX) (λH'=>p4 H' v=some items) (items.drop k) acc H QQ)(hk:k<=items.length)
  (hR:∀k' acc' arr' s' as' H' tk h',Lp c T env as₀ h₀ X ρ I C D v y k' acc' arr' s' as' H'->k'<=items.length->But [I] s'.heap h'->QQ acc' H'->R (.ok .next) {s' with heap:=h',toks:=tk})
  (hX:∀x s',ERes c as₀ (I::C::D::X) h₀ XX x s'->AB x s'.heap->(∃m,s'.heap.Ns C m)->R (.error x) s') :
  codeAny c.M A (.compLoop (.ListComp elt [⟨.Name x px,iter,ifs,0⟩] sc pos) 0 (.ref I) (.ref D) (compEnvC sc cl C env)) R s:=by
 refine codeAny_compLoop_tests (CI c T env as₀ h₀ X ρ I C D v y items (re c.P (aJ c.P n) b cond ρ XX) QQ) (λm s h0=>?_) (items.length-k) ⟨k,acc,arr,as,H,rfl,hk,L,w⟩
 clear L w hk
 refine DA h0 λk acc arr as H q_0 hk L w=>?_
 clear h0
 subst q_0
 refine fA (o:=items[k]?) (λhx=>?_) λu hx=>?_
 ·have hkl:items.length=k:=lY (wY.mp hx) hk
  replace w:=(CT (ao hkl))▸w
  exact vp a.hh L.S (.head _) L.hv L.hi w.1 hkl λh' tk hb=>hR k acc arr s as H tk h' L hk hb w.2
 ·have hlt:=(ae.mp hx).1
  rw [oY hx]at w
  refine vB a.hh L.S (.head _) W.bi L.hv L.hi w.1 hx λz h₁ tk₁ b₁ hu₁ hv₁ hi₁ S₁=>?_
  haveI L₁:=L.next W b₁ hv₁ hi₁ S₁
  refine L₁.hC.elim λm hm=>wpAny_assign_Name (wpAny_storeName_local (lookup_relabel_local ok.hx) hm (λh₂ hm₂ hs₂=>?_) (by show(sc.kind==.class||(sc.kind==.module&&_))=false;rw [ok.kind];rfl))
  haveI b₂:But [C] h₁ h₂:=λq o hq e=>(hs₂.2 q (AD hq)).trans e
  haveI L₂:=L₁.store (tk:=tk₁+1) W b₂ hm₂
  exact wL W he (aa hlt hsz) (ax L.hl) (λL' w'=>⟨items.length-(k+1),Hb hlt (cW k),k+1,_,_,_,_,rfl,hlt,L',w'⟩)
   (λx s' er hm=>hm.elim λm hm=>er.note (λas' _ _ e k _ _=>((fr.grow (.refl _) DU).keep e k).env rfl) λs'' er' tr d=>hX x s'' er' tr ⟨m,d.ns hm⟩)
   L₂ (L₂.rdy W a fr K hlen ok hcl hcl' hm₂ (by simp) (hu₁.keepX (b₂.vk as (dk (.tail _ (.head _)))) (.refl ..))) hc w.2
end
theorem SR.opens{c:Cx}{as:bA}{X Y:List Addr}{H:AH}{s s':Shared}(x:SR c as X H s)(g:Grown s.heap s'.heap)(hX:∀b∈Y,b∈X\/s.heap.get? b=none)(hx:∀b∈Y,∃o,s'.heap.get? b=some o)(hg:s'.gens=s.gens)(ho:s'.os=s.os):SR c as Y H s' where
 len:=x.len
 stays:=λb o e=>g b o (x.stays b o e)
 gens:=hg.trans x.gens
 os:=ho.trans x.os
 objs:=λi a e=>by
  refine ea0_3 (x.objs i a e) ?_
  intro h1 h2 r_3
  refine ea1_2 r_3 ?_
  intro o h3 h4
  obtain⟨ob,hob⟩:=h4.here
  haveI hy:∀b o,s.heap.get? b=some o->b∉X->b∉Y:=λb o e hb q=>by
   refine Or.elim (hX b q) (λr=>?_) λr=>?_
   ·exact hb r
   ·exact eY ((r).symm.trans e)
  exact⟨h1,hy _ _ hob h2,o,h3,(h4.frames hy).keepX (g.kept as Y).x λob e=>g _ _ e⟩
 inj:=x.inj
 xs:=hx
theorem FR.opens{c:Cx}{as:bA}{X Y:List Addr}{h h':HP}{env:Env}{tab:List (Str×Nat)}{ρ:Fm}(F:FR c as X h env tab ρ)(g:Grown h h')(hXY:∀b∈X,b∈Y)(hX:∀b∈Y,b∈X\/h.get? b=none):FR c as Y h' env tab ρ:=
 (F.frames hXY λb o e hb q=>by
  refine Or.elim (hX b q) (λr=>?_) λr=>?_
  ·exact hb r
  ·exact eY ((r).symm.trans e)).keep (g.kept as Y) (.refl ..)
theorem VR.opens{c:Cx}{as:bA}{X Y:List Addr}{h h':HP}{v:V}{y:Value}(F:VR c as X h v y)(g:Grown h h')(hX:∀b∈Y,b∈X\/h.get? b=mT):VR c as Y h' v y:=
 (F.frames λb o e hb q=>by
  refine Or.elim (hX b q) (λr=>?_) λr=>?_
  ·exact hb r
  ·exact eY ((r).symm.trans e)).grow g
theorem vc{as:bA}{X Y:List Addr}{a:Addr}{h:HP}(ha:a∈X)(hY:∀b∈Y,b∈X):∀b (o:Obj),b∉as->b∉X->h.get? b=some o->b∉as++[a]/\b∉Y/\h.get? b=some o:=λb o h1 h2 h3=>
 ⟨ED h1 λq=>h2 (q▸ha),λq=>h2 (hY _ q),h3⟩
theorem VR.adopt{c:Cx}{as:bA}{X Y:List Addr}{h:HP}{a:Addr}(ha:a∈X)(hY:∀b∈Y,b∈X){v:V}{y:Value}(r:VR c as X h v y):VR c (as++[a]) Y h v y:=VR.gen (vc ha hY) (λ_ _ e=>dt e) r
theorem VRs.adopt{c:Cx}{as:bA}{X Y:List Addr}{h:HP}{a:Addr}(ha:a∈X)(hY:∀b∈Y,b∈X){v:List V}{y:List Value}(r:VRs c as X h v y):VRs c (as++[a]) Y h v y:=VRs.gen (vc ha hY) (λ_ _ e=>dt e) r
theorem OR.adopt{c:Cx}{as:bA}{X Y:List Addr}{h:HP}{a b:Addr}{o:O}(ha:a∈X)(hY:∀b∈Y,b∈X)(x:OR c as X h b o):OR c (as++[a]) Y h b o:=by
 induction o with
 |list vs=>refine cO (x) λhb q_=>dw q_ λitems q_=>cO q_ λhp r=>?_;exact⟨hb,items,hp,r.adopt ha hY⟩
 |dict ks vs=>obtain⟨hb,hsm,cs,hd,hl,r⟩:=x;exact⟨hb,hsm,cs,hd,hl,r.adopt ha hY⟩
 |inst k d=>obtain⟨dx,ob,e1,r0,r1,r2,r3⟩:=x;exact⟨dx,ob,dt e1,r0,r1,r2,r3⟩
 |ns ks vs=>obtain⟨hb,cs,mA,hn,hl,r,hm⟩:=x;exact⟨hb,cs,mA,hn,hl,r.adopt ha hY,hm⟩
theorem SR.adopt{c:Cx}{as:bA}{X Y:List Addr}{H:AH}{s:Shared}{a:Addr}{o:O}(S:SR c as X H s)(ha:a∈X)(hb:c.base.get? a=none)(hY:∀b∈Y,b∈X)(haY:a∉Y)(ho:OR c (as++[a]) Y s.heap a o):SR c (as++[a]) Y (H++[o]) s where
 len:=by simp only [af,af,S.len];rfl
 stays:=S.stays
 gens:=S.gens
 os:=S.os
 objs:=λi b e=>(gQ e).elim (λe=>ea0_3 (S.objs i b e) λh1 h2 r=>ea1_2 r λob h3 h4=>⟨h1,λq=>h2 (hY _ q),ob,dt h3,h4.adopt ha hY⟩) λq=>by
  (refine cO (q) λe_0 e_1=>?_;subst e_0;(replace e_1:=Eq.symm e_1;subst e_1))
  exact⟨hb,haY,o,by exact(S.len)▸di,ho⟩
 inj:=λi j b e1 e2=>by
  haveI hne:∀{i:Nat},as[i]? =some b->b≠a:=λe q=>(S.objs _ _ e).2.1 (q▸ha)
  exact(gQ e1).elim (λh1=>(gQ e2).elim (S.inj i j b h1) λh2=>absurd h2.2 (hne h1)) λh1=>(gQ e2).elim (λh2=>absurd h1.2 (hne h2)) λh2=>h1.1.trans h2.1.symm
 xs:=λb hb=>S.xs b (hY b hb)
theorem OVR.adopt{c:Cx}{as:bA}{X Y:List Addr}{h:HP}{a:Addr}{o:Option V}{y:Option Value}(ha:a∈X)(hY:∀b∈Y,b∈X)(z:OVR c as X h o y):OVR c (as++[a]) Y h o y:=
 λv e=>let⟨q,e1,e2⟩:=z v e;⟨q,e1,e2.adopt ha hY⟩
theorem FR.narrow{c:Cx}{as:bA}{X Y Z:List Addr}{h:HP}{env:Env}{tab:List (Str×Nat)}{ρ:Fm}(F:FR c as X h env tab ρ)(hY:∀b∈Y,b∈X)(hZ:∀b∈X,b∈Y\/b∈Z)(aw:p8 Z env tab):FR c as Y h env tab ρ where
 kind:=F.kind
 glob:=F.glob
 bi:=F.bi
 lx:=(hZ _ F.lx).resolve_right aw.1
 lout:=F.lout
 lb:=F.lb
 ns:=by
  refine ea1_2 F.ns ?_
  intro m n r
  exact⟨m,n,λy i h1 h2=>(r y i h1 h2).frames λb _ _ hb q=>hb (hY _ q)⟩
 cells:=λy i h1 h2=>by
  refine kA (F.cells y i h1 h2) ?_
  intro a z e1 e2 e3 e4 e5 e6 e7
  exact⟨a,z,e1,(hZ _ e2).resolve_right (aw.2 y i h1 h2 a e1),e3,e4,e5,e6,e7.frames λb _ _ hb q=>hb (hY _ q)⟩
 apart:=F.apart
 inj:=F.inj
theorem FR.adopt{c:Cx}{as:bA}{X Y Z:List Addr}{h:HP}{a:Addr}{env:Env}{tab:List (Str×Nat)}{ρ:Fm}(F:FR c as X h env tab ρ)(ha:a∈X)(hY:∀b∈Y,b∈X)(hZ:∀b∈X,b∈Y\/b∈Z)(aw:p8 Z env tab)(haZ:a∈Z):FR c (as++[a]) Y h env tab ρ where
 kind:=F.kind
 glob:=F.glob
 bi:=F.bi
 lx:=(hZ _ F.lx).resolve_right aw.1
 lout:=ED F.lout λq=>aw.1 (q▸haZ)
 lb:=F.lb
 ns:=by
  refine ea1_2 F.ns ?_
  intro m n r
  exact⟨m,n,λy i h1 h2=>(r y i h1 h2).adopt ha hY⟩
 cells:=λy i h1 h2=>by
  refine kA (F.cells y i h1 h2) ?_
  intro a' z e1 e2 e3 e4 e5 e6 e7
  have hz:=aw.2 y i h1 h2 a' e1
  exact⟨a',z,e1,(hZ _ e2).resolve_right hz,ED e3 λq=>hz (q▸haZ),e4,e5,e6,e7.adopt ha hY⟩
 apart:=F.apart
 inj:=F.inj
theorem Bz{prog:Program}{w:World}{A:Around}{E:Value->Shared->Prop}{s:Shared}{I:Addr}{v:V}{y:Value}{k:Nat}{Q:Value->Shared->Prop}(hi:ItC s.heap I v y k)(h:Q (.ref I) s):wpAny (model prog w) A (pyIter (.ref I)) Q E s:=by
 cases v<;>try exact hi.elim
 ·obtain ⟨x,t,_,h1|h1⟩:=hi
  ·exact wpAny_pyIter_striter_ascii h1 h
  ·exact wpAny_pyIter_striter_wide h1 h
 ·refine ea1_2 hi ?_
  intro a _ h1
  exact wpAny_pyIter_tupleiter h1 h
 ·refine ea1_2 hi ?_
  intro a _ h1
  exact wpAny_pyIter_listiter h1 h
 ·exact wpAny_pyIter_rangeiter hi h
 ·refine ea1_2 hi ?_
  intro a _ h1
  exact wpAny_pyIter_listiter h1 h
def ResC(c:Cx)(as:bA)(X:List Addr)(h:HP)(env:Env)(tab:List (Str×Nat))(ρ:Fm)(C:Addr)(Q:QE)(x:Value)(s':Shared):Prop:=
 ∃v H' as',Ext as h as'/\SR c as' (C::X) H' s'/\Kept as X h s'.heap/\VR c as' (C::X) s'.heap v x/\Q v H'/\FR c as' (C::X) s'.heap env tab ρ
theorem Res.drop{c:Cx}{as:bA}{X:List Addr}{h:HP}{C:Addr}{Q:QE}{x:Value}{s':Shared}{h':HP}(r:Res c as (C::X) h Q x s')(hC:Fr as h C)(hb:c.base.get? C=none)(hX:C∉X)(hs:gq C s'.heap h'):Res c as X h Q x {s' with heap:=h'}:=by
 obtain⟨v,H',as',e,S,k,hv,q⟩:=r
 haveI b:But [C] s'.heap h':=λq o hq e=>(hs.2 q (by exact AD (hq))).trans e
 exact⟨v,H',as',e,S.but (s':={s' with heap:=h'}) b (by simpa using hb) (λ_ q=>.tail _ q) (λa ha hz=>by replace hz:=in1 hz;(replace hz:=Eq.symm hz;subst hz);exact(hX ha).elim) rfl rfl,(k.but b (by exact dk (hC))).less (λa ha=>(vW ha).elim (λq=>.inr (q▸hC)) .inl),
  (hv.keepX (b.vk as' (by exact dk (.head _))) (.refl ..)).frames λb _ _ hb q=>hb (.tail _ q),q⟩
section
variable {c:Cx}{T:Tb}{env:Env}{X:List Addr}{ρ:Fm}{s:Shared}{as:bA}{H:AH}{E:Value->Shared->Prop}
theorem nO{A:Around}{n:Nat}{x:Str}{px:Pos}{elt iter:Expr}{ifs:List Expr}{sc:Scope}{pos:Pos}{cl:List (Str×Addr)}{b:Ex}{cond:Option Ex}{XX:XE}{mu:Bool}{Q:QE}{RR:Value->Addr->Result->Shared->Prop}
  {v:V}{y:Value}{s₁:Shared}{as₁:bA}{H₁:AH}
  (R:Rdy c T env A n s as X H ρ)
  (ok:CompF T x sc)(hcl:∀y a,cl.lookup y=some a->env.cells.lookup y=some a)(hcl':∀y,sc.names.lookup y=some .free->cl.lookup y=env.cells.lookup y)
  (he:SE c n {T with names:=sc.names,tab:=(x,T.n)::T.tab,n:=T.n+1} elt b)
  (hc:(ifs=[]/\cond=none)\/∃t q,ifs=[t]/\cond=some q/\ST c n {T with names:=sc.names,tab:=(x,T.n)::T.tab,n:=T.n+1} t q)
  (e1:Ext as s.heap as₁)(k1:Kept as X s.heap s₁.heap)(S1:SR c as₁ X H₁ s₁)(hv:VR c as₁ X s₁.heap v y)
  (w:∃items,p4 H₁ v=some items/\items.length<=az/\compL (re c.P (aJ c.P n) b cond ρ XX) (λH'=>p4 H' v=some items) items [] H₁ (λys H₂=>g7 (if mu then kT (.lst ys) H₂ else some (.lst ys,H₂)) Q))
  (hRR:∀D C s',Fr as s.heap C->C∉X->c.base.get? C=none->(∃m,s'.heap.Ns C m)->ResC c as X s.heap env T.tab ρ C Q (.ref D) s'->RR (.ref D) C (.ok .next) s')
  (hRX:∀D C x s',Fr as s.heap C->C∉X->c.base.get? C=none->(∃m,s'.heap.Ns C m)->ERes c as (C::X) s.heap XX x s'->AB x s'.heap->RR (.ref D) C (.error x) s') :
  wpAny c.M A (pyIter y) (λit s₂=>wpAny c.M A (newList []) (λacc s₃=>wpAny c.M A (newFunctionEnv sc env.globals cl [] env.qual none .none (some env)) (λcenv s₄=>
   codeAny c.M A (.compStart (.ListComp elt [⟨.Name x px,iter,ifs,0⟩] sc pos) 0 it acc {cenv with scope:=relabel sc env}) (RR acc cenv.locals) s₄) E s₃) E s₂) E s₁:=by
 refine dm w ?_
 intro items hsrc hsz w
 refine sH S1 hv hsrc λo hi=>?_
 refine wpAny_newObj_type (wpAny_newFunctionEnv ok.nocell (by intro y hy;simp at hy) (λh₁ hns₁ hsb₁=>?_) ok.kind)
 dsimp only at hns₁ hsb₁ ⊢
 generalize hI:s₁.heap.objs.size=I at hi ⊢
 have hfI:s₁.heap.get? I=none:=hI▸db _
 generalize hH1:s₁.heap.push o=G1 at hi hns₁ hsb₁ ⊢
 have gI:Grown s₁.heap G1:=hH1▸.push _ _
 generalize hD:G1.objs.size=D at hns₁ hsb₁ ⊢
 have hfD:G1.get? D=none:=hD▸db _
 generalize hH2:G1.push {cls:=.type "list",dict:=none,data:=.seq ([]:List Value).toArray}=G2 at hns₁ hsb₁ ⊢
 have gD:Grown G1 G2:=hH2▸.push _ _
 have hlD:G2.get? D=some {cls:=.type "list",dict:=none,data:=.seq ([]:List Value).toArray}:=by rw [<-hH2,<-hD];exact be _ rfl
 generalize hC:G2.objs.size=C at hns₁ hsb₁ ⊢
 have hfC:G2.get? C=none:=hC▸db _
 have g3:Grown G2 h₁:=λq o e=>hsb₁.extBut q o (λh=>by(replace h:=Eq.symm h;subst h);replace e:=(hfC).symm.trans e;exact eY e) (bQ _ e)
 refine ea1_2 hi.here λoI eI _=>?_
 haveI hID:=xI eI hfD
 have hIC:=xI (gD _ _ eI) hfC
 haveI hCD:=(xI hlD hfC).symm
 have fC:=gI.none (gD.none hfC)
 haveI fD:=gI.none hfD
 have g13:=(gI.trans gD).trans g3
 haveI hX':∀b∈I::C::D::X,b∈X\/s₁.heap.get? b=none:=eJ (.inr hfI) (eJ (.inr fC) (eJ (.inr fD) λ_ hb=>.inl hb))
 have F1:=R.F.keep k1 e1
 have aw:p8 [I,C,D] env T.tab:=F1.away (eJ (S1.not_x hfI) (eJ (S1.not_x fC) (eJ (S1.not_x fD) qY)))
 have W:Ls c env T.tab as s.heap X I C D:=⟨hIC,hID,hCD,S1.base_none hfI,S1.base_none fC,S1.base_none fD,k1.fr hfI,k1.fr fC,k1.fr fD,S1.not_x fD,S1.not_x fC,aw⟩
 haveI L:Lp c T env as s.heap X ρ I C D v y 0 [] #[] {s₁ with heap:=h₁,toks:=s₁.toks+([]:List (Str×Value)).length} as₁ H₁:=
  ⟨S1.opens (s':={s₁ with heap:=h₁,toks:=s₁.toks+([]:List (Str×Value)).length}) g13 hX' (eJ ⟨oI,g3 _ _ (gD _ _ eI)⟩ (eJ (kD hns₁ λo _ _ e _=>⟨o,e⟩) (eJ ⟨_,g3 _ _ hlD⟩ λb hb=>(S1.xs b hb).imp λo e=>g13 _ _ e))) rfl rfl,F1.opens g13 (λb hb=>.tail _ (.tail _ (.tail _ hb))) hX',hv.opens g13 hX',hi.at λo e _=>g3 _ _ (gD _ _ e),⟨_,g3 _ _ hlD⟩,.nil,aI _,⟨_,hns₁⟩,S1.not_as hfI,S1.not_as fC,S1.not_as fD,e1,(k1.more DU).trans e1 (g13.kept as₁ _)⟩
 haveI loop:codeAny c.M A (.compLoop (.ListComp elt [⟨.Name x px,iter,ifs,0⟩] sc pos) 0 (.ref I) (.ref D) (compEnvC sc cl C env)) (RR (.ref D) C) {s₁ with heap:=h₁,toks:=s₁.toks+([]:List (Str×Value)).length}:=by
  refine wE W R.a R.fr R.K R.len ok hcl hcl' he hc hsz L w (aQ _) (λk' acc' arr' s' as' H' tk h' L' hk' bI q=>?_) λx s' er tr hm=>hRX D C x s' W.hc W.cx W.bc hm (er.less (eJ (.tail _ (.head _)) λb hb=>.tail _ (.tail _ (.tail _ hb))) (W.cnt λb hb=>.inl (aa hb b7))) tr
  refine hRR D C _ W.hc W.cx W.bc (L'.hC.imp λm q=>Ns.same (X:=[]) q λo e=>⟨o,bI _ _ (rz (Ne.symm hIC)) e,.inl rfl⟩:∃m,h'.Ns C m) ?_
  refine ea0_3 (L'.but (s':={s' with heap:=h',toks:=tk}) W bI (dk (.head _))) λb1 b2 b3=>?_
  haveI hpD:h'.PlainList D arr':=L'.hD.imp λn q=>bI _ _ (rz (Ne.symm hID)) q
  haveI hbn:acc'.length<=jR:=aa (aa L'.hl (aa hk' hsz)) (Nat.le_of_add_right_le dZ)
  haveI hDC:D∉C::X:=oE (Ne.symm hCD) W.dx
  have hsub':∀b∈C::X,b∈C::D::X:=eJ (.head _) λb hb=>.tail _ (.tail _ hb)
  haveI hZ':∀b∈C::D::X,b∈C::X\/b∈[I,C,D]:=eJ (.inl (.head _)) (eJ (.inr (.tail _ (.tail _ (.head _)))) λb hb=>.inl (.tail _ hb))
  have S3:SR c as' (C::D::X) H' {s' with heap:=h',toks:=tk}:=L'.S.but (s':={s' with heap:=h',toks:=tk}) bI (dk ⟨.head _,W.bi⟩) (λb hb=>.tail _ hb) (eJ (λhz=>absurd (in1 hz).symm hIC) (eJ (λhz=>absurd (in1 hz).symm hID) λb hb hz=>absurd (in1 hz▸hb) (S1.not_x hfI))) rfl rfl
  haveI F3:FR c as' (C::D::X) h' env T.tab ρ:=b2.narrow (Z:=[I,C,D]) (λb hb=>.tail _ hb) (eJ (.inr (.head _)) λb hb=>.inl hb) aw
  haveI hacc3:=(L'.hacc.keepX b1 (.refl ..)).frames λb _ _ hb q=>hb (.tail _ q)
  haveI b3':=b3.less (X:=X) (W.cnt λb hb=>.inl hb)
  induction mu with
  |false=>
   refine⟨.lst acc',H',as',L'.E,S3.turn (s':={s' with heap:=h',toks:=tk}) (λb o e _ _=>e) S3.stays hsub' (λb hb=>S3.xs b (hsub' b hb)) rfl rfl,b3',?_,q,F3.narrow hsub' hZ' aw⟩
   exact .lst L'.od hDC hpD (hacc3.frames λb _ _ hb q=>hb (hsub' b q)) hbn
  |true=>
   haveI hDin:D∈C::D::X:=.tail _ (.head _)
   haveI q':Q (.ref H'.length) (H'++[.list acc']):=q
   refine⟨.ref H'.length,H'++[.list acc'],as'++[D],⟨λi z e=>?_,λz hz=>?_⟩,S3.adopt (o:=.list acc') hDin W.bd hsub' hDC ⟨hbn,arr',hpD,hacc3.adopt hDin hsub'⟩,b3',.ref ?_,q',F3.adopt hDin hsub' hZ' aw (.tail _ (.tail _ (.head _)))⟩
   ·exact dt (L'.E.old i z e)
   ·exact (bT.mp hz).elim (L'.E.new z) λr=>in1 r▸W.hd
   ·rw [<-S3.len];exact di
 exact codeAny_compStart_list loop (Bz L.hi loop)
def qB(e:Expr):Prop:=∀a k p,e≠.Set a k p
theorem lZ{e:Expr}(h:qB e)(env:Env)(x:Value):foldedSetIterable e env x=pure x:=by
 cases e with
 |Set a k p=>exact absurd rfl (h a k p)
 |_=>rfl
theorem ResC.drop{C:Addr}{Q:QE}{x:Value}{s':Shared}{h':HP}(r:ResC c as X s.heap env T.tab ρ C Q x s')(hC:Fr as s.heap C)(hb:c.base.get? C=none)(hX:C∉X)(hs:gq C s'.heap h'):Res c as X s.heap Q x {s' with heap:=h'}:=by
 refine gF r ?_
 intro v H' as' e S k hv q _
 exact Res.drop ⟨v,H',as',e,S,k.more (λ_=>b7),hv,q⟩ hC hb hX hs
theorem nJ{sc:Scope}{x:Str}(F:FR c as X s.heap env T.tab ρ)(K:KOk T env)(ok:CompF T x sc):∀y,sc.names.lookup y=some .free->∃a,env.cells.lookup y=some a:=λy hy=>by
 refine ea0_3 (ok.free y hy) ?_
 intro h3 p_2 h5
 obtain⟨j,h4⟩:=p_2
 have hek:env.kindOf y=some .cell\/env.kindOf y=some .free:=by
  refine Or.elim (h3) (λh3=>?_) λh3=>?_
  ·exact .inl (K.cell y h3)
  ·refine Or.elim (K.free y h3) (λq=>?_) λq=>?_
   ·exact .inr q
   ·exact .inl q
 refine d0 (F.cells y j h4 hek) ?_
 intro a _ e1 _
 exact⟨a,e1⟩
theorem ERes.drop{C:Addr}{XX:XE}{x:Value}{s':Shared}{h':HP}(r:ERes c as (C::X) s.heap XX x s')(tr:AB x s'.heap)(hC:Fr as s.heap C)(hb:c.base.get? C=none)(hX:C∉X)(hs:gq C s'.heap h'):ERes c as X s.heap XX x {s' with heap:=h'}/\AB x h':=by
 obtain⟨k,H',as',e,t,ts,rfl,e',S,k',ex,ht,ap,w⟩:=r
 refine kD tr ?_
 intro e₁ T cls he ex₁
 cases he
 have b:But [C] s'.heap h':=λq o hq e=>(hs.2 q (by exact AD (hq))).trans e
 have hne:∀a∈e::ts,a≠C:=λa ha q=>(ap a ha).2.2.1 (q▸.head _)
 have kE:∀{t:Option Addr},(∀T,t=some T->T∈ts)->∀a∈e::t.toList,∀o,s'.heap.get? a=some o->h'.get? a=some o:=λ{t} ht a ha o q=>b a o (by
  rw [fE]
  refine Or.elim (bG.mp ha) (λq_=>?_) (λha=>?_)
  ·(replace q_:=Eq.symm q_;subst q_);exact hne _ (.head _)
  ·exact hne _ (.tail _ (ht a (ig.mp ha)))) q
 have hY:∀a∈e::(ts++X),a≠C:=λa ha=>by
  rcases bG.mp ha with rfl|ha
  ·exact hne _ (.head _)
  ·refine Or.elim (bT.mp ha) (λha=>?_) λha=>?_
   ·exact hne _ (.tail _ ha)
   ·exact λq=>hX (q▸ha)
 replace ex₁:=ex.uniq ex₁
 obtain rfl:=ex₁
 refine⟨⟨k,H',as',e,some T,ts,rfl,e',S.but (s':={s' with heap:=h'}) b (λa ha=>?_) (λa ha=>?_) (λa ha hz=>absurd (fE.mp hz) (hY a ha)) rfl rfl,(k'.but b (by exact dk (hC))).less (λa ha=>(vW ha).elim (λq=>.inr (q▸hC)) .inl),ex.keep (kE ht),ht,λa ha=>⟨(ap a ha).1,(ap a ha).2.1,λq=>(ap a ha).2.2.1 (.tail _ q),(ap a ha).2.2.2⟩,w⟩,e,T,_,rfl,ex.keep (kE ht)⟩
 ·cases fE.mp ha
  exact⟨.tail _ (ak _ (.head _)),hb⟩
 ·rcases bG.mp ha with rfl|ha
  ·exact .head _
  ·refine Or.elim (bT.mp ha) (λha=>?_) λha=>?_
   ·exact .tail _ (av _ ha)
   ·exact .tail _ (ak _ (.tail _ ha))
theorem rT{A:Around}{C:Addr}{XX:XE}{x acc:Value}{s':Shared}{use:Option (Value->Sem Unit)}{Qf:Value->Shared->Prop}(hC:Fr as s.heap C)(hX:C∉X)(hb:c.base.get? C=none)(hm:∃m,s'.heap.Ns C m)(r:ERes c as (C::X) s.heap XX x s')(tr:AB x s'.heap):compPost c.M A (ERes c as X s.heap XX) use Qf acc C (.error x) s':=by
 refine dw (hm) λm hm=>?_
 have key:∃m,s'.heap.Ns C m/\∀h',gq C s'.heap h'->∀cenv:Env,cenv.locals=C->wpAny c.M A (PySem.passOn "comprehension.variables-let-go" x cenv:Sem Value) (λ_ _=>False) (ERes c as X s.heap XX) {s' with heap:=h'}:=
  ⟨m,hm,λh' hs cenv _=>(r.drop tr hC hb hX hs).1.pass (r.drop tr hC hb hX hs).2 λ_ er _=>er⟩
 induction use with
 |none=>exact key
 |some u=>exact key
theorem BZ{n:Nat}{x:Str}{px:Pos}{elt iter:Expr}{ifs:List Expr}{sc:Scope}{pos:Pos}{b i:Ex}{cond:Option Ex}{mu:Bool}
  (ok:CompF T x sc)(hns:qB iter)(hi:SE c n T iter i)
  (he:SE c n {T with names:=sc.names,tab:=(x,T.n)::T.tab,n:=T.n+1} elt b)
  (hc:(ifs=[]/\cond=none)\/∃t q,ifs=[t]/\cond=some q/\ST c n {T with names:=sc.names,tab:=(x,T.n)::T.tab,n:=T.n+1} t q) :
  SE c n T (.ListComp elt [⟨.Name x px,iter,ifs,0⟩] sc pos) (.comp mu b i cond):=by
 refine⟨?_⟩
 intro env A s as X H ρ Q XX R w
 simp only [oM]at w
 refine dm (nQ (env:=env) ok.names (nJ R.F R.K ok)) ?_
 intro cl hclos hcl hcl'
 refine wpAny_comprehension_free (use:=none) rfl (lZ hns env) hclos ok.kind (λp hp hl=>by simp only [ok.names p hp,hl]) (wpAny_mono (hi.run R w) (λy s₁ r=>?_) λ_ _ e=>e)
 obtain⟨v,H₁,as₁,e1,S1,k1,hv,w1⟩:=r
 refine nO (RR:=λacc C=>compPost c.M A (ERes c as X s.heap XX) none (Res c as X s.heap Q) acc C) R ok hcl hcl' he hc e1 k1 S1 hv w1 (λD C s' h1 h2 h3 h4 h5=>?_) λD C x s' h1 h2 h3 h4 h5 h6=>rT h1 h2 h3 h4 h5 h6
 refine dw (h4) λm hm=>?_
 exact⟨m,hm,λh' hs'=>h5.drop h1 h3 h2 hs'⟩
theorem xf{n:Nat}{x:Str}{px:Pos}{elt iter:Expr}{ifs:List Expr}{sc:Scope}{pos:Pos}{b i:Ex}{cond:Option Ex}{mu:Bool}{A:Around}{Q:QE}{XX:XE}{u:Value->Sem Unit}{Qf:Value->Shared->Prop}
  (ok:CompF T x sc)(hns:qB iter)(hi:SE c n T iter i)
  (he:SE c n {T with names:=sc.names,tab:=(x,T.n)::T.tab,n:=T.n+1} elt b)
  (hc:(ifs=[]/\cond=none)\/∃t q,ifs=[t]/\cond=some q/\ST c n {T with names:=sc.names,tab:=(x,T.n)::T.tab,n:=T.n+1} t q)
  (R:Rdy c T env A n s as X H ρ)(w:cz c.P (aJ c.P n) (.comp mu b i cond) ρ H Q XX)
  (hu:∀D C s',Fr as s.heap C->C∉X->c.base.get? C=none->(∃m,s'.heap.Ns C m)->ResC c as X s.heap env T.tab ρ C Q (.ref D) s'->
   wpAny c.M A (u (.ref D)) (λ_ s''=>∃m,s''.heap.Ns C m/\∀h',gq C s''.heap h'->Qf .none {s'' with heap:=h'}) (ERes c as X s.heap XX) s') :
  wpAny c.M A (comprehension (.ListComp elt [⟨.Name x px,iter,ifs,0⟩] sc pos) sc env (firstIterPos [⟨.Name x px,iter,ifs,0⟩] pos) (newList []) false (eval iter env) (some u)) Qf (ERes c as X s.heap XX) s:=by
 simp only [oM]at w
 refine dm (nQ (env:=env) ok.names (nJ R.F R.K ok)) ?_
 intro cl hclos hcl hcl'
 refine wpAny_comprehension_free (use:=some u) rfl (lZ hns env) hclos ok.kind (λp hp hl=>by simp only [ok.names p hp,hl]) (wpAny_mono (hi.run R w) (λy s₁ r=>?_) λ_ _ e=>e)
 obtain⟨v,H₁,as₁,e1,S1,k1,hv,w1⟩:=r
 exact nO (RR:=λacc C=>compPost c.M A (ERes c as X s.heap XX) (some u) Qf acc C) R ok hcl hcl' he hc e1 k1 S1 hv w1 (λD C s' h1 h2 h3 h4 h5=>hu D C s' h1 h2 h3 h4 h5) λD C x s' h1 h2 h3 h4 h5 h6=>rT h1 h2 h3 h4 h5 h6
end
section
variable {c:Cx}{n:Nat}{T:Tb}
theorem mB{o:Expr}{name:Str}{env:Env}{w:Sem Value}(h:jm o=true):attributeBase o name env w=w:=by
 cases o<;>first|rfl|cases h
noncomputable def mq:Mt->String
 |.list=>"list"
 |.dict=>"dict"
 |.str=>"str"
 |.tup=>"tuple"
theorem nz{pos:Pos}{env:Env}{args:List Expr}{xs:List Ex}(h:qz c n T args xs):(backTo pos (starEach args env)).all (λx=>!x.1)=true:=by
 induction h with
 |nil=>rfl
 |cons h₁ _ ih=>rw [jn h₁.2];exact ih
theorem tu{as:bA}{X:List Addr}{H:AH}{s:Shared}{v:V}{y:Value}{t:Mt}(S:SR c as X H s)(hv:VR c as X s.heap v y)(h:kF H v t=true) :
  s.TypeIs y (mq t)/\(∀a,y=.ref a->∃ob,s.heap.get? a=some ob/\ob.dict=none):=by
 induction t with
 |str=>
  replace h:=c8.mp h
  obtain⟨x,h⟩:=h
  replace h:=V.txt_is h
  subst h
  cases hv.inv
  exact⟨typeIs_str _ _ _,λ_ e=>nomatch e⟩
 |list=>
  replace h:=c8.mp h
  obtain⟨x,h⟩:=h
  replace S:=eP S hv h
  obtain⟨a,its,rfl,⟨n,e⟩,_⟩:=S
  exact⟨⟨_,e,rfl⟩,λa q=>by cases q;exact⟨_,e,rfl⟩⟩
 |dict=>
  replace h:=c8.mp h
  obtain⟨x,h⟩:=h
  replace S:=lL S hv h
  obtain⟨a,cs,rfl,_,⟨o,es,ep,e,hx,_⟩,_⟩:=S
  exact⟨⟨_,e,hx.1⟩,λa q=>by cases q;exact⟨_,e,hx.2.1⟩⟩
 |tup=>
  replace h:=c8.mp h
  obtain⟨x,h⟩:=h
  replace h:=V.tpl_is h
  subst h
  cases hv.inv with
  |tup _ _ e _ _=>exact⟨⟨_,e,rfl⟩,λa q=>by cases q;exact⟨_,e,rfl⟩⟩
theorem sx{o:Expr}{name:Str}{apos pos:Pos}{args:List Expr}{a:Ex}{xs:List Ex}{t:Mt}{mu:Bool}{pr:Prim}{id:String}(hat:jm o=true)(hl:apos.endLine=pos.line)(hlt:args.length<20)(h:SE c n T o a)(hs:qz c n T args xs)
  (pa:PlainAttrs (mq t))(slot:Slot (mq t) name id)(hty:typeOf (.builtin id)=pure (.type "method_descriptor"))
  (tail:∀{A:Around} {s:Shared} {as:bA} {X:List Addr} {H:AH} {Q:QE} {XX:XE} {v:V} {y:Value} {vs:List V} {ys:List Value},AOk c A n->SR c as X H s->VR c as X s.heap v y->VRs c as X s.heap vs ys->vs.length=xs.length->g7 (aY c.P mu pr (v::vs) H) Q->
   wpAny c.M A (call (.builtin id) (y::ys)) (Res c as X s.heap Q) (ERes c as X s.heap XX) s) :
  SE c n T (.Call (.Attribute o name apos) args [] pos) (.mcall t mu pr a xs):=by
 refine⟨?_⟩
 intro env A s as X H ρ Q XX R w
 simp only [wx]at w
 refine wpAny_Call_method_lateS (mB hat) ?_ (by simpa using hl) (wpAny_mono (h.run R w) (λov s₁ r=>?_) λ_ _ e=>e)
 ·rw [nz hs]
  exact decide_eq_true (bk hlt (by decide))
 ·obtain ⟨v,H₁,as₁,e1,S1,k1,hv,ht,w1⟩:=r
  refine cO (tu S1 hv ht) λh1 h2=>?_
  refine⟨mq t,id,pa,slot,hty,h1,h2,?_⟩
  refine callWith_builtin (m5 hs) (wpAny_mono (fZ hs (R.next e1 k1 S1) w1) (λar s₂ r=>?_) λ_ _ e=>e.lift e1 k1)
  obtain⟨hk,vs,H₂,as₂,e2,S2,k2,hvs,hln,q⟩:=r
  simp only [hk]
  exact wpAny_mono (tail R.a S2 (hv.keep k2 e2) hvs hln q) (λ_ _ r=>(r.lift e2 k2).lift e1 k1) λ_ _ e=>(e.lift e2 k2).lift e1 k1
theorem pH{o:Expr}{name:Str}{apos pos:Pos}{args:List Expr}{a:Ex}{xs:List Ex}{t:Mt}{mu:Bool}{pr:Prim}{id:String}(hat:jm o=true)(hl:apos.endLine=pos.line)(h:SE c n T o a)(hs:qz c n T args xs)(hn:args.length=1)
  (hmu:mu=true->pr.fresh=true)(hf:pr.fresh=false)(pa:PlainAttrs (mq t))(slot:Slot (mq t) name id)(hty:typeOf (.builtin id)=pure (.type "method_descriptor"))
  (tail:∀{A:Around} {s:Shared} {as:bA} {X:List Addr} {H H':AH} {Q:QE} {XX:XE} {v w r:V} {y z:Value},AOk c A n->SR c as X H s->VR c as X s.heap v y->VR c as X s.heap w z->prim c.P pr [v,w] H=some (r,H')->Q r H'->
   wpAny c.M A (call (.builtin id) [y,z]) (Res c as X s.heap Q) (ERes c as X s.heap XX) s):SE c n T (.Call (.Attribute o name apos) args [] pos) (.mcall t mu pr a xs):=by
 induction mu with
 |true=>exact absurd (hmu rfl) (by rw [hf];decide)
 |false=>
  refine sx hat hl (by rw [hn];decide) h hs pa slot hty λa S hv hvs hln q=>?_
  replace hs:=t0 hvs (hln.trans (hs.length.symm.trans hn))
  refine c6 hs ?_
  intro v y q_3 q_4 hv1
  subst q_3
  subst q_4
  refine d0 (cG q) ?_
  intro r H' e q'
  exact tail a S hv hv1 e q'
set_option tactic.hygienic true in
theorem rf{o:Expr}{name:Str}{apos pos:Pos}{args:List Expr}{a:Ex}{xs:List Ex}{t:Mt}{mu:Bool}{pr:Prim}(hat:jm o=true)(hl:apos.endLine=pos.line)(h:SE c n T o a)(hs:qz c n T args xs)
  {z:Bool}(hp:lD name args.length z=some (t,pr))(hmu:mu=true->pr.fresh=true):SE c n T (.Call (.Attribute o name apos) args [] pos) (.mcall t mu pr a xs):=by
 unfold lD at hp
 split at hp
 ·rename_i q;(obtain⟨rfl,rfl⟩:=oC hp;clear hp);cases q.1
  exact pH hat hl h hs q.2 hmu rfl F.plainAttrs_list F.slot_list_append F.type_list_append λ_ S hv hw e q=>zU S hv hw e q
 split at hp
 ·rename_i q;(obtain⟨rfl,rfl⟩:=oC hp;clear hp)
  obtain⟨rfl,hn⟩:=q
  have hmu':mu=false:=by cases mu;rfl;cases hmu rfl
  subst hmu'
  refine sx hat hl (by exact fp (ao hn) (by simp+arith only)) h hs F.plainAttrs_list F.slot_list_pop F.type_list_pop λ_ S hv hvs hln q=>?_
  cases hvs with
  |cons _ _=>exact absurd (hln.trans ((hs.length).symm.trans hn)) (Nat.succ_ne_zero _)
  |nil=>
   refine d0 (cG q) ?_
   intro r H' e q'
   exact I0 S hv e q'
 split at hp
 ·rename_i q;(obtain⟨rfl,rfl⟩:=oC hp;clear hp);cases q.1
  exact pH hat hl h hs q.2.1 hmu rfl F.plainAttrs_list F.slot_list_pop F.type_list_pop λa S hv hw e q=>FP S hv hw e q
 split at hp
 ·rename_i q;(obtain⟨rfl,rfl⟩:=oC hp;clear hp);cases q.1
  exact pH hat hl h hs q.2 hmu rfl F.plainAttrs_dict F.slot_dict_pop F.type_dict_pop λa S hv hw e q=>GH S hv hw e q
 split at hp
 ·rename_i q;(obtain⟨rfl,rfl⟩:=oC hp;clear hp);cases q.1
  exact pH hat hl h hs q.2.1 hmu rfl F.plainAttrs_list F.slot_list_index F.type_list_index λa S hv hw e q=>An S hv hw e q a.u64
 split at hp
 ·rename_i q;(obtain⟨rfl,rfl⟩:=oC hp;clear hp);cases q.1
  exact pH hat hl h hs q.2 hmu rfl F.plainAttrs_tuple F.slot_tuple_index F.type_tuple_index λa S hv hw e q=>A9 S hv hw e q a.u64
 split at hp
 ·rename_i q;((refine cO (oC hp) λe_0 e_1=>?_;subst e_0;subst e_1);clear hp);cases q.1
  exact pH hat hl h hs q.2 hmu rfl F.plainAttrs_list F.slot_list_extend F.type_list_extend λa S hv hw e q=>yd S hv hw e q
 exact eY hp
end
theorem O.ins_i(o:O):Is o.ins λd=>o=.inst 0 d:=by
 cases o with
 |inst c d'=>exact Is.ite λh=>h▸rfl
 |_=>exact trivial
theorem O.nms_i(o:O):Is o.nms λq=>o=.ns q.1 q.2:=by
 cases o<;>first|exact rfl|exact trivial
theorem yE{H:AH}{v:V}{d:Nat}{ks:List (List Char)}{vs:List V}(h:fO H v=some (d,ks,vs)):∃i,v=.ref i/\H[i]? =some (.inst 0 d)/\H[d]? =some (.ns ks vs):=
 Is.of (o:=fO H v) (R:=λq=>∃i,v=.ref i/\H[i]? =some (.inst 0 q.1)/\H[q.1]? =some (.ns q.2.1 q.2.2)) ((V.at_i v).bind λi h1=>(Is.self.bind λo h3=>(O.ins_i o).imp (R':=λd=>H[i]? =some (.inst 0 d)) λ_ h4=>h4▸h3).bind λd h5=>
  (Is.self.bind λo h3=>(O.nms_i o).imp (R':=λq=>H[d]? =some (.ns q.1 q.2)) λ_ h4=>h4▸h3).map λ_ h6=>⟨i,h1,h5,h6⟩) h
inductive Ins(c:Cx)(as:bA)(X:List Addr)(h:HP)(d:Nat)(ks:List (List Char))(vs:List V):Value->Prop
 |mk {x dx:Addr} {ob:Obj} {cs:List Value} {mA:Str->Option Value}:as[d]? =some dx->h.get? x=some ob->ob.cls=.ref (c.ccls 0)->ob.dict=some dx->(∀cd,ob.data≠.cls cd)->dx≠x->h.Ns1 dx mA->ks.length=cs.length->VRs c as X h vs cs->vs.length<=jR->
   (∀n,mA n=((ks.map toS).zip cs).lookup n)->x∈as->Ins c as X h d ks vs (.ref x)
section
variable {c:Cx}{A:Around}{E:Value->Shared->Prop}{s:Shared}{as:bA}{X:List Addr}{H H':AH}{Q:QE}
theorem tP{v:V}{cv:Value}{d:Nat}{ks:List (List Char)}{vs:List V}(S:SR c as X H s)(hv:VR c as X s.heap v cv)(h:fO H v=some (d,ks,vs)):Ins c as X s.heap d ks vs cv:=by
 refine dm (yE h) λi q_2 h1 h2=>?_
 subst q_2
 cases iR S hv h1 with
 |mk x e e2=>
  obtain⟨dx,ob,f1,f2,f3,f4,f5⟩:=e2
  cases iR S (.ref f1) h2 with
  |mk _ _ e4=>
   obtain⟨hb,cs,mA,hn,hl,r,hm⟩:=e4
   exact⟨f1,f2,f3,f4,f5,λq=>(by haveI:=S.inj _ _ _ e (q▸f1);subst this;exact nomatch h1.symm.trans h2),hn,hl,r,hb,hm,aM e⟩
theorem Ins.inst{x dx:Addr}{ob:Obj}{mA:Str->Option Value}{h:HP}(f2:h.get? x=some ob)(f3:ob.cls=.ref (c.ccls 0))(f4:ob.dict=some dx)(f5:∀cd,ob.data≠.cls cd)(hne:dx≠x)(hn:h.Ns1 dx mA):h.Inst x (c.ccls 0) mA:=⟨ob,f2,f3,f5,.inr ⟨dx,f4,hne,hn⟩⟩
theorem rp{h:HP}{n:List Char}:∀{ks:List (List Char)} {vs:List V} {cs:List Value} {v:V},VRs c as X h vs cs->ft n ks vs=some v->∃y,((ks.map toS).zip cs).lookup (toS n)=some y/\VR c as X h v y:=by
 intro ks
 induction ks with
 |nil=>intro vs cs v r e;cases vs<;>exact eY e
 |cons k ks ih=>
  intro vs cs v r e
  cases r with
  |nil=>exact eY e
  |@cons w ws y ys a r=>
   haveI e:(if n=k then some w else ft n ks ws)=some v:=e
   simp only [eC,eO,bh]
   by_cases hk:n=k
   ·replace e:=(if_pos hk).symm.trans e
    (replace e:=ai e;subst e)
    simp only [hk,beq_self_eq_true]
    exact⟨y,rfl,a⟩
   ·replace e:=(if_neg hk).symm.trans e
    haveI:(toS n==toS k)=false:=by
     rw [beq_eq_false_iff_ne]
     exact λq=>hk (iF q)
    rw [this]
    exact ih r e
theorem DK{h:HP}{v:V}{y:Value}(r:VR c as X h v y):handedOut y=pure y:=by
 cases r<;>rfl
theorem DW{v r:V}{cv:Value}{nm:List Char}{ms:List (Str×Nat)}{ats:List Str}{f:Nat}(K:CK c ms ats f)(hat:toS nm∈ats)(S:SR c as X H s)(hv:VR c as X s.heap v cv)(e:C1 nm [v] H=some (r,H'))(q:Q r H'):wpAny c.M A (getAttr cv (toS nm) true) (Res c as X s.heap Q) E s:=by
 refine ea1_2 (bY (e:(fO H v).bind _=some (r,H'))) ?_
 intro p h1 h2
 refine ea1_2 (dF h2) λr' h3 h5=>?_
 cases h5
 obtain⟨hC,k1,k2,k3,k4,_,_,_,_⟩:=K
 obtain⟨nmC,qC,bs,sn,sub,col,dd,z0,z1,z2,z3,z5,hCo⟩:=(hC.keeps S.stays).obj
 obtain⟨f1,f2,f3,f4,f5,hne,hn,hl,rv,hb,hm,_⟩:=tP S hv h1
 refine ea1_2 (rp rv h3) ?_
 intro y e1 e2
 obtain⟨hp,g,d,t,os⟩:=s
 exact load_attr hCo (hC.keeps S.stays).ns k2 (k4 _ hat).1 (k4 _ hat).2 (Ins.inst f2 f3 f4 f5 hne hn) ((hm _).trans e1) (DK e2) (Res.now (tk:=t+1) S e2 q)
theorem rx{h:HP}{n:List Char}{x:V}{y:Value}(hx:VR c as X h x y):∀{ks:List (List Char)} {vs:List V} {cs:List Value},VRs c as X h vs cs->ks.length=cs.length->
  ∃cs',(dK n x ks vs).1.length=cs'.length/\VRs c as X h (dK n x ks vs).2 cs'/\(dK n x ks vs).2.length<=vs.length+1/\∀m,(((dK n x ks vs).1.map toS).zip cs').lookup m=if m=toS n then some y else((ks.map toS).zip cs).lookup m:=by
 haveI one:∀m,(([n].map toS).zip [y]).lookup m=if m=toS n then some y else none:=λm=>by
  refine(?_:(match m==toS n with|true=>some y|false=>none)=_)
  by_cases hm:m=toS n
  ·rw [if_pos hm,hm,beq_self_eq_true]
  ·rw [if_neg hm,beq_eq_false_iff_ne.mpr hm]
 intro ks
 induction ks with
 |nil=>
  intro vs cs r hl
  haveI:dK n x [] vs=([n],[x]):=by cases vs<;>rfl
  exact⟨[y],rfl,.cons hx .nil,bw _ _,one⟩
 |cons k ks ih=>
  intro vs cs r hl
  cases r with
  |nil=>cases hl
  |@cons w ws z zs a r=>
   haveI hl':ks.length=zs.length:=by simpa using hl
   haveI e:dK n x (k::ks) (w::ws)=if n=k then(k::ks,x::ws)else(k::(dK n x ks ws).1,w::(dK n x ks ws).2):=rfl
   by_cases hk:n=k
   ·rw [e,if_pos hk]
    subst hk
    refine⟨y::zs,hl,.cons hx r,aq _ _,λm=>?_⟩
    simp only [eC,eO,eO,bh,bh]
    by_cases hm:m=toS n
    ·rw [if_pos hm,hm,beq_self_eq_true]
    ·rw [if_neg hm,beq_eq_false_iff_ne.mpr hm]
   ·rw [e,if_neg hk]
    refine dg (ih r hl') ?_
    intro cs' h1 h2 h3 h4
    refine⟨z::cs',congrArg mV h1,.cons a h2,ax h3,λm=>?_⟩
    simp only [eC,eC,eO,eO,bh,bh,h4]
    by_cases hm:m=toS k
    ·haveI hmn:m≠toS n:=λq=>hk (iF (q.symm.trans hm))
     rw [if_neg hmn,if_neg hmn,hm,beq_self_eq_true]
    ·rw [beq_eq_false_iff_ne.mpr hm]
theorem pq{ks:List (List Char)}{cs:List Value}{m:Str}(h:((ks.map toS).zip cs).lookup m≠none):m∈ks.map toS:=by
 cases e:((ks.map toS).zip cs).lookup m with
 |none=>exact absurd e h
 |some y=>exact(uj (mem_of_lookup e)).1
theorem Obj.same{a b:Obj}(h1:a.cls=b.cls)(h2:a.data=b.data)(h3:a.slots=b.slots)(h4:a.dict=b.dict):a=b:=by
 cases a;cases b
 replace h1:=h1;subst h2;subst h3;subst h4
 subst h1
 rfl
set_option tactic.hygienic true in
theorem wK{v x:V}{cv cx:Value}{nm:List Char}{ms:List (Str×Nat)}{ats:List Str}{f:Nat}{R:Unit->Shared->Prop}(K:CK c ms ats f)(hat:toS nm∈ats)(S:SR c as X H s)(hv:VR c as X s.heap v cv)(hx:VR c as X s.heap x cx)(e:iu v nm x H=some H')
  (r:∀s',SR c as X H' s'->Kept as X s.heap s'.heap->R () s'):wpAny c.M A (setAttr cv (toS nm) cx) R E s:=by
 refine ea1_2 (bY (e:(fO H v).bind _=some H')) ?_
 intro p h1 h2
 obtain⟨hlen,h3⟩:=c5 h2
 subst h3
 obtain⟨d,ks,vs⟩:=p
 obtain⟨hC,k1,k2,k3,k4,_,_,_,_⟩:=K
 have hCk:=hC.keeps S.stays
 obtain⟨nmC,qC,bs,sn,sub,col,dd,z0,z1,z2,z3,z5,hCo⟩:=hCk.obj
 obtain⟨f1,f2,f3,f4,f5,hne,hn,hl,rv,hb,hm,hxa⟩:=tP S hv h1
 rename_i xa dx ob cs mA
 obtain⟨_,_,_,_,_,_,_,_,_,_,_,_,hC0⟩:=(hC.obj)
 have hxC:xa≠c.ccls 0:=λq=>by
  obtain⟨i,hi⟩:=cn hxa
  replace hi:=(q)▸hi
  replace hC0:=((S.objs i _ hi).1).symm.trans hC0;exact eY hC0
 obtain⟨hp,g,dr,t,os⟩:=s
 refine store_attr PySem.F.store_object hCo hCk.ns k1 (k4 _ hat).1 (k4 _ hat).2 hxC (Ins.inst f2 f3 f4 f5 hne hn) (λh' tk' I' hk hsame=>?_) (ns:=ks.map toS) (λy hy=>pq (by rw [<-hm];exact hy)) (by rw [ah];exact aa hlen (by decide))
 refine yv (hsame ob f2) ?_
 intro o₁ e₁ q1 q2 q3 q4
 haveI hob:o₁=ob:=Obj.same q1 q2 q3 ((q4 dx f4).trans f4.symm)
 (replace hob:=Eq.symm hob;subst hob)
 have kk:∀b o,hp.get? b=some o->b≠dx->h'.get? b=some o:=λb o e hb=>by
  by_cases hbx:b=xa
  ·(replace hbx:=Eq.symm hbx;subst hbx);cases f2.symm.trans e;exact e₁
  ·exact hk b o hbx (λo₀ d' g1 g2=>by cases f2.symm.trans g1;cases f4.symm.trans g2;exact hb) e
 refine dg I' ?_
 intro o' g1 _ _ g4
 replace e₁:=e₁.symm.trans g1
 cases e₁
 have hns:h'.Ns1 dx (λy=>if y=toS nm then some cx else mA y):=by
  refine Or.elim (g4) (λq_=>?_) (λq_=>?_)
  ·obtain ⟨g4,_⟩:=q_;replace g4:=(f4).symm.trans g4;cases g4
  ·obtain ⟨d',g4,_,g5⟩:=q_;cases f4.symm.trans g4;exact g5
 refine dg (rx (n:=nm) hx rv hl) ?_
 intro cs' d1 d2 d3 d4
 refine r _ (S.upd (s':=⟨h',g,dr,tk',os⟩) f1 kk rfl rfl ⟨aa d3 ?_,cs',_,hns,d1,d2.keepX (λb o e ha _=>kk b o e λq=>ha (q▸aM f1):VK as X hp h') (.refl ..),λm=>?_⟩) (SR.kept1 f1 kk)
 ·have h1:vs.length=ks.length:=rv.length.trans hl.symm
  have h2:(1001:Nat)<=jR:=by decide
  rw [h1]
  exact aa (ax (hlen:ks.length<=1000)) h2
 ·simp only [d4]
  show(if m=toS nm then some cx else mA m)=_
  rw [hm]
end
section
variable {c:Cx}{n:Nat}{T:Tb}{ms:List (Str×Nat)}{ats:List Str}{f:Nat}
theorem rK{M:Model}{A:Around}{E:Value->Shared->Prop}{s:Shared}{env:Env}{pos:Pos}{x:Expr}{Q:List Value->Shared->Prop}(hs:starEach [x] env=(false,eval x env)::starEach [] env)(h:wpAny M A (eval x env) (λy s₁=>Q [y] s₁) E s):wpAny M A (spliced (backTo pos (starEach [x] env))) Q E s:=by
 rw [hs]
 exact spliced_cons (wpAny_mono h (λ_ _ q=>spliced_nil q) λ_ _ e=>e)
theorem CE{o:Expr}{nm:List Char}{pos:Pos}{a:Ex}(K:CK c ms ats f)(hat:toS nm∈ats)(hok:jm o=true)(h:SE c n T o a):SE c n T (.Attribute o (toS nm) pos) (.prim false (.attr nm) [a]):=by
 refine⟨?_⟩
 intro env A s as X H ρ Q XX R w
 simp only [fm,dX]at w
 simp only [fw]at w
 simp only [arm_eval_Attribute,mB hok]
 refine wpAny_bind (wpAny_mono (h.run R w) (λy s₁ r=>wpAny_bind (wpAny_standAt (wpAny_bind (wpAny_holding ?_)))) λ_ _ e=>e)
 obtain⟨v,H₁,as₁,e1,S1,k1,hv,q⟩:=r
 refine d0 (cG q) ?_
 intro z H' e q'
 exact wpAny_mono (DW (E:=ERes c as₁ X s₁.heap XX) K hat S1 hv e q') (λ_ _ r=>wpAny_bind (wpAny_letTemporaryGo (wpAny_pure (r.lift e1 k1)))) λ_ _ e=>e.lift e1 k1
set_option tactic.hygienic true in
theorem BN{o:Expr}{nm:List Char}{g:Nat}{apos pos:Pos}{args:List Expr}{a:Ex}{xs:List Ex}(K:CK c ms ats f)(C:Cok c T.gl)(sc:SC c n)(hg:ms.lookup (toS nm)=some g)(hok:jm o=true)(hline:apos.endLine=pos.line)(hlt:args.length<30)(h:SE c n T o a)(hs:qz c n T args xs) :
  SE c n T (.Call (.Attribute o (toS nm) apos) args [] pos) (.meth 0 g nm a xs):=by
 refine⟨?_⟩
 intro env A s as X H ρ Q XX R w
 simp only [zb]at w
 simp only [arm_eval_Call,mB hok]
 refine wpAny_bind (wpAny_mono (h.run R w) (λy s₁ r=>wpAny_bind (wpAny_standAt ?_)) λ_ _ e=>e)
 obtain⟨v,H₁,as₁,e1,S1,k1,hv,hm,w1⟩:=r
 haveI hform:methodCallForm (args.length+([]:List Keyword).length) (backTo pos (starEach args env)) (backToKw pos (keywordEach [] env))=true:=by
  refine(?_:((backTo pos (starEach args env)).all (λx=>!x.1)&&true&&decide (args.length+0+0<30))=true)
  rw [nz hs]
  exact decide_eq_true hlt
 haveI hpos:methodCallPos true o env apos pos=pure pos:=by unfold methodCallPos;simp [hline]
 obtain⟨hC,k1',k2,k3,k4,k5,_,_,_⟩:=K
 obtain⟨m1,⟨of,m2,m3⟩,⟨yB,m4⟩,fn,hf⟩:=k5 _ _ hg
 have hCk:=hC.keeps S1.stays
 obtain⟨nmC,qC,bs,sn,sub,col,dd,z0,z1,z2,z3,z5,hCo⟩:=hCk.obj
 dsimp only [methodCall]
 rw [hform]
 haveI R1:=R.next e1 k1 S1
 obtain⟨p,hi,hnot⟩:∃p,fO H₁ v=some p/\(!p.2.1.contains nm)=true:=by
  unfold e9 at hm
  refine fA (o:=fO H₁ v) (λhq=>?_) (λp hq=>?_)
  ·rw [hq];replace hm:=(hq)▸hm;cases hm
  ·rw [hq];rw [hq]at hm;exact⟨p,rfl,hm⟩
 obtain⟨d,ks,vs⟩:=p
 obtain⟨f1,f2,f3,f4,f5,hne,hn,hl,rv,hb,hmA,hxa⟩:=tP S1 hv hi
 rename_i xa dx ob cs mA
 have hsh:mA (toS nm)=none:=by
  rw [hmA]
  cases e:((ks.map toS).zip cs).lookup (toS nm)with
  |none=>rfl
  |some y=>
   refine ea1_2 (aG.mp (pq (ks:=ks) (cs:=cs) (m:=toS nm) (by rw [e];nofun))) ?_
   intro k hk e'
   replace e':=iF e'
   cases e'
   haveI:ks.contains nm=true:=aX.mpr hk
   replace hnot:=(this)▸hnot;cases hnot
 obtain⟨hp,gg,dr,tt,os⟩:=s₁
 refine wpAny_bind (wpAny_holding (method_of hCo hCk.ns k2 k3 m1 (S1.stays _ _ m2) m3 m4 (Ins.inst f2 f3 f4 f5 hne hn) hsh ?_))
 refine wpAny_bind (wpAny_of_eq hpos ?_)
 refine callWith_function (o:=of) (fd:=c.fdat g) (wpAny_mono (fZ hs R1 w1) (λar s₂ r=>?_) λ_ _ e=>e.lift e1 k1)
 obtain⟨hk,vs',H₂,as₂,e2,S2,k2,hvs,_,q⟩:=r
 refine ea1_2 (C.fobj g fn hf) ?_
 intro o' g1 g2
 replace g1:=m2.symm.trans g1
 (replace g1:=ai g1;subst g1)
 refine⟨⟨S2.stays _ _ m2,g2⟩,?_⟩
 rw [hk]
 exact wpAny_mono (sc.run hf R.a.toACk (R1.fr.keep e2 k2).all S2 (.cons (hv.keep k2 e2) hvs) q) (λ_ _ r=>(r.lift e2 k2).lift e1 k1) λ_ _ e=>(e.lift e2 k2).lift e1 k1
theorem DQ{g:Str}{p pos:Pos}{x:Expr}{a:Ex}(C:Cok c T.gl)(sc:SC c n)(hg:T.glob g=some (.cls ms ats f))(h:SE c n T x a)(hns:NS x):SE c n T (.Call (.Name g p) [x] [] pos) (.new 0 f [a]):=by
 refine⟨?_⟩
 intro env A s as X H ρ Q XX R w
 simp only [B1,dX]at w
 simp only [fw]at w
 haveI e1:=C.gl g _ (g8 hg).2.1
 obtain⟨hC,_,_,_,_,_,hi,⟨oI,hfI,hfc⟩,fn,hfn⟩:=C.cl g ms ats f (mem_of_lookup (g8 hg).2.1)
 refine wpAny_Call_Name_kw (jj C hg R (.inl e1) ?_)
 refine callWith_cls hC (rK (jn hns [] env) (wpAny_mono (h.run R w) (λy s₁ r=>?_) λ_ _ e=>e)) (jn hns [] env) rfl
 obtain⟨v,H₁,as₁,e1,S1,k1,hv,q⟩:=r
 refine⟨S1.stays,?_⟩
 have hCk:=hC.keeps S1.stays
 obtain⟨nmC,qC,bs,sn,sub,col,dd,z0,z1,z2,z3,z5,hCo⟩:=hCk.obj
 obtain⟨hp,gg,dr,tt,os⟩:=s₁
 refine wpAny_call_obj_init PySem.F.objNew hCo hCk.ns hi (S1.stays _ _ hfI) hfc λh' xa dx Mk=>?_
 refine dg Mk.inst ?_
 intro ob hx hcx hncx hdx
 have hdd:=Mk.dict ob hx
 obtain⟨hnsd,hne⟩:h'.Ns1 dx (λ_=>none)/\dx≠xa:=by
  refine Or.elim (hdx) (λq_=>?_) (λq_=>?_)
  ·obtain ⟨hn0,_⟩:=q_;replace hdd:=(hn0).symm.trans hdd;exact eY hdd
  ·obtain ⟨d',hd',hne',hns'⟩:=q_;try clear hdx
   cases hd'.symm.trans hdd;exact⟨hns',hne'⟩
 haveI hg1:∀b,(only h' λb=>b !=xa).get? b=if(b !=xa)=true then h'.get? b else none:=λb=>wZ b
 generalize (only h' λb=>b !=xa)=h₁ at hg1
 have AD:∀b,b≠xa->h₁.get? b=h'.get? b:=λb hb=>by rw [hg1,if_pos (by simpa using hb)]
 have no1:h₁.get? xa=none:=by rw [hg1,if_neg (by simp)]
 have g1:Grown hp h₁:=λb o e=>by
  rw [AD b λq=>by rw [q,Mk.newX]at e;cases e]
  exact Mk.keeps b o e
 have g2:Grown h₁ h':=λb o e=>by
  rw [AD b λq=>by rw [q,no1]at e;cases e]at e
  exact e
 haveI Sd:=S1.alloc (s':=⟨h₁,gg,dr,tt,os⟩) (a:=dx) (o:=.ns [] []) Mk.newD g1 rfl rfl ⟨aQ _,[],λ_=>none,hnsd.at λo e=>by rw [AD dx hne];exact e,rfl,.nil,λ_=>rfl⟩
 haveI Sx:=Sd.alloc (s':=⟨h',gg,dr,tt,os⟩) (a:=xa) (o:=.inst 0 H₁.length) no1 g2 rfl rfl ⟨dx,ob,by rw [<-S1.len];simp,hx,hcx,hdd,hncx⟩
 have E1:Ext as₁ hp (as₁++[dx]):=lh as₁ _ dx Mk.newD
 haveI K1:Kept as₁ X hp h₁:=g1.kept as₁ X
 haveI E2:Ext (as₁++[dx]) h₁ (as₁++[dx]++[xa]):=lh _ _ xa no1
 have E3:=E1.trans K1 E2
 have K3:=K1.trans E1 (g2.kept _ X:Kept (as₁++[dx]) X h₁ h')
 have hix:(as₁++[dx]++[xa])[H₁.length+1]? =some xa:=by rw [<-S1.len];simp
 have fr:∃l,FrOk c (A.under (.builtin "type.__call__" ⟨.ref (c.ccls 0)::[y],[]⟩)) X (as₁++[dx]++[xa]) h' l:=by
  refine dw ((R.fr.keep e1 k1).all) λl hl=>?_
  exact⟨l,hl.1,(hl.keep E3 K3).2⟩
 haveI ack:ACk c (A.under (.builtin "type.__call__" ⟨.ref (c.ccls 0)::[y],[]⟩)) n:=⟨R.a.hh,by
  haveI:=R.a.hr
  refine(?_:A.depth+1+2*n+5<=recursionLimit)
  exact fp this (by simp+arith only),by
  haveI:=R.a.hw
  refine(?_:A.units+1+10*n+300<cLine)
  exact fp this (by simp+arith only)⟩
 haveI w2:aJ c.P n f [.ref (H₁.length+1),v] (H₁++[.ns [] []]++[.inst 0 H₁.length]) (λv H''=>v=.none/\Q (.ref (H₁.length+1)) H'') XX:=by
  simp only [aj];exact q
 refine wpAny_mono (sc.run hfn ack fr Sx (.cons (.ref hix) (.cons (hv.keep K3 E3) .nil)) w2) (λr s' q=>?_) λ_ _ e=>(e.lift E3 K3).lift e1 k1
 obtain⟨z,H',as',e',S',k',hz,rfl,q⟩:=q
 refine⟨hz.inv,(Res.lift E3 K3 ⟨_,H',as',e',S',k',?_,q⟩).lift e1 k1⟩
 exact .ref (e'.old _ _ hix)
end
section
variable {c:Cx}{n:Nat}{T:Tb}
def zY(e:Option Expr)(k:List Char):Prop:=∃x kk p,e=some (.Constant (.str x) kk p)/\oJ x=some k
theorem xr(o:Option Expr):Is (Dz o) (zY o):=by
 induction o with
 |none=>exact trivial
 |some e=>exact(yn e).bind λs h=>Is.to λ_ h2=>h.elim λk h=>h.elim λp h=>h▸⟨s,k,p,rfl,h2⟩
theorem xQ{pos:Pos}{env:Env}{A:Around}{X:List Addr}{ρ:Fm}{XX:XE}{ks:List (Option Expr)}{kcs:List (List Char)}(hk:A2 zY ks kcs):∀{es:List Expr} {xs:List Ex} {s:Shared} {as:bA} {H:AH} {Q:List V->AH->Prop},qz c n T es xs->ks.length=es.length->Rdy c T env A n s as X H ρ->
  fR c.P (aJ c.P n) xs ρ H Q XX->wpAny c.M A (evalPairs (pairTrees ks es env pos)) (λps s'=>∃ys,Carries c.kd ps ((kcs.map toS).zip ys)/\kcs.length=ys.length/\ResL c as X s.heap Q ys s') (ERes c as X s.heap XX) s:=by
 induction hk with
 |nil=>
  intro es xs s as H Q h hl R w
  induction h with
  |nil=>exact pairTrees_nil_walk ⟨[],trivial,rfl,[],H,as,.refl ..,R.S,Kept.refl _ _ _,.nil,w⟩
  |cons _ _=>simp at hl
 |cons h₁ h₂ ih=>
  intro es xs s as H Q h hl R w
  induction h with
  |nil=>simp at hl
  |cons g₁ g₂=>
   refine kD h₁ ?_
   intro x kk p q_4 hk
   subst q_4
   obtain⟨h3,h4⟩:=lC hk
   simp only [dX]at w
   refine pairTrees_cons_walk (Constant_str ?_)
   haveI R1:Rdy c T env A n {s with toks:=s.toks+1} as X H ρ:=R.next (.refl ..) (Kept.refl _ _ _) (R.S.grow (.refl _) rfl rfl)
   refine wpAny_mono (g₁.1.run R1 w) (λy s₁ r=>?_) λ_ _ e=>e
   obtain⟨v,H₁,as₁,e1,S1,k1,hv,w1⟩:=r
   refine wpAny_mono (ih g₂ (by simpa using hl) (R1.next e1 k1 S1) w1) (λps s₂ r=>?_) λ_ _ e=>e.lift e1 k1
   refine dm r ?_
   intro ys hc hy p_4
   obtain⟨vs,H₂,as₂,e2,S2,k2,hvs,q⟩:=p_4
   refine⟨y::ys,⟨?_,rfl,hc⟩,by simp [hy],v::vs,H₂,as₂,e1.trans k1 e2,S2,k1.trans e1 k2,.cons (hv.keep k2 e2) hvs,q⟩
   rw [<-h3]
   exact nR _ _
theorem pF{gl:List (Str×Gl)}{s:Shared}{as:bA}{X:List Addr}{H:AH}(C:Cok c gl)(S:SR c as X H s):(s.heap.objs.size==sysModules)=false:=by
 refine kD C.g ?_
 intro o es ep e _
 haveI h2:=fh (S.stays _ _ e)
 haveI h3:mainGlobals=3:=rfl
 haveI h1:sysModules=1:=rfl
 exact beq_eq_false_iff_ne.mpr λq=>by rw [q]at h2;exact absurd h2 (by decide)
theorem rF{kcs:List (List Char)}{vs:List V}{H:AH}{Q:QE}{mu:Bool}(q:g7 (aY c.P mu (.mkdict kcs) vs H) Q):(kcs.length=vs.length/\kcs.length<=15/\kcs.Nodup)/\(if mu then Q (.ref H.length) (H++[.dict kcs vs])else Q (.dct kcs vs) H):=by
 refine q9 (j8 q) ?_
 intro r H' e
 haveI e':qJ kcs vs H=some (r,H'):=e
 unfold qJ at e'
 by_cases h:kcs.length=vs.length/\kcs.length<=15/\kcs.Nodup
 ·refine ⟨h,?_⟩
  have hp:prim c.P (.mkdict kcs) vs H=some (.dct kcs vs,H):=if_pos h
  induction mu with
  |false=>simp only [q8,hp]at q;exact q
  |true=>
   unfold aY at q
   rw [if_pos rfl,show(Prim.mkdict kcs).fresh=true from rfl,if_pos rfl,hp]at q
   exact q
 ·exact eY ((if_neg h).symm.trans e')
theorem sh{a:Addr}{mu:Bool}{s₀:Shared}{s':Shared}{as as₂:bA}{X:List Addr}{H:AH}{Q:QE}{kcs:List (List Char)}{vs:List V}{ys:List Value}(ha:s₀.heap.get? a=none)(hx:a∉X)(ho:a∉as₂)(hsm:(a==sysModules)=false)(hb:c.base.get? a=none)
  (E:Ext as s₀.heap as₂)(K:Kept as X s₀.heap s'.heap)(S:SR c as₂ (a::X) H s')(hd:s'.heap.DictOf c.kd a ((kcs.map toS).zip ys))(hy:kcs.length=ys.length)(hv:VRs c as₂ (a::X) s'.heap vs ys)(hl:vs.length<=jR)
  (q:if mu then Q (.ref H.length) (H++[.dict kcs vs])else Q (.dct kcs vs) H):Res c as X s₀.heap Q (.ref a) s':=by
 induction mu with
 |false=>
  have q':Q (.dct kcs vs) H:=q
  exact⟨_,H,as₂,E,S.frames (λb _ _ hb q=>hb (.tail _ q)) λb hb=>S.xs b (.tail _ hb),K,.dct ho hx hsm hd hy (hv.frames λb _ _ hb q=>hb (.tail _ q)) hl,q'⟩
 |true=>
  have q':Q (.ref H.length) (H++[.dict kcs vs]):=q
  haveI hsub:∀b∈X,b∈a::X:=λb hb=>.tail _ hb
  exact⟨.ref H.length,H++[.dict kcs vs],as₂++[a],⟨λi z e=>dt (E.old i z e),cq E.new (dk (.inr ha))⟩,S.adopt (o:=.dict kcs vs) (.head _) hb hsub hx ⟨hl,hsm,ys,hd,hy,hv.adopt (.head _) hsub⟩,K,.ref (by rw [<-S.len];exact di),q'⟩
theorem pd{ks:List (Option Expr)}{es:List Expr}{pos:Pos}{mu:Bool}{env:Env}{A:Around}{s:Shared}{as:bA}{X:List Addr}{H:AH}{ρ:Fm}{Q:QE}{XX:XE}(C:Cok c T.gl)(hall:ks.all (·.isSome)=true)(hl:ks.length=es.length)(h0:ks≠[])(h15:ks.length<=15)(R:Rdy c T env A n s as X H ρ)
  (hp:∀{s₁:Shared} {X₁:List Addr},Rdy c T env A n s₁ as X₁ H ρ->wpAny c.M A (evalPairs (pairTrees ks es env pos)) (λps s'=>∃kcs ys,Carries c.kd ps ((kcs.map toS).zip ys)/\kcs.length=ys.length/\kcs.Nodup/\ResL c as X₁ s₁.heap (λvs H'=>vs.length<=15/\if mu then Q (.ref H'.length) (H'++[.dict kcs vs])else Q (.dct kcs vs) H') ys s') (ERes c as X₁ s₁.heap XX) s₁) :
  wpAny c.M A (eval (.Dict ks es pos) env) (Res c as X s.heap Q) (ERes c as X s.heap XX) s:=by
 have hX:∀b∈s.heap.objs.size::X,b∈X\/s.heap.get? b=none:=λb hb=>by
  refine dN (hb) (λe_=>?_) λh=>?_
  ·exact (e_)▸.inr (db _)
  ·exact .inl h
 haveI hbase:c.base.get? s.heap.objs.size=none:=R.S.base_none (db _)
 haveI S1:SR c as (s.heap.objs.size::X) H {s with heap:=s.heap.push {cls:=.type "dict",data:=.dict #[]}}:=R.S.opens (.push _ _) hX (λb hb=>by
  refine dN (hb) (λe_=>?_) λh=>?_
  ·subst e_;exact⟨_,be _ rfl⟩
  ·obtain ⟨o,e⟩:=R.S.xs b h;exact⟨o,bQ _ e⟩) rfl rfl
 haveI g0:Grown s.heap (s.heap.push {cls:=.type "dict",data:=.dict #[]}):=.push _ _
 refine wpAny_Dict_walk (knd:=c.kd) hall hl h0 h15 ?_
 haveI R1:Rdy c T env A n _ as (s.heap.objs.size::X) H ρ:=⟨R.a,S1,R.F.opens g0 (λb h=>.tail _ h) hX,R.K,R.len,R.fr.grow g0 λ_=>b7⟩
 refine wpAny_mono (hp R1) (λps s₂ r=>?_) λ_ _ e=>(e.lift (Ext.refl as s.heap) (g0.kept as _)).less (λ_ q=>.tail _ q) λb hb=>(vW hb).elim (λq=>.inr (.inr (q▸db _))) .inl
 clear hp S1 hX R1 hall hl h0 h15
 refine gP r ?_
 intro kcs ys hc hy hnd p_6
 obtain⟨vs,H₂,as₂,e2,S2,k2,hvs,hl,q⟩:=p_6
 refine⟨_,hc,DictOf.same (Heap.DictOf.new _) (λo e=>k2.one (jk R.S) e (gG R.S)),λh' hd sb=>?_⟩
 have hn:(((kcs.map toS).zip ys).map (·.1)).Nodup:=by
  rw [kY (by rw [ah,hy];exact aI _)]
  exact om.map _ (λa b hab e=>hab (iF e)) hnd
 simp only [merged_nil_of_nodup _ hn]at hd
 clear hc hn hnd
 haveI b:But [s.heap.objs.size] s₂.heap h':=λq o hq e=>(sb.2 q (by exact AD (hq))).trans e
 refine sh (s':={s₂ with heap:=h',toks:=_}) (db _) (jk R.S) (e2.out (be _ rfl) (gG R.S)) (pF C R.S) hbase ((Ext.refl as s.heap).trans (g0.kept as X) e2:Ext as s.heap as₂) ((((g0.kept as _).trans (.refl ..) k2).less λb hb=>(vW hb).elim (λq=>.inr (.inr (q▸db _))) .inl:Kept as X s.heap s₂.heap).but b (by intro a ha;replace ha:=in1 ha;subst ha;exact .inr (db _)))
  (S2.but (s':={s₂ with heap:=h',toks:=_}) b (by simpa using hbase) (λ_ q=>q) (λa _ hz=>by replace hz:=in1 hz;subst hz;obtain⟨o,_,_,e,_⟩:=hd;exact⟨o,e⟩) rfl rfl) hd hy (hvs.keepX (b.vk as₂ (by exact dk (.head _))) (.refl ..)) (aa hl (by decide)) q
theorem Ct{ks:List (Option Expr)}{kcs:List (List Char)}{es:List Expr}{xs:List Ex}{pos:Pos}{mu:Bool}(C:Cok c T.gl)(hk:A2 zY ks kcs)(h:qz c n T es xs)(hl:ks.length=es.length)(h15:ks.length<=15) :
  SE c n T (.Dict ks es pos) (.prim mu (.mkdict kcs) xs):=by
 refine⟨?_⟩
 intro env A s as X H ρ Q XX R w
 simp only [fm]at w
 by_cases h0:ks=[]
 ·subst h0
  cases hk
  induction h with
  |cons _ _=>cases hl
  |nil=>
   simp only [fw]at w
   obtain⟨hq,q⟩:=rF w
   have hX:∀b∈s.heap.objs.size::X,b∈X\/s.heap.get? b=none:=λb hb=>by
    refine dN (hb) (λe_=>?_) λh=>?_
    ·exact (e_)▸.inr (db _)
    ·exact .inl h
   haveI S1:SR c as (s.heap.objs.size::X) H {s with heap:=s.heap.push {cls:=.type "dict",data:=.dict #[]}}:=R.S.opens (.push _ _) hX (λb hb=>by
    refine dN (hb) (λe_=>?_) λh=>?_
    ·subst e_;exact⟨_,be _ rfl⟩
    ·obtain ⟨o,e⟩:=R.S.xs b h;exact⟨o,bQ _ e⟩) rfl rfl
   exact wpAny_Dict_empty (sh (ys:=[]) (db _) (jk R.S) (gG R.S) (pF C R.S) (R.S.base_none (db _)) (.refl ..) (Grown.kept (.push _ _) as X) S1 (Heap.DictOf.new _) rfl .nil (aQ _) q)
 ·haveI hall:ks.all (·.isSome)=true:=by
   clear h0 h15 hl w
   induction hk with
   |nil=>rfl
   |cons a _ ih=>obtain⟨_,_,_,rfl,_⟩:=a;exact ih
  refine pd (mu:=mu) C hall hl h0 h15 R λR1=>wpAny_mono (xQ hk h hl R1 w) (λps s₂ r=>?_) λ_ _ e=>e
  refine dm r ?_
  intro ys hc hy p_4
  obtain⟨vs,H₂,as₂,e2,S2,k2,hvs,q⟩:=p_4
  replace q:=rF q
  (haveI hq:=q.1;haveI q:=q.2)
  exact⟨kcs,ys,hc,hy,hq.2.2,vs,H₂,as₂,e2,S2,k2,hvs,hq.1▸hq.2.1,q⟩
theorem wI{k v:V}{H:AH}{Q:QE}{mu:Bool}(q:g7 (aY c.P mu .mkdict1 [k,v] H) Q):∃kc,k=.str kc/\if mu then Q (.ref H.length) (H++[.dict [kc] [v]])else Q (.dct [kc] [v]) H:=by
 refine q9 (j8 q) ?_
 intro r H' e
 refine ea1_2 (dF (e:bR _ k.txt=_)) ?_
 intro kc h1 _
 replace h1:=V.txt_is h1
 subst h1
 refine⟨kc,rfl,?_⟩
 induction mu with
 |false=>exact q
 |true=>exact q
theorem xY{ke ve:Expr}{a b:Ex}{pos:Pos}{mu:Bool}(C:Cok c T.gl)(hk:SE c n T ke a)(hv:SE c n T ve b):SE c n T (.Dict [some ke] [ve] pos) (.prim mu .mkdict1 [a,b]):=by
 refine⟨?_⟩
 intro env A s as X H ρ Q XX R w
 refine pd (mu:=mu) C rfl rfl (λh=>nomatch h) (show 1<=15 by decide) R λR1=>pairTrees_cons_walk (wpAny_mono (hk.run R1 w) (λy s₁ r=>?_) λ_ _ e=>e)
 obtain⟨kv,H₁,as₁,e1,S1,k1,hkv,w1⟩:=r
 refine wpAny_mono (hv.run (R1.next e1 k1 S1) w1) (λz s₂ r=>pairTrees_nil_walk ?_) λ_ _ e=>e.lift e1 k1
 obtain⟨v,H₂,as₂,e2,S2,k2,hvv,q⟩:=r
 replace q:=wI q
 refine ea1_2 q ?_
 intro kc q_2 q1
 subst q_2
 cases hkv.inv
 exact⟨[kc],[z],⟨nR _ _,rfl,trivial⟩,rfl,List.pairwise_singleton _ _,[v],H₂,as₂,e1.trans k1 e2,S2,k1.trans e1 k2,.cons hvv .nil,(show 1<=15 by decide),q1⟩
end
section
variable {c:Cx}{n:Nat}{T:Tb}
structure SO(c:Cx)(n:Nat)(T:Tb)(o:Option Expr)(ex:Ex):Prop where
 run:∀{env:Env} {A:Around} {s:Shared} {as:bA} {X:List Addr} {H:AH} {ρ:Fm} {Q:QE} {XX:XE},
 Rdy c T env A n s as X H ρ->cz c.P (aJ c.P n) ex ρ H Q XX->wpAny c.M A (evalPart o env) (Res c as X s.heap Q) (ERes c as X s.heap XX) s
theorem yT{r:Expr->Option Ex}(ih:∀e,Is (r e) (SE c n T e))(o:Option Expr):Is (Fy r o) (SO c n T o):=by
 induction o with
 |none=>exact⟨λR w=>wpAny_pure (Res.now (tk:=_) R.S .none w)⟩
 |some e=>exact(ih e).imp λ_ h=>⟨λR w=>h.run R w⟩
theorem jE(n:Nat)(i:Int):((jo n i:Nat):Int)=max 0 (min (if i<0 then i+n else i) n):=by
 unfold jo
 by_cases h:i<0
 ·rw [if_pos h,if_pos h]
  by_cases h2:i+n<0
  ·rw [if_pos h2];exact(Int.max_eq_left (bu (Int.min_le_left _ _) (fc h2))).symm
  ·rw [if_neg h2,ui (jz (fc h) (by simp+arith only)),sL (dB.mp h2),bO (dB.mp h2)]
 ·rw [if_neg h,if_neg h]
  by_cases h2:i<n
  ·rw [if_pos h2,ui (fc h2),sL (dB.mp h),bO (dB.mp h)]
  ·rw [if_neg h2,L2 (dB.mp h2),sL (bv n)]
theorem CB(lo hi:Option Int)(n:Nat):Builtin.Str.strSliceIndices lo hi 1 n=(aV (wj n hi-wR n lo)).map (wR n lo+·):=by
 rw [<-sliceRange_one]
 haveI e1:∀a b a' b':Int,a=a'->b=b'->sliceRange a b 1=sliceRange a' b' 1:=λ_ _ _ _ h h'=>by rw [h,h']
 refine e1 _ _ _ _ ?_ ?_
 ·induction lo with
  |none=>rfl
  |some i=>exact(jE n i).symm
 ·induction hi with
  |none=>rfl
  |some i=>exact(jE n i).symm
theorem nD{α:Type}(xs:List α)(a b:Nat):(xs.drop a).take (b-a)=bM xs a b:=by
 unfold bM
 simp only [List.drop_take]
theorem FQ(n:Nat)(o:Option Int):wj n o<=n:=by
 induction o with
 |none=>exact aI _
 |some i=>exact ca.mp (bu (lV (jE n i)) (Int.max_le.mpr ⟨bv n,Int.min_le_right _ _⟩))
set_option tactic.hygienic true in
theorem pG(xs:List Char)(lo hi:Option Int):Txt.slice (toS xs) lo hi=toS (bM xs (wR xs.length lo) (wj xs.length hi)):=by
 unfold Txt.slice
 rw [eZ,CB,pick_run]
 haveI e:(toS xs).cps.toList=xs.map Char.toNat:=by rfl
 haveI hh:=FQ xs.length hi
 split
 ·rename_i h
  rw [BEq.rfl,gK,ah,ba,beq_iff_eq]at h
  by_cases h0:xs.length=0
  ·have:xs=[]:=AI.mp h0
   subst this
   simp [bM]
  ·have h1:wR xs.length lo=0:=Nat.eq_zero_of_not_pos λhp=>d9 (bk (Nat.sub_lt (dC λz=>h0 (h.symm.trans ((congrArg (·-_) z).trans (Nat.zero_sub _)))) hp) hh) h
   haveI h2:wj xs.length hi=xs.length:=(qR _).symm.trans ((congrArg (wj xs.length hi-·) h1).symm.trans h)
   simp only [h1,h2,bM,kZ];rfl
 ·simp only [e,nD]
  unfold toS
  simp [bM,List.map_take,on]
theorem ud(items:Array Value)(lo hi:Option Int):(slicePick items lo hi none).toList=bM items.toList (wR items.size lo) (wj items.size hi):=by
 dsimp only [slicePick]
 have e1:(sliceBounds lo hi none items.size).1=((wR items.size lo:Nat):Int):=by
  induction lo with
  |none=>rfl
  |some i=>exact(jE _ i).symm
 haveI e2:(sliceBounds lo hi none items.size).2.1=((wj items.size hi:Nat):Int):=by
  induction hi with
  |none=>rfl
  |some i=>exact(jE _ i).symm
 simp only [e1,e2,show(sliceBounds lo hi none items.size).2.2=1 from rfl,sliceRange_one,pick_run,nD]
theorem VRs.slice{as:bA}{X:List Addr}{h:HP}{vs:List V}{cs:List Value}(r:VRs c as X h vs cs)(a b:Nat):VRs c as X h (bM vs a b) (bM cs a b):=(r.take b).drop a
theorem vz{as:bA}{X:List Addr}{h:HP}{v:V}{y:Value}{o:Option Int}(hv:VR c as X h v y)(e:kI v=some o):IsPart y o/\∃l:Option (Int×Tok),y=partValue l/\l.map (·.1)=o:=by
 refine Is.of (R:=λo=>IsPart y o/\∃l:Option (Int×Tok),y=partValue l/\l.map (·.1)=o) ?_ e
 clear e
 cases v with
 |none=>cases hv.inv;exact⟨.none,none,rfl,rfl⟩
 |int _=>cases hv.inv;exact⟨.int _ _,some (_,_),rfl,rfl⟩
 |_=>exact trivial
section
variable {A:Around}{E:Value->Shared->Prop}{s:Shared}{as:bA}{X:List Addr}{H H₁:AH}{Q:QE}{v r:V}{lo hi:Option Int}{y yl yu:Value}
abbrev oK(yl yu:Value):Obj:={cls:=.type "slice",data:=.fields #[yl,yu,.none]}
theorem D1{t:List Char}(hsz:t.length<=az)(S:SR c as X H s)(hv:VR c as X s.heap (.str t) y)(pl:∃l:Option (Int×Tok),yl=partValue l/\l.map (·.1)=lo)(pu:∃l:Option (Int×Tok),yu=partValue l/\l.map (·.1)=hi)
  (q:Q (.str (bM t (wR t.length lo) (wj t.length hi))) H):ItemOn c.M A E y (.ref s.heap.objs.size) (Res c as X s.heap Q) {s with heap:=s.heap.push (oK yl yu)}:=by
 refine ea1_2 pl ?_
 intro l q_2 q_3
 subst q_2
 subst q_3
 refine ea1_2 pu ?_
 intro u q_2 q_3
 subst q_2
 subst q_3
 cases hv.inv with
 |str tk hb=>
  refine⟨"str",_,F.slot_str_getitem.lookup,typeIs_str _ _ _,wpAny_getItem_str_slice (l:=l) (u:=u) (st:=none) ⟨_,be _ rfl,rfl,rfl⟩ rfl ?_⟩
  haveI hl:(bM t (wR t.length (l.map (·.1))) (wj t.length (u.map (·.1)))).length<=t.length:=by unfold bM;rw [gr,iB];exact aa (eK _ _) (sM _ _)
  have fin:∀t' k,Res c as X s.heap Q (.str (Txt.slice (toS t) (l.map (·.1)) (u.map (·.1))) t') {s with heap:=s.heap.push (oK (partValue l) (partValue u)),toks:=k}:=λt' k=>by
   rw [pG]
   exact Res.grow (s':={s with heap:=s.heap.push (oK (partValue l) (partValue u)),toks:=k}) S (.push _ _) rfl rfl (.str _ _ (by exact fp hb (fp hl (by simp+arith only)))) q
  refine post_val_or_str (c:=_) ⟨?_,λt' k=>fin t' k⟩
  show(Txt.slice (toS t) (l.map (·.1)) (u.map (·.1))).length<=sizeLine
  rw [pG,eZ]
  have:=cB
  exact fp hsz (fp hl (fp this (by simp+arith only)))
theorem yH{mu:Bool}{o:Obj}{items:Array Value}{vs:List V}(S:SR c as X H s)(hr:VRs c as X s.heap vs items.toList)(hb:vs.length<=jR)(q:g7 (if mu then kT (.lst vs) H else some (.lst vs,H)) Q):Res c as X s.heap Q (.ref (s.heap.push o).objs.size) {s with heap:=(s.heap.push o).push {cls:=.type "list",data:=.seq items}}:=by
 haveI g:Grown s.heap ((s.heap.push o).push {cls:=.type "list",data:=.seq items}):=(Grown.push _ _).trans (Grown.push _ _)
 haveI S1:SR c as X H {s with heap:=s.heap.push o}:=S.grow (.push _ _) rfl rfl
 haveI hn:s.heap.get? (s.heap.push o).objs.size=none:=by
  cases e:s.heap.get? (s.heap.push o).objs.size with
  |none=>rfl
  |some _=>exact absurd (fh e) (by rw [Heap.size_push];exact gV.mpr (a9 _))
 haveI f:FreshL c as X s vs (.ref (s.heap.push o).objs.size) {s with heap:=(s.heap.push o).push {cls:=.type "list",data:=.seq items}}:=.mk _ items rfl hn (S.base_none hn) g rfl rfl ⟨_,be _ rfl⟩ hr hb
 induction mu with
 |false=>exact f.frozen S q
 |true=>exact f.thawed S q
theorem IZ{α β:Type}{f g:α->Option β}{l:List α}(h:∀k∈l,f k=g k):l.filterMap f=l.filterMap g:=by
 induction l with
 |nil=>rfl
 |cons a l ih=>simp only [gC,gC,h a (.head _),ih λk hk=>h k (.tail _ hk)]
theorem yx(items:Array Value):(slicePick items none none (some (-1))).toList=items.toList.reverse:=by
 haveI e:sliceRange ((items.size:Int)-1) (-1) (-1)=(aV items.size).map λk=>items.size-1-k:=by
  haveI h:(if(items.size:Int)-1>-1 then((items.size:Int)-1 - -1 - -1-1)/(- -1)else 0).toNat=items.size:=by
   rw [show(- -1:Int)=1 from rfl,Int.ediv_one]
   by_cases h:(items.size:Int)-1>-1
   ·rw [if_pos h];exact congrArg sK (by simp+arith only:((items.size:Int)-1 - -1 - -1-1)=items.size)
   ·rw [if_neg h];exact(Nat.le_zero.mp (ca.mp (show(items.size:Int)<=0 from jz (dB.mp h) (by simp+arith only)))).symm
  refine(?_:(aV (if(items.size:Int)-1>-1 then((items.size:Int)-1 - -1 - -1-1)/(- -1)else 0).toNat).map _=_)
  rw [h]
  exact cb λk hk=>by simp only [Int.neg_mul,Int.one_mul];exact congrArg sK (zL (bx.mp hk))
 refine(?_:((sliceRange ((items.size:Int)-1) (-1) (-1)).filterMap (items[·]?))=_)
 simp only [e,Kb]
 haveI z:=pick_run items.toList.reverse.toArray 0 items.size
 rw [Kb]at z
 rw [show items.toList.reverse=(items.toList.reverse.drop 0).take items.size from by rw [wO,List.take_of_length_le];simp only [bX,bE];exact aI _]
 refine Eq.trans (IZ λk hk=>?_) z
 haveI hk:=bx.mp hk
 refine(?_:items[items.size-1-k]? =items.toList.reverse.toArray[0+k]?)
 rw [da,show items.toList.reverse.toArray[k]? =items.toList.reverse[k]? from List.getElem?_toArray,DG (by exact hk),bE,b9]
theorem B0{mu:Bool}(S:SR c as X H s)(hv:VR c as X s.heap v y)(pl:IsPart yl lo)(pu:IsPart yu hi)(e:((dJ H v).bind λt=>if t.length<=az then some (V.lst (bM t (wR t.length lo) (wj t.length hi)))else none)=some r)
  (q:g7 (if mu then kT r H else some (r,H)) Q):ItemOn c.M A E y (.ref s.heap.objs.size) (Res c as X s.heap Q) {s with heap:=s.heap.push (oK yl yu)}:=by
 refine ea1_2 (bY e) λvs hvs e=>?_
 refine cO (eT e) λhz e=>?_
 (replace e:=ai e;subst e)
 obtain⟨a,items,rfl,hp,rr,hs,_⟩:=eP S hv hvs
 haveI hl:=rr.len_arr
 haveI hz2:=cB
 haveI hp':(s.heap.push (oK yl yu)).IsList a items:=let⟨o,e,r⟩:=hp.isList;⟨o,bQ _ e,r⟩
 refine⟨"list",_,slot_list_getitem.lookup,hp'.typeIs,wpAny_getItem_list_slice hp' (Kc ..) pl pu .none (by decide) ?_ (by exact fp hz (fp (ao hl) (fp hz2 (by simp+arith only))))⟩
 exact yH S ((ud ..).symm▸hl.symm▸rr.slice _ _) (aa (aa (ao gr) (aa (eK _ _) (List.length_take_le' _ _))) hs) q
theorem yX{tk:Tok}(S:SR c as X H s)(hv:VR c as X s.heap v y)(e:((dJ H v).bind λt=>if t.length<=az then some (V.lst t.reverse,H)else none)=some (r,H₁))
  (q:Q r H₁):ItemOn c.M A E y (.ref s.heap.objs.size) (Res c as X s.heap Q) {s with heap:=s.heap.push {cls:=.type "slice",data:=.fields #[.none,.none,.int (-1) tk]}}:=by
 refine ea1_2 (bY e) λvs hvs e=>?_
 refine cO (eT e) λhz e=>?_
 (obtain⟨rfl,rfl⟩:=oC e;clear e)
 obtain⟨a,items,rfl,hp,rr,hs,_⟩:=eP S hv hvs
 haveI hl:=rr.len_arr
 haveI hz2:=cB
 haveI hp':(s.heap.push {cls:=.type "slice",data:=.fields #[.none,.none,.int (-1) tk]}).IsList a items:=let⟨o,e,r⟩:=hp.isList;⟨o,bQ _ e,r⟩
 refine⟨"list",_,slot_list_getitem.lookup,hp'.typeIs,wpAny_getItem_list_slice hp' (Kc ..) .none .none (.int _ _) (by decide) ?_ (by exact fp hz (fp (ao hl) (fp hz2 (by simp+arith only))))⟩
 exact yH (mu:=false) S ((yx ..).symm▸rr.reverse) (aa (ao bX) hs) q
end
theorem slM{mu:Bool}{v vl vu:V}{H:AH}{Q:QE}(q:g7 (aY c.P mu .slice [v,vl,vu] H) Q):∃lo hi r,kI vl=some lo/\kI vu=some hi/\tm H v lo hi=some r/\g7 (if mu then kT r H else some (r,H)) Q:=by
 have k:∀{z:V×AH},sY [v,vl,vu] H=some z->g7 (if mu then kT z.1 z.2 else some z) Q->∃lo hi r,kI vl=some lo/\kI vu=some hi/\tm H v lo hi=some r/\g7 (if mu then kT r H else some (r,H)) Q:=λ{z} e q=>
  ea1_2 (bY e) λlo h1 e=>ea1_2 (bY e) λhi h2 e=>ea1_2 (dF e) λr h3 e=>⟨lo,hi,r,h1,h2,h3,by subst e;exact q⟩
 induction mu with
 |false=>exact d0 (cG q) λr H' e q=>k e q
 |true=>exact d0 (cG (show g7 ((sY [v,vl,vu] H).bind λr=>kT r.1 r.2) Q from q)) λr H' e q=>ea1_2 (bY e) λz e e2=>k e (by show g7 (kT z.1 z.2) Q;exact(e2).symm▸q)
theorem zu{ve:Expr}{q p:Pos}{lo hi:Option Expr}{a b d:Ex}{mu:Bool}(h₁:SE c n T ve a)(h₂:SO c n T lo b)(h₃:SO c n T hi d):SE c n T (.Subscript ve (.Slice lo hi none q) p) (.prim mu .slice [a,b,d]):=by
 refine⟨?_⟩
 intro env A s as X H ρ Q XX R w
 refine Subscript_ (wpAny_mono (h₁.run R w) (λy s₁ r=>?_) λ_ _ e=>e)
 obtain⟨v,H₁,as₁,e1,S1,k1,hv,w1⟩:=r
 haveI R1:=R.next e1 k1 S1
 refine wpAny_Slice (wpAny_mono (h₂.run R1 w1) (λyl s₂ r=>?_) λ_ _ e=>e.lift e1 k1)
 obtain⟨vl,H₂,as₂,e2,S2,k2,hvl,w2⟩:=r
 refine wpAny_mono (h₃.run (R1.next e2 k2 S2) w2) (λyu s₃ r=>?_) λ_ _ e=>(e.lift e2 k2).lift e1 k1
 obtain⟨vu,H₃,as₃,e3,S3,k3,hvu,w3⟩:=r
 simp only [fw]at w3
 refine wpAny_pure ?_
 have hv3:=(hv.keep k2 e2).keep k3 e3
 haveI hvl3:=hvl.keep k3 e3
 obtain⟨lo',hi',r,hlo,hhi,er,q'⟩:=slM w3
 clear w3 w2 w1 w hvl hv S2 S1 R1 R h₁ h₂ h₃
 refine cO (vz hvl3 hlo) λpl1 pl2=>?_
 obtain⟨pu1,pu2⟩:=vz hvu hhi
 haveI fin:ItemOn c.M A (ERes c as X s.heap XX) y (.ref s₃.heap.objs.size) (Res c as₃ X s₃.heap Q) {s₃ with heap:=s₃.heap.push (oK yl yu)}:=by
  clear k3 e3 k2 e2 k1 e1
  cases v with
  |str t=>
   obtain⟨hz,e'⟩:=eT (er:(if t.length<=az then some (V.str (bM t (wR t.length lo') (wj t.length hi')))else none)=some r)
   (replace e':=ai e';subst e')
   induction mu with
   |false=>exact D1 hz S3 hv3 pl2 pu2 q'
   |true=>exact q'.elim
  |_=>exact B0 S3 hv3 pl1 pu1 er q'
 refine c6 fin ?_
 intro T' id f1 f2 f3
 exact tail_any f2 f1 (wpAny_mono f3 (λ_ _ z=>(λz=>((z.lift e3 k3).lift e2 k2).lift e1 k1) z) λ_ _ z=>z) rfl
theorem Gg{ve e:Expr}{q p:Pos}{a b:Ex}(h₁:SE c n T ve a)(h₂:SE c n T e b):SE c n T (.Subscript ve (.Slice none none (some e) q) p) (.prim false .rev [a,b]):=by
 refine⟨?_⟩
 intro env A s as X H ρ Q XX R w
 refine Subscript_ (wpAny_mono (h₁.run R w) (λy s₁ r=>?_) λ_ _ e=>e)
 obtain⟨v,H₁,as₁,e1,S1,k1,hv,w1⟩:=r
 refine wpAny_Slice (wpAny_pure (wpAny_pure (wpAny_mono (h₂.run (R.next e1 k1 S1) w1) (λyt s₂ r=>?_) λ_ _ e=>e.lift e1 k1)))
 obtain⟨vt,H₂,as₂,e2,S2,k2,hvt,w2⟩:=r
 simp only [fw]at w2
 refine d0 (cG w2) λr H' e q'=>?_
 refine ea1_2 (bY (e:vt.num.bind _=_)) λi hi e=>?_
 (refine cO (eT e) λe_0 e=>?_;subst e_0)
 haveI ei:=V.num_is hi
 subst ei
 cases hvt.inv with
 |int tk=>
  refine c6 (yX (A:=A) (E:=ERes c as X s.heap XX) (tk:=tk) S2 (hv.keep k2 e2) e q') λT' id f1 f2 f3=>?_
  exact tail_any f2 f1 (wpAny_mono f3 (λ_ _ z=>(z.lift e2 k2).lift e1 k1) λ_ _ z=>z) rfl
end
structure EOk(c:Cx)(n:Nat)(T:Tb)(e:Expr)(ex:Ex):Prop where
 se:SE c n T e ex
 st:ST c n T e ex
 ns:NS e
 nset:qB e
section
variable {c:Cx}{n:Nat}{gl:List (Str×Gl)}
theorem j7{op:CmpOp}{e:Expr}(h:qB e):behindInMarks op e=false:=by
 cases e with
 |Set a k p=>exact absurd rfl (h a k p)
 |_=>rfl
theorem A2.imp{α β:Type}{R R':α->β->Prop}(hi:∀a b,R a b->R' a b){l:List α}{m:List β}(h:A2 R l m):A2 R' l m:=by
 induction h with
 |nil=>exact .nil
 |cons x _ ih=>exact .cons (hi _ _ x) ih
theorem li{α β:Type}{f:α->Option β}{R:α->β->Prop}(hf:∀a,Is (f a) (R a))(l:List α):Is (i8 f l) (A2 R l):=by
 induction l with
 |nil=>exact A2.nil
 |cons a l ih=>exact(hf a).bind λ_ h1=>ih.map λ_ h2=>A2.cons h1 h2
abbrev EI(c:Cx)(n:Nat)(T:Tb)(r:Expr->Option Ex):Prop:=∀e,Is (r e) (EOk c n T e)
section
variable {T:Tb}{r:Expr->Option Ex}(ih:EI c n T r)
include ih
theorem Gb{p:Pos}{mu:Bool}(v sl:Expr):Is (JX r mu v sl) (SE c n T (.Subscript v sl p)):=by
 have F:qF sl=false->Is ((r v).bind λa=>(r sl).map λb=>Ex.prim false .item [a,b]) (SE c n T (.Subscript v sl p)):=λhs=>(ih v).bind λ_ h1=>(ih sl).map λ_ h2=>BD hs h1.se h2.se
 cases sl with
 |Slice lo hi st q=>
  induction st with
  |none=>exact(ih v).bind λ_ h1=>(yT (λe=>(ih e).imp λ_ q=>q.se) lo).bind λ_ h2=>(yT (λe=>(ih e).imp λ_ q=>q.se) hi).map λ_ h3=>zu h1.se h2 h3
  |some e=>
   induction lo with
   |some _=>exact trivial
   |none=>
    induction hi with
    |some _=>exact trivial
    |none=>exact(ih v).bind λ_ h1=>(ih e).map λ_ h2=>Gg h1.se h2.se
 |_=>exact F rfl
theorem iJ(es:List Expr):Is (i8 r es) (qz c n T es):=li (λe=>(ih e).imp λ_ q=>⟨q.se,q.ns⟩) es
theorem CO{g:Str}{p:Pos}{gv:Gl}{args:List Expr}{pos:Pos}(C:Cok c T.gl)(sc:SC c n)(hf:∀x f,T.gl.lookup x=some (.fn f)->∃fn,c.P.fns f=some fn)
  (h1:T.glob g=some gv):Is (cGl r T args pos gv) (SE c n T (.Call (.Name g p) args [] pos)):=by
 induction gv with
 |fn i=>exact(iJ ih args).map λ_ h2=>B7 C sc h1 (hf _ _ (g8 h1).2.1) h2
 |bi b=>
  refine Is.ite2 (λhb=>?_) λ_=>Is.self.bind λ_ h2=>(iJ ih args).map λ_ h3=>vY C h1 h3 h2
  subst hb
  rcases args with _|⟨x,_|⟨y,_|_⟩⟩
  ·exact trivial
  ·exact trivial
  ·refine (ng y).bind λt hy=>Is.self.bind λg2 h2=>(xF g2).bind λtn h5=>Is.self.bind λty h4=>(ih x).map λ_ h3=>?_
   obtain⟨_,rfl⟩:=hy
   subst h5
   exact vU C h1 h2 h4 h3.se h3.ns
  ·exact trivial
 |ty t=>exact Is.self.bind λ_ h2=>(iJ ih args).map λ_ h3=>wh C h1 h3 h2
 |cls ms ats f=>
  rcases args with _|⟨x,_|_⟩
  ·exact trivial
  ·exact (ih x).map λ_ h3=>DQ C sc h1 h3.se h3.ns
  ·exact trivial
 |_=>exact trivial
inductive AttrR(c:Cx)(n:Nat)(T:Tb)(o:Expr):Str->Ex×List Char->Prop
 |mk {x:Str} {ms:List (Str×Nat)} {ats:List Str} {f:Nat} {a:Ex} {nm:List Char}:(x,Gl.cls ms ats f)∈T.gl->toS nm∈ats->jm o=true->EOk c n T o a->AttrR c n T o (toS nm) (a,nm)
theorem sy(o:Expr)(name:Str):Is (z9 r T o name) (AttrR c n T o name):=
 Is.ite λhok=>(z4 T.gl).bind λ_ h2=>Is.ite λhin=>Is.self.bind λnm h5=>(ih o).map λ_ h7=>by
  obtain⟨x,hx⟩:=h2
  have e:=(lC h5).1
  subst e
  exact .mk hx (aX.mp hin) hok h7
theorem AT{f:Expr}{args:List Expr}{kws:List Keyword}{pos:Pos}(C:Cok c T.gl)(sc:SC c n)(hf:∀x f,T.gl.lookup x=some (.fn f)->∃fn,c.P.fns f=some fn):Is (Dj r T f args kws pos) (SE c n T (.Call f args kws pos)):=by
 cases kws with
 |cons _ _=>exact trivial
 |nil=>
  cases f with
  |Name g p=>exact Is.self.bind λ_ h1=>CO ih C sc hf h1
  |Attribute o name apos=>
   refine Is.ite λhc=>Is.ite2 (λ_=>?_) λ_=>?_
   ·exact Is.self.bind λ_ h1=>(ih o).bind λ_ h2=>(iJ ih args).map λ_ h3=>rf hc.1 hc.2 h2.se h3 h1 λq=>(ay.mp q).2
   ·refine Is.ite λhlt=>(z4 T.gl).bind λ_ h2=>Is.self.bind λ_ h4=>Is.self.bind λ_ h6=>(ih o).bind λ_ h8=>(iJ ih args).map λ_ h10=>?_
    refine dw (h2) λx hx=>?_
    replace h6:=(lC h6).1
    subst h6
    exact BN (C.cl x _ _ _ hx) C sc h4 hc.1 hc.2 hlt h8.se h10
  |_=>exact trivial
theorem GE(l:List Expr):Is (Hv r l) λq=>(l=[]/\q=none)\/∃t x,l=[t]/\q=some x/\ST c n T t x:=by
 rcases l with _|⟨t,_|_⟩
 ·exact .inl ⟨rfl,rfl⟩
 ·exact Is.map (o:=(r t)) (ih t) λx h1=>.inr ⟨t,x,rfl,rfl,h1.st⟩
 ·exact trivial
theorem EN{l:Expr}{ops:List CmpOp}{rs:List Expr}{p:Pos}:Is (JC r l ops rs) λex=>SE c n T (.Compare l ops rs p) ex/\ST c n T (.Compare l ops rs p) ex:=by
 rcases ops with _|⟨op,_|⟨o₂,_|_⟩⟩
 ·exact trivial
 ·rcases rs with _|⟨x,_|_⟩
  ·exact trivial
  ·exact (ih l).bind λ_ h1=>(ih x).map λ_ h2=>⟨Fj (j7 h2.nset) h1.se h2.se,EO (j7 h2.nset) h1.se h2.se⟩
  ·exact trivial
 ·rcases rs with _|⟨m,_|⟨x,_|_⟩⟩
  ·exact trivial
  ·exact trivial
  ·exact (ih l).bind λ_ h1=>(ih m).bind λ_ h2=>(ih x).map λ_ h3=>⟨Bu (j7 h3.nset) h1.se h2.se h3.se,Bh (j7 h3.nset) h1.se h2.se h3.se⟩
  ·exact trivial
 ·exact trivial
end
inductive CompR(c:Cx)(n:Nat)(T:Tb)(elt:Expr)(scope:Scope):List Comprehension->Ex->Prop
 |mk {x:Str} {px:Pos} {iter:Expr} {ifs:List Expr} {b i:Ex} {cond:Option Ex} {mu:Bool}:CompF T x scope->qB iter->SE c n T iter i->SE c n (l9 T x scope) elt b->
   ((ifs=[]/\cond=none)\/∃t q,ifs=[t]/\cond=some q/\ST c n (l9 T x scope) t q)->CompR c n T elt scope [⟨.Name x px,iter,ifs,0⟩] (.comp mu b i cond)
theorem ut{k:Nat}{T:Tb}{elt:Expr}{gens:List Comprehension}{scope:Scope}{pos:Pos}(ih:∀{T':Tb},T'.gl=T.gl->EI c n T' (cE k T')) :
  Is (Dp (cE k) T elt gens scope pos) (CompR c n T elt scope gens):=by
 rcases gens with _|⟨⟨t,it,ifs,ia⟩,_|_⟩
 ·exact trivial
 ·refine (ng t).bind λx h1=>Is.ite λhc=>(ih rfl it).bind λ_ h2=>(ih (T':=l9 T x scope) rfl elt).bind λ_ h3=>(GE (ih (T':=l9 T x scope) rfl) ifs).map λ_ h4=>?_
  obtain⟨_,rfl⟩:=h1
  obtain⟨h,hok⟩:=hc
  subst (h)
  exact .mk (JO hok) h2.nset h2.se h3.se h4
 ·exact trivial
theorem dW{T:Tb}{e:Expr}{ex:Ex}(hp:∀env whole,isTrue e env whole=(do let v <-whole;standAt e.pos;holding [v] (truthy v)))(ns:NS e)(nset:qB e)(h:SE c n T e ex):EOk c n T e ex:=⟨h,yp hp h,ns,nset⟩
theorem uE(C:Cok c gl)(sc:SC c n)(hf:∀x f,gl.lookup x=some (.fn f)->∃fn,c.P.fns f=some fn)(k:Nat):∀{T:Tb},T.gl=gl->EI c n T (cE k T):=by
 induction k with
 |zero=>exact λ_ _=>trivial
 |succ k ih=>
  intro T hg e
  subst hg
  have iht:=ih rfl
  cases e with
  |Constant a b d=>exact Is.to λ_ h=>dW (λ_ _=>rfl) nofun nofun (zf h)
  |Name a b=>exact Is.to λ_ h=>dW (λ_ _=>rfl) nofun nofun (AY C h)
  |BinOp l op r pos=>exact Is.self.bind λ_ h1=>(iht l).bind λ_ h2=>(iht r).bind λ_ h3=>Is.ite2 (λho=>dW (λ_ _=>rfl) nofun nofun (Ez h1 ho.1 h2.se h3.se)) λ_=>dW (λ_ _=>rfl) nofun nofun (xy h1 h2.se h3.se)
  |UnaryOp op x p=>
   refine(iht x).bind λ_ h1=>?_
   induction op with
   |Not=>exact⟨EF h1.se,D7 h1.st,nofun,nofun⟩
   |USub=>exact dW (λ_ _=>rfl) nofun nofun (Gr h1.se)
   |_=>exact trivial
  |BoolOp op vs p=>exact(li iht vs).bind λ_ q=>Is.to λ_ h2=>⟨⟨λR w=>Cc (q.imp λ_ _ x=>x.se) h2 R w⟩,⟨λhP R w=>Cb (q.imp λ_ _ x=>x.st) h2 hP R w⟩,nofun,nofun⟩
  |Compare l ops rs p=>exact(EN iht).imp λ_ h=>⟨h.1,h.2,nofun,nofun⟩
  |Call f args kws pos=>exact(AT iht C sc hf).imp λ_=>dW (λ_ _=>rfl) nofun nofun
  |Subscript v sl p=>exact(Gb iht v sl).imp λ_=>dW (λ_ _=>rfl) nofun nofun
  |List es pos=>exact(iJ iht es).map λ_ h1=>dW (λ_ _=>rfl) nofun nofun (Ch h1)
  |Tuple es kk pos=>exact(iJ iht es).map λ_ h1=>dW (λ_ _=>rfl) nofun nofun (D6 h1)
  |Dict ks vs p=>
   refine Is.imp (R:=SE c n T (.Dict ks vs p)) (Is.ite2 (λ_=>Is.ite λhc=>(li xr ks).bind λ_ h1=>(iJ iht vs).map λ_ h2=>Ct C h1 h2 hc.1 hc.2) λ_=>?_) λ_=>dW (λ_ _=>rfl) nofun nofun
   rcases ks with _|⟨_|ke,_|_⟩
   ·exact trivial
   ·exact trivial
   ·exact trivial
   ·rcases vs with _|⟨ve,_|_⟩
    ·exact trivial
    ·exact (iht ke).bind λ_ h1=>(iht ve).map λ_ h2=>xY C h1.se h2.se
    ·exact trivial
   ·exact trivial
  |ListComp elt gens scope pos=>exact(ut ih).imp λ_ h=>by induction h with|mk ok hns hi he hc=>exact dW (λ_ _=>rfl) nofun nofun (BZ ok hns hi he hc)
  |Attribute o name pos=>exact(sy iht o name).map λ_ h=>by induction h with|mk hx hat hok h1=>exact dW (λ_ _=>rfl) nofun nofun (CE (C.cl _ _ _ _ hx) hat hok h1.se)
  |_=>exact trivial
end
abbrev own(env:Env):List Addr:=env.locals::env.cells.map (·.2)
abbrev iA(env:Env):List Addr:=env.locals::own env
theorem FR.away'{c:Cx}{as:bA}{X:List Addr}{h:HP}{env:Env}{tab:List (Str×Nat)}{ρ:Fm}{a:Addr}(_F:FR c as X h env tab ρ)(ha:a∉own env):p8 [a] env tab:=
 ⟨λq=>ha (by replace q:=in1 q;subst q;exact .head _),λx i h1 h2 b e q=>ha (by replace q:=in1 q;subst q;exact .tail _ (aG.mpr ⟨(x,b),mem_of_lookup e,rfl⟩))⟩
def ResS(c:Cx)(as:bA)(X:List Addr)(h:HP)(T:Tb)(env:Env)(K:KS)(R:QE)(f:Flow)(s':Shared):Prop:=
 match f with
 |.next=>∃ρ' H' as',Ext as h as'/\SR c as' X H' s'/\KeptX as X (own env) h s'.heap/\FR c as' X s'.heap env T.tab ρ'/\ρ'.length=T.n/\K ρ' H'
 |.ret x=>∃v H' as',Ext as h as'/\SR c as' X H' s'/\KeptX as X (own env) h s'.heap/\VR c as' X s'.heap v x/\R v H'
 |_=>False
inductive EResS(c:Cx)(as:bA)(X:List Addr)(h:HP)(env:Env)(XX:XE)(x:Value)(s':Shared):Prop
 |mk (k:Nat) (H':AH) (as':bA) (e:Addr) (t:Option Addr) (ts:List Addr):x=.ref e->Ext as h as'->SR c as' (e::(ts++X)) H' s'->KeptX as X (own env) h s'.heap->ExcS s'.heap e (.ref (c.xcls k)) t->(∀T,t=some T->T∈ts)->(∀a∈e::ts,yU c as h as' X a)->(∃m,s'.heap.Ns env.locals m)->XX k H'->EResS c as X h env XX x s'
structure Own(A:Around)(X:List Addr)(env:Env):Prop where
 mem:∀b∈own env,b∈X
 fr:env.frame=some env.locals
 out:∀l,A.frames=some l->∀e∈l,∀L,e.frame=some L->L∉env.cells.map (·.2)
theorem Own.more{A:Around}{X:List Addr}{env:Env}{I:Addr}(o:Own A X env):Own A (I::X) env:=⟨λb hb=>.tail _ (o.mem b hb),o.fr,o.out⟩
theorem EnvFr.step{c:Cx}{A:Around}{X:List Addr}{as as':bA}{h h':HP}{env:Env}(f:EnvFr c A X as h env)(o:Own A X env)(E:Ext as h as')(k:KeptX as X (own env) h h')(hn:∃m,h'.Ns env.locals m)(lo:env.locals∉as'):EnvFr c A X as' h' env:=by
 obtain⟨env₀,outer,L,h1,h2,h3,h4⟩:=f
 refine⟨env₀,outer,L,h1,λa ha=>⟨(h2 a ha).kind,?_⟩,h3,h4⟩
 refine mP ((h2 a ha).there) λL' ob es n q1 q2 q3 q4 q5 q6=>?_
 by_cases hL:L'=env.locals
 ·exact hn.elim λm hn=>i6 hn λob' es' ep e1 e2 _=>⟨L',ob',es',ep,q1,q2,q3,hL▸lo,hL▸e1,e2⟩
 ·exact ea1_2 (k L' ob q5 q4 λq=>dN q hL λq=>o.out _ h1 a ha L' q1 q) λob' e1 s=>⟨L',ob',es,n,q1,q2,q3,E.out q5 q4,e1,s.elim (λs=>s▸q6) λs=>s.2.2.elim λsl s=>s▸q6⟩
theorem KeptX.trans{as as₁:bA}{X Y:List Addr}{h h₁ h₂:HP}(k:KeptX as X Y h h₁)(x:Ext as h as₁)(k':KeptX as₁ X Y h₁ h₂):KeptX as X Y h h₂:=λb o e hb hy=>by
 refine ea1_2 (k b o e hb hy) ?_
 intro o₁ e₁ s₁
 refine ea1_2 (k' b o₁ e₁ (x.out e hb) hy) ?_
 intro o₂ e₂ s₂
 exact⟨o₂,e₂,s₁.trans s₂⟩
theorem KeptX.fr{as:bA}{X Y:List Addr}{h h':HP}{a:Addr}(k:KeptX as X Y h h')(hY:∀b∈Y,∃o,h'.get? b=some o)(ha:h'.get? a=none):Fr as h a:=
 (Classical.em (a∈as)).imp id λhm=>fA (o:=h.get? a) id λo hq=>(Classical.em (a∈Y)).elim (λhy=>(hY a hy).elim λ_ e=>eY (ha.symm.trans e)) λhy=>ea1_2 (k a o hq hm hy) λ_ e _=>eY (ha.symm.trans e)
theorem Ext.transX{as as₁ as₂:bA}{X Y:List Addr}{h h₁:HP}(x:Ext as h as₁)(k:KeptX as X Y h h₁)(hY:∀b∈Y,∃o,h₁.get? b=some o)(y:Ext as₁ h₁ as₂):Ext as h as₂:=
 ⟨λi a e=>y.old i a (x.old i a e),λa ha=>(y.new a ha).elim (x.new a) (k.fr hY)⟩
theorem KeptX.less{as:bA}{X X' Y:List Addr}{h h':HP}(k:KeptX as X' Y h h')(hX:∀b,2<=X'.count b->2<=X.count b\/Fr as h b):KeptX as X Y h h':=λb o e hb hy=>by
 refine ea1_2 (k b o e hb hy) ?_
 intro o' e' s
 exact⟨o',e',s.mono λq=>(hX b q).elim id λr=>r.elim (λr=>absurd r hb) λr=>by replace e:=(r).symm.trans e;cases e⟩
theorem KeptX.more{as:bA}{X X' Y:List Addr}{h h':HP}(k:KeptX as X Y h h')(hX:∀b,X.count b<=X'.count b):KeptX as X' Y h h':=λb o e hb hy=>by
 refine ea1_2 (k b o e hb hy) ?_
 intro o' e' s
 exact⟨o',e',s.mono λq=>aa q (hX b)⟩
theorem KeptX.but{as:bA}{X Y Z:List Addr}{h₀ h h':HP}(k:KeptX as X Y h₀ h)(b:But Z h h')(hZ:∀a∈Z,Fr as h₀ a)  :KeptX as X Y h₀ h':=λx o e hx hy=>by
 refine ea1_2 (k x o e hx hy) ?_
 intro o' e' s
 exact⟨o',b x o' (λq=>by refine Or.elim (hZ _ q) (λr=>?_) λr=>?_;exact hx r;replace e:=(r).symm.trans e;exact eY e) e',s⟩
theorem ResS.lift{c:Cx}{as as₁:bA}{X:List Addr}{h h₁:HP}{T:Tb}{env:Env}{K:KS}{R:QE}{f:Flow}{s':Shared}(e:Ext as h as₁)(k:KeptX as X (own env) h h₁)(hY:∀b∈own env,∃o,h₁.get? b=some o)(r:ResS c as₁ X h₁ T env K R f s'):ResS c as X h T env K R f s':=by
 induction f with
 |next=>
  refine gF r ?_
  intro ρ' H' as' e' S k' F hl q
  exact⟨ρ',H',as',e.transX k hY e',S,k.trans e k',F,hl,q⟩
 |ret x=>
  refine nU r ?_
  intro v H' as' e' S k' hv q
  exact⟨v,H',as',e.transX k hY e',S,k.trans e k',hv,q⟩
 |_=>exact r.elim
theorem EResS.lift{c:Cx}{as as₁:bA}{X:List Addr}{h h₁:HP}{env:Env}{XX:XE}{x:Value}{s':Shared}(e:Ext as h as₁)(k:KeptX as X (own env) h h₁)(hY:∀b∈own env,∃o,h₁.get? b=some o)(r:EResS c as₁ X h₁ env XX x s'):EResS c as X h env XX x s':=by
 obtain⟨n,H',as',a,t,ts,hx,e',S,k',ex,ht,ap,hn,q⟩:=r
 exact⟨n,H',as',a,t,ts,hx,e.transX k hY e',S,k.trans e k',ex,ht,λb hb=>⟨(ap b hb).1.elim (e.new b) (k.fr hY),(ap b hb).2⟩,hn,q⟩
theorem ERes.none{c:Cx}{as:bA}{X:List Addr}{h:HP}{x:Value}{s':Shared}(r:ERes c as X h (λ_ _=>False) x s'):False:=by
 obtain⟨_,_,_,_,_,_,_,_,_,_,_,_,_,q⟩:=r
 exact q
theorem EResS.none{c:Cx}{as:bA}{X:List Addr}{h:HP}{env:Env}{x:Value}{s':Shared}(r:EResS c as X h env (λ_ _=>False) x s'):False:=by
 obtain⟨_,_,_,_,_,_,_,_,_,_,_,_,_,_,q⟩:=r
 exact q
theorem ERes.toS{c:Cx}{as:bA}{X:List Addr}{h:HP}{tab:List (Str×Nat)}{env:Env}{XX:XE}{x:Value}{s':Shared}{ρ:Fm}(r:ERes c as X h XX x s')(F:FR c as X h env tab ρ):EResS c as X h env XX x s':=by
 haveI hn:=r.nsC (F.ns.imp λ_ h=>h.1) F.lout
 obtain⟨n,H',as',a,t,ts,hx,e',S,k',ex,ht,ap,q⟩:=r
 exact⟨n,H',as',a,t,ts,hx,e',S,k'.y _,ex,ht,ap,hn,q⟩
theorem ResS.mono{c:Cx}{as:bA}{X:List Addr}{h:HP}{T:Tb}{env:Env}{K K':KS}{R:QE}{f:Flow}{s':Shared}(r:ResS c as X h T env K R f s')(hK:∀ρ H,K ρ H->K' ρ H):ResS c as X h T env K' R f s':=by
 induction f with
 |next=>
  refine gF r ?_
  intro ρ' H' as' e' S k' F hl q
  exact⟨ρ',H',as',e',S,k',F,hl,hK _ _ q⟩
 |ret x=>exact r
 |_=>exact r.elim
structure SS(c:Cx)(n:Nat)(T:Tb)(st:Stmt)(sts:List St):Prop where
 run:∀{env:Env} {A:Around} {s:Shared} {as:bA} {X:List Addr} {H:AH} {ρ:Fm} {K:KS} {R:QE} {XX:XE},
  Rdy c T env A n s as X H ρ->Own A X env->a7 c.P (aJ c.P n) sts ρ H K R XX->wpAny c.M A (exec st env) (ResS c as X s.heap T env K R) (EResS c as X s.heap env XX) s
structure SB(c:Cx)(n:Nat)(T:Tb)(b:List Stmt)(sts:List St):Prop where
 run:∀{env:Env} {A:Around} {s:Shared} {as:bA} {X:List Addr} {H:AH} {ρ:Fm} {K:KS} {R:QE} {XX:XE},
  Rdy c T env A n s as X H ρ->Own A X env->a7 c.P (aJ c.P n) sts ρ H K R XX->wpAny c.M A (execs b env) (ResS c as X s.heap T env K R) (EResS c as X s.heap env XX) s
theorem mO{P:Prog}{C:Calls}{R:QE}{X:XE}{ys:List St}{K:KS}:∀{xs:List St} {ρ:Fm} {H:AH},a7 P C (xs++ys) ρ H K R X=a7 P C xs ρ H (λρ' H'=>a7 P C ys ρ' H' K R X) R X
 |[],_,_=>rfl
 |s::xs,ρ,H=>by
  simp only [sN,j2,j2]
  congr 1
  funext ρ' H'
  exact mO
section
variable {c:Cx}{n:Nat}{T:Tb}
theorem Rdy.step{env:Env}{A:Around}{s s₁:Shared}{as as₁:bA}{X:List Addr}{H H₁:AH}{ρ ρ₁:Fm}(R:Rdy c T env A n s as X H ρ)(hY:Own A X env)(e:Ext as s.heap as₁)(k:KeptX as X (own env) s.heap s₁.heap)(S:SR c as₁ X H₁ s₁)(F:FR c as₁ X s₁.heap env T.tab ρ₁)(hl:ρ₁.length=T.n):Rdy c T env A n s₁ as₁ X H₁ ρ₁:=⟨R.a,S,F,R.K,hl,R.fr.step hY e k (F.ns.imp λ_ h=>h.1) F.lout⟩
theorem C4{b:List Stmt}{xss:List (List St)}(h:A2 (SS c n T) b xss):SB c n T b xss.flatten:=by
 induction h with
 |nil=>
  refine⟨?_⟩
  intro env A s as X H ρ K R XX r hY w
  exact wpAny_execs_nil ⟨ρ,H,as,.refl ..,r.S,λb o e _ _=>⟨o,e,.inl rfl⟩,r.F,r.len,w⟩
 |@cons st xs l m h₁ _ ih=>
  refine⟨?_⟩
  intro env A s as X H ρ K R XX r hY w
  simp only [List.flatten_cons,mO]at w
  refine wpAny_execs_cons (wpAny_mono (h₁.run r hY w) (λf s₁ q=>?_) λ_ _ e=>e)
  induction f with
  |next=>
   refine gF q ?_
   intro ρ₁ H₁ as₁ e1 S1 k1 F1 hl1 w1
   exact wpAny_mono (ih.run (r.step hY e1 k1 S1 F1 hl1) hY w1) (λf s₂ q=>q.lift e1 k1 λb hb=>S1.xs b (hY.mem b hb)) λ_ _ e=>e.lift e1 k1 λb hb=>S1.xs b (hY.mem b hb)
  |ret x=>exact q
  |_=>exact q.elim
theorem Res.toS{env:Env}{as:bA}{X:List Addr}{h:HP}{K:KS}{Q:QE}{x:Value}{s':Shared}(r:Res c as X h Q x s'):ResS c as X h T env K Q (.ret x) s':=by
 obtain⟨v,H',as',e,S,k,hv,q⟩:=r
 exact⟨v,H',as',e,S,k.y _,hv,q⟩
theorem El{e:Expr}{ex:Ex}{pos:Pos}(h:SE c n T e ex):SS c n T (.Return (some e) pos) [.ret ex]:=by
 refine⟨?_⟩
 intro env A s as X H ρ K R XX r hY w
 simp only [j2,vg]at w
 exact wpAny_Return_some (wpAny_mono (h.run r w) (λ_ _ q=>q.toS) λ_ _ e=>e.toS r.F)
theorem BK{pos:Pos}:SS c n T (.Return none pos) [.ret (.cst .none)]:=by
 refine⟨?_⟩
 intro env A s as X H ρ K R XX r hY w
 simp only [j2,vg,Ck]at w
 exact wpAny_Return_none ⟨.none,H,as,.refl ..,r.S,λb o e _ _=>⟨o,e,.inl rfl⟩,.none,w⟩
theorem BR{pos:Pos}:SS c n T (.Pass pos) [.pass]:=by
 refine⟨?_⟩
 intro env A s as X H ρ K R XX r hY w
 exact wpAny_Pass ⟨ρ,H,as,.refl ..,r.S,λb o e _ _=>⟨o,e,.inl rfl⟩,r.F,r.len,w⟩
structure S1(c:Cx)(n:Nat)(T:Tb)(st:Stmt)(x:St):Prop where
 run:∀{env:Env} {A:Around} {s:Shared} {as:bA} {X:List Addr} {H:AH} {ρ:Fm} {K:KS} {R:QE} {XX:XE},
  Rdy c T env A n s as X H ρ->Own A X env->s8 c.P (aJ c.P n) x ρ H K R XX->wpAny c.M A (exec st env) (ResS c as X s.heap T env K R) (EResS c as X s.heap env XX) s
theorem Bn{e:Expr}{ex:Ex}{pos:Pos}(hc:ma e=false)(h:SE c n T e ex):S1 c n T (.Expr e pos) (.expr ex):=by
 refine⟨?_⟩
 intro env A s as X H ρ K R XX r hY w
 simp only [yF]at w
 haveI hi:interactive env=false:=by dsimp only [interactive];rw [r.F.kind];rfl
 haveI hs:swapsWith e none pos.line env=pure false:=by cases e<;>first|rfl|cases hc
 rw [exec_Expr env e pos hi hs]
 refine wpAny_bind (wpAny_standAt (wpAny_bind (wpAny_mono (h.run r w) (λv s₁ q=>?_) λ_ _ e=>e.toS r.F)))
 obtain⟨v,H',as',e,S,k,hv,q⟩:=q
 exact wpAny_dropValue ⟨ρ,H',as',e,S,k.y _,r.F.keep k e,r.len,q⟩
theorem Ik{t:Expr}{ex:Ex}{a b:List Stmt}{xs ys:List St}{pos:Pos}(h:ST c n T t ex)(ha:SB c n T a xs)(hb:SB c n T b ys):S1 c n T (.If t a b pos) (.ite ex xs ys):=by
 refine⟨?_⟩
 intro env A s as X H ρ K R XX r hY w
 simp only [Cn]at w
 refine wpAny_If (wpAny_mono (h.run (Q:=λt H'=>if t then a7 c.P (aJ c.P n) xs ρ H' K R XX else a7 c.P (aJ c.P n) ys ρ H' K R XX) (λ_ _ q=>q) r w) (λt s₁ q=>?_) λ_ _ e=>e.toS r.F)
 obtain⟨H',as',e,S,k,q⟩:=q
 haveI r':=r.next e k S
 induction t with
 |true=>
  simp only [if_true]at q ⊢
  exact wpAny_mono (ha.run r' hY q) (λ_ _ q=>q.lift e (k.y _) λb hb=>S.xs b (hY.mem b hb)) λ_ _ e'=>e'.lift e (k.y _) λb hb=>S.xs b (hY.mem b hb)
 |false=>
  simp only [jB,if_false]at q ⊢
  exact wpAny_mono (hb.run r' hY q) (λ_ _ q=>q.lift e (k.y _) λb hb=>S.xs b (hY.mem b hb)) λ_ _ e'=>e'.lift e (k.y _) λb hb=>S.xs b (hY.mem b hb)
set_option tactic.hygienic true in
theorem k9{x:Str}{i:Nat}{env:Env}(K:KOk T env)(h:T.slot x=some i):T.tab.lookup x=some i/\(env.kindOf x=some .local\/env.kindOf x=some .cell)/\i<T.n:=by
 unfold Tb.slot at h
 split at h
 ·rename_i hk
  split at h
  ·rename_i j hj
   split at h
   ·cases h;exact⟨hj,.inl (K.loc x hk),by assumption⟩
   ·cases h
  ·cases h
 ·rename_i hk
  split at h
  ·rename_i j hj
   split at h
   ·cases h;exact⟨hj,.inr (K.cell x hk),by assumption⟩
   ·cases h
  ·cases h
 ·exact eY h
theorem yR{x:Str}{i:Nat}{px pos:Pos}{e:Expr}{ex:Ex}(hi:T.slot x=some i)(h:SE c n T e ex){env:Env}{A:Around}{s:Shared}{as:bA}{X:List Addr}{H:AH}{ρ:Fm}{K:KS}{R:QE}{XX:XE}
  (r:Rdy c T env A n s as X H ρ)(hY:Own A X env)(w:s8 c.P (aJ c.P n) (.asg i ex) ρ H K R XX)(hs:swapsWith e (some (.Name x px)) pos.line env=pure false) :
  wpAny c.M A (exec (.Assign [.Name x px] e pos) env) (ResS c as X s.heap T env K R) (EResS c as X s.heap env XX) s:=by
 refine ea0_3 (k9 r.K hi) ?_
 intro h1 h2 h3
 simp only [ur]at w
 refine wpAny_Assign_Name (wpAny_mono (h.run r w) (λy s₁ q=>?_) λ_ _ e=>e.toS r.F) hs
 obtain⟨v,H₁,as₁,e1,S1,k1,hv,hl,q⟩:=q
 refine lK S1 (r.F.keep k1 e1) h1 h2 hl hv λs₂ st=>?_
 obtain⟨S2,k2,F2⟩:=st
 exact ResS.lift e1 (k1.y _) (λb hb=>S1.xs b (hY.mem b hb)) ⟨_,H₁,as₁,.refl ..,S2,k2,F2,by exact(aR).symm▸r.len,q⟩
end
section
variable {c:Cx}{n:Nat}{T:Tb}
theorem zq{x m:Str}{k kk:Nat}{np mp cpos pos:Pos}(C:Cok c T.gl)(hg:T.glob x=some (.exc k)):S1 c n T (.Raise (some (.Call (.Name x np) [.Constant (.str m) kk mp] [] cpos)) none pos) (.raise k):=by
 refine⟨?_⟩
 intro env A s as X H ρ K R XX r hY w
 simp only [we]at w
 refine cO (C.gl x _ (g8 hg).2.1) λhm hk=>?_
 refine ea1_2 (C.x k hk) ?_
 intro bm xc _
 have xb:(bm).contains (.type "BaseException")=true:=by obtain⟨_,_,_,tl⟩:=xc;exact tl.has (by decide)
 obtain⟨hC,hN,hmN,tl⟩:=xc.keeps r.S.stays
 refine wpAny_Raise_call_subT F.excBase_ValueError xb r.a.hh rfl (hmN _ (.head _)) (jj C hg r (.inl hm) ⟨rfl,evalArgs_plain (spliced_cons (Constant_str (k:=kk) (pos:=mp) (spliced_nil ⟨rfl,(by decide:1<=sizeLine),hC,hN,tl.tail,λh' e me=>?_⟩)))⟩)
 refine dm me.there ?_
 intro t he ht _
 have g:Grown s.heap h':=me.keeps
 refine⟨k,H,as,e,none,[],rfl,.refl ..,r.S.opens (s':={s with heap:=h',toks:=_}) g (eJ (.inr me.new) λ_ hb=>.inl hb:∀b∈e::([]++X),b∈X\/s.heap.get? b=none) (eJ ⟨_,he⟩ λb hb=>(r.S.xs b hb).imp λ_ eo=>g _ _ eo) rfl rfl,(g.kept as X).y _,.fresh he rfl rfl rfl rfl rfl,nofun,dk ⟨.inr me.new,r.S.not_as me.new,r.S.not_x me.new,r.S.base_none me.new⟩,r.F.ns.imp λm h=>h.1.at λo e=>g _ o e,w⟩
theorem ExcS.obj{h:HP}{e:Addr}{cls:Value}{t:Option Addr}(x:ExcS h e cls t):∃oe vs,h.get? e=some oe/\oe.cls=cls/\oe.data=.fields vs/\vs[2]? =some .none:=by
 induction x with
 |fresh he hc hd hsz v1 v2=>exact⟨_,_,he,hc,hd,v2⟩
 |traced he hc hd hsz v1 v2=>exact⟨_,_,he,hc,hd,v2⟩
theorem ExcS.trc{h:HP}{e T:Addr}{cls:Value}(x:ExcS h e cls (some T)):∃o,h.get? T=some o:=by
 cases x with|traced he hc hd hsz v1 v2 hTe hT=>exact⟨_,hT⟩
theorem Bw{c:Cx}{X:List Addr}{as:bA}{h:HP}{l:List Env}{a:Addr}{o o':Obj}(h2:∀ev∈l,FrE c X as h ev)(ho:h.get? a=some o)(q:o'=o\/a∈l.filterMap (·.frame)/\∃sl,o'={o with slots:=sl}):SameO X a o o':=
 q.imp id λq=>ea1_2 (oF.mp q.1) λev he hf=>mP ((h2 ev he).there) λL' ob es m q1 _ q3 _ q5 q6=>by
  cases q1.symm.trans hf
  cases q5.symm.trans ho
  exact⟨q3,⟨es,m,q6⟩,q.2⟩
theorem yG{env₀:Env}{outer:List Env}{Y:List Addr}{s₀ s:Shared}{as as':bA}{X:List Addr}{H':AH}{e:Addr}{ts S:List Addr}{h':HP}{tk:Nat}
  (S':SR c as' (e::(ts++X)) H' s)(k':KeptX as X Y s₀.heap s.heap)(h2:∀ev∈env₀::outer,FrE c X as' s.heap ev)(ap:∀a∈e::ts,yU c as s₀.heap as' X a)
  (tc:Touch S ((env₀::outer).filterMap (·.frame)) s.heap h')(hS:∀a∈S,a∈e::ts\/s.heap.get? a=none) :
  SR c as' X H' {s with heap:=h',toks:=tk}/\KeptX as X Y s₀.heap h':=by
 have out:∀a o,s.heap.get? a=some o->a∉e::ts->∃o',h'.get? a=some o'/\(o'=o\/a∈(env₀::outer).filterMap (·.frame)/\∃sl,o'={o with slots:=sl}):=λa o ho ha=>tc.out ho λq=>(hS a q).elim ha λr=>eY (r.symm.trans ho)
 have inX:∀a,a∈X->a∈e::(ts++X):=λa q=>.tail _ (ak _ q)
 refine⟨S'.but (s':={s with heap:=h',toks:=tk}) (Z:=(e::ts)++(env₀::outer).filterMap (·.frame)) (λa o ha ho=>?_) (cq (λa ha=>⟨av X ha,(ap a ha).2.2.2⟩) λa ha=>⟨inX a (FrE.mem h2 ha).1,(FrE.mem h2 ha).2⟩) inX (λa ha _=>(S'.xs a (inX a ha)).elim λo eo=>(tc a o eo).imp λ_ q=>q.1) rfl rfl,λa o eo ha hy=>?_⟩
 ·exact ea1_2 (out a o ho λq=>ha (av _ q)) λo' e1 q=>q.elim (λq=>q▸e1) λq=>absurd (ak _ q.1) ha
 ·exact ea1_2 (k' a o eo ha hy) λo₁ e₁ s₁=>(out a o₁ e₁ λq=>(ap a q).1.elim ha λr=>eY (r.symm.trans eo)).imp λo₂ q=>⟨q.1,s₁.trans (Bw h2 e₁ q.2)⟩
theorem FT{x:Str}{j kk:Nat}{xp hp p p' pos:Pos}{b:List Stmt}{bs:List St}(C:Cok c T.gl)(hg:T.glob x=some (.exc j))(hb:SB c n T b bs) :
  S1 c n T (.Try b [.ExceptHandler (some (.Name x xp)) none [.Return (some (.Constant .none kk p)) p'] hp] [] [] pos) (.try_ bs j):=by
 refine⟨?_⟩
 intro env A s as X H ρ K R XX r hY w
 refine wpAny_Try_except (wpAny_mono (hb.run r hY w) (λf s₁ q=>?_) λy s₁ q=>?_)
 ·induction f with
  |next=>exact wpAny_execs_nil q
  |_=>exact q
 obtain⟨k,H',as',e,t,ts,rfl,e',S',k',ex,ht,ap,hn,hsub,w'⟩:=q
 obtain⟨env₀,outer,L,h1,h2,h3,h4⟩:=r.fr.step hY e' k' hn (λq=>(cn q).elim λi hi=>(S'.objs i _ hi).2.1 (.tail _ (ak _ (hY.mem _ (.head _)))))
 refine rP h1 (FrOk.fun h2) h3 h4 ex λh₂ T₂ ex₂ hT tc₂=>?_
 have hS:∀a∈T₂::e::t.toList,a∈e::ts\/s₁.heap.get? a=none:=eJ (hT.imp (λh=>.tail _ (ht _ h)) id) (eJ (.inl (.head _)) λa ha=>.inl (.tail _ (ht a (ig.mp ha))))
 have fly:∀{h h':HP},Touch (T₂::e::t.toList) ((env₀::outer).filterMap (·.frame)) s₁.heap h->ExcS h' e (.ref (c.xcls k)) (some T₂)->(∀b,b≠T₂->h'.get? b=h.get? b)->Touch (T₂::e::t.toList) ((env₀::outer).filterMap (·.frame)) s₁.heap h':=λ{h h'} tc ex' hk=>tc.trans λb o eb=>by
  by_cases hb:b=T₂
  ·exact ex'.trc.imp λo e=>⟨hb▸e,.inl (hb▸.head _)⟩
  ·exact ⟨o,(hk b hb).trans eb,.inr (.inl rfl)⟩
 refine kH ex₂ λh₃ ex₃ hk₃=>?_
 have tc₃:=fly (tc₂.mono λb q=>.tail _ q) ex₃ hk₃
 have st:c.base.StaysIn h₃:=(yG (tk:=0) S' k' h2 ap tc₃ hS).1.stays
 refine ea1_2 (C.x k (ay.mp hsub).1) λbm xk xs=>ea1_2 (C.x j (C.gl x _ (g8 hg).2.1).2) λbm' xj _=>?_
 refine wpAny_handleBy_cons (codeAny_handlers_test (uR C hg r.F.kind r.F.glob r.F.bi r.K st (.inl (C.gl x _ (g8 hg).2.1).1) ?_)) nofun
 refine c6 ex₃.obj λoe _ he hcl _=>Bq (xk.keeps st) (xj.keeps st) he hcl ((xs x j (g8 hg).2.1).trans (ay.mp hsub).2) ?_
 refine codeAny_handlers_suite (kH ex₃ λh₄ ex₄ hk₄=>wpAny_execs_cons (wpAny_Return_some (Constant_none ?_)))
 haveI q:=yG (tk:=s₁.toks) S' k' h2 ap (fly tc₃ ex₄ hk₄) hS
 exact⟨.none,H',as',e',q.1,q.2,.none,w'⟩
end
section
variable {c:Cx}{n:Nat}{T:Tb}
theorem yK{t:Expr}{ex:Ex}{body:List Stmt}{xs:List St}{pos:Pos}(h:ST c n T t ex)(hb:SB c n T body xs):S1 c n T (.While t body [] pos) (.while_ ex xs):=by
 refine⟨?_⟩
 intro env A s as X H ρ K R XX r hY w
 simp only [wF]at w
 obtain⟨k,w⟩:=w
 refine wpAny_While ?_
 have hown:∀{s':Shared} {as':bA} {H':AH},SR c as' X H' s'->∀b∈own env,∃o,s'.heap.get? b=some o:=λS b hb=>S.xs b (hY.mem b hb)
 refine codeAny_whileLoop (λm s'=>∃as' H' ρ',Ext as s.heap as'/\SR c as' X H' s'/\KeptX as X (own env) s.heap s'.heap/\FR c as' X s'.heap env T.tab ρ'/\ρ'.length=T.n/\
  whileL (λρ' H' K₁ K₂=>cz c.P (aJ c.P n) ex ρ' H' (λv H''=>mK (fk v) λt=>if t then a7 c.P (aJ c.P n) xs ρ' H'' K₁ R (λ_ _=>False)else K₂ ρ' H'') (λ_ _=>False)) m ρ' H' K) ?_ k
  ⟨as,H,ρ,.refl ..,r.S,(Kept.refl _ _ _).y _,r.F,r.len,w⟩
 clear w
 intro m s' h0
 refine gF h0 ?_
 clear h0
 intro as' H' ρ' e S kx F hl w
 induction m with
 |zero=>exact w.elim
 |succ m=>
  haveI r':Rdy c T env A n s' as' X H' ρ':=r.step hY e kx S F hl
  refine wpAny_mono (h.run (λ_ _ q=>q) r' w) (λb s₂ q=>?_) λ_ _ e=>e.none.elim
  obtain⟨H₂,as₂,e2,S2,k2,q2⟩:=q
  haveI r2:=r'.next e2 k2 S2
  have ex2:Ext as s.heap as₂:=e.transX kx (hown S) e2
  have kx2:KeptX as X (own env) s.heap s₂.heap:=kx.trans e (k2.y _)
  induction b with
  |true=>
   rw [if_pos rfl]at q2 ⊢
   refine wpAny_mono (hb.run r2 hY q2) (λf s₃ q=>?_) λ_ _ e=>e.none.elim
   induction f with
   |next=>
    refine gF q ?_
    intro ρ₃ H₃ as₃ e₃ S₃ k₃ F₃ hl₃ q₃
    exact⟨m,cW m,as₃,H₃,ρ₃,ex2.transX kx2 (hown S2) e₃,S₃,kx2.trans ex2 k₃,F₃,hl₃,q₃⟩
   |ret xv=>
    refine nU q ?_
    intro v' H₃ as₃ e₃ S₃ k₃ hv₃ q₃
    exact⟨v',H₃,as₃,ex2.transX kx2 (hown S2) e₃,S₃,kx2.trans ex2 k₃,hv₃,q₃⟩
   |_=>exact q.elim
  |false=>
   rw [if_neg (by decide)]at q2 ⊢
   exact wpAny_execs_nil ⟨ρ',H₂,as₂,ex2,S2,kx2,r2.F,hl,q2⟩
theorem wG{kvs:List (Str×Value)}{k k':Str}{x y:Value}(h:k'≠k):stored ((k',x)::kvs) k y=(k',x)::stored kvs k y:=by
 unfold stored
 simp only [List.any_cons,h,decide_false,Ax,eC,if_false]
 split<;>rfl
theorem wJ{kvs:List (Str×Value)}{k:Str}{x y:Value}(h:k∉kvs.map (·.1)):stored ((k,x)::kvs) k y=(k,y)::kvs:=by
 unfold stored
 simp only [List.any_cons,decide_true,Bool.true_or,if_true,eC]
 congr 1
 conv=>rhs;rw [<-List.map_id kvs]
 refine cb λp hp=>?_
 haveI:p.1≠k:=λe=>h (e▸bf hp)
 simp [this]
theorem rh{k:List Char}{v:V}{y:Value}{h:HP}{as:bA}{X:List Addr}(hv:VR c as X h v y){ks:List (List Char)}:∀{vs:List V} {cs:List Value},ks.length=cs.length->(ks.map toS).Nodup->VRs c as X h vs cs->
  ∃cs',stored ((ks.map toS).zip cs) (toS k) y=((dK k v ks vs).1.map toS).zip cs'/\(dK k v ks vs).1.length=cs'.length/\VRs c as X h (dK k v ks vs).2 cs'/\cs'.length<=cs.length+1:=by
 induction ks with
 |nil=>
  intro vs cs hl _ r
  cases r with
  |nil=>exact⟨[y],rfl,rfl,.cons hv .nil,aI _⟩
  |cons _ _=>cases hl
 |cons k' ks ih=>
  intro vs cs hl hn r
  cases r with
  |nil=>cases hl
  |@cons w vs x cs hx r=>
   haveI hn':=bg.mp hn
   haveI hl':=ib hl
   clear hn hl
   by_cases hk:k=k'
   ·subst hk
    haveI ed:dK k v (k::ks) (w::vs)=(k::ks,v::vs):=if_pos rfl
    rw [ed]
    refine⟨y::cs,?_,congrArg mV hl',.cons hv r,a9 _⟩
    show stored ((toS k,x)::(ks.map toS).zip cs) (toS k) y=_
    refine wJ ?_
    rw [kY (by rw [ah,hl'];exact aI _)]
    exact hn'.1
   ·haveI ed:dK k v (k'::ks) (w::vs)=(k'::(dK k v ks vs).1,w::(dK k v ks vs).2):=if_neg hk
    rw [ed]
    refine dg (ih hl' hn'.2 r) ?_
    intro cs' e1 e2 e3 e4
    exact⟨x::cs',(wG (λe=>hk (iF e).symm)).trans (congrArg _ e1),congrArg mV e2,.cons hx e3,ax e4⟩
inductive SetI(x:V)(H H':AH):V->V->Prop
 |mk {r:Nat} {k:List Char} {ks:List (List Char)} {vs:List V}:H[r]? =some (.dict ks vs)->ks.length<=az->H'=H.set r (.dict (dK k x ks vs).1 (dK k x ks vs).2)->SetI x H H' (.ref r) (.str k)
 |lst {r:Nat} {i:Int} {vs:List V}:H[r]? =some (.list vs)->0<=i/\i<vs.length->H'=H.set r (.list (vs.set i.toNat x))->SetI x H H' (.ref r) (.int i)
theorem ou{o i x:V}{H H':AH}(e:d7 o i x H=some H'):SetI x H H' o i:=by
 refine Is.of (R:=λH'=>SetI x H H' o i) ?_ e
 clear e
 cases o with
 |ref r=>
  cases i with
  |str k=>
   haveI F:∀{ob},ob=H[r]?->Is (yD r k x H ob) λH'=>SetI x H H' (.ref r) (.str k):=λ{ob} e=>by
    induction ob with
    |none=>exact trivial
    |some ob=>
     induction ob with
     |dict ks vs=>exact Is.ite λh=>.mk e.symm h rfl
     |_=>exact trivial
   exact F rfl
  |int k=>
   haveI F:∀{ob},ob=H[r]?->Is (EA r k x H ob) λH'=>SetI x H H' (.ref r) (.int k):=λ{ob} e=>by
    cases ob with
    |none=>exact trivial
    |some ob=>
     induction ob with
     |list vs=>exact Is.ite λh=>.lst e.symm h rfl
     |_=>exact trivial
   exact F rfl
  |_=>exact trivial
 |_=>exact trivial
theorem wC{A:Around}{E:Value->Shared->Prop}{s:Shared}{as:bA}{X:List Addr}{H H':AH}{o i x:V}{co ci cx:Value}{R:Unit->Shared->Prop}(S:SR c as X H s)(ho:VR c as X s.heap o co)(hi:VR c as X s.heap i ci)(hx:VR c as X s.heap x cx)(e:d7 o i x H=some H')
  (hR:∀s',SR c as X H' s'->Kept as X s.heap s'.heap->R () s'):wpAny c.M A (setItem co ci cx) R E s:=by
 replace e:=ou e
 induction e with
 |@lst r i vs hob hz e=>
  (replace e:=Eq.symm e;subst e)
  obtain⟨a,ha,hb,items,hp,rr⟩:=iR S ho hob
  cases hi.inv with
  |int u=>
  have hl:=rr.len_arr
  refine ox hp hz.1 (CQ hz.2 (kK hb)) (hl.symm▸hz.2) λh' hp' sb=>?_
  have hk:∀b o,s.heap.get? b=some o->b≠a->h'.get? b=some o:=λb o e hb=>(sb.2 b hb).trans e
  have K:=SR.kept1 (X:=X) ha hk
  refine hR _ (S.upd (s':={s with heap:=h'}) (o':=.list _) ha hk rfl rfl ⟨(aR).symm▸hb,_,hp',?_⟩) K
  rw [Array.toList_setIfInBounds]
  exact VRs.set _ (rr.keep K (.refl ..)) (hx.keep K (.refl ..))
 |@mk r k ks vs hob hz q_9=>
  subst q_9
  replace ho:=iR S ho hob
  obtain⟨a,ha,hb,hsm,cs,hd,hl,rr⟩:=ho
  cases hi
  haveI h1:=cB
  haveI h2:=dZ
  haveI hn:(ks.map toS).Nodup:=by
   refine gF hd ?_
   intro _ _ _ _ _ _ _ _ hn
   rw [kY (by simp [hl])]at hn
   exact hn
  refine wpAny_setItem_pairs (knd:=c.kd) (nR _ _) hd (λh' hd' sb=>?_) (by simp only [uh,ah];exact aa (Nat.min_le_left _ _) (aa hz h1))
  have hk:∀b o,s.heap.get? b=some o->b≠a->h'.get? b=some o:=λb o e hb=>(sb.2 b hb).trans e
  have K:=SR.kept1 (X:=X) ha hk
  refine dg (rh (k:=k) (hx.keep K (.refl ..)) hl hn (rr.keep K (.refl ..))) ?_
  intro cs' e1 e2 e3 e4
  simp only [e1]at hd'
  haveI e5:=e3.length
  exact hR _ (S.upd (s':={s with heap:=h',toks:=_}) (o':=.dict _ _) ha hk rfl rfl ⟨aa (ao e5) (aa e4 (aa (ax (aa (ao hl.symm) hz)) (aa (aC (by decide:1<=5) az) h2))),hsm,cs',hd',e2,e3⟩) K
theorem A7{o i v:Expr}{eo ei ev:Ex}{p' pos:Pos}(h1:SE c n T v ev)(h2:SE c n T o eo)(h3:SE c n T i ei):S1 c n T (.Assign [.Subscript o i p'] v pos) (.setItem eo ei ev):=by
 refine⟨?_⟩
 intro env A s as X H ρ K R XX r hY w
 simp only [r4]at w
 refine wpAny_Assign_Subscript (wpAny_mono (h1.run r w) (λx s₁ q=>?_) λ_ _ e=>e.toS r.F) (by cases v<;>rfl)
 obtain⟨vx,H₁,as₁,e1,S1,k1,hvx,w1⟩:=q
 have r1:=r.next e1 k1 S1
 refine wpAny_mono (h2.run r1 w1) (λy s₂ q=>?_) λ_ _ e=>(e.lift e1 k1).toS r.F
 obtain⟨vo,H₂,as₂,e2,S2,k2,hvo,w2⟩:=q
 have r2:=r1.next e2 k2 S2
 refine wpAny_mono (h3.run r2 w2) (λz s₃ q=>?_) λ_ _ e=>((e.lift e2 k2).lift e1 k1).toS r.F
 obtain⟨vi,H₃,as₃,e3,S3,k3,hvi,w3⟩:=q
 haveI r3:=r2.next e3 k3 S3
 refine fA (o:=d7 vo vi vx H₃) (λhs=>?_) (λH' hs=>?_)
 ·replace w3:=(hs)▸w3;exact w3.elim
 ·simp only [hs]at w3
  refine wC S3 (hvo.keep k3 e3) hvi ((hvx.keep k2 e2).keep k3 e3) hs λs' S' k'=>?_
  haveI E1:=e1.trans k1 e2
  haveI K1:=k1.trans e1 k2
  exact⟨ρ,H',as₃,E1.trans K1 e3,S',((K1.trans E1 k3).trans (E1.trans K1 e3) k').y _,r3.F.keep k' (.refl ..),r.len,w3⟩
theorem xN{M:Model}{A:Around}{E:Value->Shared->Prop}{s:Shared}{f g:Value->Sem Unit}{a b:Value}{Q:Unit->Shared->Prop}(h:wpAny M A (f a) (λ_ s₁=>wpAny M A (g b) Q E s₁) E s):wpAny M A (assignInOrder [f,g] [a,b]) Q E s:=
 assignInOrder_cons (wpAny_mono h (λ_ _ h₁=>assignInOrder_cons (wpAny_mono h₁ (λ_ _ h₂=>assignInOrder_nil h₂) λ_ _ e=>e)) λ_ _ e=>e)
structure Tgt(c:Cx)(T:Tb)(t:Expr)(tg:Nat ⊕ List Nat):Prop where
 run:∀{env:Env} {A:Around} {s:Shared} {as:bA} {X:List Addr} {H:AH} {ρ ρ':Fm} {u:V} {z:Value} {E:Value->Shared->Prop} {Q:Unit->Shared->Prop},KOk T env->ρ.length=T.n->(∀b∈own env,b∈X)->SR c as X H s->FR c as X s.heap env T.tab ρ->VR c as X s.heap u z->
  (u.tpl.isSome=true->A.handled=none)->fX ρ tg u=some ρ'->(∀s',StepF c as X H env T.tab s.heap ρ' s'->ρ'.length=T.n->Q () s')->wpAny c.M A (assign t env z) Q E s
theorem zn{x:Str}{i:Nat}{px:Pos}(hi:T.slot x=some i):Tgt c T (.Name x px) (.inl i) where
 run:=λ{env A s as X H ρ ρ' u z E Q} K hl _ S F hv _ e q=>by
  (replace e:=ai e;subst e)
  refine ea0_3 (k9 K hi) ?_
  intro h1 h2 h3
  exact wpAny_assign_Name (lK S F h1 h2 (by simp only [hl];exact h3) hv λs' st=>q s' st (by exact(aR).trans (hl)))
inductive Pair2(c:Cx)(as:bA)(X:List Addr)(h:HP)(ρ ρ':Fm)(i j:Nat):V->Value->Prop
 |mk {a:Addr} {ob:Obj} {n:Nat} {u v:V} {y z:Value}:ρ'=(ρ.set i (some u)).set j (some v)->h.get? a=some {cls:=.type "tuple",data:=.seq #[y,z] n}->VR c as X h u y->VR c as X h v z->Pair2 c as X h ρ ρ' i j (.tup [u,v]) (.ref a)
theorem JB{as:bA}{X:List Addr}{h:HP}{ρ ρ':Fm}{i j:Nat}{u:V}{z:Value}(hv:VR c as X h u z)(e:fX ρ (.inr [i,j]) u=some ρ'):Pair2 c as X h ρ ρ' i j u z:=by
 cases u with
 |tup vs=>
  replace e:=c5 e
  obtain⟨hl,e⟩:=e
  match vs,hl with
  |[a,b],_=>
   cases hv.inv with
   |@tup addr items nn t1 t2 t3 rr t5=>
    obtain⟨items⟩:=items
    cases rr with
    |cons ha rr=>
     cases rr with
     |cons hb rr=>
      cases rr
      exact .mk (ob:=default) e.symm t3 ha hb
 |_=>exact eY e
theorem sj{x y:Str}{i j kk:Nat}{px py pt:Pos}(hi:T.slot x=some i)(hj:T.slot y=some j):Tgt c T (.Tuple [.Name x px,.Name y py] kk pt) (.inr [i,j]) where
 run:=λ{env A s as X H ρ ρ' u z E Q} K hl hY S F hv hh e q=>by
  cases JB hv e with
  |@mk a _ n u v y z e1 t3 ha hb=>
   subst e1
   refine ea0_3 (k9 K hi) ?_
   intro x1 x2 x3
   refine ea0_3 (k9 K hj) ?_
   intro y1 y2 y3
   clear e hv hi hj
   refine assign_Tuple_tuple (hh rfl) ⟨_,t3,rfl,_,rfl⟩ rfl rfl λh' eb=>?_
   have g:Grown s.heap h':=λb o e=>eb b o (λq=>by rw [q]at e;exact absurd (fh e) (cm _)) e
   clear eb t3
   refine xN (wpAny_assign_Name (lK (S.grow (s':={s with heap:=h'}) g rfl rfl) (F.keep (g.kept as _) (.refl ..)) x1 x2 (by simp only [hl];exact x3) (ha.grow g) λs₂ st=>?_))
   obtain⟨S2,k2,F2⟩:=st
   refine wpAny_assign_Name (lK S2 F2 y1 y2 (by simp only [aR,hl];exact y3) ((hb.grow g).keepX (KeptX.v (Y:=own env) k2 hY) (.refl ..):VR c as X s₂.heap v z) λs₃ st=>q s₃ ⟨st.1,?_,st.3⟩ (by simp only [aR,aR];exact hl))
   exact(((g.kept as _).y _).trans (.refl ..) k2).trans (.refl ..) st.2
theorem Be{x y:Str}{i j kk:Nat}{px py pt:Pos}{f:Expr}{args:List Expr}{kws:List Keyword}{p pos:Pos}{ex:Ex}(hi:T.slot x=some i)(hj:T.slot y=some j)(h:SE c n T (.Call f args kws p) ex) :
  S1 c n T (.Assign [.Tuple [.Name x px,.Name y py] kk pt] (.Call f args kws p) pos) (.asgTup [i,j] ex):=by
 refine⟨?_⟩
 intro env A s as X H ρ K R XX r hY w
 simp only [tM]at w
 refine Assign_Tuple (wpAny_mono (h.run r w) (λv s₁ q=>?_) λ_ _ e=>e.toS r.F)
 obtain⟨vv,H₁,as₁,e1,S1,k1,hv,w1⟩:=q
 haveI r1:=r.next e1 k1 S1
 refine fA (o:=fX ρ (.inr [i,j]) vv) (λht=>?_) (λρ' ht=>?_)
 ·replace w1:=(ht)▸w1;exact w1.elim
 ·simp only [ht]at w1
  refine(sj hi hj).run r.K r.len hY.mem S1 r1.F hv (λ_=>r.a.hh) ht λs₂ st hl=>?_
  obtain⟨S2,k2,F2⟩:=st
  exact⟨ρ',H₁,as₁,e1,S2,(k1.y _).trans e1 k2,F2,hl,w1⟩
theorem Cr{o v:Expr}{eo ev:Ex}{nm:List Char}{ms:List (Str×Nat)}{ats:List Str}{f:Nat}{p' pos:Pos}(K:CK c ms ats f)(hat:toS nm∈ats)(hc:ma v=false)(h1:SE c n T v ev)(h2:SE c n T o eo):S1 c n T (.Assign [.Attribute o (toS nm) p'] v pos) (.setAttr eo nm ev):=by
 refine⟨?_⟩
 intro env A s as X H ρ Kk R XX r hY w
 simp only [rI]at w
 refine plainObj_wpAny_Assign_Attribute (wpAny_mono (h1.run r w) (λx s₁ q=>?_) λ_ _ e=>e.toS r.F) (by cases v<;>first|rfl|cases hc)
 obtain⟨vx,H₁,as₁,e1,S1,k1,hvx,w1⟩:=q
 have r1:=r.next e1 k1 S1
 refine wpAny_mono (h2.run r1 w1) (λy s₂ q=>?_) λ_ _ e=>(e.lift e1 k1).toS r.F
 obtain⟨vo,H₂,as₂,e2,S2,k2,hvo,w2⟩:=q
 haveI r2:=r1.next e2 k2 S2
 refine fA (o:=iu vo nm vx H₂) (λhs=>?_) (λH' hs=>?_)
 ·replace w2:=(hs)▸w2;exact w2.elim
 ·simp only [hs]at w2
  refine wK K hat S2 hvo (hvx.keep k2 e2) hs λs' S' k'=>?_
  haveI E1:=e1.trans k1 e2
  haveI K1:=k1.trans e1 k2
  exact⟨ρ,H',as₂,E1,S',(K1.trans E1 k').y _,r2.F.keep k' (.refl ..),r.len,w2⟩
end
section
variable {c:Cx}{n:Nat}{T:Tb}{gl:List (Str×Gl)}
theorem tO{elt:Expr}{gens:List Comprehension}{scope:Scope}{pos px:Pos}{x:Str}{l:Nat}{env:Env}:∃b,swapsWith (.ListComp elt gens scope pos) (some (.Name x px)) l env=pure b:=⟨_,rfl⟩
theorem zV{e:Expr}{x:Str}{px:Pos}{l:Nat}{env:Env}(h:ma e=false):swapsWith e (some (.Name x px)) l env=pure false:=by
 cases e<;>first|rfl|cases h
theorem BC{x y:Str}{j:Nat}{px py spos:Pos}{elt iter:Expr}{ifs:List Expr}{sc:Scope}{pos:Pos}{b i:Ex}{cond:Option Ex}{mu:Bool}{env:Env}{A:Around}{s:Shared}{as:bA}{X:List Addr}{H:AH}{ρ:Fm}{K:KS}{R:QE}{XX:XE}
  (hj:T.slot y=some j)(ok:CompF T x sc)(hns:qB iter)(hi:SE c n T iter i)
  (he:SE c n {T with names:=sc.names,tab:=(x,T.n)::T.tab,n:=T.n+1} elt b)
  (hc:(ifs=[]/\cond=none)\/∃t q,ifs=[t]/\cond=some q/\ST c n {T with names:=sc.names,tab:=(x,T.n)::T.tab,n:=T.n+1} t q)
  (r:Rdy c T env A n s as X H ρ)(hY:Own A X env)(w:s8 c.P (aJ c.P n) (.asg j (.comp mu b i cond)) ρ H K R XX)
  (hs:swapsWith (.ListComp elt [⟨.Name x px,iter,ifs,0⟩] sc pos) (some (.Name y py)) spos.line env=pure true) :
  wpAny c.M A (exec (.Assign [.Name y py] (.ListComp elt [⟨.Name x px,iter,ifs,0⟩] sc pos) spos) env) (ResS c as X s.heap T env K R) (EResS c as X s.heap env XX) s:=by
 refine ea0_3 (k9 r.K hj) ?_
 intro h1 h2 h3
 simp only [ur]at w
 rw [exec_Assign_Name_used _ _ _ _ hs]
 refine wpAny_bind (wpAny_standAt (wpAny_bind ?_))
 refine wpAny_bind (wpAny_mono (xf (Qf:=λ_ s'=>ResS c as X s.heap T env K R .next s') ok hns hi he hc r w ?_) (λ_ s' hq=>wpAny_pure (wpAny_pure hq)) λ_ _ e=>e.toS r.F)
 intro D Ca s' fC cX bC hm q
 refine gF q ?_
 intro v H' as' e S k hv p_8 F
 (haveI hl:=p_8.1;haveI q:=p_8.2)
 refine wpAny_assign_Name (lK S F h1 h2 hl hv λs'' st=>?_)
 obtain⟨S2,k2,F2⟩:=st
 have hCown:Ca∉own env:=λq=>cX (hY.mem _ q)
 haveI hCas:Ca∉as':=λq=>by
  obtain⟨i,hi⟩:=cn q
  refine ea0_3 (S.objs i _ hi) ?_
  intro _ h2 _
  exact h2 (.head _)
 obtain⟨m,hm⟩:=hm
 refine⟨m,Ns.same hm λo e=>k2 _ o e hCas hCown,λh' hs'=>?_⟩
 haveI b':But [Ca] s''.heap h':=λq o hq e=>(hs'.2 q (by exact AD (hq))).trans e
 refine⟨_,H',as',e,S2.but (s':={s'' with heap:=h'}) b' (by simpa using bC) (λ_ q=>.tail _ q) (λa ha hz=>by replace hz:=in1 hz;(replace hz:=Eq.symm hz;subst hz);exact(cX ha).elim) rfl rfl,?_,?_,by rw [aR];exact r.len,q⟩
 ·exact ((((k.more λ_=>b7).y _).trans e k2).but b' (by exact dk (fC))).less λb hb=>(vW hb).elim (λq=>.inr (q▸fC)) .inl
 ·haveI aw:p8 [Ca] env T.tab:=F2.away' (by exact hCown)
  exact(F2.keepY (b'.kept as' _) (by exact dk (.head _)) aw).narrow (Z:=[Ca]) (λb hb=>.tail _ hb) (λb hb=>by
   refine dN (hb) (λe_=>?_) λhb=>?_
   ·replace e_:=Eq.symm e_;subst e_;exact .inr (by exact .head _)
   ·exact .inl hb) aw
structure Fl(c:Cx)(T:Tb)(env:Env)(as₀:bA)(h₀:HP)(X:List Addr)(rev:Bool)(I:Addr)(v:V)(y:Value)(k:Nat)(s:Shared)(as:bA)(H:AH)(ρ:Fm):Prop where
 S:SR c as (I::X) H s
 F:FR c as (I::X) s.heap env T.tab ρ
 hl:ρ.length=T.n
 hv:VR c as (I::X) s.heap v y
 hi:ItD rev s.heap I v y k
 oi:I∉as
 E:Ext as₀ h₀ as
 K:KeptX as₀ (I::X) (own env) h₀ s.heap
theorem SR.less{c:Cx}{as:bA}{X:List Addr}{H:AH}{s:Shared}{I:Addr}(S:SR c as (I::X) H s):SR c as X H s:=
 S.turn (λb o e _ _=>e) S.stays (λ_ q=>.tail _ q) (λb hb=>S.xs b (.tail _ hb)) rfl rfl
def FI(c:Cx)(T:Tb)(env:Env)(as₀:bA)(h₀:HP)(X:List Addr)(rev:Bool)(I:Addr)(v:V)(y:Value)(items:List V)(F:V->Fm->AH->KS->Prop)(K:KS)(m:Nat)(s:Shared):Prop:=
 ∃k as H ρ,m=items.length-k/\k<=items.length/\Fl c T env as₀ h₀ X rev I v y k s as H ρ/\forL F (λH'=>je rev H' v=some items) (items.drop k) ρ H K
theorem yz{te:Expr}{tg:Nat ⊕ List Nat}{rev:Bool}{body:List Stmt}{xs:List St}{env:Env}{A:Around}{X:List Addr}{items:List V}{K:KS}{R:QE}{I:Addr}{as₀:bA}{h₀:HP}{v:V}{y:Value}{s:Shared}{as:bA}{H:AH}{ρ:Fm}{RR:Result->Shared->Prop}{Kn:KOk T env}{F:V->Fm->AH->KS->Prop}
  (ht:Tgt c T te tg)(hb:SB c n T body xs)(a:AOk c A n)(fr:EnvFr c A X as₀ h₀ env)(hY:Own A X env)(bI:c.base.get? I=none)(fI:Fr as₀ h₀ I)(iX:I∉X)
  (L:Fl c T env as₀ h₀ X rev I v y 0 s as H ρ)(w:forL F (λH'=>je rev H' v=some items) items ρ H K)
  (hF:∀{x ρ' H'} {K':KS},F x ρ' H' K'->match fX ρ' tg x with|some ρ''=>a7 c.P (aJ c.P n) xs ρ'' H' K' R (λ_ _=>False)|none=>False)
  (hR:∀f s',ResS c as₀ X h₀ T env K R f s'->RR (.ok f) s') :
  codeAny c.M A (.forLoop te (.ref I) body [] env) RR s:=by
 have iO:I∉own env:=λq=>iX (hY.mem _ q)
 have lessI:∀b,2<=(I::X).count b->2<=X.count b\/Fr as₀ h₀ b:=Kr (.inr fI) λ_=>.inl
 refine codeAny_forLoop_any (FI c T env as₀ h₀ X rev I v y items F K) (λm s h0=>?_) (items.length-0) ⟨0,as,H,ρ,rfl,aQ _,L,w⟩
 clear L w
 refine Il h0 λk as H ρ q_0 hk L w=>?_
 clear h0
 subst q_0
 have aw:p8 [I] env T.tab:=L.F.away' iO
 refine fA (o:=items[k]?) (λhx=>?_) λu hx=>?_
 ·have hkl:items.length=k:=lY (wY.mp hx) hk
  replace w:=(CT (ao hkl))▸w
  exact Ce a.hh L.S (.head _) L.hv L.hi w.1 hkl λh' tk b=>wpAny_execs_nil (hR _ _ ⟨ρ,H,as,L.E,L.S.but (s':={s with heap:=h',toks:=tk}) b (dk ⟨.head _,bI⟩) (λ_ q=>.tail _ q) (λa ha hz=>absurd (in1 hz▸ha) iX) rfl rfl,(L.K.but b (dk fI)).less lessI,(L.F.keepY (b.kept as _) (dk (.head _)) aw).narrow (Z:=[I]) (λb hb=>.tail _ hb) (eJ (.inr (.head _)) λb hb=>.inl hb) aw,L.hl,w.2⟩)
 ·have hlt:=(ae.mp hx).1
  rw [oY hx]at w
  refine BJ a.hh L.S (.head _) bI L.hv L.hi w.1 hx λz h₁ tk₁ b₁ hu₁ hv₁ hi₁ S₁=>?_
  refine FK hi₁.cls ?_
  haveI F₁:=L.F.keepY (b₁.kept as _) (dk (.head _)) aw
  haveI K₁:=L.K.but b₁ (dk fI)
  haveI w2:=hF w.2
  refine fA (o:=fX ρ tg u) (λhst=>?_) (λρ₂ hst=>?_)
  ·replace w2:=(hst)▸w2;exact w2.elim
  ·rw [hst]at w2
   refine ht.run Kn L.hl (λb hb=>.tail _ (hY.mem b hb)) S₁ F₁ hu₁ (λ_=>a.hh) hst λs₂ st hl₂=>?_
   obtain⟨S₂,k₂,F₂⟩:=st
   haveI K₂:KeptX as₀ (I::X) (own env) h₀ s₂.heap:=K₁.trans L.E k₂
   refine wpAny_mono (hb.run ⟨a,S₂,F₂,Kn,hl₂,(fr.step hY L.E (K₂.less lessI) (F₂.ns.imp λ_ h=>h.1) F₂.lout).grow (.refl _) λb=>b7⟩ hY.more w2) (λf s₃ q=>?_) λ_ _ e=>e.none.elim
   haveI hI₂:ItD rev s₂.heap I v y (k+1):=hi₁.at λo e hc=>k₂.get e L.oi iO hc
   haveI hown₂:∀b∈own env,∃o,s₂.heap.get? b=some o:=λb hb=>S₂.xs b (.tail _ (hY.mem b hb))
   induction f with
   |next=>exact gF q λρ₃ H₃ as₃ e₃ S₃ k₃ F₃ hl₃ q₃=>⟨items.length-(k+1),Hb hlt (cW k),k+1,as₃,H₃,ρ₃,rfl,hlt,⟨S₃,F₃,hl₃,(hv₁.keepX (KeptX.v (Y:=own env) k₂ λb hb=>.tail _ (hY.mem b hb)) (.refl ..)).keepX (k₃.v λb hb=>.tail _ (hY.mem b hb)) e₃,hI₂.at λo e hc=>k₃.get e L.oi iO hc,ea1_2 hI₂.here λo e _=>e₃.out e L.oi,L.E.transX K₂ hown₂ e₃,K₂.trans L.E k₃⟩,q₃⟩
   |ret xv=>exact nU q λv' H₃ as₃ e₃ S₃ k₃ hv₃ q₃=>hR _ _ ⟨v',H₃,as₃,L.E.transX K₂ hown₂ e₃,S₃.less,(K₂.trans L.E k₃).less lessI,hv₃.frames λb _ _ hb q=>hb (.tail _ q),q₃⟩
   |_=>exact q.elim
theorem rN{te:Expr}{tg:Nat ⊕ List Nat}{rev:Bool}{body:List Stmt}{xs:List St}{env:Env}{A:Around}{X:List Addr}{items:List V}{K:KS}{R:QE}{v:V}{y:Value}{s s₁:Shared}{as as₁:bA}{H H₁:AH}{ρ:Fm}{o:Obj}{tk:Nat}{F:V->Fm->AH->KS->Prop}
  (ht:Tgt c T te tg)(hb:SB c n T body xs)(r:Rdy c T env A n s as X H ρ)(hY:Own A X env)(e1:Ext as s.heap as₁)(S1:SR c as₁ X H₁ s₁)(k1:Kept as X s.heap s₁.heap)(hv:VR c as₁ X s₁.heap v y)
  (hit:ItD rev (s₁.heap.push o) s₁.heap.objs.size v y 0)(w:forL F (λH'=>je rev H' v=some items) items ρ H₁ K)
  (hF:∀{x ρ' H'} {K':KS},F x ρ' H' K'->match fX ρ' tg x with|some ρ''=>a7 c.P (aJ c.P n) xs ρ'' H' K' R (λ_ _=>False)|none=>False){RR:Result->Shared->Prop}(hR:∀f s',ResS c as X s.heap T env K R f s'->RR (.ok f) s') :
  codeAny c.M A (.forLoop te (.ref s₁.heap.objs.size) body [] env) RR {s₁ with heap:=s₁.heap.push o,toks:=tk}:=by
 haveI hfI:s₁.heap.get? s₁.heap.objs.size=none:=db _
 generalize s₁.heap.objs.size=I at hit hfI ⊢
 haveI g:Grown s₁.heap (s₁.heap.push o):=.push _ _
 haveI hX':∀b∈I::X,b∈X\/s₁.heap.get? b=none:=eJ (.inr hfI) λ_ hb=>.inl hb
 exact yz (Kn:=r.K) ht hb r.a r.fr hY (S1.base_none hfI) (k1.fr hfI) (S1.not_x hfI) (as₀:=as) (h₀:=s.heap) ⟨S1.opens (s':={s₁ with heap:=s₁.heap.push o,toks:=tk}) g hX' (eJ (hit.here.imp λ_ e=>e.1) λb hb=>(S1.xs b hb).imp λ_ e=>g _ _ e) rfl rfl,(r.F.keep k1 e1).opens g (λb hb=>.tail _ hb) hX',r.len,hv.opens g hX',hit,S1.not_as hfI,e1,((k1.trans e1 (g.kept as₁ _)).more λ_=>b7).y _⟩ w hF hR
theorem Ef{te:Expr}{tg:Nat ⊕ List Nat}{pos:Pos}{iter:Expr}{ex:Ex}{body:List Stmt}{xs:List St}(ht:Tgt c T te tg)(hns:qB iter)(h:SE c n T iter ex)(hb:SB c n T body xs) :
  S1 c n T (.For te iter body [] pos) (.forIn false tg ex xs):=by
 refine⟨?_⟩
 intro env A s as X H ρ K R XX r hY w
 simp only [pM]at w
 refine wpAny_For (wpAny_mono (h.run r w) (λy s₁ q=>?_) λ_ _ e=>e.toS r.F) (lZ hns env)
 obtain⟨v,H₁,as₁,e1,S1,k1,hv,items,hsrc,hsz,w⟩:=q
 exact sH S1 hv hsrc λo hit=>rN (rev:=false) (tk:=s₁.toks) ht hb r hY e1 S1 k1 hv hit w (λh=>h) λf s' q=>q
theorem zA{P:Prog}{C:Calls}{e:Ex}{ρ:Fm}{H:AH}{W:QE}{X:XE}:fR P C [e] ρ H (λvs H'=>W (vs.headD .none) H') X=cz P C e ρ H W X:=rfl
theorem wq{te:Expr}{tg:Nat ⊕ List Nat}{p p' pos:Pos}{g:Str}{e:Expr}{ex:Ex}{body:List Stmt}{xs:List St}(C:Cok c T.gl)(hg:T.glob g=some (.ty "reversed"))(ht:Tgt c T te tg)(h:qz c n T [e] [ex])(hb:SB c n T body xs) :
  S1 c n T (.For te (.Call (.Name g p) [e] [] p') body [] pos) (.forIn true tg ex xs):=by
 refine⟨?_⟩
 intro env A s as X H ρ K R XX r hY w
 simp only [pM]at w
 haveI e1:=C.gl g _ (g8 hg).2.1
 refine wpAny_For (wpAny_Call_Name_kw (jj C hg r (.inr e1) ?_)) (λ_=>rfl)
 rw [<-zA]at w
 refine PySem.callWith_type (m5 h) (wpAny_mono (fZ h r w) (λa s₁ q=>?_) λ_ _ e=>e.toS r.F)
 obtain⟨hk,vs,H₁,as₁,e1,S1,k1,hvs,hl,items,hsrc,hsz,w⟩:=q
 simp only [hk]
 refine c6 (t0 hvs hl) ?_
 intro v y e2 hy hv
 subst e2
 rw [hy]
 exact xu hv hsrc λo tk hit=>IV (s:={s₁ with heap:=s₁.heap.push o,toks:=tk}) hit (rN ht hb r hY e1 S1 k1 hv hit w (λh=>h) λf s' q=>q)
theorem lr{st:Stmt}{x:St}{l:Nat}(h:S1 c n T st x):SS c n T st (iM T l x):=by
 refine⟨?_⟩
 intro env A s as X H ρ K R XX r hY w
 exact wpAny_mono (h.run r hY w) (λ_ _ q=>q) λ_ _ e=>e
theorem zx(C:Cok c gl)(sc:SC c n)(hf:∀x f,gl.lookup x=some (.fn f)->∃fn,c.P.fns f=some fn){k:Nat}{x:Str}{px pos:Pos}{i:Nat}(hg:T.gl=gl)(h1:T.slot x=some i)(v:Expr) :
  Is (cE k T v) λe=>S1 c n T (.Assign [.Name x px] v pos) (.asg i e):=by
 have he:=uE C sc hf k hg v
 have F:ma v=false->Is (cE k T v) λe=>S1 c n T (.Assign [.Name x px] v pos) (.asg i e):=λhc=>he.imp λ_ h=>⟨λr hY w=>yR h1 h.se r hY w (zV hc)⟩
 cases v with
 |ListComp elt gens scope pos'=>
  refine Is.to λex h=>⟨λ{env} {A s as X H ρ K R XX} r hY w=>?_⟩
  obtain⟨b,hb⟩:=tO (elt:=elt) (gens:=gens) (scope:=scope) (pos:=pos') (px:=px) (x:=x) (l:=pos.line) (env:=env)
  induction b with
  |false=>exact yR h1 (he.of h).se r hY w hb
  |true=>
   cases k with
   |zero=>exact eY h
   |succ k=>
    cases(ut λa=>uE C sc hf k (a.trans hg)).of h with
    |mk ok hns hi he' hc=>exact BC h1 ok hns hi he' hc r hY w hb
 |SetComp elt gens scope pos'=>cases k<;>exact trivial
 |DictComp elt elt' gens scope pos'=>cases k<;>exact trivial
 |_=>exact F rfl
theorem vL{o:Option (List (List St))}{R:List (List St)->Prop}{S:List St->Prop}(h:Is o R)(k:∀l,R l->S l.flatten):Is (mQ o) S:=by
 induction o with
 |none=>exact trivial
 |some l=>exact k l h
inductive Tgt2R(T:Tb):List Expr->List Nat->Prop
 |mk {x y:Str} {px py:Pos} {i j:Nat}:T.slot x=some i->T.slot y=some j->Tgt2R T [.Name x px,.Name y py] [i,j]
theorem va(T:Tb)(es:List Expr):Is (twoL (xt T) es) (Tgt2R T es):=by
 rcases es with _|⟨a,_|⟨b,_|_⟩⟩
 ·exact trivial
 ·exact trivial
 ·refine (ng a).bind λx h1=>(ng b).bind λy h2=>Is.self.bind λi h3=>Is.self.map λj h4=>?_
  obtain⟨_,rfl⟩:=h1
  obtain⟨_,rfl⟩:=h2
  exact .mk h3 h4
 ·exact trivial
theorem BE(t:Expr):Is (J8 T t) (Tgt c T t):=by
 cases t with
 |Name x p=>exact Is.self.map λ_ h1=>zn h1
 |Tuple es k p=>exact(va T es).map λ_ h=>by induction h with|mk h3 h4=>exact sj h3 h4
 |_=>exact trivial
theorem Aq{f:Expr}(h:zw T f=true):∃g p,f=.Name g p/\T.glob g=some (.ty "reversed"):=by
 haveI k:Is (AA f) λx=>(T.glob x).any (λg=>BF g==some "reversed")=true->∃g p,f=.Name g p/\T.glob g=some (.ty "reversed"):=(ng f).imp λx e=>e.elim λp e q=>by
  refine⟨x,p,e,?_⟩
  refine fA (o:=T.glob x) (λh2=>?_) (λg h2=>?_)
  ·rw [h2];rw [h2]at q;exact nomatch q
  ·rw [h2];rw [h2]at q;exact congrArg _ ((xF g).of (eq_of_beq q))
 unfold zw at h
 refine fA (o:=AA f) (λh1=>?_) (λx h1=>?_)
 ·rw [h1]at h;exact nomatch h
 ·rw [h1]at h;exact k.of h1 h
theorem FD{r:Expr->Option Ex}{t:Expr}{tg:Nat ⊕ List Nat}{body:List Stmt}{xs:List St}{pos:Pos}(C:Cok c T.gl)(ihe:EI c n T r)(ht:Tgt c T t tg)(hb:SB c n T body xs)(it:Expr) :
  Is (cIt r T it) λq=>S1 c n T (.For t it body [] pos) (.forIn q.1 tg q.2 xs):=by
 have F:∀e,Is ((r e).map λx=>(false,x)) λq=>S1 c n T (.For t e body [] pos) (.forIn q.1 tg q.2 xs):=λe=>(ihe e).map λ_ h=>Ef ht h.nset h.se hb
 cases it with
 |Call f args kws p=>
  refine Is.ite2 (λhr=>?_) λ_=>F _
  induction kws with
  |cons _ _=>exact trivial
  |nil=>
   rcases args with _|⟨e,_|_⟩
   ·exact trivial
   ·refine (ihe e).map λ_ h=>?_
    obtain⟨g,p',rfl,hg⟩:=Aq hr
    exact wq C hg ht (.cons ⟨h.se,h.ns⟩ .nil) hb
   ·exact trivial
 |_=>exact F _
theorem B8{r:Expr->Option Ex}{kk:Nat}{pt pos:Pos}(ihe:EI c n T r)(es:List Expr)(v:Expr):Is (Dr r T es v) (S1 c n T (.Assign [.Tuple es kk pt] v pos)):=by
 cases v with
 |Call f a k p=>exact(va T es).bind λ_ h1=>(ihe _).map λ_ h5=>by induction h1 with|mk h3 h4=>exact Be h3 h4 h5.se
 |_=>exact trivial
theorem EM(C:Cok c gl)(sc:SC c n)(hf:∀x f,gl.lookup x=some (.fn f)->∃fn,c.P.fns f=some fn){k:Nat}{pos:Pos}(hg:T.gl=gl)(t v:Expr):Is (Hw (cE k T) T t v pos.line) (SS c n T (.Assign [t] v pos)):=by
 have ihe:=uE C sc hf k hg
 cases t with
 |Name x px=>exact Is.self.bind λ_ h1=>(zx C sc hf hg h1 v).map λ_ h=>lr h
 |Tuple es kk pt=>exact(B8 ihe es v).map λ_ h=>lr h
 |Subscript o i pp=>exact(ihe v).bind λ_ h1=>(ihe o).bind λ_ h2=>(ihe i).map λ_ h3=>lr (A7 h1.se h2.se h3.se)
 |Attribute o name pp=>
  subst hg
  exact Is.nite λhc=>(ihe v).bind λ_ h2=>(sy ihe o name).map λ_ h=>by cases h with|mk hx hat hok h1=>exact lr (Cr (C.cl _ _ _ _ hx) hat hc h2.se h1.se)
 |_=>exact trivial
inductive RzR(T:Tb):Option Expr->Option Expr->Nat->Prop
 |mk {x m:Str} {p mp cp:Pos} {kk j:Nat}:T.glob x=some (.exc j)->RzR T (some (.Call (.Name x p) [.Constant (.str m) kk mp] [] cp)) none j
theorem Hr(e cause:Option Expr):Is (xP T e cause) (RzR T e cause):=by
 induction cause with
 |some _=>exact trivial
 |none=>
  induction e with
  |none=>exact trivial
  |some e=>
   cases e with
   |Call f args kws cp=>
    induction kws with
    |cons _ _=>exact trivial
    |nil=>
     rcases args with _|⟨a,_|_⟩
     ·exact trivial
     ·refine (yn a).bind λm h1=>(ng f).bind λx h2=>Is.self.bind λg h3=>(vm g).imp λ_ h4=>?_
      obtain⟨_,_,rfl⟩:=h1
      obtain⟨_,rfl⟩:=h2
      subst h4
      exact .mk h3
     ·exact trivial
   |_=>exact trivial
theorem En(C:Cok c T.gl){body:List Stmt}{bs:List St}{pos:Pos}(hb:SB c n T body bs)(hd:ExceptHandler) :
  Is (cHd T hd) λj=>S1 c n T (.Try body [hd] [] [] pos) (.try_ bs j):=by
 obtain⟨t,nm,b,p⟩:=hd
 induction nm with
 |some _=>exact trivial
 |none=>
  induction t with
  |none=>exact trivial
  |some t=>
   refine(ng t).bind λx h1=>Is.self.bind λg h2=>(vm g).bind λj h3=>(EP b).map λ_ h=>?_
   obtain⟨_,rfl⟩:=h1
   obtain⟨k,p',p'',rfl⟩:=h
   subst h3
   exact FT C h2 hb
theorem Jp(k:Nat):∀{c:Cx},Cok c gl->SC c n->(∀x f,gl.lookup x=some (.fn f)->∃fn,c.P.fns f=some fn)->∀{T:Tb},T.gl=gl->∀st,Is (cS k T st) (SS c n T st):=by
 induction k with
 |zero=>exact λ_ _ _ _ _ _=>trivial
 |succ k ih=>
  intro c C sc hf T hg st
  have ihb:∀b:List Stmt,Is (mQ (i8 (cS k T) b)) (SB c n T b):=λb=>vL (li (ih C sc hf hg) b) λ_ q=>C4 q
  have ihe:=uE C sc hf k hg
  clear ih
  cases st with
  |Assign ts v pos=>
   rcases ts with _|⟨t,_|_⟩
   ·exact trivial
   ·exact EM C sc hf hg t v
   ·exact trivial
  |While t body els pos=>
   induction els with
   |nil=>exact(ihe t).bind λ_ h1=>(ihb body).map λ_ h2=>lr (yK h1.st h2)
   |cons _ _=>exact trivial
  |Expr v pos=>exact Is.nite λhc=>(ihe v).map λ_ h1=>lr (Bn hc h1.se)
  |If t a b pos=>exact(ihe t).bind λ_ h1=>(ihb a).bind λ_ h2=>(ihb b).map λ_ h3=>lr (Ik h1.st h2 h3)
  |For t it body els pos=>
   induction els with
   |nil=>exact(BE t).bind λtg h1=>Is.self.bind λq h2=>(ihb body).map λxs h3=>lr ((FD (hg▸C) ihe h1 h3 it).of h2)
   |cons _ _=>exact trivial
  |Return v p=>
   induction v with
   |some e=>exact(ihe e).map λ_ h1=>El h1.se
   |none=>exact BK
  |Pass p=>exact BR
  |Raise a b p=>exact(Hr a b).map λ_ h=>by induction h with|mk hx=>exact⟨λr hY w=>(zq (hg▸C) hx).run r hY w⟩
  |Try body hs els fin pos=>
   induction els with
   |cons _ _=>exact trivial
   |nil=>
    induction fin with
    |cons _ _=>exact trivial
    |nil=>
     rcases hs with _|⟨hd,_|_⟩
     ·exact trivial
     ·exact (ihb body).bind λ_ h1=>(En (hg▸C) h1 hd).map λ_ h2=>lr h2
     ·exact trivial
  |_=>exact trivial
theorem Eb(C:Cok c gl)(sc:SC c n)(hf:∀x f,gl.lookup x=some (.fn f)->∃fn,c.P.fns f=some fn){k:Nat}{T:Tb}{b:List Stmt}{sts:List St}(hg:T.gl=gl)(h:KH k T b=some sts):SB c n T b sts:=
 (vL (li (Jp k C sc hf hg) b) λ_ q=>C4 q).of h
end
theorem rc{prog:Program}{w:World}{A:Around}{R:Result->Shared->Prop}{s:Shared}{name qual:Str}{params:Arguments}{body:List Stmt}{scope:Scope}
  {pm cd doc:Value}{a:Addr}{o:Obj}{args:List Value}{binds:List (Str×Value)}
  (hroom:A.depth<recursionLimit)(ho:s.heap.get? a=some o)(hdata:o.data=.func (methDef name qual params body scope pm cd doc))(hlim:s.heap.NoLimit)(hcd:s.heap.CodeRec cd qual)
  (hbind:bindArgs (methDef name qual params body scope pm cd doc) ⟨args,[]⟩=pure binds)
  (hkind:∀x∈binds,scope.names.lookup x.1=some .local\/(scope.names.lookup x.1=some .cell/\((cellsFrom (s.heap.objs.size+1) scope.names []).lookup x.1).isSome=true))
  (h:∀h₁ tk,PyProof.Rows.Fr s.heap s.heap.objs.size h₁ (bindL (envOfC qual scope s.heap.objs.size a cd).kindOf binds λ_=>none)->
   Cl s.heap.objs.size (cellsFrom (s.heap.objs.size+1) scope.names []) h₁ (bindC (envOfC qual scope s.heap.objs.size a cd).kindOf binds λ_=>none)->
   wpAny (model prog w) (A.deeper (envOfC qual scope s.heap.objs.size a cd)) (execs body (envOfC qual scope s.heap.objs.size a cd))
    (λf s'=>R (.ok (.ret (match f with|.ret v=>v|_=>.none))) s')
    (λe s'=>wpAny (model prog w) (A.deeper (envOfC qual scope s.heap.objs.size a cd)) (leaving (envOfC qual scope s.heap.objs.size a cd) e)
     (λ_ s''=>R (.error e) s'') (λe' s''=>R (.error e') s'') s')
    {s with heap:=h₁,toks:=tk})
  (hco:scope.isCoroutine=false)(hgen:scope.isGenerator=false)(hk:scope.kind=.function) :
  codeAny (model prog w) A (.call (.ref a) ⟨args,[]⟩) R s:=by
 refine codeAny_call_cells (fd:=methDef name qual params body scope pm cd doc) hroom ho hdata hlim hcd rfl hbind rfl hkind (λs₁ X=>?_) hco hgen hk
 refine d0 X.done ?_
 intro h₁ tk q_3 _
 subst q_3
 exact h h₁ tk ⟨X.toInCall.ns,X.toInCall.keep,X.toInCall.fresh⟩ ⟨X.cell,X.apart,X.above⟩
set_option genInjectivity false in
structure FOk(c:Cx)(gl:List (Str×Gl))(f:Nat)(fn:Fn) where
 name:Str
 qual:Str
 params:Arguments
 body:List Stmt
 scope:Scope
 pm:Value
 cd:Value
 doc:Value
 ps:List Str
 T:Tb
 k:Nat
 data:c.fdat f=methDef name qual params body scope pm cd doc
 code:c.base.CodeRec cd qual
 hgl:T.gl=gl
 names:T.names=scope.names
 hn:T.n=fn.arity+fn.extra
 hc:KH k T body=some fn.body
 bind:∀xs:List Value,xs.length=fn.arity->bindArgs (methDef name qual params body scope pm cd doc) ⟨xs,[]⟩=pure (ps.zip xs)
 psl:ps.length=fn.arity
 psn:ps.Nodup
 psk:∀x∈ps,scope.names.lookup x=some .local\/scope.names.lookup x=some .cell
 tabn:(T.tab.map (·.2)).Nodup
 tabp:∀x i,T.tab.lookup x=some i->i<fn.arity->ps[i]? =some x
 keys:(scope.names.map (·.1)).Nodup
 nofree:∀p∈scope.names,p.2≠.free
 kind:scope.kind=.function
 co:scope.isCoroutine=false
 gen:scope.isGenerator=false
theorem tK(names:List (Str×NameKind)):∀(n:Nat) (acc:List (Str×Addr)),((cellsFrom n names acc).map (·.1)).Perm (((names.filter (λp=>p.2==.cell)).map (·.1))++acc.map (·.1)):=by
 induction names with
 |nil=>exact λ_ _=>.refl _
 |cons p r ih=>
  intro n acc
  obtain⟨x,k⟩:=p
  dsimp only [cellsFrom]
  by_cases hk:(k==NameKind.cell)=true
  ·rw [if_pos hk,cM (p:=λp:Str×NameKind=>p.2==NameKind.cell) hk]
   exact(ih (n+1) ((x,n)::acc)).trans L3
  ·rw [if_neg hk,dL (p:=λp:Str×NameKind=>p.2==NameKind.cell) hk]
   exact ih n acc
theorem nY(names:List (Str×NameKind)):∀(n:Nat) (acc:List (Str×Addr)) (x:Str),((x,NameKind.cell)∈names\/(∃a,acc.lookup x=some a))->∃a,(cellsFrom n names acc).lookup x=some a:=by
 induction names with
 |nil=>exact λ_ _ _ h=>h.elim (λh=>nomatch h) id
 |cons p r ih=>
  intro n acc x h
  obtain⟨y,k⟩:=p
  dsimp only [cellsFrom]
  by_cases hk:(k==NameKind.cell)=true
  ·rw [if_pos hk]
   refine ih _ _ _ ?_
   by_cases hxy:x=y
   ·exact .inr ⟨n,by rw [bh,beq_iff_eq.mpr hxy]⟩
   ·exact h.imp (λh=>dN h (λe=>absurd (congrArg qT e) hxy) id) λh=>h.imp λa h=>by simp only [bh,beq_eq_false_iff_ne.mpr hxy];exact h
  ·rw [if_neg hk]
   exact ih _ _ _ (h.imp (λh=>dN h (λe=>absurd (beq_iff_eq.mpr (congrArg jD e).symm) hk) id) id)
theorem oA{α β:Type}[BEq α][LawfulBEq α]{l:List (α×β)}(hn:(l.map (·.1)).Nodup){p:α×β}(h:p∈l):l.lookup p.1=some p.2:=by
 induction l with
 |nil=>exact nomatch h
 |cons q r ih=>
  haveI hn:=bg.mp hn
  rw [bh]
  refine dN h (λe=>?_) λh=>?_
  ·rw [e,BEq.rfl]
  ·rw [beq_eq_false_iff_ne.mpr λe:p.1=q.1=>hn.1 (aG.mpr ⟨p,h,e⟩)]
   exact ih hn.2 h
theorem AR{α:Type}{l:List (α×Nat)}(hn:(l.map (·.2)).Nodup){x y:α}{i:Nat}(h1:(x,i)∈l)(h2:(y,i)∈l):x=y:=by
 induction l with
 |nil=>exact nomatch h1
 |cons q r ih=>
  haveI hn:=bg.mp hn
  refine dN h1 (λe1=>?_) λh1=>?_
  ·exact dN h2 (λe2=>congrArg qT (e1.trans e2.symm)) λh2=>absurd (aG.mpr ⟨_,h2,(congrArg jD e1:i=q.2)⟩) hn.1
  ·exact dN h2 (λe2=>absurd (aG.mpr ⟨_,h1,(congrArg jD e2:i=q.2)⟩) hn.1) λh2=>ih hn.2 h1 h2
section
variable {kindOf:Str->Option NameKind}{ps:List Str}{x:Str}
theorem sF(h:x∉ps):∀{xs:List Value} {m:Str->Option Value},bindL kindOf (ps.zip xs) m x=m x:=by
 induction ps with
 |nil=>exact rfl
 |cons p ps ih=>
  intro xs m
  induction xs with
  |nil=>exact rfl
  |cons y xs=>
   refine(ih (λe=>h (.tail _ e))).trans ?_
   by_cases hk:kindOf p=some .local
   ·rw [if_pos hk];exact if_neg λe:x=p=>h (e▸.head _)
   ·rw [if_neg hk]
theorem xV(hn:ps.Nodup):∀{xs:List Value} {m:Str->Option Value} {i:Nat} {y:Value},ps[i]? =some x->xs[i]? =some y->kindOf x=some .local->bindL kindOf (ps.zip xs) m x=some y:=by
 induction ps with
 |nil=>exact λh=>eY h
 |cons p ps ih=>
  have hn:=bg.mp hn
  intro xs m i y h1 h2 hk
  cases xs with
  |nil=>exact eY h2
  |cons z xs=>
   induction i with
   |zero=>
    (replace h1:=ai h1;(replace h1:=Eq.symm h1;subst h1))
    (replace h2:=ai h2;subst h2)
    refine(sF hn.1).trans ?_
    rw [if_pos hk]
    exact if_pos rfl
   |succ i=>exact ih hn.2 h1 h2 hk
theorem rC(h:x∉ps):∀{xs:List Value} {m:Str->Option Value},bindC kindOf (ps.zip xs) m x=m x:=by
 induction ps with
 |nil=>exact rfl
 |cons p ps ih=>
  intro xs m
  induction xs with
  |nil=>exact rfl
  |cons y xs=>
   refine(ih (λe=>h (.tail _ e))).trans ?_
   by_cases hk:kindOf p=some .local
   ·rw [if_pos hk]
   ·rw [if_neg hk];exact if_neg λe:x=p=>h (e▸.head _)
theorem xT(hn:ps.Nodup):∀{xs:List Value} {m:Str->Option Value} {i:Nat} {y:Value},ps[i]? =some x->xs[i]? =some y->kindOf x≠some .local->bindC kindOf (ps.zip xs) m x=some y:=by
 induction ps with
 |nil=>exact λh=>eY h
 |cons p ps ih=>
  have hn:=bg.mp hn
  intro xs m i y h1 h2 hk
  cases xs with
  |nil=>exact eY h2
  |cons z xs=>
   induction i with
   |zero=>
    (replace h1:=ai h1;(replace h1:=Eq.symm h1;subst h1))
    (replace h2:=ai h2;subst h2)
    refine(rC hn.1).trans ?_
    rw [if_neg hk]
    exact if_pos rfl
   |succ i=>exact ih hn.2 h1 h2 hk
end
theorem ACk.deep{c:Cx}{A:Around}{n:Nat}{env:Env}(a:ACk c A (n+1)):AOk c (A.deeper env) n:=⟨⟨a.hh,by have:=a.hd;simp only [Around.deeper];exact fp this (by simp+arith only),by have:=a.hu;simp only [Around.deeper];exact fp this (by simp+arith only)⟩,by have:=a.hd;simp only [Around.deeper];exact fp this (by simp+arith only),by have:=a.hu;simp only [Around.deeper];exact fp this (by simp+arith only)⟩
theorem wm{h:HP}{b:Addr}(hb:h.objs.size<=b):h.get? b=none:=fA (o:=h.get? b) id λ_ e=>absurd (fh e) (gV.mpr hb)
theorem sq{vs:List V}{m i:Nat}{v:V}(e:((vs.map some++bH m none)[i]?).join=some v):i<vs.length/\vs[i]? =some v:=by
 by_cases hi:i<(vs.map some).length
 ·rw [bl hi,aO]at e
  refine⟨(ah _)▸hi,?_⟩
  refine fA (o:=vs[i]?) (λhq=>?_) (λv' hq=>?_)
  ·rw [hq];rw [hq]at e;exact eY e
  ·rw [hq];rw [hq]at e;exact e
 ·rw [cP (gV.mp hi),List.getElem?_replicate]at e
  split at e<;>exact eY e
theorem ul{P:Addr->Prop}{env:Env}(h:P env.locals)(k:∀p∈env.cells,P p.2):∀b∈own env,P b:=eJ h (Hc.mpr k)
theorem ry{env:Env}:∀b∈iA env,b∈own env:=eJ (.head _) λ_ h=>h
theorem Ci{env:Env}{X:List Addr}{L:Addr}(h:env.locals=L):2<=(iA env++X).count L:=by
 rw [<-h,qU]
 exact aa (by rw [mU,mU];exact bw 2 _) (aq _ _)
theorem Bo{c:Cx}{n:Nat}{gl:List (Str×Gl)}(C:Cok c gl)(hf:∀x f,gl.lookup x=some (.fn f)->∃fn,c.P.fns f=some fn)(ok:∀f fn,c.P.fns f=some fn->Nonempty (FOk c gl f fn))(sc:SC c n):SC c (n+1):=by
 refine⟨?_⟩
 intro f fn A s as X H vs xs Q XX hfn a fr S hvs w
 obtain⟨K⟩:=ok f fn hfn
 simp only [nh,hfn]at w
 refine cO (w) λhlen w=>?_
 refine ea1_2 (C.fobj f fn hfn) ?_
 intro o ho hdata
 rw [K.data]at hdata
 haveI hxl:xs.length=fn.arity:=by rw [<-hvs.length];exact hlen
 refine wpAny_call (rc (by haveI:=a.hd;exact fp this (by simp+arith only)) (S.stays _ _ ho) hdata (C.nolim.keeps S.stays) (K.code.keeps S.stays) (K.bind xs hxl) (λx hx=>?_) (λh₁ tk F0 Cl0=>?_) K.co K.gen K.kind)
 ·exact (K.psk _ (uj hx).1).imp id λq=>⟨q,c8.mpr (nY K.scope.names (s.heap.objs.size+1) [] x.1 (.inl (mem_of_lookup q)))⟩
 ·haveI hfL:s.heap.get? s.heap.objs.size=none:=db _
  generalize hL:s.heap.objs.size=L at F0 Cl0 hfL ⊢
  generalize henv:envOfC K.qual K.scope L (c.fad f) K.cd=env at F0 Cl0 ⊢
  haveI ecells:env.cells=cellsFrom (L+1) K.scope.names []:=by rw [<-henv];rfl
  have eloc:env.locals=L:=by rw [<-henv];rfl
  have ekind:∀x,env.kindOf x=K.scope.names.lookup x:=λx=>by rw [<-henv];rfl
  haveI hcn:((cellsFrom (L+1) K.scope.names []).map (·.1)).Nodup:=by
   refine(tK K.scope.names (L+1) []).symm.nodup ?_
   simp only [CU,aA]
   exact(He.map _).nodup K.keys
  haveI habove:∀p∈cellsFrom (L+1) K.scope.names [],L<p.2:=λp hp=>Cl0.above p.1 p.2 hp
  have hfresh:∀b,L<=b->s.heap.get? b=none:=λb hb=>wm (aa (ao hL) hb)
  have hownc:∀p∈env.cells,p∈cellsFrom (L+1) K.scope.names []:=λp hp=>ecells▸hp
  have hown:∀b∈own env,s.heap.get? b=none:=ul (hfresh _ (ao eloc.symm)) λp hp=>hfresh _ (eB (habove p (hownc p hp)))
  have g:Grown s.heap h₁:=F0.keep
  haveI ho2:∀b∈iA env,s.heap.get? b=none:=λb hb=>hown b (ry b hb)
  haveI hX':∀b∈iA env++X,b∈X\/s.heap.get? b=none:=cq (λb q=>.inr (ho2 b q)) λ_ q=>.inl q
  haveI S1:SR c as (iA env++X) H {s with heap:=h₁,toks:=tk}:=S.opens (s':={s with heap:=h₁,toks:=tk}) g hX' (cq (λb q=>ul (P:=λb=>∃o,h₁.get? b=some o) (eloc▸kD F0.ns λo _ _ e _=>⟨o,e⟩) (λp hp=>(Cl0.cell p.1 p.2 ((λp hp=>oA hcn hp:∀p∈cellsFrom (L+1) K.scope.names [],(cellsFrom (L+1) K.scope.names []).lookup p.1=some p.2) p (hownc p hp))).imp λ_ e=>e.1) b (ry b q)) λb q=>(S.xs b q).imp λ_ e=>g _ _ e) rfl rfl
  have hslot:∀{x:Str} {i:Nat} {v:V},K.T.tab.lookup x=some i->((vs.map some++bH fn.extra none)[i]?).join=some v->∃y,K.ps[i]? =some x/\xs[i]? =some y/\VR c as (iA env++X) h₁ v y:=λ{x i v} ht e=>
   (hvs.get (sq e).2).imp λy q=>⟨K.tabp x i ht (hlen▸(sq e).1),q.1,q.2.opens g hX'⟩
  haveI F1:FR c as (iA env++X) h₁ env K.T.tab (vs.map some++bH fn.extra none):=by
   refine⟨by rw [<-henv];exact K.kind,by rw [<-henv];rfl,by rw [<-henv];rfl,by simp,?_,?_,⟨_,by exact(eloc)▸F0.ns,λx i ht hk v e=>?_⟩,λx i ht hk=>?_,λx y b e1 e2=>?_,λx y i e1 e2=>?_⟩
   ·exact (eloc)▸S.not_as hfL
   ·exact (eloc)▸S.base_none hfL
   ·exact (hslot ht e).imp λy q=>⟨xV K.psn q.1 q.2.1 hk,q.2.2⟩
   ·have hk':K.scope.names.lookup x=some .cell:=hk.elim (λhk=>(ekind x).symm.trans hk) λhk=>absurd rfl (K.nofree _ (mem_of_lookup ((ekind x).symm.trans hk)))
    refine dw (nY K.scope.names (L+1) [] x (.inl (mem_of_lookup hk'))) λb hb=>?_
    haveI hLb:=Cl0.above x b (mem_of_lookup hb)
    haveI hnb:=hfresh b (eB hLb)
    refine⟨b,_,by rw [ecells];exact hb,av _ (.tail _ (.tail _ (aG.mpr ⟨(x,b),by rw [ecells];exact mem_of_lookup hb,rfl⟩))),S.not_as hnb,S.base_none hnb,by exact(eloc)▸gm hLb,Cl0.cell x b hb,λv e=>?_⟩
    exact(hslot ht e).imp λy q=>⟨xT K.psn q.1 q.2.1 (λh=>nomatch hk'.symm.trans ((ekind x).symm.trans h)),q.2.2⟩
   ·exact name_of_addr Cl0.apart (hownc _ (mem_of_lookup e1)) (hownc _ (mem_of_lookup e2))
   ·exact AR K.tabn (mem_of_lookup e1) (mem_of_lookup e2)
  haveI ek:∀x,env.kindOf x=K.T.names.lookup x:=λx=>(ekind x).trans (congrArg _ K.names.symm)
  haveI Kn:KOk K.T env:=⟨λx h=>(ek x).trans h,λx h=>(ek x).trans h,λx h=>.inl ((ek x).trans h),λx h=>(ek x).trans h⟩
  haveI a1:AOk c (A.deeper env) n:=a.deep
  refine ea1_2 fr ?_
  intro l hfl hfe
  have efr:env.frame=some L:=by rw [<-henv];rfl
  haveI ekd:env.scope.kind=.function:=by rw [<-henv];exact K.kind
  haveI hcnt:∀b,X.count b<=(iA env++X).count b:=λb=>by simp only [qU];exact bw _ _
  haveI hLX:L∈iA env++X:=av _ (by simp only [<-eloc];exact .head _)
  have fr1:∀{as':bA} {Z:List Addr} {H':AH} {s':Shared},Ext as s.heap as'->Kept as (iA env++X) s.heap s'.heap->SR c as' Z H' s'->(∀b∈iA env++X,b∈Z)->(∃m,s'.heap.Ns env.locals m)->EnvFr c (A.deeper env) (iA env++X) as' s'.heap env:=λ{as' Z H' s'} e k S' hZ hn=>
   ⟨env,l,L,Around.frames_deeper hfl,eJ (hn.elim λm hn=>i6 hn λob es ep e1 e2 _=>⟨ekd▸(by decide),L,ob,es,ep,efr,S.base_none hfL,Ci eloc,λq=>(cn q).elim λi hi=>(S'.objs i _ hi).2.1 (hZ _ hLX),eloc▸e1,e2⟩) λev hev=>((hfe ev hev).grow (.refl _) hcnt).keep e k,efr,efr⟩
  have O1:Own (A.deeper env) (iA env++X) env:=by
   refine⟨λb hb=>av _ (.tail _ hb),efr.trans (congrArg some eloc.symm),λl' hl' ev hev L' hL' q=>?_⟩
   haveI hev:ev∈env::l:=ai ((Around.frames_deeper (env:=env) hfl).symm.trans hl')▸hev
   have hlt:L<L':=(Hc (P:=λb=>L<b)).mpr (λp hp=>habove p (hownc p hp)) L' q
   refine eJ (p:=λev=>ev.frame=some L'->False) (λhL'=>d9 hlt (ai (efr.symm.trans hL'))) (λev hev hL'=>mP ((hfe ev hev).there) λL'' o' _ _ q1 _ _ _ q5 _=>?_) ev hev hL'
   cases q1.symm.trans hL'
   exact eY ((hfresh _ (eB hlt)).symm.trans q5)
  have hE1:∀{as':bA},Ext as h₁ as'->Ext as s.heap as':=λe=>⟨e.old,λb hb=>(e.new b hb).imp id g.none⟩
  have hK1:∀{h':HP},KeptX as (iA env++X) (own env) h₁ h'->Kept as (iA env++X) s.heap h':=λk b o e hb=>k b o (g _ _ e) hb λq=>eY ((hown b q).symm.trans e)
  have hless:∀b,2<=(iA env++X).count b->2<=X.count b\/Mine.Fr as s.heap b:=λb hb=>by
   by_cases hm:b∈iA env
   ·exact .inr (.inr (ho2 b hm))
   ·rw [qU,iT hm,da]at hb
    exact .inl hb
  haveI R1:Rdy c K.T env (A.deeper env) n {s with heap:=h₁,toks:=tk} as (iA env++X) H (vs.map some++bH fn.extra none):=⟨a1,S1,F1,Kn,by rw [K.hn,af,ah,DF,hlen],fr1 (.refl ..) (g.kept _ _) S1 (λ_ q=>q) (F1.ns.imp λ_ h=>h.1)⟩
  have fin:∀{v:V} {y:Value} {H':AH} {as':bA} {s':Shared},Ext as h₁ as'->SR c as' (iA env++X) H' s'->KeptX as (iA env++X) (own env) h₁ s'.heap->VR c as' (iA env++X) s'.heap v y->Q v H'->Res c as X s.heap Q y s':=λ{v y H' as' s'} e S' k hv q=>
   ⟨v,H',as',hE1 e,S'.turn (λb o e _ _=>e) S'.stays (λb hb=>ak _ hb) (λb hb=>S'.xs b (ak _ hb)) rfl rfl,(hK1 k).less hless,hv.frames λb _ _ hb q=>hb (ak _ q),q⟩
  refine wpAny_mono ((Eb C sc hf K.hgl K.hc).run R1 O1 w) (λfl s' q=>?_) λx s' r=>?_
  rotate_left
  ·obtain ⟨k,H',as',e,t,ts,rfl,e',S',k',ex,ht,ap,hn,q⟩:=r
   haveI er:ERes c as (iA env++X) s.heap XX (.ref e) s':=⟨k,H',as',e,t,ts,rfl,hE1 e',S',hK1 k',ex,ht,λa ha=>⟨(ap a ha).1.imp id g.none,(ap a ha).2⟩,q⟩
   dsimp only [leaving]
   refine wpAny_bind (er.note (λas'' _ _ e'' k'' S'' hZ=>fr1 e'' k'' S'' hZ hn) λs'' er' tr _=>er'.fly tr λs₃ er₃ _=>?_)
   exact er₃.less (λb hb=>ak _ hb) hless
  induction fl with
  |next=>
   refine gF q ?_
   intro ρ' H' as' e S' k _ _ q
   exact fin e S' k .none q
  |ret y=>
   refine nU q ?_
   intro v H' as' e S' k hv q
   exact fin e S' k hv q
  |_=>exact q.elim
theorem B9{c:Cx}:SC c 0:=⟨λ_ _ _ _ _ h=>h.elim⟩
theorem Gk{gl:List (Str×Gl)}{c:Cx}(C:Cok c gl)(hf:∀x f,gl.lookup x=some (.fn f)->∃fn,c.P.fns f=some fn)(ok:∀f fn,c.P.fns f=some fn->Nonempty (FOk c gl f fn)){n:Nat}:SC c n:=by
 induction n with
 |zero=>exact B9
 |succ n ih=>exact Bo C hf ok ih
theorem nB:∀{ps:List Str} {xs:List Value},ps.length=xs.length->∀{x:Str},x∈ps->((ps.zip xs).lookup x).isSome=true
 |[],_,_,x,h=>by cases h
 |_::_,[],h,_,_=>by cases h
 |p::ps,y::xs,hl,x,h=>by
  simp only [eO,bh]
  cases hx:x==p with
  |true=>rfl
  |false=>
   simp only
   refine nB (by simpa using hl) ?_
   refine dN (h) (λe_=>?_) λh=>?_
   ·replace e_:=Eq.symm e_;subst e_;simp at hx
   ·exact h
theorem rY{α β:Type}{f g:α->Option β}:∀{l:List α},(∀a∈l,f a=g a)->l.filterMap f=l.filterMap g
 |[],_=>rfl
 |a::l,h=>by simp only [gC,gC,h a (.head _),rY λb hb=>h b (.tail _ hb)]
theorem kB:∀{ps:List Str} {xs:List Value},ps.length=xs.length->ps.Nodup->ps.filterMap (λn=>((ps.zip xs).lookup n).map (n,·))=ps.zip xs
 |[],[],_,_=>rfl
 |_::_,[],h,_=>by simp at h
 |[],_::_,h,_=>by simp at h
 |p::ps,y::xs,hl,hn=>by
  have hn':=bg.mp hn
  simp only [eO,gC]
  simp only [bh,BEq.rfl,gN]
  congr 1
  haveI:∀n∈ps,((match n==p with|true=>some y|false=>(ps.zip xs).lookup n).map (n,·))=((ps.zip xs).lookup n).map (n,·):=λn h=>by
   haveI:(n==p)=false:=by simp;rintro rfl;exact hn'.1 h
   rw [this]
  exact(rY this).trans (kB (xs:=xs) (by simpa using hl) hn'.2)
theorem sB{α β:Type}{x:Sem α}{a:α}{f:α->Sem β}{r:Sem β}(h:x=pure a)(k:f a=r):(x>>= f)=r:=by subst h;exact k
theorem sI{α:Type}{c:Bool}{A B r:Sem α}(h:c=false)(k:B=r):(if c=true then A else B)=r:=by subst h;exact k
theorem vV{name qual:Str}{args:List Arg}{kd:List (Option Expr)}{df:List Expr}{body:List Stmt}{scope:Scope}{pm cd doc:Value}{xs:List Value}{ps:List Str}(hp:args.map (·.arg)=ps)(hl:decide (xs.length>ps.length)=false)
  (hm:((ps.take ps.length).filter λn=>((ps.zip xs).lookup n).isNone)=[])(hz:ps.filterMap (λn=>((ps.zip xs).lookup n).map (n,·))=ps.zip xs) :
  bindArgs (methDef name qual ⟨[],args,none,[],kd,none,df⟩ body scope pm cd doc) ⟨xs,[]⟩=pure (ps.zip xs):=by
 subst hp
 haveI hd:∀k,List.drop k (((none:Option (Array Value)).getD #[]).toList)=[]:=λk=>List.drop_nil
 refine sB (α:=List (Str×Value)×List (Str×Value)) rfl ?_
 refine sB (a:=none) rfl ?_
 refine sI ?_ ?_
 ·exact congrArg (·&&true) hl
 refine sI ?_ ?_
 ·rw [hd];exact congrArg (λl:List Str=>!l.isEmpty) hm
 refine sB (a:=(args.map (·.arg)).zip xs) (by rw [hd,List.zip_nil_right];rfl) ?_
 refine sB rfl ?_
 refine sI rfl ?_
 refine congrArg pure ?_
 exact(congrArg (λl=>List.filterMap _ l) (aA _)).trans hz
theorem sU{name qual:Str}{params:Arguments}{body:List Stmt}{scope:Scope}{pm cd doc:Value}(h1:params.posonlyargs=[])(h2:params.vararg=none)(h3:params.kwonlyargs=[])(h4:params.kwarg=none)
  (hn:(params.args.map (·.arg)).Nodup){xs:List Value}(hl:xs.length=(params.args.map (·.arg)).length):bindArgs (methDef name qual params body scope pm cd doc) ⟨xs,[]⟩=pure ((params.args.map (·.arg)).zip xs):=by
 obtain⟨a,b,c,d,e,f,g⟩:=params
 subst h1
 subst h2
 subst h3
 subst h4
 refine vV rfl (decide_eq_false λh=>absurd hl (gm h)) ?_ (kB hl.symm hn)
 refine fH.mpr λn hn' e=>?_
 haveI:=nB hl.symm (GW hn')
 rw [eW.mp e]at this
 exact nomatch this
noncomputable def p9(d:DefRec):List Str:=d.params.args.map (·.arg)
noncomputable def jI(d:DefRec):List Str:=(d.scope.names.filter λp=>(decide (p.2=.local)||decide (p.2=.cell))&& !(p9 d).contains p.1).map (·.1)
noncomputable def JQ(gl:List (Str×Gl))(mu:List (Nat×Nat))(fz:List (Nat×List Nat))(d:DefRec):Tb:=
 {gl,meths:=[],names:=d.scope.names,tab:=(p9 d++jI d).zipIdx,n:=(p9 d).length+(jI d).length,mu,fz}
noncomputable def Dw(d:DefRec):Bool:=
 d.params.posonlyargs.isEmpty&&d.params.vararg.isNone&&d.params.kwonlyargs.isEmpty&&d.params.kwarg.isNone&&decide (p9 d).Nodup&&
 (p9 d).all (λx=>decide (d.scope.names.lookup x=some .local)||decide (d.scope.names.lookup x=some .cell))&&
 decide (d.scope.names.map (·.1)).Nodup&&d.scope.names.all (λp=>decide (p.2≠.free))&&decide (d.scope.kind=.function)&& !d.scope.isCoroutine&& !d.scope.isGenerator
noncomputable def pY(gl:List (Str×Gl))(mu:List (Nat×Nat))(fz:List (Nat×List Nat))(d:DefRec):Option Fn:=
 if Dw d then(KH 60 (JQ gl mu fz d) d.body).map λb=>⟨(p9 d).length,(jI d).length,b⟩else none
theorem tQ{α:Type}(l:List α):l.zipIdx.map (·.2)=aV l.length:=by
 rw [List.zipIdx_eq_zip_range',List.map_snd_zip (by simp)]
 simp only [GS]
theorem wy{l:List Str}{x:Str}{i:Nat}(h:l.zipIdx.lookup x=some i):l[i]? =some x:=by
 haveI:=mem_of_lookup h
 have h2:=fN.mp this
 simpa using h2
set_option tactic.hygienic true in
theorem GJ{c:Cx}{gl:List (Str×Gl)}{mu:List (Nat×Nat)}{fz:List (Nat×List Nat)}{d:DefRec}{f:Nat}{fn:Fn}{pm cd doc:Value}{qual:Str}(h:pY gl mu fz d=some fn)(hd:c.fdat f=methDef d.name qual d.params d.body d.scope pm cd doc)
  (hc:c.base.CodeRec cd qual):Nonempty (FOk c gl f fn):=by
 unfold pY at h
 split at h
 ·rename_i hok
  replace h:=bq.mp h
  refine ea1_2 h ?_
  intro b hb q_3
  subst q_3
  simp only [Dw,cV,decide_eq_true_eq,L4,eW,bL,jg,bZ]at hok
  obtain⟨⟨⟨⟨⟨⟨⟨⟨⟨⟨h1,h2⟩,h3⟩,h4⟩,h5⟩,h6⟩,h7⟩,h8⟩,h9⟩,h10⟩,h11⟩:=hok
  refine⟨⟨d.name,qual,d.params,d.body,d.scope,pm,cd,doc,p9 d,JQ gl mu fz d,60,hd,hc,rfl,rfl,rfl,hb,
   λxs hl=>sU h1 h2 h3 h4 h5 hl,rfl,h5,h6,?_,λx i hx hi=>?_,h7,h8,h9,h10,h11⟩⟩
  ·refine (?_:((p9 d++jI d).zipIdx.map (·.2)).Nodup)
   rw [tQ]
   exact L5
  ·haveI:=wy (l:=p9 d++jI d) hx
   replace this:=(bl hi).symm.trans this
   exact this
 ·exact eY h
noncomputable def qI(recs:List DefRec)(gl:List (Str×Gl))(mu:List (Nat×Nat))(fz:List (Nat×List Nat))(cs:List (List Nat)):Prog:=
 {fns:=λf=>(recs[f]?).bind (pY gl mu fz),sub:=yk cs}
noncomputable def yr(h:HP)(x:Str):Bool:=
 match h.clsAt mainGlobals x with
 |some (_,_,cd)=>qA.all λn=>(h.nsMap cd.ns n).isNone
 |none=>false
noncomputable def Az(h:HP)(n:Str):Value:=(h.nsMap mainGlobals n).getD .none
noncomputable def I7(owns:List OwnSpec)(h:HP):Bool:=h.isNs mainGlobals&&owns.all λo=>h.ownExcOk o.name o.chain o.bm o.newId&&yr h o.name&&decide (o.bm=AX)&&(o.newId=="ValueError.__new__")&&o.chain.all λn=>owns.any λo'=>o'.name==n
noncomputable def xM(owns:List OwnSpec)(h:HP):List (List Bool):=owns.map λo=>owns.map λo'=>(Az h o.name::(o.chain.map (Az h)++o.bm)).contains (Az h o'.name)
noncomputable def Fw(cs:List (List Nat))(n:Nat):List (List Bool):=(aV n).map λk=>(aV n).map λj=>yk cs k j
def XSays(owns:List OwnSpec)(cs:List (List Nat))(h:HP):Prop:=
 ∃mg,h.Ns mainGlobals mg/\∀(k:Nat) o,owns[k]? =some o->∃C bm,mg o.name=some (.ref C)/\XC h C bm/\∀(j:Nat) o',owns[j]? =some o'->(Value.ref C::bm).contains ((mg o'.name).getD .none)=yk cs k j
theorem XSays.keeps{owns:List OwnSpec}{cs:List (List Nat)}{h h':HP}(x:XSays owns cs h)(hk:∀b o,h.get? b=some o->h'.get? b=some o):XSays owns cs h':=by
 refine ea1_2 x ?_
 intro mg hn r
 exact⟨mg,hn.keeps hk,λk o e=>let⟨C,bm,h1,h2,h3⟩:=r k o e;⟨C,bm,h1,h2.keeps hk,h3⟩⟩
theorem IR{h:HP}{o:OwnSpec}(x:h.ownExcOk o.name o.chain o.bm o.newId=true)(y:yr h o.name=true)(_hb:o.bm=AX)(hi:o.newId="ValueError.__new__") :
  ∃C,h.nsMap mainGlobals o.name=some (.ref C)/\∀_:XTail h (o.chain.map (Az h)++o.bm),XC h C (o.chain.map (Az h)++o.bm):=by
 obtain⟨C,N,nm,q,bs,hdct,sn,sub,ab,col,dd,k0,k1,k2,k3,k5,hg,hC,hN,_⟩:=Kz x
 refine⟨C,hg,λT=>⟨hi▸hC,hN,λn hn=>?_,T⟩⟩
 unfold yr at y
 cases hf:h.clsAt mainGlobals o.name with
 |none=>replace y:=(hf)▸y;cases y
 |some z=>
  obtain⟨C',o',cd'⟩:=z
  simp only [hf]at y
  refine ea0_3 (Heap.clsAt_spec hf) ?_
  intro hn' ho' hd'
  rw [hg]at hn'
  obtain rfl:C=C':=by injection hn' with q1;injection q1
  rw [hC]at ho'
  replace ho':=ai ho'
  obtain rfl:=ho'
  replace hd':=by injection hd'
  obtain rfl:_=cd':=hd'
  exact eW.mp (bL.mp y n hn)
theorem zi{owns:List OwnSpec}{cs:List (List Nat)}{h:HP}(e:(I7 owns h,xM owns h)=(true,Fw cs owns.length)):XSays owns cs h:=by
 haveI e2:=congrArg jD e
 obtain⟨hn,hall⟩:=ay.mp (congrArg qT e)
 have all:∀o∈owns,h.ownExcOk o.name o.chain o.bm o.newId=true/\yr h o.name=true/\o.bm=AX/\o.newId="ValueError.__new__"/\∀n∈o.chain,∃o'∈owns,o'.name=n:=λo ho=>by
  haveI:=bL.mp hall o ho
  simp only [cV,decide_eq_true_eq,beq_iff_eq]at this
  obtain⟨⟨⟨⟨h1,h2⟩,h3⟩,h4⟩,h5⟩:=this
  refine⟨h1,h2,h3,h4,λn hn=>?_⟩
  refine ea1_2 (iC.mp (bL.mp h5 n hn)) ?_
  intro o' ho' q
  exact⟨o',ho',beq_iff_eq.mp q⟩
 have tail:∀(ch:List Str),(∀n∈ch,∃o'∈owns,o'.name=n)->XTail h (ch.map (Az h)++AX):=λch=>by
  induction ch with
  |nil=>intro _;exact .base
  |cons n ch ih=>
   intro hc
   refine ea1_2 (hc n (.head _)) ?_
   intro o' ho' q_3
   subst q_3
   refine Dx (all o' ho') ?_
   intro h1 h2 h3 h4 h5
   obtain⟨C,N,nm,q,bs,hdct,sn,sub,ab,col,dd,k0,k1,k2,k3,k5,hg,hC,hN,_⟩:=Kz h1
   haveI hq:∀n∈qA,h.nsMap N n=none:=λn hn=>by
    unfold yr at h2
    cases hf:h.clsAt mainGlobals o'.name with
    |none=>replace h2:=(hf)▸h2;cases h2
    |some z=>
     obtain⟨C',o',cd'⟩:=z
     simp only [hf]at h2
     refine ea0_3 (Heap.clsAt_spec hf) ?_
     intro hn' ho' hd'
     rw [hg]at hn'
     obtain rfl:C=C':=by injection hn' with q1;injection q1
     rw [hC]at ho'
     replace ho':=ai ho'
     obtain rfl:=ho'
     replace hd':=by injection hd'
     obtain rfl:_=cd':=hd'
     exact eW.mp (bL.mp h2 n hn)
   refine(?_:XTail h ((h.nsMap mainGlobals o'.name).getD .none::(ch.map (Az h)++AX)))
   rw [hg]
   exact .own hC hN hq (ih λn hn=>hc n (.tail _ hn))
 refine⟨_,.of_isNs hn,λk o ho=>?_⟩
 refine Dx (all o (aM ho)) ?_
 intro h1 h2 h3 h4 h5
 refine ea1_2 (IR h1 h2 h3 h4) ?_
 intro C hg hx
 refine⟨C,_,hg,hx (by exact(h3)▸tail o.chain h5),λj o' ho'=>?_⟩
 haveI e3:=congrArg (λl=>(l[k]?.bind λr=>r[j]?)) e2
 haveI hk:=(ae.mp ho).1
 simp only [xM,Fw,aO,ho,ho',gN,kX,cc hk,cc ((ae.mp ho').1)]at e3
 haveI e4:=ai e3
 simp only [<-e4]
 show _=(Az h o.name::_).contains _
 haveI hgC:Az h o.name=.ref C:=by unfold Az;rw [hg];rfl
 rw [hgC]
 rfl
noncomputable def Jt(owns:List OwnSpec)(cs:List (List Nat)):PySem.W.Hook:=
 ⟨Bool×List (List Bool),λs=>(I7 owns s.heap,xM owns s.heap),λ_=>(true,Fw cs owns.length),λ_ h=>XSays owns cs h,λ_ _ e=>zi e,λ_ _ _ x hk=>x.keeps hk⟩
def glBi(x:String)(g:Gl):Prop:=match g with
 |.bi b=>bootBuiltins (Str.ofString x)=some (.builtin b)
 |.ty b=>bootBuiltins (Str.ofString x)=some (.type b)
 |_=>False
noncomputable def x8(recs:List DefRec):List (Str×Gl):=recs.zipIdx.map λp=>(p.1.name,.fn p.2)
noncomputable def kQ(x:Str):Gl->Bool
 |.bi b=>(bootBuiltins x).any λv=>match v with|.builtin b'=>b==b'|_=>false
 |.ty b=>(bootBuiltins x).any λv=>match v with|.type b'=>b==b'|_=>false
 |_=>false
noncomputable def vy(p:Program)(x:Str):V->Bool
 |.int i=>(match valOf p x with|some (.int j)=>decide (i=j)|_=>false)
 |.str t=>(match valOf p x with|some (.str u)=>decide (u=toS t)&&decide (t.length<=1000)|_=>false)
 |_=>false
set_option tactic.hygienic true in
theorem E4{p:Program}{loose:List Str}{mean:ExcName->Option Value}{mg mb:Str->Option Value}{h:HP}(T:Top p loose mean mg mb h){c:Cx}{x:Str}{v:V}(e:vy p x v=true):∃y,mg x=some y/\∀as X h,VR c as X h v y:=by
 unfold vy at e
 split at e
 ·split at e
  ·rename_i i _ j hj
   refine ea1_2 (T.const x _ hj) ?_
   intro y h1 h2
   have:=of_decide_eq_true e
   subst this
   cases h2 h with
   |int _ t=>exact⟨_,h1,λ_ _ _=>.int _ _⟩
  ·cases e
 ·split at e
  ·rename_i t _ u hj
   refine ea1_2 (T.const x _ hj) ?_
   intro y h1 h2
   simp only [cV,decide_eq_true_eq]at e
   obtain⟨rfl,e2⟩:=e
   haveI hb:(1000:Nat)<=jR:=by decide
   cases h2 h with
   |str _ t=>exact⟨_,h1,λ_ _ _=>.str _ _ (by exact fp e2 (fp hb (by simp+arith only)))⟩
  ·cases e
 ·cases e
noncomputable def I3:Value->Option Addr
 |.ref a=>some a
 |_=>none
structure TopOk(p:Program)(loose:List Str)(csts:List (Str×V))(bis:List (Str×Gl)):Prop where
 csts:csts.all (λq=>vy p q.1 q.2)=true
 names:((recsOf p).map (·.name)).Nodup
 boot:bis.all (λq=>kQ q.1 q.2)=true
 free:bis.all (λq=>decide (q.1≠"__name__")&&decide (q.1∉startupNames)&&decide (q.1∉loose)&&decide (q.1∉(recsOf p).map (·.name))&&decide (q.1∉(litsOf p).map (·.1))&&decide (q.1∉(clssOf p loose).map (·.name)))=true
theorem fP{α β:Type}[BEq α]{x:α}:∀{l m:List (α×β)} {v:β},(l++m).lookup x=some v->l.lookup x=some v\/m.lookup x=some v
 |[],_,_,h=>.inr h
 |(y,w)::l,m,v,h=>by
  simp only [sN,bh]at h
  simp only [bh]
  refine rj (o:=x==y) (λhx=>?_) (λhx=>?_)
  ·rw [hx];rw [hx]at h;exact .inl h
  ·rw [hx];rw [hx]at h;exact fP h
theorem Ar{c:Cx}{as:bA}{X:List Addr}{h:HP}:∀{vs:List Value} {zs:List Int},IntsAre vs zs->VRs c as X h (zs.map V.int) vs:=by
 intro vs zs x
 induction x with
 |nil=>exact .nil
 |cons n t _ ih=>exact .cons (.int n t) ih
noncomputable def glC(csts:List (Str×V)):List (Str×Gl):=csts.map λq=>(q.1,.cst q.2)
noncomputable def glX(owns:List OwnSpec):List (Str×Gl):=owns.zipIdx.map λp=>(p.1.name,.exc p.2)
noncomputable def yV(p:Program)(loose:List Str):Option ClsRec:=(plainsOf p loose).head?
noncomputable def Aa(m:MethRec):DefRec:=⟨m.name,m.params,m.body,m.scope,⟨0,0,0,0⟩⟩
noncomputable def gT(p:Program)(loose:List Str):List DefRec:=recsOf p++(yV p loose).elim [] λk=>k.meths.map Aa
noncomputable def qt(k:ClsRec):Nat:=k.meths.findIdx λm=>m.name==("__init__":Str)
noncomputable def K5(p:Program)(k:ClsRec):Str×Gl:=(k.name,.cls (k.meths.zipIdx.map λq=>(q.1.name,(recsOf p).length+q.2)) k.statics ((recsOf p).length+qt k))
noncomputable def i9(p:Program)(loose:List Str)(csts:List (Str×V))(bis:List (Str×Gl)):List (Str×Gl):=x8 (recsOf p)++(glX (ownsOf p)++((yV p loose).toList.map (K5 p)++(glC csts++bis)))
noncomputable def K8(k:ClsRec):Bool:=(k.statics.all λn=>match fastLookup "object" n with|some none=>true|_=>false)&&(k.meths.all λm=>(fastLookup "object" m.name).isSome)&&k.meths.any λm=>m.name==("__init__":Str)
theorem sC{n:Str}{y:Option Value}(h:fastLookup "object" n=some y):typeLookup (.type "object") n=pure y:=by simp only [typeLookup_type,builtinLookup_eq_fast,h]
theorem kW{α β:Type}{f:α->Str}{g:Nat->β}{l:List α}{x:Str}{v:β}(h:(l.zipIdx.map λp=>(f p.1,g p.2)).lookup x=some v):∃i d,v=g i/\l[i]? =some d/\f d=x:=by
 refine ea1_2 (aG.mp (mem_of_lookup h)) ?_
 intro q hq e
 haveI h2:=fN.mp hq
 cases e
 exact⟨q.2,q.1,rfl,by simpa using h2,rfl⟩
inductive GlR(p:Program)(loose:List Str)(bis:List (Str×Gl))(x:Str):Gl->Prop
 |fn {i:Nat} {d:DefRec}:(recsOf p)[i]? =some d->d.name=x->GlR p loose bis x (.fn i)
 |exc {i:Nat} {d:OwnSpec}:(ownsOf p)[i]? =some d->d.name=x->GlR p loose bis x (.exc i)
 |cls {k:ClsRec} {g:Gl}:yV p loose=some k->(x,g)=K5 p k->GlR p loose bis x g
 |cst {v:V}:vy p x v=true->GlR p loose bis x (.cst v)
 |bi {g:Gl}:bis.lookup x=some g->kQ x g=true->GlR p loose bis x g
theorem sX{p:Program}{loose:List Str}{csts:List (Str×V)}{bis:List (Str×Gl)}{x:Str}{g:Gl}(ok:TopOk p loose csts bis)(h:(i9 p loose csts bis).lookup x=some g):GlR p loose bis x g:=by
 rcases fP h with h|h
 ·refine c6 (kW h) ?_
  intro i d e hd hn
  subst e
  exact .fn hd hn
 rcases fP h with h|h
 ·refine c6 (kW h) ?_
  intro i d e hd hn
  (replace e:=Eq.symm e;subst e)
  exact .exc hd hn
 rcases fP h with h|h
 ·refine ea1_2 (aG.mp (mem_of_lookup h)) ?_
  intro k hk e
  exact .cls (ig.mp hk) e.symm
 rcases fP h with h|h
 ·refine ea1_2 (aG.mp (mem_of_lookup h)) ?_
  intro q hq e
  cases e
  exact .cst (bL.mp ok.csts _ hq)
 ·exact .bi h (bL.mp ok.boot _ (mem_of_lookup h))
theorem Cp{p:Program}{loose:List Str}{csts:List (Str×V)}{bis:List (Str×Gl)}{x:Str}{ms:List (Str×Nat)}{ats:List Str}{f:Nat}(ok:TopOk p loose csts bis)(h:(x,Gl.cls ms ats f)∈i9 p loose csts bis):∃k,yV p loose=some k/\(x,Gl.cls ms ats f)=K5 p k:=by
 have F:∀{α:Type} {l:List α} {f':α->Str×Gl},(x,Gl.cls ms ats f)∈l.map f'->(∀q,f' q≠(x,Gl.cls ms ats f))->False:=λh hq=>(aG.mp h).elim λq e=>hq q e.2
 rcases bT.mp h with h|h
 ·exact (F h λ_ e=>by cases e).elim
 rcases bT.mp h with h|h
 ·exact (F h λ_ e=>by cases e).elim
 rcases bT.mp h with h|h
 ·refine ea1_2 (aG.mp h) ?_
  intro k hk e
  exact⟨k,ig.mp hk,e.symm⟩
 rcases bT.mp h with h|h
 ·exact (F h λ_ e=>by cases e).elim
 ·exact absurd (bL.mp ok.boot _ h) am
theorem AZ{x:Str}{b:String}(h:kQ x (.bi b)=true):bootBuiltins x=some (.builtin b):=by
 rw [kQ,Kd]at h
 refine ea1_2 h ?_
 intro v e1 e2
 rw [e1]
 split at e2
 ·rw [eq_of_beq e2]
 ·cases e2
theorem B4{x:Str}{b:String}(h:kQ x (.ty b)=true):bootBuiltins x=some (.type b):=by
 simp only [kQ,Kd]at h
 refine ea1_2 h ?_
 intro v e1 e2
 rw [e1]
 split at e2
 ·rw [eq_of_beq e2]
 ·cases e2
theorem Cq{p prog:Program}{w:World}{loose:List Str}{mean:ExcName->Option Value}{mg mb:Str->Option Value}{s:Shared}{bis:List (Str×Gl)}{csts:List (Str×V)}{mu:List (Nat×Nat)}{fz:List (Nat×List Nat)}{l:Addr}{items:Array Value}{zs:List Int}{d:DefRec}{f n:Nat}{fa:Addr}{cs:List (List Nat)}
  {Q E:Value->Shared->Prop}
  (T:Top p loose mean mg mb s.heap)(TC:TopC p loose mg s.heap)(hko:(yV p loose).all K8=true)(ok:TopOk p loose csts bis)(Y:XSays (ownsOf p) cs s.heap)(hcs:cs.length<=(ownsOf p).length)(hg:s.gens= #[])(hd:(recsOf p)[f]? =some d)(hfa:mg d.name=some (.ref fa))(hfn:∃fn,pY (i9 p loose csts bis) mu fz d=some fn)
  (hall:∀d∈gT p loose,∃fn,pY (i9 p loose csts bis) mu fz d=some fn)
  (hl:s.heap.PlainList l items)(hi:IntsAre items.toList zs)(hlen:zs.length<=63)(hn:n<=300)
  (hlaw:aJ (qI (gT p loose) (i9 p loose csts bis) mu fz cs) n f [.lst (zs.map V.int)] [] (λv _=>v=.bool true) (λ_ _=>False))
  (hR:∀s',(∀b o,s.heap.get? b=some o->s'.heap.get? b=some o)->s'.os=s.os->s'.gens= #[]->Q (.bool true) s') :
  wpAny (model prog w) callerA (call (.ref fa) [.ref l]) Q E s:=by
 obtain⟨KC,KN,mN,hK⟩:∃(C N:Addr) (mN:Str->Option Value),∀k,yV p loose=some k->mg k.name=some (.ref C)/\PlainAt s.heap k C N mN:=by
  try clear s;try clear PlainAt;try clear mg;try clear Value;try clear Option;try clear Str;try clear Addr;try clear hK;try clear KN;try clear KC;try clear hd;try clear hall;try clear Y;try clear hi;try clear hfn;try clear hcs;try clear hfa;try clear hko;try clear hn;try clear T;try clear hlen;try clear hR;try clear hl;try clear hlaw;try clear hg;try clear ok
  cases hk:yV p loose with
  |none=>exact⟨0,0,λ_=>none,nofun⟩
  |some k=>
   refine kD (TC k (List.mem_of_mem_head? hk)) ?_
   intro C N mN h1 h2
   try clear TC;try clear k
   exact⟨C,N,mN,λk' e=>by(replace e:=ai e;subst e);exact⟨h1,h2⟩⟩
 haveI hm:∀(i:Nat) d,(gT p loose)[i]? =some d->(recsOf p)[i]? =some d\/∃k j m,yV p loose=some k/\i=(recsOf p).length+j/\k.meths[j]? =some m/\d=Aa m:=λi d h=>by
  by_cases hlt:i<(recsOf p).length
  ·exact .inl ((bl hlt).symm.trans h)
  ·have h:=(cP (dD hlt)).symm.trans h
   try clear N;try clear C;try clear mN
   cases hk:yV p loose with
   |none=>replace h:=(hk)▸h;exact eY h
   |some k=>
    rw [hk]at h
    haveI h:(k.meths.map Aa)[i-(recsOf p).length]? =some d:=h
    rw [aO]at h
    refine ea1_2 (bq.mp h) ?_
    intro m h1 h2
    try clear Option;try clear h
    exact .inr ⟨k,_,m,rfl,(ji (dD hlt)).symm,h1,h2.symm⟩
 have pick:∀g:Nat,∃q:Addr×FuncData,∀d,(gT p loose)[g]? =some d->(∃qual o pm code doc,s.heap.get? q.1=some o/\o.data=.func q.2/\q.2=methDef d.name qual d.params d.body d.scope pm code doc/\s.heap.CodeRec code qual/\((recsOf p).length<=g->mN d.name=some (.ref q.1)/\o.cls=.type "function"))/\(g<(recsOf p).length->mg d.name=some (.ref q.1)):=λg=>by
  try clear yV
  cases hq:(gT p loose)[g]? with
  |none=>exact⟨(0,default),λd e=>by cases e⟩
  |some d=>
   try clear loose;try clear p
   rcases hm g d hq with h|⟨k,j,m,hk,rfl,hj,rfl⟩
   ·refine DA (T.fn d (aM h)) ?_
    intro a o pm code doc h1 h2 h3 h4
    try clear T
    haveI hlt:=(ae.mp h).1
    exact⟨(a,_),λd' e=>by(replace e:=ai e;subst e);exact⟨⟨d.name,o,pm,code,doc,h2,h3,rfl,h4,λq=>absurd hlt (gV.mpr q)⟩,λ_=>h1⟩⟩
   ·refine IX ((hK k hk).2.meths m (aM hj)) ?_
    intro f o pm cd doc h1 h2 h3 h4 h5
    try clear hK;try clear k
    exact⟨(f,_),λd' e=>by(replace e:=ai e;subst e);exact⟨⟨_,o,pm,cd,doc,h2,h4,rfl,h5,λ_=>⟨h1,h3⟩⟩,λq=>absurd q (gV.mpr (aq _ _))⟩⟩
 obtain⟨F,hF⟩:=Classical.axiomOfChoice pick
 let c:Cx:={prog:=prog,w:=w,base:=s.heap,mg:=mg,mb:=mb,P:=qI (gT p loose) (i9 p loose csts bis) mu fz cs,os:=s.os,fad:=λg=>(F g).1,fdat:=λg=>(F g).2,xcls:=λk=>((((ownsOf p)[k]?).bind λo=>mg o.name).bind I3).getD 0,ccls:=λ_=>KC}
 have fns:∀g fn,c.P.fns g=some fn->∃d,(gT p loose)[g]? =some d/\pY (i9 p loose csts bis) mu fz d=some fn:=λg fn h=>cj.mp h
 have inX:∀(i:Nat) d,(recsOf p)[i]? =some d->(gT p loose)[i]? =some d:=λi d h=>(bl (ae.mp h).1).trans h
 have has:∀(i:Nat) d,(gT p loose)[i]? =some d->∃fn,c.P.fns i=some fn:=λi d h=>by
  refine dw (hall d (aM h)) λfn hfn=>?_
  try clear hall
  exact⟨fn,by show((gT p loose)[i]?).bind _=_;exact(h)▸hfn⟩
 have hX:∀(k:Nat) o,(ownsOf p)[k]? =some o->mg o.name=some (.ref (c.xcls k))/\∃bm,XC s.heap (c.xcls k) bm/\∀(j:Nat) o',(ownsOf p)[j]? =some o'->(Value.ref (c.xcls k)::bm).contains (.ref (c.xcls j))=yk cs k j:=by
  refine ea1_2 Y ?_
  try clear Y
  intro mg' hn' r
  haveI hmg:mg'=mg:=funext λx=>hn'.agree T.g x
  try clear hn';try clear hxs;try clear hrecs;try clear inX;try clear fns;try clear hF;try clear F;try clear hfn
  subst hmg
  have hcl:∀(k:Nat) o,(ownsOf p)[k]? =some o->mg' o.name=some (.ref (c.xcls k)):=λk o ho=>by
   refine d0 (r k o ho) ?_
   intro C bm h1 _
   try clear r
   refine(?_:_=some (Value.ref (((((ownsOf p)[k]?).bind λo=>mg' o.name).bind I3).getD 0)))
   simp only [ho,kX,h1]
   rfl
  intro k o ho
  refine c6 (r k o ho) ?_
  intro C bm h1 h2 h3
  try clear r
  have hC:=h1.symm.trans (hcl k o ho)
  try clear hmg;try clear mg';try clear k;try clear C
  cases hC
  refine⟨h1,bm,h2,λj o' ho'=>?_⟩
  simp only [<-h3 j o' ho',hcl j o' ho']
  rfl
 haveI hbis:∀x g,bis.lookup x=some g->kQ x g=true/\mg x=none/\mb x=bootBuiltins x:=λx g h=>by
  have hm:=mem_of_lookup h
  haveI h2:=bL.mp ok.free _ hm
  simp only [cV,decide_eq_true_eq]at h2
  exact⟨(bL.mp ok.boot _ hm),T.free x h2.1.1.1.1.2 h2.1.1.1.2 h2.1.1.2 h2.1.2 h2.2,T.builtins x h2.1.1.1.1.1⟩
 haveI hf:∀x g,(i9 p loose csts bis).lookup x=some (.fn g)->∃fn,c.P.fns g=some fn:=λx g h=>by
  cases sX ok h with
  |fn hd _=>exact has _ _ (inX _ _ hd)
  |cls _ e=>cases e
  |bi _ h=>exact absurd h am
 haveI C:Cok c (i9 p loose csts bis):=by
  refine⟨T.g,T.b,T.nolimit,λk hk=>?_,λx ms ats f h=>?_,λx g h=>?_,λg fn h=>?_⟩
  ·obtain ⟨r,hr⟩:∃r,cs[k]? =some r:=by
    try clear hr
    cases hq:cs[k]? with
    |none=>haveI hk':(cs[k]?).any (·.contains k)=true:=hk;replace hk':=(hq)▸hk';cases hk'
    |some r=>exact⟨r,rfl⟩
   obtain⟨_,bm,h2,h3⟩:=hX k _ (aH (bk (ae.mp hr).1 hcs:k<(ownsOf p).length))
   try clear k;try clear hlt
   refine⟨bm,h2,λx j h=>?_⟩
   try clear h2;try clear bm;try clear cs;try clear r
   cases sX ok h with
   |exc hd _=>exact h3 j _ hd
   |cls _ e=>cases e
   |bi _ h=>exact absurd h am
  ·haveI hk:=Cp ok h
   refine ea1_2 hk ?_
   try clear hk
   intro k hk e
   cases e
   obtain⟨_,P⟩:=hK k hk
   try clear hK
   rw [hk]at hko
   replace hko:=ay.mp (hko:K8 k=true)
   refine cO (hko) λhko ki=>?_
   obtain⟨ks,km⟩:=ay.mp hko
   try clear hko
   have hmeth:∀(j:Nat) m,k.meths[j]? =some m->mN m.name=some (.ref (c.fad ((recsOf p).length+j)))/\(∃o,s.heap.get? (c.fad ((recsOf p).length+j))=some o/\o.cls=.type "function")/\∃fn,c.P.fns ((recsOf p).length+j)=some fn:=λj m hj=>by
    have hX:(gT p loose)[(recsOf p).length+j]? =some (Aa m):=by
     unfold gT
     rw [cP (aq _ _),dM,hk]
     show(k.meths.map Aa)[j]? =_
     rw [aO,hj];rfl
    obtain⟨⟨_,o,_,_,_,e1,_,_,_,e5⟩,_⟩:=hF _ _ hX
    try clear hF
    obtain⟨e6,e7⟩:=e5 (aq _ _)
    try clear e5
    exact⟨e6,⟨o,e1,e7⟩,has _ _ hX⟩
   obtain⟨mi,hmi,hni⟩:∃mi,k.meths[qt k]? =some mi/\mi.name="__init__":=by
    refine ea1_2 (iC.mp ki) ?_
    intro m h1 h2
    try clear ki
    haveI hlt:k.meths.findIdx (λm=>m.name==("__init__":Str))<k.meths.length:=List.findIdx_lt_length.mpr ⟨m,h1,h2⟩
    exact⟨k.meths[qt k]'hlt,aH hlt,eq_of_beq (GX (w:=hlt))⟩
   refine ea0_3 (hmeth _ mi hmi) ?_
   intro i1 i2 i3
   try clear mi;try clear hmi
   refine⟨P.cls,P.quiet _ (.head _),P.quiet _ (.tail _ (.head _)),P.quiet _ (.tail _ (.tail _ (.head _))),λn hn=>⟨P.quiet n (ak _ hn),?_⟩,λn g e=>?_,hni▸i1,i2,i3⟩
   ·have:=bL.mp ks n hn
    try clear i3;try clear i2;try clear i1;try clear __init__;try clear qt;try clear hni;try clear km;try clear ks;try clear P;try clear e;try clear hk;try clear k
    cases hq:fastLookup "object" n with
    |none=>replace this:=(hq)▸this;cases this
    |some y=>
     cases y with
     |none=>exact sC hq
     |some y=>replace this:=(hq)▸this;cases this
   ·replace p:=kW (f:=λm:MethRec=>m.name) (g:=λj=>(recsOf p).length+j) e
    refine c6 p ?_
    try clear p
    intro j m q_3 hj q_5
    subst q_3
    subst q_5
    try clear e
    refine ea0_3 (hmeth j m hj) ?_
    intro m1 m2 m3
    try clear j
    obtain⟨y,hy⟩:=c8.mp (bL.mp km m (aM hj))
    try clear Option;try clear km;try clear m;try clear hj
    exact⟨m1,m2,⟨y,sC hy⟩,m3⟩
  ·cases sX ok h with
   |fn hd e=>
    subst e
    exact(hF _ _ (inX _ _ hd)).2 (ae.mp hd).1
   |exc hd e=>
    subst e
    refine cO (hX _ _ hd) λh1 q_=>dw q_ λbm q_=>cO q_ λ_ h3=>?_
    exact⟨h1,(h3 _ _ hd).symm.trans (by simp)⟩
   |cls hk e=>
    cases e
    exact(hK _ hk).1
   |cst h1=>exact E4 T h1
   |bi hl hb=>
    refine ea0_3 (hbis x g hl) ?_
    intro _ h2 h3
    cases g with
    |bi b=>exact⟨h2,h3.trans (AZ hb)⟩
    |ty b=>exact⟨h2,h3.trans (B4 hb)⟩
    |_=>exact absurd hb am
  ·refine ea1_2 (fns g fn h) ?_
   intro d hd _
   try clear fns
   obtain⟨⟨_,o,pm,code,doc,e1,e2,_⟩,_⟩:=hF g d hd
   try clear hF;try clear d;try clear hd
   exact⟨o,e1,e2⟩
 have sc:=Gk (n:=n) C hf (λg fn h=>by
  refine ea1_2 (fns g fn h) ?_
  intro d hd hfn
  try clear fns
  obtain⟨⟨qual,o,pm,code,doc,e1,e2,e3,e4,_⟩,_⟩:=hF g d hd
  try clear hF;try clear d;try clear hd
  exact GJ (qual:=qual) hfn e3 e4)
 obtain⟨fn,hfn⟩:=hfn
 have hfs:c.P.fns f=some fn:=by show((gT p loose)[f]?).bind _=_;exact(inX _ _ hd)▸hfn
 haveI hfa':c.fad f=fa:=by
  haveI:=(hF f d (inX _ _ hd)).2 (ae.mp hd).1
  replace this:=(hfa).symm.trans this
  try clear hfs;try clear fn;try clear hfn
  cases this;rfl
 have S:SR c [] [] [] s:=⟨rfl,λ_ _ e=>e,hg,rfl,(λ_ _ e=>nomatch e),(λ_ _ _ e=>eY e),qY⟩
 haveI hv:∀{vs:List Value} {zs:List Int},IntsAre vs zs->VRs c [] [] s.heap (zs.map V.int) vs:=λ{vs zs} h=>Ar h
 have hbl:(zs.map V.int).length<=jR:=by
  rw [ah]
  have:(63:Nat)<=jR:=by decide
  exact fp hlen (fp this (by simp+arith only))
 haveI aok:ACk c callerA n:=⟨rfl,aa (aN (bP (aC (by decide:claimMargin<=300) 1) (bn 2 hn)) 5) (by decide),cQ (aN (aC (bn 10 hn) 4) 300) (by decide)⟩
 haveI run:=sc.run hfs aok ⟨[],rfl,λ_ h=>nomatch h⟩ S (.cons (.lst (by simp) (by simp) hl (hv hi) hbl) .nil) hlaw
 subst hfa'
 refine wpAny_mono run (λy s' r=>?_) λ_ _ e=>e.none.elim
 try clear run;try clear aok;try clear S
 obtain⟨v,H',as',e,S',k,hv,rfl⟩:=r
 try clear e;try clear as';try clear H';try clear v;try clear k
 cases hv.inv
 exact hR s' S'.stays S'.os S'.gens
theorem zT{p prog:Program}{w:World}{loose:List Str}{mean:ExcName->Option Value}{mg mb:Str->Option Value}{s:Shared}{bis:List (Str×Gl)}{csts:List (Str×V)}{mu:List (Nat×Nat)}{fz:List (Nat×List Nat)}{l:Addr}{items:Array Value}{zs:List Int}{nm:Str}{f n:Nat}{fa:Addr}{fns:List Fn}{cs:List (List Nat)}
  {Q E:Value->Shared->Prop}
  (T:Top p loose mean mg mb s.heap)(TC:TopC p loose mg s.heap)(hko:(yV p loose).all K8=true)(ok:TopOk p loose csts bis)(Y:XSays (ownsOf p) cs s.heap)(hcs:cs.length<=(ownsOf p).length)(hg:s.gens= #[])(hfns:(gT p loose).map (pY (i9 p loose csts bis) mu fz)=fns.map some)(hnm:((recsOf p)[f]?).map (·.name)=some nm)(hfa:mg nm=some (.ref fa))
  (hl:s.heap.PlainList l items)(hi:IntsAre items.toList zs)(hlen:zs.length<=63)(hn:n<=300)
  (hlaw:aJ (uJ fns cs) n f [.lst (zs.map V.int)] [] (λv _=>v=.bool true) (λ_ _=>False))
  (hR:∀s',(∀b o,s.heap.get? b=some o->s'.heap.get? b=some o)->s'.os=s.os->s'.gens= #[]->Q (.bool true) s') :
  wpAny (model prog w) callerA (call (.ref fa) [.ref l]) Q E s:=by
 have hP:qI (gT p loose) (i9 p loose csts bis) mu fz cs=uJ fns cs:=by
  unfold qI uJ
  congr 1
  funext i
  haveI h:=congrArg (·[i]?) hfns
  simp only [aO]at h
  cases h1:(gT p loose)[i]? with
  |none=>
   rw [h1]at h
   cases h2:fns[i]? with
   |none=>rfl
   |some fn=>replace h:=(h2)▸h;exact eY h
  |some d=>
   rw [h1]at h
   cases h2:fns[i]? with
   |none=>replace h:=(h2)▸h;cases h
   |some fn=>rw [h2]at h;exact ai h
 refine ea1_2 (bq.mp hnm) ?_
 intro d hd hdn
 have hall:∀d∈gT p loose,∃fn,pY (i9 p loose csts bis) mu fz d=some fn:=λd hd=>by
  haveI h:=bf (f:=pY (i9 p loose csts bis) mu fz) hd
  rw [hfns]at h
  replace h:=aG.mp h
  refine ea1_2 h ?_
  intro fn _ h
  exact⟨fn,h.symm⟩
 subst hdn
 exact Cq T TC hko ok Y hcs hg hd hfa (hall d (av _ (aM hd))) hall hl hi hlen hn (hP▸hlaw) hR
end Mine
end
noncomputable section
namespace Mine
open PySem
theorem nK{F:V->Fm->AH->KS->Prop}{ok:AH->Prop}{K:KS}(Inv:List V->Fm->AH->Prop)(step:∀v vs ρ H,Inv (v::vs) ρ H->ok H/\∀K':KS,(∀ρ' H',Inv vs ρ' H'->K' ρ' H')->F v ρ H K')(fin:∀ρ H,Inv [] ρ H->ok H/\K ρ H) :
  ∀{items:List V} {ρ:Fm} {H:AH},Inv items ρ H->forL F ok items ρ H K
 |[],ρ,H,i=>fin ρ H i
 |v::vs,ρ,H,i=>⟨(step v vs ρ H i).1,(step v vs ρ H i).2 _ λ_ _ i'=>nK Inv step fin i'⟩
section
variable {P:Prog}{H:AH}{Q:QE}{a b:Int}
theorem dR:aY P false (.bop .add) [.int a,.int b] H=some (.int (a+b),H):=rfl
theorem pT:aY P false (.bop .sub) [.int a,.int b] H=some (.int (a-b),H):=rfl
theorem zd(ha:-10 ^ 12<=a/\a<=10 ^ 12)(hb:-10 ^ 12<=b/\b<=10 ^ 12):aY P false (.bop .mul) [.int a,.int b] H=some (.int (a*b),H):=by
 show(oy Iz (.int a) (.int b)).map _=_
 have h1:cC a=true:=decide_eq_true ha
 haveI h2:cC b=true:=decide_eq_true hb
 refine(?_:bR _ (bR V.int (if(cC a&&cC b)=true then some (a*b)else none))=_)
 rw [h1,h2];rfl
theorem c9(hb:0<b):aY P false (.bop .mod) [.int a,.int b] H=some (.int (a%b),H):=by
 show bR _ (bR V.int (if 0<b then some (a%b)else none))=_
 rw [if_pos hb];rfl
theorem c7(hb:0<b)(hb':b<=10 ^ 12):aY P false (.bop .fdiv) [.int a,.int b] H=some (.int (a/b),H):=by
 show bR _ (bR V.int (if 0<b/\b<=10 ^ 12 then some (a/b)else none))=_
 rw [if_pos ⟨hb,hb'⟩];rfl
theorem k8{x y:List Char}(h:x.length+y.length<=az):aY P false (.bop .add) [.str x,.str y] H=some (.str (x++y),H):=by
 show bR _ (if x.length+y.length<=az then some (V.str (x++y))else none)=_
 rw [if_pos h];rfl
theorem Bm{x y:List V}(h:x.length+y.length<=az):aY P false (.bop .add) [.tup x,.tup y] H=some (.tup (x++y),H):=by
 show bR _ (if x.length+y.length<=az then some (V.tup (x++y))else none)=_
 rw [if_pos h];rfl
theorem p6{x y:List V}(h:x.length+y.length<=az):aY P false (.bop .add) [.lst x,.lst y] H=some (.lst (x++y),H):=by
 show bR _ (if x.length+y.length<=az then some (V.lst (x++y))else none)=_
 rw [if_pos h];rfl
theorem jx:aY P false (.cop .lt) [.int a,.int b] H=some (.bool (decide (a<b)),H):=rfl
theorem Ij:aY P false (.cop .le) [.int a,.int b] H=some (.bool (decide (a<=b)),H):=rfl
theorem pz:aY P false (.cop .gt) [.int a,.int b] H=some (.bool (decide (b<a)),H):=rfl
theorem fS{x y x' y':V}(h1:rd H x=some x')(h2:rd H y=some y'):aY P false (.cop .eq) [x,y] H=some (.bool (gf x' y'),H):=by
 show bR _ ((rd H x).bind λx=>(rd H y).map λy=>gf x y)=_
 rw [h1,h2];rfl
theorem lO{x y x' y':V}(h1:rd H x=some x')(h2:rd H y=some y'):aY P false (.cop .ne) [x,y] H=some (.bool (!gf x' y'),H):=by
 show bR _ (bR _ ((rd H x).bind λx=>(rd H y).map λy=>gf x y))=_
 rw [h1,h2];rfl
theorem dz:rd H (.int a)=some (.int a):=rfl
theorem jO{s:List Char}:rd H (.str s)=some (.str s):=rfl
theorem AS{vs:List V}(h1:V.datas vs=true)(h2:V.depths vs=0):rd H (.lst vs)=some (.lst vs):=by
 show(if(V.datas vs&&decide (V.depths vs+1<=50))=true then some (V.lst vs)else none)=_
 rw [h1,h2];rfl
theorem jG:rd H (.lst [])=some (.lst []):=rfl
theorem tT{t:Bool}:aY P false .not [.bool t] H=some (.bool !t,H):=rfl
theorem tY:aY P false .neg [.int a] H=some (.int (-a),H):=rfl
theorem mZ{xs:List V}:aY P false .len [.lst xs] H=some (.int xs.length,H):=rfl
theorem qE{xs:List Char}:aY P false .len [.str xs] H=some (.int xs.length,H):=rfl
theorem FX:aY P false .min [.int a,.int b] H=some (.int (min a b),H):=rfl
theorem fY(h:-10 ^ 12<=b/\b<=10 ^ 12):aY P false .range1 [.int b] H=some (.rng 0 b,H):=by
 exact if_pos (decide_eq_true h:cC b=true)
theorem pJ(ha:-10 ^ 12<=a/\a<=10 ^ 12)(h:-10 ^ 12<=b/\b<=10 ^ 12):aY P false .range2 [.int a,.int b] H=some (.rng a b,H):=by
 haveI h1:cC b=true:=decide_eq_true h
 haveI h2:cC a=true:=decide_eq_true ha
 refine(?_:(if(cC a&&cC b)=true then some (V.rng a b,H)else none)=_)
 rw [h1,h2];rfl
theorem rB(h:(b-a).toNat<=az):aY P false .list [.rng a b] H=some (.lst (iL a b),H):=by
 show bR _ (if(b-a).toNat<=az then some (V.lst (iL a b))else none)=_
 rw [if_pos h];rfl
theorem gH{vs:List V}(h:vs.length<=az):aY P false .mklist vs H=some (.lst vs,H):=by
 exact if_pos h
theorem ml{vs:List V}(h:vs.length<=az):aY P true .mklist vs H=some (.ref H.length,H++[.list vs]):=by
 show(if vs.length<=az then some (V.lst vs,H)else none).bind _=_
 rw [if_pos h];rfl
theorem eR{vs:List V}(h:vs.length<=az):aY P false .mktup vs H=some (.tup vs,H):=by
 exact if_pos h
theorem dU{i:Nat}{vs:List V}{x:V}(h:H[i]? =some (.list vs))(hl:vs.length<=az):aY P false .append [.ref i,x] H=some (.none,H.set i (.list (vs++[x]))):=by
 show((H[i]?.bind O.lst).bind _).bind _=_
 rw [h]
 exact if_pos hl
theorem Gs{i:Nat}{vs:List V}{x:V}(h:H[i]? =some (.list (vs++[x])))(hl:vs.length+1<=az):aY P false .pop [.ref i] H=some (x,H.set i (.list vs)):=by
 show((H[i]?.bind O.lst).bind _).bind _=_
 rw [h]
 show(if(vs++[x]).length<=az then _ else _)=_
 rw [af,DE,if_pos hl,List.getLast?_append,List.dropLast_concat];rfl
theorem d8{i:Nat}{vs:List V}(h:H[i]? =some (.list vs)):kF H (.ref i) .list=true:=by show(H[i]?.bind O.lst).isSome=_;rw [h];rfl
theorem hE{p:Option (V×AH)}{v:V}{H':AH}(e:p=some (v,H'))(q:Q v H'):g7 p Q:=by subst e;exact q
theorem hB{t:Bool}{K:Bool->Prop}(q:K t):mK (fk (.bool t)) K:=q
theorem sz(n:Nat)(h:n<=1000):n<=az:=aa h (by decide)
end
noncomputable def Ks(p:Int->Bool):V->Option V
 |.int z=>if p z then some (.int z)else none
 |_=>none
section
variable {P:Prog}{C:Calls}{ρ:Fm}{H:AH}{K:KS}{R:QE}{X:XE}{ss:List St}
theorem dT{i:Nat}{e:Ex}(h:cz P C e ρ H (λv H'=>i<ρ.length/\a7 P C ss (ρ.set i (some v)) H' K R X) X):a7 P C (.asg i e::ss) ρ H K R X:=h
theorem st_expr{e:Ex}(h:cz P C e ρ H (λ_ H'=>a7 P C ss ρ H' K R X) X):a7 P C (.expr e::ss) ρ H K R X:=h
theorem qb{c:Ex}{a b:List St}(h:cz P C c ρ H (λv H'=>mK (fk v) λt=>if t then a7 P C a ρ H' (λρ' H'=>a7 P C ss ρ' H' K R X) R X else a7 P C b ρ H' (λρ' H'=>a7 P C ss ρ' H' K R X) R X) X):a7 P C (.ite c a b::ss) ρ H K R X:=h
theorem gJ{e:Ex}(h:cz P C e ρ H R X):a7 P C (.ret e::ss) ρ H K R X:=h
theorem dA(h:K ρ H):a7 P C [] ρ H K R X:=h
theorem pR{rev:Bool}{tgt:Nat ⊕ List Nat}{e:Ex}{body:List St}(h:cz P C e ρ H (λv H₁=>∃items,je rev H₁ v=some items/\items.length<=az/\
   forL (λx ρ' H' K'=>match fX ρ' tgt x with|some ρ''=>a7 P C body ρ'' H' K' R (λ_ _=>False)|none=>False)
    (λH'=>je rev H' v=some items) items ρ H₁ (λρ' H'=>a7 P C ss ρ' H' K R X)) X):a7 P C (.forIn rev tgt e body::ss) ρ H K R X:=h
theorem Ln{p q:Prop}(h:p):if true=true then p else q:=by exact h
theorem LR{p q:Prop}(h:q):if false=true then p else q:=by exact h
end
section
variable {P:Prog}{H:AH}{Q:QE}{a b:Int}
theorem Dk{K:Bool->Prop}(q:K (decide (a<=b))):mK (iV .le (.int a) (.int b) H) K:=q
theorem Bd{t:Bool}:aY P false .int [.bool t] H=some (.int (if t then 1 else 0),H):=rfl
theorem oV:∀bs:List Bool,mm (bs.map V.bool)=some bs
 |[]=>rfl
 |b::bs=>by show(mm (bs.map V.bool)).map _=_;rw [oV bs];rfl
theorem Gy{bs:List Bool}:aY P false .all [.lst (bs.map V.bool)] H=some (.bool (bs.all id),H):=by
 show(mm (bs.map V.bool)).map _=_
 rw [oV];rfl
theorem lN{xs:List V}{i:Int}(h0:0<=i)(h1:i<xs.length):∃v,v∈xs/\aY P false .item [.lst xs,.int i] H=some (v,H):=by
 haveI h2:i.toNat<xs.length:=(fF h0).mpr h1
 refine⟨xs[i.toNat],sO h2,?_⟩
 refine(?_:((tb xs.length i).bind _).map _=_)
 simp only [kX,tb,h0,h1,if_true,aH h2,gN]
theorem uL{n j:Nat}(h:j<n):tb n (j:Int)=some j:=(if_pos (bv j)).trans (if_pos (cu.mpr h))
theorem kS{vs:List V}{j:Nat}{v:V}(hj:vs[j]? =some v):aY P false .item [.lst vs,.int j] H=some (v,H):=by
 show((tb vs.length j).bind λj=>vs[j]?).map _=_
 rw [uL (ae.mp hj).1]
 exact congrArg (bR _) hj
end
def ro:V->Prop
 |.none|.bool _|.int _|.str _=>True
 |_=>False
def good:V->Prop
 |.none|.bool _|.int _|.str _|.lst _|.dct _ _=>True
 |.tup vs=>∀v∈vs,ro v
 |_=>False
theorem eX:∀{vs:List V},(∀v∈vs,ro v)->V.datas vs=true/\V.depths vs=0
 |[],_=>⟨rfl,rfl⟩
 |v::vs,h=>by
  obtain⟨h1,h2⟩:=eX λw hw=>h w (.tail _ hw)
  have ha:=h v (.head _)
  refine⟨?_,?_⟩
  ·show (V.data v&&V.datas vs)=true
   rw [h1]
   cases v<;>first|exact ha.elim|rfl
  ·show max (V.depth v) (V.depths vs)=0
   rw [h2]
   cases v<;>first|exact ha.elim|rfl
theorem GL{vs:List V}{H:AH}(h:∀v∈vs,ro v):rd H (.lst vs)=some (.lst vs):=by
 exact AS (eX h).1 (eX h).2
section
variable {P:Prog}{H:AH}{Q:QE}{a b:Int}
theorem rn{v:V}{vs:List V}:aY P false .item [.lst (v::vs),.int 0] H=some (v,H):=kS (j:=0) rfl
theorem HW{u v:V}{vs:List V}:aY P false .item [.lst (u::v::vs),.int 1] H=some (v,H):=kS (j:=1) rfl
theorem pW{s:List Char}(h:s.length<=az):aY P false .slice [.str s,.none,.int b] H=some (.str (bM s 0 (jo s.length b)),H):=by
 show bR _ (if s.length<=az then _ else _)=_
 rw [if_pos h];rfl
theorem sw{s:List Char}(h:s.length<=az):aY P false .slice [.str s,.int a,.none] H=some (.str (bM s (jo s.length a) s.length),H):=by
 show bR _ (if s.length<=az then _ else _)=_
 rw [if_pos h];rfl
theorem nc{s:List V}(h:s.length<=az):aY P false .slice [.lst s,.int a,.none] H=some (.lst (bM s (jo s.length a) s.length),H):=by
 show bR _ (if s.length<=az then _ else _)=_
 rw [if_pos h];rfl
theorem gL{i:Nat}{vs:List V}(h:H[i]? =some (.list vs)):aY P false .len [.ref i] H=some (.int vs.length,H):=by
 show(Cm _ (H[i]?.bind O.lst)).map _=_
 rw [h];rfl
theorem iG{i:Nat}{vs:List V}(h:H[i]? =some (.list vs)):aY P false (.isinst .list) [.ref i] H=some (.bool true,H):=by
 show((H[i]?.bind (O.isTy .list))).map _=_
 rw [h];rfl
theorem kM{vs:List V}(h2:V.datas vs=true)(h3:V.depths vs<=50):rH vs=true:=by
 show(V.datas vs&&decide (V.depths vs<=50))=true
 simp only [h2,decide_eq_true h3];rfl
end
mutual
theorem gU:∀v:V,v.data=true->gf v v=true
 |.none,_=>rfl
 |.bool b,_=>beq_self_eq_true b
 |.int i,_=>beq_self_eq_true i
 |.str s,_=>beq_self_eq_true s
 |.tup vs,h=>mf vs h
 |.lst vs,h=>mf vs h
 |.dct _ _,h=>nomatch h
 |.rng _ _,h=>nomatch h
 |.ref _,h=>nomatch h
theorem mf:∀vs:List V,V.datas vs=true->wH vs vs=true
 |[],_=>rfl
 |v::vs,h=>by
  have h':(V.data v&&V.datas vs)=true:=h
  simp only [cV]at h'
  refine(?_:(gf v v&&wH vs vs)=true)
  simp only [gU v h'.1,mf vs h'.2]
  rfl
end
section
variable {P:Prog}{C:Calls}{ρ:Fm}{H:AH}{K:KS}{R:QE}{X:XE}{E:XE}{ss:List St}{a b c:Ex}{v x y z:V}{s t:Bool}
def Ev(P:Prog)(C:Calls)(ρ:Fm)(H:AH)(X:XE)(e:Ex)(v:V):Prop:=∀Q:QE,Q v H->cz P C e ρ H Q X
theorem ev_eq{e:Ex}(h:Ev P C ρ H X e v)(q:v=x):Ev P C ρ H X e x:=q▸h
theorem an:Ev P C ρ H X (.cst v) v:=λ_ q=>q
theorem ev_var{i:Nat}(h:ρ[i]? =some (some v)):Ev P C ρ H X (.var i) v:=λQ q=>by simp only [uD,h];exact q
theorem cD{p:Prim}(h:Ev P C ρ H X a x)(e:aY P false p [x] H=some (z,H)):Ev P C ρ H X (.prim false p [a]) z:=λ_ q=>h _ (hE e q)
theorem ev_p2{p:Prim}(h:Ev P C ρ H X a x)(h2:Ev P C ρ H X b y)(e:aY P false p [x,y] H=some (z,H)):Ev P C ρ H X (.prim false p [a,b]) z:=λ_ q=>h _ (h2 _ (hE e q))
theorem iE{p:Prim}{u:V}(h:Ev P C ρ H X a x)(h2:Ev P C ρ H X b y)(h3:Ev P C ρ H X c u)(e:aY P false p [x,y,u] H=some (z,H)):Ev P C ρ H X (.prim false p [a,b,c]) z:=λ_ q=>h _ (h2 _ (h3 _ (hE e q)))
theorem cN(h:Ev P C ρ H X a (.bool s)):Ev P C ρ H X (.prim false .not [a]) (.bool !s):=cD h tT
theorem g9(h:Ev P C ρ H X a (.bool s))(h2:s=false->Ev P C ρ H X b (.bool t)):Ev P C ρ H X (.or a b) (.bool (s||t)):=λQ q=>h _ (by
 cases s with
 |true=>exact q
 |false=>exact h2 rfl Q q)
theorem b8(h:Ev P C ρ H X a (.bool s))(h2:s=true->Ev P C ρ H X b (.bool t)):Ev P C ρ H X (.and a b) (.bool (s&&t)):=λQ q=>h _ (by
 cases s with
 |false=>exact q
 |true=>exact h2 rfl Q q)
theorem yh{i j k:Int}(h:Ev P C ρ H X a (.int i))(h2:Ev P C ρ H X b (.int j))(h3:Ev P C ρ H X c (.int k)):Ev P C ρ H X (.cmp2 a .le b .le c) (.bool (decide (i<=j)&&decide (j<=k))):=λQ q=>h _ (h2 _ (Dk (by
 cases hd:decide (i<=j)with
 |false=>rw [hd]at q;exact LR q
 |true=>rw [hd]at q;exact Ln (h3 _ (Dk q)))))
theorem cT{f:Nat}(h:Ev P C ρ H X a x)(hc:∀Q:QE,Q v H->C f [x] H Q X):Ev P C ρ H X (.call f [a]) v:=λQ q=>h _ (hc Q q)
theorem gk{f:Nat}(h:Ev P C ρ H X a x)(h2:Ev P C ρ H X b y)(hc:∀Q:QE,Q v H->C f [x,y] H Q X):Ev P C ρ H X (.call f [a,b]) v:=λQ q=>h _ (h2 _ (hc Q q))
theorem jc{f:Nat}(h:Ev P C ρ H X a x)(h2:Ev P C ρ H X b y)(h3:Ev P C ρ H X c z)(hc:∀Q:QE,Q v H->C f [x,y,z] H Q X):Ev P C ρ H X (.call f [a,b,c]) v:=λQ q=>h _ (h2 _ (h3 _ (hc Q q)))
theorem ev_ret{e:Ex}(h:Ev P C ρ H E e v)(q:R v H):a7 P C (.ret e::ss) ρ H K R E:=h _ q
theorem br{i:Nat}{e:Ex}(h:Ev P C ρ H E e v)(hi:i<ρ.length)(k:a7 P C ss (ρ.set i (some v)) H K R E):a7 P C (.asg i e::ss) ρ H K R E:=h _ ⟨hi,k⟩
theorem cZ{as bs:List St}(h:Ev P C ρ H E c (.bool s))(yes:s=true->a7 P C as ρ H (λρ' H'=>a7 P C ss ρ' H' K R E) R E)(no:s=false->a7 P C bs ρ H (λρ' H'=>a7 P C ss ρ' H' K R E) R E):a7 P C (.ite c as bs::ss) ρ H K R E:=h _ (by
 cases s with
 |false=>exact no rfl
 |true=>exact yes rfl)
end
noncomputable def fn0:Fn:=⟨3,0,[(.ret (.and (.prim false (.isinst .int) [.var 0]) (.and (.prim false .not [(.prim false (.isinst .bool) [.var 0])]) (.cmp2 (.var 1) .le (.var 0) .le (.var 2)))))]⟩
noncomputable def fn1:Fn:=⟨1,0,[(.ite (.or (.prim false .not [(.prim false (.isinst .str) [.var 0])]) (.prim false .not [(.cmp2 (.cst (.int 1)) .le (.prim false .len [.var 0]) .le (.cst (.int 8)))])) [(.ret (.cst (.bool false)))] []),
 (.ret (.prim false .all [(.comp false (.prim false (.cop .in_) [.var 1,.cst (.str ['a','b','c','d','e','f','g','h','i','j','k','l','m','n','o','p','q','r','s','t','u','v','w','x','y','z'])]) (.var 0) none)]))]⟩
noncomputable def fn2:Fn:=⟨1,0,[(.ite (.prim false .not [(.prim false (.isinst .tuple) [.var 0])]) [(.ret (.cst (.bool false)))] []),
 (.ite (.prim false (.cop .eq) [(.prim false .len [.var 0]),.cst (.int 2)]) [(.ret (.and (.prim false (.cop .eq) [(.prim false .item [.var 0,.cst (.int 0)]),.cst (.str ['a','d','d'])]) (.call 0 [(.prim false .item [.var 0,.cst (.int 1)]),(.prim false (.bop .sub) [.cst (.int 0),.cst (.int 1000000000)]),.cst (.int 1000000000)])))] []),
 (.ret (.or (.prim false (.cop .eq) [.var 0,(.prim false .mktup [.cst (.str ['f','a','u','l','t'])])]) (.prim false (.cop .eq) [.var 0,(.prim false .mktup [.cst (.str ['l','e','a','v','e'])])])))]⟩
noncomputable def fn3:Fn:=⟨1,0,[(.ite (.or (.prim false .not [(.prim false (.isinst .tuple) [.var 0])]) (.or (.prim false (.cop .ne) [(.prim false .len [.var 0]),.cst (.int 3)]) (.prim false (.cop .ne) [(.prim false .item [.var 0,.cst (.int 0)]),.cst (.str ['w','o','r','k','e','r'])]))) [(.ret (.cst (.bool false)))] []),
 (.ret (.and (.call 1 [(.prim false .item [.var 0,.cst (.int 1)])]) (.prim false (.cop .in_) [(.prim false .item [.var 0,.cst (.int 2)]),(.prim false .mktup [.cst (.str ['a','l','w','a','y','s']),.cst (.str ['f','a','u','l','t','e','d']),.cst (.str ['n','e','v','e','r'])])])))]⟩
noncomputable def fn4:Fn:=⟨1,0,[(.ite (.or (.prim false .not [(.prim false (.isinst .tuple) [.var 0])]) (.or (.prim false (.cop .ne) [(.prim false .len [.var 0]),.cst (.int 6)]) (.prim false (.cop .ne) [(.prim false .item [.var 0,.cst (.int 0)]),.cst (.str ['w','a','r','d','e','n'])]))) [(.ret (.cst (.bool false)))] []),
 (.ite (.or (.prim false .not [(.call 1 [(.prim false .item [.var 0,.cst (.int 1)])])]) (.prim false (.cop .notin) [(.prim false .item [.var 0,.cst (.int 2)]),(.prim false .mktup [.cst (.str ['o','n','e']),.cst (.str ['r','e','s','t']),.cst (.str ['a','l','l'])])])) [(.ret (.cst (.bool false)))] []),
 (.ite (.or (.prim false .not [(.call 0 [(.prim false .item [.var 0,.cst (.int 3)]),.cst (.int 0),.cst (.int 1000000000)])]) (.prim false .not [(.call 0 [(.prim false .item [.var 0,.cst (.int 4)]),.cst (.int 1),.cst (.int 1000000000)])])) [(.ret (.cst (.bool false)))] []),
 (.ret (.and (.prim false (.isinst .tuple) [(.prim false .item [.var 0,.cst (.int 5)])]) (.cmp2 (.cst (.int 1)) .le (.prim false .len [(.prim false .item [.var 0,.cst (.int 5)])]) .le (.cst (.int 8)))))]⟩
noncomputable def fn5:Fn:=⟨1,4,[(.ite (.prim false .not [(.call 4 [.var 0])]) [(.ret (.cst (.bool false)))] []),
 (.asg 1 (.prim true .mklist [(.prim false .mktup [.var 0,.cst (.int 0)])])),
 (.asg 2 (.prim true (.mkdict []) [])),
 (.while_ (.prim false (.cop .gt) [(.prim false .len [.var 1]),.cst (.int 0)]) [(.asgTup [3,4] (.mcall .list false .pop (.var 1) [])),
 (.ite (.or (.prim false (.cop .gt) [.var 4,.cst (.int 6)]) (.and (.prim false .not [(.call 3 [.var 3])]) (.prim false .not [(.call 4 [.var 3])]))) [(.ret (.cst (.bool false)))] []),
 (.ite (.or (.prim false (.cop .in_) [(.prim false .item [.var 3,.cst (.int 1)]),.var 2]) (.prim false (.cop .eq) [(.prim false .len [.var 2]),.cst (.int 60)])) [(.ret (.cst (.bool false)))] []),
 (.setItem (.var 2) (.prim false .item [.var 3,.cst (.int 1)]) (.cst (.bool true))),
 (.ite (.call 4 [.var 3]) [(.expr (.mcall .list false .extend (.var 1) [(.comp false (.prim false .mktup [.var 5,(.prim false (.bop .add) [.var 4,.cst (.int 1)])]) (.prim false .item [.var 3,.cst (.int 5)]) none)]))] [])]),
 (.ret (.cst (.bool true)))]⟩
noncomputable def fn6:Fn:=⟨1,2,[(.asg 1 (.prim true .mklist [.var 0])),
 (.ite (.prim false (.cop .eq) [(.prim false .item [.var 0,.cst (.int 0)]),.cst (.str ['w','a','r','d','e','n'])]) [(.forIn false (.inl 2) (.prim false .item [.var 0,.cst (.int 5)]) [(.expr (.mcall .list false .extend (.var 1) [(.call 6 [.var 2])]))])] []),
 (.ret (.var 1))]⟩
noncomputable def fn7:Fn:=⟨3,0,[(.ret (.comp true (.var 3) (.var 0) (some (.prim false (.cop .gt) [.var 3,(.prim false (.bop .sub) [.var 1,.var 2])]))))]⟩
noncomputable def fn8:Fn:=⟨3,0,[(.ite (.prim false (.cop .eq) [.var 0,.cst (.str ['o','n','e'])]) [(.ret (.prim false .mklist [.var 2]))] []),
 (.ite (.prim false (.cop .eq) [.var 0,.cst (.str ['r','e','s','t'])]) [(.ret (.prim false .list [(.prim false .range2 [.var 2,.var 1])]))] []),
 (.ret (.prim false .list [(.prim false .range1 [.var 1])]))]⟩
noncomputable def fn9:Fn:=⟨2,0,[(.ite (.prim false (.cop .lt) [.var 1,(.prim false .len [.var 0])]) [(.ret (.prim false .item [.var 0,.var 1]))] []),
 (.ret (.cst (.int 0)))]⟩
noncomputable def J4:Fn:=⟨1,0,[(.ret (.and (.prim false (.isinst .int) [.var 0]) (.prim false .not [(.prim false (.isinst .bool) [.var 0])])))]⟩
noncomputable def Fd:Fn:=⟨2,7,[(.asg 2 (.cst (.str ['a','b','c','d','e','f','g','h','i','j','k','l','m','n','o','p','q','r','s','t','u','v','w','x','y','z']))),
 (.asg 3 (.cst (.str []))),
 (.asg 4 (.prim false (.bop .fdiv) [.var 0,.cst (.int 48)])),
 (.forIn false (.inl 5) (.prim false .range1 [.cst (.int 8)]) [(.asg 3 (.prim false (.bop .add) [.var 3,(.prim false .item [.var 2,(.prim false (.bop .mod) [.var 4,.cst (.int 26)])])])),
 (.asg 4 (.prim false (.bop .fdiv) [.var 4,.cst (.int 26)]))]),
 (.asg 6 (.prim false (.bop .mod) [.var 0,.cst (.int 6)])),
 (.ite (.and (.prim false (.cop .eq) [.var 6,.cst (.int 0)]) (.prim false (.cop .lt) [.var 1,.cst (.int 9)])) [(.ret (.comp false (.prim false .slice [.var 3,.cst .none,(.prim false (.bop .add) [.var 9,.cst (.int 1)])]) (.prim false .range1 [.var 1]) none))] []),
 (.ite (.and (.prim false (.cop .eq) [.var 6,.cst (.int 1)]) (.prim false (.cop .lt) [.var 1,.cst (.int 9)])) [(.ret (.comp false (.prim false .slice [.var 3,(.prim false (.bop .sub) [.cst (.int 7),.var 9]),.cst .none]) (.prim false .range1 [.var 1]) none))] []),
 (.asg 3 (.prim false .slice [.var 3,.cst .none,(.prim false (.bop .mod) [(.prim false (.bop .fdiv) [.var 0,.cst (.int 6)]),.cst (.int 7)])])),
 (.ite (.and (.prim false (.cop .lt) [.var 6,.cst (.int 4)]) (.prim false (.cop .lt) [.var 1,.cst (.int 27)])) [(.asg 7 (.prim false .slice [.var 3,.cst .none,(.prim false (.bop .mod) [(.prim false (.bop .fdiv) [.var 0,.cst (.int 5)]),(.prim false (.bop .add) [(.prim false .len [.var 3]),.cst (.int 1)])])])),
 (.asg 8 (.prim false .slice [.var 3,(.prim false .len [.var 7]),.cst .none])),
 (.ret (.comp false (.prim false (.bop .add) [(.prim false (.bop .add) [.var 7,(.prim false .item [.var 2,(.prim false (.bop .mod) [(.prim false (.bop .add) [(.prim false (.bop .fdiv) [.var 0,.cst (.int 7)]),(.prim false (.bop .mul) [.cst (.int 7),.var 9])]),.cst (.int 26)])])]),.var 8]) (.prim false .range1 [.var 1]) none))] []),
 (.ret (.comp false (.prim false (.bop .add) [(.prim false (.bop .add) [.var 3,(.prim false .item [.var 2,(.prim false (.bop .fdiv) [.var 9,.cst (.int 26)])])]),(.prim false .item [.var 2,(.prim false (.bop .mod) [.var 9,.cst (.int 26)])])]) (.prim false .range1 [.var 1]) none))]⟩
noncomputable def Iu:Fn:=⟨1,1,[(.ite (.prim false (.cop .gt) [(.prim false (.bop .mod) [.var 0,.cst (.int 5)]),.cst (.int 2)]) [(.ret (.prim false .item [(.prim false .mklist [(.prim false .mktup [.cst (.str ['f','a','u','l','t'])]),(.prim false .mktup [.cst (.str ['l','e','a','v','e'])])]),(.prim false (.bop .sub) [(.prim false (.bop .mod) [.var 0,.cst (.int 5)]),.cst (.int 3)])]))] []),
 (.asg 1 (.prim false .item [(.prim false .mklist [(.prim false (.bop .sub) [(.prim false (.bop .mod) [(.prim false (.bop .fdiv) [.var 0,.cst (.int 10)]),.cst (.int 9)]),.cst (.int 4)]),(.prim false (.bop .sub) [(.prim false (.bop .mod) [(.prim false (.bop .fdiv) [.var 0,.cst (.int 10)]),(.prim false (.bop .add) [(.prim false (.bop .mul) [.cst (.int 2),(.prim false (.bop .pow) [.cst (.int 10),.cst (.int 9)])]),.cst (.int 1)])]),(.prim false (.bop .pow) [.cst (.int 10),.cst (.int 9)])])]),(.prim false .int [(.prim false (.cop .eq) [(.prim false (.bop .mod) [.var 0,.cst (.int 5)]),.cst (.int 2)])])])),
 (.ret (.prim false .mktup [.cst (.str ['a','d','d']),.var 1]))]⟩
noncomputable def Cj:Fn:=⟨2,7,[(.asg 2 (.prim true .mklist [(.prim true (.mkdict [['u','p'],['w','a','r','d','e','n'],['d','e','e','p'],['i','n','n','e','r'],['c','e','l','l']]) [(.prim false .neg [.cst (.int 1)]),.cst (.bool true),.cst (.int 1),(.prim true .mklist []),(.call 9 [.var 0,.cst (.int 2)])])])),
 (.forIn false (.inl 3) (.prim false .range2 [.cst (.int 1),.var 1]) [(.asg 4 (.prim false (.bop .add) [(.call 9 [.var 0,(.prim false (.bop .add) [.cst (.int 3),(.prim false (.bop .mod) [.var 3,.cst (.int 10)])])]),(.prim false (.bop .mul) [.cst (.int 11),(.prim false (.bop .fdiv) [.var 3,.cst (.int 10)])])])),
 (.asg 5 (.comp false (.var 9) (.prim false .range1 [(.prim false .len [.var 2])]) (some (.and (.prim false .item [(.prim false .item [.var 2,.var 9]),.cst (.str ['w','a','r','d','e','n'])]) (.prim false (.cop .lt) [(.prim false .len [(.prim false .item [(.prim false .item [.var 2,.var 9]),.cst (.str ['i','n','n','e','r'])])]),.cst (.int 8)]))))),
 (.ite (.prim false (.cop .ne) [.var 5,(.prim false .mklist [])]) [(.asg 6 (.prim false .item [.var 5,(.prim false (.bop .mod) [(.prim false (.bop .fdiv) [.var 4,.cst (.int 4)]),(.prim false .len [.var 5])])])),
 (.asg 7 (.and (.prim false (.cop .eq) [(.prim false (.bop .mod) [.var 4,.cst (.int 4)]),.cst (.int 3)]) (.prim false (.cop .lt) [(.prim false .item [(.prim false .item [.var 2,.var 6]),.cst (.str ['d','e','e','p'])]),.cst (.int 6)]))),
 (.expr (.mcall .list false .append (.prim false .item [(.prim false .item [.var 2,.var 6]),.cst (.str ['i','n','n','e','r'])]) [(.prim false .len [.var 2])])),
 (.asg 8 (.prim false (.bop .add) [(.prim false .item [(.prim false .item [.var 2,.var 6]),.cst (.str ['d','e','e','p'])]),.cst (.int 1)])),
 (.expr (.mcall .list false .append (.var 2) [(.prim true (.mkdict [['u','p'],['w','a','r','d','e','n'],['d','e','e','p'],['i','n','n','e','r'],['c','e','l','l']]) [.var 6,.var 7,.var 8,(.prim true .mklist []),(.prim false (.bop .fdiv) [.var 4,.cst (.int 32)])])]))] [])]),
 (.forIn false (.inl 3) (.prim false .range1 [(.prim false .len [.var 2])]) [(.ite (.and (.prim false .item [(.prim false .item [.var 2,.var 3]),.cst (.str ['w','a','r','d','e','n'])]) (.prim false (.cop .eq) [(.prim false .item [(.prim false .item [.var 2,.var 3]),.cst (.str ['i','n','n','e','r'])]),(.prim false .mklist [])])) [(.expr (.mcall .list false .append (.prim false .item [(.prim false .item [.var 2,.var 3]),.cst (.str ['i','n','n','e','r'])]) [(.prim false .len [.var 2])])),
 (.asg 8 (.prim false (.bop .add) [(.prim false .item [(.prim false .item [.var 2,.var 3]),.cst (.str ['d','e','e','p'])]),.cst (.int 1)])),
 (.expr (.mcall .list false .append (.var 2) [(.prim true (.mkdict [['u','p'],['w','a','r','d','e','n'],['d','e','e','p'],['i','n','n','e','r'],['c','e','l','l']]) [.var 3,.cst (.bool false),.var 8,(.prim true .mklist []),(.prim false (.bop .fdiv) [(.prim false .item [(.prim false .item [.var 2,.var 3]),.cst (.str ['c','e','l','l'])]),.cst (.int 7)])])]))] [])]),
 (.ret (.var 2))]⟩
noncomputable def HZ:Fn:=⟨2,3,[(.asg 2 (.prim true .mklist [])),
 (.asg 3 (.prim false .mklist [.var 1])),
 (.while_ (.prim false (.cop .ne) [.var 3,(.prim false .mklist [])]) [(.asg 4 (.prim false .item [.var 3,.cst (.int 0)])),
 (.expr (.mcall .list false .append (.var 2) [.var 4])),
 (.asg 3 (.prim false (.bop .add) [(.prim false .item [(.prim false .item [.var 0,.var 4]),.cst (.str ['i','n','n','e','r'])]),(.prim false .slice [.var 3,.cst (.int 1),.cst .none])]))]),
 (.ret (.var 2))]⟩
noncomputable def JU:Fn:=⟨1,0,[(.ret (.prim false .item [(.prim false .mklist [.cst (.int 0),.cst (.int 1),.cst (.int 2),.cst (.int 1),.cst (.int 3),(.prim false (.bop .pow) [.cst (.int 10),.cst (.int 9)]),(.prim false (.bop .mod) [(.prim false (.bop .fdiv) [.var 0,.cst (.int 6)]),.cst (.int 9)]),(.prim false (.bop .mod) [(.prim false (.bop .fdiv) [.var 0,.cst (.int 6)]),(.prim false (.bop .add) [(.prim false (.bop .pow) [.cst (.int 10),.cst (.int 9)]),.cst (.int 1)])])]),(.prim false (.bop .mod) [.var 0,.cst (.int 8)])]))]⟩
noncomputable def II:Fn:=⟨1,0,[(.ret (.prim false .item [(.prim false .mklist [.cst (.int 3),.cst (.int 1),(.prim false (.bop .pow) [.cst (.int 10),.cst (.int 9)]),.cst (.int 2),(.prim false (.bop .add) [.cst (.int 1),(.prim false (.bop .mod) [(.prim false (.bop .fdiv) [.var 0,.cst (.int 6)]),.cst (.int 12)])]),(.prim false (.bop .add) [.cst (.int 1),(.prim false (.bop .mod) [(.prim false (.bop .fdiv) [.var 0,.cst (.int 6)]),(.prim false (.bop .pow) [.cst (.int 10),.cst (.int 9)])])])]),(.prim false (.bop .mod) [.var 0,.cst (.int 6)])]))]⟩
noncomputable def Eg:Fn:=⟨3,5,[(.asg 3 (.prim false .item [(.prim false .item [.var 0,.var 2]),.cst (.str ['c','e','l','l'])])),
 (.ite (.prim false .not [(.prim false .item [(.prim false .item [.var 0,.var 2]),.cst (.str ['w','a','r','d','e','n'])])]) [(.ret (.prim false .mktup [.cst (.str ['w','o','r','k','e','r']),(.prim false .item [.var 1,.var 2]),(.prim false .item [(.prim false .mklist [.cst (.str ['a','l','w','a','y','s']),.cst (.str ['f','a','u','l','t','e','d']),.cst (.str ['n','e','v','e','r']),.cst (.str ['f','a','u','l','t','e','d'])]),(.prim false (.bop .mod) [.var 3,.cst (.int 4)])])]))] []),
 (.asg 4 (.prim false .item [(.prim false .mklist [.cst (.str ['o','n','e']),.cst (.str ['r','e','s','t']),.cst (.str ['a','l','l'])]),(.prim false (.bop .mod) [.var 3,.cst (.int 3)])])),
 (.asg 5 (.prim false .mktup [])),
 (.forIn false (.inl 6) (.prim false .item [(.prim false .item [.var 0,.var 2]),.cst (.str ['i','n','n','e','r'])]) [(.asg 5 (.prim false (.bop .add) [.var 5,(.prim false .mktup [(.call 17 [.var 0,.var 1,.var 6])])]))]),
 (.asg 7 (.call 15 [(.prim false (.bop .fdiv) [.var 3,.cst (.int 3)])])),
 (.ite (.and (.prim false (.cop .eq) [.var 2,.cst (.int 0)]) (.prim false (.cop .gt) [(.prim false (.bop .mod) [(.prim false (.bop .fdiv) [.var 3,.cst (.int 3)]),.cst (.int 4)]),.cst (.int 0)])) [(.asg 7 (.prim false .min [(.prim false (.bop .pow) [.cst (.int 10),.cst (.int 9)]),(.prim false (.bop .add) [.var 7,.cst (.int 4)])]))] []),
 (.ret (.prim false .mktup [.cst (.str ['w','a','r','d','e','n']),(.prim false .item [.var 1,.var 2]),.var 4,.var 7,(.call 16 [(.prim false (.bop .fdiv) [.var 3,.cst (.int 24)])]),.var 5]))]⟩
noncomputable def Es:Fn:=⟨1,5,[(.asg 1 (.call 9 [.var 0,.cst (.int 0)])),
 (.asg 2 (.prim false (.bop .add) [.cst (.int 2),(.prim false (.bop .mod) [.var 1,.cst (.int 9)])])),
 (.ite (.prim false (.cop .eq) [(.prim false (.bop .mod) [(.prim false (.bop .fdiv) [.var 1,.cst (.int 9)]),.cst (.int 12)]),.cst (.int 1)]) [(.asg 2 (.cst (.int 30)))] []),
 (.asg 3 (.call 13 [.var 0,.var 2])),
 (.asg 4 (.call 11 [(.call 9 [.var 0,.cst (.int 1)]),(.prim false .len [.var 3])])),
 (.asg 5 (.comp false (.call 17 [.var 3,.var 4,.var 6]) (.prim false .range1 [(.prim false .len [.var 3])]) none)),
 (.ret (.prim false (.mkdict [['n','o','d','e','s'],['n','a','m','e','s'],['p','a','r','t','s'],['p','l','a','n'],['o','r','d','e','r']]) [.var 3,.var 4,.var 5,(.prim false .item [.var 5,.cst (.int 0)]),(.call 14 [.var 3,.cst (.int 0)])]))]⟩
noncomputable def Jy:Fn:=⟨1,1,[(.ite (.prim false .not [(.prim false (.isinst .list) [.var 0])]) [(.ret (.cst (.bool false)))] []),
 (.forIn false (.inl 1) (.var 0) [(.ite (.or (.prim false .not [(.prim false (.isinst .tuple) [.var 1])]) (.or (.prim false (.cop .lt) [(.prim false .len [.var 1]),.cst (.int 2)]) (.or (.prim false .not [(.prim false (.isinst .str) [(.prim false .item [.var 1,.cst (.int 0)])])]) (.prim false .not [(.prim false (.isinst .str) [(.prim false .item [.var 1,.cst (.int 1)])])])))) [(.ret (.cst (.bool false)))] []),
 (.ite (.and (.prim false (.cop .gt) [(.prim false .len [.var 1]),.cst (.int 2)]) (.prim false .not [(.call 10 [(.prim false .item [.var 1,.cst (.int 2)])])])) [(.ret (.cst (.bool false)))] []),
 (.ite (.and (.prim false (.cop .gt) [(.prim false .len [.var 1]),.cst (.int 3)]) (.or (.prim false (.cop .gt) [(.prim false .len [.var 1]),.cst (.int 4)]) (.prim false .not [(.prim false (.isinst .tuple) [(.prim false .item [.var 1,.cst (.int 3)])])]))) [(.ret (.cst (.bool false)))] [])]),
 (.ret (.cst (.bool true)))]⟩
noncomputable def J6:Fn:=⟨1,0,[(.ret (.and (.prim false (.isinst .list) [.var 0]) (.prim false (.cop .eq) [(.comp false (.var 1) (.var 0) (some (.prim false .not [(.prim false (.isinst .str) [.var 1])]))),(.prim false .mklist [])])))]⟩
noncomputable def JZ:Fn:=⟨1,0,[(.ret (.and (.prim false (.isinst .list) [.var 0]) (.prim false (.cop .eq) [(.comp false (.var 1) (.var 0) (some (.prim false .not [(.call 10 [.var 1])]))),(.prim false .mklist [])])))]⟩
noncomputable def Ic:Fn:=⟨2,0,[(.try_ [(.ite (.prim false (.cop .eq) [(.prim false .item [.var 1,.cst (.int 0)]),.cst (.str ['s','e','n','d'])]) [(.ret (.meth 0 53 ['s','e','n','d'] (.var 0) [(.prim false .item [.var 1,.cst (.int 1)]),(.prim false .item [.var 1,.cst (.int 2)])]))] []),
 (.ite (.prim false (.cop .eq) [(.prim false .item [.var 1,.cst (.int 0)]),.cst (.str ['w','o','r','k'])]) [(.ret (.meth 0 54 ['w','o','r','k'] (.var 0) [(.prim false .item [.var 1,.cst (.int 1)])]))] []),
 (.ret (.meth 0 55 ['f','a','i','l'] (.var 0) [(.prim false .item [.var 1,.cst (.int 1)])]))] 0)]⟩
noncomputable def Er:Fn:=⟨4,3,[(.asg 4 (.prim false (.bop .fdiv) [.var 0,.cst (.int 10)])),
 (.asg 5 (.prim false .item [.var 1,(.prim false (.bop .mod) [.var 4,(.prim false .len [.var 1])])])),
 (.asg 6 (.comp false (.var 7) (.var 1) (some (.prim false (.cop .in_) [.var 7,.var 2])))),
 (.ite (.and (.prim false (.cop .ne) [.var 6,(.prim false .mklist [])]) (.prim false (.cop .lt) [(.prim false (.bop .mod) [.var 0,.cst (.int 10)]),.cst (.int 9)])) [(.asg 5 (.prim false .item [.var 6,(.prim false (.bop .mod) [.var 4,(.prim false .len [.var 6])])]))] []),
 (.ite (.prim false (.cop .lt) [(.prim false (.bop .mod) [.var 0,.cst (.int 10)]),.cst (.int 3)]) [(.ret (.prim false .mklist [(.prim false .mktup [.cst (.str ['s','e','n','d']),.var 5,(.call 12 [(.prim false (.bop .fdiv) [.var 4,.cst (.int 8)])])])]))] []),
 (.ite (.prim false (.cop .lt) [(.prim false (.bop .mod) [.var 0,.cst (.int 10)]),.cst (.int 6)]) [(.ret (.prim false .mklist [(.prim false .mktup [.cst (.str ['s','e','n','d']),.var 5,(.call 12 [(.prim false (.bop .fdiv) [.var 4,.cst (.int 8)])])]),(.prim false .mktup [.cst (.str ['w','o','r','k']),.var 5])]))] []),
 (.ite (.and (.prim false (.cop .lt) [(.prim false (.bop .mod) [.var 0,.cst (.int 10)]),.cst (.int 8)]) (.prim false (.cop .ne) [.var 3,(.prim false .mklist [])])) [(.ret (.prim false .mklist [(.prim false .mktup [.cst (.str ['w','o','r','k']),(.prim false .item [.var 3,(.prim false (.bop .mod) [.var 4,(.prim false .len [.var 3])])])])]))] []),
 (.ite (.and (.prim false (.cop .eq) [(.prim false (.bop .mod) [.var 0,.cst (.int 10)]),.cst (.int 8)]) (.prim false (.cop .ne) [.var 2,(.prim false .mklist [])])) [(.ret (.prim false .mklist [(.prim false .mktup [.cst (.str ['f','a','i','l']),(.prim false .item [.var 2,(.prim false (.bop .mod) [.var 4,(.prim false .len [.var 2])])])])]))] []),
 (.ret (.prim false .item [(.prim false .mklist [(.prim false .mklist [(.prim false .mktup [.cst (.str ['w','o','r','k']),.var 5])]),(.prim false .mklist [(.prim false .mktup [.cst (.str ['f','a','i','l']),.var 5])]),(.prim false .mklist [(.prim false .mktup [.cst (.str ['s','e','n','d']),.var 5,(.call 12 [(.prim false (.bop .fdiv) [.var 4,.cst (.int 8)])])])])]),(.prim false (.bop .mod) [(.prim false (.bop .fdiv) [.var 4,.cst (.int 5)]),.cst (.int 3)])]))]⟩
noncomputable def H9:Fn:=⟨1,0,[(.ret (.comp false (.prim false .item [(.prim false .item [.var 0,.cst (.str ['n','a','m','e','s'])]),.var 1]) (.prim false .item [.var 0,.cst (.str ['o','r','d','e','r'])]) (some (.prim false .not [(.prim false .item [(.prim false .item [(.prim false .item [.var 0,.cst (.str ['n','o','d','e','s'])]),.var 1]),.cst (.str ['w','a','r','d','e','n'])])]))))]⟩
noncomputable def Iy:Fn:=⟨1,2,[(.asg 1 (.prim false .len [(.prim false .item [.var 0,.cst (.str ['n','o','d','e','s'])])])),
 (.asg 2 (.prim true (.mkdict [['h','e','r','e'],['s','u','m'],['m','a','i','l'],['h','o','u','r'],['s','e','n','t']]) [(.prim true .rep [(.prim false .mklist [.cst (.bool false)]),.var 1]),(.prim true .rep [(.prim false .mklist [.cst (.int 0)]),.var 1]),(.comp true (.prim false .mklist []) (.prim false .range1 [.var 1]) none),.cst (.int 0),.cst (.int 0)])),
 (.setItem (.var 2) (.cst (.str ['k','e','p','t'])) (.comp true (.prim false .mklist []) (.prim false .range1 [.var 1]) none)),
 (.setItem (.var 2) (.cst (.str ['r','o','w','s'])) (.prim true .mklist [])),
 (.expr (.call 26 [.var 0,.var 2,.cst (.int 0)])),
 (.ret (.var 2))]⟩
noncomputable def HU:Fn:=⟨3,1,[(.forIn false (.inl 3) (.call 14 [(.prim false .item [.var 0,.cst (.str ['n','o','d','e','s'])]),.var 2]) [(.setItem (.prim false .item [.var 1,.cst (.str ['h','e','r','e'])]) (.var 3) (.cst (.bool true))),
 (.setItem (.prim false .item [.var 1,.cst (.str ['s','u','m'])]) (.var 3) (.cst (.int 0))),
 (.setItem (.prim false .item [.var 1,.cst (.str ['k','e','p','t'])]) (.var 3) (.prim false .mklist [])),
 (.expr (.mcall .list false .append (.prim false .item [.var 1,.cst (.str ['r','o','w','s'])]) [(.prim false .mktup [.cst (.str ['b','e','g','i','n','s']),(.prim false .item [(.prim false .item [.var 0,.cst (.str ['n','a','m','e','s'])]),.var 3])])]))])]⟩
noncomputable def Jn:Fn:=⟨3,1,[(.forIn false (.inl 3) (.prim false .rev [.var 2,(.prim false .neg [.cst (.int 1)])]) [(.ite (.prim false .item [(.prim false .item [.var 1,.cst (.str ['h','e','r','e'])]),.var 3]) [(.setItem (.prim false .item [.var 1,.cst (.str ['h','e','r','e'])]) (.var 3) (.cst (.bool false))),
 (.expr (.mcall .list false .append (.prim false .item [.var 1,.cst (.str ['r','o','w','s'])]) [(.prim false .mktup [.cst (.str ['e','n','d','s']),(.prim false .item [(.prim false .item [.var 0,.cst (.str ['n','a','m','e','s'])]),.var 3])])]))] [])])]⟩
noncomputable def IQ:Fn:=⟨2,0,[(.ret (.and (.prim false (.cop .eq) [(.prim false .item [(.prim false .item [(.prim false .item [.var 0,.cst (.str ['p','a','r','t','s'])]),.var 1]),.cst (.int 2)]),.cst (.str ['n','e','v','e','r'])]) (.prim false .not [(.prim false .item [(.prim false .item [(.prim false .item [.var 0,.cst (.str ['n','o','d','e','s'])]),.var 1]),.cst (.str ['w','a','r','d','e','n'])])])))]⟩
noncomputable def Ir:Fn:=⟨4,6,[(.asg 4 (.prim false .item [(.prim false .item [(.prim false .item [.var 0,.cst (.str ['n','o','d','e','s'])]),.var 2]),.cst (.str ['i','n','n','e','r'])])),
 (.asg 5 (.mcall .list false .lindex (.var 4) [.var 3])),
 (.asg 6 (.prim false .item [(.prim false .item [(.prim false .item [.var 0,.cst (.str ['p','a','r','t','s'])]),.var 2]),.cst (.int 2)])),
 (.asg 7 (.prim false .item [(.prim false (.mkdict [['o','n','e'],['r','e','s','t'],['a','l','l']]) [(.prim false .mklist [.var 3]),(.prim false .slice [.var 4,.var 5,.cst .none]),.var 4]),.var 6])),
 (.asg 9 (.comp false (.var 10) (.var 7) (some (.or (.prim false (.cop .eq) [.var 10,.var 3]) (.and (.prim false .item [(.prim false .item [.var 1,.cst (.str ['h','e','r','e'])]),.var 10]) (.prim false .not [(.call 28 [.var 0,.var 10])])))))),
 (.forIn false (.inl 8) (.prim false .rev [.var 7,(.prim false .neg [.cst (.int 1)])]) [(.expr (.call 27 [.var 0,.var 1,(.call 14 [(.prim false .item [.var 0,.cst (.str ['n','o','d','e','s'])]),.var 8])]))]),
 (.forIn false (.inl 8) (.var 9) [(.expr (.call 26 [.var 0,.var 1,.var 8]))])]⟩
noncomputable def rA:Fn:=⟨4,3,[(.asg 4 (.prim false .not [(.call 28 [.var 0,.var 2])])),
 (.ite (.prim false (.cop .eq) [.var 3,.cst (.str ['l','e','a','v','e','s'])]) [(.asg 4 (.prim false (.cop .eq) [(.prim false .item [(.prim false .item [(.prim false .item [.var 0,.cst (.str ['p','a','r','t','s'])]),.var 2]),.cst (.int 2)]),.cst (.str ['a','l','w','a','y','s'])]))] []),
 (.while_ (.cst (.bool true)) [(.setItem (.prim false .item [.var 1,.cst (.str ['h','e','r','e'])]) (.var 2) (.cst (.bool false))),
 (.expr (.mcall .list false .append (.prim false .item [.var 1,.cst (.str ['r','o','w','s'])]) [(.prim false .mktup [.var 3,(.prim false .item [(.prim false .item [.var 0,.cst (.str ['n','a','m','e','s'])]),.var 2])])])),
 (.expr (.call 27 [.var 0,.var 1,(.prim false .slice [(.call 14 [(.prim false .item [.var 0,.cst (.str ['n','o','d','e','s'])]),.var 2]),.cst (.int 1),.cst .none])])),
 (.asg 5 (.prim false .item [(.prim false .item [(.prim false .item [.var 0,.cst (.str ['n','o','d','e','s'])]),.var 2]),.cst (.str ['u','p'])])),
 (.ite (.or (.prim false .not [.var 4]) (.prim false (.cop .lt) [.var 5,.cst (.int 0)])) [(.ret (.cst .none))] []),
 (.asg 6 (.prim false .item [(.prim false .item [.var 0,.cst (.str ['p','a','r','t','s'])]),.var 5])),
 (.setItem (.prim false .item [.var 1,.cst (.str ['k','e','p','t'])]) (.var 5) (.prim false (.bop .add) [(.comp false (.var 7) (.prim false .item [(.prim false .item [.var 1,.cst (.str ['k','e','p','t'])]),.var 5]) (some (.prim false (.cop .gt) [(.prim false (.bop .add) [.var 7,(.prim false .item [.var 6,.cst (.int 4)])]),(.prim false .item [.var 1,.cst (.str ['h','o','u','r'])])]))),(.prim false .mklist [(.prim false .item [.var 1,.cst (.str ['h','o','u','r'])])])])),
 (.ite (.prim false (.cop .le) [(.prim false .len [(.prim false .item [(.prim false .item [.var 1,.cst (.str ['k','e','p','t'])]),.var 5])]),(.prim false .item [.var 6,.cst (.int 3)])]) [(.expr (.call 29 [.var 0,.var 1,.var 5,.var 2])),
 (.ret (.cst .none))] []),
 (.asg 2 (.var 5)),
 (.asg 3 (.cst (.str ['f','a','i','l','s'])))])]⟩
noncomputable def HH:Fn:=⟨3,2,[(.asg 3 (.prim false .item [(.prim false .item [(.prim false .item [(.prim false .item [.var 1,.cst (.str ['m','a','i','l'])]),.var 2]),.cst (.int 0)]),.cst (.int 0)])),
 (.asg 4 (.prim false .item [(.prim false .item [(.prim false .item [(.prim false .item [.var 1,.cst (.str ['m','a','i','l'])]),.var 2]),.cst (.int 0)]),.cst (.int 1)])),
 (.setItem (.prim false .item [.var 1,.cst (.str ['m','a','i','l'])]) (.var 2) (.prim false .slice [(.prim false .item [(.prim false .item [.var 1,.cst (.str ['m','a','i','l'])]),.var 2]),.cst (.int 1),.cst .none])),
 (.expr (.mcall .list false .append (.prim false .item [.var 1,.cst (.str ['r','o','w','s'])]) [(.prim false .mktup [.cst (.str ['w','o','r','k','s']),(.prim false .item [(.prim false .item [.var 0,.cst (.str ['n','a','m','e','s'])]),.var 2]),.var 3])])),
 (.ite (.prim false (.cop .eq) [(.prim false .item [.var 4,.cst (.int 0)]),.cst (.str ['a','d','d'])]) [(.setItem (.prim false .item [.var 1,.cst (.str ['s','u','m'])]) (.var 2) (.prim false (.bop .add) [(.prim false .item [(.prim false .item [.var 1,.cst (.str ['s','u','m'])]),.var 2]),(.prim false .item [.var 4,.cst (.int 1)])]))] [(.expr (.call 30 [.var 0,.var 1,.var 2,(.prim false .item [(.prim false (.mkdict [['f','a','u','l','t'],['l','e','a','v','e']]) [.cst (.str ['f','a','i','l','s']),.cst (.str ['l','e','a','v','e','s'])]),(.prim false .item [.var 4,.cst (.int 0)])])]))])]⟩
noncomputable def Jc:Fn:=⟨2,2,[(.forIn false (.inl 2) (.prim false .item [.var 0,.cst (.str ['o','r','d','e','r'])]) [(.ite (.prim false .not [(.prim false .item [(.prim false .item [.var 1,.cst (.str ['h','e','r','e'])]),.var 2])]) [(.forIn false (.inl 3) (.prim false .item [(.prim false .item [.var 1,.cst (.str ['m','a','i','l'])]),.var 2]) [(.expr (.mcall .list false .append (.prim false .item [.var 1,.cst (.str ['r','o','w','s'])]) [(.prim false .mktup [.cst (.str ['l','o','s','t']),(.prim false .item [(.prim false .item [.var 0,.cst (.str ['n','a','m','e','s'])]),.var 2]),(.prim false .item [.var 3,.cst (.int 0)])])]))]),
 (.setItem (.prim false .item [.var 1,.cst (.str ['m','a','i','l'])]) (.var 2) (.prim false .mklist []))] [])])]⟩
noncomputable def IC:Fn:=⟨3,1,[(.ite (.or (.prim false .not [(.prim false .item [(.prim false .item [.var 1,.cst (.str ['h','e','r','e'])]),.cst (.int 0)])]) (.prim false (.cop .notin) [(.prim false .item [.var 2,.cst (.int 1)]),(.prim false .item [.var 0,.cst (.str ['n','a','m','e','s'])])])) [(.ret (.cst (.bool false)))] []),
 (.asg 3 (.mcall .list false .lindex (.prim false .item [.var 0,.cst (.str ['n','a','m','e','s'])]) [(.prim false .item [.var 2,.cst (.int 1)])])),
 (.ite (.or (.prim false .not [(.prim false .item [(.prim false .item [.var 1,.cst (.str ['h','e','r','e'])]),.var 3])]) (.and (.prim false (.cop .ne) [(.prim false .item [.var 2,.cst (.int 0)]),.cst (.str ['f','a','i','l'])]) (.prim false .item [(.prim false .item [(.prim false .item [.var 0,.cst (.str ['n','o','d','e','s'])]),.var 3]),.cst (.str ['w','a','r','d','e','n'])]))) [(.ret (.cst (.bool false)))] []),
 (.ret (.or (.prim false (.cop .ne) [(.prim false .item [.var 2,.cst (.int 0)]),.cst (.str ['w','o','r','k'])]) (.prim false (.cop .ne) [(.prim false .item [(.prim false .item [.var 1,.cst (.str ['m','a','i','l'])]),.var 3]),(.prim false .mklist [])])))]⟩
noncomputable def HN:Fn:=⟨3,1,[(.asg 3 (.mcall .list false .lindex (.prim false .item [.var 0,.cst (.str ['n','a','m','e','s'])]) [(.prim false .item [.var 2,.cst (.int 1)])])),
 (.ite (.prim false (.cop .eq) [(.prim false .item [.var 2,.cst (.int 0)]),.cst (.str ['s','e','n','d'])]) [(.setItem (.var 1) (.cst (.str ['s','e','n','t'])) (.prim false (.bop .add) [(.prim false .item [.var 1,.cst (.str ['s','e','n','t'])]),.cst (.int 1)])),
 (.setItem (.prim false .item [.var 1,.cst (.str ['m','a','i','l'])]) (.var 3) (.prim false (.bop .add) [(.prim false .item [(.prim false .item [.var 1,.cst (.str ['m','a','i','l'])]),.var 3]),(.prim false .mklist [(.prim false .mktup [(.prim false .item [.var 1,.cst (.str ['s','e','n','t'])]),(.prim false .item [.var 2,.cst (.int 2)])])])])),
 (.expr (.mcall .list false .append (.prim false .item [.var 1,.cst (.str ['r','o','w','s'])]) [(.prim false .mktup [.cst (.str ['s','e','n','t']),(.prim false .item [.var 2,.cst (.int 1)]),(.prim false .item [.var 1,.cst (.str ['s','e','n','t'])]),(.prim false .item [.var 2,.cst (.int 2)])])])),
 (.ret (.cst .none))] []),
 (.setItem (.var 1) (.cst (.str ['h','o','u','r'])) (.prim false (.bop .add) [(.prim false .item [.var 1,.cst (.str ['h','o','u','r'])]),.cst (.int 1)])),
 (.ite (.prim false (.cop .eq) [(.prim false .item [.var 2,.cst (.int 0)]),.cst (.str ['w','o','r','k'])]) [(.expr (.call 31 [.var 0,.var 1,.var 3]))] [(.expr (.call 30 [.var 0,.var 1,.var 3,.cst (.str ['f','a','i','l','s'])]))]),
 (.expr (.call 32 [.var 0,.var 1]))]⟩
noncomputable def JI:Fn:=⟨2,0,[(.ret (.comp false (.prim false .item [(.prim false .item [.var 0,.cst (.str ['n','a','m','e','s'])]),.var 2]) (.prim false .item [.var 0,.cst (.str ['o','r','d','e','r'])]) (some (.prim false .item [(.prim false .item [.var 1,.cst (.str ['h','e','r','e'])]),.var 2]))))]⟩
noncomputable def J0:Fn:=⟨2,0,[(.ret (.comp false (.prim false .item [(.prim false .item [.var 0,.cst (.str ['n','a','m','e','s'])]),.var 2]) (.prim false .item [.var 0,.cst (.str ['o','r','d','e','r'])]) (some (.and (.prim false .item [(.prim false .item [.var 1,.cst (.str ['h','e','r','e'])]),.var 2]) (.prim false (.cop .ne) [(.prim false .item [(.prim false .item [.var 1,.cst (.str ['m','a','i','l'])]),.var 2]),(.prim false .mklist [])])))))]⟩
noncomputable def AK:Fn:=⟨3,5,[(.asg 3 (.meth 0 58 ['h','e','r','e'] (.var 0) [])),
 (.asg 4 (.prim true (.bop .add) [(.prim true .mklist [.var 2,(.meth 0 59 ['h','i','s','t','o','r','y'] (.var 0) []),.var 3]),(.comp false (.meth 0 60 ['w','a','i','t','s'] (.var 0) [.var 8]) (.call 24 [.var 1]) none)])),
 (.forIn false (.inl 5) (.prim false .item [.var 1,.cst (.str ['o','r','d','e','r'])]) [(.ite (.and (.prim false .item [(.prim false .item [(.prim false .item [.var 1,.cst (.str ['n','o','d','e','s'])]),.var 5]),.cst (.str ['w','a','r','d','e','n'])]) (.prim false (.cop .in_) [(.prim false .item [(.prim false .item [.var 1,.cst (.str ['n','a','m','e','s'])]),.var 5]),.var 3])) [(.expr (.mcall .list false .append (.var 4) [(.meth 0 62 ['h','o','u','r','s'] (.var 0) [(.prim false .item [(.prim false .item [.var 1,.cst (.str ['n','a','m','e','s'])]),.var 5])])]))] [])]),
 (.asg 6 (.prim true .mklist [])),
 (.forIn false (.inl 7) (.var 4) [(.ite (.prim false (.isinst .list) [.var 7]) [(.expr (.mcall .list false .append (.var 7) [(.prim false (.bop .pow) [.cst (.int 10),.cst (.int 18)])])),
 (.expr (.mcall .list false .append (.var 6) [(.prim false .mklist [.var 7,(.prim false .list [.var 7])])]))] [])]),
 (.ret (.var 6))]⟩
noncomputable def EK:Fn:=⟨4,5,[(.ite (.prim false (.cop .eq) [.var 3,.cst (.int 0)]) [(.ret (.and (.prim false (.cop .eq) [(.meth 0 56 ['i','s','_','o','p','e','n'] (.var 2) []),(.prim false .item [(.prim false .item [.var 1,.cst (.str ['h','e','r','e'])]),.cst (.int 0)])]) (.and (.call 10 [(.meth 0 57 ['h','o','u','r'] (.var 2) [])]) (.prim false (.cop .eq) [(.meth 0 57 ['h','o','u','r'] (.var 2) []),(.prim false .item [.var 1,.cst (.str ['h','o','u','r'])])]))))] []),
 (.ite (.prim false (.cop .eq) [.var 3,.cst (.int 1)]) [(.ret (.and (.call 20 [(.meth 0 58 ['h','e','r','e'] (.var 2) [])]) (.prim false (.cop .eq) [(.meth 0 58 ['h','e','r','e'] (.var 2) []),(.call 35 [.var 0,.var 1])])))] []),
 (.ite (.prim false (.cop .eq) [.var 3,.cst (.int 2)]) [(.asg 4 (.meth 0 59 ['h','i','s','t','o','r','y'] (.var 2) [])),
 (.ret (.and (.call 19 [.var 4]) (.prim false (.cop .eq) [.var 4,(.prim false .item [.var 1,.cst (.str ['r','o','w','s'])])])))] []),
 (.forIn false (.inl 5) (.prim false .item [.var 0,.cst (.str ['o','r','d','e','r'])]) [(.asg 6 (.prim false .item [(.prim false .item [.var 0,.cst (.str ['n','a','m','e','s'])]),.var 5])),
 (.ite (.and (.prim false .not [(.prim false .item [(.prim false .item [(.prim false .item [.var 0,.cst (.str ['n','o','d','e','s'])]),.var 5]),.cst (.str ['w','a','r','d','e','n'])])]) (.prim false (.cop .ne) [(.meth 0 60 ['w','a','i','t','s'] (.var 2) [.var 6]),(.comp false (.prim false .item [.var 9,.cst (.int 0)]) (.prim false .item [(.prim false .item [.var 1,.cst (.str ['m','a','i','l'])]),.var 5]) none)])) [(.ret (.cst (.bool false)))] []),
 (.ite (.and (.prim false .item [(.prim false .item [.var 1,.cst (.str ['h','e','r','e'])]),.var 5]) (.prim false .not [(.prim false .item [(.prim false .item [(.prim false .item [.var 0,.cst (.str ['n','o','d','e','s'])]),.var 5]),.cst (.str ['w','a','r','d','e','n'])])])) [(.ite (.or (.prim false .not [(.call 10 [(.meth 0 61 ['s','u','m','_','o','f'] (.var 2) [.var 6])])]) (.prim false (.cop .ne) [(.meth 0 61 ['s','u','m','_','o','f'] (.var 2) [.var 6]),(.prim false .item [(.prim false .item [.var 1,.cst (.str ['s','u','m'])]),.var 5])])) [(.ret (.cst (.bool false)))] [])] []),
 (.ite (.and (.prim false .item [(.prim false .item [.var 1,.cst (.str ['h','e','r','e'])]),.var 5]) (.prim false .item [(.prim false .item [(.prim false .item [.var 0,.cst (.str ['n','o','d','e','s'])]),.var 5]),.cst (.str ['w','a','r','d','e','n'])])) [(.asg 7 (.prim false .item [(.prim false .item [(.prim false .item [.var 0,.cst (.str ['p','a','r','t','s'])]),.var 5]),.cst (.int 4)])),
 (.asg 8 (.comp false (.var 9) (.prim false .item [(.prim false .item [.var 1,.cst (.str ['k','e','p','t'])]),.var 5]) (some (.prim false (.cop .gt) [(.prim false (.bop .add) [.var 9,.var 7]),(.prim false .item [.var 1,.cst (.str ['h','o','u','r'])])])))),
 (.ite (.or (.prim false .not [(.call 21 [(.meth 0 62 ['h','o','u','r','s'] (.var 2) [.var 6])])]) (.prim false (.cop .ne) [(.meth 0 62 ['h','o','u','r','s'] (.var 2) [.var 6]),.var 8])) [(.ret (.cst (.bool false)))] [])] [])]),
 (.ret (.cst (.bool true)))]⟩
noncomputable def JN:Fn:=⟨4,0,[(.ret (.prim false (.cop .eq) [(.comp false (.call 38 [.var 0,.var 1,.var 2,(.prim false (.bop .mod) [(.prim false (.bop .add) [.var 4,.var 3]),.cst (.int 4)])]) (.prim false .range1 [.cst (.int 4)]) none),(.prim false .mklist [.cst (.bool true),.cst (.bool true),.cst (.bool true),.cst (.bool true)])]))]⟩
noncomputable def Cv:Fn:=⟨4,1,[(.ite (.prim false .not [(.call 33 [.var 0,.var 1,.var 2])]) [(.ret (.prim false (.cop .is) [.var 3,.cst .none]))] []),
 (.asg 4 (.prim false .len [(.prim false .item [.var 1,.cst (.str ['r','o','w','s'])])])),
 (.expr (.call 34 [.var 0,.var 1,.var 2])),
 (.ite (.prim false (.cop .eq) [(.prim false .item [.var 2,.cst (.int 0)]),.cst (.str ['s','e','n','d'])]) [(.ret (.and (.call 10 [.var 3]) (.prim false (.cop .eq) [.var 3,(.prim false .item [.var 1,.cst (.str ['s','e','n','t'])])])))] []),
 (.ret (.and (.call 19 [.var 3]) (.prim false (.cop .eq) [.var 3,(.prim false .slice [(.prim false .item [.var 1,.cst (.str ['r','o','w','s'])]),.var 4,.cst .none])])))]⟩
noncomputable def tx:Fn:=⟨1,11,[(.asg 1 (.call 18 [.var 0])),
 (.asg 2 (.new 0 42 [(.prim false .item [.var 1,.cst (.str ['p','l','a','n'])])])),
 (.asg 3 (.new 0 42 [(.prim false .item [.var 1,.cst (.str ['p','l','a','n'])])])),
 (.asg 4 (.call 25 [.var 1])),
 (.asg 5 (.call 24 [.var 1])),
 (.expr (.meth 0 53 ['s','e','n','d'] (.var 3) [(.prim false .item [.var 5,.cst (.int 0)]),(.prim false .mktup [.cst (.str ['a','d','d']),.cst (.int 5)])])),
 (.asg 6 (.prim false .mklist [])),
 (.asg 7 (.prim false (.bop .fdiv) [(.call 9 [.var 0,.cst (.int 0)]),.cst (.int 108)])),
 (.forIn false (.inl 8) (.prim false (.bop .add) [(.prim false .mklist [.cst (.int 1)]),(.prim false .slice [.var 0,.cst (.int 13),.cst .none])]) [(.forIn false (.inl 9) (.call 23 [.var 8,.var 5,(.call 35 [.var 1,.var 4]),(.call 36 [.var 1,.var 4])]) [(.asg 10 (.call 22 [.var 2,.var 9])),
 (.ite (.or (.prim false .not [(.call 40 [.var 1,.var 4,.var 9,.var 10])]) (.prim false .not [(.call 39 [.var 1,.var 4,.var 2,.var 7])])) [(.ret (.cst (.bool false)))] []),
 (.asg 7 (.prim false (.bop .add) [.var 7,.cst (.int 1)])),
 (.asg 6 (.prim false (.bop .add) [.var 6,(.call 37 [.var 2,.var 1,.var 10])]))])]),
 (.ite (.prim false (.cop .ne) [(.comp false (.var 12) (.var 6) (some (.prim false (.cop .ne) [(.prim false .item [.var 12,.cst (.int 0)]),(.prim false .item [.var 12,.cst (.int 1)])]))),(.prim false .mklist [])]) [(.ret (.cst (.bool false)))] []),
 (.asg 11 (.call 25 [.var 1])),
 (.expr (.call 34 [.var 1,.var 11,(.prim false .mktup [.cst (.str ['s','e','n','d']),(.prim false .item [.var 5,.cst (.int 0)]),(.prim false .mktup [.cst (.str ['a','d','d']),.cst (.int 5)])])])),
 (.ret (.call 39 [.var 1,.var 11,.var 3,.var 7]))]⟩
noncomputable def mR:Fn:=⟨2,1,[(.ite (.prim false .not [(.call 5 [.var 1])]) [(.raise 1)] []),
 (.setAttr (.var 0) ['p','l','a','n'] (.var 1)),
 (.setAttr (.var 0) ['r','o','w'] (.prim true .mklist [])),
 (.setAttr (.var 0) ['p','a','r','t','s'] (.prim true (.mkdict []) [])),
 (.setAttr (.var 0) ['c','h','i','e','f'] (.prim true .mkdict1 [(.prim false .item [.var 1,.cst (.int 1)]),.cst .none])),
 (.setAttr (.var 0) ['p','r','e','s','e','n','t'] (.prim true (.mkdict []) [])),
 (.setAttr (.var 0) ['s','u','m','s'] (.prim true (.mkdict []) [])),
 (.setAttr (.var 0) ['k','e','p','t'] (.prim true (.mkdict []) [])),
 (.setAttr (.var 0) ['q','u','e','u','e','s'] (.prim true (.mkdict []) [])),
 (.forIn false (.inl 2) (.call 6 [.var 1]) [(.expr (.meth 0 43 ['n','o','t','e'] (.var 0) [.var 2]))]),
 (.setAttr (.var 0) ['c','l','o','c','k'] (.cst (.int 0))),
 (.setAttr (.var 0) ['l','e','t','t','e','r','s'] (.cst (.int 0))),
 (.setAttr (.var 0) ['e','v','e','n','t','s'] (.prim true .mklist [])),
 (.expr (.meth 0 44 ['b','e','g','i','n'] (.var 0) [.var 1]))]⟩
noncomputable def IT:Fn:=⟨2,1,[(.expr (.mcall .list false .append (.prim false (.attr ['r','o','w']) [.var 0]) [(.prim false .item [.var 1,.cst (.int 1)])])),
 (.setItem (.prim false (.attr ['p','a','r','t','s']) [.var 0]) (.prim false .item [.var 1,.cst (.int 1)]) (.var 1)),
 (.ite (.prim false (.cop .eq) [(.prim false .item [.var 1,.cst (.int 0)]),.cst (.str ['w','o','r','k','e','r'])]) [(.setItem (.prim false (.attr ['q','u','e','u','e','s']) [.var 0]) (.prim false .item [.var 1,.cst (.int 1)]) (.prim true .mklist []))] [(.forIn false (.inl 2) (.prim false .item [.var 1,.cst (.int 5)]) [(.setItem (.prim false (.attr ['c','h','i','e','f']) [.var 0]) (.prim false .item [.var 2,.cst (.int 1)]) (.var 1))])])]⟩
noncomputable def Ih:Fn:=⟨2,1,[(.setItem (.prim false (.attr ['p','r','e','s','e','n','t']) [.var 0]) (.prim false .item [.var 1,.cst (.int 1)]) (.cst (.bool true))),
 (.expr (.mcall .list false .append (.prim false (.attr ['e','v','e','n','t','s']) [.var 0]) [(.prim false .mktup [.cst (.str ['b','e','g','i','n','s']),(.prim false .item [.var 1,.cst (.int 1)])])])),
 (.ite (.prim false (.cop .eq) [(.prim false .item [.var 1,.cst (.int 0)]),.cst (.str ['w','o','r','k','e','r'])]) [(.setItem (.prim false (.attr ['s','u','m','s']) [.var 0]) (.prim false .item [.var 1,.cst (.int 1)]) (.cst (.int 0)))] [(.setItem (.prim false (.attr ['k','e','p','t']) [.var 0]) (.prim false .item [.var 1,.cst (.int 1)]) (.prim true .mklist [])),
 (.forIn false (.inl 2) (.prim false .item [.var 1,.cst (.int 5)]) [(.expr (.meth 0 44 ['b','e','g','i','n'] (.var 0) [.var 2]))])])]⟩
noncomputable def HL:Fn:=⟨2,1,[(.ite (.prim false (.cop .eq) [(.prim false .item [.var 1,.cst (.int 0)]),.cst (.str ['w','a','r','d','e','n'])]) [(.forIn true (.inl 2) (.prim false .item [.var 1,.cst (.int 5)]) [(.ite (.prim false (.cop .in_) [(.prim false .item [.var 2,.cst (.int 1)]),(.prim false (.attr ['p','r','e','s','e','n','t']) [.var 0])]) [(.expr (.meth 0 46 ['e','n','d'] (.var 0) [.var 2]))] [])])] [])]⟩
noncomputable def I1:Fn:=⟨2,0,[(.expr (.meth 0 45 ['e','n','d','_','p','a','r','t','s'] (.var 0) [.var 1])),
 (.expr (.mcall .dict false .dpop (.prim false (.attr ['p','r','e','s','e','n','t']) [.var 0]) [(.prim false .item [.var 1,.cst (.int 1)])])),
 (.expr (.mcall .list false .append (.prim false (.attr ['e','v','e','n','t','s']) [.var 0]) [(.prim false .mktup [.cst (.str ['e','n','d','s']),(.prim false .item [.var 1,.cst (.int 1)])])]))]⟩
noncomputable def JL:Fn:=⟨2,0,[(.expr (.mcall .list false .append (.prim false (.attr ['e','v','e','n','t','s']) [.var 0]) [(.prim false .mktup [.cst (.str ['f','a','i','l','s']),(.prim false .item [.var 1,.cst (.int 1)])])])),
 (.expr (.mcall .dict false .dpop (.prim false (.attr ['p','r','e','s','e','n','t']) [.var 0]) [(.prim false .item [.var 1,.cst (.int 1)])])),
 (.expr (.meth 0 45 ['e','n','d','_','p','a','r','t','s'] (.var 0) [.var 1])),
 (.ite (.and (.prim false (.cop .eq) [(.prim false .item [.var 1,.cst (.int 0)]),.cst (.str ['w','o','r','k','e','r'])]) (.prim false (.cop .eq) [(.prim false .item [.var 1,.cst (.int 2)]),.cst (.str ['n','e','v','e','r'])])) [(.ret (.cst .none))] []),
 (.ite (.prim false (.cop .isnot) [(.prim false .item [(.prim false (.attr ['c','h','i','e','f']) [.var 0]),(.prim false .item [.var 1,.cst (.int 1)])]),.cst .none]) [(.expr (.meth 0 48 ['f','o','l','l','o','w'] (.var 0) [(.prim false .item [(.prim false (.attr ['c','h','i','e','f']) [.var 0]),(.prim false .item [.var 1,.cst (.int 1)])]),.var 1]))] [])]⟩
noncomputable def Jf:Fn:=⟨3,6,[(.asg 3 (.prim false .item [(.prim false (.attr ['k','e','p','t']) [.var 0]),(.prim false .item [.var 1,.cst (.int 1)])])),
 (.expr (.mcall .list false .append (.var 3) [(.prim false (.attr ['c','l','o','c','k']) [.var 0])])),
 (.ite (.prim false (.cop .gt) [(.prim false .len [(.call 7 [.var 3,(.prim false (.attr ['c','l','o','c','k']) [.var 0]),(.prim false .item [.var 1,.cst (.int 4)])])]),(.prim false .item [.var 1,.cst (.int 3)])]) [(.expr (.meth 0 47 ['f','a','l','l'] (.var 0) [.var 1])),
 (.ret (.cst .none))] []),
 (.asg 4 (.mcall .tup false .index (.prim false .item [.var 1,.cst (.int 5)]) [.var 2])),
 (.asg 5 (.call 8 [(.prim false .item [.var 1,.cst (.int 2)]),(.prim false .len [(.prim false .item [.var 1,.cst (.int 5)])]),.var 4])),
 (.asg 7 (.comp false (.var 9) (.var 5) (some (.prim false (.cop .in_) [(.prim false .item [(.prim false .item [(.prim false .item [.var 1,.cst (.int 5)]),.var 9]),.cst (.int 1)]),(.prim false (.attr ['p','r','e','s','e','n','t']) [.var 0])])))),
 (.forIn true (.inl 6) (.var 7) [(.expr (.meth 0 46 ['e','n','d'] (.var 0) [(.prim false .item [(.prim false .item [.var 1,.cst (.int 5)]),.var 6])]))]),
 (.forIn false (.inl 6) (.var 5) [(.asg 8 (.prim false .item [(.prim false .item [.var 1,.cst (.int 5)]),.var 6])),
 (.ite (.or (.prim false (.cop .eq) [.var 6,.var 4]) (.and (.prim false (.cop .in_) [.var 6,.var 7]) (.prim false .not [(.and (.prim false (.cop .eq) [(.prim false .item [.var 8,.cst (.int 0)]),.cst (.str ['w','o','r','k','e','r'])]) (.prim false (.cop .eq) [(.prim false .item [.var 8,.cst (.int 2)]),.cst (.str ['n','e','v','e','r'])]))]))) [(.expr (.meth 0 44 ['b','e','g','i','n'] (.var 0) [.var 8]))] [])])]⟩
noncomputable def IH:Fn:=⟨1,3,[(.forIn false (.inl 1) (.prim false (.attr ['r','o','w']) [.var 0]) [(.ite (.and (.prim false (.cop .in_) [.var 1,(.prim false (.attr ['q','u','e','u','e','s']) [.var 0])]) (.prim false (.cop .notin) [.var 1,(.prim false (.attr ['p','r','e','s','e','n','t']) [.var 0])])) [(.forIn false (.inr [2,3]) (.prim false .item [(.prim false (.attr ['q','u','e','u','e','s']) [.var 0]),.var 1]) [(.expr (.mcall .list false .append (.prim false (.attr ['e','v','e','n','t','s']) [.var 0]) [(.prim false .mktup [.cst (.str ['l','o','s','t']),.var 1,.var 2])]))]),
 (.setItem (.prim false (.attr ['q','u','e','u','e','s']) [.var 0]) (.var 1) (.prim true .mklist []))] [])])]⟩
noncomputable def HC:Fn:=⟨1,0,[(.ite (.prim false .not [(.meth 0 56 ['i','s','_','o','p','e','n'] (.var 0) [])]) [(.raise 6)] [])]⟩
noncomputable def Jm:Fn:=⟨2,0,[(.ite (.or (.prim false .not [(.call 1 [.var 1])]) (.prim false (.cop .notin) [.var 1,(.prim false (.attr ['q','u','e','u','e','s']) [.var 0])])) [(.raise 3)] [])]⟩
noncomputable def Hi:Fn:=⟨2,0,[(.ite (.prim false (.cop .notin) [.var 1,(.prim false (.attr ['p','r','e','s','e','n','t']) [.var 0])]) [(.raise 4)] [])]⟩
noncomputable def JM:Fn:=⟨3,0,[(.expr (.meth 0 50 ['n','e','e','d','_','o','p','e','n'] (.var 0) [])),
 (.ite (.prim false .not [(.call 2 [.var 2])]) [(.raise 2)] []),
 (.expr (.meth 0 51 ['n','e','e','d','_','w','o','r','k','e','r'] (.var 0) [.var 1])),
 (.expr (.meth 0 52 ['n','e','e','d','_','h','e','r','e'] (.var 0) [.var 1])),
 (.setAttr (.var 0) ['l','e','t','t','e','r','s'] (.prim false (.bop .add) [(.prim false (.attr ['l','e','t','t','e','r','s']) [.var 0]),.cst (.int 1)])),
 (.expr (.mcall .list false .append (.prim false .item [(.prim false (.attr ['q','u','e','u','e','s']) [.var 0]),.var 1]) [(.prim false .mktup [(.prim false (.attr ['l','e','t','t','e','r','s']) [.var 0]),.var 2])])),
 (.expr (.mcall .list false .append (.prim false (.attr ['e','v','e','n','t','s']) [.var 0]) [(.prim false .mktup [.cst (.str ['s','e','n','t']),.var 1,(.prim false (.attr ['l','e','t','t','e','r','s']) [.var 0]),.var 2])])),
 (.ret (.prim false (.attr ['l','e','t','t','e','r','s']) [.var 0]))]⟩
noncomputable def Jb:Fn:=⟨2,4,[(.expr (.meth 0 50 ['n','e','e','d','_','o','p','e','n'] (.var 0) [])),
 (.expr (.meth 0 51 ['n','e','e','d','_','w','o','r','k','e','r'] (.var 0) [.var 1])),
 (.expr (.meth 0 52 ['n','e','e','d','_','h','e','r','e'] (.var 0) [.var 1])),
 (.ite (.prim false (.cop .eq) [(.prim false .len [(.prim false .item [(.prim false (.attr ['q','u','e','u','e','s']) [.var 0]),.var 1])]),.cst (.int 0)]) [(.raise 5)] []),
 (.asg 2 (.prim false .len [(.prim false (.attr ['e','v','e','n','t','s']) [.var 0])])),
 (.setAttr (.var 0) ['c','l','o','c','k'] (.prim false (.bop .add) [(.prim false (.attr ['c','l','o','c','k']) [.var 0]),.cst (.int 1)])),
 (.asgTup [3,4] (.mcall .list false .pop0 (.prim false .item [(.prim false (.attr ['q','u','e','u','e','s']) [.var 0]),.var 1]) [.cst (.int 0)])),
 (.expr (.mcall .list false .append (.prim false (.attr ['e','v','e','n','t','s']) [.var 0]) [(.prim false .mktup [.cst (.str ['w','o','r','k','s']),.var 1,.var 3])])),
 (.asg 5 (.prim false .item [(.prim false (.attr ['p','a','r','t','s']) [.var 0]),.var 1])),
 (.ite (.prim false (.cop .eq) [(.prim false .item [.var 4,.cst (.int 0)]),.cst (.str ['a','d','d'])]) [(.setItem (.prim false (.attr ['s','u','m','s']) [.var 0]) (.var 1) (.prim false (.bop .add) [(.prim false .item [(.prim false (.attr ['s','u','m','s']) [.var 0]),.var 1]),(.prim false .item [.var 4,.cst (.int 1)])]))] [(.ite (.prim false (.cop .eq) [(.prim false .item [.var 4,.cst (.int 0)]),.cst (.str ['f','a','u','l','t'])]) [(.expr (.meth 0 47 ['f','a','l','l'] (.var 0) [.var 5]))] [(.expr (.mcall .list false .append (.prim false (.attr ['e','v','e','n','t','s']) [.var 0]) [(.prim false .mktup [.cst (.str ['l','e','a','v','e','s']),.var 1])])),
 (.expr (.mcall .dict false .dpop (.prim false (.attr ['p','r','e','s','e','n','t']) [.var 0]) [.var 1])),
 (.ite (.prim false (.cop .eq) [(.prim false .item [.var 5,.cst (.int 2)]),.cst (.str ['a','l','w','a','y','s'])]) [(.expr (.meth 0 48 ['f','o','l','l','o','w'] (.var 0) [(.prim false .item [(.prim false (.attr ['c','h','i','e','f']) [.var 0]),.var 1]),.var 5]))] [])])]),
 (.expr (.meth 0 49 ['l','o','s','e'] (.var 0) [])),
 (.ret (.prim true .slice [(.prim false (.attr ['e','v','e','n','t','s']) [.var 0]),.var 2,.cst .none]))]⟩
noncomputable def Jz:Fn:=⟨2,1,[(.expr (.meth 0 50 ['n','e','e','d','_','o','p','e','n'] (.var 0) [])),
 (.ite (.or (.prim false .not [(.call 1 [.var 1])]) (.prim false (.cop .notin) [.var 1,(.prim false (.attr ['p','a','r','t','s']) [.var 0])])) [(.raise 3)] []),
 (.expr (.meth 0 52 ['n','e','e','d','_','h','e','r','e'] (.var 0) [.var 1])),
 (.asg 2 (.prim false .len [(.prim false (.attr ['e','v','e','n','t','s']) [.var 0])])),
 (.setAttr (.var 0) ['c','l','o','c','k'] (.prim false (.bop .add) [(.prim false (.attr ['c','l','o','c','k']) [.var 0]),.cst (.int 1)])),
 (.expr (.meth 0 47 ['f','a','l','l'] (.var 0) [(.prim false .item [(.prim false (.attr ['p','a','r','t','s']) [.var 0]),.var 1])])),
 (.expr (.meth 0 49 ['l','o','s','e'] (.var 0) [])),
 (.ret (.prim true .slice [(.prim false (.attr ['e','v','e','n','t','s']) [.var 0]),.var 2,.cst .none]))]⟩
noncomputable def J2:Fn:=⟨1,0,[(.ret (.prim false (.cop .in_) [(.prim false .item [(.prim false (.attr ['p','l','a','n']) [.var 0]),.cst (.int 1)]),(.prim false (.attr ['p','r','e','s','e','n','t']) [.var 0])]))]⟩
noncomputable def Jx:Fn:=⟨1,0,[(.ret (.prim false (.attr ['c','l','o','c','k']) [.var 0]))]⟩
noncomputable def I8:Fn:=⟨1,0,[(.ret (.comp true (.var 1) (.prim false (.attr ['r','o','w']) [.var 0]) (some (.prim false (.cop .in_) [.var 1,(.prim false (.attr ['p','r','e','s','e','n','t']) [.var 0])]))))]⟩
noncomputable def Jo:Fn:=⟨1,0,[(.ret (.prim true .list [(.prim false (.attr ['e','v','e','n','t','s']) [.var 0])]))]⟩
noncomputable def IN:Fn:=⟨2,0,[(.expr (.meth 0 51 ['n','e','e','d','_','w','o','r','k','e','r'] (.var 0) [.var 1])),
 (.ret (.comp true (.prim false .item [.var 2,.cst (.int 0)]) (.prim false .item [(.prim false (.attr ['q','u','e','u','e','s']) [.var 0]),.var 1]) none))]⟩
noncomputable def Ju:Fn:=⟨2,0,[(.expr (.meth 0 51 ['n','e','e','d','_','w','o','r','k','e','r'] (.var 0) [.var 1])),
 (.expr (.meth 0 52 ['n','e','e','d','_','h','e','r','e'] (.var 0) [.var 1])),
 (.ret (.prim false .item [(.prim false (.attr ['s','u','m','s']) [.var 0]),.var 1]))]⟩
noncomputable def J1:Fn:=⟨2,0,[(.ite (.or (.prim false .not [(.call 1 [.var 1])]) (.or (.prim false (.cop .notin) [.var 1,(.prim false (.attr ['p','a','r','t','s']) [.var 0])]) (.prim false (.cop .ne) [(.prim false .item [(.prim false .item [(.prim false (.attr ['p','a','r','t','s']) [.var 0]),.var 1]),.cst (.int 0)]),.cst (.str ['w','a','r','d','e','n'])]))) [(.raise 3)] []),
 (.expr (.meth 0 52 ['n','e','e','d','_','h','e','r','e'] (.var 0) [.var 1])),
 (.ret (.call 7 [(.prim false .item [(.prim false (.attr ['k','e','p','t']) [.var 0]),.var 1]),(.prim false (.attr ['c','l','o','c','k']) [.var 0]),(.prim false .item [(.prim false .item [(.prim false (.attr ['p','a','r','t','s']) [.var 0]),.var 1]),.cst (.int 4)])]))]⟩
noncomputable def Jw:List Fn:=[fn0,fn1,fn2,fn3,fn4,fn5,fn6,fn7,fn8,fn9,J4,Fd,Iu,Cj,HZ,JU,II,Eg,Es,Jy,J6,JZ,Ic,Er,H9,Iy,HU,Jn,IQ,Ir,rA,HH,Jc,IC,HN,JI,J0,AK,EK,JN,Cv,tx,mR,IT,Ih,HL,I1,JL,Jf,IH,HC,Jm,Hi,JM,Jb,Jz,J2,Jx,I8,Jo,IN,Ju,J1]
noncomputable def xD:List (List Nat):=[[0],[1,0],[2,0],[3,0],[4,0],[5,0],[6,0]]
noncomputable def PL:Prog:=uJ Jw xD
theorem JF:PL.fns 0=some fn0:=rfl
theorem IY:PL.fns 1=some fn1:=rfl
theorem Ac:PL.fns 2=some fn2:=rfl
theorem Dh:PL.fns 3=some fn3:=rfl
theorem C9:PL.fns 4=some fn4:=rfl
theorem HV:PL.fns 5=some fn5:=rfl
theorem Dm:PL.fns 6=some fn6:=rfl
theorem IF:PL.fns 7=some fn7:=rfl
theorem yf:PL.fns 8=some fn8:=rfl
theorem JG:PL.fns 9=some fn9:=rfl
theorem Fi:PL.fns 10=some J4:=rfl
theorem ES:PL.fns 11=some Fd:=rfl
theorem Ga:PL.fns 12=some Iu:=rfl
theorem Eu:PL.fns 13=some Cj:=rfl
theorem Gj:PL.fns 14=some HZ:=rfl
theorem Ft:PL.fns 15=some JU:=rfl
theorem GA:PL.fns 16=some II:=rfl
theorem F8:PL.fns 17=some Eg:=rfl
theorem EZ:PL.fns 18=some Es:=rfl
theorem F6:PL.fns 19=some Jy:=rfl
theorem DI:PL.fns 20=some J6:=rfl
theorem EW:PL.fns 21=some JZ:=rfl
theorem tV:PL.fns 22=some Ic:=rfl
theorem Ff:PL.fns 23=some Er:=rfl
theorem FF:PL.fns 24=some H9:=rfl
theorem E7:PL.fns 25=some Iy:=rfl
theorem DO:PL.fns 26=some HU:=rfl
theorem Gf:PL.fns 27=some Jn:=rfl
theorem F9:PL.fns 28=some IQ:=rfl
theorem Ej:PL.fns 29=some Ir:=rfl
theorem xq:PL.fns 30=some rA:=rfl
theorem Fc:PL.fns 31=some HH:=rfl
theorem Ep:PL.fns 32=some Jc:=rfl
theorem EE:PL.fns 33=some IC:=rfl
theorem s7:PL.fns 34=some HN:=rfl
theorem Fu:PL.fns 35=some JI:=rfl
theorem Ec:PL.fns 36=some J0:=rfl
theorem Fs:PL.fns 37=some AK:=rfl
theorem qy:PL.fns 38=some EK:=rfl
theorem FJ:PL.fns 39=some JN:=rfl
theorem xG:PL.fns 40=some Cv:=rfl
theorem EV:PL.fns 41=some tx:=rfl
theorem GK:PL.fns 42=some mR:=rfl
theorem yY:PL.fns 43=some IT:=rfl
theorem xi:PL.fns 44=some Ih:=rfl
theorem Ai:PL.fns 45=some HL:=rfl
theorem F5:PL.fns 46=some I1:=rfl
theorem FC:PL.fns 47=some JL:=rfl
theorem Gw:PL.fns 48=some Jf:=rfl
theorem DN:PL.fns 49=some IH:=rfl
theorem Gc:PL.fns 50=some HC:=rfl
theorem GD:PL.fns 51=some Jm:=rfl
theorem xB:PL.fns 52=some Hi:=rfl
theorem EQ:PL.fns 53=some JM:=rfl
theorem Fa:PL.fns 54=some Jb:=rfl
theorem D4:PL.fns 55=some Jz:=rfl
theorem zR:PL.fns 56=some J2:=rfl
theorem zh:PL.fns 57=some Jx:=rfl
theorem GI:PL.fns 58=some I8:=rfl
theorem EC:PL.fns 59=some Jo:=rfl
theorem Fb:PL.fns 60=some IN:=rfl
theorem F4:PL.fns 61=some Ju:=rfl
theorem E6:PL.fns 62=some J1:=rfl
noncomputable def Prim.pure:Prim->Bool
 |.bop _|.cop _|.not|.isinst _|.len|.item|.mktup|.mklist=>true
 |_=>false
mutual
noncomputable def pe(P:Prog)(ρ:Fm)(H:AH):Ex->Option V
 |.cst v=>some v
 |.var i=>(ρ[i]?).join
 |.prim mu p args=>if mu=true then none else(Lq P ρ H args).bind λvs=>if p.pure=true then(prim P p vs H).map (·.1)else none
 |.and a b=>(pe P ρ H a).bind λx=>(fk x).bind λt=>if t=true then pe P ρ H b else some (.bool false)
 |.or a b=>(pe P ρ H a).bind λx=>(fk x).bind λt=>if t=true then some (.bool true)else pe P ρ H b
 |.cmp2 a o b o' c=>(pe P ρ H a).bind λx=>(pe P ρ H b).bind λy=>(iV o x y H).bind λt=>if t=true then(pe P ρ H c).bind λz=>(iV o' y z H).map V.bool else some (.bool false)
 |_=>none
noncomputable def Lq(P:Prog)(ρ:Fm)(H:AH):List Ex->Option (List V)
 |[]=>some []
 |e::es=>(pe P ρ H e).bind λv=>(Lq P ρ H es).map (v::·)
end
section
variable {P:Prog}{C:Calls}{ρ:Fm}{H:AH}{X:XE}
theorem wb{p:Prim}{vs:List V}(h:p.pure=true):Is (prim P p vs H) λr=>prim P p vs H=some (r.1,H):=by
 refine Is.imp (R:=λr=>prim P p vs H=some r/\r.2=H) (Is.to λr e=>⟨e,?_⟩) λr q=>q.1.trans (congrArg some (congrArg (Prod.mk r.1) q.2))
 refine Is.of (R:=λr=>r.2=H) ?_ e
 cases p<;>first|exact absurd h am|(rcases vs with _|⟨a,_|⟨b,_|_⟩⟩<;>first|exact trivial|exact Is.self.map λ_ _=>rfl)|exact Is.ite λ_=>rfl
theorem KT(e:Ex):Is (pe P ρ H e) (Ev P C ρ H X e):=
 Ex.rec (motive_1:=λe=>Is (pe P ρ H e) (Ev P C ρ H X e)) (motive_2:=λes=>Is (Lq P ρ H es) λvs=>∀Q:List V->AH->Prop,Q vs H->fR P C es ρ H Q X) (motive_3:=λ_=>True)
  (λv=>an)
  (λi=>Is.to λv (h:(ρ[i]?).join=some v)=>ev_var (fA (o:=ρ[i]?) (λhi=>eY ((congrArg Option.join hi).symm.trans h)) λo hi=>hi.trans (congrArg some ((congrArg Option.join hi).symm.trans h))))
  (λmu p args ih=>by
   cases mu with
   |true=>exact trivial
   |false=>exact ih.bind λvs h=>Is.ite λhp=>(wb hp).map λr e Q q=>h _ (hE e q))
  (λa b iha ihb=>iha.bind λx h1=>Is.self.bind λt ht=>Is.ite2 (λe=>ihb.imp λv h2 Q q=>h1 _ (by rw [ht];subst e;exact h2 Q q)) λe Q q=>h1 _ (by rw [ht];cases t with|true=>exact absurd rfl e|false=>exact q))
  (λa b iha ihb=>iha.bind λx h1=>Is.self.bind λt ht=>Is.ite2 (λe Q q=>h1 _ (by rw [ht];subst e;exact q)) λe=>ihb.imp λv h2 Q q=>h1 _ (by rw [ht];cases t with|true=>exact absurd rfl e|false=>exact h2 Q q))
  (λa o b o' c iha ihb ihc=>iha.bind λx h1=>ihb.bind λy h2=>Is.self.bind λt ht=>Is.ite2 (λe=>ihc.bind λz h3=>Is.self.map λt' ht' Q q=>h1 _ (h2 _ (by rw [ht];subst e;exact h3 _ (by rw [ht'];exact q)))) λe Q q=>h1 _ (h2 _ (by rw [ht];cases t with|true=>exact absurd rfl e|false=>exact q)))
  (λ_ _ _=>trivial) (λ_ _ _ _ _ _ _=>trivial) (λ_ _ _ _ _ _ _=>trivial) (λ_ _ _ _=>trivial) (λ_ _ _ _ _ _ _=>trivial)
  (λ_ q=>q) (λe es h1 h2=>h1.bind λv h1=>h2.map λvs h2 Q q=>h1 _ (h2 _ q)) trivial (λ_ _=>trivial) e
theorem aK{e:Ex}{v:V}(h:pe P ρ H e=some v):Ev P C ρ H X e v:=(KT e).of h
end
theorem oZ{α:Type}{F:V->AH->(Option V->AH->Prop)->Prop}{ok:AH->Prop}{H:AH}{f g:α->V}(hok:ok H){l:List α}:∀{acc:List V} {Q:List V->AH->Prop},
  (∀a∈l,∀K:Option V->AH->Prop,K (some (g a)) H->F (f a) H K)->Q (acc++l.map g) H->compL F ok (l.map f) acc H Q:=by
 induction l with
 |nil=>exact λ{acc _} _ q=>⟨hok,aA acc▸q⟩
 |cons a l ih=>exact λ{acc _} hF q=>⟨hok,hF a (.head _) _ (ih (λb hb=>hF b (.tail _ hb)) ((aj acc [g a] (l.map g)).symm▸q))⟩
theorem oU{α:Type}{F:V->AH->(Option V->AH->Prop)->Prop}{ok:AH->Prop}{H:AH}{f g:α->V}{p:α->Bool}(hok:ok H){l:List α}:∀{acc:List V} {Q:List V->AH->Prop},
  (∀a∈l,∀K:Option V->AH->Prop,K (if p a=true then some (g a)else none) H->F (f a) H K)->Q (acc++(l.filter p).map g) H->compL F ok (l.map f) acc H Q:=by
 induction l with
 |nil=>exact λ{acc _} _ q=>⟨hok,aA acc▸q⟩
 |cons a l ih=>
  refine λ{acc _} hF q=>⟨hok,hF a (.head _) _ (ih (λb hb=>hF b (.tail _ hb)) ?_)⟩
  cases hp:p a with
  |false=>rw [dL (by rw [hp];exact am)]at q;exact q
  |true=>rw [cM hp]at q;exact(aj acc [g a] _).symm▸q
section
variable {P:Prog}{C:Calls}{ρ:Fm}{H:AH}{X:XE}{α:Type}{l:List α}{f g:α->V}{p:α->Bool}{elt it c:Ex}{w:V}
theorem nL(hit:Ev P C ρ H X it w)(hs:p4 H w=some (l.map f))(hl:l.length<=az)(he:∀a∈l,Ev P C (ρ++[some (f a)]) H X elt (g a)):Ev P C ρ H X (.comp false elt it none) (.lst (l.map g)):=λQ q=>
 hit _ ⟨l.map f,hs,(ah f).symm▸hl,oZ hs (λa ha K hK=>he a ha _ hK) (hE rfl q)⟩
theorem ip(hit:Ev P C ρ H X it w)(hs:p4 H w=some (l.map f))(hl:l.length<=az)(hc:∀a∈l,Ev P C (ρ++[some (f a)]) H X c (.bool (p a)))(he:∀a∈l,p a=true->Ev P C (ρ++[some (f a)]) H X elt (g a)):Ev P C ρ H X (.comp false elt it (some c)) (.lst ((l.filter p).map g)):=λQ q=>by
 refine hit _ ⟨l.map f,hs,(ah f).symm▸hl,oU (p:=p) hs (λa ha K hK=>hc a ha _ ?_) (hE rfl q)⟩
 cases hp:p a with
 |true=>rw [hp]at hK;exact he a ha hp _ hK
 |false=>rw [hp]at hK;exact hK
end
section
variable {P:Prog}{C:Calls}{ρ:Fm}{H:AH}{K:KS}{R:QE}{X:XE}{ss body:List St}{rev:Bool}{i:Nat}{e c:Ex}{v:V}{items:List V}
theorem pZ(Inv:List V->Fm->AH->Prop)(h:Ev P C ρ H X e v)(hs:∀its ρ' H',Inv its ρ' H'->je rev H' v=some items)(hl:items.length<=az)(h0:Inv items ρ H)
  (step:∀x xs ρ' H',Inv (x::xs) ρ' H'->∀K':KS,(∀ρ'' H'',Inv xs ρ'' H''->K' ρ'' H'')->a7 P C body (ρ'.set i (some x)) H' K' R (λ_ _=>False))
  (fin:∀ρ' H',Inv [] ρ' H'->a7 P C ss ρ' H' K R X):a7 P C (.forIn rev (.inl i) e body::ss) ρ H K R X:=
 h _ ⟨items,hs _ _ _ h0,hl,nK Inv (λx xs ρ' H' hI=>⟨hs _ _ _ hI,step x xs ρ' H' hI⟩) (λρ' H' hI=>⟨hs _ _ _ hI,fin ρ' H' hI⟩) h0⟩
theorem gM{o i e:Ex}(h:cz P C e ρ H (λx H₁=>cz P C o ρ H₁ (λov H₂=>cz P C i ρ H₂ (λiv H₃=>match d7 ov iv x H₃ with|some H'=>a7 P C ss ρ H' K R X|none=>False) X) X) X):a7 P C (.setItem o i e::ss) ρ H K R X:=h
theorem zp(k:Nat)(h:whileL (λρ' H' K₁ K₂=>cz P C c ρ' H' (λv H''=>mK (fk v) λt=>if t then a7 P C body ρ' H'' K₁ R (λ_ _=>False)else K₂ ρ' H'') (λ_ _=>False)) k ρ H (λρ' H'=>a7 P C ss ρ' H' K R X)):a7 P C (.while_ c body::ss) ρ H K R X:=⟨k,h⟩
end
section
variable {P:Prog}{C:Calls}{ρ:Fm}{H:AH}{K:KS}{R:QE}{X:XE}{ss as bs:List St}{c:Ex}
theorem dy(h:Ev P C ρ H X c (.bool true))(k:a7 P C as ρ H (λρ' H'=>a7 P C ss ρ' H' K R X) R X):a7 P C (.ite c as bs::ss) ρ H K R X:=h _ k
theorem bJ(h:Ev P C ρ H X c (.bool false))(k:a7 P C bs ρ H (λρ' H'=>a7 P C ss ρ' H' K R X) R X):a7 P C (.ite c as bs::ss) ρ H K R X:=h _ k
end
theorem cf{P:Prog}{n f:Nat}{args:List V}{fn:Fn}{H:AH}{Q:QE}{X:XE}(hf:P.fns f=some fn)(ha:args.length=fn.arity)(w:a7 P (aJ P n) fn.body (args.map some++bH fn.extra none) H (λ_ H'=>Q .none H') Q X):aJ P (n+1) f args H Q X:=by
 rw [nh,hf]
 exact⟨ha,w⟩
abbrev Nm:=List Char
abbrev AL(α:Type):=List (Nm×α)
noncomputable def dG{α:Type}(n:Nm):AL α->Option α
 |[]=>none
 |p::l=>if n=p.1 then some p.2 else dG n l
noncomputable def cY{α:Type}(n:Nm)(x:α):AL α->AL α
 |[]=>[(n,x)]
 |p::l=>if n=p.1 then(p.1,x)::l else p::cY n x l
noncomputable def kr{α:Type}(n:Nm):AL α->AL α
 |[]=>[]
 |p::l=>if n=p.1 then l else p::kr n l
section
variable {α:Type}{val:α->V}{n m:Nm}{x:α}{l:AL α}
theorem lM:ft n (l.map (·.1)) (l.map λp=>val p.2)=(dG n l).map val:=by
 induction l with
 |nil=>rfl
 |cons p l ih=>
  refine(?_:(if n=p.1 then some (val p.2)else ft n _ _)=(if n=p.1 then some p.2 else dG n l).map val)
  by_cases h:n=p.1
  ·rw [if_pos h,if_pos h];rfl
  ·rw [if_neg h,if_neg h];exact ih
theorem CH:dK n (val x) (l.map (·.1)) (l.map λp=>val p.2)=((cY n x l).map (·.1),(cY n x l).map λp=>val p.2):=by
 induction l with
 |nil=>rfl
 |cons p l ih=>
  refine(?_:(if n=p.1 then(p.1::l.map (·.1),val x::l.map λp=>val p.2)else(p.1::(dK n (val x) _ _).1,val p.2::(dK n (val x) _ _).2))=((if n=p.1 then(p.1,x)::l else p::cY n x l).map (·.1),(if n=p.1 then(p.1,x)::l else p::cY n x l).map λp=>val p.2))
  by_cases h:n=p.1
  ·rw [if_pos h,if_pos h];rfl
  ·rw [if_neg h,if_neg h,ih];rfl
theorem B3:kj n (l.map (·.1)) (l.map λp=>val p.2)=((kr n l).map (·.1),(kr n l).map λp=>val p.2):=by
 induction l with
 |nil=>rfl
 |cons p l ih=>
  refine(?_:(if n=p.1 then(l.map (·.1),l.map λp=>val p.2)else(p.1::(kj n _ _).1,val p.2::(kj n _ _).2))=((if n=p.1 then l else p::kr n l).map (·.1),(if n=p.1 then l else p::kr n l).map λp=>val p.2))
  by_cases h:n=p.1
  ·rw [if_pos h,if_pos h]
  ·rw [if_neg h,if_neg h,ih];rfl
noncomputable def dP(n:Nm)(l:AL α):Bool:=(l.map (·.1)).contains n
theorem dY:dP n l=true↔∃x,(n,x)∈l:=by
 unfold dP
 rw [aX,aG]
 exact⟨λ⟨p,h,e⟩=>⟨p.2,e▸h⟩,λ⟨x,h⟩=>⟨_,h,rfl⟩⟩
theorem bV(h:dG n l=some x):(n,x)∈l:=by
 induction l with
 |nil=>exact nomatch h
 |cons p l ih=>
  haveI h:(if n=p.1 then some p.2 else dG n l)=some x:=h
  by_cases e:n=p.1
  ·rw [if_pos e]at h;exact e▸ai h▸.head _
  ·rw [if_neg e]at h;exact .tail _ (ih h)
theorem gh(h:dP n l=true):∃x,dG n l=some x:=by
 induction l with
 |nil=>exact nomatch h
 |cons p l ih=>
  refine(?_:∃x,(if n=p.1 then some p.2 else dG n l)=some x)
  by_cases e:n=p.1
  ·rw [if_pos e];exact⟨_,rfl⟩
  ·rw [if_neg e];exact ih (dY.mpr ((dY.mp h).imp λx q=>dN q (λq=>absurd (congrArg qT q) e) id))
theorem jH{p:Nm×α}(h:p∈cY n x l):p=(n,x)\/p∈l:=by
 induction l with
 |nil=>exact .inl (in1 h)
 |cons q l ih=>
  haveI h:p∈(if n=q.1 then(q.1,x)::l else q::cY n x l):=h
  by_cases e:n=q.1
  ·rw [if_pos e]at h;exact dN h (λh=>.inl (e▸h)) λh=>.inr (.tail _ h)
  ·rw [if_neg e]at h;exact dN h (λh=>.inr (h▸.head _)) λh=>(ih h).imp id λh=>.tail _ h
theorem rV{p:Nm×α}(h:p∈kr n l):p∈l:=by
 induction l with
 |nil=>exact h
 |cons q l ih=>
  haveI h:p∈(if n=q.1 then l else q::kr n l):=h
  by_cases e:n=q.1
  ·rw [if_pos e]at h;exact .tail _ h
  ·rw [if_neg e]at h;exact dN h (λh=>h▸.head _) λh=>.tail _ (ih h)
theorem j1:(cY n x l).map (·.1)=if dP n l=true then l.map (·.1)else l.map (·.1)++[n]:=by
 induction l with
 |nil=>rfl
 |cons q l ih=>
  refine(?_:((if n=q.1 then(q.1,x)::l else q::cY n x l).map (·.1))=_)
  by_cases e:n=q.1
  ·rw [if_pos e,if_pos (dY.mpr ⟨q.2,e▸.head _⟩)];rfl
  ·rw [if_neg e,eC,ih,show dP n (q::l)=dP n l from by unfold dP;rw [eC,gW,beq_eq_false_iff_ne.mpr e,Ax]]
   by_cases h:dP n l=true
   ·rw [if_pos h,if_pos h];rfl
   ·rw [if_neg h,if_neg h];rfl
theorem mc:(kr n l).map (·.1)=(l.map (·.1)).erase n:=by
 induction l with
 |nil=>rfl
 |cons q l ih=>
  refine(?_:((if n=q.1 then l else q::kr n l).map (·.1))=(q.1::l.map (·.1)).erase n)
  by_cases e:n=q.1
  ·rw [if_pos e,e,List.erase_cons_head]
  ·rw [if_neg e,List.erase_cons_tail (by rw [beq_iff_eq];exact Ne.symm e),eC,ih]
theorem lJ(h:(l.map (·.1)).Nodup):((cY n x l).map (·.1)).Nodup:=by
 rw [j1]
 by_cases e:dP n l=true
 ·rw [if_pos e];exact h
 ·rw [if_neg e]
  exact a8.mpr ⟨h,bg.mpr ⟨nofun,cR⟩,λa ha b hb q=>e (aX.mpr (in1 hb▸q▸ha))⟩
theorem Bp(h:(l.map (·.1)).Nodup):((kr n l).map (·.1)).Nodup:=by rw [mc];exact h.erase n
theorem jS:dP m (cY n x l)=(decide (m=n)||dP m l):=by
 haveI h:dP m (cY n x l)=((cY n x l).map (·.1)).contains m:=rfl
 rw [h,j1]
 by_cases e:dP n l=true
 ·rw [if_pos e]
  by_cases q:m=n
  ·rw [q,decide_eq_true rfl];exact e
  ·rw [decide_eq_false q];rfl
 ·rw [if_neg e,cg,aX,bT,jg,decide_eq_true_iff]
  exact⟨λh=>h.elim (λh=>.inr (aX.mpr h)) λh=>.inl (in1 h),λh=>h.elim (λh=>.inr (h▸.head _)) λh=>.inl (aX.mp h)⟩
theorem gj(h:(l.map (·.1)).Nodup):dP m (kr n l)=(!decide (m=n)&&dP m l):=by
 unfold dP
 rw [mc,cg,aX,h.mem_erase_iff,cV,bZ,decide_eq_false_iff_not,aX]
theorem jL:dG m (cY n x l)=if m=n then some x else dG m l:=by
 induction l with
 |nil=>rfl
 |cons q l ih=>
  refine(?_:dG m (if n=q.1 then(q.1,x)::l else q::cY n x l)=if m=n then some x else if m=q.1 then some q.2 else dG m l)
  by_cases e:n=q.1
  ·rw [if_pos e]
   show(if m=q.1 then some x else dG m l)=_
   rw [<-e]
   by_cases h:m=n
   ·rw [if_pos h,if_pos h]
   ·rw [if_neg h,if_neg h,if_neg h]
  ·rw [if_neg e]
   show(if m=q.1 then some q.2 else dG m (cY n x l))=_
   rw [ih]
   by_cases h:m=q.1
   ·rw [if_pos h,if_pos h,if_neg λz:m=n=>e (z▸h)]
   ·rw [if_neg h,if_neg h]
end
set_option genInjectivity false in
inductive Evt where
 |beg (n:Nm)|end_ (n:Nm)|fail (n:Nm)|leave (n:Nm)|sent (n:Nm) (k:Nat) (l:V)|works (n:Nm) (k:Nat)|lost (n:Nm) (k:Nat)
noncomputable def Evt.v:Evt->V
 |.beg n=>.tup [.str ['b','e','g','i','n','s'],.str n]
 |.end_ n=>.tup [.str ['e','n','d','s'],.str n]
 |.fail n=>.tup [.str ['f','a','i','l','s'],.str n]
 |.leave n=>.tup [.str ['l','e','a','v','e','s'],.str n]
 |.sent n k l=>.tup [.str ['s','e','n','t'],.str n,.int k,l]
 |.works n k=>.tup [.str ['w','o','r','k','s'],.str n,.int k]
 |.lost n k=>.tup [.str ['l','o','s','t'],.str n,.int k]
noncomputable def nA(p:Nat×V):V:=.tup [.int p.1,p.2]
set_option genInjectivity false in
structure Hst where
 pres:AL Unit
 sums:AL Int
 kept:AL (Nat×List Int)
 qu:AL (Nat×List (Nat×V))
 clock:Int
 letters:Nat
 ev:List Evt
 kl:Nat
 own:Nat->Option (Bool×Nm)
set_option genInjectivity false in
structure Ad where
 d:Nat
 i:Nat
 row:Nat
 parts:Nat
 chief:Nat
 pres:Nat
 sums:Nat
 kept:Nat
 qu:Nat
 ev:Nat
 plan:V
 names:List Nm
 partVs:List V
 chk:List Nm
 chv:List V
 G:List (Nat×O)
noncomputable def dO{α:Type}(val:α->V)(l:AL α):O:=.dict (l.map (·.1)) (l.map λp=>val p.2)
noncomputable def hk:List Nm:=[['p','l','a','n'],['r','o','w'],['p','a','r','t','s'],['c','h','i','e','f'],['p','r','e','s','e','n','t'],['s','u','m','s'],['k','e','p','t'],['q','u','e','u','e','s'],['c','l','o','c','k'],['l','e','t','t','e','r','s'],['e','v','e','n','t','s']]
noncomputable def hv(σ:Ad)(S:Hst):List V:=[σ.plan,.ref σ.row,.ref σ.parts,.ref σ.chief,.ref σ.pres,.ref σ.sums,.ref σ.kept,.ref σ.qu,.int S.clock,.int S.letters,.ref σ.ev]
noncomputable def Hk(p:Nat×List (Nat×V)):V:=.ref p.1
noncomputable def JS(p:Nat×List Int):V:=.ref p.1
noncomputable def fq(σ:Ad)(S:Hst):List (Nat×O):=
 (σ.d,.ns hk (hv σ S))::(σ.i,.inst 0 σ.d)::(σ.row,.list (σ.names.map V.str))::(σ.parts,.dict σ.names σ.partVs)::(σ.chief,.dict σ.chk σ.chv)::(σ.pres,dO (λ_=>.bool true) S.pres)::(σ.sums,dO V.int S.sums)::
 (σ.kept,dO JS S.kept)::(σ.qu,dO Hk S.qu)::(σ.ev,.list (S.ev.map Evt.v))::σ.G
noncomputable def pP(S:Hst)(n:Nm):Hst:={S with pres:=cY n () S.pres}
noncomputable def pD(S:Hst)(n:Nm):Hst:={S with pres:=kr n S.pres}
noncomputable def pE(S:Hst)(t:Evt):Hst:={S with ev:=S.ev++[t]}
noncomputable def pS(S:Hst)(n:Nm)(i:Int):Hst:={S with sums:=cY n i S.sums}
noncomputable def pK(S:Hst)(n:Nm)(x:Nat×List Int)(f:Nat->Option (Bool×Nm)):Hst:={S with kept:=cY n x S.kept,own:=f}
noncomputable def pQ(S:Hst)(n:Nm)(x:Nat×List (Nat×V))(f:Nat->Option (Bool×Nm)):Hst:={S with qu:=cY n x S.qu,own:=f}
def KP(S:Hst)(H:AH):Prop:=∀p∈S.kept,S.own p.2.1=some (true,p.1)/\H[p.2.1]? =some (.list (p.2.2.map V.int))/\p.2.2.length<=S.kl
def QP(S:Hst)(H:AH):Prop:=∀p∈S.qu,S.own p.2.1=some (false,p.1)/\H[p.2.1]? =some (.list (p.2.2.map nA))/\p.2.2.length<=S.letters
structure Hs(σ:Ad)(S:Hst)(H:AH):Prop where
 nd:((fq σ S).map (·.1)).Nodup
 fix:∀p∈fq σ S,H[p.1]? =some p.2/\S.own p.1=none
 kp:KP S H
 qp:QP S H
 qn:(S.qu.map (·.1)).Nodup
 pn:(S.pres.map (·.1)).Nodup
 kn:(S.kept.map (·.1)).Nodup
 fr:∀a,H.length<=a->S.own a=none
section
variable {σ:Ad}{S S':Hst}{H:AH}
theorem Hs.get(h:Hs σ S H)(k:Nat){p:Nat×O}(hk:(fq σ S)[k]? =some p):H[p.1]? =some p.2:=(h.fix p (aM hk)).1
theorem Hs.set'{σ':Ad}(h:Hs σ S H)(k:Nat){a:Nat}{o o' o'':O}(hk:(fq σ S)[k]? =some (a,o))(e:fq σ' S'=(fq σ S).set k (a,o''))(z:o''=o')(eo:S'.own=S.own)(kp:KP S' H)(qp:QP S' H)(qn:(S'.qu.map (·.1)).Nodup)(pn:(S'.pres.map (·.1)).Nodup)(kn:(S'.kept.map (·.1)).Nodup):Hs σ' S' (H.set a o'):=by
 subst z
 have ha:=h.fix _ (aM hk)
 haveI hne:∀{b:Nat} {x:Bool×Nm},S'.own b=some x->a≠b:=λhb q=>eY (ha.2.symm.trans (eo▸q▸hb))
 haveI hlt:a<H.length:=(ae.mp ha.1).1
 haveI hm:(fq σ' S').map (·.1)=(fq σ S).map (·.1):=by
  rw [e,CV]
  refine fi λj=>?_
  rw [fj]
  by_cases q:k=j
  ·subst q
   rw [if_pos rfl,aO,hk]
   exact if_pos (by rw [ah];exact(ae.mp hk).1)
  ·rw [if_neg q]
 refine⟨hm▸h.nd,λp hp=>?_,λp hp=>?_,λp hp=>?_,qn,pn,kn,λb hb=>eo▸h.fr b (aa (ao aR.symm) hb)⟩
 ·rw [e]at hp
  obtain⟨j,hj⟩:=cn hp
  rw [fj]at hj
  by_cases q:k=j
  ·subst q
   rw [if_pos rfl]at hj
   have hp:(a,o'')=p:=by
    by_cases z:k<(fq σ S).length
    ·rw [if_pos z]at hj;exact ai hj
    ·rw [if_neg z]at hj;exact eY hj
   subst hp
   exact⟨by rw [bS hlt],eo▸ha.2⟩
  ·rw [if_neg q]at hj
   haveI hp:=h.fix p (aM hj)
   refine⟨(bp λz=>?_).trans hp.1,eo▸hp.2⟩
   haveI h1:((fq σ S).map (·.1))[k]? =some a:=by rw [aO,hk];rfl
   haveI h2:((fq σ S).map (·.1))[j]? =some a:=by rw [aO,hj,z];rfl
   exact q ((ij (ae.mp h1).1 h.nd).mp (h1.trans h2.symm))
 ·exact ⟨(kp p hp).1,(bp (hne (kp p hp).1)).trans (kp p hp).2.1,(kp p hp).2.2⟩
 ·exact ⟨(qp p hp).1,(bp (hne (qp p hp).1)).trans (qp p hp).2.1,(qp p hp).2.2⟩
theorem Hs.set(h:Hs σ S H)(k:Nat){a:Nat}{o o' o'':O}(hk:(fq σ S)[k]? =some (a,o))(e:fq σ S'=(fq σ S).set k (a,o''))(z:o''=o')(ek:S'.kept=S.kept)(eq:S'.qu=S.qu)(eo:S'.own=S.own)(el:S.kl<=S'.kl/\S.letters<=S'.letters)(pn:(S'.pres.map (·.1)).Nodup):Hs σ S' (H.set a o'):=
 h.set' k hk e z eo (λp hp=>haveI q:=h.kp p (ek▸hp);⟨eo▸q.1,q.2.1,aa q.2.2 el.1⟩) (λp hp=>haveI q:=h.qp p (eq▸hp);⟨eo▸q.1,q.2.1,aa q.2.2 el.2⟩) (eq▸h.qn) pn (ek▸h.kn)
theorem Hs.alloc(h:Hs σ S H)(o:O)(x:Option (Bool×Nm)):Hs σ {S with own:=λa=>if a=H.length then x else S.own a} (H++[o]):=by
 haveI lt:∀{b:Nat} {o:O},H[b]? =some o->(if b=H.length then x else S.own b)=S.own b:=λe=>if_neg λq=>cm _ (q▸(ae.mp e).1)
 exact⟨h.nd,λp hp=>⟨dt (h.fix p hp).1,(lt (h.fix p hp).1).trans (h.fix p hp).2⟩,λp hp=>⟨(lt (h.kp p hp).2.1).trans (h.kp p hp).1,dt (h.kp p hp).2.1,(h.kp p hp).2.2⟩,
  λp hp=>⟨(lt (h.qp p hp).2.1).trans (h.qp p hp).1,dt (h.qp p hp).2.1,(h.qp p hp).2.2⟩,h.qn,h.pn,h.kn,λb hb=>by
   rw [af]at hb
   exact(if_neg λe:b=H.length=>Nat.not_succ_le_self H.length (e▸hb)).trans (h.fr b (aa (a9 _) hb))⟩
theorem Hs.app{L:AH}(h:Hs σ S H):Hs σ S (H++L):=⟨h.nd,λp hp=>⟨dt (h.fix p hp).1,(h.fix p hp).2⟩,λp hp=>⟨(h.kp p hp).1,dt (h.kp p hp).2.1,(h.kp p hp).2.2⟩,λp hp=>⟨(h.qp p hp).1,dt (h.qp p hp).2.1,(h.qp p hp).2.2⟩,h.qn,h.pn,h.kn,λb hb=>h.fr b (aa (aa (aq _ _) (ao af.symm)) hb)⟩
noncomputable def pL(S:Hst)(n:Nat):Hst:={S with kl:=n}
theorem dS{H:AH}{o:O}:(H++[o])[H.length]? =some o:=di
theorem uU{x:Option (Bool×Nm)}:(if H.length=H.length then x else S.own H.length)=x:=if_pos rfl
end
section
variable {P:Prog}{C:Calls}{ρ:Fm}{H:AH}{K:KS}{R:QE}{X:XE}{ss:List St}{σ:Ad}{S:Hst}{e:Ex}{nm n:Nm}{v:V}
abbrev r9(nm:Nm):Ex:=.prim false (.attr nm) [.var 0]
theorem xo(h:Hs σ S H):fO H (.ref σ.i)=some (σ.d,hk,hv σ S):=by
 show(H[σ.i]?.bind O.ins).bind _=_
 rw [h.get 1 rfl]
 show(H[σ.d]?.bind O.nms).map _=_
 rw [h.get 0 rfl]
 rfl
theorem cU(h:Hs σ S H)(h0:ρ[0]? =some (some (.ref σ.i)))(e:ft nm hk (hv σ S)=some v):Ev P C ρ H X (r9 nm) v:=cD (ev_var h0) (by
 refine(?_:((fO H (.ref σ.i)).bind λq=>(ft nm q.2.1 q.2.2).map (·,H))=_)
 rw [xo h]
 exact congrArg (bR (·,H)) e)
theorem iP(h:Hs σ S H)(hn:hk.contains nm=false):e9 H 0 nm (.ref σ.i)=true:=by
 show(fO H (.ref σ.i)).any _=true
 rw [xo h]
 show(!hk.contains nm)=true
 rw [hn];rfl
theorem dE{f:Nat}{a:Ex}{x:V}(h:Hs σ S H)(h0:ρ[0]? =some (some (.ref σ.i)))(hn:hk.contains nm=false)(ha:Ev P C ρ H X a x)(k:C f [.ref σ.i,x] H (λ_ H'=>a7 P C ss ρ H' K R X) X):a7 P C (.expr (.meth 0 f nm (.var 0) [a])::ss) ρ H K R X:=
 ev_var (P:=P) (C:=C) (X:=X) h0 (λv H₁=>e9 H₁ 0 nm v=true/\fR P C [a] ρ H₁ (λvs H'=>C f (v::vs) H' (λ_ H'=>a7 P C ss ρ H' K R X) X) X) ⟨iP h hn,ha _ k⟩
theorem lH{f:Nat}(h:Hs σ S H)(h0:ρ[0]? =some (some (.ref σ.i)))(hn:hk.contains nm=false)(k:C f [.ref σ.i] H (λ_ H'=>a7 P C ss ρ H' K R X) X):a7 P C (.expr (.meth 0 f nm (.var 0) [])::ss) ρ H K R X:=
 ev_var (P:=P) (C:=C) (X:=X) h0 (λv H₁=>e9 H₁ 0 nm v=true/\fR P C [] ρ H₁ (λvs H'=>C f (v::vs) H' (λ_ H'=>a7 P C ss ρ H' K R X) X) X) ⟨iP h hn,k⟩
theorem Gh{i:Nat}{ks:List Nm}{vs:List V}(h:H[i]? =some (.dict ks vs)):kF H (.ref i) .dict=true:=by show(H[i]?.bind O.dct).isSome=_;rw [h];rfl
theorem fQ{α:Type}{l:List α}{a:α}:l.length<=(l++[a]).length:=by rw [af];exact aq _ _
theorem mH(h:Hs σ S H)(h0:ρ[0]? =some (some (.ref σ.i)))(t:Evt)(he:Ev P C ρ H X e t.v)(hl:S.ev.length<=az)(k:∀H',Hs σ (pE S t) H'->a7 P C ss ρ H' K R X) :
  a7 P C (.expr (.mcall .list false .append (r9 ['e','v','e','n','t','s']) [e])::ss) ρ H K R X:=
 st_expr (cU h h0 rfl _ ⟨d8 (h.get 9 rfl),he _ (hE (dU (h.get 9 rfl) (aa (ao (ah _)) hl)) (k _ (h.set 9 rfl rfl (congrArg O.list aB) rfl rfl rfl ⟨aI _,aI _⟩ h.pn)))⟩)
theorem jJ{α:Type}{val:α->V}{l:AL α}{a:Nat}{x:α}(h:H[a]? =some (dO val l))(hl:l.length<=az):d7 (.ref a) (.str n) (val x) H=some (H.set a (dO val (cY n x l))):=by
 show yD a n (val x) H H[a]? =_
 rw [h]
 show(if(l.map (·.1)).length<=az then some (H.set a (.dict (dK n (val x) _ _).1 (dK n (val x) _ _).2))else none)=_
 rw [if_pos (aa (ao (ah _)) hl),CH]
 rfl
theorem st_put{α:Type}{val:α->V}{l:AL α}{a:Nat}{x:α}{ei:Ex}(h:Hs σ S H)(h0:ρ[0]? =some (some (.ref σ.i)))(ea:ft nm hk (hv σ S)=some (.ref a))(hd:H[a]? =some (dO val l))(he:Ev P C ρ H X e (val x))(hi:Ev P C ρ H X ei (.str n))(hl:l.length<=az)(k:a7 P C ss ρ (H.set a (dO val (cY n x l))) K R X) :
  a7 P C (.setItem (r9 nm) ei e::ss) ρ H K R X:=gM (he _ (cU h h0 ea _ (hi _ (by rw [jJ hd hl];exact k))))
theorem uK(h:Hs σ S H)(h0:ρ[0]? =some (some (.ref σ.i)))(hi:Ev P C ρ H X e (.str n))(hl:S.pres.length<=az)(k:∀H',Hs σ (pP S n) H'->a7 P C ss ρ H' K R X) :
  a7 P C (.setItem (r9 ['p','r','e','s','e','n','t']) e (.cst (.bool true))::ss) ρ H K R X:=
 st_put (x:=()) h h0 rfl (h.get 5 rfl) an hi hl (k _ (h.set 5 rfl rfl rfl rfl rfl rfl ⟨aI _,aI _⟩ (lJ h.pn)))
theorem vj{i:Int}{ei:Ex}(h:Hs σ S H)(h0:ρ[0]? =some (some (.ref σ.i)))(he:Ev P C ρ H X e (.int i))(hi:Ev P C ρ H X ei (.str n))(hl:S.sums.length<=az)(k:∀H',Hs σ (pS S n i) H'->a7 P C ss ρ H' K R X) :
  a7 P C (.setItem (r9 ['s','u','m','s']) ei e::ss) ρ H K R X:=
 st_put h h0 rfl (h.get 6 rfl) he hi hl (k _ (h.set 6 rfl rfl rfl rfl rfl rfl ⟨aI _,aI _⟩ h.pn))
theorem qN(h:Hs σ S H)(h0:ρ[0]? =some (some (.ref σ.i)))(hi:Ev P C ρ H X e (.str n))(hn:dP n S.pres=true)(hl:S.pres.length<=az)(k:∀H',Hs σ (pD S n) H'->a7 P C ss ρ H' K R X) :
  a7 P C (.expr (.mcall .dict false .dpop (r9 ['p','r','e','s','e','n','t']) [e])::ss) ρ H K R X:=by
 haveI hp:=h.get 5 rfl
 obtain⟨x,hx⟩:=gh hn
 refine st_expr (cU h h0 rfl _ ⟨Gh hp,hi _ (hE (v:=.bool true) (H':=H.set σ.pres (dO (λ_=>.bool true) (kr n S.pres))) ?_ (k _ (h.set 5 rfl rfl rfl rfl rfl rfl ⟨aI _,aI _⟩ (Bp h.pn))))⟩)
 refine(?_:((H[σ.pres]?.bind O.dct).bind _).bind _=_)
 rw [hp]
 show(if(S.pres.map (·.1)).length<=az then(ft n _ _).map λx=>(x,H.set σ.pres (.dict (kj n _ _).1 (kj n _ _).2))else none)=_
 rw [if_pos (aa (ao (ah _)) hl),lM (val:=λ_=>V.bool true),hx,B3 (val:=λ_=>V.bool true)]
 rfl
theorem jr{Q:QE}(q:Q (.ref H.length) (H++[.list []])):cz P C (.prim true .mklist []) ρ H Q X:=show g7 (aY P true .mklist [] H) Q from hE (ml (aQ _)) q
theorem Cy(h:Hs σ S H)(h0:ρ[0]? =some (some (.ref σ.i)))(hi:∀H,Ev P C ρ H X e (.str n))(hl:S.kept.length<=az)(k:∀r f H',Hs σ (pK S n (r,[]) f) H'->a7 P C ss ρ H' K R X) :
  a7 P C (.setItem (r9 ['k','e','p','t']) e (.prim true .mklist [])::ss) ρ H K R X:=by
 haveI h1:=h.alloc (.list []) (some (true,n))
 refine gM (jr (cU h1 h0 rfl _ (hi _ _ ?_)))
 rw [show V.ref H.length=JS (H.length,[])from rfl,jJ (h1.get 7 rfl) hl]
 exact k H.length _ _ (h1.set' 7 rfl rfl rfl rfl (λp hp=>(jH hp).elim (λq=>q▸⟨uU,dS,aQ _⟩) (h1.kp p)) h1.qp h.qn h.pn (lJ h.kn))
theorem zE(h:Hs σ S H)(h0:ρ[0]? =some (some (.ref σ.i)))(hi:∀H,Ev P C ρ H X e (.str n))(hl:S.qu.length<=az)(k:∀r f H',Hs σ (pQ S n (r,[]) f) H'->a7 P C ss ρ H' K R X) :
  a7 P C (.setItem (r9 ['q','u','e','u','e','s']) e (.prim true .mklist [])::ss) ρ H K R X:=by
 haveI h1:=h.alloc (.list []) (some (false,n))
 refine gM (jr (cU h1 h0 rfl _ (hi _ _ ?_)))
 rw [show V.ref H.length=Hk (H.length,[])from rfl,jJ (h1.get 8 rfl) hl]
 exact k H.length _ _ (h1.set' 8 rfl rfl rfl rfl h1.kp (λp hp=>(jH hp).elim (λq=>q▸⟨uU,dS,aQ _⟩) (h1.qp p)) (lJ h.qn) h.pn h.kn)
end
noncomputable def wk:List Char:=['w','o','r','k','e','r']
noncomputable def wd:List Char:=['w','a','r','d','e','n']
noncomputable def jY:List (List Char):=[['a','l','w','a','y','s'],['f','a','u','l','t','e','d'],['n','e','v','e','r']]
noncomputable def fW:List (List Char):=[['o','n','e'],['r','e','s','t'],['a','l','l']]
noncomputable def tH:List Char:=['a','b','c','d','e','f','g','h','i','j','k','l','m','n','o','p','q','r','s','t','u','v','w','x','y','z']
def ny(s:List Char):Prop:=1<=s.length/\s.length<=8/\∀c∈s,c∈tH
abbrev sS(nm md:Nm):V:=.tup [.str wk,.str nm,.str md]
abbrev jZ(nm r:Nm)(m s:Int)(ps:List V):V:=.tup [.str wd,.str nm,.str r,.int m,.int s,.tup ps]
noncomputable def JD:List V->Nm
 |_::v::_=>v.txt.getD []
 |_=>[]
noncomputable def Ia:List V->List V
 |[_,_,_,_,_,v]=>v.tpl.getD []
 |_=>[]
noncomputable def au(v:V):Nm:=JD (v.tpl.getD [])
noncomputable def kids(v:V):List V:=Ia (v.tpl.getD [])
noncomputable def nms:Nat->V->List Nm
 |0,_=>[]
 |k+1,v=>au v::(kids v).flatMap (nms k)
structure PI where
 isW:Nm->Option Bool
 ch:Nm->Option Nm
 al:Nm->Bool
 nv:Nm->Bool
 sp:Nm->Int
 mn:Nm->Int
 sb:Nm->List Nm
 kd:Nm->List Nm
 ru:Nm->Nm
inductive Pt(π:PI):Nat->V->Prop
 |wk {k:Nat} {nm md:Nm}:ny nm->md∈jY->π.isW nm=some false->(∀c,π.ch c≠some nm)->Pt π (k+1) (sS nm md)
 |wd {k:Nat} {nm r:Nm} {m s:Int} {ps:List V}:ny nm->r∈fW->(0<=m/\m<=1000000000)->(1<=s/\s<=1000000000)->(1<=ps.length/\ps.length<=8)->π.isW nm=some true->(∀c,π.ch c=some nm↔∃p∈ps,au p=c)->(∀p∈ps,Pt π k p)->Pt π (k+1) (jZ nm r m s ps)
noncomputable def hr(h:Nm->Bool):Evt->Nm->Bool
 |.beg n=>λm=>decide (m=n)||h m
 |.end_ n|.fail n|.leave n=>λm=>!decide (m=n)&&h m
 |_=>h
noncomputable def Evt.nm:Evt->Nm
 |.beg n|.end_ n|.fail n|.leave n|.sent n _ _|.works n _|.lost n _=>n
def Evt.plain(π:PI):Evt->Prop
 |.beg n|.end_ n|.fail n|.leave n=>(π.isW n).isSome=true
 |_=>False
abbrev here(S:Hst):Nm->Bool:=λm=>dP m S.pres
noncomputable def gc(S:Hst)(c:Nm):List Int:=((dG c S.kept).map (·.2)).getD []
noncomputable def jW(c:Nm)(l:List Int):Evt->List Int
 |.beg n=>if n=c then []else l
 |_=>l
theorem vE{S:Hst}{n c:Nm}{x:Nat×List Int}{f:Nat->Option (Bool×Nm)}:gc (pK S n x f) c=if n=c then x.2 else gc S c:=by
 show((dG c (cY n x S.kept)).map (·.2)).getD []=_
 rw [jL]
 by_cases e:c=n
 ·rw [if_pos e,if_pos e.symm];rfl
 ·rw [if_neg e,if_neg λq=>e q.symm];rfl
noncomputable def lX(S:Hst)(c:Nm):Int:=(dG c S.sums).getD 0
noncomputable def m0(c:Nm)(s:Int):Evt->Int
 |.beg n=>if n=c then 0 else s
 |_=>s
theorem uF{S:Hst}{n c:Nm}{i:Int}:lX (pS S n i) c=if n=c then i else lX S c:=by
 show(dG c (cY n i S.sums)).getD 0=_
 rw [jL]
 by_cases e:c=n
 ·rw [if_pos e,if_pos e.symm];rfl
 ·rw [if_neg e,if_neg λq=>e q.symm];rfl
structure Sp(π:PI)(k0:Nm->List Int)(S S':Hst)(es:List Evt):Prop where
 ev:S'.ev=S.ev++es
 qu:S'.qu=S.qu
 ck:S'.clock=S.clock
 lt:S'.letters=S.letters
 kl:S'.kl<=S.kl+es.length
 hr:here S'=es.foldl hr (here S)
 nm:∀e∈es,e.plain π
 kp:∀c,gc S' c=es.foldl (jW c) (k0 c)
 sm:∀c,lX S' c=es.foldl (m0 c) (lX S c)
structure Gd(π:PI)(S:Hst):Prop where
 kw:∀m,dP m S.pres=true->π.isW m=some true->dP m S.kept=true
 ks:∀m,dP m S.pres=true->π.isW m=some false->dP m S.sums=true
 lp:S.pres.length<=S.ev.length
 lk:S.kept.length<=S.ev.length
 ls:S.sums.length<=S.ev.length
 ll:S.kl<=S.ev.length
 ko:∀m,dP m S.kept=true->π.isW m=some true
 so:∀m,dP m S.sums=true->π.isW m=some false
theorem I4{π:PI}{S:Hst}{n c:Nm}(g:Gd π S)(hw:π.isW n=some true):lX S c=m0 c (lX S c) (.beg n):=by
 show _=if n=c then 0 else lX S c
 by_cases e:n=c
 ·rw [if_pos e]
  unfold lX
  refine fA (o:=dG c S.sums) (λh=>by rw [h];rfl) λx h=>?_
  exact absurd (ai ((e▸g.so c (dY.mpr ⟨x,bV h⟩)).symm.trans hw)) am
 ·rw [if_neg e]
theorem HM{π:PI}{S:Hst}{n c:Nm}(g:Gd π S)(hw:π.isW n=some false):gc S c=jW c (gc S c) (.beg n):=by
 show _=if n=c then []else gc S c
 by_cases e:n=c
 ·rw [if_pos e]
  unfold gc
  refine fA (o:=dG c S.kept) (λh=>by rw [h];rfl) λx h=>?_
  exact absurd (ai (hw.symm.trans (e▸g.ko c (dY.mpr ⟨x,bV h⟩)))) am
 ·rw [if_neg e]
theorem Sp.refl{π:PI}(S:Hst):Sp π (gc S) S S []:=⟨(aA _).symm,rfl,rfl,rfl,aI _,rfl,qY,λ_=>rfl,λ_=>rfl⟩
theorem Sp.trans{π:PI}{k0:Nm->List Int}{S S₁ S₂:Hst}{es es':List Evt}(a:Sp π k0 S S₁ es)(b:Sp π (gc S₁) S₁ S₂ es'):Sp π k0 S S₂ (es++es'):=
 ⟨by rw [b.ev,a.ev,aj],b.qu.trans a.qu,b.ck.trans a.ck,b.lt.trans a.lt,by rw [af,<-bt];exact aa b.kl (aN a.kl _),by rw [b.hr,a.hr,bz],cq a.nm b.nm,λc=>by rw [b.kp c,a.kp c,bz],λc=>by rw [b.sm c,a.sm c,bz]⟩
theorem jf{α:Type}{n:Nm}{x:α}{l:AL α}:(cY n x l).length<=l.length+1:=by
 rw [<-ah (f:=(·.1)),j1]
 by_cases h:dP n l=true
 ·rw [if_pos h,ah];exact a9 _
 ·rw [if_neg h,af,ah];exact aI _
theorem ja{α:Type}{l:List α}{a:α}:l.length+1<=(l++[a]).length:=ao (af (as:=l) (bs:=[a])).symm
section
variable {π:PI}{S:Hst}{n:Nm}
theorem nI{α:Type}{x:α}{l:AL α}{m:Nm}(h:dP m l=true):dP m (cY n x l)=true:=by rw [jS,h,qP]
theorem rE{α:Type}{x:α}{l:AL α}:dP n (cY n x l)=true:=by rw [jS,decide_eq_true rfl];rfl
theorem hO{α:Type}{x:α}{l:AL α}{m:Nm}(h:dP m (cY n x l)=true):m=n\/dP m l=true:=by
 rw [jS,jg,decide_eq_true_iff]at h;exact h
theorem LF(g:Gd π S)(hw:π.isW n=some false):Gd π (pS (pE (pP S n) (.beg n)) n 0) where
 kw:=λm hm hW=>(hO hm).elim (λe=>absurd (ai (hw.symm.trans ((congrArg π.isW e).symm.trans hW))) am) λh=>g.kw m h hW
 ks:=λm hm hW=>(hO hm).elim (λe=>e▸rE) λh=>nI (g.ks m h hW)
 lp:=aa jf (aa (ax g.lp) ja)
 lk:=aa g.lk fQ
 ls:=aa jf (aa (ax g.ls) ja)
 ll:=aa g.ll fQ
 ko:=g.ko
 so:=λm hm=>(hO hm).elim (λe=>e▸hw) (g.so m)
theorem KW{r:Nat×List Int}{f:Nat->Option (Bool×Nm)}(g:Gd π S)(hw:π.isW n=some true):Gd π (pK (pE (pP S n) (.beg n)) n r f) where
 kw:=λm hm hW=>(hO hm).elim (λe=>e▸rE) λh=>nI (g.kw m h hW)
 ks:=λm hm hW=>(hO hm).elim (λe=>absurd (ai (hW.symm.trans ((congrArg π.isW e).trans hw))) am) λh=>g.ks m h hW
 lp:=aa jf (aa (ax g.lp) ja)
 lk:=aa jf (aa (ax g.lk) ja)
 ls:=aa g.ls fQ
 ll:=aa g.ll fQ
 ko:=λm hm=>(hO hm).elim (λe=>e▸hw) (g.ko m)
 so:=g.so
end
def BI(π:PI)(σ:Ad)(S:Hst)(v:V)(k:Nat)(ps:List V)(total:List Evt)(its:List V)(ρ:Fm)(H:AH):Prop:=
 ∃o S' es,ρ=[some (.ref σ.i),some v,o]/\Hs σ S' H/\Gd π S'/\Sp π (gc S) S S' es/\es++(its.flatMap (nms k)).map .beg=total/\∀p∈its,p∈ps
theorem LC{π:PI}{k0:Nm->List Int}{S S':Hst}{es es' total:List Evt}{b:Nat}(sp:Sp π k0 S S' es)(he:es++es'=total)(hb:S.ev.length+total.length<=b):S'.ev.length+es'.length<=b:=by
 rw [sp.ev,af,bt,<-af,he];exact hb
theorem Io{k m b:Nat}{x:V}{xs:List V}(h:m+(((x::xs).flatMap (nms k)).map Evt.beg).length<=b):m+(nms k x).length<=b:=by
 rw [ah,b0,af]at h;exact aa (aC (aq _ _) _) h
theorem uZ{π:PI}{σ:Ad}{k:Nat}{v:V}(hP:Pt π k v):∀{n:Nat} {S:Hst} {H:AH} {Q:QE} {X:XE},Hs σ S H->Gd π S->S.ev.length+(nms k v).length<=900000->(∀S' H',Hs σ S' H'->Gd π S'->Sp π (gc S) S S' ((nms k v).map .beg)->Q .none H')->aJ PL (n+k) 44 [.ref σ.i,v] H Q X:=by
 induction hP with
 |@wk k nm md h1 h2 h3 h4=>
  intro n S H Q X h g hb q
  have hs:S.ev.length<=az:=aa (aq _ _) (aa hb (by decide))
  exact cf xi rfl (uK h rfl (aK rfl) (aa g.lp hs) λH1 h1=>mH h1 rfl (.beg nm) (aK rfl) hs λH2 h2=>dy (aK rfl) (vj h2 rfl (aK rfl) (aK rfl) (aa g.ls hs) λH3 h5=>q _ _ h5 (LF g h3) ⟨rfl,rfl,rfl,rfl,a9 _,funext λm=>jS,dk (congrArg cH h3),λc=>show gc S c=jW c (gc S c) (.beg nm)from HM g h3,λ_=>uF⟩))
 |@wd k nm rl m s ps h1 h2 h3 h4 h5 h6 h7 _ ih=>
  intro n S H Q X h g hb q
  have hs:S.ev.length<=az:=aa (aq _ _) (aa hb (by decide))
  refine cf xi rfl (uK h rfl (aK rfl) (aa g.lp hs) λH1 h1=>mH h1 rfl (.beg nm) (aK rfl) hs λH2 h2=>bJ (aK rfl) (Cy h2 rfl (λ_=>aK rfl) (aa g.lk hs) λr f H3 h8=>?_))
  refine pZ (BI π σ S (jZ nm rl m s ps) k ps ((nms (k+1) (jZ nm rl m s ps)).map .beg)) (v:=.tup ps) (items:=ps) (aK rfl) (λ_ _ _ _=>rfl) (aa h5.2 (by decide)) ⟨none,_,[.beg nm],rfl,h8,KW g h6,⟨rfl,rfl,rfl,rfl,a9 _,funext λm=>jS,dk (congrArg cH h6),λ_=>vE,λc=>show lX S c=m0 c (lX S c) (.beg nm)from I4 g h6⟩,rfl,λ_ h=>h⟩
   (λx xs ρ' H' hI K' hK=>gF hI λo S' es e hS gS sp he hp=>?_) λρ' H' hI=>gF hI λo S' es _ hS gS sp he _=>q _ _ hS gS (he▸(aA es).symm▸sp)
  subst e
  exact dE hS rfl rfl (ev_var rfl) (ih x (hp x (.head _)) hS gS (Io (LC sp he ((ah _).symm▸hb))) λS'' H'' h' g' sp'=>hK _ _ ⟨_,S'',_,rfl,h',g',sp.trans sp',by rw [<-he,aj,<-aB];rfl,λp hp'=>hp p (.tail _ hp')⟩)
theorem zr{α0 α1 α2 α3:Type}{A0 A1 A2 A3 A4 A5 A6:α0->α1->α2->α3->Prop}{G:Prop}(h:∃a0 a1 a2 a3,A0 a0 a1 a2 a3/\A1 a0 a1 a2 a3/\A2 a0 a1 a2 a3/\A3 a0 a1 a2 a3/\A4 a0 a1 a2 a3/\A5 a0 a1 a2 a3/\A6 a0 a1 a2 a3)(k:∀a0 a1 a2 a3,A0 a0 a1 a2 a3->A1 a0 a1 a2 a3->A2 a0 a1 a2 a3->A3 a0 a1 a2 a3->A4 a0 a1 a2 a3->A5 a0 a1 a2 a3->A6 a0 a1 a2 a3->G):G:=h.elim λa0 h=>h.elim λa1 h=>h.elim λa2 h=>h.elim λa3 h=>k a0 a1 a2 a3 h.1 h.2.1 h.2.2.1 h.2.2.2.1 h.2.2.2.2.1 h.2.2.2.2.2.1 h.2.2.2.2.2.2
def FV(π:PI)(x:Nm)(h:Nm->Bool):Prop:=∀c m,π.ch c=some m->m≠x->h c=true->h m=true
noncomputable def sa(ns:List Nm)(h:Nm->Bool):Nm->Bool:=λm=>!ns.contains m&&h m
section
variable {π:PI}{k:Nat}{v:V}{x:Nm}{h:Nm->Bool}
theorem iH{ns:List Nm}{m:Nm}:sa ns h m=true↔m∉ns/\h m=true:=by
 show(!ns.contains m&&h m)=true↔_
 rw [cV,bZ,<-Bool.not_eq_true,aX]
theorem vH{a b:List Nm}:sa b (sa a h)=sa (a++b) h:=funext λm=>by
 refine(?_:(!b.contains m&&(!a.contains m&&h m))=(!(a++b).contains m&&h m))
 rw [List.contains_append]
 cases a.contains m<;>cases b.contains m<;>rfl
theorem B6{ns:List Nm}(q:∀m∈ns,h m=false):sa ns h=h:=funext λm=>by
 rw [cg,iH]
 exact⟨λq=>q.2,λr=>⟨λhm=>am ((q m hm).symm.trans r),r⟩⟩
theorem wt{a b:List Nm}(p:a.Perm b):sa a h=sa b h:=funext λm=>by
 refine(?_:(!a.contains m&&h m)=(!b.contains m&&h m))
 rw [show a.contains m=b.contains m from by rw [cg,aX,aX];exact p.mem_iff]
theorem rR(hP:Pt π k v):au v∈nms k v:=by
 induction hP with
 |wk=>exact .head _
 |wd=>exact .head _
theorem Df(hP:Pt π k v):∀{m c:Nm},m∈nms k v->π.ch c=some m->c∈nms k v:=by
 induction hP with
 |wk _ _ _ h4=>exact λhm hc=>absurd (in1 hm▸hc) (h4 _)
 |@wd k nm _ _ _ ps _ _ _ _ _ _ h7 h8 ih=>
  exact λ{m c} hm hc=>.tail _ (dN hm (λe:m=nm=>ea1_2 ((h7 c).mp (e▸hc)) λp hp (q:au p=c)=>bj.mpr ⟨p,hp,q▸rR (h8 p hp)⟩) λhm=>ea1_2 (bj.mp hm) λp hp hm=>bj.mpr ⟨p,hp,ih p hp hm hc⟩)
theorem Ao(hP:Pt π k v)(up:FV π x h):x∉nms k v->h (au v)=false->∀m∈nms k v,h m=false:=by
 induction hP with
 |wk=>exact λ_ h0=>dk h0
 |@wd k nm _ _ _ ps _ _ _ _ _ _ h7 h8 ih=>
  intro hx h0
  refine eJ h0 λm hm=>ea1_2 (bj.mp hm) λp hp hm=>ih p hp (λq=>hx (.tail _ (bj.mpr ⟨p,hp,q⟩))) (cK.mpr λq=>?_) m hm
  exact am (h0.symm.trans (up _ _ ((h7 _).mpr ⟨p,hp,rfl⟩) (λe=>hx (e▸.head _)) q))
theorem Gn(hP:Pt π k v)(up:FV π x h):FV π x (sa (nms k v) h):=λc m hc hx hh=>iH.mpr ⟨λhm=>(iH.mp hh).1 (Df hP hm hc),up c m hc hx (iH.mp hh).2⟩
end
theorem xU{α:Type}{n:Nm}{l:AL α}:(kr n l).length<=l.length:=by
 rw [<-ah (f:=(·.1)),mc,<-ah (f:=(·.1)) (as:=l)]
 exact List.length_erase_le
noncomputable def eE(h:Nm->Bool)(ns:List Nm):List Evt:=(ns.reverse.filter h).map .end_
section
variable {h:Nm->Bool}{a b:List Nm}
theorem sV:eE h (a++b)=eE h b++eE h a:=by unfold eE;rw [Hf,fJ,aB]
theorem nT:(eE h a).length<=a.length:=by
 unfold eE
 rw [ah]
 exact aa (cJ _ _) (ao bX)
theorem x7(q:∀m∈a,h m=false):eE h a=[]:=by
 unfold eE
 rw [fH.mpr λm hm=>by rw [q m (eG.mp hm)];exact am];rfl
theorem xL{h':Nm->Bool}(q:∀m∈a,h' m=h m):eE h' a=eE h a:=by
 unfold eE
 exact congrArg (ik Evt.end_) (qV λm hm=>q m (eG.mp hm))
theorem HQ:(∀c l,(eE h a).foldl (jW c) l=l)/\∀c s,(eE h a).foldl (m0 c) s=s:=by
 unfold eE
 induction a.reverse.filter h with
 |nil=>exact⟨λ_ _=>rfl,λ_ _=>rfl⟩
 |cons x l ih=>exact ih
end
def FA(π:PI)(σ:Ad)(k:Nat)(v:V):Prop:=∀{n:Nat} {S:Hst} {H:AH} {Q:QE} {X:XE} (x:Nm),x∉nms k v->Hs σ S H->Gd π S->FV π x (here S)->here S (au v)=true->S.ev.length+(nms k v).length<=900000->
 (∀S' H',Hs σ S' H'->Gd π S'->Sp π (gc S) S S' (eE (here S) (nms k v))->here S'=sa (nms k v) (here S)->Q .none H')->aJ PL (n+2*k) 46 [.ref σ.i,v] H Q X
section
variable {P:Prog}{C:Calls}{ρ:Fm}{H:AH}{X:XE}{π:PI}{σ:Ad}{S:Hst}{k i:Nat}{v:V}{e:Ex}{n:Nm}
theorem uB(hP:Pt π k v):aY P false .item [v,.int 1] H=some (.str (au v),H):=by
 induction hP with
 |wk=>exact rfl
 |wd=>exact rfl
theorem kz(hP:Pt π k v)(h:ρ[i]? =some (some v)):Ev P C ρ H X (.prim false .item [.var i,.cst (.int 1)]) (.str (au v)):=ev_p2 (ev_var h) an (uB hP)
theorem t9{a:Nat}{ks:List Nm}{vs:List V}(h:H[a]? =some (.dict ks vs)):aY P false (.cop .in_) [.str n,.ref a] H=some (.bool (ks.contains n),H):=by
 show((HI H (.str n) (.ref a) (H[a]?.bind O.lst))).map _=_
 rw [h]
 show((H[a]?.bind O.dct).bind _).map _=_
 rw [h];rfl
theorem lE(hs:Hs σ S H)(h0:ρ[0]? =some (some (.ref σ.i)))(he:Ev P C ρ H X e (.str n)):Ev P C ρ H X (.prim false (.cop .in_) [e,r9 ['p','r','e','s','e','n','t']]) (.bool (here S n)):=ev_p2 he (cU hs h0 rfl) (t9 (hs.get 5 rfl))
end
def EI6(π:PI)(σ:Ad)(S:Hst)(v:V)(k:Nat)(x:Nm)(ps:List V)(its:List V)(ρ:Fm)(H:AH):Prop:=
 ∃o S' dn,ρ=[some (.ref σ.i),some v,o]/\(Hs σ S' H/\Gd π S')/\Sp π (gc S) S S' (eE (here S) (dn.reverse.flatMap (nms k)))/\ps=dn++its/\here S'=sa (dn.flatMap (nms k)) (here S)/\FV π x (here S')
def Bb(π:PI)(σ:Ad)(k:Nat)(v:V):Prop:=∀{n:Nat} {S:Hst} {H:AH} {Q:QE} {X:XE} (x:Nm),x∉(kids v).flatMap (nms k)->((kids v).flatMap (nms k)).Nodup->Hs σ S H->Gd π S->FV π x (here S)->S.ev.length+((kids v).flatMap (nms k)).length<=900000->
 (∀S' H',Hs σ S' H'->Gd π S'->Sp π (gc S) S S' (eE (here S) ((kids v).flatMap (nms k)))->here S'=sa ((kids v).flatMap (nms k)) (here S)->FV π x (here S')->Q .none H')->aJ PL (n+2*k+1) 45 [.ref σ.i,v] H Q X
theorem Ag{π:PI}{σ:Ad}{k:Nat}{nm md:Nm}:Bb π σ k (sS nm md):=λ{_ S H _ _} _ _ _ h g up _ q=>cf Ai rfl (bJ (aK rfl) (q S H h g (Sp.refl S) rfl up))
theorem ya{π:PI}{σ:Ad}{k:Nat}{nm rl:Nm}{m s:Int}{ps:List V}(h5:ps.length<=8)(h8:∀p∈ps,Pt π k p)(ih:∀p∈ps,FA π σ k p):Bb π σ k (jZ nm rl m s ps):=λ{n S H Q X} x hx hnd h g up hb q=>by
 have pm:(ps.reverse.flatMap (nms k)).Perm (ps.flatMap (nms k)):=(ka ps).flatMap_right _
 have hnd:(ps.reverse.flatMap (nms k)).Nodup:=pm.nodup_iff.mpr hnd
 refine cf Ai rfl (dy (aK rfl) ?_)
 refine pZ (EI6 π σ S (jZ nm rl m s ps) k x ps.reverse) (v:=.tup ps) (items:=ps.reverse) (aK rfl) (λ_ _ _ _=>rfl) (aa (ao bX) (aa h5 (by decide))) ⟨none,S,[],rfl,⟨h,g⟩,Sp.refl S,rfl,rfl,up⟩
  (λp xs ρ' H' hI K' hK=>gF hI λo S' dn e hS sp hd hh hu=>?_) λρ' H' hI=>gF hI λo S' dn _ hS sp hd hh hu=>?_
 ·subst e
  have hm:p∈ps:=eG.mp (hd▸ak dn (.head _))
  haveI hpx:x∉nms k p:=λq=>hx (bj.mpr ⟨p,hm,q⟩)
  have ed:(dn++[p]).flatMap (nms k)=dn.flatMap (nms k)++nms k p:=by rw [bo,b0,iD,aA]
  have er:(dn++[p]).reverse.flatMap (nms k)=nms k p++dn.reverse.flatMap (nms k):=by rw [Hf];exact b0
  have ec:ps.reverse=(dn++[p])++xs:=hd.trans (aj dn [p] xs).symm
  haveI ln:(eE (here S) (dn.reverse.flatMap (nms k))).length+(nms k p).length<=(ps.flatMap (nms k)).length:=by
   rw [<-pm.length_eq,ec,bo,ed,af,af]
   exact aa (aN (aa nT (ao ((ka dn).flatMap_right _).length_eq)) _) (aq _ _)
  refine cZ (lE hS.1 rfl (kz (h8 p hm) rfl)) (λhp=>?_) λhp=>?_
  ·refine dE hS.1 rfl rfl (ev_var rfl) (ih p hm x hpx hS.1 hS.2 hu hp ?_ λS'' H'' hS' gS' sp' hh'=>hK _ _ ⟨_,S'',dn++[p],rfl,⟨hS',gS'⟩,?_,ec,?_,hh'▸Gn (h8 p hm) hu⟩)
   ·rw [sp.ev,af,bt]
    exact aa (aC ln _) hb
   ·haveI e:eE (here S') (nms k p)=eE (here S) (nms k p):=xL λm hm=>by
     rw [hh]
     refine cg.mpr ⟨λz=>(iH.mp z).2,λz=>iH.mpr ⟨λy=>?_,z⟩⟩
     rw [ec,bo,ed]at hnd
     exact(a8.mp (a8.mp hnd).1).2.2 m y m hm rfl
    rw [er,sV,<-e]
    exact sp.trans sp'
   ·rw [hh',hh,vH,ed]
  ·haveI off:=Ao (h8 p hm) hu hpx hp
   refine hK _ _ ⟨_,S',dn++[p],rfl,hS,?_,ec,?_,hu⟩
   ·haveI e:eE (here S) (nms k p)=[]:=x7 λm hm=>by
     have y:=off m hm
     rw [hh]at y
     refine cK.mpr λz=>am (y.symm.trans (iH.mpr ⟨λw=>?_,z⟩))
     rw [ec,bo,ed]at hnd
     exact(a8.mp (a8.mp hnd).1).2.2 m w m hm rfl
    rw [er,sV,e,aA]
    exact sp
   ·rw [ed,<-vH,<-hh,B6 off]
 ·haveI e:dn=ps.reverse:=((aA dn).symm.trans hd.symm)
  subst e
  rw [List.reverse_reverse]at sp
  exact q S' H' hS.1 hS.2 sp (hh.trans (wt pm)) hu
theorem ua{π:PI}{S:Hst}{n:Nm}{t:Evt}(g:Gd π S):Gd π (pE (pD S n) t) where
 kw:=λm hm=>g.kw m (dY.mpr ((dY.mp hm).imp λ_ h=>rV h))
 ks:=λm hm=>g.ks m (dY.mpr ((dY.mp hm).imp λ_ h=>rV h))
 lp:=aa (xU) (aa g.lp fQ)
 lk:=aa g.lk fQ
 ls:=aa g.ls fQ
 ll:=aa g.ll fQ
 ko:=g.ko
 so:=g.so
theorem vJ{a b:Nm}:(a==b)=decide (a=b):=by rw [cg,beq_iff_eq,decide_eq_true_iff]
theorem fM{a b:V}:[a,b].length<=az:=show 2<=az by decide
theorem Dg{π:PI}{k:Nat}{v:V}(hP:Pt π k v):(π.isW (au v)).isSome=true:=by
 induction hP with
 |wk _ _ h=>exact congrArg cH h
 |wd _ _ _ _ _ h=>exact congrArg cH h
theorem tA{k:Nat}{v p:V}(hn:(nms (k+1) v).Nodup)(hp:p∈kids v):(nms k p).Nodup:=
 (jv (bf hp)).nodup (dh▸(bg.mp hn).2)
theorem ri{π:PI}{σ:Ad}{k:Nat}{v:V}(hP:Pt π (k+1) v)(hn:(nms (k+1) v).Nodup)(ep:Bb π σ k v):FA π σ (k+1) v:=λ{n S H Q X} x hx h g up hh hb q=>by
 have nd:=bg.mp hn
 refine cf F5 rfl (dE h rfl rfl (ev_var rfl) (ep (n:=n) x (λq=>hx (.tail _ q)) nd.2 h g up (aa (aC (a9 _) _) hb) λS1 H1 hS gS sp hh1 _=>?_))
 have hs:S1.ev.length<=az:=by
  rw [sp.ev,af]
  exact aa (aC (aa nT (a9 _)) _) (aa hb (by decide))
 haveI e:eE (here S) (nms (k+1) v)=eE (here S) ((kids v).flatMap (nms k))++[.end_ (au v)]:=by
  refine(sV (a:=[au v]) (b:=(kids v).flatMap (nms k))).trans (congrArg _ ?_)
  unfold eE
  exact congrArg (ik Evt.end_) (cM hh)
 refine qN hS rfl (kz hP rfl) ((congrFun hh1 _).trans (iH.mpr ⟨nd.1,hh⟩)) (aa gS.lp hs) λH2 hS2=>mH hS2 rfl (.end_ (au v)) (ev_p2 an (kz hP rfl) (eR fM)) hs λH3 hS3=>q _ _ hS3 (ua gS) (e▸sp.trans ⟨rfl,rfl,rfl,rfl,a9 _,funext λm=>gj hS.pn,dk (Dg hP),λ_=>rfl,λ_=>rfl⟩) (funext λm=>(gj hS.pn).trans ?_)
 rw [show dP m S1.pres=sa ((kids v).flatMap (nms k)) (here S) m from congrFun hh1 m]
 show(!decide (m=au v)&&(!((kids v).flatMap (nms k)).contains m&&here S m))=(!(au v::(kids v).flatMap (nms k)).contains m&&here S m)
 rw [gW,Bool.not_or,Bool.and_assoc,vJ]
theorem Dq{π:PI}{σ:Ad}{k:Nat}{v:V}(hP:Pt π k v):(nms k v).Nodup->FA π σ k v:=by
 induction hP with
 |wk h1 h2 h3 h4=>exact λhn=>ri (.wk h1 h2 h3 h4) hn Ag
 |wd h1 h2 h3 h4 h5 h6 h7 h8 ih=>exact λhn=>ri (.wd h1 h2 h3 h4 h5 h6 h7 h8) hn (ya h5.2 h8 λp hp=>ih p hp (tA hn hp))
section
variable {H:AH}{Q:QE}{X:XE}
theorem n8{P:Prog}{ρ:Fm}{C:Calls}{p:Prim}{a:Ex}(k:cz P C a ρ H (λu H'=>g7 (aY P false p [u] H') Q) X):cz P C (.prim false p [a]) ρ H Q X:=k
theorem mI{P:Prog}{ρ:Fm}{C:Calls}{p:Prim}{a b:Ex}(k:cz P C a ρ H (λu H'=>cz P C b ρ H' (λw H''=>g7 (aY P false p [u,w] H'') Q) X) X):cz P C (.prim false p [a,b]) ρ H Q X:=k
theorem C0{P:Prog}{ρ:Fm}{C:Calls}{p:Prim}{a b c:Ex}{x y:V}(ha:Ev P C ρ H X a x)(hb:Ev P C ρ H X b y)(k:cz P C c ρ H (λu H'=>g7 (aY P false p [x,y,u] H') Q) X):cz P C (.prim false p [a,b,c]) ρ H Q X:=ha _ (hb _ k)
theorem gO{P:Prog}{ρ:Fm}{C:Calls}{f:Nat}{a:Ex}{x:V}(ha:Ev P C ρ H X a x)(k:C f [x] H Q X):cz P C (.call f [a]) ρ H Q X:=ha _ k
theorem fT{P:Prog}{ρ:Fm}{C:Calls}{f:Nat}{a b:Ex}{x y:V}(ha:Ev P C ρ H X a x)(hb:Ev P C ρ H X b y)(k:C f [x,y] H Q X):cz P C (.call f [a,b]) ρ H Q X:=ha _ (hb _ k)
theorem gi{P:Prog}{ρ:Fm}{C:Calls}{f:Nat}{a b c d:Ex}{x y z:V}(ha:Ev P C ρ H X a x)(hb:Ev P C ρ H X b y)(hc:Ev P C ρ H X c z)(k:cz P C d ρ H (λu H'=>C f [x,y,z,u] H' Q X) X):cz P C (.call f [a,b,c,d]) ρ H Q X:=ha _ (hb _ (hc _ k))
theorem gR{P:Prog}{C:Calls}{ρ:Fm}{a b c:Ex}{x y z:V}{f:Nat}(ha:Ev P C ρ H X a x)(hb:Ev P C ρ H X b y)(hc:Ev P C ρ H X c z)(k:C f [x,y,z] H Q X):cz P C (.call f [a,b,c]) ρ H Q X:=ha _ (hb _ (hc _ k))
theorem FB{P:Prog}{C:Calls}{ρ:Fm}{K:KS}{R:QE}{as bs:List St}{t:Bool}(yes:t=true->a7 P C as ρ H K R X)(no:t=false->a7 P C bs ρ H K R X):mK (fk (.bool t)) λt=>if t then a7 P C as ρ H K R X else a7 P C bs ρ H K R X:=by
 cases t with
 |true=>exact yes rfl
 |false=>exact no rfl
end
section
variable {P:Prog}{C:Calls}{ρ:Fm}{H:AH}{Q:QE}{X:XE}{α:Type}{l:List α}{f g:α->V}{p:α->Bool}{elt it c:Ex}{w:V}
theorem wp_mapT(hit:Ev P C ρ H X it w)(hs:p4 H w=some (l.map f))(hl:l.length<=az)(he:∀a∈l,Ev P C (ρ++[some (f a)]) H X elt (g a))(q:Q (.ref H.length) (H++[.list (l.map g)])):cz P C (.comp true elt it none) ρ H Q X:=
 hit _ ⟨l.map f,hs,(ah f).symm▸hl,oZ hs (λa ha K hK=>he a ha _ hK) (hE rfl q)⟩
theorem uS(hit:Ev P C ρ H X it w)(hs:p4 H w=some (l.map f))(hl:l.length<=az)(hc:∀a∈l,Ev P C (ρ++[some (f a)]) H X c (.bool (p a)))(he:∀a∈l,p a=true->Ev P C (ρ++[some (f a)]) H X elt (g a))(q:Q (.ref H.length) (H++[.list ((l.filter p).map g)])):cz P C (.comp true elt it (some c)) ρ H Q X:=by
 refine hit _ ⟨l.map f,hs,(ah f).symm▸hl,oU (p:=p) hs (λa ha K hK=>hc a ha _ ?_) (hE rfl q)⟩
 cases hp:p a with
 |true=>rw [hp]at hK;exact he a ha hp _ hK
 |false=>rw [hp]at hK;exact hK
end
theorem f8{n r:Nat}{hrs:List Int}{a b:Int}{H:AH}{Q:QE}{X:XE}(h:H[r]? =some (.list (hrs.map V.int)))(hl:hrs.length<=az)(q:∀o,o=.list ((hrs.filter λz=>decide (a-b<z)).map V.int)->Q (.ref H.length) (H++[o])):aJ PL (n+1) 7 [.ref r,.int a,.int b] H Q X:=
 cf IF rfl (gJ (uS (f:=V.int) (g:=V.int) (p:=λz=>decide (a-b<z)) (ev_var rfl) (show H[r]?.bind O.lst=_ by rw [h];rfl) hl (λ_ _=>aK rfl) (λ_ _ _=>ev_var rfl) (q _ rfl)))
theorem j6{a b:Nat}:iL a b=((aV (b-a)).map (a+·)).map λj:Nat=>V.int j:=by
 unfold iL
 rw [bB,Int.toNat_sub]
 rfl
noncomputable def oD{α:Type}(rl:Nm)(l:List α)(i:Nat)(x:α):List α:=if rl=['o','n','e']then [x]else if rl=['r','e','s','t']then l.drop i else l
theorem rS{s i:Nat}:(aV (s-i)).map (i+·)=(aV s).drop i:=by
 refine fi λj=>?_
 rw [aO,Ke]
 by_cases h:j<s-i
 ·rw [cc h,cc (ce i j▸Nat.add_lt_of_lt_sub h)];rfl
 ·haveI h:=dD h
  rw [eQ (by rw [ba];exact h),eQ (by rw [ba];exact Nat.sub_le_iff_le_add'.mp h)];rfl
theorem f9{n s i:Nat}{rl:Nm}{H:AH}{Q:QE}{X:XE}(hr:rl∈fW)(hi:i<s)(hs:s<=8)(q:Q (.lst ((oD rl (aV s) i i).map λj:Nat=>V.int j)) H):aJ PL (n+1) 8 [.str rl,.int s,.int i] H Q X:=by
 haveI hs':s<=1000:=aa hs (by decide)
 refine dN hr (λe=>?_) λhr=>dN hr (λe=>?_) λhr=>?_
 ·subst e
  exact cf yf rfl (dy (aK rfl) (ev_ret (aK rfl) q))
 ·subst e
  refine cf yf rfl (bJ (aK rfl) (dy (aK rfl) (ev_ret (cD (ev_p2 (ev_var rfl) (ev_var rfl) (pJ (yA (aa (eB hi) hs')) (yA hs'))) (rB (smt hs'))) ?_)))
  rw [j6,rS]
  exact q
 ·haveI e:=in1 hr
  subst e
  refine cf yf rfl (bJ (aK rfl) (bJ (aK rfl) (ev_ret (cD (cD (ev_var rfl) (fY (yA hs'))) (rB (smt (b:=0) hs'))) ?_)))
  rw [show iL 0 s=iL (0:Nat) s from rfl,j6,rS]
  exact q
theorem pU{α:Type}{rl:Nm}{l:List α}{i:Nat}{x:α}(h:l[i]? =some x):∀y∈oD rl l i x,y∈l:=λy hy=>by
 unfold oD at hy
 by_cases e:rl=['o','n','e']
 ·rw [if_pos e]at hy;exact in1 hy▸aM h
 ·rw [if_neg e]at hy
  by_cases e:rl=['r','e','s','t']
  ·rw [if_pos e]at hy;exact GY hy
  ·rw [if_neg e]at hy;exact hy
theorem Am{α:Type}{rl:Nm}{l:List α}{i:Nat}{x:α}(nd:l.Nodup):(oD rl l i x).Nodup:=by
 unfold oD
 by_cases e:rl=['o','n','e']
 ·rw [if_pos e];exact bg.mpr ⟨aZ,cR⟩
 ·rw [if_neg e]
  by_cases e:rl=['r','e','s','t']
  ·rw [if_pos e];exact nd.sublist (List.drop_sublist i l)
  ·rw [if_neg e];exact nd
theorem vG{α β:Type}{f:α->β}{rl:Nm}{l:List α}{i:Nat}{x:α}:(oD rl l i x).map f=oD rl (l.map f) i (f x):=by
 unfold oD
 by_cases e:rl=['o','n','e']
 ·rw [if_pos e,if_pos e];rfl
 ·rw [if_neg e,if_neg e]
  by_cases e:rl=['r','e','s','t']
  ·rw [if_pos e,if_pos e,on]
  ·rw [if_neg e,if_neg e]
theorem uO{α:Type}{rl:Nm}{l:List α}{i:Nat}{x:α}(h:i<l.length):(oD rl l i x).length<=l.length:=by
 unfold oD
 by_cases e:rl=['o','n','e']
 ·rw [if_pos e];exact cQ (aQ _) h
 ·rw [if_neg e]
  by_cases e:rl=['r','e','s','t']
  ·rw [if_pos e,gr];exact eK _ _
  ·rw [if_neg e];exact aI _
def Up(π:PI)(h:Nm->Bool):Prop:=∀c m,π.ch c=some m->h c=true->h m=true
section
variable {P:Prog}{C:Calls}{ρ:Fm}{H:AH}{K:KS}{R:QE}{X:XE}{ss:List St}{σ:Ad}{S:Hst}{n:Nm}{a b c:Ex}{x y z:V}
theorem iQ{d:Nat}{ks:List Nm}{vs:List V}(h:H[d]? =some (.dict ks vs))(e:ft n ks vs=some x):aY P false .item [.ref d,.str n] H=some (x,H):=by
 show((H[d]?.bind O.dct).bind λd=>ft n d.1 d.2).map _=_
 rw [h]
 show(ft n ks vs).map _=_
 rw [e];rfl
theorem l6{α:Type}{val:α->V}{l:AL α}{d:Nat}{x:α}(h:H[d]? =some (dO val l))(e:dG n l=some x):aY P false .item [.ref d,.str n] H=some (val x,H):=iQ h (lM.trans (congrArg (bR val) e))
theorem yo{vs:List V}{i:Nat}(h:vs[i]? =some x):aY P false .item [.tup vs,.int i] H=some (x,H):=by
 show((tb vs.length i).bind λj=>vs[j]?).map _=_
 haveI e:tb vs.length i=some i:=(if_pos (bv i)).trans (if_pos (cu.mpr (ae.mp h).1))
 rw [e]
 show(vs[i]?).map _=_
 rw [h];rfl
theorem mh{t:Mt}{mu:Bool}{p:Prim}(ho:Ev P C ρ H X a x)(ht:kF H x t=true)(hb:Ev P C ρ H X b y)(e:aY P mu p [x,y] H=some (z,H)):Ev P C ρ H X (.mcall t mu p a [b]) z:=λ_ q=>ho _ ⟨ht,hb _ (hE e q)⟩
theorem st_mc1{t:Mt}{mu:Bool}{p:Prim}(ho:Ev P C ρ H X a x)(ht:kF H x t=true)(hb:Ev P C ρ H X b y)(k:g7 (aY P mu p [x,y] H) λ_ H'=>a7 P C ss ρ H' K R X):a7 P C (.expr (.mcall t mu p a [b])::ss) ρ H K R X:=st_expr (ho _ ⟨ht,hb _ k⟩)
theorem xO{f i:Nat}{u:V}(ha:Ev P C ρ H X a x)(hb:Ev P C ρ H X b y)(hc:Ev P C ρ H X c u)(k:C f [x,y,u] H (λv H'=>i<ρ.length/\a7 P C ss (ρ.set i (some v)) H' K R X) X):a7 P C (.asg i (.call f [a,b,c])::ss) ρ H K R X:=dT (ha _ (hb _ (hc _ k)))
end
section
variable {n:Nm}
theorem oQ{α:Type}{x:α}{l:AL α}{p:Nm×α}(nd:(l.map (·.1)).Nodup)(h:p∈cY n x l):p=(n,x)\/p∈l/\p.1≠n:=by
 induction l with
 |nil=>exact .inl (in1 h)
 |cons q l ih=>
  haveI h:p∈(if n=q.1 then(q.1,x)::l else q::cY n x l):=h
  haveI nd:=bg.mp nd
  by_cases e:n=q.1
  ·rw [if_pos e]at h;exact dN h (λh=>.inl (e▸h)) λh=>.inr ⟨.tail _ h,λz=>nd.1 (aG.mpr ⟨p,h,z.trans e⟩)⟩
  ·rw [if_neg e]at h;exact dN h (λh=>.inr ⟨h▸.head _,h▸Ne.symm e⟩) λh=>(ih nd.2 h).imp id λh=>⟨.tail _ h.1,h.2⟩
theorem vr{α:Type}{val:α->V}{l:AL α}{x y:α}(h:dG n l=some x)(e:val x=val y):dO val (cY n y l)=dO val l:=by
 haveI q:(cY n y l).map (·.1)=l.map (·.1)/\((cY n y l).map λp=>val p.2)=l.map λp=>val p.2:=by
  induction l with
  |nil=>exact nomatch h
  |cons q l ih=>
   haveI h:(if n=q.1 then some q.2 else dG n l)=some x:=h
   refine(?_:((if n=q.1 then(q.1,y)::l else q::cY n y l).map (·.1))=_/\((if n=q.1 then(q.1,y)::l else q::cY n y l).map λp=>val p.2)=_)
   by_cases z:n=q.1
   ·rw [if_pos z]at h ⊢
    exact⟨rfl,congrArg (·::_) (e.symm.trans (congrArg val (ai h).symm))⟩
   ·rw [if_neg z]at h ⊢
    exact⟨congrArg (q.1::·) (ih h).1,congrArg (val q.2::·) (ih h).2⟩
 unfold dO
 rw [q.1,q.2]
end
section
variable {P:Prog}{C:Calls}{ρ:Fm}{H:AH}{K:KS}{R:QE}{X:XE}{ss:List St}{σ:Ad}{S:Hst}{n:Nm}
noncomputable def pA(S:Hst)(n:Nm)(r:Nat)(q:List Int):Hst:={S with kept:=cY n (r,q) S.kept,kl:=S.kl+1}
theorem DH{r:Nat}{q:List Int}{c:Nm}:gc (pA S n r q) c=if n=c then q else gc S c:=vE (f:=S.own)
theorem Hs.keptSet(h:Hs σ S H){r:Nat}{q q':List Int}(e:dG n S.kept=some (r,q))(hl:q'.length<=S.kl+1):Hs σ (pA S n r q') (H.set r (.list (q'.map V.int))):=by
 haveI hp:=h.kp _ (bV e)
 have ho:=hp.1
 haveI hlt:r<H.length:=(ae.mp hp.2.1).1
 haveI ef:fq σ (pA S n r q')=fq σ S:=by
  unfold fq
  rw [show(pA S n r q').kept=cY n (r,q') S.kept from rfl,vr (val:=JS) (y:=(r,q')) e rfl];rfl
 refine⟨ef▸h.nd,ef▸λp hp=>⟨(bp λz=>eY ((h.fix p hp).2.symm.trans (z▸ho))).trans (h.fix p hp).1,(h.fix p hp).2⟩,λp hp=>(oQ h.kn hp).elim (λz=>z▸⟨ho,bS hlt,hl⟩) λz=>haveI y:=h.kp p z.1;⟨y.1,(bp λw=>z.2 ?_).trans y.2.1,aa y.2.2 (a9 _)⟩,λp hp=>⟨(h.qp p hp).1,(bp λz=>?_).trans (h.qp p hp).2.1,(h.qp p hp).2.2⟩,h.qn,h.pn,lJ h.kn,λb hb=>h.fr b (aa (ao aR.symm) hb)⟩
 ·exact congrArg jD (ai (y.1.symm.trans (w▸ho)))
 ·exact absurd (congrArg qT (ai ((h.qp p hp).1.symm.trans ((congrArg S.own z).symm.trans ho)))) am
theorem tR{r i:Nat}{hrs:List Int}(h:Hs σ S H)(h0:ρ[0]? =some (some (.ref σ.i)))(hi:ρ[i]? =some (some (.ref r)))(e:dG n S.kept=some (r,hrs))(hl:S.kl<=az)(k:∀H',Hs σ (pA S n r (hrs++[S.clock])) H'->a7 P C ss ρ H' K R X) :
  a7 P C (.expr (.mcall .list false .append (.var i) [r9 ['c','l','o','c','k']])::ss) ρ H K R X:=
 haveI q:=(h.kp _ (bV e)).2
 st_mc1 (ev_var hi) (d8 q.1) (cU h h0 rfl) (hE (dU q.1 (aa (ao (ah _)) (aa q.2 hl))) (k _ (aB (f:=V.int) (l₁:=hrs) (l₂:=[S.clock])▸h.keptSet e (aa (ao af) (ax q.2)))))
end
theorem iW{d:Nat}{vs:List V}(h:∀v∈vs,v.data=true/\v.depth<=d):V.datas vs=true/\V.depths vs<=d:=by
 induction vs with
 |nil=>exact⟨rfl,aQ _⟩
 |cons w vs ih=>exact⟨ay.mpr ⟨(h w (.head _)).1,(ih λv hv=>h v (.tail _ hv)).1⟩,gY.mpr ⟨(h w (.head _)).2,(ih λv hv=>h v (.tail _ hv)).2⟩⟩
theorem tS{π:PI}{k:Nat}{v:V}(hP:Pt π k v):v.data=true/\v.depth<=2*k:=by
 induction hP with
 |@wk k=>exact⟨rfl,aa (by decide:1<=2) (bw 2 (2*k))⟩
 |@wd k _ _ _ _ ps _ _ _ _ _ _ _ _ ih=>
  haveI q:=iW ih
  refine⟨?_,?_⟩
  ·show (V.datas ps&&true)=true
   rw [q.1];rfl
  ·haveI z:∀{a:Nat},a<=2*k+1->max 0 a<=2*k+1:=λh=>gY.mpr ⟨aQ _,h⟩
   exact ax (z (z (z (z (z (gY.mpr ⟨ax q.2,aQ _⟩))))))
theorem Ig{π:PI}{k k':Nat}{a b:V}(ha:Pt π k a)(hb:Pt π k' b)(h:gf a b=true):au a=au b:=by
 induction ha with
 |@wk _ n1=>
  induction hb with
  |@wk _ n2=>
   haveI h:(wk==wk&&(n1==n2&&_))=true:=h
   exact beq_iff_eq.mp (ay.mp (ay.mp h).2).1
  |wd=>exact absurd (show false=true from h) am
 |@wd _ n1=>
  induction hb with
  |wk=>exact absurd (show false=true from h) am
  |@wd _ n2=>
   haveI h:(wd==wd&&(n1==n2&&_))=true:=h
   exact beq_iff_eq.mp (ay.mp (ay.mp h).2).1
theorem FW{P:Prog}{π:PI}{k:Nat}{H:AH}{ps:List V}{v:V}(hk:k<=7)(h8:∀p∈ps,Pt π k p)(hv:v∈ps):∃(i:Nat) (q:V),ps[i]? =some q/\au q=au v/\aY P false .index [.tup ps,v] H=some (.int i,H):=by
 have hk:2*k<=50:=aa (bn 2 hk) (by decide)
 have hx:∃x,x∈ps/\gf x v=true:=⟨v,hv,gU v (tS (h8 v hv)).1⟩
 haveI hd:=iW λp hp=>tS (h8 p hp)
 haveI e1:rd H v=some v:=by
  have q:=tS (h8 v hv)
  have:(v.data&&decide (v.depth<=50))=true:=by rw [q.1,decide_eq_true (aa q.2 hk)];rfl
  cases v<;>first|exact absurd q.1 am|exact if_pos this|rfl
 haveI hl:=List.findIdx_lt_length_of_exists hx
 haveI hq:=GX (xs:=ps) (p:=λy=>gf y v) (w:=hl)
 refine⟨ps.findIdx λy=>gf y v,_,aH hl,Ig (h8 _ (sO hl)) (h8 v hv) hq,?_⟩
 show((rd H v).bind λx'=>if rH ps=true then(ps.findIdx? λy=>gf y x').map λ(k:Nat)=>(V.int k,H)else none)=_
 rw [e1]
 show(if rH ps=true then(ps.findIdx? λy=>gf y v).map λ(k:Nat)=>(V.int k,H)else none)=_
 rw [if_pos (kM hd.1 (aa hd.2 hk)),List.findIdx?_eq_some_of_exists hx]
 rfl
theorem qD{P:Prog}{C:Calls}{ρ:Fm}{H:AH}{K:KS}{R:QE}{X:XE}{ss body:List St}{rev:Bool}{tgt:Nat ⊕ List Nat}{v:V}{α:Type}{f:α->V}{st:α->Fm->Fm}(ht:∀x ρ,fX ρ tgt (f x)=some (st x ρ)){l:List α}(Inv:List α->Fm->AH->Prop)
  (hs:∀its ρ' H',Inv its ρ' H'->je rev H' v=some (l.map f))(hl:l.length<=az)(h0:Inv l ρ H)
  (step:∀x xs ρ' H',Inv (x::xs) ρ' H'->∀K':KS,(∀ρ'' H'',Inv xs ρ'' H''->K' ρ'' H'')->a7 P C body (st x ρ') H' K' R (λ_ _=>False))
  (fin:∀ρ' H',Inv [] ρ' H'->a7 P C ss ρ' H' K R X):∃items,je rev H v=some items/\items.length<=az/\
   forL (λx ρ' H' K'=>match fX ρ' tgt x with|some ρ''=>a7 P C body ρ'' H' K' R (λ_ _=>False)|none=>False) (λH'=>je rev H' v=some items) items ρ H (λρ' H'=>a7 P C ss ρ' H' K R X):=by
 refine⟨l.map f,hs _ _ _ h0,(ah f).symm▸hl,nK (λits ρ H=>∃js,js.map f=its/\Inv js ρ H) (λx xs ρ' H' q=>ea1_2 q λjs e q=>⟨hs _ _ _ q,λK' hK=>?_⟩) (λρ' H' q=>ea1_2 q λjs e q=>⟨hs _ _ _ q,fin _ _ (oj.mp e▸q)⟩) ⟨l,rfl,h0⟩⟩
 cases js with
 |nil=>exact absurd e.symm (sP _ _)
 |cons j js=>
  haveI e:=oo e
  rw [<-e.1,ht]
  exact step j js ρ' H' q K' λρ'' H'' q=>hK _ _ ⟨js,e.2,q⟩
theorem uV{P:Prog}{C:Calls}{ρ:Fm}{H:AH}{K:KS}{R:QE}{X:XE}{ss body:List St}{rev:Bool}{tgt:Nat ⊕ List Nat}{e:Ex}{v:V}{α:Type}{f:α->V}{st:α->Fm->Fm}(ht:∀x ρ,fX ρ tgt (f x)=some (st x ρ)){l:List α}(Inv:List α->Fm->AH->Prop)(h:Ev P C ρ H X e v)
  (hs:∀its ρ' H',Inv its ρ' H'->je rev H' v=some (l.map f))(hl:l.length<=az)(h0:Inv l ρ H)
  (step:∀x xs ρ' H',Inv (x::xs) ρ' H'->∀K':KS,(∀ρ'' H'',Inv xs ρ'' H''->K' ρ'' H'')->a7 P C body (st x ρ') H' K' R (λ_ _=>False))
  (fin:∀ρ' H',Inv [] ρ' H'->a7 P C ss ρ' H' K R X):a7 P C (.forIn rev tgt e body::ss) ρ H K R X:=pR (h _ (qD ht Inv hs hl h0 step fin))
theorem d5{P:Prog}{C:Calls}{ρ:Fm}{H:AH}{K:KS}{R:QE}{X:XE}{ss body:List St}{rev:Bool}{i:Nat}{e:Ex}{v:V}{α:Type}{f:α->V}{l:List α}(Inv:List α->Fm->AH->Prop)(h:Ev P C ρ H X e v)
  (hs:∀its ρ' H',Inv its ρ' H'->je rev H' v=some (l.map f))(hl:l.length<=az)(h0:Inv l ρ H)
  (step:∀x xs ρ' H',Inv (x::xs) ρ' H'->∀K':KS,(∀ρ'' H'',Inv xs ρ'' H''->K' ρ'' H'')->a7 P C body (ρ'.set i (some (f x))) H' K' R (λ_ _=>False))
  (fin:∀ρ' H',Inv [] ρ' H'->a7 P C ss ρ' H' K R X):a7 P C (.forIn rev (.inl i) e body::ss) ρ H K R X:=uV (st:=λx ρ=>ρ.set i (some (f x))) (λ_ _=>rfl) Inv h hs hl h0 step fin
theorem sZ{N m f:Nat}{args:List V}{H:AH}{Q:QE}{X:XE}(h:m<=N)(k:aJ PL (N-m+m) f args H Q X):aJ PL N f args H Q X:=by
 rw [fG h]at k;exact k
section
variable {π:PI}{σ:Ad}{k d:Nat}{v:V}{h:Nm->Bool}{n:Nm}
theorem uv(hP:Pt π k v)(up:Up π h):Up π (sa (nms k v) h):=λc m hc hh=>iH.mpr ⟨λhm=>(iH.mp hh).1 (Df hP hm hc),up c m hc (iH.mp hh).2⟩
theorem xe{ns:List Nm}:sa ns (λm=>!decide (m=n)&&h m)=sa (n::ns) h:=funext λm=>by
 refine(?_:(!ns.contains m&&(!decide (m=n)&&h m))=(!(n::ns).contains m&&h m))
 rw [gW,Bool.not_or,<-vJ]
 cases ns.contains m<;>cases m==n<;>rfl
theorem lz(hP:Pt π k v):nms k v=au v::(kids v).flatMap (nms (k-1)):=by
 induction hP with
 |wk=>exact rfl
 |wd=>exact rfl
theorem GC(hP:Pt π k v):(nms k v).Nodup->Bb π σ (k-1) v:=by
 induction hP with
 |wk=>exact λ_=>Ag
 |wd h1 h2 h3 h4 h5 h6 h7 h8=>exact λhn=>ya h5.2 h8 λp hp=>Dq (h8 p hp) (tA hn hp)
theorem I6(hP:Pt π k v):∀{c m:Nm},c∈nms k v->π.ch c=some m->m∈nms k v\/c=au v:=by
 induction hP with
 |wk=>exact λhc _=>.inr (in1 hc)
 |@wd k nm _ _ _ ps _ _ _ _ _ _ h7 _ ih=>
  exact λ{c m} hc hm=>dN hc .inr λhc=>ea1_2 (bj.mp hc) λp hp hc=>.inl ((ih p hp hc hm).elim (λh=>.tail _ (bj.mpr ⟨p,hp,h⟩)) λe=>ai (hm.symm.trans ((h7 c).mpr ⟨p,hp,e.symm⟩))▸.head _)
theorem sJ{ns:List Nm}{m:Nm}:∀{h:Nm->Bool},(ns.map Evt.beg).foldl hr h m=true↔m∈ns\/h m=true:=by
 induction ns with
 |nil=>exact⟨.inr,λq=>q.elim (λq=>absurd q aZ) id⟩
 |cons a ns ih=>
  intro h
  refine ih.trans ?_
  refine(?_:m∈ns\/(decide (m=a)||h m)=true↔_)
  rw [jg,decide_eq_true_iff,bG,or_assoc,or_left_comm]
theorem DL(hP:Pt π k v)(hc:π.ch (au v)=some n)(hn:h n=true)(up:Up π h):Up π (((nms k v).map Evt.beg).foldl hr h):=λc m e hh=>sJ.mpr ((sJ.mp hh).elim (λq=>(I6 hP q e).elim .inl λz=>.inr (ai (hc.symm.trans (z▸e))▸hn)) λhh=>.inr (up c m e hh))
theorem dj{ps:List V}{a b:Nat}{p q:V}{x:Nm}(nd:(ps.flatMap (nms k)).Nodup)(ha:ps[a]? =some p)(hb:ps[b]? =some q)(hn:a≠b)(hx:x∈nms k p):x∉nms k q:=λhq=>by
 have w:=List.pairwise_iff_getElem.mp (mD.mp nd).2
 obtain⟨la,ea⟩:=ae.mp ha
 obtain⟨lb,eb⟩:=ae.mp hb
 rcases Nat.lt_or_gt_of_ne hn with l|l
 ·exact w a b la lb l x (ea▸hx) x (eb▸hq) rfl
 ·exact w b a lb la l x (eb▸hq) x (ea▸hx) rfl
theorem vC{p w:V}{G:V->Nat->Prop}(hP:Pt π k w)(hp:p∈kids w)(g:∀k nm rl m s ps,rl∈fW->ps.length<=8->π.isW nm=some true->(∀c,π.ch c=some nm↔∃p∈ps,au p=c)->(∀p∈ps,Pt π k p)->p∈ps->G (jZ nm rl m s ps) (k+1)):G w k:=by
 induction hP with
 |wk=>exact absurd hp aZ
 |wd _ h2 _ _ h5 h6 h7 h8=>exact g _ _ _ _ _ _ h2 h5.2 h6 h7 h8 hp
end
noncomputable def LD:List V->Nm
 |_::_::v::_=>v.txt.getD []
 |_=>[]
noncomputable def JP(v:V):Nm:=LD (v.tpl.getD [])
noncomputable def BO(v:V):Bool:=JP v==['n','e','v','e','r']
noncomputable def Ho(v:V):Bool:=!(JP v==['f','a','u','l','t','e','d']||BO v)
noncomputable def IL(k:Nat)(vs:List V):Int:=((vs[k]?).bind V.num).getD 0
noncomputable def spV(v:V):Int:=IL 4 (v.tpl.getD [])
noncomputable def mnV(v:V):Int:=IL 3 (v.tpl.getD [])
noncomputable def io:Nat->V->List V
 |0,_=>[]
 |k+1,v=>v::(kids v).flatMap (io k)
structure mdOk(π:PI)(x:V):Prop where
 nv:π.nv (au x)=BO x
 al:π.al (au x)=Ho x
 sp:π.sp (au x)=spV x
 mn:π.mn (au x)=mnV x
 sb:π.sb (au x)=nms 8 x
 kd:π.kd (au x)=(kids x).map au
 ru:π.ru (au x)=JP x
theorem zN{π:PI}{k:Nat}{v:V}(hP:Pt π k v):∀{j:Nat},k<=j->nms j v=nms k v:=by
 induction hP with
 |wk=>intro j hj;cases j with
  |zero=>exact absurd hj (dI _)
  |succ j=>exact rfl
 |@wd k nm _ _ _ ps _ _ _ _ _ _ _ _ ih=>intro j hj;cases j with
  |zero=>exact absurd hj (dI _)
  |succ j=>
   refine(?_:nm::ps.flatMap (nms j)=nm::ps.flatMap (nms k))
   rw [dh,dh]
   exact congrArg (λl=>nm::qW l) (cb λp hp=>ih p hp (fK hj))
theorem q7{P:Prog}{C:Calls}{ρ:Fm}{H:AH}{X:XE}{π:PI}{k i:Nat}{v:V}(hP:Pt π k v)(h:ρ[i]? =some (some v)):Ev P C ρ H X (.and (.prim false (.cop .eq) [.prim false .item [.var i,.cst (.int 0)],.cst (.str wk)]) (.prim false (.cop .eq) [.prim false .item [.var i,.cst (.int 2)],.cst (.str ['n','e','v','e','r'])])) (.bool (BO v)):=by
 induction hP with
 |wk=>exact b8 (s:=true) (ev_p2 (ev_p2 (ev_var h) an rfl) an rfl) λ_=>ev_p2 (ev_p2 (ev_var h) an rfl) an (fS jO jO)
 |@wd _ _ r _ _ _ _ h2=>exact ev_eq (b8 (s:=false) (t:=false) (ev_p2 (ev_p2 (ev_var h) an rfl) an rfl) λe=>absurd e am) (congrArg V.bool ((by decide:∀r∈fW,false=(r==['n','e','v','e','r'])) r h2))
noncomputable def Fh(t s:Int)(l:List Int):List Int:=l.filter λz=>decide (t-s<z)
noncomputable def G3(k:Nm->List Int)(w:Nm)(x:List Int):Nm->List Int:=λc=>if w=c then x else k c
noncomputable def cF(π:PI)(n:Nm):Bool:=!π.nv n&&(π.ch n).isSome
noncomputable def pre(π:PI)(h:Nm->Bool)(e:Evt):List Evt:=e::eE (hr h e) (π.sb e.nm).tail
noncomputable def eD(π:PI)(h:Nm->Bool):List Nm->List Evt
 |[]=>[]
 |m::ms=>eE h (π.sb m)++eD π ((eE h (π.sb m)).foldl hr h) ms
noncomputable def Dn(π:PI)(h:Nm->Bool)(w:Nm)(i:Nat)(n:Nm):List Evt:=
 eD π h ((oD (π.ru w) (π.kd w) i n).filter h).reverse++(((oD (π.ru w) (π.kd w) i n).filter λm=>m==n||(h m&& !π.nv m)).flatMap π.sb).map .beg
inductive Fe(π:PI)(t:Int):Bool->(Nm->Bool)->(Nm->List Int)->Evt->List Evt->(Nm->List Int)->Prop
 |stop {c:Bool} {h:Nm->Bool} {k k':Nm->List Int} {e:Evt} {es:List Evt}:c=false->es=pre π h e->k'=k->Fe π t c h k e es k'
 |here {c:Bool} {h:Nm->Bool} {k k':Nm->List Int} {e:Evt} {es:List Evt} {w:Nm} {i:Nat}:c=true->π.ch e.nm=some w->es=pre π h e++Dn π ((pre π h e).foldl hr h) w i e.nm->k'=G3 k w (k w++[t])->((Fh t (π.sp w) (k w++[t])).length:Int)<=π.mn w->(π.kd w)[i]? =some e.nm->(∀m∈π.kd w,(pre π h e).foldl hr h m=false->∀x∈π.sb m,(pre π h e).foldl hr h x=false)->Fe π t c h k e es k'
 |go {c:Bool} {h:Nm->Bool} {k k':Nm->List Int} {e:Evt} {w:Nm} {es es2:List Evt}:c=true->π.ch e.nm=some w->es=pre π h e++es2->π.mn w<((Fh t (π.sp w) (k w++[t])).length:Int)->Fe π t (cF π w) ((pre π h e).foldl hr h) (G3 k w (k w++[t])) (.fail w) es2 k'->Fe π t c h k e es k'
structure Rd(π:PI)(k:Nat)(v:V):Prop where
 pt:Pt π k v
 nd:(nms k v).Nodup
 k7:k<=7
 len:(nms k v).length<=60
 md:∀x∈io k v,mdOk π x
def Rt(π:PI)(σ:Ad):Nat->Nat->V->Prop
 |0,k,v=>Rd π k v/\ft (au v) σ.chk σ.chv=some .none/\∀m,π.ch (au v)≠some m
 |d+1,k,v=>Rd π k v/\∃w,Rt π σ d (k+1) w/\v∈kids w/\ft (au v) σ.chk σ.chv=some w
theorem Rt.rd{π:PI}{σ:Ad}{d k:Nat}{v:V}(h:Rt π σ d k v):Rd π k v:=by
 cases d with
 |zero=>exact h.1
 |succ d=>exact h.1
def Hp(π:PI)(σ:Ad)(S:Hst)(c:Bool)(m:Nm)(b:Nat)(Q:QE):Prop:=∀S' H' es k',Hs σ S' H'->Gd π S'->Sp π k' S S' es->es.length<=b->Up π (here S')->Fe π S.clock c (here S) (gc S) (.fail m) es k'->Q .none H'
def KG(π:PI)(σ:Ad)(S:Hst)(m:Nm)(b:Nat)(Q:QE):Prop:=∀S' H' es k',Hs σ S' H'->Gd π S'->Sp π k' (pL S (S.kl+1)) S' es->es.length<=b->Up π (here S')->(∀(e:Evt) (h:Nm->Bool),e.nm=m->(pre π h e).foldl hr h=here S->Fe π S.clock true h (gc S) e (pre π h e++es) k')->Q .none H'
noncomputable def bF(d:Nat):Nat:=60*(d+1)+960
def uI(π:PI)(σ:Ad)(d:Nat):Prop:=∀{k n:Nat} {v:V} {S:Hst} {H:AH} {Q:QE} {X:XE},Rt π σ d k v->Hs σ S H->Gd π S->Up π (here S)->here S (au v)=true->S.ev.length+bF d<=900000->Hp π σ S (cF π (au v)) (au v) (bF d) Q->aJ PL (n+(2*d+20)) 47 [.ref σ.i,v] H Q X
def F7(π:PI)(σ:Ad)(d:Nat):Prop:=∀{k n:Nat} {w p:V} {S:Hst} {H:AH} {Q:QE} {X:XE},Rt π σ d k w->p∈kids w->Hs σ S H->Gd π S->S.kl<S.ev.length->Up π (here S)->here S (au w)=true->S.ev.length+bF d<=900000->KG π σ S (au p) (bF d) Q->aJ PL (n+(2*d+21)) 48 [.ref σ.i,w,p] H Q X
theorem kL{α:Type}{f:α->V}{l:List α}(h:∀a,ro (f a)):∀v∈l.map f,ro v:=λ_ hv=>ea1_2 (aG.mp hv) λa _ e=>e▸h a
theorem zG{P:Prog}{H:AH}{x:V}{α:Type}{f:α->V}{l:List α}(hx:rd H x=some x)(h:∀a,ro (f a)):aY P false (.cop .in_) [x,.lst (l.map f)] H=some (.bool ((l.map f).any λy=>gf y x),H):=by
 haveI q:=eX (kL (l:=l) h)
 refine(?_:((rd H x).bind λx'=>if rH _=true then some _ else none:Option Bool).map _=_)
 rw [hx]
 show(if rH _=true then some _ else none:Option Bool).map _=_
 rw [if_pos (kM q.1 (aa (ao q.2) (by decide)))]
 rfl
theorem K7{n d j:Nat}(h:j<=19):j<=n+(2*d+19):=aa h (aa (bw 19 (2*d)) (bw _ n))
theorem Sp.trans'{π:PI}{k0 k':Nm->List Int}{S S₁ S₂:Hst}{es es':List Evt}(a:Sp π k0 S S₁ es)(b:Sp π k' (pL S₁ (S₁.kl+1)) S₂ es')(hk:S₁.kl+1<=S.kl+es.length)(kf:∀c l,es.foldl (jW c) l=l):Sp π k' S S₂ (es++es'):=
 ⟨b.ev.trans ((congrArg (·++es') a.ev).trans (aj ..)),b.qu.trans a.qu,b.ck.trans a.ck,b.lt.trans a.lt,by rw [af,<-bt];exact aa b.kl (aN hk _),b.hr.trans (by rw [bz,<-a.hr];rfl),cq a.nm b.nm,λc=>by rw [b.kp,bz,kf],λc=>(b.sm c).trans (by rw [bz,<-a.sm];rfl)⟩
theorem tL{π:PI}{h:Nm->Bool}{e:Evt}(he:∀c l,jW c l e=l):∀c l,(pre π h e).foldl (jW c) l=l:=λc l=>(congrArg (λx=>List.foldl (jW c) x _) (he c l)).trans (HQ.1 c l)
theorem jX{π:PI}{k:Nat}{v:V}(hP:Pt π k v):v∈io k v:=by
 induction hP with
 |wk=>exact .head _
 |wd=>exact .head _
theorem rX{P:Prog}{C:Calls}{ρ:Fm}{H:AH}{K:KS}{R:QE}{X:XE}{ss:List St}{σ:Ad}{S:Hst}{nm:Nm}{f:Nat}{a b:Ex}{x y:V}(h:Hs σ S H)(h0:ρ[0]? =some (some (.ref σ.i)))(hn:hk.contains nm=false)(ha:Ev P C ρ H X a x)(hb:Ev P C ρ H X b y)(k:C f [.ref σ.i,x,y] H (λ_ H'=>a7 P C ss ρ H' K R X) X):a7 P C (.expr (.meth 0 f nm (.var 0) [a,b])::ss) ρ H K R X:=
 ev_var (P:=P) (C:=C) (X:=X) h0 (λv H₁=>e9 H₁ 0 nm v=true/\fR P C [a,b] ρ H₁ (λvs H'=>C f (v::vs) H' (λ_ H'=>a7 P C ss ρ H' K R X) X) X) ⟨iP h hn,ha _ (hb _ k)⟩
section
variable {π:PI}{σ:Ad}{d:Nat}
theorem pf{k n:Nat}{v:V}{S:Hst}{H:AH}{Q:QE}{X:XE}(r:Rd π k v)(h:Hs σ S H)(g:Gd π S)(up:Up π (here S))(hh:here S (au v)=true)(hb:S.ev.length+60<=900000)
  (q:Hp π σ S (cF π (au v)) (au v) 60 Q)
  (kk:∀S' H',Hs σ S' H'->Gd π S'->Sp π (gc S) S S' (pre π (here S) (.fail (au v)))->S'.kl+1<=S.kl+(pre π (here S) (.fail (au v))).length->(pre π (here S) (.fail (au v))).length<=60->Up π (here S')->here S'=sa (nms k v) (here S)->gc S'=gc S->π.nv (au v)=false->a7 PL (aJ PL (n+(2*d+19))) [(.ite (.prim false (.cop .isnot) [(.prim false .item [(r9 ['c','h','i','e','f']),(.prim false .item [.var 1,.cst (.int 1)])]),.cst .none]) [(.expr (.meth 0 48 ['f','o','l','l','o','w'] (.var 0) [(.prim false .item [(r9 ['c','h','i','e','f']),(.prim false .item [.var 1,.cst (.int 1)])]),.var 1]))] [])] [some (.ref σ.i),some v] H' (λ_ H'=>Q .none H') Q X) :
  aJ PL (n+(2*d+20)) 47 [.ref σ.i,v] H Q X:=by
 have hs:S.ev.length<=az:=aa (aq _ _) (aa hb (by decide))
 have ec:=lz r.pt
 have hl0:((kids v).flatMap (nms (k-1))).length+1<=60:=aa (ao (congrArg dH ec).symm) r.len
 haveI nd:=bg.mp (ec▸r.nd)
 have md:=r.md v (jX r.pt)
 have esb:π.sb (au v)=au v::(kids v).flatMap (nms (k-1)):=by rw [md.sb,zN r.pt (aa r.k7 (by decide)),ec]
 refine cf FC rfl (mH h rfl (.fail (au v)) (ev_p2 an (kz r.pt rfl) (eR fM)) hs λH1 h1=>qN h1 rfl (kz r.pt rfl) hh (aa g.lp hs) λH2 h2=>dE h2 rfl rfl (ev_var rfl) (sZ (m:=2*(k-1)+1) (K7 ?_) (GC r.pt r.nd (n:=n+(2*d+19)-(2*(k-1)+1)) (au v) nd.1 nd.2 h2 (ua (t:=.fail (au v)) g) ?_ ?_ λS3 H3 h3 g3 sp3 hh3 _=>?_)))
 ·exact aa (ax (bn 2 (aa (eK _ _) r.k7))) (by decide)
 ·intro c m hc hm hhc
  haveI q:=(ay.mp ((gj h.pn).symm.trans hhc)).2
  exact(gj h.pn).trans (ay.mpr ⟨by rw [decide_eq_false hm];rfl,up c m hc q⟩)
 ·refine aa (ao ?_) (aa (aC hl0 _) hb)
  refine(?_:(S.ev++[Evt.fail (au v)]).length+_=_)
  rw [af,bt]
  exact congrArg _ (ce 1 _)
 ·have e2:here (pD (pE S (.fail (au v))) (au v))=hr (here S) (.fail (au v)):=funext λm=>gj h.pn
  have sp:Sp π (gc S) S S3 (pre π (here S) (.fail (au v))):=by
   unfold pre
   rw [show(Evt.fail (au v)).nm=au v from rfl,esb,<-e2]
   exact Sp.trans (S₁:=pD (pE S (.fail (au v))) (au v)) ⟨rfl,rfl,rfl,rfl,a9 _,e2,dk (Dg r.pt),λ_=>rfl,λ_=>rfl⟩ sp3
  haveI lp:(pre π (here S) (.fail (au v))).length<=60:=by
   unfold pre
   rw [show(Evt.fail (au v)).nm=au v from rfl,esb]
   exact aa (ax nT) hl0
  have hd:here S3=sa (nms k v) (here S):=by rw [hh3,ec,<-xe];exact congrArg _ e2
  haveI ek:gc S3=gc S:=funext λc=>(sp.kp c).trans (tL (λ_ _=>rfl) c _)
  haveI hu:Up π (here S3):=hd▸uv r.pt up
  haveI hk:S3.kl+1<=S.kl+(pre π (here S) (.fail (au v))).length:=by
   unfold pre
   rw [show(Evt.fail (au v)).nm=au v from rfl,esb,<-e2]
   exact ax sp3.kl
  refine cZ (q7 r.pt rfl) (λt=>ev_ret an (q S3 H3 _ _ h3 g3 sp lp hu ?_)) λt=>kk S3 H3 h3 g3 sp hk lp hu hd ek (md.nv.trans t)
  rw [show cF π (au v)=false from by unfold cF;rw [md.nv,t];rfl]
  exact .stop rfl rfl rfl
theorem nV{P:Prog}{C:Calls}{S:Hst}{H:AH}{X:XE}{k:Nat}{v x:V}(h:Hs σ S H)(hP:Pt π k v)(e:ft (au v) σ.chk σ.chv=some x):Ev P C [some (.ref σ.i),some v] H X (.prim false .item [(r9 ['c','h','i','e','f']),(.prim false .item [.var 1,.cst (.int 1)])]) x:=ev_p2 (cU h rfl rfl) (kz hP rfl) (iQ (h.get 4 rfl) e)
theorem b60{a d:Nat}(h:a+bF d<=900000):a+60<=900000:=aa (aC (aa (bw 60 (60*d)) (aq _ 960)) a) h
theorem wW{d b:Nat}(h:b<=60):b<=bF d:=aa h (aa (bw 60 (60*d)) (aq _ 960))
theorem zM:uI π σ 0:=λ{k n v S H Q X} rt h g up hh hb q=>pf (d:=0) rt.1 h g up hh (b60 hb) (λS' H' es k' a b c e=>q S' H' es k' a b c (wW e)) λS' H' a b c _ e f _ _ _=>bJ (ev_p2 (nV a rt.1.pt rt.2.1) an rfl) (q S' H' _ _ a b c (wW e) f (by
 rw [show cF π (au v)=false from by
  unfold cF
  rw [show(π.ch (au v)).isSome=false from Option.isSome_eq_false_iff.mpr (eW.mpr (Option.eq_none_iff_forall_ne_some.mpr rt.2.2)),eM]]
 exact .stop rfl rfl rfl))
theorem yJ(ih:F7 π σ d):uI π σ (d+1):=λ{k n v S H Q X} rt h g up hh hb q=>dm rt.2 λw rw hv ec=>by
 haveI hb':S.ev.length+60+bF d<=900000:=aa (ao (by unfold bF;simp+arith only)) hb
 have hP:=rw.rd.pt
 haveI eh:=lz hP
 have cw:π.ch (au v)=some (au w):=vC (G:=λw _=>π.ch (au v)=some (au w)) hP hv λk nm rl m s ps _ _ _ h7 _ hp=>(h7 _).mpr ⟨v,hp,rfl⟩
 refine pf (d:=d+1) rt.1 h g up hh (b60 hb) (λS' H' es k' a b c e=>q S' H' es k' a b c (wW e)) λS' H' a b c hk e f hd ek nv=>dy (ev_p2 (nV a rt.1.pt ec) an ?_) ?_
 ·exact vC (G:=λw _=>aY PL false (.cop .isnot) [w,.none] H'=some (.bool true,H')) hP hv λk nm rl m s ps _ _ _ _ _ _=>rfl
 ·haveI hl:S'.ev.length<=S.ev.length+60:=by rw [c.ev,af];exact aC e _
  haveI hn:au w∉nms k v:=λz=>(bg.mp (eh▸rw.rd.nd)).1 (bj.mpr ⟨v,hv,z⟩)
  refine rX a rfl rfl (nV a rt.1.pt ec) (ev_var rfl) (ih (n:=n) rw hv a b ?_ f ?_ (aa (aN hl _) hb') λS₂ H₂ es₂ k₂ a₂ b₂ c₂ e₂ f₂ ch=>q S₂ H₂ _ k₂ a₂ b₂ (c.trans' c₂ hk (tL λ_ _=>rfl)) ?_ f₂ ?_)
  ·rw [c.ev,af];exact aa hk (aN g.ll _)
  ·rw [hd];exact iH.mpr ⟨hn,up _ _ cw hh⟩
  ·rw [af];exact aa (bP e e₂) (ao (by unfold bF;simp+arith only))
  ·haveI ch:=ch (.fail (au v)) (here S) rfl c.hr.symm
   rw [c.ck,ek]at ch
   rw [show cF π (au v)=true from by unfold cF;rw [nv,cw];rfl]
   exact ch
end
noncomputable def pj(ps:List V)(j:Nat):V:=(ps[j]?).getD .none
theorem kC{ps:List V}{j:Nat}(h:j<ps.length):ps[j]? =some (pj ps j):=by
 unfold pj
 rw [aH h];rfl
theorem nr{ps:List V}{j:Nat}(h:j<ps.length):pj ps j∈ps:=aM (kC h)
theorem bW{a b:Nat}(h:Nat.ble (a+1) b=true):a<b:=aU h
abbrev ni(j:Nat):V:=.int j
section
variable {π:PI}{σ:Ad}{d:Nat}
theorem Ae{h:Nm->Bool}{a b:List Nm}:eD π h (a++b)=eD π h a++eD π ((eD π h a).foldl hr h) b:=by
 induction a generalizing h with
 |nil=>rfl
 |cons m a ih=>
  refine(?_:eE h (π.sb m)++eD π _ (a++b)=(eE h (π.sb m)++eD π _ a)++eD π _ b)
  rw [ih,aj,show eD π h (m::a)=eE h (π.sb m)++eD π ((eE h (π.sb m)).foldl hr h) a from rfl,bz]
theorem y0{h:Nm->Bool}{a:List Nm}{m:Nm}:eD π h (a++[m])=eD π h a++eE ((eD π h a).foldl hr h) (π.sb m):=by rw [Ae];exact congrArg _ (aA _)
abbrev nj(ps:List V)(j:Nat):Nm:=au (pj ps j)
def FI7(π:PI)(σ:Ad)(S:Hst)(w p kp:V)(i:Nat)(l wr:List Nat)(ps:List V)(nm:Nm)(js:List Nat)(ρ:Fm)(H:AH):Prop:=
 ∃o S' dn,ρ=[some (.ref σ.i),some w,some p,some kp,some (.int i),some (.lst (l.map ni)),o,some (.lst (wr.map ni)),none]/\(Hs σ S' H/\Gd π S'/\Up π (here S'))/\Sp π (gc S) S S' (eD π (here S) (dn.map (nj ps)))/\((eD π (here S) (dn.map (nj ps))).length+60*js.length<=480/\dn++js=wr.reverse)/\(js.Nodup/\∀j∈js,j<ps.length/\here S' (nj ps j)=true)/\here S' nm=true
def FI8(π:PI)(σ:Ad)(S:Hst)(w p kp:V)(i:Nat)(l wr:List Nat)(ps:List V)(nm:Nm)(E0:List Evt)(cd:Nat->Bool)(js:List Nat)(ρ:Fm)(H:AH):Prop:=
 ∃o o' S' dn,ρ=[some (.ref σ.i),some w,some p,some kp,some (.int i),some (.lst (l.map ni)),o,some (.lst (wr.map ni)),o']/\(Hs σ S' H/\Gd π S')/\Up π (here S')/\Sp π (gc S) S S' (E0++((dn.filter cd).flatMap λj=>π.sb (nj ps j)).map .beg)/\(E0++((dn.filter cd).flatMap λj=>π.sb (nj ps j)).map .beg).length+60*js.length<=960/\(dn++js=l/\∀j∈js,j<ps.length)/\here S' nm=true
theorem J9{a b c m:Nat}(h:a+60*(m+1)<=c)(hb:b<=60):a+b+60*m<=c:=fp h (fp hb (by simp+arith only))
theorem CX{a b c m:Nat}(h:a+60*(m+1)<=c)(hb:b+c<=900000):b+a+60<=900000:=fp h (fp hb (by simp+arith only))
theorem lu{α:Type}{n:Nm}{x:α}{l:AL α}(h:dP n l=true):(cY n x l).length=l.length:=by
 rw [<-ah (f:=(·.1)),j1,if_pos h,ah]
theorem GP{l:List Nat}{j:Nat}:((l.map ni).any λy=>gf y (ni j))=true↔j∈l:=by
 rw [List.any_map,iC]
 exact⟨λq=>ea1_2 q λx hx e=>iK (beq_iff_eq.mp (e:((x:Int)==j)=true))▸hx,λh=>⟨j,h,beq_iff_eq.mpr rfl⟩⟩
theorem uA{i j:Nat}:gf (ni j) (ni i)=true↔j=i:=⟨λe=>iK (beq_iff_eq.mp (show((j:Int)==i)=true from e)),λe=>beq_iff_eq.mpr (congrArg Int.ofNat e)⟩
theorem GG{ps:List V}:(aV ps.length).map (nj ps)=ps.map au:=by
 refine fi λj=>?_
 rw [aO,aO]
 by_cases h:j<ps.length
 ·rw [cc h,kC h];rfl
 ·haveI h:=dD h
  rw [eQ h,eQ (by rw [ba];exact h)];rfl
theorem FN{i:Nat}{ps:List V}{nm n rl:Nm}{h:Nm->Bool}{wr:List Nat}(hru:π.ru nm=rl)(hkd:π.kd nm=ps.map au)(hi:i<ps.length)(hn:nj ps i=n)(nd:(ps.map au).Nodup)(hmd:∀p∈ps,mdOk π p)(hwr:wr=(oD rl (aV ps.length) i i).filter λj=>h (nj ps j)) :
  eD π h (wr.reverse.map (nj ps))++(((oD rl (aV ps.length) i i).filter λj=>gf (ni j) (ni i)||(((wr.map ni).any λy=>gf y (ni j))&& !BO (pj ps j))).flatMap λj=>π.sb (nj ps j)).map .beg=Dn π h nm i n:=by
 haveI el:(oD rl (aV ps.length) i i).map (nj ps)=oD (π.ru nm) (π.kd nm) i n:=by rw [vG,GG,hn,hru,hkd]
 unfold Dn
 rw [<-el]
 refine congr (congrArg HAppend.hAppend ?_) ?_
 ·rw [hwr,gu]
  exact congrArg (λt=>eD π h (List.reverse t)) (jh (f:=nj ps) (p:=h)).symm
 ·refine congrArg (ik Evt.beg) ?_
  rw [jh,gw]
  refine congrArg (λt:List Nat=>t.flatMap λj=>π.sb (nj ps j)) (qV λj hj=>?_)
  haveI hjr:=pU (rl:=rl) (cc hi) j hj
  have hjl:=bx.mp hjr
  haveI hm:=nr hjl
  refine(?_:_=(nj ps j==n||(h (nj ps j)&& !π.nv (nj ps j))))
  refine congr (congrArg or ?_) (congr (congrArg and ?_) ?_)
  ·rw [cg,uA,beq_iff_eq]
   refine⟨λe=>e▸hn,λe=>?_⟩
   haveI g:∀{x},x<ps.length->(ps.map au)[x]? =some (nj ps x):=λh=>by rw [aO,kC h];rfl
   exact(ij (ah (f:=au)▸hjl) nd).mp ((g hjl).trans ((congrArg some (e.trans hn.symm)).trans (g hi).symm))
  ·rw [cg,GP,hwr,bU]
   exact⟨λq=>q.2,λq=>⟨hj,q⟩⟩
  ·rw [(hmd _ hm).nv]
theorem zg(ih:uI π σ d):F7 π σ d:=λ{k n w p S H Q X} rt hp h g hkl up hh hb q=>vC (G:=λw k=>Rt π σ d k w->here S (au w)=true->aJ PL (n+(2*d+21)) 48 [.ref σ.i,w,p] H Q X) rt.rd.pt hp (λk nm rl m s ps h2 h5 h6 h7 h8 hp rt hh=>by
 haveI hs:S.ev.length<=az:=aa (aq _ _) (aa hb (by decide))
 have hkl':S.kl+1<=az:=aa hkl hs
 have nd:=bg.mp rt.rd.nd
 have k7:k<=7:=aa (a9 _) rt.rd.k7
 have hln:∀{v:V},v∈ps->(nms k v).length<=60:=λ{v} hv=>aa (aa (jv (bf hv)).length_le (aa (ao (congrArg dH (dh (f:=nms k)).symm)) (a9 _))) rt.rd.len
 have hx:∀{v:V},v∈ps->nm∉nms k v:=λ{v} hv q=>nd.1 (bj.mpr ⟨v,hv,q⟩)
 have hmd:∀{v:V},v∈ps->mdOk π v:=λ{v} hv=>rt.rd.md v (.tail _ (bj.mpr ⟨v,hv,jX (h8 v hv)⟩))
 have esb:∀{v:V},v∈ps->π.sb (au v)=nms k v:=λ{v} hv=>by rw [(hmd hv).sb,zN (h8 v hv) (aa k7 (by decide))]
 have hb9:S.ev.length+960<=900000:=aa (aC (bw _ _) _) hb
 refine(gh (g.kw nm hh h6)).elim λrq er=>?_
 obtain⟨r,hrs⟩:=rq
 refine cf Gw rfl (br (ev_p2 (cU h rfl rfl) (aK rfl) (l6 (val:=JS) (h.get 7 rfl) er)) (bW rfl) (tR h rfl rfl er (aa (a9 _) hkl') λH1 h1=>?_))
 have md:=rt.rd.md _ (jX rt.rd.pt)
 haveI esp:π.sp nm=s:=md.sp
 haveI emn:π.mn nm=m:=md.mn
 have ek:gc S nm=hrs:=by unfold gc;rw [er];rfl
 have eA:gc (pA S nm r (hrs++[S.clock]))=G3 (gc S) nm (gc S nm++[S.clock]):=funext λc=>DH.trans (by rw [ek];rfl)
 have cp:π.ch (au p)=some nm:=(h7 _).mpr ⟨p,hp,rfl⟩
 have eF:∀{l:List Int},(l.filter λz=>decide (S.clock-s<z))=Fh S.clock (π.sp nm) l:=λ{l}=>by rw [esp];rfl
 have g1:Gd π (pA S nm r (hrs++[S.clock])):=⟨λm a b=>nI (g.kw m a b),g.ks,g.lp,aa (ao (lu (dY.mpr ⟨_,bV er⟩))) g.lk,g.ls,hkl,λm hm=>(hO hm).elim (λe=>e▸h6) (g.ko m),g.so⟩
 haveI hA:=h1.kp _ (bV (jL.trans (if_pos rfl)))
 have qS:∀{S' H' es k'},Hs σ S' H'->Gd π S'->Sp π k' (pA S nm r (hrs++[S.clock])) S' es->es.length<=bF d->Up π (here S')->(∀(e:Evt) (h:Nm->Bool),e.nm=au p->(pre π h e).foldl hr h=here S->Fe π S.clock true h (gc S) e (pre π h e++es) k')->Q .none H':=λ{S' H' es k'} a b c e f ch=>q S' H' es k' a b ⟨c.ev,c.qu,c.ck,c.lt,c.kl,c.hr,c.nm,c.kp,c.sm⟩ e f ch
 refine qb (mI (n8 (gR (ev_var rfl) (cU h1 rfl rfl) (aK rfl) (f8 hA.2.1 (aa hA.2.2 hkl') λgo eo=>hE (gL (dS.trans (congrArg some eo))) (aK (P:=PL) (C:=aJ PL (n+(2*d+20))) (X:=X) (v:=.int m) rfl _ (hE pz (FB (λhc=>?_) λhc=>?_)))))))
 ·refine dE h1.app rfl rfl (ev_var rfl) (ih rt h1.app g1 up hh hb λS' H' es k' a b c e f ch=>ev_ret an (qS a b c e f λt h et eh=>.go rfl (et.symm▸cp) rfl ?_ (eh.symm▸eA▸ch)))
  rw [emn,ek,<-eF]
  haveI hc:=of_decide_eq_true hc
  rw [ah]at hc
  exact hc
 have hle:((Fh S.clock (π.sp nm) (gc S nm++[S.clock])).length:Int)<=π.mn nm:=by
  rw [emn,ek,<-eF]
  haveI hc:=dB.mp (of_decide_eq_false hc)
  rw [ah]at hc
  exact hc
 haveI h1:=h1.app (L:=[go])
 clear hA
 generalize H1++[go]=H1 at h1 ⊢
 refine c6 (FW (P:=PL) (H:=H1) k7 h8 hp) λi qi hqi nqi ei=>?_
 have hi:i<ps.length:=(ae.mp hqi).1
 haveI npi:nj ps i=au p:=(congrArg au (ai ((kC hi).symm.trans hqi))).trans nqi
 refine dA (br (mh (aK rfl) rfl (ev_var rfl) ei) (bW rfl) (xO (aK rfl) (aK rfl) (ev_var rfl) (f9 h2 hi h5 ⟨bW rfl,?_⟩)))
 generalize hl:oD rl (aV ps.length) i i=l
 have lb:∀j∈l,j<ps.length:=λj hj=>bx.mp (pU (cc hi) j (hl▸hj))
 have ll:l.length<=ps.length:=hl▸aa (uO (by rw [ba];exact hi)) (ao ba)
 haveI ln:l.Nodup:=hl▸Am L5
 refine br (ip (l:=l) (f:=ni) (g:=ni) (p:=λj=>here S (nj ps j)) (ev_var rfl) rfl (aa ll (aa h5 (by decide))) (λj hj=>lE (S:=pA S nm r (hrs++[S.clock])) h1 rfl (ev_p2 (ev_p2 (aK rfl) (ev_var rfl) (yo (kC (lb j hj)))) an (uB (h8 _ (nr (lb j hj)))))) λ_ _ _=>ev_var rfl) (bW rfl) ?_
 generalize hwr:(l.filter λj=>here S (nj ps j))=wr
 haveI wrm:∀{j},j∈wr↔j∈l/\here S (nj ps j)=true:=λ{j}=>hwr▸bU
 haveI wl:wr.reverse.length<=8:=by rw [bX,<-hwr];exact aa (cJ _ _) (aa ll h5)
 haveI ndn:(ps.map au).Nodup:=by
  refine List.pairwise_map.mpr (ky (λ{a b} ha hb hab e=>?_) (mD.mp nd.2).2)
  exact hab (au a) (rR (h8 a ha)) (au a) (e▸rR (h8 b hb)) rfl
 refine d5 (FI7 π σ (pA S nm r (hrs++[S.clock])) (jZ nm rl m s ps) p (.ref r) i l wr ps nm) (f:=ni) (l:=wr.reverse) (ev_var rfl) (λ_ _ _ _=>congrArg some gu.symm) (aa wl (by decide))
  ⟨none,_,[],rfl,⟨h1,g1,up⟩,Sp.refl _,⟨aa (ao (da _)) (bn 60 wl),rfl⟩,⟨(ka _).nodup_iff.mpr (hwr▸He.nodup ln),λj hj=>haveI hj:=wrm.mp (eG.mp hj);⟨lb j hj.1,hj.2⟩⟩,hh⟩
  (λj js ρ' H' hI K' hK=>gF hI λo S' dn e hS sp hl hj hn=>?_) λρ' H' hI=>gF hI λo S' dn e hS sp hld _ hn=>?_
 ·subst e
  have lt:=hj.2 j (.head _)
  have hm:=nr lt.1
  have nj':=bg.mp hj.1
  haveI ee:eD π (here (pA S nm r (hrs++[S.clock]))) ((dn++[j]).map (nj ps))=eD π (here (pA S nm r (hrs++[S.clock]))) (dn.map (nj ps))++eE (here S') (nms k (pj ps j)):=by rw [aB];refine y0.trans ?_;rw [<-sp.hr,esb hm]
  refine dE hS.1 rfl rfl (ev_p2 (aK rfl) (ev_var rfl) (yo (kC lt.1))) (sZ (m:=2*k) (aa (bn 2 k7) (aa (K7 (n:=n) (d:=d) (by decide:14<=19)) (a9 _))) (Dq (h8 _ hm) (tA rt.rd.nd hm) nm (hx hm) hS.1 hS.2.1 (λc m hc _=>hS.2.2 c m hc) lt.2 ?_ λS'' H'' hS' gS' sp' hh'=>hK _ _ ⟨_,S'',dn++[j],rfl,⟨hS',gS',hh'▸uv (h8 _ hm) hS.2.2⟩,?_,⟨?_,(aj dn [j] js).trans hl.2⟩,⟨nj'.2,λt ht=>⟨(hj.2 t (.tail _ ht)).1,?_⟩⟩,?_⟩))
  ·rw [sp.ev,af];exact aa (aC (hln hm) _) (CX hl.1 (aa (aC (by decide) _) hb9))
  ·rw [ee];exact sp.trans sp'
  ·rw [ee,af];exact J9 hl.1 (aa nT (hln hm))
  ·rw [hh'];exact iH.mpr ⟨dj nd.2 (kC (hj.2 t (.tail _ ht)).1) (kC lt.1) (λz=>nj'.1 (z▸ht)) (rR (h8 _ (nr (hj.2 t (.tail _ ht)).1))),(hj.2 t (.tail _ ht)).2⟩
  ·rw [hh'];exact iH.mpr ⟨hx hm,hn⟩
 ·subst e
  have edn:dn=wr.reverse:=(aA dn).symm.trans hld.2
  subst edn
  generalize hcd:(λj=>gf (ni j) (ni i)||(((wr.map ni).any λy=>gf y (ni j))&& !BO (pj ps j)))=cd
  refine d5 (FI8 π σ (pA S nm r (hrs++[S.clock])) (jZ nm rl m s ps) p (.ref r) i l wr ps nm (eD π (here (pA S nm r (hrs++[S.clock]))) (wr.reverse.map (nj ps))) cd) (f:=ni) (l:=l) (ev_var rfl) (λ_ _ _ _=>rfl) (aa ll (aa h5 (by decide)))
   ⟨o,none,S',[],rfl,⟨hS.1,hS.2.1⟩,hS.2.2,(aA _).symm▸sp,by rw [show(([]:List Nat).filter cd).flatMap (λj=>π.sb (nj ps j))=[]from rfl,CU,aA];exact bP hld.1 (bn 60 (aa ll h5)),⟨rfl,lb⟩,hn⟩
   (λj js ρ' H' hI K' hK=>zr hI λo o' S' dn e hS hu sp hl' hj hn=>?_) λρ' H' hI=>zr hI λo o' S' dn _ hS hu sp hl' hj _=>qS hS.1 hS.2 sp (aa hl' (bw _ _)) hu λt h et eh=>?_
  case refine_2=>
   haveI edl:dn=l:=(aA dn).symm.trans hj.1
   haveI z:eD π (here (pA S nm r (hrs++[S.clock]))) (wr.reverse.map (nj ps))++((dn.filter cd).flatMap λj=>π.sb (nj ps j)).map .beg=Dn π (here S) nm i (au p):=by
    rw [edl,<-hl,<-hcd]
    exact FN (h:=here S) md.ru (md.kd.trans rfl) hi npi ndn (λp hp=>hmd hp) (by rw [<-hwr,<-hl])
   haveI ekd:π.kd nm=ps.map au:=md.kd
   rw [z,eA,<-eh,<-et]
   refine .here rfl (et.symm▸cp) rfl rfl hle ?_ ?_
   ·rw [ekd,et,<-npi]
    show(ps.map au)[i]? =_
    rw [aO,kC hi];rfl
   ·rw [eh,ekd]
    exact λm hm h0=>ea1_2 (aG.mp hm) λv hv ev=>by
     subst ev
     rw [esb hv]
     exact Ao (h8 v hv) (x:=nm) (λc m hc _=>up c m hc) (hx hv) h0
  subst e
  haveI lt:=hj.2 j (.head _)
  haveI hm:=nr lt
  have ec:∀(dn:List Nat),(dn++[j]).filter cd=dn.filter cd++if cd j=true then [j]else []:=λdn=>by
   rw [fJ]
   refine congrArg _ ?_
   cases z:cd j with
   |true=>exact cM z
   |false=>exact dL (by rw [z];exact am)
  haveI es:cd j=false->eD π (here (pA S nm r (hrs++[S.clock]))) (wr.reverse.map (nj ps))++(((dn++[j]).filter cd).flatMap λj=>π.sb (nj ps j)).map .beg=eD π (here (pA S nm r (hrs++[S.clock]))) (wr.reverse.map (nj ps))++((dn.filter cd).flatMap λj=>π.sb (nj ps j)).map .beg:=λz=>by rw [ec,z,if_neg am,aA]
  haveI et:cd j=true->eD π (here (pA S nm r (hrs++[S.clock]))) (wr.reverse.map (nj ps))++(((dn++[j]).filter cd).flatMap λj=>π.sb (nj ps j)).map .beg=(eD π (here (pA S nm r (hrs++[S.clock]))) (wr.reverse.map (nj ps))++((dn.filter cd).flatMap λj=>π.sb (nj ps j)).map .beg)++(nms k (pj ps j)).map .beg:=λz=>by rw [ec,z,if_pos rfl,bo,aB,aj,<-esb hm];exact congrArg (λt=>_++(_++ik Evt.beg t)) (aA _)
  refine br (ev_p2 (aK rfl) (ev_var rfl) (yo (kC lt))) (bW rfl) (cZ (s:=cd j) (hcd▸g9 (ev_p2 (ev_var rfl) (ev_var rfl) (fS dz dz)) λ_=>b8 (ev_p2 (ev_var rfl) (ev_var rfl) (zG (f:=ni) rfl λ_=>trivial)) λ_=>cN (q7 (h8 _ hm) rfl)) (λhc=>?_) λhc=>hK _ _ ⟨_,_,S',dn++[j],rfl,hS,hu,(es hc).symm▸sp,(es hc).symm▸aa (aC (bn 60 (a9 _)) _) hl',⟨(aj dn [j] js).trans hj.1,λt ht=>hj.2 t (.tail _ ht)⟩,hn⟩)
  refine dE hS.1 rfl rfl (ev_var rfl) (sZ (m:=k) (aa k7 (aa (K7 (n:=n) (d:=d) (by decide:7<=19)) (a9 _))) (uZ (h8 _ hm) hS.1 hS.2 ?_ λS'' H'' hS' gS' sp'=>hK _ _ ⟨_,_,S'',dn++[j],rfl,⟨hS',gS'⟩,?_,(et hc).symm▸sp.trans sp',?_,⟨(aj dn [j] js).trans hj.1,λt ht=>hj.2 t (.tail _ ht)⟩,?_⟩))
  ·rw [sp.ev,af];exact aa (aC (hln hm) _) (CX hl' hb9)
  ·rw [sp'.hr];exact DL (h8 _ hm) ((h7 _).mpr ⟨_,hm,rfl⟩) hn hu
  ·rw [et hc,af,ah];exact J9 hl' (hln hm)
  ·rw [sp'.hr];exact sJ.mpr (.inr hn)) rt hh
theorem t8:uI π σ d/\F7 π σ d:=by
 induction d with
 |zero=>exact⟨zM,zg zM⟩
 |succ d ih=>exact⟨yJ ih.2,zg (yJ ih.2)⟩
end
inductive LV:V->Prop
 |add {i:Int}:-1000000000<=i/\i<=1000000000->LV (.tup [.str ['a','d','d'],.int i])
 |fault:LV (.tup [.str ['f','a','u','l','t']])
 |leave:LV (.tup [.str ['l','e','a','v','e']])
def Evt.ok(π:PI):Evt->Prop
 |.sent n _ l=>π.isW n=some false/\LV l
 |.works n _|.lost n _=>π.isW n=some false
 |.beg n|.end_ n|.fail n|.leave n=>(π.isW n).isSome=true
noncomputable def qS(S:Hst)(n:Nm):List (Nat×V):=((dG n S.qu).map (·.2)).getD []
structure Iv(π:PI)(S:Hst):Prop where
 gd:Gd π S
 up:Up π (here S)
 nm:∀e∈S.ev,e.ok π
 qk:∀n,dP n S.qu=true↔π.isW n=some false
 lv:∀p∈S.qu,∀q∈p.2.2,LV q.2
 lq:S.qu.length<=60
section
variable {π:PI}{S S':Hst}{es:List Evt}{n:Nm}
theorem x9(nm:∀e∈es,e.plain π):∀e∈es,e.ok π:=λe he=>by
 have p:=nm e he
 cases e with
 |beg _|end_ _|fail _|leave _=>exact p
 |sent _ _ _|works _ _|lost _ _=>exact p.elim
theorem Iv.plain{k0:Nm->List Int}(iv:Iv π S)(sp:Sp π k0 S S' es)(gd:Gd π S')(up:Up π (here S')):Iv π S':=⟨gd,up,sp.ev▸cq iv.nm (x9 sp.nm),sp.qu▸iv.qk,sp.qu▸iv.lv,sp.qu▸iv.lq⟩
theorem qr{α:Type}{x:α}{l:AL α}{m:Nm}(h:dP n l=true):dP m (cY n x l)=true↔dP m l=true:=⟨λq=>(hO q).elim (λe=>e▸h) id,nI⟩
theorem ly{x:Nat×List (Nat×V)}(e:dG n S.qu=some x):qS S n=x.2:=by unfold qS;rw [e];rfl
theorem tI{x:Nat×List (Nat×V)}{f:Nat->Option (Bool×Nm)}:qS (pQ S n x f)=λm=>if m=n then x.2 else qS S m:=funext λm=>by
 refine(?_:((dG m (cY n x S.qu)).map (·.2)).getD []=_)
 rw [jL]
 by_cases h:m=n
 ·rw [if_pos h,if_pos h];rfl
 ·rw [if_neg h,if_neg h];rfl
structure Pl(π:PI)(σ:Ad):Prop where
 nm:∀m,(π.isW m).isSome=true->m∈σ.names
 ok:∀m∈σ.names,ny m
 le:σ.names.length<=60
 pt:∀m∈σ.names,∃d k v,(d<=6/\(d=0->π.isW m=some true))/\Rt π σ d k v/\au v=m/\ft m σ.names σ.partVs=some v
 top:Pt π 7 σ.plan
 nd:σ.names.Nodup
end
set_option genInjectivity false in
structure Ab where
 h:Nm->Bool
 k:Nm->List Int
 s:Nm->Int
 q:Nm->List (Nat×V)
 ev:List Evt
 t:Int
 lt:Nat
noncomputable def jq(S:Hst):Ab:=⟨here S,gc S,lX S,qS S,S.ev,S.clock,S.letters⟩
noncomputable def iU{α:Type}(f:Nm->α)(n:Nm)(x:α):Nm->α:=λm=>if m=n then x else f m
noncomputable def aF(es:List Evt)(k':Nm->List Int)(A:Ab):Ab:={A with h:=es.foldl hr A.h,k:=λc=>es.foldl (jW c) (k' c),s:=λc=>es.foldl (m0 c) (A.s c),ev:=A.ev++es}
noncomputable def nH(h:Nm->Bool)(q:Nm->List (Nat×V))(ns:List Nm):List Evt:=ns.flatMap λn=>if h n=true then []else(q n).map λp=>.lost n p.1
noncomputable def aL(ns:List Nm)(A:Ab):Ab:={A with q:=λn=>if A.h n=true then A.q n else [],ev:=A.ev++nH A.h A.q ns}
noncomputable def aS(m:Nm)(l:V)(A:Ab):Ab:={A with q:=iU A.q m (A.q m++[(A.lt+1,l)]),ev:=A.ev++[.sent m (A.lt+1) l],lt:=A.lt+1}
noncomputable def aT(A:Ab):Ab:={A with t:=A.t+1}
noncomputable def aW(m:Nm)(k0:Nat)(ps:List (Nat×V))(A:Ab):Ab:={A with t:=A.t+1,q:=iU A.q m ps,ev:=A.ev++[.works m k0]}
noncomputable def aD(m:Nm)(i:Int)(A:Ab):Ab:={A with s:=iU A.s m (A.s m+i)}
inductive Wk(π:PI)(m:Nm)(k0:Nat)(ps:List (Nat×V))(A:Ab):V->Ab->Prop
 |add {i:Int}:Wk π m k0 ps A (.tup [.str ['a','d','d'],.int i]) (aD m i (aW m k0 ps A))
 |fault {es:List Evt} {k':Nm->List Int}:Fe π (A.t+1) (cF π m) A.h A.k (.fail m) es k'->Wk π m k0 ps A (.tup [.str ['f','a','u','l','t']]) (aF es k' (aW m k0 ps A))
 |leave {es:List Evt} {k':Nm->List Int}:Fe π (A.t+1) (π.al m) A.h A.k (.leave m) es k'->Wk π m k0 ps A (.tup [.str ['l','e','a','v','e']]) (aF es k' (aW m k0 ps A))
inductive De(π:PI)(ns:List Nm)(A:Ab):V->Ab->Prop
 |send {m:Nm} {l:V}:De π ns A (.tup [.str ['s','e','n','d'],.str m,l]) (aS m l A)
 |work {m:Nm} {k0:Nat} {l:V} {ps:List (Nat×V)} {A2:Ab}:A.q m=(k0,l)::ps->Wk π m k0 ps A l A2->De π ns A (.tup [.str ['w','o','r','k'],.str m]) (aL ns A2)
 |fail {m:Nm} {es:List Evt} {k':Nm->List Int}:Fe π (A.t+1) (cF π m) A.h A.k (.fail m) es k'->De π ns A (.tup [.str ['f','a','i','l'],.str m]) (aL ns (aF es k' (aT A)))
noncomputable def Kt(S:Hst)(es:List Evt):Hst:={S with ev:=S.ev++es}
theorem im{P:Prog}{H:AH}{n:Nm}{a:Nat}{ks:List Nm}{vs:List V}(h:H[a]? =some (.dict ks vs)):aY P false (.cop .notin) [.str n,.ref a] H=some (.bool (!ks.contains n),H):=by
 show(((HI H (.str n) (.ref a) (H[a]?.bind O.lst))).map _).map _=_
 rw [h]
 show(((H[a]?.bind O.dct).bind _).map _).map _=_
 rw [h];rfl
theorem d6{H:AH}{r:Nat}{vs:List V}(h:H[r]? =some (.list vs)):je false H (.ref r)=some vs:=by
 show H[r]?.bind O.lst=_
 rw [h];rfl
structure Lz(S S':Hst):Prop where
 lt:S'.letters=S.letters
 pr:S'.pres=S.pres
 sm:S'.sums=S.sums
 kp:S'.kept=S.kept
 ck:S'.clock=S.clock
def LI(π:PI)(σ:Ad)(S:Hst)(its:List Nm)(ρ:Fm)(H:AH):Prop:=
 ∃a b c S' dn,ρ=[some (.ref σ.i),a,b,c]/\Hs σ S' H/\Iv π S'/\Lz S S'/\S'.ev.length+its.length*S.letters<=S.ev.length+60*S.letters/\(dn++its=σ.names/\S'.ev=S.ev++nH (here S) (qS S) dn/\∀n,qS S' n=if here S n=false/\n∈dn then []else qS S n)
def LJ(σ:Ad)(S:Hst)(n:Nm)(q its:List (Nat×V))(ρ:Fm)(H:AH):Prop:=
 ∃b c dn,ρ=[some (.ref σ.i),some (.str n),b,c]/\dn++its=q/\Hs σ (Kt S (dn.map λp=>.lost n p.1)) H
theorem Gd.mono{π:PI}{S S':Hst}(g:Gd π S)(e1:S'.pres=S.pres)(e2:S'.kept=S.kept)(e3:S'.sums=S.sums)(e4:S'.kl=S.kl)(le:S.ev.length<=S'.ev.length):Gd π S':=by
 refine⟨?_,?_,?_,?_,?_,?_,?_,?_⟩
 ·rw [e1,e2];exact g.kw
 ·rw [e1,e3];exact g.ks
 ·rw [e1];exact aa g.lp le
 ·rw [e2];exact aa g.lk le
 ·rw [e3];exact aa g.ls le
 ·rw [e4];exact aa g.ll le
 ·rw [e2];exact g.ko
 ·rw [e3];exact g.so
theorem dQ{α:Type}{a b:List α}:a.length<=(a++b).length:=aa (aq _ _) (ao af.symm)
theorem yQ{a b c m l:Nat}(h:a+(m+1)*l<=c)(hb:b<=l):a+b+m*l<=c:=by
 rw [Nat.succ_mul,ce (m*l),<-bt]at h
 exact aa (aN (aC hb a) _) h
theorem l8{π:PI}{σ:Ad}(pl:Pl π σ){n:Nm}(h:π.isW n=some false):n∈σ.names:=pl.nm n (congrArg cH h)
theorem sG{h:Nm->Bool}{q:Nm->List (Nat×V)}{dn:List Nm}{n:Nm}:nH h q (dn++[n])=nH h q dn++if h n=true then []else(q n).map λp=>.lost n p.1:=by
 unfold nH
 rw [bo]
 exact congrArg _ (aA _)
theorem DT{π:PI}{σ:Ad}(pl:Pl π σ){n:Nat}{S:Hst}{H:AH}{Q:QE}{X:XE}(h:Hs σ S H)(iv:Iv π S)(hb:S.ev.length+60*S.letters<=900000)
  (q:∀S' H',Hs σ S' H'->Iv π S'->S'.letters=S.letters->S'.ev.length<=S.ev.length+60*S.letters->jq S'=aL σ.names (jq S)->Q .none H'):aJ PL (n+1) 49 [.ref σ.i] H Q X:=by
 refine cf DN rfl (d5 (LI π σ S) (f:=V.str) (l:=σ.names) (cU h rfl rfl) (λ_ _ _ q=>yL q λa b c S' dn _ hS _ _ _ _=>d6 (hS.get 2 rfl)) (aa pl.le (by decide))
  ⟨none,none,none,S,[],rfl,h,iv,⟨rfl,rfl,rfl,rfl,rfl⟩,aC (GZ _ pl.le) _,rfl,(aA _).symm,λn=>(if_neg λz=>aZ z.2).symm⟩
  (λx xs ρ' H' hI K' hK=>yL hI λa b c S' dn e hS iS hl hn he=>?_) λρ' H' hI=>yL hI λa b c S' dn _ hS iS hl hn he=>q S' H' hS iS hl.lt (aa (aq _ _) hn) ?_)
 case refine_2=>
  have ed:dn=σ.names:=(aA dn).symm.trans he.1
  have eh:here S'=here S:=congrArg (λl m=>dP m l) hl.pr
  have eq:qS S'=λn=>if here S n=true then qS S n else []:=funext λn=>by
   rw [he.2.2 n]
   by_cases z:here S n=true
   ·rw [if_neg λy=>am (y.1.symm.trans z),if_pos z]
   ·rw [if_neg z]
    by_cases y:n∈dn
    ·rw [if_pos ⟨cK.mpr z,y⟩]
    ·rw [if_neg λw=>y w.2]
     unfold qS
     refine fA (o:=dG n S.qu) (λe=>by rw [e];rfl) λx e=>absurd (l8 pl ((iv.qk n).mp (dY.mpr ⟨x,bV e⟩))) (ed▸y)
  refine(?_:(⟨here S',gc S',lX S',qS S',S'.ev,S'.clock,S'.letters⟩:Ab)=⟨here S,gc S,lX S,λn=>if here S n=true then qS S n else [],S.ev++nH (here S) (qS S) σ.names,S.clock,S.letters⟩)
  rw [eh,eq,he.2.1,ed,hl.ck,hl.lt,show gc S'=gc S from congrArg (λ(l:AL (Nat×List Int)) c=>((dG c l).map jD).getD []) hl.kp,show lX S'=lX S from congrArg (λ(l:AL Int) c=>(dG c l).getD 0) hl.sm]
 subst e
 have hs:S'.ev.length+S'.letters<=900000:=by
  rw [hl.lt]
  exact aa (aq _ _) (aa (yQ hn (aI _)) hb)
 have eh:here S'=here S:=congrArg (λl m=>dP m l) hl.pr
 have xd:x∉dn:=λz=>(a8.mp (he.1▸pl.nd)).2.2 x z x (.head _) rfl
 have ed:(dn++[x])++xs=σ.names:=(aj dn [x] xs).trans he.1
 have qx:qS S' x=qS S x:=(he.2.2 x).trans (if_neg λz=>xd z.2)
 refine cZ (b8 (ev_p2 (ev_var rfl) (cU hS rfl rfl) (t9 (hS.get 8 rfl))) λ_=>ev_p2 (ev_var rfl) (cU hS rfl rfl) (im (hS.get 5 rfl))) (λhc=>?_) λhc=>hK _ _ ⟨_,b,c,S',dn++[x],rfl,hS,iS,hl,aa (aC (GZ _ (a9 _)) _) hn,ed,?_,λn=>?_⟩
 ·have hc:=ay.mp hc
  have hx:here S x=false:=eh▸(bZ _▸hc.2:here S' x=false)
  haveI hw:=(iS.qk x).mp hc.1
  refine(gh hc.1).elim λrq er=>?_
  haveI hq:=hS.qp _ (bV er)
  haveI le:rq.2.length<=az:=aa hq.2.2 (aa (bw _ _) (aa hs (by decide)))
  refine uV (st:=λp ρ=>(ρ.set 2 (some (.int p.1))).set 3 (some p.2)) (f:=nA) (λ_ _=>rfl) (LJ σ S' x rq.2) (l:=rq.2) (v:=.ref rq.1) (ev_p2 (cU hS rfl rfl) (ev_var rfl) (l6 (val:=Hk) (hS.get 8 rfl) er)) (λ_ _ _ q=>i6 q λb c dn _ _ hD=>d6 (hD.qp _ (bV er)).2.1) le
   ⟨b,c,[],rfl,rfl,by unfold Kt;rw [CU,aA];exact hS⟩ (λp ps ρ' H' q K' hK=>i6 q λb c dn e ed hD=>?_) λρ' H' q=>i6 q λb c dn' e ed' hD=>?_
  ·subst e
   refine mH hD rfl (.lost x p.1) (aK rfl) ?_ λH3 h3=>hK _ _ ⟨_,_,dn++[p],rfl,(aj dn [p] ps).trans ed,?_⟩
   ·refine (?_:(S'.ev++dn.map _).length<=_)
    rw [af,ah]
    refine aa (aC (aa ?_ hq.2.2) _) (aa hs (by decide))
    rw [<-ed,af];exact aq _ _
   ·unfold Kt
    rw [aB,<-aj]
    exact h3
  ·subst e
   haveI ed':dn'=rq.2:=(aA dn').symm.trans ed'
   subst ed'
   refine zE hD rfl (λ_=>ev_var rfl) (aa iS.lq (by decide)) λr f H' h'=>hK _ _ ⟨_,_,_,_,dn++[x],rfl,h',⟨iS.gd.mono rfl rfl rfl rfl dQ,iS.up,cq iS.nm λe he=>ea1_2 (aG.mp he) λ_ _ z=>z▸hw,λm=>(qr hc.1).trans (iS.qk m),λp hp=>(jH hp).elim (λe=>e▸qY) (iS.lv p),aa (ao (lu hc.1)) iS.lq⟩,⟨hl.lt,hl.pr,hl.sm,hl.kp,hl.ck⟩,?_,ed,?_,λn=>?_⟩
   ·show (S'.ev++_).length+_<=_
    rw [af,ah]
    exact yQ hn (hl.lt▸hq.2.2)
   ·show S'.ev++_=_
    rw [he.2.1,sG,hx,if_neg am,aj,<-qx,ly er]
   ·refine (congrFun (tI (S:=Kt S' _) (n:=x) (x:=(r,[])) (f:=f)) n).trans ?_
    refine(?_:(if n=x then []else qS S' n)=_)
    by_cases z:n=x
    ·rw [if_pos z,if_pos ⟨z▸hx,z▸ak _ (.head _)⟩]
    ·rw [if_neg z,he.2.2 n]
     by_cases y:here S n=false/\n∈dn
     ·rw [if_pos y,if_pos ⟨y.1,av _ y.2⟩]
     ·rw [if_neg y,if_neg λw=>y ⟨w.1,(bT.mp w.2).elim id λw=>absurd (in1 w) z⟩]
 ·have e0:(if here S x=true then []else(qS S x).map λp=>Evt.lost x p.1)=[]:=by
   by_cases z:here S x=true
   ·rw [if_pos z]
   ·rw [if_neg z,<-qx]
    haveI hc:(dP x S'.qu&& !here S' x)=false:=hc
    rw [eh,cK.mpr z]at hc
    have hc:dP x S'.qu=false:=by
     cases y:dP x S'.qu with
     |false=>rfl
     |true=>rw [y]at hc;exact absurd hc (gx:¬true=false)
    unfold qS
    refine fA (o:=dG x S'.qu) (λe=>by rw [e];rfl) λy e=>absurd (dY.mpr ⟨y,bV e⟩) (by rw [hc];exact am)
  rw [he.2.1,sG,e0,aA]
 ·rw [he.2.2 n]
  by_cases y:here S n=false/\n∈dn
  ·rw [if_pos y,if_pos ⟨y.1,av _ y.2⟩]
  ·rw [if_neg y]
   by_cases w:here S n=false/\n∈dn++[x]
   ·rw [if_pos w]
    haveI ex:n=x:=(bT.mp w.2).elim (λz=>absurd ⟨w.1,z⟩ y) in1
    subst ex
    haveI hc:(dP n S'.qu&& !here S' n)=false:=hc
    rw [eh,w.1]at hc
    rw [<-qx]
    unfold qS
    refine fA (o:=dG n S'.qu) (λe=>by rw [e];rfl) λy e=>absurd (show dP n S'.qu=true from dY.mpr ⟨y,bV e⟩) (λz=>by rw [z]at hc;exact absurd hc (gx:¬true=false))
   ·rw [if_neg w]
section
variable {n:Nat}{H:AH}{Q:QE}{X:XE}
theorem f1{a b i:Int}(h:a<=i/\i<=b)(q:Q (.bool true) H):aJ PL (n+1) 0 [.int i,.int a,.int b] H Q X:=
 cf JF rfl (ev_ret (b8 (s:=true) (t:=true) (aK rfl) λ_=>b8 (s:=true) (t:=true) (aK rfl) λ_=>ev_eq (yh (ev_var rfl) (ev_var rfl) (ev_var rfl)) (by rw [decide_eq_true h.1,decide_eq_true h.2];rfl)) q)
theorem f2{s:Nm}(h:ny s)(q:Q (.bool true) H):aJ PL (n+1) 1 [.str s] H Q X:=by
 refine cf IY rfl (bJ (g9 (s:=false) (t:=false) (aK rfl) λ_=>cN (s:=true) (ev_eq (yh (i:=1) (j:=s.length) (k:=8) an (cD (ev_var rfl) qE) an) ?_)) (ev_ret (cD (nL (l:=s) (f:=λc=>.str [c]) (g:=λc=>.bool (tH.contains c)) (ev_var rfl) rfl (aa h.2.1 (by decide)) λ_ _=>aK rfl) ?_) q))
 ·rw [decide_eq_true (show(1:Int)<=s.length from ca.mpr h.1),decide_eq_true (show(s.length:Int)<=8 from ca.mpr h.2.1)];rfl
 ·rw [show(s.map λc=>V.bool (tH.contains c))=(s.map λc=>tH.contains c).map V.bool from bB.symm,Gy,List.all_map]
  exact congrArg (λt=>some (V.bool t,H)) (bL.mpr λc hc=>aX.mpr (h.2.2 c hc))
theorem f3{v:V}(h:LV v)(q:Q (.bool true) H):aJ PL (n+2) 2 [v] H Q X:=by
 induction h with
 |add h=>exact cf Ac rfl (bJ (aK rfl) (dy (aK rfl) (ev_ret (b8 (s:=true) (t:=true) (aK rfl) λ_=>jc (aK rfl) (aK rfl) (aK rfl) λQ q=>f1 h q) q)))
 |fault=>exact cf Ac rfl (bJ (aK rfl) (bJ (aK rfl) (ev_ret (aK rfl) q)))
 |leave=>exact cf Ac rfl (bJ (aK rfl) (bJ (aK rfl) (ev_ret (aK rfl) q)))
end
section
variable {P:Prog}{C:Calls}{ρ:Fm}{H:AH}{K:KS}{R:QE}{X:XE}{ss:List St}{σ:Ad}{S S':Hst}{n nm:Nm}{e:Ex}{x:V}
theorem lR{f i:Nat}(h:Hs σ S H)(h0:ρ[i]? =some (some (.ref σ.i)))(hn:hk.contains nm=false)(hc:∀Q:QE,Q x H->C f [.ref σ.i] H Q X):Ev P C ρ H X (.meth 0 f nm (.var i) []) x:=λQ q=>
 ev_var (P:=P) (C:=C) (X:=X) h0 (λv H₁=>e9 H₁ 0 nm v=true/\fR P C [] ρ H₁ (λvs H'=>C f (v::vs) H' Q X) X) ⟨iP h hn,hc Q q⟩
theorem ze{f i:Nat}{a:Ex}{y:V}(h:Hs σ S H)(h0:ρ[i]? =some (some (.ref σ.i)))(hn:hk.contains nm=false)(ha:Ev P C ρ H X a y)(hc:∀Q:QE,Q x H->C f [.ref σ.i,y] H Q X):Ev P C ρ H X (.meth 0 f nm (.var i) [a]) x:=λQ q=>
 ev_var (P:=P) (C:=C) (X:=X) h0 (λv H₁=>e9 H₁ 0 nm v=true/\fR P C [a] ρ H₁ (λvs H'=>C f (v::vs) H' Q X) X) ⟨iP h hn,ha _ (hc Q q)⟩
theorem qj(h:Hs σ S H)(h0:ρ[0]? =some (some (.ref σ.i)))(he:Ev P C ρ H X e x)(ed:dK nm x hk (hv σ S)=(hk,hv σ S'))(ef:fq σ S'=(fq σ S).set 0 (σ.d,.ns hk (hv σ S')))(ek:S'.kept=S.kept)(eq:S'.qu=S.qu)(eo:S'.own=S.own)(el:S.kl<=S'.kl/\S.letters<=S'.letters)(ep:S'.pres=S.pres)(k:∀H',Hs σ S' H'->a7 P C ss ρ H' K R X) :
  a7 P C (.setAttr (.var 0) nm e::ss) ρ H K R X:=by
 haveI z:iu (.ref σ.i) nm x H=some (H.set σ.d (.ns hk (hv σ S'))):=by
  show(fO H (.ref σ.i)).bind _=_
  rw [xo h]
  show some (H.set σ.d (.ns (dK nm x hk (hv σ S)).1 (dK nm x hk (hv σ S)).2))=_
  rw [ed]
 exact he _ (ev_var (P:=P) (C:=C) (X:=X) h0 _ (by rw [z];exact k _ (h.set 0 rfl ef rfl ek eq eo el (ep▸h.pn))))
noncomputable def pC(S:Hst)(c:Int):Hst:={S with clock:=c}
noncomputable def pN(S:Hst)(c:Nat):Hst:={S with letters:=c}
theorem Hs.quSet(h:Hs σ S H){r:Nat}{q q':List (Nat×V)}(e:dG n S.qu=some (r,q))(hl:q'.length<=S.letters):Hs σ (pQ S n (r,q') S.own) (H.set r (.list (q'.map nA))):=by
 haveI hp:=h.qp _ (bV e)
 have ho:=hp.1
 haveI hlt:r<H.length:=(ae.mp hp.2.1).1
 haveI ef:fq σ (pQ S n (r,q') S.own)=fq σ S:=by
  unfold fq
  rw [show(pQ S n (r,q') S.own).qu=cY n (r,q') S.qu from rfl,vr (val:=Hk) (y:=(r,q')) e rfl];rfl
 refine⟨ef▸h.nd,ef▸λp hp=>⟨(bp λz=>eY ((h.fix p hp).2.symm.trans (z▸ho))).trans (h.fix p hp).1,(h.fix p hp).2⟩,λp hp=>⟨(h.kp p hp).1,(bp λz=>?_).trans (h.kp p hp).2.1,(h.kp p hp).2.2⟩,λp hp=>(oQ h.qn hp).elim (λz=>z▸⟨ho,bS hlt,hl⟩) λz=>haveI y:=h.qp p z.1;⟨y.1,(bp λw=>z.2 ?_).trans y.2.1,y.2.2⟩,lJ h.qn,h.pn,h.kn,λb hb=>h.fr b (aa (ao aR.symm) hb)⟩
 ·exact absurd (congrArg qT (ai (ho.symm.trans ((congrArg S.own z).trans (h.kp p hp).1)))) am
 ·exact congrArg jD (ai (y.1.symm.trans (w▸ho)))
theorem sD{i:Nat}{x:Nat×List (Nat×V)}(h:Hs σ S H)(h0:ρ[0]? =some (some (.ref σ.i)))(hi:ρ[i]? =some (some (.str n)))(e:dG n S.qu=some x):Ev P C ρ H X (.prim false .item [r9 ['q','u','e','u','e','s'],.var i]) (.ref x.1):=ev_p2 (cU h h0 rfl) (ev_var hi) (l6 (val:=Hk) (h.get 8 rfl) e)
end
theorem iy{n j:Nat}(h:j<=n):jo n (j:Int)=j:=by
 unfold jo
 rw [if_neg (dB.mpr (bv j))]
 by_cases q:(j:Int)<n
 ·rw [if_pos q];rfl
 ·rw [if_neg q];exact lY (ca.mp (dB.mp q)) h
theorem mx{α:Type}{a b:List α}:bM (a++b) (jo (a++b).length (a.length:Int)) (a++b).length=b:=by
 rw [iy (dQ (a:=a) (b:=b))]
 unfold bM
 rw [kZ,List.drop_left]
structure At(π:PI)(σ:Ad)(S:Hst)(H:AH):Prop where
 hs:Hs σ S H
 iv:Iv π S
theorem At.app{π:PI}{σ:Ad}{S:Hst}{H L:AH}(A:At π σ S H):At π σ S (H++L):=⟨A.hs.app,A.iv⟩
def MH(π:PI)(σ:Ad)(S:Hst)(dv:V)(b:Nat)(Q:QE):Prop:=∀S' H' es,At π σ S' H'->S'.letters<=S.letters+1->S'.ev.length<=S.ev.length+b->De π σ.names (jq S) dv (jq S')->S'.ev=S.ev++es->Q (.ref H'.length) (H'++[.list (es.map Evt.v)])
section
variable {π:PI}{σ:Ad}{n:Nat}{S:Hst}{H:AH}{Q:QE}{X:XE}{m:Nm}
theorem K9(pl:Pl π σ)(h:Hs σ S H)(no:here S (au σ.plan)=false->X 6 H)(q:here S (au σ.plan)=true->Q .none H):aJ PL (n+2) 50 [.ref σ.i] H Q X:=
 cf Gc rfl (cZ (cN (lR h rfl rfl λQ q=>cf zR rfl (ev_ret (lE h rfl (ev_p2 (cU h rfl rfl) an (uB pl.top))) q))) (λz=>no (bZ _▸z)) λz=>q (dc _▸z))
theorem Ki(h:Hs σ S H)(hn:ny m)(hq:dP m S.qu=true)(q:Q .none H):aJ PL (n+2) 51 [.ref σ.i,.str m] H Q X:=
 cf GD rfl (bJ (g9 (s:=false) (t:=false) (cN (s:=true) (cT (ev_var rfl) λQ q=>f2 hn q)) λ_=>ev_eq (ev_p2 (ev_var rfl) (cU h rfl rfl) (im (h.get 8 rfl))) (congrArg (λt=>V.bool (!t)) hq)) q)
theorem KV(h:Hs σ S H)(no:here S m=false->X 4 H)(q:here S m=true->Q .none H):aJ PL (n+1) 52 [.ref σ.i,.str m] H Q X:=
 cf xB rfl (cZ (ev_p2 (ev_var rfl) (cU h rfl rfl) (im (h.get 5 rfl))) (λz=>no (bZ _▸z)) λz=>q (dc _▸z))
theorem CL{P:Prog}{i:Nat}{vs:List V}{a:Int}(h:H[i]? =some (.list vs))(hl:vs.length<=az):aY P true .slice [.ref i,.int a,.none] H=some (.ref H.length,H++[.list (bM vs (jo vs.length a) vs.length)]):=by
 show(((H[i]?.bind O.lst).bind _).map _).bind _=_
 rw [h]
 show((if vs.length<=az then some _ else none:Option V).map _).bind _=_
 rw [if_pos hl];rfl
theorem DR{P:Prog}{C:Calls}{ρ:Fm}{p:Prim}{a b c:Ex}{x y z v:V}{H':AH}(ha:Ev P C ρ H X a x)(hb:Ev P C ρ H X b y)(hc:Ev P C ρ H X c z)(e:aY P true p [x,y,z] H=some (v,H'))(q:Q v H'):cz P C (.prim true p [a,b,c]) ρ H Q X:=ha _ (hb _ (hc _ (hE e q)))
theorem rW{ρ:Fm}{K:KS}{S₂:Hst}{es:List Evt}{dv:V}(pl:Pl π σ)(h:Hs σ S₂ H)(iv:Iv π S₂)(ev:S₂.ev=S.ev++es)(lt:S₂.letters=S.letters)(hl:es.length<=1382)(de:De π σ.names (jq S) dv (aL σ.names (jq S₂)))(h0:ρ[0]? =some (some (.ref σ.i)))(h2:ρ[2]? =some (some (.int (S.ev.map Evt.v).length)))(hL:S.letters<=110)(hb:S.ev.length+8000<=900000)(q:MH π σ S dv 8000 Q) :
  a7 PL (aJ PL (n+1)) [(.expr (.meth 0 49 ['l','o','s','e'] (.var 0) [])),(.ret (.prim true .slice [(r9 ['e','v','e','n','t','s']),.var 2,.cst .none]))] ρ H K Q X:=by
 have le:S₂.ev.length+6600<=S.ev.length+8000:=by
  rw [ev,af,bt]
  exact aC (aa (aN hl 6600) (by decide)) _
 have hL2:60*S₂.letters<=6600:=bn 60 (lt.symm▸hL)
 refine lH h h0 rfl (DT pl h iv (aa (aC hL2 _) (aa le hb)) λS₃ H₃ h3 iv3 l3 wV ab=>?_)
 haveI wV:S₃.ev.length<=S.ev.length+8000:=aa wV (aa (aC hL2 _) le)
 have e3:S₃.ev=S.ev++(es++nH (here S₂) (qS S₂) σ.names):=(congrArg Ab.ev ab).trans ((congrArg (·++nH (here S₂) (qS S₂) σ.names) ev).trans (aj ..))
 refine gJ (DR (cU h3 h0 rfl) (ev_var h2) an (CL (h3.get 9 rfl) (aa (ao (ah _)) (aa wV (aa hb (by decide))))) ?_)
 haveI z:=q S₃ H₃ _ ⟨h3,iv3⟩ (by rw [l3,lt];exact a9 _) wV (ab▸de) e3
 rw [e3,aB,mx]
 exact z
theorem b6{d:Nat}(h:d<=6):bF d<=1380:=aN (bn 60 (ax h)) 960
theorem fu{d N:Nat}(h:d<=6):2*d+20<=N+33:=aa (aN (bn 2 h) 20) (bw 32 (N+1))
theorem rQ{k':Nm->List Int}{es:List Evt}{S₂:Hst}(sp:Sp π k' S S₂ es):jq S₂=aF es k' (jq S):=by
 show(⟨here S₂,gc S₂,lX S₂,qS S₂,S₂.ev,S₂.clock,S₂.letters⟩:Ab)=⟨es.foldl hr (here S),λc=>es.foldl (jW c) (k' c),λc=>es.foldl (m0 c) (lX S c),qS S,S.ev++es,S.clock,S.letters⟩
 rw [sp.hr,sp.ev,sp.ck,sp.lt,show gc S₂=_ from funext sp.kp,show lX S₂=_ from funext sp.sm,show qS S₂=qS S from congrArg (λ(l:AL (Nat×List (Nat×V))) n=>((dG n l).map jD).getD []) sp.qu]
theorem f42(pl:Pl π σ)(A:At π σ S H)(hm:m∈σ.names)(hL:S.letters<=110)(hb:S.ev.length+8000<=900000)(x4:here S m=false->X 4 H)(x6:here S (au σ.plan)=false->X 6 H)(q:here S (au σ.plan)=true->here S m=true->MH π σ S (.tup [.str ['f','a','i','l'],.str m]) 8000 Q):aJ PL (n+34) 55 [.ref σ.i,.str m] H Q X:=by
 haveI h:=A.hs
 refine oX (pl.pt m hm) λd k v hd rt en ed=>cf D4 rfl (lH h rfl rfl (K9 pl h x6 λhr0=>bJ (g9 (s:=false) (t:=false) (cN (s:=true) (cT (ev_var rfl) λQ q=>f2 (pl.ok m hm) q)) λ_=>ev_eq (ev_p2 (ev_var rfl) (cU h rfl rfl) (im (h.get 3 rfl))) (congrArg (λt=>V.bool (!t)) (aX.mpr hm))) (dE h rfl rfl (ev_var rfl) (KV h x4 λhh=>?_))))
 refine br (cD (cU h rfl rfl) (gL (h.get 9 rfl))) (bW rfl) (qj (S':=pC S (S.clock+1)) h rfl (ev_p2 (cU h rfl rfl) an dR) rfl rfl rfl rfl rfl ⟨aI _,aI _⟩ rfl λH1 h1=>?_)
 have i1:Iv π (pC S (S.clock+1)):=⟨A.iv.gd.mono rfl rfl rfl rfl (aI _),A.iv.up,A.iv.nm,A.iv.qk,A.iv.lv,A.iv.lq⟩
 refine dE h1 rfl rfl (x:=v) (ev_p2 (cU h1 rfl rfl) (ev_var rfl) (iQ (h1.get 3 rfl) ed)) (sZ (fu hd.1) (t8.1 rt h1 i1.gd i1.up (en▸hh) (aa (aC (aa (b6 hd.1) (by decide)) _) hb) λS2 H2 es k' h2 g2 sp hl up ch=>rW (S:=S) pl h2 (i1.plain sp g2 up) sp.ev sp.lt (aa hl (aa (b6 hd.1) (by decide))) ?_ rfl rfl hL hb (q hr0 hh)))
 rw [rQ sp]
 rw [en]at ch
 exact .fail ch
end
theorem Du{P:Prog}{C:Calls}{ρ:Fm}{H:AH}{X:XE}{a b c d:Ex}{x y u w z:V}{p:Prim}(h:Ev P C ρ H X a x)(h2:Ev P C ρ H X b y)(h3:Ev P C ρ H X c u)(h4:Ev P C ρ H X d w)(e:aY P false p [x,y,u,w] H=some (z,H)):Ev P C ρ H X (.prim false p [a,b,c,d]) z:=λ_ q=>h _ (h2 _ (h3 _ (h4 _ (hE e q))))
section
variable {π:PI}{σ:Ad}{n:Nat}{S:Hst}{H:AH}{Q:QE}{X:XE}{m:Nm}
def MS(π:PI)(σ:Ad)(S:Hst)(m:Nm)(l:V)(b:Nat)(Q:QE):Prop:=∀S' H',At π σ S' H'->S'.letters<=S.letters+1->S'.ev.length<=S.ev.length+b->jq S'=aS m l (jq S)->Q (ni S'.letters) H'
theorem f40{l:V}(pl:Pl π σ)(A:At π σ S H)(hm:π.isW m=some false)(lv:LV l)(hL:S.letters<=109)(hb:S.ev.length+8000<=900000)(x4:here S m=false->X 4 H)(x6:here S (au σ.plan)=false->X 6 H)(q:here S (au σ.plan)=true->here S m=true->MS π σ S m l 8000 Q):aJ PL (n+34) 53 [.ref σ.i,.str m,l] H Q X:=by
 have h:=A.hs
 have hq:=(A.iv.qk m).mpr hm
 haveI hs:S.ev.length<=az:=aa (aq _ _) (aa hb (by decide))
 refine cf EQ rfl (lH h rfl rfl (K9 pl h x6 λhr0=>bJ (cN (s:=true) (cT (ev_var rfl) λQ q=>f3 lv q)) (dE h rfl rfl (ev_var rfl) (Ki h (pl.ok m (l8 pl hm)) hq (dE h rfl rfl (ev_var rfl) (KV h x4 λhh=>?_))))))
 refine qj (S':=pN S (S.letters+1)) h rfl (ev_p2 (cU h rfl rfl) an dR) rfl rfl rfl rfl rfl ⟨aI _,a9 _⟩ rfl λH1 h1=>(gh hq).elim λx ex=>?_
 haveI hx:=h1.qp _ (bV ex)
 haveI hx':x.2.length<=S.letters:=(h.qp _ (bV ex)).2.2
 refine st_mc1 (sD h1 rfl rfl ex) (d8 hx.2.1) (ev_p2 (cU h1 rfl rfl) (ev_var rfl) (eR fM)) (hE (dU hx.2.1 ?_) ?_)
 ·rw [ah];exact aa hx' (aa hL (by decide))
 haveI h2:=h1.quSet (q':=x.2++[(S.letters+1,l)]) ex (aa (ao af) (ax hx'))
 rw [aB]at h2
 refine mH h2 rfl (.sent m (S.letters+1) l) (Du an (ev_var rfl) (cU h2 rfl rfl) (ev_var rfl) rfl) hs λH3 h3=>ev_ret (cU h3 rfl rfl) (q hr0 hh _ _ ⟨h3,⟨A.iv.gd.mono rfl rfl rfl rfl fQ,A.iv.up,cq A.iv.nm (dk ⟨hm,lv⟩),λk=>(qr hq).trans (A.iv.qk k),λp hp=>(jH hp).elim (λe=>e▸cq (A.iv.lv _ (bV ex)) (dk lv)) (A.iv.lv p),aa (ao (lu hq)) A.iv.lq⟩⟩ (aI _) (aa (ao af) (aC (aU rfl) _)) ?_)
 exact congrArg (λq=>(⟨here S,gc S,lX S,q,S.ev++[.sent m (S.letters+1) l],S.clock,S.letters+1⟩:Ab)) ((tI (S:=pN S (S.letters+1)) (n:=m) (x:=(x.1,x.2++[(S.letters+1,l)])) (f:=S.own)).trans (show _=iU (qS S) m (qS S m++[(S.letters+1,l)]) by rw [ly ex];rfl))
theorem K2(pl:Pl π σ)(h:Hs σ S H)(q:Q (.ref H.length) (H++[.list ((σ.names.filter (here S)).map V.str)])):aJ PL (n+1) 58 [.ref σ.i] H Q X:=
 cf GI rfl (gJ (uS (l:=σ.names) (f:=V.str) (g:=V.str) (cU h rfl rfl) (d6 (h.get 2 rfl)) (aa pl.le (by decide)) (λm _=>lE h rfl (ev_var rfl)) (λ_ _ _=>ev_var rfl) q))
theorem nP{P:Prog}{C:Calls}{ρ:Fm}{p:Prim}{a:Ex}(k:cz P C a ρ H (λu H'=>g7 (aY P true p [u] H') Q) X):cz P C (.prim true p [a]) ρ H Q X:=k
theorem f46(h:Hs σ S H)(hb:S.ev.length<=900000)(q:Q (.ref H.length) (H++[.list (S.ev.map Evt.v)])):aJ PL (n+1) 59 [.ref σ.i] H Q X:=
 cf EC rfl (gJ (nP (cU h rfl rfl _ (hE (v:=.ref H.length) (H':=H++[.list (S.ev.map Evt.v)]) (by
  refine(?_:(((H[σ.ev]?.bind O.lst).bind _).map _).bind _=_)
  rw [h.get 9 rfl]
  show((if(S.ev.map Evt.v).length<=az then some _ else none:Option V).map _).bind _=_
  rw [if_pos (aa (ao (ah _)) (aa hb (by decide)))];rfl) q))))
theorem f47(pl:Pl π σ)(h:Hs σ S H)(iv:Iv π S)(hL:S.letters<=110)(hm:π.isW m=some false)(q:Q (.ref H.length) (H++[.list ((qS S m).map λp=>ni p.1)])):aJ PL (n+3) 60 [.ref σ.i,.str m] H Q X:=by
 have hq:=(iv.qk m).mpr hm
 refine(gh hq).elim λx ex=>cf Fb rfl (dE h rfl rfl (ev_var rfl) (Ki h (pl.ok m (l8 pl hm)) hq ?_))
 haveI hx:=h.qp _ (bV ex)
 refine gJ (wp_mapT (l:=x.2) (f:=nA) (g:=λp=>ni p.1) (sD h rfl rfl ex) (d6 hx.2.1) (aa hx.2.2 (aa hL (by decide))) (λ_ _=>aK rfl) ?_)
 rw [ly ex]at q
 exact q
theorem JK(h:Hs σ S H)(hh:here S m=true)(q:Q .none H):aJ PL (n+1) 52 [.ref σ.i,.str m] H Q X:=cf xB rfl (bJ (ev_eq (ev_p2 (ev_var rfl) (cU h rfl rfl) (im (h.get 5 rfl))) (congrArg (λt=>V.bool (!t)) hh)) q)
theorem f48(pl:Pl π σ)(h:Hs σ S H)(iv:Iv π S)(hm:π.isW m=some false)(hh:here S m=true)(q:Q (.int (lX S m)) H):aJ PL (n+3) 61 [.ref σ.i,.str m] H Q X:=
 (gh (iv.gd.ks m hh hm)).elim λz ez=>cf F4 rfl (dE h rfl rfl (ev_var rfl) (Ki h (pl.ok m (l8 pl hm)) ((iv.qk m).mpr hm) (dE h rfl rfl (ev_var rfl) (JK h hh (ev_ret (ev_p2 (cU h rfl rfl) (ev_var rfl) (l6 (val:=V.int) (h.get 6 rfl) ez)) (by unfold lX at q;rw [ez]at q;exact q))))))
theorem Gx{k:Nat}{v:V}{G:V->Prop}(hP:Pt π k v)(hw:π.isW (au v)=some true)(g:∀nm r m s ps,G (jZ nm r m s ps)):G v:=by
 induction hP with
 |wk _ _ h=>exact absurd (ai (h.symm.trans hw)) am
 |wd=>exact g _ _ _ _ _
theorem LX(pl:Pl π σ)(h:Hs σ S H)(iv:Iv π S)(hw:π.isW m=some true)(hh:here S m=true)(hb:S.ev.length<=900000)(q:∀o,o=.list ((Fh S.clock (π.sp m) (gc S m)).map V.int)->Q (.ref H.length) (H++[o])):aJ PL (n+2) 62 [.ref σ.i,.str m] H Q X:=by
 have hm:=pl.nm m (congrArg cH hw)
 refine oX (pl.pt m hm) λd k v hd rt en ed=>(gh (iv.gd.kw m hh hw)).elim λx ex=>?_
 haveI hk:=h.kp _ (bV ex)
 haveI ek:gc S m=x.2:=by unfold gc;rw [ex];rfl
 haveI md:=rt.rd.md v (jX rt.rd.pt)
 have z:=Gx (G:=λv=>aY PL false .item [v,.int 0] H=some (.str wd,H)/\aY PL false .item [v,.int 4] H=some (.int (spV v),H)) rt.rd.pt (en.symm▸hw) λ_ _ _ _ _=>⟨rfl,rfl⟩
 have hv:∀{C X},Ev PL C [some (.ref σ.i),some (.str m)] H X (.prim false .item [(r9 ['p','a','r','t','s']),.var 1]) v:=λ{C X}=>ev_p2 (cU h rfl rfl) (ev_var rfl) (iQ (h.get 3 rfl) ed)
 refine cf E6 rfl (bJ (g9 (s:=false) (t:=false) (cN (s:=true) (cT (ev_var rfl) λQ q=>f2 (pl.ok m hm) q)) λ_=>g9 (s:=false) (t:=false) (ev_eq (ev_p2 (ev_var rfl) (cU h rfl rfl) (im (h.get 3 rfl))) (congrArg (λt=>V.bool (!t)) (aX.mpr hm))) λ_=>ev_p2 (ev_p2 hv an z.1) an rfl) (dE h rfl rfl (ev_var rfl) (JK h hh (gJ (gR (ev_p2 (cU h rfl rfl) (ev_var rfl) (l6 (val:=JS) (h.get 7 rfl) ex)) (cU h rfl rfl) (ev_p2 hv an z.2) (f8 hk.2.1 (aa hk.2.2 (aa iv.gd.ll (aa hb (by decide)))) λo eo=>q o ?_))))))
 rw [eo,ek,<-en,md.sp];rfl
end
theorem vn{P:Prog}{C:Calls}{ρ:Fm}{H:AH}{K:KS}{R:QE}{X:XE}{ss:List St}{is:List Nat}{e:Ex}(h:cz P C e ρ H (λv H'=>match fX ρ (.inr is) v with|some ρ'=>a7 P C ss ρ' H' K R X|none=>False) X):a7 P C (.asgTup is e::ss) ρ H K R X:=h
theorem BS{P:Prog}{H:AH}{r:Nat}{x:V}{xs:List V}(h:H[r]? =some (.list (x::xs)))(hl:(x::xs).length<=az):aY P false .pop0 [.ref r,.int 0] H=some (x,H.set r (.list xs)):=by
 show((H[r]?.bind O.lst).bind λvs=>some (r,vs)).bind _=_
 rw [h]
 exact if_pos ⟨rfl,hl⟩
section
variable {π:PI}{σ:Ad}{n:Nat}{S:Hst}{H:AH}{Q:QE}{X:XE}{m:Nm}
theorem ym{k:Nat}{v:V}{G:V->Prop}(hP:Pt π k v)(hw:π.isW (au v)=some false)(g:∀nm md,md∈jY->(∀c,π.ch c≠some nm)->G (sS nm md)):G v:=by
 induction hP with
 |wk _ h2 _ h4=>exact g _ _ h2 h4
 |wd _ _ _ _ _ h6=>exact absurd (ai (hw.symm.trans h6)) am
theorem f41(pl:Pl π σ)(A:At π σ S H)(hm:π.isW m=some false)(hL:S.letters<=110)(hb:S.ev.length+8000<=900000)(x4:here S m=false->X 4 H)(x5:qS S m=[]->X 5 H)(x6:here S (au σ.plan)=false->X 6 H)(q:here S (au σ.plan)=true->here S m=true->qS S m≠[]->MH π σ S (.tup [.str ['w','o','r','k'],.str m]) 8000 Q):aJ PL (n+34) 54 [.ref σ.i,.str m] H Q X:=by
 have h:=A.hs
 have hq:=(A.iv.qk m).mpr hm
 haveI hn:=l8 pl hm
 refine oX (pl.pt m hn) λd k v hd rt en ed=>(gh hq).elim λx ex=>cf Fa rfl (lH h rfl rfl (K9 pl h x6 λhr0=>dE h rfl rfl (ev_var rfl) (Ki h (pl.ok m hn) hq (dE h rfl rfl (ev_var rfl) (KV h x4 λhh=>?_)))))
 haveI hx:=h.qp _ (bV ex)
 have hs:∀{j:Nat},j<=8000->S.ev.length+j<=900000:=λz=>aa (aC z _) hb
 obtain⟨r,_|⟨⟨k0,l⟩,ps⟩⟩:=x
 ·exact dy (ev_p2 (cD (sD h rfl rfl ex) (gL hx.2.1)) an rfl) (x5 (ly ex))
 have eq:qS S m=(k0,l)::ps:=ly ex
 refine bJ (ev_eq (ev_p2 (cD (sD h rfl rfl ex) (gL hx.2.1)) an (fS dz dz)) rfl) ?_
 refine br (cD (cU h rfl rfl) (gL (h.get 9 rfl))) (bW rfl) (qj (S':=pC S (S.clock+1)) h rfl (ev_p2 (cU h rfl rfl) an dR) rfl rfl rfl rfl rfl ⟨aI _,aI _⟩ rfl λH1 h1=>?_)
 have hx1:=h1.qp _ (bV ex)
 haveI h2:Hs σ (pQ (pC S (S.clock+1)) m (r,ps) S.own) _:=h1.quSet (q':=ps) ex (aa (a9 _) hx.2.2)
 have lp:LV l:=A.iv.lv _ (bV ex) (k0,l) (.head _)
 refine vn (sD h1 rfl rfl ex _ ⟨d8 hx1.2.1,an _ (hE (BS hx1.2.1 ?_) (show a7 PL (aJ PL (n+33)) _ [some (.ref σ.i),some (.str m),some (.int (S.ev.map Evt.v).length),some (.int k0),some l,none] _ _ Q X from mH h2 rfl (.works m k0) (aK rfl) (aa (hs (aQ _)) (by decide)) λH3 h3=>br (ev_p2 (cU h3 rfl rfl) (ev_var rfl) (iQ (h3.get 3 rfl) ed)) (bW rfl) ?_))⟩)
 ·exact aa (ao (congrArg mV (ah _))) (aa hx.2.2 (aa hL (by decide)))
 have i3:Iv π (pE (pQ (pC S (S.clock+1)) m (r,ps) S.own) (.works m k0)):=⟨A.iv.gd.mono rfl rfl rfl rfl fQ,A.iv.up,cq A.iv.nm (dk hm),λk=>(qr hq).trans (A.iv.qk k),λp hp=>(jH hp).elim (λe=>e▸λx hx=>A.iv.lv _ (bV ex) x (.tail _ hx)) (A.iv.lv p),aa (ao (lu hq)) A.iv.lq⟩
 have a3:jq (pE (pQ (pC S (S.clock+1)) m (r,ps) S.own) (.works m k0))=aW m k0 ps (jq S):=congrArg (λq=>(⟨here S,gc S,lX S,q,S.ev++[Evt.works m k0],S.clock+1,S.letters⟩:Ab)) (tI (S:=pC S (S.clock+1)) (n:=m) (x:=(r,ps)) (f:=S.own))
 have hl3:∀{j:Nat},j+1<=8000->(S.ev++[Evt.works m k0]).length+j<=900000:=λ{j} z=>by rw [af,bt];exact hs (ce 1 j▸z)
 have bd:bF d<=1380:=b6 hd.1
 have q:=q hr0 hh (by rw [eq];exact sP _ _)
 cases lp with
 |@add i5 hi=>
  refine dy (aK rfl) ((gh (A.iv.gd.ks m hh hm)).elim λi ei=>vj h3 rfl (ev_p2 (ev_p2 (cU h3 rfl rfl) (ev_var rfl) (l6 (val:=V.int) (h3.get 6 rfl) ei)) (aK rfl) dR) (ev_var rfl) (aa A.iv.gd.ls (aa (hs (aQ _)) (by decide))) λH4 h4=>?_)
  haveI g4:Gd π (pS (pE (pQ (pC S (S.clock+1)) m (r,ps) S.own) (.works m k0)) m (i+i5)):=⟨i3.gd.kw,λk hk hw=>nI (i3.gd.ks k hk hw),i3.gd.lp,i3.gd.lk,aa (ao (lu (A.iv.gd.ks m hh hm))) i3.gd.ls,i3.gd.ll,i3.gd.ko,λk hk=>(hO hk).elim (λe=>e▸hm) (i3.gd.so k)⟩
  refine rW (S:=S) (S₂:=pS (pE (pQ (pC S (S.clock+1)) m (r,ps) S.own) (.works m k0)) m (i+i5)) (es:=[Evt.works m k0]) pl h4 ⟨g4,i3.up,i3.nm,i3.qk,i3.lv,i3.lq⟩ rfl rfl (aU rfl) ?_ rfl rfl hL hb q
  haveI a4:jq (pS (pE (pQ (pC S (S.clock+1)) m (r,ps) S.own) (.works m k0)) m (i+i5))=aD m i5 (aW m k0 ps (jq S)):=by
   rw [<-a3]
   refine congrArg (λs=>(⟨here S,gc S,s,qS (pE (pQ (pC S (S.clock+1)) m (r,ps) S.own) (.works m k0)),S.ev++[Evt.works m k0],S.clock+1,S.letters⟩:Ab)) (funext λc=>uF.trans ?_)
   refine(?_:_=if c=m then lX S m+i5 else lX S c)
   haveI em:lX S m=i:=by unfold lX;rw [ei];rfl
   by_cases z:c=m
   ·rw [if_pos z,if_pos z.symm,em]
   ·rw [if_neg z,if_neg λy=>z y.symm];rfl
  rw [a4]
  exact .work eq .add
 |fault=>
  refine bJ (aK rfl) (dy (aK rfl) (dE h3 rfl rfl (ev_var rfl) (sZ (fu hd.1) (t8.1 rt h3 i3.gd i3.up (en▸hh) (hl3 (aa (ax bd) (by decide))) λS4 H4 es k' h4 g4 sp hl up ch=>dA<|rW (S:=S) (es:=Evt.works m k0::es) pl h4 (i3.plain sp g4 up) (sp.ev.trans (aj ..)) sp.lt (ax (aa hl (aa bd (by decide)))) ?_ rfl rfl hL hb q))))
  rw [rQ sp,a3]
  rw [en]at ch
  exact .work eq (.fault ch)
 |leave=>
  refine bJ (aK rfl) (bJ (aK rfl) (mH h3 rfl (.leave m) (aK rfl) (aa (hl3 (j:=0) (by decide)) (by decide)) λH4 h4=>qN h4 rfl (ev_var rfl) hh (aa A.iv.gd.lp (aa (hs (aQ _)) (by decide))) λH5 h5=>?_))
  have hw:π.isW (au v)=some false:=en▸hm
  haveI nk:∀c,π.ch c≠some m:=en▸ym (G:=λv=>∀c,π.ch c≠some (au v)) rt.rd.pt hw λ_ _ _ z=>z
  have dl:∀{k:Nm},k≠m->here S k=true->dP k (kr m S.pres)=true:=λa b=>(gj h.pn).trans (ay.mpr ⟨by rw [decide_eq_false a];rfl,b⟩)
  have up5:Up π λk=>dP k (kr m S.pres):=λc k hc hhc=>dl (λz=>nk c (z▸hc)) (A.iv.up c k hc (ay.mp ((gj h.pn).symm.trans hhc)).2)
  haveI g5:=ua (n:=m) (t:=.leave m) i3.gd
  haveI md:=rt.rd.md v (jX rt.rd.pt)
  haveI esb:π.sb m=[m]:=en▸md.sb.trans (ym (G:=λv=>nms 8 v=[au v]) rt.rd.pt hw λ_ _ _ _=>rfl)
  have ep:pre π (here S) (.leave m)=[.leave m]:=by
   unfold pre
   rw [show(Evt.leave m).nm=m from rfl,esb];rfl
  have i5:Iv π (pD (pE (pE (pQ (pC S (S.clock+1)) m (r,ps) S.own) (.works m k0)) (.leave m)) m):=⟨g5,up5,cq i3.nm (dk (congrArg cH hm)),i3.qk,i3.lv,i3.lq⟩
  have sp5:Sp π (gc S) (pE (pQ (pC S (S.clock+1)) m (r,ps) S.own) (.works m k0)) (pD (pE (pE (pQ (pC S (S.clock+1)) m (r,ps) S.own) (.works m k0)) (.leave m)) m) [.leave m]:=⟨rfl,rfl,rfl,rfl,a9 _,funext λ_=>gj h.pn,dk (congrArg cH hm),λ_=>rfl,λ_=>rfl⟩
  refine dm (ym (G:=λv=>∃md,aY PL false .item [v,.int 2] H5=some (.str md,H5)/\JP v=md/\md∈jY) rt.rd.pt hw λ_ md h _=>⟨md,rfl,rfl,h⟩) λmo emd et hmo=>?_
  haveI al:π.al m=Ho v:=en▸md.al
  refine cZ (ev_p2 (ev_p2 (ev_var rfl) an emd) an (fS jO jO)) (λha=>?_) λha=>dA<|dA<|rW (S:=S) (es:=[Evt.works m k0,Evt.leave m]) pl h5 i5 (aj ..) rfl (aU rfl) ?_ rfl rfl hL hb q
  case refine_2=>
   haveI hal:π.al m=false:=by
    rw [al]
    unfold Ho BO
    rw [et]
    exact dN hmo (λe=>absurd (show gf (.str mo) (.str ['a','l','w','a','y','s'])=true from by rw [e];rfl) (by rw [ha];exact am)) λh=>dN h (λe=>by rw [e];rfl) λh=>by rw [in1 h];rfl
   haveI z:Fe π ((jq S).t+1) (π.al m) (jq S).h (jq S).k (.leave m) (pre π (here S) (.leave m)) (gc S):=by rw [hal];exact .stop rfl rfl rfl
   rw [ep]at z
   rw [rQ sp5,a3]
   exact .work eq (.leave z)
  have hal:π.al m=true:=by
   rw [al]
   unfold Ho BO
   rw [et,beq_iff_eq.mp (show(mo==['a','l','w','a','y','s'])=true from ha)];rfl
  cases d with
  |zero=>exact absurd (ai (hm.symm.trans (hd.2 rfl))) am
  |succ d=>
   have bd:bF d<=1380:=b6 (aa (a9 _) hd.1)
   refine dm rt.2 λw rw hv ec=>rX h5 rfl rfl (ev_p2 (cU h5 rfl rfl) (ev_var rfl) (iQ (h5.get 4 rfl) (en▸ec))) (ev_var rfl) (sZ (aa (a9 (2*d+21)) (fu hd.1)) (t8.2 rw hv h5 g5 ?_ up5 ?_ ?_ λS6 H6 es k' h6 g6 sp hl up ch=>dA<|dA<|rW (S:=S) (es:=Evt.works m k0::Evt.leave m::es) pl h6 ⟨g6,up,sp.ev▸cq i5.nm (x9 sp.nm),sp.qu▸i5.qk,sp.qu▸i5.lv,sp.qu▸i5.lq⟩ (sp.ev.trans ((congrArg (·++es) (aj ..)).trans (aj ..))) sp.lt (ax (ax (aa hl bd))) ?_ rfl rfl hL hb q))
   ·exact cQ i3.gd.ll ja
   ·have cw:π.ch (au v)=some (au w)/\π.isW (au w)=some true:=vC (G:=λw _=>π.ch (au v)=some (au w)/\π.isW (au w)=some true) rw.rd.pt hv λk nm rl m s ps _ _ h6 h7 _ hp=>⟨(h7 _).mpr ⟨v,hp,rfl⟩,h6⟩
    exact dl (λz=>am (ai (hm.symm.trans (z▸cw.2)))) (A.iv.up _ _ cw.1 (en▸hh))
   ·refine (?_:(_++[Evt.leave m]).length+_<=_)
    rw [af,bt]
    exact hl3 (aa (ax (aC bd 1)) (by decide))
   ·haveI z:=ch (.leave m) (here S) en.symm (by rw [ep];exact(funext λ_=>gj h.pn).symm)
    rw [ep]at z
    rw [rQ (sp5.trans' sp (aI _) λ_ _=>rfl),a3]
    exact .work eq (.leave (hal.symm▸z))
end
theorem nE{H:AH}{α:Type}{f:α->V}{l:List α}(h:∀a,ro (f a)):rd H (.lst (l.map f))=some (.lst (l.map f)):=GL (kL h)
theorem iz{a b:Int}(hb:0<b):0<=a%b/\a%b<b:=⟨Int.emod_nonneg _ (CP hb),Int.emod_lt_of_pos _ hb⟩
section
variable {n:Nat}{H:AH}{Q:QE}{X:XE}
theorem zo{a b c:Int}(h:0<=a/\a<b)(hc:b<=1000000000+1+c)(hc':c<=1000000000)(h0:0<=c):LV (.tup [.str ['a','d','d'],.int (a-c)]):=.add ⟨jz h.1 (jz hc' (by simp+arith only)),jz h.2 (jz hc (by simp+arith only))⟩
theorem f13{z:Int}(q:∀v,LV v->Q v H):aJ PL (n+1) 12 [.int z] H Q X:=by
 refine cf Ga rfl (cZ (ev_p2 (ev_p2 (ev_var rfl) an (c9 (by decide))) an pz) (λh=>?_) λh=>?_)
 ·haveI h:=of_decide_eq_true h
  haveI h5:=(iz (a:=z) (b:=5) (by decide)).2
  exact ea1_2 (lN (P:=PL) (H:=H) (xs:=[.tup [.str ['f','a','u','l','t']],.tup [.str ['l','e','a','v','e']]]) (i:=z%5-3) (GQ h) (Int.sub_lt_sub_right h5 3)) λv hv e=>ev_ret (ev_p2 (aK rfl) (ev_p2 (ev_p2 (ev_var rfl) an (c9 (by decide))) an pT) e) (q v (dN hv (λe=>e▸.fault) λh=>in1 h▸.leave))
 ·refine ea1_2 (lN (P:=PL) (H:=H) (xs:=[.int (z/10%9-4),.int (z/10%2000000001-1000000000)]) (i:=if gf (.int (z%5)) (.int 2)then 1 else 0) ?_ ?_) λv hv e=>br (ev_p2 (ev_p2 (ev_p2 (ev_p2 (ev_p2 (ev_var rfl) an (c7 (by decide) (by decide))) an (c9 (by decide))) an pT) (ev_p2 (ev_p2 (ev_p2 (ev_var rfl) an (c7 (by decide) (by decide))) (aK rfl) (c9 (by decide))) (aK rfl) pT) (gH fM)) (cD (ev_p2 (ev_p2 (ev_var rfl) an (c9 (by decide))) an (fS dz dz)) Bd) e) (bW rfl) (ev_ret (ev_p2 an (ev_var rfl) (eR fM)) (q _ (dN hv (λe=>e▸zo (iz (by decide)) (by decide) (by decide) (by decide)) λh=>in1 h▸zo (iz (by decide)) (by decide) (by decide) (by decide))))
  ·cases gf (.int (z%5)) (.int 2)<;>decide
  ·cases gf (.int (z%5)) (.int 2)with
   |true=>exact(by decide:(1:Int)<2)
   |false=>exact(by decide:(0:Int)<2)
end
noncomputable def BH:List V->Nm
 |v::_=>v.txt.getD []
 |_=>[]
noncomputable def Kl(v:V):Bool:=BH (v.tpl.getD [])==['s','e','n','d']
noncomputable def Lj(v:V):Bool:=BH (v.tpl.getD [])==['w','o','r','k']
noncomputable def i0(r:Nm)(A:Ab)(v:V):Bool:=A.h r&&(A.h (au v)&&(!Lj v|| !(A.q (au v)).isEmpty))
theorem Al{r:Nm}{A:Ab}{v:V}(h:A.h r=false):i0 r A v=false:=by unfold i0;rw [h];rfl
theorem y8{r:Nm}{A:Ab}{v:V}(h:A.h (au v)=false):i0 r A v=false:=by unfold i0;rw [h,Bool.false_and,eM]
theorem xl{r:Nm}{A:Ab}{v:V}(h:A.h r=true)(h':A.h (au v)=true)(h2:(!Lj v|| !(A.q (au v)).isEmpty)=true):i0 r A v=true:=by unfold i0;rw [h,h',h2];rfl
inductive Dd(π:PI)(σ:Ad):V->Prop
 |send {m:Nm} {l:V}:π.isW m=some false->LV l->Dd π σ (.tup [.str ['s','e','n','d'],.str m,l])
 |work {m:Nm}:π.isW m=some false->Dd π σ (.tup [.str ['w','o','r','k'],.str m])
 |fail {m:Nm}:m∈σ.names->Dd π σ (.tup [.str ['f','a','i','l'],.str m])
section
variable {π:PI}{σ:Ad}{n:Nat}{S:Hst}{H:AH}{Q:QE}{X:XE}{m:Nm}
theorem C3{P:Prog}{C:Calls}{ρ:Fm}{K:KS}{R:QE}{ss:List St}{nm:Nm}{f:Nat}{a:Ex}{x:V}(h:Hs σ S H)(h0:ρ[0]? =some (some (.ref σ.i)))(hn:hk.contains nm=false)(ha:Ev P C ρ H X a x)(k:C f [.ref σ.i,x] H R X):a7 P C (.ret (.meth 0 f nm (.var 0) [a])::ss) ρ H K R X:=
 ev_var (P:=P) (C:=C) (X:=X) h0 (λv H₁=>e9 H₁ 0 nm v=true/\fR P C [a] ρ H₁ (λvs H'=>C f (v::vs) H' R X) X) ⟨iP h hn,ha _ k⟩
theorem HD{P:Prog}{C:Calls}{ρ:Fm}{K:KS}{R:QE}{ss:List St}{nm:Nm}{f:Nat}{a b:Ex}{x y:V}(h:Hs σ S H)(h0:ρ[0]? =some (some (.ref σ.i)))(hn:hk.contains nm=false)(ha:Ev P C ρ H X a x)(hb:Ev P C ρ H X b y)(k:C f [.ref σ.i,x,y] H R X):a7 P C (.ret (.meth 0 f nm (.var 0) [a,b])::ss) ρ H K R X:=
 ev_var (P:=P) (C:=C) (X:=X) h0 (λv H₁=>e9 H₁ 0 nm v=true/\fR P C [a,b] ρ H₁ (λvs H'=>C f (v::vs) H' R X) X) ⟨iP h hn,ha _ (hb _ k)⟩
theorem t4{P:Prog}{C:Calls}{ρ:Fm}{K:KS}{R:QE}{ss body:List St}{cls:Nat}(h:a7 P C body ρ H (λρ' H'=>a7 P C ss ρ' H' K R X) R (λc H'=>(P.sub c c&&P.sub c cls)=true/\R .none H')):a7 P C (.try_ body cls::ss) ρ H K R X:=h
theorem f22{v:V}(pl:Pl π σ)(A:At π σ S H)(dd:Dd π σ v)(hL:S.letters<=109)(hb:S.ev.length+8000<=900000)(q0:i0 (au σ.plan) (jq S) v=false->Q .none H)
  (qs:i0 (au σ.plan) (jq S) v=true->Kl v=true->∀S' H',At π σ S' H'->S'.letters<=S.letters+1->S'.ev.length<=S.ev.length+8000->De π σ.names (jq S) v (jq S')->Q (ni S'.letters) H')
  (qh:i0 (au σ.plan) (jq S) v=true->Kl v=false->MH π σ S v 8000 Q):aJ PL (n+35) 22 [.ref σ.i,v] H Q X:=by
 haveI hL':=aa hL (by decide:109<=110)
 cases dd with
 |send hm lv=>exact cf tV rfl (t4 (dy (aK rfl) (HD A.hs rfl rfl (aK rfl) (aK rfl) (f40 pl A hm lv hL hb (λz=>⟨rfl,q0 (y8 z)⟩) (λz=>⟨rfl,q0 (Al z)⟩) λz y S' H' a b c e=>qs (xl z y rfl) rfl S' H' a b c (e▸.send)))))
 |@work m hm=>exact cf tV rfl (t4 (bJ (aK rfl) (dy (aK rfl) (C3 A.hs rfl rfl (aK rfl) (f41 pl A hm hL' hb (λz=>⟨rfl,q0 (y8 z)⟩) (λz=>⟨rfl,q0 (by
   unfold i0
   rw [show(jq S).q (au (.tup [.str ['w','o','r','k'],.str m]))=[]from z]
   exact(congrArg ((jq S).h _&&·) (eM _)).trans (eM _))⟩) (λz=>⟨rfl,q0 (Al z)⟩) λz y w=>qh (xl z y (by
   cases e:(jq S).q (au (.tup [.str ['w','o','r','k'],.str m]))with
   |nil=>exact absurd e w
   |cons _ _=>rfl)) rfl)))))
 |fail hm=>exact cf tV rfl (t4 (bJ (aK rfl) (bJ (aK rfl) (C3 A.hs rfl rfl (aK rfl) (f42 pl A hm hL' hb (λz=>⟨rfl,q0 (y8 z)⟩) (λz=>⟨rfl,q0 (Al z)⟩) λz y=>qh (xl z y rfl) rfl)))))
end
section
variable {π:PI}{σ:Ad}{n:Nat}{S:Hst}{H:AH}{Q:QE}{X:XE}
theorem xZ{P:Prog}{l:List Nm}{z:Int}(h:l≠[]):∃w,w∈l/\aY P false .item [.lst (l.map V.str),.int (z%((l.map V.str).length:Int))] H=some (.str w,H):=by
 haveI hp:0<((l.map V.str).length:Int):=by
  rw [ah]
  exact cu.mpr (gE.mpr h)
 exact ea1_2 (lN (P:=P) (H:=H) (xs:=l.map V.str) (iz (a:=z) hp).1 (iz hp).2) λv hv e=>ea1_2 (aG.mp hv) λw hw ew=>⟨w,hw,ew▸e⟩
theorem Bk{l:List Nm}(h:l≠[]):0<((l.map V.str).length:Int):=by
 rw [ah]
 exact cu.mpr (gE.mpr h)
theorem mY{ρ:Fm}{C:Calls}{i j:Nat}{z:Int}{l:List Nm}(hi:ρ[i]? =some (some (.lst (l.map V.str))))(hj:ρ[j]? =some (some (.int z)))(h:l≠[]):∃w,w∈l/\Ev PL C ρ H X (.prim false .item [.var i,.prim false (.bop .mod) [.var j,.prim false .len [.var i]]]) (.str w):=
 (xZ h).imp λw q=>⟨q.1,ev_p2 (ev_var hi) (ev_p2 (ev_var hj) (cD (ev_var hi) mZ) (c9 (Bk h))) q.2⟩
theorem s9{l:List Nm}(h:(!gf (.lst (l.map V.str)) (.lst []))=true):l≠[]:=λe=>by
 subst e
 exact am h
theorem nG{P:Prog}{ρ:Fm}{C:Calls}{i:Nat}{z b:Int}(hi:ρ[i]? =some (some (.int z)))(hb:0<b):Ev P C ρ H X (.prim false (.bop .mod) [.var i,.cst (.int b)]) (.int (z%b)):=ev_p2 (ev_var hi) an (c9 hb)
theorem wV{a b c:V}:[a,b,c].length<=az:=show 3<=az by decide
theorem wQ{a:V}:[a].length<=az:=show 1<=az by decide
theorem qf{ρ:Fm}{z:Int}{w:V}(h4:ρ[4]? =some (some (.int z)))(h5:ρ[5]? =some (some w))(k:∀v,LV v->Q (.tup [.str ['s','e','n','d'],w,v]) H):cz PL (aJ PL (n+1)) (.prim false .mktup [.cst (.str ['s','e','n','d']),.var 5,(.call 12 [(.prim false (.bop .fdiv) [.var 4,.cst (.int 8)])])]) ρ H Q X:=
 C0 an (ev_var h5) (gO (ev_p2 (ev_var h4) an (c7 (by decide) (by decide))) (f13 λv lv=>hE (eR wV) (k v lv)))
theorem Ji{z:Int}{w:Nm}{ws hs bs:List Nm}{so:Option V}{K:KS}(hw:π.isW w=some false)(hh:∀m∈hs,m∈σ.names)(hb:∀m∈bs,π.isW m=some false)(hn:w∈σ.names)
  (q:∀ds:List V,ds.length<=2->(∀v∈ds,Dd π σ v)->Q (.lst ds) H):a7 PL (aJ PL (n+1)) (Er.body.drop 4) [some (.int z),some (.lst (ws.map V.str)),some (.lst (hs.map V.str)),some (.lst (bs.map V.str)),some (.int (z/10)),some (.str w),so] H K Q X:=by
 have q1:∀{v:V},Dd π σ v->Q (.lst [v]) H:=λd=>q _ (by decide:1<=2) (dk d)
 refine(?_:a7 PL _ [_,_,_,_,_] _ _ _ _ _)
 refine cZ (ev_p2 (nG rfl (by decide)) an jx) (λ_=>gJ (n8 (qf rfl rfl λv lv=>hE (gH wQ) (q1 (.send hw lv))))) λ_=>?_
 refine cZ (ev_p2 (nG rfl (by decide)) an jx) (λ_=>gJ (mI (qf rfl rfl λv lv=>ev_p2 an (ev_var rfl) (eR fM) _ (hE (gH fM) (q _ (aI _) (eJ (.send hw lv) (dk (.work hw)))))))) λ_=>?_
 refine cZ (b8 (ev_p2 (nG rfl (by decide)) an jx) λ_=>ev_p2 (ev_var rfl) (aK rfl) (lO (nE λ_=>trivial) jG)) (λhc=>ea1_2 (mY (i:=3) (j:=4) (z:=z/10) rfl rfl (s9 (ay.mp hc).2)) λb hb0 eb=>ev_ret (cD (ev_p2 an eb (eR fM)) (gH wQ)) (q1 (.work (hb b hb0)))) λ_=>?_
 refine cZ (b8 (ev_p2 (nG rfl (by decide)) an (fS dz dz)) λ_=>ev_p2 (ev_var rfl) (aK rfl) (lO (nE λ_=>trivial) jG)) (λhc=>ea1_2 (mY (i:=2) (j:=4) (z:=z/10) rfl rfl (s9 (ay.mp hc).2)) λb hb0 eb=>ev_ret (cD (ev_p2 an eb (eR fM)) (gH wQ)) (q1 (.fail (hh b hb0)))) λ_=>?_
 refine gJ (mI (C0 (aK rfl) (aK rfl) (n8 (qf rfl rfl λv lv=>hE (gH wQ) (hE (gH wV) ((ev_p2 (ev_p2 (ev_var rfl) an (c7 (by decide) (by decide))) an (c9 (by decide))) _ ?_))))))
 exact ea1_2 (lN (P:=PL) (H:=H) (xs:=[.lst [.tup [.str ['w','o','r','k'],.str w]],.lst [.tup [.str ['f','a','i','l'],.str w]],.lst [.tup [.str ['s','e','n','d'],.str w,v]]]) (iz (a:=z/10/5) (b:=3) (by decide)).1 (iz (by decide)).2) λx hx e=>hE e (dN hx (λe=>e▸q1 (.work hw)) λhx=>dN hx (λe=>e▸q1 (.fail hn)) λhx=>in1 hx▸q1 (.send hw lv))
theorem f23{z:Int}{ws hs bs:List Nm}(hw:∀w∈ws,π.isW w=some false)(hws:ws≠[])(hwl:ws.length<=az)(hh:∀m∈hs,m∈σ.names)(hb:∀m∈bs,m∈ws)(hn:∀m,π.isW m=some false->m∈σ.names)
  (q:∀ds:List V,ds.length<=2->(∀v∈ds,Dd π σ v)->Q (.lst ds) H):aJ PL (n+2) 23 [.int z,.lst (ws.map V.str),.lst (hs.map V.str),.lst (bs.map V.str)] H Q X:=by
 refine cf Ff rfl (br (ev_p2 (ev_var rfl) an (c7 (by decide) (by decide))) (bW rfl) (ea1_2 (mY (i:=1) (j:=4) (z:=z/10) rfl rfl hws) λw hw0 ew=>br ew (bW rfl) (br (ip (l:=ws) (f:=V.str) (g:=V.str) (ev_var rfl) rfl hwl (λ_ _=>ev_p2 (ev_var rfl) (ev_var rfl) (zG rfl λ_=>trivial)) λ_ _ _=>ev_var rfl) (bW rfl) ?_)))
 refine cZ (b8 (ev_p2 (ev_var rfl) (aK rfl) (lO (nE λ_=>trivial) jG)) λ_=>ev_p2 (nG rfl (by decide)) an jx) (λhc=>ea1_2 (mY (i:=6) (j:=4) (z:=z/10) rfl rfl (s9 (ay.mp hc).1)) λw hw1 ew=>haveI hw1:=(bU.mp hw1).1;br ew (bW rfl) (Ji (hw w hw1) hh (λm hm=>hw m (hb m hm)) (hn w (hw w hw1)) q)) λ_=>Ji (hw w hw0) hh (λm hm=>hw m (hb m hm)) (hn w (hw w hw0)) q
end
section
variable {H:AH}{Q:QE}{X:XE}
theorem ph{α β:Type}{f:α->β}{l:List α}{a b:Nat}:bM (l.map f) a b=(bM l a b).map f:=by
 unfold bM
 rw [<-List.map_take,<-on]
end
section
variable {π:PI}{n:Nat}{H:AH}{Q:QE}{X:XE}
theorem G6{i:Int}(q:Q (.bool true) H):aJ PL (n+1) 10 [.int i] H Q X:=cf Fi rfl (ev_ret (aK rfl) q)
end
section
variable {P:Prog}{C:Calls}{ρ:Fm}{H:AH}{K:KS}{R:QE}{X:XE}{ss:List St}{e a b:Ex}{x y:V}{n:Nm}
theorem CF{i j:Nat}{H':AH}(hi:ρ[i]? =some (some (.ref j)))(he:Ev P C ρ H X e (.str n))(eq:d7 (.ref j) (.str n) x H=some H')(k:a7 P C ss ρ H' K R X):a7 P C (.setItem (.var i) e (.cst x)::ss) ρ H K R X:=gM (an (P:=P) (C:=C) (X:=X) _ (ev_var (P:=P) (C:=C) (X:=X) hi _ (he _ (by rw [eq];exact k))))
end
section
variable {H:AH}{n:Nm}
theorem CN{i:Nat}{l:List Nat}(h:H[i]? =some (.list (l.map ni))):rd H (.ref i)=some (.lst (l.map ni)):=by
 haveI q:=eX (kL (f:=ni) (l:=l) λ_=>trivial)
 refine(?_:(H[i]?.bind O.lst).bind _=_)
 rw [h]
 exact if_pos (kM q.1 (aa (ao q.2) (by decide)))
theorem nb{α:Type}{x:α}{l:AL α}(h:∀p∈l,p.1≠n):cY n x l=l++[(n,x)]:=by
 induction l with
 |nil=>rfl
 |cons q l ih=>
  refine(?_:(if n=q.1 then(q.1,x)::l else q::cY n x l)=_)
  rw [if_neg (h q (.head _)).symm,ih λp hp=>h p (.tail _ hp)];rfl
end
section
variable {P:Prog}{C:Calls}{ρ:Fm}{H:AH}{Q:QE}{X:XE}{a b c:Ex}{x y z:V}
end
theorem fV{k:Nat}:∀{v:V},(io k v).map au=nms k v:=by
 induction k with
 |zero=>exact rfl
 |succ k ih=>
  intro v
  refine(?_:au v::((kids v).flatMap (io k)).map au=au v::(kids v).flatMap (nms k))
  rw [sQ]
  exact congrArg (au v::·) (congrArg (λf=>List.flatMap f (kids v)) (funext λ_=>ih))
theorem y7{P:Prog}{C:Calls}{ρ:Fm}{H:AH}{R:QE}{X:XE}{a b:Ex}{x:V}{t:Mt}{mu:Bool}{p:Prim}(ho:Ev P C ρ H X a x)(ht:kF H x t=true)(k:cz P C b ρ H (λy H'=>g7 (aY P mu p [x,y] H') R) X):cz P C (.mcall t mu p a [b]) ρ H R X:=ho _ ⟨ht,k⟩
section
variable {π:PI}{n:Nat}{H:AH}{Q:QE}{X:XE}
theorem wD{P:Prog}{i j:Nat}{vs ws:List V}(h:H[i]? =some (.list vs))(h':H[j]? =some (.list ws))(hl:vs.length+ws.length<=az):aY P false .extend [.ref i,.ref j] H=some (.none,H.set i (.list (vs++ws))):=by
 show((H[i]?.bind O.lst).bind λvs=>some (i,vs)).bind _=_
 rw [h]
 show(H[j]?.bind O.lst).bind _=_
 rw [h']
 exact if_pos hl
def Kp(H H':AH):Prop:=H.length<=H'.length/\∀a,a<H.length->H'[a]? =H[a]?
theorem Kp.refl:Kp H H:=⟨aI _,λ_ _=>rfl⟩
theorem Kp.trans{H₁ H₂:AH}(a:Kp H H₁)(b:Kp H₁ H₂):Kp H H₂:=⟨aa a.1 b.1,λi h=>(b.2 i (bk h a.1)).trans (a.2 i h)⟩
theorem Kp.new{o:O}:Kp H (H++[o]):=⟨dQ,λ_ h=>bl h⟩
theorem Kp.set{H₁:AH}{r:Nat}{o:O}(a:Kp H H₁)(h:H.length<=r):Kp H (H₁.set r o):=⟨aa a.1 (ao aR.symm),λi hi=>(bp (gm (bk hi h))).trans (a.2 i hi)⟩
theorem f7{k:Nat}{v:V}(hP:Pt π k v):∀{n:Nat} {H:AH} {Q:QE} {X:XE},(io k v).length<=60->(∀r H',Kp H H'->H.length<=r->H'[r]? =some (.list (io k v))->Q (.ref r) H')->aJ PL (n+k) 6 [v] H Q X:=by
 induction hP with
 |@wk k nm md=>exact λ{n H Q X} _ q=>cf Dm rfl (dT (nP (ev_var rfl _ (hE (ml wQ) ⟨bW rfl,bJ (aK rfl) (ev_ret (ev_var rfl) (q _ _ Kp.new (aI _) dS))⟩))))
 |@wd k nm rl m s ps _ _ _ _ h5 _ _ _ ih=>
  intro n H Q X hl q
  refine cf Dm rfl (dT (nP (ev_var rfl _ (hE (ml wQ) ⟨bW rfl,dy (aK rfl) ?_⟩))))
  refine pZ (λits ρ H'=>∃o dn,ρ=[some (jZ nm rl m s ps),some (.ref H.length),o]/\dn++its=ps/\Kp H H'/\H'[H.length]? =some (.list (jZ nm rl m s ps::dn.flatMap (io k)))) (v:=.tup ps) (items:=ps) (aK rfl) (λ_ _ _ _=>rfl) (aa h5.2 (by decide)) ⟨none,[],rfl,rfl,Kp.new,dS⟩ (λx xs ρ' H' hI K' hK=>gP hI λo dn e ed kp hg=>?_) λρ' H' hI=>gP hI λo dn e ed kp hg=>?_
  ·subst e
   haveI hm:x∈ps:=ed▸ak dn (.head _)
   haveI e2:(dn++[x]).flatMap (io k)=dn.flatMap (io k)++io k x:=by rw [bo,b0,iD,aA]
   have e3:(jZ nm rl m s ps::dn.flatMap (io k)).length+(io k x).length<=60:=by
    refine aa ?_ hl
    refine(?_:_<=(ps.flatMap (io k)).length+1)
    rw [<-ed,bo,b0,af,af,bK,bD]
    exact ax (aC (aq _ _) _)
   haveI hr:H.length<H'.length:=(ae.mp hg).1
   refine st_expr (y7 (ev_var rfl) (d8 hg) (gO (ev_var rfl) (ih x hm (aa (bw _ _) e3) λr H'' kp' hr' hg'=>hE (wD ((kp'.2 _ hr).trans hg) hg' (aa e3 (by decide))) (hK _ _ ⟨_,dn++[x],rfl,(aj dn [x] xs).trans ed,(kp.trans kp').set (aI _),?_⟩))))
   rw [bS (bk hr kp'.1),e2];rfl
  ·subst e
   exact ev_ret (ev_var rfl) (q _ _ kp (aI _) ((aA dn).symm.trans ed▸hg))
end
theorem nS{P:Prog}{C:Calls}{ρ:Fm}{H:AH}{K:KS}{R:QE}{X:XE}{ss body:List St}{c:Ex}{N:Nat}(Inv:Nat->Fm->AH->Prop)
  (step:∀N ρ' H',Inv N ρ' H'->∃t,Ev P C ρ' H' (λ_ _=>False) c (.bool t)/\(t=true->∀K':KS,(∀ρ'' H'' N',N'<N->Inv N' ρ'' H''->K' ρ'' H'')->a7 P C body ρ' H' K' R (λ_ _=>False))/\(t=false->a7 P C ss ρ' H' K R X))
  (h0:Inv N ρ H):a7 P C (.while_ c body::ss) ρ H K R X:=by
 refine zp (N+1) ?_
 haveI g:∀M N ρ H,N<M->Inv N ρ H->whileL (λρ' H' K₁ K₂=>cz P C c ρ' H' (λv H''=>mK (fk v) λt=>if t then a7 P C body ρ' H'' K₁ R (λ_ _=>False)else K₂ ρ' H'') (λ_ _=>False)) M ρ H (λρ' H'=>a7 P C ss ρ' H' K R X):=by
  intro M
  induction M with
  |zero=>exact λN _ _ h=>absurd h (Nat.not_lt_zero N)
  |succ M ih=>
   intro N ρ H hN hI
   refine dm (step N ρ H hI) λt ht yes no=>ht _ ?_
   cases t with
   |true=>exact yes rfl _ λρ'' H'' N' hn hI'=>ih N' ρ'' H'' (bk hn (du hN)) hI'
   |false=>exact no rfl
 exact g _ _ _ _ (cW N) h0
section
variable {π:PI}{n:Nat}{H:AH}{Q:QE}{X:XE}
theorem in3{P:Prog}{md:Nm}(h:md∈jY):aY P false (.cop .in_) [.str md,.tup [.str ['a','l','w','a','y','s'],.str ['f','a','u','l','t','e','d'],.str ['n','e','v','e','r']]] H=some (.bool true,H):=
 dN h (λe=>by subst e;rfl) λh=>dN h (λe=>by subst e;rfl) λh=>by rw [in1 h];rfl
theorem FZ{P:Prog}{rl:Nm}(h:rl∈fW):aY P false (.cop .notin) [.str rl,.tup [.str ['o','n','e'],.str ['r','e','s','t'],.str ['a','l','l']]] H=some (.bool false,H):=
 dN h (λe=>by subst e;rfl) λh=>dN h (λe=>by subst e;rfl) λh=>by rw [in1 h];rfl
theorem f4w{nm md:Nm}(h1:ny nm)(h2:md∈jY)(q:Q (.bool true) H):aJ PL (n+2) 3 [sS nm md] H Q X:=
 cf Dh rfl (bJ (aK rfl) (ev_ret (b8 (s:=true) (t:=true) (cT (aK rfl) λQ q=>f2 h1 q) λ_=>ev_p2 (aK rfl) (aK rfl) (in3 h2)) q))
theorem f4d{nm rl:Nm}{m s:Int}{ps:List V}(q:Q (.bool false) H):aJ PL (n+2) 3 [jZ nm rl m s ps] H Q X:=cf Dh rfl (dy (aK rfl) (ev_ret an q))
theorem f5w{nm md:Nm}(q:Q (.bool false) H):aJ PL (n+2) 4 [sS nm md] H Q X:=cf C9 rfl (dy (aK rfl) (ev_ret an q))
theorem f5d{nm rl:Nm}{m s:Int}{ps:List V}(h1:ny nm)(h2:rl∈fW)(h3:0<=m/\m<=1000000000)(h4:1<=s/\s<=1000000000)(h5:1<=ps.length/\ps.length<=8)(q:Q (.bool true) H):aJ PL (n+2) 4 [jZ nm rl m s ps] H Q X:=
 cf C9 rfl (bJ (aK rfl) (bJ (g9 (s:=false) (t:=false) (cN (s:=true) (cT (aK rfl) λQ q=>f2 h1 q)) λ_=>ev_p2 (aK rfl) (aK rfl) (FZ h2)) (bJ (g9 (s:=false) (t:=false) (cN (s:=true) (jc (aK rfl) an an λQ q=>f1 h3 q)) λ_=>cN (s:=true) (jc (aK rfl) an an λQ q=>f1 h4 q)) (ev_ret (b8 (s:=true) (t:=true) (aK rfl) λ_=>ev_eq (yh (i:=1) (j:=ps.length) (k:=8) an (aK rfl) an) (by
  rw [decide_eq_true (show(1:Int)<=ps.length from ca.mpr h5.1),decide_eq_true (show(ps.length:Int)<=8 from ca.mpr h5.2)];rfl)) q))))
noncomputable def wU(v:V):Bool:=!(kids v).isEmpty
theorem CC{k:Nat}{v:V}(hP:Pt π k v):(∀{n:Nat} {H:AH} {Q:QE} {X:XE},Q (.bool !(wU v)) H->aJ PL (n+2) 3 [v] H Q X)/\∀{n:Nat} {H:AH} {Q:QE} {X:XE},Q (.bool (wU v)) H->aJ PL (n+2) 4 [v] H Q X:=by
 induction hP with
 |wk h1 h2=>exact⟨λq=>f4w h1 h2 q,λq=>f5w q⟩
 |@wd _ _ _ _ _ ps h1 h2 h3 h4 h5=>
  cases ps with
  |nil=>exact absurd h5.1 (dI 0)
  |cons p ps=>exact⟨λq=>f4d q,λq=>f5d h1 h2 h3 h4 h5 q⟩
end
abbrev Td:=Nat×Nat×V
noncomputable def vS(x:Td):V:=.tup [x.2.2,.int x.2.1]
abbrev wM(x:Td):List Nm:=nms x.1 x.2.2
section
variable {π:PI}{n:Nat}{H:AH}{Q:QE}{X:XE}
theorem tX{k:Nat}{v:V}(hP:Pt π k v):1<=k:=by
 induction hP with
 |wk=>exact ax (aQ _)
 |wd=>exact ax (aQ _)
theorem s5{k:Nat}{v:V}(hP:Pt π k v):∀p∈kids v,Pt π (k-1) p:=by
 induction hP with
 |wk=>exact qY
 |wd _ _ _ _ _ _ _ h8=>exact h8
theorem LM{P:Prog}{k:Nat}{v:V}(hP:Pt π k v)(h:wU v=true):aY P false .item [v,.int 5] H=some (.tup (kids v),H):=by
 induction hP with
 |wk=>exact absurd h am
 |wd=>exact rfl
theorem p3{k:Nat}{v:V}(hP:Pt π k v):(kids v).length<=8:=by
 induction hP with
 |wk=>exact aQ _
 |wd _ _ _ _ h5=>exact h5.2
theorem Co{P:Prog}{i:Nat}{ks:List Nm}{vs:List V}(h:H[i]? =some (.dict ks vs)):aY P false .len [.ref i] H=some (.int ks.length,H):=by
 show(Cm _ (H[i]?.bind O.lst)).map _=_
 rw [h]
 show((H[i]?.bind O.dct).map _).map _=_
 rw [h];rfl
theorem tJ{P:Prog}{i:Nat}{vs ws:List V}(h:H[i]? =some (.list vs))(hl:vs.length+ws.length<=az):aY P false .extend [.ref i,.lst ws] H=some (.none,H.set i (.list (vs++ws))):=by
 show((H[i]?.bind O.lst).bind λvs=>some (i,vs)).bind _=_
 rw [h]
 exact if_pos hl
theorem Fk{P:Prog}{C:Calls}{ρ:Fm}{a:Ex}{x:V}{t:Mt}{mu:Bool}{p:Prim}(ho:Ev P C ρ H X a x)(ht:kF H x t=true)(k:g7 (aY P mu p [x] H) Q):cz P C (.mcall t mu p a []) ρ H Q X:=ho _ ⟨ht,k⟩
theorem j3{P:Prog}{C:Calls}{ρ:Fm}(q:Q (.ref H.length) (H++[.dict [] []])):cz P C (.prim true (.mkdict []) []) ρ H Q X:=show g7 (aY P true (.mkdict []) [] H) Q from hE rfl q
def IP(π:PI)(v:V)(H:AH)(N:Nat)(ρ:Fm)(H':AH):Prop:=
 ∃(td:List Td) (dn:AL Unit) (o3 o4:Option V),ρ=[some v,some (.ref H.length),some (.ref (H.length+1)),o3,o4]/\(Kp H H'/\H'.length=H.length+2)/\H'[H.length]? =some (.list (td.map vS))/\H'[H.length+1]? =some (dO (λ_=>.bool true) dn)/\(dn.map (·.1)++td.flatMap wM).Nodup/\((dn.map (·.1)++td.flatMap wM).length<=60/\(td.flatMap wM).length=N)/\∀x∈td,Pt π x.1 x.2.2/\x.1+x.2.1<=7
theorem Fq{td:List Td}(h:∀x∈td,Pt π x.1 x.2.2/\x.1+x.2.1<=7):td.length<=(td.flatMap wM).length:=by
 induction td with
 |nil=>exact aI _
 |cons x td ih=>
  rw [b0,af,bK,ce]
  refine bP ?_ (ih λy hy=>h y (.tail _ hy))
  rw [show wM x=_ from lz (h x (.head _)).1]
  exact ax (aQ _)
theorem EU{H H':AH}(k:Kp H H')(h:H'.length=H.length+2):∃o₁ o₂,H'=H++[o₁,o₂]:=by
 have e:H'=H++H'.drop H.length:=by
  refine fi λa=>?_
  by_cases ha:a<H.length
  ·rw [bl ha];exact k.2 a ha
  ·rw [cP (dD ha),Ke,ji (dD ha)]
 have l:(H'.drop H.length).length=2:=by rw [gr,h,dM]
 cases hD:H'.drop H.length with
 |nil=>rw [hD]at l;exact absurd l (by decide)
 |cons o₁ D=>
  rw [hD]at l e
  cases D with
  |nil=>exact absurd l (by decide:¬1=2)
  |cons o₂ D=>exact⟨o₁,o₂,e.trans (congrArg (λt=>H++o₁::o₂::t) (AI.mp (ib (ib l))))⟩
theorem f6{k:Nat}{v:V}(hP:Pt π k v)(hk:k<=7)(hw:wU v=true)(nd:(nms k v).Nodup)(hl:(nms k v).length<=60)(q:∀o₁ o₂,Q (.bool true) (H++[o₁,o₂])):aJ PL (n+3) 5 [v] H Q X:=by
 haveI e0:[(k,0,v)].flatMap wM=nms k v:=aA _
 refine cf HV rfl (bJ (cN (s:=true) (cT (ev_var rfl) λQ q=>(CC hP).2 (by rw [hw];exact q))) (dT (nP (ev_p2 (ev_var rfl) an (eR fM) _ (hE (ml wQ) ⟨bW rfl,dT (j3 ⟨bW rfl,?_⟩)⟩)))))
 haveI l1:(H++[O.list [V.tup [v,.int 0]]]).length=H.length+1:=af
 rw [l1]
 refine nS (IP π v H) (N:=(nms k v).length) (λN ρ' H' hI=>zr hI λtd dn o3 o4 e kp ht hd hn hN hx=>?_) ⟨[(k,0,v)],[],none,none,rfl,⟨Kp.new.trans Kp.new,by rw [af,l1];rfl⟩,dt dS,l1▸dS,e0.symm▸nd,⟨e0.symm▸hl,congrArg dH e0⟩,dk ⟨hP,hk⟩⟩
 subst e
 refine⟨_,ev_p2 (cD (ev_var rfl) (gL ht)) an pz,λhc K' hK=>?_,λ_=>ev_ret an (q9 (EU kp.1 kp.2) λo₁ o₂ e=>e▸q o₁ o₂)⟩
 haveI hc:=of_decide_eq_true hc
 rcases List.eq_nil_or_concat td with e|⟨ini,x,e⟩
 ·subst e;exact absurd hc (by decide)
 haveI e:td=ini++[x]:=e.trans (List.concat_eq_append ..)
 subst e
 have hP:=hx x (ak _ (.head _))
 have f1:(ini++[x]).flatMap wM=ini.flatMap wM++(au x.2.2::(kids x.2.2).flatMap (nms (x.1-1))):=by rw [bo,b0,iD,aA,show wM x=_ from lz hP.1]
 haveI f2:((kids x.2.2).map λc=>((x.1-1,x.2.1+1,c):Td)).flatMap wM=(kids x.2.2).flatMap (nms (x.1-1)):=gw ..
 haveI f3:∀td',td'=(kids x.2.2).map (λc=>((x.1-1,x.2.1+1,c):Td))->((dn++[(au x.2.2,())]).map (·.1)++(ini++td').flatMap wM).Perm (dn.map (·.1)++(ini++[x]).flatMap wM):=λtd' e=>by
  rw [e,f1,bo,f2,aB,aj]
  exact List.Perm.append_left _ (L3.symm:(au x.2.2::(ini.flatMap wM++(kids x.2.2).flatMap (nms (x.1-1)))).Perm _)
 rw [aB]at ht
 haveI hlt:H.length<H'.length:=(ae.mp ht).1
 haveI hlt':H.length+1<H'.length:=(ae.mp hd).1
 have h60:(ini.map vS).length+1<=60:=by
  haveI:=aa (Fq hx) (aa (bw _ _) (aa (ao af.symm) hN.1))
  rw [af]at this
  rw [ah];exact this
 have hin:au x.2.2∉dn.map (·.1):=λz=>(a8.mp hn).2.2 _ z (au x.2.2) (f1▸ak _ (.head _)) rfl
 have hdl:dn.length+1<=60:=by
  haveI:=hN.1
  rw [f1,af,af,ah,bK]at this
  exact aa (aC (aa (ax (aQ _)) (bw _ _)) _) this
 haveI ha:x.2.1<=6:=fK (aa (ao (ce x.2.1 1)) (aa (aN (tX hP.1) _) hP.2))
 have fin:∀H3,(Kp H H3/\H3.length=H.length+2)->H3[H.length]? =some (.list (ini.map vS++(kids x.2.2).map λc=>vS (x.1-1,x.2.1+1,c)))->H3[H.length+1]? =some (dO (λ_=>.bool true) (dn++[(au x.2.2,())]))->K' [some v,some (.ref H.length),some (.ref (H.length+1)),some x.2.2,some (.int x.2.1)] H3:=λH3 k3 t3 d3=>by
  refine hK _ H3 _ ?_ ⟨ini++(kids x.2.2).map (λc=>((x.1-1,x.2.1+1,c):Td)),dn++[(au x.2.2,())],_,_,rfl,k3,?_,d3,(f3 _ rfl).nodup_iff.mpr hn,⟨(f3 _ rfl).length_eq▸hN.1,rfl⟩,cq (λy hy=>hx y (av _ hy)) λy hy=>ea1_2 (aG.mp hy) λc hc e=>e▸⟨s5 hP.1 c hc,?_⟩⟩
  ·rw [<-hN.2,f1,bo,f2,af,af]
   exact cW _
  ·rw [t3,aB,bB];rfl
  ·exact aa (ao ((bD (x.1-1) x.2.1 1).trans (congrArg (·+x.2.1) (fG (tX hP.1))))) hP.2
 haveI ht1:(H'.set H.length (.list (ini.map vS)))[H.length]? =some (.list (ini.map vS)):=bS hlt
 haveI hd1:(H'.set H.length (.list (ini.map vS)))[H.length+1]? =some (dO (λ_=>.bool true) dn):=(bp (d9 (cW _))).trans hd
 haveI e2:=jJ (n:=au x.2.2) (x:=()) (val:=λ_=>V.bool true) hd1 (aa (a9 _) (aa hdl (by decide)))
 rw [nb λp hp z=>hin (aG.mpr ⟨p,hp,z⟩)]at e2
 haveI ht2:((H'.set H.length (.list (ini.map vS))).set (H.length+1) (dO (λ_=>.bool true) (dn++[(au x.2.2,())])))[H.length]? =some (.list (ini.map vS)):=(bp (gm (cW _))).trans ht1
 haveI hd2:((H'.set H.length (.list (ini.map vS))).set (H.length+1) (dO (λ_=>.bool true) (dn++[(au x.2.2,())])))[H.length+1]? =some (dO (λ_=>.bool true) (dn++[(au x.2.2,())])):=bS (aR.symm▸hlt')
 haveI k2:Kp H ((H'.set H.length (.list (ini.map vS))).set (H.length+1) (dO (λ_=>.bool true) (dn++[(au x.2.2,())]))):=(kp.1.set (aI _)).set (a9 _)
 haveI l2:((H'.set H.length (.list (ini.map vS))).set (H.length+1) (dO (λ_=>.bool true) (dn++[(au x.2.2,())]))).length=H.length+2:=aR.trans (aR.trans kp.2)
 refine vn (Fk (ev_var rfl) (d8 ht) (hE (Gs ht (aa h60 (by decide))) (?_:a7 PL (aJ PL (n+2)) [_,_,_,_] [some v,some (.ref H.length),some (.ref (H.length+1)),some x.2.2,some (.int x.2.1)] _ _ Q _)))
 refine bJ (g9 (s:=false) (t:=false) (ev_eq (ev_p2 (ev_var rfl) an pz) (congrArg V.bool (decide_eq_false (dB.mpr (ca.mpr ha))))) λ_=>ev_eq (b8 (cN (cT (ev_var rfl) λQ q=>(CC hP.1).1 q)) λ_=>cN (cT (ev_var rfl) λQ q=>(CC hP.1).2 q)) (by cases wU x.2.2<;>rfl)) (bJ (g9 (s:=false) (t:=false) (ev_eq (ev_p2 (kz hP.1 rfl) (ev_var rfl) (t9 hd1)) (congrArg V.bool (cK.mpr λz=>hin (aX.mp z)))) λ_=>ev_eq (ev_p2 (cD (ev_var rfl) (Co hd1)) an (fS dz dz)) ?_) (CF rfl (kz hP.1 rfl) e2 (cZ (cT (ev_var rfl) λQ q=>(CC hP.1).2 q) (λhb=>?_) λhb=>?_)))
 ·refine congrArg V.bool (decide_eq_false λz:((dn.map (·.1)).length:Int)=60=>?_)
  rw [ah]at z
  exact(by decide:¬60+1<=60) ((iK z:dn.length=60)▸hdl)
 ·refine st_expr (y7 (ev_var rfl) (d8 ht2) (nL (l:=kids x.2.2) (f:=λc=>c) (g:=λc=>vS (x.1-1,x.2.1+1,c)) (ev_p2 (ev_var rfl) an (LM hP.1 hb)) (congrArg some (lW _).symm) (aa (p3 hP.1) (by decide)) (λc _=>ev_p2 (ev_var rfl) (ev_p2 (ev_var rfl) an dR) (eR fM)) _ (hE (tJ ht2 ?_) (fin _ ⟨k2.set (aI _),aR.trans l2⟩ ?_ ?_))))
  ·rw [ah (as:=kids x.2.2)]
   exact aa (bP (aa (a9 _) h60) (p3 hP.1)) (by decide)
  ·exact bS (ae.mp ht2).1
  ·exact (bp (d9 (cW _))).trans hd2
 ·haveI ek:kids x.2.2=[]:=L4.mp (dc _▸hb)
  refine fin _ ⟨k2,l2⟩ ?_ hd2
  rw [ht2,ek]
  exact congrArg (λt=>some (O.list t)) (aA _).symm
end
section
variable {B Y:AH}{j:Nat}{o:O}
theorem pB:(B++Y)[B.length+j]? =Y[j]?:=by rw [cP (aq _ _),dM]
theorem Ib:(B++Y).set (B.length+j) o=B++Y.set j o:=by rw [mE _ _ (aq _ _),dM]
end
section
variable {P:Prog}{C:Calls}{ρ:Fm}{B Y:AH}{K:KS}{R:QE}{X:XE}{ss:List St}{nm:Nm}{e:Ex}{x:V}{ks:List Nm}{vs:List V}{o:O}
theorem ID(h0:Y[0]? =some (.ns ks vs))(h1:Y[1]? =some (.inst 0 B.length)):fO (B++Y) (.ref (B.length+1))=some (B.length,ks,vs):=by
 show((B++Y)[B.length+1]?.bind O.ins).bind _=_
 rw [pB,h1]
 show((B++Y)[B.length+0]?.bind O.nms).map _=_
 rw [pB,h0]
 rfl
theorem JY(h0:Y[0]? =some (.ns ks vs))(h1:Y[1]? =some (.inst 0 B.length))(hl:ks.length<=1000):iu (.ref (B.length+1)) nm x (B++Y)=some (B++Y.set 0 (.ns (dK nm x ks vs).1 (dK nm x ks vs).2)):=by
 show(fO (B++Y) (.ref (B.length+1))).bind _=_
 rw [ID h0 h1]
 show(if ks.length<=1000 then some ((B++Y).set (B.length+0) _)else none)=_
 rw [if_pos hl,Ib]
theorem Jv(hρ:ρ[0]? =some (some (.ref (B.length+1))))(he:Ev P C ρ (B++Y) X e x)(h0:Y[0]? =some (.ns ks vs))(h1:Y[1]? =some (.inst 0 B.length))(hl:ks.length<=1000)(k:a7 P C ss ρ (B++Y.set 0 (.ns (dK nm x ks vs).1 (dK nm x ks vs).2)) K R X):a7 P C (.setAttr (.var 0) nm e::ss) ρ (B++Y) K R X:=
 he _ (ev_var (P:=P) (C:=C) (X:=X) hρ _ (by rw [JY h0 h1 hl];exact k))
theorem kO(hρ:ρ[0]? =some (some (.ref (B.length+1))))(he:∀Q:QE,Q (.ref (B++Y).length) (B++Y++[o])->cz P C e ρ (B++Y) Q X)(h0:(Y++[o])[0]? =some (.ns ks vs))(h1:(Y++[o])[1]? =some (.inst 0 B.length))(hl:ks.length<=1000)(k:a7 P C ss ρ (B++(Y++[o]).set 0 (.ns (dK nm (.ref (B.length+Y.length)) ks vs).1 (dK nm (.ref (B.length+Y.length)) ks vs).2)) K R X):a7 P C (.setAttr (.var 0) nm e::ss) ρ (B++Y) K R X:=
 he _ (ev_var (P:=P) (C:=C) (X:=X) hρ _ (by rw [aj,af,JY h0 h1 hl];exact k))
theorem BU{H:AH}{a:Ex}{n:Nm}{Q:QE}(ha:Ev P C ρ H X a (.str n))(q:Q (.ref H.length) (H++[.dict [n] [.none]])):cz P C (.prim true .mkdict1 [a,.cst .none]) ρ H Q X:=ha _ (hE rfl q:g7 (aY P true .mkdict1 [.str n,.none] H) Q)
end
noncomputable def wX(b:Nat)(v:V):List V:=[v,.ref (b+4),.ref (b+5),.ref (b+6),.ref (b+7),.ref (b+8),.ref (b+9),.ref (b+10)]
noncomputable def objs(n:Nm):List O:=[.list [],.dict [] [],.dict [n] [.none],.dict [] [],.dict [] [],.dict [] [],.dict [] []]
noncomputable def yS(b:Nat)(v:V)(n:Nm)(o₁ o₂:O)(m:Nat):AH:=.ns (hk.take m) ((wX b v).take m)::.inst 0 b::o₁::o₂::(objs n).take (m-1)
theorem HA{π:PI}{C:Calls}{B:AH}{K:KS}{Q:QE}{X:XE}{k:Nat}{v:V}{o₁ o₂:O}(hP:Pt π k v)
  (w:a7 PL C (mR.body.drop 9) [some (.ref (B.length+1)),some v,none] (B++yS B.length v (au v) o₁ o₂ 8) K Q X) :
  a7 PL C (mR.body.drop 1) [some (.ref (B.length+1)),some v,none] (B++[.ns [] [],.inst 0 B.length,o₁,o₂]) K Q X:=
 Jv rfl (ev_var rfl) rfl rfl (aU rfl) (show a7 PL C (mR.body.drop 2) _ (B++yS B.length v (au v) o₁ o₂ 1) K Q X from kO rfl (λQ q=>jr q) rfl rfl (aU rfl) (show a7 PL C (mR.body.drop 3) _ (B++yS B.length v (au v) o₁ o₂ 2) K Q X from kO rfl (λQ q=>j3 q) rfl rfl (aU rfl) (show a7 PL C (mR.body.drop 4) _ (B++yS B.length v (au v) o₁ o₂ 3) K Q X from kO rfl (λQ q=>BU (kz hP rfl) q) rfl rfl (aU rfl) (show a7 PL C (mR.body.drop 5) _ (B++yS B.length v (au v) o₁ o₂ 4) K Q X from kO rfl (λQ q=>j3 q) rfl rfl (aU rfl) (show a7 PL C (mR.body.drop 6) _ (B++yS B.length v (au v) o₁ o₂ 5) K Q X from kO rfl (λQ q=>j3 q) rfl rfl (aU rfl) (show a7 PL C (mR.body.drop 7) _ (B++yS B.length v (au v) o₁ o₂ 6) K Q X from kO rfl (λQ q=>j3 q) rfl rfl (aU rfl) (kO rfl (λQ q=>j3 q) rfl rfl (aU rfl) w:a7 PL C (mR.body.drop 8) _ (B++yS B.length v (au v) o₁ o₂ 7) K Q X)))))))
structure Cl(B:AH)(L:List (Nat×O))(H:AH):Prop where
 nd:(L.map (·.1)).Nodup
 cell:∀p∈L,H[p.1]? =some p.2/\B.length<=p.1
 pre:∀a,a<B.length->H[a]? =B[a]?
section
variable {B H:AH}{L:List (Nat×O)}
theorem Cl.get(h:Cl B L H)(k:Nat){p:Nat×O}(hk:L[k]? =some p):H[p.1]? =some p.2:=(h.cell p (aM hk)).1
theorem Cl.set(h:Cl B L H)(k:Nat){a:Nat}{o o':O}(hk:L[k]? =some (a,o)):Cl B (L.set k (a,o')) (H.set a o'):=by
 have ha:=h.cell _ (aM hk)
 haveI hlt:a<H.length:=(ae.mp ha.1).1
 have hkl:k<L.length:=(ae.mp hk).1
 haveI hm:(L.set k (a,o')).map (·.1)=L.map (·.1):=by
  rw [CV]
  refine fi λj=>?_
  rw [fj]
  by_cases q:k=j
  ·subst q
   rw [if_pos rfl,aO,hk]
   exact if_pos (by rw [ah];exact hkl)
  ·rw [if_neg q]
 refine⟨hm▸h.nd,λp hp=>?_,λb hb=>(bp (gm (bk hb ha.2))).trans (h.pre b hb)⟩
 obtain⟨j,hj⟩:=cn hp
 rw [fj]at hj
 by_cases q:k=j
 ·subst q
  rw [if_pos rfl,if_pos hkl]at hj
  haveI hp:(a,o')=p:=ai hj
  subst hp
  exact⟨bS hlt,ha.2⟩
 ·rw [if_neg q]at hj
  haveI hp:=h.cell p (aM hj)
  refine⟨(bp λz=>?_).trans hp.1,hp.2⟩
  haveI h1:(L.map (·.1))[k]? =some a:=by rw [aO,hk];rfl
  haveI h2:(L.map (·.1))[j]? =some a:=by rw [aO,hj,z];rfl
  exact q ((ij (ae.mp h1).1 h.nd).mp (h1.trans h2.symm))
theorem Cl.lt(h:Cl B L H){p:Nat×O}(hp:p∈L):p.1<H.length:=(ae.mp (h.cell p hp).1).1
theorem Cl.new(h:Cl B L H)(o:O)(hb:B.length<=H.length):Cl B (L++[(H.length,o)]) (H++[o]):=by
 refine⟨?_,cq (λp hp=>⟨dt (h.cell p hp).1,(h.cell p hp).2⟩) (dk ⟨dS,hb⟩),λa ha=>(bl (bk ha hb)).trans (h.pre a ha)⟩
 rw [aB]
 refine a8.mpr ⟨h.nd,bg.mpr ⟨aZ,cR⟩,λa ha b hb=>?_⟩
 rw [in1 hb]
 exact ea1_2 (aG.mp ha) λp hp e=>e▸d9 (h.lt hp)
end
noncomputable def oB(x:V):V:=x
noncomputable def NL(b r:Nat)(v:V)(all:List V)(ns:List Nm)(pv ch:AL V)(qu:AL Nat):List (Nat×O):=
 [(b,.ns (hk.take 8) (wX b v)),(b+1,.inst 0 b),(b+4,.list (ns.map V.str)),(b+5,dO oB pv),(b+6,dO oB ch),(b+7,.dict [] []),(b+8,.dict [] []),(b+9,.dict [] []),(b+10,dO V.ref qu),(r,.list all)]++qu.map λp=>(p.2,.list [])
section
variable {P:Prog}{C:Calls}{ρ:Fm}{B H:AH}{X:XE}{r:Nat}{v x:V}{all:List V}{ns:List Nm}{pv ch:AL V}{qu:AL Nat}{nm:Nm}
theorem C8(g0:H[B.length]? =some (.ns (hk.take 8) (wX B.length v)))(g1:H[B.length+1]? =some (.inst 0 B.length)):fO H (.ref (B.length+1))=some (B.length,hk.take 8,wX B.length v):=by
 show(H[B.length+1]?.bind O.ins).bind _=_
 rw [g1]
 show(H[B.length]?.bind O.nms).map _=_
 rw [g0]
 rfl
theorem mj(g0:H[B.length]? =some (.ns (hk.take 8) (wX B.length v)))(g1:H[B.length+1]? =some (.inst 0 B.length))(h0:ρ[0]? =some (some (.ref (B.length+1))))(e:ft nm (hk.take 8) (wX B.length v)=some x):Ev P C ρ H X (r9 nm) x:=cD (ev_var h0) (by
 refine(?_:((fO H (.ref (B.length+1))).bind λq=>(ft nm q.2.1 q.2.2).map (·,H))=_)
 rw [C8 g0 g1]
 exact congrArg (bR (·,H)) e)
end
section
variable {π:PI}{n:Nat}{B H:AH}{Q:QE}{X:XE}{r:Nat}{v:V}{all:List V}{ns:List Nm}{pv ch:AL V}{qu:AL Nat}
noncomputable def wS(w:V)(ps:List V)(ch:AL V):AL V:=ps.foldl (λc p=>cY (au p) w c) ch
theorem uY{w:V}{ps:List V}:∀{ch:AL V},(wS w ps ch).length<=ch.length+ps.length:=by
 induction ps with
 |nil=>exact λ{ch}=>aI _
 |cons p ps ih=>exact λ{ch}=>aa ih (aa (aN jf _) (ao (by rw [bt,ce 1];rfl)))
theorem LY{nm md:Nm}(h:Cl B (NL B.length r v all ns pv ch qu) H)(hb:B.length<=H.length)(h1:ns.length<=60)(h2:pv.length<=60)(h3:qu.length<=60)(hn:∀p∈qu,p.1≠nm)
  (q:∀a H',Cl B (NL B.length r v all (ns++[nm]) (cY nm (sS nm md) pv) ch (qu++[(nm,a)])) H'->B.length<=H'.length->Q .none H'):aJ PL (n+1) 43 [.ref (B.length+1),sS nm md] H Q X:=by
 haveI sz:∀{j:Nat},j<=60->j<=az:=λh=>aa h (by decide)
 refine cf yY rfl (st_mc1 (mj (h.get 0 rfl) (h.get 1 rfl) rfl rfl) (d8 (h.get 2 rfl)) (aK rfl) (hE (dU (h.get 2 rfl) (aa (ao (ah _)) (sz h1))) ?_))
 have c1:Cl B (NL B.length r v all (ns++[nm]) pv ch qu) (H.set (B.length+4) (.list (ns.map V.str++[.str nm]))):=by
  haveI c:=h.set 2 (o':=.list (ns.map V.str++[.str nm])) rfl
  rw [show ns.map V.str++[.str nm]=(ns++[nm]).map V.str from by rw [aB];rfl]at c ⊢
  exact c
 refine gM (ev_var rfl _ (mj (c1.get 0 rfl) (c1.get 1 rfl) rfl rfl _ (aK (v:=.str nm) rfl _ ?_)))
 haveI e1:d7 (.ref (B.length+5)) (.str nm) (sS nm md) _=_:=jJ (val:=oB) (x:=sS nm md) (c1.get 3 rfl) (sz h2)
 rw [e1]
 haveI c2:Cl B (NL B.length r v all (ns++[nm]) (cY nm (sS nm md) pv) ch qu) _:=c1.set 3 (o':=dO oB (cY nm (sS nm md) pv)) rfl
 have l2:∀{a b:Nat} {o o':O},B.length<=((H.set a o).set b o').length:=λ{a b o o'}=>aa hb (ao (aR.trans aR).symm)
 refine dy (aK rfl) (gM (jr (mj ((c2.new (.list []) l2).get 0 rfl) ((c2.new (.list []) l2).get 1 rfl) rfl rfl _ (aK (v:=.str nm) rfl _ ?_))))
 haveI e2:d7 (.ref (B.length+10)) (.str nm) (.ref _) _=_:=jJ (n:=nm) (val:=V.ref) (x:=((H.set (B.length+4) (.list (ns.map V.str++[.str nm]))).set (B.length+5) (dO oB (cY nm (sS nm md) pv))).length) ((c2.new (.list []) l2).get 8 rfl) (sz h3)
 rw [e2,nb hn]
 haveI c3:=(c2.new (.list []) l2).set 8 (o':=dO V.ref (qu++[(nm,((H.set (B.length+4) (.list (ns.map V.str++[.str nm]))).set (B.length+5) (dO oB (cY nm (sS nm md) pv))).length)])) rfl
 refine q ((H.set (B.length+4) (.list (ns.map V.str++[.str nm]))).set (B.length+5) (dO oB (cY nm (sS nm md) pv))).length _ ?_ (aa l2 (aa dQ (ao aR.symm)))
 unfold NL
 rw [aB (l₁:=qu)]
 exact c3
end
section
variable {π:PI}{n:Nat}{B H:AH}{Q:QE}{X:XE}{r:Nat}{v:V}{all:List V}{ns:List Nm}{pv ch:AL V}{qu:AL Nat}
theorem LL{k:Nat}{nm rl:Nm}{m s:Int}{ps:List V}(h8:∀p∈ps,Pt π k p)(h5:ps.length<=8)(h:Cl B (NL B.length r v all ns pv ch qu) H)(hb:B.length<=H.length)(h1:ns.length<=60)(h2:pv.length<=60)(h3:ch.length<=900)
  (q:∀H',Cl B (NL B.length r v all (ns++[nm]) (cY nm (jZ nm rl m s ps) pv) (wS (jZ nm rl m s ps) ps ch) qu) H'->B.length<=H'.length->Q .none H'):aJ PL (n+1) 43 [.ref (B.length+1),jZ nm rl m s ps] H Q X:=by
 haveI sz:∀{j:Nat},j<=60->j<=az:=λh=>aa h (by decide)
 refine cf yY rfl (st_mc1 (mj (h.get 0 rfl) (h.get 1 rfl) rfl rfl) (d8 (h.get 2 rfl)) (aK rfl) (hE (dU (h.get 2 rfl) (aa (ao (ah _)) (sz h1))) ?_))
 have c1:Cl B (NL B.length r v all (ns++[nm]) pv ch qu) (H.set (B.length+4) (.list (ns.map V.str++[.str nm]))):=by
  haveI c:=h.set 2 (o':=.list (ns.map V.str++[.str nm])) rfl
  rw [show ns.map V.str++[.str nm]=(ns++[nm]).map V.str from by rw [aB];rfl]at c ⊢
  exact c
 refine gM (ev_var rfl _ (mj (c1.get 0 rfl) (c1.get 1 rfl) rfl rfl _ (aK (v:=.str nm) rfl _ ?_)))
 haveI e1:d7 (.ref (B.length+5)) (.str nm) (jZ nm rl m s ps) _=_:=jJ (val:=oB) (x:=jZ nm rl m s ps) (c1.get 3 rfl) (sz h2)
 rw [e1]
 haveI c2:Cl B (NL B.length r v all (ns++[nm]) (cY nm (jZ nm rl m s ps) pv) ch qu) _:=c1.set 3 (o':=dO oB (cY nm (jZ nm rl m s ps) pv)) rfl
 haveI l2:∀{a b:Nat} {o o':O},B.length<=((H.set a o).set b o').length:=λ{a b o o'}=>aa hb (ao (aR.trans aR).symm)
 refine bJ (aK rfl) (pZ (λits ρ H'=>∃o dn,ρ=[some (.ref (B.length+1)),some (jZ nm rl m s ps),o]/\dn++its=ps/\Cl B (NL B.length r v all (ns++[nm]) (cY nm (jZ nm rl m s ps) pv) (wS (jZ nm rl m s ps) dn ch) qu) H'/\B.length<=H'.length) (v:=.tup ps) (items:=ps) (aK rfl) (λ_ _ _ _=>rfl) (aa h5 (by decide)) ⟨none,[],rfl,rfl,c2,l2⟩ (λx xs ρ' H' hI K' hK=>gP hI λo dn e ed c l=>?_) λρ' H' hI=>gP hI λo dn e ed c l=>q H' ((aA dn).symm.trans ed▸c) l)
 subst e
 haveI hm:x∈ps:=ed▸ak dn (.head _)
 refine gM (ev_var rfl _ (mj (c.get 0 rfl) (c.get 1 rfl) rfl rfl _ (kz (h8 x hm) rfl _ ?_)))
 haveI hl:(wS (jZ nm rl m s ps) dn ch).length<=az:=aa uY (aa (bP h3 (aa (ed▸dQ) h5)) (by decide))
 haveI e2:d7 (.ref (B.length+6)) (.str (au x)) (jZ nm rl m s ps) _=_:=jJ (val:=oB) (x:=jZ nm rl m s ps) (c.get 4 rfl) hl
 rw [e2]
 refine hK _ _ ⟨_,dn++[x],rfl,(aj dn [x] xs).trans ed,?_,aa l (ao aR.symm)⟩
 rw [show wS (jZ nm rl m s ps) (dn++[x]) ch=cY (au x) (jZ nm rl m s ps) (wS (jZ nm rl m s ps) dn ch)from bz ..]
 exact c.set 4 (o':=dO oB (cY (au x) (jZ nm rl m s ps) (wS (jZ nm rl m s ps) dn ch))) rfl
end
section
variable {π:PI}{n:Nat}{B H:AH}{Q:QE}{X:XE}{r:Nat}{v:V}{all:List V}{ns:List Nm}{pv ch:AL V}{qu:AL Nat}
noncomputable def sT(x:V):List Nm:=if wU x then []else [au x]
theorem f30{k:Nat}{x:V}(hP:Pt π k x)(h:Cl B (NL B.length r v all ns pv ch qu) H)(hb:B.length<=H.length)(h1:ns.length<=60)(h2:pv.length<=60)(h3:ch.length<=900)(h4:qu.length<=60)(hn:∀p∈qu,p.1≠au x)
  (q:∀qu' H',Cl B (NL B.length r v all (ns++[au x]) (cY (au x) x pv) (wS x (kids x) ch) qu') H'->B.length<=H'.length->qu'.map (·.1)=qu.map (·.1)++sT x->Q .none H'):aJ PL (n+1) 43 [.ref (B.length+1),x] H Q X:=by
 induction hP with
 |@wk _ nm=>exact LY h hb h1 h2 h4 hn λa H' c l=>q (qu++[(nm,a)]) H' c l aB
 |@wd _ _ _ _ _ ps _ _ _ _ h5 _ _ h8=>
  refine LL h8 h5.2 h hb h1 h2 h3 λH' c l=>q qu H' c l ?_
  cases ps with
  |nil=>exact absurd h5.1 (dI 0)
  |cons p ps=>exact(aA _).symm
noncomputable def BP(dn:List V):AL V:=dn.foldl (λc p=>cY (au p) p c) []
noncomputable def wT(n0:Nm)(dn:List V):AL V:=dn.foldl (λc p=>wS p (kids p) c) [(n0,.none)]
def NI(B:AH)(v:V)(r:Nat)(all:List V)(n0:Nm)(its:List V)(ρ:Fm)(H:AH):Prop:=
 ∃o dn qu,ρ=[some (.ref (B.length+1)),some v,o]/\dn++its=all/\Cl B (NL B.length r v all (dn.map au) (BP dn) (wT n0 dn) qu) H/\qu.map (·.1)=dn.flatMap sT/\(B.length<=H.length/\(BP dn).length<=dn.length/\(wT n0 dn).length<=8*dn.length+1)
end
section
variable {π:PI}{n:Nat}{B H:AH}{K:KS}{Q:QE}{X:XE}{r:Nat}{v:V}{all:List V}
theorem BY{dn:List V}{a:Nm}(h:a∈dn.flatMap sT):a∈dn.map au:=ea1_2 (bj.mp h) λx hx ha=>by
 unfold sT at ha
 by_cases e:wU x=true
 ·rw [if_pos e]at ha;exact absurd ha aZ
 ·rw [if_neg e]at ha;exact in1 ha▸bf hx
theorem uk{dn:List V}:(dn.flatMap sT).length<=dn.length:=by
 induction dn with
 |nil=>exact aI _
 |cons x dn ih=>
  rw [b0,af,bK,ce]
  refine bP ih ?_
  unfold sT
  by_cases e:wU x=true
  ·rw [if_pos e];exact aQ _
  ·rw [if_neg e];exact aI _
theorem I2{n0:Nm}{ss:List St}{e:Ex}{H0:AH}(he:∀Q:QE,(∀r H,Cl B (NL B.length r v all [] [] [(n0,.none)] []) H->B.length<=H.length->Q (.ref r) H)->cz PL (aJ PL (n+1)) e [some (.ref (B.length+1)),some v,none] H0 Q X)(hP:∀x∈all,∃k,Pt π k x)(nd:(all.map au).Nodup)(hl:all.length<=60)
  (q:∀r o qu H',Cl B (NL B.length r v all (all.map au) (BP all) (wT n0 all) qu) H'->qu.map (·.1)=all.flatMap sT->B.length<=H'.length->a7 PL (aJ PL (n+1)) ss [some (.ref (B.length+1)),some v,o] H' K Q X) :
  a7 PL (aJ PL (n+1)) (.forIn false (.inl 2) e [(.expr (.meth 0 43 ['n','o','t','e'] (.var 0) [.var 2]))]::ss) [some (.ref (B.length+1)),some v,none] H0 K Q X:=by
 refine pR (he _ λr H h hb=>qD (rev:=false) (tgt:=.inl 2) (v:=.ref r) (l:=all) (f:=λx=>x) (st:=λx ρ=>ρ.set 2 (some x)) (λ_ _=>rfl) (NI B v r all n0) (λ_ _ _ q=>nU q λo dn qu _ _ c _ _=>(d6 (c.get 9 rfl)).trans (congrArg some (lW all).symm)) (aa hl (by decide)) ⟨none,[],[],rfl,rfl,h,rfl,hb,aI _,aI _⟩ (λx xs ρ' H' hI K' hK=>nU hI λo dn qu e ed c hq l=>?_) λρ' H' hI=>nU hI λo dn qu e ed c hq l=>?_)
 ·subst e
  haveI hd:dn.length+1<=60:=by
   rw [<-ed,af]at hl
   exact aa (aC (ax (aQ xs.length)) _) hl
  haveI nx:au x∉dn.map au:=λz=>by
   rw [<-ed,aB]at nd
   exact(a8.mp nd).2.2 _ z _ (.head _) rfl
  haveI e1:BP (dn++[x])=cY (au x) x (BP dn):=bz ..
  haveI e2:wT n0 (dn++[x])=wS x (kids x) (wT n0 dn):=bz ..
  refine(hP x (ed▸ak dn (.head _))).elim λk hP=>?_
  refine st_expr (ev_var (P:=PL) (C:=aJ PL (n+1)) (X:=λ_ _=>False) (ρ:=[some (.ref (B.length+1)),some v,some x]) (i:=0) rfl (λv' H₁=>e9 H₁ 0 ['n','o','t','e'] v'=true/\fR PL (aJ PL (n+1)) [.var 2] [some (.ref (B.length+1)),some v,some x] H₁ (λvs H'=>aJ PL (n+1) 43 (v'::vs) H' (λ_ H'=>K' [some (.ref (B.length+1)),some v,some x] H') (λ_ _=>False)) (λ_ _=>False)) ⟨?_,ev_var (P:=PL) (C:=aJ PL (n+1)) (X:=λ_ _=>False) rfl _ (f30 hP c l.1 ?_ ?_ ?_ ?_ ?_ λqu' H'' c' l' hq'=>hK _ _ ⟨_,dn++[x],qu',rfl,(aj dn [x] xs).trans ed,?_,?_,l',?_,?_⟩)⟩)
  ·show (fO H' (.ref (B.length+1))).any _=true
   rw [C8 (c.get 0 rfl) (c.get 1 rfl)];rfl
  ·rw [ah];exact aa (a9 _) hd
  ·exact aa l.2.1 (aa (a9 _) hd)
  ·exact aa l.2.2 (aa (ax (bn 8 (aa (a9 _) hd))) (by decide))
  ·rw [<-ah (f:=(·.1)),hq];exact aa uk (aa (a9 _) hd)
  ·exact λp hp z=>nx (z▸BY (hq▸bf hp))
  ·rw [aB,e1,e2];exact c'
  ·rw [hq',hq,bo,b0,iD,aA]
  ·rw [e1,af];exact aa jf (ax l.2.1)
  ·rw [e2,af]
   exact aa uY (aa (bP l.2.2 (p3 hP)) (ao (bD _ _ _)))
 ·subst e
  haveI ed:dn=all:=(aA dn).symm.trans ed
  subst ed
  exact q r o qu H' c hq l.1
end
theorem Ed{l:List V}:∀{c:AL V},(c.map (·.1)++l.map au).Nodup->l.foldl (λc p=>cY (au p) p c) c=c++l.map λp=>(au p,p):=by
 induction l with
 |nil=>exact λ{c} _=>(aA c).symm
 |cons p l ih=>
  intro c nd
  haveI e:cY (au p) p c=c++[(au p,p)]:=nb λq hq z=>(a8.mp nd).2.2 _ (bf hq) _ (.head _) z
  refine(?_:l.foldl _ (cY (au p) p c)=_)
  rw [e,ih (by rw [aB,aj];exact nd),aj]
  rfl
theorem EJ{l:List V}(nd:(l.map au).Nodup):BP l=l.map λp=>(au p,p):=Ed nd
theorem CG{m:Nm}{w:V}{ps:List V}:∀{c:AL V},dG m (wS w ps c)=if m∈ps.map au then some w else dG m c:=by
 induction ps with
 |nil=>exact λ{c}=>(if_neg aZ).symm
 |cons p ps ih=>
  intro c
  refine(ih (c:=cY (au p) w c)).trans ?_
  rw [jL]
  by_cases h:m∈ps.map au
  ·rw [if_pos h,if_pos (.tail _ h)]
  ·rw [if_neg h]
   by_cases e:m=au p
   ·rw [if_pos e,if_pos (e▸.head _)]
   ·rw [if_neg e];exact(if_neg λz=>dN z e h).symm
theorem yZ{m:Nm}{w:V}{l:List V}(h:∀x∈l,m∈(kids x).map au->x=w):∀{c:AL V},(dG m c=some w\/∃x∈l,m∈(kids x).map au)->dG m (l.foldl (λc p=>wS p (kids p) c) c)=some w:=by
 induction l with
 |nil=>exact λq=>q.elim id λq=>ea1_2 q λx hx _=>absurd hx aZ
 |cons p l ih=>
  intro c q
  refine ih (λx hx=>h x (.tail _ hx)) ?_
  rw [CG]
  by_cases e:m∈(kids p).map au
  ·rw [if_pos e];exact .inl (congrArg some (h p (.head _) e))
  ·rw [if_neg e];exact q.imp id λq=>ea1_2 q λx hx hm=>dN hx (λz=>absurd (z▸hm) e) λhx=>⟨x,hx,hm⟩
section
variable {π:PI}{k:Nat}{v w x p:V}
theorem qK(hP:Pt π k w)(hp:p∈kids w):π.ch (au p)=some (au w):=by
 induction hP with
 |wk=>exact absurd hp aZ
 |wd _ _ _ _ _ _ h7=>exact(h7 _).mpr ⟨p,hp,rfl⟩
theorem CM(hP:Pt π k w):π.isW (au w)=some (wU w):=by
 induction hP with
 |wk _ _ h=>exact h
 |@wd _ _ _ _ _ ps _ _ _ _ h5 h6=>
  cases ps with
  |nil=>exact absurd h5.1 (dI 0)
  |cons p ps=>exact h6
theorem HK(hP:Pt π k w):ny (au w):=by
 induction hP with
 |wk h=>exact h
 |wd h=>exact h
theorem mr:∀{k:Nat} {v:V},Pt π k v->∀x∈io k v,∃k,Pt π k x:=by
 intro k
 induction k with
 |zero=>exact λ_=>qY
 |succ k ih=>exact λhP=>eJ ⟨_,hP⟩ λx hx=>ea1_2 (bj.mp hx) λp hp hx=>ih (s5 hP p hp) x hx
theorem zO{l:List V}(nd:(l.map au).Nodup)(hx:x∈l)(hw:w∈l)(e:au x=au w):x=w:=by
 induction l with
 |nil=>exact absurd hx aZ
 |cons y l ih=>
  have n:=bg.mp nd
  exact dN hx (λe1=>dN hw (λe2=>e1.trans e2.symm) λh=>absurd (bf h) λz=>n.1 (e1▸e.symm▸z)) λh=>dN hw (λe2=>absurd (bf h) λz=>n.1 (e2▸e▸z)) λh'=>ih n.2 h h'
theorem AU{l:List V}(hp:∀x∈l,∃k,Pt π k x){m:Nm}(hn:(π.isW m).isSome=true->m∈l.map au):m∈l.flatMap sT↔π.isW m=some false:=by
 refine⟨λh=>ea1_2 (bj.mp h) λx hx hm=>(hp x hx).elim λk hk=>?_,λh=>ea1_2 (aG.mp (hn (congrArg cH h))) λx hx e=>(hp x hx).elim λk hk=>bj.mpr ⟨x,hx,?_⟩⟩
 ·unfold sT at hm
  by_cases e:wU x=true
  ·rw [if_pos e]at hm;exact absurd hm aZ
  ·rw [if_neg e]at hm;rw [in1 hm,CM hk,cK.mpr e]
 ·unfold sT
  have z:=(CM hk).symm.trans (e.symm▸h)
  rw [ai z,<-e];exact .head _
theorem D3{l:List V}(nd:(l.map au).Nodup):(l.flatMap sT).Nodup:=by
 refine List.Nodup.sublist (?_:(l.flatMap sT).Sublist (l.map au)) nd
 clear nd
 induction l with
 |nil=>exact .slnil
 |cons x l ih=>
  rw [b0]
  unfold sT
  by_cases e:wU x=true
  ·rw [if_pos e];exact .cons _ ih
  ·rw [if_neg e];exact .cons_cons _ ih
end
noncomputable def gB(B:AH):List (Nat×O):=B.zipIdx.map Prod.swap
theorem qH{B:AH}{p:Nat×O}(h:p∈gB B):B[p.1]? =some p.2:=ea1_2 (aG.mp h) λ_ hx e=>e▸fN.mp hx
theorem mz{B:AH}{a:Nat}{o:O}(h:B[a]? =some o):(a,o)∈gB B:=aG.mpr ⟨(o,a),fN.mpr h,rfl⟩
theorem zX{B:AH}:((gB B).map (·.1)).Nodup:=by
 unfold gB
 rw [bB]
 show(B.zipIdx.map jD).Nodup
 rw [List.zipIdx_map_snd]
 exact List.nodup_range'
noncomputable def uT(B:AH)(v:V)(all:List V)(n0:Nm)(e:Nat):Ad:=⟨B.length,B.length+1,B.length+4,B.length+5,B.length+6,B.length+7,B.length+8,B.length+9,B.length+10,e,v,all.map au,all,(wT n0 all).map (·.1),(wT n0 all).map (·.2),gB B⟩
noncomputable def tN(qu:AL Nat)(a:Nat):Option (Bool×Nm):=(qu.find? λp=>p.2==a).map λp=>(false,p.1)
noncomputable def Bc(qu:AL Nat):Hst:=⟨[],[],[],qu.map λp=>(p.1,p.2,[]),0,0,[],0,tN qu⟩
theorem Cd{qu:AL Nat}(nd:(qu.map (·.2)).Nodup){p:Nm×Nat}(hp:p∈qu):tN qu p.2=some (false,p.1):=by
 unfold tN
 induction qu with
 |nil=>exact absurd hp aZ
 |cons x qu ih=>
  have n:=bg.mp nd
  rw [List.find?_cons]
  refine dN hp (λe=>?_) λh=>?_
  ·rw [e,beq_self_eq_true];rfl
  ·rw [show(x.2==p.2)=false from beq_eq_false_iff_ne.mpr λe=>n.1 (aG.mpr ⟨p,h,e.symm⟩)];exact ih n.2 h
theorem lB{qu:AL Nat}{a:Nat}(h:a∉qu.map (·.2)):tN qu a=none:=by
 unfold tN
 rw [Kf.mpr λ(x:Nm×Nat) hx (e:(x.2==a)=true)=>h (aG.mpr ⟨x,hx,beq_iff_eq.mp e⟩)];rfl
theorem Hy{B H:AH}{v:V}{all:List V}{n0:Nm}{qu:AL Nat}{r e:Nat}(hn:(all.map au).Nodup)(hq:qu.map (·.1)=all.flatMap sT)
  (c:Cl B ([(B.length,.ns hk (wX B.length v++[.int 0,.int 0,.ref e])),(B.length+1,.inst 0 B.length),(B.length+4,.list ((all.map au).map V.str)),(B.length+5,dO oB (BP all)),(B.length+6,dO oB (wT n0 all)),(B.length+7,.dict [] []),(B.length+8,.dict [] []),(B.length+9,.dict [] []),(B.length+10,dO V.ref qu),(r,.list all)]++(qu.map λp=>(p.2,.list []))++[(e,.list [])]) H) :
  Hs (uT B v all n0 e) (Bc qu) H:=by
 haveI nd:=c.nd
 rw [aB,aB,aj,bB (l:=qu)]at nd
 have nd1:=a8.mp nd
 have nd2:=a8.mp nd1.2.1
 haveI hm:∀{k:Nat} {p:Nat×O},([(B.length,.ns hk (wX B.length v++[.int 0,.int 0,.ref e])),(B.length+1,.inst 0 B.length),(B.length+4,.list ((all.map au).map V.str)),(B.length+5,dO oB (BP all)),(B.length+6,dO oB (wT n0 all)),(B.length+7,.dict [] []),(B.length+8,.dict [] []),(B.length+9,.dict [] []),(B.length+10,dO V.ref qu),(r,.list all)]:List (Nat×O))[k]? =some p->H[p.1]? =some p.2/\tN qu p.1=none:=λ{k p} h=>by
  haveI m:=aM h
  exact⟨(c.cell p (av _ (av _ m))).1,lB λz=>nd1.2.2 _ (bf m) _ (av _ z) rfl⟩
 haveI he:H[e]? =some (.list [])/\tN qu e=none:=⟨(c.cell _ (ak _ (.head _))).1,lB λz=>nd2.2.2 _ z _ (.head _) rfl⟩
 have hge:∀{p:Nm×Nat},p∈qu->H[p.2]? =some (.list [])/\B.length<=p.2:=λ{p} hp=>c.cell (p.2,.list []) (av _ (ak _ (aG.mpr ⟨p,hp,rfl⟩)))
 refine⟨?_,?_,qY,λp hp=>?_,?_,cR,cR,λb hb=>lB λz=>ea1_2 (aG.mp z) λq hq e=>cm _ (bk (ae.mp (hge hq).1).1 (e▸hb))⟩
 ·refine (?_:(([B.length,B.length+1,B.length+4,B.length+5,B.length+6,B.length+7,B.length+8,B.length+9,B.length+10]++[e])++(gB B).map (·.1)).Nodup)
  refine a8.mpr ⟨a8.mpr ⟨?_,bg.mpr ⟨aZ,cR⟩,?_⟩,zX,?_⟩
  ·exact (a8 (l₁:=[B.length,B.length+1,B.length+4,B.length+5,B.length+6,B.length+7,B.length+8,B.length+9,B.length+10]) (l₂:=[r]).mp nd1.1).1
  ·exact λa ha b hb=>nd1.2.2 a (av [r] ha) b (ak _ hb)
  ·intro a ha b hb
   have h1:B.length<=a:=cq (p:=λa=>B.length<=a) (eJ (aI _) (eJ (aq _ _) (eJ (aq _ _) (eJ (aq _ _) (eJ (aq _ _) (eJ (aq _ _) (eJ (aq _ _) (eJ (aq _ _) (dk (aq _ _)))))))))) (dk (show B.length<=e from(c.cell _ (ak _ (.head _))).2)) a ha
   exact ea1_2 (aG.mp hb) λp hp e=>e▸gm (bk (ae.mp (qH hp)).1 h1)
 ·refine eJ (hm (k:=0) rfl) (eJ (hm (k:=1) rfl) (eJ (hm (k:=2) rfl) (eJ ?_ (eJ (hm (k:=4) rfl) (eJ (hm (k:=5) rfl) (eJ (hm (k:=6) rfl) (eJ (hm (k:=7) rfl) (eJ ?_ (eJ he λp hp=>?_)))))))))
  ·haveI:=hm (k:=3) rfl
   rw [EJ hn,dO,bB,bB]at this
   exact⟨this.1.trans (congrArg (λt=>some (O.dict _ t)) (lW all)),this.2⟩
  ·haveI:=hm (k:=8) rfl
   refine⟨this.1.trans (congrArg some ?_),this.2⟩
   unfold dO Bc
   rw [bB,bB];rfl
  ·have hb:=qH hp
   have hl:=(ae.mp hb).1
   exact⟨(c.pre _ hl).trans hb,lB λz=>ea1_2 (aG.mp z) λq hq e=>cm _ (bk hl (e▸(hge hq).2))⟩
 ·refine ea1_2 (aG.mp hp) λq hq e=>e▸⟨Cd nd2.1 hq,(hge hq).1,aQ _⟩
 ·refine (?_:((qu.map _).map _).Nodup)
  rw [bB]
  exact hq.symm▸D3 hn
section
variable {π:PI}{σ:Ad}{B:AH}{v:V}{n0:Nm}{e:Nat}
theorem K4:∀{k d:Nat} {w:V},Rt π σ d k w->d+k=7->(∀w'∈io k w,∀p∈kids w',ft (au p) σ.chk σ.chv=some w')->∀x∈io k w,∃d' k',d'+k'=7/\Rt π σ d' k' x/\(d'=0->x=w):=by
 intro k
 induction k with
 |zero=>exact λ_ _ _=>qY
 |succ k ih=>
  intro d w h e hc
  refine eJ ⟨d,k+1,e,h,λ_=>rfl⟩ λx hx=>ea1_2 (bj.mp hx) λp hp hx=>?_
  have r:=h.rd
  have nd:((kids w).flatMap (nms k)).Nodup:=(bg.mp r.nd).2
  have sub:(nms k p).Sublist ((kids w).flatMap (nms k)):=jv (bf hp)
  have hr:Rt π σ (d+1) k p:=⟨⟨s5 r.pt p hp,nd.sublist sub,aa (a9 k) r.k7,aa sub.length_le (aa (a9 _) r.len),λx hx=>r.md x (.tail _ (bj.mpr ⟨p,hp,hx⟩))⟩,w,h,hp,hc w (.head _) p hp⟩
  refine(ih hr ((bD d 1 k).trans e) (λw' hw'=>hc w' (.tail _ (bj.mpr ⟨p,hp,hw'⟩))) x hx).imp λd' q=>q.imp λk' q=>⟨q.1,q.2.1,λz=>?_⟩
  subst z
  have z:=q.2.2 rfl
  subst z
  haveI z:V.none=w:=ai (q.2.1.2.1.symm.trans (hc w (.head _) x hp))
  subst z
  exact absurd hp aZ
theorem DV{l:List V}{x:V}(nd:(l.map au).Nodup)(hx:x∈l):dG (au x) (l.map λp=>(au p,p))=some x:=by
 induction l with
 |nil=>exact absurd hx aZ
 |cons y l ih=>
  haveI n:=bg.mp nd
  refine(?_:(if au x=au y then some y else dG (au x) (l.map λp=>(au p,p)))=some x)
  by_cases h:au x=au y
  ·rw [if_pos h,zO nd hx (.head _) h]
  ·rw [if_neg h];exact ih n.2 (dN hx (λe=>absurd (congrArg au e) h) id)
theorem FE(hP:Pt π 7 v)(nd:(nms 7 v).Nodup):∀w∈io 7 v,∀p∈kids w,ft (au p) (uT B v (io 7 v) n0 e).chk (uT B v (io 7 v) n0 e).chv=some w:=λw hw p hp=>by
 refine(lM (val:=oB)).trans (congrArg (bR oB) (?_:dG (au p) (wT n0 (io 7 v))=some w))
 refine yZ (λx hx hm=>zO (fV.symm▸nd) hx hw ?_) (.inr ⟨w,hw,bf hp⟩)
 exact ea1_2 (aG.mp hm) λy hy e=>(mr hP x hx).elim λ_ hx=>(mr hP w hw).elim λ_ hw=>ai ((qK hx hy).symm.trans (e▸qK hw hp))
theorem DY(hP:Pt π 7 v)(hr:∀w,π.ch (au v)≠some w):ft (au v) (uT B v (io 7 v) (au v) e).chk (uT B v (io 7 v) (au v) e).chv=some .none:=by
 refine(lM (val:=oB)).trans (congrArg (bR oB) (?_:dG (au v) (wT (au v) (io 7 v))=some .none))
 exact yZ (λx hx hm=>ea1_2 (aG.mp hm) λy hy e=>(mr hP x hx).elim λ_ hx=>absurd (e▸qK hx hy) (hr _)) (.inl (if_pos rfl))
structure Plan(π:PI)(v:V):Prop where
 pt:Pt π 7 v
 w:wU v=true
 nd:(nms 7 v).Nodup
 le:(nms 7 v).length<=60
 top:∀w,π.ch (au v)≠some w
 nm:∀m,(π.isW m).isSome=true->m∈nms 7 v
 md:∀x∈io 7 v,mdOk π x
theorem Plan.rt(h:Plan π v):∀x∈io 7 v,∃d k,d+k=7/\Rt π (uT B v (io 7 v) (au v) e) d k x/\(d=0->x=v):=K4 (d:=0) ⟨⟨h.pt,h.nd,aI _,h.le,h.md⟩,DY h.pt h.top,h.top⟩ rfl (FE h.pt h.nd)
theorem Plan.pl(h:Plan π v):Pl π (uT B v (io 7 v) (au v) e) where
 nm:=λm hm=>show m∈(io 7 v).map au from fV.symm▸h.nm m hm
 ok:=λm hm=>ea1_2 (aG.mp hm) λx hx e=>(mr h.pt x hx).elim λk hk=>e▸HK hk
 le:=aa (ao (congrArg dH (fV (k:=7)))) h.le
 pt:=λm hm=>ea1_2 (aG.mp hm) λx hx ex=>c6 (h.rt (B:=B) (e:=e) x hx) λd k q1 q2 q3=>⟨d,k,x,⟨du (bk (Nat.lt_add_of_pos_right (tX q2.rd.pt)) (ao q1)),λz=>by rw [<-ex,q3 z,CM h.pt,h.w]⟩,q2,ex,by
  have nd:((io 7 v).map au).Nodup:=fV.symm▸h.nd
  haveI z:=lM (n:=m) (val:=oB) (l:=(io 7 v).map λp=>(au p,p))
  rw [bB,bB]at z
  refine Eq.trans ?_ (z.trans (congrArg (bR oB) (?_:_=some x)))
  ·exact congrArg (ft m _) (lW _).symm
  ·rw [<-ex];exact DV nd hx⟩
 top:=h.pt
 nd:=show((io 7 v).map au).Nodup from fV.symm▸h.nd
end
section
variable {P:Prog}{C:Calls}{ρ:Fm}{B H:AH}{K:KS}{R:QE}{X:XE}{ss:List St}{nm:Nm}{e:Ex}{x:V}{ks:List Nm}{vs:List V}
theorem HG{b:Nat}(g0:H[b]? =some (.ns ks vs))(g1:H[b+1]? =some (.inst 0 b)):fO H (.ref (b+1))=some (b,ks,vs):=by
 show(H[b+1]?.bind O.ins).bind _=_
 rw [g1]
 show(H[b]?.bind O.nms).map _=_
 rw [g0]
 rfl
theorem Li{b:Nat}(g0:H[b]? =some (.ns ks vs))(g1:H[b+1]? =some (.inst 0 b))(hl:ks.length<=1000):iu (.ref (b+1)) nm x H=some (H.set b (.ns (dK nm x ks vs).1 (dK nm x ks vs).2)):=by
 show(fO H (.ref (b+1))).bind _=_
 rw [HG g0 g1]
 exact if_pos hl
theorem z7{b:Nat}(hρ:ρ[0]? =some (some (.ref (b+1))))(he:∀Q:QE,Q x H->cz P C e ρ B Q X)(g0:H[b]? =some (.ns ks vs))(g1:H[b+1]? =some (.inst 0 b))(hl:ks.length<=1000)(k:a7 P C ss ρ (H.set b (.ns (dK nm x ks vs).1 (dK nm x ks vs).2)) K R X):a7 P C (.setAttr (.var 0) nm e::ss) ρ B K R X:=
 he _ (ev_var (P:=P) (C:=C) (X:=X) hρ _ (by rw [Li g0 g1 hl];exact k))
end
section
variable {π:PI}{n:Nat}{B H:AH}{K:KS}{Q:QE}{X:XE}{r:Nat}{v:V}{qu:AL Nat}
theorem iv0(h:Plan π v)(hq:qu.map (·.1)=(io 7 v).flatMap sT):Iv π (Bc qu) where
 gd:=⟨λ_ z=>absurd z am,λ_ z=>absurd z am,aI _,aI _,aI _,aI _,λ_ z=>absurd z am,λ_ z=>absurd z am⟩
 up:=λ_ _ _ z=>absurd z am
 nm:=qY
 qk:=λm=>by
  refine(?_:((qu.map λp=>(p.1,(p.2,([]:List (Nat×V))))).map (·.1)).contains m=true↔_)
  rw [bB,show((·.1)∘λp:Nm×Nat=>(p.1,(p.2,([]:List (Nat×V)))))=(·.1)from rfl,hq,aX]
  exact AU (mr h.pt) λz=>fV.symm▸h.nm m z
 lv:=λp hp=>ea1_2 (aG.mp hp) λq _ e=>e▸qY
 lq:=by
  refine(?_:(qu.map _).length<=60)
  rw [ah,<-ah (f:=(·.1)),hq]
  exact aa uk (aa (ao ((ah au).symm.trans (congrArg dH fV))) h.le)
noncomputable def AC:Ab:=⟨λ_=>false,λ_=>[],λ_=>0,λ_=>[],[],0,0⟩
theorem LW:jq (Bc qu)=AC:=by
 refine congrArg (λq=>(⟨λ_=>false,λ_=>[],λ_=>0,q,[],0,0⟩:Ab)) (funext λm=>?_)
 refine(?_:((dG m (qu.map λp=>(p.1,(p.2,([]:List (Nat×V)))))).map _).getD []=[])
 induction qu with
 |nil=>rfl
 |cons p qu ih=>
  refine(?_:((if m=p.1 then some (p.2,[])else dG m (qu.map λp=>(p.1,(p.2,([]:List (Nat×V)))))).map _).getD []=[])
  by_cases e:m=p.1
  ·rw [if_pos e];rfl
  ·rw [if_neg e];exact ih
theorem IB{o:Option V}(h:Plan π v)(c:Cl B (NL B.length r v (io 7 v) ((io 7 v).map au) (BP (io 7 v)) (wT (au v) (io 7 v)) qu) H)(hq:qu.map (·.1)=(io 7 v).flatMap sT)(hb:B.length<=H.length)
  (q:∀e S H',At π (uT B v (io 7 v) (au v) e) S H'->S.ev.length<=60->jq S=aF ((nms 7 v).map .beg) (λ_=>[]) AC->Q .none H') :
  a7 PL (aJ PL (n+8)) (mR.body.drop 10) [some (.ref (B.length+1)),some v,o] H (λ_ H'=>Q .none H') Q X:=by
 haveI nd:((io 7 v).map au).Nodup:=fV.symm▸h.nd
 have ln:(nms 7 v).length<=60:=h.le
 refine z7 (x:=.int 0) (H:=H) rfl (λQ q=>q) (c.get 0 rfl) (c.get 1 rfl) (aU rfl) ?_
 haveI c1:=c.set 0 (o':=.ns (dK ['c','l','o','c','k'] (.int 0) (hk.take 8) (wX B.length v)).1 (dK ['c','l','o','c','k'] (.int 0) (hk.take 8) (wX B.length v)).2) rfl
 refine z7 (x:=.int 0) rfl (λQ q=>q) (c1.get 0 rfl) (c1.get 1 rfl) (aU rfl) ?_
 haveI c2:=c1.set 0 (o':=.ns (hk.take 10) (wX B.length v++[.int 0,.int 0])) rfl
 haveI c3:=c2.new (.list []) (aa hb (ao (aR.trans aR).symm))
 refine z7 (x:=.ref _) rfl (λQ q=>jr q) (c3.get 0 rfl) (c3.get 1 rfl) (aU rfl) ?_
 have hs:=Hy nd hq (c3.set 0 (o':=.ns hk (wX B.length v++[.int 0,.int 0,.ref _])) rfl)
 have iv:=iv0 h hq
 refine dE hs rfl rfl (ev_var rfl) (uZ (n:=n+1) h.pt hs iv.gd (aa (aC ln _) (aU rfl)) λS' H' hs' gd' sp=>?_)
 have hh:∀m,here S' m=true↔m∈nms 7 v:=λm=>by
  rw [sp.hr]
  exact sJ.trans ⟨λz=>z.elim id λz=>absurd z am,.inl⟩
 haveI up:Up π (here S'):=λa m e z=>by
  haveI z:=(hh a).mp z
  rw [<-fV]at z
  refine ea1_2 (aG.mp z) λx hx ex=>c6 (h.rt (B:=B) (e:=r) x hx) λd k q1 q2 q3=>?_
  cases d with
  |zero=>exact absurd (q3 rfl▸ex▸e) (h.top m)
  |succ d=>exact dm q2.2 λw hw hx _=>(hh m).mpr (h.nm m (ai ((qK hw.rd.pt hx).symm.trans (ex▸e))▸congrArg cH (CM hw.rd.pt)))
 refine q _ S' H' ⟨hs',iv.plain sp gd' up⟩ ?_ ((rQ sp).trans (congrArg (aF _ _) LW))
 rw [sp.ev];exact aa (ao (ah _)) ln
theorem cl0{o₁ o₂:O}{all:List V}(kp:Kp (B++yS B.length v (au v) o₁ o₂ 8) H)(hr:(B++yS B.length v (au v) o₁ o₂ 8).length<=r)(hg:H[r]? =some (.list all)):Cl B (NL B.length r v all [] [] [(au v,.none)] []) H:=by
 rw [af]at hr
 haveI g:∀{j:Nat} {o:O},(yS B.length v (au v) o₁ o₂ 8)[j]? =some o->H[B.length+j]? =some o/\B.length<=B.length+j:=λ{j o} e=>⟨(kp.2 _ (by rw [af];exact Hg (ae.mp e).1 _)).trans (pB.trans e),aq _ _⟩
 refine⟨?_,eJ (g (j:=0) rfl) (eJ (g (j:=1) rfl) (eJ (g (j:=4) rfl) (eJ (g (j:=5) rfl) (eJ (g (j:=6) rfl) (eJ (g (j:=7) rfl) (eJ (g (j:=8) rfl) (eJ (g (j:=9) rfl) (eJ (g (j:=10) rfl) (dk ⟨hg,aa (aq _ _) hr⟩))))))))),λa ha=>(kp.2 a (bk ha dQ)).trans (bl ha)⟩
 refine(?_:([0,1,4,5,6,7,8,9,10].map (B.length+·)++[r]).Nodup)
 refine a8.mpr ⟨om.map _ (λa b (h:a≠b) e=>h (ol e)) (by decide:([0,1,4,5,6,7,8,9,10]:List Nat).Nodup),bg.mpr ⟨aZ,cR⟩,λa ha b hb=>?_⟩
 refine ea1_2 (aG.mp ha) λj hj e=>in1 hb▸e▸d9 (bk (Hg ?_ _) hr)
 exact(by decide:∀j∈([0,1,4,5,6,7,8,9,10]:List Nat),j<11) j hj
theorem f29(h:Plan π v)(q:∀e S H',At π (uT B v (io 7 v) (au v) e) S H'->S.ev.length<=60->jq S=aF ((nms 7 v).map .beg) (λ_=>[]) AC->Q .none H'):aJ PL (n+9) 42 [.ref (B.length+1),v] (B++[.ns [] [],.inst 0 B.length]) Q X:=by
 have nl:(io 7 v).length<=60:=aa (ao ((ah au).symm.trans (congrArg dH fV))) h.le
 refine cf GK rfl (n8 (gO (ev_var rfl) (f6 (n:=n+5) h.pt (aI _) h.w h.nd h.le λo₁ o₂=>hE rfl ?_)))
 rw [aj]
 refine HA h.pt ?_
 refine I2 (n:=n+7) (n0:=au v) (λQ q=>gO (ev_var rfl) (f7 (n:=n+1) h.pt nl λr H kp hr hg=>q r H (cl0 kp hr hg) (aa dQ kp.1))) (mr h.pt) (fV.symm▸h.nd) nl λr o qu H' c hq hb=>IB h c hq hb q
end
noncomputable def cA(i:Int):Char:=tH.getD i.toNat 'a'
def vF(s:Nm):Prop:=∀c∈s,c∈tH
theorem qM{i:Int}(h:0<=i/\i<26):tH[i.toNat]? =some (cA i):=by
 haveI l:i.toNat<tH.length:=show i.toNat<26 from(fF h.1).mpr h.2
 unfold cA
 rw [gb,aH l];rfl
theorem uq{i:Int}(h:0<=i/\i<26):vF [cA i]:=dk (aM (qM h))
theorem s6{i j:Int}(hi:0<=i/\i<26)(hj:0<=j/\j<26)(e:cA i=cA j):i=j:=by
 haveI l:i.toNat<tH.length:=show i.toNat<26 from(fF hi.1).mpr hi.2
 haveI z:=(ij l (by decide:tH.Nodup)).mp ((qM hi).trans ((congrArg some e).trans (qM hj).symm))
 rw [<-bO hi.1,<-bO hj.1,z]
theorem lg{s t:Nm}(h:vF s)(h':vF t):vF (s++t):=cq h h'
theorem nX{s:Nm}{a b:Nat}(h:vF s):vF (bM s a b):=λc hc=>h c (GW (GY hc))
theorem vq{s:Nm}{b:Nat}(h:b<=s.length):(bM s 0 b).length=b:=by
 unfold bM
 rw [wO,iB,Nat.min_eq_left h]
theorem uo{s:Nm}{a:Nat}:(bM s a s.length).length=s.length-a:=by
 unfold bM
 rw [gr,iB,qQ]
section
variable {P:Prog}{C:Calls}{ρ:Fm}{H:AH}{K:KS}{R:QE}{X:XE}{ss:List St}{m:Nat}{elt:Ex}{hd:Nm}
theorem qv{i:Int}(h:0<=i/\i<26):aY P false .item [.str tH,.int i] H=some (.str [cA i],H):=by
 show((tb 26 i).bind λk=>(tH[k]?).map λc=>V.str [c]).map _=_
 rw [show tb 26 i=some i.toNat from(if_pos h.1).trans (if_pos h.2)]
 show((tH[i.toNat]?).map _).map _=_
 rw [qM h];rfl
structure Nms(m:Nat)(f:Nat->Nm):Prop where
 ok:∀k,k<m->ny (f k)
 inj:∀j k,j<m->k<m->f j=f k->j=k
theorem qa{f:Nat->Nm}(hm:m<=60)(h1:ρ[1]? =some (some (.int m)))(he:∀k:Nat,k<m->Ev P C (ρ++[some (.int k)]) H X elt (.str (f k)))(ok:Nms m f)(q:∀f,Nms m f->R (.lst ((aV m).map λk=>.str (f k))) H):a7 P C (.ret (.comp false elt (.prim false .range1 [.var 1]) none)::ss) ρ H K R X:=
 ev_ret (nL (l:=aV m) (f:=λk:Nat=>V.int k) (g:=λk=>V.str (f k)) (cD (ev_var h1) (fY (yA (aa hm (by decide))))) (congrArg some ((show iL 0 m=iL (0:Nat) m from rfl).trans (j6.trans (by rw [bB,qR];exact cb λk _=>congrArg (λj:Nat=>V.int j) (da k))))) (by rw [ba];exact aa hm (by decide)) λk hk=>he k (bx.mp hk)) (q f ok)
theorem zk{s:Nm}{k:Nat}(h:vF s)(e:s.length=k+1)(hk:k<8):ny s:=⟨e▸ax (aQ k),e▸hk,h⟩
end
section
variable {n:Nat}{H:AH}{K:KS}{R:QE}{X:XE}{m:Nat}{hd:Nm}{c:Int}
theorem ok3{l r:Nm}{x:Char}(hl:vF l)(hr:vF r)(hx:vF [x])(h:l.length+r.length<=6):ny (l++[x]++r):=⟨by rw [af,af];exact aa (bw 1 l.length) (aq _ _),by rw [af,af,bD];exact aa (ax h) (by decide),lg (lg hl hx) hr⟩
theorem n7{a:Int}{j k:Nat}(hj:j<26)(hk:k<26)(h:(a+7*j)%26=(a+7*k)%26):j=k:=(by decide:∀j<26,∀k<26,7*j%26=7*k%26->j=k) j hj k hk (iK (Int.emod_add_cancel_left.mp h))
theorem n26{j k:Nat}(h1:(j:Int)/26=k/26)(h2:(j:Int)%26=k%26):j=k:=(Nat.div_add_mod j 26).symm.trans ((congrArg (26*·+j%26) (iK h1)).trans ((congrArg (26*(k/26)+·) (iK h2)).trans (Nat.div_add_mod k 26)))
theorem Ku{k m:Nat}(h:k<m)(hm:m<=60):0<=(k:Int)/26/\(k:Int)/26<26:=⟨bv (k/26),(cu (n:=k/26) (m:=26)).mpr (Nat.div_lt_of_lt_mul (bk h (aa hm (by decide))))⟩
theorem KI{r5 r7 r8:Option V}{w rs:Int}(hm:m<=60)(hh:hd.length<=6)(ha:vF hd)(q:∀f,Nms m f->R (.lst ((aV m).map λk=>.str (f k))) H) :
  a7 PL (aJ PL n) (Fd.body.drop 8) [some (.int c),some (.int m),some (.str tH),some (.str hd),some (.int rs),r5,some (.int w),r7,r8] H K R X:=by
 haveI hs:hd.length<=az:=aa hh (by decide)
 refine cZ (b8 (ev_p2 (ev_var rfl) an jx) λ_=>ev_p2 (ev_var rfl) an jx) (λh=>?_) λ_=>?_
 ·haveI hm':m<27:=cu.mp (of_decide_eq_true (ay.mp h).2)
  refine br (iE (ev_var rfl) an (ev_p2 (ev_p2 (ev_var rfl) an (c7 (by decide) (by decide))) (ev_p2 (cD (ev_var rfl) qE) an dR) (c9 (Int.lt_add_one_of_le (bv _)))) (pW hs)) (bW rfl) ?_
  refine br (iE (ev_var rfl) (cD (ev_var rfl) qE) an (sw hs)) (bW rfl) ?_
  generalize hL:bM hd 0 _=L
  generalize hR:bM hd _ _=T
  haveI hLT:L.length+T.length<=6:=by
   have e:L.length<=hd.length:=by rw [<-hL];unfold bM;rw [wO,iB];exact sM _ _
   have e2:T.length=hd.length-L.length:=by rw [<-hR,iy e];exact uo
   exact aa (ao ((congrArg (L.length+·) e2).trans (ji e))) hh
  haveI hLa:vF L:=hL▸nX ha
  haveI hTa:vF T:=hR▸nX ha
  haveI h26:∀k:Nat,0<=(c/7+7*(k:Int))%26/\(c/7+7*(k:Int))%26<26:=λk=>iz (by decide)
  refine qa (f:=λk=>L++[cA ((c/7+7*(k:Int))%26)]++T) hm rfl (λk hk=>?_) ⟨λk _=>ok3 hLa hTa (uq (h26 k)) hLT,λj k hj hk e=>n7 (bk hj (du hm')) (bk hk (du hm')) (s6 (h26 j) (h26 k) (oo (AJ (List.append_cancel_right e))).1)⟩ q
  refine ev_p2 (ev_p2 (ev_var rfl) (ev_p2 (ev_var rfl) (ev_p2 (ev_p2 (ev_p2 (ev_var rfl) an (c7 (by decide) (by decide))) (ev_p2 an (ev_var rfl) (zd (by decide) (yA (aa (eB hk) (aa hm (by decide)))))) dR) an (c9 (by decide))) (qv (h26 k))) (k8 ?_)) (ev_var rfl) (k8 ?_)
  ·exact aa (ax (aa (aq _ _) hLT)) (by decide)
  ·rw [af,bD];exact aa (ax hLT) (by decide)
 ·haveI h26:∀k:Nat,0<=(k:Int)%26/\(k:Int)%26<26:=λk=>iz (by decide)
  refine qa (f:=λk=>hd++[cA ((k:Int)/26)]++[cA ((k:Int)%26)]) hm rfl (λk hk=>?_) ⟨λk hk=>?_,λj k hj hk e=>?_⟩ q
  ·refine ev_p2 (ev_p2 (ev_var rfl) (ev_p2 (ev_var rfl) (ev_p2 (ev_var rfl) an (c7 (by decide) (by decide))) (qv (Ku hk hm))) (k8 ?_)) (ev_p2 (ev_var rfl) (ev_p2 (ev_var rfl) an (c9 (by decide))) (qv (h26 k))) (k8 ?_)
   ·exact aa (ax hh) (by decide)
   ·rw [af];exact aa (ax (ax hh)) (by decide)
  ·exact ⟨by rw [af];exact bw 1 _,by rw [af,af];exact ax (ax hh),lg (lg ha (uq (Ku hk hm))) (uq (h26 k))⟩
  ·haveI z:=List.append_inj' e rfl
   exact n26 (s6 (Ku hj hm) (Ku hk hm) (oo (AJ z.1)).1) (s6 (h26 j) (h26 k) (oo z.2).1)
end
section
variable {n:Nat}{H:AH}{K:KS}{Q:QE}{X:XE}{m:Nat}{c:Int}
def NH(H0:AH)(c:Int)(m:Nat)(its:List Int)(ρ:Fm)(H:AH):Prop:=∃hd rs o,H=H0/\ρ=[some (.int c),some (.int m),some (.str tH),some (.str hd),some (.int rs),o,none,none,none]/\hd.length+its.length=8/\vF hd
theorem n9{c d:Int}{m:Nat}(h:(gf (.int c) (.int d)&&decide ((m:Int)<9))=true):m<=8:=du (cu.mp (of_decide_eq_true (ay.mp h).2))
theorem f12(hm:m<=60)(q:∀f,Nms m f->Q (.lst ((aV m).map λk=>.str (f k))) H):aJ PL (n+1) 11 [.int c,.int m] H Q X:=by
 refine cf ES rfl (br an (bW rfl) (br an (bW rfl) (br (ev_p2 (ev_var rfl) an (c7 (by decide) (by decide))) (bW rfl) (d5 (NH H c m) (f:=V.int) (l:=[0,1,2,3,4,5,6,7]) (v:=.rng 0 8) (cD an (fY ⟨by decide,by decide⟩)) (λ_ _ _ _=>rfl) (by decide) ⟨[],_,none,rfl,rfl,rfl,qY⟩ (λx xs ρ' H' hI K' hK=>oX hI λhd rs o e0 e hl ha=>?_) λρ' H' hI=>oX hI λhd rs o e0 e hl ha=>?_))))
 ·subst e e0
  haveI h:=iz (a:=rs) (b:=26) (by decide)
  refine br (ev_p2 (ev_var rfl) (ev_p2 (ev_var rfl) (ev_p2 (ev_var rfl) an (c9 (by decide))) (qv h)) (k8 ?_)) (bW rfl) (br (ev_p2 (ev_var rfl) an (c7 (by decide) (by decide))) (bW rfl) (hK _ _ ⟨_,_,_,rfl,rfl,?_,lg ha (uq h)⟩))
  ·exact aa (ax (aa (aq _ _) (ao hl))) (by decide)
  ·rw [af,bt,ce _ xs.length];exact hl
 ·subst e e0
  haveI hl:hd.length=8:=hl
  haveI hs:hd.length<=az:=aa (ao hl) (by decide)
  refine br (ev_p2 (ev_var rfl) an (c9 (by decide))) (bW rfl) (cZ (b8 (ev_p2 (ev_var rfl) an (fS dz dz)) λ_=>ev_p2 (ev_var rfl) an jx) (λh=>?_) λ_=>cZ (b8 (ev_p2 (ev_var rfl) an (fS dz dz)) λ_=>ev_p2 (ev_var rfl) an jx) (λh=>?_) λ_=>?_)
  ·have h8:∀{k},k<m->k+1<=hd.length:=λhk=>hl▸aa hk (n9 h)
   have e:∀{k},k<m->(bM hd 0 (k+1)).length=k+1:=λhk=>vq (h8 hk)
   exact qa (f:=λk=>bM hd 0 (k+1)) hm rfl (λk hk=>iE (ev_var rfl) an (ev_p2 (ev_var rfl) an dR) ((pW hs).trans (congrArg (λt=>some (V.str (bM hd 0 t),H')) (iy (j:=k+1) (h8 hk))))) ⟨λk hk=>zk (nX ha) (e hk) (aa hk (n9 h)),λj k hj hk z=>ib ((e hj).symm.trans ((congrArg dH z).trans (e hk)))⟩ q
  ·have hk8:m<=8:=n9 h
   have e0:∀{k},k<m->8-(7-k)=k+1:=λhk=>(Nat.succ_sub (eK 7 _)).trans (congrArg mV (Nat.sub_sub_self (du (aa hk hk8))))
   have e:∀{k},k<m->(bM hd (7-k) hd.length).length=k+1:=λhk=>uo.trans (hl.symm▸e0 hk)
   refine qa (f:=λk=>bM hd (7-k) hd.length) hm rfl (λk hk=>iE (ev_var rfl) (ev_p2 an (ev_var rfl) pT) an ((sw hs).trans (congrArg (λt=>some (V.str (bM hd t hd.length),H')) ?_))) ⟨λk hk=>zk (nX ha) (e hk) (aa hk hk8),λj k hj hk z=>ib ((e hj).symm.trans ((congrArg dH z).trans (e hk)))⟩ q
   rw [show(7:Int)-k=((7-k:Nat):Int)from(Aw (du (aa hk hk8))).symm]
   exact iy (hl▸aa (eK _ _) (by decide))
  ·haveI h7:=iz (a:=c/6) (b:=7) (by decide)
   refine br (iE (ev_var rfl) an (ev_p2 (ev_p2 (ev_var rfl) an (c7 (by decide) (by decide))) an (c9 (by decide))) (pW hs)) (bW rfl) (KI hm ?_ (nX ha) q)
   haveI h6:(c/6%7).toNat<=6:=du ((fF h7.1).mpr h7.2)
   rw [<-bO h7.1,iy (hl.symm▸aa h6 (by decide)),vq (hl.symm▸aa h6 (by decide))]
   exact h6
end
set_option genInjectivity false in
structure Nd where
 d:Nat
 a:Nat
 up:Int
 w:Bool
 deep:Nat
 inner:List Nat
 cell:Int
noncomputable def tv:List Nm:=[['u','p'],['w','a','r','d','e','n'],['d','e','e','p'],['i','n','n','e','r'],['c','e','l','l']]
noncomputable def tz(x:Nd):List V:=[.int x.up,.bool x.w,.int x.deep,.ref x.a,.int x.cell]
noncomputable def iN(x:Nd):O:=.list (x.inner.map ni)
noncomputable def ER(x:Nd):List (Nat×O):=[(x.a,iN x),(x.d,.dict tv (tz x))]
noncomputable def LN(r:Nat)(ns:List Nd):List (Nat×O):=(r,.list (ns.map λx=>.ref x.d))::ns.flatMap ER
def GN(r:Nat)(ns:List Nd)(H:AH):Prop:=∀p∈LN r ns,H[p.1]? =some p.2
section
variable {P:Prog}{C:Calls}{ρ:Fm}{B H:AH}{K:KS}{R:QE}{X:XE}{ss:List St}{r i j k:Nat}{ns:List Nd}{x:Nd}{key:Nm}{v:V}
theorem Cl.gn(c:Cl B (LN r ns) H):GN r ns H:=λp hp=>(c.cell p hp).1
theorem GN.row(g:GN r ns H):H[r]? =some (.list (ns.map λx=>.ref x.d)):=g _ (.head _)
theorem GN.inn(g:GN r ns H)(hj:ns[j]? =some x):H[x.a]? =some (iN x):=g _ (.tail _ (bj.mpr ⟨x,aM hj,.head _⟩))
theorem GN.dic(g:GN r ns H)(hj:ns[j]? =some x):H[x.d]? =some (.dict tv (tz x)):=g _ (.tail _ (bj.mpr ⟨x,aM hj,.tail _ (.head _)⟩))
theorem kR{vs:List V}(h:H[r]? =some (.list vs))(hj:vs[j]? =some v):aY P false .item [.ref r,.int j] H=some (v,H):=by
 show((H[r]?.bind O.lst).bind λvs=>(tb vs.length j).bind λj=>vs[j]?).map _=_
 rw [h]
 show((tb vs.length j).bind λj=>vs[j]?).map _=_
 rw [uL (ae.mp hj).1]
 exact congrArg (bR _) hj
theorem H7(g:GN r ns H)(hj:ns[j]? =some x)(h:ρ[i]? =some (some (.ref r)))(hk:ρ[k]? =some (some (.int j))):Ev P C ρ H X (.prim false .item [.var i,.var k]) (.ref x.d):=
 ev_p2 (ev_var h) (ev_var hk) (kR g.row (by rw [aO,hj];rfl))
theorem jy(g:GN r ns H)(hj:ns[j]? =some x)(h:ρ[i]? =some (some (.ref r)))(hk:ρ[k]? =some (some (.int j)))(e:ft key tv (tz x)=some v):Ev P C ρ H X (.prim false .item [.prim false .item [.var i,.var k],.cst (.str key)]) v:=
 ev_p2 (H7 g hj h hk) an (iQ (g.dic hj) e)
theorem nZ(g:GN r ns H)(h:ρ[i]? =some (some (.ref r))):Ev P C ρ H X (.prim false .len [.var i]) (ni ns.length):=ev_eq (cD (ev_var h) (gL g.row)) (congrArg ni (ah _))
theorem uN{a b c e:Ex}{u z:Int}{t:Bool}{dp:Nat}(ha:Ev P C ρ H X a (.int u))(hb:Ev P C ρ H X b (.bool t))(hc:Ev P C ρ H X c (.int dp))(he:Ev P C ρ (H++[.list []]) X e (.int z))(q:R (.ref (H.length+1)) (H++[.list []]++[.dict tv (tz ⟨H.length+1,H.length,u,t,dp,[],z⟩)])) :
  cz P C (.prim true (.mkdict tv) [a,b,c,.prim true .mklist [],e]) ρ H R X:=
 ha _ (hb _ (hc _ (jr (he _ (hE rfl ((congrArg V.ref (af (as:=H) (bs:=[O.list []]))).symm▸q):g7 (aY P true (.mkdict tv) (tz ⟨H.length+1,H.length,u,t,dp,[],z⟩) (H++[.list []])) R)))))
theorem E8{y:Nd}:∀{ns:List Nd} {u:Nat} {x:Nd},ns[u]? =some x->y.a=x.a/\y.d=x.d/\tz y=tz x->(ns.flatMap ER).set (2*u) (x.a,iN y)=(ns.set u y).flatMap ER:=by
 intro ns
 induction ns with
 |nil=>exact λh=>nomatch h
 |cons z ns ih=>
  intro u x h e
  cases u with
  |zero=>
   haveI h:z=x:=ai h
   subst h
   refine(?_:(z.a,iN y)::(z.d,.dict tv (tz z))::ns.flatMap ER=(y.a,iN y)::(y.d,.dict tv (tz y))::ns.flatMap ER)
   rw [e.1,e.2.1,e.2.2]
  |succ u=>exact congrArg (λt=>(z.a,iN z)::(z.d,O.dict tv (tz z))::t) (ih (u:=u) h e)
theorem Go:∀{ns:List Nd} {u:Nat} {x:Nd},ns[u]? =some x->(ns.flatMap ER)[2*u]? =some (x.a,iN x):=by
 intro ns
 induction ns with
 |nil=>exact λh=>nomatch h
 |cons z ns ih=>
  intro u x h
  cases u with
  |zero=>exact congrArg (λz=>some (z.a,iN z)) (ai h)
  |succ u=>exact ih (u:=u) h
noncomputable def rG(y:Nd)(n:Nat):Nd:={y with inner:=y.inner++[n]}
theorem Ew{u:Nat}{y:Nd}{m:Nat}(h:ns[u]? =some y):(ns.set u (rG y m)).map (λx=>V.ref x.d)=ns.map λx=>V.ref x.d:=by
 rw [CV]
 refine fi λl=>?_
 rw [fj]
 by_cases q:u=l
 ·subst q
  rw [if_pos rfl,aO,h]
  exact if_pos (by rw [ah];exact(ae.mp h).1)
 ·rw [if_neg q]
theorem Cl.push{u:Nat}{y:Nd}(c:Cl B (LN r ns) H)(h:ns[u]? =some y)(m:Nat):Cl B (LN r (ns.set u (rG y m))) (H.set y.a (.list (y.inner.map ni++[ni m]))):=by
 haveI z:=c.set (2*u+1) (a:=y.a) (o':=iN (rG y m)) (Go h)
 unfold LN
 rw [Ew h,<-E8 (y:=rG y m) h ⟨rfl,rfl,rfl⟩,show O.list (y.inner.map ni++[ni m])=iN (rG y m)from congrArg O.list (aB (f:=ni) (l₁:=y.inner) (l₂:=[m])).symm]
 exact z
theorem yb{e1 e2 e5:Ex}{u:Nat}{y:Nd}{z:Int}{t:Bool}(c:Cl B (LN r ns) H)(hb:B.length<=H.length)(hu:ns[u]? =some y)(hl:ns.length<=60)(hil:y.inner.length<=60)(h2:ρ[2]? =some (some (.ref r)))(hi:ρ[i]? =some (some (.int u)))(h8:8<ρ.length)(hi8:i≠8)
  (h1:∀H,Ev P C (ρ.set 8 (some (ni (y.deep+1)))) H X e1 (.int u))(h3:∀H,Ev P C (ρ.set 8 (some (ni (y.deep+1)))) H X e2 (.bool t))(h5:∀H,GN r (ns.set u (rG y ns.length)) H->Ev P C (ρ.set 8 (some (ni (y.deep+1)))) H X e5 (.int z))
  (q:∀d a H',Cl B (LN r (ns.set u (rG y ns.length)++[⟨d,a,u,t,y.deep+1,[],z⟩])) H'->B.length<=H'.length->a7 P C ss (ρ.set 8 (some (ni (y.deep+1)))) H' K R X) :
  a7 P C (.expr (.mcall .list false .append (.prim false .item [.prim false .item [.var 2,.var i],.cst (.str ['i','n','n','e','r'])]) [.prim false .len [.var 2]])::
   .asg 8 (.prim false (.bop .add) [.prim false .item [.prim false .item [.var 2,.var i],.cst (.str ['d','e','e','p'])],.cst (.int 1)])::
   .expr (.mcall .list false .append (.var 2) [.prim true (.mkdict tv) [e1,e2,.var 8,.prim true .mklist [],e5]])::ss) ρ H K R X:=by
 have sz:∀{j:Nat},j<=60->j<=az:=λh=>aa h (by decide)
 have g:=c.gn
 refine st_mc1 (jy g hu h2 hi rfl) (d8 (g.inn hu)) (nZ g h2) (hE (dU (g.inn hu) (aa (ao (ah _)) (sz hil))) ?_)
 have c1:=c.push hu ns.length
 have hu1:(ns.set u (rG y ns.length))[u]? =some (rG y ns.length):=bS (ae.mp hu).1
 refine br (v:=ni (y.deep+1)) (ev_p2 (jy c1.gn hu1 h2 hi rfl) an dR) h8 ?_
 haveI h2':(ρ.set 8 (some (ni (y.deep+1))))[2]? =some (some (.ref r)):=(bp (by decide)).trans h2
 have hb1:=aa hb (ao (aR (as:=H) (i:=y.a) (a:=O.list (y.inner.map ni++[ni ns.length]))).symm)
 haveI c2:=c1.new (.list []) hb1
 haveI c3:=c2.new (.dict tv (tz ⟨(H.set y.a (.list (y.inner.map ni++[ni ns.length]))).length+1,(H.set y.a (.list (y.inner.map ni++[ni ns.length]))).length,u,t,y.deep+1,[],z⟩)) (aa hb1 dQ)
 refine st_expr (y7 (ev_var h2') (d8 c1.gn.row) (uN (h1 _) (h3 _) (ev_var (bS h8)) (h5 _ λp hp=>dt (c1.gn p hp)) (hE (dU (c3.get 0 rfl) ?_) ?_)))
 ·rw [ah,aR];exact sz hl
 ·refine q ((H.set y.a (.list (y.inner.map ni++[ni ns.length]))).length+1) (H.set y.a (.list (y.inner.map ni++[ni ns.length]))).length _ ?_ (aa hb1 (aa dQ (aa dQ (ao aR.symm))))
  haveI c4:=c3.set 0 (o':=.list ((ns.set u (rG y ns.length)).map (λx=>.ref x.d)++[.ref ((H.set y.a (.list (y.inner.map ni++[ni ns.length]))).length+1)])) rfl
  haveI e:∀{x:Nd} {l:List Nd} {o:O},LN r (l++[x])=(r,.list (l.map (λx=>.ref x.d)++[.ref x.d]))::(l.flatMap ER++[(x.a,iN x)]++[(x.d,.dict tv (tz x))]):=λ{x l o}=>by
   unfold LN
   rw [aB,bo,aj];rfl
  rw [e (o:=.list [])]
  rw [show(H.set y.a (.list (y.inner.map ni++[ni ns.length]))++[O.list []]).length=(H.set y.a (.list (y.inner.map ni++[ni ns.length]))).length+1 from af]at c4
  exact c4
end
structure Lim(y:Nd):Prop where
 le:y.inner.length<=8
 nd:y.inner.Nodup
 dp:y.deep<=if y.w=true then 6 else 7
 wk:y.w=false->y.inner=[]
structure Tr(ns:List Nd):Prop where
 top:∃x,ns[0]? =some x/\x.w=true/\x.deep=1
 tup:∀(i:Nat) (x:Nd),ns[i]? =some x->i=0->x.up=-1
 up:∀(i:Nat) (x:Nd),ns[i]? =some x->0<i->∃(j:Nat) (y:Nd),ns[j]? =some y/\j<i/\x.up=j/\i∈y.inner
 inn:∀(j:Nat) (y:Nd),ns[j]? =some y->∀i∈y.inner,∃x,ns[i]? =some x/\j<i/\x.up=j/\x.deep=y.deep+1
 lim:∀(j:Nat) (y:Nd),ns[j]? =some y->Lim y
section
variable {ns:List Nd}{u i:Nat}{x y z:Nd}
noncomputable def ta(u n i:Nat)(x:Nd):Nd:=if i=u then rG x n else x
theorem jl{F:Nd->Prop}(h:F x)(h':∀l,F {x with inner:=l}){n:Nat}:F (ta u n i x):=by
 unfold ta
 by_cases e:i=u
 ·rw [if_pos e];exact h' _
 ·rw [if_neg e];exact h
theorem vM{n k:Nat}(h:k∈x.inner):k∈(ta u n i x).inner:=by
 unfold ta
 by_cases e:i=u
 ·rw [if_pos e];exact av _ h
 ·rw [if_neg e];exact h
theorem lj(hu:ns[u]? =some y)(h:ns[i]? =some x):(ns.set u (rG y ns.length)++[z])[i]? =some (ta u ns.length i x):=by
 haveI l:=(ae.mp h).1
 rw [bl (aR.symm▸l),fj]
 unfold ta
 by_cases e:u=i
 ·subst e
  rw [if_pos rfl,if_pos l,if_pos rfl,ai (hu.symm.trans h)]
 ·rw [if_neg e,if_neg (Ne.symm e)];exact h
theorem vh:(ns.set u (rG y ns.length)++[z])[ns.length]? =some z:=by
 haveI:=di (l:=ns.set u (rG y ns.length)) (a:=z)
 rw [aR]at this
 exact this
theorem lA{F:Nat->Nd->Prop}(hu:ns[u]? =some y)(hz:F ns.length z)(ho:∀(i:Nat) (x:Nd),ns[i]? =some x->F i (ta u ns.length i x)):∀(i:Nat) (x:Nd),(ns.set u (rG y ns.length)++[z])[i]? =some x->F i x:=by
 intro i x h
 haveI l:=(ae.mp h).1
 rw [af,aR]at l
 by_cases e:i=ns.length
 ·subst e
  exact ai (vh.symm.trans h)▸hz
 ·have l:i<ns.length:=oH (du l) e
  haveI h':=aH l
  exact ai ((lj hu h').symm.trans h)▸ho i _ h'
theorem Tr.add(T:Tr ns)(hu:ns[u]? =some y)(hy:y.w=true)(hl:y.inner.length<8)(hz:z.up=u/\z.deep=y.deep+1/\z.inner=[]/\(z.w=true->y.deep<6)):Tr (ns.set u (rG y ns.length)++[z]) where
 top:=dm T.top λx h0 hw hd=>⟨_,lj hu h0,jl (F:=λx=>x.w=true) hw λ_=>hw,jl (F:=λx=>x.deep=1) hd λ_=>hd⟩
 tup:=lA hu (λz=>absurd (z▸(ae.mp hu).1) (Nat.not_lt_zero u)) λi x h z=>jl (F:=λx=>x.up=-1) (T.tup i x h z) λ_=>T.tup i x h z
 up:=lA hu (λ_=>⟨u,_,lj hu hu,(ae.mp hu).1,hz.1,by unfold ta;rw [if_pos rfl];exact ak _ (.head _)⟩) λi x h hi=>gP (T.up i x h hi) λj w hj hji e hm=>⟨j,_,lj hu hj,hji,jl (F:=λx=>x.up=j) e λ_=>e,vM hm⟩
 inn:=lA hu (hz.2.2.1.symm▸qY) λj w h k hk=>by
  have old:k∈w.inner->∃x,(ns.set u (rG y ns.length)++[z])[k]? =some x/\j<k/\x.up=j/\x.deep=(ta u ns.length j w).deep+1:=λhk=>dg (T.inn j w h k hk) λx hx l e d=>⟨_,lj hu hx,l,jl (F:=λx=>x.up=j) e λ_=>e,jl (F:=λt=>(ta u ns.length k x).deep=t.deep+1) (jl (F:=λx=>x.deep=w.deep+1) d λ_=>d) λ_=>jl (F:=λx=>x.deep=w.deep+1) d λ_=>d⟩
  by_cases e:j=u
  ·subst e
   haveI ew:=ai (hu.symm.trans h)
   subst ew
   unfold ta at hk
   rw [if_pos rfl]at hk
   refine(bT.mp hk).elim old λhk=>⟨z,by rw [in1 hk];exact vh,in1 hk▸(ae.mp hu).1,hz.1,?_⟩
   unfold ta
   rw [if_pos rfl];exact hz.2.1
  ·unfold ta at hk
   rw [if_neg e]at hk
   exact old hk
 lim:=lA hu ⟨hz.2.2.1.symm▸aQ _,hz.2.2.1.symm▸cR,by
   haveI d:=(T.lim u y hu).dp
   rw [hy,if_pos rfl]at d
   rw [hz.2.1]
   by_cases e:z.w=true
   ·rw [if_pos e];exact hz.2.2.2 e
   ·rw [if_neg e];exact ax d,λ_=>hz.2.2.1⟩ λj w h=>by
  have L:=T.lim j w h
  unfold ta
  by_cases e:j=u
  ·subst e
   have ew:=ai (hu.symm.trans h)
   subst ew
   rw [if_pos rfl]
   refine⟨by show(y.inner++[ns.length]).length<=8;rw [af];exact hl,a8.mpr ⟨L.nd,bg.mpr ⟨aZ,cR⟩,λa ha b hb=>?_⟩,L.dp,λq=>absurd (hy.symm.trans q) gx⟩
   exact in1 hb▸dg (T.inn _ _ hu a ha) λx hx _ _ _=>d9 (ae.mp hx).1
  ·rw [if_neg e];exact L
end
noncomputable def Eh:St->List St
 |.forIn _ _ _ b=>b
 |_=>[]
section
variable {n:Nat}{B H:AH}{K:KS}{Q:QE}{X:XE}{zs:List Int}{m r:Nat}{ns:List Nd}
theorem Ja{i:Int}(h:0<=i)(q:Q (.int (zs.getD i.toNat 0)) H):aJ PL (n+1) 9 [.lst (zs.map V.int),.int i] H Q X:=by
 refine cf JG rfl (cZ (ev_p2 (ev_var rfl) (cD (ev_var rfl) mZ) jx) (λhd=>?_) λhd=>?_)
 ·have hl:i.toNat<zs.length:=(fF h).mpr (ah V.int▸of_decide_eq_true hd)
  have e:(zs.map V.int)[i.toNat]? =some (.int (zs.getD i.toNat 0)):=by rw [aO,gb,aH hl];rfl
  refine ev_ret (ev_p2 (ev_var rfl) (ev_var rfl) ?_) q
  haveI z:=kS (P:=PL) (H:=H) e
  rw [bO h]at z
  exact z
 ·haveI hd:=dB.mp (of_decide_eq_false hd)
  rw [ah,<-bO h]at hd
  have hl:zs.length<=i.toNat:=ca.mp hd
  rw [gb,eQ hl]at q
  exact ev_ret an q
noncomputable def HB(zs:List Int)(m r:Nat)(o:Nat->Option V):Fm:=[some (.lst (zs.map V.int)),some (ni m),some (.ref r),o 3,o 4,o 5,o 6,o 7,o 8]
theorem l7{a b c d e f:Option V}:∃o,[some (.lst (zs.map V.int)),some (ni m),some (.ref r),a,b,c,d,e,f]=HB zs m r o:=⟨λi=>([a,b,c,d,e,f][i-3]?).join,rfl⟩
def NI1(B:AH)(zs:List Int)(m r:Nat)(its:List Nat)(ρ:Fm)(H:AH):Prop:=∃ns,(∃o,ρ=HB zs m r o)/\Cl B (LN r ns) H/\Tr ns/\(ns.length+its.length<=m/\B.length<=H.length)/\∀j∈its,j<=60
noncomputable def Hn(ns:List Nd)(j:Nat):Bool:=(ns[j]?).any λx=>x.w&&decide ((x.inner.length:Int)<8)
theorem FG{u:Nat}(h:u∈(aV ns.length).filter (Hn ns)):∃y,ns[u]? =some y/\y.w=true/\y.inner.length<8:=by
 have h1:=bU.mp h
 haveI e:=aH (bx.mp h1.1)
 haveI h2:=h1.2
 unfold Hn at h2
 rw [e]at h2
 haveI h2:=ay.mp h2
 exact⟨_,e,h2.1,cu.mp (of_decide_eq_true h2.2)⟩
theorem CD{P:Prog}{l:List Nat}{z:Int}(h:l≠[]):∃w,w∈l/\aY P false .item [.lst (l.map ni),.int (z%((l.map ni).length:Int))] H=some (ni w,H):=by
 haveI hp:0<((l.map ni).length:Int):=by rw [ah];exact cu.mpr (gE.mpr h)
 exact ea1_2 (lN (P:=P) (H:=H) (iz (a:=z) hp).1 (iz (a:=z) hp).2) λv hv e=>ea1_2 (aG.mp hv) λw hw ew=>⟨w,hw,ew▸e⟩
theorem C2{l:List Nat}:(!gf (.lst (l.map ni)) (.lst []))=true->l≠[]:=λh e=>by subst e;exact absurd h am
theorem n12{k:Nat}(h:k<=60):-10 ^ 12<=(k:Int)/10/\(k:Int)/10<=10 ^ 12:=yA (m:=k/10) (aa (Nat.div_le_self _ _) (aa h (by decide)))
theorem n13{a b m:Nat}(h:a+(b+1)<=m):a+1+b<=m/\a+b<=m/\a<=m:=⟨bD a b 1▸h,Kx h,aa (aq a _) h⟩
theorem Im{k:Nat}{its:List Nat}{o:Nat->Option V}{K':KS}(hm:m<=30)(c:Cl B (LN r ns) H)(T:Tr ns)(hl:ns.length+(its.length+1)<=m)(hb:B.length<=H.length)(hk:k<=60)(hj:∀j∈its,j<=60)(hK:∀ρ'' H'',NI1 B zs m r its ρ'' H''->K' ρ'' H'') :
  a7 PL (aJ PL (n+1)) (Eh (Cj.body.getD 1 .pass)) ((HB zs m r o).set 3 (some (ni k))) H K' Q X:=by
 have g:=c.gn
 haveI hl':=n13 hl
 refine br (ev_p2 (gk (ev_var rfl) (ev_p2 an (ev_p2 (ev_var rfl) an (c9 (by decide))) dR) λQ q=>Ja (mW (by decide) (iz (by decide)).1) q) (ev_p2 an (ev_p2 (ev_var rfl) an (c7 (by decide) (by decide))) (zd (by decide) (n12 hk))) dR) (bW rfl) ?_
 generalize zs.getD _ 0+11*((k:Int)/10)=z
 refine br (v:=.lst (((aV ns.length).filter (Hn ns)).map ni)) (ip (l:=aV ns.length) (f:=ni) (g:=ni) (p:=Hn ns) (cD (nZ g rfl) (fY (yA (aa hl'.2.2 (aa hm (by decide)))))) ?_ ?_ (λj hj=>?_) λj _ _=>ev_var rfl) (bW rfl) ?_
 ·exact congrArg some ((rfl:iL 0 ns.length=iL (0:Nat) ns.length).trans (j6.trans (by rw [bB,qR];exact cb λk _=>congrArg ni (da k))))
 ·rw [ba];exact aa hl'.2.2 (aa hm (by decide))
 ·haveI e:=aH (bx.mp hj)
  refine ev_eq (b8 (jy g e rfl rfl rfl) λ_=>ev_p2 (cD (jy g e rfl rfl rfl) (gL (g.inn e))) an jx) ?_
  unfold Hn
  rw [e,ah];rfl
 refine cZ (ev_p2 (ev_var rfl) (aK rfl) (lO (nE (f:=ni) λ_=>trivial) jG)) (λhn=>?_) λ_=>hK _ _ ⟨ns,l7,c,T,⟨hl'.2.1,hb⟩,hj⟩
 refine ea1_2 (CD (P:=PL) (H:=H) (z:=z/4) (C2 hn)) λu hu eu=>dm (FG hu) λy hy hw h8=>?_
 refine br (ev_p2 (ev_var rfl) (ev_p2 (ev_p2 (ev_var rfl) an (c7 (by decide) (by decide))) (cD (ev_var rfl) mZ) (c9 ?_)) eu) (bW rfl) ?_
 ·rw [ah];exact cu.mpr (gE.mpr (C2 hn))
 refine br (b8 (ev_p2 (ev_p2 (ev_var rfl) an (c9 (by decide))) an (fS dz dz)) λ_=>ev_p2 (jy g hy rfl rfl rfl) an jx) (bW rfl) ?_
 refine yb c hb hy (aa hl'.2.2 (aa hm (by decide))) (aa (eB h8) (by decide)) rfl rfl (bW rfl) (by decide) (λ_=>ev_var rfl) (λ_=>ev_var rfl) (λ_ _=>ev_p2 (ev_var rfl) an (c7 (by decide) (by decide))) λd a H' c' hb'=>hK _ _ ⟨_,l7,c',T.add hy hw h8 ⟨rfl,rfl,rfl,λht=>cu.mp (of_decide_eq_true (ay.mp ht).2)⟩,⟨?_,hb'⟩,hj⟩
 rw [af,aR];exact hl'.1
end
theorem Dl{α0:Type}{A0 A1 A2 A3 A4 A5:α0->Prop}{G:Prop}(h:∃a0,A0 a0/\A1 a0/\A2 a0/\A3 a0/\A4 a0/\A5 a0)(k:∀a0,A0 a0->A1 a0->A2 a0->A3 a0->A4 a0->A5 a0->G):G:=h.elim λa0 h=>k a0 h.1 h.2.1 h.2.2.1 h.2.2.2.1 h.2.2.2.2.1 h.2.2.2.2.2
theorem wf{l:List V}(h:gf (.lst l) (.lst [])=true):l=[]:=by
 cases l with
 |nil=>rfl
 |cons _ _=>exact absurd h am
section
variable {n:Nat}{B H:AH}{K:KS}{Q:QE}{X:XE}{zs:List Int}{m r:Nat}{ns:List Nd}
theorem tq{m:Nat}:iL 0 m=(aV m).map ni:=(show iL 0 m=iL (0:Nat) m from rfl).trans (j6.trans (by rw [bB,qR];exact cb λk _=>congrArg ni (da k)))
def Emp(ns:List Nd)(its:List Nat):Prop:=∀(i:Nat) (x:Nd),ns[i]? =some x->x.w=true->x.inner≠[]\/i∈its
def NI2(B:AH)(zs:List Int)(m r:Nat)(its:List Nat)(ρ:Fm)(H:AH):Prop:=∃ns,(∃o,ρ=HB zs m r o)/\Cl B (LN r ns) H/\Tr ns/\(ns.length+its.length<=60/\B.length<=H.length)/\Emp ns its/\∀j∈its,j<ns.length
theorem Iw{k:Nat}{its:List Nat}{o:Nat->Option V}{K':KS}(c:Cl B (LN r ns) H)(T:Tr ns)(hl:ns.length+(its.length+1)<=60)(hb:B.length<=H.length)(he:Emp ns (k::its))(hj:∀j∈k::its,j<ns.length)(hK:∀ρ'' H'',NI2 B zs m r its ρ'' H''->K' ρ'' H'') :
  a7 PL (aJ PL (n+1)) (Eh (Cj.body.getD 2 .pass)) ((HB zs m r o).set 3 (some (ni k))) H K' Q X:=by
 have g:=c.gn
 haveI hl':=n13 hl
 refine(⟨_,aH (hj k (.head _))⟩:∃y,ns[k]? =some y).elim λy e=>?_
 have hj':∀j∈its,j<ns.length:=λj h=>hj j (.tail _ h)
 refine cZ (b8 (jy g e rfl rfl rfl) λ_=>ev_p2 (jy g e rfl rfl rfl) (aK rfl) (fS (CN (g.inn e)) jG)) (λh=>?_) λh=>hK _ _ ⟨ns,l7,c,T,⟨hl'.2.1,hb⟩,λi x hx hw=>?_,hj'⟩
 ·have h:=ay.mp h
  have h0:y.inner=[]:=oj.mp (wf h.2)
  refine yb c hb e hl'.2.2 (h0.symm▸aQ _) rfl rfl (bW rfl) (by decide) (λ_=>ev_var rfl) (λ_=>an) (λH' g'=>ev_p2 (jy g' (bS (hj k (.head _))) rfl rfl rfl) an (c7 (by decide) (by decide))) λd a H' c' hb'=>hK _ _ ⟨_,l7,c',T.add e h.1 (h0.symm▸(by decide:0<8)) ⟨rfl,rfl,rfl,λz=>absurd z am⟩,⟨?_,hb'⟩,?_,λj hj=>?_⟩
  ·rw [af,aR];exact hl'.1
  ·refine lA e (λz=>absurd z am) λi x hx hw=>?_
   haveI hw:x.w=true:=jl (F:=λt=>t.w=true->x.w=true) id (λ_=>id) hw
   refine(he i x hx hw).elim (λh=>.inl (λz=>?_)) λh=>dN h (λh=>.inl λz=>?_) .inr
   ·exact h (List.eq_nil_iff_forall_not_mem.mpr λk hk=>aZ (z▸vM hk))
   ·subst h
    unfold ta at z
    rw [if_pos rfl]at z
    exact absurd (List.append_eq_nil_iff.mp z).2 (sP _ _)
  ·rw [af,aR];exact Nat.lt_succ_of_lt (hj' j hj)
 ·refine (he i x hx hw).elim .inl λh'=>dN h' (λz=>.inl λz'=>?_) .inr
  subst z
  haveI ex:=ai (e.symm.trans hx)
  rw [ex,hw,z']at h
  exact absurd h (gx:¬true=false)
structure Tree(ns:List Nd):Prop where
 tr:Tr ns
 le:ns.length<=60
 ne:∀(i:Nat) (x:Nd),ns[i]? =some x->x.w=true->x.inner≠[]
theorem f14(h2:2<=m)(hm:m<=30)(q:∀ns H',Cl B (LN (B.length+2) ns) H'->Tree ns->Q (.ref (B.length+2)) H'):aJ PL (n+2) 13 [.lst (zs.map V.int),ni m] B Q X:=by
 refine cf Eu rfl (dT (nP (uN (cD an tY) an (dp:=1) an (gk (ev_var rfl) an λQ q=>Ja (by decide) q) (hE (ml wQ) ⟨bW rfl,?_⟩))))
 generalize zs.getD _ 0=z
 haveI c0:Cl B (LN (B.length+2) [⟨B.length+1,B.length,-1,true,1,[],z⟩]) (B++[.list []]++[.dict tv (tz ⟨B.length+1,B.length,-1,true,1,[],z⟩)]++[.list [.ref (B.length+1)]]):=by
  rw [aj,aj]
  refine⟨?_,eJ ⟨pB (j:=2),aq _ _⟩ (eJ ⟨pB (j:=0),aI _⟩ (dk ⟨pB (j:=1),aq _ _⟩)),λa ha=>bl ha⟩
  exact om.map (B.length+·) (λa b (h:a≠b) e=>h (ol e)) (by decide:([2,0,1]:List Nat).Nodup)
 haveI T0:Tr [⟨B.length+1,B.length,-1,true,1,[],z⟩]:=⟨⟨_,rfl,rfl,rfl⟩,λi x h z=>by subst z;exact ai h▸rfl,λi x h h0=>?_,λj y h=>?_,λj y h=>?_⟩
 ·haveI hl:(B++[O.list []]++[O.dict tv (tz ⟨B.length+1,B.length,-1,true,1,[],z⟩)]).length=B.length+2:=by rw [af,af];rfl
  rw [hl]
  refine d5 (NI1 B zs m (B.length+2)) (f:=ni) (l:=(aV (m-1)).map (1+·)) (v:=.rng 1 m) (ev_p2 an (ev_var rfl) (pJ (by decide) (yA (aa hm (by decide))))) (λ_ _ _ _=>congrArg some (j6 (a:=1))) ?_ ⟨_,l7,c0,T0,⟨?_,?_⟩,λj hj=>?_⟩ (λk its ρ' H' hI K' hK=>yv hI λns e c T l hj=>e.elim λo e=>?_) λρ' H' hI=>yv hI λns e c T l hj=>e.elim λo e=>?_
  ·rw [ah,ba];exact aa (eK _ _) (aa hm (by decide))
  ·rw [ah,ba];exact ao (ji (show 1<=m from aa (by decide) h2))
  ·exact aa dQ (aa dQ dQ)
  ·refine ea1_2 (aG.mp hj) λk hk e=>?_
   exact e▸aa (ao (ce 1 k)) (aa (bx.mp hk) (aa (eK _ _) (aa hm (by decide))))
  ·subst e
   exact Im hm c T l.1 l.2 (hj k (.head _)) (λj h=>hj j (.tail _ h)) hK
  ·subst e
   haveI l0:ns.length<=30:=aa l.1 hm
   refine d5 (NI2 B zs m (B.length+2)) (f:=ni) (l:=aV ns.length) (v:=.rng 0 ns.length) (cD (nZ c.gn rfl) (fY (yA (aa l0 (by decide))))) (λ_ _ _ _=>congrArg some tq) (by rw [ba];exact aa l0 (by decide)) ⟨ns,l7,c,T,⟨?_,l.2⟩,λi x hx _=>.inr (bx.mpr (ae.mp hx).1),λj hj=>bx.mp hj⟩ (λk its ρ' H' hI K' hK=>Dl hI λns e c T l he hj=>e.elim λo e=>?_) λρ' H' hI=>Dl hI λns e c T l he hj=>e.elim λo e=>?_
   ·rw [ba];exact bP l0 l0
   ·subst e
    exact Iw c T l.1 l.2 he hj hK
   ·subst e
    exact ev_ret (ev_var rfl) (q ns H' c ⟨T,l.1,λi x hx hw=>(he i x hx hw).elim id λh=>absurd h aZ⟩)
 ·cases i with
  |zero=>exact absurd h0 (cm 0)
  |succ i=>exact nomatch h
 ·cases j with
  |zero=>exact ai h▸qY
  |succ j=>exact nomatch h
 ·cases j with
  |zero=>exact ai h▸⟨aQ _,cR,(by decide:1<=6),λh=>absurd h gx⟩
  |succ j=>exact nomatch h
end
theorem jF{α:Type}{P:Prog}{H:AH}{l:List α}{f:α->V}(d:α){c L:Int}(hL:(l.length:Int)=L)(h0:0<L):aY P false .item [.lst (l.map f),.int (c%L)] H=some (f (l.getD (c%L).toNat d),H)/\l.getD (c%L).toNat d∈l:=by
 haveI h:=iz (a:=c) h0
 have hl:(c%L).toNat<l.length:=(fF h.1).mpr (hL.symm▸h.2)
 have e:l.getD (c%L).toNat d=l[(c%L).toNat]:=by rw [gb,aH hl];rfl
 haveI z:=kS (P:=P) (H:=H) (vs:=l.map f) (j:=(c%L).toNat) (v:=f (l.getD (c%L).toNat d)) (by rw [aO,e,aH hl];rfl)
 rw [bO h.1]at z
 exact⟨z,e▸sO hl⟩
def Kq(P:Prog)(C:Calls)(ρ:Fm)(H:AH)(X:XE)(es:List Ex)(vs:List V):Prop:=∀Q:List V->AH->Prop,Q vs H->fR P C es ρ H Q X
section
variable {P:Prog}{C:Calls}{ρ:Fm}{H:AH}{X:XE}{e:Ex}{es:List Ex}{v:V}{vs:List V}{p:Prim}
theorem pi:Kq P C ρ H X [] []:=λ_ q=>q
theorem eU(h:Ev P C ρ H X e v)(k:Kq P C ρ H X es vs):Kq P C ρ H X (e::es) (v::vs):=λ_ q=>h _ (k _ q)
theorem pO(h:Kq P C ρ H X es vs)(e:aY P false p vs H=some (v,H)):Ev P C ρ H X (.prim false p es) v:=λ_ q=>h _ (hE e q)
end
noncomputable def JA:List Nm:=[['a','l','w','a','y','s'],['f','a','u','l','t','e','d'],['n','e','v','e','r'],['f','a','u','l','t','e','d']]
noncomputable def CA(c:Int):Nm:=JA.getD (c%4).toNat []
noncomputable def G4(c:Int):Nm:=fW.getD (c%3).toNat []
noncomputable def zW(c:Int):List Int:=[0,1,2,1,3,1000000000,c/6%9,c/6%1000000001]
noncomputable def J3(c:Int):Int:=(zW c).getD (c%8).toNat 0
noncomputable def xh(c:Int):List Int:=[3,1,1000000000,2,1+c/6%12,1+c/6%1000000000]
noncomputable def G5(c:Int):Int:=(xh c).getD (c%6).toNat 0
noncomputable def E5(k:Nat)(c:Int):Int:=if(gf (ni k) (.int 0)&&decide (0<c/3%4))=true then min 1000000000 (J3 (c/3)+4)else J3 (c/3)
section
variable {n:Nat}{H:AH}{K:KS}{Q:QE}{X:XE}{c:Int}
theorem uy:CA c∈jY:=(by decide:∀x∈JA,x∈jY) _ (jF (P:=PL) (H:=[]) (f:=V.str) (l:=JA) (L:=4) [] rfl (by decide)).2
theorem qg:G4 c∈fW:=(jF (P:=PL) (H:=[]) (f:=V.str) (l:=fW) (L:=3) [] rfl (by decide)).2
theorem Gv{a b d:Int}(h:0<b)(hd:b<=d):0<=a%b/\a%b<=d:=⟨(iz h).1,bu (fc (iz h).2) hd⟩
theorem vN{a b d:Int}(h:0<b)(hd:b<=d):1<=1+a%b/\1+a%b<=d:=⟨wP (iz h).1,Int.add_comm 1 _▸bu (iz h).2 hd⟩
theorem DZ:0<=J3 c/\J3 c<=1000000000:=(eJ (by decide) (eJ (by decide) (eJ (by decide) (eJ (by decide) (eJ (by decide) (eJ (by decide) (eJ (Gv (by decide) (by decide)) (dk ⟨(iz (by decide)).1,Int.le_of_lt_add_one (iz (by decide)).2⟩))))))):∀x∈zW c,0<=x/\x<=1000000000) _ (jF (P:=PL) (H:=[]) (f:=V.int) (l:=zW c) (L:=8) 0 rfl (by decide)).2
theorem yj:1<=G5 c/\G5 c<=1000000000:=(eJ (by decide) (eJ (by decide) (eJ (by decide) (eJ (by decide) (eJ (vN (by decide) (by decide)) (dk (vN (by decide) (by decide))))))):∀x∈xh c,1<=x/\x<=1000000000) _ (jF (P:=PL) (H:=[]) (f:=V.int) (l:=xh c) (L:=6) 0 rfl (by decide)).2
theorem DP{k:Nat}:0<=E5 k c/\E5 k c<=1000000000:=by
 unfold E5
 haveI h:=DZ (c:=c/3)
 by_cases e:(gf (ni k) (.int 0)&&decide (0<c/3%4))=true
 ·rw [if_pos e];exact⟨Int.le_min.mpr ⟨by decide,mW h.1 (by decide)⟩,Int.min_le_left _ _⟩
 ·rw [if_neg e];exact h
theorem f16(q:Q (.int (J3 c)) H):aJ PL (n+1) 15 [.int c] H Q X:=
 cf Ft rfl (ev_ret (ev_p2 (pO (vs:=(zW c).map V.int) (eU an (eU an (eU an (eU an (eU an (eU (aK rfl) (eU (ev_p2 (ev_p2 (ev_var rfl) an (c7 (by decide) (by decide))) an (c9 (by decide))) (eU (ev_p2 (ev_p2 (ev_var rfl) an (c7 (by decide) (by decide))) (aK (v:=.int 1000000001) rfl) (c9 (by decide))) pi)))))))) (gH (aU rfl))) (ev_p2 (ev_var rfl) an (c9 (by decide))) (jF (l:=zW c) (L:=8) 0 rfl (by decide)).1) q)
theorem f17(q:Q (.int (G5 c)) H):aJ PL (n+1) 16 [.int c] H Q X:=
 cf GA rfl (ev_ret (ev_p2 (pO (vs:=(xh c).map V.int) (eU an (eU an (eU (aK rfl) (eU an (eU (ev_p2 an (ev_p2 (ev_p2 (ev_var rfl) an (c7 (by decide) (by decide))) an (c9 (by decide))) dR) (eU (ev_p2 an (ev_p2 (ev_p2 (ev_var rfl) an (c7 (by decide) (by decide))) (aK (v:=.int 1000000000) rfl) (c9 (by decide))) dR) pi)))))) (gH (aU rfl))) (ev_p2 (ev_var rfl) an (c9 (by decide))) (jF (l:=xh c) (L:=6) 0 rfl (by decide)).1) q)
end
noncomputable def bd(ns:List Nd)(nm:Nat->Nm):Nat->Nat->V
 |0,_=>.none
 |f+1,k=>(ns[k]?).elim .none λx=>if x.w=true then jZ (nm k) (G4 x.cell) (E5 k x.cell) (G5 (x.cell/24)) (x.inner.map (bd ns nm f))else sS (nm k) (CA x.cell)
noncomputable def nu(nm:Nat->Nm)(m:Nat):V:=.lst ((aV m).map λk=>.str (nm k))
section
variable {n r:Nat}{H:AH}{ns:List Nd}{nm:Nat->Nm}
theorem gZ{P:Prog}{m k:Nat}(h:k<m):aY P false .item [nu nm m,ni k] H=some (.str (nm k),H):=kS (by rw [aO,cc h];rfl)
theorem jV{f k:Nat}{x:Nd}(h:ns[k]? =some x):bd ns nm (f+1) k=if x.w=true then jZ (nm k) (G4 x.cell) (E5 k x.cell) (G5 (x.cell/24)) (x.inner.map (bd ns nm f))else sS (nm k) (CA x.cell):=by
 show(ns[k]?).elim _ _=_
 rw [h];rfl
def KD(H0:AH)(r:Nat)(nv:V)(k:Nat)(c:Int)(rl:Nm)(il:List Nat)(g:Nat->V)(its:List Nat)(ρ:Fm)(H:AH):Prop:=∃o dn,H=H0/\ρ=[some (.ref r),some nv,some (ni k),some (.int c),some (.str rl),some (.tup (dn.map g)),o,none]/\dn++its=il
theorem f18(T:Tr ns)(g:GN r ns H):∀{f k:Nat} {x:Nd} {Q:QE} {X:XE},ns[k]? =some x->f+x.deep=8->Q (bd ns nm f k) H->aJ PL (n+f+1) 17 [.ref r,nu nm ns.length,ni k] H Q X:=by
 intro f
 induction f with
 |zero=>
  intro k x Q X h e q
  haveI:=(T.lim k x h).dp
  exact absurd (aa this (by cases x.w<;>decide)) (sR (ao (e.symm.trans (da _)):7<x.deep))
 |succ f ih=>
  intro k x Q X h e q
  have hk:k<ns.length:=(ae.mp h).1
  rw [jV h]at q
  refine cf F8 rfl (br (jy g h rfl rfl rfl) (bW rfl) (cZ (cN (jy g h rfl rfl rfl)) (λhw=>?_) λhw=>?_))
  ·rw [if_neg λz:x.w=true=>absurd (z▸hw:(!true)=true) am]at q
   exact ev_ret (iE an (ev_p2 (ev_var rfl) (ev_var rfl) (gZ hk)) (ev_p2 (x:=.lst (JA.map V.str)) (aK rfl) (ev_p2 (ev_var rfl) an (c9 (by decide))) (jF (l:=JA) (L:=4) [] rfl (by decide)).1) (eR wV)) q
  ·rw [if_pos (dc _▸hw)]at q
   haveI L:=T.lim k x h
   refine br (ev_p2 (x:=.lst (fW.map V.str)) (aK rfl) (ev_p2 (ev_var rfl) an (c9 (by decide))) (jF (l:=fW) (L:=3) [] rfl (by decide)).1) (bW rfl) (br (aK rfl) (bW rfl) ?_)
   refine d5 (KD H r (nu nm ns.length) k x.cell (G4 x.cell) x.inner (bd ns nm f)) (f:=ni) (l:=x.inner) (jy g h rfl rfl rfl) (λ_ _ _ q=>c6 q λ_ _ e0 _ _=>e0▸d6 (g.inn h)) (aa L.le (by decide)) ⟨none,[],rfl,rfl,rfl⟩ (λi its ρ' H' hI K' hK=>c6 hI λo dn e0 er ed=>?_) λρ' H' hI=>c6 hI λo dn e0 er ed=>?_
   ·subst e0 er
    have hi:i∈x.inner:=ed▸ak dn (.head _)
    refine dg (T.inn k x h i hi) λy hy _ _ hd=>?_
    refine br (ev_p2 (ev_var rfl) (cD (jc (ev_var rfl) (ev_var rfl) (ev_var rfl) λQ q=>ih hy ((congrArg (f+·) hd).trans ((bD f x.deep 1).trans e)) q) (eR wQ)) (Bm ?_)) (bW rfl) (hK _ _ ⟨some (ni i),dn++[i],rfl,?_,(aj dn [i] its).trans ed⟩)
    ·rw [ah]
     exact aa (ax (aa (ed▸dQ) L.le)) (by decide)
    ·rw [aB];rfl
   ·subst e0 er
    have ed:dn=x.inner:=(aA dn).symm.trans ed
    subst ed
    have fin:∀{mv:Int},mv=E5 k x.cell->a7 PL (aJ PL (n+(f+1))) (Eg.body.drop 7) [some (.ref r),some (nu nm ns.length),some (ni k),some (.int x.cell),some (.str (G4 x.cell)),some (.tup (x.inner.map (bd ns nm f))),o,some (.int mv)] H' (λ_ H'=>Q .none H') Q X:=λe=>by
     subst e
     exact ev_ret (pO (eU an (eU (ev_p2 (ev_var rfl) (ev_var rfl) (gZ hk)) (eU (ev_var rfl) (eU (ev_var rfl) (eU (cT (ev_p2 (ev_var rfl) an (c7 (by decide) (by decide))) λQ q=>f17 q) (eU (ev_var rfl) pi)))))) (eR (aU rfl))) q
    refine br (cT (ev_p2 (ev_var rfl) an (c7 (by decide) (by decide))) λQ q=>f16 q) (bW rfl) (cZ (b8 (ev_p2 (ev_var rfl) an (fS dz dz)) λ_=>ev_p2 (ev_p2 (ev_p2 (ev_var rfl) an (c7 (by decide) (by decide))) an (c9 (by decide))) an pz) (λhc=>?_) λhc=>?_)
    ·exact br (ev_p2 (x:=.int 1000000000) (aK rfl) (ev_p2 (ev_var rfl) an dR) FX) (bW rfl) (fin (if_pos hc).symm)
    ·exact fin (if_neg (by rw [hc];exact am)).symm
end
noncomputable def lG(ns:List Nd)(k:Nat):List Nat:=(ns[k]?).elim [] Nd.inner
noncomputable def sub(ns:List Nd):Nat->Nat->List Nat
 |0,_=>[]
 |f+1,k=>k::(lG ns k).flatMap (sub ns f)
section
variable {ns:List Nd}{nm:Nat->Nm}{f k i j:Nat}{x:Nd}
theorem fU(h:ns[k]? =some x):lG ns k=x.inner:=congrArg (Option.elim · [] Nd.inner) h
noncomputable def LQ(ns:List Nd)(i:Nat):Nat:=(ns[i]?).elim 0 λx=>x.up.toNat
noncomputable def Lc(ns:List Nd):Nat->Nat->Nat
 |0,i=>i
 |d+1,i=>LQ ns (Lc ns d i)
theorem Tr.fpos(T:Tr ns)(h:ns[k]? =some x)(e:f+x.deep=8):∃f',f=f'+1:=by
 cases f with
 |zero=>
  haveI:=aa (T.lim k x h).dp (show(if x.w=true then 6 else 7)<=7 by cases x.w<;>decide)
  exact absurd (ao (e.symm.trans (da _))) (sR (Nat.lt_succ_of_le this))
 |succ f=>exact⟨f,rfl⟩
theorem Tr.anc(T:Tr ns):∀{f k:Nat} {x:Nd},ns[k]? =some x->∀i∈sub ns f k,∃d y,ns[i]? =some y/\y.deep=x.deep+d/\Lc ns d i=k:=by
 intro f
 induction f with
 |zero=>exact λ_=>qY
 |succ f ih=>
  intro k x h
  refine eJ ⟨0,x,h,rfl,rfl⟩ λi hi=>ea1_2 (bj.mp hi) λj hj hi=>?_
  rw [fU h]at hj
  refine dg (T.inn k x h j hj) λy hy _ hu hd=>c6 (ih hy i hi) λd z hz e eu=>⟨d+1,z,hz,by rw [e,hd,bt,ce 1],?_⟩
  show LQ ns (Lc ns d i)=k
  unfold LQ
  rw [eu,hy]
  exact congrArg sK hu
theorem Tr.nd(T:Tr ns):∀{f k:Nat} {x:Nd},ns[k]? =some x->(sub ns f k).Nodup:=by
 intro f
 induction f with
 |zero=>exact λ_=>cR
 |succ f ih=>
  intro k x h
  refine bg.mpr ⟨λz=>?_,mD.mpr ⟨λj hj=>?_,?_⟩⟩
  ·refine ea1_2 (bj.mp z) λj hj hk=>?_
   rw [fU h]at hj
   refine dg (T.inn k x h j hj) λy hy _ _ hd=>c6 (T.anc hy k hk) λd z hz e _=>?_
   rw [ai (hz.symm.trans h),hd]at e
   exact absurd e (d9 (bk (cW _) (aq _ _)))
  ·rw [fU h]at hj
   exact dg (T.inn k x h j hj) λy hy _ _ _=>ih hy
  ·rw [fU h]
   refine ky (λ{a b} ha hb hab u hu v hv e=>hab ?_) (T.lim k x h).nd
   subst e
   refine dg (T.inn k x h a ha) λy hy _ _ hd=>dg (T.inn k x h b hb) λy' hy' _ _ hd'=>c6 (T.anc hy u hu) λd z hz e eu=>c6 (T.anc hy' u hv) λd' z' hz' e' eu'=>?_
   rw [ai (hz.symm.trans hz'),e',hd,hd']at e
   rw [<-eu,<-eu',ol e]
theorem Tr.step(T:Tr ns):∀{f k:Nat} {x:Nd},ns[k]? =some x->f+x.deep=8->∀i∈sub ns f k,∀j∈lG ns i,j∈sub ns f k:=by
 intro f
 induction f with
 |zero=>exact λ_ _=>qY
 |succ f ih=>
  intro k x h e
  have e':∀{y:Nd},y.deep=x.deep+1->f+y.deep=8:=λh=>by rw [h,<-bt,bD];exact e
  refine eJ (λj hj=>.tail _ (bj.mpr ⟨j,hj,?_⟩)) λi hi j hj=>ea1_2 (bj.mp hi) λl hl hi=>.tail _ (bj.mpr ⟨l,hl,?_⟩)
  ·rw [fU h]at hj
   refine dg (T.inn k x h j hj) λy hy _ _ hd=>(T.fpos hy (e' hd)).elim λf' ef=>?_
   subst ef
   exact .head _
  ·rw [fU h]at hl
   exact dg (T.inn k x h l hl) λy hy _ _ hd=>ih hy (e' hd) i hi j hj
theorem Tr.all(T:Tr ns):∀{i:Nat},i<ns.length->i∈sub ns 7 0:=by
 intro i
 induction i using Nat.strongRecOn with
 |_ i ih=>
  intro hi
  refine dm T.top λx h0 _ hd=>?_
  cases i with
  |zero=>exact .head _
  |succ i=>exact gP (T.up _ _ (aH hi) (Nat.succ_pos i)) λj y hj hji _ hm=>T.step h0 (hd.symm▸rfl) j (ih j hji (hU hji hi)) _ (fU hj▸hm)
theorem Tr.lt(T:Tr ns)(h:ns[k]? =some x):∀i∈sub ns f k,i<ns.length:=λi hi=>c6 (T.anc h i hi) λd y hy _ _=>(ae.mp hy).1
theorem iq(h:ns[k]? =some x):au (bd ns nm (f+1) k)=nm k:=by
 rw [jV h]
 by_cases e:x.w=true
 ·rw [if_pos e];rfl
 ·rw [if_neg e];rfl
theorem Tr.kids(T:Tr ns)(h:ns[k]? =some x):kids (bd ns nm (f+1) k)=x.inner.map (bd ns nm f):=by
 rw [jV h]
 by_cases e:x.w=true
 ·rw [if_pos e];rfl
 ·rw [if_neg e,(T.lim k x h).wk (cK.mpr e)];rfl
theorem Tr.nms(T:Tr ns):∀{f k:Nat} {x:Nd},ns[k]? =some x->nms f (bd ns nm f k)=(sub ns f k).map nm:=by
 intro f
 induction f with
 |zero=>exact λ_=>rfl
 |succ f ih=>
  intro k x h
  refine(?_:au _::(Mine.kids _).flatMap (Mine.nms f)=nm k::((lG ns k).flatMap (sub ns f)).map nm)
  rw [iq h,T.kids h,fU h,gw,sQ]
  refine congrArg (nm k::·) ?_
  rw [dh,dh]
  exact congrArg qW (cb λi hi=>dg (T.inn k x h i hi) λy hy _ _ _=>ih hy)
end
noncomputable def kP(m:Nat)(nm:Nat->Nm)(a:Nm):Option Nat:=(aV m).find? λk=>nm k==a
noncomputable def hM(x:Nd):Nm:=if x.w=true then G4 x.cell else CA x.cell
noncomputable def FH(x:Nd):Bool:=hM x==['n','e','v','e','r']
noncomputable def Jg(x:Nd):Bool:=!(hM x==['f','a','u','l','t','e','d']||FH x)
noncomputable def sf(x:Nd):Int:=if x.w=true then G5 (x.cell/24)else 0
noncomputable def Gq(k:Nat)(x:Nd):Int:=if x.w=true then E5 k x.cell else 0
noncomputable def cL(ns:List Nd)(nm:Nat->Nm):PI:=⟨λa=>(kP ns.length nm a).bind λk=>(ns[k]?).map Nd.w,λa=>(kP ns.length nm a).bind λk=>if k=0 then none else(ns[k]?).map λx=>nm x.up.toNat,λa=>(kP ns.length nm a).any λk=>(ns[k]?).any Jg,λa=>(kP ns.length nm a).any λk=>(ns[k]?).any FH,λa=>(kP ns.length nm a).elim 0 λk=>(ns[k]?).elim 0 sf,λa=>(kP ns.length nm a).elim 0 λk=>(ns[k]?).elim 0 (Gq k),λa=>(kP ns.length nm a).elim [] λk=>(sub ns 8 k).map nm,λa=>(kP ns.length nm a).elim [] λk=>(lG ns k).map nm,λa=>(kP ns.length nm a).elim [] λk=>(ns[k]?).elim [] hM⟩
section
variable {ns:List Nd}{nm:Nat->Nm}{f k i j:Nat}{x:Nd}{a:Nm}
theorem mJ(h:kP ns.length nm a=some k):nm k=a/\k<ns.length:=⟨beq_iff_eq.mp (List.find?_some (p:=λk=>nm k==a) h),bx.mp (List.mem_of_find?_eq_some h)⟩
theorem mF(N:Nms ns.length nm)(h:k<ns.length):kP ns.length nm (nm k)=some k:=by
 refine fA (o:=kP ns.length nm (nm k)) (λe=>?_) λj e=>?_
 ·exact absurd (beq_self_eq_true (nm k)) (Kf.mp e k (bx.mpr h))
 ·rw [e,N.inj j k (mJ e).2 h (mJ e).1]
theorem ir(N:Nms ns.length nm)(h:ns[k]? =some x):(cL ns nm).isW (nm k)=some x.w:=by
 show(kP ns.length nm (nm k)).bind _=_
 rw [mF N (ae.mp h).1]
 exact congrArg (bR Nd.w) h
theorem xm(T:Tr ns)(N:Nms ns.length nm)(h:ns[k]? =some x)(hi:i∈x.inner):(cL ns nm).ch (nm i)=some (nm k):=dg (T.inn k x h i hi) λy hy hk hu _=>by
 refine(?_:(kP ns.length nm (nm i)).bind _=_)
 rw [mF N (ae.mp hy).1]
 show(if i=0 then none else(ns[i]?).map λx=>nm x.up.toNat)=_
 rw [if_neg (gm (cQ (aQ k) hk)),hy]
 show some (nm y.up.toNat)=_
 rw [hu];rfl
theorem Ds(T:Tr ns){m:Nm}(h:(cL ns nm).ch a=some m):∃i j x,nm i=a/\nm j=m/\ns[j]? =some x/\i∈x.inner/\0<i:=by
 haveI h:(kP ns.length nm a).bind _=some m:=h
 refine fA (o:=kP ns.length nm a) (λe=>eY ((by rw [e];rfl:none=(kP ns.length nm a).bind _).trans h)) λi e=>?_
 rw [e]at h
 have h:(if i=0 then none else(ns[i]?).map λx=>nm x.up.toNat)=some m:=h
 by_cases z:i=0
 ·rw [if_pos z]at h;exact eY h
 ·refine (⟨_,aH (mJ e).2⟩:∃x,ns[i]? =some x).elim λx hx=>?_
  rw [if_neg z,hx]at h
  exact gP (T.up i x hx (dC z)) λj y hj _ hu hm=>⟨i,j,y,(mJ e).1,(by rw [hu];rfl:nm j=nm x.up.toNat).trans (ai h),hj,hm,dC z⟩
theorem Tr.pt(T:Tr ns)(N:Nms ns.length nm)(ne:∀(i:Nat) (x:Nd),ns[i]? =some x->x.w=true->x.inner≠[]):∀{f k:Nat} {x:Nd},ns[k]? =some x->f+x.deep=8->Pt (cL ns nm) f (bd ns nm f k):=by
 intro f
 induction f with
 |zero=>exact λh e=>(T.fpos h e).elim λf' e=>nomatch e
 |succ f ih=>
  intro k x h e
  have hk:=(ae.mp h).1
  have L:=T.lim k x h
  have e':∀{y:Nd},y.deep=x.deep+1->f+y.deep=8:=λh=>by rw [h,<-bt,bD];exact e
  have up:∀{c:Nm},(cL ns nm).ch c=some (nm k)->∃i,i∈x.inner/\nm i=c:=λ{c} hc=>(Ds T hc).elim λi q=>q.elim λj q=>q.elim λy q=>by
   haveI ej:=N.inj j k (ae.mp q.2.2.1).1 hk q.2.1
   subst ej
   exact⟨i,ai (q.2.2.1.symm.trans h)▸q.2.2.2.1,q.1⟩
  rw [jV h]
  by_cases w:x.w=true
  ·rw [if_pos w]
   refine .wd (N.ok k hk) qg DP yj ⟨?_,?_⟩ ((ir N h).trans (congrArg some w)) (λc=>⟨λhc=>?_,λhp=>?_⟩) λp hp=>?_
   ·rw [ah];exact gE.mpr (ne k x h w)
   ·rw [ah];exact L.le
   ·refine ea1_2 (up hc) λi hi ei=>dg (T.inn k x h i hi) λy hy _ _ hd=>(T.fpos hy (e' hd)).elim λf' ef=>⟨_,bf hi,?_⟩
    subst ef
    exact(iq hy).trans ei
   ·refine ea1_2 hp λp hp ec=>ea1_2 (aG.mp hp) λi hi ei=>dg (T.inn k x h i hi) λy hy _ _ hd=>(T.fpos hy (e' hd)).elim λf' ef=>?_
    subst ef ei
    rw [<-ec,iq hy]
    exact xm T N h hi
   ·exact ea1_2 (aG.mp hp) λi hi ei=>dg (T.inn k x h i hi) λy hy _ _ hd=>ei▸ih hy (e' hd)
  ·rw [if_neg w]
   haveI w:=cK.mpr w
   exact .wk (N.ok k hk) uy ((ir N h).trans (congrArg some w)) λc hc=>ea1_2 (up hc) λi hi _=>absurd hi (L.wk w▸aZ)
theorem ub(h:ns[k]? =some x):JP (bd ns nm (f+1) k)=hM x:=by
 rw [jV h]
 unfold hM
 by_cases e:x.w=true
 ·rw [if_pos e,if_pos e];rfl
 ·rw [if_neg e,if_neg e];rfl
theorem rD(N:Nms ns.length nm)(h:ns[k]? =some x):(cL ns nm).sp (nm k)=sf x/\(cL ns nm).mn (nm k)=Gq k x:=by
 haveI e:=mF N (ae.mp h).1
 refine⟨?_,?_⟩
 ·show (kP ns.length nm (nm k)).elim 0 _=_
  rw [e]
  show(ns[k]?).elim 0 sf=_
  rw [h];rfl
 ·show (kP ns.length nm (nm k)).elim 0 _=_
  rw [e]
  show(ns[k]?).elim 0 (Gq k)=_
  rw [h];rfl
theorem rJ(N:Nms ns.length nm)(h:ns[k]? =some x):(cL ns nm).sb (nm k)=(sub ns 8 k).map nm:=by
 show(kP ns.length nm (nm k)).elim [] _=_
 rw [mF N (ae.mp h).1];rfl
theorem pg(N:Nms ns.length nm)(h:ns[k]? =some x):(cL ns nm).kd (nm k)=x.inner.map nm/\(cL ns nm).ru (nm k)=hM x:=by
 haveI e:=mF N (ae.mp h).1
 refine⟨?_,?_⟩
 ·show (kP ns.length nm (nm k)).elim [] _=_
  rw [e]
  exact congrArg (ik nm) (fU h)
 ·show (kP ns.length nm (nm k)).elim [] _=_
  rw [e]
  show(ns[k]?).elim [] hM=_
  rw [h];rfl
theorem Tr.nmsG(T:Tr ns):∀{f k j:Nat} {x:Nd},ns[k]? =some x->f+x.deep=8->f<=j->Mine.nms j (bd ns nm f k)=(sub ns j k).map nm:=by
 intro f
 induction f with
 |zero=>exact λh e _=>(T.fpos h e).elim λf' e=>nomatch e
 |succ f ih=>
  intro k j x h e hj
  cases j with
  |zero=>exact absurd hj (dI _)
  |succ j=>
   refine(?_:au _::(Mine.kids _).flatMap (Mine.nms j)=nm k::((lG ns k).flatMap (sub ns j)).map nm)
   rw [iq h,T.kids h,fU h,gw,sQ]
   refine congrArg (nm k::·) ?_
   rw [dh,dh]
   exact congrArg qW (cb λi hi=>dg (T.inn k x h i hi) λy hy _ _ hd=>ih hy (by rw [hd,<-bt,bD];exact e) (fK hj))
theorem IE(T:Tr ns)(N:Nms ns.length nm)(h:ns[k]? =some x)(e8:f+1+x.deep=8):mdOk (cL ns nm) (bd ns nm (f+1) k):=by
 haveI e:=mF N (ae.mp h).1
 refine⟨?_,?_,?_,?_,?_,?_,?_⟩
 ·rw [iq h]
  show(kP ns.length nm (nm k)).any _=_
  rw [e]
  show(ns[k]?).any FH=_
  rw [h]
  unfold BO
  rw [ub h];rfl
 ·rw [iq h]
  show(kP ns.length nm (nm k)).any _=_
  rw [e]
  show(ns[k]?).any Jg=_
  rw [h]
  unfold Ho BO
  rw [ub h];rfl
 ·rw [iq h,(rD N h).1,jV h]
  unfold sf
  by_cases e:x.w=true
  ·rw [if_pos e,if_pos e];rfl
  ·rw [if_neg e,if_neg e];rfl
 ·rw [iq h,(rD N h).2,jV h]
  unfold Gq
  by_cases e:x.w=true
  ·rw [if_pos e,if_pos e];rfl
  ·rw [if_neg e,if_neg e];rfl
 ·rw [iq h,rJ N h,T.nmsG h e8 (aa (aq _ _) (ao e8))]
 ·rw [iq h,(pg N h).1,T.kids h,bB]
  exact cb λi hi=>dg (T.inn k x h i hi) λy hy _ _ hd=>(T.fpos (f:=f) hy (by rw [hd,<-bt,bD];exact e8)).elim λf' ef=>by
   subst ef
   exact(iq hy).symm
 ·rw [iq h,(pg N h).2,ub h]
theorem Tr.md(T:Tr ns)(N:Nms ns.length nm):∀{f k:Nat} {x:Nd},ns[k]? =some x->f+x.deep=8->∀y∈io f (bd ns nm f k),mdOk (cL ns nm) y:=by
 intro f
 induction f with
 |zero=>exact λ_ _=>qY
 |succ f ih=>
  intro k x h e8
  refine eJ (IE T N h e8) λy hy=>ea1_2 (bj.mp hy) λp hp hy=>?_
  rw [T.kids h]at hp
  exact ea1_2 (aG.mp hp) λi hi e=>dg (T.inn k x h i hi) λz hz _ _ hd=>ih hz (by rw [hd,<-bt,bD];exact e8) y (e▸hy)
theorem Tree.plan(t:Tree ns)(N:Nms ns.length nm):Plan (cL ns nm) (bd ns nm 7 0):=dm t.tr.top λx h0 hw hd=>by
 haveI e8:7+x.deep=8:=hd.symm▸rfl
 haveI en:nms 7 (bd ns nm 7 0)=(sub ns 7 0).map nm:=t.tr.nms h0
 haveI e0:au (bd ns nm 7 0)=nm 0:=iq h0
 refine⟨t.tr.pt N t.ne h0 e8,?_,?_,?_,λw z=>?_,λm hm=>?_,t.tr.md N h0 e8⟩
 ·refine (?_:(!(kids (bd ns nm 7 0)).isEmpty)=true)
  rw [t.tr.kids h0]
  haveI:=t.ne 0 x h0 hw
  cases hx:x.inner with
  |nil=>exact absurd hx this
  |cons a l=>rfl
 ·rw [en]
  exact om.map nm (λ_ _ h=>h) (ky (λ{a b} ha hb hab e=>hab (N.inj a b (t.tr.lt h0 a ha) (t.tr.lt h0 b hb) e)) (t.tr.nd h0))
 ·rw [en,ah]
  exact aa ((t.tr.nd h0).length_le_of_subset (l₂:=aV ns.length) λi hi=>bx.mpr (t.tr.lt h0 i hi)) (aa (ao ba) t.le)
 ·rw [e0]at z
  refine(Ds t.tr z).elim λi q=>q.elim λj q=>q.elim λy q=>?_
  refine dg (t.tr.inn j y q.2.2.1 i q.2.2.2.1) λu hu _ _ _=>?_
  haveI:=N.inj i 0 (ae.mp hu).1 (ae.mp h0).1 q.1
  exact absurd (this▸q.2.2.2.2) (cm 0)
 ·rw [en]
  haveI hm:((kP ns.length nm m).bind _).isSome=true:=hm
  refine fA (o:=kP ns.length nm m) (λe=>?_) λk e=>(mJ e).1▸bf (t.tr.all (mJ e).2)
  rw [e]at hm
  exact absurd hm am
end
section
variable {n r:Nat}{H:AH}{Q:QE}{X:XE}{ns:List Nd}{nm:Nat->Nm}
theorem Bs{P:Prog}{a:Nat}{x y:List V}(hg:H[a]? =some (.list x))(h:x.length+y.length<=az):aY P false (.bop .add) [.ref a,.lst y] H=some (.lst (x++y),H):=by
 show((H[a]?.bind O.lst).bind λvs=>if vs.length+y.length<=az then some (V.lst (vs++y))else none).map _=_
 rw [hg]
 show(if x.length+y.length<=az then some (V.lst (x++y))else none).map _=_
 rw [if_pos h];rfl
theorem BW{o o':O}:(H++[o]).set H.length o'=H++[o']:=by rw [mE _ _ (aI _),Nat.sub_self];rfl
theorem qo{a:V}{l:List V}:bM (a::l) (jo (a::l).length 1) (a::l).length=l:=by
 rw [show jo (a::l).length 1=1 from iy (j:=1) (ax (aQ _))]
 unfold bM
 rw [kZ];rfl
abbrev sb(ns:List Nd)(p:Nat×Nat):List Nat:=sub ns p.1 p.2
theorem EB{td:List (Nat×Nat)}(h:∀p∈td,∃f,p.1=f+1):td.length<=(td.flatMap (sb ns)).length:=by
 induction td with
 |nil=>exact aI _
 |cons p td ih=>
  rw [b0,af,bK,ce]
  refine bP ((h p (.head _)).elim λf e=>?_) (ih λy hy=>h y (.tail _ hy))
  refine(?_:1<=(sub ns p.1 p.2).length)
  rw [e];exact ax (aQ _)
def IU(ns:List Nd)(r k0:Nat)(H:AH)(tot:List Nat)(N:Nat)(ρ:Fm)(H':AH):Prop:=
 ∃(td:List (Nat×Nat)) (dn:List Nat) (o:Option V),ρ=[some (.ref r),some (ni k0),some (.ref H.length),some (.lst (td.map λp=>ni p.2)),o]/\H'=H++[.list (dn.map ni)]/\dn++td.flatMap (sb ns)=tot/\(td.flatMap (sb ns)).length=N/\(td.length<=N/\N<=60)/\∀p∈td,∃x,ns[p.2]? =some x/\p.1+x.deep=8
theorem f15{f0 k0:Nat}{x0:Nd}(t:Tree ns)(g:GN r ns H)(h0:ns[k0]? =some x0)(e80:f0+x0.deep=8)(q:Q (.ref H.length) (H++[.list ((sub ns f0 k0).map ni)])):aJ PL (n+1) 14 [.ref r,ni k0] H Q X:=by
 have T:=t.tr
 have wW:(sub ns f0 k0).length<=60:=aa ((T.nd h0).length_le_of_subset (l₂:=aV ns.length) λi hi=>bx.mpr (T.lt h0 i hi)) (aa (ao ba) t.le)
 haveI e0:[((f0,k0):Nat×Nat)].flatMap (sb ns)=sub ns f0 k0:=aA _
 refine cf Gj rfl (dT (jr ⟨bW rfl,br (aK rfl) (bW rfl) ?_⟩))
 refine nS (IU ns r k0 H (sub ns f0 k0)) (N:=(sub ns f0 k0).length) (λN ρ' H' hI=>gF hI λtd dn o e eh ed eN l hp=>?_) ⟨[(f0,k0)],[],none,rfl,rfl,e0,congrArg dH e0,⟨(T.fpos h0 e80).elim λf' ef=>ef▸ax (aQ _),wW⟩,dk ⟨x0,h0,e80⟩⟩
 subst e eh
 refine⟨_,ev_p2 (ev_var rfl) (aK rfl) (lO (nE (f:=λp:Nat×Nat=>ni p.2) λ_=>trivial) jG),λhc K' hK=>?_,λhc=>?_⟩
 ·cases td with
  |nil=>exact absurd hc am
  |cons p td=>
   refine ea1_2 (hp p (.head _)) λx hx e8=>(T.fpos hx e8).elim λf ef=>?_
   have es:sb ns p=p.2::x.inner.flatMap (sub ns f):=by
    show sub ns p.1 p.2=_
    rw [ef]
    exact congrArg (λt=>p.2::List.flatMap (sub ns f) t) (fU hx)
   haveI ei:(x.inner.map λi=>(f,i)).flatMap (sb ns)=x.inner.flatMap (sub ns f):=gw ..
   haveI g':∀{l:List Nat},GN r ns (H++[.list (l.map ni)]):=λp hp=>dt (g p hp)
   rw [b0,es]at ed eN
   haveI lt:td.length<=60:=aa (a9 _) (aa l.1 l.2)
   haveI lx:=(T.lim _ x hx).le
   refine br (ev_p2 (ev_var rfl) an rn) (bW rfl) (st_mc1 (ev_var rfl) (d8 dS) (ev_var rfl) (hE (dU dS ?_) ?_))
   ·rw [ah]
    haveI:=congrArg dH ed
    rw [af]at this
    exact aa (aq _ _) (aa (ao this) (aa wW (by decide)))
   rw [BW,show dn.map ni++[ni p.2]=(dn++[p.2]).map ni from(aB (f:=ni) (l₁:=dn) (l₂:=[p.2])).symm]
   have kid8:∀i∈x.inner,∃y,ns[i]? =some y/\f+y.deep=8:=λi hi=>dg (T.inn _ x hx i hi) λy hy _ _ hd=>⟨y,hy,by rw [hd,<-bt,bD];exact ef▸e8⟩
   haveI ln:(x.inner.map λi=>(f,i)).length+td.length<=(x.inner.flatMap (sub ns f)++td.flatMap (sb ns)).length:=by
    haveI:=EB (ns:=ns) (td:=(x.inner.map λi=>(f,i))++td) (cq (λy hy=>ea1_2 (aG.mp hy) λi hi e=>e▸ea1_2 (kid8 i hi) λy hy e=>(T.fpos hy e).imp λ_ e=>e) λy hy=>ea1_2 (hp y (.tail _ hy)) λz hz e=>(T.fpos hz e).imp λ_ e=>e)
    rw [af,bo,ei]at this
    exact this
   haveI eN':(x.inner.flatMap (sub ns f)++td.flatMap (sb ns)).length+1=N:=eN
   refine br (ev_p2 (jy g' hx rfl rfl rfl) (iE (ev_var rfl) an an ((nc ?_).trans (congrArg (λt=>some (V.lst t,H++[O.list ((dn++[p.2]).map ni)])) qo))) (Bs (g'.inn hx) ?_)) (bW rfl) (hK _ _ (x.inner.flatMap (sub ns f)++td.flatMap (sb ns)).length (Nat.lt_of_succ_le (ao eN')) ⟨(x.inner.map λi=>(f,i))++td,dn++[p.2],some (ni p.2),?_,rfl,?_,?_,⟨?_,?_⟩,cq (λy hy=>ea1_2 (aG.mp hy) λi hi e=>e▸kid8 i hi) λy hy=>hp y (.tail _ hy)⟩)
   ·rw [ah];exact aa l.1 (aa l.2 (by decide))
   ·rw [ah,ah];exact aa (bP lx lt) (by decide)
   ·rw [aB,bB];rfl
   ·rw [bo,ei,aj];exact ed
   ·rw [bo,ei]
   ·rw [af];exact ln
   ·exact aa (a9 _) (aa (ao eN') l.2)
 ·cases td with
  |nil=>
   refine ev_ret (ev_var rfl) ?_
   rw [<-ed,iD,aA]at q
   exact q
  |cons p td=>exact absurd hc (gx:¬true=false)
theorem Tr.subS(T:Tr ns):∀{f k j:Nat} {x:Nd},ns[k]? =some x->f+x.deep=8->f<=j->sub ns j k=sub ns f k:=by
 intro f
 induction f with
 |zero=>exact λh e _=>(T.fpos h e).elim λf' e=>nomatch e
 |succ f ih=>
  intro k j x h e hj
  cases j with
  |zero=>exact absurd hj (dI _)
  |succ j=>
   refine(?_:k::(lG ns k).flatMap (sub ns j)=k::(lG ns k).flatMap (sub ns f))
   rw [fU h,dh,dh]
   exact congrArg (λl=>k::qW l) (cb λi hi=>dg (T.inn k x h i hi) λy hy _ _ hd=>ih hy (by rw [hd,<-bt,bD];exact e) (fK hj))
theorem Gu{k:Nat}{x:Nd}(t:Tree ns)(g:GN r ns H)(h:ns[k]? =some x)(q:Q (.ref H.length) (H++[.list ((sub ns 8 k).map ni)])):aJ PL (n+1) 14 [.ref r,ni k] H Q X:=by
 haveI d:=aa (t.tr.lim k x h).dp (show(if x.w=true then 6 else 7)<=8 by cases x.w<;>decide)
 haveI e8:=fG d
 rw [t.tr.subS h e8 (eK _ _)]at q
 exact f15 t g h e8 q
end
noncomputable def GF(ns:List Nd)(k:Nat):Nat:=(ns[k]?).elim 0 λx=>8-x.deep
noncomputable def LH(ns:List Nd)(nm:Nat->Nm):List V:=(aV ns.length).map λk=>bd ns nm (GF ns k) k
noncomputable def bN(r:Nat)(ns:List Nd)(nm:Nat->Nm)(o:Nat):V:=.dct [['n','o','d','e','s'],['n','a','m','e','s'],['p','a','r','t','s'],['p','l','a','n'],['o','r','d','e','r']] [.ref r,nu nm ns.length,.lst (LH ns nm),bd ns nm 7 0,.ref o]
section
variable {n r:Nat}{H:AH}{Q:QE}{X:XE}{ns:List Nd}{nm:Nat->Nm}{zs:List Int}
theorem n30{a:Int}:∃m:Nat,(2+a%9:Int)=m/\2<=m/\m<=30:=haveI h:=iz (a:=a) (b:=9) (by decide);⟨(2+a%9).toNat,(bO (mW (by decide) h.1)).symm,(Int.le_toNat (mW (by decide) h.1)).mpr (wP h.1),qO.mpr (bu (G8 (fc h.2) 2) (by decide))⟩
theorem Hj{m:Nat}{c:Int}{K:KS}(h2:2<=m)(hm:m<=30)(q:∀ns nm o H',Tree ns->Nms ns.length nm->GN (H.length+2) ns H'->H'[o]? =some (.list ((sub ns 7 0).map ni))->Q (bN (H.length+2) ns nm o) H') :
  a7 PL (aJ PL (n+12)) (Es.body.drop 3) [some (.lst (zs.map V.int)),some (.int c),some (ni m),none,none,none] H K Q X:=by
 refine dT (fT (ev_var rfl) (ev_var rfl) (f14 h2 hm λns H' cl t=>⟨bW rfl,?_⟩))
 have g:=cl.gn
 haveI T:=t.tr
 refine dT (fT (gk (ev_var rfl) an λQ q=>Ja (by decide) q) (nZ g rfl) (f12 t.le λnm N=>⟨bW rfl,?_⟩))
 refine dm T.top λx0 h0 _ hd0=>?_
 haveI hl:=(ae.mp h0).1
 refine br (nL (l:=aV ns.length) (f:=ni) (g:=λk=>bd ns nm (GF ns k) k) (cD (nZ g rfl) (fY (yA (aa t.le (by decide))))) (congrArg some tq) (by rw [ba];exact aa t.le (by decide)) λk hk=>jc (ev_var rfl) (ev_var rfl) (ev_var rfl) λQ q=>?_) (bW rfl) ?_
 ·refine (⟨_,aH (bx.mp hk)⟩:∃x,ns[k]? =some x).elim λx hx=>?_
  haveI e:GF ns k=8-x.deep:=congrArg (λt:Option Nd=>t.elim 0 λx=>8-x.deep) hx
  haveI d:=aa (T.lim k x hx).dp (show(if x.w=true then 6 else 7)<=7 by cases x.w<;>decide)
  rw [e]at q
  exact sZ (m:=8-x.deep+1) (aa (ax (eK _ _)) (aa (by decide:9<=12) (bw _ _))) (f18 T g hx (fG (aa d (by decide))) q)
 haveI e7:GF ns 0=7:=(congrArg (λt:Option Nd=>t.elim 0 λx=>8-x.deep) h0).trans (show 8-x0.deep=7 by rw [hd0])
 refine gJ (show fR PL (aJ PL (n+12)) [_,_,_,_,_] _ _ _ _ from ev_var (P:=PL) (C:=aJ PL (n+12)) (X:=X) (v:=.ref (H.length+2)) rfl _ (ev_var (P:=PL) (C:=aJ PL (n+12)) (X:=X) (v:=nu nm ns.length) rfl _ (ev_var (P:=PL) (C:=aJ PL (n+12)) (X:=X) (v:=.lst ((aV ns.length).map λk=>bd ns nm (GF ns k) k)) rfl _ (ev_p2 (P:=PL) (C:=aJ PL (n+12)) (X:=X) (z:=bd ns nm 7 0) (ev_var rfl) an ?_ _ (fT (ev_var rfl) an (f15 t g h0 (hd0.symm▸rfl) (hE rfl (q ns nm H'.length _ t N (λp hp=>dt (g p hp)) dS))))))))
 refine(kS (j:=0) (v:=bd ns nm (GF ns 0) 0) ?_).trans (by rw [e7])
 rw [aO,cc hl];rfl
theorem f19(q:∀ns nm o H',Tree ns->Nms ns.length nm->GN (H.length+2) ns H'->H'[o]? =some (.list ((sub ns 7 0).map ni))->Q (bN (H.length+2) ns nm o) H'):aJ PL (n+13) 18 [.lst (zs.map V.int)] H Q X:=by
 refine cf EZ rfl (br (gk (ev_var rfl) an λQ q=>Ja (by decide) q) (bW rfl) ?_)
 generalize zs.getD _ 0=z
 refine dm (n30 (a:=z)) λm em h2 hm=>br (v:=ni m) (ev_eq (ev_p2 an (ev_p2 (ev_var rfl) an (c9 (by decide))) dR) (congrArg V.int em)) (bW rfl) ?_
 exact cZ (ev_p2 (ev_p2 (ev_p2 (ev_var rfl) an (c7 (by decide) (by decide))) an (c9 (by decide))) an (fS dz dz)) (λ_=>br (v:=ni 30) an (bW rfl) (Hj (by decide) (aI _) q)) λ_=>Hj h2 hm q
noncomputable def si(ns:List Nd)(k:Nat):Bool:=!(ns[k]?).any Nd.w
theorem f24{o:Nat}(t:Tree ns)(g:GN r ns H)(ho:H[o]? =some (.list ((sub ns 7 0).map ni)))(q:Q (.lst ((((sub ns 7 0).filter (si ns)).map nm).map V.str)) H):aJ PL (n+1) 24 [bN r ns nm o] H Q X:=by
 refine dm t.tr.top λx0 h0 _ _=>?_
 rw [bB]at q
 refine cf FF rfl (ev_ret (ip (l:=sub ns 7 0) (f:=ni) (g:=λk=>V.str (nm k)) (p:=si ns) (w:=.ref o) (ev_p2 (ev_var rfl) an rfl) (d6 ho) ?_ (λk hk=>?_) λk hk _=>ev_p2 (x:=nu nm ns.length) (ev_p2 (ev_var rfl) an rfl) (ev_var rfl) (gZ (t.tr.lt h0 k hk))) q)
 ·exact aa ((t.tr.nd h0).length_le_of_subset (l₂:=aV ns.length) λi hi=>bx.mpr (t.tr.lt h0 i hi)) (aa (ao ba) (aa t.le (by decide)))
 ·refine (⟨_,aH (t.tr.lt h0 k hk)⟩:∃x,ns[k]? =some x).elim λx hx=>?_
  refine ev_eq (cN (s:=x.w) (ev_p2 (x:=.ref x.d) (ev_p2 (x:=.ref r) (ev_p2 (ev_var rfl) an rfl) (ev_var rfl) (kR g.row (by rw [aO,hx];rfl))) an (iQ (g.dic hx) rfl))) ?_
  unfold si
  rw [hx];rfl
end
noncomputable def dq(σ:Ad)(g:List (Nat×O)):Ad:={σ with G:=g}
noncomputable def upd{α:Type}(f:Nat->α)(k:Nat)(x:α):Nat->α:=λj=>if j=k then x else f j
noncomputable def rg(N:Nat)(f:Nat->V):O:=.list ((aV N).map f)
noncomputable def xH(l:List Int):V:=.lst (l.map V.int)
noncomputable def sW(l:List (Nat×V)):V:=.lst (l.map nA)
noncomputable def jT:List Nm:=[['h','e','r','e'],['s','u','m'],['m','a','i','l'],['h','o','u','r'],['s','e','n','t'],['k','e','p','t'],['r','o','w','s']]
noncomputable def nC(b:Nat)(t:Int)(lt:Nat):List V:=[.ref b,.ref (b+1),.ref (b+2),.int t,.int lt,.ref (b+4),.ref (b+5)]
noncomputable def wN(b N:Nat)(nm:Nat->Nm)(T:Ab):List (Nat×O):=[(b,rg N λk=>.bool (T.h (nm k))),(b+1,rg N λk=>.int (T.s (nm k))),(b+2,rg N λk=>sW (T.q (nm k))),(b+3,.dict jT (nC b T.t T.lt)),(b+4,rg N λk=>xH (T.k (nm k))),(b+5,.list (T.ev.map Evt.v))]
section
variable {P:Prog}{C:Calls}{ρ:Fm}{H:AH}{K:KS}{R:QE}{X:XE}{ss:List St}{σ:Ad}{S:Hst}{G0 W:List (Nat×O)}{a N k i:Nat}{e:Ex}
theorem gz{g:List (Nat×O)}(h:Hs (dq σ g) S H){p:Nat×O}(hp:p∈g):H[p.1]? =some p.2:=(h.fix p (.tail _ (.tail _ (.tail _ (.tail _ (.tail _ (.tail _ (.tail _ (.tail _ (.tail _ (.tail _ hp))))))))))).1
theorem Hu{g:List (Nat×O)}{j:Nat}:(fq (dq σ g) S)[j+10]? =g[j]?:=rfl
theorem Hs.gset(w:Hs (dq σ (G0++W)) S H)(k:Nat){a:Nat}{o o':O}(hk:W[k]? =some (a,o)):Hs (dq σ (G0++W.set k (a,o'))) S (H.set a o'):=by
 refine w.set' (G0.length+k+10) (o:=o) (Hu.trans ?_) (o'':=o') ?_ rfl rfl w.kp w.qp w.qn w.pn w.kn
 ·rw [cP (aq _ _),dM];exact hk
 ·haveI z:(G0++W).set (G0.length+k) (a,o')=G0++W.set k (a,o'):=by rw [mE _ _ (aq _ _),dM]
  unfold fq dq
  rw [<-z];rfl
theorem D2(w:Hs (dq σ (G0++W)) S H)(k:Nat){p:Nat×O}(hk:W[k]? =some p):H[p.1]? =some p.2:=gz w (ak _ (aM hk))
theorem mw{f:Nat->V}(hk:k<N):((aV N).map f)[k]? =some (f k):=by rw [aO,cc hk];rfl
theorem Gm{f:Nat->V}{x:V}:((aV N).map f).set k x=(aV N).map (upd f k x):=by
 refine fi λj=>?_
 rw [fj]
 by_cases hj:j<N
 ·rw [mw (f:=f) hj,mw (f:=upd f k x) hj,ah,ba]
  show _=some (if j=k then x else f j)
  by_cases e:k=j
  ·rw [if_pos e,if_pos (e▸hj),if_pos e.symm]
  ·rw [if_neg e,if_neg (Ne.symm e)]
 ·haveI n1:∀{g:Nat->V},((aV N).map g)[j]? =none:=λ{g}=>eQ (by rw [ah,ba];exact dD hj)
  rw [n1 (g:=f),n1 (g:=upd f k x)]
  by_cases e:k=j
  ·rw [if_pos e,if_neg (by rw [ah,ba,e];exact hj)]
  ·rw [if_neg e]
theorem EY{r:Nat}{f:Nat->V}{x:V}(hr:H[r]? =some (rg N f))(hk:k<N):d7 (.ref r) (ni k) x H=some (H.set r (rg N (upd f k x))):=by
 show EA r k x H H[r]? =_
 rw [hr]
 show(if 0<=(k:Int)/\(k:Int)<((aV N).map f).length then some (H.set r (.list (((aV N).map f).set k x)))else none)=_
 rw [if_pos ⟨bv k,by rw [ah,ba];exact cu.mpr hk⟩,Gm];rfl
end
theorem Jr{σ:Ad}{S:Hst}{p:Nat×O}(h:p∈σ.G):p∈fq σ S:=.tail _ (.tail _ (.tail _ (.tail _ (.tail _ (.tail _ (.tail _ (.tail _ (.tail _ (.tail _ h)))))))))
theorem Hs.addG{σ:Ad}{S:Hst}{H H':AH}{G1:List (Nat×O)}(h:Hs σ S H)(kp:∀a,a<H.length->H'[a]? =H[a]?)(le:H.length<=H'.length)(nd:(G1.map (·.1)).Nodup)(c:∀p∈G1,H.length<=p.1/\H'[p.1]? =some p.2):Hs (dq σ (σ.G++G1)) S H':=by
 have lt:∀{b:Nat} {o:O},H[b]? =some o->b<H.length:=λe=>(ae.mp e).1
 haveI g:∀{a:Nat} {o:O},H[a]? =some o->H'[a]? =some o:=λ{a _} e=>(kp a (lt e)).trans e
 haveI ef:fq (dq σ (σ.G++G1)) S=fq σ S++G1:=rfl
 refine⟨?_,?_,λp hp=>⟨(h.kp p hp).1,g (h.kp p hp).2.1,(h.kp p hp).2.2⟩,λp hp=>⟨(h.qp p hp).1,g (h.qp p hp).2.1,(h.qp p hp).2.2⟩,h.qn,h.pn,h.kn,λb hb=>h.fr b (aa le hb)⟩
 ·rw [ef,aB]
  refine a8.mpr ⟨h.nd,nd,λa ha b hb e=>?_⟩
  exact ea1_2 (aG.mp ha) λp hp ep=>ea1_2 (aG.mp hb) λq hq eq=>absurd (c q hq).1 (sR (by rw [eq,<-e,<-ep];exact lt (h.fix p hp).1))
 ·rw [ef]
  exact cq (λp hp=>⟨g (h.fix p hp).1,(h.fix p hp).2⟩) λp hp=>⟨(c p hp).2,h.fr _ (c p hp).1⟩
theorem Hs.dropG{σ:Ad}{S:Hst}{H:AH}{G G1:List (Nat×O)}(h:Hs (dq σ (G++G1)) S H):Hs (dq σ G) S H:=by
 haveI ef:fq (dq σ (G++G1)) S=fq (dq σ G) S++G1:=rfl
 haveI nd:=h.nd
 rw [ef,aB]at nd
 exact⟨(a8.mp nd).1,λp hp=>h.fix p (ef▸av _ hp),h.kp,h.qp,h.qn,h.pn,h.kn,h.fr⟩
theorem Rt.g{π:PI}{σ:Ad}{g:List (Nat×O)}:∀{d k:Nat} {v:V},Rt π σ d k v->Rt π (dq σ g) d k v:=by
 intro d
 induction d with
 |zero=>exact λh=>h
 |succ d ih=>exact λh=>⟨h.1,h.2.imp λw q=>⟨ih q.1,q.2⟩⟩
theorem Pl.g{π:PI}{σ:Ad}{g:List (Nat×O)}(pl:Pl π σ):Pl π (dq σ g):=⟨pl.nm,pl.ok,pl.le,λm hm=>oX (pl.pt m hm) λd k v a b c e=>⟨d,k,v,a,b.g,c,e⟩,pl.top,pl.nd⟩
theorem Dd.g{π:PI}{σ:Ad}{g:List (Nat×O)}{v:V}(h:Dd π σ v):Dd π (dq σ g) v:=by
 cases h with
 |send a b=>exact .send a b
 |work a=>exact .work a
 |fail a=>exact .fail a
structure Fx(σ:Ad)(G0:List (Nat×O))(ns:List Nd)(nm:Nat->Nm)(r o:Nat):Prop where
 t:Tree ns
 n:Nms ns.length nm
 g:∀p∈LN r ns,p∈G0
 o:(o,O.list ((sub ns 7 0).map ni))∈G0
 pl:Pl (cL ns nm) σ
 en:σ.names=(sub ns 7 0).map nm
 ep:σ.plan=bd ns nm 7 0
abbrev WX(σ:Ad)(G0:List (Nat×O))(b N:Nat)(nm:Nat->Nm)(T:Ab)(X:List (Nat×O))(S:Hst)(H:AH):Prop:=Hs (dq σ (G0++(wN b N nm T++X))) S H
section
variable {P:Prog}{C:Calls}{ρ:Fm}{σ:Ad}{S:Hst}{H:AH}{G0:List (Nat×O)}{ns:List Nd}{nm:Nat->Nm}{x y:Nd}{k j f a o r n N b:Nat}{Q R:QE}{X:XE}{K:KS}{T T':Ab}{Y Z:List (Nat×O)}{ss:List St}{i:Nat}{e:Ex}
theorem WX.push(w:WX σ G0 b N nm T Y S H)(o:O):WX σ G0 b N nm T (Y++[(H.length,o)]) S (H++[o]):=by
 haveI z:=Hs.addG (H':=H++[o]) (G1:=[(H.length,o)]) w (λa ha=>bl ha) (aa (aq _ _) (ao af.symm)) (bg.mpr ⟨aZ,cR⟩) (dk ⟨aI _,dS⟩)
 haveI y:Hs (dq σ ((G0++(wN b N nm T++Y))++[(H.length,o)])) S (H++[o]):=z
 rw [aj,aj]at y
 exact y
theorem WX.pop(w:WX σ G0 b N nm T (Y++Z) S H):WX σ G0 b N nm T Y S H:=Hs.dropG (G1:=Z) (by rw [aj,aj];exact w)
theorem WX.at(w:WX σ G0 b N nm T Y S H)(k:Nat){p:Nat×O}(hk:(wN b N nm T++Y)[k]? =some p):H[p.1]? =some p.2:=D2 w k hk
theorem WX.top{a:Nat}{o:O}(w:WX σ G0 b N nm T (Y++[(a,o)]) S H):H[a]? =some o:=gz w (ak _ (ak _ (ak _ (.head _))))
theorem WX.gn(w:WX σ G0 b N nm T Y S H)(hG:∀p∈LN r ns,p∈G0):GN r ns H:=λp hp=>gz w (av _ (hG p hp))
theorem jQ{f g:Nat->V}(h:∀j,j<N->f j=g j):rg N f=rg N g:=congrArg O.list (cb λj hj=>h j (bx.mp hj))
theorem Jk{α:Type}{f:Nm->α}{x:α}(N':Nms N nm)(hk:k<N)(hj:j<N):(if j=k then x else f (nm j))=iU f (nm k) x (nm j):=by
 unfold iU
 by_cases z:j=k
 ·rw [if_pos z,if_pos (z▸rfl)]
 ·rw [if_neg z,if_neg λq=>z (N'.inj j k hj hk q)]
theorem fb{key:Nm}{v:V}(w:WX σ G0 b N nm T Y S H)(hi:ρ[i]? =some (some (.ref (b+3))))(e:ft key jT (nC b T.t T.lt)=some v):Ev P C ρ H X (.prim false .item [.var i,.cst (.str key)]) v:=ev_p2 (ev_var hi) an (iQ (w.at 3 rfl) e)
theorem jb(w:WX σ G0 b N nm T Y S H)(hi:ρ[i]? =some (some (.ref (b+3))))(he:Ev P C ρ H X e (ni k))(hk:k<N):Ev P C ρ H X (.prim false .item [.prim false .item [.var i,.cst (.str ['h','e','r','e'])],e]) (.bool (T.h (nm k))):=ev_p2 (fb w hi rfl) he (kR (w.at 0 rfl) (mw hk))
theorem C7(w:WX σ G0 b N nm T Y S H)(hi:ρ[i]? =some (some (.ref (b+3))))(he:Ev P C ρ H X e (ni k))(hk:k<N):Ev P C ρ H X (.prim false .item [.prim false .item [.var i,.cst (.str ['s','u','m'])],e]) (.int (T.s (nm k))):=ev_p2 (fb w hi rfl) he (kR (w.at 1 rfl) (mw hk))
theorem oW(w:WX σ G0 b N nm T Y S H)(hi:ρ[i]? =some (some (.ref (b+3))))(he:Ev P C ρ H X e (ni k))(hk:k<N):Ev P C ρ H X (.prim false .item [.prim false .item [.var i,.cst (.str ['m','a','i','l'])],e]) (sW (T.q (nm k))):=ev_p2 (fb w hi rfl) he (kR (w.at 2 rfl) (mw hk))
theorem yc(w:WX σ G0 b N nm T Y S H)(hi:ρ[i]? =some (some (.ref (b+3))))(he:Ev P C ρ H X e (ni k))(hk:k<N):Ev P C ρ H X (.prim false .item [.prim false .item [.var i,.cst (.str ['k','e','p','t'])],e]) (xH (T.k (nm k))):=ev_p2 (fb w hi rfl) he (kR (w.at 4 rfl) (mw hk))
theorem uX{H':AH}{oe ie e:Ex}{x ov iv:V}(he:Ev P C ρ H X e x)(ho:Ev P C ρ H X oe ov)(hi:Ev P C ρ H X ie iv)(es:d7 ov iv x H=some H')(k:a7 P C ss ρ H' K R X):a7 P C (.setItem oe ie e::ss) ρ H K R X:=gM (he _ (ho _ (hi _ (by rw [es];exact k))))
theorem oz{key:Nm}{α:Type}{g:α->V}{f:Nm->α}{x:α}{ei ex:Ex}{c p:Nat}(N':Nms N nm)(w:WX σ G0 b N nm T Y S H)(hi:ρ[i]? =some (some (.ref (b+3))))(hx:Ev P C ρ H X ex (g x))(he:Ev P C ρ H X ei (ni k))(hk:k<N)(ek:ft key jT (nC b T.t T.lt)=some (.ref c))(ep:(wN b N nm T++Y)[p]? =some (c,rg N λj=>g (f (nm j))))
  (es:(wN b N nm T++Y).set p (c,rg N λj=>g (iU f (nm k) x (nm j)))=wN b N nm T'++Y)(q:∀H',WX σ G0 b N nm T' Y S H'->a7 P C ss ρ H' K R X):a7 P C (.setItem (.prim false .item [.var i,.cst (.str key)]) ei ex::ss) ρ H K R X:=by
 refine uX hx (fb w hi ek) he ((EY (w.at p ep) hk).trans (congrArg (λt=>some (H.set c t)) (jQ (g:=λj=>g (iU f (nm k) x (nm j))) λj hj=>?_))) (q _ (by haveI z:=w.gset p (o':=rg N λj=>g (iU f (nm k) x (nm j))) ep;rw [es]at z;exact z))
 refine(?_:(if j=k then g x else g (f (nm j)))=_)
 rw [<-apply_ite g,Jk N' hk hj]
theorem my{e:Ex}(t:Evt)(w:WX σ G0 b N nm T Y S H)(hi:ρ[i]? =some (some (.ref (b+3))))(he:Ev P C ρ H X e t.v)(hl:T.ev.length<=az)(q:∀H',WX σ G0 b N nm {T with ev:=T.ev++[t]} Y S H'->a7 P C ss ρ H' K R X):a7 P C (.expr (.mcall .list false .append (.prim false .item [.var i,.cst (.str ['r','o','w','s'])]) [e])::ss) ρ H K R X:=by
 refine st_mc1 (fb w hi rfl) (d8 (w.at 5 rfl)) he (hE (dU (w.at 5 rfl) (aa (ao (ah _)) hl)) (q _ ?_))
 haveI z:=w.gset 5 (o':=.list (T.ev.map Evt.v++[t.v])) rfl
 haveI e:T.ev.map Evt.v++[t.v]=(T.ev++[t]).map Evt.v:=by rw [aB];rfl
 rw [e]at z ⊢
 exact z
theorem jw{i j:Nat}{key:Nm}{v:V}(g:GN r ns H)(hx:ns[k]? =some x)(hi:ρ[i]? =some (some (bN r ns nm o)))(hj:ρ[j]? =some (some (ni k)))(e:ft key tv (tz x)=some v):Ev P C ρ H X (.prim false .item [.prim false .item [.prim false .item [.var i,.cst (.str ['n','o','d','e','s'])],.var j],.cst (.str key)]) v:=
 ev_p2 (ev_p2 (ev_p2 (ev_var hi) an rfl) (ev_var hj) (kR g.row (by rw [aO,hx];rfl))) an (iQ (g.dic hx) e)
theorem mX(N':Nms N nm)(hk:k<N):aY P false .lindex [nu nm N,.str (nm k)] H=some (ni k,H):=by
 haveI q:=eX (kL (f:=λk=>V.str (nm k)) (l:=aV N) λ_=>trivial)
 refine(?_:(if rH _=true then(((aV N).map λk=>V.str (nm k)).findIdx? λy=>gf y (.str (nm k))).map λ(k:Nat)=>(V.int k,H)else none)=_)
 rw [if_pos (kM q.1 (aa (ao q.2) (by decide))),show(((aV N).map λk=>V.str (nm k)).findIdx? λy=>gf y (.str (nm k)))=some k from ?_]
 ·rfl
 ·have hl:((aV N).map λk=>V.str (nm k)).length=N:=by rw [ah,ba]
  refine eV.mpr ⟨hl.symm▸hk,?_,λj hj=>?_⟩
  ·rw [k6,Kg]
   exact beq_iff_eq.mpr rfl
  ·rw [k6,Kg]
   exact λz=>d9 hj (N'.inj j k (hU hj hk) hk (beq_iff_eq.mp z))
theorem D5(h:ns[k]? =some x):aY P false .item [bd ns nm (f+1) k,.int 2] H=some (.str (hM x),H):=by
 rw [jV h]
 unfold hM
 by_cases e:x.w=true
 ·rw [if_pos e,if_pos e];rfl
 ·rw [if_neg e,if_neg e];rfl
theorem qL{i l:Nat}(T:Tr ns)(hx:ns[k]? =some x)(h0:ρ[i]? =some (some (bN r ns nm o)))(h3:ρ[l]? =some (some (ni k))):∃f,Ev P C ρ H X (.prim false .item [(.prim false .item [(.var i),.cst (.str ['p','a','r','t','s'])]),(.var l)]) (bd ns nm (f+1) k):=by
 haveI hk:=(ae.mp hx).1
 haveI e:GF ns k=8-x.deep:=congrArg (λt:Option Nd=>t.elim 0 λx=>8-x.deep) hx
 haveI d:=aa (T.lim k x hx).dp (show(if x.w=true then 6 else 7)<=7 by cases x.w<;>decide)
 refine(T.fpos hx (fG (aa d (by decide)))).imp λf ef=>?_
 refine ev_p2 (x:=.lst (LH ns nm)) (ev_p2 (ev_var h0) an rfl) (ev_var h3) (kS ?_)
 unfold LH
 rw [aO,cc hk]
 exact congrArg (λt=>some (bd ns nm t k)) (e.trans ef)
theorem na{i l:Nat}(T:Tr ns)(hx:ns[k]? =some x)(h0:ρ[i]? =some (some (bN r ns nm o)))(h3:ρ[l]? =some (some (ni k))):Ev P C ρ H X (.prim false .item [(.prim false .item [(.prim false .item [(.var i),.cst (.str ['p','a','r','t','s'])]),(.var l)]),.cst (.int 2)]) (.str (hM x)):=(qL T hx h0 h3).elim λ_ h=>ev_p2 h an (D5 hx)
theorem Je{i l:Nat}(T:Tr ns)(hx:ns[k]? =some x)(hw:x.w=true)(h0:ρ[i]? =some (some (bN r ns nm o)))(h3:ρ[l]? =some (some (ni k))):Ev P C ρ H X (.prim false .item [(.prim false .item [(.prim false .item [(.var i),.cst (.str ['p','a','r','t','s'])]),(.var l)]),.cst (.int 4)]) (.int (sf x)):=(qL T hx h0 h3).elim λ_ h=>ev_p2 h an (by rw [jV hx,if_pos hw];unfold sf;rw [if_pos hw];rfl)
theorem z6(N':Nms ns.length nm)(hx:ns[k]? =some x):(cL ns nm).nv (nm k)=FH x/\(cL ns nm).al (nm k)=Jg x:=by
 haveI e:=mF N' (ae.mp hx).1
 refine⟨?_,?_⟩
 ·show (kP ns.length nm (nm k)).any _=_
  rw [e]
  show(ns[k]?).any FH=_
  rw [hx];rfl
 ·show (kP ns.length nm (nm k)).any _=_
  rw [e]
  show(ns[k]?).any Jg=_
  rw [hx];rfl
theorem uW{m:Nm}(h:((cL ns nm).isW m).isSome=true):∃k x,ns[k]? =some x/\nm k=m:=by
 haveI h:((kP ns.length nm m).bind _).isSome=true:=h
 refine fA (o:=kP ns.length nm m) (λz=>?_) λk z=>⟨k,_,aH (mJ z).2,(mJ z).1⟩
 rw [z]at h
 exact absurd h am
end
noncomputable def aE(es:List Evt)(T:Ab):Ab:=aF es T.k T
theorem nt{a b:List Evt}{T:Ab}:aE (a++b) T=aE b (aE a T):=by
 show(⟨(a++b).foldl hr T.h,λc=>(a++b).foldl (jW c) (T.k c),λc=>(a++b).foldl (m0 c) (T.s c),T.q,T.ev++(a++b),T.t,T.lt⟩:Ab)=⟨b.foldl hr (a.foldl hr T.h),λc=>b.foldl (jW c) (a.foldl (jW c) (T.k c)),λc=>b.foldl (m0 c) (a.foldl (m0 c) (T.s c)),T.q,T.ev++a++b,T.t,T.lt⟩
 rw [bz,aj,show(λc=>(a++b).foldl (jW c) (T.k c))=λc=>b.foldl (jW c) (a.foldl (jW c) (T.k c))from funext λc=>bz,show(λc=>(a++b).foldl (m0 c) (T.s c))=λc=>b.foldl (m0 c) (a.foldl (m0 c) (T.s c))from funext λc=>bz]
theorem t7{T:Ab}:aE [] T=T:=congrArg (λl=>(⟨T.h,T.k,T.s,T.q,l,T.t,T.lt⟩:Ab)) (aA T.ev)
theorem JH{h:Nm->Bool}{n:Nm}:hr h (.beg n)=iU h n true:=funext λm=>by
 refine(?_:(decide (m=n)||h m)=if m=n then true else h m)
 by_cases e:m=n
 ·rw [if_pos e,decide_eq_true e];rfl
 ·rw [if_neg e,decide_eq_false e];rfl
theorem Hh{h:Nm->Bool}{n:Nm}:(λm=>!decide (m=n)&&h m)=iU h n false:=funext λm=>by
 refine(?_:_=if m=n then false else h m)
 by_cases e:m=n
 ·rw [if_pos e,decide_eq_true e];rfl
 ·rw [if_neg e,decide_eq_false e];rfl
theorem Fp{T:Ab}{n:Nm}:({T with h:=iU T.h n true,s:=iU T.s n 0,k:=iU T.k n [],ev:=T.ev++[.beg n]}:Ab)=aE [.beg n] T:=by
 haveI e1:iU T.s n 0=λc=>m0 c (T.s c) (.beg n):=funext λc=>by
  refine(?_:(if c=n then 0 else T.s c)=if n=c then 0 else T.s c)
  by_cases e:c=n
  ·rw [if_pos e,if_pos e.symm]
  ·rw [if_neg e,if_neg λq=>e q.symm]
 haveI e2:iU T.k n []=λc=>jW c (T.k c) (.beg n):=funext λc=>by
  refine(?_:(if c=n then []else T.k c)=if n=c then []else T.k c)
  by_cases e:c=n
  ·rw [if_pos e,if_pos e.symm]
  ·rw [if_neg e,if_neg λq=>e q.symm]
 rw [e1,e2,<-JH];rfl
theorem CY{T:Ab}{n:Nm}{e:Evt}(h1:hr T.h e=λm=>!decide (m=n)&&T.h m)(h2:∀c l,jW c l e=l)(h3:∀c s,m0 c s e=s):({T with h:=iU T.h n false,ev:=T.ev++[e]}:Ab)=aE [e] T:=by
 show _=(⟨hr T.h e,λc=>jW c (T.k c) e,λc=>m0 c (T.s c) e,T.q,T.ev++[e],T.t,T.lt⟩:Ab)
 rw [h1,Hh,show(λc=>jW c (T.k c) e)=T.k from funext λc=>h2 c _,show(λc=>m0 c (T.s c) e)=T.s from funext λc=>h3 c _]
section
variable {P:Prog}{C:Calls}{ρ:Fm}{σ:Ad}{S:Hst}{H:AH}{G0:List (Nat×O)}{ns:List Nd}{nm:Nat->Nm}{x y:Nd}{k j f a o r n N b:Nat}{Q R:QE}{X:XE}{K:KS}{T T':Ab}{Y Z:List (Nat×O)}{ss:List St}{i:Nat}{e:Ex}
theorem Tr.sub8(t:Tree ns)(hx:ns[k]? =some x):(sub ns 8 k).length<=60:=aa ((t.tr.nd hx).length_le_of_subset (l₂:=aV ns.length) λi hi=>bx.mpr (t.tr.lt hx i hi)) (aa (ao ba) t.le)
noncomputable def KY(hall:V)(b k:Nat)(o3:Option V):Fm:=[some hall,some (.ref (b+3)),some (ni k),o3]
def BG(σ:Ad)(G0:List (Nat×O))(b:Nat)(ns:List Nd)(nm:Nat->Nm)(T:Ab)(Y:List (Nat×O))(S:Hst)(hall:V)(k a:Nat)(its:List Nat)(ρ:Fm)(H:AH):Prop:=
 ∃o3 dn,ρ=KY hall b k o3/\dn++its=sub ns 8 k/\WX σ G0 b ns.length nm (aE (dn.map λj=>.beg (nm j)) T) (Y++[(a,.list ((sub ns 8 k).map ni))]) S H
theorem f26(F:Fx σ G0 ns nm r o)(w:WX σ G0 b ns.length nm T Y S H)(hx:ns[k]? =some x)(hl:T.ev.length+60<=900000)(q:∀H',WX σ G0 b ns.length nm (aE (((cL ns nm).sb (nm k)).map .beg) T) Y S H'->Q .none H'):aJ PL (n+2) 26 [bN r ns nm o,.ref (b+3),ni k] H Q X:=by
 haveI wW:=Tr.sub8 F.t hx
 refine cf DO rfl (pR (fT (ev_p2 (z:=.ref r) (ev_var rfl) an rfl) (ev_var rfl) (Gu F.t (w.gn F.g) hx ?_)))
 refine qD (rev:=false) (v:=.ref H.length) (ss:=[]) (tgt:=.inl 3) (st:=λj ρ=>ρ.set 3 (some (ni j))) (f:=ni) (λ_ _=>rfl) (BG σ G0 b ns nm T Y S (bN r ns nm o) k H.length) (l:=sub ns 8 k) (λ_ _ _ q=>c6 q λ_ _ _ _ w=>d6 w.top) (aa wW (by decide)) ⟨none,[],rfl,rfl,(t7.symm▸w.push _:WX σ G0 b ns.length nm (aE [] T) (Y++[(H.length,.list ((sub ns 8 k).map ni))]) S _)⟩
  (λj js ρ' H' hI K' hK=>c6 hI λo3 dn e ed w=>?_) λρ' H' hI=>c6 hI λo3 dn e ed w=>q H' ?_
 ·subst e
  have hj:j<ns.length:=F.t.tr.lt hx j (ed▸ak dn (.head _))
  haveI ld:(aE (dn.map λj=>.beg (nm j)) T).ev.length<=az:=by
   show(T.ev++dn.map _).length<=_
   rw [af,ah]
   refine aa (aC (aa ?_ wW) _) (aa hl (by decide))
   rw [<-ed,af];exact aq _ _
  refine oz (g:=V.bool) (x:=true) (p:=0) F.n w rfl an (ev_var rfl) hj rfl rfl (T':={aE (dn.map λj=>.beg (nm j)) T with h:=iU (aE (dn.map λj=>.beg (nm j)) T).h (nm j) true}) rfl λH1 w1=>oz (g:=V.int) (x:=0) (p:=1) F.n w1 rfl an (ev_var rfl) hj rfl rfl (T':={aE (dn.map λj=>.beg (nm j)) T with h:=iU (aE (dn.map λj=>.beg (nm j)) T).h (nm j) true,s:=iU (aE (dn.map λj=>.beg (nm j)) T).s (nm j) 0}) rfl λH2 w2=>oz (g:=xH) (x:=[]) (p:=4) F.n w2 rfl (aK rfl) (ev_var rfl) hj rfl rfl (T':={aE (dn.map λj=>.beg (nm j)) T with h:=iU (aE (dn.map λj=>.beg (nm j)) T).h (nm j) true,s:=iU (aE (dn.map λj=>.beg (nm j)) T).s (nm j) 0,k:=iU (aE (dn.map λj=>.beg (nm j)) T).k (nm j) []}) rfl λH3 w3=>my (.beg (nm j)) w3 rfl (ev_p2 an (ev_p2 (x:=nu nm ns.length) (ev_p2 (ev_var rfl) an rfl) (ev_var rfl) (gZ hj)) (eR fM)) ld λH4 w4=>hK _ _ ⟨_,dn++[j],rfl,(aj dn [j] js).trans ed,?_⟩
  rw [aB,nt]
  exact(Fp (T:=aE (dn.map λj=>.beg (nm j)) T) (n:=nm j))▸w4
 ·haveI ed:dn=sub ns 8 k:=(aA dn).symm.trans ed
  rw [rJ F.n hx,bB,<-ed]
  exact w.pop
theorem zF{P:Prog}{H:AH}{v:V}{vs:List V}(h:dJ H v=some vs)(hl:vs.length<=az):aY P false .rev [v,.int (-1)] H=some (.lst vs.reverse,H):=by
 show(dJ H v).bind _=_
 rw [h]
 exact if_pos hl
def EG(σ:Ad)(G0:List (Nat×O))(b:Nat)(ns:List Nd)(nm:Nat->Nm)(T:Ab)(Y:List (Nat×O))(S:Hst)(hall sv:V)(l its:List Nat)(ρ:Fm)(H:AH):Prop:=
 ∃o3 dn,ρ=[some hall,some (.ref (b+3)),some sv,o3]/\dn++its=l.reverse/\WX σ G0 b ns.length nm (aE ((dn.filter λj=>T.h (nm j)).map λj=>.end_ (nm j)) T) Y S H
theorem Jj{ms:List Nm}{c:Nm}:∀{h:Nm->Bool},c∉ms->(ms.map Evt.end_).foldl hr h c=h c:=by
 induction ms with
 |nil=>exact λ_=>rfl
 |cons m ms ih=>
  intro h hc
  refine(ih λz=>hc (.tail _ z)).trans ?_
  refine(?_:(!decide (c=m)&&h c)=h c)
  rw [decide_eq_false λz:c=m=>hc (z▸.head _)];rfl
theorem f27{sv:V}{l:List Nat}(F:Fx σ G0 ns nm r o)(w:WX σ G0 b ns.length nm T Y S H)(hv:dJ H sv=some (l.map ni))(hlt:∀j∈l,j<ns.length)(nd:l.Nodup)(hl60:l.length<=60)(hl:T.ev.length+60<=900000)(q:∀H',WX σ G0 b ns.length nm (aE (eE T.h (l.map nm)) T) Y S H'->Q .none H'):aJ PL (n+1) 27 [bN r ns nm o,.ref (b+3),sv] H Q X:=by
 haveI ndr:l.reverse.Nodup:=(ka l).nodup_iff.mpr nd
 refine cf Gf rfl (d5 (EG σ G0 b ns nm T Y S (bN r ns nm o) sv l) (f:=ni) (l:=l.reverse) (ev_p2 (ev_var rfl) (cD an tY) (zF hv (by rw [ah];exact aa hl60 (by decide)))) (λ_ _ _ _=>congrArg some gu.symm) (by rw [bX];exact aa hl60 (by decide)) ⟨none,[],rfl,rfl,(t7.symm▸w:WX σ G0 b ns.length nm (aE [] T) Y S H)⟩
  (λj js ρ' H' hI K' hK=>c6 hI λo3 dn e ed w=>?_) λρ' H' hI=>c6 hI λo3 dn e ed w=>q H' ?_)
 ·subst e
  haveI hjm:j∈l.reverse:=ed▸ak dn (.head _)
  have hj:j<ns.length:=hlt j (eG.mp hjm)
  haveI jd:nm j∉(dn.filter λj=>T.h (nm j)).map nm:=λz=>ea1_2 (aG.mp z) λi hi e=>by
   have hi:=(bU.mp hi).1
   haveI hil:i<ns.length:=hlt i (eG.mp (ed▸av _ hi))
   exact(a8.mp (ed.symm▸ndr)).2.2 i hi j (.head _) (F.n.inj i j hil hj e)
  haveI eh:(aE ((dn.filter λj=>T.h (nm j)).map λj=>.end_ (nm j)) T).h (nm j)=T.h (nm j):=by
   show((dn.filter λj=>T.h (nm j)).map λj=>Evt.end_ (nm j)).foldl hr T.h (nm j)=_
   rw [show((dn.filter λj=>T.h (nm j)).map λj=>Evt.end_ (nm j))=((dn.filter λj=>T.h (nm j)).map nm).map .end_ from bB.symm,Jj jd]
  haveI ld:(aE ((dn.filter λj=>T.h (nm j)).map λj=>.end_ (nm j)) T).ev.length<=az:=by
   show(T.ev++ik _ _).length<=_
   rw [af,ah]
   refine aa (aC (aa (cJ _ _) (aa ?_ hl60)) _) (aa hl (by decide))
   rw [<-bX (as:=l),<-ed,af];exact aq _ _
  refine cZ (ev_eq (jb w rfl (ev_var rfl) hj) (congrArg V.bool eh)) (λhc=>?_) λhc=>hK _ _ ⟨_,dn++[j],rfl,(aj dn [j] js).trans ed,?_⟩
  ·refine oz (g:=V.bool) (x:=false) (p:=0) F.n w rfl an (ev_var rfl) hj rfl rfl (T':={aE ((dn.filter λj=>T.h (nm j)).map λj=>.end_ (nm j)) T with h:=iU (aE ((dn.filter λj=>T.h (nm j)).map λj=>.end_ (nm j)) T).h (nm j) false}) rfl λH1 w1=>my (.end_ (nm j)) w1 rfl (ev_p2 an (ev_p2 (x:=nu nm ns.length) (ev_p2 (ev_var rfl) an rfl) (ev_var rfl) (gZ hj)) (eR fM)) ld λH2 w2=>dA (hK _ _ ⟨_,dn++[j],rfl,(aj dn [j] js).trans ed,?_⟩)
   rw [fJ,cM (p:=λj=>T.h (nm j)) hc,aB,nt]
   exact(CY (T:=aE ((dn.filter λj=>T.h (nm j)).map λj=>.end_ (nm j)) T) (n:=nm j) (e:=.end_ (nm j)) rfl (λ_ _=>rfl) λ_ _=>rfl)▸w2
  ·rw [fJ,dL (p:=λj=>T.h (nm j)) (by rw [hc];exact am),show GU (λj=>T.h (nm j)) []=[]from rfl,aA]
   exact w
 ·haveI ed:dn=l.reverse:=(aA dn).symm.trans ed
  subst ed
  have e:eE T.h (l.map nm)=(l.reverse.filter λj=>T.h (nm j)).map λj=>.end_ (nm j):=by
   unfold eE
   rw [<-gu,jh,bB];rfl
  rw [e]
  exact w
theorem DS(F:Fx σ G0 ns nm r o)(g:GN r ns H)(hx:ns[k]? =some x)(q:Q (.bool ((cL ns nm).nv (nm k))) H):aJ PL (n+1) 28 [bN r ns nm o,ni k] H Q X:=by
 rw [(z6 F.n hx).1]at q
 refine cf F9 rfl (ev_ret (ev_eq (b8 (ev_p2 (na F.t.tr hx rfl rfl) an (fS jO jO)) λ_=>cN (jw g hx rfl rfl rfl)) (congrArg V.bool ?_)) q)
 refine(?_:(hM x==['n','e','v','e','r']&& !x.w)=(hM x==['n','e','v','e','r']))
 cases hw:x.w with
 |false=>exact kt _
 |true=>
  unfold hM
  rw [if_pos hw]
  exact(by decide:∀r∈fW,(r==['n','e','v','e','r']&& !true)=(r==['n','e','v','e','r'])) _ qg
end
section
variable {π:PI}
theorem yI{ms:List Nm}:∀{h:Nm->Bool},(∀m∈ms,(π.sb m).length<=60)->(eD π h ms).length<=60*ms.length:=by
 induction ms with
 |nil=>exact λ_=>aI _
 |cons m ms ih=>
  intro h q
  refine(?_:(eE h (π.sb m)++eD π _ ms).length<=60*(ms.length+1))
  rw [af,Nat.mul_succ,ce (60*ms.length)]
  exact bP (aa nT (q m (.head _))) (ih λm hm=>q m (.tail _ hm))
theorem Em{ms:List Nm}{c:Nm}:∀{h:Nm->Bool},(ms.map Evt.end_).foldl hr h c=true->h c=true:=by
 induction ms with
 |nil=>exact λz=>z
 |cons m ms ih=>exact λz=>(ay.mp (ih z)).2
theorem BQ{ms:List Nm}{c:Nm}:∀{h:Nm->Bool},(eD π h ms).foldl hr h c=true->h c=true:=by
 induction ms with
 |nil=>exact λz=>z
 |cons m ms ih=>
  intro h z
  haveI z:(eE h (π.sb m)++eD π ((eE h (π.sb m)).foldl hr h) ms).foldl hr h c=true:=z
  rw [bz]at z
  exact Em (ih z)
end
section
variable {σ:Ad}{S:Hst}{H:AH}{G0:List (Nat×O)}{ns:List Nd}{nm:Nat->Nm}{x y:Nd}{k j f a o r n N b i:Nat}{Q R:QE}{X:XE}{K:KS}{T T':Ab}{Y Z:List (Nat×O)}{ss:List St}
theorem pb{P:Prog}{C:Calls}{ρ:Fm}{a b c:Ex}{x y:V}{f:Nat}(ha:Ev P C ρ H X a x)(hb:Ev P C ρ H X b y)(k:cz P C c ρ H (λu H'=>C f [x,y,u] H' Q X) X):cz P C (.call f [a,b,c]) ρ H Q X:=ha _ (hb _ k)
theorem Eo{α β:Type}{f:α->List β}{l:List α}(h:∀a∈l,(f a).length<=60):(l.flatMap f).length<=60*l.length:=by
 induction l with
 |nil=>exact aI _
 |cons a l ih=>
  rw [b0,af,bK,Nat.mul_succ,ce (60*l.length)]
  exact bP (h a (.head _)) (ih λc hc=>h c (.tail _ hc))
theorem EL{P:Prog}{v:V}{l:List Nat}(hv:dJ H v=some (l.map ni))(nd:l.Nodup)(hi:l[i]? =some k):aY P false .lindex [v,ni k] H=some (ni i,H):=by
 haveI q:=eX (kL (f:=ni) (l:=l) λ_=>trivial)
 refine(?_:((dJ H v).bind λvs=>if rH vs=true then(vs.findIdx? λy=>gf y (ni k)).map λ(k:Nat)=>(V.int k,H)else none)=_)
 rw [hv]
 show(if rH _=true then((l.map ni).findIdx? λy=>gf y (ni k)).map λ(k:Nat)=>(V.int k,H)else none)=_
 have hl:=(ae.mp hi).1
 rw [if_pos (kM q.1 (aa (ao q.2) (by decide))),show((l.map ni).findIdx? λy=>gf y (ni k))=some i from ?_]
 ·rfl
 ·refine eV.mpr ⟨by rw [ah];exact hl,?_,λj hj=>?_⟩
  ·rw [k6]
   exact uA.mpr (ai ((aH hl).symm.trans hi))
  ·rw [k6]
   exact λz=>d9 hj ((ij (hU hj hl) nd).mp ((aH (hU hj hl)).trans ((congrArg some (uA.mp z)).trans hi.symm)))
theorem CJ{C:Calls}{rl:Nm}(hr:rl∈fW){ρ:Fm}{l:List Nat}(h3:ρ[3]? =some (some (ni k)))(h4:ρ[4]? =some (some (.ref a)))(h5:ρ[5]? =some (some (ni i)))(h6:ρ[6]? =some (some (.str rl)))(ha:H[a]? =some (.list (l.map ni)))(hi:l[i]? =some k)(hl:l.length<=8) :
  ∃sv,Ev PL C ρ H X (.prim false .item [(.prim false (.mkdict [['o','n','e'],['r','e','s','t'],['a','l','l']]) [(.prim false .mklist [.var 3]),(.prim false .slice [.var 4,.var 5,.cst .none]),.var 4]),.var 6]) sv/\p4 H sv=dJ H sv/\(sv=.ref a/\oD rl l i k=l\/sv=.lst ((oD rl l i k).map ni)):=by
 have il:=(ae.mp hi).1
 have e:Ev PL C ρ H X (.prim false (.mkdict [['o','n','e'],['r','e','s','t'],['a','l','l']]) [(.prim false .mklist [.var 3]),(.prim false .slice [.var 4,.var 5,.cst .none]),.var 4]) (.dct [['o','n','e'],['r','e','s','t'],['a','l','l']] [.lst [ni k],.lst ((l.drop i).map ni),.ref a]):=by
  refine pO (eU (cD (ev_var h3) (gH wQ)) (eU (iE (ev_var h4) (ev_var h5) an ?_) (eU (ev_var h4) pi))) rfl
  refine(?_:((H[a]?.bind O.lst).bind _).map _=_)
  rw [ha]
  show(if(l.map ni).length<=az then some (V.lst (bM (l.map ni) (jo (l.map ni).length i) (l.map ni).length))else none:Option V).map _=_
  rw [if_pos (by rw [ah];exact aa hl (by decide)),iy (by rw [ah];exact eB il)]
  unfold bM
  rw [kZ,<-on];rfl
 refine dN hr (λz=>?_) λhr=>dN hr (λz=>?_) λhr=>?_
 ·subst z
  exact⟨_,ev_p2 e (ev_var h6) rfl,rfl,.inr rfl⟩
 ·subst z
  exact⟨_,ev_p2 e (ev_var h6) rfl,rfl,.inr rfl⟩
 ·haveI z:=in1 hr
  subst z
  exact⟨_,ev_p2 e (ev_var h6) rfl,rfl,.inl ⟨rfl,rfl⟩⟩
noncomputable def Ix(hall:V)(b u k a i:Nat)(rl:Nm)(sv:V)(o8:Option V)(ag:V):Fm:=[some hall,some (.ref (b+3)),some (ni u),some (ni k),some (.ref a),some (ni i),some (.str rl),some sv,o8,some ag]
def AN(σ:Ad)(G0:List (Nat×O))(b:Nat)(ns:List Nd)(nm:Nat->Nm)(T:Ab)(Y:List (Nat×O))(S:Hst)(fr:Option V->Fm)(l:List Nat)(Ev:List Nat->List Evt)(its:List Nat)(ρ:Fm)(H:AH):Prop:=
 ∃o8 dn,ρ=fr o8/\dn++its=l/\WX σ G0 b ns.length nm (aE (Ev dn) T) Y S H
theorem Lu(F:Fx σ G0 ns nm r o)(w:WX σ G0 b ns.length nm T Y S H)(hy:ns[j]? =some y)(hw:y.w=true)(hi:y.inner[i]? =some k)(off:∀m∈(cL ns nm).kd (nm j),T.h m=false->∀x∈(cL ns nm).sb m,T.h x=false)(hl:T.ev.length+1100<=900000)(q:∀H',WX σ G0 b ns.length nm (aE (Dn (cL ns nm) T.h (nm j) i (nm k)) T) Y S H'->Q .none H'):aJ PL (n+3) 29 [bN r ns nm o,.ref (b+3),ni j,ni k] H Q X:=by
 have Tt:=F.t.tr
 have lm:=Tt.lim j y hy
 have g:=w.gn F.g
 haveI rl:=hM y
 haveI hrl:hM y∈fW:=by unfold hM;rw [if_pos hw];exact qg
 refine cf Ej rfl (br (jw g hy rfl rfl rfl) (bW rfl) (br (v:=ni i) (mh (ev_var rfl) (d8 (g.inn hy)) (ev_var rfl) (EL (show H[y.a]?.bind O.lst=_ by rw [g.inn hy];rfl) lm.nd hi)) (bW rfl) (br (na Tt hy rfl rfl) (bW rfl) ?_)))
 refine dm (CJ (X:=X) (C:=aJ PL (n+2)) hrl (ρ:=[some (bN r ns nm o),some (.ref (b+3)),some (ni j),some (ni k),some (.ref y.a),some (ni i),some (.str (hM y)),none,none,none]) rfl rfl rfl rfl (g.inn hy) hi lm.le) λsv esv esr hsv=>br esv (bW rfl) ?_
 generalize hpl:oD (hM y) y.inner i k=l at hsv
 have vw:∀{H'},GN r ns H'->dJ H' sv=some (l.map ni):=λ{H'} g=>hsv.elim (λz=>by rw [z.1];show H'[y.a]?.bind O.lst=_;rw [g.inn hy,z.2];rfl) λz=>by rw [z];rfl
 have fp:∀m∈l,∃z,ns[m]? =some z/\(cL ns nm).sb (nm m)=(sub ns 8 m).map nm/\nm m∈(cL ns nm).kd (nm j):=λm hm=>by
  have him:=pU (rl:=hM y) hi m (hpl▸hm)
  exact dg (Tt.inn j y hy m him) λz hz _ _ _=>⟨z,hz,rJ F.n hz,(pg F.n hy).1▸bf him⟩
 haveI lnd:l.Nodup:=hpl▸Am lm.nd
 have ll:l.length<=8:=hpl▸aa (uO (ae.mp hi).1) lm.le
 haveI el:oD ((cL ns nm).ru (nm j)) ((cL ns nm).kd (nm j)) i (nm k)=l.map nm:=by rw [(pg F.n hy).1,(pg F.n hy).2,<-hpl,vG]
 haveI hkn:∀m∈l,(m==k)=(nm m==nm k):=λm hm=>by
  rw [cg,beq_iff_eq,beq_iff_eq]
  refine⟨λe=>e▸rfl,λe=>dm (fp m hm) λz hz _ _=>?_⟩
  have hkl:k∈y.inner:=aM hi
  exact dg (Tt.inn j y hy k hkl) λz' hz' _ _ _=>F.n.inj m k (ae.mp hz).1 (ae.mp hz').1 e
 haveI hag:((l.map nm).filter λm=>m==nm k||(T.h m&& !(cL ns nm).nv m))=(l.filter λm=>gf (ni m) (ni k)||(T.h (nm m)&& !(cL ns nm).nv (nm m))).map nm:=by
  rw [jh]
  refine congrArg (ik nm) (qV λm hm=>?_)
  refine(?_:(nm m==nm k||_)=_)
  rw [<-hkn m hm]
  exact congrArg (·||_) (cg.mpr (beq_iff_eq.trans uA.symm))
 refine br (ip (l:=l) (f:=ni) (g:=ni) (p:=λm=>gf (ni m) (ni k)||(T.h (nm m)&& !(cL ns nm).nv (nm m))) (w:=sv) (ev_var rfl) (esr.trans (vw g)) (aa ll (by decide)) (λm hm=>dm (fp m hm) λz hz _ _=>g9 (ev_p2 (ev_var rfl) (ev_var rfl) (fS dz dz)) λ_=>b8 (jb w rfl (ev_var rfl) (ae.mp hz).1) λ_=>cN (gk (ev_var rfl) (ev_var rfl) λQ q=>DS F g hz q)) λ_ _ _=>ev_var rfl) (bW rfl) ?_
 have agl:∀m∈(l.filter λm=>gf (ni m) (ni k)||(T.h (nm m)&& !(cL ns nm).nv (nm m))),m∈l:=λm hm=>(bU.mp hm).1
 haveI agn:(l.filter λm=>gf (ni m) (ni k)||(T.h (nm m)&& !(cL ns nm).nv (nm m))).length<=8:=aa (cJ _ _) ll
 generalize (l.filter λm=>gf (ni m) (ni k)||(T.h (nm m)&& !(cL ns nm).nv (nm m)))=ag at hag agl agn
 have sb60:∀m∈l,((cL ns nm).sb (nm m)).length<=60:=λm hm=>dm (fp m hm) λz hz e _=>by rw [e,ah];exact Tr.sub8 F.t hz
 have e1len:∀{dn its:List Nat},dn++its=l.reverse->(eD (cL ns nm) T.h ((dn.map nm).filter T.h)).length<=480:=λ{dn its} ed=>by
  have ld:dn.length<=8:=aa (aa dQ (ao (congrArg dH ed))) (aa (ao bX) ll)
  refine aa (yI λm hm=>ea1_2 (aG.mp (bU.mp hm).1) λc hc e=>e▸sb60 c (eG.mp (ed▸av _ hc))) (aa (bn 60 ?_) (by decide:60*8<=480))
  exact aa (cJ _ _) (aa (ao (ah _)) ld)
 refine d5 (AN σ G0 b ns nm T Y S (λo8=>Ix (bN r ns nm o) b j k y.a i (hM y) sv o8 (.lst (ag.map ni))) l.reverse λdn=>eD (cL ns nm) T.h ((dn.map nm).filter T.h)) (f:=ni) (l:=l.reverse) (ev_p2 (ev_var rfl) (cD an tY) (zF (vw g) (by rw [ah];exact aa ll (by decide)))) (λ_ _ _ _=>congrArg some gu.symm) (by rw [bX];exact aa ll (by decide)) ⟨none,[],rfl,rfl,(t7.symm▸w:WX σ G0 b ns.length nm (aE [] T) Y S H)⟩
  (λm js ρ' H' hI K' hK=>c6 hI λo8 dn e ed w=>?_) λρ' H' hI=>c6 hI λo8 dn e ed w=>?_
 ·subst e
  haveI hm:m∈l:=eG.mp (ed▸ak dn (.head _))
  refine dm (fp m hm) λz hz esb hkd=>?_
  haveI lT:(aE (eD (cL ns nm) T.h ((dn.map nm).filter T.h)) T).ev.length+60<=900000:=by
   show(T.ev++_).length+60<=_
   rw [af,bt]
   exact aa (aC (aa (aN (e1len ed) 60) (by decide)) _) hl
  refine st_expr (pb (ev_var rfl) (ev_var rfl) (fT (ev_p2 (z:=.ref r) (ev_var rfl) an rfl) (ev_var rfl) (Gu (n:=n+1) F.t (w.gn F.g) hz (f27 (n:=n+1) (l:=sub ns 8 m) F (w.push _) ?_ (Tt.lt hz) (Tt.nd hz) (Tr.sub8 F.t hz) lT λH1 w1=>hK _ _ ⟨_,dn++[m],rfl,(aj dn [m] js).trans ed,?_⟩))))
  ·refine (?_:(H'++[_])[H'.length]?.bind O.lst=_)
   rw [dS];rfl
  ·haveI w1:=w1.pop
   rw [<-esb,<-nt]at w1
   haveI e:eD (cL ns nm) T.h (((dn++[m]).map nm).filter T.h)=eD (cL ns nm) T.h ((dn.map nm).filter T.h)++eE (aE (eD (cL ns nm) T.h ((dn.map nm).filter T.h)) T).h ((cL ns nm).sb (nm m)):=by
    rw [aB,fJ]
    cases hh:T.h (nm m)with
    |true=>
     rw [show([m].map nm).filter T.h=[nm m]from cM hh]
     exact y0
    |false=>
     rw [show([m].map nm).filter T.h=[]from dL (by rw [hh];exact am),aA]
     haveI z:=x7 (h:=(aE (eD (cL ns nm) T.h ((dn.map nm).filter T.h)) T).h) (a:=(cL ns nm).sb (nm m)) λc hc=>cK.mpr λy=>am ((off _ hkd hh c hc).symm.trans (BQ y))
     rw [z,aA]
   refine(?_:WX σ G0 b ns.length nm (aE (eD (cL ns nm) T.h (((dn++[m]).map nm).filter T.h)) T) Y S H1)
   rw [e]
   exact w1
 ·subst e
  haveI edn:dn=l.reverse:=(aA dn).symm.trans ed
  subst edn
  haveI E0:eD (cL ns nm) T.h ((l.reverse.map nm).filter T.h)=eD (cL ns nm) T.h ((l.map nm).filter T.h).reverse:=by rw [gu,List.filter_reverse]
  refine d5 (AN σ G0 b ns nm T Y S (λo8=>Ix (bN r ns nm o) b j k y.a i (hM y) sv o8 (.lst (ag.map ni))) ag λdn=>eD (cL ns nm) T.h ((l.reverse.map nm).filter T.h)++((dn.map nm).flatMap (cL ns nm).sb).map .beg) (f:=ni) (l:=ag) (ev_var rfl) (λ_ _ _ _=>rfl) (aa agn (by decide)) ⟨o8,[],rfl,rfl,by show WX σ G0 b ns.length nm (aE (eD (cL ns nm) T.h ((l.reverse.map nm).filter T.h)++[]) T) Y S H';rw [aA];exact w⟩
   (λm js ρ' H' hI K' hK=>c6 hI λo8 dn e ed2 w=>?_) λρ' H' hI=>c6 hI λo8 dn e ed2 w=>q H' ?_
  ·subst e
   haveI hm:m∈l:=agl m (ed2▸ak dn (.head _))
   refine dm (fp m hm) λz hz esb hkd=>?_
   have lb:(((dn.map nm).flatMap (cL ns nm).sb).map Evt.beg).length<=480:=by
    rw [ah,gw]
    haveI ld:dn.length<=8:=aa (aa dQ (ao (congrArg dH ed2))) agn
    exact aa (Eo λc hc=>sb60 c (agl c (ed2▸av _ hc))) (bn 60 ld)
   refine st_expr (gR (ev_var rfl) (ev_var rfl) (ev_var rfl) (f26 (n:=n) F w hz ?_ λH1 w1=>hK _ _ ⟨_,dn++[m],rfl,(aj dn [m] js).trans ed2,?_⟩))
   ·refine (?_:(T.ev++(_++_)).length+60<=_)
    rw [af,af,bt]
    exact aa (aC (aa (aN (bP (e1len ed) lb) 60) (by decide)) _) hl
   ·rw [<-nt,aj,<-aB]at w1
    show WX σ G0 b ns.length nm (aE (eD (cL ns nm) T.h ((l.reverse.map nm).filter T.h)++(((dn++[m]).map nm).flatMap (cL ns nm).sb).map .beg) T) Y S H1
    rw [aB,bo,show([m].map nm).flatMap (cL ns nm).sb=(cL ns nm).sb (nm m)from aA _]
    exact w1
  ·haveI edn:dn=ag:=(aA dn).symm.trans ed2
   subst edn
   unfold Dn
   rw [el,<-E0,hag]
   exact w
end
noncomputable def DM(c:Nm):Evt->Bool
 |.beg n=>decide (n=c)
 |_=>false
theorem m6{c:Nm}{es:List Evt}:∀{l:List Int},es.foldl (jW c) l=if es.any (DM c)=true then []else l:=by
 induction es with
 |nil=>exact rfl
 |cons e es ih=>
  intro l
  refine(?_:es.foldl (jW c) (jW c l e)=if(DM c e||es.any (DM c))=true then []else l)
  rw [ih]
  cases e with
  |beg n=>
   refine(?_:(if es.any (DM c)=true then []else if n=c then []else l)=if(decide (n=c)||es.any (DM c))=true then []else l)
   by_cases z:n=c
   ·rw [if_pos z,decide_eq_true z,Bool.true_or,if_pos rfl];exact ite_self _
   ·rw [if_neg z,decide_eq_false z,Ax]
  |_=>rfl
section
variable {t s:Int}{l:List Int}
theorem xE(h:1<=s):Fh t s (l++[t])=Fh t s l++[t]:=by
 unfold Fh
 rw [fJ,cM (by exact decide_eq_true (jz h (by simp+arith only):t-s<t))];rfl
theorem BA:Fh t s (Fh t s l)=Fh t s l:=by
 unfold Fh
 rw [Kh]
 exact congrArg (λp=>l.filter p) (funext λz=>Bool.and_self _)
theorem uM:(Fh t s l).length<=l.length:=cJ _ _
end
def Rk(π:PI)(t:Int)(f g:Nm->List Int):Prop:=∀w,π.isW w=some true->Fh t (π.sp w) (f w)=Fh t (π.sp w) (g w)
structure Sm(π:PI)(A T:Ab):Prop where
 h:T.h=A.h
 s:T.s=A.s
 q:T.q=A.q
 ev:T.ev=A.ev
 t:T.t=A.t
 lt:T.lt=A.lt
 k:Rk π A.t T.k A.k
 kb:∀w,(T.k w).length<=T.ev.length
section
variable {π:PI}{A T:Ab}{es:List Evt}{k' f:Nm->List Int}{w:Nm}{e:Evt}
theorem Sm.upk(sm:Sm π A T)(k1:Rk π A.t f k')(kb:∀w,(f w).length<=T.ev.length)(es:List Evt):Sm π (aF es k' A) (aF es f T) where
 h:=congrArg (λh=>es.foldl hr h) sm.h
 s:=congrArg (λ(s:Nm->Int) c=>es.foldl (m0 c) (s c)) sm.s
 q:=sm.q
 ev:=congrArg (·++es) sm.ev
 t:=sm.t
 lt:=sm.lt
 k:=λw hw=>by
  refine(?_:Fh A.t (π.sp w) (es.foldl (jW w) (f w))=Fh A.t (π.sp w) (es.foldl (jW w) (k' w)))
  rw [m6,m6]
  cases es.any (DM w)with
  |true=>rfl
  |false=>exact k1 w hw
 kb:=λw=>by
  refine(?_:(es.foldl (jW w) (f w)).length<=(T.ev++es).length)
  rw [m6,af]
  cases es.any (DM w)with
  |true=>exact aQ _
  |false=>exact aa (kb w) (aq _ _)
theorem zD{a b:List Evt}{k0:Nm->List Int}(ha:∀c l,a.foldl (jW c) l=l):aF b k' {aF a k0 A with k:=f}=aF (a++b) k' A:=by
 refine(?_:(⟨b.foldl hr (a.foldl hr A.h),λc=>b.foldl (jW c) (k' c),λc=>b.foldl (m0 c) (a.foldl (m0 c) (A.s c)),A.q,A.ev++a++b,A.t,A.lt⟩:Ab)=⟨(a++b).foldl hr A.h,λc=>(a++b).foldl (jW c) (k' c),λc=>(a++b).foldl (m0 c) (A.s c),A.q,A.ev++(a++b),A.t,A.lt⟩)
 rw [bz,aj,show(λc=>(a++b).foldl (jW c) (k' c))=λc=>b.foldl (jW c) (k' c)from funext λc=>by rw [bz,ha],show(λc=>(a++b).foldl (m0 c) (A.s c))=λc=>b.foldl (m0 c) (a.foldl (m0 c) (A.s c))from funext λc=>bz]
end
section
variable {P:Prog}{C:Calls}{ρ:Fm}{σ:Ad}{S:Hst}{H:AH}{G0:List (Nat×O)}{ns:List Nd}{nm:Nat->Nm}{x y:Nd}{k j f a o r n N b i:Nat}{Q R:QE}{X:XE}{K:KS}{A T T':Ab}{Y Z:List (Nat×O)}{ss:List St}{e:Evt}
theorem vf(Tt:Tr ns)(N':Nms ns.length nm)(hx:ns[k]? =some x):((cL ns nm).ch (nm k)).isSome=decide (0<k):=by
 by_cases z:k=0
 ·subst z
  refine(?_:((kP ns.length nm (nm 0)).bind _).isSome=_)
  rw [mF N' (ae.mp hx).1];rfl
 ·rw [decide_eq_true (dC z)]
  exact gP (Tt.up k x hx (dC z)) λj y hj _ _ hm=>by rw [xm Tt N' hj hm];rfl
def Kj(e:Evt):Prop:=e=.fail e.nm\/e=.leave e.nm
noncomputable def wdE:Evt->Nm
 |.fail _=>['f','a','i','l','s']
 |_=>['l','e','a','v','e','s']
theorem Dc(h:Kj e):(∀h,hr h e=λm=>!decide (m=e.nm)&&h m)/\(∀c l,jW c l e=l)/\(∀c s,m0 c s e=s)/\e.v=.tup [.str (wdE e),.str e.nm]:=by
 rcases h with z|z<;>rw [z]<;>exact⟨λ_=>rfl,λ_ _=>rfl,λ_ _=>rfl,rfl⟩
noncomputable def ti(hall:V)(b k:Nat)(e:Evt)(ct:Bool)(o5 o6:Option V):Fm:=[some hall,some (.ref (b+3)),some (ni k),some (.str (wdE e)),some (.bool ct),o5,o6]
structure FU(σ:Ad)(G0:List (Nat×O))(b:Nat)(ns:List Nd)(nm:Nat->Nm)(Y:List (Nat×O))(S:Hst)(Af:Ab)(k':Nm->List Int)(A T:Ab)(k:Nat)(e:Evt)(es:List Evt)(ct:Bool)(H:AH):Prop where
 w:WX σ G0 b ns.length nm T Y S H
 sm:Sm (cL ns nm) A T
 hx:∃x,ns[k]? =some x
 en:e.nm=nm k
 fl:Kj e
 fe:Fe (cL ns nm) A.t (ct&&decide (0<k)) A.h A.k e es k'
 fin:aF es k' A=Af
def FL(σ:Ad)(G0:List (Nat×O))(b:Nat)(ns:List Nd)(nm:Nat->Nm)(Y:List (Nat×O))(S:Hst)(Af:Ab)(k':Nm->List Int)(hall:V)(M:Nat)(ρ:Fm)(H:AH):Prop:=
 ∃A T k e es ct,(∃o5 o6,ρ=ti hall b k e ct o5 o6)/\(FU σ G0 b ns nm Y S Af k' A T k e es ct H/\es.length=M)
theorem xz(F:Fx σ G0 ns nm r o)(w:WX σ G0 b ns.length nm T Y S H)(hx:ns[k]? =some x)(h0:ρ[0]? =some (some (bN r ns nm o)))(h1:ρ[1]? =some (some (.ref (b+3))))(h2:ρ[2]? =some (some (ni k)))(hl:T.ev.length+60<=900000)(q:∀H',WX σ G0 b ns.length nm (aE (eE T.h ((cL ns nm).sb (nm k)).tail) T) Y S H'->a7 PL (aJ PL (n+1)) ss ρ H' K R X) :
  a7 PL (aJ PL (n+1)) (.expr (.call 27 [.var 0,.var 1,(.prim false .slice [(.call 14 [(.prim false .item [.var 0,.cst (.str ['n','o','d','e','s'])]),.var 2]),.cst (.int 1),.cst .none])])::ss) ρ H K R X:=by
 have wW:=Tr.sub8 F.t hx
 haveI nd:(k::(lG ns k).flatMap (sub ns 7)).Nodup:=F.t.tr.nd (f:=8) hx
 haveI l60':((lG ns k).flatMap (sub ns 7)).length+1<=60:=wW
 haveI lt:∀j∈k::(lG ns k).flatMap (sub ns 7),j<ns.length:=F.t.tr.lt (f:=8) hx
 haveI ls:((sub ns 8 k).map ni).length<=az:=by rw [ah];exact aa wW (by decide)
 haveI e8:sub ns 8 k=k::(lG ns k).flatMap (sub ns 7):=rfl
 haveI w1:WX σ G0 b ns.length nm T Y S (H++[.list ((sub ns 8 k).map ni)]):=w.app
 refine st_expr (pb (ev_var h0) (ev_var h1) (fT (f:=14) (Q:=λu H'=>g7 (aY PL false .slice [u,.int 1,.none] H') λv H'=>aJ PL (n+1) 27 [bN r ns nm o,.ref (b+3),v] H' (λ_ H'=>a7 PL (aJ PL (n+1)) ss ρ H' K R X) X) (ev_p2 (z:=.ref r) (ev_var h0) an rfl) (ev_var h2) (Gu (n:=n) F.t (w.gn F.g) hx (hE (v:=.lst (((lG ns k).flatMap (sub ns 7)).map ni)) (H':=H++[.list ((sub ns 8 k).map ni)]) ?_ (f27 (n:=n) (l:=(lG ns k).flatMap (sub ns 7)) F w1 rfl (λj hj=>lt j (.tail _ hj)) (bg.mp nd).2 (aa (a9 _) l60') hl λH2 w2=>q H2 ?_)))))
 ·refine (?_:(((H++[_])[H.length]?.bind O.lst).bind _).map _=_)
  rw [dS]
  show(if((sub ns 8 k).map ni).length<=az then some (V.lst (bM ((sub ns 8 k).map ni) (jo ((sub ns 8 k).map ni).length 1) ((sub ns 8 k).map ni).length))else none:Option V).map _=_
  rw [if_pos ls,e8]
  exact congrArg (λt=>some (V.lst t,_)) qo
 ·rw [rJ F.n hx,e8]
  exact w2
end
noncomputable def wB:St->List St
 |.while_ _ b=>b
 |_=>[]
section
variable {σ:Ad}{S:Hst}{H:AH}{G0:List (Nat×O)}{ns:List Nd}{nm:Nat->Nm}{x y:Nd}{k j o r n b i:Nat}{Q R:QE}{X:XE}{K:KS}{A T T' Af:Ab}{Y:List (Nat×O)}{ss:List St}{e:Evt}{k':Nm->List Int}{es:List Evt}{π:PI}{w:Nm}{ct:Bool}{o5 o6:Option V}
theorem KO(hw:y.w=true):1<=sf y:=by unfold sf;rw [if_pos hw];exact yj.1
theorem zZ{h:Nm->Bool}:1<=(pre π h e).length:=ax (aQ _)
theorem Lm{c:Bool}{t:Int}{h:Nm->Bool}{k:Nm->List Int}(fe:Fe π t c h k e es k')(hc:c=false):es=pre π h e/\k'=k:=by
 induction fe with
 |stop _ h1 h2=>exact⟨h1,h2⟩
 |here z|go z=>exact absurd (hc.symm.trans z) am
theorem KM{G:Prop}{c:Bool}{t:Int}{h:Nm->Bool}{k:Nm->List Int}(fe:Fe π t c h k e es k')(hc:c=true)(hw:π.ch e.nm=some w)
  (kh:∀i,((Fh t (π.sp w) (k w++[t])).length:Int)<=π.mn w->(π.kd w)[i]? =some e.nm->(∀m∈π.kd w,(pre π h e).foldl hr h m=false->∀x∈π.sb m,(pre π h e).foldl hr h x=false)->es=pre π h e++Dn π ((pre π h e).foldl hr h) w i e.nm->k'=G3 k w (k w++[t])->G)
  (kg:∀es2,π.mn w<((Fh t (π.sp w) (k w++[t])).length:Int)->Fe π t (cF π w) ((pre π h e).foldl hr h) (G3 k w (k w++[t])) (.fail w) es2 k'->es=pre π h e++es2->G):G:=by
 induction fe with
 |stop z=>exact absurd (z.symm.trans hc) am
 |here _ h1 e1 e2 h2 h3 h4=>
  have z:=ai (h1.symm.trans hw)
  subst z
  exact kh _ h2 h3 h4 e1 e2
 |go _ h1 e1 h2 h3=>
  have z:=ai (h1.symm.trans hw)
  subst z
  exact kg _ h2 h3 e1
theorem Sm.kept{sp:Int}(sm:Sm π A T)(hw:π.isW w=some true)(esp:π.sp w=sp)(h1:1<=sp)(hE:∀c l,es.foldl (jW c) l=l)(he:1<=es.length) :
  Sm π {aF es A.k A with k:=G3 A.k w (A.k w++[A.t])} {aE es T with k:=iU T.k w (Fh T.t sp (T.k w)++[T.t])}/\Fh A.t (π.sp w) (A.k w++[A.t])=Fh T.t sp (T.k w)++[T.t]:=by
 haveI et:=sm.t
 have eln:Fh A.t (π.sp w) (A.k w++[A.t])=Fh T.t sp (T.k w)++[T.t]:=by
  have z:=sm.k w hw
  replace z:=(esp)▸z
  rw [esp,xE h1,et,z]
 haveI s1:=sm.upk sm.k sm.kb es
 refine⟨⟨s1.h,s1.s,s1.q,s1.ev,s1.t,s1.lt,λc hc=>?_,λc=>?_⟩,eln⟩
 ·refine (?_:Fh A.t _ (if c=w then _ else T.k c)=Fh A.t _ (if w=c then _ else A.k c))
  by_cases z:c=w
  ·rw [if_pos z,if_pos z.symm,z,eln,esp,<-et,xE h1,BA]
  ·rw [if_neg z,if_neg λq=>z q.symm]
   exact sm.k c hc
 ·refine (?_:(if c=w then _ else T.k c).length<=(T.ev++es).length)
  rw [af]
  by_cases z:c=w
  ·rw [if_pos z,af]
   exact bP (aa uM (sm.kb _)) he
  ·rw [if_neg z]
   exact aa (sm.kb c) (aq _ _)
theorem xS(F:Fx σ G0 ns nm r o)(w:WX σ G0 b ns.length nm T Y S H)(hx:ns[k]? =some x)(en:e.nm=nm k)(fl:Kj e)(hl:T.ev.length+1100<=900000)(q:∀H',WX σ G0 b ns.length nm (aE (pre (cL ns nm) T.h e) T) Y S H'->a7 PL (aJ PL (n+3)) ss (ti (bN r ns nm o) b k e ct o5 o6) H' K R X) :
  a7 PL (aJ PL (n+3)) ((wB (rA.body.getD 2 .pass)).take 3++ss) (ti (bN r ns nm o) b k e ct o5 o6) H K R X:=by
 have hk:=(ae.mp hx).1
 haveI fg:=Dc fl
 refine(?_:a7 PL (aJ PL (n+3)) (_::_::_::ss) _ _ _ _ _)
 refine oz (g:=V.bool) (x:=false) (p:=0) (F.n) w rfl an (ev_var rfl) hk rfl rfl (T':={T with h:=iU T.h (nm k) false}) rfl λH1 w1=>my e w1 rfl (fg.2.2.2▸en.symm▸ev_p2 (ev_var rfl) (ev_p2 (x:=nu nm ns.length) (ev_p2 (ev_var rfl) an rfl) (ev_var rfl) (gZ hk)) (eR fM)) (aa (aq _ _) (aa hl (by decide))) λH2 w2=>?_
 refine xz (k:=k) (x:=x) F ((CY (T:=T) (n:=nm k) (e:=e) (en▸fg.1 T.h) fg.2.1 fg.2.2.1)▸w2:WX σ G0 b ns.length nm (aE [e] T) Y S H2) hx rfl rfl rfl ?_ λH3 w3=>q H3 ?_
 ·refine (?_:(T.ev++[e]).length+60<=_)
  rw [af,bt]
  exact aa (aC (by decide:1+60<=1100) _) hl
 ·rw [show pre (cL ns nm) T.h e=[e]++eE (hr T.h e) ((cL ns nm).sb (nm k)).tail from by unfold pre;rw [en];rfl,nt]
  exact w3
theorem HJ(Tt:Tr ns)(hx:ns[k]? =some x):decide (x.up<0)= !decide (0<k):=by
 by_cases z:k=0
 ·rw [Tt.tup k x hx z,z];rfl
 ·refine gP (Tt.up k x hx (dC z)) λj y hj _ e _=>?_
  rw [e,decide_eq_true (dC z),decide_eq_false (dB.mpr (bv j))];rfl
theorem H8(Tt:Tr ns)(N':Nms ns.length nm)(hj:ns[j]? =some y)(hk:k<ns.length)(h:((cL ns nm).kd (nm j))[i]? =some (nm k)):y.inner[i]? =some k:=by
 rw [(pg N' hj).1,aO]at h
 refine fA (o:=y.inner[i]?) (λe=>by rw [e]at h;exact eY h) λc e=>?_
 rw [e]at h
 rw [e,dg (Tt.inn j y hj c (aM e)) λz hz _ _ _=>N'.inj c k (ae.mp hz).1 hk (ai h)]
theorem Ld(Tt:Tr ns)(N':Nms ns.length nm)(hj:ns[j]? =some y)(yw:y.w=true):cF (cL ns nm) (nm j)=(true&&decide (0<j)):=by
 unfold cF
 simp only [vf Tt N' hj,(z6 N' hj).1]
 refine congrArg (·&&_) ?_
 unfold FH hM
 rw [if_pos yw]
 exact(by decide:∀r∈fW,(!(r==['n','e','v','e','r']))=true) _ qg
theorem DD{P:Prog}{C:Calls}{ρ:Fm}{s t:Int}{l:List Int}{es et:Ex}(hs:∀z,Ev P C (ρ++[some (.int z)]) H X es (.int s))(ht:∀z,Ev P C (ρ++[some (.int z)]) H X et (.int t))(hv:∀z:V,(ρ++[some z])[ρ.length]? =some (some z)){it:Ex}(hi:Ev P C ρ H X it (xH l))(hl:l.length<=az):Ev P C ρ H X (.comp false (.var ρ.length) it (some (.prim false (.cop .gt) [(.prim false (.bop .add) [(.var ρ.length),es]),et]))) (xH (Fh t s l)):=
 ev_eq (ip (l:=l) (f:=V.int) (g:=V.int) (p:=λz=>decide (t<z+s)) (w:=xH l) hi rfl hl (λz _=>ev_p2 (ev_p2 (ev_var (hv _)) (hs z) dR) (ht z) pz) λ_ _ _=>ev_var (hv _)) (congrArg (λp:Int->Bool=>V.lst ((l.filter p).map V.int)) (funext λz=>by rw [cg,decide_eq_true_iff,decide_eq_true_iff];exact⟨Int.sub_right_lt_of_lt_add,Int.lt_add_of_sub_right_lt⟩))
theorem GM{ff:Nat}{ρ:Fm}{u:Int}(eu:u=j)(N':Nms ns.length nm)(hj:ns[j]? =some y)(yw:y.w=true)(w:WX σ G0 b ns.length nm T Y S H)(hl:(T.k (nm j)).length+1<=az)(e:ρ=[some (bN r ns nm o),some (.ref (b+3)),some (ni k),o5,o6,some (.int u),some (bd ns nm (ff+1) j)])
  (q:∀H',WX σ G0 b ns.length nm {T with k:=iU T.k (nm j) (Fh T.t (sf y) (T.k (nm j))++[T.t])} Y S H'->a7 PL (aJ PL (n+3)) ss ρ H' K R X):a7 PL (aJ PL (n+3)) (((wB (rA.body.getD 2 .pass)).drop 6).take 1++ss) ρ H K R X:=by
 subst e
 haveI hjl:=(ae.mp hj).1
 haveI i4:∀{H},aY PL false .item [bd ns nm (ff+1) j,.int 4] H=some (.int (sf y),H):=by rw [jV hj,if_pos yw];unfold sf;exact(if_pos yw)▸rfl
 refine(?_:a7 PL (aJ PL (n+3)) (_::ss) _ _ _ _ _)
 refine oz (T:=T) (g:=xH) (f:=T.k) (x:=Fh T.t (sf y) (T.k (nm j))++[T.t]) (p:=4) (k:=j) N' w rfl ?_ (ev_eq (ev_var rfl) (congrArg V.int eu)) hjl rfl rfl (T':={T with k:=iU T.k (nm j) (Fh T.t (sf y) (T.k (nm j))++[T.t])}) rfl q
 refine ev_p2 (DD (ρ:=[_,_,_,_,_,_,_]) (λ_=>ev_p2 (ev_var rfl) an i4) (λ_=>fb w rfl rfl) (λ_=>rfl) (yc w rfl (ev_eq (ev_var rfl) (congrArg V.int eu)) hjl) (aa (a9 _) hl)) (cD (fb w rfl rfl) (gH wQ)) ((p6 ?_).trans ?_)
 ·rw [ah];exact aa (aN uM 1) hl
 ·refine (?_:some (V.lst _,H)=some (V.lst _,H))
  rw [aB];rfl
theorem LK(pk:∀c l,es.foldl (jW c) l=l):aE es T={aE es T with k:=T.k}:=congrArg (λk=>({aE es T with k:=k}:Ab)) (funext λc=>pk c _)
theorem ww{X}(F:Fx σ G0 ns nm r o)(hk:k<ns.length)(en:e.nm=nm k)(hj:ns[j]? =some y)(yw:y.w=true)(eu:x.up=j)(wp:WX σ G0 b ns.length nm (aE (pre (cL ns nm) T.h e) T) Y S H)(fl:Kj e)(sm:Sm (cL ns nm) A T)(fe:Fe (cL ns nm) A.t true A.h A.k e es k')(hch:(cL ns nm).ch (nm k)=some (nm j))(evl:T.ev.length+es.length+1100<=900000)(fin:aF es k' A=Af)(q:∀T' H',WX σ G0 b ns.length nm T' Y S H'->Sm (cL ns nm) Af T'->R .none H')
  (kq:∀H' A' T' es2 o6,WX σ G0 b ns.length nm T' Y S H'->Sm (cL ns nm) A' T'->Fe (cL ns nm) A'.t (cF (cL ns nm) (nm j)) A'.h A'.k (.fail (nm j)) es2 k'->aF es2 k' A'=Af->es2.length<es.length->K (ti (bN r ns nm o) b j (.fail (nm j)) ct (some (.int x.up)) o6) H') :
  a7 PL (aJ PL (n+3)) ((wB (rA.body.getD 2 .pass)).drop 5) (ti (bN r ns nm o) b k e ct (some (.int x.up)) o6) H K R X:=by
 have N':=F.n
 have Tt:=F.t.tr
 haveI hjl:=(ae.mp hj).1
 have eh:=sm.h
 have pk:=tL (π:=cL ns nm) (h:=T.h) (Dc fl).2.1
 have sk:=sm.kept (w:=nm j) (es:=pre (cL ns nm) T.h e) ((ir N' hj).trans (congrArg some yw)) (rD N' hj).1 (KO yw) pk zZ
 haveI emn:=(rD N' hj).2
 have ev5:∀{ρ:Fm} {H X},ρ[5]? =some (some (.int x.up))->Ev PL (aJ PL (n+3)) ρ H X (.var 5) (ni j):=λh=>ev_eq (ev_var h) (congrArg V.int eu)
 haveI lpre:∀{es2:List Evt},es=pre (cL ns nm) A.h e++es2->(T.ev++pre (cL ns nm) T.h e).length+1100<=900000:=λ{es2} z=>by
  refine aa (aN ?_ _) evl
  simp only [af,z,eh,af]
  exact aC (aq _ _) _
 haveI lk:(T.k (nm j)).length+1<=az:=aa (aN (sm.kb _) 1) (aa (aa (bP (aq _ es.length) (by decide:1<=1100)) evl) (by decide))
 refine(qL (P:=PL) (C:=aJ PL (n+3)) (X:=X) (H:=H) (ρ:=ti (bN r ns nm o) b k e ct (some (.int x.up)) o6) (i:=0) (l:=5) Tt hj rfl (congrArg (λt:Int=>some (some (V.int t))) eu)).elim λff hpv=>?_
 haveI i3:∀{H},aY PL false .item [bd ns nm (ff+1) j,.int 3] H=some (.int (Gq j y),H):=by rw [jV hj,if_pos yw];unfold Gq;exact(if_pos yw)▸rfl
 refine br hpv (bW rfl) (GM (T:={aE (pre (cL ns nm) T.h e) T with k:=T.k}) (ss:=(wB (rA.body.getD 2 .pass)).drop 7) eu N' hj yw (LK pk▸wp) lk rfl λH4 w4=>?_)
 have le:∀{ρ:Fm} {X},ρ[1]? =some (some (.ref (b+3)))->ρ[5]? =some (some (.int x.up))->ρ[6]? =some (some (bd ns nm (ff+1) j))->Ev PL (aJ PL (n+3)) ρ H4 X (.prim false (.cop .le) [(.prim false .len [(.prim false .item [(.prim false .item [.var 1,.cst (.str ['k','e','p','t'])]),.var 5])]),(.prim false .item [.var 6,.cst (.int 3)])]) (.bool (decide (((Fh T.t (sf y) (T.k (nm j))++[T.t]).length:Int)<=Gq j y))):=λh1 h5 h6=>ev_p2 (cD (ev_eq (yc w4 h1 (ev5 h5) hjl) (congrArg xH (if_pos rfl))) (mZ.trans (congrArg (λl:Nat=>some (V.int l,H4)) (ah _)))) (ev_p2 (ev_var h6) an i3) Ij
 refine KM fe rfl (en.symm▸hch) (λi h2 h3 h4 e1 e2=>?_) λes2 h2 h3 e1=>?_
 ·rw [sk.2,emn]at h2
  rw [en]at h3
  rw [<-eh]at h4
  refine dy (ev_eq (le rfl rfl rfl) (congrArg V.bool (decide_eq_true h2))) (st_expr (gi (ev_var rfl) (ev_var rfl) (ev5 rfl) (ev_var (v:=ni k) rfl _ (Lu (n:=n) F w4 hj yw (H8 Tt N' hj hk h3) h4 (lpre e1) λH5 w5=>ev_ret an (q _ _ w5 ?_)))))
  rw [<-fin,e1,e2,<-eh,en,<-zD (k0:=A.k) pk]
  exact(sk.1.upk sk.1.k sk.1.kb (Dn (cL ns nm) ((pre (cL ns nm) T.h e).foldl hr T.h) (nm j) i (nm k)))
 ·rw [sk.2,emn]at h2
  refine bJ (ev_eq (le rfl rfl rfl) (congrArg V.bool (decide_eq_false (ga.mpr h2)))) (dA (br (v:=ni j) (ev5 rfl) (bW rfl) (br an (bW rfl) (kq H4 _ _ es2 _ w4 sk.1 ?_ ?_ ?_))))
  ·refine (?_:Fe _ _ _ ((pre (cL ns nm) T.h e).foldl hr A.h) _ _ _ _)
   exact(eh).symm▸h3
  ·rw [<-fin,e1,<-eh]
   exact zD pk
  ·simp only [e1,af]
   exact bk (cW _) (aa (ao (ce _ 1)) (aN zZ _))
theorem po(F:Fx σ G0 ns nm r o)(u:FU σ G0 b ns nm Y S Af k' A T k e es ct H)(hb:Af.ev.length+1100<=900000)(q:∀T' H',WX σ G0 b ns.length nm T' Y S H'->Sm (cL ns nm) Af T'->R .none H') :
  a7 PL (aJ PL (n+3)) (rA.body.drop 2) (ti (bN r ns nm o) b k e ct o5 o6) H K R X:=by
 have N':=F.n
 have Tt:=F.t.tr
 refine nS (FL σ G0 b ns nm Y S Af k' (bN r ns nm o)) (N:=es.length) (λM ρ' H' hI=>Ht hI λA T k e es ct eρ u=>eρ.elim λo5 eρ=>eρ.elim λo6 eρ=>⟨true,an,λ_ K' hK=>?_,λz=>absurd z.symm am⟩) ⟨A,T,k,e,es,ct,⟨o5,o6,rfl⟩,u,rfl⟩
 subst eρ
 haveI u2:=u.2
 have u:=u.1
 refine u.hx.elim λx hx=>?_
 have evl:T.ev.length+es.length+1100<=900000:=by
  haveI z:(A.ev++es).length=Af.ev.length:=congrArg (λA:Ab=>A.ev.length) u.fin
  rw [af,<-u.sm.ev]at z
  exact(z)▸hb
 refine xS (ss:=(wB (rA.body.getD 2 .pass)).drop 3) F u.w hx u.en u.fl (aa (aN (aq _ _) _) evl) λH3 wp=>?_
 refine br (jw (wp.gn F.g) hx rfl rfl rfl) (bW rfl) (cZ (s:=!(ct&&decide (0<k))) (ev_eq (g9 (cN (ev_var rfl)) λ_=>ev_p2 (ev_var rfl) an jx) (congrArg V.bool (by rw [HJ Tt hx];cases ct<;>cases decide (0<k)<;>rfl))) (λhc=>?_) λhc=>?_)
 ·haveI z:=Lm u.fe (bZ _▸hc)
  refine ev_ret an (q _ _ wp ?_)
  haveI sm:=u.sm.upk u.sm.k u.sm.kb es
  rw [<-u.fin,z.2]
  rw [z.1,<-u.sm.h]at sm ⊢
  exact sm
 haveI hc:(ct&&decide (0<k))=true:=dc _▸hc
 haveI ht:=ay.mp hc
 refine gP (Tt.up k x hx (of_decide_eq_true ht.2)) λj y hj _ eu hi=>?_
 have yw:y.w=true:=by
  cases z:y.w with
  |true=>rfl
  |false=>exact absurd hi ((Tt.lim j y hj).wk z▸aZ)
 exact dA (ww F (ae.mp hx).1 u.en hj yw eu wp u.fl u.sm (hc▸u.fe) (xm Tt N' hj hi) evl u.fin q λH4 A2 T2 es2 o6 w4 s4 fe2 ef hl=>hK _ _ es2.length (u2▸hl) ⟨A2,T2,j,.fail (nm j),es2,ct,⟨_,o6,rfl⟩,⟨w4,s4,⟨y,hj⟩,rfl,.inl rfl,by rw [ht.1,<-Ld Tt N' hj yw];exact fe2,ef⟩,rfl⟩)
end
section
variable {σ:Ad}{S:Hst}{H:AH}{G0:List (Nat×O)}{ns:List Nd}{nm:Nat->Nm}{x y:Nd}{k j o r n b i:Nat}{Q R:QE}{X:XE}{K:KS}{A T T' Af:Ab}{Y:List (Nat×O)}{ss:List St}{e:Evt}{k':Nm->List Int}{es:List Evt}
theorem IK(F:Fx σ G0 ns nm r o)(w:WX σ G0 b ns.length nm T Y S H)(sm:Sm (cL ns nm) A T)(hx:ns[k]? =some x)(fe:Fe (cL ns nm) A.t (cF (cL ns nm) (nm k)) A.h A.k (.fail (nm k)) es k')(hb:(aF es k' A).ev.length+1100<=900000)(q:∀T' H',WX σ G0 b ns.length nm T' Y S H'->Sm (cL ns nm) (aF es k' A) T'->Q .none H'):aJ PL (n+4) 30 [bN r ns nm o,.ref (b+3),ni k,.str ['f','a','i','l','s']] H Q X:=by
 refine cf xq rfl (br (cN (gk (ev_var rfl) (ev_var rfl) λQ q=>DS F (w.gn F.g) hx q)) (bW rfl) (bJ (aK rfl) (po (e:=.fail (nm k)) F ⟨w,sm,⟨x,hx⟩,rfl,.inl rfl,?_,rfl⟩ hb q)))
 rw [<-vf F.t.tr F.n hx]
 exact fe
theorem LB(F:Fx σ G0 ns nm r o)(w:WX σ G0 b ns.length nm T Y S H)(sm:Sm (cL ns nm) A T)(hx:ns[k]? =some x)(hw:x.w=false)(fe:Fe (cL ns nm) A.t ((cL ns nm).al (nm k)) A.h A.k (.leave (nm k)) es k')(hb:(aF es k' A).ev.length+1100<=900000)(q:∀T' H',WX σ G0 b ns.length nm T' Y S H'->Sm (cL ns nm) (aF es k' A) T'->Q .none H'):aJ PL (n+4) 30 [bN r ns nm o,.ref (b+3),ni k,.str ['l','e','a','v','e','s']] H Q X:=by
 refine cf xq rfl (br (cN (gk (ev_var rfl) (ev_var rfl) λQ q=>DS F (w.gn F.g) hx q)) (bW rfl) (dy (aK rfl) (br (ev_p2 (na F.t.tr hx rfl rfl) an (fS jO jO)) (bW rfl) (dA (po (e:=.leave (nm k)) F ⟨w,sm,⟨x,hx⟩,rfl,.inr rfl,?_,rfl⟩ hb q)))))
 have hk:0<k:=dC λz=>by
  subst z
  exact dm F.t.tr.top λy hy hyw _=>absurd ((ai (hx.symm.trans hy)▸hw).symm.trans hyw) am
 have e:(gf (.str (hM x)) (.str ['a','l','w','a','y','s'])&&decide (0<k))=(cL ns nm).al (nm k):=by
  rw [decide_eq_true hk,kt,(z6 F.n hx).2]
  unfold Jg FH hM
  rw [if_neg (by rw [hw];exact am)]
  exact(by decide:∀m∈jY,gf (.str m) (.str ['a','l','w','a','y','s'])= !(m==['f','a','u','l','t','e','d']||m==['n','e','v','e','r'])) _ uy
 rw [e]
 exact fe
theorem uC{t s:Int}{l:List Int}:Fh (t+1) s (Fh t s l)=Fh (t+1) s l:=by
 unfold Fh
 rw [Kh]
 refine congrArg (λp=>l.filter p) (funext λz=>?_)
 rw [cg,cV,decide_eq_true_iff,decide_eq_true_iff]
 exact⟨And.left,λh=>⟨h,oG (Int.sub_le_sub_right (Int.le_add_one (Int.le_refl t)) s) h⟩⟩
theorem Sm.next{π:PI}(sm:Sm π A T):Sm π (aT A) (aT T):=⟨sm.h,sm.s,sm.q,sm.ev,congrArg (·+1) sm.t,sm.lt,λw hw=>by
 refine(?_:Fh (A.t+1) _ (T.k w)=Fh (A.t+1) _ (A.k w))
 rw [<-uC,sm.k w hw,uC],sm.kb⟩
theorem C5{P:Prog}{a c:V}:aY P false .item [.dct [['f','a','u','l','t'],['l','e','a','v','e']] [a,c],.str ['f','a','u','l','t']] H=some (a,H)/\aY P false .item [.dct [['f','a','u','l','t'],['l','e','a','v','e']] [a,c],.str ['l','e','a','v','e']] H=some (c,H):=⟨rfl,rfl⟩
theorem f31{k0:Nat}{l:V}{ps:List (Nat×V)}(F:Fx σ G0 ns nm r o)(w:WX σ G0 b ns.length nm (aT T) Y S H)(sm:Sm (cL ns nm) A T)(hx:ns[k]? =some x)(hw:x.w=false)(hq:T.q (nm k)=(k0,l)::ps)(wk:Wk (cL ns nm) (nm k) k0 ps A l Af)(hps:(T.q (nm k)).length<=1000)(hb:Af.ev.length+1100<=900000)(hT:T.ev.length+1100<=900000)(q:∀T' H',WX σ G0 b ns.length nm T' Y S H'->Sm (cL ns nm) Af T'->Q .none H'):aJ PL (n+5) 31 [bN r ns nm o,.ref (b+3),ni k] H Q X:=by
 have hk:=(ae.mp hx).1
 have em:∀{ρ:Fm} {C X},ρ[1]? =some (some (.ref (b+3)))->ρ[2]? =some (some (ni k))->Ev PL C ρ H X (.prim false .item [(.prim false .item [.var 1,.cst (.str ['m','a','i','l'])]),.var 2]) (sW ((k0,l)::ps)):=λh1 h2=>ev_eq (oW w h1 (ev_var h2) hk) (congrArg sW hq)
 have e0:∀{H},aY PL false .item [sW ((k0,l)::ps),.int 0] H=some (nA (k0,l),H):=rn
 refine cf Fc rfl (br (v:=ni k0) (ev_p2 (ev_p2 (em rfl rfl) an e0) an rfl) (bW rfl) (br (v:=l) (ev_p2 (ev_p2 (em rfl rfl) an e0) an rfl) (bW rfl) ?_))
 have lps:(((k0,l)::ps).map nA).length<=az:=by rw [ah,<-hq];exact aa hps (by decide)
 refine oz (g:=sW) (f:=(aT T).q) (x:=ps) (p:=2) (T':={aT T with q:=iU T.q (nm k) ps}) F.n w rfl (iE (em rfl rfl) an an ((nc lps).trans (congrArg (λt=>some (V.lst t,H)) qo))) (ev_var rfl) hk rfl rfl rfl λH1 w1=>my (.works (nm k) k0) w1 rfl (iE an (ev_p2 (x:=nu nm ns.length) (ev_p2 (ev_var rfl) an rfl) (ev_var rfl) (gZ hk)) (ev_var rfl) (eR wV)) (aa (aq _ _) (aa hT (by decide))) λH2 w2=>?_
 haveI sn:=sm.next
 haveI sm2:Sm (cL ns nm) (aW (nm k) k0 ps A) {aT T with q:=iU T.q (nm k) ps,ev:=T.ev++[.works (nm k) k0]}:=⟨sn.h,sn.s,congrArg (λq=>iU q (nm k) ps) sm.q,congrArg (·++_) sm.ev,sn.t,sn.lt,sn.k,λw=>aa (sm.kb w) dQ⟩
 cases wk with
 |@add i=>
  refine dy (aK rfl) (oz (g:=V.int) (f:=T.s) (x:=T.s (nm k)+i) (p:=1) (T':={aT T with q:=iU T.q (nm k) ps,ev:=T.ev++[.works (nm k) k0],s:=iU T.s (nm k) (T.s (nm k)+i)}) F.n w2 rfl (ev_p2 (C7 w2 rfl (ev_var rfl) hk) (aK rfl) dR) (ev_var rfl) hk rfl rfl rfl λH3 w3=>dA (q _ _ w3 ⟨sm2.h,?_,sm2.q,sm2.ev,sm2.t,sm2.lt,sm2.k,sm2.kb⟩))
  refine(?_:iU T.s (nm k) (T.s (nm k)+i)=iU A.s (nm k) (A.s (nm k)+i))
  rw [sm.s]
 |fault fe=>exact bJ (aK rfl) (st_expr (gi (ev_var rfl) (ev_var rfl) (ev_var rfl) (ev_p2 (P:=PL) (C:=aJ PL (n+4)) (X:=X) (pO (eU an (eU an pi)) rfl) (aK rfl) C5.1 _ (IK F w2 sm2 hx fe hb λT' H' w' s'=>dA (q T' H' w' s')))))
 |leave fe=>exact bJ (aK rfl) (st_expr (gi (ev_var rfl) (ev_var rfl) (ev_var rfl) (ev_p2 (P:=PL) (C:=aJ PL (n+4)) (X:=X) (pO (eU an (eU an pi)) rfl) (aK rfl) C5.2 _ (LB F w2 sm2 hx hw fe hb λT' H' w' s'=>dA (q T' H' w' s')))))
end
section
variable {σ:Ad}{S:Hst}{H:AH}{G0:List (Nat×O)}{ns:List Nd}{nm:Nat->Nm}{x y:Nd}{k j o r n b i N:Nat}{Q R:QE}{X:XE}{K:KS}{A T T' Af:Ab}{Y:List (Nat×O)}{ss:List St}{e:Evt}{k':Nm->List Int}{es:List Evt}
theorem WX.congr(w:WX σ G0 b N nm T Y S H)(e1:∀j,j<N->T.h (nm j)=T'.h (nm j))(e2:∀j,j<N->T.s (nm j)=T'.s (nm j))(e3:∀j,j<N->T.q (nm j)=T'.q (nm j))(e4:∀j,j<N->T.k (nm j)=T'.k (nm j))(e5:T.ev=T'.ev/\T.t=T'.t/\T.lt=T'.lt):WX σ G0 b N nm T' Y S H:=by
 haveI e:wN b N nm T=wN b N nm T':=by
  unfold wN
  rw [jQ λj hj=>congrArg V.bool (e1 j hj),jQ λj hj=>congrArg V.int (e2 j hj),jQ λj hj=>congrArg sW (e3 j hj),jQ λj hj=>congrArg xH (e4 j hj),e5.1,e5.2.1,e5.2.2]
 exact(e▸w:Hs (dq σ (G0++(wN b N nm T'++Y))) S H)
noncomputable def aP(T:Ab)(dn:List Nm):Ab:={T with q:=λn=>if T.h n=false/\n∈dn then []else T.q n,ev:=T.ev++nH T.h T.q dn}
def LO(σ:Ad)(G0:List (Nat×O))(b:Nat)(ns:List Nd)(nm:Nat->Nm)(T:Ab)(Y:List (Nat×O))(S:Hst)(hall:V)(its:List Nat)(ρ:Fm)(H:AH):Prop:=
 ∃o2 o3 dn,ρ=[some hall,some (.ref (b+3)),o2,o3]/\dn++its=sub ns 7 0/\WX σ G0 b ns.length nm (aP T (dn.map nm)) Y S H
def LO2(σ:Ad)(G0:List (Nat×O))(b:Nat)(ns:List Nd)(nm:Nat->Nm)(T:Ab)(Y:List (Nat×O))(S:Hst)(hall:V)(k:Nat)(q its:List (Nat×V))(ρ:Fm)(H:AH):Prop:=
 ∃o3 dn,ρ=[some hall,some (.ref (b+3)),some (ni k),o3]/\dn++its=q/\WX σ G0 b ns.length nm {T with ev:=T.ev++dn.map λp=>.lost (nm k) p.1} Y S H
theorem fB(F:Fx σ G0 ns nm r o):(sub ns 7 0).Nodup/\(sub ns 7 0).length<=60/\(∀j∈sub ns 7 0,j<ns.length)/\∀j,j<ns.length->j∈sub ns 7 0:=dm F.t.tr.top λx0 h0 _ _=>
 ⟨F.t.tr.nd h0,aa ((F.t.tr.nd h0).length_le_of_subset (l₂:=aV ns.length) λi hi=>bx.mpr (F.t.tr.lt h0 i hi)) (aa (ao ba) F.t.le),F.t.tr.lt h0,λj hj=>F.t.tr.all hj⟩
theorem f32(F:Fx σ G0 ns nm r o)(w:WX σ G0 b ns.length nm T Y S H)(hq:∀n,(T.q n).length<=1000)(hb:(aL σ.names T).ev.length<=900000)(q:∀H',WX σ G0 b ns.length nm (aL σ.names T) Y S H'->Q .none H'):aJ PL (n+1) 32 [bN r ns nm o,.ref (b+3)] H Q X:=by
 haveI oa:=fB F
 have N':=F.n
 haveI jR:∀{dn:List Nat} {its:List Nat},dn++its=sub ns 7 0->(T.ev++nH T.h T.q (dn.map nm)).length<=900000:=λ{dn its} ed=>by
  refine aa ?_ hb
  refine(?_:_<=(T.ev++nH T.h T.q σ.names).length)
  rw [F.en,<-ed,aB]
  unfold nH
  rw [bo,<-aj]
  exact dQ
 have step:∀{dn js:List Nat} {k:Nat},dn++k::js=sub ns 7 0->nm k∉dn.map nm:=λ{dn js k} ed z=>ea1_2 (aG.mp z) λi hi e=>(a8.mp (ed.symm▸oa.1)).2.2 i hi k (.head _) (N'.inj i k (oa.2.2.1 i (ed▸av _ hi)) (oa.2.2.1 k (ed▸ak _ (.head _))) e)
 refine cf Ep rfl (d5 (LO σ G0 b ns nm T Y S (bN r ns nm o)) (f:=ni) (l:=sub ns 7 0) (v:=.ref o) (ev_p2 (ev_var rfl) an rfl) (λ_ _ _ q=>i6 q λ_ _ _ _ _ w=>d6 (gz w (av _ F.o))) (aa oa.2.1 (by decide)) ⟨none,none,[],rfl,rfl,w.congr (λ_ _=>rfl) (λ_ _=>rfl) (λj _=>(if_neg λz=>aZ z.2).symm) (λ_ _=>rfl) ⟨(aA _).symm,rfl,rfl⟩⟩
  (λk js ρ' H' hI K' hK=>i6 hI λo2 o3 dn e ed w=>?_) λρ' H' hI=>i6 hI λo2 o3 dn e ed w=>q H' ?_)
 ·subst e
  have hk:=oa.2.2.1 k (ed▸ak _ (.head _))
  haveI kd:=step ed
  have ed':=(aj dn [k] js).trans ed
  haveI eq0:(aP T (dn.map nm)).q (nm k)=T.q (nm k):=if_neg λz=>kd z.2
  refine cZ (cN (jb w rfl (ev_var rfl) hk)) (λhc=>?_) λhc=>hK _ _ ⟨_,o3,dn++[k],rfl,ed',w.congr (λ_ _=>rfl) (λ_ _=>rfl) (λj hj=>?_) (λ_ _=>rfl) ⟨?_,rfl,rfl⟩⟩
  ·have hh:T.h (nm k)=false:=bZ _▸hc
   refine d5 (LO2 σ G0 b ns nm (aP T (dn.map nm)) Y S (bN r ns nm o) k (T.q (nm k))) (f:=nA) (l:=T.q (nm k)) (ev_eq (oW w rfl (ev_var rfl) hk) (congrArg sW eq0)) (λ_ _ _ _=>rfl) (aa (hq _) (by decide)) ⟨o3,[],rfl,rfl,(congrArg (λl=>WX σ G0 b ns.length nm {aP T (dn.map nm)with ev:=l} Y S H') (aA _)).mpr w⟩
    (λp ps ρ' H' hJ K' hK=>c6 hJ λo3 dn2 e ed2 w=>?_) λρ' H' hJ=>c6 hJ λo3 dn2 e ed2 w=>?_
   ·subst e
    refine my (.lost (nm k) p.1) w rfl (iE an (ev_p2 (x:=nu nm ns.length) (ev_p2 (ev_var rfl) an rfl) (ev_var rfl) (gZ hk)) (ev_p2 (ev_var rfl) an rfl) (eR wV)) ?_ λH1 w1=>hK _ _ ⟨_,dn2++[p],rfl,(aj dn2 [p] ps).trans ed2,?_⟩
    ·refine (?_:(T.ev++nH T.h T.q (dn.map nm)++dn2.map _).length<=_)
     refine aa ?_ (aa (jR ed') (by decide))
     rw [aB,show([k].map nm)=[nm k]from rfl,sG,hh,if_neg am,<-aj,af (bs:=ik _ dn2),af (bs:=ik _ (T.q (nm k))),ah,ah]
     refine aC ?_ _
     rw [<-ed2,af];exact aq _ _
    ·refine w1.congr (λ_ _=>rfl) (λ_ _=>rfl) (λ_ _=>rfl) (λ_ _=>rfl) ⟨?_,rfl,rfl⟩
     show T.ev++nH T.h T.q (dn.map nm)++(dn2.map λp=>Evt.lost (nm k) p.1)++[.lost (nm k) p.1]=T.ev++nH T.h T.q (dn.map nm)++((dn2++[p]).map λp=>Evt.lost (nm k) p.1)
     rw [aB,<-aj];rfl
   ·subst e
    haveI ed2:dn2=T.q (nm k):=(aA dn2).symm.trans ed2
    subst ed2
    refine oz (g:=sW) (f:=(aP T (dn.map nm)).q) (x:=[]) (p:=2) (T':={aP T (dn.map nm)with ev:=(aP T (dn.map nm)).ev++(T.q (nm k)).map λp=>.lost (nm k) p.1,q:=iU (aP T (dn.map nm)).q (nm k) []}) N' w rfl (aK rfl) (ev_var rfl) hk rfl rfl rfl λH1 w1=>dA (hK _ _ ⟨_,_,dn++[k],rfl,ed',w1.congr (λ_ _=>rfl) (λ_ _=>rfl) (λj hj=>?_) (λ_ _=>rfl) ⟨?_,rfl,rfl⟩⟩)
    ·refine (?_:(if nm j=nm k then []else if T.h (nm j)=false/\nm j∈dn.map nm then []else T.q (nm j))=if T.h (nm j)=false/\nm j∈(dn++[k]).map nm then []else T.q (nm j))
     rw [aB]
     by_cases z:nm j=nm k
     ·rw [if_pos z,if_pos ⟨z▸hh,z▸ak _ (.head _)⟩]
     ·rw [if_neg z]
      by_cases y:T.h (nm j)=false/\nm j∈dn.map nm
      ·rw [if_pos y,if_pos ⟨y.1,av _ y.2⟩]
      ·rw [if_neg y,if_neg λv=>y ⟨v.1,(bT.mp v.2).elim id λv=>absurd (in1 v) z⟩]
    ·show T.ev++nH T.h T.q (dn.map nm)++(T.q (nm k)).map _=T.ev++nH T.h T.q ((dn++[k]).map nm)
     rw [aB,show([k].map nm)=[nm k]from rfl,sG,hh,if_neg am,aj]
  ·haveI hh:T.h (nm k)=true:=dc _▸hc
   refine(?_:(if T.h (nm j)=false/\nm j∈dn.map nm then []else T.q (nm j))=if T.h (nm j)=false/\nm j∈(dn++[k]).map nm then []else T.q (nm j))
   rw [aB]
   by_cases y:T.h (nm j)=false/\nm j∈dn.map nm
   ·rw [if_pos y,if_pos ⟨y.1,av _ y.2⟩]
   ·rw [if_neg y,if_neg λv=>y ⟨v.1,(bT.mp v.2).elim id λz=>absurd (v.1.symm.trans (in1 z▸hh)) am⟩]
  ·haveI hh:T.h (nm k)=true:=dc _▸hc
   refine(?_:T.ev++nH T.h T.q (dn.map nm)=T.ev++nH T.h T.q ((dn++[k]).map nm))
   rw [aB,show([k].map nm)=[nm k]from rfl,sG,hh,if_pos rfl,aA]
 ·haveI edn:dn=sub ns 7 0:=(aA dn).symm.trans ed
  subst edn
  refine w.congr (λ_ _=>rfl) (λ_ _=>rfl) (λj hj=>?_) (λ_ _=>rfl) ⟨by show T.ev++nH T.h T.q ((sub ns 7 0).map nm)=T.ev++nH T.h T.q σ.names;rw [F.en],rfl,rfl⟩
  refine(?_:(if T.h (nm j)=false/\nm j∈(sub ns 7 0).map nm then []else T.q (nm j))=if T.h (nm j)=true then T.q (nm j)else [])
  by_cases z:T.h (nm j)=true
  ·rw [if_pos z,if_neg λy=>am (y.1.symm.trans z)]
  ·rw [if_neg z,if_pos ⟨cK.mpr z,bf (oa.2.2.2 j hj)⟩]
end
section
variable {σ:Ad}{S:Hst}{H:AH}{G0:List (Nat×O)}{ns:List Nd}{nm:Nat->Nm}{x y:Nd}{k j o r n b i N:Nat}{Q R:QE}{X:XE}{K:KS}{A T T' Af:Ab}{Y:List (Nat×O)}{ss:List St}{e:Evt}{k':Nm->List Int}{es:List Evt}{d:V}{P:Prog}{C:Calls}{ρ:Fm}
theorem xn{v:V}(h:LV v):v.data=true/\v.depth<=1:=by
 cases h with
 |add _|fault|leave=>exact⟨rfl,aI _⟩
theorem DC{q:List (Nat×V)}(h:∀p∈q,LV p.2):rd H (sW q)=some (sW q):=by
 haveI z:=iW (d:=2) (vs:=q.map nA) λv hv=>ea1_2 (aG.mp hv) λp hp e=>e▸by
  haveI y:=xn (h p hp)
  refine⟨?_,?_⟩
  ·show (p.2.data&&true)=true
   rw [y.1];rfl
  ·show max 0 (max p.2.depth 0)+1<=2
   exact ax (gY.mpr ⟨aQ _,gY.mpr ⟨y.2,aQ _⟩⟩)
 refine if_pos ?_
 show(V.datas _&&decide (V.depths _+1<=50))=true
 rw [z.1,decide_eq_true (aa (ax z.2) (by decide))];rfl
theorem Da{q:List (Nat×V)}:(!gf (sW q) (.lst []))= !q.isEmpty:=by
 cases q with
 |nil=>rfl
 |cons _ _=>rfl
theorem Bg(hk:k<N):aY P false (.cop .notin) [.str (nm k),nu nm N] H=some (.bool false,H):=by
 haveI q:=eX (kL (f:=λk=>V.str (nm k)) (l:=aV N) λ_=>trivial)
 refine(?_:((if rH _=true then some (((aV N).map λk=>V.str (nm k)).any λy=>gf y (.str (nm k)))else none:Option Bool).map _).map _=_)
 rw [if_pos (kM q.1 (aa (ao q.2) (by decide))),show(((aV N).map λk=>V.str (nm k)).any λy=>gf y (.str (nm k)))=true from iC.mpr ⟨_,bf (bx.mpr hk),gU (.str (nm k)) rfl⟩]
 rfl
theorem f33(F:Fx σ G0 ns nm r o)(w:WX σ G0 b ns.length nm T Y S H)(dd:Dd (cL ns nm) σ d)(lv:∀n,∀p∈T.q n,LV p.2)(q:Q (.bool (i0 (nm 0) T d)) H):aJ PL (n+1) 33 [bN r ns nm o,.ref (b+3),d] H Q X:=by
 haveI N':=F.n
 refine dm F.t.tr.top λx0 h0 _ _=>?_
 haveI h00:=(ae.mp h0).1
 haveI g:=w.gn F.g
 have go:∀{k x} {wn fl:Bool},ns[k]? =some x->nm k=au d->(∀{C ρ H X},ρ[2]? =some (some d)->Ev PL C ρ H X (.prim false .item [.var 2,.cst (.int 1)]) (.str (nm k)))->(∀{C ρ H X},ρ[2]? =some (some d)->Ev PL C ρ H X (.prim false (.cop .ne) [(.prim false .item [.var 2,.cst (.int 0)]),.cst (.str ['f','a','i','l'])]) (.bool fl))->(fl&&x.w)=false->(∀{C ρ H X},ρ[2]? =some (some d)->Ev PL C ρ H X (.prim false (.cop .ne) [(.prim false .item [.var 2,.cst (.int 0)]),.cst (.str ['w','o','r','k'])]) (.bool wn))->wn= !Lj d->aJ PL (n+1) 33 [bN r ns nm o,.ref (b+3),d] H Q X:=λ{k x wn fl} hx ek e1 e2 e3 e4 e5=>by
  have hk:=(ae.mp hx).1
  unfold i0 at q
  rw [<-ek,<-e5]at q
  refine cf EE rfl (cZ (g9 (cN (jb w rfl (an (v:=ni 0)) h00)) λ_=>ev_p2 (y:=nu nm ns.length) (e1 rfl) (ev_p2 (ev_var rfl) an rfl) (Bg hk)) (λhc=>?_) λhc=>?_)
  ·rw [Ay]at hc
   rw [show T.h (nm 0)=false from bZ _▸hc]at q
   exact ev_ret an q
  rw [Ay]at hc
  rw [show T.h (nm 0)=true from dc _▸hc,gK]at q
  refine br (v:=ni k) (mh (ev_p2 (z:=nu nm ns.length) (ev_var rfl) an rfl) rfl (e1 rfl) (mX N' hk)) (bW rfl) (cZ (s:=!T.h (nm k)) (ev_eq (g9 (cN (jb w rfl (ev_var rfl) hk)) λ_=>b8 (e2 rfl) λ_=>jw g hx rfl rfl rfl) (congrArg V.bool (by rw [e3,Ay]))) (λhc=>?_) λhc=>?_)
  ·rw [show T.h (nm k)=false from bZ _▸hc]at q
   exact ev_ret an q
  ·rw [show T.h (nm k)=true from dc _▸hc,gK]at q
   refine ev_ret (g9 (e4 rfl) λ_=>ev_p2 (oW w rfl (ev_var rfl) hk) (aK rfl) ((lO (DC (lv _)) jG).trans ?_)) q
   rw [Da]
 cases dd with
 |@send m l hm lv=>exact d0 (uW (congrArg cH hm)) λk x hx ek=>go (wn:=true) (fl:=true) hx ek (λh=>ek▸ev_p2 (ev_var h) an rfl) (λh=>ev_p2 (ev_p2 (ev_var h) an rfl) an rfl) (ai ((ir N' hx).symm.trans (ek.symm▸hm))) (λh=>ev_p2 (ev_p2 (ev_var h) an rfl) an rfl) rfl
 |@work m hm=>exact d0 (uW (congrArg cH hm)) λk x hx ek=>go (wn:=false) (fl:=true) hx ek (λh=>ek▸ev_p2 (ev_var h) an rfl) (λh=>ev_p2 (ev_p2 (ev_var h) an rfl) an rfl) (ai ((ir N' hx).symm.trans (ek.symm▸hm))) (λh=>ev_p2 (ev_p2 (ev_var h) an rfl) an rfl) rfl
 |@fail m hm=>
  have hm':m∈(sub ns 7 0).map nm:=F.en▸hm
  exact ea1_2 (aG.mp hm') λk hk ek=>go (wn:=true) (fl:=false) (aH ((fB F).2.2.1 k hk)) ek (λh=>ek▸ev_p2 (ev_var h) an rfl) (λh=>ev_p2 (ev_p2 (ev_var h) an rfl) an rfl) rfl (λh=>ev_p2 (ev_p2 (ev_var h) an rfl) an rfl) rfl
theorem th{key:Nm}{ex:Ex}{v:V}(w:WX σ G0 b N nm T Y S H)(hi:ρ[1]? =some (some (.ref (b+3))))(he:Ev P C ρ H X ex v)(ed:dK key v jT (nC b T.t T.lt)=(jT,nC b T'.t T'.lt))(es:(wN b N nm T++Y).set 3 (b+3,.dict jT (nC b T'.t T'.lt))=wN b N nm T'++Y)(q:∀H',WX σ G0 b N nm T' Y S H'->a7 P C ss ρ H' K R X):a7 P C (.setItem (.var 1) (.cst (.str key)) ex::ss) ρ H K R X:=by
 refine uX he (ev_var hi) an (H':=H.set (b+3) (.dict jT (nC b T'.t T'.lt))) ?_ (q _ (by haveI z:=w.gset 3 (o':=.dict jT (nC b T'.t T'.lt)) rfl;rw [es]at z;exact z))
 refine(?_:yD (b+3) key v H H[b+3]? =_)
 rw [w.at 3 rfl]
 show(if jT.length<=az then some (H.set (b+3) (.dict (dK key v jT (nC b T.t T.lt)).1 (dK key v jT (nC b T.t T.lt)).2))else none)=_
 rw [if_pos (by decide:jT.length<=az),ed]
theorem Sm.lost{π:PI}{l:List Nm}(sm:Sm π A T):Sm π (aL l A) (aL l T):=⟨sm.h,sm.s,by show(λn=>if T.h n=true then T.q n else [])=λn=>if A.h n=true then A.q n else [];rw [sm.h,sm.q],by show T.ev++nH T.h T.q l=A.ev++nH A.h A.q l;rw [sm.h,sm.q,sm.ev],sm.t,sm.lt,sm.k,λw=>aa (sm.kb w) dQ⟩
theorem BL{q:List (Nat×V)}{p:Nat×V}(hl:q.length<=1000):aY P false (.bop .add) [sW q,.lst [nA p]] H=some (sW (q++[p]),H):=by
 refine(p6 (by rw [ah];exact aa (aN hl 1) (by decide))).trans ?_
 refine(?_:some (V.lst _,H)=some (V.lst _,H))
 rw [aB];rfl
theorem Lo{f:Nm->List (Nat×V)}{m:Nm}{p:Nat×V}{ps:List (Nat×V)}(e:f m=p::ps)(h:∀n,(f n).length<=1000)(n:Nm):(iU f m ps n).length<=1000:=by
 unfold iU
 by_cases z:n=m
 ·rw [if_pos z]
  haveI y:=h m
  rw [e]at y
  exact aa (a9 _) y
 ·rw [if_neg z];exact h n
theorem Dd.ok{π:PI}(h:Dd π σ d):((BH (d.tpl.getD [])==['f','a','i','l'])=true->au d∈σ.names)/\((BH (d.tpl.getD [])==['f','a','i','l'])=false->π.isW (au d)=some false):=by
 induction h with
 |send hm _=>exact⟨λz=>absurd z am,λ_=>hm⟩
 |work hm=>exact⟨λz=>absurd z am,λ_=>hm⟩
 |fail hm=>exact⟨λ_=>hm,λz=>absurd z.symm am⟩
theorem Wk.q{π:PI}{m:Nm}{k0:Nat}{l:V}{ps:List (Nat×V)}(h:Wk π m k0 ps A l Af):Af.q=iU A.q m ps:=by cases h<;>rfl
theorem Wk.ev{π:PI}{m:Nm}{k0:Nat}{l:V}{ps:List (Nat×V)}(h:Wk π m k0 ps A l Af):∃es,Af.ev=A.ev++es:=by
 cases h with
 |add=>exact⟨_,rfl⟩
 |fault _|leave _=>exact⟨_,aj ..⟩
theorem f34(F:Fx σ G0 ns nm r o)(w:WX σ G0 b ns.length nm T Y S H)(sm:Sm (cL ns nm) A T)(dd:Dd (cL ns nm) σ d)(de:De (cL ns nm) σ.names A d Af)(hq:∀n,(A.q n).length<=999)(hb:Af.ev.length+1100<=900000)(q:∀T' H',WX σ G0 b ns.length nm T' Y S H'->Sm (cL ns nm) Af T'->Q .none H'):aJ PL (n+6) 34 [bN r ns nm o,.ref (b+3),d] H Q X:=by
 have N':=F.n
 have hqT:∀n,(T.q n).length<=1000:=λn=>by rw [sm.q];exact aa (hq n) (by decide)
 have lost:∀{A2 T2:Ab} {H2:AH} {ρ:Fm},ρ[0]? =some (some (bN r ns nm o))->ρ[1]? =some (some (.ref (b+3)))->Af=aL σ.names A2->WX σ G0 b ns.length nm T2 Y S H2->Sm (cL ns nm) A2 T2->(∀n,(A2.q n).length<=1000)->a7 PL (aJ PL (n+5)) [(.expr (.call 32 [.var 0,.var 1]))] ρ H2 (λ_ H'=>Q .none H') Q X:=λ{A2 T2 H2 ρ} h0 h1 ea w2 s2 hq2=>by
  subst ea
  have s3:=s2.lost (l:=σ.names)
  exact st_expr (fT (ev_var h0) (ev_var h1) (f32 F w2 (λn=>by rw [s2.q];exact hq2 n) (by rw [s3.ev];exact aa (aq _ _) hb) λH3 w3=>dA (q _ _ w3 s3)))
 have hA:∀{A1:Ab},(∃es,Af.ev=A1.ev++es)->A1.ev.length+1100<=900000:=λ{A1} z=>z.elim λes z=>aa (aN (by rw [z];exact dQ) _) hb
 cases de with
 |@send m l=>
  refine(uW (m:=m) (congrArg cH (dd.ok.2 rfl))).elim λk z=>z.elim λx z=>?_
  have ek:=z.2
  subst ek
  have hk:=(ae.mp z.1).1
  have hT:=hA (A1:=A) ⟨_,rfl⟩
  refine cf s7 rfl (br (v:=ni k) (mh (ev_p2 (z:=nu nm ns.length) (ev_var rfl) an rfl) rfl (aK rfl) (mX N' hk)) (bW rfl) (dy (aK rfl) (th (T':={T with lt:=T.lt+1}) (v:=ni (T.lt+1)) w rfl (ev_p2 (fb w rfl rfl) an dR) rfl rfl λH1 w1=>?_)))
  refine oz (g:=sW) (f:=T.q) (x:=T.q (nm k)++[(T.lt+1,l)]) (p:=2) (T':={T with lt:=T.lt+1,q:=iU T.q (nm k) (T.q (nm k)++[(T.lt+1,l)])}) N' w1 rfl (ev_p2 (oW w1 rfl (ev_var rfl) hk) (cD (ev_p2 (fb w1 rfl rfl) (aK rfl) (eR fM)) (gH wQ)) (BL (p:=(T.lt+1,l)) (hqT (nm k)))) (ev_var rfl) hk rfl rfl rfl λH2 w2=>my (.sent (nm k) (T.lt+1) l) w2 rfl (Du an (aK rfl) (fb w2 rfl rfl) (aK rfl) rfl) (by show T.ev.length<=_;rw [sm.ev];exact aa (aq _ _) (aa hT (by decide))) λH3 w3=>ev_ret an (q _ _ w3 ⟨sm.h,sm.s,?_,?_,sm.t,congrArg (·+1) sm.lt,sm.k,λw=>aa (sm.kb w) dQ⟩)
  ·refine (?_:iU T.q (nm k) (T.q (nm k)++[(T.lt+1,l)])=iU A.q (nm k) (A.q (nm k)++[(A.lt+1,l)]))
   rw [sm.q,sm.lt]
  ·refine (?_:T.ev++[.sent (nm k) (T.lt+1) l]=A.ev++[.sent (nm k) (A.lt+1) l])
   rw [sm.ev,sm.lt]
 |@fail m es k' fe=>
  have hm:m∈(sub ns 7 0).map nm:=F.en▸dd.ok.1 rfl
  refine ea1_2 (aG.mp hm) λk hk ek=>?_
  subst ek
  have hk:=(fB F).2.2.1 k hk
  refine cf s7 rfl (br (v:=ni k) (mh (ev_p2 (z:=nu nm ns.length) (ev_var rfl) an rfl) rfl (aK rfl) (mX N' hk)) (bW rfl) (bJ (aK rfl) (th (T':=aT T) (v:=.int (T.t+1)) w rfl (ev_p2 (fb w rfl rfl) an dR) rfl rfl λH1 w1=>bJ (aK rfl) (st_expr (gi (ev_var rfl) (ev_var rfl) (ev_var rfl) (an _ (IK (n:=n+1) F w1 sm.next (aH hk) fe (hA ⟨_,rfl⟩) λT2 H2 w2 s2=>dA (lost rfl rfl rfl w2 s2 λn=>aa (hq n) (by decide)))))))))
 |@work m k0 l ps A2 eq wk=>
  refine(show ∃k x,ns[k]? =some x/\nm k=m/\x.w=false from d0 (uW (m:=m) (congrArg cH (dd.ok.2 rfl))) λk x hx ek=>⟨k,x,hx,ek,ai ((ir N' hx).symm.trans (ek.symm▸dd.ok.2 rfl))⟩).elim λk z=>z.elim λx z=>?_
  have ek:=z.2.1
  subst ek
  have hk:=(ae.mp z.1).1
  refine cf s7 rfl (br (v:=ni k) (mh (ev_p2 (z:=nu nm ns.length) (ev_var rfl) an rfl) rfl (aK rfl) (mX N' hk)) (bW rfl) (bJ (aK rfl) (th (T':=aT T) (v:=.int (T.t+1)) w rfl (ev_p2 (fb w rfl rfl) an dR) rfl rfl λH1 w1=>dy (aK rfl) (st_expr (gR (ev_var rfl) (ev_var rfl) (ev_var rfl) (f31 F w1 sm z.1 z.2.2 (sm.q▸eq) wk (hqT _) (hA ⟨_,rfl⟩) (by rw [sm.ev];exact wk.ev.elim λes e=>hA ⟨es++_,(congrArg (·++_) e).trans (aj ..)⟩) λT2 H2 w2 s2=>dA (lost rfl rfl rfl w2 s2 λn=>by rw [wk.q];exact Lo eq (λn=>aa (hq n) (by decide)) n)))))))
end
def Dt(vs:List V):Prop:=∀v∈vs,v.data=true/\v.depth<=3
section
variable {π:PI}{σ:Ad}{S:Hst}{H:AH}{G0:List (Nat×O)}{ns:List Nd}{nm:Nat->Nm}{x y:Nd}{k j o r n b i N a:Nat}{Q R:QE}{X:XE}{K:KS}{A A' T T' Af:Ab}{Y:List (Nat×O)}{ss:List St}{e:Evt}{es:List Evt}{d:V}{P:Prog}{C:Calls}{ρ:Fm}
theorem zy{vs:List V}(h:Dt vs):rH vs=true:=haveI q:=iW h;kM q.1 (aa q.2 (by decide))
theorem rZ{vs:List V}(h:Dt vs):rd H (.lst vs)=some (.lst vs):=by
 haveI q:=iW h
 refine if_pos ?_
 show(V.datas vs&&decide (V.depths vs+1<=50))=true
 rw [q.1,decide_eq_true (aa (ax q.2) (by decide))];rfl
theorem kN{vs:List V}(h:Dt vs)(ha:H[a]? =some (.list vs)):rd H (.ref a)=some (.lst vs):=by
 show(H[a]?.bind O.lst).bind _=_
 rw [ha]
 exact if_pos (zy h)
theorem nN{α:Type}{f:α->V}{l:List α}(h:∀a,ro (f a)):Dt (l.map f):=λv hv=>by
 have z:=kL h v hv
 cases v<;>first|exact z.elim|exact⟨rfl,aQ _⟩
theorem D9(h:e.ok π):e.v.data=true/\e.v.depth<=3:=by
 cases e with
 |beg _|end_ _|fail _|leave _|works _ _|lost _ _=>exact⟨rfl,aU rfl⟩
 |sent _ _ l=>
  haveI y:=xn h.2
  refine⟨?_,?_⟩
  ·show (l.data&&true)=true
   rw [y.1];rfl
  ·show max 0 (max 0 (max 0 (max l.depth 0)))+1<=3
   exact ax (gY.mpr ⟨aQ _,gY.mpr ⟨aQ _,gY.mpr ⟨aQ _,gY.mpr ⟨aa y.2 (by decide),aQ _⟩⟩⟩⟩)
theorem pc(h:∀e∈es,e.ok π):Dt (es.map Evt.v):=λv hv=>ea1_2 (aG.mp hv) λe he z=>z▸D9 (h e he)
theorem xC{vs:List V}(h:Dt vs):gf (.lst vs) (.lst vs)=true:=gU (.lst vs) (iW h).1
theorem JW(ha:H[a]? =some (.list (es.map Evt.v)))(hl:es.length<=az)(hn:∀e∈es,e.ok π)(q:Q (.bool true) H):aJ PL (n+2) 19 [.ref a] H Q X:=by
 refine cf F6 rfl (bJ (cN (s:=true) (cD (ev_var rfl) (iG ha))) (d5 (λits ρ H'=>H'=H/\(∃o,ρ=[some (.ref a),o])/\∀e∈its,e.ok π) (f:=Evt.v) (l:=es) (ev_var rfl) (λ_ _ _ z=>d6 (z.1▸ha)) hl ⟨rfl,⟨none,rfl⟩,hn⟩ (λe es' ρ' H' hI K' hK=>ea0_3 hI λeH eo ho=>eo.elim λo eo=>?_) λρ' H' hI=>ev_ret an (hI.1▸q)))
 subst eo
 subst eH
 have k:∀ρ',(∃o,ρ'=[some (.ref a),o])->K' ρ' H':=λρ' z=>hK ρ' H' ⟨rfl,z,λe he=>ho e (.tail _ he)⟩
 have p:=ho e (.head _)
 cases e with
 |beg _|end_ _|fail _|leave _=>exact bJ (aK rfl) (bJ (aK rfl) (bJ (aK rfl) (k _ ⟨_,rfl⟩)))
 |works _ _|lost _ _=>exact bJ (aK rfl) (bJ (b8 (s:=true) (t:=false) (aK rfl) λ_=>cN (s:=true) (cT (aK rfl) λQ q=>G6 q)) (bJ (aK rfl) (k _ ⟨_,rfl⟩)))
 |sent _ _ l=>
  have p:=p.2
  cases p with
  |add _|fault|leave=>exact bJ (aK rfl) (bJ (b8 (s:=true) (t:=false) (aK rfl) λ_=>cN (s:=true) (cT (aK rfl) λQ q=>G6 q)) (bJ (aK rfl) (k _ ⟨_,rfl⟩)))
theorem LS{l:List Nm}(ha:H[a]? =some (.list (l.map V.str)))(hl:l.length<=az)(q:Q (.bool true) H):aJ PL (n+1) 20 [.ref a] H Q X:=by
 refine cf DI rfl (ev_ret (b8 (s:=true) (t:=true) (cD (ev_var rfl) (iG ha)) λ_=>ev_p2 (ip (l:=l) (f:=V.str) (g:=V.str) (p:=λ_=>false) (ev_var rfl) (d6 ha) hl (λ_ _=>aK rfl) λ_ _ _=>ev_var rfl) (aK rfl) ?_) q)
 rw [fH.mpr λ_ _=>am];rfl
theorem KF{l:List Int}(ha:H[a]? =some (.list (l.map V.int)))(hl:l.length<=az)(q:Q (.bool true) H):aJ PL (n+2) 21 [.ref a] H Q X:=by
 refine cf EW rfl (ev_ret (b8 (s:=true) (t:=true) (cD (ev_var rfl) (iG ha)) λ_=>ev_p2 (ip (l:=l) (f:=V.int) (g:=V.int) (p:=λ_=>false) (ev_var rfl) (d6 ha) hl (λ_ _=>cN (s:=true) (cT (ev_var rfl) λQ q=>G6 q)) λ_ _ _=>ev_var rfl) (aK rfl) ?_) q)
 rw [fH.mpr λ_ _=>am];rfl
theorem xx{p:Nm->Bool}{l:List Nat}:((l.filter λk=>p (nm k)).map λk=>V.str (nm k))=((l.map nm).filter p).map V.str:=by
 rw [jh,bB];rfl
theorem f35(F:Fx σ G0 ns nm r o)(w:WX σ G0 b ns.length nm T Y S H)(q:Q (.lst ((σ.names.filter T.h).map V.str)) H):aJ PL (n+1) 35 [bN r ns nm o,.ref (b+3)] H Q X:=by
 haveI oa:=fB F
 rw [F.en,<-xx]at q
 exact cf Fu rfl (ev_ret (ip (l:=sub ns 7 0) (f:=ni) (g:=λk=>V.str (nm k)) (p:=λk=>T.h (nm k)) (w:=.ref o) (ev_p2 (ev_var rfl) an rfl) (d6 (gz w (av _ F.o))) (aa oa.2.1 (by decide)) (λk hk=>jb w rfl (ev_var rfl) (oa.2.2.1 k hk)) λk hk _=>ev_p2 (x:=nu nm ns.length) (ev_p2 (ev_var rfl) an rfl) (ev_var rfl) (gZ (oa.2.2.1 k hk))) q)
theorem f36(F:Fx σ G0 ns nm r o)(w:WX σ G0 b ns.length nm T Y S H)(lv:∀n,∀p∈T.q n,LV p.2)(q:Q (.lst ((σ.names.filter λm=>T.h m&& !(T.q m).isEmpty).map V.str)) H):aJ PL (n+1) 36 [bN r ns nm o,.ref (b+3)] H Q X:=by
 haveI oa:=fB F
 rw [F.en,<-xx]at q
 exact cf Ec rfl (ev_ret (ip (l:=sub ns 7 0) (f:=ni) (g:=λk=>V.str (nm k)) (p:=λk=>T.h (nm k)&& !(T.q (nm k)).isEmpty) (w:=.ref o) (ev_p2 (ev_var rfl) an rfl) (d6 (gz w (av _ F.o))) (aa oa.2.1 (by decide)) (λk hk=>b8 (jb w rfl (ev_var rfl) (oa.2.2.1 k hk)) λ_=>ev_p2 (oW w rfl (ev_var rfl) (oa.2.2.1 k hk)) (aK rfl) ((lO (DC (lv _)) jG).trans (by rw [Da]))) λk hk _=>ev_p2 (x:=nu nm ns.length) (ev_p2 (ev_var rfl) an rfl) (ev_var rfl) (gZ (oa.2.2.1 k hk))) q)
end
inductive Fo(r:Nm)(π:PI)(ns:List Nm)(Y:List (Nat×O))(A A':Ab)(d:V):V->Prop
 |no:i0 r A d=false->A'=A->Fo r π ns Y A A' d .none
 |send:i0 r A d=true->Kl d=true->De π ns A d A'->Fo r π ns Y A A' d (ni A'.lt)
 |hour {a:Nat} {es:List Evt}:i0 r A d=true->Kl d=false->De π ns A d A'->A'.ev=A.ev++es->(∀e∈es,e.ok π)->(a,.list (es.map Evt.v))∈Y->Fo r π ns Y A A' d (.ref a)
section
variable {π:PI}{σ:Ad}{S:Hst}{H:AH}{G0:List (Nat×O)}{ns:List Nd}{nm:Nat->Nm}{x y:Nd}{k j o r n b i N a:Nat}{Q R:QE}{X:XE}{K:KS}{A A' T T' Af:Ab}{Y:List (Nat×O)}{ss:List St}{e:Evt}{es:List Evt}{d v:V}{P:Prog}{C:Calls}{ρ:Fm}
theorem Bt{vs:List V}{z:Int}(h:H[i]? =some (.list vs))(hl:vs.length<=az):aY P false .slice [.ref i,.int z,.none] H=some (.lst (bM vs (jo vs.length z) vs.length),H):=by
 show((H[i]?.bind O.lst).bind _).map _=_
 rw [h]
 show(if vs.length<=az then some _ else none:Option V).map _=_
 rw [if_pos hl];rfl
theorem EX{m:Nm}(sm:Sm π A T):i0 m T d=i0 m A d:=by unfold i0;rw [sm.h,sm.q]
theorem Ly(F:Fx σ G0 ns nm r o)(w:WX σ G0 b ns.length nm T Y S H)(sm:Sm (cL ns nm) A T)(dd:Dd (cL ns nm) σ d)(lv:∀n,∀p∈A.q n,LV p.2)(hq:∀n,(A.q n).length<=999)(hb:A'.ev.length+1100<=900000)(fo:Fo (nm 0) (cL ns nm) σ.names Y A A' d v)(q:∀T' H',WX σ G0 b ns.length nm T' Y S H'->Sm (cL ns nm) A' T'->Q (.bool true) H'):aJ PL (n+7) 40 [bN r ns nm o,.ref (b+3),d,v] H Q X:=by
 have can:∀{C X} {ρ:Fm},ρ[0]? =some (some (bN r ns nm o))->ρ[1]? =some (some (.ref (b+3)))->ρ[2]? =some (some d)->C=aJ PL (n+6)->Ev PL C ρ H X (.prim false .not [(.call 33 [.var 0,.var 1,.var 2])]) (.bool !i0 (nm 0) A d):=λh0 h1 h2 e=>by
  subst e
  rw [<-EX sm]
  exact cN (jc (ev_var h0) (ev_var h1) (ev_var h2) λQ q=>f33 (n:=n+5) F w dd (sm.q▸lv) q)
 have go:i0 (nm 0) A d=true->De (cL ns nm) σ.names A d A'->(∀T' H' (ρ:Fm),WX σ G0 b ns.length nm T' Y S H'->Sm (cL ns nm) A' T'->ρ=[some (bN r ns nm o),some (.ref (b+3)),some d,some v,some (.int (A.ev.map Evt.v).length)]->a7 PL (aJ PL (n+6)) (Cv.body.drop 3) ρ H' (λ_ H'=>Q .none H') Q X)->aJ PL (n+7) 40 [bN r ns nm o,.ref (b+3),d,v] H Q X:=λhc de k=>
  cf xG rfl (bJ (ev_eq (can rfl rfl rfl rfl) (by rw [hc];rfl)) (br (v:=.int (A.ev.map Evt.v).length) (cD (fb w rfl rfl) (sm.ev▸gL (w.at 5 rfl))) (bW rfl) (st_expr (gR (ev_var rfl) (ev_var rfl) (ev_var rfl) (f34 (n:=n) F w sm dd de hq hb λT' H' w' s'=>k T' H' _ w' s' rfl)))))
 cases fo with
 |no hc e=>
  subst e
  exact cf xG rfl (dy (ev_eq (can rfl rfl rfl rfl) (by rw [hc];rfl)) (ev_ret (aK rfl) (q T H w sm)))
 |send hc sd de=>
  refine go hc de λT' H' ρ w' s' eρ=>?_
  subst eρ
  cases dd with
  |send _ _=>
   refine dy (aK rfl) (ev_ret (b8 (s:=true) (t:=true) (cT (ev_var rfl) λQ q=>G6 (n:=n+5) q) λ_=>ev_p2 (ev_var rfl) (fb w' rfl rfl) ((fS dz dz).trans ?_)) (q T' H' w' s'))
   rw [s'.lt,gU (.int _) rfl]
  |work _=>exact absurd sd am
  |fail _=>exact absurd sd am
 |@hour a es hc sd de ev ok hm=>
  refine go hc de λT' H' ρ w' s' eρ=>?_
  subst eρ
  haveI ha:=gz w' (ak _ (ak _ hm))
  haveI tl:(T'.ev.map Evt.v).length<=az:=by rw [ah,s'.ev];exact aa (aq _ _) (aa hb (by decide))
  haveI el:∀{es:List Evt},A'.ev=A.ev++es->es.length<=az:=λ{es} z=>aa (aa (bw _ _) (ao af.symm)) (z▸aa (aq _ 1100) (aa hb (by decide)))
  have k:a7 PL (aJ PL (n+6)) (Cv.body.drop 4) [some (bN r ns nm o),some (.ref (b+3)),some d,some (.ref a),some (.int (A.ev.map Evt.v).length)] H' (λ_ H'=>Q .none H') Q X:=by
   refine ev_ret (b8 (s:=true) (t:=true) (cT (ev_var rfl) λQ q=>JW (n:=n+4) ha (el ev) ok q) λ_=>ev_p2 (ev_var rfl) (iE (fb w' rfl rfl) (ev_var rfl) an (Bt (w'.at 5 rfl) tl)) ((fS (kN (pc ok) ha) (rZ ?_)).trans ?_)) (q T' H' w' s')
   ·rw [s'.ev,ev,aB,mx];exact pc ok
   ·rw [s'.ev,ev,aB,mx,xC (pc ok)]
  cases dd with
  |send _ _=>exact absurd sd.symm am
  |work _=>exact bJ (aK rfl) k
  |fail _=>exact bJ (aK rfl) k
end
section
variable {π:PI}{σ:Ad}{S:Hst}{H:AH}{G0 g:List (Nat×O)}{ns:List Nd}{nm:Nat->Nm}{x y:Nd}{k j o r n b i N a:Nat}{Q R:QE}{X:XE}{K:KS}{A A' T T' Af:Ab}{Y:List (Nat×O)}{ss:List St}{e:Evt}{es:List Evt}{d v:V}{P:Prog}{C:Calls}{ρ:Fm}
theorem Hs.pushG(w:Hs (dq σ g) S H)(o:O)(ea:H.length=a):Hs (dq σ (g++[(a,o)])) S (H++[o])/\(H++[o]).length=a+1:=
 ⟨Hs.addG (H':=H++[o]) (G1:=[(a,o)]) w (λa ha=>bl ha) dQ (bg.mpr ⟨aZ,cR⟩) (dk ⟨ao ea,ea▸dS⟩),af.trans (congrArg (·+1) ea)⟩
theorem E9{z:V}:bH N z=(aV N).map λ_=>z:=by rw [List.map_const',ba]
theorem zz{z:V}(h:ρ[i]? =some (some (ni N)))(hN:N<=60)(ea:H.length=a)(q:Q (.ref a) (H++[rg N λ_=>z])):cz P C (.prim true .rep [.prim false .mklist [.cst z],.var i]) ρ H Q X:=by
 refine ev_var (P:=P) (C:=C) (X:=X) h _ (hE (v:=.ref a) (H':=H++[rg N λ_=>z]) ?_ q)
 refine(?_:(if 0<=(N:Int)/\(N:Int)<=1000 then some (V.lst (bH N z),H)else none:Option (V×AH)).bind _=_)
 rw [if_pos ⟨bv _,ca.mpr (aa hN (by decide))⟩,E9,<-ea];rfl
theorem vb(h:ρ[i]? =some (some (ni N)))(hN:N<=60)(ea:H.length=a)(q:Q (.ref a) (H++[rg N λ_=>.lst []])):cz P C (.comp true (.prim false .mklist []) (.prim false .range1 [.var i]) none) ρ H Q X:=
 wp_mapT (l:=aV N) (f:=ni) (g:=λ_=>.lst []) (w:=.rng 0 N) (cD (ev_var h) (fY (yA (aa hN (by decide))))) (congrArg some tq) (by rw [ba];exact aa hN (by decide)) (λ_ _=>aK rfl) (ea▸q)
theorem vD{ks:List Nm}{vs:List V}{key:Nm}{ex:Ex}{z:V}(hi:ρ[i]? =some (some (.ref a)))(he:∀Q:QE,(∀H',H'[a]? =some (.dict ks vs)->ks.length<=10->a7 P C ss ρ (H'.set a (.dict (dK key z ks vs).1 (dK key z ks vs).2)) K R X->Q z H')->cz P C ex ρ H Q X):a7 P C (.setItem (.var i) (.cst (.str key)) ex::ss) ρ H K R X:=gM (he _ λH' h hl k=>by
 refine ev_var (P:=P) (C:=C) (X:=X) hi _ ?_
 refine(?_:match yD a key z H' H'[a]? with|some H'=>_|none=>False)
 rw [h]
 show match(if ks.length<=az then some _ else none:Option AH)with|some H'=>_|none=>False
 rw [if_pos (aa hl (by decide))]
 exact k)
theorem HO{p:Prim}{a b c:Ex}{u v:V}(k:cz P C a ρ H (λx H1=>cz P C b ρ H1 (λy H2=>cz P C c ρ H2 (λz H3=>g7 (aY P true p [x,y,z,u,v] H3) Q) X) X) X):cz P C (.prim true p [a,b,c,.cst u,.cst v]) ρ H Q X:=k
theorem f25(F:Fx σ G0 ns nm r o)(w:Hs (dq σ G0) S H)(q:∀T H',WX σ G0 H.length ns.length nm T [] S H'->T=aF (σ.names.map .beg) (λ_=>[]) AC->Q (.ref (H.length+3)) H'):aJ PL (n+3) 25 [bN r ns nm o] H Q X:=by
 haveI g:GN r ns H:=λp hp=>gz w (F.g p hp)
 have hN:=F.t.le
 refine dm F.t.tr.top λx0 h0 _ hd=>?_
 haveI w1:=w.pushG (rg ns.length λ_=>.bool false) rfl
 haveI w2:=w1.1.pushG (rg ns.length λ_=>.int 0) w1.2
 haveI w3:=w2.1.pushG (rg ns.length λ_=>.lst []) w2.2
 haveI w4:=w3.1.pushG (.dict (jT.take 5) [.ref H.length,.ref (H.length+1),.ref (H.length+2),.int 0,.int 0]) w3.2
 haveI w5:=w4.1.pushG (rg ns.length λ_=>.lst []) w4.2
 rw [aj,aj,aj,aj]at w5
 refine cf E7 rfl (br (v:=ni ns.length) (ev_eq (cD (ev_p2 (z:=.ref r) (ev_var rfl) an rfl) (gL g.row)) (congrArg ni (ah _))) (bW rfl) (dT (HO (zz rfl hN rfl (zz rfl hN w1.2 (vb rfl hN w2.2 (hE (v:=.ref (H.length+3)) (congrArg (λt=>some (V.ref t,_)) w3.2) ⟨bW rfl,?_⟩)))))))
 refine vD (a:=H.length+3) (ks:=jT.take 5) (vs:=[.ref H.length,.ref (H.length+1),.ref (H.length+2),.int 0,.int 0]) (z:=.ref (H.length+4)) rfl λQ1 q1=>vb rfl hN w4.2 (q1 _ (D2 w5.1 3 rfl) (aU rfl) ?_)
 haveI w6:=w5.1.gset 3 (a:=H.length+3) (o':=.dict (jT.take 6) [.ref H.length,.ref (H.length+1),.ref (H.length+2),.int 0,.int 0,.ref (H.length+4)]) rfl
 haveI w7:=w6.pushG (.list []) (aR.trans w5.2)
 rw [aj]at w7
 refine vD (a:=H.length+3) (ks:=jT.take 6) (vs:=[.ref H.length,.ref (H.length+1),.ref (H.length+2),.int 0,.int 0,.ref (H.length+4)]) (z:=.ref (H.length+5)) rfl λQ1 q1=>jr (aR.trans w5.2▸q1 _ (D2 w7.1 3 rfl) (aU rfl) ?_)
 haveI w8:WX σ G0 H.length ns.length nm AC [] S _:=w7.1.gset 3 (a:=H.length+3) (o':=.dict jT (nC H.length 0 0)) rfl
 refine st_expr (gR (ev_var rfl) (ev_var rfl) an (f26 (n:=n) (k:=0) F w8 h0 (aU rfl) λH' w'=>ev_ret (ev_var rfl) (q _ H' w' ?_)))
 rw [rJ F.n h0,F.en,F.t.tr.subS h0 (f:=7) (hd.symm▸rfl) (by decide)];rfl
end
section
variable {π:PI}{σ:Ad}{S:Hst}{H:AH}{G0 g:List (Nat×O)}{ns:List Nd}{nm:Nat->Nm}{x y:Nd}{k j o r n b i N a:Nat}{Q R:QE}{X:XE}{K:KS}{A A' T T' Af:Ab}{Y:List (Nat×O)}{ss:List St}{e:Evt}{es:List Evt}{d v:V}{P:Prog}{C:Calls}{ρ:Fm}
theorem jN{f:Nat}{mn:Nm}(h:Hs σ S H)(h0:ρ[i]? =some (some (.ref σ.i)))(hn:hk.contains mn=false)(k:C f [.ref σ.i] H Q X):cz P C (.meth 0 f mn (.var i) []) ρ H Q X:=
 ev_var (P:=P) (C:=C) (X:=X) h0 (λv H₁=>e9 H₁ 0 mn v=true/\fR P C [] ρ H₁ (λvs H'=>C f (v::vs) H' Q X) X) ⟨iP h hn,k⟩
theorem jU{f:Nat}{mn:Nm}{a:Ex}(h:Hs σ S H)(h0:ρ[i]? =some (some (.ref σ.i)))(hn:hk.contains mn=false)(ha:Ev P C ρ H X a v)(k:C f [.ref σ.i,v] H Q X):cz P C (.meth 0 f mn (.var i) [a]) ρ H Q X:=
 ev_var (P:=P) (C:=C) (X:=X) h0 (λv H₁=>e9 H₁ 0 mn v=true/\fR P C [a] ρ H₁ (λvs H'=>C f (v::vs) H' Q X) X) ⟨iP h hn,ha _ k⟩
theorem oP{f:Nat}{a:Ex}(k:cz P C a ρ H (λu H'=>C f [u] H' Q X) X):cz P C (.call f [a]) ρ H Q X:=k
theorem yM{a b:Ex}(k:cz P C a ρ H (λv H'=>mK (fk v) λt=>if t then cz P C b ρ H' Q X else Q (.bool t) H') X):cz P C (.and a b) ρ H Q X:=k
theorem Di{a b:Ex}(k:cz P C a ρ H (λv H'=>mK (fk v) λt=>if !t then cz P C b ρ H' Q X else Q (.bool t) H') X):cz P C (.or a b) ρ H Q X:=k
theorem tf{u w:V}{vs:List V}(d:Dt vs)(hu:rd H u=some (.lst vs))(hw:rd H w=some (.lst vs)):aY P false (.cop .ne) [u,w] H=some (.bool false,H):=(lO hu hw).trans (by rw [xC d];rfl)
theorem zI{u w:V}{vs:List V}(d:Dt vs)(hu:rd H u=some (.lst vs))(hw:rd H w=some (.lst vs)):aY P false (.cop .eq) [u,w] H=some (.bool true,H):=(fS hu hw).trans (by rw [xC d])
theorem zQ{m:Nm}(h:Hs σ S H):(qS S m).length<=S.letters:=by
 unfold qS
 refine fA (o:=dG m S.qu) (λz=>?_) λx z=>?_
 ·rw [z];exact aQ _
 ·rw [z];exact(h.qp _ (bV z)).2.2
theorem Dv{m:Nm}(iv:Iv π S):∀p∈qS S m,LV p.2:=by
 unfold qS
 refine fA (o:=dG m S.qu) (λz=>?_) λx z=>?_
 ·rw [z];exact λp hp=>absurd hp aZ
 ·rw [z];exact iv.lv _ (bV z)
def As(hall:V)(b i:Nat)(ns:List Nd)(H:AH)(its:List Nat)(ρ:Fm)(H':AH):Prop:=∃(os:Nat->Option V) (L:AH),ρ=[some hall,some (.ref (b+3)),some (.ref i),some (ni 3),os 4,os 5,os 6,os 7,os 8]/\H'=H++L/\∀k∈its,k<ns.length
noncomputable def os8(o4 o5 o6 o7 o8:Option V)(k:Nat):Option V:=([o4,o5,o6,o7,o8][k-4]?).join
theorem tC{L:AH}{its:List Nat}{os:Nat->Option V}(F:Fx σ G0 ns nm r o)(w:WX σ G0 b ns.length nm T Y S (H++L))(iv:Iv (cL ns nm) S)(sm:Sm (cL ns nm) (jq S) T)(hL:S.letters<=110)(hb:S.ev.length<=900000)(hx:ns[k]? =some x)(hi:∀k∈its,k<ns.length)(hK:∀ρ' H',As (bN r ns nm o) b σ.i ns H its ρ' H'->K ρ' H') :
  a7 PL (aJ PL (n+3)) (Eh (EK.body.getD 3 .pass)) [some (bN r ns nm o),some (.ref (b+3)),some (.ref σ.i),some (ni 3),os 4,some (ni k),os 6,os 7,os 8] (H++L) K R X:=by
 have pl:=F.pl.g (g:=G0++(wN b ns.length nm T++Y))
 have hk:=(ae.mp hx).1
 have gn:=w.gn F.g
 have kn:∀{o4 o5 o6 o7 o8:Option V} {H'},(∃L',H'=H++L')->K [some (bN r ns nm o),some (.ref (b+3)),some (.ref σ.i),some (ni 3),o4,o5,o6,o7,o8] H':=λ{o4 o5 o6 o7 o8 H'} e=>e.elim λL' e=>hK _ _ ⟨os8 o4 o5 o6 o7 o8,L',rfl,e,hi⟩
 refine br (v:=.str (nm k)) (ev_p2 (x:=nu nm ns.length) (ev_p2 (ev_var rfl) an rfl) (ev_var rfl) (gZ hk)) (bW rfl) ?_
 cases hw:x.w with
 |false=>
  have iw:(cL ns nm).isW (nm k)=some false:=hw▸ir F.n hx
  have d:Dt ((qS S (nm k)).map λp=>ni p.1):=nN λ_=>trivial
  have w1:WX σ G0 b ns.length nm T Y S (H++L++[.list ((qS S (nm k)).map λp=>ni p.1)]):=w.app
  have eq:T.q (nm k)=qS S (nm k):=congrFun sm.q _
  have ql:(T.q (nm k)).length<=az:=by rw [eq];exact aa (zQ w) (aa hL (by decide))
  refine qb (yM (ev_eq (cN (jw gn hx rfl rfl rfl)) (congrArg (λt=>V.bool !t) hw) _ (mI (jU w rfl rfl (ev_var rfl) (f47 (n:=n) pl w iv hL iw (nL (l:=T.q (nm k)) (f:=nA) (g:=λp=>ni p.1) (oW w1 rfl (ev_var rfl) hk) rfl ql (λ_ _=>aK rfl) _ (hE (tf d (kN d dS) (by rw [eq];exact rZ d)) ?_)))))))
  have gn1:=w1.gn F.g
  refine cZ (s:=T.h (nm k)) (ev_eq (b8 (jb w1 rfl (ev_var rfl) hk) λ_=>cN (jw gn1 hx rfl rfl rfl)) (congrArg V.bool (by rw [hw];exact kt _))) (λhh=>?_) λhh=>?_
  ·have hS:here S (nm k)=true:=(congrFun sm.h (nm k)).symm.trans hh
   have sum:∀{ρ:Fm} {X},ρ[2]? =some (some (.ref σ.i))->ρ[6]? =some (some (.str (nm k)))->Ev PL (aJ PL (n+3)) ρ (H++L++[.list ((qS S (nm k)).map λp=>ni p.1)]) X (.meth 0 61 ['s','u','m','_','o','f'] (.var 2) [.var 6]) (.int (lX S (nm k))):=λh2 h6=>ze w1 h2 rfl (ev_var h6) λQ q=>f48 (n:=n) pl w1 iv iw hS q
   refine bJ (g9 (s:=false) (t:=false) (cN (s:=true) (cT (sum rfl rfl) λQ q=>G6 (n:=n+2) q)) λ_=>ev_p2 (sum rfl rfl) (C7 w1 rfl (ev_var rfl) hk) ((lO dz dz).trans ?_)) (dA ?_)
   ·rw [show T.s (nm k)=lX S (nm k)from congrFun sm.s _,gU (.int _) rfl];rfl
   ·exact bJ (ev_eq (b8 (jb w1 rfl (ev_var rfl) hk) λ_=>jw gn1 hx rfl rfl rfl) (congrArg V.bool (by rw [hw];exact eM _))) (dA (kn ⟨_,aj ..⟩))
  ·exact bJ (ev_eq (b8 (jb w1 rfl (ev_var rfl) hk) λ_=>jw gn1 hx rfl rfl rfl) (congrArg V.bool (by rw [hw];exact eM _))) (dA (kn ⟨_,aj ..⟩))
 |true=>
  have iw:(cL ns nm).isW (nm k)=some true:=hw▸ir F.n hx
  refine bJ (ev_eq (b8 (t:=false) (cN (jw gn hx rfl rfl rfl)) λh=>absurd ((congrArg (!·) hw).symm.trans h) am) (congrArg V.bool (eM _))) (bJ (ev_eq (b8 (jb w rfl (ev_var rfl) hk) λ_=>cN (jw gn hx rfl rfl rfl)) (congrArg V.bool (by rw [hw];exact eM _))) ?_)
  refine cZ (s:=T.h (nm k)) (ev_eq (b8 (jb w rfl (ev_var rfl) hk) λ_=>jw gn hx rfl rfl rfl) (congrArg V.bool (by rw [hw];exact kt _))) (λhh=>?_) λhh=>dA (kn ⟨_,rfl⟩)
  have hS:here S (nm k)=true:=(congrFun sm.h (nm k)).symm.trans hh
  haveI d:Dt ((Fh S.clock ((cL ns nm).sp (nm k)) (gc S (nm k))).map V.int):=nN λ_=>trivial
  have ef:Fh T.t (sf x) (T.k (nm k))=Fh S.clock ((cL ns nm).sp (nm k)) (gc S (nm k)):=by
   show _=Fh (jq S).t _ ((jq S).k (nm k))
   rw [<-sm.k (nm k) iw,(rD F.n hx).1,sm.t]
  have tl:(T.k (nm k)).length<=az:=aa (sm.kb _) (by rw [sm.ev];exact aa hb (by decide))
  refine br (Je F.t.tr hx hw rfl rfl) (bW rfl) (br (v:=xH (Fh T.t (sf x) (T.k (nm k)))) (DD (ρ:=[_,_,_,_,_,_,_,_,_]) (λ_=>ev_var rfl) (λ_=>fb w rfl rfl) (λ_=>rfl) (yc w rfl (ev_var rfl) hk) tl) (bW rfl) ?_)
  refine qb (Di (n8 (oP (jU w rfl rfl (ev_var rfl) (LX (n:=n+1) pl w iv iw hS hb λo1 eo=>?_)))))
  subst eo
  refine KF (n:=n+1) (l:=Fh S.clock ((cL ns nm).sp (nm k)) (gc S (nm k))) dS ?_ (hE rfl (mI (jU w.app rfl rfl (ev_var rfl) (LX (n:=n+1) pl w.app iv iw hS hb λo1 eo=>?_))))
  ·rw [<-ef];exact aa uM tl
  subst eo
  refine ev_var (v:=xH (Fh T.t (sf x) (T.k (nm k)))) rfl _ (hE (tf d (kN d dS) (by rw [ef];exact rZ d)) (kn ⟨_,(congrArg (·++_) (aj ..)).trans (aj ..)⟩))
theorem KL(F:Fx σ G0 ns nm r o)(w:WX σ G0 b ns.length nm T Y S H)(iv:Iv (cL ns nm) S)(sm:Sm (cL ns nm) (jq S) T)(hL:S.letters<=110)(hb:S.ev.length<=900000)(hj:j<4)(q:∀L,Q (.bool true) (H++L)):aJ PL (n+4) 38 [bN r ns nm o,.ref (b+3),.ref σ.i,ni j] H Q X:=by
 haveI pl:=F.pl.g (g:=G0++(wN b ns.length nm T++Y))
 refine dm F.t.tr.top λx0 h0 _ _=>?_
 haveI l0:=(ae.mp h0).1
 haveI e0:au σ.plan=nm 0:=F.ep▸iq h0
 haveI oa:=fB F
 haveI hn:σ.names.length<=az:=aa F.pl.le (by decide)
 haveI eS:S.ev.length<=az:=aa hb (by decide)
 haveI qq:∀{L L':AH},Q (.bool true) (H++L++L'):=λ{L L'}=>aj H L L'▸q (L++L')
 match j,hj with
 |0,_=>
  refine cf qy rfl (dy (aK rfl) (ev_ret (b8 (s:=true) (t:=true) (ev_p2 (lR w rfl rfl λQ q=>cf zR rfl (ev_ret (lE w rfl (ev_p2 (cU w rfl rfl) an (uB pl.top))) q)) (jb w rfl an l0) ((fS rfl rfl).trans ?_)) λ_=>b8 (s:=true) (t:=true) (cT (lR w rfl rfl λQ q=>cf zh rfl (ev_ret (cU w rfl rfl) q)) λQ q=>G6 (n:=n+2) q) λ_=>ev_p2 (lR w rfl rfl λQ q=>cf zh rfl (ev_ret (cU w rfl rfl) q)) (fb w rfl rfl) ((fS rfl rfl).trans ?_)) (aA H▸q [])))
  ·rw [sm.h,<-e0]
   show some (V.bool (gf (.bool (here S (au σ.plan))) (.bool (here S (au σ.plan)))),H)=_
   rw [gU _ rfl]
  ·rw [sm.t]
   show some (V.bool (gf (.int S.clock) (.int S.clock)),H)=_
   rw [gU _ rfl]
 |1,_=>
  have d:Dt ((σ.names.filter (here S)).map V.str):=nN λ_=>trivial
  haveI w1:WX σ G0 b ns.length nm T Y S (H++[.list ((σ.names.filter (here S)).map V.str)]):=w.app
  refine cf qy rfl (bJ (aK rfl) (dy (aK rfl) (gJ (yM (oP (jN w rfl rfl (K2 (n:=n+2) pl w (LS (n:=n+2) dS (aa (cJ _ _) hn) (mI (jN w1 rfl rfl (K2 (n:=n+2) pl w1 (fT (ev_var rfl) (ev_var rfl) (f35 (n:=n+2) F w1.app (hE (zI d (kN d dS) (by rw [sm.h];exact rZ d)) qq))))))))))))))
 |2,_=>
  have d:Dt (S.ev.map Evt.v):=pc iv.nm
  haveI w1:WX σ G0 b ns.length nm T Y S (H++[.list (S.ev.map Evt.v)]):=w.app
  refine cf qy rfl (bJ (aK rfl) (bJ (aK rfl) (dy (aK rfl) (dT (jN w rfl rfl (f46 (n:=n+2) w hb ⟨bW rfl,ev_ret (b8 (s:=true) (t:=true) (cT (ev_var rfl) λQ q=>JW (n:=n+1) dS eS iv.nm q) λ_=>ev_p2 (ev_var rfl) (fb w1 rfl rfl) (zI d (kN d dS) (kN d ((w1.at 5 rfl).trans (congrArg (λl:List Evt=>some (O.list (l.map Evt.v))) sm.ev))))) (q _)⟩))))))
 |3,_=>
  refine cf qy rfl (bJ (aK rfl) (bJ (aK rfl) (bJ (aK rfl) (d5 (As (bN r ns nm o) b σ.i ns H) (f:=ni) (l:=sub ns 7 0) (v:=.ref o) (ev_p2 (ev_var rfl) an rfl) (λ_ _ _ z=>c6 z λ_ _ _ e _=>d6 (e▸gz w.app (av _ F.o))) (aa oa.2.1 (by decide)) ⟨λ_=>none,[],rfl,(aA H).symm,oa.2.2.1⟩
   (λk js ρ' H' hI K' hK=>c6 hI λos L e eH hi=>?_) λρ' H' hI=>c6 hI λ_ _ _ e _=>ev_ret an (e▸q _)))))
  subst e
  subst eH
  exact tC (n:=n) F w.app iv sm hL hb (aH (hi k (.head _))) (λk hk=>hi k (.tail _ hk)) hK
end
theorem vZ{α:Type}{F:V->AH->(Option V->AH->Prop)->Prop}{ok:AH->Prop}{f:α->V}{Q:List V->AH->Prop}(I:List α->List V->AH->Prop)(hok:∀l acc H,I l acc H->ok H)(step:∀a l acc H,I (a::l) acc H->∀K:Option V->AH->Prop,(∀v H',I l (acc++[v]) H'->K (some v) H')->F (f a) H K)(q:∀acc H,I [] acc H->Q acc H){l:List α}:∀{acc:List V} {H:AH},I l acc H->compL F ok (l.map f) acc H Q:=by
 induction l with
 |nil=>exact λ{acc H} h=>⟨hok _ _ _ h,q acc H h⟩
 |cons a l ih=>exact λ{acc H} h=>⟨hok _ _ _ h,step a l acc H h _ λv H' h'=>ih h'⟩
section
variable {π:PI}{σ:Ad}{S:Hst}{H:AH}{G0 g E:List (Nat×O)}{ns:List Nd}{nm:Nat->Nm}{x y:Nd}{k j o r n b i N a:Nat}{Q R:QE}{X:XE}{K:KS}{A A' T T' Af:Ab}{Y:List (Nat×O)}{ss:List St}{e:Evt}{es:List Evt}{d v:V}{P:Prog}{C:Calls}{ρ:Fm}
theorem uw{α:Type}{l:List α}{f:α->V}{elt it:Ex}{w:V}(I:List α->List V->AH->Prop)(hit:Ev P C ρ H X it w)(hs:∀l' acc H',I l' acc H'->p4 H' w=some (l.map f))(hl:l.length<=az)(h0:I l [] H)(he:∀a l acc H',I (a::l) acc H'->∀Q:QE,(∀v H'',I l (acc++[v]) H''->Q v H'')->cz P C elt (ρ++[some (f a)]) H' Q X)(q:∀acc H',I [] acc H'->Q (.lst acc) H'):cz P C (.comp false elt it none) ρ H Q X:=
 hit _ ⟨l.map f,hs _ _ _ h0,(ah f).symm▸hl,vZ I hs (λa l acc H' h K hK=>he a l acc H' h _ hK) (λacc H' h=>hE rfl (q acc H' h)) h0⟩
theorem Ie{z:Int}(F:Fx σ G0 ns nm r o)(w:WX σ G0 b ns.length nm T Y S H)(iv:Iv (cL ns nm) S)(sm:Sm (cL ns nm) (jq S) T)(hL:S.letters<=110)(hb:S.ev.length<=900000)(q:∀L,Q (.bool true) (H++L)):aJ PL (n+5) 39 [bN r ns nm o,.ref (b+3),.ref σ.i,.int z] H Q X:=by
 refine cf FJ rfl (gJ (mI (uw (l:=aV 4) (f:=ni) (w:=.rng 0 4) (λl acc H'=>acc++l.map (λ_=>V.bool true)=[.bool true,.bool true,.bool true,.bool true]/\∃L,H'=H++L) (cD an (fY ⟨by decide,by decide⟩)) (λ_ _ _ _=>rfl) (by decide) ⟨rfl,[],(aA H).symm⟩ (λi l acc H' hI Q hQ=>?_) λacc H' hI=>?_)))
 ·refine hI.2.elim λL eL=>?_
  subst eL
  have m:=iz (a:=(i:Int)+z) (b:=4) (by decide)
  refine gi (ev_var rfl) (ev_var rfl) (ev_var rfl) (ev_eq (v:=.int (((i:Int)+z)%4)) (x:=ni (((i:Int)+z)%4).toNat) (ev_p2 (ev_p2 (ev_var rfl) (ev_var rfl) dR) an (c9 (by decide))) (congrArg V.int (bO m.1).symm) _ (KL (n:=n) F w.app iv sm hL hb ((fF m.1).mpr m.2) λL'=>hQ _ _ ⟨(aj ..).trans hI.1,L++L',aj ..⟩))
 ·have e:acc=[.bool true,.bool true,.bool true,.bool true]:=(aA acc).symm.trans hI.1
  subst e
  exact hI.2.elim λL eL=>aK (v:=.lst [.bool true,.bool true,.bool true,.bool true]) rfl _ (hE (v:=.bool true) rfl (eL▸q L))
theorem Hs.reG{g':List (Nat×O)}(h:Hs (dq σ g) S H)(p:g.Perm g'):Hs (dq σ g') S H:=by
 haveI ef:∀g:List (Nat×O),fq (dq σ g) S=fq (dq σ []) S++g:=λ_=>rfl
 haveI nd:=h.nd
 have p1:(fq (dq σ g) S).Perm (fq (dq σ g') S):=by rw [ef g,ef g'];exact p.append_left _
 exact⟨((p1.map _).nodup_iff).mp nd,λq hq=>h.fix q (p1.mem_iff.mpr hq),h.kp,h.qp,h.qn,h.pn,h.kn,h.fr⟩
theorem Hs.mv{W:List (Nat×O)}{t:Nat×O}(h:Hs (dq σ (E++W++[t])) S H):Hs (dq σ (E++(t::W))) S H:=h.reG (by rw [aj];exact List.perm_append_comm.append_left E)
end
noncomputable def c1(p:Nat×List V):Nat×O:=(p.1,.list p.2)
noncomputable def oR(p:Nat×List V):V:=.ref p.1
noncomputable def p2(p:Nat×List V):Nat×List V:=(p.1,p.2++[.int 1000000000000000000])
noncomputable def sr(p:Nat×List V):V:=.lst [.ref p.1,.lst p.2]
def GO(gs:List (Nat×List V)):Prop:=∀p∈gs,Dt p.2/\p.2.length<=900000
inductive Fv:Option (Nat×List V)->V->Prop
 |no {v:V}:(∀H,aY PL false (.isinst .list) [v] H=some (.bool false,H))->Fv none v
 |yes {p:Nat×List V}:Fv (some p) (oR p)
section
variable {π:PI}{σ:Ad}{S:Hst}{H:AH}{G0 g E:List (Nat×O)}{ns:List Nd}{nm:Nat->Nm}{x y:Nd}{k j o r n b i N a:Nat}{Q R:QE}{X:XE}{K:KS}{A A' T T' Af:Ab}{Y:List (Nat×O)}{ss:List St}{e:Evt}{es:List Evt}{d v fv:V}{P:Prog}{C:Calls}{ρ:Fm}{fo:Option (Nat×List V)}{rest:List (Nat×List V)}{p:Nat×List V}
theorem B5{vs:List V}(h:H[i]? =some (.list vs))(hl:vs.length<=az):aY P false .list [.ref i] H=some (.lst vs,H):=by
 show((H[i]?.bind O.lst).bind _).map _=_
 rw [h]
 show(if vs.length<=az then some _ else none:Option V).map _=_
 rw [if_pos hl];rfl
noncomputable def Lx(fv:V):Option (Nat×List V)->V
 |none=>fv
 |some p=>oR p
def H3(σ:Ad)(E:List (Nat×O))(S:Hst)(ρ0:List (Option V))(a6:Nat)(gs:List (Nat×List V))(fv:V)(its:List (Option (Nat×List V)))(ρ:Fm)(H:AH):Prop:=
 ∃o7 dn,ρ=ρ0++[some (.ref a6),o7]/\Hs (dq σ (E++((a6,.list ((dn.map p2).map sr))::((dn.map p2).map c1++(its.filterMap id).map c1)))) S H/\dn++its.filterMap id=gs/\(none∈its->∀H,aY PL false (.isinst .list) [fv] H=some (.bool false,H))
def Hd(σ:Ad)(E:List (Nat×O))(S:Hst)(Q:QE):Prop:=∀(r:Nat) (Z:List (Nat×O)) (hp:List (Nat×List V)) (H':AH),Hs (dq σ (E++Z)) S H'->H'[r]? =some (.list (hp.map sr))->(∀p∈hp,c1 p∈Z/\Dt p.2)->hp.length<=201->Q (.ref r) H'
theorem Do{l:List (Nat×List V)}:(l.map some).filterMap id=l:=by
 induction l with
 |nil=>rfl
 |cons a l ih=>exact congrArg (a::·) ih
theorem KB{α:Type}{o:Option α}:o.toList.length<=1:=by
 cases o with
 |none=>exact aQ _
 |some _=>exact aI _
theorem Fv.off(h:Fv fo fv)(e:fo=none):∀H,aY PL false (.isinst .list) [fv] H=some (.bool false,H):=by
 induction h with
 |no z=>exact z
 |yes=>exact nomatch e
theorem J7{a4:Nat}{o0 o1 o3 o5:Option V}(w:Hs (dq σ (E++((a4,.list (fv::rest.map oR))::(fo.toList++rest).map c1))) S H)(hfv:Fv fo fv)(go:GO (fo.toList++rest))(hn:rest.length<=200)(q:Hd σ E S Q):a7 PL C (AK.body.drop 3) [o0,o1,some fv,o3,some (.ref a4),o5,none,none] H K Q X:=by
 refine dT (jr ⟨bW rfl,?_⟩)
 have w1:Hs (dq σ ((E++[(a4,.list (fv::rest.map oR))])++((H.length,.list [])::(fo.toList++rest).map c1))) S (H++[.list []]):=Hs.mv (by haveI z:=(w.pushG (.list []) rfl).1;rw [aj E];exact z)
 have ef:fv::rest.map oR=(fo::rest.map some).map (Lx fv):=by
  rw [eC,bB,show Lx fv fo=fv from by induction hfv<;>rfl];rfl
 haveI ei:(fo::rest.map some).filterMap id=fo.toList++rest:=by cases fo with
  |none=>exact Do
  |some p=>exact congrArg (p::·) Do
 have hl:(fo.toList++rest).length<=201:=by
  rw [af,ce]
  exact bP hn KB
 refine d5 (H3 σ (E++[(a4,.list (fv::rest.map oR))]) S [o0,o1,some fv,o3,some (.ref a4),o5] H.length (fo.toList++rest) fv) (f:=Lx fv) (l:=fo::rest.map some) (ev_var rfl) (λ_ _ _ z=>gP z λ_ _ _ w _ _=>d6 ((gz w (av _ (ak _ (.head _)))).trans (congrArg (λt=>some (O.list t)) ef))) (by rw [bK,ah];exact aa (ax hn) (by decide)) ⟨none,[],rfl,ei.symm▸w1,ei,λhm=>?_⟩
  (λt ts ρ' H' hI K' hK=>gP hI λo7 dn e w ed hno=>?_) λρ' H' hI=>gP hI λo7 dn e w ed _=>?_
 ·exact hfv.off ((bG.mp hm).elim Eq.symm λz=>ea1_2 (aG.mp z) λ_ _ z=>nomatch z)
 ·subst e
  cases t with
  |none=>exact bJ (cD (ev_var rfl) (hno (.head _) _)) (dA (hK _ _ ⟨_,dn,rfl,w,ed,λz=>hno (.tail _ z)⟩))
  |some p=>
   haveI hp:p∈fo.toList++rest:=ed▸ak dn (.head _)
   haveI gp:=go p hp
   haveI hc:H'[p.1]? =some (.list p.2):=gz w (ak _ (.tail _ (ak _ (.head _))))
   haveI w2:=Hs.gset (G0:=(E++[(a4,.list (fv::rest.map oR))])++((H.length,.list ((dn.map p2).map sr))::(dn.map p2).map c1)) (W:=c1 p::(ts.filterMap id).map c1) (by rw [aj];exact w) 0 (a:=p.1) (o':=.list (p2 p).2) rfl
   rw [aj]at w2
   have w2':Hs (dq σ ((E++[(a4,.list (fv::rest.map oR))])++((H.length,.list ((dn.map p2).map sr))::((dn.map p2).map c1++c1 (p2 p)::(ts.filterMap id).map c1)))) S (H'.set p.1 (.list (p2 p).2)):=w2
   haveI h6:=gz w2' (p:=(H.length,.list ((dn.map p2).map sr))) (ak _ (.head _))
   haveI hp2:=gz w2' (p:=c1 (p2 p)) (ak _ (.tail _ (ak _ (.head _))))
   haveI hdl:((dn.map p2).map sr).length<=az:=by
    rw [ah,ah]
    refine aa (aa ?_ hl) (by decide)
    rw [<-ed,af];exact aq _ _
   haveI hp2l:(p2 p).2.length<=az:=aa (ao af) (aa (ax gp.2) (by decide))
   haveI w3:=w2'.gset 0 (o':=.list ((dn.map p2).map sr++[sr (p2 p)])) rfl
   refine dy (cD (ev_var rfl) (iG hc)) (st_mc1 (ev_var rfl) (d8 hc) (aK rfl) (hE (dU hc (aa gp.2 (by decide))) (st_mc1 (ev_var rfl) (d8 h6) (ev_p2 (ev_var rfl) (cD (ev_var rfl) (B5 hp2 hp2l)) (gH fM)) (hE (dU h6 hdl) (dA (hK _ _ ⟨_,dn++[p],rfl,?_,(aj dn [p] _).trans ed,λz=>hno (.tail _ z)⟩))))))
   haveI e1:((dn++[p]).map p2).map sr=(dn.map p2).map sr++[sr (p2 p)]:=by rw [aB,aB];rfl
   haveI e2:((dn++[p]).map p2).map c1++(ts.filterMap id).map c1=(dn.map p2).map c1++c1 (p2 p)::(ts.filterMap id).map c1:=by rw [aB,aB,aj];rfl
   rw [e1,e2]
   exact w3
 ·subst e
  have ed:dn=fo.toList++rest:=(aA dn).symm.trans ed
  refine ev_ret (ev_var rfl) (q H.length ([(a4,.list (fv::rest.map oR))]++((H.length,.list ((dn.map p2).map sr))::((dn.map p2).map c1++[]))) (dn.map p2) H' ((aj ..)▸w) (gz w (ak _ (.head _))) (λp hp=>⟨ak _ (.tail _ (av _ (bf hp))),?_⟩) ?_)
  ·exact ea1_2 (aG.mp hp) λp0 h0 e=>e▸cq (go p0 (ed▸h0)).1 (dk ⟨rfl,aQ _⟩)
  ·rw [ah,ed];exact hl
end
section
variable {π:PI}{σ:Ad}{S:Hst}{H:AH}{G0 g E:List (Nat×O)}{ns:List Nd}{nm:Nat->Nm}{x y:Nd}{k j o r n b i N a:Nat}{Q R:QE}{X:XE}{K:KS}{A A' T T' Af:Ab}{Y:List (Nat×O)}{ss:List St}{e:Evt}{es:List Evt}{d v fv:V}{P:Prog}{C:Calls}{ρ:Fm}{fo:Option (Nat×List V)}{rest:List (Nat×List V)}{p:Nat×List V}
theorem Ip{m:Nm}(h:Hs σ S H)(iv:Iv π S)(hb:S.ev.length<=900000):(gc S m).length<=900000:=by
 unfold gc
 refine fA (o:=dG m S.kept) (λz=>?_) λx z=>?_
 ·rw [z];exact aQ _
 ·rw [z];exact aa (h.kp _ (bV z)).2.2 (aa iv.gd.ll hb)
theorem AP{t:Mt}{mu:Bool}{p:Prim}{a b:Ex}{x:V}(ho:Ev P C ρ H X a x)(ht:kF H x t=true)(k:cz P C b ρ H (λy H'=>g7 (aY P mu p [x,y] H') Q) X):cz P C (.mcall t mu p a [b]) ρ H Q X:=ho _ ⟨ht,k⟩
theorem Ee{m:Nm}{l:List Nm}(h:H[a]? =some (.list (l.map V.str))):aY P false (.cop .in_) [.str m,.ref a] H=some (.bool ((l.map V.str).any λy=>gf y (.str m)),H):=by
 show((HI H (.str m) (.ref a) (H[a]?.bind O.lst))).map _=_
 rw [h]
 show((if rH _=true then some ((l.map V.str).any λy=>gf y (.str m))else none:Option Bool)).map _=_
 rw [if_pos (zy (nN (f:=V.str) λ_=>trivial))];rfl
def H2(σ:Ad)(E:List (Nat×O))(S:Hst)(hall fv:V)(fo:Option (Nat×List V))(a3 a4 N:Nat)(its:List Nat)(ρ:Fm)(H:AH):Prop:=
 ∃o5 rest,ρ=[some (.ref σ.i),some hall,some fv,some (.ref a3),some (.ref a4),o5,none,none]/\Hs (dq σ (E++((a4,.list (fv::rest.map oR))::(fo.toList++rest).map c1))) S H/\GO (fo.toList++rest)/\(a3,(σ.names.filter (here S)).map V.str)∈rest/\(∀k∈its,k<N)/\rest.length+its.length<=200
theorem JJ{a3 a4:Nat}(F:Fx σ G0 ns nm r o)(sE:∀p∈G0,p∈E)(w:Hs (dq σ (E++((a4,.list (fv::rest.map oR))::(fo.toList++rest).map c1))) S H)(iv:Iv (cL ns nm) S)(hb:S.ev.length<=900000)(hfv:Fv fo fv)(go:GO (fo.toList++rest))(h3:(a3,(σ.names.filter (here S)).map V.str)∈rest)(hn:rest.length+60<=200)(q:Hd σ E S Q):a7 PL (aJ PL (n+2)) (AK.body.drop 2) [some (.ref σ.i),some (bN r ns nm o),some fv,some (.ref a3),some (.ref a4),none,none,none] H K Q X:=by
 haveI oa:=fB F
 refine d5 (H2 σ E S (bN r ns nm o) fv fo a3 a4 ns.length) (f:=ni) (l:=sub ns 7 0) (v:=.ref o) (ev_p2 (ev_var rfl) an rfl) (λ_ _ _ z=>gP z λ_ _ _ w _ _=>d6 (gz w (av _ (sE _ F.o)))) (aa oa.2.1 (by decide)) ⟨none,rest,rfl,w,go,h3,oa.2.2.1,aa (aC oa.2.1 _) hn⟩
  (λk js ρ' H' hI K' hK=>gP hI λo5 rest e w go hm=>?_) λρ' H' hI=>gP hI λo5 rest e w go hm=>?_
 ·subst e
  haveI hl:=hm.2.2
  have hk:=hm.2.1 k (.head _)
  have nx:∀{H'':AH} {o5:Option V} {rest':List (Nat×List V)},Hs (dq σ (E++((a4,.list (fv::rest'.map oR))::(fo.toList++rest').map c1))) S H''->GO (fo.toList++rest')->(∀p∈rest,p∈rest')->rest'.length<=rest.length+1->K' [some (.ref σ.i),some (bN r ns nm o),some fv,some (.ref a3),some (.ref a4),o5,none,none] H'':=λ{H'' o5 rest'} a b c d=>hK _ _ ⟨o5,rest',rfl,a,b,c _ hm.1,λk hk=>hm.2.1 k (.tail _ hk),aa (aN d _) (aa (ao (by rw [bK,bt,ce 1])) hl)⟩
  refine(⟨_,aH hk⟩:∃x,ns[k]? =some x).elim λx hx=>?_
  haveI gn:GN r ns H':=λp hp=>gz w (av _ (sE _ (F.g p hp)))
  haveI hc3:=gz w (p:=c1 (a3,(σ.names.filter (here S)).map V.str)) (ak _ (.tail _ (bf (ak _ hm.1))))
  have nmk:∀{ρ:Fm} {C X},ρ[1]? =some (some (bN r ns nm o))->ρ[5]? =some (some (ni k))->Ev PL C ρ H' X (.prim false .item [(.prim false .item [.var 1,.cst (.str ['n','a','m','e','s'])]),.var 5]) (.str (nm k)):=λh1 h5=>ev_p2 (x:=nu nm ns.length) (ev_p2 (ev_var h1) an rfl) (ev_var h5) (gZ hk)
  refine cZ (b8 (jw gn hx rfl rfl rfl) λ_=>ev_p2 (nmk rfl rfl) (ev_var rfl) (Ee hc3)) (λhc=>?_) λ_=>dA (nx w go (λ_ h=>h) (a9 _))
  haveI hc:=ay.mp hc
  have hh:here S (nm k)=true:=ea1_2 (iC.mp hc.2) λv hv e=>ea1_2 (aG.mp hv) λm hm' e'=>by
   subst e'
   have e:m=nm k:=beq_iff_eq.mp e
   exact e▸(bU.mp hm').2
  haveI h4:=gz w (p:=(a4,.list (fv::rest.map oR))) (ak _ (.head _))
  haveI iw:(cL ns nm).isW (nm k)=some true:=hc.1▸ir F.n hx
  refine st_expr (AP (ev_var rfl) (d8 h4) (jU w rfl rfl (nmk rfl rfl) (LX (n:=n) F.pl.g w iv iw hh hb λo1 eo=>?_)))
  subst eo
  haveI w1:=(w.pushG (.list ((Fh S.clock ((cL ns nm).sp (nm k)) (gc S (nm k))).map V.int)) rfl).1
  haveI w1':Hs (dq σ (E++((a4,.list (fv::rest.map oR))::(fo.toList++(rest++[(H'.length,(Fh S.clock ((cL ns nm).sp (nm k)) (gc S (nm k))).map V.int)])).map c1))) S (H'++[.list ((Fh S.clock ((cL ns nm).sp (nm k)) (gc S (nm k))).map V.int)]):=by rw [aj,sN]at w1;rw [<-aj,aB];exact w1
  refine hE (dU (dt h4) ?_) (dA (nx (rest':=rest++[(H'.length,(Fh S.clock ((cL ns nm).sp (nm k)) (gc S (nm k))).map V.int)]) ?_ ?_ (λ_ h=>av _ h) (ao af)))
  ·rw [bK,ah]
   exact aa (ax (aa (aq _ _) hl)) (by decide)
  ·haveI z:=w1'.gset 0 (o':=.list (fv::rest.map oR++[.ref H'.length])) rfl
   rw [show(rest++[(H'.length,(Fh S.clock ((cL ns nm).sp (nm k)) (gc S (nm k))).map V.int)]).map oR=rest.map oR++[.ref H'.length]from aB]
   exact z
  ·rw [<-aj]
   refine cq go (dk ⟨nN λ_=>trivial,?_⟩)
   show(ik V.int _).length<=_
   rw [ah]
   exact aa uM (Ip w iv hb)
 ·subst e
  exact J7 w hfv go (aa (aq _ _) hm.2.2) q
end
section
variable {π:PI}{σ:Ad}{S:Hst}{H:AH}{G0 g E:List (Nat×O)}{ns:List Nd}{nm:Nat->Nm}{x y:Nd}{k j o r n b i N a:Nat}{Q R:QE}{X:XE}{K:KS}{A A' T T' Af:Ab}{Y:List (Nat×O)}{ss:List St}{e:Evt}{es:List Evt}{d v fv:V}{P:Prog}{C:Calls}{ρ:Fm}{fo:Option (Nat×List V)}{rest:List (Nat×List V)}{p:Nat×List V}
theorem Gz{p:Prim}{a b:Ex}(k:cz P C a ρ H (λu H'=>cz P C b ρ H' (λw H''=>g7 (aY P true p [u,w] H'') Q) X) X):cz P C (.prim true p [a,b]) ρ H Q X:=k
theorem I5{mu:Bool}{p:Prim}{a b c:Ex}{x:V}(ha:Ev P C ρ H X a x)(k:cz P C b ρ H (λu H'=>cz P C c ρ H' (λw H''=>g7 (aY P mu p [x,u,w] H'') Q) X) X):cz P C (.prim mu p [a,b,c]) ρ H Q X:=ha _ k
theorem AO{xs ys:List V}(h:H[i]? =some (.list xs))(hl:xs.length+ys.length<=az):aY P true (.bop .add) [.ref i,.lst ys] H=some (.ref H.length,H++[.list (xs++ys)]):=by
 show(((H[i]?.bind O.lst).bind _).map _).bind _=_
 rw [h]
 show((if xs.length+ys.length<=az then some _ else none:Option V).map _).bind _=_
 rw [if_pos hl];rfl
theorem Hd.up{t:Nat×O}(q:Hd σ E S Q):Hd σ (E++[t]) S Q:=λr Z hp H' h a b c=>q r ([t]++Z) hp H' (aj E [t] Z▸h) a (λp hp=>⟨ak _ (b p hp).1,(b p hp).2⟩) c
def H1I(σ:Ad)(E:List (Nat×O))(S:Hst)(π:PI)(gs:List (Nat×List V))(l:List Nm)(acc:List V)(H:AH):Prop:=
 ∃ws:List (Nat×List V),acc=ws.map oR/\Hs (dq σ (E++(gs++ws).map c1)) S H/\GO (gs++ws)/\(ws.length+l.length<=60/\∀m∈l,π.isW m=some false)
theorem H1I.start{gs:List (Nat×List V)}{l:List Nm}(w:Hs (dq σ (E++gs.map c1)) S H)(g:GO gs)(hl:l.length<=60)(h:∀m∈l,π.isW m=some false):H1I σ E S π gs l [] H:=⟨[],rfl,by rw [aA];exact w,by rw [aA];exact g,aa (ao (da _)) hl,h⟩
theorem tW(F:Fx σ G0 ns nm r o):(∀m∈((sub ns 7 0).filter (si ns)).map nm,(cL ns nm).isW m=some false)/\(((sub ns 7 0).filter (si ns)).map nm).length<=60:=by
 haveI oa:=fB F
 refine⟨λm hm=>ea1_2 (aG.mp hm) λk hk e=>?_,?_⟩
 ·have hk:=bU.mp hk
  refine(⟨_,aH (oa.2.2.1 k hk.1)⟩:∃x,ns[k]? =some x).elim λx hx=>?_
  have h2:=hk.2
  unfold si at h2
  rw [hx]at h2
  rw [<-e,ir F.n hx]
  exact congrArg some (bZ _▸h2)
 ·rw [ah];exact aa (cJ _ _) oa.2.1
theorem Ll(F:Fx σ G0 ns nm r o)(sE:∀p∈G0,p∈E)(w:Hs (dq σ (E++fo.toList.map c1)) S H)(iv:Iv (cL ns nm) S)(hL:S.letters<=110)(hb:S.ev.length<=900000)(hfv:Fv fo fv)(go:GO fo.toList)(q:Hd σ E S Q):aJ PL (n+4) 37 [.ref σ.i,bN r ns nm o,fv] H Q X:=by
 haveI wa:=tW F
 haveI dn:Dt ((σ.names.filter (here S)).map V.str):=nN λ_=>trivial
 haveI w1:=(w.pushG (.list ((σ.names.filter (here S)).map V.str)) rfl).1
 haveI w2:Hs (dq σ (E++(fo.toList++[((H++[O.list ((σ.names.filter (here S)).map V.str)]).length,S.ev.map Evt.v),(H.length,(σ.names.filter (here S)).map V.str)]).map c1)) S (H++[.list ((σ.names.filter (here S)).map V.str)]++[.list (S.ev.map Evt.v)]):=(w1.pushG (.list (S.ev.map Evt.v)) rfl).1.reG (by
  rw [aj,aj,aB]
  exact((List.Perm.swap _ _ _).append_left _).append_left _)
 have w3:=(w2.pushG (.list [fv,.ref (H++[O.list ((σ.names.filter (here S)).map V.str)]).length,.ref H.length]) rfl).1.mv
 rw [show ∀(t:Nat×O) W,E++t::W=(E++[t])++W from λt W=>(aj E [t] W).symm]at w3
 haveI g3:GO (fo.toList++[((H++[O.list ((σ.names.filter (here S)).map V.str)]).length,S.ev.map Evt.v),(H.length,(σ.names.filter (here S)).map V.str)]):=cq go (eJ ⟨pc iv.nm,aa (ao (ah _)) hb⟩ (dk ⟨dn,aa (ao (ah _)) (aa (cJ _ _) (aa F.pl.le (by decide)))⟩))
 refine cf Fs rfl (dT (jN w rfl rfl (K2 (n:=n+2) F.pl.g w ⟨bW rfl,dT (Gz (I5 (x:=fv) (ev_var rfl) (jN w1 rfl rfl (f46 (n:=n+2) w1 hb (ev_var rfl _ (hE (ml wV) ?_))))))⟩)))
 refine uw (l:=((sub ns 7 0).filter (si ns)).map nm) (f:=V.str) (H1I σ _ S (cL ns nm) _) (cT (ev_var rfl) λQ q=>f24 (n:=n+2) F.t (λp hp=>gz w3 (av _ (av _ (sE p (F.g p hp))))) (gz w3 (av _ (av _ (sE _ F.o)))) q) (λ_ _ _ _=>rfl) (aa wa.2 (by decide)) (H1I.start w3 g3 wa.2 wa.1)
  (λm l acc H' hI Q hQ=>dg hI λws ea w4 g4 hl=>?_) λacc H' hI=>dg hI λws ea w4 g4 hl=>?_
 ·refine jU w4 rfl rfl (ev_var rfl) (f47 (n:=n) F.pl.g w4 iv hL (hl.2 m (.head _)) (hQ _ _ ⟨ws++[(H'.length,(qS S m).map λp=>ni p.1)],?_,?_,?_,?_,λm hm=>hl.2 m (.tail _ hm)⟩))
  ·rw [ea,aB];rfl
  ·rw [<-aj,aB,<-aj]
   exact(w4.pushG (.list ((qS S m).map λp=>ni p.1)) rfl).1
  ·rw [<-aj]
   refine cq g4 (dk ⟨nN λ_=>trivial,?_⟩)
   show(ik _ _).length<=_
   rw [ah]
   exact aa (zQ w4) (aa hL (by decide))
  ·rw [af]
   exact aa (ao (by rw [bK,bt,bK,ug,da,ce 1])) hl.1
 ·subst ea
  haveI ht:=gz w4 (av _ (ak _ (.head _)))
  haveI hl':=aa (aq _ _) hl.1
  refine hE (AO (ys:=ws.map oR) ht (by rw [ah];exact aa (aC hl' _) (show 63<=az by decide))) ⟨bW rfl,?_⟩
  haveI w5:=(w4.pushG (.list (fv::((((H++[O.list ((σ.names.filter (here S)).map V.str)]).length,S.ev.map Evt.v)::(H.length,(σ.names.filter (here S)).map V.str)::ws).map oR))) rfl).1.mv
  rw [aj fo.toList]at w5 g4
  exact JJ (n:=n+1) (rest:=((H++[O.list ((σ.names.filter (here S)).map V.str)]).length,S.ev.map Evt.v)::(H.length,(σ.names.filter (here S)).map V.str)::ws) F (λp hp=>av _ (sE p hp)) w5 iv hb hfv g4 (.tail _ (.head _)) (aa (aN (aN hl' 2) 60) (by decide)) q.up
end
theorem n1{a b d r:Nat}(h:a+(d+1+2*r)<=110)(e:b<=a+1):b+(d+2*r)<=110/\a<=109/\b<=110:=⟨fp h (fp e (by simp+arith only)),fp h (by simp+arith only),fp h (fp e (by simp+arith only))⟩
theorem n2{a b d r:Nat}(h:a+(8000*(d+1)+16000*r)<=860000)(e:b<=a+8000):b+(8000*d+16000*r)<=860000/\a+8000<=900000/\b+1100<=900000:=⟨fp h (fp e (by simp+arith only)),fp h (by simp+arith only),fp h (fp e (by simp+arith only))⟩
theorem n3{a d r:Nat}(h:a+2*(r+1)<=110)(e:d<=2):a+(d+2*r)<=110:=fp h (fp e (by simp+arith only))
theorem n4{a d r:Nat}(h:a+16000*(r+1)<=860000)(e:d<=2):a+(8000*d+16000*r)<=860000:=fp h (fp (bn 8000 e) (by simp+arith only))
theorem n5{a b d r:Nat}(h:a+(201*(d+1)+402*r)<=30000)(e:b<=a+201):b+(201*d+402*r)<=30000/\a+201<=30201:=⟨fp h (fp e (by simp+arith only)),fp h (by simp+arith only)⟩
theorem n6{a d r:Nat}(h:a+402*(r+1)<=30000)(e:d<=2):a+(201*d+402*r)<=30000:=fp h (fp (bn 201 e) (by simp+arith only))
noncomputable def AE(zv hall ws:V)(i i' b:Nat)(hp:List (Nat×List V))(z:Int)(o8 o9 o10:Option V):Fm:=[some zv,some hall,some (.ref i),some (.ref i'),some (.ref (b+3)),some ws,some (.lst (hp.map sr)),some (.int z),o8,o9,o10,none]
structure W9(σ:Ad)(G0:List (Nat×O))(b:Nat)(ns:List Nd)(nm:Nat->Nm)(T:Ab)(Y:List (Nat×O))(S:Hst)(hp:List (Nat×List V))(H:AH):Prop where
 w:WX σ G0 b ns.length nm T Y S H
 iv:Iv (cL ns nm) S
 sm:Sm (cL ns nm) (jq S) T
 hp:∀p∈hp,c1 p∈Y/\Dt p.2
section
variable {π:PI}{σ:Ad}{S S':Hst}{H:AH}{G0 g E:List (Nat×O)}{ns:List Nd}{nm:Nat->Nm}{x y:Nd}{k j o r n b i i' N a:Nat}{Q R:QE}{X:XE}{K:KS}{A A' T T' Af:Ab}{Y:List (Nat×O)}{ss:List St}{e:Evt}{es:List Evt}{d v fv zv ws:V}{P:Prog}{C:Calls}{ρ:Fm}{fo:Option (Nat×List V)}{rest hp:List (Nat×List V)}{p:Nat×List V}{z:Int}{o8 o9 o10:Option V}
theorem yi{xs ys:List V}(h:H[i]? =some (.list ys))(hl:xs.length+ys.length<=az):aY P false (.bop .add) [.lst xs,.ref i] H=some (.lst (xs++ys),H):=by
 show((H[i]?.bind O.lst).bind _).map _=_
 rw [h]
 show(if xs.length+ys.length<=az then some _ else none:Option V).map _=_
 rw [if_pos hl];rfl
theorem ue(F:Fx σ G0 ns nm r o)(w:WX σ G0 b ns.length nm T (Y++fo.toList.map c1) S' H)(iv:Iv (cL ns nm) S')(sm:Sm (cL ns nm) A T)(lv:∀n,∀p∈A.q n,LV p.2)(hq:∀n,(A.q n).length<=999)(dd:Dd (cL ns nm) σ d)(hd:Fo (nm 0) (cL ns nm) σ.names (Y++fo.toList.map c1) A (jq S') d v)(hfv:Fv fo v)(go:GO fo.toList)(hL:S'.letters<=110)(hb:S'.ev.length+1100<=900000)(hhp:∀p∈hp,c1 p∈Y/\Dt p.2)(hl:hp.length+201<=30201)
  (q:∀T' Y' hp' H',W9 σ G0 b ns nm T' Y' S' hp' H'->hp'.length<=hp.length+201->K (AE zv (bN r ns nm o) ws σ.i i' b hp' (z+1) o8 (some d) (some v)) H'):a7 PL (aJ PL (n+36)) ((Eh ((Eh (tx.body.getD 8 .pass)).getD 0 .pass)).drop 1) (AE zv (bN r ns nm o) ws σ.i i' b hp z o8 (some d) (some v)) H K R X:=by
 haveI hb':=aa (aq _ _) hb
 refine qb (Di (n8 (gi (ev_var rfl) (ev_var rfl) (ev_var rfl) (ev_var rfl _ (Ly (n:=n+29) F w sm dd lv hq hb hd λT' H1 w1 s1=>hE tT (n8 (gi (ev_var rfl) (ev_var rfl) (ev_var rfl) (ev_var rfl _ (Ie (n:=n+31) F w1 iv s1 hL hb' λL=>hE tT ?_)))))))))
 haveI w2:Hs (dq σ ((G0++(wN b ns.length nm T'++Y))++fo.toList.map c1)) S' (H1++L):=by
  haveI z:WX σ G0 b ns.length nm T' (Y++fo.toList.map c1) S' (H1++L):=w1.app
  rw [aj,aj];exact z
 refine br (v:=.int (z+1)) (ev_p2 (ev_var rfl) an dR) (bW rfl) (dT (mI (ev_var (v:=.lst (hp.map sr)) rfl _ (gR (ev_var rfl) (ev_var rfl) (ev_var rfl) (Ll (n:=n+32) F (λp hp=>av _ hp) w2 iv hL hb' hfv go λr2 Z hp2 H2 w3 h2 m2 l2=>hE (yi h2 ?_) ⟨bW rfl,dA ?_⟩)))))
 ·rw [ah,ah]
  exact aa (aC l2 _) (aa hl (by decide))
 ·haveI z:=q T' (Y++Z) (hp++hp2) H2 ⟨by rw [aj,aj]at w3;exact w3,iv,s1,cq (λp hp=>⟨av _ (hhp p hp).1,(hhp p hp).2⟩) λp hp=>⟨ak _ (m2 p hp).1,(m2 p hp).2⟩⟩ (by rw [af];exact aC l2 _)
  unfold AE at z
  rw [aB]at z
  exact z
theorem HX(F:Fx σ G0 ns nm r o)(W:W9 σ G0 b ns nm T Y S hp H)(dd:Dd (cL ns nm) σ d)(hL:S.letters<=109)(hb:S.ev.length+8000<=900000/\∀a,a<=S.ev.length+8000->a+1100<=900000)(hl:hp.length+201<=30201)(q:∀T' Y' S' hp' H' v,W9 σ G0 b ns nm T' Y' S' hp' H'->S'.letters<=S.letters+1->S'.ev.length<=S.ev.length+8000->hp'.length<=hp.length+201->K (AE zv (bN r ns nm o) ws σ.i i' b hp' (z+1) o8 (some d) (some v)) H') :
  a7 PL (aJ PL (n+36)) (Eh ((Eh (tx.body.getD 8 .pass)).getD 0 .pass)) (AE zv (bN r ns nm o) ws σ.i i' b hp z o8 (some d) o10) H K R X:=by
 refine dm F.t.tr.top λx0 h0 _ _=>?_
 have e0:au σ.plan=nm 0:=F.ep▸iq h0
 have lv:∀n,∀p∈(jq S).q n,LV p.2:=λn=>Dv W.iv
 have hq:∀n,((jq S).q n).length<=999:=λn=>aa (zQ W.w) (aa hL (by decide))
 have lS:∀{S':Hst},S'.letters<=S.letters+1->S'.letters<=110:=λh=>aa h (ax hL)
 have nil:∀{S':Hst} {H':AH},Hs (dq σ (G0++(wN b ns.length nm T++Y))) S' H'->WX σ G0 b ns.length nm T (Y++(none:Option (Nat×List V)).toList.map c1) S' H':=λw=>(aA Y).symm▸w
 refine dT (fT (ev_var rfl) (ev_var rfl) (f22 (σ:=dq σ (G0++(wN b ns.length nm T++Y))) (n:=n+1) F.pl.g ⟨W.w,W.iv⟩ dd.g hL hb.1 (λhc=>⟨bW rfl,?_⟩) (λhc sd S' H' A' l' v' de=>⟨bW rfl,?_⟩) λhc sd S' H' es A' l' v' de ev=>⟨bW rfl,?_⟩))
 ·exact ue (fo:=none) F (nil W.w) W.iv W.sm lv hq dd (.no (e0▸hc) rfl) (.no λ_=>rfl) (λp hp=>absurd hp aZ) (lS (a9 _)) (hb.2 _ (aq _ _)) W.hp hl λT' Y' hp' H' a b=>q T' Y' S hp' H' _ a (a9 _) (aq _ _) b
 ·exact ue (fo:=none) F (nil A'.hs) A'.iv W.sm lv hq dd (.send (e0▸hc) sd de) (.no λ_=>rfl) (λp hp=>absurd hp aZ) (lS l') (hb.2 _ v') W.hp hl λT' Y' hp' H' a b=>q T' Y' S' hp' H' _ a l' v' b
 ·have ok:∀e∈es,e.ok (cL ns nm):=λe he=>A'.iv.nm e (ev▸ak _ he)
  have el:(es.map Evt.v).length<=900000:=by
   rw [ah]
   refine aa (bw _ S.ev.length) ?_
   rw [<-af,<-ev]
   exact aa (aq _ _) (hb.2 _ v')
  haveI w1:WX σ G0 b ns.length nm T (Y++[(H'.length,.list (es.map Evt.v))]) S' (H'++[.list (es.map Evt.v)]):=WX.push A'.hs _
  exact ue (fo:=some (H'.length,es.map Evt.v)) F w1 A'.iv W.sm lv hq dd (.hour (e0▸hc) sd de ev ok (ak _ (.head _))) .yes (dk ⟨pc ok,el⟩) (lS l') (hb.2 _ v') W.hp hl λT' Y' hp' H' a b=>q T' Y' S' hp' H' _ a l' v' b
end
inductive PI9(σ:Ad)(G0:List (Nat×O))(ns:List Nd)(nm:Nat->Nm)(r o b i':Nat)(zv ws:V)(its:List Int)(ρ:Fm)(H:AH):Prop
 |mk (S:Hst) (T:Ab) (Y:List (Nat×O)) (hp:List (Nat×List V)) (z:Int) (o8 o9 o10:Option V):ρ=AE zv (bN r ns nm o) ws σ.i i' b hp z o8 o9 o10->W9 σ G0 b ns nm T Y S hp H->S.letters+2*its.length<=110->S.ev.length+16000*its.length<=860000->hp.length+402*its.length<=30000->PI9 σ G0 ns nm r o b i' zv ws its ρ H
inductive PJ9(σ:Ad)(G0:List (Nat×O))(ns:List Nd)(nm:Nat->Nm)(r o b i':Nat)(zv ws c:V)(m:Nat)(ds:List V)(ρ:Fm)(H:AH):Prop
 |mk (S:Hst) (T:Ab) (Y:List (Nat×O)) (hp:List (Nat×List V)) (z:Int) (o9 o10:Option V):ρ=AE zv (bN r ns nm o) ws σ.i i' b hp z (some c) o9 o10->W9 σ G0 b ns nm T Y S hp H->S.letters+(ds.length+2*m)<=110->S.ev.length+(8000*ds.length+16000*m)<=860000->hp.length+(201*ds.length+402*m)<=30000->(∀v∈ds,Dd (cL ns nm) σ v)->PJ9 σ G0 ns nm r o b i' zv ws c m ds ρ H
section
variable {π:PI}{σ:Ad}{S S':Hst}{H:AH}{G0 g E:List (Nat×O)}{ns:List Nd}{nm:Nat->Nm}{x y:Nd}{k j o r n b i i' N a:Nat}{Q R:QE}{X:XE}{K:KS}{A A' T T' Af:Ab}{Y:List (Nat×O)}{ss:List St}{e:Evt}{es:List Evt}{d v fv:V}{P:Prog}{C:Calls}{ρ:Fm}{fo:Option (Nat×List V)}{rest hp:List (Nat×List V)}{p:Nat×List V}{z:Int}{o8 o9 o10:Option V}
theorem Gi{m:Nm}(F:Fx σ G0 ns nm r o)(hm:m∈σ.names)(iw:(cL ns nm).isW m=some false):m∈((sub ns 7 0).filter (si ns)).map nm:=by
 rw [F.en]at hm
 refine ea1_2 (aG.mp hm) λk hk e=>aG.mpr ⟨k,bU.mpr ⟨hk,?_⟩,e⟩
 refine(⟨_,aH ((fB F).2.2.1 k hk)⟩:∃x,ns[k]? =some x).elim λx hx=>?_
 rw [<-e,ir F.n hx]at iw
 unfold si
 rw [hx]
 exact congrArg (!·) (ai iw)
theorem La{m:Nm}(iv:Iv π S)(h:(qS S m).isEmpty=false):π.isW m=some false:=by
 unfold qS at h
 refine fA (o:=dG m S.qu) (λz=>?_) λx z=>(iv.qk m).mp (dY.mpr ⟨x,bV z⟩)
 rw [z]at h
 exact absurd h.symm am
theorem Jq{zs:List Int}(F:Fx σ G0 ns nm r o)(W:W9 σ G0 b ns nm T Y S [] H)(hz:zs.length<=63)(hL:S.letters=0)(hE:S.ev.length<=60)(hws:((sub ns 7 0).filter (si ns)).map nm≠[])
  (q:∀S T Y hp z o8 o9 o10 H',W9 σ G0 b ns nm T Y S hp H'->hp.length<=30000->a7 PL (aJ PL (n+36)) (tx.body.drop 9) (AE (.lst (zs.map V.int)) (bN r ns nm o) (.lst ((((sub ns 7 0).filter (si ns)).map nm).map V.str)) σ.i i' b hp z o8 o9 o10) H' K R X) :
  a7 PL (aJ PL (n+36)) (tx.body.drop 8) (AE (.lst (zs.map V.int)) (bN r ns nm o) (.lst ((((sub ns 7 0).filter (si ns)).map nm).map V.str)) σ.i i' b [] z none none none) H K R X:=by
 haveI wa:=tW F
 haveI hz':(zs.map V.int).length<=az:=aa (ao (ah _)) (aa hz (by decide))
 haveI hc:(1::bM zs (jo (zs.map V.int).length 13) (zs.map V.int).length).length<=51:=ax (by
  unfold bM jo
  rw [gr,iB,ah]
  by_cases h:(13:Int)<zs.length
  ·rw [if_neg (by decide),if_pos h]
   exact aa (Nat.sub_le_sub_right (sM _ _) _) (Nat.sub_le_of_le_add hz)
  ·rw [if_neg (by decide),if_neg h,qQ,Nat.sub_self]
   exact aQ _)
 refine d5 (PI9 σ G0 ns nm r o b i' (.lst (zs.map V.int)) (.lst ((((sub ns 7 0).filter (si ns)).map nm).map V.str))) (f:=V.int) (l:=1::bM zs (jo (zs.map V.int).length 13) (zs.map V.int).length) (ev_p2 (aK (v:=.lst [.int 1]) rfl) (iE (ev_var rfl) an an (nc hz')) ((p6 ?_).trans (congrArg (λt=>some (V.lst (.int 1::t),H)) ph))) (λ_ _ _ _=>rfl) (aa hc (by decide))
  (.mk S T Y [] z none none none rfl W (by rw [hL,da];exact aa (bn 2 hc) (by decide)) (aa (bP hE (bn 16000 hc)) (by decide)) (aa (aC (bn 402 hc) _) (aU rfl))) (λc cs ρ' H' hI K' hK=>?_) λρ' H' hI=>?_
 ·rw [ph,ah]
  exact aa (aC (fK hc) 1) (by decide)
 ·refine PI9.rec (motive:=λ_=>a7 _ _ _ _ _ _ _ _) (λS T Y hp z o8 o9 o10 e W hl hv hh=>?_) hI
  subst e
  refine pR (gi (ev_var rfl) (ev_var rfl) (gk (ev_var rfl) (ev_var rfl) λQ q=>f35 (n:=n+35) F W.w q) (fT (ev_var rfl) (ev_var rfl) (f36 (n:=n+35) F W.w (W.sm.q▸λn=>Dv W.iv) (f23 (n:=n+34) (σ:=σ) wa.1 hws (aa wa.2 (by decide)) (λm hm=>(bU.mp hm).1) (λm hm=>?_) (λm hm=>l8 F.pl hm) λds hd dd=>?_))))
  ·have hm:=bU.mp hm
   haveI h2:=(ay.mp hm.2).2
   rw [W.sm.q]at h2
   exact Gi F hm.1 (La W.iv (bZ _▸h2))
  refine qD (rev:=false) (v:=.lst ds) (ss:=[]) (K:=K') (tgt:=.inl 9) (st:=λx ρ=>ρ.set 9 (some x)) (f:=λx=>x) (λ_ _=>rfl) (PJ9 σ G0 ns nm r o b i' (.lst (zs.map V.int)) (.lst ((((sub ns 7 0).filter (si ns)).map nm).map V.str)) (.int c) cs.length) (l:=ds) (λ_ _ _ _=>congrArg some (lW ds).symm) (aa hd (by decide)) (.mk S T Y hp z o9 o10 rfl W (n3 hl hd) (n4 hv hd) (n6 hh hd) dd) (λv vs ρ' H' hJ K' hK=>?_) λρ' H' hJ=>?_
  ·refine PJ9.rec (motive:=λ_=>a7 _ _ _ _ _ _ _ _) (λS T Y hp z o9 o10 e W l2 v2 h2 d2=>?_) hJ
   subst e
   exact HX (n:=n) F W (d2 v (.head _)) (n1 l2 (aI _)).2.1 ⟨(n2 v2 (aI _)).2.1,λa ha=>(n2 v2 ha).2.2⟩ (n5 h2 (aI _)).2 λT' Y' S' hp' H' v' W' l3 v3 h3=>hK _ _ (.mk S' T' Y' hp' _ _ _ rfl W' (n1 l2 l3).1 (n2 v2 v3).1 (n5 h2 h3).1 λv hv=>d2 v (.tail _ hv))
  ·exact PJ9.rec (motive:=λ_=>K' ρ' H') (λS T Y hp z o9 o10 e W l2 v2 h2 _=>hK _ _ (.mk S T Y hp z _ o9 o10 e W (da (2*cs.length)▸l2) (da (16000*cs.length)▸v2) (da (402*cs.length)▸h2))) hJ
 ·exact PI9.rec (motive:=λ_=>a7 _ _ _ _ _ _ _ _) (λS T Y hp z o8 o9 o10 e W _ _ hh=>e▸q S T Y hp z o8 o9 o10 H' W (aa (aq _ _) hh)) hI
end
section
variable {π:PI}{σ σ2:Ad}{S S2:Hst}{H H':AH}{G0 g g1 E:List (Nat×O)}{ns:List Nd}{nm:Nat->Nm}{x y:Nd}{k j o r n b i i' N a:Nat}{Q R:QE}{X:XE}{K:KS}{A A' T T' Af:Ab}{Y:List (Nat×O)}{ss:List St}{e:Evt}{es:List Evt}{d v fv zv:V}{P:Prog}{C:Calls}{ρ:Fm}{hp:List (Nat×List V)}{p:Nat×List V}{z:Int}{o8 o9 o10:Option V}{m:Nm}{ws:List Nm}{zs:List Int}
theorem Hs.move(h:Hs (dq σ g1) S H)(kp:∀a o,H[a]? =some o->(∀p∈g1,p.1≠a)->H'[a]? =some o)(le:H.length<=H'.length)(sub:∀p∈g,p∈g1/\H'[p.1]? =some p.2)(gnd:(g.map (·.1)).Nodup):Hs (dq σ g) S H':=by
 have ef:∀g:List (Nat×O),fq (dq σ g) S=fq (dq σ []) S++g:=λ_=>rfl
 haveI nd:=h.nd
 haveI hf:=h.fix
 rw [ef g1]at nd hf
 rw [aB]at nd
 have nd3:=a8.mp nd
 haveI ow:∀{a:Nat} {x:Bool×Nm},S.own a=some x->∀p∈g1,p.1≠a:=λ{a x} ha p hp e=>by
  haveI z:=(hf p (ak _ hp)).2
  rw [e,ha]at z
  exact nomatch z
 refine⟨?_,?_,λp hp=>⟨(h.kp p hp).1,kp _ _ (h.kp p hp).2.1 (ow (h.kp p hp).1),(h.kp p hp).2.2⟩,λp hp=>⟨(h.qp p hp).1,kp _ _ (h.qp p hp).2.1 (ow (h.qp p hp).1),(h.qp p hp).2.2⟩,h.qn,h.pn,h.kn,λb hb=>h.fr b (aa le hb)⟩
 ·rw [ef g,aB]
  exact a8.mpr ⟨nd3.1,gnd,λa ha b hb=>ea1_2 (aG.mp hb) λp hp e=>nd3.2.2 a ha b (aG.mpr ⟨p,(sub p hp).1,e⟩)⟩
 ·rw [ef g]
  refine cq (λp hp=>haveI q:=hf p (av _ hp);⟨kp _ _ q.1 λq' hq' e=>nd3.2.2 p.1 (bf hp) q'.1 (bf hq') e.symm,q.2⟩) λp hp=>⟨(sub p hp).2,(hf p (ak _ (sub p hp).1)).2⟩
theorem sm0:Sm π (aF es (λ_=>[]) AC) (aF es (λ_=>[]) AC):=⟨rfl,rfl,rfl,rfl,rfl,rfl,λ_ _=>rfl,λw=>by
 refine(?_:(es.foldl (jW w) []).length<=_)
 rw [m6,ite_self];exact aQ _⟩
abbrev l5:V:=.tup [.str ['a','d','d'],.int 5]
theorem K6(F:Fx σ2 g ns nm r o)(W:W9 σ G0 b ns nm T Y S hp H)(hl:hp.length<=30000)(hs:Hs (dq σ2 g) S2 H)(iv:Iv (cL ns nm) S2)(eA:jq S2=aS m l5 (aF (σ2.names.map .beg) (λ_=>[]) AC))(hm:(cL ns nm).isW m=some false)(q:∀H',Q (.bool true) H'):a7 PL (aJ PL (n+36)) (tx.body.drop 9) (AE zv (bN r ns nm o) (.lst ((m::ws).map V.str)) σ.i σ2.i b hp z o8 o9 o10) H K Q X:=by
 have hn:((aF (σ2.names.map .beg) (λ_=>[]) AC).ev++[Evt.sent m 1 l5]).length+1100<=900000:=by
  rw [af]
  show(σ2.names.map Evt.beg).length+1+1100<=900000
  rw [ah]
  exact aa (aN (ax F.pl.le) 1100) (by decide)
 haveI eE:S2.ev=(aF (σ2.names.map .beg) (λ_=>[]) AC).ev++[Evt.sent m 1 l5]:=congrArg Ab.ev eA
 haveI eL:S2.letters=1:=congrArg Ab.lt eA
 refine bJ (ev_eq (ev_p2 (x:=.lst []) (ev_eq (ip (l:=hp) (f:=sr) (g:=sr) (p:=λ_=>false) (ev_var rfl) rfl (aa hl (by decide)) (λp hp=>ev_p2 (ev_p2 (ev_var rfl) an rn) (ev_p2 (ev_var rfl) an HW) (tf (W.hp p hp).2 (kN (W.hp p hp).2 (gz W.w (ak _ (ak _ (W.hp p hp).1)))) (rZ (W.hp p hp).2))) λ_ _ _=>ev_var rfl) (by rw [fH.mpr λ_ _=>am];rfl)) (aK rfl) rfl) rfl) (dT (gO (ev_var rfl) (f25 (n:=n+33) F hs λT2 H2 w2 e2=>⟨bW rfl,?_⟩)))
 subst e2
 refine st_expr (gR (z:=.tup [.str ['s','e','n','d'],.str m,l5]) (ev_var rfl) (ev_var rfl) (iE an (ev_p2 (ev_var rfl) an rn) (aK rfl) (eR wV)) (f34 (n:=n+30) F w2 sm0 (.send hm (.add ⟨by decide,by decide⟩)) .send (λ_=>aQ _) hn λT3 H3 w3 s3=>?_))
 refine gJ (gi (ev_var rfl) (ev_var rfl) (ev_var rfl) (ev_var rfl _ (Ie (n:=n+31) F w3 iv (eA.symm▸s3) (aa (ao eL) (by decide)) (by rw [eE];exact aa (aq _ _) hn) λL=>q _)))
end
noncomputable def gX(l b N:Nat)(nm:Nat->Nm)(T:Ab)(H:AH):List (Nat×O):=(gB H).filter λp=>decide (l<=p.1)&& !((wN b N nm T).map (·.1)).contains p.1
section
variable {π:PI}{σ σ2:Ad}{S S2:Hst}{B H H' H1 H4:AH}{G0 g g1 E G:List (Nat×O)}{ns:List Nd}{nm:Nat->Nm}{x y:Nd}{k j o r n b i i' N a:Nat}{Q R:QE}{X:XE}{K:KS}{A A' T T' Af:Ab}{Y:List (Nat×O)}{ss:List St}{e:Evt}{es:List Evt}{d v fv zv:V}{P:Prog}{C:Calls}{ρ:Fm}{hp:List (Nat×List V)}{p:Nat×List V}{z:Int}{o8 o9 o10:Option V}{m:Nm}{ws:List Nm}{zs:List Int}
theorem Cz(h1:Hs (dq σ G) S H1)(h4:WX σ2 (gB H1) b N nm T [] S2 H4)(hb:H1.length<=b):WX σ (G++gX H1.length b N nm T H4) b N nm T [] S H4:=by
 haveI nd:=h4.nd
 rw [show fq (dq σ2 (gB H1++(wN b N nm T++[]))) S2=fq (dq σ2 []) S2++(gB H1++(wN b N nm T++[]))from rfl,aB]at nd
 haveI nd2:=(a8.mp nd).2.1
 rw [aB]at nd2
 haveI z:Hs (dq (dq σ G) (G++(gX H1.length b N nm T H4++(wN b N nm T++[])))) S H4:=h1.addG (λa ha=>(gz h4 (av _ (mz (aH ha)))).trans (aH ha).symm) (aa hb (eB (ae.mp (h4.at 0 rfl)).1)) ?_ (cq (λp hp=>?_) λp hp=>⟨aa hb ?_,gz h4 (ak _ hp)⟩)
 ·rw [<-aj]at z;exact z
 ·rw [aB]
  refine a8.mpr ⟨zX.sublist (He.map _),(a8.mp nd2).2.1,λa ha c hc e=>ea1_2 (aG.mp ha) λp hp ep=>?_⟩
  haveI z:=(ay.mp (bU.mp hp).2).2
  rw [aA]at hc
  rw [ep,e,aX.mpr hc]at z
  exact am z
 ·haveI z:=bU.mp hp
  exact⟨of_decide_eq_true (ay.mp z.2).1,qH z.1⟩
 ·rw [aA]at hp
  exact(eJ (aI _) (eJ (aq _ _) (eJ (aq _ _) (eJ (aq _ _) (eJ (aq _ _) (dk (aq _ _)))))):∀p∈wN b N nm T,b<=p.1) p hp
theorem wi(h4:WX σ2 (gB H1) b N nm T [] S2 H4)(hb:H1.length<=b)(hw:WX σ (gB B++gX H1.length b N nm T H4) b N nm T' Y S H')(hB:∀p∈gB B,p∈gB H1):Hs (dq σ2 (gB B)) S2 H':=by
 have kp:∀a o,H4[a]? =some o->(∀p∈gB H1++(wN b N nm T++[]),p.1≠a)->H'[a]? =some o:=λa o e hn=>by
  refine gz hw (p:=(a,o)) (av _ (ak _ (bU.mpr ⟨mz e,ay.mpr ⟨decide_eq_true (dD λhl=>?_),?_⟩⟩)))
  ·exact hn _ (av _ (mz (aH hl))) rfl
  ·rw [bZ,cK]
   exact λz=>ea1_2 (aG.mp (aX.mp z)) λp hp ep=>hn p (ak _ (av _ hp)) ep
 have lw:∀p∈wN b N nm T',p.1<H'.length:=λp hp=>(ae.mp (gz hw (ak _ (av _ hp)))).1
 refine h4.move kp (dD λhl=>?_) (λp hp=>⟨av _ (hB p hp),gz hw (av _ (av _ hp))⟩) zX
 refine cm H'.length (ae.mp (kp H'.length _ (aH hl) λp hp e=>?_)).1
 refine(bT.mp hp).elim (λhp=>?_) λhp=>?_
 ·exact cm p.1 (bk (ae.mp (qH hp)).1 (aa hb (e▸eB (lw (b,_) (.head _)))))
 ·rw [aA]at hp
  haveI z:p.1∈(wN b N nm T').map (·.1):=(bf hp:p.1∈(wN b N nm T).map (·.1))
  exact ea1_2 (aG.mp z) λq hq eq=>cm _ (e▸eq▸lw q hq)
theorem HF(t:Tree ns):(sub ns 7 0).filter (si ns)≠[]:=λe=>dm t.tr.top λx0 h0 _ _=>by
 haveI l0:=(ae.mp h0).1
 haveI ll:ns.length-1<ns.length:=Nat.sub_lt l0 Nat.one_pos
 refine aZ (e▸bU.mpr ⟨t.tr.all ll,?_⟩:ns.length-1∈[])
 refine(⟨_,aH ll⟩:∃x,ns[ns.length-1]? =some x).elim λx hx=>?_
 unfold si
 rw [hx]
 show(!x.w)=true
 cases hw:x.w with
 |false=>rfl
 |true=>
  refine(List.exists_mem_of_ne_nil _ (t.ne _ x hx hw)).elim λi hi=>dg (t.tr.inn _ x hx i hi) λy hy l _ _=>?_
  exact absurd (ae.mp hy).1 (gV.mpr (Nat.le_of_pred_lt l))
theorem uu{a:Ex}{x:V}{c f:Nat}(ha:Ev P C ρ H X a x)(k:C f [.ref (H.length+1),x] (H++[.ns [] [],.inst c H.length]) (λv H'=>v=.none/\Q (.ref (H.length+1)) H') X):cz P C (.new c f [a]) ρ H Q X:=ha _ k
theorem xJ{f:Nat}{mn:Nm}{a c:Ex}{u:V}(h:Hs σ S H)(h0:ρ[i]? =some (some (.ref σ.i)))(hn:hk.contains mn=false)(ha:Ev P C ρ H X a v)(hc:Ev P C ρ H X c u)(k:C f [.ref σ.i,v,u] H Q X):cz P C (.meth 0 f mn (.var i) [a,c]) ρ H Q X:=
 ev_var (P:=P) (C:=C) (X:=X) h0 (λv H₁=>e9 H₁ 0 mn v=true/\fR P C [a,c] ρ H₁ (λvs H'=>C f (v::vs) H' Q X) X) ⟨iP h hn,ha _ (hc _ k)⟩
theorem I9(hz:zs.length<=63)(q:∀H',Q (.bool true) H'):aJ PL (n+37) 41 [.lst (zs.map V.int)] H Q X:=by
 refine cf EV rfl (dT (gO (ev_var rfl) (f19 (n:=n+23) λns nm o B t N g ho=>⟨bW rfl,?_⟩)))
 refine dm t.tr.top λx0 h0 _ _=>?_
 have pn:=t.plan N
 haveI en:∀{B e},(uT B (bd ns nm 7 0) (io 7 (bd ns nm 7 0)) (au (bd ns nm 7 0)) e).names=nms 7 (bd ns nm 7 0):=λ{B e}=>fV (k:=7)
 refine dT (uu (ev_p2 (ev_var rfl) an rfl) (f29 (n:=n+27) pn λe1 S1 H1 A1 l1 a1=>⟨rfl,bW rfl,?_⟩))
 refine dT (uu (ev_p2 (ev_var rfl) an rfl) (f29 (n:=n+27) pn λe2 S2 H2 A2 l2 a2=>⟨rfl,bW rfl,?_⟩))
 have fx:∀{B' e} {G:List (Nat×O)},(∀p∈gB B,p∈G)->Fx (uT B' (bd ns nm 7 0) (io 7 (bd ns nm 7 0)) (au (bd ns nm 7 0)) e) G ns nm (H.length+2) o:=λh=>⟨t,N,λp hp=>h p (mz (g p hp)),h _ (mz ho),pn.pl,en.trans (t.tr.nms h0),rfl⟩
 have hB:∀p∈gB B,p∈gB H1:=λp hp=>mz (A1.hs.fix p (Jr hp)).1
 have hb:H1.length<=H2.length:=eB (hU (cW _) (ae.mp (A2.hs.get 1 rfl)).1)
 haveI F2:=fx (B':=H1) (e:=e2) hB
 refine dT (gO (ev_var rfl) (f25 (n:=n+33) F2 A2.hs λT0 H3 w3 e0=>⟨bW rfl,?_⟩))
 haveI wa:=tW F2
 refine dT (gO (ev_var rfl) (f24 (n:=n+35) t (w3.gn F2.g) (gz w3 (av _ F2.o)) ⟨bW rfl,?_⟩))
 haveI wn:((sub ns 7 0).filter (si ns)).map nm≠[]:=λz=>HF t (oj.mp z)
 refine(List.exists_cons_of_ne_nil wn).elim λm z=>z.elim λwr ew=>?_
 have hm:(cL ns nm).isW m=some false:=wa.1 m (ew▸.head _)
 have hh:∀{c},c∈nms 7 (bd ns nm 7 0)->here S2 c=true:=λ{c} hc=>(congrFun (congrArg Ab.h a2) c).trans (sJ.mpr (.inl hc))
 haveI hm2:=hh (pn.nm m (congrArg cH hm))
 haveI hr2:=hh (rR pn.pt)
 have eL:S2.letters=0:=congrArg Ab.lt a2
 refine st_expr (xJ w3 rfl rfl (v:=.str m) (u:=l5) (ev_p2 (ev_var rfl) an (by rw [ew];exact rn)) (aK rfl) (f40 (n:=n+2) F2.pl.g ⟨w3,A2.iv⟩ hm (.add ⟨by decide,by decide⟩) (aa (ao eL) (aQ _)) (aa (aN l2 _) (by decide)) (λz=>absurd (z.symm.trans hm2) am) (λz=>absurd (z.symm.trans hr2) am) λ_ _ S4 H4 A4 l4 v4 a4=>?_))
 haveI w4:=Cz (σ:=uT B (bd ns nm 7 0) (io 7 (bd ns nm 7 0)) (au (bd ns nm 7 0)) e1) (G:=gB B) A1.hs A4.hs hb
 refine br (v:=.lst (([]:List (Nat×List V)).map sr)) (aK rfl) (bW rfl) (br (ev_p2 (gk (ev_var rfl) an λQ q=>Ja (n:=n+35) (by decide) q) an (c7 (by decide) (by decide))) (bW rfl) ?_)
 haveI e0':jq S1=T0:=a1.trans (by rw [e0,en])
 refine Jq (n:=n) (σ:=uT B (bd ns nm 7 0) (io 7 (bd ns nm 7 0)) (au (bd ns nm 7 0)) e1) (i':=H1.length+1) (fx λp hp=>av _ hp) ⟨w4,A1.iv,e0'.symm▸e0▸sm0,λp hp=>absurd hp aZ⟩ hz (congrArg Ab.lt a1) l1 wn λS5 T5 Y5 hp z o8 o9 o10 H5 W5 hl=>?_
 rw [ew]
 refine K6 (σ2:=uT H1 (bd ns nm 7 0) (io 7 (bd ns nm 7 0)) (au (bd ns nm 7 0)) e2) (g:=gB B) (fx λp hp=>hp) W5 hl (wi A4.hs hb W5.w hB) A4.iv (a4.trans ?_) hm q
 rw [a2,en]
end
end Mine
end
noncomputable section
open PySem PySem.W PyProof.Rows
set_option maxHeartbeats 8000000
namespace Mine
noncomputable def Lr:List (Str×Gl):=[("len",.bi "len"),("all",.bi "all"),("isinstance",.bi "isinstance"),("min",.bi "min"),("range",.ty "range"),("int",.ty "int"),("bool",.ty "bool"),("str",.ty "str"),("tuple",.ty "tuple"),("list",.ty "list"),("ValueError",.ty "ValueError"),("reversed",.ty "reversed")]
noncomputable def muL:List (Nat×Nat):=[(50,11),(51,12),(63,12),(70,11),(84,19),(85,21),(86,21),(87,23),(88,20),(89,20),(90,22),(95,22),(102,35),(113,33),(158,36),(204,15),(215,15),(224,15),(227,15),(231,15),(274,22),(274,23),(274,70),(283,35),(283,102),(288,35),(288,95),(291,17),(366,20),(366,82),(367,28),(368,28),(453,16),(457,21)]
noncomputable def KA:List (Str×V):=[("LETTERS",.str ['a','b','c','d','e','f','g','h','i','j','k','l','m','n','o','p','q','r','s','t','u','v','w','x','y','z']),("LONGEST",.int 8),("GREATEST",.int 1000000000),("MOST_NAMES",.int 60),("MOST_ABOVE",.int 6),("MOST_PARTS",.int 8)]
theorem zm{P:Params}{h:Heap}{l:Addr}{vs:List Value}{xs:List PyData}(w1:Well P h (.ref l) (ofPy (.list xs)))(hL:h.IsList l vs.toArray):h.PlainList l vs.toArray:=by
 have w2:Well P h (.ref l) (.list (ofPys xs)):=w1
 cases w2 with
 |list e _=>
  obtain⟨o,ho,_,n,hd⟩:=hL
  rw [e]at ho
  cases ho
  cases hd
  exact⟨_,e⟩
theorem Ah{a b:List OwnSpec}{cs:List (List Nat)}{h:HP}(e:a=b)(x:XSays b cs h):XSays a cs h:=e▸x
namespace walk09
theorem tw13531137943789870643:0=0:=rfl
theorem tw17373492928376450896:0=0:=rfl
theorem tw5628361840742093911:0=0:=rfl
theorem tw1452073223861065362:0=0:=rfl
theorem tw8792914139987986691:0=0:=rfl
theorem tw17426480848169030877:0=0:=rfl
theorem tw4318725176528003930:0=0:=rfl
theorem tw12046058636961568600:0=0:=rfl
theorem tw13575769845017610161:0=0:=rfl
theorem tw9929285041360501033:0=0:=rfl
theorem tw2507414717701214582:0=0:=rfl
theorem tw11438400374958219064:0=0:=rfl
theorem tw6858322069114294331:0=0:=rfl
theorem tw7591612803112579170:0=0:=rfl
theorem tw700688849904523290:0=0:=rfl
theorem tw10103477736132763666:0=0:=rfl
theorem tw16240913022148748238:0=0:=rfl
theorem tw8198694070701264134:0=0:=rfl
theorem tw7286192269273634584:0=0:=rfl
theorem tw17487099136254312923:0=0:=rfl
theorem tw3969389799929625564:0=0:=rfl
theorem tw7296087246865398254:0=0:=rfl
theorem tw14204950384251940167:0=0:=rfl
theorem tw10319280906004499376:0=0:=rfl
theorem tw17655984467981834396:0=0:=rfl
theorem tw4668571802572883296:0=0:=rfl
theorem tw6583855806661858873:0=0:=rfl
theorem tw17857948721317802994:0=0:=rfl
theorem tw7447413586772544996:0=0:=rfl
theorem tw10096348448988693854:0=0:=rfl
theorem tw18225680229433152999:0=0:=rfl
theorem tw13970040199308134478:0=0:=rfl
theorem tw6041168374285914944:0=0:=rfl
theorem tw8469556342153251951:0=0:=rfl
theorem tw13789890302710890479:0=0:=rfl
theorem tw9512543069860436901:0=0:=rfl
theorem tw9956044009538970983:0=0:=rfl
theorem tw11187308049049548659:0=0:=rfl
theorem tw17900572070072045543:0=0:=rfl
theorem tw14168732335307855398:0=0:=rfl
theorem tw15608318287355235988:0=0:=rfl
theorem tw12927941809668851023:0=0:=rfl
theorem tw14466634477369829813:0=0:=rfl
theorem tw4533443166578832540:0=0:=rfl
theorem tw7021723892165626150:0=0:=rfl
theorem tw15233828421536169996:0=0:=rfl
theorem tw1162030864390129588:0=0:=rfl
theorem tw12563139478902195214:0=0:=rfl
theorem tw13931435570858052296:0=0:=rfl
theorem tw690008539809519198:0=0:=rfl
theorem tw18300168647907033276:0=0:=rfl
theorem tw17269992393195474213:0=0:=rfl
theorem tw1052237519712054017:0=0:=rfl
theorem tw17134480052195796272:0=0:=rfl
theorem tw16648540872942168753:0=0:=rfl
theorem tw6030779137335047950:0=0:=rfl
theorem tw9904658849481560271:0=0:=rfl
theorem tw12867413823184393799:0=0:=rfl
theorem tw10371021685811842951:0=0:=rfl
theorem tw4285033720276111176:0=0:=rfl
theorem tw12169676951728200480:0=0:=rfl
theorem tw16187443107929132814:0=0:=rfl
theorem tw12288254905420936244:0=0:=rfl
theorem tw14035773419216848556:0=0:=rfl
theorem tw5979026067112165520:0=0:=rfl
theorem tw5981830069475252005:0=0:=rfl
theorem tw5208724763710717430:0=0:=rfl
theorem tw5164488748648213585:0=0:=rfl
theorem tw3866250018133789340:0=0:=rfl
theorem tw14276571409630313917:0=0:=rfl
theorem tw2262249291754381652:0=0:=rfl
theorem tw9039011282135922245:0=0:=rfl
theorem tw4830915549324053462:0=0:=rfl
theorem tw13392581234680517273:0=0:=rfl
theorem tw2842193711431008730:0=0:=rfl
theorem tw10152194825481309321:0=0:=rfl
theorem tw14408739733947207485:0=0:=rfl
theorem tw14066952981565951924:0=0:=rfl
theorem tw733897031484483830:0=0:=rfl
theorem tw10884150060729854893:0=0:=rfl
theorem tw3986191296368009644:0=0:=rfl
theorem tw12276042193270618847:0=0:=rfl
theorem tw4540858010591353743:0=0:=rfl
theorem tw12111754041666305012:0=0:=rfl
theorem tw13318381370899591577:0=0:=rfl
theorem tw3612074416849059595:0=0:=rfl
theorem tw7985549433341290632:0=0:=rfl
theorem tw10583282239884060176:0=0:=rfl
theorem tw5396491224713605579:0=0:=rfl
theorem tw2712008687920768055:0=0:=rfl
theorem tw10604551803104130766:0=0:=rfl
theorem tw16346019825872585175:0=0:=rfl
theorem tw2007784211151323304:0=0:=rfl
theorem tw9735148971534438206:0=0:=rfl
theorem tw9036981625796607051:0=0:=rfl
theorem tw14413647235313102712:0=0:=rfl
theorem tw8567731286019263029:0=0:=rfl
theorem tw13496752150107189793:0=0:=rfl
theorem tw13499431170862903952:0=0:=rfl
theorem tw6955048200315127203:0=0:=rfl
theorem tw6857504544077871782:0=0:=rfl
theorem tw16068978261744062740:0=0:=rfl
theorem tw5324038148155386059:0=0:=rfl
theorem tw2926786510448006131:0=0:=rfl
theorem tw11367681362994739870:0=0:=rfl
theorem tw5595385865946564963:0=0:=rfl
theorem tw3270317782129010440:0=0:=rfl
theorem tw12788178277074419332:0=0:=rfl
theorem tw9551490686098843691:0=0:=rfl
theorem tw9902343239043439864:0=0:=rfl
theorem tw5073062614718997087:0=0:=rfl
theorem tw3888920619510177828:0=0:=rfl
theorem tw10980325358678962715:0=0:=rfl
theorem tw8315953111967497836:0=0:=rfl
theorem tw7274378062440693892:0=0:=rfl
theorem tw18408551863220706997:0=0:=rfl
theorem tw18005526703068413466:0=0:=rfl
theorem tw4602431392044531926:0=0:=rfl
theorem tw13375156641873881093:0=0:=rfl
theorem tw10318728793973659258:0=0:=rfl
theorem tw2358136981946104378:0=0:=rfl
theorem tw10697465086427765582:0=0:=rfl
theorem tw7213493501921506918:0=0:=rfl
theorem tw7954112088056887138:0=0:=rfl
theorem tw6991735535303821879:0=0:=rfl
theorem tw16184701583292998730:0=0:=rfl
theorem tw1199051495966850292:0=0:=rfl
theorem tw13516870478248208595:0=0:=rfl
theorem tw16159372028998703671:0=0:=rfl
theorem tw9877770444197502048:0=0:=rfl
theorem tw11568859882288882984:0=0:=rfl
theorem tw11262912799990458792:0=0:=rfl
theorem tw16987753308437868337:0=0:=rfl
theorem tw14461512412471007480:0=0:=rfl
theorem tw16278945083523132950:0=0:=rfl
theorem tw12723298370469786070:0=0:=rfl
theorem tw15888712316167856057:0=0:=rfl
theorem tw4063813644695882979:0=0:=rfl
theorem tw2100437817385908227:0=0:=rfl
theorem tw17207853012219135538:0=0:=rfl
theorem tw10648275852814184852:0=0:=rfl
theorem tw12411364395700268569:0=0:=rfl
theorem tw4928819387589088096:0=0:=rfl
theorem tw10062519225471342675:0=0:=rfl
theorem tw12527026994764299870:0=0:=rfl
theorem tw2160202203412516675:0=0:=rfl
theorem tw7266659724616558857:0=0:=rfl
theorem tw9036976794027321317:0=0:=rfl
theorem tw13769262528042311810:0=0:=rfl
theorem tw11713961368875330385:0=0:=rfl
theorem tw336108897239648455:0=0:=rfl
theorem tw346225471497903315:0=0:=rfl
theorem tw2466763884657075515:0=0:=rfl
theorem tw9570959158719715474:0=0:=rfl
theorem tw15289264321390413500:0=0:=rfl
theorem tw17332578670311119804:0=0:=rfl
theorem tw10898050735559773823:0=0:=rfl
theorem tw5366780805657629437:0=0:=rfl
theorem tw14858620004688762067:0=0:=rfl
theorem tw2001022972105037108:0=0:=rfl
theorem tw9267348160945905248:0=0:=rfl
theorem tw6674514117787615139:0=0:=rfl
theorem tw10549377456604294162:0=0:=rfl
theorem tw4909901225097525306:0=0:=rfl
theorem tw17840879757589160641:0=0:=rfl
theorem tw12476917101408316793:0=0:=rfl
theorem tw3715624954728291555:0=0:=rfl
theorem tw1945089338210302269:0=0:=rfl
theorem tw11867001892009697629:0=0:=rfl
theorem tw15399292114052180942:0=0:=rfl
theorem tw10234894372587880237:0=0:=rfl
theorem tw3438678292197567007:0=0:=rfl
theorem tw18190956960369104816:0=0:=rfl
theorem tw11359662036525666923:0=0:=rfl
theorem tw15089260520428069002:0=0:=rfl
theorem tw10427201115745886569:0=0:=rfl
theorem tw13583679411100842870:0=0:=rfl
theorem tw15957298141949434890:0=0:=rfl
theorem tw12142956635043005956:0=0:=rfl
theorem tw10935731281865391915:0=0:=rfl
theorem tw5341133846872566960:0=0:=rfl
theorem tw2018904620626817266:0=0:=rfl
theorem tw3416246083970590443:0=0:=rfl
theorem tw17164355518056018681:0=0:=rfl
theorem tw10784286901194696620:0=0:=rfl
theorem tw2699532152730574677:0=0:=rfl
theorem tw17399595108246494306:0=0:=rfl
theorem tw761799299710498379:0=0:=rfl
theorem tw8979145753889923337:0=0:=rfl
theorem tw6720885828454842251:0=0:=rfl
theorem tw536924851974508712:0=0:=rfl
theorem tw13017413032859502410:0=0:=rfl
theorem tw8865388956492002715:0=0:=rfl
theorem tw15326338979476625833:0=0:=rfl
theorem tw10938207230127176887:0=0:=rfl
theorem tw4049330535768578698:0=0:=rfl
theorem tw17711476895404196942:0=0:=rfl
theorem tw9444030630176793013:0=0:=rfl
theorem tw6666408534488674641:0=0:=rfl
theorem tw2069055080936551613:0=0:=rfl
theorem tw15323381535038489791:0=0:=rfl
theorem tw17835815062557132138:0=0:=rfl
theorem tw9389337116366874789:0=0:=rfl
theorem tw4618541497598680777:0=0:=rfl
theorem tw10924959920293215868:0=0:=rfl
theorem tw10890143359524749796:0=0:=rfl
theorem tw12877323555449249304:0=0:=rfl
theorem tw17823690849763292413:0=0:=rfl
theorem tw5586581928410231891:0=0:=rfl
theorem tw15020511661550426962:0=0:=rfl
theorem tw8825621202020327181:0=0:=rfl
theorem tw2752701213701553316:0=0:=rfl
theorem tw3118394604649327070:0=0:=rfl
theorem tw8305075015580762067:0=0:=rfl
theorem tw7683584631865449467:0=0:=rfl
theorem tw16502041757567511943:0=0:=rfl
theorem tw11318772306745310214:0=0:=rfl
theorem tw169663710956941244:0=0:=rfl
theorem tw16254419251708193646:0=0:=rfl
theorem tw9063840183263949640:0=0:=rfl
theorem tw11533406710249690594:0=0:=rfl
theorem tw3987566829951960569:0=0:=rfl
theorem tw6179236492705910478:0=0:=rfl
theorem tw599099782537811356:0=0:=rfl
theorem tw11304117997373363412:0=0:=rfl
theorem tw3827284209249497450:0=0:=rfl
theorem tw5684611417149785342:0=0:=rfl
theorem tw12567409747045126735:0=0:=rfl
theorem tw8888700974606094382:0=0:=rfl
theorem tw4545233141278571762:0=0:=rfl
theorem tw16678896446678254131:0=0:=rfl
theorem tw8580285215265590607:0=0:=rfl
theorem tw1992630114007496560:0=0:=rfl
theorem tw7103303782107521594:0=0:=rfl
theorem tw11503000338697597191:0=0:=rfl
theorem tw17348263522097192651:0=0:=rfl
theorem tw7352417666449633705:0=0:=rfl
theorem tw10260287998100444678:0=0:=rfl
theorem tw6989744305983099177:0=0:=rfl
theorem tw12379856078496754832:0=0:=rfl
theorem tw16321113273712828209:0=0:=rfl
theorem tw16412929968414131961:0=0:=rfl
theorem tw15108267926066742868:0=0:=rfl
theorem tw16811855517490763546:0=0:=rfl
theorem tw2643576570231449630:0=0:=rfl
theorem tw8749307928153697178:0=0:=rfl
theorem tw8109726070078320339:0=0:=rfl
theorem tw6834225193606979685:0=0:=rfl
theorem tw407600471259714586:0=0:=rfl
theorem tw17276581148069973902:0=0:=rfl
theorem tw5723956792573806654:0=0:=rfl
theorem tw12022697018591437625:0=0:=rfl
theorem tw1265287473596276186:0=0:=rfl
theorem tw3465866671390921198:0=0:=rfl
theorem tw14782308974591784114:0=0:=rfl
theorem tw2080826620092071375:0=0:=rfl
theorem tw16946586062266138776:0=0:=rfl
theorem tw15956440722906277680:0=0:=rfl
theorem tw8415998225858843950:0=0:=rfl
theorem tw501320538818858399:0=0:=rfl
theorem tw10533360235708554759:0=0:=rfl
theorem tw3358697333015944970:0=0:=rfl
theorem tw7432769312061007225:0=0:=rfl
theorem tw9593182349184652770:0=0:=rfl
theorem tw14377221843067040415:0=0:=rfl
theorem tw1957885393662575366:0=0:=rfl
theorem tw10448350331170200897:0=0:=rfl
theorem tw13733631373222400139:0=0:=rfl
theorem tw5186959929014753502:0=0:=rfl
theorem tw15278067411892228930:0=0:=rfl
theorem tw447813054012760708:0=0:=rfl
theorem tw6679920310083814249:0=0:=rfl
theorem tw1509609966890176918:0=0:=rfl
theorem tw18035992004654942873:0=0:=rfl
theorem tw15148057643025108945:0=0:=rfl
theorem tw13665197531052854222:0=0:=rfl
theorem tw7026960448577100795:0=0:=rfl
theorem tw9486542676644342594:0=0:=rfl
theorem tw8808384472550926872:0=0:=rfl
theorem tw7445581518960976907:0=0:=rfl
theorem tw4512346135079142963:0=0:=rfl
theorem tw7498522134455647385:0=0:=rfl
theorem tw17115002321658819940:0=0:=rfl
theorem tw12116512675374397076:0=0:=rfl
theorem tw12664132300685465152:0=0:=rfl
theorem tw11689189576184224357:0=0:=rfl
theorem tw5117937426694247901:0=0:=rfl
theorem tw17253833920061034129:0=0:=rfl
theorem tw700935002369517187:0=0:=rfl
theorem tw8381474240047455258:0=0:=rfl
theorem tw16430877535556679448:0=0:=rfl
theorem tw13387753816612219051:0=0:=rfl
theorem tw9217398116657711520:0=0:=rfl
theorem tw11056224080837918432:0=0:=rfl
theorem tw1648275210405295510:0=0:=rfl
theorem tw12990034391081193718:0=0:=rfl
theorem tw6498586198062923081:0=0:=rfl
theorem tw5012128135707779390:0=0:=rfl
theorem tw17721882465733392761:0=0:=rfl
theorem tw1179985156728078506:0=0:=rfl
theorem tw5113496489291285170:0=0:=rfl
theorem tw10634218781139444386:0=0:=rfl
theorem tw2805236117295150166:0=0:=rfl
theorem tw11637814152518344034:0=0:=rfl
theorem tw13947765143423302354:0=0:=rfl
theorem tw8618934469997307164:0=0:=rfl
theorem tw3380213931354143343:0=0:=rfl
theorem tw9087908747282147032:0=0:=rfl
theorem tw3615971702651607423:0=0:=rfl
theorem tw18330283520375142033:0=0:=rfl
theorem tw7510136410982682012:0=0:=rfl
theorem tw12007723051872931874:0=0:=rfl
theorem tw5364940585276226973:0=0:=rfl
theorem tw7596069615874415107:0=0:=rfl
theorem tw7208140068035077375:0=0:=rfl
theorem tw6000914710081161843:0=0:=rfl
theorem tw15109901017455592525:0=0:=rfl
theorem tw16932390298799184625:0=0:=rfl
theorem tw5538183156946011872:0=0:=rfl
theorem tw1371198503760131313:0=0:=rfl
theorem tw5470852724530887934:0=0:=rfl
theorem tw4709228759785762657:0=0:=rfl
theorem tw2403561388022459096:0=0:=rfl
theorem tw17790503138805442884:0=0:=rfl
theorem tw10189991302357026745:0=0:=rfl
theorem tw16221111731629955066:0=0:=rfl
theorem tw10132131861213233877:0=0:=rfl
theorem tw1660177112899629412:0=0:=rfl
theorem tw10805033392609828604:0=0:=rfl
theorem tw10129713990005409948:0=0:=rfl
theorem tw1026626491479378612:0=0:=rfl
theorem tw14030208389170236018:0=0:=rfl
theorem tw11657801758153607267:0=0:=rfl
theorem tw17082585089713735659:0=0:=rfl
theorem tw6979343521296655468:0=0:=rfl
theorem tw3875217600153191899:0=0:=rfl
theorem tw584432598516742830:0=0:=rfl
theorem tw3465019138924610772:0=0:=rfl
theorem tw4409807302465180514:0=0:=rfl
theorem tw2948546299964450444:0=0:=rfl
theorem tw16255405038954144435:0=0:=rfl
theorem tw14013210745416878438:0=0:=rfl
theorem tw4711797504931608706:0=0:=rfl
theorem tw11490862662793364484:0=0:=rfl
theorem tw16327668222381524018:0=0:=rfl
theorem tw3488453930833495790:0=0:=rfl
theorem tw5780012333544570062:0=0:=rfl
theorem tw3829836635424865356:0=0:=rfl
theorem tw1802059735252043848:0=0:=rfl
theorem tw3890932166313012214:0=0:=rfl
theorem tw5869605514731926060:0=0:=rfl
theorem tw3580204953455606548:0=0:=rfl
theorem tw8662955602045336674:0=0:=rfl
theorem tw2868324073057878822:0=0:=rfl
theorem tw14944785520722963617:0=0:=rfl
theorem tw8445561414650810986:0=0:=rfl
theorem tw13990484895947927786:0=0:=rfl
theorem tw6857124299687558198:0=0:=rfl
theorem tw7209095767810512190:0=0:=rfl
theorem tw18175619363388878227:0=0:=rfl
theorem tw9017704695021326829:0=0:=rfl
theorem tw5391275020096868071:0=0:=rfl
theorem tw11661240382787692870:0=0:=rfl
theorem tw3749069376712958483:0=0:=rfl
theorem tw15241297007904807706:0=0:=rfl
theorem tw774462469359683575:0=0:=rfl
theorem tw1699404093126829888:0=0:=rfl
theorem tw1410150015984896251:0=0:=rfl
theorem tw2644456306252340181:0=0:=rfl
theorem tw4682065453897939190:0=0:=rfl
theorem tw13556967811806399779:0=0:=rfl
theorem tw12679258434780073361:0=0:=rfl
theorem tw2572581696926912874:0=0:=rfl
theorem tw10862236249476218617:0=0:=rfl
theorem tw18260333288766897390:0=0:=rfl
theorem tw1762075737687749492:0=0:=rfl
theorem tw10464793910021979189:0=0:=rfl
theorem tw4694066398588082072:0=0:=rfl
theorem tw1981541314535342249:0=0:=rfl
theorem tw14649416399789011402:0=0:=rfl
theorem tw2624743423192156078:0=0:=rfl
theorem tw15743998258933355790:0=0:=rfl
theorem tw4854265527403510452:0=0:=rfl
theorem tw5897402305689487608:0=0:=rfl
theorem tw6956485141585713905:0=0:=rfl
theorem tw17209626092925659068:0=0:=rfl
theorem tw14675790599321459580:0=0:=rfl
theorem tw17933678332092440911:0=0:=rfl
theorem tw16432775095287502921:0=0:=rfl
theorem tw1166526558506142575:0=0:=rfl
theorem tw2735651286787378974:0=0:=rfl
theorem tw17298212729606134630:0=0:=rfl
theorem tw5915602120684168163:0=0:=rfl
theorem tw9827198740140616601:0=0:=rfl
theorem tw3051920970893840323:0=0:=rfl
theorem tw7401901181909578856:0=0:=rfl
theorem tw6748002515868454353:0=0:=rfl
theorem tw15386338097960215591:0=0:=rfl
theorem tw1564824802243128750:0=0:=rfl
theorem tw9976945474401615691:0=0:=rfl
theorem tw15827806830504992891:0=0:=rfl
theorem tw11738380395719379976:0=0:=rfl
theorem tw16950085001803613729:0=0:=rfl
theorem tw7986910207803920375:0=0:=rfl
theorem tw11223542509203933203:0=0:=rfl
theorem tw6138250281946713887:0=0:=rfl
theorem tw10625813084628001433:0=0:=rfl
theorem tw18376391756247895052:0=0:=rfl
theorem tw16048682827150329509:0=0:=rfl
theorem tw6983773350082076423:0=0:=rfl
theorem tw10701401375831211426:0=0:=rfl
theorem tw17899183018613774971:0=0:=rfl
theorem tw10027985735214034645:0=0:=rfl
theorem tw11278377128516230961:0=0:=rfl
theorem tw13721161914681831724:0=0:=rfl
theorem tw787776050638412415:0=0:=rfl
theorem tw4487157442101301831:0=0:=rfl
theorem tw3679433365773841250:0=0:=rfl
theorem tw8851716274365566489:0=0:=rfl
theorem tw6641744082662583129:0=0:=rfl
theorem tw5710911407092056014:0=0:=rfl
theorem tw384474605142455023:0=0:=rfl
theorem tw18196798031434729820:0=0:=rfl
theorem tw1698361508163851665:0=0:=rfl
theorem tw3656656645169961656:0=0:=rfl
theorem tw8038693746930477156:0=0:=rfl
theorem tw15470273306752002904:0=0:=rfl
theorem tw10932792166825800121:0=0:=rfl
theorem tw1516810238942842082:0=0:=rfl
theorem tw14168569478503085548:0=0:=rfl
theorem tw12697255737672627684:0=0:=rfl
theorem tw18313504772399683094:0=0:=rfl
theorem tw14612783129081967410:0=0:=rfl
theorem tw398044019723679254:0=0:=rfl
theorem tw6689749691851832460:0=0:=rfl
theorem tw10367121057966786624:0=0:=rfl
theorem tw8321039748744651028:0=0:=rfl
theorem tw11925814018359197265:0=0:=rfl
theorem tw6111412291604202891:0=0:=rfl
theorem tw8652490878112351124:0=0:=rfl
theorem tw1614203867346417156:0=0:=rfl
theorem tw11955301823934876900:0=0:=rfl
theorem tw9447145063904184651:0=0:=rfl
theorem tw6866000500623517952:0=0:=rfl
theorem tw10050092609540475201:0=0:=rfl
theorem tw2573054998500143158:0=0:=rfl
theorem tw8553274572343803065:0=0:=rfl
theorem tw18135640453506056180:0=0:=rfl
theorem tw12219302972604258149:0=0:=rfl
theorem tw15300745571030351689:0=0:=rfl
theorem tw15200147856712569660:0=0:=rfl
theorem tw4383681944651028910:0=0:=rfl
theorem tw4406484723459215255:0=0:=rfl
theorem tw13681315628402633024:0=0:=rfl
theorem tw5493739761623085871:0=0:=rfl
theorem tw16344716410153156656:0=0:=rfl
theorem tw13582730566980535724:0=0:=rfl
theorem tw3931296637539387818:0=0:=rfl
theorem tw5985273677671548181:0=0:=rfl
theorem tw16483336704209547612:0=0:=rfl
theorem tw3240459664661719937:0=0:=rfl
theorem tw17598975183993271309:0=0:=rfl
theorem tw11209998347326020420:0=0:=rfl
theorem tw8894966668587087564:0=0:=rfl
theorem tw14893099965664512172:0=0:=rfl
theorem tw4783392927355610201:0=0:=rfl
theorem tw13338664936522708958:0=0:=rfl
theorem tw14856705861142233683:0=0:=rfl
theorem tw1419079969230116256:0=0:=rfl
theorem tw2465024550394267329:0=0:=rfl
theorem tw6115992349298803491:0=0:=rfl
theorem tw1244442582722613218:0=0:=rfl
theorem tw6291836019165969106:0=0:=rfl
theorem tw15531840538078057705:0=0:=rfl
theorem tw7149472524541091377:0=0:=rfl
theorem tw3745139139235050243:0=0:=rfl
theorem tw7824316804374207094:0=0:=rfl
theorem tw8219825599857449017:0=0:=rfl
theorem tw17798784665017227794:0=0:=rfl
theorem tw12512799978495654479:0=0:=rfl
theorem tw16443700823792833691:0=0:=rfl
theorem tw17575618998698390320:0=0:=rfl
theorem tw4371342606835493259:0=0:=rfl
theorem tw3834165630791833446:0=0:=rfl
theorem tw5761115847859319001:0=0:=rfl
theorem tw11984022086557141099:0=0:=rfl
theorem tw11092545158888174523:0=0:=rfl
theorem tw6765105602846328210:0=0:=rfl
theorem tw7889464450942862006:0=0:=rfl
theorem tw7292329514933627019:0=0:=rfl
theorem tw10315217079852607014:0=0:=rfl
theorem tw12411599149006601038:0=0:=rfl
theorem tw9015454044388912027:0=0:=rfl
theorem tw5146114987958086604:0=0:=rfl
theorem tw18221343105286171426:0=0:=rfl
theorem tw15976930179254422905:0=0:=rfl
theorem tw10536597121122428659:0=0:=rfl
theorem tw11081458996383376688:0=0:=rfl
theorem tw2596117145406173354:0=0:=rfl
theorem tw909590462279933452:0=0:=rfl
theorem tw13150441776055915781:0=0:=rfl
theorem tw17923058237413190266:0=0:=rfl
theorem tw10029729266826990754:0=0:=rfl
theorem tw1030816456690563035:0=0:=rfl
theorem tw9331754085383863843:0=0:=rfl
theorem tw9714978325699909023:0=0:=rfl
theorem tw3078770819273331320:0=0:=rfl
theorem tw3375935828926151020:0=0:=rfl
theorem tw15145710309282680842:0=0:=rfl
theorem tw16686672482102506581:0=0:=rfl
theorem tw1037349403912668015:0=0:=rfl
theorem tw12379976279157690756:0=0:=rfl
theorem tw13436624251329398936:0=0:=rfl
theorem tw15713415361583887647:0=0:=rfl
theorem tw14663108349956682428:0=0:=rfl
theorem tw15305396056192034310:0=0:=rfl
theorem tw1292396224418979011:0=0:=rfl
theorem tw5864074670170873746:0=0:=rfl
theorem tw2537013365499613492:0=0:=rfl
theorem tw6314710838887866427:0=0:=rfl
theorem tw14505407642227013191:0=0:=rfl
theorem tw5054255493320113784:0=0:=rfl
theorem tw555230314608126618:0=0:=rfl
theorem tw9799665428087025311:0=0:=rfl
theorem tw5883843897831413476:0=0:=rfl
theorem tw12535497240556521784:0=0:=rfl
theorem tw3232326950935861713:0=0:=rfl
theorem tw8791228824173259823:0=0:=rfl
theorem tw14980369093362215555:0=0:=rfl
theorem tw18371115145314901253:0=0:=rfl
theorem tw12482334136518952147:0=0:=rfl
theorem tw1905613013526055097:0=0:=rfl
theorem tw14244511135758273965:0=0:=rfl
theorem tw13805091553822141344:0=0:=rfl
theorem tw3667799505603495098:0=0:=rfl
theorem tw11141722677526942782:0=0:=rfl
theorem tw8571037978218741095:0=0:=rfl
theorem tw747773963034439580:0=0:=rfl
theorem tw18191802702128408527:0=0:=rfl
theorem tw1089176356611703015:0=0:=rfl
theorem tw5279101595062649101:0=0:=rfl
theorem tw311620462350345648:0=0:=rfl
theorem tw5877302607495295584:0=0:=rfl
theorem tw10595928832526351448:0=0:=rfl
theorem tw7676932839440679066:0=0:=rfl
theorem tw4401458366717316263:0=0:=rfl
theorem tw11393419694970645129:0=0:=rfl
theorem tw14427604826437509271:0=0:=rfl
end walk09
set_option Elab.async true in
set_option tactic.hygienic true in
theorem walk09:PySem.Challenge.rw_uf010035_09.Holds:=by
 w_on
 o_law
 o_head (Jt (ownsOf PySem.Challenge.pw_uf010035_09) xD)
 case hw=>w_witness2
 intro w s₀ s₁ mg mb G Y fa o pm cd doc dV kV ho hd hcd hD hmg hg args vals as hpre hlay hrd hwl hlo
 refine Ground.open G ?_
 intro T B D TE TW
 wrow_args hpre hlay hrd hwl hlo
 all_goals (
  rename_i zs hs hlay0 hL1 hr1 hl2 as4 as3 l vs as0 hL ra w1 r0 hI hr hc1 hc0
  refine zT (csts:=KA) (bis:=Lr) (mu:=muL) (fz:=[]) (fns:=Jw) (cs:=xD) (f:=41) (n:=37) T TE.topC (by decide+kernel) ⟨by decide+kernel,by decide+kernel,by decide+kernel,by decide+kernel⟩ (Ah (by kernel_rfl) Y) (by decide+kernel) hg (by kernel_rfl) (by decide+kernel) hmg (zm w1 hL) (by simpa using hI) (by omega) (by decide) (I9 (n:=0) (by omega) λ_=>rfl) λs' h1 h2 h3=>GoodW.toG ⟨.inl ⟨.bool true,.bool true,[],rfl,λcls=>rfl,.bool true,?_,λ_=>⟨.nil,by simp⟩⟩,h1,h2,h3⟩
  first|exact postW_of (by wrow_shape) (by wtm_val) (by str_meet;first|done|w_fin)|decide)
end Mine
end
theorem PySem.Challenge.cw_uf010035_09_holds : PySem.Challenge.rw_uf010035_09.Holds :=
 Mine.walk09
