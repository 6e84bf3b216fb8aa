import PyProof.Rows.All
import Wide.FinOn
import Wide.All
import PyProof.Rows.ListMul
import PyProof.IsInstance
import PyProof.ExcClass3
import PyProof.ExcBaseAll.ValueError
import PyProof.ExcAttrAll.ValueError
import PyProof.ExcArgsOwn
import PyProof.EqAt
import OpenK.AllK
import Open.Head
import KE.KRevIter
import PySem.Challenge.RW_uf010035_13
set_option Elab.async false
set_option maxRecDepth 100000
set_option linter.all false
set_option backward.match.sparseCases false
set_option bootstrap.genMatcherCode false
set_option genInjectivity false
set_option tactic.hygienic false
set_option genSizeOfSpec false
set_option genSizeOf false
open Nat renaming le_trans → aa, le_of_eq → au, le_add_right → ax, succ_le_succ → aA, le_of_ble_eq_true → aG, add_le_add_left → aH, le_refl → aM, zero_le → aY, add_le_add_right → aZ, le_succ → bf, lt_of_lt_of_le → bo, mul_le_mul_left → br, add_assoc → bD, add_right_comm → bH, le_add_left → bL, add_le_add → bU, add_sub_cancel_left → cT, lt_of_le_of_lt → cZ, lt_irrefl → c5, lt_succ_self → da, add_comm → db, zero_add → dw, ne_of_lt → dK, le_of_lt_succ → dL, sub_le → dS, pos_of_ne_zero → dT, not_succ_le_zero → d6, le_of_not_lt → fN, sub_add_cancel → fY, ne_of_gt → gQ, le_of_lt → gT, not_lt → iq, max_le → iu, le_of_succ_le_succ → iG, min_le_right → i0, add_sub_cancel' → jI, lt_trans → jW, lt_of_lt_of_eq → j1, sub_zero → mO, le_antisymm → mQ, succ → nK, add_left_cancel → pw, lt_of_le_of_ne → p8, min_self → rZ, not_le_of_gt → tT, lt_add_of_pos_right → Cn, succ_pos → Es, lt_of_succ_lt_succ → Et, sub_self → EC, mul_le_mul_right → Js, sub_lt_sub_left → JA, add_lt_add_left → JD, le_succ_of_le → Nb, le_of_succ_le → Nf, sub_pos_of_lt → Ng
open List renaming getElem?_eq_some_iff → af, length_append → ah, length_map → ak, append_assoc → an, mem_append_right → az, append_nil → aC, mem_append_left → aI, map_append → aJ, mem_map → aK, mem_of_getElem? → aN, getElem?_eq_getElem → aO, length_set → aU, getElem?_map → aV, range → aX, length_range → a7, mem_flatMap → a9, lookup_cons → bg, contains_iff_mem → bh, nodup_append → bj, nodup_cons → bk, not_mem_nil → bl, mem_map_of_mem → bq, getElem?_append_left → bt, flatMap_append → bu, getElem?_set_ne → bv, foldl_append → bw, mem_range → bE, map_map → bM, all_eq_true → bN, replicate → bO, mem_cons → bS, getElem?_set_self → bX, getElem?_append_right → b0, length_reverse → b8, mem_append → b9, mem_filter → ca, nodup_nil → cc, flatMap_cons → ce, count_le_count_cons → cg, map_congr_left → cn, getElem?_range → cq, getElem?_of_mem → cB, getElem?_concat_length → cP, filter_cons_of_pos → cR, length_filter_le → dq, mem_reverse → dD, flatMap_def → dE, length_cons → dR, length → d5, filter_cons_of_neg → eG, length_drop → eY, zip_cons_cons → eZ, getElem?_eq_none → fc, findIdx?_eq_some_iff_getElem → fk, ext_getElem? → fE, getElem?_set → fF, map_cons → fJ, length_take → fM, mem_singleton → fV, filter_append → fZ, mem_zipIdx_iff_getElem? → gj, size_toArray → gw, getElem?_inj → gx, getD_eq_getElem?_getD → gL, map_reverse → gU, flatMap_map → gV, filterMap_cons → g7, length_pos_iff → g8, contains_cons → ir, set_append_right → iV, take_length → iZ, flatMap_nil → i6, count_eq_zero_of_not_mem → jo, map → jp, filter_map → jH, sublist_flatten_of_mem → jX, map_id' → jY, reverse_perm → kX, Pairwise → lf, map_fst_zip → lQ, any_eq_true → lU, cons_ne_nil → lV, append_cancel_left → lW, getElem_map → lX, dropLast_eq_take → nh, pairwise_flatMap → nq, count_cons_self → nJ, replicate_succ → pi, map_eq_nil_iff → pq, map_drop → pB, not_mem_cons_of_ne_of_not_mem → p0, mem_filterMap → p5, filterMap_map → qa, getElem?_drop → qc, count_append → r4, filter_congr → r6, flatten → r9, getElem_mem → tR, map_flatMap → tS, length_zip → vq, of_mem_zip → vr, drop_zero → yh, getElem?_eq_none_iff → yp, length_eq_zero_iff → Cm, drop_eq_nil_of_le → Eu, take_of_length_le → Ew, map_nil → Ey, filter_eq_nil_iff → Ez, map_set → EB, length_singleton → FF, length_replicate → FG, getElem?_reverse → FH, range' → Jl, range_eq_range' → Jm, filter → Jo, mem_of_mem_take → Jp, findIdx_getElem → Jq, mem_of_mem_drop → Jr, forall_mem_map → JB, reverse_append → JC, find?_eq_none → MW, getElem_range → MX, filter_filter → MY, reverse_cons → Na, perm_middle → Ou, isEmpty_iff → Ov, nodup_range → Ow
open Bool renaming false_ne_true → ai, and_eq_true_iff → ay, eq_iff_iff → cr, not_eq_true' → cu, eq_false_iff → dm, not_eq_false' → dA, and_eq_true → dC, and_false → gK, noConfusion → gW, true_and → hU, or_eq_true → jF, or_true → mM, false_eq_true → p9, and_true → B7, false_or → Cb, or_false → Cd, or_eq_false_iff → Jn
open Option.some renaming inj → aj, injEq → iF
open PySem.Heap renaming get?_push_size → ba, get?_push_of_some → bG, get?_update_other → cD, get?_update_self → cM, lt_size → fB, SameBut → fX, ownExc_of_ok → Nh
open Int renaming natCast_nonneg → bn, le_trans → bA, toNat_of_nonneg → bT, ofNat_le → bW, ofNat_lt → cG, not_lt → cN, le_of_lt → eU, not_le → gJ, toNat_lt → gR, add_nonneg → iH, max_eq_right → lR, toNat_le → mK, le_of_eq → mL, min_eq_left → mR, lt_of_le_of_lt → p6, lt_of_lt_of_le → p7, toNat → tP, mul_one → tZ, le_add_of_nonneg_right → yi, ofNat_sub → B9, add_neg_cancel_right → Cc, ne_of_gt → En, lt_trans → Eo, ediv_one → Ep, add_zero → Er, add_comm → EA, sub_nonneg_of_le → Jk, lt_add_one_of_le → Jt, le_of_lt_add_one → Ju, add_le_add_left → Jx, sub_add_cancel → MV, min_eq_right → Ot, natCast_succ → Ox
open Option renaming map_eq_some_iff → bz, map → bP, bind_eq_some_iff → bR, isSome → c6, isSome_iff_exists → dZ, isNone_iff_eq_none → fq, mem_toList → iE, map_some → jG, none → nI, bind_some → tQ
open Array renaming length_toList → bJ, getElem?_toList → cm, getElem?_eq_getElem → gX, toList_append → gZ, getElem?_eq_some_iff → j2, size_setIfInBounds → B6, eraseIdxIfInBounds → B8, toList_push → Nc
open Int.ofNat renaming inj → eV
open PySem.Builtin.Slice renaming slicePlaces → fp, sliceAdjust → gY, sliceApplied → j4
open Nat.succ renaming inj → fW
open PySem.Builtin.Tuple renaming tupleExact → hV
open List.Pairwise renaming imp_of_mem → ib
open Prod renaming snd → j5, fst → nL
open PySem.Builtin.List renaming listTooLong → lc, listExtendWith → xo
open List.cons renaming inj → lg
open PySem.Heap.SameBut renaming update → po
open PySem.Heap.IsSliceOf renaming new → qb
open PySem.Builtin.Range renaming rangeFitsLong → xn, rangeSize → Ck, small → Jz
open Prod.mk renaming inj → Jj
open PySem.Builtin.Int renaming intBits → Jy
noncomputable section
namespace Mine
open PySem
theorem dQ{A0 A1 A2:Prop}{G:Prop}(h:A0/\A1/\A2)(k:A0->A1->A2->G):G:=k h.1 h.2.1 h.2.2
theorem wv{A0 A1 A2 A3:Prop}{G:Prop}(h:A0/\A1/\A2/\A3)(k:A0->A1->A2->A3->G):G:=k h.1 h.2.1 h.2.2.1 h.2.2.2
theorem EQ{A0 A1 A2 A3 A4:Prop}{G:Prop}(h:A0/\A1/\A2/\A3/\A4)(k:A0->A1->A2->A3->A4->G):G:=k h.1 h.2.1 h.2.2.1 h.2.2.2.1 h.2.2.2.2
theorem av{α0:Type}{A0 A1:α0->Prop}{G:Prop}(h:∃a0,A0 a0/\A1 a0)(k:∀a0,A0 a0->A1 a0->G):G:=h.elim λa0 h=>k a0 h.1 h.2
theorem c7{α0:Type}{A0 A1 A2:α0->Prop}{G:Prop}(h:∃a0,A0 a0/\A1 a0/\A2 a0)(k:∀a0,A0 a0->A1 a0->A2 a0->G):G:=h.elim λa0 h=>k a0 h.1 h.2.1 h.2.2
theorem dB{α0:Type}{A0 A1 A2 A3:α0->Prop}{G:Prop}(h:∃a0,A0 a0/\A1 a0/\A2 a0/\A3 a0)(k:∀a0,A0 a0->A1 a0->A2 a0->A3 a0->G):G:=h.elim λa0 h=>k a0 h.1 h.2.1 h.2.2.1 h.2.2.2
theorem y8{α0:Type}{A0 A1 A2 A3 A4:α0->Prop}{G:Prop}(h:∃a0,A0 a0/\A1 a0/\A2 a0/\A3 a0/\A4 a0)(k:∀a0,A0 a0->A1 a0->A2 a0->A3 a0->A4 a0->G):G:=h.elim λa0 h=>k a0 h.1 h.2.1 h.2.2.1 h.2.2.2.1 h.2.2.2.2
theorem sH{α0 α1:Type}{A0:α0->α1->Prop}{G:Prop}(h:∃a0 a1,A0 a0 a1)(k:∀a0 a1,A0 a0 a1->G):G:=h.elim λa0 h=>h.elim λa1 h=>k a0 a1 h
theorem dI{α0 α1:Type}{A0 A1:α0->α1->Prop}{G:Prop}(h:∃a0 a1,A0 a0 a1/\A1 a0 a1)(k:∀a0 a1,A0 a0 a1->A1 a0 a1->G):G:=h.elim λa0 h=>h.elim λa1 h=>k a0 a1 h.1 h.2
theorem di{α0 α1:Type}{A0 A1 A2:α0->α1->Prop}{G:Prop}(h:∃a0 a1,A0 a0 a1/\A1 a0 a1/\A2 a0 a1)(k:∀a0 a1,A0 a0 a1->A1 a0 a1->A2 a0 a1->G):G:=h.elim λa0 h=>h.elim λa1 h=>k a0 a1 h.1 h.2.1 h.2.2
theorem kD{α0 α1:Type}{A0 A1 A2 A3:α0->α1->Prop}{G:Prop}(h:∃a0 a1,A0 a0 a1/\A1 a0 a1/\A2 a0 a1/\A3 a0 a1)(k:∀a0 a1,A0 a0 a1->A1 a0 a1->A2 a0 a1->A3 a0 a1->G):G:=h.elim λa0 h=>h.elim λa1 h=>k a0 a1 h.1 h.2.1 h.2.2.1 h.2.2.2
theorem lj{α0 α1:Type}{A0 A1 A2 A3 A4 A5 A6:α0->α1->Prop}{G:Prop}(h:∃a0 a1,A0 a0 a1/\A1 a0 a1/\A2 a0 a1/\A3 a0 a1/\A4 a0 a1/\A5 a0 a1/\A6 a0 a1)(k:∀a0 a1,A0 a0 a1->A1 a0 a1->A2 a0 a1->A3 a0 a1->A4 a0 a1->A5 a0 a1->A6 a0 a1->G):G:=h.elim λa0 h=>h.elim λa1 h=>k a0 a1 h.1 h.2.1 h.2.2.1 h.2.2.2.1 h.2.2.2.2.1 h.2.2.2.2.2.1 h.2.2.2.2.2.2
theorem lh{α0 α1 α2:Type}{A0 A1:α0->α1->α2->Prop}{G:Prop}(h:∃a0 a1 a2,A0 a0 a1 a2/\A1 a0 a1 a2)(k:∀a0 a1 a2,A0 a0 a1 a2->A1 a0 a1 a2->G):G:=h.elim λa0 h=>h.elim λa1 h=>h.elim λa2 h=>k a0 a1 a2 h.1 h.2
theorem ja{α0 α1 α2:Type}{A0 A1 A2:α0->α1->α2->Prop}{G:Prop}(h:∃a0 a1 a2,A0 a0 a1 a2/\A1 a0 a1 a2/\A2 a0 a1 a2)(k:∀a0 a1 a2,A0 a0 a1 a2->A1 a0 a1 a2->A2 a0 a1 a2->G):G:=h.elim λa0 h=>h.elim λa1 h=>h.elim λa2 h=>k a0 a1 a2 h.1 h.2.1 h.2.2
theorem qm{α0 α1 α2:Type}{A0 A1 A2 A3:α0->α1->α2->Prop}{G:Prop}(h:∃a0 a1 a2,A0 a0 a1 a2/\A1 a0 a1 a2/\A2 a0 a1 a2/\A3 a0 a1 a2)(k:∀a0 a1 a2,A0 a0 a1 a2->A1 a0 a1 a2->A2 a0 a1 a2->A3 a0 a1 a2->G):G:=h.elim λa0 h=>h.elim λa1 h=>h.elim λa2 h=>k a0 a1 a2 h.1 h.2.1 h.2.2.1 h.2.2.2
theorem oU{α0 α1 α2:Type}{A0 A1 A2 A3 A4:α0->α1->α2->Prop}{G:Prop}(h:∃a0 a1 a2,A0 a0 a1 a2/\A1 a0 a1 a2/\A2 a0 a1 a2/\A3 a0 a1 a2/\A4 a0 a1 a2)(k:∀a0 a1 a2,A0 a0 a1 a2->A1 a0 a1 a2->A2 a0 a1 a2->A3 a0 a1 a2->A4 a0 a1 a2->G):G:=h.elim λa0 h=>h.elim λa1 h=>h.elim λa2 h=>k a0 a1 a2 h.1 h.2.1 h.2.2.1 h.2.2.2.1 h.2.2.2.2
theorem g9{α0 α1 α2:Type}{A0 A1 A2 A3 A4 A5:α0->α1->α2->Prop}{G:Prop}(h:∃a0 a1 a2,A0 a0 a1 a2/\A1 a0 a1 a2/\A2 a0 a1 a2/\A3 a0 a1 a2/\A4 a0 a1 a2/\A5 a0 a1 a2)(k:∀a0 a1 a2,A0 a0 a1 a2->A1 a0 a1 a2->A2 a0 a1 a2->A3 a0 a1 a2->A4 a0 a1 a2->A5 a0 a1 a2->G):G:=h.elim λa0 h=>h.elim λa1 h=>h.elim λa2 h=>k a0 a1 a2 h.1 h.2.1 h.2.2.1 h.2.2.2.1 h.2.2.2.2.1 h.2.2.2.2.2
theorem KH{α0 α1 α2 α3:Type}{A0:α0->α1->α2->α3->Prop}{G:Prop}(h:∃a0 a1 a2 a3,A0 a0 a1 a2 a3)(k:∀a0 a1 a2 a3,A0 a0 a1 a2 a3->G):G:=h.elim λa0 h=>h.elim λa1 h=>h.elim λa2 h=>h.elim λa3 h=>k a0 a1 a2 a3 h
theorem L8{α0 α1 α2 α3:Type}{A0 A1 A2 A3:α0->α1->α2->α3->Prop}{G:Prop}(h:∃a0 a1 a2 a3,A0 a0 a1 a2 a3/\A1 a0 a1 a2 a3/\A2 a0 a1 a2 a3/\A3 a0 a1 a2 a3)(k:∀a0 a1 a2 a3,A0 a0 a1 a2 a3->A1 a0 a1 a2 a3->A2 a0 a1 a2 a3->A3 a0 a1 a2 a3->G):G:=h.elim λa0 h=>h.elim λa1 h=>h.elim λa2 h=>h.elim λa3 h=>k a0 a1 a2 a3 h.1 h.2.1 h.2.2.1 h.2.2.2
theorem nr{α0 α1 α2 α3:Type}{A0 A1 A2 A3 A4 A5:α0->α1->α2->α3->Prop}{G:Prop}(h:∃a0 a1 a2 a3,A0 a0 a1 a2 a3/\A1 a0 a1 a2 a3/\A2 a0 a1 a2 a3/\A3 a0 a1 a2 a3/\A4 a0 a1 a2 a3/\A5 a0 a1 a2 a3)(k:∀a0 a1 a2 a3,A0 a0 a1 a2 a3->A1 a0 a1 a2 a3->A2 a0 a1 a2 a3->A3 a0 a1 a2 a3->A4 a0 a1 a2 a3->A5 a0 a1 a2 a3->G):G:=h.elim λa0 h=>h.elim λa1 h=>h.elim λa2 h=>h.elim λa3 h=>k a0 a1 a2 a3 h.1 h.2.1 h.2.2.1 h.2.2.2.1 h.2.2.2.2.1 h.2.2.2.2.2
theorem Fp{α0 α1 α2 α3 α4:Type}{A0 A1 A2 A3:α0->α1->α2->α3->α4->Prop}{G:Prop}(h:∃a0 a1 a2 a3 a4,A0 a0 a1 a2 a3 a4/\A1 a0 a1 a2 a3 a4/\A2 a0 a1 a2 a3 a4/\A3 a0 a1 a2 a3 a4)(k:∀a0 a1 a2 a3 a4,A0 a0 a1 a2 a3 a4->A1 a0 a1 a2 a3 a4->A2 a0 a1 a2 a3 a4->A3 a0 a1 a2 a3 a4->G):G:=h.elim λa0 h=>h.elim λa1 h=>h.elim λa2 h=>h.elim λa3 h=>h.elim λa4 h=>k a0 a1 a2 a3 a4 h.1 h.2.1 h.2.2.1 h.2.2.2
theorem KU{α0 α1 α2 α3 α4:Type}{A0 A1 A2 A3 A4:α0->α1->α2->α3->α4->Prop}{G:Prop}(h:∃a0 a1 a2 a3 a4,A0 a0 a1 a2 a3 a4/\A1 a0 a1 a2 a3 a4/\A2 a0 a1 a2 a3 a4/\A3 a0 a1 a2 a3 a4/\A4 a0 a1 a2 a3 a4)(k:∀a0 a1 a2 a3 a4,A0 a0 a1 a2 a3 a4->A1 a0 a1 a2 a3 a4->A2 a0 a1 a2 a3 a4->A3 a0 a1 a2 a3 a4->A4 a0 a1 a2 a3 a4->G):G:=h.elim λa0 h=>h.elim λa1 h=>h.elim λa2 h=>h.elim λa3 h=>h.elim λa4 h=>k a0 a1 a2 a3 a4 h.1 h.2.1 h.2.2.1 h.2.2.2.1 h.2.2.2.2
theorem Bg{α0 α1 α2 α3 α4:Type}{A0 A1 A2 A3 A4 A5:α0->α1->α2->α3->α4->Prop}{G:Prop}(h:∃a0 a1 a2 a3 a4,A0 a0 a1 a2 a3 a4/\A1 a0 a1 a2 a3 a4/\A2 a0 a1 a2 a3 a4/\A3 a0 a1 a2 a3 a4/\A4 a0 a1 a2 a3 a4/\A5 a0 a1 a2 a3 a4)(k:∀a0 a1 a2 a3 a4,A0 a0 a1 a2 a3 a4->A1 a0 a1 a2 a3 a4->A2 a0 a1 a2 a3 a4->A3 a0 a1 a2 a3 a4->A4 a0 a1 a2 a3 a4->A5 a0 a1 a2 a3 a4->G):G:=h.elim λa0 h=>h.elim λa1 h=>h.elim λa2 h=>h.elim λa3 h=>h.elim λa4 h=>k a0 a1 a2 a3 a4 h.1 h.2.1 h.2.2.1 h.2.2.2.1 h.2.2.2.2.1 h.2.2.2.2.2
theorem Lg{α0 α1 α2 α3 α4 α5:Type}{A0 A1:α0->α1->α2->α3->α4->α5->Prop}{G:Prop}(h:∃a0 a1 a2 a3 a4 a5,A0 a0 a1 a2 a3 a4 a5/\A1 a0 a1 a2 a3 a4 a5)(k:∀a0 a1 a2 a3 a4 a5,A0 a0 a1 a2 a3 a4 a5->A1 a0 a1 a2 a3 a4 a5->G):G:=h.elim λa0 h=>h.elim λa1 h=>h.elim λa2 h=>h.elim λa3 h=>h.elim λa4 h=>h.elim λa5 h=>k a0 a1 a2 a3 a4 a5 h.1 h.2
def Is{α:Type}(o:Option α)(R:α->Prop):Prop:=match o with
 |none=>True
 |some x=>R x
section
variable {α β:Type}{o:Option α}{R:α->Prop}{S:β->Prop}
theorem Is.of{x:α}(h:Is o R)(e:o=some x):R x:=by subst e;exact h
theorem Is.bind{f:α->Option β}(h:Is o R)(k:∀x,R x->Is (f x) S):Is (o.bind f) S:=by
 cases o with
 |none=>exact trivial
 |some x=>exact k x h
theorem Is.map{f:α->β}(h:Is o R)(k:∀x,R x->S (f x)):Is (o.map f) S:=by
 cases o with
 |none=>exact trivial
 |some x=>exact k x h
theorem Is.to(k:∀x,o=some x->R x):Is o R:=by
 cases o with
 |none=>exact trivial
 |some x=>exact k x rfl
theorem Is.self:Is o λx=>o=some x:=Is.to λ_ h=>h
theorem Is.imp{R':α->Prop}(h:Is o R)(k:∀x,R x->R' x):Is o R':=by
 cases o with
 |none=>exact trivial
 |some x=>exact k x h
theorem Is.ite2{p:Prop}[Decidable p]{a:Option α}(k:p->Is a R)(l:¬p->Is o R):Is (if p then a else o) R:=by
 by_cases h:p
 ·rw [if_pos h];exact k h
 ·rw [if_neg h];exact l h
theorem Is.ite{p:Prop}[Decidable p](k:p->Is o R):Is (if p then o else none) R:=Is.ite2 k λ_=>trivial
theorem Is.nite(k:b=false->Is o R):Is (if b=true then none else o) R:=by
 cases b with
 |false=>exact k rfl
 |true=>exact trivial
end
theorem cY{A0 A1:Prop}{G:Prop}(h:A0/\A1)(k:A0->A1->G):G:=k h.1 h.2
theorem dM{α0:Type}{A0:α0->Prop}{G:Prop}(h:∃a0,A0 a0)(k:∀a0,A0 a0->G):G:=h.elim k
theorem fS{α:Type}{o:Option α}{G:Prop}(n:o=none->G)(s:∀a,o=some a->G):G:=by
 cases o with
 |none=>exact n rfl
 |some a=>exact s a rfl
theorem Mn{α:Type}{o:Option α}{G:Prop}(s:∀a,o=some a->G)(n:o=none->G):G:=fS n s
theorem qQ{G:Prop}(t:o=true->G)(f:o=false->G):G:=by
 cases o with
 |false=>exact f rfl
 |true=>exact t rfl
section
variable {α:Type}{a b:α}{l:List α}{p:α->Prop}
theorem in1(h:a∈[b]):a=b:=fV.mp h
theorem s6(h:a≠b):a∉[b]:=λq=>h (in1 q)
theorem Cg(h:a∉[b]):a≠b:=λq=>h (q▸.head _)
theorem qA:∀b∈([]:List α),p b:=nofun
theorem d0(h:p a)(k:∀b∈l,p b):∀b∈a::l,p b:=λ_ q=>(bS.mp q).elim (λe=>e▸h) λq=>k _ q
theorem eC{G:Prop}(h:b∈a::l)(k:b=a->G)(k':b∈l->G):G:=(bS.mp h).elim k k'
theorem dk{l':List α}(h:∀b∈l,p b)(k:∀b∈l',p b):∀b∈l++l',p b:=λb hb=>(b9.mp hb).elim (h b) (k b)
theorem ID(h:a∉l)(k:a≠b):a∉l++[b]:=λq=>(b9.mp q).elim h λq=>k (in1 q)
theorem dz(h:p a):∀b∈[a],p b:=d0 h qA
end
theorem dt{α:Type}{l m:List α}{k:Nat}{x:α}(r:l[k]? =some x):(l++m)[k]? =some x:=(bt (af.mp r).1).trans r
theorem im{α:Type}{l:List α}{a x:α}(h:(l++[a])[k]? =some x):l[k]? =some x\/k=l.length/\x=a:=by
 by_cases hlt:k<l.length
 ·exact .inl ((bt hlt).symm.trans h)
 ·have h':=(b0 (iq.mp hlt)).symm.trans h;cases hk:k-l.length with
  |zero=>rw [hk]at h';exact .inr ⟨mQ (Nat.le_of_sub_eq_zero hk) (iq.mp hlt),(aj h').symm⟩
  |succ m=>rw [hk]at h';exact nomatch h'
theorem eW{A B L R:Nat}(h:A<=B)(v:L+B<=R+A):L<=R:=Nat.le_of_add_le_add_right (aa v (aH h R))
theorem jE{A B L R:Int}(h:A<=B)(v:L+B<=R+A):L<=R:=Int.le_of_add_le_add_right (bA v (Jx h R))
theorem xK{m:Nat}(h:m<=1000):-10 ^ 12<=(m:Int)/\(m:Int)<=10 ^ 12:=⟨bA (by decide) (bn m),bA (bW.mpr h) (by decide)⟩
theorem smt{a b:Nat}(h:a<=1000):((a:Int)-b).toNat<=1000000:=mK.mpr (bA (Int.sub_le_self _ (bn b)) (bA (bW.mpr h) (by decide)))
theorem bc{G:Prop}(h:(G->False)->False):G:=Classical.byContradiction h
theorem fm{α:Type}{x:α}{p:Prop}(h:none=some x):p:=nomatch h
theorem pW{α β:Type}{a c:α}{b d:β}(h:some (a,b)=some (c,d)):a=c/\b=d:=Jj (aj h)
set_option genCtorIdx false in
inductive V where
 |none
 |bool (b:Bool)
 |int (i:Int)
 |str (s:List Char)
 |tup (vs:List V)
 |lst (vs:List V)
 |dct (ks:List (List Char)) (vs:List V)
 |rng (a b:Int)
 |ref (i:Nat)
noncomputable def V.ctorIdx(v:V):Nat:=V.casesOn (motive_1:=λ_=>Nat) v 0 (λ_=>1) (λ_=>2) (λ_=>3) (λ_=>4) (λ_=>5) (λ_ _=>6) (λ_ _=>7) λ_=>8
set_option genCtorIdx false in
inductive O where
 |list (vs:List V)
 |dict (ks:List (List Char)) (vs:List V)
 |inst (c:Nat) (d:Nat)
 |ns (ks:List (List Char)) (vs:List V)
noncomputable def O.ctorIdx(v:O):Nat:=O.casesOn (motive:=λ_=>Nat) v (λ_=>0) (λ_ _=>1) (λ_ _=>2) λ_ _=>3
abbrev AH:=List O
abbrev Fm:=List (Option V)
mutual
noncomputable def V.data:V->Bool
 |.none|.bool _|.int _|.str _=>true
 |.tup vs|.lst vs=>V.datas vs
 |.dct _ _|.rng _ _|.ref _=>false
noncomputable def V.datas:List V->Bool
 |[]=>true
 |v::vs=>V.data v&&V.datas vs
end
mutual
noncomputable def V.depth:V->Nat
 |.tup vs|.lst vs=>V.depths vs+1
 |.none|.bool _|.int _|.str _|.dct _ _|.rng _ _|.ref _=>0
noncomputable def V.depths:List V->Nat
 |[]=>0
 |v::vs=>max (V.depth v) (V.depths vs)
end
mutual
noncomputable def gH:V->V->Bool
 |.none,.none=>true
 |.bool a,.bool b=>a==b
 |.bool a,.int j=>(if a then 1 else 0)==j
 |.int i,.bool b=>i==(if b then 1 else 0)
 |.int i,.int j=>i==j
 |.str x,.str y=>x==y
 |.lst xs,.lst ys=>zW xs ys
 |.tup xs,.tup ys=>zW xs ys
 |_,_=>false
noncomputable def zW:List V->List V->Bool
 |[],[]=>true
 |x::xs,y::ys=>gH x y&&zW xs ys
 |_,_=>false
end
inductive Ty where
 |int|bool|str|list|tuple
deriving DecidableEq
set_option genCtorIdx false in
inductive Bop where
 |add|sub|mul (n:Nat)|f|mod|pow
noncomputable def Ap:Bop->Bool
 |.mul _=>true
 |_=>false
set_option genCtorIdx false in
inductive Cop where
 |eq|ne|lt|le|gt|ge|is (n:Nat)|isnot|in_|notin
set_option genCtorIdx false in
inductive Prim where
 |bop (o:Bop)
 |cop (o:Cop)
 |not|neg
 |len|s (t:Ty)|range1|range2|list|int|min|all
 |i|slice|rev
 |l|t|d (ks:List (List Char))|mkdict1
 |append|pop|pop0|extend|index|dpop|lindex|rep
 |a (n:List Char)
set_option genCtorIdx false in
inductive Mt where
 |list|dict|tup (n:Nat)
noncomputable def Prim.fresh:Prim->Bool
 |.list|.slice|.l|.d _|.mkdict1|.rep|.bop .add=>true
 |_=>false
set_option genCtorIdx false in
inductive Ex where
 |c (v:V)
 |v (i:Nat)
 |p (mu:Bool) (p:Prim) (args:List Ex)
 |and (a b:Ex)
 |or (a b:Ex)
 |cmp2 (a:Ex) (o₁:Cop) (b:Ex) (o₂:Cop) (c:Ex)
 |call (f:Nat) (args:List Ex)
 |m (k f:Nat) (name:List Char) (o:Ex) (args:List Ex)
 |n (t:Mt) (mu:Bool) (p:Prim) (o:Ex) (args:List Ex)
 |new (c:Nat) (f:Nat) (args:List Ex)
 |comp (mu:Bool) (elt it:Ex) (cond:Option Ex)
set_option genCtorIdx false in
inductive St where
 |a (i:Nat) (e:Ex)
 |asgTup (is:List Nat) (e:Ex)
 |s (o i e:Ex)
 |setAttr (o:Ex) (n:List Char) (e:Ex)
 |e (e:Ex)
 |ite (c:Ex) (a b:List St)
 |f (rev:Bool) (tgt:Nat ⊕ List Nat) (e:Ex) (body:List St)
 |while_ (c:Ex) (body:List St)
 |ret (e:Ex)
 |raise (c:Nat)
 |try_ (body:List St) (cls:Nat) (e:Bool)
 |tryI (e:Ex) (cls i x d:Nat)
 |pass
structure Fn where
 arity:Nat
 extra:Nat
 body:List St
noncomputable def O.lst:O->Option (List V)
 |.list vs=>some vs
 |_=>none
noncomputable def O.dct:O->Option (List (List Char)×List V)
 |.dict ks vs=>some (ks,vs)
 |_=>none
noncomputable def d7(H:AH):V->Option (List V)
 |.lst vs=>some vs
 |.ref i=>H[i]?.bind O.lst
 |_=>none
noncomputable def ju(H:AH):V->Option (List (List Char)×List V)
 |.dct ks vs=>some (ks,vs)
 |.ref i=>H[i]?.bind O.dct
 |_=>none
noncomputable def tU(vs:List V):Bool:=V.datas vs&&decide (V.depths vs<=50)
noncomputable def rdD(v:V):Option V:=if(V.data v&&decide (V.depth v<=50))=true then some v else none
noncomputable def rd(H:AH)(v:V):Option V:=
 match v with
 |.ref i=>(d7 H (.ref i)).bind λvs=>if tU vs=true then some (.lst vs)else none
 |v=>rdD v
noncomputable def aB:Nat:=1000000
noncomputable def sa(n:Nat)(i:Int):Option Nat:=
 if 0<=i then(if i<n then some i.toNat else none)else(if 0<=i+n then some (i+n).toNat else none)
noncomputable def fo(k:List Char):List (List Char)->List V->Option V
 |k'::ks,v::vs=>if k=k' then some v else fo k ks vs
 |_,_=>none
noncomputable def d9(k:List Char)(x:V):List (List Char)->List V->List (List Char)×List V
 |k'::ks,v::vs=>if k=k' then(k'::ks,x::vs)else let r:=d9 k x ks vs;(k'::r.1,v::r.2)
 |_,_=>([k],[x])
noncomputable def kZ(k:List Char):List (List Char)->List V->List (List Char)×List V
 |k'::ks,v::vs=>if k=k' then(ks,vs)else let r:=kZ k ks vs;(k'::r.1,v::r.2)
 |_,_=>([],[])
noncomputable def iK(n:Nat)(i:Int):Nat:=
 if i<0 then(if i+n<0 then 0 else(i+n).toNat)else(if i<n then i.toNat else n)
noncomputable def bB{α:Type}(xs:List α)(a b:Nat):List α:=(xs.take b).drop a
noncomputable def lF:V->Option (Option Int)
 |.none=>some none
 |.int i=>some (some i)
 |_=>none
noncomputable def lA(n:Nat):Option Int->Nat
 |none=>0
 |some i=>iK n i
noncomputable def mP(n:Nat):Option Int->Nat
 |none=>n
 |some i=>iK n i
noncomputable def gb:V->Option Bool
 |.bool b=>some b
 |_=>none
noncomputable def Od(H:AH)(i:Nat):Bool:=match H[i]? with
 |some (.list _)|some (.dict _ _)|some (.inst _ _)=>true
 |_=>false
noncomputable def Ef(H:AH):V->Option Bool
 |.none=>some true
 |.ref i=>if Od H i then some false else none
 |.rng _ _=>none
 |_=>some false
noncomputable def NP(H:AH)(a b:V):Option Bool:=match b with
 |.none=>Ef H a
 |_=>none
noncomputable def cK(i:Int):Bool:=decide (-10 ^ 12<=i/\i<=10 ^ 12)
noncomputable def pU(f:Int->Int->Option Int):V->V->Option V
 |.int a,.int b=>(f a b).map V.int
 |_,_=>none
noncomputable def Mq(a b:Int):Option Int:=if cK a&&cK b then some (a*b)else none
noncomputable def N8(a b:Int):Option Int:=if 0<b/\b<=10 ^ 12 then some (a/b)else none
noncomputable def NM(a b:Int):Option Int:=if 0<b then some (a%b)else none
noncomputable def Oq(a b:Int):Option Int:=if a=10/\0<=b/\b<=30 then some (10 ^ b.toNat)else none
noncomputable def L0(H:AH)(a b:V):Option V:=(d7 H a).bind λxs=>(d7 H b).bind λys=>if xs.length+ys.length<=aB then some (.lst (xs++ys))else none
noncomputable def Jf(H:AH)(a b:V):Option V:=match a with
 |.int _=>pU (λa b=>some (a+b)) a b
 |.str x=>(match b with|.str y=>if x.length+y.length<=aB then some (.str (x++y))else none|_=>none)
 |.tup x=>(match b with|.tup y=>if x.length+y.length<=aB then some (.tup (x++y))else none|_=>none)
 |_=>L0 H a b
noncomputable def NK(_:AH)(a b:V):Option V:=pU Mq a b
noncomputable def AY(o:Bop)(a b:V)(H:AH):Option V:=match o with
 |.add=>Jf H a b
 |.sub=>pU (λa b=>some (a-b)) a b
 |.mul _=>NK H a b
 |.f=>pU N8 a b
 |.mod=>pU NM a b
 |.pow=>pU Oq a b
noncomputable def inC(s:List Char):List Char->Option Bool
 |[]=>none
 |c::t=>if t.isEmpty=true then some (s.contains c)else none
noncomputable def V.txt:V->Option (List Char)
 |.str s=>some s
 |_=>nI
noncomputable def JJ(H:AH)(x:V)(vs:List V):Option Bool:=(rd H x).bind λx'=>if tU vs=true then some (vs.any λy=>gH y x')else none
noncomputable def inD(H:AH)(x c:V):Option Bool:=(ju H c).bind λd=>x.txt.map λk=>d.1.contains k
noncomputable def M2(H:AH)(x c:V)(o:Option (List V)):Option Bool:=match o with
 |some vs=>JJ H x vs
 |none=>inD H x c
noncomputable def M0(H:AH)(x c:V):Option Bool:=
 match c with
 |.str s=>x.txt.bind (inC s)
 |.tup vs=>JJ H x vs
 |c=>M2 H x c (d7 H c)
noncomputable def eqO(H:AH)(a b:V):Option Bool:=(rd H a).bind λx=>(rd H b).map λy=>gH x y
noncomputable def xD(f:Int->Int->Bool):V->V->Option Bool
 |.int a,.int b=>some (f a b)
 |_,_=>none
noncomputable def jA(o:Cop)(a b:V)(H:AH):Option Bool:=match o with
 |.eq=>eqO H a b
 |.ne=>(eqO H a b).map (!·)
 |.lt=>xD (λa b=>decide (a<b)) a b
 |.le=>xD (λa b=>decide (a<=b)) a b
 |.gt=>xD (λa b=>decide (b<a)) a b
 |.ge=>xD (λa b=>decide (b<=a)) a b
 |.is _=>NP H a b
 |.isnot=>(NP H a b).map (!·)
 |.in_=>M0 H a b
 |.notin=>(M0 H a b).map (!·)
noncomputable def V.isRng:V->Bool
 |.rng _ _=>true
 |_=>false
noncomputable def jj(a b:Int):List V:=(aX (b-a).toNat).map λ(i:Nat)=>V.int (a+i)
noncomputable def pY(H:AH):V->Option (List V)
 |.tup vs=>some vs
 |.str s=>some (s.map λc=>V.str [c])
 |.rng a b=>some (jj a b)
 |v=>d7 H v
noncomputable def KB:V->Option (List V)
 |.tup vs=>some vs.reverse
 |.lst vs=>some vs.reverse
 |_=>none
noncomputable def jB(rev:Bool)(H:AH)(v:V):Option (List V):=match rev with
 |false=>pY H v
 |true=>KB v
structure Prog where
 fns:Nat->Option Fn
 sub:Nat->Nat->Bool
noncomputable def z6(cs:List (List Nat))(k j:Nat):Bool:=(cs[k]?).any (·.contains j)
noncomputable def wA(fns:List Fn)(cs:List (List Nat)):Prog:={fns:=λi=>fns[i]?,sub:=z6 cs}
noncomputable def O.isTy(t:Ty):O->Option Bool
 |.list _=>some (t==.list)
 |.dict _ _=>some false
 |_=>none
noncomputable def isinst(H:AH):V->Ty->Option Bool
 |.int _,t=>some (t==.int)
 |.bool _,t=>some (t==.int||t==.bool)
 |.str _,t=>some (t==.str)
 |.tup _,t=>some (t==.tuple)
 |.lst _,t=>some (t==.list)
 |.none,_=>some false
 |.dct _ _,_=>some false
 |.ref i,t=>H[i]?.bind (O.isTy t)
 |_,_=>none
noncomputable def oK:List V->Option (List Bool)
 |[]=>some []
 |.bool b::r=>(oK r).map (b::·)
 |_::_=>none
noncomputable def V.num:V->Option Int
 |.int a=>some a
 |_=>nI
noncomputable def Og(o:Bop):List V->AH->Option (V×AH)
 |[a,b],H=>(AY o a b H).map (·,H)
 |_,_=>none
noncomputable def NV(o:Cop):List V->AH->Option (V×AH)
 |[a,b],H=>(jA o a b H).map (V.bool ·,H)
 |_,_=>none
noncomputable def NT:List V->AH->Option (V×AH)
 |[a],H=>(gb a).map (V.bool !·,H)
 |_,_=>none
noncomputable def NC:List V->AH->Option (V×AH)
 |[v],H=>v.num.map λa=>(V.int (-a),H)
 |_,_=>none
noncomputable def DO(d:Option Nat):Option (List V)->Option Nat
 |some vs=>some vs.length
 |none=>d
noncomputable def KV(H:AH):V->Option Nat
 |.str s=>some s.length
 |.tup s=>some s.length
 |v=>DO ((ju H v).map λd=>d.1.length) (d7 H v)
noncomputable def LU:List V->AH->Option (V×AH)
 |[v],H=>(KV H v).map λ(n:Nat)=>(V.int n,H)
 |_,_=>none
noncomputable def wu(t:Ty):List V->AH->Option (V×AH)
 |[a],H=>(isinst H a t).map (V.bool ·,H)
 |_,_=>none
noncomputable def vD:List V->AH->Option (V×AH)
 |[v],H=>v.num.bind λb=>if cK b=true then some (.rng 0 b,H)else none
 |_,_=>none
noncomputable def wq:List V->AH->Option (V×AH)
 |[v,w],H=>v.num.bind λa=>w.num.bind λb=>if(cK a&&cK b)=true then some (.rng a b,H)else none
 |_,_=>none
noncomputable def E8(H:AH):V->Option V
 |.rng a b=>if(b-a).toNat<=aB then some (.lst (jj a b))else none
 |.tup vs=>if vs.length<=aB then some (.lst vs)else none
 |v=>(d7 H v).bind λvs=>if vs.length<=aB then some (.lst vs)else none
noncomputable def Ah:List V->AH->Option (V×AH)
 |[v],H=>(E8 H v).map (·,H)
 |_,_=>none
noncomputable def Ig:List V->AH->Option (V×AH)
 |[.bool b],H=>some (.int (if b then 1 else 0),H)
 |_,_=>none
noncomputable def La:List V->AH->Option (V×AH)
 |[v,w],H=>v.num.bind λa=>w.num.map λb=>(V.int (min a b),H)
 |_,_=>none
noncomputable def Mc:List V->AH->Option (V×AH)
 |[v],H=>((d7 H v).bind oK).map λbs=>(.bool (bs.all id),H)
 |_,_=>none
noncomputable def yG(H:AH)(v:V)(i:Int):Option V:=match v with
 |.str s=>(sa s.length i).bind λj=>s[j]?.map λc=>.str [c]
 |.tup vs=>(sa vs.length i).bind λj=>vs[j]?
 |v=>(d7 H v).bind λvs=>(sa vs.length i).bind λj=>vs[j]?
noncomputable def MB(H:AH)(v i:V):Option V:=match i with
 |.int i=>yG H v i
 |.str k=>(ju H v).bind λd=>fo k d.1 d.2
 |_=>none
noncomputable def Fg:List V->AH->Option (V×AH)
 |[v,i],H=>(MB H v i).map (·,H)
 |_,_=>none
noncomputable def uR(H:AH)(v:V)(lo hi:Option Int):Option V:=match v with
 |.str s=>if s.length<=aB then some (.str (bB s (lA s.length lo) (mP s.length hi)))else none
 |.tup s=>if s.length<=aB then some (.tup (bB s (lA s.length lo) (mP s.length hi)))else none
 |v=>(d7 H v).bind λs=>if s.length<=aB then some (.lst (bB s (lA s.length lo) (mP s.length hi)))else none
noncomputable def ug:List V->AH->Option (V×AH)
 |[v,a,b],H=>(lF a).bind λlo=>(lF b).bind λhi=>(uR H v lo hi).map (·,H)
 |_,_=>none
noncomputable def Op:List V->AH->Option (V×AH)
 |[v,w],H=>w.num.bind λi=>if i=-1 then(d7 H v).bind λs=>if s.length<=aB then some (.lst s.reverse,H)else none else none
 |_,_=>none
noncomputable def wi(vs:List V)(H:AH):Option (V×AH):=if vs.length<=aB then some (.lst vs,H)else none
noncomputable def y9(vs:List V)(H:AH):Option (V×AH):=if vs.length<=aB then some (.tup vs,H)else none
noncomputable def rH(ks:List (List Char))(vs:List V)(H:AH):Option (V×AH):=if ks.length=vs.length/\ks.length<=15/\ks.Nodup then some (.dct ks vs,H)else none
noncomputable def yv:List V->AH->Option (V×AH)
 |[k,v],H=>k.txt.map λk=>(.dct [k] [v],H)
 |_,_=>none
noncomputable def V.at:V->Option Nat
 |.ref i=>some i
 |_=>nI
noncomputable def qo(H:AH)(v:V):Option (Nat×List V):=v.at.bind λi=>(H[i]?.bind O.lst).bind λvs=>some (i,vs)
noncomputable def wb:List V->AH->Option (V×AH)
 |[v,x],H=>(qo H v).bind λp=>if p.2.length<=aB then some (.none,H.set p.1 (.list (p.2++[x])))else none
 |_,_=>none
noncomputable def LQ:List V->AH->Option (V×AH)
 |[v],H=>(qo H v).bind λp=>if p.2.length<=aB then p.2.getLast?.map λx=>(x,H.set p.1 (.list p.2.dropLast))else none
 |_,_=>none
noncomputable def EH:List V->AH->Option (V×AH)
 |[v,w],H=>(qo H v).bind λp=>w.num.bind λn=>if n=0/\p.2.length<=aB then p.2.head?.map λx=>(x,H.set p.1 (.list p.2.tail))else none
 |_,_=>none
noncomputable def wD:List V->AH->Option (V×AH)
 |[v,w],H=>(qo H v).bind λp=>(d7 H w).bind λys=>if p.2.length+ys.length<=aB then some (.none,H.set p.1 (.list (p.2++ys)))else none
 |_,_=>none
noncomputable def V.tpl:V->Option (List V)
 |.tup vs=>some vs
 |_=>nI
noncomputable def BX:List V->AH->Option (V×AH)
 |[v,x],H=>v.tpl.bind λvs=>(rd H x).bind λx'=>if tU vs=true then(vs.findIdx? λy=>gH y x').map λ(k:Nat)=>(V.int k,H)else none
 |_,_=>none
noncomputable def wE:List V->AH->Option (V×AH)
 |[v,x],H=>(d7 H v).bind λvs=>(rd H x).bind λx'=>if tU vs=true then(vs.findIdx? λy=>gH y x').map λ(k:Nat)=>(V.int k,H)else none
 |_,_=>none
noncomputable def KY:List V->AH->Option (V×AH)
 |[.lst [x],.int n],H=>if 0<=n/\n<=1000 then some (.lst (bO n.toNat x),H)else none
 |_,_=>none
noncomputable def AU(H:AH)(v:V):Option (Nat×(List (List Char)×List V)):=v.at.bind λi=>(H[i]?.bind O.dct).bind λd=>some (i,d)
noncomputable def FD:List V->AH->Option (V×AH)
 |[v,w],H=>(AU H v).bind λp=>w.txt.bind λk=>if p.2.1.length<=aB then(fo k p.2.1 p.2.2).map λx=>(x,H.set p.1 (.dict (kZ k p.2.1 p.2.2).1 (kZ k p.2.1 p.2.2).2))else none
 |_,_=>none
noncomputable def O.ins:O->Option Nat
 |.inst c d=>if c=0 then some d else none
 |_=>none
noncomputable def O.nms:O->Option (List (List Char)×List V)
 |.ns ks vs=>some (ks,vs)
 |_=>none
noncomputable def gq(H:AH)(v:V):Option (Nat×(List (List Char)×List V)):=v.at.bind λi=>(H[i]?.bind O.ins).bind λd=>(H[d]?.bind O.nms).map λq=>(d,q)
noncomputable def EO(n:List Char):List V->AH->Option (V×AH)
 |[v],H=>(gq H v).bind λq=>(fo n q.2.1 q.2.2).map (·,H)
 |_,_=>none
noncomputable def prim(P:Prog):Prim->List V->AH->Option (V×AH)
 |.bop o=>Og o
 |.cop o=>NV o
 |.not=>NT
 |.neg=>NC
 |.len=>LU
 |.s t=>wu t
 |.range1=>vD
 |.range2=>wq
 |.list=>Ah
 |.int=>Ig
 |.min=>La
 |.all=>Mc
 |.i=>Fg
 |.slice=>ug
 |.rev=>Op
 |.l=>wi
 |.t=>y9
 |.d ks=>rH ks
 |.mkdict1=>yv
 |.append=>wb
 |.pop=>LQ
 |.pop0=>EH
 |.extend=>wD
 |.index=>BX
 |.dpop=>FD
 |.lindex=>wE
 |.rep=>KY
 |.a n=>EO n
noncomputable def kI:V->AH->Option (V×AH)
 |.lst vs,H=>some (.ref H.length,H++[.list vs])
 |.dct ks vs,H=>some (.ref H.length,H++[.dict ks vs])
 |_,_=>none
noncomputable def ly(H:AH)(v:V)(t:Mt):Bool:=match t with
 |.list=>(d7 H v).isSome
 |.dict=>(ju H v).isSome
 |.tup _=>v.tpl.isSome
noncomputable def gr(H:AH)(_k:Nat)(name:List Char)(v:V):Bool:=(gq H v).any λq=>!q.2.1.contains name
noncomputable def be(P:Prog)(mu:Bool)(p:Prim)(vs:List V)(H:AH):Option (V×AH):=
 if mu then(if p.fresh then(prim P p vs H).bind λr=>kI r.1 r.2 else none)else prim P p vs H
abbrev QE:=V->AH->Prop
abbrev XE:=Nat->AH->Prop
abbrev Calls:=Nat->List V->AH->QE->XE->Prop
def hM(r:Option (V×AH))(Q:QE):Prop:=match r with|some (v,H)=>Q v H|none=>False
def nT(r:Option Bool)(K:Bool->Prop):Prop:=match r with|some b=>K b|none=>False
def kF(F:V->AH->(Option V->AH->Prop)->Prop)(ok:AH->Prop):List V->List V->AH->(List V->AH->Prop)->Prop
 |[],acc,H,Q=>ok H/\Q acc H
 |v::vs,acc,H,Q=>ok H/\F v H λr H'=>kF F ok vs (match r with|some x=>acc++[x]|none=>acc) H' Q
mutual
def cL(P:Prog)(C:Calls):Ex->Fm->AH->QE->XE->Prop
 |.c v,_,H,Q,_=>Q v H
 |.v i,ρ,H,Q,_=>match ρ[i]? with|some (some v)=>Q v H|_=>False
 |.p mu p args,ρ,H,Q,X=>gc P C args ρ H (λvs H'=>hM (be P mu p vs H') Q) X
 |.and a b,ρ,H,Q,X=>cL P C a ρ H (λv H'=>nT (gb v) λt=>if t then cL P C b ρ H' Q X else Q (.bool t) H') X
 |.or a b,ρ,H,Q,X=>cL P C a ρ H (λv H'=>nT (gb v) λt=>if !t then cL P C b ρ H' Q X else Q (.bool t) H') X
 |.cmp2 a o₁ b o₂ c,ρ,H,Q,X=>cL P C a ρ H (λx H₁=>cL P C b ρ H₁ (λy H₂=>nT (jA o₁ x y H₂) λt=>if t then cL P C c ρ H₂ (λz H₃=>nT (jA o₂ y z H₃) λt'=>Q (.bool t') H₃) X else Q (.bool false) H₂) X) X
 |.call f args,ρ,H,Q,X=>gc P C args ρ H (λvs H'=>C f vs H' Q X) X
 |.m k f name o args,ρ,H,Q,X=>cL P C o ρ H (λv H₁=>gr H₁ k name v=true/\gc P C args ρ H₁ (λvs H'=>C f (v::vs) H' Q X) X) X
 |.n t mu p o args,ρ,H,Q,X=>cL P C o ρ H (λv H₁=>ly H₁ v t=true/\gc P C args ρ H₁ (λvs H'=>hM (be P mu p (v::vs) H') Q) X) X
 |.new c f args,ρ,H,Q,X=>gc P C args ρ H (λvs H'=>C f (.ref (H'.length+1)::vs) (H'++[.ns [] [],.inst c H'.length]) (λv H''=>v=.none/\Q (.ref (H'.length+1)) H'') X) X
 |.comp mu elt it cond,ρ,H,Q,X=>cL P C it ρ H (λv H₁=>∃items,pY H₁ v=some items/\items.length<=aB/\
   kF (λx H' K=>match cond with
     |none=>cL P C elt (ρ++[some x]) H' (λy H''=>K (some y) H'') X
     |some c=>cL P C c (ρ++[some x]) H' (λb H₂=>nT (gb b) λt=>if t then cL P C elt (ρ++[some x]) H₂ (λy H''=>K (some y) H'') X else K none H₂) X)
    (λH'=>pY H' v=some items) items [] H₁ (λys H₂=>hM (if mu then kI (.lst ys) H₂ else some (.lst ys,H₂)) Q)) X
def gc(P:Prog)(C:Calls):List Ex->Fm->AH->(List V->AH->Prop)->XE->Prop
 |[],_,H,Q,_=>Q [] H
 |e::es,ρ,H,Q,X=>cL P C e ρ H (λv H'=>gc P C es ρ H' (λvs H''=>Q (v::vs) H'') X) X
end
noncomputable def fO(ρ:Fm):Nat ⊕ List Nat->V->Option Fm
 |.inl i,v=>some (ρ.set i (some v))
 |.inr is,.tup vs=>if is.length=vs.length then some ((is.zip vs).foldl (λρ p=>ρ.set p.1 (some p.2)) ρ)else none
 |_,_=>none
abbrev KS:=Fm->AH->Prop
def pR(F:V->Fm->AH->KS->Prop)(ok:AH->Prop):List V->Fm->AH->KS->Prop
 |[],ρ,H,K=>ok H/\K ρ H
 |v::vs,ρ,H,K=>ok H/\F v ρ H λρ' H'=>pR F ok vs ρ' H' K
def lE(F:Fm->AH->KS->KS->Prop):Nat->Fm->AH->KS->Prop
 |0,_,_,_=>False
 |k+1,ρ,H,K=>F ρ H (λρ' H'=>lE F k ρ' H' K) K
noncomputable def BW(r:Nat)(k:List Char)(x:V)(H:AH)(o:Option O):Option AH:=match o with
 |some (.dict ks vs)=>if ks.length<=aB then some (H.set r (.dict (d9 k x ks vs).1 (d9 k x ks vs).2))else none
 |_=>none
noncomputable def IC(r:Nat)(i:Int)(x:V)(H:AH)(o:Option O):Option AH:=match o with
 |some (.list vs)=>if 0<=i/\i<vs.length then some (H.set r (.list (vs.set i.toNat x)))else none
 |_=>none
noncomputable def d8(o i x:V)(H:AH):Option AH:=match o with
 |.ref r=>(match i with
  |.str k=>BW r k x H H[r]?
  |.int k=>IC r k x H H[r]?
  |_=>none)
 |_=>none
noncomputable def ik(o:V)(n:List Char)(x:V)(H:AH):Option AH:=
 (gq H o).bind λq=>if q.2.1.length<=1000 then some (H.set q.1 (.ns (d9 n x q.2.1 q.2.2).1 (d9 n x q.2.1 q.2.2).2))else none
noncomputable def hdV:Bool->V
 |true=>.lst []
 |false=>.none
mutual
def sJ(P:Prog)(C:Calls):St->Fm->AH->KS->QE->XE->Prop
 |.a i e,ρ,H,K,_,X=>cL P C e ρ H (λv H'=>i<ρ.length/\K (ρ.set i (some v)) H') X
 |.asgTup is e,ρ,H,K,_,X=>cL P C e ρ H (λv H'=>match fO ρ (.inr is) v with|some ρ'=>K ρ' H'|none=>False) X
 |.s o i e,ρ,H,K,_,X=>cL P C e ρ H (λx H₁=>cL P C o ρ H₁ (λov H₂=>cL P C i ρ H₂ (λiv H₃=>match d8 ov iv x H₃ with|some H'=>K ρ H'|none=>False) X) X) X
 |.setAttr o n e,ρ,H,K,_,X=>cL P C e ρ H (λx H₁=>cL P C o ρ H₁ (λov H₂=>match ik ov n x H₂ with|some H'=>K ρ H'|none=>False) X) X
 |.e e,ρ,H,K,_,X=>cL P C e ρ H (λ_ H'=>K ρ H') X
 |.ite c a b,ρ,H,K,R,X=>cL P C c ρ H (λv H'=>nT (gb v) λt=>if t then a8 P C a ρ H' K R X else a8 P C b ρ H' K R X) X
 |.f rev tgt e body,ρ,H,K,R,X=>cL P C e ρ H (λv H₁=>∃items,jB rev H₁ v=some items/\items.length<=aB/\
   pR (λx ρ' H' K'=>match fO ρ' tgt x with|some ρ''=>a8 P C body ρ'' H' K' R (λ_ _=>False)|none=>False)
    (λH'=>jB rev H' v=some items) items ρ H₁ K) X
 |.while_ c body,ρ,H,K,R,X=>∃k,lE (λρ' H' K₁ K₂=>cL P C c ρ' H' (λv H''=>nT (gb v) λt=>if t then a8 P C body ρ' H'' K₁ R (λ_ _=>False)else K₂ ρ' H'') (λ_ _=>False)) k ρ H K
 |.ret e,ρ,H,_,R,X=>cL P C e ρ H R X
 |.raise c,_,H,_,_,X=>X c H
 |.try_ body cls e,ρ,H,K,R,X=>a8 P C body ρ H K R (λc H'=>(P.sub c c&&P.sub c cls)=true/\R (hdV e) H')
 |.tryI e cls i x d,ρ,H,K,R,X=>cL P C e ρ H (λ_ H'=>K ρ H') (λc H'=>(P.sub c c&&P.sub c cls)=true/\∃z,ρ[i]? =some (some (.int z))/\K ((ρ.set i (some (.int (z+if P.sub c d then 1 else 0)))).set x none) H')
 |.pass,ρ,H,K,_,_=>K ρ H
def a8(P:Prog)(C:Calls):List St->Fm->AH->KS->QE->XE->Prop
 |[],ρ,H,K,_,_=>K ρ H
 |s::ss,ρ,H,K,R,X=>sJ P C s ρ H (λρ' H'=>a8 P C ss ρ' H' K R X) R X
end
abbrev M1(_:AH)(Q:QE)(v:V)(H':AH):Prop:=Q v H'
abbrev K5(_:AH)(X:XE)(c:Nat)(H':AH):Prop:=X c H'
noncomputable def aQ(P:Prog):Nat->Calls
 |0,_,_,_,_,_=>False
 |n+1,f,args,H,Q,X=>match P.fns f with
  |some fn=>args.length=fn.arity/\
    a8 P (aQ P n) fn.body (args.map some++bO fn.extra none) H (λ_ H'=>M1 H Q .none H') (λv H'=>M1 H Q v H') (K5 H X)
  |none=>False
section
variable {P:Prog}{C:Calls}{ρ:Fm}{H:AH}{Q:QE}{X:XE}{K:KS}{R:QE}
theorem D8:cL P C (.c v) ρ H Q X=Q v H:=rfl
theorem xm:cL P C (.v i) ρ H Q X=match ρ[i]? with|some (some v)=>Q v H|_=>False:=rfl
theorem fG:cL P C (.p mu p args) ρ H Q X=gc P C args ρ H (λvs H'=>hM (be P mu p vs H') Q) X:=rfl
theorem Br:cL P C (.cmp2 a o₁ b o₂ c) ρ H Q X=cL P C a ρ H (λx H₁=>cL P C b ρ H₁ (λy H₂=>nT (jA o₁ x y H₂) λt=>if t then cL P C c ρ H₂ (λz H₃=>nT (jA o₂ y z H₃) λt'=>Q (.bool t') H₃) X else Q (.bool false) H₂) X) X:=rfl
theorem yP:cL P C (.call f args) ρ H Q X=gc P C args ρ H (λvs H'=>C f vs H' Q X) X:=rfl
theorem B4:cL P C (.m k f name o args) ρ H Q X=cL P C o ρ H (λv H₁=>gr H₁ k name v=true/\gc P C args ρ H₁ (λvs H'=>C f (v::vs) H' Q X) X) X:=rfl
theorem x8:cL P C (.n t mu p o args) ρ H Q X=cL P C o ρ H (λv H₁=>ly H₁ v t=true/\gc P C args ρ H₁ (λvs H'=>hM (be P mu p (v::vs) H') Q) X) X:=rfl
theorem CT:cL P C (.new c f args) ρ H Q X=gc P C args ρ H (λvs H'=>C f (.ref (H'.length+1)::vs) (H'++[.ns [] [],.inst c H'.length]) (λv H''=>v=.none/\Q (.ref (H'.length+1)) H'') X) X:=rfl
theorem BD:cL P C (.comp mu elt it none) ρ H Q X=cL P C it ρ H (λv H₁=>∃items,pY H₁ v=some items/\items.length<=aB/\
   kF (λx H' K=>cL P C elt (ρ++[some x]) H' (λy H''=>K (some y) H'') X)
    (λH'=>pY H' v=some items) items [] H₁ (λys H₂=>hM (if mu then kI (.lst ys) H₂ else some (.lst ys,H₂)) Q)) X:=rfl
theorem uo:cL P C (.comp mu elt it (some c)) ρ H Q X=cL P C it ρ H (λv H₁=>∃items,pY H₁ v=some items/\items.length<=aB/\
   kF (λx H' K=>cL P C c (ρ++[some x]) H' (λb H₂=>nT (gb b) λt=>if t then cL P C elt (ρ++[some x]) H₂ (λy H''=>K (some y) H'') X else K none H₂) X)
    (λH'=>pY H' v=some items) items [] H₁ (λys H₂=>hM (if mu then kI (.lst ys) H₂ else some (.lst ys,H₂)) Q)) X:=rfl
theorem fP{Q:List V->AH->Prop}:gc P C [] ρ H Q X=Q [] H:=rfl
theorem eQ{Q:List V->AH->Prop}:gc P C (e::es) ρ H Q X=cL P C e ρ H (λv H'=>gc P C es ρ H' (λvs H''=>Q (v::vs) H'') X) X:=rfl
section
theorem wX:sJ P C (.a i e) ρ H K R X=cL P C e ρ H (λv H'=>i<ρ.length/\K (ρ.set i (some v)) H') X:=rfl
theorem ua:sJ P C (.asgTup is e) ρ H K R X=cL P C e ρ H (λv H'=>match fO ρ (.inr is) v with|some ρ'=>K ρ' H'|none=>False) X:=rfl
theorem sY:sJ P C (.s o i e) ρ H K R X=cL P C e ρ H (λx H₁=>cL P C o ρ H₁ (λov H₂=>cL P C i ρ H₂ (λiv H₃=>match d8 ov iv x H₃ with|some H'=>K ρ H'|none=>False) X) X) X:=rfl
theorem tI:sJ P C (.setAttr o n e) ρ H K R X=cL P C e ρ H (λx H₁=>cL P C o ρ H₁ (λov H₂=>match ik ov n x H₂ with|some H'=>K ρ H'|none=>False) X) X:=rfl
theorem z4:sJ P C (.e e) ρ H K R X=cL P C e ρ H (λ_ H'=>K ρ H') X:=rfl
theorem C1:sJ P C (.ite c a b) ρ H K R X=cL P C c ρ H (λv H'=>nT (gb v) λt=>if t then a8 P C a ρ H' K R X else a8 P C b ρ H' K R X) X:=rfl
theorem qM:sJ P C (.f rev tgt e body) ρ H K R X=cL P C e ρ H (λv H₁=>∃items,jB rev H₁ v=some items/\items.length<=aB/\
   pR (λx ρ' H' K'=>match fO ρ' tgt x with|some ρ''=>a8 P C body ρ'' H' K' R (λ_ _=>False)|none=>False)
    (λH'=>jB rev H' v=some items) items ρ H₁ K) X:=rfl
theorem yf:sJ P C (.while_ c body) ρ H K R X=∃k,lE (λρ' H' K₁ K₂=>cL P C c ρ' H' (λv H''=>nT (gb v) λt=>if t then a8 P C body ρ' H'' K₁ R (λ_ _=>False)else K₂ ρ' H'') (λ_ _=>False)) k ρ H K:=rfl
theorem xf:sJ P C (.ret e) ρ H K R X=cL P C e ρ H R X:=rfl
theorem xV:sJ P C (.raise c) ρ H K R X=X c H:=rfl
theorem qe:a8 P C (s::ss) ρ H K R X=sJ P C s ρ H (λρ' H'=>a8 P C ss ρ' H' K R X) R X:=rfl
end
theorem lK:aQ P (n+1) f args H Q X=match P.fns f with
  |some fn=>args.length=fn.arity/\
    a8 P (aQ P n) fn.body (args.map some++bO fn.extra none) H (λ_ H'=>M1 H Q .none H') (λv H'=>M1 H Q v H') (K5 H X)
  |none=>False:=rfl
end
end Mine
end
noncomputable section
namespace Mine
end Mine
end
noncomputable section
namespace Mine
open PySem PySem.Calls PyProof.Rows
abbrev dH:=List Addr
abbrev HP:=PySem.Heap
structure Cx where
 prog:Program
 w:World
 base:HP
 mg:Str->Option Value
 mb:Str->Option Value
 P:Prog
 os:OsState
 fad:Nat->Addr
 fdat:Nat->FuncData
 xcls:Nat->Addr
 ccls:Nat->Addr
noncomputable def kR:Nat:=2 ^ 40
noncomputable abbrev Cx.M(c:Cx):Model:=model c.prog c.w
noncomputable abbrev Cx.kd(c:Cx):KeyKind c.prog c.w Str:=strKind c.prog c.w
noncomputable def toS(s:List Char):Str:=⟨(s.map Char.toNat).toArray⟩
theorem i9(h:toS a=toS b):a=b:=by
 haveI h1:(a.map Char.toNat)=b.map Char.toNat:=by
  haveI:=congrArg (λx:Str=>x.cps.toList) h
  simpa [toS] using this
 exact(List.map_inj_right (λx y e=>Char.toNat_inj.mp e)).mp h1
theorem eT{α:Type}{p:Prop}[Decidable p]{a:Option α}{x:α}(h:(if p then a else none)=some x):p/\a=some x:=by
 by_cases hp:p
 ·rw [if_pos hp]at h;exact⟨hp,h⟩
 ·rw [if_neg hp]at h;exact fm h
theorem dg{α:Type}{p:Prop}[Decidable p]{a x:α}(h:(if p then some a else none)=some x):p/\a=x:=by haveI h:=eT h;exact⟨h.1,aj h.2⟩
theorem cb{α β:Type}{o:Option α}{f:α->Option β}{x:β}(h:o.bind f=some x):∃a,o=some a/\f a=some x:=by
 induction o with
 |none=>exact fm h
 |some a=>exact⟨a,rfl,h⟩
theorem dW{α β:Type}{o:Option α}{f:α->β}{x:β}(h:o.map f=some x):∃a,o=some a/\f a=x:=by
 cases o with
 |none=>cases h
 |some a=>exact⟨a,rfl,aj h⟩
theorem O.lst_i(o:O):Is (o.lst) λvs=>o=.list vs:=by cases o<;>first|exact rfl|exact trivial
theorem O.dct_i(o:O):Is (o.dct) λd=>o=.dict d.1 d.2:=by cases o<;>first|exact rfl|exact trivial
theorem V.txt_i(v:V):Is (v.txt) λs=>v=.str s:=by cases v<;>first|exact rfl|exact trivial
theorem V.txt_is{v:V}{s:List Char}(h:v.txt=some s):v=.str s:=(V.txt_i _).of h
theorem V.num_i(v:V):Is (v.num) λi=>v=.int i:=by cases v<;>first|exact rfl|exact trivial
theorem V.num_is{v:V}{i:Int}(h:v.num=some i):v=.int i:=(V.num_i _).of h
theorem V.at_i(v:V):Is (v.at) λi=>v=.ref i:=by cases v<;>first|exact rfl|exact trivial
theorem CH(H:AH)(v:V):Is (qo H v) λp=>v=.ref p.1/\H[p.1]? =some (.list p.2):=
 (V.at_i v).bind λi h1=>(Is.self.bind λo h3=>(O.lst_i o).imp (R':=λvs=>H[i]? =some (.list vs)) λ_ h4=>h4▸h3).bind λ_ h5=>⟨h1,h5⟩
theorem mf(h:qo H v=some p):v=.ref p.1/\H[p.1]? =some (.list p.2):=(CH H v).of h
inductive VwR(H:AH)(vs:List V):V->Prop
 |lst:VwR H vs (.lst vs)
 |ref {i:Nat}:H[i]? =some (.list vs)->VwR H vs (.ref i)
theorem IX(H:AH)(v:V):Is (d7 H v) λvs=>VwR H vs v:=by
 cases v with
 |lst ws=>exact .lst
 |ref i=>exact Is.self.bind λo h1=>(O.lst_i o).imp λ_ h2=>.ref (h2▸h1)
 |_=>exact trivial
theorem CY(h:d7 H v=some vs):VwR H vs v:=(IX H v).of h
inductive DwR(H:AH)(d:List (List Char)×List V):V->Prop
 |dct:DwR H d (.dct d.1 d.2)
 |ref {i:Nat}:H[i]? =some (.dict d.1 d.2)->DwR H d (.ref i)
theorem DD(H:AH)(v:V):Is (ju H v) λd=>DwR H d v:=by
 cases v with
 |dct ks ws=>exact .dct
 |ref i=>exact Is.self.bind λo h1=>(O.dct_i o).imp λ_ h2=>.ref (h2▸h1)
 |_=>exact trivial
theorem Ak(h:ju H v=some d):DwR H d v:=(DD H v).of h
mutual
inductive VR(c:Cx)(as:dH)(X:List Addr)(h:HP):V->Value->Prop
 |none:VR c as X h .none .none
 |bool (b:Bool):VR c as X h (.bool b) (.bool b)
 |int (i:Int) (t:Tok):VR c as X h (.int i) (.int i t)
 |str (s:List Char) (t:Tok):s.length<=kR->VR c as X h (.str s) (.str (toS s) t)
 |tup {a:Addr} {items:Array Value} {n:Nat} {vs:List V}:a∉as->a∉X->h.get? a=some {cls:=.type "tuple",data:=.seq items n}->VRs c as X h vs items.toList->vs.length<=kR->VR c as X h (.tup vs) (.ref a)
 |lst {a:Addr} {items:Array Value} {vs:List V}:a∉as->a∉X->h.PlainList a items->VRs c as X h vs items.toList->vs.length<=kR->VR c as X h (.lst vs) (.ref a)
 |dct {a:Addr} {ks:List (List Char)} {vs:List V} {cs:List Value}:a∉as->a∉X->(a==sysModules)=false->h.DictOf c.kd a ((ks.map toS).zip cs)->ks.length=cs.length->VRs c as X h vs cs->vs.length<=kR->VR c as X h (.dct ks vs) (.ref a)
 |rng {r:Addr} {a b:Int} {t₀ t₁ t₂:Tok}:r∉as->r∉X->IsRange h r a b 1 t₀ t₁ t₂->cK a=true->cK b=true->VR c as X h (.rng a b) (.ref r)
 |ref {i:Nat} {a:Addr}:as[i]? =some a->VR c as X h (.ref i) (.ref a)
inductive VRs(c:Cx)(as:dH)(X:List Addr)(h:HP):List V->List Value->Prop
 |nil:VRs c as X h [] []
 |cons {v:V} {vs:List V} {x:Value} {cs:List Value}:VR c as X h v x->VRs c as X h vs cs->VRs c as X h (v::vs) (x::cs)
end
inductive StrR(s:List Char):Value->Prop
 |str (t:Tok):s.length<=kR->StrR s (.str (toS s) t)
inductive IntR(i:Int):Value->Prop
 |int (t:Tok):IntR i (.int i t)
inductive TupR(c:Cx)(as:dH)(X:List Addr)(h:HP)(vs:List V):Value->Prop
 |tup {a:Addr} {items:Array Value} {n:Nat}:a∉as->a∉X->h.get? a=some {cls:=.type "tuple",data:=.seq items n}->VRs c as X h vs items.toList->vs.length<=kR->TupR c as X h vs (.ref a)
inductive LstR(c:Cx)(as:dH)(X:List Addr)(h:HP)(vs:List V):Value->Prop
 |lst {a:Addr} {items:Array Value}:a∉as->a∉X->h.PlainList a items->VRs c as X h vs items.toList->vs.length<=kR->LstR c as X h vs (.ref a)
inductive DctR(c:Cx)(as:dH)(X:List Addr)(h:HP)(ks:List (List Char))(vs:List V):Value->Prop
 |dct {a:Addr} {cs:List Value}:a∉as->a∉X->(a==sysModules)=false->h.DictOf c.kd a ((ks.map toS).zip cs)->ks.length=cs.length->VRs c as X h vs cs->vs.length<=kR->DctR c as X h ks vs (.ref a)
inductive RngR(as:dH)(X:List Addr)(h:HP)(a b:Int):Value->Prop
 |rng {r:Addr} {t₀ t₁ t₂:Tok}:r∉as->r∉X->IsRange h r a b 1 t₀ t₁ t₂->cK a=true->cK b=true->RngR as X h a b (.ref r)
inductive RefR(as:dH)(i:Nat):Value->Prop
 |ref {a:Addr}:as[i]? =some a->RefR as i (.ref a)
def VI(c:Cx)(as:dH)(X:List Addr)(h:HP)(v:V)(cv:Value):Prop:=match v with
 |.none=>cv=.none
 |.bool b=>cv=.bool b
 |.int i=>IntR i cv
 |.str s=>StrR s cv
 |.tup vs=>TupR c as X h vs cv
 |.lst vs=>LstR c as X h vs cv
 |.dct ks vs=>DctR c as X h ks vs cv
 |.rng a b=>RngR as X h a b cv
 |.ref i=>RefR as i cv
theorem VR.inv(r:VR c as X h v cv):VI c as X h v cv:=by
 cases r with
 |none=>exact rfl
 |bool b=>exact rfl
 |int i t=>exact .int t
 |str s t hb=>exact .str t hb
 |tup h1 h2 h3 h4 h5=>exact .tup h1 h2 h3 h4 h5
 |lst h1 h2 h3 h4 h5=>exact .lst h1 h2 h3 h4 h5
 |dct h1 h2 h3 h4 h5 h6 h7=>exact .dct h1 h2 h3 h4 h5 h6 h7
 |rng h1 h2 h3 h4 h5=>exact .rng h1 h2 h3 h4 h5
 |ref h1=>exact .ref h1
section
variable {c:Cx}{as as':dH}{X:List Addr}{h h':HP}
theorem VRs.all{vs:List V}{cs:List Value}(r:VRs c as X h vs cs)(R:List V->List Value->Prop)(hn:R [] [])(hc:∀v x vs cs,VR c as X h v x->R vs cs->R (v::vs) (x::cs)):R vs cs:=
 VRs.rec (motive_1:=λ_ _ _=>True) (motive_2:=λvs cs _=>R vs cs) trivial (λ_=>trivial) (λ_ _=>trivial) (λ_ _ _=>trivial) (λ_ _ _ _ _ _=>trivial) (λ_ _ _ _ _ _=>trivial) (λ_ _ _ _ _ _ _ _=>trivial) (λ_ _ _ _ _=>trivial) (λ_=>trivial) hn (λa _ _ ih=>hc _ _ _ _ a ih) r
theorem VRs.length{vs:List V}{cs:List Value}(r:VRs c as X h vs cs):vs.length=cs.length:=r.all (λvs cs=>vs.length=cs.length) rfl λ_ _ _ _ _ ih=>congrArg (·+1) ih
theorem VRs.get{vs:List V}{cs:List Value}{j:Nat}{v:V}(r:VRs c as X h vs cs):vs[j]? =some v->∃x,cs[j]? =some x/\VR c as X h v x:=
 r.all (λvs cs=>∀j:Nat,vs[j]? =some v->∃x,cs[j]? =some x/\VR c as X h v x) (λ_ e=>fm e) (λ_ _ _ _ a ih j=>j.rec (λe=>⟨_,rfl,aj e▸a⟩) λj _ e=>ih j e) j
theorem VRs.get'{vs:List V}{cs:List Value}{j:Nat}{x:Value}(r:VRs c as X h vs cs):cs[j]? =some x->∃v,vs[j]? =some v/\VR c as X h v x:=
 r.all (λvs cs=>∀j:Nat,cs[j]? =some x->∃v,vs[j]? =some v/\VR c as X h v x) (λ_ e=>fm e) (λ_ _ _ _ a ih j=>j.rec (λe=>⟨_,rfl,aj e▸a⟩) λj _ e=>ih j e) j
theorem VRs.append{vs ws:List V}{cs ds:List Value}(r:VRs c as X h vs cs)(k:VRs c as X h ws ds):VRs c as X h (vs++ws) (cs++ds):=r.all (λvs cs=>VRs c as X h (vs++ws) (cs++ds)) k λ_ _ _ _ a ih=>.cons a ih
theorem VRs.take{vs:List V}{cs:List Value}(n:Nat)(r:VRs c as X h vs cs):VRs c as X h (vs.take n) (cs.take n):=
 r.all (λvs cs=>∀n,VRs c as X h (vs.take n) (cs.take n)) (λn=>n.rec .nil λ_ _=>.nil) (λ_ _ _ _ a ih n=>n.rec .nil λn _=>.cons a (ih n)) n
theorem VRs.drop{vs:List V}{cs:List Value}(n:Nat)(r:VRs c as X h vs cs):VRs c as X h (vs.drop n) (cs.drop n):=
 (r.all (λvs cs=>VRs c as X h vs cs/\∀n,VRs c as X h (vs.drop n) (cs.drop n)) ⟨.nil,λn=>n.rec .nil λ_ _=>.nil⟩ λ_ _ _ _ a ih=>⟨.cons a ih.1,λn=>n.rec (.cons a ih.1) λn _=>ih.2 n⟩).2 n
theorem VRs.reverse{vs:List V}{cs:List Value}(r:VRs c as X h vs cs):VRs c as X h vs.reverse cs.reverse:=
 r.all (λvs cs=>VRs c as X h vs.reverse cs.reverse) .nil λ_ _ _ _ a ih=>by rw [Na,Na];exact ih.append (.cons a .nil)
theorem VRs.set{vs:List V}{cs:List Value}{v:V}{x:Value}(n:Nat)(r:VRs c as X h vs cs)(k:VR c as X h v x):VRs c as X h (vs.set n v) (cs.set n x):=
 (r.all (λvs cs=>VRs c as X h vs cs/\∀n,VRs c as X h (vs.set n v) (cs.set n x)) ⟨.nil,λn=>n.rec .nil λ_ _=>.nil⟩ λ_ _ _ _ a ih=>⟨.cons a ih.1,λn=>n.rec (.cons k ih.1) λn _=>.cons a (ih.2 n)⟩).2 n
theorem VRs.replicate(k:VR c as X h v x):∀n:Nat,VRs c as X h (bO n v) (bO n x)
 |0=>.nil
 |n+1=>by simp only [pi];exact .cons k (VRs.replicate k n)
end
/- a frame stands twice in X -/
def SameO(X:List Addr)(b:Addr)(o o':Obj):Prop:=o'=o\/(2<=X.count b/\(∃es n,o.data=.dict es n)/\∃sl,o'={o with slots:=sl})
theorem SameO.trans(x:SameO X b o₁ o₂)(y:SameO X b o₂ o₃):SameO X b o₁ o₃:=by
 rcases x with rfl|⟨h1,h2,sl,rfl⟩
 ·exact y
 ·rcases y with rfl|⟨_,_,sl',rfl⟩
  ·exact .inr ⟨h1,h2,sl,rfl⟩
  ·exact .inr ⟨h1,h2,sl',rfl⟩
theorem SameO.eq(x:SameO X b o o')(h:∀es n,o.data≠.dict es n):o'=o:=by
 refine Or.elim x (λe=>?_) (λq_=>?_)
 ·exact e
 ·obtain ⟨_,⟨es,n,h1⟩,_⟩:=q_;exact absurd h1 (h es n)
theorem SameO.out(x:SameO X b o o')(h:b∉X):o'=o:=by
 refine Or.elim x (λe=>?_) (λq_=>?_)
 ·exact e
 ·(haveI h1:=q_.1;haveI _:=q_.2);replace h1:=(jo h)▸h1;cases h1
theorem SameO.mono(x:SameO X b o o')(h:2<=X.count b->2<=Y.count b):SameO Y b o o':=x.imp id λq=>⟨h q.1,q.2⟩
def Kept(as:dH)(X:List Addr)(h h':HP):Prop:=∀b o,h.get? b=some o->b∉as->∃o',h'.get? b=some o'/\SameO X b o o'
theorem Kept.refl(as:dH)(X:List Addr)(h:HP):Kept as X h h:=λ_ o e _=>⟨o,e,.inl rfl⟩
def KeptX(as:dH)(X Y:List Addr)(h h':HP):Prop:=∀b o,h.get? b=some o->b∉as->b∉Y->∃o',h'.get? b=some o'/\SameO X b o o'
def VK(as:dH)(X:List Addr)(h h':HP):Prop:=∀b o,h.get? b=some o->b∉as->b∉X->h'.get? b=some o
theorem Kept.y(k:Kept as X h h')(Y:List Addr):KeptX as X Y h h':=λb o e hb _=>k b o e hb
theorem Kept.x(k:Kept as X h h'):VK as X h h':=λb o e hb hx=>by refine av (k b o e hb) ?_;intro o' e' s;simp only [e',s.out hx]
theorem KeptX.v(k:KeptX as X Y h h')(hY:∀b∈Y,b∈X):VK as X h h':=λb o e hb hx=>by refine av (k b o e hb λq=>hx (hY b q)) ?_;intro o' e' s;simp only [e',s.out hx]
structure Ext(as:dH)(h:HP)(as':dH):Prop where
 old:∀(i:Nat) (x:Addr),as[i]? =some x->as'[i]? =some x
 new:∀a,a∈as'->a∈as\/h.get? a=none
theorem Ext.refl(as:dH)(h:HP):Ext as h as:=⟨λ_ _ e=>e,λ_ e=>.inl e⟩
theorem Ext.trans(x:Ext as h as₁)(k:Kept as X h h₁)(y:Ext as₁ h₁ as₂):Ext as h as₂:=
 ⟨λi a e=>y.old i a (x.old i a e),λa ha=>(y.new a ha).elim (x.new a) λe1=>(Classical.em (a∈as)).imp id λhm=>fS (o:=h.get? a) id λo hq=>av (k a o hq hm) λ_ e _=>fm (e1.symm.trans e)⟩
theorem Ext.out(x:Ext as h as')(e:h.get? b=some o)(hb:b∉as):b∉as':=λq=>(x.new b q).elim hb λq=>fm (q.symm.trans e)
theorem Kept.trans(k:Kept as X h h₁)(x:Ext as h as₁)(k':Kept as₁ X h₁ h₂):Kept as X h h₂:=λb o e hb=>av (k b o e hb) λo₁ e₁ s₁=>(k' b o₁ e₁ (x.out e hb)).imp λo₂ q=>⟨q.1,s₁.trans q.2⟩
theorem IsRange.same(x:IsRange h r a b 1 t₀ t₁ t₂)(k:∀o,h.get? r=some o->h'.get? r=some o):IsRange h' r a b 1 t₀ t₁ t₂:=k _ x
theorem KeptX.get(k:KeptX as X Y h h')(e:h.get? b=some o)(hb:b∉as)(hx:b∉Y)(hc:∀es n,o.data≠.dict es n):h'.get? b=some o:=by refine av (k b o e hb hx) ?_;intro o' e' s;simp only [e',s.eq hc]
theorem Kept.get(k:Kept as X h h')(e:h.get? b=some o)(hb:b∉as)(hc:∀es n,o.data≠.dict es n):h'.get? b=some o:=by refine av (k b o e hb) ?_;intro o' e' s;simp only [e',s.eq hc]
theorem DictOf.same{c:Cx}{h h':HP}{a:Addr}{kvs:List (Str×Value)}(x:h.DictOf c.kd a kvs)(k:∀o,h.get? a=some o->h'.get? a=some o):h'.DictOf c.kd a kvs:=by refine ja x ?_;intro o es ep ho hx r;exact⟨o,es,ep,k o ho,hx,r⟩
theorem VR.gen(hk:∀a o,a∉as->a∉X->h.get? a=some o->a∉as'/\a∉X'/\h'.get? a=some o)
  (hr:∀(i:Nat) x,as[i]? =some x->as'[i]? =some x)(r:VR c as X h v y):VR c as' X' h' v y:=
 VR.rec (motive_1:=λv y _=>VR c as' X' h' v y) (motive_2:=λvs cs _=>VRs c as' X' h' vs cs) .none .bool .int .str
  (λha hx ho _ hb ih=>let q:=hk _ _ ha hx ho;.tup q.1 q.2.1 q.2.2 ih hb) (λha hx hp _ hb ih=>hp.elim λm ho=>let q:=hk _ _ ha hx ho;.lst q.1 q.2.1 ⟨m,q.2.2⟩ ih hb)
  (λha hx hsm hd hl _ hb ih=>ja hd λo es ep ho hx' r=>let q:=hk _ _ ha hx ho;.dct q.1 q.2.1 hsm ⟨o,es,ep,q.2.2,hx',r⟩ hl ih hb) (λhr hx hi h1 h2=>let q:=hk _ _ hr hx hi;.rng q.1 q.2.1 q.2.2 h1 h2) (λe=>.ref (hr _ _ e)) .nil (λ_ _ i1 i2=>.cons i1 i2) r
theorem VRs.gen(hk:∀a o,a∉as->a∉X->h.get? a=some o->a∉as'/\a∉X'/\h'.get? a=some o)
  (hr:∀(i:Nat) x,as[i]? =some x->as'[i]? =some x)(r:VRs c as X h vs cs):VRs c as' X' h' vs cs:=
 VRs.all r (λvs cs=>VRs c as' X' h' vs cs) .nil (λ_ _ _ _ a ih=>.cons (VR.gen hk hr a) ih)
theorem VR.keepX(k:VK as X h h')(x:Ext as h as')(r:VR c as X h v y):VR c as' X h' v y:=
 VR.gen (λ_ _ ha hx ho=>⟨x.out ho ha,hx,k _ _ ho ha hx⟩) x.old r
theorem VRs.keepX(k:VK as X h h')(x:Ext as h as')(r:VRs c as X h v y):VRs c as' X h' v y:=
 VRs.gen (λ_ _ ha hx ho=>⟨x.out ho ha,hx,k _ _ ho ha hx⟩) x.old r
theorem VR.keep(k:Kept as X h h')(x:Ext as h as')(z:VR c as X h v y):VR c as' X h' v y:=z.keepX k.x x
theorem VRs.keep(k:Kept as X h h')(x:Ext as h as')(z:VRs c as X h v y):VRs c as' X h' v y:=z.keepX k.x x
theorem VR.frames(hy:∀b o,h.get? b=some o->b∉X->b∉Y)(r:VR c as X h v y):VR c as Y h v y:=
 VR.gen (λ_ _ ha hx ho=>⟨ha,hy _ _ ho hx,ho⟩) (λ_ _ e=>e) r
theorem VRs.frames(hy:∀b o,h.get? b=some o->b∉X->b∉Y)(r:VRs c as X h v y):VRs c as Y h v y:=
 VRs.gen (λ_ _ ha hx ho=>⟨ha,hy _ _ ho hx,ho⟩) (λ_ _ e=>e) r
inductive InstAt(c:Cx)(as:dH)(h:HP)(a:Addr)(k d:Nat):Prop
 |mk (dx:Addr) (ob:Obj):as[d]? =some dx->h.get? a=some ob->ob.cls=.ref (c.ccls k)->ob.dict=some dx->(∀cd,ob.data≠.cls cd)->InstAt c as h a k d
def OR(c:Cx)(as:dH)(X:List Addr)(h:HP)(a:Addr):O->Prop
 |.list vs=>vs.length<=kR/\∃items,h.PlainList a items/\VRs c as X h vs items.toList
 |.dict ks vs=>vs.length<=kR/\(a==sysModules)=false/\∃cs,h.DictOf c.kd a ((ks.map toS).zip cs)/\ks.length=cs.length/\VRs c as X h vs cs
 |.inst k d=>InstAt c as h a k d
 |.ns ks vs=>vs.length<=kR/\∃cs mA,h.Ns1 a mA/\ks.length=cs.length/\VRs c as X h vs cs/\∀n,mA n=((ks.map toS).zip cs).lookup n
structure SR(c:Cx)(as:dH)(X:List Addr)(H:AH)(s:Shared):Prop where
 len:as.length=H.length
 stays:c.base.StaysIn s.heap
 gens:s.gens= #[]
 os:s.os=c.os
 objs:∀(i:Nat) (a:Addr),as[i]? =some a->c.base.get? a=none/\a∉X/\∃o,H[i]? =some o/\OR c as X s.heap a o
 inj:∀(i j:Nat) (a:Addr),as[i]? =some a->as[j]? =some a->i=j
 xs:∀b∈X,∃o,s.heap.get? b=some o
theorem OR.keepX{c:Cx}{as:dH}{X:List Addr}{h h':HP}{a:Addr}{o:O}(k:VK as X h h')(ha:∀ob,h.get? a=some ob->h'.get? a=some ob):OR c as X h a o->OR c as X h' a o:=by
 intro x
 induction o with
 |list vs=>obtain⟨hb,items,⟨n,e⟩,r⟩:=x;exact⟨hb,items,⟨n,ha _ e⟩,r.keepX k (.refl ..)⟩
 |dict ks vs=>refine dQ x ?_;intro hb hsm r_3;refine c7 r_3 ?_;intro cs hd hl r;exact⟨hb,hsm,cs,DictOf.same hd ha,hl,r.keepX k (.refl ..)⟩
 |inst k d=>obtain⟨dx,ob,e1,e2,r1,r2,r3⟩:=x;exact⟨dx,ob,e1,ha _ e2,r1,r2,r3⟩
 |ns ks vs=>obtain⟨hb,cs,mA,hn,hl,r,hm⟩:=x;exact⟨hb,cs,mA,hn.at ha,hl,r.keepX k (.refl ..),hm⟩
theorem OR.here(x:OR c as X h a o):∃ob,h.get? a=some ob:=by
 induction o with
 |list vs=>obtain⟨_,_,⟨n,e⟩,_⟩:=x;exact⟨_,e⟩
 |dict ks vs=>obtain⟨_,_,_,⟨o,_,_,e,hx,_⟩,_⟩:=x;exact⟨_,e⟩
 |inst k d=>obtain⟨_,_,_,e⟩:=x;exact⟨_,e⟩
 |ns ks vs=>obtain⟨_,_,_,⟨o,_,_,e,_⟩,_⟩:=x;exact⟨o,e⟩
theorem OR.frames(hy:∀b o,h.get? b=some o->b∉X->b∉Y):OR c as X h a o->OR c as Y h a o:=by
 intro x
 induction o with
 |list vs=>refine cY x λhb q_=>dM q_ λitems q_=>cY q_ λhp r=>?_;exact⟨hb,items,hp,r.frames hy⟩
 |dict ks vs=>obtain⟨hb,hsm,cs,hd,hl,r⟩:=x;exact⟨hb,hsm,cs,hd,hl,r.frames hy⟩
 |inst k d=>exact x
 |ns ks vs=>obtain⟨hb,cs,mA,hn,hl,r,hm⟩:=x;exact⟨hb,cs,mA,hn,hl,r.frames hy,hm⟩
noncomputable def only(h:HP)(p:Addr->Bool):HP:={h with objs:=h.objs.mapIdx λi o=>if p i=true then o else {cls:=.none,dict:=none,data:=.freed,slots:=#[]}}
theorem zD(a:Addr):(only h p).get? a=if p a=true then h.get? a else none:=by
 unfold only Heap.get?;rw [Array.getElem?_mapIdx];refine fS (o:=h.objs[a]?) (λhe=>?_) (λo he=>?_)
 ·rw [he];simp
 ·rw [he];by_cases hp:p a=true
  ·simp [hp]
  ·simp [hp]
def Grown(h h':HP):Prop:=∀b o,h.get? b=some o->h'.get? b=some o
theorem Grown.refl(h:HP):Grown h h:=λ_ _ e=>e
theorem Grown.push(h:HP)(o:Obj):Grown h (h.push o):=λ_ _ e=>bG _ e
theorem Grown.trans(a:Grown h h')(b:Grown h' h''):Grown h h'':=λx o e=>b x o (a x o e)
theorem Grown.kept(g:Grown h h')(as:dH)(X:List Addr):Kept as X h h':=λb o e _=>⟨o,g b o e,.inl rfl⟩
theorem SR.keepX(x:SR c as X H s)(k:VK [] X s.heap s'.heap)(hst:c.base.StaysIn s'.heap)(hx:∀b∈X,∃o,s'.heap.get? b=some o)(hg:s'.gens=s.gens)(ho:s'.os=s.os):SR c as X H s' where
 len:=x.len
 stays:=hst
 gens:=hg.trans x.gens
 os:=ho.trans x.os
 objs:=λi a e=>by refine dQ (x.objs i a e) ?_;intro h1 h2 r_3;refine av r_3 ?_;intro o h3 h4;exact⟨h1,h2,o,h3,h4.keepX (λb o e _ hb=>k b o e (λq=>nomatch q) hb) λob e=>k _ _ e (λq=>nomatch q) h2⟩
 inj:=x.inj
 xs:=hx
theorem SR.grow(x:SR c as X H s)(g:Grown s.heap s'.heap)(hg:s'.gens=s.gens)(ho:s'.os=s.os):SR c as X H s':=
 x.keepX (g.kept [] X).x (λb o e=>g b o (x.stays b o e)) (λb hb=>(x.xs b hb).imp λo e=>g b o e) hg ho
theorem SR.frames(x:SR c as X H s)(hy:∀b o,s.heap.get? b=some o->b∉X->b∉Y)(hx:∀b∈Y,∃o,s.heap.get? b=some o):SR c as Y H s where
 len:=x.len
 stays:=x.stays
 gens:=x.gens
 os:=x.os
 objs:=λi a e=>by refine dQ (x.objs i a e) ?_;intro h1 h2 r_3;refine av r_3 ?_;intro o h3 h4;obtain⟨ob,e'⟩:=h4.here;exact⟨h1,hy _ _ e' h2,o,h3,OR.frames hy h4⟩
 inj:=x.inj
 xs:=hx
inductive Res(c:Cx)(as:dH)(X:List Addr)(h:HP)(Q:QE)(x:Value)(s':Shared):Prop
 |mk (v:V) (H':AH) (as':dH):Ext as h as'->SR c as' X H' s'->Kept as X h s'.heap->VR c as' X s'.heap v x->Q v H'->Res c as X h Q x s'
theorem Res.grow(S:SR c as X H s)(g:Grown s.heap s'.heap)(hg:s'.gens=s.gens)(ho:s'.os=s.os)(hv:VR c as X s'.heap v x)(q:Q v H):Res c as X s.heap Q x s':=
 ⟨v,H,as,.refl ..,S.grow g hg ho,g.kept as X,hv,q⟩
theorem Res.now(S:SR c as X H s)(hv:VR c as X s.heap v x)(q:Q v H):Res c as X s.heap Q x {s with toks:=tk}:=
 Res.grow (s':={s with toks:=tk}) S (.refl _) rfl rfl hv q
theorem VR.grow(g:Grown h h')(k:VR c as X h v x):VR c as X h' v x:=k.keep (g.kept as X) (.refl ..)
theorem VRs.grow(g:Grown h h')(k:VRs c as X h v x):VRs c as X h' v x:=k.keep (g.kept as X) (.refl ..)
def Fr(as:dH)(h:HP)(a:Addr):Prop:=a∈as\/h.get? a=none
theorem Kept.less(k:Kept as Y h h')(hY:∀b,2<=Y.count b->2<=X.count b\/Fr as h b):Kept as X h h':=λb o e hb=>by refine av (k b o e hb) ?_;intro o' e' s;exact⟨o',e',s.mono λq=>(hY b q).elim id λr=>r.elim (λr=>absurd r hb) λr=>by replace e:=r.symm.trans e;cases e⟩
theorem Kept.more(k:Kept as X h h')(hY:∀b,X.count b<=Y.count b):Kept as Y h h':=λb o e hb=>by refine av (k b o e hb) ?_;intro o' e' s;exact⟨o',e',s.mono λq=>aa q (hY b)⟩
theorem Kept.one(k:Kept as (a::X) h h')(hx:a∉X)(e:h.get? a=some o)(ha:a∉as):h'.get? a=some o:=by
 refine av (k a o e ha) ?_;intro o' e' s;rcases s with rfl|⟨q,_⟩
 ·exact e'
 ·rw [nJ,jo hx]at q;exact absurd q (by decide)
theorem x9{a b:Addr}(h:2<=(a::X).count b):b=a\/2<=X.count b:=by
 by_cases e:b=a
 ·exact .inl e
 ·rw [List.count_cons_of_ne (Ne.symm e)]at h;exact .inr h
theorem M4{P:Addr->Prop}{a:Addr}(h:P a)(k:∀b,2<=X.count b->P b):∀b,2<=(a::X).count b->P b:=λb hb=>(x9 hb).elim (λe=>e▸h) (k b)
theorem Grown.none(g:Grown h h')(e:h'.get? q=none):h.get? q=none:=by
 cases hq:h.get? q with
 |none=>rfl
 |some o=>exact fm (e.symm.trans (g _ _ hq))
theorem zL{h:HP}{a b:Addr}{o:Obj}(ea:h.get? a=some o)(eb:h.get? b=none):a≠b:=λq=>fm (eb.symm.trans (q▸ea))
theorem Kept.fr(k:Kept as X h h')(ha:h'.get? a=none):Fr as h a:=by
 by_cases hm:a∈as
 ·exact .inl hm
 ·refine fS (o:=h.get? a) (λhq=>?_) (λo hq=>?_)
  ·exact .inr hq
  ·refine dM (k a o hq hm) λo' q_=>cY q_ λe _=>?_;exact nomatch e.symm.trans ha
theorem Fr.lift(e:Ext as h as₁)(k:Kept as X h h₁)(x:Fr as₁ h₁ a):Fr as h a:=x.elim (e.new a) k.fr
section
variable {c:Cx}{A:Around}{E:Value->Shared->Prop}{s:Shared}{as:dH}{X:List Addr}{H:AH}{Q:QE}
theorem cz:aB<=sizeLine:=by decide
theorem eR:aB+5<=kR:=by decide
theorem rf:(kR:Int)<2 ^ 62:=by decide
theorem ml(h:cK i=true):i.natAbs<2 ^ 41:=by have h:=of_decide_eq_true h;exact cZ ((Int.natAbs_eq i).elim (λe=>bW.mp (bA (mL e.symm) h.2)) λe=>bW.mp (Int.le_of_neg_le_neg (bA h.1 (mL e)))) (by decide:10 ^ 12<2 ^ 41)
theorem ou{i:Int}(h:i.natAbs<2 ^ 41):i.natAbs.log2<41:=by
 by_cases h0:i.natAbs=0
 ·rw [h0];decide
 ·exact (Nat.log2_lt h0).mpr h
theorem BS{i:Int}(h:0<i/\i<=10 ^ 12):i.natAbs.log2<9000:=by exact jW (ou (i:=i) (ml (decide_eq_true ⟨bA (by decide) (eU h.1),h.2⟩))) (by decide)
theorem uu{i:Int}(h:cK i=true):Jy i<=64:=by haveI:=ou (ml h);unfold Jy;split<;>first|exact eW this (by simp+arith only)|decide
theorem gG(S:SR c as X H s):s.heap.objs.size∉as:=λq=>by obtain⟨i,hi⟩:=cB q;refine dQ (S.objs i _ hi) ?_;intro _ _ r_3;refine av r_3 ?_;intro o _ ho;obtain⟨ob,e⟩:=OR.here ho;exact absurd (fB e) (c5 _)
theorem jb(S:SR c as X H s):s.heap.objs.size∉X:=λq=>by refine dM (S.xs _ q) λo e=>?_;exact absurd (fB e) (c5 _)
theorem qE(S:SR c as X H s)(hv:VRs c as X s.heap vs items.toList)(hb:vs.length<=kR)(q:Q (.tup vs) H) :
  Res c as X s.heap Q (.ref s.heap.objs.size) {s with heap:=s.heap.push {cls:=.type "tuple",data:=.seq items n}}:=
 Res.grow (s':={s with heap:=s.heap.push {cls:=.type "tuple",data:=.seq items n}}) S (.push _ _) rfl rfl (.tup (gG S) (jb S) (ba _ rfl) (hv.grow (.push _ _)) hb) q
theorem Aw(S:SR c as X H s)(hv:VRs c as X s.heap vs items.toList)(hb:vs.length<=kR)(q:Q (.lst vs) H) :
  Res c as X s.heap Q (.ref s.heap.objs.size) {s with heap:=s.heap.push {cls:=.type "list",data:=.seq items n}}:=
 Res.grow (s':={s with heap:=s.heap.push {cls:=.type "list",data:=.seq items n}}) S (.push _ _) rfl rfl (.lst (gG S) (jb S) ⟨n,ba _ rfl⟩ (hv.grow (.push _ _)) hb) q
inductive ViewAt(c:Cx)(as:dH)(X:List Addr)(h:HP)(vs:List V)(x:Value):Prop
 |mk (a:Addr) (items:Array Value):x=.ref a->h.PlainList a items->VRs c as X h vs items.toList->vs.length<=kR->a∉X->ViewAt c as X h vs x
theorem e9(S:SR c as X H s)(hv:VR c as X s.heap v x)(e:d7 H v=some vs):ViewAt c as X s.heap vs x:=by
 cases CY e with
 |lst=>cases hv.inv with|lst ha hx hp r hb=>exact⟨_,_,rfl,hp,r,hb,hx⟩
 |ref ho'=>
  cases hv.inv with
  |ref hi=>
   refine dQ (S.objs _ _ hi) ?_;intro _ hx r_3;refine av r_3 ?_;intro o ho hr;replace ho:=ho.symm.trans ho'
   (replace ho:=aj ho;subst ho)
   exact⟨_,hr.2.choose,rfl,hr.2.choose_spec.1,hr.2.choose_spec.2,hr.1,hx⟩
inductive DictAt(c:Cx)(as:dH)(X:List Addr)(h:HP)(d:List (List Char)×List V)(x:Value):Prop
 |mk (a:Addr) (cs:List Value):x=.ref a->(a==sysModules)=false->h.DictOf c.kd a ((d.1.map toS).zip cs)->d.1.length=cs.length->VRs c as X h d.2 cs->d.2.length<=kR->DictAt c as X h d x
theorem l7(S:SR c as X H s)(hv:VR c as X s.heap v x)(e:ju H v=some d):DictAt c as X s.heap d x:=by
 cases Ak e with
 |dct=>cases hv.inv with|dct ha _ hsm hp hl r hb=>exact⟨_,_,rfl,hsm,hp,hl,r,hb⟩
 |ref ho'=>
  cases hv.inv with
  |ref hi=>
   refine dQ (S.objs _ _ hi) ?_;intro _ _ r_3;refine av r_3 ?_;intro o ho hr;replace ho:=ho.symm.trans ho'
   (replace ho:=aj ho;subst ho)
   refine dQ hr ?_;intro hb hsm r_3;refine c7 r_3 ?_;intro cs hp hl r;exact⟨_,cs,rfl,hsm,hp,hl,r,hb⟩
theorem uD(a b:List Char):toS a++toS b=toS (a++b):=by refine(?_:Str.append _ _=_);simp [toS,Str.append]
theorem fw(a:List Char):(toS a).length=a.length:=by simp [toS,Str.length]
theorem uX(S:SR c as X H s)(hx:VR c as X s.heap x cx)(hy:VR c as X s.heap y cy)(ex:d7 H x=some xs)(ey:d7 H y=some ys)
  (hz:xs.length+ys.length<=aB)(q:Q (.lst (xs++ys)) H):wpAny c.M A (binaryOp .Add cx cy) (Res c as X s.heap Q) E s:=by
 replace hx:=e9 S hx ex;obtain⟨a,its,rfl,⟨n,ha⟩,ra,_⟩:=hx;replace hy:=e9 S hy ey;obtain⟨b,its',rfl,⟨n',hb⟩,rb,_⟩:=hy;haveI l1:=ra.length;haveI l2:=rb.length;refine P.add_list ha hb (Aw S ?_ (by rw [ah];haveI:=eR;exact eW hz (eW this (by simp+arith only))) q) ?_
 ·simp only [gZ];exact ra.append rb
 ·rw [<-bJ,<-bJ,<-l1,<-l2];exact aa hz cz
noncomputable def zT:Bop->Operator
 |.add=>.Add|.sub=>.Sub|.mul _=>.Mult|.f=>.FloorDiv|.mod=>.Mod|.pow=>.Pow
inductive Int2R(f:Int->Int->Option Int):V->V->V->Prop
 |mk {a b z:Int}:f a b=some z->Int2R f (.int a) (.int b) (.int z)
theorem zA(f:Int->Int->Option Int)(x y:V):Is (pU f x y) (Int2R f x y):=by
 cases x with
 |int a=>
  cases y with
  |int b=>exact Is.self.map λ_ h1=>.mk h1
  |_=>exact trivial
 |_=>exact trivial
theorem xH(e:pU f x y=some r):Int2R f x y r:=(zA f x y).of e
theorem ye(S:SR c as X H s)(hx:VR c as X s.heap (.tup xs) cx)(hy:VR c as X s.heap (.tup ys) cy)
  (hz:xs.length+ys.length<=aB)(q:Q (.tup (xs++ys)) H):wpAny c.M A (binaryOp .Add cx cy) (Res c as X s.heap Q) E s:=by
 cases hx.inv with
 |@tup a its n ha1 hax ha ra hab=>
  cases hy.inv with
  |@tup b its' n' hb1 hbx hb rb hbb=>
   haveI l1:=ra.length;haveI l2:=rb.length;by_cases e1:its.isEmpty=true
   ·have:its= #[]:=by simpa using e1
    (replace this:=Eq.symm this;subst this)
    cases ra;refine concat_meets ⟨_,ha,rfl⟩ ⟨_,hb,rfl⟩ noFill_tuple_add seq_tuple_add F.slot_tuple_add F.entry_tuple_add (F.args_tuple_add_2 _ _) (AutoSeq1.tuple___add___tuple_tuple_0 _ _ _ _ _ _ e1) ⟨ha,hb,?_⟩;exact Res.now (tk:=s.toks) S (.tup hb1 hbx hb rb hbb) q
   ·by_cases e2:its'.isEmpty=true
    ·haveI:its'= #[]:=by simpa using e2
     subst this;cases rb;refine concat_meets ⟨_,ha,rfl⟩ ⟨_,hb,rfl⟩ noFill_tuple_add seq_tuple_add F.slot_tuple_add F.entry_tuple_add (F.args_tuple_add_2 _ _) (AutoSeq1.tuple___add___tuple_tuple_1 _ _ _ _ _ _ e1 e2) ⟨ha,hb,?_⟩;exact Res.now (tk:=s.toks) S (.tup ha1 hax ha (by simpa using ra) (by simpa using hab)) (by simpa using q)
    ·refine P.add_tuple ha hb e1 e2 (qE S ?_ (by rw [ah];haveI:=eR;exact eW hz (eW this (by simp+arith only))) q) ?_
     ·exact gZ.symm▸ra.append rb
     ·rw [<-bJ,<-bJ,<-l1,<-l2];exact aa hz cz
inductive AddR(H:AH):V->V->V->Prop
 |int (a b:Int):AddR H (.int a) (.int b) (.int (a+b))
 |str {a b:List Char}:a.length+b.length<=aB->AddR H (.str a) (.str b) (.str (a++b))
 |tup {a b:List V}:a.length+b.length<=aB->AddR H (.tup a) (.tup b) (.tup (a++b))
 |lst {x y:V} {xs ys:List V}:d7 H x=some xs->d7 H y=some ys->xs.length+ys.length<=aB->AddR H x y (.lst (xs++ys))
theorem HT(x y:V):Is (L0 H x y) (AddR H x y):=Is.self.bind λ_ h1=>Is.self.bind λ_ h2=>Is.ite λh3=>.lst h1 h2 h3
theorem qK(e:Jf H x y=some r):AddR H x y r:=by
 refine Is.of (R:=AddR H x y) ?_ e;clear e;cases x with
 |int i=>exact(zA _ _ _).imp λ_ h=>by cases h with|mk h=>exact aj h▸.int _ _
 |str a=>
  cases y with
  |str b=>exact Is.ite .str
  |_=>exact trivial
 |tup a=>
  cases y with
  |tup b=>exact Is.ite .tup
  |_=>exact trivial
 |_=>exact HT _ _
theorem Em{o:Bop}{op:Operator}{cx cy:Value}(S:SR c as X H s)(hx:VR c as X s.heap x cx)(hy:VR c as X s.heap y cy)
  (ho:op=zT o)
  (e:AY o x y H=some r)(q:Q r H):wpAny c.M A (binaryOp op cx cy) (Res c as X s.heap Q) E s:=by
 subst ho;have hI:∀{f:Int->Int->Option Int},pU f x y=some r->(∀{a b z:Int} {t t':Tok},f a b=some z->Q (.int z) H->wpAny c.M A (binaryOp (zT o) (.int a t) (.int b t')) (Res c as X s.heap Q) E s)->wpAny c.M A (binaryOp (zT o) cx cy) (Res c as X s.heap Q) E s:=λe k=>by
  cases xH e with
  |mk h=>cases hx.inv;cases hy.inv;exact k h q
 cases o with
 |add=>
  clear hI;cases qK e with
  |int a b=>cases hx.inv;cases hy.inv;exact add_int (Res.now S (.int _ _) q)
  |str h=>
   cases hx.inv;cases hy.inv;refine add_str (λt' tk=>?_) ?_
   ·rw [uD];exact Res.now S (.str _ _ (by rw [ah];exact aa h (aa (ax _ 5) eR))) q
   ·rw [fw,fw];exact aa h cz
  |tup h=>exact ye S hx hy h q
  |lst h1 h2 h=>exact uX S hx hy h1 h2 h q
 |sub=>exact hI e λh q=>by(replace h:=aj h;subst h);exact sub_int (Res.now S (.int _ _) q)
 |mul=>
  exact hI e λh q=>by
   (refine cY (dg h) λh5 e_1=>?_;subst e_1)
   exact PyProof.Rows.mul_int (Res.now S (.int _ _) q) (.of_left (uu (ay.mp h5).1))
 |f=>
  exact hI e λh q=>by
   (refine cY (dg h) λh5 e_1=>?_;subst e_1)
   refine PyProof.Rows.floordiv_int (En h5.1) ?_ (.inl (PyProof.noPylong_of_log2 (BS h5)));rw [Int.fdiv_eq_ediv_of_nonneg _ (eU h5.1)];exact Res.now S (.int _ _) q
 |mod=>
  exact hI e λh q=>by
   (refine cY (dg h) λh5 e_1=>?_;subst e_1)
   refine PyProof.Rows.mod_int (En h5) ?_;rw [Int.fmod_eq_emod_of_nonneg _ (eU h5)];exact Res.now S (.int _ _) q
 |pow=>exact hI e λh q=>by obtain⟨⟨rfl,h1,h2⟩,rfl⟩:=dg h;exact pow_int_small h1 (by exact jE h2 (by simp+arith only)) (by decide) (Res.now S (.int _ _) q)
mutual
noncomputable def pz:V->PyData
 |.none=>.none
 |.bool b=>.bool b
 |.int i=>.int i
 |.str x=>.str (toS x)
 |.tup vs=>.tuple (jk vs)
 |.lst vs=>.list (jk vs)
 |.dct _ _|.rng _ _|.ref _=>.none
noncomputable def jk:List V->List PyData
 |[]=>[]
 |v::vs=>pz v::jk vs
end
theorem xx(s:List Char):PyData.strOk (toS s)=true:=by
 simp only [PyData.strOk,toS,Array.all_eq_true];intro i hi;simp only [gw,ak]at hi;haveI h:((s.map Char.toNat).toArray)[i]=(s[i]).toNat:=by simp
 haveI hv:=(s[i]).valid;simp only [decide_eq_true_eq];have:((s.map Char.toNat).toArray)[i]<0x110000:=by rw [h];exact Or.elim hv (λh=>jW h (by decide)) λh=>h.2
 exact this
theorem jg(v:V):v.data=true->(pz v).canLay0=true/\(pz v).depth=v.depth:=
 V.rec (motive_1:=λv=>v.data=true->(pz v).canLay0=true/\(pz v).depth=v.depth) (motive_2:=λvs=>V.datas vs=true->PyData.canLayAll0 (jk vs)=true/\PyData.depthAll (jk vs)=V.depths vs) (λ_=>⟨rfl,rfl⟩) (λ_ _=>⟨rfl,rfl⟩) (λ_ _=>⟨rfl,rfl⟩) (λs _=>⟨xx s,rfl⟩) (λ_ ih h=>⟨(ih h).1,congrArg (·+1) (ih h).2⟩) (λ_ ih h=>⟨(ih h).1,congrArg (·+1) (ih h).2⟩) (λ_ _ _ h=>absurd h ai) (λ_ _ h=>absurd h ai) (λ_ h=>absurd h ai) (λ_=>⟨rfl,rfl⟩) (λ_ _ i1 i2 h=>haveI h':=ay.mp h;⟨ay.mpr ⟨(i1 h'.1).1,(i2 h'.2).1⟩,congr (congrArg max (i1 h'.1).2) (i2 h'.2).2⟩) v
theorem nV(vs:List V):V.datas vs=true->PyData.canLayAll0 (jk vs)=true/\PyData.depthAll (jk vs)=V.depths vs:=by
 induction vs with
 |nil=>exact λ_=>⟨rfl,rfl⟩
 |cons v vs ih=>exact λh=>haveI h':=ay.mp h;⟨ay.mpr ⟨(jg v h'.1).1,(ih h'.2).1⟩,congr (congrArg max (jg v h'.1).2) (ih h'.2).2⟩
theorem oP(r:VR c as X h v x):v.data=true->∃l,Reads h x (pz v) l:=
 VR.rec (motive_1:=λv x _=>v.data=true->∃l,Reads h x (pz v) l) (motive_2:=λvs xs _=>V.datas vs=true->∃l,ReadsAll h xs (jk vs) l)
  (λ_=>⟨_,.none⟩) (λb _=>⟨_,.bool b⟩) (λi t _=>⟨_,.int i t⟩) (λs t _ _=>⟨_,.str _ t⟩)
  (λ_ _ ho _ _ ih hd=>(ih hd).elim λl q=>⟨l,.tuple ho rfl rfl q⟩) (λ_ _ hp _ _ ih hd=>hp.elim λ_ ho=>(ih hd).elim λ_ q=>⟨_,.list ho rfl rfl q⟩)
  (λ_ _ _ _ _ _ _ _ hd=>absurd hd ai) (λ_ _ _ _ _ hd=>absurd hd ai) (λ_ hd=>absurd hd ai)
  (λ_=>⟨_,.nil⟩) (λ_ _ i1 i2 hd=>(i1 (ay.mp hd).1).elim λ_ q=>(i2 (ay.mp hd).2).elim λ_ q'=>⟨_,.cons q q'⟩) r
theorem kP(r:VRs c as X h vs xs):V.datas vs=true->∃l,ReadsAll h xs (jk vs) l:=
 VRs.all r (λvs xs=>V.datas vs=true->∃l,ReadsAll h xs (jk vs) l) (λ_=>⟨_,.nil⟩) λ_ _ _ _ a ih hd=>(oP a (ay.mp hd).1).elim λ_ q=>(ih (ay.mp hd).2).elim λ_ q'=>⟨_,.cons q q'⟩
theorem CV(a b:List Char):(toS a==toS b)=(a==b):=by
 by_cases h:a=b
 ·subst h;simp
 ·haveI:toS a≠toS b:=λe=>h (i9 e);simp only [beq_eq_false_iff_ne.mpr h,beq_eq_false_iff_ne.mpr this]
theorem l4(v:V):∀w:V,v.data=true->w.data=true->PyData.eqv (pz v) (pz w)=gH v w:=by
 refine V.rec (motive_1:=λv=>∀w:V,v.data=true->w.data=true->PyData.eqv (pz v) (pz w)=gH v w) (motive_2:=λvs=>∀ws:List V,V.datas vs=true->V.datas ws=true->PyData.eqvAll (jk vs) (jk ws)=zW vs ws) ?_ ?_ ?_ ?_ ?_ ?_ (λ_ _ _ _ h=>absurd h ai) (λ_ _ _ h=>absurd h ai) (λ_ _ h=>absurd h ai) ?_ ?_ v
 ·exact λw _ hw=>by cases w<;>first|rfl|exact absurd hw ai
 ·exact λ_ w _ hw=>by cases w<;>first|rfl|exact absurd hw ai
 ·exact λ_ w _ hw=>by cases w<;>first|rfl|exact absurd hw ai
 ·exact λ_ w _ hw=>by cases w<;>first|rfl|exact absurd hw ai|exact CV _ _
 ·intro vs ih w hv hw;cases w with
  |tup ws=>exact ih ws hv hw
  |_=>first|rfl|exact absurd hw ai
 ·intro vs ih w hv hw;cases w with
  |lst ws=>exact ih ws hv hw
  |_=>first|rfl|exact absurd hw ai
 ·exact λws _ _=>by cases ws<;>rfl
 ·intro v vs i1 i2 ws hv hw;cases ws with
  |nil=>rfl
  |cons w ws=>exact haveI h1:=ay.mp hv;haveI h2:=ay.mp hw;congr (congrArg and (i1 w h1.1 h2.1)) (i2 ws h1.2 h2.2)
theorem nO(w:V)(hw:w.data=true)(vs:List V):V.datas vs=true->((jk vs).any λy=>PyData.eqv y (pz w))=vs.any λy=>gH y w:=by
 induction vs with
 |nil=>exact λ_=>rfl
 |cons v vs ih=>exact λh=>haveI h1:=ay.mp h;congr (congrArg or (l4 v w h1.1 hw)) (ih h1.2)
theorem GL(e:rdD v=some v'):(V.data v&&decide (V.depth v<=50))=true/\v'=v:=⟨(dg e).1,(dg e).2.symm⟩
theorem Kz(e:rd H v=some v'):(∃vs,d7 H v=some vs/\tU vs=true/\v'=.lst vs)\/(V.data v&&decide (V.depth v<=50))=true/\v'=v:=by
 cases v with
 |ref i=>refine dM (cb e) λvs q_=>cY q_ λh1 e=>?_;exact .inl ⟨vs,h1,(dg e).1,(dg e).2.symm⟩
 |_=>exact .inr (GL e)
theorem lM(h:tU vs=true):V.datas vs=true/\V.depths vs<=50:=⟨(ay.mp h).1,of_decide_eq_true (ay.mp h).2⟩
inductive RdAt(h:HP)(v':V)(x:Value):Prop
 |mk:v'.data=true->v'.depth<=51->(l:List Addr)->Reads h x (pz v') l->RdAt h v' x
theorem nt(S:SR c as X H s)(hv:VR c as X s.heap v x)(e:rd H v=some v'):RdAt s.heap v' x:=by
 refine Or.elim (Kz e) (λq_=>?_) (λq_=>?_)
 ·obtain ⟨vs,hvs,hd,rfl⟩:=q_;haveI hd:=lM hd;replace S:=e9 S hv hvs;obtain⟨a,items,rfl,⟨n,ho⟩,r,_⟩:=S;obtain⟨l,q⟩:=kP r hd.1;exact⟨hd.1,aA hd.2,_,.list ho rfl rfl q⟩
 ·obtain ⟨hd,rfl⟩:=q_;haveI hd:=ay.mp hd;obtain⟨l,q⟩:=oP hv hd.1;exact⟨hd.1,Nb (of_decide_eq_true hd.2),l,q⟩
theorem NR(S:SR c as X H s)(hx:VR c as X s.heap x cx)(hy:VR c as X s.heap y cy)(ex:rd H x=some x')(ey:rd H y=some y')(hu:A.units+64<cLine)
  (q:Q (.bool (gH x' y')) H):wpAny c.M A (compareOp .Eq cx cy) (Res c as X s.heap Q) E s:=by
 obtain⟨d1,d2,l1,r1⟩:=nt S hx ex;obtain⟨d3,d4,l2,r2⟩:=nt S hy ey;have o1:=jg _ d1;haveI o2:=jg _ d3;refine eq_dataH r1 r2 ?_ ?_ hu ?_
 ·unfold SeqAt.shaped;rw [o1.1,hU,o1.2];exact decide_eq_true (by exact eW d2 (by simp+arith only))
 ·unfold SeqAt.shaped;rw [o2.1,hU,o2.2];exact decide_eq_true (by exact eW d4 (by simp+arith only))
 ·rw [l4 _ _ d1 d3];exact Res.now (tk:=s.toks) S (.bool _) q
theorem Nz(S:SR c as X H s)(hx:VR c as X s.heap x cx)(hy:VR c as X s.heap y cy)(ex:rd H x=some x')(ey:rd H y=some y')(hu:A.units+64<cLine)
  (q:Q (.bool (!gH x' y')) H):wpAny c.M A (compareOp .NotEq cx cy) (Res c as X s.heap Q) E s:=by
 obtain⟨d1,d2,l1,r1⟩:=nt S hx ex;obtain⟨d3,d4,l2,r2⟩:=nt S hy ey;have o1:=jg _ d1;haveI o2:=jg _ d3;refine ne_dataH r1 r2 ?_ ?_ hu ?_
 ·unfold SeqAt.shaped;rw [o1.1,hU,o1.2];exact decide_eq_true (by exact eW d2 (by simp+arith only))
 ·unfold SeqAt.shaped;rw [o2.1,hU,o2.2];exact decide_eq_true (by exact eW d4 (by simp+arith only))
 ·rw [l4 _ _ d1 d3];exact Res.now (tk:=s.toks) S (.bool _) q
theorem yC(S:SR c as X H s)(hx:VR c as X s.heap x cx)(hy:VR c as X s.heap y cy)(e:NP H x y=some b):plainIs cx cy=true/\(cx==cy)=b:=by
 refine Is.of (R:=λb=>plainIs cx cy=true/\(cx==cy)=b) ?_ e;clear e;cases y with
 |none=>
  cases hy.inv;clear hy;cases hx with
  |ref _=>exact Is.ite λ_=>⟨rfl,rfl⟩
  |rng=>exact trivial
  |_=>exact⟨rfl,rfl⟩
 |_=>exact trivial
theorem oh(s:List Char)(ch:Char):(!(Builtin.Str.occurrences (toS s) (toS [ch]) 0 (toS s).length 1).isEmpty)=s.contains ch:=by
 haveI e:toS [ch]=⟨#[ch.toNat]⟩:=rfl;rw [e,StrLaws.found_one];rw [cr];rw [decide_eq_true_eq,bh,toS,aK];constructor
 ·rintro ⟨a,ha,e⟩
  simp only [<-Char.toNat_inj.mp e];exact ha
 ·intro h;exact⟨ch,h,rfl⟩
theorem oo(k:List Char)(t:Tok):c.kd.is (toS k) (.str (toS k) t)=true:=strKind_is c.prog c.w (toS k) t
theorem j7(k:List Char):∀{vs:List V} {cs:List Value},ks.length=cs.length->VRs c as X h vs cs->
  (match fo k ks vs with|some v=>∃x,valueAt ((ks.map toS).zip cs) (toS k)=some x/\VR c as X h v x|none=>k∉ks/\valueAt ((ks.map toS).zip cs) (toS k)=none):=by
 induction ks with
 |nil=>exact λ_ _=>⟨nofun,rfl⟩
 |cons k' ks ih=>
  intro vs cs hl r;cases r with
  |nil=>exact nomatch hl
  |@cons v vs x cs hx r=>
   haveI ih:=ih (fW hl) r;by_cases e:k=k'
   ·subst e;rw [show fo k (k::ks) (v::vs)=some v from if_pos rfl];exact⟨x,by simp [valueAt],hx⟩
   ·rw [show valueAt (((k'::ks).map toS).zip (x::cs)) (toS k)=valueAt ((ks.map toS).zip cs) (toS k) by simp [valueAt,show toS k'≠toS k from λq=>e (i9 q).symm],show fo k (k'::ks) (v::vs)=fo k ks vs from if_neg e];refine Mn (o:=fo k ks vs) (λv' hd=>?_) (λhd=>?_)
    ·rw [hd];rw [hd]at ih;exact ih
    ·rw [hd];rw [hd]at ih;exact⟨p0 e ih.1,ih.2⟩
theorem pX{k:List Char}{ks:List (List Char)}:∀{vs:List V} {v:V},fo k ks vs=some v->k∈ks:=by
 induction ks with
 |nil=>exact λe=>fm e
 |cons k' ks ih=>
  intro vs v e;cases vs with
  |nil=>exact fm e
  |cons v' vs=>exact(Decidable.em (k=k')).elim (λh=>h▸.head _) λh=>.tail _ (ih ((if_neg h).symm.trans e))
theorem wh{k:List Char}{ks:List (List Char)}{cs:List Value}(hl:ks.length=cs.length)(r:VRs c as X s.heap vs cs):(valueAt ((ks.map toS).zip cs) (toS k)).isSome=ks.contains k:=by
 haveI h:=j7 k hl r;refine Mn (o:=fo k ks vs) (λv hd=>?_) (λhd=>?_)
 ·rw [hd]at h;refine av h ?_;intro x e _;rw [e];exact(bh.mpr (pX hd)).symm
 ·simp only [hd]at h;rw [h.2];haveI:¬ks.contains k=true:=λq=>h.1 (bh.mp q)
  simpa using this
theorem nS(h:a<=50)(hu:k+64<cLine):k+1+min a b<cLine:=
 cZ (aH (aa (Nat.min_le_left a b) h) (k+1)) (cZ (show k+1+50<=k+64 from by rw [bD];exact aH (by decide) _) hu)
theorem GQ(e:M0 H x y=some b):(∃t ch,x=.str [ch]/\y=.str t/\b=t.contains ch)\/(∃vs,y=.tup vs/\JJ H x vs=some b)\/(∃vs,d7 H y=some vs/\JJ H x vs=some b)\/∃d k,x=.str k/\ju H y=some d/\b=d.1.contains k:=by
 have h:M2 H x y (d7 H y)=some b->(∃vs,d7 H y=some vs/\JJ H x vs=some b)\/∃d k,x=.str k/\ju H y=some d/\b=d.1.contains k:=λe=>by
  cases hv:d7 H y with
  |some vs=>rw [hv]at e;exact .inl ⟨vs,rfl,e⟩
  |none=>rw [hv]at e;replace e:=cb e;refine av e ?_;intro d h1 e;replace e:=dW e;refine av e ?_;intro k h2 q_3;subst q_3;exact .inr ⟨d,k,V.txt_is h2,h1,rfl⟩
 cases y with
 |str t=>
  replace e:=cb e;refine av e ?_;intro s' h1 e;cases s' with
  |nil=>exact fm e
  |cons ch r=>
   cases r with
   |nil=>exact .inl ⟨t,ch,V.txt_is h1,rfl,(aj e).symm⟩
   |cons=>exact fm e
 |tup vs=>exact .inr (.inl ⟨vs,rfl,e⟩)
 |_=>exact .inr (.inr (h e))
theorem MT(S:SR c as X H s)(hx:VR c as X s.heap x cx)(hy:VR c as X s.heap y cy)(e:M0 H x y=some b)(hu:A.units+64<cLine) :
  (Q (.bool b) H->wpAny c.M A (compareOp .In cx cy) (Res c as X s.heap Q) E s)/\(Q (.bool !b) H->wpAny c.M A (compareOp .NotIn cx cy) (Res c as X s.heap Q) E s):=by
 rcases GQ e with ⟨t,ch,rfl,rfl,rfl⟩|⟨vs,rfl,e⟩|⟨vs,ev,e⟩|⟨d,k,rfl,hdv,rfl⟩
 ·replace hx:=hx.inv;cases hy.inv;cases hx;refine⟨λq=>in_str ?_,λq=>notIn_str ?_⟩
  ·rw [oh];exact Res.now (tk:=s.toks) S (.bool _) q
  ·rw [oh];exact Res.now (tk:=s.toks) S (.bool _) q
 ·replace e:=cb e;refine av e ?_;intro x' ex e;replace e:=dg e;obtain⟨hd,rfl⟩:=e;have hd:=(lM hd).1;haveI hdd:=(lM ‹_›).2;obtain⟨d1,d2,l1,r1⟩:=nt S hx ex;refine dM (oP hy hd) λl2 r2=>?_;haveI o1:=jg _ d1;haveI o2:=nV _ hd;haveI hm:A.units+1+min (PyData.depthAll (jk vs)) (pz x').depth<cLine:=by exact(o2.2)▸nS hdd hu
  refine⟨λq=>SeqAt.in_tuple_reads r2 r1 o2.1 o1.1 hm ?_,λq=>SeqAt.notIn_tuple_reads r2 r1 o2.1 o1.1 hm ?_⟩
  ·rw [nO _ d1 _ hd];exact Res.now (tk:=s.toks) S (.bool _) q
  ·rw [nO _ d1 _ hd];exact Res.now (tk:=s.toks) S (.bool _) q
 ·replace e:=cb e;refine av e ?_;intro x' ex e;replace e:=dg e
  (refine cY e λhd e_1=>?_;subst e_1)
  have hd:=(lM hd).1;haveI hdd:=(lM ‹_›).2;obtain⟨d1,d2,l1,r1⟩:=nt S hx ex;replace hy:=e9 S hy ev;obtain⟨a,items,rfl,⟨n,ho⟩,r,_⟩:=hy;obtain⟨l2,r2⟩:=kP r hd;haveI r3:Reads s.heap (.ref a) (.list (jk vs)) (a::l2):=.list ho rfl rfl r2;haveI o1:=jg _ d1;haveI o2:=nV _ hd;haveI hm:A.units+1+min (PyData.depthAll (jk vs)) (pz x').depth<cLine:=by exact(o2.2)▸nS hdd hu
  refine⟨λq=>SeqAt.in_list_reads r3 r1 o2.1 o1.1 hm ?_,λq=>SeqAt.notIn_list_reads r3 r1 o2.1 o1.1 hm ?_⟩
  ·rw [nO _ d1 _ hd];exact Res.now (tk:=s.toks) S (.bool _) q
  ·rw [nO _ d1 _ hd];exact Res.now (tk:=s.toks) S (.bool _) q
 ·cases hx.inv;replace hy:=l7 S hy hdv;obtain⟨a,cs,rfl,hsm,hd,hl,r,_⟩:=hy;refine⟨λq=>wpAny_in_of (knd:=c.kd) (oo _ _) hsm hd.mapOf ?_,λq=>wpAny_notIn_of (knd:=c.kd) (oo _ _) hsm hd.mapOf ?_⟩
  ·rw [wh hl r];exact Res.now S (.bool _) q
  ·rw [wh hl r];exact Res.now S (.bool _) q
noncomputable def Ft:Cop->CmpOp
 |.eq=>.Eq|.ne=>.NotEq|.lt=>.Lt|.le=>.LtE|.gt=>.Gt|.ge=>.GtE|.is _=>.Is|.isnot=>.IsNot|.in_=>.In|.notin=>.NotIn
theorem GP(f:Int->Int->Bool)(x y:V):Is (xD f x y) λb=>∃i j,x=.int i/\y=.int j/\b=f i j:=by
 cases x with
 |int i=>cases y<;>first|exact⟨_,_,rfl,rfl,rfl⟩|exact trivial
 |_=>exact trivial
theorem kN(e:xD f x y=some b):∃i j,x=.int i/\y=.int j/\b=f i j:=(GP f x y).of e
theorem Mx(S:SR c as X H s)(hx:VR c as X s.heap x cx)(hy:VR c as X s.heap y cy)(hu:A.units+64<cLine)
  (e:jA o x y H=some b)(q:Q (.bool b) H):wpAny c.M A (compareOp (Ft o) cx cy) (Res c as X s.heap Q) E s:=by
 cases o with
 |eq=>replace e:=bR.mp e;refine av e ?_;intro x' h1 e;replace e:=bz.mp e;refine av e ?_;intro y' h2 q_3;subst q_3;exact NR S hx hy h1 h2 hu q
 |ne=>replace e:=bz.mp e;refine av e ?_;intro z e1 q_3;subst q_3;replace e1:=bR.mp e1;refine av e1 ?_;intro x' h1 e1;replace e1:=bz.mp e1;refine av e1 ?_;intro y' h2 q_3;subst q_3;exact Nz S hx hy h1 h2 hu q
 |lt=>obtain⟨a,b,rfl,rfl,rfl⟩:=kN e;cases hx.inv;cases hy.inv;exact lt_int (Res.now (tk:=s.toks) S (.bool _) q)
 |le=>obtain⟨a,b,rfl,rfl,rfl⟩:=kN e;cases hx.inv;cases hy.inv;exact le_int (Res.now (tk:=s.toks) S (.bool _) q)
 |gt=>obtain⟨a,b,rfl,rfl,rfl⟩:=kN e;cases hx.inv;cases hy.inv;exact gt_int (Res.now (tk:=s.toks) S (.bool _) q)
 |ge=>obtain⟨a,b,rfl,rfl,rfl⟩:=kN e;cases hx.inv;cases hy.inv;exact ge_int (Res.now (tk:=s.toks) S (.bool _) q)
 |is=>obtain⟨h1,h2⟩:=yC S hx hy e;exact wpAny_is_plain h1 (by exact(h2)▸Res.now (tk:=s.toks) S (.bool _) q)
 |isnot=>replace e:=bz.mp e;refine av e ?_;intro b' h0 q_3;subst q_3;obtain⟨h1,h2⟩:=yC S hx hy h0;exact wpAny_isNot_plain h1 (by subst h2;exact Res.now (tk:=s.toks) S (.bool _) q)
 |in_=>exact(MT S hx hy e hu).1 q
 |notin=>replace e:=bz.mp e;refine av e ?_;intro b' h0 q_3;subst q_3;exact(MT S hx hy h0 hu).2 q
end
def OVR(c:Cx)(as:dH)(X:List Addr)(h:HP)(o:Option V)(y:Option Value):Prop:=∀v,o=some v->∃x,y=some x/\VR c as X h v x
structure FR(c:Cx)(as:dH)(X:List Addr)(h:HP)(env:Env)(tab:List (Str×Nat))(ρ:Fm):Prop where
 kind:env.scope.kind=.function
 glob:env.globals=mainGlobals
 bi:env.builtins=builtinsNs
 lx:env.locals∈X
 lout:env.locals∉as
 lb:c.base.get? env.locals=none
 ns:∃m,h.Ns env.locals m/\∀x i,tab.lookup x=some i->env.kindOf x=some .local->OVR c as X h ((ρ[i]?).join) (m x)
 cells:∀x i,tab.lookup x=some i->(env.kindOf x=some .cell\/env.kindOf x=some .free)->
  ∃a y,env.cells.lookup x=some a/\a∈X/\a∉as/\c.base.get? a=none/\a≠env.locals/\h.IsCell a y/\OVR c as X h ((ρ[i]?).join) y
 apart:∀x y a,env.cells.lookup x=some a->env.cells.lookup y=some a->x=y
 inj:∀x y i,tab.lookup x=some i->tab.lookup y=some i->x=y
theorem OVR.keepX(k:VK as X h h')(x:Ext as h as')(z:OVR c as X h o y):OVR c as' X h' o y:=
 λv e=>(z v e).imp λ_ q=>⟨q.1,q.2.keepX k x⟩
theorem Ns.same{X:List Addr}{h h':HP}{L:Addr}{m:Str->Option Value}(n:h.Ns L m)(k:∀o,h.get? L=some o->∃o',h'.get? L=some o'/\SameO X L o o'):h'.Ns L m:=by refine lh n ?_;intro o es ep e r;refine av (k o e) ?_;intro o' e' s;refine⟨o',es,ep,e',?_⟩;rcases s with rfl|⟨_,_,sl,rfl⟩<;>exact r
theorem IsCell.same{X:List Addr}{h h':HP}{a:Addr}{y:Option Value}(n:h.IsCell a y)(k:∀o,h.get? a=some o->∃o',h'.get? a=some o'/\SameO X a o o'):h'.IsCell a y:=by refine av n ?_;intro o e r;refine av (k o e) ?_;intro o' e' s;refine⟨o',e',?_⟩;rcases s with rfl|⟨_,_,sl,rfl⟩<;>exact r
theorem FR.keep(F:FR c as X h env tab ρ)(k:Kept as X h h')(x:Ext as h as'):FR c as' X h' env tab ρ where
 kind:=F.kind
 glob:=F.glob
 bi:=F.bi
 lx:=F.lx
 lout:=by refine av F.ns ?_;intro m p_2 _;obtain⟨o,_,_,e,_⟩:=p_2;exact x.out e F.lout
 lb:=F.lb
 ns:=by refine av F.ns ?_;intro m n r;exact⟨m,Ns.same n λo e=>k _ o e F.lout,λy i h1 h2=>(r y i h1 h2).keepX k.x x⟩
 cells:=λy i h1 h2=>by refine lj (F.cells y i h1 h2) ?_;intro a z e1 e2 e3 e4 e5 e6 e7;refine av e6 ?_;intro o eo _;exact⟨a,z,e1,e2,x.out eo e3,e4,e5,IsCell.same e6 λo e=>k _ o e e3,e7.keepX k.x x⟩
 apart:=F.apart
 inj:=F.inj
section
variable {c:Cx}{A:Around}{E:Value->Shared->Prop}{s:Shared}{as:dH}{X:List Addr}{H:AH}{Q:QE}{env:Env}{tab:List (Str×Nat)}{ρ:Fm}
theorem Ga(S:SR c as X H s)(F:FR c as X s.heap env tab ρ)(ht:tab.lookup x=some i)(hk:env.kindOf x=some .local\/env.kindOf x=some .cell\/env.kindOf x=some .free)
  (hv:ρ[i]? =some (some v))(hn:(x==("__classdict__":Str))=false)(q:Q v H):wpAny M A (loadName env x) (Res c as X s.heap Q) E s:=by
 rcases hk with hk|hk
 ·refine av F.ns ?_;intro m n r;refine av (r x i ht hk v (by rw [hv];rfl)) ?_;intro y e1 e2;exact wpAny_loadName_local F.kind hk n e1 (Res.now (tk:=s.toks) S e2 q)
 ·refine lj (F.cells x i ht hk) ?_;intro a z e1 e2 e3 e4 e5 e6 e7;replace e7:=e7 v (by rw [hv];rfl);refine av e7 ?_;intro y q_2 e8;subst q_2;rcases hk with hk|hk
  ·exact wpAny_loadName_cell F.kind hk e1 e6 (Res.now (tk:=s.toks) S e8 q)
  ·exact wpAny_loadName_free F.kind hk e1 e6 (Res.now (tk:=s.toks) S e8 q) hn
inductive StepF(c:Cx)(as:dH)(X:List Addr)(H:AH)(env:Env)(tab:List (Str×Nat))(h:HP)(ρ':Fm)(s':Shared):Prop
 |mk:SR c as X H s'->KeptX as X (env.locals::env.cells.map (·.2)) h s'.heap->FR c as X s'.heap env tab ρ'->StepF c as X H env tab h ρ' s'
theorem kJ(ρ:Fm)(i j:Nat)(v:Option V)(hi:i<ρ.length):(((ρ.set i v)[j]?).join)=if i=j then v else(ρ[j]?).join:=by
 by_cases h:i=j
 ·subst h;simp [hi]
 ·simp [h]
theorem Bk{m:Str->Option Value}(S:SR c as X H s)(F:FR c as X s.heap env tab ρ)(ht:tab.lookup x=some i)(hk:env.kindOf x=some .local)(hi:i<ρ.length)(rr:∀x i,tab.lookup x=some i->env.kindOf x=some .local->OVR c as X s.heap ((ρ[i]?).join) (m x))
  (n':h'.Ns env.locals (λw=>if w=x then y else m w))(sb:fX env.locals s.heap h')(hv:OVR c as X s.heap o y):StepF c as X H env tab s.heap (ρ.set i o) {s with heap:=h',toks:=tk}:=by
 have K0:∀b o,s.heap.get? b=some o->b≠env.locals->h'.get? b=some o:=λb o e hb=>(sb.2 b hb).trans e;have KX:VK as X s.heap h':=λb o e _ hb=>K0 b o e (λq=>hb (q▸F.lx));have hL':∃o,h'.get? env.locals=some o:=n'.elim λo q=>q.elim λ_ q=>q.elim λ_ q=>⟨o,q.1⟩;refine⟨S.keepX (s':={s with heap:=h',toks:=tk}) (λb o e _ hb=>K0 b o e (λq=>hb (q▸F.lx))) (λb o e=>K0 b o (S.stays b o e) λq=>?_) (λb hb=>?_) rfl rfl,λb o e _ hb=>⟨o,K0 b o e (λq=>hb (q▸.head _)),.inl rfl⟩,?_⟩
 ·(replace q:=Eq.symm q;subst q);replace e:=(F.lb).symm.trans e;exact fm e
 ·by_cases q:b=env.locals
  ·exact q▸hL'
  ·exact dM (S.xs b hb) λo e=>⟨o,K0 b o e q⟩
 ·refine ⟨F.kind,F.glob,F.bi,F.lx,F.lout,F.lb,⟨_,n',λy j h1 h2=>?_⟩,λy j h1 h2=>?_,F.apart,F.inj⟩
  ·rw [kJ _ _ _ _ hi];by_cases hxy:y=x
   ·(replace hxy:=Eq.symm hxy;subst hxy)
    replace h1:=ht.symm.trans h1;(replace h1:=aj h1;subst h1);rw [if_pos rfl,if_pos rfl];exact hv.keepX KX (.refl ..)
   ·haveI:i≠j:=λq=>hxy (F.inj _ _ j h1 (q▸ht));rw [if_neg this,if_neg hxy];exact(rr y j h1 h2).keepX KX (.refl ..)
  ·refine lj (F.cells y j h1 h2) ?_;intro a z e1 e2 e3 e4 e5 e6 e7;have hne:y≠x:=λq=>by subst q;replace h2:=hk▸h2;rcases h2 with h2|h2<;>cases h2
   have:i≠j:=λq=>hne (F.inj _ _ j h1 (q▸ht));refine⟨a,z,e1,e2,e3,e4,e5,IsCell.same (X:=X) e6 λo e=>⟨o,K0 _ o e e5,.inl rfl⟩,?_⟩;rw [kJ _ _ _ _ hi,if_neg this];exact e7.keepX KX (.refl ..)
theorem kO{x:Str}{i:Nat}{v:V}{cv:Value}{M:Model}{R:Unit->Shared->Prop}(S:SR c as X H s)(F:FR c as X s.heap env tab ρ)(ht:tab.lookup x=some i)(hk:env.kindOf x=some .local\/env.kindOf x=some .cell)
  (hi:i<ρ.length)(hv:VR c as X s.heap v cv)(r:∀s',StepF c as X H env tab s.heap (ρ.set i (some v)) s'->R () s'):wpAny M A (storeName env x cv) R E s:=by
 rcases hk with hk|hk
 ·refine av F.ns ?_;intro m n rr;exact wpAny_storeName_local hk n (λh' n' sb=>r _ (Bk S F ht hk hi rr n' sb λv' e'=>⟨cv,rfl,aj e'▸hv⟩)) (by rw [F.kind];rfl)
 ·refine lj (F.cells x i ht (.inl hk)) ?_;intro a z e1 e2 e3 e4 e5 e6 e7;refine wpAny_storeName_cell F.kind hk e1 e6 λh' c' sb=>r _ ?_;have K0:∀b o,s.heap.get? b=some o->b≠a->h'.get? b=some o:=λb o e hb=>(sb.2 b hb).trans e;have KX:VK as X s.heap h':=λb o e _ hb=>K0 b o e (λq=>hb (q▸e2));have hL':∃o,h'.get? a=some o:=c'.elim λo q=>⟨o,q.1⟩;refine⟨S.keepX (s':={s with heap:=h'}) (λb o e _ hb=>K0 b o e (λq=>hb (q▸e2))) (λb o e=>K0 b o (S.stays b o e) λq=>?_) (λb hb=>?_) rfl rfl,λb o e _ hb=>⟨o,K0 b o e (λq=>hb (q▸.tail _ ?_)),.inl rfl⟩,?_⟩
  ·(replace q:=Eq.symm q;subst q);replace e:=e4.symm.trans e;exact fm e
  ·by_cases q:b=a
   ·exact q▸hL'
   ·refine dM (S.xs b hb) λo e=>?_;exact⟨o,K0 b o e q⟩
  ·exact aK.mpr ⟨(x,a),mem_of_lookup e1,rfl⟩
  ·refine av F.ns ?_;intro m n rr;refine⟨F.kind,F.glob,F.bi,F.lx,F.lout,F.lb,⟨_,Ns.same (X:=X) n λo e=>⟨o,K0 _ o e (Ne.symm e5),.inl rfl⟩,λy j h1 h2=>?_⟩,λy j h1 h2=>?_,F.apart,F.inj⟩
   ·have hne:y≠x:=λq=>by subst q;replace h2:=hk.symm.trans h2;cases h2
    have:i≠j:=λq=>hne (F.inj _ _ j h1 (q▸ht));rw [kJ _ _ _ _ hi,if_neg this];exact(rr y j h1 h2).keepX KX (.refl ..)
   ·refine lj (F.cells y j h1 h2) ?_;intro a' z' f1 f2 f3 f4 f5 f6 f7;by_cases hxy:y=x
    ·subst hxy;replace h1:=ht.symm.trans h1;(replace h1:=aj h1;subst h1);refine⟨a,_,e1,e2,e3,e4,e5,c',?_⟩;simp only [kJ _ _ _ _ hi,if_pos rfl];intro v' e';(replace e':=aj e';subst e');exact⟨cv,rfl,hv.keepX KX (.refl ..)⟩
    ·have:i≠j:=λq=>hxy (F.inj _ _ j h1 (q▸ht));refine⟨a',z',f1,f2,f3,f4,f5,IsCell.same (X:=X) f6 λo e=>⟨o,K0 _ o e (λq=>hxy (F.apart y x a (q▸f1) e1):a'≠a),.inl rfl⟩,?_⟩;rw [kJ _ _ _ _ hi,if_neg this];exact f7.keepX KX (.refl ..)
end
inductive ExcS(h:HP)(e:Addr)(cls:Value):Option Addr->Prop
 |fresh {oe:Obj} {vs:Array Value}:h.get? e=some oe->oe.cls=cls->oe.data=.fields vs->vs.size=6->vs[1]? =some .none->vs[2]? =some .none->ExcS h e cls none
 |traced {oe oT:Obj} {vs ts:Array Value} {T:Addr}:h.get? e=some oe->oe.cls=cls->oe.data=.fields vs->vs.size=6->vs[1]? =some (.ref T)->vs[2]? =some .none->
   T≠e->h.get? T=some oT->oT.data=.fields ts->3<ts.size->ExcS h e cls (some T)
def Touch(S F:List Addr)(h h':HP):Prop:=∀b o,h.get? b=some o->∃o',h'.get? b=some o'/\(b∈S\/o'=o\/b∈F/\∃sl,o'={o with slots:=sl})
theorem Touch.refl(S F:List Addr)(h:HP):Touch S F h h:=λ_ o e=>⟨o,e,.inr (.inl rfl)⟩
theorem Touch.trans(x:Touch S F h h₁)(y:Touch S F h₁ h₂):Touch S F h h₂:=λb o e=>by
 refine av (x b o e) ?_;intro o₁ e₁ q₁;refine av (y b o₁ e₁) ?_;intro o₂ e₂ q₂;refine⟨o₂,e₂,?_⟩;rcases q₁ with q₁|rfl|⟨hF,sl,rfl⟩
 ·exact .inl q₁
 ·exact q₂
 ·rcases q₂ with q₂|rfl|⟨_,sl',rfl⟩
  ·exact .inl q₂
  ·exact .inr (.inr ⟨hF,sl,rfl⟩)
  ·exact .inr (.inr ⟨hF,sl',rfl⟩)
theorem Touch.mono(x:Touch S F h h')(hS:∀b∈S,b∈S'):Touch S' F h h':=λb o e=>(x b o e).imp λ_ q=>⟨q.1,q.2.imp (hS b) id⟩
theorem Touch.out(x:Touch S F h h')(e:h.get? b=some o)(hb:b∉S):∃o',h'.get? b=some o'/\(o'=o\/b∈F/\∃sl,o'={o with slots:=sl}):=
 (x b o e).imp λ_ q=>⟨q.1,q.2.resolve_left hb⟩
theorem Touch.frames(x:Touch S (l.filterMap (·.frame)) h h')(hS:∀b∈S,∀o,h.get? b=some o->∃vs,o.data=.fields vs)(hl:h.FunFrames base l):h'.FunFrames base l:=
 hl.of_keeps λb o e hn=>by
  obtain⟨o',e',q⟩:=x.out e λhb=>by obtain⟨vs,hd⟩:=hS b hb o e;exact hn vs hd
  rcases q with rfl|⟨_,sl,rfl⟩
  ·exact ⟨_,e',rfl⟩
  ·exact ⟨_,e',rfl⟩
section
variable {M:Model}{A:Around}{E:Value->Shared->Prop}{s:Shared}{base:HP}{env env₀:Env}{outer:List Env}{L e:Addr}{cls:Value}{t:Option Addr}
theorem uU{Q:Value->Shared->Prop}(hfr:A.frames=some (env₀::outer))(hl:s.heap.FunFrames base (env₀::outer))(hf₀:env₀.frame=some L)(hf:env.frame=some L)
  (h:∀h',Heap.SlotsOnly ((env₀::outer).filterMap (·.frame)) s.heap h'->Q (.ref L) {s with heap:=h'}):wpAny M A (PySem.frameOf env) Q E s:=by
 unfold PySem.frameOf;refine wpAny_bind (wpAny_frameEnvs hfr ?_);haveI hdw:((env₀::outer).dropWhile λx=>x.frame !=env.frame)=env₀::outer:=by rw [List.dropWhile_cons_of_neg];simp only [hf₀,hf];simp
 rw [hdw];refine wpAny_bind (wpAny_bind (wpAny_readyFrames_fun hl λh₁ hs₁=>wpAny_pure ?_));rw [hf₀];exact wpAny_pure (h h₁ hs₁)
theorem qJ{Q:Unit->Shared->Prop}
  (hfr:A.frames=some (env₀::outer))(hl:s.heap.FunFrames base (env₀::outer))(hf₀:env₀.frame=some L)(hf:env.frame=some L)
  (he:s.heap.get? e=some oe)(hc:oe.cls=cls)(hd:oe.data=.fields vs)(hsz:vs.size=6)(h2:vs[2]? =some .none)
  (h:∀h' T,ExcS h' e cls (some T)->s.heap.get? T=none->Touch [e] ((env₀::outer).filterMap (·.frame)) s.heap h'->Q () {s with heap:=h'}) :
  wpAny M A (do let a <-PySem.frameOf env;let pl <-entryPlaceOf L hadNext;let b <-EntryCells.newEntry head a .none (rawInt L) .none pl;setField (.ref e) 1 b) Q E s:=by
 haveI hene:e∉(env₀::outer).filterMap (·.frame):=λhm=>by obtain⟨_,o,ho,hnf⟩:=hl.mem hm;replace ho:=he.symm.trans ho;(replace ho:=aj ho;subst ho);exact hnf vs hd
 refine wpAny_bind (uU hfr hl hf₀ hf λh₁ hs₁=>?_);refine wpAny_bind (wpAny_entryPlaceOf λpl hpl=>?_);unfold EntryCells.newEntry newFields;refine wpAny_bind (wpAny_newObj_type ?_ (hpl.sizeOk5 _ _ _ _ _));haveI he₁:h₁.get? e=some oe:=(hs₁.2.1 e hene).trans he;haveI he₂:=bG (h:=h₁) {cls:=.type "traceback",dict:=none,data:=.fields ([head,.ref L,.none,rawInt L,.none]++(if pl.isEmpty then bO 6 Value.none else pl)).toArray} he₁;refine wpAny_setField he₂ hd (j1 (by decide) hsz.symm) (h _ h₁.objs.size ?_ (Heap.get?_none_of_le (by exact(hs₁.1)▸aM _)) λb o hb=>?_)
 ·haveI hTe:h₁.objs.size≠e:=gQ (fB he₁);haveI hd₃:=Obj.data_mapFields hd (·.setIfInBounds 1 (Value.ref h₁.objs.size));refine .traced (cM _ he₂ (Obj.isFreed_of_fields hd₃)) ((Obj.cls_mapFields _ _).trans hc) hd₃ (by exact(B6).trans hsz) (by simp [hsz]) (by exact(Array.getElem?_setIfInBounds_ne (by decide)).trans h2) hTe
   ((cD _ _ (Ne.symm hTe)).trans (ba h₁ rfl)) rfl (by simp only [gw,ah,dR,List.length_nil];exact by simp+arith only)
 ·by_cases hbe':b=e
  ·(replace hbe':=Eq.symm hbe';subst hbe')
   exact⟨_,cM _ he₂ (Obj.isFreed_of_fields (Obj.data_mapFields hd (·.setIfInBounds 1 (Value.ref h₁.objs.size)))),.inl (.head _)⟩
  by_cases hF:b∈(env₀::outer).filterMap (·.frame)
  ·refine dM (hs₁.2.2 b o hb) λsl hs=>?_;exact⟨_,(cD _ _ (Ne.symm hbe')).trans (bG _ hs),.inr (.inr ⟨hF,sl,rfl⟩)⟩
  ·exact ⟨o,(cD _ _ (Ne.symm hbe')).trans (bG _ ((hs₁.2.1 b hF).trans hb)),.inr (.inl rfl)⟩
theorem tE{Q:Unit->Shared->Prop}(hfr:A.frames=some (env₀::outer))(hl:s.heap.FunFrames base (env₀::outer))(hf₀:env₀.frame=some L)(hf:env.frame=some L)(x:ExcS s.heap e cls t)
  (h:∀h' T,ExcS h' e cls (some T)->(t=some T\/s.heap.get? T=none)->Touch (e::t.toList) ((env₀::outer).filterMap (·.frame)) s.heap h'->Q () {s with heap:=h'}):wpAny M A (noteFrame (.ref e) env) Q E s:=by
 dsimp only [noteFrame];rw [hf]
 induction x with
 |fresh he hc hd hsz h1 h2=>refine wpAny_bind (wpAny_field he hd h1 ?_);exact qJ hfr hl hf₀ hf he hc hd hsz h2 λh' T x q k=>h h' T x (.inr q) k
 |@traced oe oT vs ts T he hc hd hsz h1 h2 hTe hT hdT hts=>
  refine wpAny_bind (wpAny_field he hd h1 ?_);obtain⟨fl,h3⟩:∃fl,ts[3]? =some fl:=⟨ts[3],by simp [hts]⟩;refine wpAny_bind (wpAny_field hT hdT h3 ?_);by_cases hfl:(fl==rawInt L)=true
  ·rw [if_pos hfl];exact wpAny_pure (h _ T (.traced he hc hd hsz h1 h2 hTe hT hdT hts) (.inl rfl) (Touch.refl _ _ _))
  ·rw [if_neg hfl];refine wpAny_bind (wpAny_setField hT hdT hts ?_);have other:∀b,b≠T->(s.heap.update T (Obj.mapFields (·.setIfInBounds 3 Value.none))).get? b=s.heap.get? b:=λb hb=>cD _ _ (Ne.symm hb);have k0:Touch [e,T] ((env₀::outer).filterMap (·.frame)) s.heap (s.heap.update T (Obj.mapFields (·.setIfInBounds 3 Value.none))):=λb o hb=>by
    by_cases q:b=T
    ·(replace q:=Eq.symm q;subst q)
     exact⟨_,cM _ hT (Obj.isFreed_of_fields (Obj.data_mapFields hdT _)),.inl (.tail _ (.head _))⟩
    ·exact ⟨o,(other b q).trans hb,.inr (.inl rfl)⟩
   refine qJ hfr (k0.frames (λb hb o ho=>?_) hl) hf₀ hf ((other e (Ne.symm hTe)).trans he) hc hd hsz h2 λh' T' x q k=>h h' T' x (.inr ?_) (k0.trans (k.mono λb q=>?_))
   ·rcases bS.mp hb with rfl|hb
    ·replace ho:=he.symm.trans ho;(replace ho:=aj ho;subst ho);exact⟨vs,hd⟩
    ·refine Or.elim (bS.mp hb) (λq_=>?_) (λhb=>?_)
     ·(replace q_:=Eq.symm q_;subst q_);replace ho:=hT.symm.trans ho;(replace ho:=aj ho;subst ho);exact⟨ts,hdT⟩
     ·cases hb
   ·by_cases hq:T'=T
    ·(replace hq:=Eq.symm hq;subst hq)
     haveI:=cM (Obj.mapFields (·.setIfInBounds 3 Value.none)) hT (Obj.isFreed_of_fields (Obj.data_mapFields hdT _));replace this:=q.symm.trans this;exact fm this
    ·rw [<-other T' hq];exact q
   ·refine Or.elim (bS.mp q) (λq_=>?_) (λq=>?_)
    ·(replace q_:=Eq.symm q_;subst q_);exact .head _
    ·cases q
theorem jJ{Q:Unit->Shared->Prop}(x:ExcS s.heap e cls (some T))
  (h:∀h',ExcS h' e cls (some T)->(∀b,b≠T->h'.get? b=s.heap.get? b)->Q () {s with heap:=h'}):wpAny M A (setFlight (.ref e) fr) Q E s:=by
 cases x with
 |@traced oe oT vs ts _ he hc hd hsz h1 h2 hTe hT hdT hts=>refine wpAny_bind (wpAny_field he hd h1 ?_);haveI other:∀b,b≠T->(s.heap.update T (Obj.mapFields (·.setIfInBounds 3 (fr.elim .none λf=>rawInt f)))).get? b=s.heap.get? b:=λb hb=>cD _ _ (Ne.symm hb);refine wpAny_setField hT hdT hts (h _ (.traced ((other e (Ne.symm hTe)).trans he) hc hd hsz h1 h2 hTe (cM _ hT (Obj.isFreed_of_fields (Obj.data_mapFields hdT _))) (Obj.data_mapFields hdT _) (by exact(B6).symm▸hts)) other)
end
def vJ(c:Cx)(as₀:dH)(h₀:HP)(as:dH)(X:List Addr)(a:Addr):Prop:=Fr as₀ h₀ a/\a∉as/\a∉X/\c.base.get? a=none
inductive ERes(c:Cx)(as:dH)(X:List Addr)(h:HP)(XX:XE)(x:Value)(s':Shared):Prop
 |mk (k:Nat) (H':AH) (as':dH) (e:Addr) (t:Option Addr) (ts:List Addr):x=.ref e->Ext as h as'->SR c as' (e::(ts++X)) H' s'->Kept as X h s'.heap->ExcS s'.heap e (.ref (c.xcls k)) t->(∀T,t=some T->T∈ts)->(∀a∈e::ts,vJ c as h as' X a)->XX k H'->ERes c as X h XX x s'
theorem ERes.lift(e:Ext as h as₁)(k:Kept as X h h₁)(r:ERes c as₁ X h₁ XX x s'):ERes c as X h XX x s':=by obtain⟨n,H',as',a,t,ts,hx,e',S,k',ex,ht,ap,q⟩:=r;exact⟨n,H',as',a,t,ts,hx,e.trans k e',S,k.trans e k',ex,ht,λb hb=>⟨(ap b hb).1.lift e k,(ap b hb).2⟩,q⟩
structure FrE(c:Cx)(X:List Addr)(as:dH)(h:HP)(env:Env):Prop where
 kind:env.scope.kind≠.module
 there:∃L o es n,env.frame=some L/\c.base.get? L=none/\2<=X.count L/\L∉as/\h.get? L=some o/\o.data=.dict es n
def FrOk(c:Cx)(A:Around)(X:List Addr)(as:dH)(h:HP)(l:List Env):Prop:=A.frames=some l/\∀env∈l,FrE c X as h env
theorem FrE.keep(f:FrE c X as h env)(e:Ext as h as')(k:Kept as X h h'):FrE c X as' h' env:=by
 refine nr f.there ?_;intro L o es n h1 h2 h3 h4 h5 h6;refine av (k L o h5 h4) ?_;intro o' e' s;refine⟨f.kind,L,o',es,n,h1,h2,h3,e.out h5 h4,e',?_⟩;rcases s with rfl|⟨_,_,sl,rfl⟩
 ·exact h6
 ·exact h6
theorem FrOk.keep(f:FrOk c A X as h l)(e:Ext as h as')(k:Kept as X h h'):FrOk c A X as' h' l:=⟨f.1,λenv he=>(f.2 env he).keep e k⟩
theorem FrOk.fun{c:Cx}{X:List Addr}{as:dH}{h:HP}{l:List Env}:(∀env∈l,FrE c X as h env)->h.FunFrames c.base l:=by
 induction l with
 |nil=>exact λ_=>trivial
 |cons env l ih=>exact λf=>nr (f env (.head _)).there λL o es n h1 h2 h3 h4 h5 h6=>⟨(f env (.head _)).kind,⟨L,o,h1,h2,h5,λvs q=>nomatch h6.symm.trans q⟩,ih λe he=>f e (.tail _ he)⟩
theorem FrOk.touch{l:List Env}(f:∀env∈l,FrE c X as' h env)(k:Kept as X h₀ h)(x:Touch S (l.filterMap (·.frame)) h h')(hS:∀a∈S,Fr as h₀ a):Kept as X h₀ h':=λb o e hb=>by
 refine av (k b o e hb) ?_;intro o₁ e₁ s₁;haveI hn:b∉S:=λq=>(hS b q).elim (λr=>hb r) λr=>by exact fm (r.symm.trans e)
 refine av (x.out e₁ hn) ?_;intro o₂ e₂ s₂;refine⟨o₂,e₂,s₁.trans ?_⟩;rcases s₂ with rfl|⟨hF,sl,rfl⟩
 ·exact .inl rfl
 ·refine av (p5.mp hF) ?_;intro env he hf;refine nr ((f env he).there) ?_;intro L o es n h1 h2 h3 h4 h5 h6;cases h1.symm.trans hf;cases h5.symm.trans e₁;exact .inr ⟨h3,⟨es,n,h6⟩,sl,rfl⟩
inductive EnvFr(c:Cx)(A:Around)(X:List Addr)(as:dH)(h:HP)(env:Env):Prop
 |mk (env₀:Env) (outer:List Env) (L:Addr):A.frames=some (env₀::outer)->(∀e∈env₀::outer,FrE c X as h e)->env₀.frame=some L->env.frame=some L->EnvFr c A X as h env
theorem EnvFr.keep(f:EnvFr c A X as h env)(e:Ext as h as')(k:Kept as X h h'):EnvFr c A X as' h' env:=by obtain⟨env₀,outer,L,h1,h2,h3,h4⟩:=f;exact⟨env₀,outer,L,h1,λa ha=>(h2 a ha).keep e k,h3,h4⟩
theorem FrE.grow(f:FrE c X as h env)(g:Grown h h')(hX:∀b,X.count b<=X'.count b):FrE c X' as h' env:=by refine nr f.there ?_;intro L o es n h1 h2 h3 h4 h5 h6;exact⟨f.kind,L,o,es,n,h1,h2,aa h3 (hX L),h4,g _ _ h5,h6⟩
theorem EnvFr.grow(f:EnvFr c A X as h env)(g:Grown h h')(hX:∀b,X.count b<=X'.count b):EnvFr c A X' as h' env:=by obtain⟨env₀,outer,L,h1,h2,h3,h4⟩:=f;exact⟨env₀,outer,L,h1,λa ha=>(h2 a ha).grow g hX,h3,h4⟩
theorem EnvFr.env{c:Cx}{A:Around}{X:List Addr}{as:dH}{h:HP}{env env':Env}(f:EnvFr c A X as h env)(e:env'.frame=env.frame):EnvFr c A X as h env':=by obtain⟨env₀,outer,L,h1,h2,h3,h4⟩:=f;exact⟨env₀,outer,L,h1,h2,h3,e.trans h4⟩
theorem EnvFr.all{c:Cx}{A:Around}{X:List Addr}{as:dH}{h:HP}{env:Env}(f:EnvFr c A X as h env):∃l,FrOk c A X as h l:=by obtain⟨env₀,outer,L,h1,h2,h3,h4⟩:=f;exact⟨_,h1,h2⟩
theorem SR.note(x:SR c as X H s)(k:Touch S F s.heap h')(hS:∀b∈S,b∈X/\c.base.get? b=none)(hF:∀b∈F,b∈X/\c.base.get? b=none)(hXY:∀b∈X,b∈Y)(hY:∀b∈Y,b∈X\/s.heap.get? b=none)(hy:∀b∈Y,∃o,h'.get? b=some o):SR c as Y H {s with heap:=h'} where
 len:=x.len
 stays:=λb o e=>by
  obtain⟨o',e',q⟩:=k.out (x.stays b o e) λq=>by replace e:=((hS b q).2).symm.trans e;exact fm e
  rcases q with rfl|⟨q,_⟩
  ·exact e'
  ·replace e:=((hF b q).2).symm.trans e;exact fm e
 gens:=x.gens
 os:=x.os
 objs:=λi a e=>by
  refine dQ (x.objs i a e) ?_;intro h1 h2 r_3;refine av r_3 ?_;intro o h3 h4;haveI fy:∀b o,s.heap.get? b=some o->b∉X->b∉Y:=λb o e hb q=>(hY b q).elim hb λr=>by replace e:=r.symm.trans e;exact fm e
  have ex:∀b o,s.heap.get? b=some o->b∉X->h'.get? b=some o:=λb o e hb=>by
   refine av (k.out e λq=>hb (hS b q).1) ?_;intro o' e' q;rcases q with rfl|⟨q,_⟩
   ·exact e'
   ·exact absurd (hF b q).1 hb
  obtain⟨ob,hob⟩:=h4.here;exact⟨h1,fy _ _ hob h2,o,h3,(OR.frames fy h4).keepX (λb o e _ hb=>ex b o e λq=>hb (hXY b q)) λob e=>ex _ _ e h2⟩
 inj:=x.inj
 xs:=hy
theorem FrE.mem{l:List Env}(f:∀env∈l,FrE c X as h env){b:Addr}(hb:b∈l.filterMap (·.frame)):b∈X/\c.base.get? b=none:=by
 refine av (p5.mp hb) ?_;intro env he hf;refine nr ((f env he).there) ?_;intro L o es n h1 h2 h3 h4 h5 h6;replace h1:=h1.symm.trans hf
 (replace h1:=aj h1;subst h1)
 exact⟨List.count_pos_iff.mp (bo (by decide) h3),h2⟩
def Ch(x:Value)(h:HP):Prop:=∃e T cls,x=.ref e/\ExcS h e cls (some T)
def Dat(h h':HP):Prop:=∀b o,h.get? b=some o->(∀vs,o.data≠.fields vs)->∃o',h'.get? b=some o'/\o'.data=o.data
theorem Dat.ns(d:Dat h h')(n:h.Ns L m):h'.Ns L m:=by
 refine ja n ?_;intro o es ep e hd r;obtain⟨o',e',hd'⟩:=d L o e λvs q=>by replace q:=hd.symm.trans q;cases q
 exact⟨o',es,ep,e',hd'.trans hd,r⟩
theorem ExcS.fields(x:ExcS h e cls t):∀b∈e::t.toList,∀o,h.get? b=some o->∃vs,o.data=.fields vs:=λb hb o ho=>by
 cases x with
 |fresh he hc hd=>
  rcases bS.mp hb with rfl|hb
  ·cases he.symm.trans ho;exact⟨_,hd⟩
  ·cases hb
 |traced he hc hd hsz v1 v2 hTe hT hdT=>
  rcases bS.mp hb with rfl|hb
  ·cases he.symm.trans ho;exact⟨_,hd⟩
  ·cases fV.mp hb;cases hT.symm.trans ho;exact⟨_,hdT⟩
theorem Touch.dat(x:Touch S F h h')(hS:∀b∈S,∀o,h.get? b=some o->∃vs,o.data=.fields vs):Dat h h':=λb o e hn=>by
 obtain⟨o',e',q⟩:=x.out e λq=>by obtain⟨vs,hd⟩:=hS b q o e;exact hn vs hd
 rcases q with rfl|⟨_,sl,rfl⟩
 ·exact ⟨_,e',rfl⟩
 ·exact ⟨_,e',rfl⟩
theorem ERes.note{XX:XE}{x:Value}{E:Value->Shared->Prop}{Q:Unit->Shared->Prop}(r:ERes c as X h XX x s')(hf:∀as' H' Z,Ext as h as'->Kept as X h s'.heap->SR c as' Z H' s'->(∀b∈X,b∈Z)->EnvFr c A X as' s'.heap env)
  (q:∀s'',ERes c as X h XX x s''->Ch x s''.heap->Dat s'.heap s''.heap->Q () s''):wpAny c.M A (noteFrame x env) Q E s':=by
 obtain⟨k,H',as',e,t,ts,rfl,e',S,k',ex,ht,ap,w⟩:=r;obtain⟨env₀,outer,L,h1,h2,h3,h4⟩:=hf as' H' _ e' k' S λb hb=>.tail _ (az _ hb);refine tE h1 (FrOk.fun h2) h3 h4 ex λh'' T ex' hT tc=>q _ ?_ ⟨e,T,_,rfl,ex'⟩ (tc.dat ex.fields);have hSm:∀a∈e::t.toList,a∈e::ts:=λa ha=>by
  refine Or.elim (bS.mp ha) (λq_=>?_) (λha=>?_)
  ·(replace q_:=Eq.symm q_;subst q_);exact .head _
  ·exact .tail _ (ht a (iE.mp ha))
 have K':Kept as X h h'':=FrOk.touch h2 k' tc λa ha=>(ap a (hSm a ha)).1;have hS:∀b∈e::t.toList,b∈e::(ts++X)/\c.base.get? b=none:=λb hb=>⟨by
  rcases bS.mp (hSm b hb)with rfl|hb
  ·exact .head _
  ·exact .tail _ (aI _ hb),(ap b (hSm b hb)).2.2.2⟩
 have hF:∀b∈(env₀::outer).filterMap (·.frame),b∈e::(ts++X)/\c.base.get? b=none:=λb hb=>⟨.tail _ (az _ (FrE.mem h2 hb).1),(FrE.mem h2 hb).2⟩;have hex:∀b∈e::(ts++X),∃o,h''.get? b=some o:=λb hb=>by refine dM (S.xs b hb) λo eo=>?_;refine av (tc b o eo) ?_;intro o' eo' _;exact⟨o',eo'⟩
 rcases hT with rfl|hT
 ·exact ⟨k,H',as',e,some T,ts,rfl,e',S.note tc hS hF (λ_ q=>q) (λ_ q=>.inl q) hex,K',ex',ht,ap,w⟩
 ·refine ⟨k,H',as',e,some T,T::ts,rfl,e',S.note tc hS hF (λb hb=>?_) (λb hb=>?_) (λb hb=>?_),K',ex',λT' q=>by(replace q:=aj q;subst q);exact .head _,λa ha=>?_,w⟩
  ·refine Or.elim (bS.mp hb) (λq_=>?_) (λhb=>?_)
   ·(replace q_:=Eq.symm q_;subst q_);exact .head _
   ·exact .tail _ (.tail _ hb)
  ·rcases bS.mp hb with rfl|hb
   ·exact .inl (.head _)
   ·refine Or.elim (bS.mp hb) (λq_=>?_) (λhb=>?_)
    ·subst q_;exact .inr hT
    ·exact .inl (.tail _ hb)
  ·rcases bS.mp hb with rfl|hb
   ·exact hex _ (.head _)
   ·refine Or.elim (bS.mp hb) (λq_=>?_) (λhb=>?_)
    ·subst q_;cases ex' with|traced he hc hd hsz v1 v2 hTe hTT=>exact⟨_,hTT⟩
    ·exact hex _ (.tail _ hb)
  ·rcases bS.mp ha with rfl|ha
   ·exact ap _ (.head _)
   ·refine Or.elim (bS.mp ha) (λq_=>?_) (λha=>?_)
    ·subst q_;refine⟨k'.fr hT,λq=>?_,λq=>?_,?_⟩
     ·refine dM (cB q) λi hi=>?_;refine dQ (S.objs i _ hi) ?_;intro _ _ r_3;refine av r_3 ?_;intro o _ ho;obtain⟨ob,e⟩:=ho.here;replace e:=hT.symm.trans e;exact fm e
     ·obtain ⟨o,e⟩:=S.xs _ (.tail _ (az _ q));replace e:=hT.symm.trans e;exact fm e
     ·cases hb:c.base.get? a with
      |none=>rfl
      |some o=>replace hT:=(S.stays a o hb).symm.trans hT;cases hT
    ·exact ap _ (.tail _ ha)
theorem ExcS.uniq(x:ExcS h e cls t)(y:ExcS h e cls' t'):t=t':=by
 induction x with
 |fresh a1 a2 a3 a4 a5 a6=>
  induction y with
  |fresh=>rfl
  |traced b1 b2 b3 b4 b5=>cases a1.symm.trans b1;cases a3.symm.trans b3;cases a5.symm.trans b5
 |traced a1 a2 a3 a4 a5=>
  induction y with
  |fresh b1 b2 b3 b4 b5=>cases a1.symm.trans b1;cases a3.symm.trans b3;cases a5.symm.trans b5
  |traced b1 b2 b3 b4 b5=>cases a1.symm.trans b1;cases a3.symm.trans b3;cases a5.symm.trans b5;rfl
theorem ERes.fly{E:Value->Shared->Prop}{Q:Unit->Shared->Prop}(r:ERes c as X h XX x s')(tr:Ch x s'.heap)(q:∀s'',ERes c as X h XX x s''->Ch x s''.heap->Q () s''):wpAny c.M A (setFlight x fr) Q E s':=by
 obtain⟨k,H',as',e,t,ts,rfl,e',S,k',ex,ht,ap,w⟩:=r;refine lh tr ?_;intro e₁ T cls he ex₁;cases he;replace ex₁:=ex.uniq ex₁;obtain rfl:=ex₁;refine jJ ex λh'' ex' hk=>q _ ?_ ⟨e,T,_,rfl,ex'⟩;have tc:Touch [T] [] s'.heap h'':=λb o eb=>by
  by_cases hb:b=T
  ·(replace hb:=Eq.symm hb;subst hb)
   cases ex' with|traced he hc hd hsz v1 v2 hTe hTT=>exact⟨_,hTT,.inl (.head _)⟩
  ·exact ⟨o,(hk b hb).trans eb,.inr (.inl rfl)⟩
 have hT:T∈ts:=ht T rfl;refine⟨k,H',as',e,some T,ts,rfl,e',S.note tc (λb hb=>?_) (λb hb=>nomatch hb) (λ_ q=>q) (λ_ q=>.inl q) (λb hb=>?_),λb o eb hb=>?_,ex',ht,ap,w⟩
 ·cases fV.mp hb;exact⟨.tail _ (aI _ hT),(ap T (.tail _ hT)).2.2.2⟩
 ·refine dM (S.xs b hb) λo eo=>?_;refine av (tc b o eo) ?_;intro o' eo' _;exact⟨o',eo'⟩
 ·refine av (k' b o eb hb) ?_;intro o₁ e₁ s₁;have hbT:b≠T:=λq=>by
   subst q;rcases(ap b (.tail _ hT)).1 with q|q
   ·exact hb q
   ·replace eb:=q.symm.trans eb;exact fm eb
  exact⟨o₁,(hk b hbT).trans e₁,s₁⟩
theorem ERes.less(r:ERes c as Y h XX x s')(hXY:∀b∈X,b∈Y)(hY:∀b,2<=Y.count b->2<=X.count b\/Fr as h b):ERes c as X h XX x s':=by obtain⟨k,H',as',e,t,ts,rfl,e',S,k',ex,ht,ap,w⟩:=r;have sub:∀b∈e::(ts++X),b∈e::(ts++Y):=d0 (.head _) (dk (λb hb=>.tail _ (aI _ hb)) λb hb=>.tail _ (az _ (hXY b hb)));exact⟨k,H',as',e,t,ts,rfl,e',⟨S.len,S.stays,S.gens,S.os,λi a q=>haveI z:=S.objs i a q;⟨z.1,λq=>z.2.1 (sub a q),z.2.2.imp λ_ y=>⟨y.1,OR.frames (λb _ _ hb q=>hb (sub b q)) y.2⟩⟩,S.inj,λb hb=>S.xs b (sub b hb)⟩,k'.less hY,ex,ht,λa ha=>⟨(ap a ha).1,(ap a ha).2.1,λq=>(ap a ha).2.2.1 (hXY a q),(ap a ha).2.2.2⟩,w⟩
theorem ExcS.keep(x:ExcS h e cls t)(k:∀b∈e::t.toList,∀o,h.get? b=some o->h'.get? b=some o):ExcS h' e cls t:=by
 induction x with
 |fresh he hc hd hsz h1 h2=>exact .fresh (k _ (.head _) _ he) hc hd hsz h1 h2
 |traced he hc hd hsz h1 h2 hTe hT hdT hts=>exact .traced (k _ (.head _) _ he) hc hd hsz h1 h2 hTe (k _ (.tail _ (.head _)) _ hT) hdT hts
theorem ERes.pass{α:Type}{Q:α->Shared->Prop}{E:Value->Shared->Prop}(r:ERes c as X h XX x s')(tr:Ch x s'.heap)(q:∀s'',ERes c as X h XX x s''->Ch x s''.heap->E x s''):wpAny c.M A (PySem.passOn what x env:Sem α) Q E s':=by
 unfold PySem.passOn;refine lh (id tr) ?_;intro e T cls q_4 ex;subst q_4;cases ex with
 |traced he hc hd hsz v1 v2 hTe hTT=>refine wpAny_bind (wpAny_field he hd v1 ?_);exact wpAny_bind (r.fly tr λs'' er tr'=>wpAny_throw (q s'' er tr'))
noncomputable abbrev zN:List Value:=[.type "ValueError",.type "Exception",.type "BaseException",.type "object"]
noncomputable def jV:List Str:=["__init__","__getattribute__","__getattr__","__class__"]
inductive XTail(h:HP):List Value->Prop
 |base:XTail h zN
 |own {A:Addr} {c0:Value} {dd:Option Addr} {cd:ClassData} {sl:Array (Option Value)} {mA:Str->Option Value} {tl:List Value}:
   h.get? A=some {cls:=c0,dict:=dd,data:=.cls cd,slots:=sl}->h.Ns cd.ns mA->(∀n∈jV,mA n=none)->XTail h tl->XTail h (.ref A::tl)
theorem XTail.tail(T:XTail h tl):OwnTail h zN tl:=by
 induction T with
 |base=>exact .base
 |own hA hN hq _ ih=>exact .own hA hN (hq _ (.head _)) ih
theorem XTail.keeps(T:XTail h tl)(hk:h.StaysIn h'):XTail h' tl:=by
 induction T with
 |base=>exact .base
 |own hA hN hq _ ih=>exact .own (hk _ _ hA) (hN.keeps hk) hq ih
inductive XC(h:HP)(C:Addr)(bm:List Value):Prop
 |mk {nm q:Str} {N:Addr} {bs:List Value} {hdct:Bool} {sn:List Str} {sub:List Value} {ab:Bool} {col:Option Bool} {dd:Option Addr} {k0 k1 k2 k3 k5:Option Value} {mN:Str->Option Value}:
   h.get? C=some (excClassObj nm q C N bs bm hdct sn sub ab col dd k0 k1 k2 k3 k5 "ValueError.__new__")->h.Ns N mN->(∀n∈jV,mN n=none)->XTail h bm->XC h C bm
theorem XC.keeps(x:XC h C bm)(hk:h.StaysIn h'):XC h' C bm:=by obtain⟨hC,hN,hq,T⟩:=x;exact⟨hk _ _ hC,hN.keeps hk,hq,T.keeps hk⟩
theorem XTail.has(T:XTail h tl)(hv:zN.contains v=true):tl.contains v=true:=by
 induction T with
 |base=>exact hv
 |own _ _ _ _ ih=>simp only [ir,ih,mM]
section
variable {M:Model}{A:Around}{E:Value->Shared->Prop}{h:HP}{g:Array GenState}{d:Drawn}{t:Nat}{os:OsState}
theorem tv{Q:Option Value->Shared->Prop}(hn:n∈jV)(T:XTail h tl)(hrest:lookupAlong zN n=pure y)(hq:Q y ⟨h,g,d,t,os⟩) :
  wpAny M A (lookupAlong tl n) Q E ⟨h,g,d,t,os⟩:=by
 induction T with
 |base=>exact(hrest)▸wpAny_pure hq
 |own hA hN hni _ ih=>rw [lookupAlong_cons];refine wpAny_bind (wpAny_classOwn_cls hA hN ?_);rw [hni n hn];exact ih
theorem uQ{Q:Option Value->Shared->Prop}(hn:n∈jV)(x:XC h C bm)(hB:typeLookup (.type "ValueError") n=pure y)(hq:Q y ⟨h,g,d,t,os⟩) :
  wpAny M A (typeLookup (.ref C) n) Q E ⟨h,g,d,t,os⟩:=by
 obtain⟨hC,hN,hmN,T⟩:=x;haveI hrest:lookupAlong zN n=pure y:=by exact hB
 simp only [typeLookup_eq];refine wpAny_bind (wpAny_mroOf_exc hC ?_);rw [lookupAlong_cons];refine wpAny_bind (wpAny_classOwn_exc hC hN ?_);rw [hmN n hn];exact tv hn T hrest hq
theorem vR{Q:Bool->Shared->Prop}(x:XC h C bm)(hq:Q ((Value.ref C::bm).contains b) ⟨h,g,d,t,os⟩):wpAny M A (isSubtype (.ref C) b) Q E ⟨h,g,d,t,os⟩:=by obtain⟨hC,hN,hmN,T⟩:=x;exact wpAny_isSubtype_exc hC hq
theorem XC.base(x:XC h C bm)(hv:zN.contains v=true):(Value.ref C::bm).contains v=true:=by obtain⟨hC,hN,hmN,T⟩:=x;simp only [ir,T.has hv,mM]
theorem XC.obj(x:XC h C bm):∃o,h.get? C=some o/\o.cls=.type "type"/\∃cd,o.data=.cls cd:=by obtain⟨hC,hN,hmN,T⟩:=x;exact⟨_,hC,rfl,_,rfl⟩
theorem DY{Q:Bool->Shared->Prop}(x:XC h C bm)(y:XC h D bm')(he:h.get? e=some oe)(hcls:oe.cls=.ref C)(hs:(Value.ref C::bm).contains (.ref D)=true)(hq:Q true ⟨h,g,d,t,os⟩) :
  wpAny M A (excMatches (.ref e) (.ref D)) Q E ⟨h,g,d,t,os⟩:=by
 haveI hcB:=y.base (v:=.type "BaseException") (by decide);obtain⟨hC,hN,hmN,T⟩:=x;obtain⟨hD,hN',hmN',T'⟩:=y;haveI f:=tc_notTuple;unfold excMatches
 repeat (first|(with_reducible refine wpAny_loadPart_at he ?_;rw [hcls])|with_reducible refine wpAny_loadPart_at hD ?_|(with_reducible refine wpAny_isSubtype_exc hD ?_;rw [hcB])|(with_reducible refine wpAny_isSubtype_exc hC ?_;rw [hs])|wp_step)
 exact hq
end
section
variable {prog:Program}{w:World}{A:Around}{E:Value->Shared->Prop}{h:HP}{g:Array GenState}{d:Drawn}{t:Nat}{os:OsState}{a C D:Addr}{o:Obj}{bm bm':List Value}
theorem sL{R:Result->Shared->Prop}(x:XC h C bm)(hx:h.get? a=some o)(hc:o.cls=.ref C)(hq:R (.ok (.ret (.ref C))) ⟨h,g,d,t,os⟩) :
  codeAny (model prog w) A (.call (.builtin "getset_descriptor.__get__") ⟨[.builtin "object.__class__",.ref a,.ref C],[]⟩) R ⟨h,g,d,t,os⟩:=by
 haveI hT5:(⟨h,g,d,t,os⟩:Shared).TypeIs (.builtin "object.__class__") "getset_descriptor":=F.typeOf_object_class;haveI hcB:(Value.ref C::bm).contains (.type (".".intercalate ("object.__class__".cutAt '.').dropLast))=true:=by exact x.base (by decide)
 refine codeAny_call_builtin F.slot_gs_get.plain F.entry_gs_get (F.slot_gs_get.check _ _ _ _ _ _ _ _ hT5 (F.args_gs_get _ _ _) ?_)
 repeat (any_goals (first|assumption|(with_reducible refine wpAny_loadPart_at hx ?_;simp only [hc])|(with_reducible refine vR x ?_;simp only [hcB])|wp_step))
 refine⟨Code.quiet_builtin _ (by decide+kernel),codeAny_builtin F.entry_object_class ?_⟩
 repeat (any_goals (first|assumption|(with_reducible refine wpAny_loadPart_at hx ?_;rw [hc])|wp_step))
theorem uz{Q:Unit->Shared->Prop}(x:XC h C bm)(hx:h.get? a=some o)(hc:o.cls=.ref C)(hq:Q () ⟨h,g,d,t,os⟩):wpAny M A (checkBuiltinCall "BaseException.__getattribute__" ⟨[.ref a,nameV],[]⟩) Q E ⟨h,g,d,t,os⟩:=by
 haveI hk:builtinKind "BaseException.__getattribute__"=some .slot:=by decide+kernel
 haveI hsplit:splitId "BaseException.__getattribute__"=some ("BaseException","__getattribute__"):=by decide+kernel
 haveI hcB:=x.base (v:=.type "BaseException") (by decide);haveI ha:=F.args_bexc_ga (.ref a) nameV;rw [checkBuiltinCall,hk,hsplit];refine wpAny_bind ?_
 ·unfold isInstance
  repeat (first|(with_reducible refine wpAny_loadPart_at hx ?_;rw [hc])|(with_reducible refine vR x ?_;rw [hcB])|wp_step)
  exact hq
theorem uI:typeLookup (.type "ValueError") "__class__"=pure (some (.builtin "object.__class__")):=by kernel_rfl
theorem pF{Q:Fin->Shared->Prop}(x:XC h C bm)(hx:h.get? a=some o)(hc:o.cls=.ref C)(hq:Q (.done (.ret (.ref C))) ⟨h,g,d,t,os⟩) :
  wpAny (model prog w) A (Builtin.«object.__getattribute__» ⟨[.ref a,.str "__class__" tk],[]⟩) Q E ⟨h,g,d,t,os⟩:=by
 have hT5:=F.typeOf_object_class;have f5:=F.typeOf_object_class;haveI f6:=F.slot_gs_get.lookup;haveI f7:=F.slot_gs_set.lookup;haveI hm:("__class__":Str)∈jV:=.tail _ (.tail _ (.tail _ (.head _)))
 repeat (any_goals (first|assumption|(with_reducible refine wpAny_loadPart_at hx ?_;rw [hc])|with_reducible refine uQ hm x uI ?_|wp_step))
 refine sL x hx hc ?_
 repeat (any_goals (first|assumption|wp_step))
theorem uP{Q:Value->Shared->Prop}(x:XC h C bm)(hx:h.get? a=some o)(hc:o.cls=.ref C)(hq:Q (.ref C) ⟨h,g,d,t,os⟩) :
  wpAny (model prog w) A (getAttrBy (.ref a) (.str "__class__" tk) false) Q E ⟨h,g,d,t,os⟩:=by
 haveI FB:=F.attrBase_ValueError;haveI f3:=FB.ga.bind (.ref a);haveI hx2:(Value.builtin "BaseException.__getattribute__"==Value.builtin "object.__getattribute__")=false:=by decide+kernel
 haveI hx1:(onTheHeap (Value.ref C)&&Value.builtin "BaseException.__getattribute__"==Value.builtin "object.__getattribute__")=false:=by rfl
 haveI hm1:("__getattribute__":Str)∈jV:=.tail _ (.head _);haveI hm2:("__getattr__":Str)∈jV:=.tail _ (.tail _ (.head _))
 repeat (any_goals (first|assumption|(with_reducible refine wpAny_loadPart_at hx ?_;simp only [hc])|with_reducible refine uQ hm1 x FB.ga.lookup ?_|with_reducible refine uQ hm2 x FB.noGetattr ?_|wp_step))
 refine codeAny_call_builtin FB.ga.plain F.entry_bexc_ga (uz x hx hc (pF x hx hc ?_))
 repeat (any_goals (first|assumption|wp_step))
theorem rF{Q:Option Value->Shared->Prop}(x:XC h C bm)(hx:h.get? a=some o)(hc:o.cls=.ref C)(hq:Q (some (.ref C)) ⟨h,g,d,t+1,os⟩):wpAny (model prog w) A (getAttr? (.ref a) "__class__") Q E ⟨h,g,d,t,os⟩:=by
 unfold getAttr? getAttrBy?
 repeat (any_goals (first|assumption|with_reducible apply uP x hx hc|wp_step))
theorem q8{Q:Fin->Shared->Prop}(x:XC h C bm)(y:XC h D bm')(hx:h.get? a=some o)(hc:o.cls=.ref C)(hq:∀t',Q (.done (.ret (.bool ((Value.ref C::bm).contains (.ref D))))) ⟨h,g,d,t',os⟩) :
  wpAny (model prog w) A (Builtin.«isinstance.nested» ⟨[.ref a,.ref D,.int dep tk],[]⟩) Q E ⟨h,g,d,t,os⟩:=by
 obtain⟨oD,hoD,hcD,cdD,hdD⟩:=y.obj;obtain⟨oC,hoC,hcC,cdC,hdC⟩:=x.obj;by_cases hCD:C=D
 ·subst hCD;have e:(Value.ref C::bm).contains (.ref C)=true:=by simp
  rw [e]at hq;have hq0:=hq t;have hb:(Value.ref C==Value.ref C)=true:=by simp
  repeat (any_goals (first|assumption|(with_reducible refine wpAny_loadPart_at hx ?_;skip)|wp_step))
 ·have hne:(Value.ref C==Value.ref D)=false:=by simpa using hCD
  have f1:=tc_notTuple;cases hb:(Value.ref C::bm).contains (.ref D)with
  |true=>
   rw [hb]at hq;have hq0:=hq t
   repeat (any_goals (first|assumption|(with_reducible refine wpAny_loadPart_at hx ?_;rw [hc])|(with_reducible refine wpAny_loadPart_at hoD ?_;try rw [hcD])|(with_reducible refine vR x ?_;rw [hb])|wp_step))
  |false=>
   rw [hb]at hq;have hq0:=hq (t+1)
   repeat (any_goals (first|assumption|(with_reducible refine wpAny_loadPart_at hx ?_;rw [hc])|(with_reducible refine wpAny_loadPart_at hoD ?_;try rw [hcD])|(with_reducible refine vR x ?_;rw [hb])|(with_reducible refine rF x hx hc ?_)|wp_step))
end
section
variable {prog:Program}{w:World}{A:Around}{E:Value->Shared->Prop}{s:Shared}{a C D:Addr}{o:Obj}{bm bm':List Value}{Q:Value->Shared->Prop}
theorem xS(x:XC s.heap C bm)(y:XC s.heap D bm')(hx:s.heap.get? a=some o)(hc:o.cls=.ref C)(hq:∀tk,Q (.bool ((Value.ref C::bm).contains (.ref D))) {s with toks:=tk}) :
  wpAny (model prog w) A (call (.builtin "isinstance") [.ref a,.ref D]) Q E s:=
 call_isinstance (S:=λ_ R s=>(XC s.heap C bm/\XC s.heap D bm'/\s.heap.get? a=some o)/\∀tk,R (.ok (.ret (.bool ((Value.ref C::bm).contains (.ref D))))) {s with toks:=tk})
  (λ_ _ _ _ _ hs=>isinstance_outer (q8 hs.1.1 hs.1.2.1 hs.1.2.2 hc hs.2) nofun) ⟨⟨x,y,hx⟩,hq⟩
end
section
variable {c:Cx}{A:Around}{E:Value->Shared->Prop}{s:Shared}{as:dH}{X:List Addr}{H H':AH}{Q:QE}
theorem VRs.len_arr{items:Array Value}(r:VRs c as X h vs items.toList):items.size=vs.length:=by haveI:=r.length;simp only [bJ]at this;exact this.symm
inductive FreshL(c:Cx)(as:dH)(X:List Addr)(s:Shared)(vs:List V)(x:Value)(s':Shared):Prop
 |mk (a:Addr) (items:Array Value):x=.ref a->s.heap.get? a=none->c.base.get? a=none->Grown s.heap s'.heap->s'.gens=s.gens->s'.os=s.os->s'.heap.PlainList a items->VRs c as X s.heap vs items.toList->vs.length<=kR->FreshL c as X s vs x s'
theorem SR.not_as(S:SR c as X H s)(hn:s.heap.get? a=none):a∉as:=λq=>by obtain⟨i,hi⟩:=cB q;refine dQ (S.objs i _ hi) ?_;intro _ _ r_3;refine av r_3 ?_;intro o _ ho;obtain⟨ob,e⟩:=OR.here ho;replace e:=hn.symm.trans e;exact fm e
theorem SR.not_x(S:SR c as X H s)(hn:s.heap.get? a=none):a∉X:=λq=>by refine dM (S.xs _ q) λo e=>?_;replace e:=hn.symm.trans e;exact fm e
theorem SR.base_none(S:SR c as X H s)(hn:s.heap.get? a=none):c.base.get? a=none:=by
 cases h:c.base.get? a with
 |none=>rfl
 |some o=>replace hn:=(S.stays a o h).symm.trans hn;cases hn
theorem dy(h:HP):h.get? h.objs.size=none:=by
 cases e:h.get? h.objs.size with
 |none=>rfl
 |some o=>exact absurd (fB e) (c5 _)
theorem FreshL.frozen(S:SR c as X H s)(f:FreshL c as X s vs x s')(q:Q (.lst vs) H):Res c as X s.heap Q x s':=by obtain⟨a,items,rfl,hn,hb,g,hg,hos,⟨n,hp⟩,r,hl⟩:=f;exact Res.grow S g hg hos (.lst (S.not_as hn) (S.not_x hn) ⟨n,hp⟩ (r.grow g) hl) q
theorem lZ(as:dH)(h:HP)(a:Addr)(hn:h.get? a=none):Ext as h (as++[a]):=
 ⟨λ_ _ e=>dt e,dk (λ_ q=>.inl q) (dz (.inr hn))⟩
theorem OR.keepE(k:VK as X h h')(x:Ext as h as')(hnd:∀(i:Nat) (b:Addr),as[i]? =some b->as'[i]? =some b)
  (ha:∀ob,h.get? a=some ob->h'.get? a=some ob):OR c as X h a o->OR c as' X h' a o:=by
 intro z;cases o with
 |list vs=>obtain⟨hb,items,⟨n,e⟩,r⟩:=z;exact⟨hb,items,⟨n,ha _ e⟩,r.keepX k x⟩
 |dict ks vs=>obtain⟨hb,hsm,cs,hd,hl,r⟩:=z;exact⟨hb,hsm,cs,DictOf.same hd ha,hl,r.keepX k x⟩
 |inst k d=>obtain⟨dx,ob,e1,e2,r1,r2,r3⟩:=z;exact⟨dx,ob,hnd _ _ e1,ha _ e2,r1,r2,r3⟩
 |ns ks vs=>obtain⟨hb,cs,mA,hn,hl,r,hm⟩:=z;exact⟨hb,cs,mA,hn.at ha,hl,r.keepX k x,hm⟩
theorem SR.alloc(S:SR c as X H s)(hn:s.heap.get? a=none)(g:Grown s.heap s'.heap)(hg:s'.gens=s.gens)(hos:s'.os=s.os)(ho:OR c (as++[a]) X s'.heap a o) :
  SR c (as++[a]) X (H++[o]) s' where
 len:=by simp only [ah,ah,S.len];rfl
 stays:=λb o e=>g b o (S.stays b o e)
 gens:=hg.trans S.gens
 os:=hos.trans S.os
 objs:=λi b hi=>(im hi).elim (λhi=>dQ (S.objs i b hi) λh1 h2 r=>av r λo' h3 h4=>⟨h1,h2,o',dt h3,h4.keepE (g.kept as X).x (lZ as _ a hn) (λ_ _ e=>dt e) λob e=>g b ob e⟩) λq=>by obtain⟨rfl,rfl⟩:=q;exact⟨S.base_none hn,S.not_x hn,o,by rw [S.len];exact cP,ho⟩
 inj:=λi j b hi hj=>(im hi).elim (λh1=>(im hj).elim (S.inj i j b h1) λh2=>absurd (h2.2▸aN h1) (S.not_as hn)) λh1=>(im hj).elim (λh2=>absurd (h1.2▸aN h2) (S.not_as hn)) λh2=>h1.1.trans h2.1.symm
 xs:=λb hb=>(S.xs b hb).imp λo e=>g b o e
theorem FreshL.thawed(S:SR c as X H s)(f:FreshL c as X s vs x s')(q:Q (.ref H.length) (H++[.list vs])):Res c as X s.heap Q x s':=by obtain⟨a,items,rfl,hn,hb,g,hg,hos,hp,r,hl⟩:=f;haveI E:=lZ as s.heap a hn;refine⟨.ref H.length,_,as++[a],E,S.alloc (o:=.list vs) hn g hg hos ⟨hl,items,hp,r.keep (g.kept as X) E⟩,g.kept as X,.ref ?_,q⟩;rw [<-S.len];simp
theorem my(S:SR c as X H s)(hp:prim c.P p us H=some (.lst ws,H))(hw:∀R:Value->Shared->Prop,(∀x s',FreshL c as X s ws x s'->R x s')->wpAny c.M A t R E s)
  (q:hM (be c.P mu p us H) Q):wpAny c.M A t (Res c as X s.heap Q) E s:=by
 cases mu with
 |false=>replace q:hM (prim c.P p us H) Q:=q;rw [hp]at q;exact hw _ λx s' f=>f.frozen S q
 |true=>
  replace q:hM (if p.fresh=true then(prim c.P p us H).bind λr=>kI r.1 r.2 else none) Q:=q;cases hf:p.fresh with
  |true=>rw [hf,hp]at q;exact hw _ λx s' f=>f.thawed S q
  |false=>rw [hf]at q;exact q.elim
theorem DC(e:KV H v=some n):(∃s,v=.str s/\n=s.length)\/(∃vs,v=.tup vs/\n=vs.length)\/(∃vs,d7 H v=some vs/\n=vs.length)\/∃d,ju H v=some d/\n=d.1.length:=by
 refine Is.of (R:=λn=>(∃s,v=.str s/\n=s.length)\/(∃vs,v=.tup vs/\n=vs.length)\/(∃vs,d7 H v=some vs/\n=vs.length)\/∃d,ju H v=some d/\n=d.1.length) ?_ e;have h:∀{o:Option (List V)},o=d7 H v->Is (DO ((ju H v).map λd=>d.1.length) o) λn=>(∃s,v=.str s/\n=s.length)\/(∃vs,v=.tup vs/\n=vs.length)\/(∃vs,d7 H v=some vs/\n=vs.length)\/∃d,ju H v=some d/\n=d.1.length:=λ{o} e=>by
  cases o with
  |some vs=>exact .inr (.inr (.inl ⟨vs,e.symm,rfl⟩))
  |none=>exact Is.self.map λd h1=>.inr (.inr (.inr ⟨d,h1,rfl⟩))
 cases v with
 |str s=>exact .inl ⟨s,rfl,rfl⟩
 |tup vs=>exact .inr (.inl ⟨vs,rfl,rfl⟩)
 |_=>exact h rfl
theorem lI(h:n<=kR):(n:Int)<2 ^ 63:=Eo (p6 (bW.mpr h) rf) (by decide)
theorem rP(h:n<=aB):n<=kR:=aa h (aa (ax _ 5) eR)
theorem Ma(S:SR c as X H s)(hv:VR c as X s.heap v cv)(e:LU [v] H=some (r,H'))(q:Q r H'):wpAny c.M A (call (.builtin "len") [cv]) (Res c as X s.heap Q) E s:=by
 refine av (dW e) ?_;intro n e1 e2;cases e2;haveI F:=λt tk=>Res.now (tk:=tk) S (VR.int n t) q;rcases DC e1 with ⟨s,rfl,rfl⟩|⟨vs,rfl,rfl⟩|⟨vs,hvs,rfl⟩|⟨d,hd,rfl⟩
 ·cases hv.inv with
  |str _ hs=>
   refine len_str ?_ ?_
   ·rw [fw];exact gJ.mpr (lI hs)
   ·rw [fw];exact F _ _
 ·cases hv.inv with
  |tup h1 h2 h3 r hs=>
   have hl:=r.len_arr;refine P.len_tuple h3 ?_ ?_
   ·exact hl▸gJ.mpr (lI hs)
   ·exact hl▸F _ _
 ·replace S:=e9 S hv hvs;obtain⟨a,items,rfl,hp,r,hs⟩:=S;have hl:=r.len_arr;refine call_len_list hp.isList ?_ ?_
  ·exact hl▸lI hs
  ·exact hl▸F _ _
 ·replace S:=l7 S hv hd;obtain⟨a,cs,rfl,hsm,hp,hl,r,hs⟩:=S;haveI hlz:((d.1.map toS).zip cs).length=d.1.length:=by simp only [vq,ak,<-hl,rZ]
  refine call_len_dict (knd:=c.kd) hsm hp ?_ ?_
  ·simp only [hlz,hl,<-r.length];exact lI hs
  ·rw [hlz];exact F _ _
noncomputable def iP:Ty->String
 |.int=>"int"|.bool=>"bool"|.str=>"str"|.list=>"list"|.tuple=>"tuple"
theorem C4{R:Value->Shared->Prop}(F:∀tk,R (.bool (t==.int)) {s with toks:=tk}):wpAny c.M A (call (.builtin "isinstance") [.int i u,.type (iP t)]) R E s:=by cases t<;>first|exact IsiPair.int_int (F _)|exact IsiPair.int_bool (F _)|exact IsiPair.int_str (F _)|exact IsiPair.int_list (F _)|exact IsiPair.int_tuple (F _)
theorem yL{R:Value->Shared->Prop}(F:∀tk,R (.bool (t==.int||t==.bool)) {s with toks:=tk}):wpAny c.M A (call (.builtin "isinstance") [.bool b,.type (iP t)]) R E s:=by cases t<;>first|exact IsiPair.bool_int (F _)|exact IsiPair.bool_bool (F _)|exact IsiPair.bool_str (F _)|exact IsiPair.bool_list (F _)|exact IsiPair.bool_tuple (F _)
theorem CA{R:Value->Shared->Prop}(F:∀tk,R (.bool (t==.str)) {s with toks:=tk}):wpAny c.M A (call (.builtin "isinstance") [.str x u,.type (iP t)]) R E s:=by cases t<;>first|exact IsiPair.str_int (F _)|exact IsiPair.str_bool (F _)|exact IsiPair.str_str (F _)|exact IsiPair.str_list (F _)|exact IsiPair.str_tuple (F _)
theorem xE{R:Value->Shared->Prop}(ho:s.heap.get? a=some {cls:=.type "tuple",data:=.seq its n})(F:∀tk,R (.bool (t==.tuple)) {s with toks:=tk}):wpAny c.M A (call (.builtin "isinstance") [.ref a,.type (iP t)]) R E s:=by cases t<;>first|exact IsiPair.tuple_int ho rfl (F _)|exact IsiPair.tuple_bool ho rfl (F _)|exact IsiPair.tuple_str ho rfl (F _)|exact IsiPair.tuple_list ho rfl (F _)|exact IsiPair.tuple_tuple ho rfl (F _)
theorem th{R:Value->Shared->Prop}(ho:s.heap.get? a=some {cls:=.type "list",data:=.seq its n})(F:∀tk,R (.bool (t==.list)) {s with toks:=tk}):wpAny c.M A (call (.builtin "isinstance") [.ref a,.type (iP t)]) R E s:=by cases t<;>first|exact IsiPair.list_int ho rfl (F _)|exact IsiPair.list_bool ho rfl (F _)|exact IsiPair.list_str ho rfl (F _)|exact IsiPair.list_list ho rfl (F _)|exact IsiPair.list_tuple ho rfl (F _)
theorem rK{R:Value->Shared->Prop}(F:∀tk,R (.bool false) {s with toks:=tk}):wpAny c.M A (call (.builtin "isinstance") [.none,.type (iP t)]) R E s:=by cases t<;>first|exact IsiPair.NoneType_int (F _)|exact IsiPair.NoneType_bool (F _)|exact IsiPair.NoneType_str (F _)|exact IsiPair.NoneType_list (F _)|exact IsiPair.NoneType_tuple (F _)
theorem tM{R:Value->Shared->Prop}(ho:s.heap.get? a=some o)(hx:o.cls=.type "dict")(F:∀tk,R (.bool false) {s with toks:=tk}):wpAny c.M A (call (.builtin "isinstance") [.ref a,.type (iP t)]) R E s:=by cases t<;>first|exact IsiPair.dict_int ho hx (F _)|exact IsiPair.dict_bool ho hx (F _)|exact IsiPair.dict_str ho hx (F _)|exact IsiPair.dict_list ho hx (F _)|exact IsiPair.dict_tuple ho hx (F _)
inductive RefAt(c:Cx)(as:dH)(X:List Addr)(h:HP)(i:Nat)(o:O):Value->Prop
 |mk (a:Addr):as[i]? =some a->OR c as X h a o->RefAt c as X h i o (.ref a)
theorem jn(S:SR c as X H s)(hv:VR c as X s.heap (.ref i) x)(ho:H[i]? =some o):RefAt c as X s.heap i o x:=by
 cases hv.inv with
 |ref hi=>exact av (S.objs _ _ hi).2.2 λo' h3 h4=>.mk _ hi (aj (h3.symm.trans ho)▸h4)
theorem Bn{R:Value->Shared->Prop}(S:SR c as X H s)(hv:VR c as X s.heap v cv):Is (isinst H v t) λb=>(∀tk,R (.bool b) {s with toks:=tk})->wpAny c.M A (call (.builtin "isinstance") [cv,.type (iP t)]) R E s:=by
 cases v with
 |int i=>cases hv.inv;exact C4
 |bool i=>cases hv.inv;exact yL
 |str i=>cases hv.inv;exact CA
 |none=>cases hv.inv;exact rK
 |tup vs=>cases hv.inv with|tup _ _ ho _ _=>exact xE ho
 |lst vs=>cases hv.inv with|lst _ _ hp _ _=>exact λF=>hp.elim λn ho=>th ho F
 |dct ks vs=>cases hv.inv with|dct _ _ _ hp _ _ _=>exact λF=>ja hp λo es ep ho hx _=>tM ho hx.1 F
 |ref i=>
  refine Is.self.bind λo ho=>?_;cases jn S hv ho with
  |mk a hi hr=>
   cases o with
   |list vs=>exact λF=>hr.2.elim λitems q=>q.1.elim λn hg=>th hg F
   |dict ks vs=>exact λF=>hr.2.2.elim λcs q=>ja q.1 λo es ep ho hx _=>tM ho hx.1 F
   |_=>exact trivial
 |rng=>exact trivial
theorem Bf(S:SR c as X H s)(hv:VR c as X s.heap v cv)(e:wu t [v] H=some (r,H'))(q:Q r H') :
  wpAny c.M A (call (.builtin "isinstance") [cv,.type (iP t)]) (Res c as X s.heap Q) E s:=
 av (dW e) λb e1 e2=>(Bn S hv).of e1 λtk=>by refine bc λk_=>?_;obtain⟨rfl,rfl⟩:=Jj e2;refine k_ ?_;exact Res.now (tk:=tk) S (VR.bool b) q
theorem BP(S:SR c as X H s)(hv:VR c as X s.heap v cv)(e:vD [v] H=some (r,H'))(q:Q r H'):wpAny c.M A (call (.type "range") [cv]) (Res c as X s.heap Q) E s:=by
 replace e:=cb e;refine bc λk_=>?_;refine av e ?_
 try clear e
 intro b h1 e;replace h1:=V.num_is h1;subst h1;replace e:=dg e;obtain⟨hsm,e⟩:=e;cases e;refine k_ ?_;cases hv.inv;refine call_range_1 ?_;exact Res.grow (s':={s with heap:=_,toks:=_}) S (.push _ _) rfl rfl (.rng (gG S) (jb S) (IsRange.new ..) (by decide) hsm) q
theorem y0(S:SR c as X H s)(hv:VR c as X s.heap v cv)(hw:VR c as X s.heap w cw)(e:wq [v,w] H=some (r,H'))(q:Q r H'):wpAny c.M A (call (.type "range") [cv,cw]) (Res c as X s.heap Q) E s:=by
 replace e:=cb e;refine bc λk_=>?_;refine av e ?_
 try clear e
 intro a h1 e;replace e:=cb e;refine av e ?_
 try clear e
 intro b h2 e
 try clear b;try clear a
 replace h1:=V.num_is h1;subst h1
 try clear h1
 replace h2:=V.num_is h2;subst h2;replace e:=dg e;obtain⟨hsm,e⟩:=e;haveI hsm:=ay.mp hsm
 try clear h2
 cases e
 try clear e
 refine k_ ?_;cases hv.inv
 try clear hv
 cases hw.inv;refine call_range_2 ?_;exact Res.grow (s':={s with heap:=_,toks:=_}) S (.push _ _) rfl rfl (.rng (gG S) (jb S) (IsRange.new ..) hsm.1 hsm.2) q
theorem jP(a b:Int):Ck a b 1=((b-a).toNat:Nat):=by
 unfold Ck;rw [if_pos (by decide:(1:Int)>0)];by_cases h:a<b
 ·rw [if_pos h,Ep,MV,bT (Jk (eU h))]
 ·rw [if_neg h,Int.toNat_of_nonpos (Int.sub_nonpos_of_le (cN.mp h))];rfl
theorem xJ(hi:ItemsOf (λi v=>∃t,v=Value.int (a+i*1) t) acc n):VRs c as X h ((aX n).map λ(i:Nat)=>V.int (a+i)) acc.toList:=by
 refine cY hi λh1 h2=>?_;subst h1;haveI key:∀(l:List Value) (k:Nat),(∀j v,l[j]? =some v->∃t,v=Value.int (a+((k+j:Nat):Int)) t)->VRs c as X h ((Jl k l.length).map λ(i:Nat)=>V.int (a+i)) l:=by
  intro l
  induction l with
  |nil=>intro k _;exact .nil
  |cons x l ih=>intro k hx;obtain⟨t,e⟩:=hx 0 x rfl;subst e;refine .cons (by exact VR.int _ _) (ih (k+1) λj v hv=>?_);obtain⟨t,e⟩:=hx (j+1) v (by exact hv);exact⟨t,by rw [e];congr 2;exact by simp+arith only⟩
 haveI:=key acc.toList 0 λj v hv=>by obtain⟨t,e⟩:=h2 j v (by simpa using hv);exact⟨t,by rw [e];simp⟩
 rw [Jm]
 simpa using this
theorem nB(ha:cK a=true)(hb:cK b=true):Jz a b 1=true:=by
 simp only [cK,decide_eq_true_eq]at ha hb;haveI f:∀i:Int,-10 ^ 14<=i->i<=10 ^ 14->xn i=true:=λi h1 h2=>by simp only [xn,dC,decide_eq_true_eq];exact⟨bA (by decide) h1,p6 h2 (by decide)⟩
 haveI hs:=jP a b;unfold Jz;have b1:=bA (by decide:(-10 ^ 14:Int)<=_) hb.1;have b2:=bA hb.2 (by decide:(_:Int)<=10 ^ 14);rw [f a (bA (by decide) ha.1) (bA ha.2 (by decide)),f b b1 b2,f 1 (by decide) (by decide),f _ (hs▸bA (by decide) (bn _)) (hs▸bA (bW.mpr (mK.mpr (bA (Int.sub_le_sub hb.2 ha.1) (by decide:_<=((10 ^ 14:Nat):Int))))) (by decide))];simp only [show(1:Int)>0 from by decide,if_true,f (b+(1-1)) ((Er b).symm▸b1) ((Er b).symm▸b2),mM,B7]
theorem nC(a b:Int):(jj a b).length=(b-a).toNat:=by simp [jj]
theorem jz(S:SR c as X H s)(g:Grown s.heap h')(ho:h'.get? s.heap.objs.size=some {cls:=.type "list",data:=.seq items n})(hv:VRs c as X s.heap vs items.toList)(hb:vs.length<=kR) :
  FreshL c as X s vs (.ref s.heap.objs.size) {s with heap:=h',toks:=tk}:=
 ⟨_,items,rfl,dy _,S.base_none (dy _),g,rfl,rfl,⟨n,ho⟩,hv,hb⟩
theorem AS(e:E8 H v=some (.lst ws)):(∃a b,v=.rng a b/\(b-a).toNat<=aB/\ws=jj a b)\/(v=.tup ws/\ws.length<=aB)\/d7 H v=some ws/\ws.length<=aB:=by
 have h:((d7 H v).bind λvs=>if vs.length<=aB then some (V.lst vs)else none)=some (.lst ws)->d7 H v=some ws/\ws.length<=aB:=λe=>by replace e:=cb e;refine av e ?_;intro vs h1 e;cases(dg e).2;exact⟨h1,(dg e).1⟩
 cases v with
 |rng a b=>cases(dg e).2;exact .inl ⟨a,b,rfl,(dg e).1,rfl⟩
 |tup vs=>cases(dg e).2;exact .inr (.inl ⟨rfl,(dg e).1⟩)
 |_=>exact .inr (.inr (h e))
theorem FJ{R:Value->Shared->Prop}(hh:A.handled=none)(S:SR c as X H s)(hv:VR c as X s.heap v cv)(e:Ah [v] H=some (.lst ws,H'))(hR:∀x s',FreshL c as X s ws x s'->R x s') :
  wpAny c.M A (call (.type "list") [cv]) R E s:=by
 haveI hz:=eR;have hz2:=cz;refine av (dW e) ?_;intro r e1 e2;cases e2;rcases AS e1 with ⟨a,b,rfl,hb,rfl⟩|⟨rfl,hb⟩|⟨hvs,hb⟩
 ·cases hv.inv with
  |rng h1 h2 h3 h4 h5=>
   refine call_list_range hh h3 ?_ (jP a b) ?_ λh' tk acc c' g ho hi=>?_
   ·exact nB h4 h5
   ·exact aa hb (by decide)
   ·exact hR _ _ (jz S g ho (xJ hi) (by rw [nC];exact rP hb))
 ·cases hv.inv with
  |tup h1 h2 h3 r hs=>refine call_list_seq _ (.inr rfl) h3 rfl rfl (λh' c' g ho=>?_) (by rw [(r.len_arr)];exact aa hb hz2);exact hR _ _ (jz (tk:=s.toks) S g ho r hs)
 ·replace hv:=e9 S hv hvs;obtain⟨a,items,rfl,⟨n,hp⟩,r,hs⟩:=hv;refine call_list_seq _ (.inl rfl) hp rfl rfl (λh' c' g ho=>?_) (by rw [(r.len_arr)];exact aa hb hz2);exact hR _ _ (jz (tk:=s.toks) S g ho r hs)
theorem Gj(S:SR c as X H s)(hv:VR c as X s.heap (.bool b) cv)(e:Ig [.bool b] H=some (r,H'))(q:Q r H'):wpAny c.M A (call (.type "int") [cv]) (Res c as X s.heap Q) E s:=by
 ((refine cY (pW e) λe_0 e_1=>?_;subst e_0;subst e_1);clear e)
 cases hv.inv;exact call_int_bool (Res.now S (.int _ _) q)
theorem vp{vs:List V}:∀{bs:List Bool},oK vs=some bs->vs=bs.map V.bool:=by
 induction vs with
 |nil=>exact λh=>aj h▸rfl
 |cons v vs ih=>
  cases v with
  |bool b=>exact λh=>av (bz.mp h) λr h1 q=>q▸congrArg (V.bool b::·) (ih h1)
  |_=>exact λh=>fm h
theorem Lw(hh:A.handled=none)(S:SR c as X H s)(hv:VR c as X s.heap v cv)(e:Mc [v] H=some (r,H'))(q:Q r H'):wpAny c.M A (call (.builtin "all") [cv]) (Res c as X s.heap Q) E s:=by
 refine bc λk_=>?_;refine av (bz.mp e) ?_;intro bs h1 h2;cases h2;refine av (bR.mp h1) ?_;intro vs h3 h4;replace hv:=e9 S hv h3;obtain⟨a,items,rfl,hp,r,hs⟩:=hv;haveI hvs:=vp h4;subst hvs;refine k_ ?_;haveI hl:=r.len_arr;simp only [ak]at hl;haveI hin:some a≠some s.heap.objs.size:=λq=>by
  obtain⟨n,e⟩:=hp
  (replace q:=aj q;subst q)
  exact absurd (fB e) (c5 _)
 refine call_all_walk (wpAny_pyIter_list hp.isList ?_);refine⟨_,_,_,_,_,_,λi=>(bs[i]?).getD true,rfl,Walks.list (A:=A.in1) hh s.heap.objs.size a (λq=>hin (congrArg some q)) items,⟨⟨_,ba _ rfl,rfl,rfl⟩,hp.isList.imp λ_ q=>⟨bG _ q.1,q.2⟩⟩,?_,λh' tk hk=>?_⟩
 ·intro i v s' Q' E' hi hq;rw [<-cm]at hi;refine av (r.get' hi) ?_;intro w hw hvw;rw [aV,bz]at hw;refine av hw ?_;intro b hb q_3;subst q_3;cases hvw.inv;dsimp only at hq;replace hq:=hb▸hq;exact wpAny_truthy_bool hq
 ·haveI g:Grown s.heap h':=λb o e=>hk b o (λq=>by replace q:=in1 q;subst q;exact absurd (fB e) (c5 _)) (bG _ e);have hr:(aX items.size).all (λi=>(bs[i]?).getD true)=bs.all id:=by
   rw [hl,cr,bN,bN];constructor
   ·intro z b hb;refine dM (cB hb) λi hi=>?_;haveI:=z i (bE.mpr (af.mp hi).1);rw [hi]at this;exact this
   ·intro z i _;refine fS (o:=bs[i]?) (λhi=>?_) (λb hi=>?_)
    ·rw [hi];rfl
    ·exact hi▸z b (aN hi)
  rw [hr];exact Res.grow (s':={s with heap:=h',toks:=tk}) S g rfl rfl (.bool _) q
theorem Iq:VR c as X h (.int (min a b)) (if b<a then .int b u else .int a t):=by
 by_cases h:b<a
 ·rw [if_pos h,Ot (eU h)];exact .int _ _
 ·rw [if_neg h,mR (cN.mp h)];exact .int _ _
theorem K7(hh:A.handled=none)(S:SR c as X H s)(hv:VR c as X s.heap v cv)(hw:VR c as X s.heap w cw)(e:La [v,w] H=some (r,H'))(q:Q r H'):wpAny c.M A (call (.builtin "min") [cv,cw]) (Res c as X s.heap Q) E s:=by
 replace e:=cb e;refine bc λk_=>?_;refine av e ?_
 try clear e
 intro a h1 e;replace e:=dW e;refine av e ?_
 try clear e
 intro b h2 e
 try clear b;try clear a
 replace h1:=V.num_is h1;subst h1
 try clear h1
 replace h2:=V.num_is h2;subst h2
 try clear h2
 replace e:=e;cases hv.inv;cases hw.inv;cases e;refine k_ ?_;refine min_two_ints hh λh' tk g=>?_;refine Res.grow (s':={s with heap:=h',toks:=tk}) S g rfl rfl ?_ q;exact Iq
theorem ri(h:sa n i=some j):seqIndex? i n=some j/\j<n/\(0<=i->(i:Int)=j)/\(i<0->i+n=j):=by
 by_cases h0:0<=i
 ·have e:(if 0<=i then(if i<n then some i.toNat else none)else(if 0<=i+n then some (i+n).toNat else none))=some j:=h;rw [if_pos h0]at e;replace e:=dg e;obtain⟨h1,rfl⟩:=e;exact⟨PySem.seqIndex_of h0 h1,(gR h0).mpr h1,λ_=>(bT h0).symm,λq=>absurd h0 (gJ.mpr q)⟩
 ·have e:(if 0<=i then(if i<n then some i.toNat else none)else(if 0<=i+n then some (i+n).toNat else none))=some j:=h;rw [if_neg h0]at e;replace e:=dg e;obtain⟨h1,rfl⟩:=e;exact⟨PySem.seqIndex_neg (by exact(gJ.mp h0)) (by exact jE h1 (by simp+arith only)),(gR h1).mpr (jE (gJ.mp h0) (by simp+arith only)),λq=>absurd q h0,λ_=>(bT h1).symm⟩
theorem Jv{i:Int}{n j:Nat}(hb:n<=kR)(g2:j<n)(g3:0<=i->i=j)(g4:i<0->i+n=j):-2 ^ 63<=i/\i<2 ^ 63:=by
 have hn:(n:Int)<=2 ^ 40:=bW.mpr hb;refine(Decidable.em (0<=i)).elim (λh=>?_) λh=>?_
 ·exact ⟨bA (by decide) h,(g3 h).symm▸p7 (cG.mpr g2) (bA hn (by decide))⟩
 ·have h:=gJ.mp h;exact⟨bA (by decide:(-2 ^ 63:Int)<=-2 ^ 40) (bA (Int.neg_le_neg hn) (jE ((g4 h).symm▸bn j:0<=i+(n:Int)) (by simp+arith only))),Eo h (by decide)⟩
theorem kU(h:∀a b p,slice≠.Slice a b none p)(o i:Value):subscripted slice false o i=operate [o,i] (getItem o i):=by
 cases slice with
 |Slice a b st p=>
  cases st with
  |none=>exact absurd rfl (h a b p)
  |some e=>rfl
 |_=>rfl
theorem Go{t:List Char}{i:Int}{cv:Value}{u:Tok}{value slice:Expr}(hsl:∀a b p,slice≠.Slice a b none p)(S:SR c as X H s)(hv:VR c as X s.heap (.str t) cv)(e:yG H (.str t) i=some r)(q:Q r H) :
  wpAny c.M A (subscriptTail value slice cv (.int i u)) (Res c as X s.heap Q) E s:=by
 haveI hb:=rf;refine av (bR.mp e) ?_;intro j h1 h2;replace h2:=bz.mp h2;refine av h2 ?_;intro ch h3 q_3;subst q_3;cases hv.inv with
 |str t hs=>
  refine wv (ri h1) ?_;intro g1 g2 g3 g4;refine tail_any (typeIs_str _ _ _) slot_str_getitem.lookup (getItem_str ?_ (c:=ch.toNat) ?_ ?_) (kU hsl _ _)
  ·exact Jn.mpr ⟨decide_eq_false (cN.mpr (Jv hs g2 g3 g4).1),decide_eq_false (gJ.mpr (Jv hs g2 g3 g4).2)⟩
  ·simp only [fw,g1];simp [toS,h3]
  ·exact Res.now S (.str [ch] _ (by simp [kR])) q
theorem HD{i:Int}{cv:Value}{u:Tok}{value slice:Expr}(hsl:∀a b p,slice≠.Slice a b none p)(S:SR c as X H s)(hv:VR c as X s.heap (.tup vs) cv)(e:yG H (.tup vs) i=some r)(q:Q r H) :
  wpAny c.M A (subscriptTail value slice cv (.int i u)) (Res c as X s.heap Q) E s:=by
 haveI hb:=rf;refine av (bR.mp e) ?_;intro j h1 h3;cases hv.inv with
 |tup k1 k2 k3 rr hs=>refine bc λk_=>?_;refine wv (ri h1) ?_;intro g1 g2 g3 g4;refine av (rr.get h3) ?_;intro y e1 e2;refine k_ ?_;refine tail_any (T:="tuple") ⟨_,k3,rfl⟩ slot_tuple_getitem.lookup (P.getItem_tuple k3 (Jv hs g2 g3 g4).1 (Jv hs g2 g3 g4).2 (by exact(congrArg _ ((rr.len_arr))).trans g1) (by simpa using e1) ?_) (kU hsl _ _);exact Res.now (tk:=s.toks) S e2 q
theorem Ek(hsl:∀a b p,slice≠.Slice a b none p)(S:SR c as X H s)(hv:VR c as X s.heap v cv)(e:((d7 H v).bind λvs=>(sa vs.length i).bind λj=>vs[j]?)=some r)(q:Q r H) :
  wpAny c.M A (subscriptTail value slice cv (.int i u)) (Res c as X s.heap Q) E s:=by
 haveI hb:=rf;replace e:=bR.mp e;refine bc λk_=>?_;refine av e ?_;intro vs hvs e;refine av (bR.mp e) ?_;intro j h1 h3;replace hv:=e9 S hv hvs;obtain⟨a,items,rfl,hp,rr,hs⟩:=hv;refine wv (ri h1) ?_;intro g1 g2 g3 g4;refine av (rr.get h3) ?_;intro y e1 e2;refine k_ ?_;have hl:=rr.len_arr;haveI fin:=Res.now (tk:=s.toks) S e2 q;refine tail_any hp.isList.typeIs slot_list_getitem.lookup ?_ (kU hsl _ _);by_cases h0:0<=i
 ·refine wpAny_getItem_list hp.isList h0 (Jv hs g2 g3 g4).2 ?_ fin;rw [show i.toNat=j from congrArg tP (g3 h0)];simpa using e1
 ·have g:=g4 (gJ.mp h0);refine wpAny_getItem_list_neg hp.isList (gJ.mp h0) (hl.symm▸jE (g.symm▸bn j:0<=i+(vs.length:Int)) (by simp+arith only)) (Jv hs g2 g3 g4).1 ?_ fin;rw [hl,show(i+vs.length).toNat=j from congrArg tP g];simpa using e1
theorem H7(hsl:∀a b p,slice≠.Slice a b none p)(S:SR c as X H s)(hv:VR c as X s.heap v cv)(hw:VR c as X s.heap w cw)(e:Fg [v,w] H=some (r,H'))(q:Q r H') :
  wpAny c.M A (subscriptTail value slice cv cw) (Res c as X s.heap Q) E s:=by
 refine av (bz.mp e) ?_;intro z e1 h;cases h;clear e;haveI e:=e1;cases w with
 |int i=>
  cases hw.inv;cases v with
  |str t=>exact Go hsl S hv e q
  |tup vs=>exact HD hsl S hv e q
  |_=>exact Ek hsl S hv e q
 |str k=>
  refine av (bR.mp e) ?_;intro d hd h3;cases hw.inv;replace hv:=l7 S hv hd;obtain⟨a,cs,rfl,hsm,hp,hl,rr,hs⟩:=hv;have hz:∃y,valueAt ((d.1.map toS).zip cs) (toS k)=some y/\VR c as X s.heap r y:=by haveI hz:=j7 k hl rr;rw [h3]at hz;exact hz
  refine av hz ?_;intro y e1 e2;haveI hm:=hp.mapOf;exact tail_any hm.typeIs slot_dict_getitem.lookup (wpAny_getItem_of (knd:=c.kd) (oo _ _) hm e1 (Res.now S e2 q)) (kU hsl _ _)
 |_=>exact fm e
theorem sP{R:Value->Shared->Prop}(S:SR c as X H s)(hv:VRs c as X s.heap vs cs)(e:wi vs H=some (.lst ws,H'))(hR:∀x s',FreshL c as X s ws x s'->R x s'):wpAny c.M A (newList cs) R E s:=by replace e:=dg e;refine bc λk_=>?_;obtain⟨hb,e⟩:=e;cases e;refine k_ ?_;refine wpAny_newObj_type ?_ (by show cs.toArray.size<=sizeLine;rw [gw,<-hv.length];exact aa hb cz);exact hR _ _ (jz (tk:=s.toks) S (.push _ _) (ba _ rfl) hv (rP hb))
theorem CC(S:SR c as X H s)(hv:VRs c as X s.heap vs cs)(e:y9 vs H=some (r,H'))(q:Q r H'):wpAny c.M A (newTuple cs) (Res c as X s.heap Q) E s:=by replace e:=dg e;refine bc λk_=>?_;obtain⟨hb,e⟩:=e;cases e;refine k_ ?_;refine wpAny_newObj_type ?_ (by show cs.toArray.size<=sizeLine;rw [gw,<-hv.length];exact aa hb cz);exact qE S hv (rP hb) q
theorem SR.kept1{i:Nat}{a:Addr}(hi:as[i]? =some a)(hk:∀b o,h.get? b=some o->b≠a->h'.get? b=some o):Kept as X h h':=
 λb o e hb=>⟨o,hk b o e λq=>hb (q▸aN hi),.inl rfl⟩
theorem SR.upd{i:Nat}{a:Addr}{o':O}(S:SR c as X H s)(hi:as[i]? =some a)(hk:∀b o,s.heap.get? b=some o->b≠a->s'.heap.get? b=some o)
  (hg:s'.gens=s.gens)(hos:s'.os=s.os)(ho:OR c as X s'.heap a o'):SR c as X (H.set i o') s' where
 len:=by simp only [aU];exact S.len
 stays:=λb o e=>hk b o (S.stays b o e) λq=>by have:=(S.objs i a hi).1;simp only [q,this]at e;exact fm e
 gens:=hg.trans S.gens
 os:=hos.trans S.os
 objs:=λj b hj=>by
  refine dQ (S.objs j b hj) ?_;intro h1 h2 r_3;refine av r_3 ?_;intro o h3 h4;refine⟨h1,h2,?_⟩;by_cases hij:i=j
  ·subst hij;replace hj:=hi.symm.trans hj;(replace hj:=aj hj;subst hj);have hl:i<H.length:=by rw [<-S.len];exact(af.mp hi).1
   exact⟨o',by simp [hl],ho⟩
  ·haveI hba:b≠a:=λq=>hij (S.inj i j a hi (q▸hj));refine⟨o,by rw [bv hij];exact h3,h4.keepX (SR.kept1 (X:=X) hi hk).x λob e=>hk b ob e hba⟩
 inj:=S.inj
 xs:=λb hb=>by obtain⟨o,e⟩:=S.xs b hb;exact⟨o,hk b o e λq=>(S.objs i a hi).2.1 (q▸hb)⟩
theorem mr{i:Nat}{a:Addr}{o':O}{x:Value}(S:SR c as X H s)(hi:as[i]? =some a)(hk:∀b o,s.heap.get? b=some o->b≠a->s'.heap.get? b=some o)
  (hg:s'.gens=s.gens)(hos:s'.os=s.os)(ho:OR c as X s'.heap a o')(hv:VR c as X s'.heap v x)(q:Q v (H.set i o')):Res c as X s.heap Q x s':=
 ⟨v,_,as,.refl ..,S.upd hi hk hg hos ho,SR.kept1 hi hk,hv,q⟩
theorem BY{cv cx:Value}(S:SR c as X H s)(hv:VR c as X s.heap v cv)(hx:VR c as X s.heap x cx)(e:wb [v,x] H=some (r,H'))(q:Q r H') :
  wpAny c.M A (call (.builtin "list.append") [cv,cx]) (Res c as X s.heap Q) E s:=by
 refine av (cb e) ?_;intro p_1 h0 e0
 (haveI i:=p_1.1;haveI vs:=p_1.2)
 refine bc λk_=>?_;refine cY (dg e0) λhz e1=>?_;replace h0:=mf h0;obtain⟨rfl,hvs⟩:=h0;cases e1;replace hv:=jn S hv hvs;obtain⟨a,hi,hb,items,hp,rr⟩:=hv;refine k_ ?_;refine wpAny_list_append_plain hp (λh' hp' sb=>?_) (by simp only [rr.len_arr];haveI:=cz;exact eW hz (eW this (by simp+arith only)));have hk:∀b o,s.heap.get? b=some o->b≠a->h'.get? b=some o:=λb o e hb=>(sb.2 b hb).trans e;haveI K:=SR.kept1 (X:=X) hi hk;refine mr (s':={s with heap:=h'}) (o':=.list _) S hi hk rfl rfl ⟨?_,_,hp',?_⟩ .none q
 ·simp only [ah,FF];haveI:=eR;exact eW hz (eW this (by simp+arith only))
 ·rw [Nc];exact(rr.keep K (.refl ..)).append (.cons (hx.keep K (.refl ..)) .nil)
theorem xT{items:Array Value}:(items.eraseIdxIfInBounds (items.size-1)).toList=items.toList.dropLast:=by
 obtain⟨l⟩:=items;cases l with
 |nil=>rfl
 |cons x l=>
  simp only [B8,gw];haveI:(x::l).length-1<(x::l).length:=by simp
  simp only [this,dif_pos];simp [nh,List.eraseIdx_eq_take_drop_succ]
theorem Lb(S:SR c as X H s)(hv:VR c as X s.heap v cv)(e:LQ [v] H=some (r,H'))(q:Q r H') :
  wpAny c.M A (call (.builtin "list.pop") [cv]) (Res c as X s.heap Q) E s:=by
 refine av (cb e) ?_;intro p_1 h0 e0
 (haveI i:=p_1.1;haveI vs:=p_1.2)
 refine bc λk_=>?_;obtain⟨hz,e1⟩:=eT e0;refine av (dW e1) ?_;intro x h1 h2;replace h0:=mf h0;obtain⟨rfl,hvs⟩:=h0;cases h2;replace hv:=jn S hv hvs;obtain⟨a,hi,hb,items,⟨n,hp⟩,rr⟩:=hv;haveI hl:=rr.len_arr;obtain⟨y,e1,e2⟩:=rr.get (List.getLast?_eq_getElem?.symm.trans h1);refine k_ ?_;haveI hy:items[items.size-1]? =some y:=by rw [hl,<-cm];exact e1
 refine call_meets PySem.F.slot_list_pop ⟨_,hp,rfl⟩ PySem.F.entry_list_pop (PySem.F.args_list_pop_1 _) (PySem.MeetsSeq.list_pop_last a _ n y hy (by rw [hl];haveI:=cz;exact eW hz (eW this (by simp+arith only)))) ⟨hp,?_⟩;have hk:∀b o,s.heap.get? b=some o->b≠a->(s.heap.update a (Obj.mapSeq λxs=>xs.eraseIdxIfInBounds (items.size-1))).get? b=some o:=λb o e hb=>(cD _ _ (Ne.symm hb)).trans e;haveI K:=SR.kept1 (X:=X) hi hk;refine mr (s':={s with heap:=s.heap.update a (Obj.mapSeq λxs=>xs.eraseIdxIfInBounds (items.size-1))}) (o':=.list _) S hi hk rfl rfl ⟨?_,_,⟨_,PySem.IsL.update hp λxs=>xs.eraseIdxIfInBounds (items.size-1)⟩,?_⟩ (e2.keep K (.refl ..)) q
 ·rw [List.length_dropLast];exact aa (dS _ _) hb
 ·simp only [xT,nh,nh,<-rr.length];exact(rr.keep K (.refl ..)).take _
end
section
variable {c:Cx}{A:Around}{E:Value->Shared->Prop}{s:Shared}{as:dH}{X:List Addr}{H H':AH}{Q:QE}
theorem Gn(S:SR c as X H s)(hv:VR c as X s.heap v cv)(hw:VR c as X s.heap w cw)(e:EH [v,w] H=some (r,H'))(q:Q r H') :
  wpAny c.M A (call (.builtin "list.pop") [cv,cw]) (Res c as X s.heap Q) E s:=by
 refine av (cb e) ?_;intro p_1 h0 e0;obtain⟨i,vs⟩:=p_1;refine av (cb e0) ?_;intro n hn e1;obtain⟨⟨rfl,hz⟩,e2⟩:=eT e1;refine av (dW e2) ?_;intro x h1 h2;replace h0:=mf h0;obtain⟨rfl,hvs⟩:=h0;replace hn:=V.num_is hn;subst hn;cases h2;replace hv:=jn S hv hvs;obtain⟨a,hi,hb,items,⟨k,hp⟩,rr⟩:=hv;cases hw.inv with
 |int u=>
  cases vs with
  |nil=>exact fm h1
  |cons x' vs=>
   (replace h1:=aj h1;subst h1)
   have hl:=rr.len_arr;refine av (rr.get (j:=0) rfl) ?_;intro y e1 e2;have hy:items[0]? =some y:=by rw [<-cm];exact e1
   have hpos:0<items.size:=by simp only [hl];exact Es _
   haveI hk0:seqIndex? (0:Int) items.size=some 0:=by unfold seqIndex?;simp [hpos]
   refine call_meets PySem.F.slot_list_pop ⟨_,hp,rfl⟩ PySem.F.entry_list_pop (PySem.F.args_list_pop_2 _ _) (PySem.MeetsSeq.list_pop_at a _ k 0 u 0 y (by decide) hk0 hy (by haveI:=cz;exact eW hz (eW (au hl) (eW this (by simp+arith only))))) ⟨hp,?_⟩;haveI hk:∀b o,s.heap.get? b=some o->b≠a->(s.heap.update a (Obj.mapSeq λxs=>xs.eraseIdxIfInBounds 0)).get? b=some o:=λb o e hb=>(cD _ _ (Ne.symm hb)).trans e;haveI K:=SR.kept1 (X:=X) hi hk;refine mr (s':={s with heap:=s.heap.update a (Obj.mapSeq λxs=>xs.eraseIdxIfInBounds 0)}) (o':=.list _) S hi hk rfl rfl ⟨?_,_,⟨_,PySem.IsL.update hp λxs=>xs.eraseIdxIfInBounds 0⟩,?_⟩ (e2.keep K (.refl ..)) q
   ·exact Nf hb
   ·haveI ht:(items.eraseIdxIfInBounds 0).toList=items.toList.drop 1:=by simp only [B8,dif_pos hpos,Array.toList_eraseIdx,List.eraseIdx_zero,List.drop_one]
    simp only [ht];exact(rr.keep K (.refl ..)).drop 1
theorem AE(h:AU H v=some p):v=.ref p.1/\H[p.1]? =some (.dict p.2.1 p.2.2):=
 Is.of (o:=AU H v) (R:=λp=>v=.ref p.1/\H[p.1]? =some (.dict p.2.1 p.2.2)) ((V.at_i v).bind λi h1=>(Is.self.bind λo h3=>(O.dct_i o).imp (R':=λd=>H[i]? =some (.dict d.1 d.2)) λ_ h4=>h4▸h3).bind λ_ h5=>⟨h1,h5⟩) h
theorem rV:∀{ks:List (List Char)} {vs:List V} {cs:List Value},ks.length=cs.length->(ks.map toS).Nodup->VRs c as X h vs cs->
  ∃cs',without ((ks.map toS).zip cs) (toS k)=((kZ k ks vs).1.map toS).zip cs'/\(kZ k ks vs).1.length=cs'.length/\VRs c as X h (kZ k ks vs).2 cs'/\cs'.length<=cs.length:=by
 intro ks
 induction ks with
 |nil=>intro vs cs hl _ r;exact⟨[],rfl,rfl,.nil,aY _⟩
 |cons k' ks ih=>
  intro vs cs hl hn r;cases r with
  |nil=>cases hl
  |@cons v vs x cs hx r=>
   haveI hn':=bk.mp hn;haveI hl':=fW hl;refine dB (ih hl' hn'.2 r) ?_;intro cs' e1 e2 e3 e4;by_cases hk:k=k'
   ·subst hk;haveI ed:kZ k (k::ks) (v::vs)=(ks,vs):=if_pos rfl;rw [ed];refine⟨cs,?_,hl',r,bf _⟩;show Jo _ ((toS k,x)::(ks.map toS).zip cs)=_;rw [eG (by simp)];refine List.filter_eq_self.mpr λp hp=>decide_eq_true λq=>hn'.1 ?_;simp only [<-q];exact(vr hp).1
   ·haveI ed:kZ k (k'::ks) (v::vs)=(k'::(kZ k ks vs).1,v::(kZ k ks vs).2):=if_neg hk;rw [ed];refine⟨x::cs',?_,congrArg nK e2,.cons hx e3,aA e4⟩;show Jo _ ((toS k',x)::(ks.map toS).zip cs)=(toS k',x)::((kZ k ks vs).1.map toS).zip cs';exact(cR (p:=λkv:Str×Value=>decide (kv.1≠toS k)) (a:=(toS k',x)) (decide_eq_true λq=>hk (i9 q).symm)).trans (congrArg _ e1)
theorem Gk(S:SR c as X H s)(hv:VR c as X s.heap v cv)(hw:VR c as X s.heap w cw)(e:FD [v,w] H=some (r,H'))(q:Q r H') :
  wpAny c.M A (call (.builtin "dict.pop") [cv,cw]) (Res c as X s.heap Q) E s:=by
 refine av (cb e) ?_;intro p_1 h0 e0;obtain⟨i,ks,vs⟩:=p_1;refine av (cb e0) ?_;intro k hn e1;obtain⟨hsz,e2⟩:=eT e1;refine av (dW e2) ?_;intro x h1 h2;replace h0:=AE h0;obtain⟨rfl,hob⟩:=h0;cases V.txt_is hn;cases h2;replace hv:=jn S hv hob;obtain⟨a,ha,hb,hsm,cs,hd,hl,rr⟩:=hv;cases hw.inv with
 |str _ hs=>
  have hn:(ks.map toS).Nodup:=by refine g9 hd ?_;intro _ _ _ _ _ _ _ _ hn;rw [lQ (by simp [hl])]at hn;exact hn
  haveI hz:=j7 k hl rr;rw [h1]at hz;refine av hz ?_;intro y hy hvy;haveI h2:=rr.length;refine call_meetsIn PySem.F.slot_dict_pop hd.typeIs PySem.F.entry_dict_pop (PySem.F.args_dict_pop_2 _ _) (meets_dict_pop_there c.kd a (oo _ _) [] (.inl rfl) rfl) ⟨_,y,hd,?_,hy,λh' hd' sb=>?_⟩
  ·simp only [vq,ak,<-hl,rZ];exact aa hsz cz
  ·have hk:∀b o,s.heap.get? b=some o->b≠a->h'.get? b=some o:=λb o e hb=>(sb.2 b hb).trans e;haveI K:=SR.kept1 (X:=X) ha hk;refine dB (rV (k:=k) hl hn (rr.keep K (.refl ..))) ?_;intro cs' e1 e2 e3 e4;rw [e1]at hd';haveI e5:=e3.length;exact mr (s':={s with heap:=h',toks:=_}) (o':=.dict _ _) S ha hk rfl rfl ⟨aa (au e5) (aa e4 (aa (au h2.symm) hb)),hsm,cs',hd',e2,e3⟩ (hvy.keep K (.refl ..)) q
theorem sr(h:m<vs.length):(jk vs)[m]? =some (pz vs[m]):=by
 induction vs generalizing m with
 |nil=>cases h
 |cons v vs ih=>induction m with
  |zero=>rfl
  |succ m=>exact ih (Et h)
theorem qL(h:V.datas vs=true)(hm:m<vs.length):vs[m].data=true:=by
 induction vs generalizing m with
 |nil=>cases hm
 |cons v vs ih=>
  have h':=ay.mp h;cases m with
  |zero=>exact h'.1
  |succ m=>exact ih h'.2 (Et hm)
theorem V.tpl_is{v:V}{vs:List V}(h:v.tpl=some vs):v=.tup vs:=Is.of (R:=λvs=>v=.tup vs) (by cases v<;>first|exact rfl|exact trivial) h
theorem nG{M:Model}{β:Type}{r:Std.Legacy.Range}(f:Nat->β->Sem (ForInStep β))(I:List Nat->β->Shared->Prop)(Q:β->Shared->Prop)
  (turn:∀x rest b s,I (x::rest) b s->wpAny M A (f x b) (λr s'=>match r with|.yield b'=>I rest b' s'|.done b'=>Q b' s') E s)
  (fin:∀b s,I [] b s->Q b s)(b:β)(h:I (Jl r.start r.size r.step) b s):wpAny M A (forIn r b f) Q E s:=by
 rw [Std.Legacy.Range.forIn_eq_forIn_range'];exact wpAny_forIn_list f I Q turn fin _ b h
open PySem.SeqAt PySem.MeetsSeq2 in
theorem pI(l:Addr)(items:Array Value)(n:Nat)(x:Value)(e:Value->Bool)(j:Nat)(hj:j<items.size)(hit:e items[j]=true)(hno:∀m (hm:m<items.size),m<j->e items[m]=false) :
  Meets (Builtin.«tuple.index» ⟨[.ref l,x],[]⟩)
   (λA R s=>s.heap.get? l=some {cls:=.type "tuple",data:=.seq items n}/\(∀y,y∈items->EqAt A.in1 s y x (e y))/\R (.ok (.ret (.int j s.toks))) {s with toks:=s.toks+1}):=
 .of_wp λprog w A R s h=>by
  obtain⟨hp,g,d,tk,os⟩:=s;refine cY h λhl q_=>cY q_ λhe h=>?_
  wp_walk using PySem.AutoSeq1.wpAny_loadPart' hl,nG _ (λrest b s'=>b.1=none/\s'=⟨hp,g,d,tk,os⟩/\∃i,i<=j/\rest=Jl i (items.size-i)) _
  case turn=>
   rintro m rest b s' ⟨_,rfl,i,hij,hr⟩
   obtain⟨k,hk⟩:∃k,items.size-i=k+1:=⟨items.size-i-1,(fY (Ng (cZ hij hj))).symm⟩;simp only [hk,List.range'_succ]at hr;cases hr;haveI hlt:m<items.size:=by exact eW hj (eW hij (by simp+arith only))
   rw [gX hlt];refine wpAny_bind (he _ (Array.getElem_mem hlt) prog w _ _ ?_);by_cases hi:m=j
   ·(replace hi:=Eq.symm hi;subst hi)
    wp_walk
    exact⟨_,rfl,h⟩
   ·rw [hno m hlt (p8 hij hi)]
    wp_walk
    exact⟨rfl,rfl,m+1,p8 hij hi,by rw [show items.size-(m+1)=k from congrArg Nat.pred hk]⟩
  case fin=>
   rintro b s' ⟨_,_,i,hij,hr⟩
   haveI:=congrArg d5 hr;simp only [List.length_range',List.length_nil]at this;exact absurd this (dK (Ng (cZ hij hj)))
  case h=>exact⟨rfl,rfl,0,aY _,by simp [Std.Legacy.Range.size]⟩
open PySem.SeqAt in
theorem Da{v w r:V}{cv cw:Value}(S:SR c as X H s)(hv:VR c as X s.heap v cv)(hw:VR c as X s.heap w cw)(e:BX [v,w] H=some (r,H'))(q:Q r H')(hu:A.units+64<cLine) :
  wpAny c.M A (call (.builtin "tuple.index") [cv,cw]) (Res c as X s.heap Q) E s:=by
 refine av (cb e) ?_;intro vs h1 e1;refine av (cb e1) ?_;intro x' ex e2;obtain⟨hok,e3⟩:=eT e2;refine av (dW e3) ?_;intro k hk e4;cases e4;replace h1:=V.tpl_is h1;subst h1;obtain⟨hd,hdd⟩:=lM hok;obtain⟨d1,d2,l1,r1⟩:=nt S hw ex;cases hv.inv with
 |@tup a items n t1 t2 t3 rr t5=>
  obtain⟨l2,r2⟩:=kP rr hd;haveI o1:=jg _ d1;haveI o2:=nV _ hd;haveI hm:A.units+1+min (PyData.depthAll (jk vs)) (pz x').depth<cLine:=by exact(o2.2)▸nS hdd hu
  have hl:=rr.len_arr;obtain⟨hlt,hit,hno⟩:=fk.mp hk;have he:∀m (hm:m<items.size) (hm':m<vs.length),PyData.eqv (readOf s.heap items[m]) (pz x')=gH vs[m] x':=λm hm hm'=>by
   haveI h3:(items.toList.map (readOf s.heap))[m]? =(jk vs)[m]?:=by rw [(readsAll_map _ _ _ o2.1 r2)]
   simp only [sr hm',aV,cm,gX hm]at h3;rw [aj h3];exact l4 _ _ (qL hd hm') d1
  refine call_meets PySem.F.slot_tuple_index ⟨_,t3,rfl⟩ PySem.F.entry_tuple_index (PySem.F.args_tuple_index_2 _ _) (pI a items n cw (λy=>PyData.eqv (readOf s.heap y) (pz x')) k (by exact(hl)▸hlt) ?_ ?_) ⟨t3,items_eqAt r2 r1 o2.1 o1.1 hm,?_⟩
  ·exact (he k _ hlt).trans hit
  ·intro m hm hmk;exact(he m hm (hl▸hm)).trans (by simpa using hno m hmk)
  ·exact Res.now (tk:=s.toks+1) S (.int _ _) q
end
section
variable {prog:Program}{w:World}{A:Around}{E:Value->Shared->Prop}{s:Shared}
theorem pT{l:Addr}{items:Array Value}{k:Int}{t:Tok}{v:Value}{Q:Unit->Shared->Prop}(hl:s.heap.PlainList l items)(h0:0<=k)(hfit:k<2 ^ 63)(hn:k<items.size)
  (hQ:∀h',h'.PlainList l (items.setIfInBounds k.toNat v)->fX l s.heap h'->Q () {s with heap:=h'}):wpAny (model prog w) A (setItem (.ref l) (.int k t) v) Q E s:=by
 refine dM hl λn ho=>?_;haveI hT:s.TypeIs (.ref l) "list":=⟨_,ho,rfl⟩;unfold setItem
 try with_reducible refine wpAny_holding ?_
 first|refine wpAny_bind (wpAny_pure ?_)|skip
 refine wpAny_bind (wpAny_sequenceKey hT (by decide) ?_);refine wpAny_bind (wpAny_callSpecial?_slot (name:=Str.ofString "__setitem__") hT F.slot_list_setitem (wpAny_call_entry F.slot_list_setitem hT F.entry_list_setitem ?_ (F.args_list_setitem_3 _ _ _)));refine(?_:wpAny _ _ (Builtin.List.listSubscript? (.int k t)>>= _) _ _ s);refine wpAny_bind (wpAny_listSubscript_int (fitsIndex_of h0 hfit) ?_);clear hfit;obtain⟨j,rfl⟩:=Int.eq_ofNat_of_zero_le h0;haveI hj:items[j]? =some (items[j]'(cG.mp hn)):=gX _;refine(?_:wpAny _ _ ((seqItemAt l j>>= λr=>pure (r.map (j,·)))>>= _) _ _ s);refine wpAny_bind (wpAny_bind (wpAny_seqItemAt ho rfl (wpAny_pure ?_)));rw [hj];show wpAny _ _ (setSeqItemAt l j v>>= _) _ _ s;refine wpAny_bind (wpAny_setSeqItemAt ho rfl ?_);haveI z:=hQ _ ⟨n,?_⟩ (po (a:=l) (f:=Obj.mapSeq (·.setIfInBounds j v)) ..)
 first
  |exact wpAny_bind (wpAny_pure (wpAny_pure ⟨.none,rfl,wpAny_pure z⟩))
  |exact wpAny_pure ⟨.none,rfl,wpAny_pure z⟩
 haveI e:Obj.mapSeq (·.setIfInBounds j v) {cls:=.type "list",data:=.seq items n}={cls:=.type "list",data:=.seq (items.setIfInBounds j v) n}:=by simp [Obj.mapSeq]
 rw [cM _ ho (by rw [e];rfl),e];rfl
end
section
variable {c:Cx}{A:Around}{E:Value->Shared->Prop}{s:Shared}{as:dH}{X:List Addr}{H H':AH}{Q:QE}
open PySem.SeqAt in
theorem yD(S:SR c as X H s)(hv:VR c as X s.heap v cv)(hw:VR c as X s.heap w cw)(e:wE [v,w] H=some (r,H'))(q:Q r H')(hu:A.units+64<cLine) :
  wpAny c.M A (call (.builtin "list.index") [cv,cw]) (Res c as X s.heap Q) E s:=by
 refine av (cb e) λvs hvs e1=>?_;refine av (cb e1) λx' ex e2=>?_;obtain⟨hok,e3⟩:=eT e2;refine av (dW e3) λk hk e4=>?_;cases e4;obtain⟨hd,hdd⟩:=lM hok;obtain⟨d1,d2,l1,r1⟩:=nt S hw ex;clear e e1 e2 e3 hok hw ex d2;obtain⟨a,items,rfl,⟨n,t3⟩,rr,t5,_⟩:=e9 S hv hvs;obtain⟨l2,r2⟩:=kP rr hd;haveI o1:=jg _ d1;haveI o2:=nV _ hd;haveI hm:A.units+1+min (PyData.depthAll (jk vs)) (pz x').depth<cLine:=o2.2▸nS hdd hu;have hl:=rr.len_arr;obtain⟨hlt,hit,hno⟩:=fk.mp hk;have he:∀m (hm:m<items.size) (hm':m<vs.length),PyData.eqv (readOf s.heap items[m]) (pz x')=gH vs[m] x':=λm hm hm'=>by
  haveI h3:(items.toList.map (readOf s.heap))[m]? =(jk vs)[m]?:=by rw [(readsAll_map _ _ _ o2.1 r2)]
  simp only [sr hm',aV,cm,gX hm]at h3;rw [aj h3];exact l4 _ _ (qL hd hm') d1
 refine call_meets PySem.F.slot_list_index ⟨_,t3,rfl⟩ PySem.F.entry_list_index (PySem.F.args_list_index_2 _ _) (list_indexAt a items n none #[] cw (λy=>PyData.eqv (readOf s.heap y) (pz x')) k (hl▸hlt) ?_ ?_ ?_) ⟨t3,items_eqAt r2 r1 o2.1 o1.1 hm,?_⟩
 ·exact p7 (cG.mpr hlt) (bA (bW.mpr t5) (by decide))
 ·exact (he k _ hlt).trans hit
 ·intro m hm hmk;exact(he m hm (hl▸hm)).trans (by simpa using hno m hmk)
 ·exact Res.now (tk:=s.toks+1) S (.int _ _) q
end
section
variable {c:Cx}{A:Around}{E:Value->Shared->Prop}{s:Shared}{as:dH}{X:List Addr}{H H':AH}{Q:QE}
theorem Ds:∀{acc:Array Value},(List.foldl (λx1 x2=>x1++x2) acc (bO n #[y])).toList=acc.toList++bO n y:=by
 induction n with
 |zero=>exact λ{acc}=>(aC _).symm
 |succ n ih=>intro acc;simp only [pi,pi,List.foldl_cons,ih,gZ,an];rfl
theorem CD(hx:VR c as X h x y):VRs c as X h (bO n x) (bO n y):=by
 induction n with
 |zero=>exact .nil
 |succ n ih=>exact .cons hx ih
theorem Ks(S:SR c as X H s)(hv:VR c as X s.heap (.lst [x]) cv)(hw:VR c as X s.heap (.int n) cw)(h0:0<=n)(h1:n<=1000)(q:Q (.ref H.length) (H++[.list (bO n.toNat x)])) :
  wpAny c.M A (binaryOp .Mult cv cw) (Res c as X s.heap Q) E s:=by
 cases hw.inv with
 |int u=>
 cases hv.inv with
 |@lst l items t1 t2 t3 rr t5=>
 obtain⟨k,hl⟩:=t3;obtain⟨its⟩:=items;cases rr with
 |@cons _ _ y _ r1 r2=>
 cases r2 with
 |nil=>
 refine wpAny_binaryOp_repeat_ref (T:="list") (U:="int") (by decide) ⟨_,hl,rfl⟩ (λs'=>typeIs_int s' n u) noFill_list_mul PySem.F.fills_int_mul PySem.F.slot_int_rmul repeat_list PySem.F.slot_int_index.lookup
  (call_meets PySem.F.slot_int_rmul (typeIs_int s n u) PySem.F.entry_int_rmul (PySem.F.args_int_rmul_2 _ _) (int___rmul___int_list n u l #[y] k)
   ⟨hl,rfl,⟨_,hl,rfl⟩,call_meets PySem.F.slot_list_mul ⟨_,hl,rfl⟩ PySem.F.entry_list_mul (PySem.F.args_list_mul_2 _ _)
    (AutoListH.list___mul___list_int_3 l #[y] k n u (by simp [Builtin.List.listFitsIndex];exact⟨jE h0 (by simp+arith only),jE h1 (by simp+arith only)⟩) (by simp;exact jE h1 (by simp+arith only)) (by simp [lc,sizeLine];exact jE h1 (by simp+arith only))) ⟨hl,?_⟩⟩)
 refine FreshL.thawed S (jz (tk:=s.toks) S (.push _ _) (ba _ rfl) ?_ ?_) q
 ·refine (Ds (acc:=#[])).symm▸CD r1
 ·rw [FG];exact aa (mK.mpr h1) (by decide)
end
section
variable {c:Cx}{A:Around}{E:Value->Shared->Prop}{s:Shared}{as:dH}{X:List Addr}{H H':AH}{Q:QE}
theorem LY(S:SR c as X H s)(hv:VR c as X s.heap v cv)(e:Ig [v] H=some (r,H'))(q:Q r H'):wpAny c.M A (call (.type "int") [cv]) (Res c as X s.heap Q) E s:=by
 cases v with
 |bool b=>exact Gj S hv e q
 |_=>exact fm e
theorem s7{R:Value->Shared->Prop}(hl:s.heap.PlainList a xs)(hb:s.heap.get? b=some {cls:=.type "list",data:=.seq ys m})(hz:xs.size+ys.size<=sizeLine)
  (h:∀h',h'.PlainList a (xs++ys)->fX a s.heap h'->R .none {s with heap:=h'}):wpAny c.M A (call (.builtin "list.extend") [.ref a,.ref b]) R E s:=by
 refine dM hl λn ho=>?_;refine wpAny_call_entry F.slot_list_extend ⟨_,ho,rfl⟩ F.entry_list_extend ?_ (F.args_list_extend_2 _ _);refine(?_:wpAny _ _ (xo (.ref a) (.ref b) .none) _ _ s);unfold xo;refine wpAny_bind (wpAny_typeOf ⟨_,hb,rfl⟩ ?_);haveI h1:(Builtin.List.listSameRef (.ref a) (.ref b)||Value.type "list"==Value.type "list"||Value.type "list"==Value.type "tuple")=true:=by simp
 simp only [h1,if_true];refine wpAny_bind ?_;unfold Builtin.List.listItems;refine wpAny_bind (wpAny_seqItems hb rfl (wpAny_pure ?_));refine wpAny_bind ?_;refine wpAny_bind (wpAny_seqItems ho rfl (wpAny_pure ?_));haveI h2:(!xs.isEmpty&&lc (xs.size+ys.size))=false:=by simp only [show lc (xs.size+ys.size)=decide (xs.size+ys.size>sizeLine)from rfl,decide_eq_false (iq.mpr hz:¬(xs.size+ys.size>sizeLine)),gK]
 simp only [h2,p9,if_false];refine wpAny_bind (wpAny_updateSeq ho rfl ?_ (by exact eW hz (by simp+arith only)) (by rw [Array.size_append];exact eW hz (by simp+arith only)));exact wpAny_pure ⟨.none,rfl,h _ ⟨_,cM _ ho rfl⟩ (po ..)⟩
theorem Ba(S:SR c as X H s)(hv:VR c as X s.heap v cv)(hw:VR c as X s.heap w cw)(e:wD [v,w] H=some (r,H'))(q:Q r H'):wpAny c.M A (call (.builtin "list.extend") [cv,cw]) (Res c as X s.heap Q) E s:=by
 refine av (cb e) ?_;clear e;intro p h0 e0;refine av (cb e0) ?_;clear e0;intro ys h1 e1;obtain⟨hz,e2⟩:=dg e1;clear e1
 (haveI i:=p.1;haveI vs:=p.2)
 replace h0:=mf h0;obtain⟨rfl,hob⟩:=h0;cases e2;replace hv:=jn S hv hob;obtain⟨a,hi,hb,items,hp,rr⟩:=hv;clear hob;replace hw:=e9 S hw h1;obtain⟨b,its,rfl,⟨m,hm⟩,r2,_⟩:=hw;clear h1;refine s7 hp hm (by simp only [rr.len_arr,r2.len_arr];exact aa hz cz) λh' hp' sb=>?_;haveI hk:∀b o,s.heap.get? b=some o->b≠a->h'.get? b=some o:=λb o e hb=>(sb.2 b hb).trans e;haveI K:=SR.kept1 (X:=X) hi hk;refine mr (s':={s with heap:=h'}) (o':=.list _) S hi hk rfl rfl ⟨?_,_,hp',?_⟩ .none q
 ·rw [ah];exact rP hz
 ·rw [gZ];exact(rr.keep K (.refl ..)).append (r2.keep K (.refl ..))
end
set_option genCtorIdx false in
inductive Gl where
 |fn (f:Nat)
 |c (v:V)
 |bi (b:String)
 |ty (t:String)
 |exc (c:Nat)
 |cls (ms:List (Str×Nat)) (ats:List Str) (f:Nat)
noncomputable def Gl.ctorIdx(v:Gl):Nat:=Gl.casesOn (motive:=λ_=>Nat) v (λ_=>0) (λ_=>1) (λ_=>2) (λ_=>3) (λ_=>4) λ_ _ _=>5
structure Tb where
 gl:List (Str×Gl)
 meths:List (Str×Nat)
 names:List (Str×NameKind)
 tab:List (Str×Nat)
 n:Nat
 mu:List (Nat×Nat)
 fz:List (Nat×List Nat)
noncomputable def Tb.isMu(T:Tb)(p:Pos):Bool:=T.mu.contains (p.line,p.col)
noncomputable def qI(s:Str):Option (List Char):=
 if toS (s.cps.toList.map Char.ofNat)=s/\(s.cps.toList.map Char.ofNat).length<=1000 then some (s.cps.toList.map Char.ofNat)else none
noncomputable def BV:Const->Option Ex
 |.none=>some (.c .none)
 |.bool b=>some (.c (.bool b))
 |.int i=>some (.c (.int i))
 |.str s=>(qI s).map λl=>.c (.str l)
 |_=>none
noncomputable def Tb.var(T:Tb)(x:Str):Option Nat:=
 if x==("__debug__":Str)||x==("__classdict__":Str)then none else
 if T.names.lookup x=some .local\/T.names.lookup x=some .cell\/T.names.lookup x=some .free then T.tab.lookup x else none
noncomputable def Tb.glob(T:Tb)(x:Str):Option Gl:=
 if x==("__debug__":Str)then none else
 if T.names.lookup x=some .globalImplicit then T.gl.lookup x else none
noncomputable def glE:Option Gl->Option Ex
 |some (.c v)=>some (.c v)
 |_=>none
noncomputable def Kw(o:Option Ex):Option Nat->Option Ex
 |some i=>some (.v i)
 |none=>o
noncomputable def AK(T:Tb)(x:Str):Option Ex:=Kw (glE (T.glob x)) (T.var x)
noncomputable def wj:Operator->Option Bop
 |.Add=>some .add|.Sub=>some .sub|.Mult=>some (.mul 0)|.FloorDiv=>some .f|.Mod=>some .mod|.Pow=>some .pow
 |_=>none
noncomputable def gf:CmpOp->Cop
 |.Eq=>.eq|.NotEq=>.ne|.Lt=>.lt|.LtE=>.le|.Gt=>.gt|.GtE=>.ge|.Is=>.is 0|.IsNot=>.isnot|.In=>.in_|.NotIn=>.notin
noncomputable def jx{α β:Type}(f:α->Option β):List α->Option (List β)
 |[]=>some []
 |a::r=>(f a).bind λb=>(jx f r).map (b::·)
noncomputable def mkB(op:BoolOp)(x y:Ex):Ex:=match op with
 |.And=>.and x y
 |.Or=>.or x y
noncomputable def ux(op:BoolOp)(t:Bool):Bool:=match op with
 |.And=>t
 |.Or=>!t
theorem vM:cL P C (mkB op x y) ρ H Q X=cL P C x ρ H (λv H'=>nT (gb v) λt=>if ux op t then cL P C y ρ H' Q X else Q (.bool t) H') X:=by cases op<;>rfl
noncomputable def rY(op:BoolOp):List Ex->Option Ex
 |[]=>none
 |[x]=>some x
 |x::r=>(rY op r).map (mkB op x)
noncomputable def C3(t:String):Option Ty:=
 if t="int" then some .int else if t="bool" then some .bool else if t="str" then some .str else if t="list" then some .list else if t="tuple" then some .tuple else none
noncomputable def uw(b:String)(n:Nat):Option Prim:=
 if b="len"/\n=1 then some .len else
 if b="all"/\n=1 then some .all else
 if b="min"/\n=2 then some .min else
 none
noncomputable def t6(t:String)(n:Nat):Option Prim:=
 if t="range"/\n=1 then some .range1 else
 if t="range"/\n=2 then some .range2 else
 if t="list"/\n=1 then some .list else
 if t="int"/\n=1 then some .int else
 none
noncomputable def HI:Expr->Option Const
 |.Constant c _ _=>some c
 |_=>none
theorem G6(e:Expr):Is (HI e) λc=>∃k p,e=.Constant c k p:=by cases e<;>first|exact⟨_,_,rfl⟩|exact trivial
noncomputable def N7:Const->Option Str
 |.str s=>some s
 |_=>none
noncomputable def Ec(e:Expr):Option Str:=(HI e).bind N7
theorem BE(e:Expr):Is (Ec e) λs=>∃k p,e=.Constant (.str s) k p:=
 (G6 e).bind λc h=>Is.imp (R:=λs=>c=.str s) (by cases c<;>first|exact rfl|exact trivial) λ_ q=>q▸h
noncomputable def Ko:Const->Option Unit
 |.none=>some ()
 |_=>none
theorem I4(c:Const):Is (Ko c) λ_=>c=.none:=by cases c<;>first|exact rfl|exact trivial
noncomputable def N5:Const->Option Int
 |.int i=>some i
 |_=>none
noncomputable def KL(l:List Expr):Bool:=match l with
 |[e]=>decide ((HI e).bind N5=some 0)
 |_=>false
noncomputable def GI(e:Expr):Bool:=match e with
 |.Subscript _ i _=>(Ec i).isSome
 |.Name _ _=>true
 |_=>false
noncomputable def zOf(m:Str)(o:Expr)(l:List Expr):Bool:=if m=Str.ofString "index" then GI o else KL l
noncomputable def lY(m:Str)(n:Nat)(z:Bool):Option (Mt×Prim):=
 if m=Str.ofString "append"/\n=1 then some (.list,.append)else
 if m=Str.ofString "pop"/\n=0 then some (.list,.pop)else
 if m=Str.ofString "pop"/\n=1/\z=true then some (.list,.pop0)else
 if m=Str.ofString "pop"/\n=1 then some (.dict,.dpop)else
 if m=Str.ofString "index"/\n=1/\z=true then some (.list,.lindex)else
 if m=Str.ofString "index"/\n=1 then some (.tup 0,.index)else
 if m=Str.ofString "extend"/\n=1 then some (.list,.extend)else
 none
noncomputable def mw{α β:Type}(f:α->Option β):List α->Option β
 |[t]=>f t
 |_=>none
noncomputable def yb{α β:Type}(f:α->α->Option β):List α->Option β
 |[a,b]=>f a b
 |_=>none
noncomputable def pH{α β:Type}(r:Option β):List α->Option β
 |[]=>r
 |_::_=>none
noncomputable def tJ:Expr->Option Str
 |.Name x _=>some x
 |_=>none
theorem je(e:Expr):Is (tJ e) λx=>∃p,e=.Name x p:=by cases e<;>first|exact⟨_,rfl⟩|exact trivial
theorem qP{α:Type}{a:Option α}{x:α}(h:(if b=true then none else a)=some x):b=false/\a=some x:=by
 induction b with
 |false=>exact⟨rfl,h⟩
 |true=>exact fm h
noncomputable def Kq(e:Expr):Bool:=match e with
 |.List _ _=>true
 |_=>false
noncomputable def rX(e:Expr):Bool:=e.ctorIdx==26
noncomputable def jT(e:Expr):Bool:=e.ctorIdx==8||e.ctorIdx==9||e.ctorIdx==10
noncomputable def t9(T:Tb)(x:Str)(sc:Scope):Bool:=
 decide (sc.kind=.function)&&T.tab.all (λp=>decide (p.2<T.n))&&decide (sc.names.lookup x=some .local)&&
 sc.names.all (λp=>decide (sc.names.lookup p.1=some p.2)&&(match p.2 with
  |.local=>decide (p.1=x)||(T.tab.lookup p.1).isNone
  |.cell=>false
  |.free=>(decide (T.names.lookup p.1=some .cell)||decide (T.names.lookup p.1=some .free))&&(T.tab.lookup p.1).isSome&&decide (p.1≠x)
  |_=>true))
noncomputable def zI(e:Expr):Bool:=e.ctorIdx==16
noncomputable def jR(e:Expr):Bool:=!zI e
noncomputable def EP(o:Option Expr):Option (List Char):=o.bind λe=>(Ec e).bind qI
abbrev N0:=Tb->Expr->Option Ex
noncomputable def Bc:Gl->Option (List (Str×Nat)×List Str×Nat)
 |.cls ms ats f=>some (ms,ats,f)
 |_=>none
theorem CQ(g:Gl):Is (Bc g) λq=>g=.cls q.1 q.2.1 q.2.2:=by cases g<;>first|exact rfl|exact trivial
noncomputable def CB:List (Str×Gl)->Option (List (Str×Nat)×List Str×Nat)
 |[]=>none
 |p::l=>if(Bc p.2).isSome=true then Bc p.2 else CB l
theorem Ai(gl:List (Str×Gl)):Is (CB gl) λq=>∃x,(x,Gl.cls q.1 q.2.1 q.2.2)∈gl:=by
 induction gl with
 |nil=>exact trivial
 |cons p l ih=>exact Is.ite2 (λ_=>(CQ p.2).imp λ_ h=>⟨p.1,h▸.head _⟩) λ_=>ih.imp λ_ h=>h.imp λ_ hx=>.tail _ hx
noncomputable def Bd(r:Expr->Option Ex)(T:Tb)(o:Expr)(name:Str):Option (Ex×List Char):=if jR o=true then(CB T.gl).bind λq=>if q.2.1.contains name=true then(qI name).bind λnm=>(r o).map λa=>(a,nm)else none else none
noncomputable def Ms(r:Expr->Option Ex)(T:Tb)(o:Expr)(name:Str)(args:List Expr):Option Ex:=if args.length<30 then(CB T.gl).bind λq=>(q.1.lookup name).bind λg=>(qI name).bind λnm=>(r o).bind λa=>(jx r args).map λes=>.m 0 g nm a es else none
noncomputable abbrev mT(T:Tb)(x:Str)(sc:Scope):Tb:={T with names:=sc.names,tab:=(x,T.n)::T.tab,n:=T.n+1}
noncomputable def cUn(op:UnaryOp)(a:Ex):Option Ex:=match op with
 |.Not=>some (.p false .not [a])
 |.USub=>some (.p false .neg [a])
 |_=>none
noncomputable def Ln(r:Expr->Option Ex)(l:Expr)(ops:List CmpOp)(rs:List Expr):Option Ex:=match ops with
 |[op]=>mw (λx=>(r l).bind λa=>(r x).map λb=>.p false (.cop (gf op)) [a,b]) rs
 |[o₁,o₂]=>yb (λm x=>(r l).bind λa=>(r m).bind λb=>(r x).map λc=>.cmp2 a (gf o₁) b (gf o₂) c) rs
 |_=>none
noncomputable def zX:Gl->Option String
 |.ty tn=>some tn
 |_=>none
theorem uH(g:Gl):Is (zX g) λtn=>g=.ty tn:=by cases g<;>first|exact rfl|exact trivial
noncomputable def tf:Gl->Option Nat
 |.exc k=>some k
 |_=>none
theorem nP(g:Gl):Is (tf g) λk=>g=.exc k:=by cases g<;>first|exact rfl|exact trivial
noncomputable def Nq(r:Expr->Option Ex)(T:Tb)(args:List Expr):Option Ex:=
 yb (λx y=>(tJ y).bind λt=>(T.glob t).bind λg=>(zX g).bind λtn=>(C3 tn).bind λty=>(r x).map λa=>.p false (.s ty) [a]) args
noncomputable def cGl(r:Expr->Option Ex)(T:Tb)(args:List Expr)(pos:Pos)(g:Gl):Option Ex:=match g with
 |.fn i=>(jx r args).map λes=>.call i es
 |.bi b=>if b="isinstance" then Nq r T args else(uw b args.length).bind λp=>(jx r args).map λes=>.p false p es
 |.ty t=>(t6 t args.length).bind λp=>(jx r args).map λes=>.p (T.isMu pos) p es
 |.cls _ _ f=>mw (λx=>(r x).map λa=>.new 0 f [a]) args
 |_=>none
noncomputable def Fa(r:Expr->Option Ex)(T:Tb)(f:Expr)(args:List Expr)(kws:List Keyword)(pos:Pos):Option Ex:=pH (match f with
  |.Name g _=>(T.glob g).bind (cGl r T args pos)
  |.Attribute o name apos=>if jR o=true/\apos.endLine=pos.line then
    if(lY name args.length (zOf name o args)).isSome=true then(lY name args.length (zOf name o args)).bind λtp=>(r o).bind λa=>(jx r args).map λes=>.n tp.1 (T.isMu pos&&tp.2.fresh) tp.2 a es else Ms r T o name args
    else none
  |_=>none) kws
noncomputable def MJ(r:Expr->Option Ex):List Expr->Option (Option Ex)
 |[]=>some none
 |t::l=>pH ((r t).map some) l
noncomputable def EV(r:N0)(T:Tb)(elt:Expr)(gens:List Comprehension)(sc:Scope)(pos:Pos):Option Ex:=mw (λg=>(tJ g.target).bind λx=>if g.is_async=0/\t9 T x sc=true then
   (r T g.iter).bind λi=>(r (mT T x sc) elt).bind λb=>(MJ (r (mT T x sc)) g.ifs).map λq=>.comp (T.isMu pos) b i q
   else none) gens
noncomputable def HQ(r:Expr->Option Ex)(mu:Bool)(ks:List (Option Expr))(vs:List Expr):Option Ex:=
 mw (λk=>k.bind λke=>mw (λve=>(r ke).bind λa=>(r ve).map λb=>.p mu .mkdict1 [a,b]) vs) ks
noncomputable def EX(r:Expr->Option Ex)(mu:Bool)(ks:List (Option Expr))(vs:List Expr):Option Ex:=
 if ks.length=vs.length/\ks.length<=15 then(jx EP ks).bind λkcs=>(jx r vs).map λxs=>.p mu (.d kcs) xs else none
noncomputable def Jd(r:Expr->Option Ex)(o:Option Expr):Option Ex:=match o with
 |none=>some (.c .none)
 |some e=>r e
noncomputable def On(r:Expr->Option Ex)(v e:Expr):Option Expr->Option Expr->Option Ex
 |none,none=>(r v).bind λa=>(r e).map λb=>.p false .rev [a,b]
 |_,_=>none
noncomputable def Li(r:Expr->Option Ex)(mu:Bool)(v sl:Expr):Option Ex:=match sl with
 |.Slice lo hi st _=>match st with
  |none=>(r v).bind λa=>(Jd r lo).bind λb=>(Jd r hi).map λc=>.p mu .slice [a,b,c]
  |some e=>On r v e lo hi
 |sl=>if rX sl then none else(r v).bind λa=>(r sl).map λb=>.p false .i [a,b]
noncomputable def cE:Nat->Tb->Expr->Option Ex
 |0,_,_=>none
 |k+1,T,e=>match e with
  |.Constant c _ _=>BV c
  |.Name x _=>AK T x
  |.BinOp l op r pos=>(wj op).bind λo=>(cE k T l).bind λa=>(cE k T r).bind λb=>if Ap o=true/\Kq l=true then some (.p true .rep [a,b])else some (.p (T.isMu pos) (.bop o) [a,b])
  |.UnaryOp op x _=>(cE k T x).bind (cUn op)
  |.BoolOp op vs _=>(jx (cE k T) vs).bind (rY op)
  |.Compare l ops rs _=>Ln (cE k T) l ops rs
  |.Call f args kws pos=>Fa (cE k T) T f args kws pos
  |.Subscript v sl pos=>Li (cE k T) (T.isMu pos) v sl
  |.List es pos=>(jx (cE k T) es).map λxs=>.p (T.isMu pos) .l xs
  |.Tuple es _ _=>(jx (cE k T) es).map λxs=>.p false .t xs
  |.Dict ks vs pos=>if(EX (cE k T) (T.isMu pos) ks vs).isSome=true then EX (cE k T) (T.isMu pos) ks vs else HQ (cE k T) (T.isMu pos) ks vs
  |.ListComp elt gens sc pos=>EV (cE k) T elt gens sc pos
  |.Attribute o name _=>(Bd (cE k T) T o name).map λq=>.p false (.a q.2) [q.1]
  |_=>none
noncomputable def Tb.slot(T:Tb)(x:Str):Option Nat:=
 (T.names.lookup x).bind λk=>if k=.local\/k=.cell then(T.tab.lookup x).bind λi=>if i<T.n then some i else none else none
noncomputable def iL(_:Tb)(_:Nat)(s:St):List St:=[s]
noncomputable def nA:Option (List (List St))->Option (List St)
 |some l=>some l.flatten
 |none=>none
noncomputable def yR(T:Tb)(a b:Expr):Option (List Nat):=(tJ a).bind λx=>(tJ b).bind λy=>(T.slot x).bind λi=>(T.slot y).map λj=>[i,j]
noncomputable def JU(T:Tb)(t:Expr):Option (Nat ⊕ List Nat):=match t with
 |.Name x _=>(T.slot x).map .inl
 |.Tuple es _ _=>(yb (yR T) es).map .inr
 |_=>none
noncomputable def zw(T:Tb)(f:Expr):Bool:=(tJ f).any λx=>(T.glob x).any λg=>zX g==some "reversed"
noncomputable def cIt(r:Expr->Option Ex)(T:Tb)(e:Expr):Option (Bool×Ex):=match e with
 |.Call f args kws p=>if zw T f=true then pH (mw (λa=>(r a).map λx=>(true,x)) args) kws else(r (.Call f args kws p)).map λx=>(false,x)
 |e=>(r e).map λx=>(false,x)
noncomputable def Fd(r:Expr->Option Ex)(T:Tb)(es:List Expr)(v:Expr):Option St:=
 if zI v then(yb (yR T) es).bind λis=>(r v).map λe=>.asgTup is e else none
noncomputable def J1(r:Expr->Option Ex)(T:Tb)(t v:Expr)(l:Nat):Option (List St):=match t with
 |.Name x _=>(T.slot x).bind λi=>(r v).map λe=>iL T l (.a i e)
 |.Tuple es _ _=>(Fd r T es v).map λs=>iL T l s
 |.Subscript o i _=>(r v).bind λev=>(r o).bind λeo=>(r i).map λei=>iL T l (.s eo ei ev)
 |.Attribute o name _=>if jT v then none else(r v).bind λev=>(Bd r T o name).map λq=>iL T l (.setAttr q.1 q.2 ev)
 |_=>none
noncomputable def cRz(T:Tb)(e:Expr):Option Nat:=match e with
 |.Call f args kws _=>pH (mw (λa=>(Ec a).bind λ_=>(tJ f).bind λx=>(T.glob x).bind tf) args) kws
 |_=>none
noncomputable def Ag(T:Tb)(e cause:Option Expr):Option Nat:=if cause.isNone=true then e.bind (cRz T)else none
noncomputable def NB:Stmt->Option Expr
 |.Return v _=>v
 |_=>none
inductive HdR:Bool->Expr->Prop
 |none {k:Nat} {p:Pos}:HdR false (.Constant .none k p)
 |lst {p:Pos}:HdR true (.List [] p)
noncomputable def hdE(e:Expr):Option Bool:=match e with
 |.Constant c _ _=>(Ko c).map λ_=>false
 |.List es _=>pH (some true) es
 |_=>none
theorem JW(e:Expr):Is (hdE e) λt=>HdR t e:=by
 cases e with
 |Constant c k p=>exact(I4 c).map λ_ h=>by subst h;exact .none
 |List es p=>
  cases es with
  |nil=>exact .lst
  |cons _ _=>exact trivial
 |_=>exact trivial
noncomputable def Lr(b:List Stmt):Option Bool:=mw (λs=>(NB s).bind hdE) b
theorem Hk(b:List Stmt):Is (Lr b) λt=>∃e p',b=[.Return (some e) p']/\HdR t e:=by
 rcases b with _|⟨s,_|_⟩
 ·exact trivial
 ·refine Is.bind (R:=λe=>∃p',s=.Return (some e) p') ?_ λe h=>(JW e).imp λ_ h2=>h.elim λp' h=>⟨e,p',h▸rfl,h2⟩;cases s with
  |Return v p=>
   induction v with
   |none=>exact trivial
   |some e=>exact⟨p,rfl⟩
  |_=>exact trivial
 ·exact trivial
noncomputable def cHd(T:Tb)(h:ExceptHandler):Option (Nat×Bool):=match h with
 |.ExceptHandler t nm body _=>if nm.isSome=true then none else t.bind λt=>(tJ t).bind λx=>(T.glob x).bind λg=>(tf g).bind λj=>(Lr body).map λb=>(j,b)
noncomputable def Kj(e:Expr):Option (Expr×Expr):=match e with
 |.BinOp l op r _=>if op=.Add then some (l,r)else none
 |_=>none
theorem HK(e:Expr):Is (Kj e) λq=>∃p,e=.BinOp q.1 .Add q.2 p:=by
 cases e with
 |BinOp l op r p=>exact Is.ite λh=>⟨p,h▸rfl⟩
 |_=>exact trivial
noncomputable def y4(e:Expr):Option (Expr×List Expr):=match e with
 |.Call f args kws _=>pH (some (f,args)) kws
 |_=>none
theorem wO(e:Expr):Is (y4 e) λq=>∃p,e=.Call q.1 q.2 [] p:=by
 cases e with
 |Call f args kws p=>
  cases kws with
  |nil=>exact⟨p,rfl⟩
  |cons _ _=>exact trivial
 |_=>exact trivial
noncomputable def J9(s:Stmt):Option (Expr×Expr):=match s with
 |.Assign ts v _=>mw (λt=>some (t,v)) ts
 |_=>none
theorem GV(s:Stmt):Is (J9 s) λq=>∃p,s=.Assign [q.1] q.2 p:=by
 cases s with
 |Assign ts v p=>
  rcases ts with _|⟨t,_|_⟩
  ·exact trivial
  ·exact ⟨p,rfl⟩
  ·exact trivial
 |_=>exact trivial
noncomputable def Mj:Gl->Option String
 |.bi t=>some t
 |_=>none
theorem Hf(g:Gl):Is (Mj g) λtn=>g=.bi tn:=by cases g<;>first|exact rfl|exact trivial
noncomputable def cIx(T:Tb)(y:Str)(e:Expr):Option Nat:=(y4 e).bind λq=>(tJ q.1).bind λfs=>(T.glob fs).bind λgs=>(Mj gs).bind λb=>yb (λa z=>(tJ a).bind λy'=>(tJ z).bind λz=>(T.glob z).bind λgz=>(tf gz).bind λd=>if b="isinstance"/\y'=y then some d else none) q.2
inductive IxR(T:Tb)(y:Str)(d:Nat):Expr->Prop
 |mk {fs z:Str} {p1 p2 p3 p4:Pos}:T.glob fs=some (.bi "isinstance")->T.glob z=some (.exc d)->IxR T y d (.Call (.Name fs p1) [.Name y p2,.Name z p3] [] p4)
theorem L5(T:Tb)(y:Str)(e:Expr):Is (cIx T y e) λd=>IxR T y d e:=by
 refine(wO e).bind λq h=>(je q.1).bind λfs h1=>Is.self.bind λgs h2=>(Hf gs).bind λb h3=>?_;obtain⟨p,rfl⟩:=h;obtain⟨f,args⟩:=q;obtain⟨p1,rfl⟩:=h1;subst h3;rcases args with _|⟨a,_|⟨z,_|_⟩⟩
 ·exact trivial
 ·exact trivial
 ·refine (je a).bind λy' h4=>(je z).bind λz' h5=>Is.self.bind λgz h6=>(nP gz).bind λd h7=>Is.ite λh8=>?_;obtain⟨p2,rfl⟩:=h4;obtain⟨p3,rfl⟩:=h5;obtain⟨rfl,rfl⟩:=h8;subst h7;exact .mk h2 h6
 ·exact trivial
noncomputable def cIn(T:Tb)(y:Str)(e:Expr):Option Nat:=(y4 e).bind λq=>(tJ q.1).bind λfi=>(T.glob fi).bind λgi=>(zX gi).bind λb=>if b="int" then mw (cIx T y) q.2 else none
inductive InR(T:Tb)(y:Str)(d:Nat):Expr->Prop
 |mk {fi:Str} {p1 p2:Pos} {e:Expr}:T.glob fi=some (.ty "int")->IxR T y d e->InR T y d (.Call (.Name fi p1) [e] [] p2)
theorem Ku(T:Tb)(y:Str)(e:Expr):Is (cIn T y e) λd=>InR T y d e:=by
 refine(wO e).bind λq h=>(je q.1).bind λfi h1=>Is.self.bind λgi h2=>(uH gi).bind λb h3=>Is.ite λh4=>?_;obtain⟨p,rfl⟩:=h;obtain⟨f,args⟩:=q;obtain⟨p1,rfl⟩:=h1;subst h3 h4;rcases args with _|⟨a,_|_⟩
 ·exact trivial
 ·exact (L5 T y a).imp λ_ h=>.mk h2 h
 ·exact trivial
noncomputable def cHi(T:Tb)(y:Str)(s:Stmt):Option (Nat×Nat):=(J9 s).bind λq=>(tJ q.1).bind λu=>(Kj q.2).bind λb=>(tJ b.1).bind λu'=>(cIn T y b.2).bind λd=>(T.var u).bind λi=>if u'=u/\u≠y/\T.names.lookup u=some .local/\i<T.n then some (i,d)else none
inductive HiR(T:Tb)(y:Str)(i d:Nat):Stmt->Prop
 |mk {u:Str} {p1 p2 p3 p4:Pos} {e:Expr}:InR T y d e->T.var u=some i->u≠y->T.names.lookup u=some .local->i<T.n->HiR T y i d (.Assign [.Name u p1] (.BinOp (.Name u p2) .Add e p3) p4)
theorem K9(T:Tb)(y:Str)(s:Stmt):Is (cHi T y s) λq=>HiR T y q.1 q.2 s:=by refine(GV s).bind λq h=>(je q.1).bind λu h1=>(HK q.2).bind λb h2=>(je b.1).bind λu' h3=>(Ku T y b.2).bind λd h4=>Is.self.bind λi h5=>Is.ite λh6=>?_;obtain⟨p,rfl⟩:=h;obtain⟨t,v⟩:=q;obtain⟨p1,rfl⟩:=h1;obtain⟨p2,rfl⟩:=h2;obtain⟨l,r⟩:=b;obtain⟨p3,rfl⟩:=h3;obtain⟨rfl,h7,h8,h9⟩:=h6;exact .mk h4 h5 h7 h8 h9
noncomputable def EW(b:List Stmt):Option Expr:=mw (λs=>match s with|.Expr v _=>if jT v=true then none else some v|_=>none) b
theorem Ee(b:List Stmt):Is (EW b) λv=>∃p,b=[.Expr v p]/\jT v=false:=by
 rcases b with _|⟨s,_|_⟩
 ·exact trivial
 ·cases s with
  |Expr v p=>exact Is.nite λh=>⟨p,rfl,h⟩
  |_=>exact trivial
 ·exact trivial
noncomputable def cTi(r:Expr->Option Ex)(T:Tb)(body:List Stmt)(h:ExceptHandler):Option St:=match h with
 |.ExceptHandler t nm b _=>nm.bind λy=>t.bind λt=>(tJ t).bind λx=>(T.glob x).bind λg=>(tf g).bind λj=>(mw (cHi T y) b).bind λq=>(T.var y).bind λk=>if T.names.lookup y=some .local/\k<T.n then(EW body).bind λv=>(r v).map λe=>.tryI e j q.1 k q.2 else none
noncomputable def ED{α:Type}:Option α->Option α->Option α
 |some a,_=>some a
 |none,b=>b
theorem Is.orE{α:Type}{a b:Option α}{R:α->Prop}(h:Is a R)(k:Is b R):Is (ED a b) R:=by
 cases a with
 |none=>exact k
 |some x=>exact h
noncomputable def cS:Nat->Tb->Stmt->Option (List St)
 |0,_,_=>none
 |k+1,T,s=>match s with
  |.Assign ts v pos=>mw (λt=>J1 (cE k T) T t v pos.line) ts
  |.While t body els pos=>pH ((cE k T t).bind λc=>(nA (jx (cS k T) body)).map λxs=>iL T pos.line (.while_ c xs)) els
  |.Expr v pos=>if jT v then none else(cE k T v).map λe=>iL T pos.line (.e e)
  |.If t a b pos=>(cE k T t).bind λc=>(nA (jx (cS k T) a)).bind λxs=>(nA (jx (cS k T) b)).map λys=>iL T pos.line (.ite c xs ys)
  |.For t it body els pos=>pH ((JU T t).bind λtg=>(cIt (cE k T) T it).bind λq=>(nA (jx (cS k T) body)).map λxs=>iL T pos.line (.f q.1 tg q.2 xs)) els
  |.Return v _=>(match v with
   |some e=>(cE k T e).map λx=>[.ret x]
   |none=>some [.ret (.c .none)])
  |.Pass _=>some [.pass]
  |.Raise e cause _=>(Ag T e cause).map λj=>[.raise j]
  |.Try body hs els fin pos=>pH (pH (mw (λh=>ED ((nA (jx (cS k T) body)).bind λbs=>(cHd T h).map λq=>iL T pos.line (.try_ bs q.1 q.2)) ((cTi (cE k T) T body h).map λs=>iL T pos.line s)) hs) fin) els
  |_=>none
noncomputable def NU(k:Nat)(T:Tb)(b:List Stmt):Option (List St):=nA (jx (cS k T) b)
inductive ResL(c:Cx)(as:dH)(X:List Addr)(h:HP)(Q:List V->AH->Prop)(xs:List Value)(s':Shared):Prop
 |mk (vs:List V) (H':AH) (as':dH):Ext as h as'->SR c as' X H' s'->Kept as X h s'.heap->VRs c as' X s'.heap vs xs->Q vs H'->ResL c as X h Q xs s'
inductive ResB(c:Cx)(as:dH)(X:List Addr)(h:HP)(Q:Bool->AH->Prop)(b:Bool)(s':Shared):Prop
 |mk (H':AH) (as':dH):Ext as h as'->SR c as' X H' s'->Kept as X h s'.heap->Q b H'->ResB c as X h Q b s'
section
variable {c:Cx}{as as₁:dH}{X:List Addr}{h h₁:HP}{s':Shared}
theorem Res.lift(e:Ext as h as₁)(k:Kept as X h h₁)(r:Res c as₁ X h₁ Q x s'):Res c as X h Q x s':=by obtain⟨v,H',as',e',S,k',hv,q⟩:=r;exact⟨v,H',as',e.trans k e',S,k.trans e k',hv,q⟩
theorem ResL.lift{Q:List V->AH->Prop}(e:Ext as h as₁)(k:Kept as X h h₁)(r:ResL c as₁ X h₁ Q x s'):ResL c as X h Q x s':=by obtain⟨v,H',as',e',S,k',hv,q⟩:=r;exact⟨v,H',as',e.trans k e',S,k.trans e k',hv,q⟩
theorem ResB.lift{Q:Bool->AH->Prop}(e:Ext as h as₁)(k:Kept as X h h₁)(r:ResB c as₁ X h₁ Q x s'):ResB c as X h Q x s':=by obtain⟨H',as',e',S,k',q⟩:=r;exact⟨H',as',e.trans k e',S,k.trans e k',q⟩
end
structure ACk(c:Cx)(A:Around)(n:Nat):Prop where
 hh:A.handled=none
 hd:A.depth+2*n+5<=recursionLimit
 hu:A.units+10*n+300<cLine
structure AOk(c:Cx)(A:Around)(n:Nat):Prop extends ACk c A n where
 hr:A.depth+2*n+6<=recursionLimit
 hw:A.units+10*n+305<cLine
theorem AOk.u64(a:AOk c A n):A.units+64<cLine:=by haveI:=a.hu;exact eW this (by simp+arith only)
structure KOk(T:Tb)(env:Env):Prop where
 loc:∀x,T.names.lookup x=some .local->env.kindOf x=some .local
 cell:∀x,T.names.lookup x=some .cell->env.kindOf x=some .cell
 free:∀x,T.names.lookup x=some .free->env.kindOf x=some .free\/env.kindOf x=some .cell
 glob:∀x,T.names.lookup x=some .globalImplicit->env.kindOf x=some .globalImplicit
structure Rdy(c:Cx)(T:Tb)(env:Env)(A:Around)(n:Nat)(s:Shared)(as:dH)(X:List Addr)(H:AH)(ρ:Fm):Prop where
 a:AOk c A n
 S:SR c as X H s
 F:FR c as X s.heap env T.tab ρ
 K:KOk T env
 len:ρ.length=T.n
 fr:EnvFr c A X as s.heap env
theorem Rdy.next(R:Rdy c T env A n s as X H ρ)
  (e:Ext as s.heap as₁)(k:Kept as X s.heap s₁.heap)(S:SR c as₁ X H₁ s₁):Rdy c T env A n s₁ as₁ X H₁ ρ:=
 ⟨R.a,S,R.F.keep k e,R.K,R.len,R.fr.keep e k⟩
def Nl(c:Cx)(x:Str):Gl->Prop
 |.fn f=>c.mg x=some (.ref (c.fad f))
 |.c v=>∃y,c.mg x=some y/\∀as X h,VR c as X h v y
 |.bi b=>c.mg x=none/\c.mb x=some (.builtin b)
 |.ty t=>c.mg x=none/\c.mb x=some (.type t)
 |.exc k=>c.mg x=some (.ref (c.xcls k))/\c.P.sub k k=true
 |.cls _ _ _=>c.mg x=some (.ref (c.ccls 0))
inductive CK(c:Cx)(ms:List (Str×Nat))(ats:List Str)(f:Nat):Prop
 |mk {N:Addr} {mN:Str->Option Value}:ClsAt c.base (c.ccls 0) N mN->mN "__setattr__"=none->mN "__getattribute__"=none->mN "__getattr__"=none->(∀n∈ats,mN n=none/\typeLookup (.type "object") n=pure none)->
   (∀n g,ms.lookup n=some g->mN n=some (.ref (c.fad g))/\(∃o,c.base.get? (c.fad g)=some o/\o.cls=.type "function")/\(∃y,typeLookup (.type "object") n=pure y)/\∃fn,c.P.fns g=some fn)->mN "__init__"=some (.ref (c.fad f))->(∃o,c.base.get? (c.fad f)=some o/\o.cls=.type "function")->(∃fn,c.P.fns f=some fn)->CK c ms ats f
structure SC(c:Cx)(n:Nat):Prop where
 run:∀{f:Nat} {fn:Fn} {A:Around} {s:Shared} {as:dH} {X:List Addr} {H:AH} {vs:List V} {xs:List Value} {Q:QE} {XX:XE},
 c.P.fns f=some fn->ACk c A n->(∃l,FrOk c A X as s.heap l)->SR c as X H s->VRs c as X s.heap vs xs->aQ c.P n f vs H Q XX->wpAny c.M A (call (.ref (c.fad f)) xs) (Res c as X s.heap Q) (ERes c as X s.heap XX) s
structure Cok(c:Cx)(gl:List (Str×Gl)):Prop where
 g:c.base.Ns mainGlobals c.mg
 b:c.base.Ns builtinsNs c.mb
 nolim:c.base.NoLimit
 x:∀k,c.P.sub k k=true->∃bm,XC c.base (c.xcls k) bm/\∀x j,gl.lookup x=some (.exc j)->(Value.ref (c.xcls k)::bm).contains (.ref (c.xcls j))=c.P.sub k j
 cl:∀x ms ats f,(x,Gl.cls ms ats f)∈gl->CK c ms ats f
 gl:∀x v,gl.lookup x=some v->Nl c x v
 fobj:∀f fn,c.P.fns f=some fn->∃o,c.base.get? (c.fad f)=some o/\o.data=.func (c.fdat f)
structure SE(c:Cx)(n:Nat)(T:Tb)(e:Expr)(ex:Ex):Prop where
 run:∀{env:Env} {A:Around} {s:Shared} {as:dH} {X:List Addr} {H:AH} {ρ:Fm} {Q:QE} {XX:XE},
 Rdy c T env A n s as X H ρ->cL c.P (aQ c.P n) ex ρ H Q XX->wpAny c.M A (eval e env) (Res c as X s.heap Q) (ERes c as X s.heap XX) s
structure ST(c:Cx)(n:Nat)(T:Tb)(e:Expr)(ex:Ex):Prop where
 run:∀{env:Env} {A:Around} {s:Shared} {as:dH} {X:List Addr} {H:AH} {ρ:Fm} {P:QE} {Q:Bool->AH->Prop} {XX:XE},(∀v H,P v H->nT (gb v) λb=>Q b H)->
 Rdy c T env A n s as X H ρ->cL c.P (aQ c.P n) ex ρ H P XX->wpAny c.M A (isTrue e env (eval e env)) (ResB c as X s.heap Q) (ERes c as X s.heap XX) s
section
variable {c:Cx}{n:Nat}{T:Tb}{gl:List (Str×Gl)}
theorem IJ{XX:XE}{W:V->V->AH->Prop}{t:Value->Value->Sem Value}{Q:QE}
  (h₁:SE c n T e₁ x₁)(h₂:SE c n T e₂ x₂)(R:Rdy c T env A n s as X H ρ)
  (w:cL c.P (aQ c.P n) x₁ ρ H (λv H'=>cL c.P (aQ c.P n) x₂ ρ H' (λv' H''=>W v v' H'') XX) XX)
  (tail:∀{s':Shared} {as':dH} {H':AH} {v v':V} {y y':Value},SR c as' X H' s'->VR c as' X s'.heap v y->VR c as' X s'.heap v' y'->W v v' H'->wpAny c.M A (t y y') (Res c as' X s'.heap Q) (ERes c as' X s'.heap XX) s') :
  wpAny c.M A (eval e₁ env) (λy s₁=>wpAny c.M A (eval e₂ env) (λy' s₂=>wpAny c.M A (t y y') (Res c as X s.heap Q) (ERes c as X s.heap XX) s₂) (ERes c as X s.heap XX) s₁) (ERes c as X s.heap XX) s:=by
 refine wpAny_mono (h₁.run R w) (λy s₁ r=>?_) λ_ _ e=>e;obtain⟨v,H₁,as₁,e1,S1,k1,hv,w1⟩:=r;refine wpAny_mono (h₂.run (R.next e1 k1 S1) w1) (λy' s₂ r=>?_) λ_ _ e=>e.lift e1 k1;obtain⟨v',H₂,as₂,e2,S2,k2,hv',w2⟩:=r;refine wpAny_mono (tail S2 (hv.keep k2 e2) hv' w2) (λx s₃ r=>?_) λ_ _ e=>(e.lift e2 k2).lift e1 k1;exact(r.lift e2 k2).lift e1 k1
theorem sC:be c.P false p vs H=prim c.P p vs H:=rfl
theorem gk(h:T.glob x=some g):T.names.lookup x=some .globalImplicit/\T.gl.lookup x=some g/\(x==("__debug__":Str))=false:=by replace h:=qP h;refine cY h λhd h=>?_;refine cY (eT h) λh1 h2=>?_;exact⟨h1,h2,hd⟩
theorem mx{R:Value->Shared->Prop}{E:Value->Shared->Prop} 
  (C:Cok c T.gl)(h:T.glob x=some g)(hk:env.scope.kind=.function)(eg:env.globals=mainGlobals)(eb:env.builtins=builtinsNs)(K:KOk T env)(st:c.base.StaysIn s.heap)(hy:c.mg x=some y\/(c.mg x=none/\c.mb x=some y))(r:R y s):wpAny c.M A (eval (.Name x pos) env) R E s:=by
 refine Name_function_global hk (K.glob x (gk h).1) ?_ (gk h).2.2;haveI hg:s.heap.Ns env.globals c.mg:=eg▸C.g.keeps st;exact hy.elim (λhy=>loadGlobal_global hg hy r) λhy=>loadGlobal_builtin hg hy.1 (eb▸C.b.keeps st) hy.2 r
theorem jK{R:Value->Shared->Prop}{E:Value->Shared->Prop} 
  (C:Cok c T.gl)(h:T.glob x=some g)(Rd:Rdy c T env A n s as X H ρ)(hy:c.mg x=some y\/(c.mg x=none/\c.mb x=some y))(r:R y s):wpAny c.M A (eval (.Name x pos) env) R E s:=mx C h Rd.F.kind Rd.F.glob Rd.F.bi Rd.K Rd.S.stays hy r
theorem vj(h:T.var x=some i):T.tab.lookup x=some i/\(T.names.lookup x=some .local\/T.names.lookup x=some .cell\/T.names.lookup x=some .free)/\(x==("__debug__":Str))=false/\(x==("__classdict__":Str))=false:=by replace h:=qP h;refine cY h λhd h=>?_;refine cY (eT h) λh1 h2=>?_;exact⟨h2,h1,Jn.mp hd⟩
theorem mC(h:qI s=some l):toS l=s/\l.length<=kR:=by replace h:=dg h;obtain⟨hh,rfl⟩:=h;exact⟨hh.1,aa hh.2 (by decide)⟩
theorem BO(h:BV cst=some ex):SE c n T (.Constant cst kk pos) ex:=by
 refine⟨?_⟩;intro env A s as X H ρ Q XX R w
 induction cst with
 |none=>(replace h:=aj h;(replace h:=Eq.symm h;subst h));exact wpAny_pure (Res.now (tk:=s.toks) R.S .none w)
 |bool=>(replace h:=aj h;subst h);exact wpAny_pure (Res.now (tk:=s.toks) R.S (.bool _) w)
 |int=>(replace h:=aj h;subst h);exact wpAny_Constant_int (Res.now R.S (.int _ _) w)
 |str=>refine av (dW h) ?_;intro l h1 h2;subst h2;refine cY (mC h1) λh3 h4=>?_;refine Constant_str ?_;subst h3;exact Res.now R.S (.str _ _ h4) w
 |_=>exact fm h
theorem AV(h:AK T x=some ex):(∃i,T.var x=some i/\ex=.v i)\/∃v,T.glob x=some (.c v)/\ex=.c v:=by
 refine Is.of (o:=Kw (glE (T.glob x)) (T.var x)) (R:=λex=>(∃i,T.var x=some i/\ex=.v i)\/∃v,T.glob x=some (.c v)/\ex=.c v) ?_ h;clear h;generalize T.var x=a
 induction a with
 |some i=>exact .inl ⟨i,rfl,rfl⟩
 |none=>
  generalize T.glob x=b
  induction b with
  |none=>exact trivial
  |some g=>
   induction g with
   |c v=>exact .inr ⟨v,rfl,rfl⟩
   |_=>exact trivial
theorem vg(w:cL P C (.v i) ρ H Q XX):∃v,ρ[i]? =some (some v)/\Q v H:=by
 simp only [xm]at w
 match h:ρ[i]?,w with
 |some (some v),w=>exact⟨v,rfl,w⟩
theorem DX(C:Cok c T.gl)(h:AK T x=some ex):SE c n T (.Name x pos) ex:=by
 refine⟨?_⟩;intro env A s as X H ρ Q XX R w;refine Or.elim (AV h) (λq_=>?_) (λq_=>?_)
 ·obtain ⟨i,hi,rfl⟩:=q_;refine wv (vj hi) ?_;intro h1 h2 h3 h4;refine av (vg w) ?_;intro v hv w;refine wpAny_Name (Ga R.S R.F h1 ?_ hv h4 w) h3;rcases h2 with h2|h2|h2
  ·exact .inl (R.K.loc x h2)
  ·exact .inr (.inl (R.K.cell x h2))
  ·refine Or.elim (R.K.free x h2) (λq=>?_) λq=>?_
   ·exact .inr (.inr q)
   ·exact .inr (.inl q)
 ·obtain ⟨v,hg,rfl⟩:=q_;refine dQ (gk hg) ?_;intro h1 h2 h3;refine av (C.gl x _ h2) ?_;intro y e1 e2;exact jK C hg R (.inl e1) (Res.now (tk:=s.toks) R.S (e2 _ _ _) w)
theorem i8{XX:XE}{t:Value->Value->Sem Value}{Q:QE}
  (h₁:SE c n T e₁ x₁)(h₂:SE c n T e₂ x₂)(R:Rdy c T env A n s as X H ρ)(w:cL c.P (aQ c.P n) (.p mu p [x₁,x₂]) ρ H Q XX)
  (tail:∀{s':Shared} {as':dH} {H':AH} {v v':V} {y y':Value},SR c as' X H' s'->VR c as' X s'.heap v y->VR c as' X s'.heap v' y'->hM (be c.P mu p [v,v'] H') Q->wpAny c.M A (t y y') (Res c as' X s'.heap Q) (ERes c as' X s'.heap XX) s') :
  wpAny c.M A (eval e₁ env) (λy s₁=>wpAny c.M A (eval e₂ env) (λy' s₂=>wpAny c.M A (t y y') (Res c as X s.heap Q) (ERes c as X s.heap XX) s₂) (ERes c as X s.heap XX) s₁) (ERes c as X s.heap XX) s:=by
 simp only [fG,eQ]at w;simp only [eQ,fP]at w;exact IJ (W:=λv v' H'=>hM (be c.P mu p [v,v'] H') Q) h₁ h₂ R w tail
theorem cJ(h:hM r Q):∃v H',r=some (v,H')/\Q v H':=by
 induction r with
 |none=>exact h.elim
 |some p=>exact⟨p.1,p.2,rfl,h⟩
theorem jD{K:Bool->Prop}(h:nT r K):∃b,r=some b/\K b:=by
 induction r with
 |none=>exact h.elim
 |some p=>exact⟨p,rfl,h⟩
theorem tH{E:Value->Shared->Prop}(S:SR c as X H s)(hx:VR c as X s.heap x cx)(hy:VR c as X s.heap y cy)(ex:d7 H x=some xs)(ey:d7 H y=some ys)
  (hz:xs.length+ys.length<=aB)(q:Q (.ref H.length) (H++[.list (xs++ys)])):wpAny c.M A (binaryOp .Add cx cy) (Res c as X s.heap Q) E s:=by
 obtain⟨a,its,rfl,⟨n,ha⟩,ra,_⟩:=e9 S hx ex;obtain⟨b,its',rfl,⟨n',hb⟩,rb,_⟩:=e9 S hy ey;refine P.add_list ha hb (FreshL.thawed S (jz (tk:=s.toks) S (.push _ _) (ba _ rfl) (gZ.symm▸ra.append rb) (aa (au ah) (aa hz (aa (ax _ 5) eR)))) q) ?_;rw [ra.len_arr,rb.len_arr];exact aa hz cz
theorem oZ(h:wj op=some o):op=zT o:=Is.of (R:=λo=>op=zT o) (by cases op<;>first|exact rfl|exact trivial) h
theorem zK(ho:wj op=some o)(h₁:SE c n T l a)(h₂:SE c n T r b):SE c n T (.BinOp l op r pos) (.p mu (.bop o) [a,b]):=by
 refine⟨?_⟩;intro env A s as X H ρ Q XX R w;refine wpAny_BinOp (i8 h₁ h₂ R w λS hv hv' q=>?_)
 induction mu with
 |false=>refine dI (cJ q) ?_;intro v H' e q';refine av (bz.mp (show(AY o _ _ _).map _=_ from e)) ?_;intro z e1 e2;cases e2;exact Em S hv hv' (oZ ho) e1 q'
 |true=>
  haveI e:=oZ ho;subst e
  induction o with
  |add=>
   refine dI (cJ (show hM (((Jf _ _ _).map _).bind _) Q from q)) λr H' e q'=>?_;refine av (cb e) λz e1 e2=>?_;refine av (dW e1) λu e3 e4=>?_;subst e4;cases qK e3 with
   |lst h1 h2 h3=>
    (obtain⟨rfl,rfl⟩:=pW e2;clear e2)
    exact tH S hv hv' h1 h2 h3 q'
   |_=>exact fm e2
  |_=>exact q.elim
theorem Bh{o:Bop}{G:Prop}(h:Ap o=true)(k:∀n,o=.mul n->G):G:=by
 cases o with
 |mul n=>exact k n rfl
 |_=>exact absurd h ai
theorem Hv{l r:Expr}{op:Operator}{o:Bop}{pos:Pos}{a b:Ex}(ho:wj op=some o)(hm:Ap o=true)(h₁:SE c n T l a)(h₂:SE c n T r b):SE c n T (.BinOp l op r pos) (.p true .rep [a,b]):=by
 refine⟨?_⟩;intro env A s as X H ρ Q XX R w;refine wpAny_BinOp (i8 h₁ h₂ R w λ{s' as' H' v v' y y'} S hv hv' q=>?_);haveI e:=oZ ho;refine Bh hm λm hm=>?_;subst hm;subst e;replace q:hM ((KY [v,v'] H').bind λr=>kI r.1 r.2) Q:=q;cases v with
 |lst vs=>
  cases vs with
  |nil=>exact q.elim
  |cons x vs=>
   induction vs with
   |cons _ _=>exact q.elim
   |nil=>
    cases v' with
    |int k=>
     replace q:hM ((if 0<=k/\k<=1000 then some (V.lst (bO k.toNat x),H')else none:Option (V×AH)).bind λr=>kI r.1 r.2) Q:=q;by_cases h:0<=k/\k<=1000
     ·rw [if_pos h]at q;exact Ks S hv hv' h.1 h.2 q
     ·rw [if_neg h]at q;exact q.elim
    |_=>exact q.elim
 |_=>exact q.elim
inductive A2{α β:Type}(R:α->β->Prop):List α->List β->Prop
 |nil:A2 R [] []
 |cons {a:α} {b:β} {l:List α} {m:List β}:R a b->A2 R l m->A2 R (a::l) (b::m)
theorem lN(h:gb v=some b):v=.bool b:=Is.of (R:=λb=>v=.bool b) (by cases v<;>first|exact rfl|exact trivial) h
theorem Ar(hp:∀env whole,isTrue e env whole=(do let v <-whole;standAt e.pos;holding [v] (truthy v)))(h:SE c n T e ex):ST c n T e ex:=by refine⟨?_⟩;intro env A s as X H ρ P Q XX hP R w;rw [hp];refine wpAny_bind (wpAny_mono (h.run R w) (λy s₁ r=>wpAny_bind (wpAny_standAt (wpAny_holding ?_))) λ_ _ e=>e);obtain⟨v,H₁,as₁,e1,S1,k1,hv,q⟩:=r;replace q:=jD (hP _ _ q);refine av q ?_;clear q;intro b hb q;clear h hp hP w;cases lN hb;cases hv.inv;exact wpAny_truthy_bool ⟨H₁,as₁,e1,S1,k1,q⟩
theorem I7(h:SE c n T x a):SE c n T (.UnaryOp .Not x pos) (.p false .not [a]):=by refine⟨?_⟩;intro env A s as X H ρ Q XX R w;simp only [fG,eQ]at w;simp only [fP]at w;refine wpAny_UnaryOp (wpAny_mono (h.run R w) (λy s₁ r=>?_) λ_ _ e=>e);obtain⟨v,H₁,as₁,e1,S1,k1,hv,q⟩:=r;refine dI (cJ q) ?_;intro v' H' e q';refine av (dW (e:(gb v).map _=_)) ?_;intro b e2 e3;replace e2:=lN e2;subst e2;cases e3;cases hv.inv;exact not_of (wpAny_truthy_bool ((Res.now (tk:=s₁.toks) S1 (.bool _) q').lift e1 k1))
theorem Hy(h:ST c n T x a):ST c n T (.UnaryOp .Not x pos) (.p false .not [a]):=by refine⟨?_⟩;intro env A s as X H ρ P Q XX hP R w;simp only [fG,eQ]at w;simp only [fP]at w;refine wpAny_isTrue_Not (wpAny_mono (h.run (Q:=λb H'=>Q (!b) H') (λv H' q=>?_) R w) (λb s₁ r=>r.rec λH₁ as₁ e1 S1 k1 q=>⟨H₁,as₁,e1,S1,k1,q⟩) λ_ _ e=>e);clear h w R;refine dI (cJ q) ?_;intro r H'' e q;refine av (dW (e:(gb v).map _=_)) ?_;intro b e2 e3;clear e;cases e3;rw [e2];exact hP _ _ q
theorem HX(h:SE c n T x a):SE c n T (.UnaryOp .USub x pos) (.p false .neg [a]):=by refine⟨?_⟩;intro env A s as X H ρ Q XX R w;simp only [fG,eQ]at w;simp only [fP]at w;refine wpAny_UnaryOp (wpAny_mono (h.run R w) (λy s₁ r=>?_) λ_ _ e=>e);obtain⟨v,H₁,as₁,e1,S1,k1,hv,q⟩:=r;refine dI (cJ q) ?_;intro v' H' e q';refine av (dW (e:v.num.map _=_)) ?_;intro i e2 e3;replace e2:=V.num_is e2;subst e2;cases e3;cases hv.inv;exact PyProof.Rows.neg_int ((Res.now S1 (.int _ _) q').lift e1 k1)
theorem tb:boolOp pos op (evalEach (e₁::e₂::es) env)=(do
  let v <-eval e₁ env
  standAt pos
  let t <-holding [v] (truthy v)
  if ux op t then boolOp pos op (evalEach (e₂::es) env)else pure v):=by
 refine(?_:(eval e₁ env>>= λv=>standAt pos>>= λ_=>holding [v] (truthy v)>>= λt=>_)=_);congr 1;funext v;congr 1;funext _;congr 1;funext t;cases op<;>cases t<;>rfl
theorem Dw(h:A2 (SE c n T) es xs):∀{ex:Ex} {s:Shared} {as:dH} {H:AH} {Q:QE},rY op xs=some ex->
  Rdy c T env A n s as X H ρ->cL c.P (aQ c.P n) ex ρ H Q XX->wpAny c.M A (boolOp pos op (evalEach es env)) (Res c as X s.heap Q) (ERes c as X s.heap XX) s:=by
 induction h with
 |nil=>intro ex s as H Q h;exact fm h
 |cons h₁ h₂ ih=>
  intro ex s as H Q h R w;cases h₂ with
  |nil=>(replace h:=aj h;(replace h:=Eq.symm h;subst h));exact h₁.run R w
  |cons h₂ h₃=>
   refine av (dW h) ?_;clear h;intro y hy hex;subst hex;simp only [vM]at w;rw [tb];refine wpAny_bind (wpAny_mono (h₁.run R w) (λv s₁ r=>?_) λ_ _ e=>e);obtain⟨v,H₁,as₁,e1,S1,k1,hv,q⟩:=r;refine av (jD q) ?_;clear q w h₁;intro b hb q;cases lN hb;cases hv.inv;refine wpAny_bind (wpAny_standAt (wpAny_bind (wpAny_holding (wpAny_truthy_bool ?_))));by_cases g:ux op b=true
   ·rw [if_pos g]at q ⊢;exact wpAny_mono (ih hy (R.next e1 k1 S1) q) (λ_ _ r=>r.lift e1 k1) λ_ _ e=>e.lift e1 k1
   ·rw [if_neg g]at q ⊢;exact wpAny_pure ((Res.now (tk:=s₁.toks) S1 (.bool _) q).lift e1 k1)
theorem ry:allTrue op (e₁::es) env=(do
  let t <-isTrue e₁ env (eval e₁ env)
  if ux op t then allTrue op es env else pure t):=by
 simp only [arm_allTrue_cons];congr 1;funext t;cases op<;>cases t<;>rfl
theorem Dl(h:A2 (ST c n T) es xs):∀{ex:Ex} {s:Shared} {as:dH} {H:AH} {P:QE} {Q:Bool->AH->Prop},rY op xs=some ex->(∀v H,P v H->nT (gb v) λb=>Q b H)->
  Rdy c T env A n s as X H ρ->cL c.P (aQ c.P n) ex ρ H P XX->wpAny c.M A (allTrue op es env) (ResB c as X s.heap Q) (ERes c as X s.heap XX) s:=by
 induction h with
 |nil=>intro ex s as H P Q h;exact fm h
 |cons h₁ h₂ ih=>
  intro ex s as H P Q h hP R w;rw [ry];cases h₂ with
  |nil=>
   (replace h:=aj h;(replace h:=Eq.symm h;subst h))
   refine wpAny_bind (wpAny_mono (h₁.run hP R w) (λb s₁ r=>?_) λ_ _ e=>e);by_cases g:ux op b=true
   ·cases op<;>cases b<;>first|exact wpAny_pure r|cases g
   ·exact (if_neg g)▸wpAny_pure r
  |cons h₂ h₃=>
   refine av (dW h) ?_;clear h;intro y hy hex;subst hex;simp only [vM]at w;refine wpAny_bind (wpAny_mono (h₁.run (Q:=λt H'=>if ux op t then cL c.P (aQ c.P n) y ρ H' P XX else P (.bool t) H') (λ_ _ q=>q) R w) (λb s₁ r=>?_) λ_ _ e=>e);obtain⟨H₁,as₁,e1,S1,k1,q⟩:=r;clear w h₁;by_cases g:ux op b=true
   ·rw [if_pos g]at q ⊢;exact wpAny_mono (ih hy hP (R.next e1 k1 S1) q) (λ_ _ r=>r.lift e1 k1) λ_ _ e=>e.lift e1 k1
   ·rw [if_neg g]at q ⊢;exact wpAny_pure ⟨H₁,as₁,e1,S1,k1,hP _ _ q⟩
theorem Ay(op:CmpOp):Ft (gf op)=op:=by cases op<;>rfl
theorem pf{E:Value->Shared->Prop}(S:SR c as X H s)(hx:VR c as X s.heap x cx)(hy:VR c as X s.heap y cy)(hu:A.units+64<cLine)
  (e:jA (gf op) x y H=some b)(q:Q (.bool b) H):wpAny c.M A (compareOp op cx cy) (Res c as X s.heap Q) E s:=by
 haveI h:=Mx (A:=A) (E:=E) S hx hy hu e q;rw [Ay]at h;exact h
theorem Gy(hm:behindInMarks op r=false)(h₁:SE c n T l a)(h₂:SE c n T r b):SE c n T (.Compare l [op] [r] pos) (.p false (.cop (gf op)) [a,b]):=by refine⟨?_⟩;intro env A s as X H ρ Q XX R w;refine wpAny_Compare1 (i8 h₁ h₂ R w λS hv hv' q=>?_) hm;refine dI (cJ q) ?_;intro v H' e q';refine av (dW (e:(jA (gf op) _ _ _).map _=_)) ?_;intro z e1 e2;cases e2;exact pf S hv hv' R.a.u64 e1 q'
theorem GU(hm:behindInMarks op r=false)(h₁:SE c n T l a)(h₂:SE c n T r b):ST c n T (.Compare l [op] [r] pos) (.p false (.cop (gf op)) [a,b]):=by
 refine⟨?_⟩;intro env A s as X H ρ P Q XX hP R w;refine wpAny_isTrue_Compare1 ?_ hm;simp only [fG,eQ]at w;simp only [eQ,fP]at w;refine wpAny_mono (h₁.run R w) (λy s₁ r=>?_) λ_ _ e=>e;obtain⟨v,H₁,as₁,e1,S1,k1,hv,w1⟩:=r;refine wpAny_mono (h₂.run (R.next e1 k1 S1) w1) (λy' s₂ r=>?_) λ_ _ e=>e.lift e1 k1;obtain⟨v',H₂,as₂,e2,S2,k2,hv',w2⟩:=r;refine dI (cJ w2) ?_;intro z H' e q';refine av (dW (e:(jA (gf op) v v' _).map _=_)) ?_;intro t e3 e4;cases e4;replace q':=jD (hP _ _ q');refine av q' ?_;intro t' h5 q'
 (replace h5:=aj h5;subst h5)
 haveI:=pf (A:=A) (E:=ERes c as X s.heap XX) (Q:=λv H=>v=.bool t/\Q t H) S2 (hv.keep k2 e2) hv' R.a.u64 e3 ⟨rfl,q'⟩;refine wpAny_mono this (λx s₃ r=>?_) λ_ _ e=>e;obtain⟨v3,H3,as3,e6,S3,k3,hv3,rfl,q3⟩:=r;cases hv3.inv;exact wpAny_truthy_bool ((ResB.lift e1 k1 (ResB.lift e2 k2 ⟨H3,as3,e6,S3,k3,q3⟩)))
theorem sF(h₁:SE c n T l a)(h₂:SE c n T m b)
  (R:Rdy c T env A n s as X H ρ)(w:cL c.P (aQ c.P n) (.cmp2 a (gf o₁) b (gf o₂) d) ρ H Q XX)
  {α:Type}{k₁:Value->Value->Value->Sem α}{R₀:α->Shared->Prop}
  (no:∀{s':Shared} {as':dH} {H':AH} {y y':Value},Ext as s.heap as'->Kept as X s.heap s'.heap->SR c as' X H' s'->Q (.bool false) H'->wpAny c.M A (k₁ y y' (.bool false)) R₀ (ERes c as X s.heap XX) s')
  (yes:∀{s':Shared} {as':dH} {H':AH} {v':V} {y y':Value},Ext as s.heap as'->Kept as X s.heap s'.heap->SR c as' X H' s'->VR c as' X s'.heap v' y'->
   cL c.P (aQ c.P n) d ρ H' (λz H₃=>nT (jA (gf o₂) v' z H₃) λt'=>Q (.bool t') H₃) XX->wpAny c.M A (k₁ y y' (.bool true)) R₀ (ERes c as X s.heap XX) s') :
  wpAny c.M A (eval l env) (λy s₁=>wpAny c.M A (eval m env) (λy' s₂=>wpAny c.M A (compareOp o₁ y y') (λx s₃=>wpAny c.M A (k₁ y y' x) R₀ (ERes c as X s.heap XX) s₃) (ERes c as X s.heap XX) s₂) (ERes c as X s.heap XX) s₁) (ERes c as X s.heap XX) s:=by
 simp only [Br]at w;refine wpAny_mono (h₁.run R w) (λy s₁ r=>?_) λ_ _ e=>e;obtain⟨v,H₁,as₁,e1,S1,k1,hv,w1⟩:=r;refine wpAny_mono (h₂.run (R.next e1 k1 S1) w1) (λy' s₂ r=>?_) λ_ _ e=>e.lift e1 k1;obtain⟨v',H₂,as₂,e2,S2,k2,hv',w2⟩:=r;refine av (jD w2) ?_;intro t e3 q;have:=pf (A:=A) (E:=ERes c as X s.heap XX) (Q:=λv H=>v=.bool t/\H=H₂) S2 (hv.keep k2 e2) hv' R.a.u64 e3 ⟨rfl,rfl⟩;refine wpAny_mono this (λx s₃ r=>?_) λ_ _ e=>e;obtain⟨v3,H3,as3,e6,S3,k3,hv3,rfl,rfl⟩:=r;cases hv3.inv;haveI E:=(e1.trans k1 e2).trans (k1.trans e1 k2) e6;haveI K:=(k1.trans e1 k2).trans (e1.trans k1 e2) k3
 induction t with
 |false=>exact no E K S3 q
 |true=>exact yes E K S3 (hv'.keep k3 e6) q
theorem DM(hm:behindInMarks o₂ r=false)(h₁:SE c n T l a)(h₂:SE c n T m b)(h₃:SE c n T r d):SE c n T (.Compare l [o₁,o₂] [m,r] pos) (.cmp2 a (gf o₁) b (gf o₂) d):=by
 refine⟨?_⟩;intro env A s as X H ρ Q XX R w;haveI e0:eval (.Compare l [o₁,o₂] [m,r] pos) env=(do
   let x <-eval l env
   let y <-holding [x] (eval m env)
   standAt pos
   let z <-holding [x,y] (compareOp o₁ x y)
   release [x,y] [z]
   if <-holding [z,y] (truthy z)then(do
    let u <-holding [y] (eval r env)
    standAt pos
    operate [y,u] (compareOp o₂ y u))else pure z):=by
  haveI:eval (.Compare l [o₁,o₂] [m,r] pos) env=(do compareChain pos (<-eval l env) [o₁,o₂] [eval m env,markedBehindIn o₂ r (eval r env)]):=rfl;rw [this,markedBehindIn_of_false hm];rfl
 rw [e0];haveI hrun:=sF (k₁:=λx y z=>(do
   release [x,y] [z]
   if <-holding [z,y] (truthy z)then(do
    let u <-holding [y] (eval r env)
    standAt pos
    operate [y,u] (compareOp o₂ y u))else pure z)) (R₀:=Res c as X s.heap Q) h₁ h₂ R w ?_ ?_
 ·refine wpAny_bind (wpAny_mono hrun (λx s₁ r=>wpAny_bind (wpAny_holding (wpAny_mono r (λy s₂ r=>wpAny_bind (wpAny_standAt (wpAny_bind (wpAny_holding r)))) λ_ _ e=>e))) λ_ _ e=>e)
 ·intro s' as' H' y y' E K S q;refine wpAny_bind (wpAny_release (wpAny_bind (wpAny_holding (wpAny_truthy_bool ?_))));exact wpAny_pure ((Res.now (tk:=s'.toks) S (.bool _) q).lift E K)
 ·intro s' as' H' v' y y' E K S hv' w3;refine wpAny_bind (wpAny_release (wpAny_bind (wpAny_holding (wpAny_truthy_bool ?_))));refine wpAny_bind (wpAny_holding (wpAny_mono (h₃.run (R.next E K S) w3) (λu s₂ r=>?_) λ_ _ e=>e.lift E K));obtain⟨v4,H4,as4,e4,S4,k4,hv4,q4⟩:=r;refine av (jD q4) ?_;intro t e5 q5;refine wpAny_bind (wpAny_standAt (wpAny_operating ?_));haveI:=pf (A:=A) (E:=ERes c as X s.heap XX) S4 (hv'.keep k4 e4) hv4 R.a.u64 e5 q5;exact wpAny_mono this (λ_ _ r=>(r.lift e4 k4).lift E K) λ_ _ e=>e
theorem C6(hm:behindInMarks o₂ r=false)(h₁:SE c n T l a)(h₂:SE c n T m b)(h₃:SE c n T r d):ST c n T (.Compare l [o₁,o₂] [m,r] pos) (.cmp2 a (gf o₁) b (gf o₂) d):=by
 refine⟨?_⟩;intro env A s as X H ρ P Q XX hP R w;haveI e0:isTrue (.Compare l [o₁,o₂] [m,r] pos) env (eval (.Compare l [o₁,o₂] [m,r] pos) env)=(do
   let x <-eval l env
   let y <-holding [x] (eval m env)
   standAt pos
   let z <-holding [x,y] (compareOp o₁ x y)
   release [x,y] [z]
   if <-holding [z,y] (truthy z)then(do
    let u <-holding [y] (eval r env)
    standAt pos
    let z' <-operate [y,u] (compareOp o₂ y u)
    holding [z'] (truthy z'))else pure false):=by
  haveI:isTrue (.Compare l [o₁,o₂] [m,r] pos) env (eval (.Compare l [o₁,o₂] [m,r] pos) env)=(do testChain pos (<-eval l env) [o₁,o₂] [eval m env,markedBehindIn o₂ r (eval r env)]):=rfl;rw [this,markedBehindIn_of_false hm];rfl
 rw [e0];haveI hrun:=sF (k₁:=λx y z=>(do
   release [x,y] [z]
   if <-holding [z,y] (truthy z)then(do
    let u <-holding [y] (eval r env)
    standAt pos
    let z' <-operate [y,u] (compareOp o₂ y u)
    holding [z'] (truthy z'))else pure false)) (R₀:=ResB c as X s.heap Q) h₁ h₂ R w ?_ ?_
 ·refine wpAny_bind (wpAny_mono hrun (λx s₁ r=>wpAny_bind (wpAny_holding (wpAny_mono r (λy s₂ r=>wpAny_bind (wpAny_standAt (wpAny_bind (wpAny_holding r)))) λ_ _ e=>e))) λ_ _ e=>e)
 ·intro s' as' H' y y' E K S q;refine wpAny_bind (wpAny_release (wpAny_bind (wpAny_holding (wpAny_truthy_bool ?_))));exact wpAny_pure ⟨H',as',E,S,K,hP _ _ q⟩
 ·intro s' as' H' v' y y' E K S hv' w3;refine wpAny_bind (wpAny_release (wpAny_bind (wpAny_holding (wpAny_truthy_bool ?_))));refine wpAny_bind (wpAny_holding (wpAny_mono (h₃.run (R.next E K S) w3) (λu s₂ r=>?_) λ_ _ e=>e.lift E K));obtain⟨v4,H4,as4,e4,S4,k4,hv4,q4⟩:=r;refine av (jD q4) ?_;intro t e5 q5;refine wpAny_bind (wpAny_standAt (wpAny_bind (wpAny_operating ?_)));haveI:=pf (A:=A) (E:=ERes c as X s.heap XX) (Q:=λv H=>v=.bool t/\Q t H) S4 (hv'.keep k4 e4) hv4 R.a.u64 e5 ⟨rfl,hP _ _ q5⟩;refine wpAny_mono this (λ_ _ r=>?_) λ_ _ e=>e;obtain⟨v3,H3,as3,e6,S3,k3,hv3,rfl,q3⟩:=r;cases hv3.inv;exact wpAny_holding (wpAny_truthy_bool (ResB.lift E K (ResB.lift e4 k4 ⟨H3,as3,e6,S3,k3,q3⟩)))
def NS(e:Expr):Prop:=(e.ctorIdx==22)=false
theorem jL(h:NS e)(r:List Expr)(env:Env):starEach (e::r) env=(false,eval e env)::starEach r env:=by
 cases e with
 |Starred a p=>exact absurd h.symm ai
 |_=>rfl
abbrev rx(c:Cx)(n:Nat)(T:Tb)(es:List Expr)(xs:List Ex):Prop:=A2 (λe x=>SE c n T e x/\NS e) es xs
theorem q9(h:rx c n T es xs):∀{s:Shared} {as:dH} {H:AH} {Q:List V->AH->Prop},Rdy c T env A n s as X H ρ->
  gc c.P (aQ c.P n) xs ρ H Q XX->wpAny c.M A (spliced (backTo pos (starEach es env))) (ResL c as X s.heap (λvs H'=>vs.length=xs.length/\Q vs H')) (ERes c as X s.heap XX) s:=by
 induction h with
 |nil=>exact λR w=>spliced_nil ⟨[],_,_,.refl ..,R.S,Kept.refl _ _ _,.nil,rfl,w⟩
 |cons h₁ _ ih=>intro s as H Q R w;rw [jL h₁.2];refine spliced_cons ?_;simp only [eQ]at w;refine wpAny_mono (h₁.1.run R w) (λy s₁ r=>?_) λ_ _ e=>e;obtain⟨v,H₁,as₁,e1,S1,k1,hv,w1⟩:=r;refine wpAny_mono (ih (R.next e1 k1 S1) w1) (λys s₂ r=>?_) λ_ _ e=>e.lift e1 k1;obtain⟨vs,H₂,as₂,e2,S2,k2,hvs,hl,q⟩:=r;exact⟨v::vs,H₂,as₂,e1.trans k1 e2,S2,k1.trans e1 k2,.cons (hv.keep k2 e2) hvs,congrArg nK hl,q⟩
theorem gF{Q:List V->AH->Prop}(h:rx c n T es xs)(R:Rdy c T env A n s as X H ρ)
  (w:gc c.P (aQ c.P n) xs ρ H Q XX):wpAny c.M A (evalArgs f true (backTo pos (starEach es env)) []) (λa s'=>a.kw=[]/\ResL c as X s.heap (λvs H'=>vs.length=xs.length/\Q vs H') a.pos s') (ERes c as X s.heap XX) s:=by
 haveI hr:=q9 (pos:=pos) h R w
 induction h with
 |nil=>exact evalArgs_kw_nil (keywords:=[]) rfl (wpAny_evalAll_nil ⟨rfl,⟨[],H,as,.refl ..,R.S,Kept.refl _ _ _,.nil,rfl,w⟩⟩)
 |cons h₁ h₂=>rw [jL h₁.2]at hr ⊢;exact evalArgs_plain (wpAny_mono hr (λvs s' r=>⟨rfl,r⟩) λ_ _ e=>e)
theorem nM(h:rx c n T es xs):(backTo pos (starEach es env)).any (·.1)=false:=by
 induction h with
 |nil=>rfl
 |cons h₁ _ ih=>rw [jL h₁.2];exact ih
theorem Dq(C:Cok c T.gl)(sc:SC c n)(hg:T.glob g=some (.fn f))(hf:∃fn,c.P.fns f=some fn)(h:rx c n T args xs):SE c n T (.Call (.Name g p) args [] pos) (.call f xs):=by refine⟨?_⟩;intro env A s as X H ρ Q XX R w;obtain⟨fn,hf⟩:=hf;simp only [yP]at w;haveI e1:=C.gl g _ (gk hg).2.1;refine wpAny_Call_Name_kw (jK C hg R (.inl e1) ?_);refine callWith_function (o:=(C.fobj f fn hf).choose) (fd:=c.fdat f) (wpAny_mono (gF h R w) (λa s₁ r=>?_) λ_ _ e=>e);obtain⟨hk,vs,H₁,as₁,e1,S1,k1,hvs,_,q⟩:=r;haveI ho:=(C.fobj f fn hf).choose_spec;refine⟨⟨S1.stays _ _ ho.1,ho.2⟩,?_⟩;rw [hk];exact wpAny_mono (sc.run hf R.a.toACk (R.fr.keep e1 k1).all S1 hvs q) (λ_ _ r=>r.lift e1 k1) λ_ _ e=>e.lift e1 k1
theorem AO(C:Cok c T.gl)(hg:T.glob g=some (.bi b))(h:rx c n T args xs)
  (tail:∀{A:Around} {s:Shared} {as:dH} {X:List Addr} {H:AH} {Q:QE} {XX:XE} {vs:List V} {ys:List Value},AOk c A n->SR c as X H s->VRs c as X s.heap vs ys->vs.length=xs.length->hM (be c.P false pr vs H) Q->wpAny c.M A (call (.builtin b) ys) (Res c as X s.heap Q) (ERes c as X s.heap XX) s) :
  SE c n T (.Call (.Name g p) args [] pos) (.p false pr xs):=by
 refine⟨?_⟩;intro env A s as X H ρ Q XX R w;simp only [fG]at w;haveI e1:=C.gl g _ (gk hg).2.1;refine wpAny_Call_Name_kw (jK C hg R (.inr e1) ?_);refine callWith_builtin (nM h) (wpAny_mono (gF h R w) (λa s₁ r=>?_) λ_ _ e=>e);obtain⟨hk,vs,H₁,as₁,e1,S1,k1,hvs,hl,q⟩:=r;rw [hk];exact wpAny_mono (tail R.a S1 hvs hl q) (λ_ _ r=>r.lift e1 k1) λ_ _ e=>e.lift e1 k1
theorem wQ(C:Cok c T.gl)(hg:T.glob g=some (.ty b))(h:rx c n T args xs)
  (tail:∀{A:Around} {s:Shared} {as:dH} {X:List Addr} {H:AH} {Q:QE} {XX:XE} {vs:List V} {ys:List Value},AOk c A n->SR c as X H s->VRs c as X s.heap vs ys->vs.length=xs.length->hM (be c.P mu pr vs H) Q->wpAny c.M A (call (.type b) ys) (Res c as X s.heap Q) (ERes c as X s.heap XX) s) :
  SE c n T (.Call (.Name g p) args [] pos) (.p mu pr xs):=by
 refine⟨?_⟩;intro env A s as X H ρ Q XX R w;simp only [fG]at w;haveI e1:=C.gl g _ (gk hg).2.1;refine wpAny_Call_Name_kw (jK C hg R (.inr e1) ?_);refine PySem.callWith_type (nM h) (wpAny_mono (gF h R w) (λa s₁ r=>?_) λ_ _ e=>e);obtain⟨hk,vs,H₁,as₁,e1,S1,k1,hvs,hl,q⟩:=r;rw [hk];exact wpAny_mono (tail R.a S1 hvs hl q) (λ_ _ r=>r.lift e1 k1) λ_ _ e=>e.lift e1 k1
theorem ue(h:VRs c as X hp vs ys)(hl:vs.length=1):∃v y,vs=[v]/\ys=[y]/\VR c as X hp v y:=by
 cases h with
 |nil=>simp at hl
 |cons a r=>
  cases r with
  |nil=>exact⟨_,_,rfl,rfl,a⟩
  |cons _ _=>simp at hl
theorem JS(h:VRs c as X hp vs ys)(hl:vs.length=2):∃v v' y y',vs=[v,v']/\ys=[y,y']/\VR c as X hp v y/\VR c as X hp v' y':=by
 cases h with
 |nil=>simp at hl
 |cons a r=>
  cases r with
  |nil=>simp at hl
  |cons b r=>
   cases r with
   |nil=>exact⟨_,_,_,_,rfl,rfl,a,b⟩
   |cons _ _=>simp at hl
theorem A2.length{α β:Type}{R:α->β->Prop}{l:List α}{m:List β}(h:A2 R l m):l.length=m.length:=by
 induction h with
 |nil=>rfl
 |cons _ _ ih=>simp only [dR,dR,ih]
theorem yg(h:Ah [v] H=some (r,H')):∃ws,r=.lst ws/\H'=H:=by
 refine av (dW h) ?_;intro r' h1 h2;cases h2;have hv:((d7 H v).bind λvs=>if vs.length<=aB then some (V.lst vs)else none)=some r->∃ws,r=.lst ws:=λe=>by refine av (cb e) ?_;intro vs _ e;exact⟨vs,(dg e).2.symm⟩
 haveI key:∃ws,r=.lst ws:=by
  cases v with
  |rng a b=>exact⟨_,(dg h1).2.symm⟩
  |tup vs=>exact⟨_,(dg h1).2.symm⟩
  |_=>exact hv h1
 exact⟨key.choose,key.choose_spec,rfl⟩
set_option tactic.hygienic true in
theorem xU(C:Cok c T.gl)(hg:T.glob g=some (.bi b))(h:rx c n T args xs)(hp:uw b args.length=some pr):SE c n T (.Call (.Name g p) args [] pos) (.p false pr xs):=by
 have hl:=h.length;unfold uw at hp;split at hp
 ·rename_i q;(replace hp:=aj hp;cases hp);obtain⟨rfl,hn⟩:=q;refine AO C hg h λa S hv hl' q=>?_;refine di (ue hv (hl'.trans (hl.symm.trans hn))) ?_;intro v y q_3 q_4 hv1;subst q_3;subst q_4;refine dI (cJ q) ?_;intro r H' e q';exact Ma S hv1 e q'
 split at hp
 ·rename_i q;(replace hp:=aj hp;(replace hp:=Eq.symm hp;subst hp));obtain⟨rfl,hn⟩:=q;refine AO C hg h λa S hv hl' q=>?_;refine di (ue hv (hl'.trans (hl.symm.trans hn))) ?_;intro v y q_3 q_4 hv1;subst q_3;subst q_4;refine dI (cJ q) ?_;intro r H' e q';exact Lw a.hh S hv1 e q'
 split at hp
 ·rename_i q;(replace hp:=aj hp;subst hp);obtain⟨rfl,hn⟩:=q;refine AO C hg h λa S hv hl' q=>?_;obtain⟨v,v',y,y',rfl,rfl,hv,hv'⟩:=JS hv (hl'.trans (hl.symm.trans hn));refine dM (cJ q) λr q_=>dM q_ λH' q_=>cY q_ λe q'=>?_;exact K7 a.hh S hv hv' e q'
 exact fm hp
theorem kM(q:hM (be c.P mu pr vs H) Q):∃r H',prim c.P pr vs H=some (r,H'):=by
 refine dI (cJ q) ?_;intro r H' e _
 induction mu with
 |false=>exact⟨r,H',e⟩
 |true=>replace e:=eT (e:(if pr.fresh=true then _ else none)=_);refine cY e λ_ e=>?_;refine av (cb e) ?_;intro z e1 _;exact⟨z.1,z.2,e1⟩
theorem q7(hf:pr.fresh=false)(q:hM (be c.P mu pr vs H) Q):hM (prim c.P pr vs H) Q:=by
 induction mu with
 |false=>exact q
 |true=>haveI q:hM (if pr.fresh=true then(prim c.P pr vs H).bind λr=>kI r.1 r.2 else none) Q:=q;replace q:=hf▸q;exact q.elim
set_option tactic.hygienic true in
theorem xz(C:Cok c T.gl)(hg:T.glob g=some (.ty b))(h:rx c n T args xs)(hp:t6 b args.length=some pr):SE c n T (.Call (.Name g p) args [] pos) (.p mu pr xs):=by
 have hl:=h.length;unfold t6 at hp;split at hp
 ·rename_i q;(replace hp:=aj hp;subst hp);obtain⟨rfl,hn⟩:=q;refine wQ C hg h λa S hv hl' q=>?_;refine di (ue hv (hl'.trans (hl.symm.trans hn))) ?_;intro v y q_3 q_4 hv1;subst q_3;subst q_4;refine dI (cJ (q7 rfl q)) ?_;intro r H' e q';exact BP S hv1 e q'
 split at hp
 ·rename_i q;(replace hp:=aj hp;subst hp);obtain⟨rfl,hn⟩:=q;refine wQ C hg h λa S hv hl' q=>?_;obtain⟨v,v',y,y',rfl,rfl,hv,hv'⟩:=JS hv (hl'.trans (hl.symm.trans hn));obtain⟨r,H',e,q'⟩:=cJ (q7 rfl q);exact y0 S hv hv' e q'
 split at hp
 ·rename_i q;(replace hp:=aj hp;(replace hp:=Eq.symm hp;subst hp))
  (refine cY q λe_0 hn=>?_;subst e_0)
  refine wQ C hg h λa S hv hl' q=>?_;refine di (ue hv (hl'.trans (hl.symm.trans hn))) ?_;intro v y q_3 q_4 hv1;subst q_3;subst q_4;refine sH (kM q) ?_;intro r H' e;refine av (yg e) ?_;intro ws q_2 q_3;subst q_2
  (replace q_3:=Eq.symm q_3;subst q_3)
  exact my S e (λR hR=>FJ a.hh S hv1 e hR) q
 split at hp
 ·rename_i q;(replace hp:=aj hp;subst hp);obtain⟨rfl,hn⟩:=q;refine wQ C hg h λa S hv hl' q=>?_;refine di (ue hv (hl'.trans (hl.symm.trans hn))) ?_;intro v y q_3 q_4 hv1;subst q_3;subst q_4;refine dI (cJ (q7 rfl q)) ?_;intro r H' e q';exact LY S hv1 e q'
 exact fm hp
theorem Ea(h:C3 t=some ty):iP ty=t:=
 Is.of (o:=C3 t) (R:=λty=>iP ty=t) (Is.ite2 (λh=>h.symm) λ_=>Is.ite2 (λh=>h.symm) λ_=>Is.ite2 (λh=>h.symm) λ_=>Is.ite2 (λh=>h.symm) λ_=>Is.ite λh=>h.symm) h
theorem xB(C:Cok c T.gl)(hg:T.glob g=some (.bi "isinstance"))(ht:T.glob t=some (.ty tn))(hty:C3 tn=some ty)(h:SE c n T x a)(hns:NS x) :
  SE c n T (.Call (.Name g p) [x,.Name t p'] [] pos) (.p false (.s ty) [a]):=by
 refine⟨?_⟩;intro env A s as X H ρ Q XX R w;simp only [fG,eQ]at w;simp only [fP]at w;have e1:=C.gl g _ (gk hg).2.1;have e2:=C.gl t _ (gk ht).2.1;refine wpAny_Call_Name_kw (jK C hg R (.inr e1) ?_);haveI hst:starEach [x,.Name t p'] env=[(false,eval x env),(false,eval (.Name t p') env)]:=by rw [jL hns];rfl
 rw [hst];refine callWith_builtin rfl (evalArgs_plain (spliced_cons (wpAny_mono (h.run R w) (λy s₁ r=>?_) λ_ _ e=>e)));obtain⟨v,H₁,as₁,x1,S1,k1,hv,q⟩:=r;refine spliced_cons (jK C ht (R.next x1 k1 S1) (.inr e2) (spliced_nil ?_));refine dI (cJ q) ?_;intro z H' e q';haveI hp:=Bf (A:=A) (E:=ERes c as₁ X s₁.heap XX) S1 hv e q';rw [Ea hty]at hp;exact wpAny_mono hp (λ_ _ r=>r.lift x1 k1) λ_ _ e=>e.lift x1 k1
theorem Dz(hs:rX sl=false)(h₁:SE c n T v a)(h₂:SE c n T sl b):SE c n T (.Subscript v sl pos) (.p false .i [a,b]):=by refine⟨?_⟩;intro env A s as X H ρ Q XX R w;refine Subscript_ (i8 h₁ h₂ R w λS hv hv' q=>?_);refine dI (cJ q) ?_;intro r H' e q';exact H7 (λx y p e=>by subst e;cases hs) S hv hv' e q'
theorem CL(h:rx c n T es xs):SE c n T (.List es pos) (.p mu .l xs):=by
 refine⟨?_⟩;intro env A s as X H ρ Q XX R w;simp only [fG]at w;refine List_ (wpAny_mono (q9 h R w) (λys s₁ r=>?_) λ_ _ e=>e);obtain⟨vs,H₁,as₁,e1,S1,k1,hvs,_,q⟩:=r;haveI hsome:∃ws,prim c.P .l vs H₁=some (.lst ws,H₁):=by refine sH (kM q) ?_;intro r H' e;exact⟨vs,if_pos (dg e).1⟩
 obtain⟨ws,e⟩:=hsome;refine wpAny_mono (my S1 e (λR hR=>sP S1 hvs e hR) q) (λ_ _ r=>r.lift e1 k1) λ_ _ (e:ERes c as₁ X s₁.heap XX _ _)=>e.lift e1 k1
theorem Hl(h:rx c n T es xs):SE c n T (.Tuple es kk pos) (.p false .t xs):=by refine⟨?_⟩;intro env A s as X H ρ Q XX R w;simp only [fG]at w;refine Tuple_ (wpAny_mono (q9 h R w) (λys s₁ r=>?_) λ_ _ e=>e);obtain⟨vs,H₁,as₁,e1,S1,k1,hvs,_,q⟩:=r;refine dI (cJ q) ?_;intro z H' e q';exact wpAny_mono (CC S1 hvs e q') (λ_ _ r=>r.lift e1 k1) λ_ _ (e:ERes c as₁ X s₁.heap XX _ _)=>e.lift e1 k1
end
theorem SR.turn(x:SR c as X H s)(k:VK [] X s.heap s'.heap)(hst:c.base.StaysIn s'.heap)(hY:∀b∈Y,b∈X)
  (hx:∀b∈Y,∃o,s'.heap.get? b=some o)(hg:s'.gens=s.gens)(ho:s'.os=s.os):SR c as Y H s' where
 len:=x.len
 stays:=hst
 gens:=hg.trans x.gens
 os:=ho.trans x.os
 objs:=λi a e=>by refine dQ (x.objs i a e) ?_;intro h1 h2 r_3;refine av r_3 ?_;intro o h3 h4;exact⟨h1,λq=>h2 (hY _ q),o,h3,(h4.keepX (λb o e _ hb=>k b o e (λq=>nomatch q) hb) λob e=>k _ _ e (λq=>nomatch q) h2).frames λb _ _ hb q=>hb (hY _ q)⟩
 inj:=x.inj
 xs:=hx
def But(Y:List Addr)(h h':HP):Prop:=∀b o,b∉Y->h.get? b=some o->h'.get? b=some o
theorem But.kept(k:But Y h h')(as:dH)(X:List Addr):KeptX as X Y h h':=λb o e _ hy=>⟨o,k b o hy e,.inl rfl⟩
theorem But.vk(k:But Y h h')(as:dH)(hY:∀b∈Y,b∈X):VK as X h h':=λb o e _ hx=>k b o (λq=>hx (hY b q)) e
theorem But.stays(S:SR c as X H s)(k:But Y s.heap h')(hY:∀b∈Y,c.base.get? b=none):c.base.StaysIn h':=λb o e=>k b o (λq=>by exact fm ((hY _ q).symm.trans e)) (S.stays b o e)
theorem SR.but(S:SR c as X H s)(k:But Z s.heap s'.heap)(hZ:∀b∈Z,b∈X/\c.base.get? b=none)(hY:∀b∈Y,b∈X)
  (hx:∀b∈Y,b∈Z->∃o,s'.heap.get? b=some o)(hg:s'.gens=s.gens)(ho:s'.os=s.os):SR c as Y H s':=
 S.turn (k.vk [] λb q=>(hZ b q).1) (k.stays S λb q=>(hZ b q).2) hY (λb hb=>by
  by_cases hz:b∈Z
  ·exact hx b hb hz
  ·obtain ⟨o,e⟩:=S.xs b (hY b hb);exact⟨o,k b o hz e⟩) hg ho
theorem OVR.frames(hy:∀b o,h.get? b=some o->b∉X->b∉Y)(z:OVR c as X h o y):OVR c as Y h o y:=
 λv e=>(z v e).imp λ_ q=>⟨q.1,q.2.frames hy⟩
theorem FR.frames(F:FR c as X h env tab ρ)(hXY:∀b∈X,b∈Y)(hy:∀b o,h.get? b=some o->b∉X->b∉Y):FR c as Y h env tab ρ where
 kind:=F.kind
 glob:=F.glob
 bi:=F.bi
 lx:=hXY _ F.lx
 lout:=F.lout
 lb:=F.lb
 ns:=by refine av F.ns ?_;intro m n r;exact⟨m,n,λx i h1 h2=>(r x i h1 h2).frames hy⟩
 cells:=λx i h1 h2=>by refine lj (F.cells x i h1 h2) ?_;intro a y e1 e2 e3 e4 e5 e6 e7;exact⟨a,y,e1,hXY _ e2,e3,e4,e5,e6,e7.frames hy⟩
 apart:=F.apart
 inj:=F.inj
def rN(Y:List Addr)(env:Env)(tab:List (Str×Nat)):Prop:=
 env.locals∉Y/\∀x i,tab.lookup x=some i->(env.kindOf x=some .cell\/env.kindOf x=some .free)->∀a,env.cells.lookup x=some a->a∉Y
theorem FR.away(F:FR c as X h env tab ρ)(hY:∀b∈Y,b∉X):rN Y env tab:=
 ⟨λq=>hY _ q F.lx,λx i h1 h2 a e q=>by refine di (F.cells x i h1 h2) ?_;intro a' y e1 e2 _;replace e:=e1.symm.trans e;(replace e:=aj e;subst e);exact hY _ q e2⟩
theorem FR.keepY(F:FR c as X h env tab ρ)(k:KeptX as X Y h h')(hY:∀b∈Y,b∈X)(aw:rN Y env tab):FR c as X h' env tab ρ where
 kind:=F.kind
 glob:=F.glob
 bi:=F.bi
 lx:=F.lx
 lout:=F.lout
 lb:=F.lb
 ns:=by refine av F.ns ?_;intro m n r;exact⟨m,Ns.same n λo e=>k _ o e F.lout aw.1,λy i h1 h2=>(r y i h1 h2).keepX (k.v hY) (.refl ..)⟩
 cells:=λy i h1 h2=>by refine lj (F.cells y i h1 h2) ?_;intro a z e1 e2 e3 e4 e5 e6 e7;exact⟨a,z,e1,e2,e3,e4,e5,IsCell.same e6 λo e=>k _ o e e3 (aw.2 y i h1 h2 a e1),e7.keepX (k.v hY) (.refl ..)⟩
 apart:=F.apart
 inj:=F.inj
def ItC(h:HP)(I:Addr):V->Value->Nat->Prop
 |.tup _,y,k=>∃a,y=.ref a/\h.IsTupleIter I a k
 |.str _,y,k=>∃x t,y=.str x t/\(h.IsStrIter I "str_ascii_iterator" x t k\/h.IsStrIter I "str_iterator" x t k)
 |.rng a b,_,k=>IsRangeIter h I (a+(k:Nat)*1) (((b-a).toNat:Int)-(k:Nat)) 1
 |.lst _,y,k=>∃a,y=.ref a/\h.IsListIter I a k
 |.ref _,y,k=>∃a,y=.ref a/\h.IsListIter I a k
 |_,_,_=>False
theorem ItC.here(x:ItC h I v y k):∃o,h.get? I=some o/\∃vs,o.data=.fields vs:=by
 cases v<;>try exact x.elim
 ·obtain ⟨x,t,_,h1|h1⟩:=x
  ·refine av h1 ?_;intro o e r;exact⟨o,e,_,r.2⟩
  ·refine av h1 ?_;intro o e r;exact⟨o,e,_,r.2⟩
 ·refine av x ?_;intro a _ r_3;refine av r_3 ?_;intro o e r;exact⟨o,e,_,r.2⟩
 ·refine av x ?_;intro a _ r_3;refine av r_3 ?_;intro o e r;exact⟨o,e,_,r.2⟩
 ·exact ⟨_,x,_,rfl⟩
 ·refine av x ?_;intro a _ r_3;refine av r_3 ?_;intro o e r;exact⟨o,e,_,r.2⟩
theorem ItC.at(x:ItC h I v y k)(e:∀o,h.get? I=some o->(∀es n,o.data≠.dict es n)->h'.get? I=some o):ItC h' I v y k:=by
 refine dM (x.here) λob q_=>cY q_ λeo q_=>dM q_ λvs hc=>?_;have e0:∀o,h.get? I=some o->h'.get? I=some o:=λo q=>e o q λes n hd=>by replace q:=eo.symm.trans q;(replace q:=aj q;subst q);replace hd:=hc.symm.trans hd;cases hd
 cases v<;>try exact x.elim
 ·obtain ⟨x,t,hy,h1|h1⟩:=x
  ·refine av h1 ?_;intro o q r;exact⟨x,t,hy,.inl ⟨o,e0 o q,r⟩⟩
  ·refine av h1 ?_;intro o q r;exact⟨x,t,hy,.inr ⟨o,e0 o q,r⟩⟩
 ·refine av x ?_;intro a hy r_3;refine av r_3 ?_;intro o q r;exact⟨a,hy,o,e0 o q,r⟩
 ·refine av x ?_;intro a hy r_3;refine av r_3 ?_;intro o q r;exact⟨a,hy,o,e0 o q,r⟩
 ·exact e0 _ x
 ·refine av x ?_;intro a hy r_3;refine av r_3 ?_;intro o q r;exact⟨a,hy,o,e0 o q,r⟩
section
variable {c:Cx}{A:Around}{E:Value->Shared->Prop}{s:Shared}{as:dH}{X:List Addr}{H:AH}
inductive SrcAt(c:Cx)(as:dH)(X:List Addr)(h:HP):List V->V->Value->Prop
 |str (xs:List Char) (t:Tok):SrcAt c as X h (xs.map λc=>V.str [c]) (.str xs) (.str (toS xs) t)
 |tup {a:Addr} {its:Array Value} {n:Nat} {vs:List V}:a∉X->h.get? a=some {cls:=.type "tuple",data:=.seq its n}->VRs c as X h vs its.toList->SrcAt c as X h vs (.tup vs) (.ref a)
 |seq {a:Addr} {its:Array Value} {vs:List V} {v:V}:(∀h' I k,ItC h' I v (.ref a) k=∃b,Value.ref a=.ref b/\h'.IsListIter I b k)->v.isRng=false->a∉X->h.PlainList a its->VRs c as X h vs its.toList->SrcAt c as X h vs v (.ref a)
 |rng {a b:Int} {y:Value}:RngR as X h a b y->SrcAt c as X h (jj a b) (.rng a b) y
theorem uE(S:SR c as X H s)(hv:VR c as X s.heap v y)(hs:pY H v=some items):SrcAt c as X s.heap items v y:=by
 have hw:d7 H v=some items->(∀a h' I k,ItC h' I v (.ref a) k=∃b,Value.ref a=.ref b/\h'.IsListIter I b k)->v.isRng=false->SrcAt c as X s.heap items v y:=λe q hr=>by obtain⟨a,its,rfl,hp,r,_,hx⟩:=e9 S hv e;exact .seq (q a) hr hx hp r
 cases v with
 |str xs=>(replace hs:=aj hs;subst hs);cases hv.inv;exact .str _ _
 |tup vs=>(replace hs:=aj hs;subst hs);cases hv.inv with|tup _ h2 h3 h4 _=>exact .tup h2 h3 h4
 |rng a b=>(replace hs:=aj hs;subst hs);exact .rng hv.inv
 |lst vs=>exact hw hs (λ_ _ _ _=>rfl) rfl
 |ref i=>exact hw hs (λ_ _ _ _=>rfl) rfl
 |_=>exact fm hs
theorem sj{Q:Value->Shared->Prop}(S:SR c as X H s)(hv:VR c as X s.heap v y)(hs:pY H v=some items)
  (hQ:∀o,ItC (s.heap.push o) s.heap.objs.size v y 0->Q (.ref s.heap.objs.size) {s with heap:=s.heap.push o}):wpAny c.M A (pyIter y) Q E s:=by
 cases uE S hv hs with
 |str x t=>
  cases ha:(toS x).cps.all (·<128)
  ·exact wpAny_pyIter_wide ha (hQ _ ⟨_,_,rfl,.inr ⟨_,ba _ rfl,rfl,rfl⟩⟩)
  ·exact wpAny_pyIter_ascii ha (hQ _ ⟨_,_,rfl,.inl ⟨_,ba _ rfl,rfl,rfl⟩⟩)
 |tup h2 h3 h4=>exact wpAny_pyIter_tuple ⟨_,h3,rfl,_,rfl⟩ (hQ _ ⟨_,rfl,_,ba _ rfl,rfl,rfl⟩)
 |seq q _ h2 h3 h4=>exact wpAny_pyIter_list h3.isList (hQ _ ((q _ _ _).mpr ⟨_,rfl,_,ba _ rfl,rfl,rfl⟩))
 |@rng a b _ r=>
  cases r with
  |rng h1 h2 h3 h4 h5=>refine wpAny_pyIter_range h3 (nB h4 h5) (hQ _ ?_);show IsRangeIter _ _ _ _ _;rw [jP,show a+((0:Nat):Int)*1=a from Er a,show((b-a).toNat:Int)-((0:Nat):Int)=((b-a).toNat:Int)from Int.sub_zero _];exact ba _ rfl
theorem zx(h:(jj a b)[k]? =some x):x=.int (a+k)/\k<(b-a).toNat:=by rw [jj,aV,bz]at h;refine av h ?_;intro i h1 q_3;subst q_3;rw [af]at h1;obtain⟨h1,h2⟩:=h1;simp at h1 h2;subst h2;exact⟨rfl,Int.lt_toNat.mpr h1⟩
theorem vO{Q:Option Value->Shared->Prop}(hd:A.handled=none)(S:SR c as X H s)(hI:I∈X)(hb:c.base.get? I=none)(hv:VR c as X s.heap v y)(hi:ItC s.heap I v y k)
  (hs:pY H v=some items)(hk:items[k]? =some x)
  (hQ:∀z h' tk,But [I] s.heap h'->VR c as X h' x z->VR c as X h' v y->ItC h' I v y (k+1)->SR c as X H {s with heap:=h',toks:=tk}->Q (some z) {s with heap:=h',toks:=tk}):wpAny c.M A (pyNext (.ref I)) Q E s:=by
 have fin:∀z h' tk,But [I] s.heap h'->VR c as X s.heap x z->ItC h' I v y (k+1)->Q (some z) {s with heap:=h',toks:=tk}:=λz h' tk b hz hit=>by haveI kx:VK as X s.heap h':=b.vk as (dz hI);exact hQ z h' tk b (hz.keepX kx (.refl ..)) (hv.keepX kx (.refl ..)) hit (S.but (s':={s with heap:=h',toks:=tk}) b (dz ⟨hI,hb⟩) (λ_ q=>q) (λb hb hz=>in1 hz▸hit.here.imp λ_ e=>e.1) rfl rfl)
 cases uE S hv hs with
 |str xs t=>
  refine dI hi ?_;intro x' t' e hit;cases e;replace hk:=aV.symm.trans hk;refine av (dW hk) ?_;intro ch hch q_3;subst q_3;haveI hlt:k<(toS xs).cps.size:=by simp only [show(toS xs).cps.size=(toS xs).length from rfl,fw];exact(af.mp hch).1
  have hsign:∀z,SignAt (toS xs) k z->VR c as X s.heap (.str [ch]) z:=by
   rintro z ⟨q,u,hq,rfl⟩
   simp [toS,hch]at hq;subst hq;exact .str [ch] u (by simp [kR])
  haveI hh:=hd;refine Or.elim hit (λhit=>?_) λhit=>?_
  ·exact (Walks.strAscii hh I (toS xs) t).item k s Q E hlt hit λz h' tk hz st b=>fin z h' tk b (hsign z hz) ⟨_,_,rfl,.inl st⟩
  ·exact (Walks.strWide hh I (toS xs) t).item k s Q E hlt hit λz h' tk hz st b=>fin z h' tk b (hsign z hz) ⟨_,_,rfl,.inr st⟩
 |@tup a its n _ h2 h3 h4=>refine av hi ?_;intro a' e hit;cases e;refine av (h4.get hk) ?_;intro z hz hzr;replace hz:=cm.symm.trans hz;refine(Walks.tuple hd I a (λq=>h2 (q▸hI)) its).item k s Q E (j2.mp hz).1 ⟨hit,_,h3,rfl,_,rfl⟩ λz' h' tk hz' st b=>fin z' h' tk b ?_ ⟨_,rfl,st.1⟩;replace hz':=hz.symm.trans hz';(replace hz':=aj hz';subst hz');exact hzr
 |@seq a its _ _ q hr h2 h3 h4=>refine av ((q _ _ _).mp hi) ?_;intro a' e hit;cases e;refine av (h4.get hk) ?_;intro z hz hzr;replace hz:=cm.symm.trans hz;refine(Walks.list hd I a (λq=>h2 (q▸hI)) its).item k s Q E (j2.mp hz).1 ⟨hit,h3.isList⟩ λz' h' tk hz' st b=>fin z' h' tk b ?_ ((q _ _ _).mpr ⟨_,rfl,st.1⟩);replace hz':=hz.symm.trans hz';(replace hz':=aj hz';subst hz');exact hzr
 |@rng a b _ r=>
  obtain⟨rfl,hlt⟩:=zx hk;haveI hi':=hi;refine wpAny_pyNext_range_item hi' (Int.sub_pos_of_lt (cG.mpr hlt)) λh' hit' hs'=>?_;refine fin _ h' _ (λb o hb e=>hs'.extBut b o (λh=>hb (by simp [h])) e) ?_ ?_
  ·rw [tZ];exact .int _ _
  ·refine (?_:IsRangeIter _ _ _ _ _);haveI e1:a+((k+1:Nat):Int)*1=a+(k:Int)*1+1:=by simp only [tZ,tZ];exact(Int.add_assoc a k 1).symm
   haveI e2:((b-a).toNat:Int)-((k+1:Nat):Int)=((b-a).toNat:Int)-(k:Int)-1:=by exact Int.le_antisymm (jE (mL (Eq.symm e1)) (by simp+arith only)) (jE (mL e1) (by simp+arith only))
   simp only [e1,e2];exact hit'
theorem wB{Q:Option Value->Shared->Prop}(hd:A.handled=none)(S:SR c as X H s)(hI:I∈X)(hv:VR c as X s.heap v y)(hi:ItC s.heap I v y k)
  (hs:pY H v=some items)(hk:items.length=k)
  (hQ:∀h' tk,But [I] s.heap h'->Q none {s with heap:=h',toks:=tk}):wpAny c.M A (pyNext (.ref I)) Q E s:=by
 subst hk;cases uE S hv hs with
 |str xs t=>
  refine dI hi ?_;intro x' t' e hit;cases e;rw [ak,<-fw]at hit;haveI hh:=hd;refine Or.elim hit (λhit=>?_) λhit=>?_
  ·exact (Walks.strAscii hh I (toS xs) t).done s Q E hit hQ
  ·exact (Walks.strWide hh I (toS xs) t).done s Q E hit hQ
 |@tup a its n _ h2 h3 h4=>refine av hi ?_;intro a' e hit;cases e;simp only [h4.length,bJ]at hit;exact(Walks.tuple hd I a (λq=>h2 (q▸hI)) its).done s Q E ⟨hit,_,h3,rfl,_,rfl⟩ hQ
 |@seq a its _ _ q hr h2 h3 h4=>refine av ((q _ _ _).mp hi) ?_;intro a' e hit;cases e;simp only [h4.length,bJ]at hit;exact(Walks.list hd I a (λq=>h2 (q▸hI)) its).done s Q E ⟨hit,h3.isList⟩ hQ
 |@rng a b _ r=>haveI hi':=hi;simp only [nC]at hi';exact(Walks.range hd I a 1 (b-a).toNat).done s Q E hi' hQ
end
theorem sZ:Manifest.owners.lookup (String.ofList ['d','e','s','r','e','v','e','r'].reverse)=some Manifest.sig_reversed:=by kernel_rfl
theorem mH:Slot "reversed" "__next__" "reversed.__next__":=
 .of (owner:="reversed") (n:="__next__") (by kernel_rfl) (by decide+kernel) (by decide+kernel) (by decide+kernel)
  (by first|exact .inl (by decide+kernel)|exact .inr (by decide+kernel)) (by kernel_rfl)
theorem sS:entryFor table "reversed.__next__"=some Builtin.«reversed.__next__»:=entryFor_of_tree (by kernel_rfl)
theorem vV(a:Value):argsOk "reversed.__next__" ⟨[a],[]⟩:=by unfold argsOk;rw [signature?_of (id:="reversed.__next__") (n:=['_','_','t','x','e','n','_','_']) (o:=['d','e','s','r','e','v','e','r']) (by kernel_rfl) sZ];kernel_rfl
theorem mj:Slot "reversed" "__iter__" "reversed.__iter__":=
 .of (owner:="reversed") (n:="__iter__") (by kernel_rfl) (by decide+kernel) (by decide+kernel) (by decide+kernel)
  (by first|exact .inl (by decide+kernel)|exact .inr (by decide+kernel)) (by kernel_rfl)
theorem rM(a:Value):argsOk "reversed.__iter__" ⟨[a],[]⟩:=by unfold argsOk;rw [signature?_of (id:="reversed.__iter__") (n:=['_','_','r','e','t','i','_','_']) (o:=['d','e','s','r','e','v','e','r']) (by kernel_rfl) sZ];kernel_rfl
theorem pJ:entryFor table "reversed.__iter__"=some Builtin.«dict_keyiterator.__iter__»:=
 entryFor_alias (id':="dict_keyiterator.__iter__") (by kernel_rfl) (by first|rfl|decide+kernel|(unfold String.splitOn;simp+decide [String.splitOnAux])) (by decide+kernel) (by kernel_rfl)
theorem El:Slot "reversed" "__init__" "object.__init__":=
 .of (owner:="object") (n:="__init__") (by kernel_rfl) (by decide+kernel) (by decide+kernel) (by decide+kernel)
  (by first|exact .inl (by decide+kernel)|exact .inr (by decide+kernel)) (by kernel_rfl)
theorem x7:TypeCalled "reversed" "reversed.__new__" "object.__init__" where
 notType:=by decide+kernel
 canCreate:=PySem.F.create_reversed
 mro:=⟨_,_,PySem.F.mro_reversed⟩
 made:=PySem.F.made_reversed
 plain:=PySem.F.plain_reversed_new
 sub:=PySem.F.sub_reversed_self
 init:=El
theorem LK:typeLookup (.type "tuple") "__reversed__"=pure none:=by kernel_rfl
theorem xX:isSubtype (.type "tuple") (.type "dict")=pure false:=by kernel_rfl
section
variable {prog:Program}{w:World}{A:Around}{E:Value->Shared->Prop}{s:Shared}
noncomputable def oL(t:Value)(i:Int):Obj:={cls:=.type "reversed",data:=.fields #[t,rawInt i]}
theorem D4{Q:Value->Shared->Prop}(ht:IsTup s.heap t items)(hz:(items.size:Int)<2 ^ 63)
  (h:∀tk,Q (.ref s.heap.objs.size) {s with heap:=s.heap.push (oL (.ref t) ((items.size:Int)-1)),toks:=tk}):wpAny (model prog w) A (call (.type "reversed") [.ref t]) Q E s:=by
 refine callType_new (S:=λA' R s=>IsTup s.heap t items/\∀tk,R (.ok (.ret (.ref s.heap.objs.size))) {s with heap:=s.heap.push (oL (.ref t) ((items.size:Int)-1)),toks:=tk}) x7 (by decide) (PySem.F.typeCall_reversed_1 _) (PySem.F.newCall_reversed_1 _) (λobj=>PySem.F.args_object_init_2 obj _) PySem.F.entry_reversed_new ?_ ⟨ht,λtk=>⟨⟨_,ba _ rfl,rfl⟩,h tk⟩⟩;refine .of_wp λprog w A R s h=>?_;refine cY h λht h=>?_;unfold Builtin.«reversed.__new__»;refine wpAny_bind (wpAny_of_eq (newClass_reversed _) ?_);refine wpAny_bind (wpAny_of_eq (a:=()) (by first|rfl|kernel_rfl) ?_);refine wpAny_bind (wpAny_of_eq (a:=()) (by first|rfl|kernel_rfl) ?_)
 try dsimp only
 refine wpAny_bind (wpAny_specialOf ht.typeIs LK ?_);refine wpAny_bind ?_;refine wpAny_bind (wpAny_isInstance (T:="tuple") (b:=false) ht.typeIs xX ?_);refine wpAny_bind (wpAny_specialOf ht.typeIs slot_tuple_getitem.lookup ?_);refine wpAny_pure ?_;refine wpAny_bind (len_tuple ht hz ?_);refine wpAny_bind (wpAny_of_eq (a:=some (items.size:Int)) rfl ?_);refine wpAny_bind ?_;unfold Builtin.SmallTypes.newRecord;refine wpAny_newObj_type (wpAny_pure ⟨_,rfl,h _⟩)
theorem D3{Q:Value->Shared->Prop}(hit:s.heap.get? I=some (oL t i))(h:Q (.ref I) s):wpAny (model prog w) A (pyIter (.ref I)) Q E s:=by haveI hT:s.TypeIs (.ref I) "reversed":=⟨_,hit,rfl⟩;refine wpAny_pyIter_slot hT mj (wpAny_call_entry mj hT pJ ?_ (rM _));exact wpAny_pure ⟨_,rfl,"reversed",_,hT,mH.lookup,h⟩
theorem Dh{I t:Addr}{i:Nat}{items:Array Value}{x:Value}{Q:Option Value->Shared->Prop}(hit:s.heap.get? I=some (oL (.ref t) (i:Int)))(ht:IsTup s.heap t items)(hi:(i:Int)<2 ^ 63)(hx:items[i]? =some x)
  (hQ:∀h' tk,h'.get? I=some (oL (.ref t) ((i:Int)-1))->fX I s.heap h'->Q (some x) {s with heap:=h',toks:=tk}):wpAny (model prog w) A (pyNext (.ref I)) Q E s:=by
 haveI hT:s.TypeIs (.ref I) "reversed":=⟨_,hit,rfl⟩;refine wpAny_bind (wpAny_attempt (wpAny_callSpecial?_slot (name:=Str.ofString "__next__") hT mH
  (wpAny_call_entry mH hT sS ?_ (vV _))))
 unfold Builtin.«reversed.__next__»;refine wpAny_bind (wpAny_of_eq (a:=(Value.ref I,[])) rfl ?_);refine wpAny_bind (wpAny_field hit rfl (x:=.ref t) rfl ?_);refine wpAny_bind (wpAny_field hit rfl (x:=rawInt (i:Int)) rfl ?_);refine(?_:wpAny _ _ (if(i:Int)<0 then _ else _) _ _ s);refine(?_:wpAny _ _ (specialOf (.ref t) "__getitem__">>= _) _ _ s);refine wpAny_bind (wpAny_specialOf ht.typeIs slot_tuple_getitem.lookup ?_);haveI hz:=(j2.mp hx).1;refine wpAny_bind (wpAny_mkInt ?_);refine wpAny_bind (wpAny_attempt (getItem_tuple (s:={s with toks:=s.toks+1}) ht (bA (by decide) (bn i)) hi (j:=i) (PySem.seqIndex_of (bn i) (cG.mpr hz)) hx ?_));refine wpAny_bind (wpAny_field hit rfl (x:=rawInt (i:Int)) rfl ?_);refine wpAny_bind (wpAny_setField hit rfl (by simp) ?_);refine wpAny_pure ⟨x,rfl,wpAny_pure (hQ _ _ ?_ (po ..))⟩;exact cM _ hit rfl
theorem HA{Q:Option Value->Shared->Prop}(hh:A.handled=none)(hit:s.heap.get? I=some (oL t (-1)))
  (hQ:∀h',Heap.ExtBut I s.heap h'->Q none {s with heap:=h'}):wpAny (model prog w) A (pyNext (.ref I)) Q E s:=by
 haveI hT:s.TypeIs (.ref I) "reversed":=⟨_,hit,rfl⟩;refine wpAny_bind (wpAny_attempt (wpAny_callSpecial?_slot (name:=Str.ofString "__next__") hT mH
  (wpAny_call_entry mH hT sS ?_ (vV _))))
 unfold Builtin.«reversed.__next__»;refine wpAny_bind (wpAny_of_eq (a:=(Value.ref I,[])) rfl ?_)
 try dsimp only
 refine wpAny_bind (wpAny_field hit rfl (x:=t) rfl ?_);refine wpAny_bind (wpAny_field hit rfl (x:=rawInt (-1)) rfl ?_);refine wpAny_bind (wpAny_rule ?_);refine wpAny_bind ?_;refine wpAny_bind (wpAny_setField hit rfl (by simp) ?_);refine wpAny_setField (cM _ hit rfl) rfl (by simp) ?_;haveI hx:Heap.ExtBut I s.heap ((s.heap.update I (Obj.mapFields λx=>x.setIfInBounds 1 (rawInt (-1)))).update I (Obj.mapFields λx=>x.setIfInBounds 0 Value.none)):=
  λb o hb e=>(cD _ _ (Ne.symm hb)).trans ((cD _ _ (Ne.symm hb)).trans e)
 generalize (s.heap.update I (Obj.mapFields λx=>x.setIfInBounds 1 (rawInt (-1)))).update I (Obj.mapFields λx=>x.setIfInBounds 0 Value.none)=h2 at hx ⊢;refine wpAny_bind ?_;refine wpAny_bind ?_;simp only [newExc,newTuple];refine wpAny_bind (wpAny_newObj_type ?_ (by size_fits));refine wpAny_bind (m:=firstArgMember _ _) (wpAny_of_eq (a:=Value.none) (by first|rfl|(simp only [firstArgMember];rfl)) ?_);refine wpAny_newObj_type ?_ (by size_fits);dsimp only [raiseNew];refine wpAny_bind (wpAny_handled ?_);rw [show A.in1.handled=none from hh];refine wpAny_bind (wpAny_pure (wpAny_throw ?_));refine wpAny_bind (wpAny_isInstance (T:="StopIteration") (b:=true) ⟨_,ba _ rfl,rfl⟩ isSubtype_stop ?_);exact wpAny_pure (hQ _ ((hx.push _).push _))
end
def RvC(h:HP)(I:Addr):V->Value->Nat->Prop
 |.tup vs,y,k=>∃a,y=.ref a/\h.get? I=some (oL (.ref a) ((vs.length:Int)-1-(k:Int)))
 |.lst vs,y,k=>∃a,y=.ref a/\k<=vs.length/\h.IsRevIter I a ((vs.length:Int)-1-(k:Int))
 |_,_,_=>False
theorem RvC.here(x:RvC h I v y k):∃o,h.get? I=some o/\∃vs,o.data=.fields vs:=by
 cases v with
 |tup vs=>refine dM x λa q_=>cY q_ λ_ e=>?_;exact⟨_,e,_,rfl⟩
 |lst vs=>obtain⟨a,_,_,o,e,r⟩:=x;exact⟨o,e,_,r.2⟩
 |_=>exact x.elim
theorem RvC.at(x:RvC h I v y k)(e:∀o,h.get? I=some o->(∀es n,o.data≠.dict es n)->h'.get? I=some o):RvC h' I v y k:=by
 cases v with
 |tup vs=>refine dM x λa q_=>cY q_ λhy q=>?_;exact⟨a,hy,e _ q λ_ _ h=>nomatch h⟩
 |lst vs=>obtain⟨a,hy,hk,o,q,r⟩:=x;exact⟨a,hy,hk,o,e o q (λes n hd=>by replace hd:=(r.2).symm.trans hd;cases hd),r⟩
 |_=>exact x.elim
def ItD(rev:Bool)(h:HP)(I:Addr)(v:V)(y:Value)(k:Nat):Prop:=match rev with
 |true=>RvC h I v y k
 |false=>ItC h I v y k
inductive RevIs(items:List V):V->Prop
 |tup {vs:List V}:items=vs.reverse->RevIs items (.tup vs)
 |lst {vs:List V}:items=vs.reverse->RevIs items (.lst vs)
theorem uM(h:jB true H v=some items):RevIs items v:=
 Is.of (o:=KB v) (R:=λitems=>RevIs items v) (by cases v<;>first|exact .tup rfl|exact .lst rfl|exact trivial) h
theorem ItD.here(x:ItD rev h I v y k):∃o,h.get? I=some o/\∃vs,o.data=.fields vs:=by
 cases rev with
 |true=>exact RvC.here x
 |false=>exact ItC.here x
theorem ItD.at(x:ItD rev h I v y k)(e:∀o,h.get? I=some o->(∀es n,o.data≠.dict es n)->h'.get? I=some o):ItD rev h' I v y k:=by
 cases rev with
 |true=>exact RvC.at x e
 |false=>exact ItC.at x e
noncomputable def owners:List String:=["enumerate","zip","dict_itemiterator","dict_reverseitemiterator","odict_iterator","itertools.zip_longest","itertools.pairwise"]
inductive NoOwn(h:HP)(I:Addr):Prop
 |mk {o:Obj} {n:String}:h.get? I=some o->o.cls=.type n->owners.contains n=false->NoOwn h I
theorem ItD.cls(x:ItD rev h I v y k):NoOwn h I:=by
 cases rev with
 |true=>
  cases v with
  |tup vs=>obtain⟨a,_,e⟩:=x;exact .mk e rfl (by decide+kernel)
  |lst vs=>obtain⟨a,_,_,o,e,r⟩:=x;exact .mk e r.1 (by decide+kernel)
  |_=>exact x.elim
 |false=>
  cases v with
  |str=>
   obtain⟨x,t,_,h1|h1⟩:=x
   ·refine av h1 ?_;intro o e r;exact .mk e r.1 (by decide+kernel)
   ·refine av h1 ?_;intro o e r;exact .mk e r.1 (by decide+kernel)
  |rng=>exact .mk x rfl (by decide+kernel)
  |tup|lst|ref=>obtain⟨a,_,o,e,r⟩:=x;exact .mk e r.1 (by decide+kernel)
  |_=>exact x.elim
set_option backward.match.sparseCases true in
theorem He{E:Value->Shared->Prop}{Q:Unit->Shared->Prop}(h:NoOwn s.heap I)(q:Q () s):wpAny (model prog w) A (letOwnedTupleGo te (.ref I) z) Q E s:=by
 obtain⟨e,hc,hn⟩:=h;have F:wpAny (model prog w) A (do
   let(.ref r,.ref a):=(Value.ref I,z)|return
   let o <-load r
   match o.cls,o.data with
   |.type n,.fields vs=>
    if owners.contains n&&vs[0]?==some (rawInt a)then
     rule "for.unpacks-the-owned-tuple"
     updateField r 0 .none
   |_,_=>pure ()) Q E s:=by
  cases z with
  |ref a=>refine wpAny_bind (wpAny_load e ?_);rw [hc];generalize Obj.data _=d;cases d<;>first|exact wpAny_pure q|(dsimp only;rw [hn];exact wpAny_pure q)
  |_=>exact wpAny_pure q
 cases te<;>first|exact wpAny_pure q|exact F
section
variable {c:Cx}{A:Around}{E:Value->Shared->Prop}{s:Shared}{as:dH}{X:List Addr}{H:AH}
theorem zi{vs:List V}{k:Nat}{x:V}(h:vs.reverse[k]? =some x):vs[vs.length-1-k]? =some x/\k<vs.length:=by
 haveI hk:k<vs.length:=by rw [<-b8];exact(af.mp h).1
 rw [FH hk]at h;exact⟨h,hk⟩
theorem ze{n k:Nat}(h:k<n):(n:Int)-1-(k:Int)=((n-1-k:Nat):Int):=((B9 (Nat.le_sub_one_of_lt h)).trans (congrArg (·-(k:Int)) (B9 (cZ (aY k) h)))).symm
theorem CS{rev:Bool}{v:V}{y:Value}{items:List V}{x:V}{k:Nat}{I:Addr}{Q:Option Value->Shared->Prop}(hd:A.handled=none)(S:SR c as X H s)(hI:I∈X)(hb:c.base.get? I=none)(hv:VR c as X s.heap v y)(hi:ItD rev s.heap I v y k)
  (hs:jB rev H v=some items)(hk:items[k]? =some x)
  (hQ:∀z h' tk,But [I] s.heap h'->VR c as X h' x z->VR c as X h' v y->ItD rev h' I v y (k+1)->SR c as X H {s with heap:=h',toks:=tk}->Q (some z) {s with heap:=h',toks:=tk}):wpAny c.M A (pyNext (.ref I)) Q E s:=by
 cases rev with
 |false=>exact vO hd S hI hb hv hi hs hk hQ
 |true=>
  have fin:∀z h' tk,But [I] s.heap h'->VR c as X s.heap x z->RvC h' I v y (k+1)->Q (some z) {s with heap:=h',toks:=tk}:=λz h' tk b hz hit=>by haveI kx:VK as X s.heap h':=b.vk as (dz hI);exact hQ z h' tk b (hz.keepX kx (.refl ..)) (hv.keepX kx (.refl ..)) hit (S.but (s':={s with heap:=h',toks:=tk}) b (dz ⟨hI,hb⟩) (λ_ q=>q) (λb hb hz=>in1 hz▸hit.here.imp λ_ e=>e.1) rfl rfl)
  clear hQ;cases uM hs with
  |@tup vs e=>
   subst e;obtain⟨hx,hk⟩:=zi hk;refine av hi ?_;intro a q_2 hit;subst q_2;cases hv.inv with
   |@tup _ its n h1 h2 h3 h4 h5=>refine av (h4.get hx) ?_;intro z hz hzr;rw [cm]at hz;rw [ze hk]at hit;refine Dh hit ⟨_,h3,rfl,_,rfl⟩ (lI (aa (dS _ _) (aa (dS _ _) h5))) hz λh' tk hg hs'=>fin z h' tk (λb o hb e=>hs'.extBut b o (λh=>hb (by exact(h)▸.head _)) e) hzr ⟨a,rfl,?_⟩;rw [hg,<-ze hk,show(vs.length:Int)-1-((k+1:Nat):Int)=(vs.length:Int)-1-(k:Int)-1 from(Int.sub_sub ((vs.length:Int)-1) k 1).symm]
  |@lst vs e=>
   subst e;obtain⟨hx,hk⟩:=zi hk;refine c7 hi ?_;intro a q_2 _ hit;subst q_2;cases hv.inv with
   |@lst _ its h1 h2 h3 h4 h5=>refine av (h4.get hx) ?_;intro z hz hzr;replace hz:=cm.symm.trans hz;have hl:vs.length=its.size:=h4.length.trans bJ;refine(Walks.listRev hd I a (λq=>h2 (q▸hI)) its).item k s Q E (hl▸hk) ⟨gT (hl▸hk),hl▸hit,h3.isList⟩ λz' h' tk hz' st b=>fin z' h' tk b ?_ ⟨_,rfl,hk,by exact(hl)▸st.2.1⟩;rw [<-hl,hz]at hz';(replace hz':=aj hz';subst hz');exact hzr
theorem zO{Q:Value->Shared->Prop}(hv:VR c as X s.heap v y)(hs:jB true H v=some items)
  (hQ:∀o tk,ItD true (s.heap.push o) s.heap.objs.size v y 0->Q (.ref s.heap.objs.size) {s with heap:=s.heap.push o,toks:=tk}):wpAny c.M A (call (.type "reversed") [y]) Q E s:=by
 haveI z:∀n:Nat,(n:Int)-1-((0:Nat):Int)=(n:Int)-1:=λn=>Int.sub_zero _;cases uM hs with
 |@tup vs e=>
  cases hv.inv with
  |@tup a its n h1 h2 h3 h4 h5=>have hl:vs.length=its.size:=h4.length.trans bJ;exact D4 ⟨_,h3,rfl,_,rfl⟩ (lI (hl▸h5)) λtk=>hQ _ tk ⟨a,rfl,by rw [z,hl];exact ba _ rfl⟩
 |@lst vs e=>
  cases hv.inv with
  |@lst a its h1 h2 h3 h4 h5=>exact call_reversed_list h3.isList (hQ _ s.toks ⟨a,rfl,aY _,by rw [z,(h4.length.trans bJ:vs.length=its.size)];exact⟨_,ba _ rfl,rfl,rfl⟩⟩)
theorem Ml{Q:Value->Shared->Prop}(h:ItD true s.heap I v y k)(q:Q (.ref I) s):wpAny c.M A (pyIter (.ref I)) Q E s:=by
 cases v with
 |tup vs=>refine dM h λa q_=>cY q_ λ_ e=>?_;exact D3 e q
 |lst vs=>refine dM h λa q_=>cY q_ λ_ q_=>cY q_ λ_ e=>?_;exact wpAny_pyIter_revIter e q
 |_=>exact h.elim
theorem Dp{Q:Option Value->Shared->Prop}(hd:A.handled=none)(S:SR c as X H s)(hI:I∈X)(hv:VR c as X s.heap v y)(hi:ItD rev s.heap I v y k)
  (hs:jB rev H v=some items)(hk:items.length=k)
  (hQ:∀h' tk,But [I] s.heap h'->Q none {s with heap:=h',toks:=tk}):wpAny c.M A (pyNext (.ref I)) Q E s:=by
 cases rev with
 |false=>exact wB hd S hI hv hi hs hk hQ
 |true=>
  subst hk;cases uM hs with
  |@tup vs e=>
   subst e;refine av hi ?_;intro a q_2 hit
   (replace q_2:=Eq.symm q_2;subst q_2)
   rw [b8,show(vs.length:Int)-1-(vs.length:Int)=-1 by exact by simp+arith only]at hit;exact HA hd hit λh' hx=>hQ h' s.toks λb o hb e=>hx b o (λh=>hb (by exact(h)▸.head _)) e
  |@lst vs e=>
   subst e;refine c7 hi ?_;intro a q_2 _ hit;subst q_2;cases hv.inv with
   |@lst _ its h1 h2 h3 h4 h5=>rw [b8,(h4.length.trans bJ:vs.length=its.size)]at hit;exact(Walks.listRev hd I a (λq=>h2 (q▸hI)) its).done s Q E ⟨aM _,hit,h3.isList⟩ hQ
end
theorem Kept.but(k:Kept as X h₀ h)(b:But Y h h')(hY:∀a∈Y,Fr as h₀ a):Kept as X h₀ h':=λx o e hx=>by refine av (k x o e hx) ?_;intro o' e' s;exact⟨o',b x o' (λq=>by refine Or.elim (hY _ q) (λr=>?_) λr=>?_;exact hx r;replace e:=r.symm.trans e;exact fm e) e',s⟩
structure CompF(T:Tb)(x:Str)(sc:Scope):Prop where
 kind:sc.kind=.function
 tabs:∀y i,T.tab.lookup y=some i->i<T.n
 hx:sc.names.lookup x=some .local
 names:∀p∈sc.names,sc.names.lookup p.1=some p.2
 loc:∀y,sc.names.lookup y=some .local->y=x\/T.tab.lookup y=none
 nocell:∀p∈sc.names,p.2≠.cell
 free:∀y,sc.names.lookup y=some .free->(T.names.lookup y=some .cell\/T.names.lookup y=some .free)/\(∃i,T.tab.lookup y=some i)/\y≠x
theorem MA(h:t9 T x sc=true):CompF T x sc:=by
 simp only [t9,dC,decide_eq_true_eq,bN]at h;obtain⟨⟨⟨h1,h2⟩,h3⟩,h4⟩:=h;refine⟨h1,λy i e=>h2 _ (mem_of_lookup e),h3,λp hp=>(h4 p hp).1,λy e=>?_,λp hp e=>?_,λy e=>?_⟩
 ·haveI:=(h4 _ (mem_of_lookup e)).2
  simpa using this
 ·haveI:=(h4 p hp).2;rw [e]at this;simp at this
 ·haveI:=(h4 _ (mem_of_lookup e)).2;simp only [dC,jF,decide_eq_true_eq]at this;exact⟨this.1.1,dZ.mp this.1.2,this.2⟩
theorem oy{env:Env}(names:List (Str×NameKind))(x:Str) :
  (names.map λ(n,k)=>if(k==NameKind.free&&env.scope.kind==.function&&env.kindOf n==some .cell)then(n,NameKind.cell)else(n,k)).lookup x=
   (names.lookup x).map λk=>if(k==NameKind.free&&env.scope.kind==.function&&env.kindOf x==some .cell)then NameKind.cell else k:=by
 induction names with
 |nil=>rfl
 |cons p r ih=>
  obtain⟨n,k⟩:=p;refine(?_:List.lookup x ((if(k==NameKind.free&&env.scope.kind==.function&&env.kindOf n==some .cell)=true then(n,NameKind.cell)else(n,k))::_)=_);refine qQ (o:=x==n) (λhx=>?_) (λhx=>?_)
  ·haveI hxn:x=n:=by simpa using hx
   subst hxn;simp only [bg,hx,jG];by_cases hc:(k==NameKind.free&&env.scope.kind==.function&&env.kindOf x==some .cell)=true
   ·rw [if_pos hc,if_pos hc,bg,hx]
   ·rw [if_neg hc,if_neg hc,bg,hx]
  ·simp only [bg,hx];by_cases hc:(k==NameKind.free&&env.scope.kind==.function&&env.kindOf n==some .cell)=true
   ·rw [if_pos hc];simp only [bg,hx];exact ih
   ·rw [if_neg hc];simp only [bg,hx];exact ih
theorem pg(hn:∀p∈sc.names,sc.names.lookup p.1=some p.2)(hf:∀y,sc.names.lookup y=some .free->∃a,env.cells.lookup y=some a) :
  ∃cl,closureFor sc env=pure cl/\(∀y a,cl.lookup y=some a->env.cells.lookup y=some a)/\(∀y,sc.names.lookup y=some .free->cl.lookup y=env.cells.lookup y):=by
 haveI go:∀(names:List (Str×NameKind)) (acc:List (Str×Addr)),(∀p∈names,p.2=.free->∃a,env.cells.lookup p.1=some a)->(∀y a,acc.lookup y=some a->env.cells.lookup y=some a)->
   ∃cl,(forIn names acc λp cs=>(if(p.2==NameKind.free)=true then do let a <-cellOf env p.1;pure (ForInStep.yield ((p.1,a)::cs))else pure (ForInStep.yield cs):Sem _))=pure cl/\
    (∀y a,cl.lookup y=some a->env.cells.lookup y=some a)/\(∀p∈names,p.2=.free->∃a,cl.lookup p.1=some a)/\(∀y a,acc.lookup y=some a->∃a,cl.lookup y=some a):=by
  intro names
  induction names with
  |nil=>exact λacc _ h2=>⟨acc,rfl,h2,by simp,λy a e=>⟨a,e⟩⟩
  |cons p r ih=>
   intro acc h1 h2;by_cases hp:p.2=.free
   ·refine dM (h1 p (.head _) hp) λa ha=>?_;haveI h2':∀y b,((p.1,a)::acc).lookup y=some b->env.cells.lookup y=some b:=λy b e=>by
     simp only [bg]at e;refine qQ (o:=y==p.1) (λhy=>?_) (λhy=>?_)
     ·rw [hy]at e;simp only [iF]at e;subst e;rw [beq_iff_eq]at hy;exact(hy)▸ha
     ·rw [hy]at e;exact h2 y b e
    refine dB (ih ((p.1,a)::acc) (λq hq=>h1 q (.tail _ hq)) h2') ?_;intro cl e1 e2 e3 e4;refine⟨cl,?_,e2,λq hq hqf=>?_,λy b e=>?_⟩
    ·rw [List.forIn_cons];simp only [hp,BEq.rfl,if_true,cellOf,ha];exact e1
    ·refine eC hq (λe_=>?_) λhq=>?_
     ·exact e_▸e4 p.1 a (by simp [bg])
     ·exact e3 q hq hqf
    ·by_cases hy:y=p.1
     ·subst hy;exact e4 p.1 a (by simp [bg])
     ·exact e4 y b (by simp only [bg,show(y==p.1)=false by simpa using hy];exact e)
   ·refine dB (ih acc (λq hq=>h1 q (.tail _ hq)) h2) ?_;intro cl e1 e2 e3 e4;refine⟨cl,?_,e2,λq hq hqf=>?_,e4⟩
    ·rw [List.forIn_cons];haveI:(p.2==NameKind.free)=false:=by simpa using hp
     simp only [this,p9,if_false];exact e1
    ·refine eC hq (λe_=>?_) λhq=>?_
     ·replace e_:=Eq.symm e_;subst e_;exact absurd hqf hp
     ·exact e3 q hq hqf
 refine dB (go sc.names [] (λp hp hpf=>hf p.1 (by simp only [hn p hp,hpf])) (by simp)) ?_;intro cl e1 e2 e3 _;refine⟨cl,?_,e2,λy hy=>?_⟩
 ·dsimp only [closureFor];simp only [bind_pure_comp]at e1 ⊢
  first
   |(rw [e1];rfl)
   |(simp only [bind_pure_comp];erw [e1];rfl)
 ·refine dM (e3 (y,.free) (mem_of_lookup hy) rfl) λa ha=>?_;simp only [ha,e2 y a ha]
structure Ls(c:Cx)(env:Env)(tab:List (Str×Nat))(as₀:dH)(h₀:HP)(X:List Addr)(I C D:Addr):Prop where
 ic:I≠C
 id:I≠D
 cd:C≠D
 bi:c.base.get? I=none
 bc:c.base.get? C=none
 bd:c.base.get? D=none
 hi:Fr as₀ h₀ I
 hc:Fr as₀ h₀ C
 hd:Fr as₀ h₀ D
 dx:D∉X
 cx:C∉X
 aw:rN [I,C,D] env tab
theorem Ls.cnt{Q:Addr->Prop}(W:Ls c env tab as₀ h₀ X I C D)(k:∀b,2<=X.count b->Q b\/Fr as₀ h₀ b):∀b,2<=(I::C::D::X).count b->Q b\/Fr as₀ h₀ b:=M4 (.inr W.hi) (M4 (.inr W.hc) (M4 (.inr W.hd) k))
theorem Ls.fr(W:Ls c env tab as₀ h₀ X I C D):∀a∈[I,C,D],Fr as₀ h₀ a:=d0 W.hi (d0 W.hc (d0 W.hd qA))
theorem HR(b:Addr):X.count b<=(I::C::D::X).count b:=aa cg (aa cg cg)
structure Lp(c:Cx)(T:Tb)(env:Env)(as₀:dH)(h₀:HP)(X:List Addr)(ρ:Fm)(I C D:Addr)(v:V)(y:Value)(k:Nat)(acc:List V)(arr:Array Value)(s:Shared)(as:dH)(H:AH):Prop where
 S:SR c as (I::C::D::X) H s
 F:FR c as (I::C::D::X) s.heap env T.tab ρ
 hv:VR c as (I::C::D::X) s.heap v y
 hi:ItC s.heap I v y k
 hD:s.heap.PlainList D arr
 hacc:VRs c as (I::C::D::X) s.heap acc arr.toList
 hl:acc.length<=k
 hC:∃m,s.heap.Ns C m
 oi:I∉as
 oc:C∉as
 od:D∉as
 E:Ext as₀ h₀ as
 K:Kept as₀ (I::C::D::X) h₀ s.heap
section
variable {c:Cx}{T:Tb}{env:Env}{as₀:dH}{h₀:HP}{X:List Addr}{ρ:Fm}{I C D:Addr}{v:V}{y:Value}{k:Nat}{acc:List V}{arr:Array Value}{s:Shared}{as:dH}{H:AH}
theorem Lp.eval(L:Lp c T env as₀ h₀ X ρ I C D v y k acc arr s as H)(e:Ext as s.heap as')(kp:Kept as (I::C::D::X) s.heap s'.heap)(S:SR c as' (I::C::D::X) H' s'):Lp c T env as₀ h₀ X ρ I C D v y k acc arr s' as' H' where
 S:=S
 F:=L.F.keep kp e
 hv:=L.hv.keep kp e
 hi:=L.hi.at λo q hc=>kp.get q L.oi hc
 hD:=by obtain⟨n,q⟩:=L.hD;exact⟨n,kp.get q L.od (by simp)⟩
 hacc:=L.hacc.keep kp e
 hl:=L.hl
 hC:=by obtain⟨m,q⟩:=L.hC;exact⟨m,Ns.same q λo e=>kp _ o e L.oc⟩
 oi:=by refine dM (L.hi.here) λo q_=>cY q_ λq _=>?_;exact e.out q L.oi
 oc:=by obtain⟨m,o,_,_,q,_⟩:=L.hC;exact e.out q L.oc
 od:=by obtain⟨n,q⟩:=L.hD;exact e.out q L.od
 E:=L.E.trans L.K e
 K:=L.K.trans L.E kp
theorem Lp.but{s':Shared}{Z:List Addr}(W:Ls c env T.tab as₀ h₀ X I C D)(L:Lp c T env as₀ h₀ X ρ I C D v y k acc arr s as H)(b:But Z s.heap s'.heap)(hZ:∀a∈Z,a∈[I,C,D]) :
  VK as (I::C::D::X) s.heap s'.heap/\FR c as (I::C::D::X) s'.heap env T.tab ρ/\Kept as₀ (I::C::D::X) h₀ s'.heap:=by
 haveI hI:∀a∈Z,a∈I::C::D::X:=λa ha=>aI X (hZ a ha);exact⟨b.vk as hI,L.F.keepY (Y:=Z) (b.kept as _) hI ⟨λq=>W.aw.1 (hZ _ q),λx i h1 h2 a e q=>W.aw.2 x i h1 h2 a e (hZ _ q)⟩,L.K.but b λa ha=>W.fr a (hZ a ha)⟩
theorem Lp.next{h':HP}{tk:Nat}(W:Ls c env T.tab as₀ h₀ X I C D)(L:Lp c T env as₀ h₀ X ρ I C D v y k acc arr s as H)(b:But [I] s.heap h')(hv:VR c as (I::C::D::X) h' v y)(hi:ItC h' I v y (k+1))
  (S:SR c as (I::C::D::X) H {s with heap:=h',toks:=tk}):Lp c T env as₀ h₀ X ρ I C D v y (k+1) acc arr {s with heap:=h',toks:=tk} as H:=
 dQ (L.but (s':={s with heap:=h',toks:=tk}) W b (dz (.head _))) λb1 b2 b3=>
 ⟨S,b2,hv,hi,L.hD.imp λn q=>b _ _ (s6 (Ne.symm W.id)) q,L.hacc.keepX b1 (.refl ..),Nb L.hl,L.hC.imp λm q=>Ns.same (X:=[]) q λo e=>⟨o,b _ _ (s6 (Ne.symm W.ic)) e,.inl rfl⟩,L.oi,L.oc,L.od,L.E,b3⟩
theorem Lp.store{h':HP}{tk:Nat}{m:Str->Option Value}(W:Ls c env T.tab as₀ h₀ X I C D)(L:Lp c T env as₀ h₀ X ρ I C D v y k acc arr s as H)(b:But [C] s.heap h')(hm:h'.Ns C m) :
  Lp c T env as₀ h₀ X ρ I C D v y k acc arr {s with heap:=h',toks:=tk} as H:=
 dQ (L.but (s':={s with heap:=h',toks:=tk}) W b (dz (.tail _ (.head _)))) λb1 b2 b3=>
 ⟨L.S.but (s':={s with heap:=h',toks:=tk}) b (dz ⟨.tail _ (.head _),W.bc⟩) (λ_ q=>q) (λa ha hz=>in1 hz▸lh hm λo _ _ e _=>⟨o,e⟩) rfl rfl,b2,L.hv.keepX b1 (.refl ..),L.hi.at λo e _=>b _ _ (s6 W.ic) e,L.hD.imp λn q=>b _ _ (s6 (Ne.symm W.cd)) q,L.hacc.keepX b1 (.refl ..),L.hl,⟨m,hm⟩,L.oi,L.oc,L.od,L.E,b3⟩
theorem Lp.push{h':HP}{z:V}{zc:Value}(W:Ls c env T.tab as₀ h₀ X I C D)(L:Lp c T env as₀ h₀ X ρ I C D v y k acc arr s as H)(b:But [D] s.heap h')(hp:h'.PlainList D (arr.push zc))(hz:VR c as (I::C::D::X) s.heap z zc)(hl:acc.length+1<=k) :
  Lp c T env as₀ h₀ X ρ I C D v y k (acc++[z]) (arr.push zc) {s with heap:=h'} as H:=
 dQ (L.but (s':={s with heap:=h'}) W b (dz (.tail _ (.tail _ (.head _))))) λb1 b2 b3=>
 ⟨L.S.but (s':={s with heap:=h'}) b (dz ⟨.tail _ (.tail _ (.head _)),W.bd⟩) (λ_ q=>q) (λa ha hz=>in1 hz▸hp.elim λn e=>⟨_,e⟩) rfl rfl,b2,L.hv.keepX b1 (.refl ..),L.hi.at λo e _=>b _ _ (s6 W.id) e,hp,by simp only [Nc];exact(L.hacc.keepX b1 (.refl ..)).append (.cons (hz.keepX b1 (.refl ..)) .nil),aa (au ah) hl,L.hC.imp λm q=>Ns.same (X:=[]) q λo e=>⟨o,b _ _ (s6 W.cd) e,.inl rfl⟩,L.oi,L.oc,L.od,L.E,b3⟩
theorem Lp.rdy{A:Around}{n:Nat}{x:Str}{sc:Scope}{cl:List (Str×Addr)}{u:V}{uc:Value}{m:Str->Option Value}(W:Ls c env T.tab as₀ h₀ X I C D)(L:Lp c T env as₀ h₀ X ρ I C D v y k acc arr s as H)(a:AOk c A n)(fr:EnvFr c A X as₀ h₀ env)(K:KOk T env)(hlen:ρ.length=T.n)
  (ok:CompF T x sc)(hcl:∀y a,cl.lookup y=some a->env.cells.lookup y=some a)(hcl':∀y,sc.names.lookup y=some .free->cl.lookup y=env.cells.lookup y)(hm:s.heap.Ns C m)(hmx:m x=some uc)(hu:VR c as (I::C::D::X) s.heap u uc) :
  Rdy c {T with names:=sc.names,tab:=(x,T.n)::T.tab,n:=T.n+1} (compEnvC sc cl C env) A n s as (I::C::D::X) H (ρ++[some u]):=by
 haveI kind:∀y,(compEnvC sc cl C env).kindOf y=(sc.names.lookup y).map λk=>if(k==NameKind.free&&env.scope.kind==.function&&env.kindOf y==some .cell)then NameKind.cell else k:=λy=>oy sc.names y;have notcell:∀y,sc.names.lookup y≠some .cell:=λy e=>ok.nocell _ (mem_of_lookup e) rfl;have kfree:∀y,((compEnvC sc cl C env).kindOf y=some .cell\/(compEnvC sc cl C env).kindOf y=some .free)->sc.names.lookup y=some .free:=λy e=>by
  rw [kind]at e;refine fS (o:=sc.names.lookup y) (λhq=>?_) (λkk hq=>?_)
  ·replace e:=hq▸e;simp at e
  ·rw [hq];replace e:=hq▸e
   induction kk with
   |free=>rfl
   |cell=>exact absurd hq (notcell y)
   |_=>simp at e
 have kloc:∀y,(compEnvC sc cl C env).kindOf y=some .local->sc.names.lookup y=some .local:=λy e=>by
  rw [kind]at e;refine fS (o:=sc.names.lookup y) (λhq=>?_) (λkk hq=>?_)
  ·simp only [hq]at e;exact fm e
  ·rw [hq];rw [hq]at e
   induction kk with
   |«local»=>rfl
   |free=>simp only [jG,iF]at e;split at e<;>cases e
   |_=>cases e
 refine⟨a,L.S,?_,?_,?_,((fr.grow (.refl _) HR).keep L.E L.K).env rfl⟩
 ·refine ⟨ok.kind,L.F.glob,L.F.bi,by simp [compEnvC],L.oc,W.bc,⟨m,hm,λz i h1 h2=>?_⟩,λz i h1 h2=>?_,λz z' b h1 h2=>L.F.apart z z' b (hcl _ _ h1) (hcl _ _ h2),λz z' i h1 h2=>?_⟩
  ·haveI hz:=ok.loc z (kloc z h2);haveI hzx:z=x:=by
    refine Or.elim hz (λhz=>?_) λhz=>?_
    ·exact hz
    ·simp only [bg]at h1;refine qQ (o:=z==x) (λhb=>?_) (λhb=>?_)
     ·simpa using hb
     ·replace h1:=hb▸h1;simp only at h1;replace h1:=hz.symm.trans h1;exact fm h1
   subst hzx;simp only [bg,BEq.rfl,iF]at h1;subst h1;simp only [hmx,<-hlen];intro w ew;simp at ew;subst ew;exact⟨uc,rfl,hu⟩
  ·haveI hz:=kfree z h2;refine dQ (ok.free z hz) ?_;intro h3 p_2 h5;refine dM p_2 λj h4=>?_;have hzi:T.tab.lookup z=some i:=by simp only [bg,show(z==x)=false by simpa using h5]at h1;exact h1
   have hek:env.kindOf z=some .cell\/env.kindOf z=some .free:=by
    refine Or.elim h3 (λh3=>?_) λh3=>?_
    ·exact .inl (K.cell z h3)
    ·refine Or.elim (K.free z h3) (λq=>?_) λq=>?_
     ·exact .inr q
     ·exact .inl q
   refine lj (L.F.cells z i hzi hek) ?_;intro a yy e1 e2 e3 e4 e5 e6 e7;haveI hi:=ok.tabs z i hzi;refine⟨a,yy,(hcl' z hz).trans e1,e2,e3,e4,λq=>W.aw.2 z i hzi hek a e1 (by simp only [q];simp [compEnvC]),e6,?_⟩;rw [bt (j1 hi hlen.symm)];exact e7
  ·rw [bg]at h1 h2;refine qQ (o:=z==x) (λhb=>?_) (λhb=>?_)
   ·cases hb':z'==x with
    |true=>rw [beq_iff_eq]at hb hb';simp only [hb,hb']
    |false=>rw [hb]at h1;rw [hb']at h2;simp only [iF]at h1 h2;exact(c5 _ (j1 (ok.tabs _ _ h2) h1)).elim
   ·cases hb':z'==x with
    |true=>rw [hb]at h1;rw [hb']at h2;simp only [iF]at h1 h2;exact(c5 _ (j1 (ok.tabs _ _ h1) h2)).elim
    |false=>rw [hb]at h1;rw [hb']at h2;exact L.F.inj z z' i h1 h2
 ·refine ⟨λz hz=>?_,λz hz=>absurd hz (notcell z),λz hz=>?_,λz hz=>?_⟩
  ·rw [kind,hz];rfl
  ·rw [kind,hz];simp only [jG];split
   ·exact .inr rfl
   ·exact .inl rfl
  ·rw [kind,hz];rfl
 ·simp [hlen]
def sq(P:Prog)(Cs:Calls)(elt:Ex)(cond:Option Ex)(ρ:Fm)(XX:XE):V->AH->(Option V->AH->Prop)->Prop:=λx H' K=>match cond with
 |none=>cL P Cs elt (ρ++[some x]) H' (λy H''=>K (some y) H'') XX
 |some q=>cL P Cs q (ρ++[some x]) H' (λb H₂=>nT (gb b) λt=>if t then cL P Cs elt (ρ++[some x]) H₂ (λy H''=>K (some y) H'') XX else K none H₂) XX
theorem qV{Cs:Calls}{Q:QE}{XX:XE}{mu:Bool}{cond:Option Ex}:cL P Cs (.comp mu elt it cond) ρ H Q XX=cL P Cs it ρ H (λv H₁=>∃items,pY H₁ v=some items/\items.length<=aB/\
   kF (sq P Cs elt cond ρ XX) (λH'=>pY H' v=some items) items [] H₁ (λys H₂=>hM (if mu then kI (.lst ys) H₂ else some (.lst ys,H₂)) Q)) XX:=by
 cases cond<;>rfl
theorem qr{α:Type}{l:List α}{x:α}(h:l[k]? =some x):l.drop k=x::l.drop (k+1):=by obtain⟨h1,h2⟩:=af.mp h;simp only [List.drop_eq_getElem_cons h1,h2]
theorem ERes.nsC(r:ERes c as Y h XX x s')(hC:∃m,h.Ns C m)(oc:C∉as):∃m,s'.heap.Ns C m:=by obtain⟨k,H',as',e,t,ts,_,e',S,k',ex,ht,ap,w⟩:=r;obtain⟨m,n⟩:=hC;exact⟨m,Ns.same n λo e=>k' _ o e oc⟩
theorem Lp.small(L:Lp c T env as₀ h₀ X ρ I C D v y k acc arr s as H)(hk:k<=aB):arr.size<=sizeLine:=aa (au (bJ.symm.trans L.hacc.length.symm)) (aa L.hl (aa hk cz))
section
variable {A:Around}{n:Nat}{elt:Expr}{T':Tb}{env':Env}{b:Ex}{XX:XE}{u:V}{K:List V->AH->Prop}{J:Shared->Prop}{E':Value->Shared->Prop}
  (W:Ls c env T.tab as₀ h₀ X I C D)(he:SE c n T' elt b)(hk:k<=aB)(hl:acc.length+1<=k)
  (hJ:∀{acc:List V} {arr:Array Value} {s:Shared} {as:dH} {H:AH},Lp c T env as₀ h₀ X ρ I C D v y k acc arr s as H->K acc H->J s)
  (hE:∀x s',ERes c as₀ (I::C::D::X) h₀ XX x s'->(∃m,s'.heap.Ns C m)->E' x s')
  (L:Lp c T env as₀ h₀ X ρ I C D v y k acc arr s as H)(r:Rdy c T' env' A n s as (I::C::D::X) H (ρ++[some u]))
include W he hk hl hJ hE L r
theorem tL(w:cL c.P (aQ c.P n) b (ρ++[some u]) H (λy H''=>K (acc++[y]) H'') XX) :
  wpAny c.M A (eval elt env') (λx s₄=>wpAny c.M A (call (.builtin "list.append") [.ref D,x]) (λ_ s₅=>J s₅) E' s₄) E' s:=
 wpAny_mono (he.run r w) (λzc s₄ q=>by
  obtain⟨zv,H₄,as₄,e₄,S₄,k₄,hz₄,w₄⟩:=q;exact wpAny_list_append_plain (hsz:=(L.eval e₄ k₄ S₄).small hk) (L.eval e₄ k₄ S₄).hD λh₅ hp₅ hs₅=>hJ ((L.eval e₄ k₄ S₄).push W (λq o hq e=>(hs₅.2 q (Cg hq)).trans e) hp₅ hz₄ hl) w₄)
  λ_ _ e=>hE _ _ (e.lift L.E L.K) (e.nsC L.hC L.oc)
theorem xC{ifs:List Expr}{cond:Option Ex}(hc:(ifs=[]/\cond=none)\/∃t q,ifs=[t]/\cond=some q/\ST c n T' t q)(w:sq c.P (aQ c.P n) b cond ρ XX u H (λr H'=>K (match r with|some x=>acc++[x]|none=>acc) H')) :
  wpAny c.M A (forIn ifs true λc r=>if r=true then do let ok <-isTrue c env' (eval c env');pure (ForInStep.yield ok)else pure (ForInStep.yield r)) (λok s₃=>if ok=true then wpAny c.M A (eval elt env') (λx s₄=>wpAny c.M A (call (.builtin "list.append") [.ref D,x]) (λ_ s₅=>J s₅) E' s₄) E' s₃ else J s₃) E' s:=by
 refine Or.elim hc (λh=>?_) λh=>di h λt q h1 h2 ht=>?_
 ·(refine cY h λe_0 e_1=>?_;cases e_0;subst e_1)
  exact wpAny_tests_nil (tL W he hk hl hJ hE L r w)
 ·subst h1;subst h2;refine wpAny_tests_one (wpAny_mono (ht.run (Q:=λt H₂=>if t then cL c.P (aQ c.P n) b (ρ++[some u]) H₂ (λy H''=>K (acc++[y]) H'') XX else K acc H₂) (λ_ _ q=>q) r w) (λbb s₃ q=>?_) λ_ _ e=>hE _ _ (e.lift L.E L.K) (e.nsC L.hC L.oc));obtain⟨H₃,as₃,e₃,S₃,k₃,w₃⟩:=q
  induction bb with
  |true=>exact tL W he hk hl hJ hE (L.eval e₃ k₃ S₃) (r.next e₃ k₃ S₃) w₃
  |false=>exact hJ (L.eval e₃ k₃ S₃) w₃
end
def CI(c:Cx)(T:Tb)(env:Env)(as₀:dH)(h₀:HP)(X:List Addr)(ρ:Fm)(I C D:Addr)(v:V)(y:Value)(items:List V)(F:V->AH->(Option V->AH->Prop)->Prop)(QQ:List V->AH->Prop)(m:Nat)(s:Shared):Prop:=
 ∃k acc arr as H,m=items.length-k/\k<=items.length/\Lp c T env as₀ h₀ X ρ I C D v y k acc arr s as H/\kF F (λH'=>pY H' v=some items) (items.drop k) acc H QQ
theorem xt{n:Nat}{x:Str}{px:Pos}{elt iter:Expr}{ifs:List Expr}{sc:Scope}{pos:Pos}{cl:List (Str×Addr)}{cond:Option Ex}{XX:XE}{QQ:List V->AH->Prop}{R:Result->Shared->Prop}
  (W:Ls c env T.tab as₀ h₀ X I C D)(a:AOk c A n)(fr:EnvFr c A X as₀ h₀ env)(K:KOk T env)(hlen:ρ.length=T.n)
  (ok:CompF T x sc)(hcl:∀y a,cl.lookup y=some a->env.cells.lookup y=some a)(hcl':∀y,sc.names.lookup y=some .free->cl.lookup y=env.cells.lookup y)
  (he:SE c n {T with names:=sc.names,tab:=(x,T.n)::T.tab,n:=T.n+1} elt b)
  (hc:(ifs=[]/\cond=none)\/∃t q,ifs=[t]/\cond=some q/\ST c n {T with names:=sc.names,tab:=(x,T.n)::T.tab,n:=T.n+1} t q)
  (hsz:items.length<=aB)
  (L:Lp c T env as₀ h₀ X ρ I C D v y k acc arr s as H)
  (w:kF (sq c.P (aQ c.P n) b cond ρ XX) (λH'=>pY H' v=some items) (items.drop k) acc H QQ)(hk:k<=items.length)
  (hR:∀k' acc' arr' s' as' H' tk h',Lp c T env as₀ h₀ X ρ I C D v y k' acc' arr' s' as' H'->k'<=items.length->But [I] s'.heap h'->QQ acc' H'->R (.ok .next) {s' with heap:=h',toks:=tk})
  (hX:∀x s',ERes c as₀ (I::C::D::X) h₀ XX x s'->Ch x s'.heap->(∃m,s'.heap.Ns C m)->R (.error x) s') :
  codeAny c.M A (.compLoop (.ListComp elt [⟨.Name x px,iter,ifs,0⟩] sc pos) 0 (.ref I) (.ref D) (compEnvC sc cl C env)) R s:=by
 refine codeAny_compLoop_tests (CI c T env as₀ h₀ X ρ I C D v y items (sq c.P (aQ c.P n) b cond ρ XX) QQ) (λm s h0=>?_) (items.length-k) ⟨k,acc,arr,as,H,rfl,hk,L,w⟩;clear L w hk;refine Fp h0 λk acc arr as H q_0 hk L w=>?_;clear h0;subst q_0;refine fS (o:=items[k]?) (λhx=>?_) λu hx=>?_
 ·have hkl:items.length=k:=mQ (yp.mp hx) hk;replace w:=(Eu (au hkl))▸w;exact wB a.hh L.S (.head _) L.hv L.hi w.1 hkl λh' tk hb=>hR k acc arr s as H tk h' L hk hb w.2
 ·have hlt:=(af.mp hx).1;rw [qr hx]at w;refine vO a.hh L.S (.head _) W.bi L.hv L.hi w.1 hx λz h₁ tk₁ b₁ hu₁ hv₁ hi₁ S₁=>?_;haveI L₁:=L.next W b₁ hv₁ hi₁ S₁
  refine L₁.hC.elim λm hm=>wpAny_assign_Name (wpAny_storeName_local (lookup_relabel_local ok.hx) hm (λh₂ hm₂ hs₂=>?_) (by show(sc.kind==.class||(sc.kind==.module&&_))=false;rw [ok.kind];rfl));haveI b₂:But [C] h₁ h₂:=λq o hq e=>(hs₂.2 q (Cg hq)).trans e;haveI L₂:=L₁.store (tk:=tk₁+1) W b₂ hm₂;exact xC W he (aa hlt hsz) (aA L.hl) (λL' w'=>⟨items.length-(k+1),JA hlt (da k),k+1,_,_,_,_,rfl,hlt,L',w'⟩)
   (λx s' er hm=>hm.elim λm hm=>er.note (λas' _ _ e k _ _=>((fr.grow (.refl _) HR).keep e k).env rfl) λs'' er' tr d=>hX x s'' er' tr ⟨m,d.ns hm⟩)
   L₂ (L₂.rdy W a fr K hlen ok hcl hcl' hm₂ (by simp) (hu₁.keepX (b₂.vk as (dz (.tail _ (.head _)))) (.refl ..))) hc w.2
end
theorem SR.opens(x:SR c as X H s)(g:Grown s.heap s'.heap)(hX:∀b∈Y,b∈X\/s.heap.get? b=none)(hx:∀b∈Y,∃o,s'.heap.get? b=some o)(hg:s'.gens=s.gens)(ho:s'.os=s.os):SR c as Y H s' where
 len:=x.len
 stays:=λb o e=>g b o (x.stays b o e)
 gens:=hg.trans x.gens
 os:=ho.trans x.os
 objs:=λi a e=>by
  refine dQ (x.objs i a e) ?_;intro h1 h2 r_3;refine av r_3 ?_;intro o h3 h4;obtain⟨ob,hob⟩:=h4.here;haveI hy:∀b o,s.heap.get? b=some o->b∉X->b∉Y:=λb o e hb q=>by
   refine Or.elim (hX b q) (λr=>?_) λr=>?_
   ·exact hb r
   ·exact fm (r.symm.trans e)
  exact⟨h1,hy _ _ hob h2,o,h3,(h4.frames hy).keepX (g.kept as Y).x λob e=>g _ _ e⟩
 inj:=x.inj
 xs:=hx
theorem FR.opens(F:FR c as X h env tab ρ)(g:Grown h h')(hXY:∀b∈X,b∈Y)(hX:∀b∈Y,b∈X\/h.get? b=none):FR c as Y h' env tab ρ:=
 (F.frames hXY λb o e hb q=>by
  refine Or.elim (hX b q) (λr=>?_) λr=>?_
  ·exact hb r
  ·exact fm (r.symm.trans e)).keep (g.kept as Y) (.refl ..)
theorem VR.opens(F:VR c as X h v y)(g:Grown h h')(hX:∀b∈Y,b∈X\/h.get? b=nI):VR c as Y h' v y:=
 (F.frames λb o e hb q=>by
  refine Or.elim (hX b q) (λr=>?_) λr=>?_
  ·exact hb r
  ·exact fm (r.symm.trans e)).grow g
theorem wY{as:dH}{X Y:List Addr}{a:Addr}{h:HP}(ha:a∈X)(hY:∀b∈Y,b∈X):∀b (o:Obj),b∉as->b∉X->h.get? b=some o->b∉as++[a]/\b∉Y/\h.get? b=some o:=λb o h1 h2 h3=>⟨ID h1 λq=>h2 (q▸ha),λq=>h2 (hY _ q),h3⟩
theorem VR.adopt{c:Cx}{as:dH}{X Y:List Addr}{h:HP}{a:Addr}(ha:a∈X)(hY:∀b∈Y,b∈X){v:V}{y:Value}(r:VR c as X h v y):VR c (as++[a]) Y h v y:=VR.gen (wY ha hY) (λ_ _ e=>dt e) r
theorem VRs.adopt{c:Cx}{as:dH}{X Y:List Addr}{h:HP}{a:Addr}(ha:a∈X)(hY:∀b∈Y,b∈X){v:List V}{y:List Value}(r:VRs c as X h v y):VRs c (as++[a]) Y h v y:=VRs.gen (wY ha hY) (λ_ _ e=>dt e) r
theorem OR.adopt(ha:a∈X)(hY:∀b∈Y,b∈X)(x:OR c as X h b o):OR c (as++[a]) Y h b o:=by
 induction o with
 |list vs=>refine cY x λhb q_=>dM q_ λitems q_=>cY q_ λhp r=>?_;exact⟨hb,items,hp,r.adopt ha hY⟩
 |dict ks vs=>obtain⟨hb,hsm,cs,hd,hl,r⟩:=x;exact⟨hb,hsm,cs,hd,hl,r.adopt ha hY⟩
 |inst k d=>obtain⟨dx,ob,e1,r0,r1,r2,r3⟩:=x;exact⟨dx,ob,dt e1,r0,r1,r2,r3⟩
 |ns ks vs=>obtain⟨hb,cs,mA,hn,hl,r,hm⟩:=x;exact⟨hb,cs,mA,hn,hl,r.adopt ha hY,hm⟩
theorem SR.adopt(S:SR c as X H s)(ha:a∈X)(hb:c.base.get? a=none)(hY:∀b∈Y,b∈X)(haY:a∉Y)(ho:OR c (as++[a]) Y s.heap a o):SR c (as++[a]) Y (H++[o]) s where
 len:=by simp only [ah,ah,S.len];rfl
 stays:=S.stays
 gens:=S.gens
 os:=S.os
 objs:=λi b e=>(im e).elim (λe=>dQ (S.objs i b e) λh1 h2 r=>av r λob h3 h4=>⟨h1,λq=>h2 (hY _ q),ob,dt h3,h4.adopt ha hY⟩) λq=>by
  (refine cY q λe_0 e_1=>?_;subst e_0;(replace e_1:=Eq.symm e_1;subst e_1))
  exact⟨hb,haY,o,by exact(S.len)▸cP,ho⟩
 inj:=λi j b e1 e2=>by haveI hne:∀{i:Nat},as[i]? =some b->b≠a:=λe q=>(S.objs _ _ e).2.1 (q▸ha);exact(im e1).elim (λh1=>(im e2).elim (S.inj i j b h1) λh2=>absurd h2.2 (hne h1)) λh1=>(im e2).elim (λh2=>absurd h1.2 (hne h2)) λh2=>h1.1.trans h2.1.symm
 xs:=λb hb=>S.xs b (hY b hb)
theorem OVR.adopt(ha:a∈X)(hY:∀b∈Y,b∈X)(z:OVR c as X h o y):OVR c (as++[a]) Y h o y:=
 λv e=>(z v e).imp λ_ q=>⟨q.1,q.2.adopt ha hY⟩
theorem FR.narrow(F:FR c as X h env tab ρ)(hY:∀b∈Y,b∈X)(hZ:∀b∈X,b∈Y\/b∈Z)(aw:rN Z env tab):FR c as Y h env tab ρ where
 kind:=F.kind
 glob:=F.glob
 bi:=F.bi
 lx:=(hZ _ F.lx).resolve_right aw.1
 lout:=F.lout
 lb:=F.lb
 ns:=by refine av F.ns ?_;intro m n r;exact⟨m,n,λy i h1 h2=>(r y i h1 h2).frames λb _ _ hb q=>hb (hY _ q)⟩
 cells:=λy i h1 h2=>by refine lj (F.cells y i h1 h2) ?_;intro a z e1 e2 e3 e4 e5 e6 e7;exact⟨a,z,e1,(hZ _ e2).resolve_right (aw.2 y i h1 h2 a e1),e3,e4,e5,e6,e7.frames λb _ _ hb q=>hb (hY _ q)⟩
 apart:=F.apart
 inj:=F.inj
theorem FR.adopt(F:FR c as X h env tab ρ)(ha:a∈X)(hY:∀b∈Y,b∈X)(hZ:∀b∈X,b∈Y\/b∈Z)(aw:rN Z env tab)(haZ:a∈Z):FR c (as++[a]) Y h env tab ρ where
 kind:=F.kind
 glob:=F.glob
 bi:=F.bi
 lx:=(hZ _ F.lx).resolve_right aw.1
 lout:=ID F.lout λq=>aw.1 (q▸haZ)
 lb:=F.lb
 ns:=by refine av F.ns ?_;intro m n r;exact⟨m,n,λy i h1 h2=>(r y i h1 h2).adopt ha hY⟩
 cells:=λy i h1 h2=>by refine lj (F.cells y i h1 h2) ?_;intro a' z e1 e2 e3 e4 e5 e6 e7;have hz:=aw.2 y i h1 h2 a' e1;exact⟨a',z,e1,(hZ _ e2).resolve_right hz,ID e3 λq=>hz (q▸haZ),e4,e5,e6,e7.adopt ha hY⟩
 apart:=F.apart
 inj:=F.inj
theorem Dg{E:Value->Shared->Prop}{Q:Value->Shared->Prop}(hi:ItC s.heap I v y k)(h:Q (.ref I) s):wpAny (model prog w) A (pyIter (.ref I)) Q E s:=by
 cases v<;>try exact hi.elim
 ·obtain ⟨x,t,_,h1|h1⟩:=hi
  ·exact wpAny_pyIter_striter_ascii h1 h
  ·exact wpAny_pyIter_striter_wide h1 h
 ·refine av hi ?_;intro a _ h1;exact wpAny_pyIter_tupleiter h1 h
 ·refine av hi ?_;intro a _ h1;exact wpAny_pyIter_listiter h1 h
 ·exact wpAny_pyIter_rangeiter hi h
 ·refine av hi ?_;intro a _ h1;exact wpAny_pyIter_listiter h1 h
def ResC(c:Cx)(as:dH)(X:List Addr)(h:HP)(env:Env)(tab:List (Str×Nat))(ρ:Fm)(C:Addr)(Q:QE)(x:Value)(s':Shared):Prop:=
 ∃v H' as',Ext as h as'/\SR c as' (C::X) H' s'/\Kept as X h s'.heap/\VR c as' (C::X) s'.heap v x/\Q v H'/\FR c as' (C::X) s'.heap env tab ρ
theorem Res.drop(r:Res c as (C::X) h Q x s')(hC:Fr as h C)(hb:c.base.get? C=none)(hX:C∉X)(hs:fX C s'.heap h'):Res c as X h Q x {s' with heap:=h'}:=by
 obtain⟨v,H',as',e,S,k,hv,q⟩:=r;haveI b:But [C] s'.heap h':=λq o hq e=>(hs.2 q (by exact Cg hq)).trans e;exact⟨v,H',as',e,S.but (s':={s' with heap:=h'}) b (by simpa using hb) (λ_ q=>.tail _ q) (λa ha hz=>by replace hz:=in1 hz;(replace hz:=Eq.symm hz;subst hz);exact(hX ha).elim) rfl rfl,(k.but b (by exact dz hC)).less (λa ha=>(x9 ha).elim (λq=>.inr (q▸hC)) .inl),
  (hv.keepX (b.vk as' (by exact dz (.head _))) (.refl ..)).frames λb _ _ hb q=>hb (.tail _ q),q⟩
section
variable {c:Cx}{T:Tb}{env:Env}{X:List Addr}{ρ:Fm}{s:Shared}{as:dH}{H:AH}{E:Value->Shared->Prop}
theorem oB{A:Around}{n:Nat}{x:Str}{px:Pos}{elt iter:Expr}{ifs:List Expr}{sc:Scope}{pos:Pos}{cl:List (Str×Addr)}{b:Ex}{cond:Option Ex}{XX:XE}{mu:Bool}{Q:QE}{RR:Value->Addr->Result->Shared->Prop}
  {v:V}{y:Value}{s₁:Shared}{as₁:dH}{H₁:AH}
  (R:Rdy c T env A n s as X H ρ)
  (ok:CompF T x sc)(hcl:∀y a,cl.lookup y=some a->env.cells.lookup y=some a)(hcl':∀y,sc.names.lookup y=some .free->cl.lookup y=env.cells.lookup y)
  (he:SE c n {T with names:=sc.names,tab:=(x,T.n)::T.tab,n:=T.n+1} elt b)
  (hc:(ifs=[]/\cond=none)\/∃t q,ifs=[t]/\cond=some q/\ST c n {T with names:=sc.names,tab:=(x,T.n)::T.tab,n:=T.n+1} t q)
  (e1:Ext as s.heap as₁)(k1:Kept as X s.heap s₁.heap)(S1:SR c as₁ X H₁ s₁)(hv:VR c as₁ X s₁.heap v y)
  (w:∃items,pY H₁ v=some items/\items.length<=aB/\kF (sq c.P (aQ c.P n) b cond ρ XX) (λH'=>pY H' v=some items) items [] H₁ (λys H₂=>hM (if mu then kI (.lst ys) H₂ else some (.lst ys,H₂)) Q))
  (hRR:∀D C s',Fr as s.heap C->C∉X->c.base.get? C=none->(∃m,s'.heap.Ns C m)->ResC c as X s.heap env T.tab ρ C Q (.ref D) s'->RR (.ref D) C (.ok .next) s')
  (hRX:∀D C x s',Fr as s.heap C->C∉X->c.base.get? C=none->(∃m,s'.heap.Ns C m)->ERes c as (C::X) s.heap XX x s'->Ch x s'.heap->RR (.ref D) C (.error x) s') :
  wpAny c.M A (pyIter y) (λit s₂=>wpAny c.M A (newList []) (λacc s₃=>wpAny c.M A (newFunctionEnv sc env.globals cl [] env.qual none .none (some env)) (λcenv s₄=>codeAny c.M A (.compStart (.ListComp elt [⟨.Name x px,iter,ifs,0⟩] sc pos) 0 it acc {cenv with scope:=relabel sc env}) (RR acc cenv.locals) s₄) E s₃) E s₂) E s₁:=by
 refine c7 w ?_;intro items hsrc hsz w;refine sj S1 hv hsrc λo hi=>?_;refine wpAny_newObj_type (wpAny_newFunctionEnv ok.nocell (by intro y hy;simp at hy) (λh₁ hns₁ hsb₁=>?_) ok.kind);dsimp only at hns₁ hsb₁ ⊢;generalize hI:s₁.heap.objs.size=I at hi ⊢;have hfI:s₁.heap.get? I=none:=hI▸dy _;generalize hH1:s₁.heap.push o=G1 at hi hns₁ hsb₁ ⊢;have gI:Grown s₁.heap G1:=hH1▸.push _ _;generalize hD:G1.objs.size=D at hns₁ hsb₁ ⊢;have hfD:G1.get? D=none:=hD▸dy _;generalize hH2:G1.push {cls:=.type "list",dict:=none,data:=.seq ([]:List Value).toArray}=G2 at hns₁ hsb₁ ⊢;have gD:Grown G1 G2:=hH2▸.push _ _;have hlD:G2.get? D=some {cls:=.type "list",dict:=none,data:=.seq ([]:List Value).toArray}:=by rw [<-hH2,<-hD];exact ba _ rfl
 generalize hC:G2.objs.size=C at hns₁ hsb₁ ⊢;have hfC:G2.get? C=none:=hC▸dy _;have g3:Grown G2 h₁:=λq o e=>hsb₁.extBut q o (λh=>by(replace h:=Eq.symm h;subst h);replace e:=hfC.symm.trans e;exact fm e) (bG _ e);refine av hi.here λoI eI _=>?_;haveI hID:=zL eI hfD;have hIC:=zL (gD _ _ eI) hfC;haveI hCD:=(zL hlD hfC).symm;have fC:=gI.none (gD.none hfC);haveI fD:=gI.none hfD;have g13:=(gI.trans gD).trans g3;haveI hX':∀b∈I::C::D::X,b∈X\/s₁.heap.get? b=none:=d0 (.inr hfI) (d0 (.inr fC) (d0 (.inr fD) λ_ hb=>.inl hb));have F1:=R.F.keep k1 e1;have aw:rN [I,C,D] env T.tab:=F1.away (d0 (S1.not_x hfI) (d0 (S1.not_x fC) (d0 (S1.not_x fD) qA)));have W:Ls c env T.tab as s.heap X I C D:=⟨hIC,hID,hCD,S1.base_none hfI,S1.base_none fC,S1.base_none fD,k1.fr hfI,k1.fr fC,k1.fr fD,S1.not_x fD,S1.not_x fC,aw⟩;haveI L:Lp c T env as s.heap X ρ I C D v y 0 [] #[] {s₁ with heap:=h₁,toks:=s₁.toks+([]:List (Str×Value)).length} as₁ H₁:=
  ⟨S1.opens (s':={s₁ with heap:=h₁,toks:=s₁.toks+([]:List (Str×Value)).length}) g13 hX' (d0 ⟨oI,g3 _ _ (gD _ _ eI)⟩ (d0 (lh hns₁ λo _ _ e _=>⟨o,e⟩) (d0 ⟨_,g3 _ _ hlD⟩ λb hb=>(S1.xs b hb).imp λo e=>g13 _ _ e))) rfl rfl,F1.opens g13 (λb hb=>.tail _ (.tail _ (.tail _ hb))) hX',hv.opens g13 hX',hi.at λo e _=>g3 _ _ (gD _ _ e),⟨_,g3 _ _ hlD⟩,.nil,aM _,⟨_,hns₁⟩,S1.not_as hfI,S1.not_as fC,S1.not_as fD,e1,(k1.more HR).trans e1 (g13.kept as₁ _)⟩
 haveI loop:codeAny c.M A (.compLoop (.ListComp elt [⟨.Name x px,iter,ifs,0⟩] sc pos) 0 (.ref I) (.ref D) (compEnvC sc cl C env)) (RR (.ref D) C) {s₁ with heap:=h₁,toks:=s₁.toks+([]:List (Str×Value)).length}:=by
  refine xt W R.a R.fr R.K R.len ok hcl hcl' he hc hsz L w (aY _) (λk' acc' arr' s' as' H' tk h' L' hk' bI q=>?_) λx s' er tr hm=>hRX D C x s' W.hc W.cx W.bc hm (er.less (d0 (.tail _ (.head _)) λb hb=>.tail _ (.tail _ (.tail _ hb))) (W.cnt λb hb=>.inl (aa hb cg))) tr;refine hRR D C _ W.hc W.cx W.bc (L'.hC.imp λm q=>Ns.same (X:=[]) q λo e=>⟨o,bI _ _ (s6 (Ne.symm hIC)) e,.inl rfl⟩:∃m,h'.Ns C m) ?_;refine dQ (L'.but (s':={s' with heap:=h',toks:=tk}) W bI (dz (.head _))) λb1 b2 b3=>?_;haveI hpD:h'.PlainList D arr':=L'.hD.imp λn q=>bI _ _ (s6 (Ne.symm hID)) q;haveI hbn:acc'.length<=kR:=aa (aa L'.hl (aa hk' hsz)) (Nat.le_of_add_right_le eR);haveI hDC:D∉C::X:=p0 (Ne.symm hCD) W.dx;have hsub':∀b∈C::X,b∈C::D::X:=d0 (.head _) λb hb=>.tail _ (.tail _ hb);haveI hZ':∀b∈C::D::X,b∈C::X\/b∈[I,C,D]:=d0 (.inl (.head _)) (d0 (.inr (.tail _ (.tail _ (.head _)))) λb hb=>.inl (.tail _ hb));have S3:SR c as' (C::D::X) H' {s' with heap:=h',toks:=tk}:=L'.S.but (s':={s' with heap:=h',toks:=tk}) bI (dz ⟨.head _,W.bi⟩) (λb hb=>.tail _ hb) (d0 (λhz=>absurd (in1 hz).symm hIC) (d0 (λhz=>absurd (in1 hz).symm hID) λb hb hz=>absurd (in1 hz▸hb) (S1.not_x hfI))) rfl rfl;haveI F3:FR c as' (C::D::X) h' env T.tab ρ:=b2.narrow (Z:=[I,C,D]) (λb hb=>.tail _ hb) (d0 (.inr (.head _)) λb hb=>.inl hb) aw;haveI hacc3:=(L'.hacc.keepX b1 (.refl ..)).frames λb _ _ hb q=>hb (.tail _ q);haveI b3':=b3.less (X:=X) (W.cnt λb hb=>.inl hb)
  induction mu with
  |false=>refine⟨.lst acc',H',as',L'.E,S3.turn (s':={s' with heap:=h',toks:=tk}) (λb o e _ _=>e) S3.stays hsub' (λb hb=>S3.xs b (hsub' b hb)) rfl rfl,b3',?_,q,F3.narrow hsub' hZ' aw⟩;exact .lst L'.od hDC hpD (hacc3.frames λb _ _ hb q=>hb (hsub' b q)) hbn
  |true=>
   haveI hDin:D∈C::D::X:=.tail _ (.head _);haveI q':Q (.ref H'.length) (H'++[.list acc']):=q;refine⟨.ref H'.length,H'++[.list acc'],as'++[D],⟨λi z e=>?_,λz hz=>?_⟩,S3.adopt (o:=.list acc') hDin W.bd hsub' hDC ⟨hbn,arr',hpD,hacc3.adopt hDin hsub'⟩,b3',.ref ?_,q',F3.adopt hDin hsub' hZ' aw (.tail _ (.tail _ (.head _)))⟩
   ·exact dt (L'.E.old i z e)
   ·exact (b9.mp hz).elim (L'.E.new z) λr=>in1 r▸W.hd
   ·rw [<-S3.len];exact cP
 exact codeAny_compStart_list loop (Dg L.hi loop)
def rp(e:Expr):Prop:=(e.ctorIdx==7)=false
theorem m0(h:rp e)(env:Env)(x:Value):foldedSetIterable e env x=pure x:=by
 cases e with
 |Set a k p=>exact absurd h.symm ai
 |_=>rfl
theorem ResC.drop(r:ResC c as X s.heap env T.tab ρ C Q x s')(hC:Fr as s.heap C)(hb:c.base.get? C=none)(hX:C∉X)(hs:fX C s'.heap h'):Res c as X s.heap Q x {s' with heap:=h'}:=by refine g9 r ?_;intro v H' as' e S k hv q _;exact Res.drop ⟨v,H',as',e,S,k.more (λ_=>cg),hv,q⟩ hC hb hX hs
theorem ol(F:FR c as X s.heap env T.tab ρ)(K:KOk T env)(ok:CompF T x sc):∀y,sc.names.lookup y=some .free->∃a,env.cells.lookup y=some a:=λy hy=>by
 refine dQ (ok.free y hy) ?_;intro h3 p_2 h5;obtain⟨j,h4⟩:=p_2;have hek:env.kindOf y=some .cell\/env.kindOf y=some .free:=by
  refine Or.elim h3 (λh3=>?_) λh3=>?_
  ·exact .inl (K.cell y h3)
  ·refine Or.elim (K.free y h3) (λq=>?_) λq=>?_
   ·exact .inr q
   ·exact .inl q
 refine dI (F.cells y j h4 hek) ?_;intro a _ e1 _;exact⟨a,e1⟩
theorem ERes.drop(r:ERes c as (C::X) s.heap XX x s')(tr:Ch x s'.heap)(hC:Fr as s.heap C)(hb:c.base.get? C=none)(hX:C∉X)(hs:fX C s'.heap h'):ERes c as X s.heap XX x {s' with heap:=h'}/\Ch x h':=by
 obtain⟨k,H',as',e,t,ts,rfl,e',S,k',ex,ht,ap,w⟩:=r;refine lh tr ?_;intro e₁ T cls he ex₁;cases he;have b:But [C] s'.heap h':=λq o hq e=>(hs.2 q (by exact Cg hq)).trans e;have hne:∀a∈e::ts,a≠C:=λa ha q=>(ap a ha).2.2.1 (q▸.head _);have kE:∀{t:Option Addr},(∀T,t=some T->T∈ts)->∀a∈e::t.toList,∀o,s'.heap.get? a=some o->h'.get? a=some o:=λ{t} ht a ha o q=>b a o (by
  rw [fV];refine Or.elim (bS.mp ha) (λq_=>?_) (λha=>?_)
  ·(replace q_:=Eq.symm q_;subst q_);exact hne _ (.head _)
  ·exact hne _ (.tail _ (ht a (iE.mp ha)))) q
 have hY:∀a∈e::(ts++X),a≠C:=λa ha=>by
  rcases bS.mp ha with rfl|ha
  ·exact hne _ (.head _)
  ·refine Or.elim (b9.mp ha) (λha=>?_) λha=>?_
   ·exact hne _ (.tail _ ha)
   ·exact λq=>hX (q▸ha)
 replace ex₁:=ex.uniq ex₁;obtain rfl:=ex₁;refine⟨⟨k,H',as',e,some T,ts,rfl,e',S.but (s':={s' with heap:=h'}) b (λa ha=>?_) (λa ha=>?_) (λa ha hz=>absurd (fV.mp hz) (hY a ha)) rfl rfl,(k'.but b (by exact dz hC)).less (λa ha=>(x9 ha).elim (λq=>.inr (q▸hC)) .inl),ex.keep (kE ht),ht,λa ha=>⟨(ap a ha).1,(ap a ha).2.1,λq=>(ap a ha).2.2.1 (.tail _ q),(ap a ha).2.2.2⟩,w⟩,e,T,_,rfl,ex.keep (kE ht)⟩
 ·cases fV.mp ha;exact⟨.tail _ (az _ (.head _)),hb⟩
 ·rcases bS.mp ha with rfl|ha
  ·exact .head _
  ·refine Or.elim (b9.mp ha) (λha=>?_) λha=>?_
   ·exact .tail _ (aI _ ha)
   ·exact .tail _ (az _ (.tail _ ha))
theorem tK{Qf:Value->Shared->Prop}(hC:Fr as s.heap C)(hX:C∉X)(hb:c.base.get? C=none)(hm:∃m,s'.heap.Ns C m)(r:ERes c as (C::X) s.heap XX x s')(tr:Ch x s'.heap):compPost c.M A (ERes c as X s.heap XX) use Qf acc C (.error x) s':=by
 refine dM hm λm hm=>?_;have key:∃m,s'.heap.Ns C m/\∀h',fX C s'.heap h'->∀cenv:Env,cenv.locals=C->wpAny c.M A (PySem.passOn "comprehension.variables-let-go" x cenv:Sem Value) (λ_ _=>False) (ERes c as X s.heap XX) {s' with heap:=h'}:=
  ⟨m,hm,λh' hs cenv _=>(r.drop tr hC hb hX hs).1.pass (r.drop tr hC hb hX hs).2 λ_ er _=>er⟩
 induction use with
 |none=>exact key
 |some u=>exact key
theorem DJ{n:Nat}{x:Str}{px:Pos}{elt iter:Expr}{ifs:List Expr}{sc:Scope}{pos:Pos}{cond:Option Ex}{mu:Bool}
  (ok:CompF T x sc)(hns:rp iter)(hi:SE c n T iter i)
  (he:SE c n {T with names:=sc.names,tab:=(x,T.n)::T.tab,n:=T.n+1} elt b)
  (hc:(ifs=[]/\cond=none)\/∃t q,ifs=[t]/\cond=some q/\ST c n {T with names:=sc.names,tab:=(x,T.n)::T.tab,n:=T.n+1} t q) :
  SE c n T (.ListComp elt [⟨.Name x px,iter,ifs,0⟩] sc pos) (.comp mu b i cond):=by
 refine⟨?_⟩;intro env A s as X H ρ Q XX R w;simp only [qV]at w;refine c7 (pg (env:=env) ok.names (ol R.F R.K ok)) ?_;intro cl hclos hcl hcl';refine wpAny_comprehension_free (use:=none) rfl (m0 hns env) hclos ok.kind (λp hp hl=>by simp only [ok.names p hp,hl]) (wpAny_mono (hi.run R w) (λy s₁ r=>?_) λ_ _ e=>e);obtain⟨v,H₁,as₁,e1,S1,k1,hv,w1⟩:=r;refine oB (RR:=λacc C=>compPost c.M A (ERes c as X s.heap XX) none (Res c as X s.heap Q) acc C) R ok hcl hcl' he hc e1 k1 S1 hv w1 (λD C s' h1 h2 h3 h4 h5=>?_) λD C x s' h1 h2 h3 h4 h5 h6=>tK h1 h2 h3 h4 h5 h6;refine dM h4 λm hm=>?_;exact⟨m,hm,λh' hs'=>h5.drop h1 h3 h2 hs'⟩
theorem A9{n:Nat}{x:Str}{px:Pos}{elt iter:Expr}{ifs:List Expr}{sc:Scope}{pos:Pos}{cond:Option Ex}{mu:Bool}{Q:QE}{XX:XE}{u:Value->Sem Unit}{Qf:Value->Shared->Prop}
  (ok:CompF T x sc)(hns:rp iter)(hi:SE c n T iter i)
  (he:SE c n {T with names:=sc.names,tab:=(x,T.n)::T.tab,n:=T.n+1} elt b)
  (hc:(ifs=[]/\cond=none)\/∃t q,ifs=[t]/\cond=some q/\ST c n {T with names:=sc.names,tab:=(x,T.n)::T.tab,n:=T.n+1} t q)
  (R:Rdy c T env A n s as X H ρ)(w:cL c.P (aQ c.P n) (.comp mu b i cond) ρ H Q XX)
  (hu:∀D C s',Fr as s.heap C->C∉X->c.base.get? C=none->(∃m,s'.heap.Ns C m)->ResC c as X s.heap env T.tab ρ C Q (.ref D) s'->
   wpAny c.M A (u (.ref D)) (λ_ s''=>∃m,s''.heap.Ns C m/\∀h',fX C s''.heap h'->Qf .none {s'' with heap:=h'}) (ERes c as X s.heap XX) s') :
  wpAny c.M A (comprehension (.ListComp elt [⟨.Name x px,iter,ifs,0⟩] sc pos) sc env (firstIterPos [⟨.Name x px,iter,ifs,0⟩] pos) (newList []) false (eval iter env) (some u)) Qf (ERes c as X s.heap XX) s:=by
 simp only [qV]at w;refine c7 (pg (env:=env) ok.names (ol R.F R.K ok)) ?_;intro cl hclos hcl hcl';refine wpAny_comprehension_free (use:=some u) rfl (m0 hns env) hclos ok.kind (λp hp hl=>by simp only [ok.names p hp,hl]) (wpAny_mono (hi.run R w) (λy s₁ r=>?_) λ_ _ e=>e);obtain⟨v,H₁,as₁,e1,S1,k1,hv,w1⟩:=r;exact oB (RR:=λacc C=>compPost c.M A (ERes c as X s.heap XX) (some u) Qf acc C) R ok hcl hcl' he hc e1 k1 S1 hv w1 (λD C s' h1 h2 h3 h4 h5=>hu D C s' h1 h2 h3 h4 h5) λD C x s' h1 h2 h3 h4 h5 h6=>tK h1 h2 h3 h4 h5 h6
end
section
variable {c:Cx}{n:Nat}{T:Tb}
theorem na(h:jR o=true):attributeBase o name env w=w:=by cases o<;>first|rfl|cases h
noncomputable def ng:Mt->String
 |.list=>"list"
 |.dict=>"dict"
 |.tup _=>"tuple"
theorem oN(h:rx c n T args xs):(backTo pos (starEach args env)).all (λx=>!x.1)=true:=by
 induction h with
 |nil=>rfl
 |cons h₁ _ ih=>rw [jL h₁.2];exact ih
theorem uB(S:SR c as X H s)(hv:VR c as X s.heap v y)(h:ly H v t=true) :
  s.TypeIs y (ng t)/\(∀a,y=.ref a->∃ob,s.heap.get? a=some ob/\ob.dict=none):=by
 induction t with
 |list=>replace h:=dZ.mp h;obtain⟨x,h⟩:=h;replace S:=e9 S hv h;obtain⟨a,its,rfl,⟨n,e⟩,_⟩:=S;exact⟨⟨_,e,rfl⟩,λa q=>by cases q;exact⟨_,e,rfl⟩⟩
 |dict=>replace h:=dZ.mp h;obtain⟨x,h⟩:=h;replace S:=l7 S hv h;obtain⟨a,cs,rfl,_,⟨o,es,ep,e,hx,_⟩,_⟩:=S;exact⟨⟨_,e,hx.1⟩,λa q=>by cases q;exact⟨_,e,hx.2.1⟩⟩
 |tup _=>
  replace h:=dZ.mp h;obtain⟨x,h⟩:=h;replace h:=V.tpl_is h;subst h;cases hv.inv with
  |tup _ _ e _ _=>exact⟨⟨_,e,rfl⟩,λa q=>by cases q;exact⟨_,e,rfl⟩⟩
theorem sf{o:Expr}{name:Str}{apos pos:Pos}{args:List Expr}{xs:List Ex}{t:Mt}{mu:Bool}{pr:Prim}{id:String}(hat:jR o=true)(hl:apos.endLine=pos.line)(hlt:args.length<20)(h:SE c n T o a)(hs:rx c n T args xs)
  (pa:PlainAttrs (ng t))(slot:Slot (ng t) name id)(hty:typeOf (.builtin id)=pure (.type "method_descriptor"))
  (tail:∀{A:Around} {s:Shared} {as:dH} {X:List Addr} {H:AH} {Q:QE} {XX:XE} {v:V} {y:Value} {vs:List V} {ys:List Value},AOk c A n->SR c as X H s->VR c as X s.heap v y->VRs c as X s.heap vs ys->vs.length=xs.length->hM (be c.P mu pr (v::vs) H) Q->
   wpAny c.M A (call (.builtin id) (y::ys)) (Res c as X s.heap Q) (ERes c as X s.heap XX) s) :
  SE c n T (.Call (.Attribute o name apos) args [] pos) (.n t mu pr a xs):=by
 refine⟨?_⟩;intro env A s as X H ρ Q XX R w;simp only [x8]at w;refine wpAny_Call_method_lateS (na hat) ?_ (by simpa using hl) (wpAny_mono (h.run R w) (λov s₁ r=>?_) λ_ _ e=>e)
 ·rw [oN hs];exact decide_eq_true (bo hlt (by decide))
 ·obtain ⟨v,H₁,as₁,e1,S1,k1,hv,ht,w1⟩:=r;refine cY (uB S1 hv ht) λh1 h2=>?_;refine⟨ng t,id,pa,slot,hty,h1,h2,?_⟩;refine callWith_builtin (nM hs) (wpAny_mono (gF hs (R.next e1 k1 S1) w1) (λar s₂ r=>?_) λ_ _ e=>e.lift e1 k1);obtain⟨hk,vs,H₂,as₂,e2,S2,k2,hvs,hln,q⟩:=r;simp only [hk];exact wpAny_mono (tail R.a S2 (hv.keep k2 e2) hvs hln q) (λ_ _ r=>(r.lift e2 k2).lift e1 k1) λ_ _ e=>(e.lift e2 k2).lift e1 k1
theorem qd{o:Expr}{name:Str}{apos pos:Pos}{args:List Expr}{xs:List Ex}{t:Mt}{mu:Bool}{pr:Prim}{id:String}(hat:jR o=true)(hl:apos.endLine=pos.line)(h:SE c n T o a)(hs:rx c n T args xs)(hn:args.length=1)
  (hmu:mu=true->pr.fresh=true)(hf:pr.fresh=false)(pa:PlainAttrs (ng t))(slot:Slot (ng t) name id)(hty:typeOf (.builtin id)=pure (.type "method_descriptor"))
  (tail:∀{A:Around} {s:Shared} {as:dH} {X:List Addr} {H H':AH} {Q:QE} {XX:XE} {v w r:V} {y z:Value},AOk c A n->SR c as X H s->VR c as X s.heap v y->VR c as X s.heap w z->prim c.P pr [v,w] H=some (r,H')->Q r H'->
   wpAny c.M A (call (.builtin id) [y,z]) (Res c as X s.heap Q) (ERes c as X s.heap XX) s):SE c n T (.Call (.Attribute o name apos) args [] pos) (.n t mu pr a xs):=by
 induction mu with
 |true=>exact absurd (hmu rfl) (by rw [hf];decide)
 |false=>refine sf hat hl (by rw [hn];decide) h hs pa slot hty λa S hv hvs hln q=>?_;replace hs:=ue hvs (hln.trans (hs.length.symm.trans hn));refine di hs ?_;intro v y q_3 q_4 hv1;subst q_3;subst q_4;refine dI (cJ q) ?_;intro r H' e q';exact tail a S hv hv1 e q'
set_option tactic.hygienic true in
theorem s0(hat:jR o=true)(hl:apos.endLine=pos.line)(h:SE c n T o a)(hs:rx c n T args xs)
  (hp:lY name args.length z=some (t,pr))(hmu:mu=true->pr.fresh=true):SE c n T (.Call (.Attribute o name apos) args [] pos) (.n t mu pr a xs):=by
 unfold lY at hp;split at hp
 ·rename_i q;(obtain⟨rfl,rfl⟩:=pW hp;clear hp);cases q.1;exact qd hat hl h hs q.2 hmu rfl F.plainAttrs_list F.slot_list_append F.type_list_append λ_ S hv hw e q=>BY S hv hw e q
 split at hp
 ·rename_i q;(obtain⟨rfl,rfl⟩:=pW hp;clear hp);obtain⟨rfl,hn⟩:=q;have hmu':mu=false:=by cases mu;rfl;cases hmu rfl
  subst hmu';refine sf hat hl (by exact eW (au hn) (by simp+arith only)) h hs F.plainAttrs_list F.slot_list_pop F.type_list_pop λ_ S hv hvs hln q=>?_;cases hvs with
  |cons _ _=>exact absurd (hln.trans ((hs.length).symm.trans hn)) (Nat.succ_ne_zero _)
  |nil=>refine dI (cJ q) ?_;intro r H' e q';exact Lb S hv e q'
 split at hp
 ·rename_i q;(obtain⟨rfl,rfl⟩:=pW hp;clear hp);cases q.1;exact qd hat hl h hs q.2.1 hmu rfl F.plainAttrs_list F.slot_list_pop F.type_list_pop λa S hv hw e q=>Gn S hv hw e q
 split at hp
 ·rename_i q;(obtain⟨rfl,rfl⟩:=pW hp;clear hp);cases q.1;exact qd hat hl h hs q.2 hmu rfl F.plainAttrs_dict F.slot_dict_pop F.type_dict_pop λa S hv hw e q=>Gk S hv hw e q
 split at hp
 ·rename_i q;(obtain⟨rfl,rfl⟩:=pW hp;clear hp);cases q.1;exact qd hat hl h hs q.2.1 hmu rfl F.plainAttrs_list F.slot_list_index F.type_list_index λa S hv hw e q=>yD S hv hw e q a.u64
 split at hp
 ·rename_i q;(obtain⟨rfl,rfl⟩:=pW hp;clear hp);cases q.1;exact qd hat hl h hs q.2 hmu rfl F.plainAttrs_tuple F.slot_tuple_index F.type_tuple_index λa S hv hw e q=>Da S hv hw e q a.u64
 split at hp
 ·rename_i q;((refine cY (pW hp) λe_0 e_1=>?_;subst e_0;subst e_1);clear hp);cases q.1;exact qd hat hl h hs q.2 hmu rfl F.plainAttrs_list F.slot_list_extend F.type_list_extend λa S hv hw e q=>Ba S hv hw e q
 exact fm hp
end
theorem O.ins_i(o:O):Is o.ins λd=>o=.inst 0 d:=by
 cases o with
 |inst c d'=>exact Is.ite λh=>h▸rfl
 |_=>exact trivial
theorem O.nms_i(o:O):Is o.nms λq=>o=.ns q.1 q.2:=by cases o<;>first|exact rfl|exact trivial
theorem AG(h:gq H v=some (d,ks,vs)):∃i,v=.ref i/\H[i]? =some (.inst 0 d)/\H[d]? =some (.ns ks vs):=
 Is.of (o:=gq H v) (R:=λq=>∃i,v=.ref i/\H[i]? =some (.inst 0 q.1)/\H[q.1]? =some (.ns q.2.1 q.2.2)) ((V.at_i v).bind λi h1=>(Is.self.bind λo h3=>(O.ins_i o).imp (R':=λd=>H[i]? =some (.inst 0 d)) λ_ h4=>h4▸h3).bind λd h5=>
  (Is.self.bind λo h3=>(O.nms_i o).imp (R':=λq=>H[d]? =some (.ns q.1 q.2)) λ_ h4=>h4▸h3).map λ_ h6=>⟨i,h1,h5,h6⟩) h
inductive Ins(c:Cx)(as:dH)(X:List Addr)(h:HP)(d:Nat)(ks:List (List Char))(vs:List V):Value->Prop
 |mk {x dx:Addr} {ob:Obj} {cs:List Value} {mA:Str->Option Value}:as[d]? =some dx->h.get? x=some ob->ob.cls=.ref (c.ccls 0)->ob.dict=some dx->(∀cd,ob.data≠.cls cd)->dx≠x->h.Ns1 dx mA->ks.length=cs.length->VRs c as X h vs cs->vs.length<=kR->
   (∀n,mA n=((ks.map toS).zip cs).lookup n)->x∈as->Ins c as X h d ks vs (.ref x)
section
variable {c:Cx}{A:Around}{E:Value->Shared->Prop}{s:Shared}{as:dH}{X:List Addr}{H H':AH}{Q:QE}
theorem uT(S:SR c as X H s)(hv:VR c as X s.heap v cv)(h:gq H v=some (d,ks,vs)):Ins c as X s.heap d ks vs cv:=by
 refine c7 (AG h) λi q_2 h1 h2=>?_;subst q_2;cases jn S hv h1 with
 |mk x e e2=>
  obtain⟨dx,ob,f1,f2,f3,f4,f5⟩:=e2;cases jn S (.ref f1) h2 with
  |mk _ _ e4=>obtain⟨hb,cs,mA,hn,hl,r,hm⟩:=e4;exact⟨f1,f2,f3,f4,f5,λq=>(by haveI:=S.inj _ _ _ e (q▸f1);subst this;exact nomatch h1.symm.trans h2),hn,hl,r,hb,hm,aN e⟩
theorem Ins.inst{x dx:Addr}{ob:Obj}{mA:Str->Option Value}{h:HP}(f2:h.get? x=some ob)(f3:ob.cls=.ref (c.ccls 0))(f4:ob.dict=some dx)(f5:∀cd,ob.data≠.cls cd)(hne:dx≠x)(hn:h.Ns1 dx mA):h.Inst x (c.ccls 0) mA:=⟨ob,f2,f3,f5,.inr ⟨dx,f4,hne,hn⟩⟩
theorem sy:∀{ks:List (List Char)} {vs:List V} {cs:List Value} {v:V},VRs c as X h vs cs->fo n ks vs=some v->∃y,((ks.map toS).zip cs).lookup (toS n)=some y/\VR c as X h v y:=by
 intro ks
 induction ks with
 |nil=>intro vs cs v r e;cases vs<;>exact fm e
 |cons k ks ih=>
  intro vs cs v r e;cases r with
  |nil=>exact fm e
  |@cons w ws y ys a r=>
   haveI e:(if n=k then some w else fo n ks ws)=some v:=e;simp only [fJ,eZ,bg];by_cases hk:n=k
   ·replace e:=(if_pos hk).symm.trans e
    (replace e:=aj e;subst e)
    simp only [hk,beq_self_eq_true];exact⟨y,rfl,a⟩
   ·replace e:=(if_neg hk).symm.trans e;haveI:(toS n==toS k)=false:=by rw [beq_eq_false_iff_ne];exact λq=>hk (i9 q)
    rw [this];exact ih r e
theorem FN(r:VR c as X h v y):handedOut y=pure y:=by cases r<;>rfl
theorem GR{cv:Value}{nm:List Char}{ms:List (Str×Nat)}{ats:List Str}{f:Nat}(K:CK c ms ats f)(hat:toS nm∈ats)(S:SR c as X H s)(hv:VR c as X s.heap v cv)(e:EO nm [v] H=some (r,H'))(q:Q r H'):wpAny c.M A (getAttr cv (toS nm) true) (Res c as X s.heap Q) E s:=by refine av (cb (e:(gq H v).bind _=some (r,H'))) ?_;intro p h1 h2;refine av (dW h2) λr' h3 h5=>?_;cases h5;obtain⟨hC,k1,k2,k3,k4,_,_,_,_⟩:=K;obtain⟨nmC,qC,bs,sn,sub,col,dd,z0,z1,z2,z3,z5,hCo⟩:=(hC.keeps S.stays).obj;obtain⟨f1,f2,f3,f4,f5,hne,hn,hl,rv,hb,hm,_⟩:=uT S hv h1;refine av (sy rv h3) ?_;intro y e1 e2;obtain⟨hp,g,d,t,os⟩:=s;exact load_attr hCo (hC.keeps S.stays).ns k2 (k4 _ hat).1 (k4 _ hat).2 (Ins.inst f2 f3 f4 f5 hne hn) ((hm _).trans e1) (FN e2) (Res.now (tk:=t+1) S e2 q)
theorem s9(hx:VR c as X h x y):∀{ks:List (List Char)} {vs:List V} {cs:List Value},VRs c as X h vs cs->ks.length=cs.length->
  ∃cs',(d9 n x ks vs).1.length=cs'.length/\VRs c as X h (d9 n x ks vs).2 cs'/\(d9 n x ks vs).2.length<=vs.length+1/\∀m,(((d9 n x ks vs).1.map toS).zip cs').lookup m=if m=toS n then some y else((ks.map toS).zip cs).lookup m:=by
 haveI one:∀m,(([n].map toS).zip [y]).lookup m=if m=toS n then some y else none:=λm=>by
  refine(?_:(match m==toS n with|true=>some y|false=>none)=_);by_cases hm:m=toS n
  ·rw [if_pos hm,hm,beq_self_eq_true]
  ·rw [if_neg hm,beq_eq_false_iff_ne.mpr hm]
 intro ks
 induction ks with
 |nil=>
  intro vs cs r hl;haveI:d9 n x [] vs=([n],[x]):=by cases vs<;>rfl
  exact⟨[y],rfl,.cons hx .nil,bL _ _,one⟩
 |cons k ks ih=>
  intro vs cs r hl;cases r with
  |nil=>cases hl
  |@cons w ws z zs a r=>
   haveI hl':ks.length=zs.length:=by simpa using hl
   haveI e:d9 n x (k::ks) (w::ws)=if n=k then(k::ks,x::ws)else(k::(d9 n x ks ws).1,w::(d9 n x ks ws).2):=rfl;by_cases hk:n=k
   ·rw [e,if_pos hk];subst hk;refine⟨y::zs,hl,.cons hx r,ax _ _,λm=>?_⟩;simp only [fJ,eZ,eZ,bg,bg];by_cases hm:m=toS n
    ·rw [if_pos hm,hm,beq_self_eq_true]
    ·rw [if_neg hm,beq_eq_false_iff_ne.mpr hm]
   ·rw [e,if_neg hk];refine dB (ih r hl') ?_;intro cs' h1 h2 h3 h4;refine⟨z::cs',congrArg nK h1,.cons a h2,aA h3,λm=>?_⟩;simp only [fJ,fJ,eZ,eZ,bg,bg,h4];by_cases hm:m=toS k
    ·haveI hmn:m≠toS n:=λq=>hk (i9 (q.symm.trans hm));rw [if_neg hmn,if_neg hmn,hm,beq_self_eq_true]
    ·rw [beq_eq_false_iff_ne.mpr hm]
theorem qT{ks:List (List Char)}{cs:List Value}{m:Str}(h:((ks.map toS).zip cs).lookup m≠none):m∈ks.map toS:=by
 cases e:((ks.map toS).zip cs).lookup m with
 |none=>exact absurd e h
 |some y=>exact(vr (mem_of_lookup e)).1
theorem Obj.same{a b:Obj}(h1:a.cls=b.cls)(h2:a.data=b.data)(h3:a.slots=b.slots)(h4:a.dict=b.dict):a=b:=by cases a;cases b;replace h1:=h1;subst h2;subst h3;subst h4;subst h1;rfl
set_option tactic.hygienic true in
theorem xI{cv cx:Value}{nm:List Char}{ms:List (Str×Nat)}{ats:List Str}{f:Nat}{R:Unit->Shared->Prop}(K:CK c ms ats f)(hat:toS nm∈ats)(S:SR c as X H s)(hv:VR c as X s.heap v cv)(hx:VR c as X s.heap x cx)(e:ik v nm x H=some H')
  (r:∀s',SR c as X H' s'->Kept as X s.heap s'.heap->R () s'):wpAny c.M A (setAttr cv (toS nm) cx) R E s:=by
 refine av (cb (e:(gq H v).bind _=some H')) ?_;intro p h1 h2;obtain⟨hlen,h3⟩:=dg h2;subst h3;obtain⟨d,ks,vs⟩:=p;obtain⟨hC,k1,k2,k3,k4,_,_,_,_⟩:=K;have hCk:=hC.keeps S.stays;obtain⟨nmC,qC,bs,sn,sub,col,dd,z0,z1,z2,z3,z5,hCo⟩:=hCk.obj;obtain⟨f1,f2,f3,f4,f5,hne,hn,hl,rv,hb,hm,hxa⟩:=uT S hv h1;rename_i xa dx ob cs mA;obtain⟨_,_,_,_,_,_,_,_,_,_,_,_,hC0⟩:=(hC.obj);have hxC:xa≠c.ccls 0:=λq=>by obtain⟨i,hi⟩:=cB hxa;replace hi:=q▸hi;replace hC0:=((S.objs i _ hi).1).symm.trans hC0;exact fm hC0
 obtain⟨hp,g,dr,t,os⟩:=s;refine store_attr PySem.F.store_object hCo hCk.ns k1 (k4 _ hat).1 (k4 _ hat).2 hxC (Ins.inst f2 f3 f4 f5 hne hn) (λh' tk' I' hk hsame=>?_) (ns:=ks.map toS) (λy hy=>qT (by rw [<-hm];exact hy)) (by rw [ak];exact aa hlen (by decide));refine y8 (hsame ob f2) ?_;intro o₁ e₁ q1 q2 q3 q4;haveI hob:o₁=ob:=Obj.same q1 q2 q3 ((q4 dx f4).trans f4.symm)
 (replace hob:=Eq.symm hob;subst hob)
 have kk:∀b o,hp.get? b=some o->b≠dx->h'.get? b=some o:=λb o e hb=>by
  by_cases hbx:b=xa
  ·(replace hbx:=Eq.symm hbx;subst hbx);cases f2.symm.trans e;exact e₁
  ·exact hk b o hbx (λo₀ d' g1 g2=>by cases f2.symm.trans g1;cases f4.symm.trans g2;exact hb) e
 refine dB I' ?_;intro o' g1 _ _ g4;replace e₁:=e₁.symm.trans g1;cases e₁;have hns:h'.Ns1 dx (λy=>if y=toS nm then some cx else mA y):=by
  refine Or.elim g4 (λq_=>?_) (λq_=>?_)
  ·obtain ⟨g4,_⟩:=q_;replace g4:=f4.symm.trans g4;cases g4
  ·obtain ⟨d',g4,_,g5⟩:=q_;cases f4.symm.trans g4;exact g5
 refine dB (s9 (n:=nm) hx rv hl) ?_;intro cs' d1 d2 d3 d4;refine r _ (S.upd (s':=⟨h',g,dr,tk',os⟩) f1 kk rfl rfl ⟨aa d3 ?_,cs',_,hns,d1,d2.keepX (λb o e ha _=>kk b o e λq=>ha (q▸aN f1):VK as X hp h') (.refl ..),λm=>?_⟩) (SR.kept1 f1 kk)
 ·have h1:vs.length=ks.length:=rv.length.trans hl.symm;have h2:(1001:Nat)<=kR:=by decide
  rw [h1];exact aa (aA (hlen:ks.length<=1000)) h2
 ·simp only [d4];show(if m=toS nm then some cx else mA m)=_;rw [hm]
end
section
variable {c:Cx}{n:Nat}{T:Tb}{ms:List (Str×Nat)}{ats:List Str}{f:Nat}
theorem tx{E:Value->Shared->Prop}{Q:List Value->Shared->Prop}(hs:starEach [x] env=(false,eval x env)::starEach [] env)(h:wpAny M A (eval x env) (λy s₁=>Q [y] s₁) E s):wpAny M A (spliced (backTo pos (starEach [x] env))) Q E s:=by rw [hs];exact spliced_cons (wpAny_mono h (λ_ _ q=>spliced_nil q) λ_ _ e=>e)
theorem CR(K:CK c ms ats f)(hat:toS nm∈ats)(hok:jR o=true)(h:SE c n T o a):SE c n T (.Attribute o (toS nm) pos) (.p false (.a nm) [a]):=by refine⟨?_⟩;intro env A s as X H ρ Q XX R w;simp only [fG,eQ]at w;simp only [fP]at w;simp only [arm_eval_Attribute,na hok];refine wpAny_bind (wpAny_mono (h.run R w) (λy s₁ r=>wpAny_bind (wpAny_standAt (wpAny_bind (wpAny_holding ?_)))) λ_ _ e=>e);obtain⟨v,H₁,as₁,e1,S1,k1,hv,q⟩:=r;refine dI (cJ q) ?_;intro z H' e q';exact wpAny_mono (GR (E:=ERes c as₁ X s₁.heap XX) K hat S1 hv e q') (λ_ _ r=>wpAny_bind (wpAny_letTemporaryGo (wpAny_pure (r.lift e1 k1)))) λ_ _ e=>e.lift e1 k1
set_option tactic.hygienic true in
theorem C5{o:Expr}{nm:List Char}{g:Nat}{apos pos:Pos}{args:List Expr}{xs:List Ex}(K:CK c ms ats f)(C:Cok c T.gl)(sc:SC c n)(hg:ms.lookup (toS nm)=some g)(hok:jR o=true)(hline:apos.endLine=pos.line)(hlt:args.length<30)(h:SE c n T o a)(hs:rx c n T args xs) :
  SE c n T (.Call (.Attribute o (toS nm) apos) args [] pos) (.m 0 g nm a xs):=by
 refine⟨?_⟩;intro env A s as X H ρ Q XX R w;simp only [B4]at w;simp only [arm_eval_Call,na hok];refine wpAny_bind (wpAny_mono (h.run R w) (λy s₁ r=>wpAny_bind (wpAny_standAt ?_)) λ_ _ e=>e);obtain⟨v,H₁,as₁,e1,S1,k1,hv,hm,w1⟩:=r;haveI hform:methodCallForm (args.length+([]:List Keyword).length) (backTo pos (starEach args env)) (backToKw pos (keywordEach [] env))=true:=by refine(?_:((backTo pos (starEach args env)).all (λx=>!x.1)&&true&&decide (args.length+0+0<30))=true);rw [oN hs];exact decide_eq_true hlt
 haveI hpos:methodCallPos true o env apos pos=pure pos:=by unfold methodCallPos;simp [hline]
 obtain⟨hC,k1',k2,k3,k4,k5,_,_,_⟩:=K;obtain⟨m1,⟨of,m2,m3⟩,⟨yB,m4⟩,fn,hf⟩:=k5 _ _ hg;have hCk:=hC.keeps S1.stays;obtain⟨nmC,qC,bs,sn,sub,col,dd,z0,z1,z2,z3,z5,hCo⟩:=hCk.obj;dsimp only [methodCall];rw [hform];haveI R1:=R.next e1 k1 S1
 obtain⟨p,hi,hnot⟩:∃p,gq H₁ v=some p/\(!p.2.1.contains nm)=true:=by
  unfold gr at hm;refine fS (o:=gq H₁ v) (λhq=>?_) (λp hq=>?_)
  ·rw [hq];replace hm:=hq▸hm;cases hm
  ·rw [hq];rw [hq]at hm;exact⟨p,rfl,hm⟩
 obtain⟨d,ks,vs⟩:=p;obtain⟨f1,f2,f3,f4,f5,hne,hn,hl,rv,hb,hmA,hxa⟩:=uT S1 hv hi;rename_i xa dx ob cs mA;have hsh:mA (toS nm)=none:=by
  rw [hmA];cases e:((ks.map toS).zip cs).lookup (toS nm)with
  |none=>rfl
  |some y=>refine av (aK.mp (qT (ks:=ks) (cs:=cs) (m:=toS nm) (by rw [e];nofun))) ?_;intro k hk e';replace e':=i9 e';cases e';haveI:ks.contains nm=true:=bh.mpr hk;replace hnot:=this▸hnot;cases hnot
 obtain⟨hp,gg,dr,tt,os⟩:=s₁;refine wpAny_bind (wpAny_holding (method_of hCo hCk.ns k2 k3 m1 (S1.stays _ _ m2) m3 m4 (Ins.inst f2 f3 f4 f5 hne hn) hsh ?_));refine wpAny_bind (wpAny_of_eq hpos ?_);refine callWith_function (o:=of) (fd:=c.fdat g) (wpAny_mono (gF hs R1 w1) (λar s₂ r=>?_) λ_ _ e=>e.lift e1 k1);obtain⟨hk,vs',H₂,as₂,e2,S2,k2,hvs,_,q⟩:=r;refine av (C.fobj g fn hf) ?_;intro o' g1 g2;replace g1:=m2.symm.trans g1
 (replace g1:=aj g1;subst g1)
 refine⟨⟨S2.stays _ _ m2,g2⟩,?_⟩;rw [hk];exact wpAny_mono (sc.run hf R.a.toACk (R1.fr.keep e2 k2).all S2 (.cons (hv.keep k2 e2) hvs) q) (λ_ _ r=>(r.lift e2 k2).lift e1 k1) λ_ _ e=>(e.lift e2 k2).lift e1 k1
theorem IL(C:Cok c T.gl)(sc:SC c n)(hg:T.glob g=some (.cls ms ats f))(h:SE c n T x a)(hns:NS x):SE c n T (.Call (.Name g p) [x] [] pos) (.new 0 f [a]):=by
 refine⟨?_⟩;intro env A s as X H ρ Q XX R w;simp only [CT,eQ]at w;simp only [fP]at w;haveI e1:=C.gl g _ (gk hg).2.1;obtain⟨hC,_,_,_,_,_,hi,⟨oI,hfI,hfc⟩,fn,hfn⟩:=C.cl g ms ats f (mem_of_lookup (gk hg).2.1);refine wpAny_Call_Name_kw (jK C hg R (.inl e1) ?_);refine callWith_cls hC (tx (jL hns [] env) (wpAny_mono (h.run R w) (λy s₁ r=>?_) λ_ _ e=>e)) (jL hns [] env) rfl;obtain⟨v,H₁,as₁,e1,S1,k1,hv,q⟩:=r;refine⟨S1.stays,?_⟩;have hCk:=hC.keeps S1.stays;obtain⟨nmC,qC,bs,sn,sub,col,dd,z0,z1,z2,z3,z5,hCo⟩:=hCk.obj;obtain⟨hp,gg,dr,tt,os⟩:=s₁;refine wpAny_call_obj_init PySem.F.objNew hCo hCk.ns hi (S1.stays _ _ hfI) hfc λh' xa dx Mk=>?_;refine dB Mk.inst ?_;intro ob hx hcx hncx hdx;have hdd:=Mk.dict ob hx;obtain⟨hnsd,hne⟩:h'.Ns1 dx (λ_=>none)/\dx≠xa:=by
  refine Or.elim hdx (λq_=>?_) (λq_=>?_)
  ·obtain ⟨hn0,_⟩:=q_;replace hdd:=hn0.symm.trans hdd;exact fm hdd
  ·obtain ⟨d',hd',hne',hns'⟩:=q_;try clear hdx
   cases hd'.symm.trans hdd;exact⟨hns',hne'⟩
 haveI hg1:∀b,(only h' λb=>b !=xa).get? b=if(b !=xa)=true then h'.get? b else none:=λb=>zD b;generalize (only h' λb=>b !=xa)=h₁ at hg1;have Cg:∀b,b≠xa->h₁.get? b=h'.get? b:=λb hb=>by rw [hg1,if_pos (by simpa using hb)]
 have no1:h₁.get? xa=none:=by rw [hg1,if_neg (by simp)]
 have g1:Grown hp h₁:=λb o e=>by rw [Cg b λq=>by rw [q,Mk.newX]at e;cases e];exact Mk.keeps b o e
 have g2:Grown h₁ h':=λb o e=>by rw [Cg b λq=>by rw [q,no1]at e;cases e]at e;exact e
 haveI Sd:=S1.alloc (s':=⟨h₁,gg,dr,tt,os⟩) (a:=dx) (o:=.ns [] []) Mk.newD g1 rfl rfl ⟨aY _,[],λ_=>none,hnsd.at λo e=>by rw [Cg dx hne];exact e,rfl,.nil,λ_=>rfl⟩;haveI Sx:=Sd.alloc (s':=⟨h',gg,dr,tt,os⟩) (a:=xa) (o:=.inst 0 H₁.length) no1 g2 rfl rfl ⟨dx,ob,by rw [<-S1.len];simp,hx,hcx,hdd,hncx⟩;have E1:Ext as₁ hp (as₁++[dx]):=lZ as₁ _ dx Mk.newD;haveI K1:Kept as₁ X hp h₁:=g1.kept as₁ X;haveI E2:Ext (as₁++[dx]) h₁ (as₁++[dx]++[xa]):=lZ _ _ xa no1;have E3:=E1.trans K1 E2;have K3:=K1.trans E1 (g2.kept _ X:Kept (as₁++[dx]) X h₁ h');have hix:(as₁++[dx]++[xa])[H₁.length+1]? =some xa:=by rw [<-S1.len];simp
 have fr:∃l,FrOk c (A.under (.builtin "type.__call__" ⟨.ref (c.ccls 0)::[y],[]⟩)) X (as₁++[dx]++[xa]) h' l:=by refine dM ((R.fr.keep e1 k1).all) λl hl=>?_;exact⟨l,hl.1,(hl.keep E3 K3).2⟩
 haveI ack:ACk c (A.under (.builtin "type.__call__" ⟨.ref (c.ccls 0)::[y],[]⟩)) n:=⟨R.a.hh,by
  haveI:=R.a.hr;refine(?_:A.depth+1+2*n+5<=recursionLimit);exact eW this (by simp+arith only),by
  haveI:=R.a.hw;refine(?_:A.units+1+10*n+300<cLine);exact eW this (by simp+arith only)⟩
 haveI w2:aQ c.P n f [.ref (H₁.length+1),v] (H₁++[.ns [] []]++[.inst 0 H₁.length]) (λv H''=>v=.none/\Q (.ref (H₁.length+1)) H'') XX:=by simp only [an];exact q
 refine wpAny_mono (sc.run hfn ack fr Sx (.cons (.ref hix) (.cons (hv.keep K3 E3) .nil)) w2) (λr s' q=>?_) λ_ _ e=>(e.lift E3 K3).lift e1 k1;obtain⟨z,H',as',e',S',k',hz,rfl,q⟩:=q;refine⟨hz.inv,(Res.lift E3 K3 ⟨_,H',as',e',S',k',?_,q⟩).lift e1 k1⟩;exact .ref (e'.old _ _ hix)
end
section
variable {c:Cx}{n:Nat}{T:Tb}
def z8(e:Option Expr)(k:List Char):Prop:=∃x kk p,e=some (.Constant (.str x) kk p)/\qI x=some k
theorem yW(o:Option Expr):Is (EP o) (z8 o):=by
 induction o with
 |none=>exact trivial
 |some e=>exact(BE e).bind λs h=>Is.to λ_ h2=>h.elim λk h=>h.elim λp h=>h▸⟨s,k,p,rfl,h2⟩
theorem yN(hk:A2 z8 ks kcs):∀{es:List Expr} {xs:List Ex} {s:Shared} {as:dH} {H:AH} {Q:List V->AH->Prop},rx c n T es xs->ks.length=es.length->Rdy c T env A n s as X H ρ->
  gc c.P (aQ c.P n) xs ρ H Q XX->wpAny c.M A (evalPairs (pairTrees ks es env pos)) (λps s'=>∃ys,Carries c.kd ps ((kcs.map toS).zip ys)/\kcs.length=ys.length/\ResL c as X s.heap Q ys s') (ERes c as X s.heap XX) s:=by
 induction hk with
 |nil=>
  intro es xs s as H Q h hl R w
  induction h with
  |nil=>exact pairTrees_nil_walk ⟨[],trivial,rfl,[],H,as,.refl ..,R.S,Kept.refl _ _ _,.nil,w⟩
  |cons _ _=>simp at hl
 |cons h₁ h₂ ih=>
  intro es xs s as H Q h hl R w
  induction h with
  |nil=>simp at hl
  |cons g₁ g₂=>
   refine lh h₁ ?_;intro x kk p q_4 hk;subst q_4;obtain⟨h3,h4⟩:=mC hk;simp only [eQ]at w;refine pairTrees_cons_walk (Constant_str ?_);haveI R1:Rdy c T env A n {s with toks:=s.toks+1} as X H ρ:=R.next (.refl ..) (Kept.refl _ _ _) (R.S.grow (.refl _) rfl rfl)
   refine wpAny_mono (g₁.1.run R1 w) (λy s₁ r=>?_) λ_ _ e=>e;obtain⟨v,H₁,as₁,e1,S1,k1,hv,w1⟩:=r;refine wpAny_mono (ih g₂ (by simpa using hl) (R1.next e1 k1 S1) w1) (λps s₂ r=>?_) λ_ _ e=>e.lift e1 k1;refine c7 r ?_;intro ys hc hy p_4;obtain⟨vs,H₂,as₂,e2,S2,k2,hvs,q⟩:=p_4;refine⟨y::ys,⟨?_,rfl,hc⟩,by simp [hy],v::vs,H₂,as₂,e1.trans k1 e2,S2,k1.trans e1 k2,.cons (hv.keep k2 e2) hvs,q⟩;rw [<-h3];exact oo _ _
theorem qN(C:Cok c gl)(S:SR c as X H s):(s.heap.objs.size==sysModules)=false:=by refine lh C.g ?_;intro o es ep e _;haveI h2:=fB (S.stays _ _ e);haveI h3:mainGlobals=3:=rfl;haveI h1:sysModules=1:=rfl;exact beq_eq_false_iff_ne.mpr λq=>by rw [q]at h2;exact absurd h2 (by decide)
theorem sw(q:hM (be c.P mu (.d kcs) vs H) Q):(kcs.length=vs.length/\kcs.length<=15/\kcs.Nodup)/\(if mu then Q (.ref H.length) (H++[.dict kcs vs])else Q (.dct kcs vs) H):=by
 refine sH (kM q) ?_;intro r H' e;haveI e':rH kcs vs H=some (r,H'):=e;unfold rH at e';by_cases h:kcs.length=vs.length/\kcs.length<=15/\kcs.Nodup
 ·refine ⟨h,?_⟩;have hp:prim c.P (.d kcs) vs H=some (.dct kcs vs,H):=if_pos h
  induction mu with
  |false=>simp only [sC,hp]at q;exact q
  |true=>unfold be at q;rw [if_pos rfl,show(Prim.d kcs).fresh=true from rfl,if_pos rfl,hp]at q;exact q
 ·exact fm ((if_neg h).symm.trans e')
theorem sW{a:Addr}{mu:Bool}{s₀:Shared}{s':Shared}{as as₂:dH}{X:List Addr}{H:AH}{Q:QE}{kcs:List (List Char)}{vs:List V}{ys:List Value}(ha:s₀.heap.get? a=none)(hx:a∉X)(ho:a∉as₂)(hsm:(a==sysModules)=false)(hb:c.base.get? a=none)
  (E:Ext as s₀.heap as₂)(K:Kept as X s₀.heap s'.heap)(S:SR c as₂ (a::X) H s')(hd:s'.heap.DictOf c.kd a ((kcs.map toS).zip ys))(hy:kcs.length=ys.length)(hv:VRs c as₂ (a::X) s'.heap vs ys)(hl:vs.length<=kR)
  (q:if mu then Q (.ref H.length) (H++[.dict kcs vs])else Q (.dct kcs vs) H):Res c as X s₀.heap Q (.ref a) s':=by
 induction mu with
 |false=>have q':Q (.dct kcs vs) H:=q;exact⟨_,H,as₂,E,S.frames (λb _ _ hb q=>hb (.tail _ q)) λb hb=>S.xs b (.tail _ hb),K,.dct ho hx hsm hd hy (hv.frames λb _ _ hb q=>hb (.tail _ q)) hl,q'⟩
 |true=>have q':Q (.ref H.length) (H++[.dict kcs vs]):=q;haveI hsub:∀b∈X,b∈a::X:=λb hb=>.tail _ hb;exact⟨.ref H.length,H++[.dict kcs vs],as₂++[a],⟨λi z e=>dt (E.old i z e),dk E.new (dz (.inr ha))⟩,S.adopt (o:=.dict kcs vs) (.head _) hb hsub hx ⟨hl,hsm,ys,hd,hy,hv.adopt (.head _) hsub⟩,K,.ref (by rw [<-S.len];exact cP),q'⟩
theorem qG{ks:List (Option Expr)}{es:List Expr}{pos:Pos}{mu:Bool}{env:Env}{A:Around}{s:Shared}{as:dH}{X:List Addr}{H:AH}{ρ:Fm}{Q:QE}{XX:XE}(C:Cok c T.gl)(hall:ks.all (·.isSome)=true)(hl:ks.length=es.length)(h0:ks≠[])(h15:ks.length<=15)(R:Rdy c T env A n s as X H ρ)
  (hp:∀{s₁:Shared} {X₁:List Addr},Rdy c T env A n s₁ as X₁ H ρ->wpAny c.M A (evalPairs (pairTrees ks es env pos)) (λps s'=>∃kcs ys,Carries c.kd ps ((kcs.map toS).zip ys)/\kcs.length=ys.length/\kcs.Nodup/\ResL c as X₁ s₁.heap (λvs H'=>vs.length<=15/\if mu then Q (.ref H'.length) (H'++[.dict kcs vs])else Q (.dct kcs vs) H') ys s') (ERes c as X₁ s₁.heap XX) s₁) :
  wpAny c.M A (eval (.Dict ks es pos) env) (Res c as X s.heap Q) (ERes c as X s.heap XX) s:=by
 have hX:∀b∈s.heap.objs.size::X,b∈X\/s.heap.get? b=none:=λb hb=>by
  refine eC hb (λe_=>?_) λh=>?_
  ·exact e_▸.inr (dy _)
  ·exact .inl h
 haveI hbase:c.base.get? s.heap.objs.size=none:=R.S.base_none (dy _);haveI S1:SR c as (s.heap.objs.size::X) H {s with heap:=s.heap.push {cls:=.type "dict",data:=.dict #[]}}:=R.S.opens (.push _ _) hX (λb hb=>by
  refine eC hb (λe_=>?_) λh=>?_
  ·subst e_;exact⟨_,ba _ rfl⟩
  ·obtain ⟨o,e⟩:=R.S.xs b h;exact⟨o,bG _ e⟩) rfl rfl
 haveI g0:Grown s.heap (s.heap.push {cls:=.type "dict",data:=.dict #[]}):=.push _ _;refine wpAny_Dict_walk (knd:=c.kd) hall hl h0 h15 ?_;haveI R1:Rdy c T env A n _ as (s.heap.objs.size::X) H ρ:=⟨R.a,S1,R.F.opens g0 (λb h=>.tail _ h) hX,R.K,R.len,R.fr.grow g0 λ_=>cg⟩;refine wpAny_mono (hp R1) (λps s₂ r=>?_) λ_ _ e=>(e.lift (Ext.refl as s.heap) (g0.kept as _)).less (λ_ q=>.tail _ q) λb hb=>(x9 hb).elim (λq=>.inr (.inr (q▸dy _))) .inl;clear hp S1 hX R1 hall hl h0 h15;refine kD r ?_;intro kcs ys hc hy hnd p_6;obtain⟨vs,H₂,as₂,e2,S2,k2,hvs,hl,q⟩:=p_6;refine⟨_,hc,DictOf.same (Heap.DictOf.new _) (λo e=>k2.one (jb R.S) e (gG R.S)),λh' hd sb=>?_⟩;have hn:(((kcs.map toS).zip ys).map (·.1)).Nodup:=by rw [lQ (by rw [ak,hy];exact aM _)];exact lf.map _ (λa b hab e=>hab (i9 e)) hnd
 simp only [merged_nil_of_nodup _ hn]at hd;clear hc hn hnd;haveI b:But [s.heap.objs.size] s₂.heap h':=λq o hq e=>(sb.2 q (by exact Cg hq)).trans e;refine sW (s':={s₂ with heap:=h',toks:=_}) (dy _) (jb R.S) (e2.out (ba _ rfl) (gG R.S)) (qN C R.S) hbase ((Ext.refl as s.heap).trans (g0.kept as X) e2:Ext as s.heap as₂) ((((g0.kept as _).trans (.refl ..) k2).less λb hb=>(x9 hb).elim (λq=>.inr (.inr (q▸dy _))) .inl:Kept as X s.heap s₂.heap).but b (by intro a ha;replace ha:=in1 ha;subst ha;exact .inr (dy _)))
  (S2.but (s':={s₂ with heap:=h',toks:=_}) b (by simpa using hbase) (λ_ q=>q) (λa _ hz=>by replace hz:=in1 hz;subst hz;obtain⟨o,_,_,e,_⟩:=hd;exact⟨o,e⟩) rfl rfl) hd hy (hvs.keepX (b.vk as₂ (by exact dz (.head _))) (.refl ..)) (aa hl (by decide)) q
theorem DU{ks:List (Option Expr)}{kcs:List (List Char)}{es:List Expr}{xs:List Ex}{pos:Pos}{mu:Bool}(C:Cok c T.gl)(hk:A2 z8 ks kcs)(h:rx c n T es xs)(hl:ks.length=es.length)(h15:ks.length<=15) :
  SE c n T (.Dict ks es pos) (.p mu (.d kcs) xs):=by
 refine⟨?_⟩;intro env A s as X H ρ Q XX R w;simp only [fG]at w;by_cases h0:ks=[]
 ·subst h0;cases hk
  induction h with
  |cons _ _=>cases hl
  |nil=>
   simp only [fP]at w;obtain⟨hq,q⟩:=sw w;have hX:∀b∈s.heap.objs.size::X,b∈X\/s.heap.get? b=none:=λb hb=>by
    refine eC hb (λe_=>?_) λh=>?_
    ·exact e_▸.inr (dy _)
    ·exact .inl h
   haveI S1:SR c as (s.heap.objs.size::X) H {s with heap:=s.heap.push {cls:=.type "dict",data:=.dict #[]}}:=R.S.opens (.push _ _) hX (λb hb=>by
    refine eC hb (λe_=>?_) λh=>?_
    ·subst e_;exact⟨_,ba _ rfl⟩
    ·obtain ⟨o,e⟩:=R.S.xs b h;exact⟨o,bG _ e⟩) rfl rfl
   exact wpAny_Dict_empty (sW (ys:=[]) (dy _) (jb R.S) (gG R.S) (qN C R.S) (R.S.base_none (dy _)) (.refl ..) (Grown.kept (.push _ _) as X) S1 (Heap.DictOf.new _) rfl .nil (aY _) q)
 ·haveI hall:ks.all (·.isSome)=true:=by
   clear h0 h15 hl w
   induction hk with
   |nil=>rfl
   |cons a _ ih=>obtain⟨_,_,_,rfl,_⟩:=a;exact ih
  refine qG (mu:=mu) C hall hl h0 h15 R λR1=>wpAny_mono (yN hk h hl R1 w) (λps s₂ r=>?_) λ_ _ e=>e;refine c7 r ?_;intro ys hc hy p_4;obtain⟨vs,H₂,as₂,e2,S2,k2,hvs,q⟩:=p_4;replace q:=sw q
  (haveI hq:=q.1;haveI q:=q.2)
  exact⟨kcs,ys,hc,hy,hq.2.2,vs,H₂,as₂,e2,S2,k2,hvs,hq.1▸hq.2.1,q⟩
theorem xL(q:hM (be c.P mu .mkdict1 [k,v] H) Q):∃kc,k=.str kc/\if mu then Q (.ref H.length) (H++[.dict [kc] [v]])else Q (.dct [kc] [v]) H:=by
 refine sH (kM q) ?_;intro r H' e;refine av (dW (e:bP _ k.txt=_)) ?_;intro kc h1 _;replace h1:=V.txt_is h1;subst h1;refine⟨kc,rfl,?_⟩
 induction mu with
 |false=>exact q
 |true=>exact q
theorem zg(C:Cok c T.gl)(hk:SE c n T ke a)(hv:SE c n T ve b):SE c n T (.Dict [some ke] [ve] pos) (.p mu .mkdict1 [a,b]):=by refine⟨?_⟩;intro env A s as X H ρ Q XX R w;refine qG (mu:=mu) C rfl rfl (λh=>nomatch h) (show 1<=15 by decide) R λR1=>pairTrees_cons_walk (wpAny_mono (hk.run R1 w) (λy s₁ r=>?_) λ_ _ e=>e);obtain⟨kv,H₁,as₁,e1,S1,k1,hkv,w1⟩:=r;refine wpAny_mono (hv.run (R1.next e1 k1 S1) w1) (λz s₂ r=>pairTrees_nil_walk ?_) λ_ _ e=>e.lift e1 k1;obtain⟨v,H₂,as₂,e2,S2,k2,hvv,q⟩:=r;replace q:=xL q;refine av q ?_;intro kc q_2 q1;subst q_2;cases hkv.inv;exact⟨[kc],[z],⟨oo _ _,rfl,trivial⟩,rfl,List.pairwise_singleton _ _,[v],H₂,as₂,e1.trans k1 e2,S2,k1.trans e1 k2,.cons hvv .nil,(show 1<=15 by decide),q1⟩
end
section
variable {c:Cx}{n:Nat}{T:Tb}
structure SO(c:Cx)(n:Nat)(T:Tb)(o:Option Expr)(ex:Ex):Prop where
 run:∀{env:Env} {A:Around} {s:Shared} {as:dH} {X:List Addr} {H:AH} {ρ:Fm} {Q:QE} {XX:XE},
 Rdy c T env A n s as X H ρ->cL c.P (aQ c.P n) ex ρ H Q XX->wpAny c.M A (evalPart o env) (Res c as X s.heap Q) (ERes c as X s.heap XX) s
theorem AA(ih:∀e,Is (r e) (SE c n T e))(o:Option Expr):Is (Jd r o) (SO c n T o):=by
 induction o with
 |none=>exact⟨λR w=>wpAny_pure (Res.now (tk:=_) R.S .none w)⟩
 |some e=>exact(ih e).imp λ_ h=>⟨λR w=>h.run R w⟩
theorem jr(n:Nat)(i:Int):((iK n i:Nat):Int)=max 0 (min (if i<0 then i+n else i) n):=by
 unfold iK;by_cases h:i<0
 ·rw [if_pos h,if_pos h];by_cases h2:i+n<0
  ·rw [if_pos h2];exact(Int.max_eq_left (bA (Int.min_le_left _ _) (eU h2))).symm
  ·rw [if_neg h2,mR (jE (eU h) (by simp+arith only)),lR (cN.mp h2),bT (cN.mp h2)]
 ·rw [if_neg h,if_neg h];by_cases h2:i<n
  ·rw [if_pos h2,mR (eU h2),lR (cN.mp h),bT (cN.mp h)]
  ·rw [if_neg h2,Ot (cN.mp h2),lR (bn n)]
theorem Dx(lo hi:Option Int)(n:Nat):Builtin.Str.strSliceIndices lo hi 1 n=(aX (mP n hi-lA n lo)).map (lA n lo+·):=by
 rw [<-sliceRange_one];haveI e1:∀a b a' b':Int,a=a'->b=b'->sliceRange a b 1=sliceRange a' b' 1:=λ_ _ _ _ h h'=>by rw [h,h']
 refine e1 _ _ _ _ ?_ ?_
 ·induction lo with
  |none=>rfl
  |some i=>exact(jr n i).symm
 ·induction hi with
  |none=>rfl
  |some i=>exact(jr n i).symm
theorem lP{α:Type}(xs:List α)(a b:Nat):(xs.drop a).take (b-a)=bB xs a b:=by unfold bB;simp only [List.drop_take]
theorem zu(n:Nat)(o:Option Int):mP n o<=n:=by
 induction o with
 |none=>exact aM _
 |some i=>exact bW.mp (bA (mL (jr n i)) (Int.max_le.mpr ⟨bn n,Int.min_le_right _ _⟩))
set_option tactic.hygienic true in
theorem qF(xs:List Char)(lo hi:Option Int):Txt.slice (toS xs) lo hi=toS (bB xs (lA xs.length lo) (mP xs.length hi)):=by
 unfold Txt.slice;rw [fw,Dx,pick_run];haveI e:(toS xs).cps.toList=xs.map Char.toNat:=by rfl
 haveI hh:=zu xs.length hi;split
 ·rename_i h;rw [BEq.rfl,hU,ak,a7,beq_iff_eq]at h;by_cases h0:xs.length=0
  ·have:xs=[]:=Cm.mp h0;subst this;simp [bB]
  ·have h1:lA xs.length lo=0:=Nat.eq_zero_of_not_pos λhp=>dK (bo (Nat.sub_lt (dT λz=>h0 (h.symm.trans ((congrArg (·-_) z).trans (Nat.zero_sub _)))) hp) hh) h;haveI h2:mP xs.length hi=xs.length:=(mO _).symm.trans ((congrArg (mP xs.length hi-·) h1).symm.trans h);simp only [h1,h2,bB,iZ];rfl
 ·simp only [e,lP];unfold toS;simp [bB,List.map_take,pB]
theorem vn(items:Array Value)(lo hi:Option Int):(slicePick items lo hi none).toList=bB items.toList (lA items.size lo) (mP items.size hi):=by
 dsimp only [slicePick];have e1:(sliceBounds lo hi none items.size).1=((lA items.size lo:Nat):Int):=by
  induction lo with
  |none=>rfl
  |some i=>exact(jr _ i).symm
 haveI e2:(sliceBounds lo hi none items.size).2.1=((mP items.size hi:Nat):Int):=by
  induction hi with
  |none=>rfl
  |some i=>exact(jr _ i).symm
 simp only [e1,e2,show(sliceBounds lo hi none items.size).2.2=1 from rfl,sliceRange_one,pick_run,lP]
theorem VRs.slice(r:VRs c as X h vs cs)(a b:Nat):VRs c as X h (bB vs a b) (bB cs a b):=(r.take b).drop a
theorem vW(hv:VR c as X h v y)(e:lF v=some o):IsPart y o/\∃l:Option (Int×Tok),y=partValue l/\l.map (·.1)=o:=by
 refine Is.of (R:=λo=>IsPart y o/\∃l:Option (Int×Tok),y=partValue l/\l.map (·.1)=o) ?_ e;clear e;cases v with
 |none=>cases hv.inv;exact⟨.none,none,rfl,rfl⟩
 |int _=>cases hv.inv;exact⟨.int _ _,some (_,_),rfl,rfl⟩
 |_=>exact trivial
section
variable {A:Around}{E:Value->Shared->Prop}{s:Shared}{as:dH}{X:List Addr}{H H₁:AH}{Q:QE}{v r:V}{lo hi:Option Int}{y yl yu:Value}
noncomputable abbrev kB(yl yu:Value):Obj:={cls:=.type "slice",data:=.fields #[yl,yu,.none]}
theorem GG(hsz:t.length<=aB)(S:SR c as X H s)(hv:VR c as X s.heap (.str t) y)(pl:∃l:Option (Int×Tok),yl=partValue l/\l.map (·.1)=lo)(pu:∃l:Option (Int×Tok),yu=partValue l/\l.map (·.1)=hi)
  (q:Q (.str (bB t (lA t.length lo) (mP t.length hi))) H):ItemOn c.M A E y (.ref s.heap.objs.size) (Res c as X s.heap Q) {s with heap:=s.heap.push (kB yl yu)}:=by
 refine av pl ?_;intro l q_2 q_3;subst q_2;subst q_3;refine av pu ?_;intro u q_2 q_3;subst q_2;subst q_3;cases hv.inv with
 |str tk hb=>
  refine⟨"str",_,F.slot_str_getitem.lookup,typeIs_str _ _ _,wpAny_getItem_str_slice (l:=l) (u:=u) (st:=none) ⟨_,ba _ rfl,rfl,rfl⟩ rfl ?_⟩;haveI hl:(bB t (lA t.length (l.map (·.1))) (mP t.length (u.map (·.1)))).length<=t.length:=by unfold bB;rw [eY,fM];exact aa (dS _ _) (i0 _ _)
  have fin:∀t' k,Res c as X s.heap Q (.str (Txt.slice (toS t) (l.map (·.1)) (u.map (·.1))) t') {s with heap:=s.heap.push (kB (partValue l) (partValue u)),toks:=k}:=λt' k=>by rw [qF];exact Res.grow (s':={s with heap:=s.heap.push (kB (partValue l) (partValue u)),toks:=k}) S (.push _ _) rfl rfl (.str _ _ (by exact eW hb (eW hl (by simp+arith only)))) q
  refine post_val_or_str (c:=_) ⟨?_,λt' k=>fin t' k⟩;show(Txt.slice (toS t) (l.map (·.1)) (u.map (·.1))).length<=sizeLine;rw [qF,fw];have:=cz;exact eW hsz (eW hl (eW this (by simp+arith only)))
theorem zn{mu:Bool}{o:Obj}{items:Array Value}(S:SR c as X H s)(hr:VRs c as X s.heap vs items.toList)(hb:vs.length<=kR)(q:hM (if mu then kI (.lst vs) H else some (.lst vs,H)) Q):Res c as X s.heap Q (.ref (s.heap.push o).objs.size) {s with heap:=(s.heap.push o).push {cls:=.type "list",data:=.seq items}}:=by
 haveI g:Grown s.heap ((s.heap.push o).push {cls:=.type "list",data:=.seq items}):=(Grown.push _ _).trans (Grown.push _ _);haveI S1:SR c as X H {s with heap:=s.heap.push o}:=S.grow (.push _ _) rfl rfl;haveI hn:s.heap.get? (s.heap.push o).objs.size=none:=by
  cases e:s.heap.get? (s.heap.push o).objs.size with
  |none=>rfl
  |some _=>exact absurd (fB e) (by rw [Heap.size_push];exact iq.mpr (bf _))
 haveI f:FreshL c as X s vs (.ref (s.heap.push o).objs.size) {s with heap:=(s.heap.push o).push {cls:=.type "list",data:=.seq items}}:=.mk _ items rfl hn (S.base_none hn) g rfl rfl ⟨_,ba _ rfl⟩ hr hb
 induction mu with
 |false=>exact f.frozen S q
 |true=>exact f.thawed S q
theorem Mb{α β:Type}{f g:α->Option β}{l:List α}(h:∀k∈l,f k=g k):l.filterMap f=l.filterMap g:=by
 induction l with
 |nil=>rfl
 |cons a l ih=>simp only [g7,g7,h a (.head _),ih λk hk=>h k (.tail _ hk)]
theorem H9{t sl:Addr}{items out:Array Value}{lo step:Int}{m:Nat}{R:Value->Shared->Prop}(ht:IsTup s.heap t items)(hs:s.TypeIs (.ref sl) "slice")
  (hap:∀(A:Around) (Q:Int×Int×Nat->Shared->Prop),Q (lo,step,m) s->wpAny c.M A (j4 (.ref sl) (pure (items.size:Int))) Q E s)
  (ho:((aX m).filterMap λ(k:Nat)=>items[(lo+(k:Int)*step).toNat]?).toArray=out)(hz:out.size<=sizeLine)
  (h1:(lo==0&&step==1&&m==items.size)=true->R (.ref t) s)
  (h2:R (.ref s.heap.objs.size) {s with heap:=s.heap.push {cls:=.type "tuple",data:=.seq out}}):wpAny c.M A (getItem (.ref t) (.ref sl)) R E s:=by
 unfold getItem
 try with_reducible refine wpAny_holding ?_
 first|refine wpAny_bind (wpAny_pure ?_)|skip
 refine wpAny_bind (wpAny_sequenceKey ht.typeIs (by decide) ?_);refine wpAny_bind (wpAny_callSpecial?_slot (name:=Str.ofString "__getitem__") ht.typeIs slot_tuple_getitem
  (wpAny_call_entry slot_tuple_getitem ht.typeIs entry_tuple_getitem ?_ (args_tuple_getitem _ _)))
 show wpAny _ _ (Builtin.Tuple.tupleItemsOf (.ref t)>>= _) _ _ s;refine wpAny_bind (tupleItemsOf_ ht ?_);refine wpAny_bind (wpAny_typeOf hs ?_);rw [if_pos (by decide)];refine wpAny_bind (hap _ _ ?_);show wpAny _ _ (if(lo==0&&step==1&&m==items.size)=true then _ else _) _ _ s;by_cases hw:(lo==0&&step==1&&m==items.size)=true
 ·rw [if_pos hw];refine wpAny_bind (wpAny_bind (wpAny_typeOf ht.typeIs (wpAny_pure ?_)));show wpAny _ _ (if(Value.type "tuple"==Value.type "tuple")=true then _ else _) _ _ s;rw [if_pos (by decide)]
  first
   |exact wpAny_bind (wpAny_rule (wpAny_pure ⟨_,rfl,wpAny_pure (h1 hw)⟩))
   |exact wpAny_bind (wpAny_rule (wpAny_bind (wpAny_pure (wpAny_pure ⟨_,rfl,wpAny_pure (h1 hw)⟩))))
 ·rw [if_neg hw,ho]
  first
   |exact wpAny_bind (m:=hV _) (wpAny_newObj_type (wpAny_pure ⟨_,rfl,wpAny_pure h2⟩) hz)
   |exact wpAny_bind (m:=hV _) (wpAny_newObj_type (wpAny_bind (wpAny_pure (wpAny_pure ⟨_,rfl,wpAny_pure h2⟩))) hz)
   |exact wpAny_bind (wpAny_bind (m:=hV _) (wpAny_newObj_type (wpAny_pure (wpAny_pure ⟨_,rfl,wpAny_pure h2⟩)) hz))
   |exact wpAny_bind (wpAny_bind (m:=hV _) (wpAny_newObj_type (wpAny_pure ⟨_,rfl,wpAny_pure h2⟩) hz))
theorem oR{v:Value}{o:Option Int}{R:Option Int->Shared->Prop}(p:IsPart v o)(h:R o s):wpAny c.M A (Builtin.Slice.slicePartIndex v) R E s:=by
 cases p with
 |none=>exact slicePart_none h
 |int i t=>exact slicePart_int h
theorem Ej{sl:Addr}{va vb vc:Value}{a b st:Option Int}{len lo hi:Int}{m:Nat}{R:Int×Int×Nat->Shared->Prop}(hs:s.heap.IsSliceOf sl va vb vc)(pa:IsPart va a)(pb:IsPart vb b)(pc:IsPart vc st)(h0:(st.getD 1==0)=false)
  (ha:gY a b (st.getD 1) len=(lo,hi))(hm:fp lo hi (st.getD 1)=m)(h:R (lo,st.getD 1,m) s) :
  wpAny c.M A (j4 (.ref sl) (pure len)) R E s:=by
 obtain⟨os,hos,hcs,hds⟩:=id hs;unfold j4 Builtin.Slice.sliceFields;refine wpAny_bind (wpAny_bind (wpAny_field hos hds (x:=va) rfl (wpAny_bind (wpAny_field hos hds (x:=vb) rfl (wpAny_bind (wpAny_field hos hds (x:=vc) rfl (wpAny_pure ?_)))))));refine wpAny_bind (oR pc ?_);show wpAny _ _ (if(st.getD 1==0)=true then _ else _) _ _ s;rw [h0,if_neg (by decide)];refine wpAny_bind (oR pa (wpAny_bind (oR pb (wpAny_bind (wpAny_pure ?_)))));show wpAny _ _ (match gY a b (st.getD 1) len with|(lo,hi)=>pure (lo,st.getD 1,fp lo hi (st.getD 1))) _ _ s;rw [ha];show wpAny _ _ (pure (lo,st.getD 1,fp lo hi (st.getD 1))) _ _ s;rw [hm];exact wpAny_pure h
theorem sV(n:Nat)(lo hi:Option Int):gY lo hi 1 (n:Int)=(((lA n lo:Nat):Int),((mP n hi:Nat):Int)):=by
 unfold gY;have c1:∀i:Int,(if i<0 then max (i+n) 0 else min i (n:Int))=((iK n i:Nat):Int):=λi=>by
  rw [jr];by_cases h:i<0
  ·rw [if_pos h,if_pos h,mR (jE (eU h) (by simp+arith only)),Int.max_comm]
  ·rw [if_neg h,if_neg h];exact(lR (Int.le_min.mpr ⟨cN.mp h,bn n⟩)).symm
 cases lo<;>cases hi<;>simp only [show ¬((1:Int)<0) by decide,if_false,c1,lA,mP]<;>rfl
theorem sQ(a b:Nat):fp (a:Int) (b:Int) 1=b-a:=by
 unfold fp;simp only [show(1:Int)>0 by decide,if_true,Ep];by_cases h:(a:Int)<b
 ·rw [if_pos h,MV];exact Int.toNat_sub b a
 ·rw [if_neg h];exact(Nat.sub_eq_zero_of_le (bW.mp (cN.mp h))).symm
theorem Ge(hsz:t.length<=aB)(S:SR c as X H s)(hv:VR c as X s.heap (.tup t) y)(pl:IsPart yl lo)(pu:IsPart yu hi)
  (q:Q (.tup (bB t (lA t.length lo) (mP t.length hi))) H):ItemOn c.M A E y (.ref s.heap.objs.size) (Res c as X s.heap Q) {s with heap:=s.heap.push (kB yl yu)}:=by
 cases hv.inv with
 |@tup addr items nn t1 t2 t3 rr t5=>
  have hl:=rr.len_arr;have z1:=cz;have ht:IsTup (s.heap.push (kB yl yu)) addr items:=⟨_,bG _ t3,rfl,_,rfl⟩;have S1:SR c as X H {s with heap:=s.heap.push (kB yl yu)}:=S.grow (.push _ _) rfl rfl;have hh:=zu items.size hi;have hpick:((aX (mP items.size hi-lA items.size lo)).filterMap λ(k:Nat)=>items[(((lA items.size lo:Nat):Int)+(k:Int)*1).toNat]?)=bB items.toList (lA items.size lo) (mP items.size hi):=by rw [<-lP,<-pick_run,qa];refine congrArg (λf=>List.filterMap f _) (funext λk=>?_);show items[(((lA items.size lo:Nat):Int)+(k:Int)*1).toNat]? =items[lA items.size lo+k]?;rw [show(((lA items.size lo:Nat):Int)+(k:Int)*1).toNat=lA items.size lo+k by rw [tZ];rfl]
  have hlen:(bB items.toList (lA items.size lo) (mP items.size hi)).length<=items.size:=by unfold bB;rw [eY,fM,bJ];exact aa (dS _ _) (i0 _ _)
  refine⟨"tuple",_,slot_tuple_getitem.lookup,ht.typeIs,H9 (step:=1) (out:=(bB items.toList (lA items.size lo) (mP items.size hi)).toArray) ht ⟨_,ba _ rfl,rfl⟩ (λA' Q' h=>Ej (st:=none) (qb ..) pl pu .none rfl (sV _ _ _) (sQ _ _) h) (by rw [hpick]) (by rw [gw];omega) (λhw=>?_) ?_⟩
  ·simp only [dC,beq_iff_eq]at hw;obtain⟨⟨hw1,_⟩,hw2⟩:=hw;have h1:lA t.length lo=0:=hl▸eV hw1;have h2:mP t.length hi=t.length:=hl▸(mO _).symm.trans ((congrArg (mP items.size hi-·) (eV hw1:lA items.size lo=0)).symm.trans hw2);rw [h1,h2,bB,iZ]at q;exact Res.grow (s':={s with heap:=s.heap.push (kB yl yu)}) S (.push _ _) rfl rfl (.tup t1 t2 (bG _ t3) (rr.grow (.push _ _)) t5) q
  ·have g:Grown s.heap ((s.heap.push (kB yl yu)).push {cls:=.type "tuple",data:=.seq (bB items.toList (lA items.size lo) (mP items.size hi)).toArray}):=(Grown.push _ _).trans (Grown.push _ _);have hr:VRs c as X s.heap (bB t (lA t.length lo) (mP t.length hi)) (bB items.toList (lA items.size lo) (mP items.size hi)):=by rw [hl];exact rr.slice _ _
   have hlen2:(bB t (lA t.length lo) (mP t.length hi)).length<=t.length:=by unfold bB;rw [eY,fM];exact aa (dS _ _) (i0 _ _)
   exact Res.grow (s':={s with heap:=_}) S g rfl rfl (.tup (gG S1) (jb S1) (ba _ rfl) (hr.grow g) (aa hlen2 t5)) q
theorem zl(items:Array Value):(slicePick items none none (some (-1))).toList=items.toList.reverse:=by
 haveI e:sliceRange ((items.size:Int)-1) (-1) (-1)=(aX items.size).map λk=>items.size-1-k:=by
  haveI h:(if(items.size:Int)-1>-1 then((items.size:Int)-1 - -1 - -1-1)/(- -1)else 0).toNat=items.size:=by
   rw [show(- -1:Int)=1 from rfl,Ep];by_cases h:(items.size:Int)-1>-1
   ·rw [if_pos h];exact congrArg tP (by simp+arith only:((items.size:Int)-1 - -1 - -1-1)=items.size)
   ·rw [if_neg h];exact(Nat.le_zero.mp (bW.mp (show(items.size:Int)<=0 from jE (cN.mp h) (by simp+arith only)))).symm
  refine(?_:(aX (if(items.size:Int)-1>-1 then((items.size:Int)-1 - -1 - -1-1)/(- -1)else 0).toNat).map _=_);rw [h];exact cn λk hk=>by simp only [Int.neg_mul,Int.one_mul];exact congrArg tP (ze (bE.mp hk))
 refine(?_:((sliceRange ((items.size:Int)-1) (-1) (-1)).filterMap (items[·]?))=_);simp only [e,qa];haveI z:=pick_run items.toList.reverse.toArray 0 items.size;rw [qa]at z;rw [show items.toList.reverse=(items.toList.reverse.drop 0).take items.size from by rw [yh,Ew];simp only [b8,bJ];exact aM _];refine Eq.trans (Mb λk hk=>?_) z;haveI hk:=bE.mp hk;refine(?_:items[items.size-1-k]? =items.toList.reverse.toArray[0+k]?);rw [dw,show items.toList.reverse.toArray[k]? =items.toList.reverse[k]? from List.getElem?_toArray,FH (by exact hk),bJ,cm]
theorem D7{mu:Bool}(S:SR c as X H s)(hv:VR c as X s.heap v y)(pl:IsPart yl lo)(pu:IsPart yu hi)(e:((d7 H v).bind λt=>if t.length<=aB then some (V.lst (bB t (lA t.length lo) (mP t.length hi)))else none)=some r)
  (q:hM (if mu then kI r H else some (r,H)) Q):ItemOn c.M A E y (.ref s.heap.objs.size) (Res c as X s.heap Q) {s with heap:=s.heap.push (kB yl yu)}:=by
 refine av (cb e) λvs hvs e=>?_;refine cY (eT e) λhz e=>?_
 (replace e:=aj e;subst e)
 obtain⟨a,items,rfl,hp,rr,hs,_⟩:=e9 S hv hvs;haveI hl:=rr.len_arr;haveI hz2:=cz;haveI hp':(s.heap.push (kB yl yu)).IsList a items:=hp.isList.imp λ_ q=>⟨bG _ q.1,q.2⟩;refine⟨"list",_,slot_list_getitem.lookup,hp'.typeIs,wpAny_getItem_list_slice hp' (qb ..) pl pu .none (by decide) ?_ (by exact eW hz (eW (au hl) (eW hz2 (by simp+arith only))))⟩;exact zn S ((vn ..).symm▸hl.symm▸rr.slice _ _) (aa (aa (au eY) (aa (dS _ _) (List.length_take_le' _ _))) hs) q
theorem Aj(S:SR c as X H s)(hv:VR c as X s.heap v y)(e:((d7 H v).bind λt=>if t.length<=aB then some (V.lst t.reverse,H)else none)=some (r,H₁))
  (q:Q r H₁):ItemOn c.M A E y (.ref s.heap.objs.size) (Res c as X s.heap Q) {s with heap:=s.heap.push {cls:=.type "slice",data:=.fields #[.none,.none,.int (-1) tk]}}:=by
 refine av (cb e) λvs hvs e=>?_;refine cY (eT e) λhz e=>?_
 (obtain⟨rfl,rfl⟩:=pW e;clear e)
 obtain⟨a,items,rfl,hp,rr,hs,_⟩:=e9 S hv hvs;haveI hl:=rr.len_arr;haveI hz2:=cz;haveI hp':(s.heap.push {cls:=.type "slice",data:=.fields #[.none,.none,.int (-1) tk]}).IsList a items:=hp.isList.imp λ_ q=>⟨bG _ q.1,q.2⟩;refine⟨"list",_,slot_list_getitem.lookup,hp'.typeIs,wpAny_getItem_list_slice hp' (qb ..) .none .none (.int _ _) (by decide) ?_ (by exact eW hz (eW (au hl) (eW hz2 (by simp+arith only))))⟩;exact zn (mu:=false) S ((zl ..).symm▸rr.reverse) (aa (au b8) hs) q
end
theorem slM(q:hM (be c.P mu .slice [v,vl,vu] H) Q):∃lo hi r,lF vl=some lo/\lF vu=some hi/\uR H v lo hi=some r/\hM (if mu then kI r H else some (r,H)) Q:=by
 have k:∀{z:V×AH},ug [v,vl,vu] H=some z->hM (if mu then kI z.1 z.2 else some z) Q->∃lo hi r,lF vl=some lo/\lF vu=some hi/\uR H v lo hi=some r/\hM (if mu then kI r H else some (r,H)) Q:=λ{z} e q=>av (cb e) λlo h1 e=>av (cb e) λhi h2 e=>av (dW e) λr h3 e=>⟨lo,hi,r,h1,h2,h3,by subst e;exact q⟩
 induction mu with
 |false=>exact dI (cJ q) λr H' e q=>k e q
 |true=>exact dI (cJ (show hM ((ug [v,vl,vu] H).bind λr=>kI r.1 r.2) Q from q)) λr H' e q=>av (cb e) λz e e2=>k e (by show hM (kI z.1 z.2) Q;exact(e2).symm▸q)
theorem zU{ve:Expr}{q p:Pos}{lo hi:Option Expr}{mu:Bool}(h₁:SE c n T ve a)(h₂:SO c n T lo b)(h₃:SO c n T hi d):SE c n T (.Subscript ve (.Slice lo hi none q) p) (.p mu .slice [a,b,d]):=by
 refine⟨?_⟩;intro env A s as X H ρ Q XX R w;refine Subscript_ (wpAny_mono (h₁.run R w) (λy s₁ r=>?_) λ_ _ e=>e);obtain⟨v,H₁,as₁,e1,S1,k1,hv,w1⟩:=r;haveI R1:=R.next e1 k1 S1
 refine wpAny_Slice (wpAny_mono (h₂.run R1 w1) (λyl s₂ r=>?_) λ_ _ e=>e.lift e1 k1);obtain⟨vl,H₂,as₂,e2,S2,k2,hvl,w2⟩:=r;refine wpAny_mono (h₃.run (R1.next e2 k2 S2) w2) (λyu s₃ r=>?_) λ_ _ e=>(e.lift e2 k2).lift e1 k1;obtain⟨vu,H₃,as₃,e3,S3,k3,hvu,w3⟩:=r;simp only [fP]at w3;refine wpAny_pure ?_;have hv3:=(hv.keep k2 e2).keep k3 e3;haveI hvl3:=hvl.keep k3 e3;obtain⟨lo',hi',r,hlo,hhi,er,q'⟩:=slM w3;clear w3 w2 w1 w hvl hv S2 S1 R1 R h₁ h₂ h₃;refine cY (vW hvl3 hlo) λpl1 pl2=>?_;obtain⟨pu1,pu2⟩:=vW hvu hhi;haveI fin:ItemOn c.M A (ERes c as X s.heap XX) y (.ref s₃.heap.objs.size) (Res c as₃ X s₃.heap Q) {s₃ with heap:=s₃.heap.push (kB yl yu)}:=by
  clear k3 e3 k2 e2 k1 e1;cases v with
  |str t=>
   obtain⟨hz,e'⟩:=eT (er:(if t.length<=aB then some (V.str (bB t (lA t.length lo') (mP t.length hi')))else none)=some r)
   (replace e':=aj e';subst e')
   induction mu with
   |false=>exact GG hz S3 hv3 pl2 pu2 q'
   |true=>exact q'.elim
  |tup t=>
   obtain⟨hz,e'⟩:=eT (er:(if t.length<=aB then some (V.tup (bB t (lA t.length lo') (mP t.length hi')))else none)=some r)
   (replace e':=aj e';subst e')
   induction mu with
   |false=>exact Ge hz S3 hv3 pl1 pu1 q'
   |true=>exact q'.elim
  |_=>exact D7 S3 hv3 pl1 pu1 er q'
 refine di fin ?_;intro T' id f1 f2 f3;exact tail_any f2 f1 (wpAny_mono f3 (λ_ _ z=>(λz=>((z.lift e3 k3).lift e2 k2).lift e1 k1) z) λ_ _ z=>z) rfl
theorem I0(h₁:SE c n T ve a)(h₂:SE c n T e b):SE c n T (.Subscript ve (.Slice none none (some e) q) p) (.p false .rev [a,b]):=by
 refine⟨?_⟩;intro env A s as X H ρ Q XX R w;refine Subscript_ (wpAny_mono (h₁.run R w) (λy s₁ r=>?_) λ_ _ e=>e);obtain⟨v,H₁,as₁,e1,S1,k1,hv,w1⟩:=r;refine wpAny_Slice (wpAny_pure (wpAny_pure (wpAny_mono (h₂.run (R.next e1 k1 S1) w1) (λyt s₂ r=>?_) λ_ _ e=>e.lift e1 k1)));obtain⟨vt,H₂,as₂,e2,S2,k2,hvt,w2⟩:=r;simp only [fP]at w2;refine dI (cJ w2) λr H' e q'=>?_;refine av (cb (e:vt.num.bind _=_)) λi hi e=>?_
 (refine cY (eT e) λe_0 e=>?_;subst e_0)
 haveI ei:=V.num_is hi;subst ei;cases hvt.inv with
 |int tk=>refine di (Aj (A:=A) (E:=ERes c as X s.heap XX) (tk:=tk) S2 (hv.keep k2 e2) e q') λT' id f1 f2 f3=>?_;exact tail_any f2 f1 (wpAny_mono f3 (λ_ _ z=>(z.lift e2 k2).lift e1 k1) λ_ _ z=>z) rfl
end
structure EOk(c:Cx)(n:Nat)(T:Tb)(e:Expr)(ex:Ex):Prop where
 se:SE c n T e ex
 st:ST c n T e ex
 ns:NS e
 nset:rp e
section
variable {c:Cx}{n:Nat}{gl:List (Str×Gl)}
theorem kW(h:rp e):behindInMarks op e=false:=by
 cases e with
 |Set a k p=>exact absurd h.symm ai
 |_=>rfl
theorem A2.imp{α β:Type}{R R':α->β->Prop}(hi:∀a b,R a b->R' a b){l:List α}{m:List β}(h:A2 R l m):A2 R' l m:=by
 induction h with
 |nil=>exact .nil
 |cons x _ ih=>exact .cons (hi _ _ x) ih
theorem mq{α β:Type}{f:α->Option β}{R:α->β->Prop}(hf:∀a,Is (f a) (R a))(l:List α):Is (jx f l) (A2 R l):=by
 induction l with
 |nil=>exact A2.nil
 |cons a l ih=>exact(hf a).bind λ_ h1=>ih.map λ_ h2=>A2.cons h1 h2
abbrev EI(c:Cx)(n:Nat)(T:Tb)(r:Expr->Option Ex):Prop:=∀e,Is (r e) (EOk c n T e)
section
variable {T:Tb}{r:Expr->Option Ex}(ih:EI c n T r)
include ih
theorem HF(v sl:Expr):Is (Li r mu v sl) (SE c n T (.Subscript v sl p)):=by
 have F:rX sl=false->Is ((r v).bind λa=>(r sl).map λb=>Ex.p false .i [a,b]) (SE c n T (.Subscript v sl p)):=λhs=>(ih v).bind λ_ h1=>(ih sl).map λ_ h2=>Dz hs h1.se h2.se;cases sl with
 |Slice lo hi st q=>
  induction st with
  |none=>exact(ih v).bind λ_ h1=>(AA (λe=>(ih e).imp λ_ q=>q.se) lo).bind λ_ h2=>(AA (λe=>(ih e).imp λ_ q=>q.se) hi).map λ_ h3=>zU h1.se h2 h3
  |some e=>
   induction lo with
   |some _=>exact trivial
   |none=>
    induction hi with
    |some _=>exact trivial
    |none=>exact(ih v).bind λ_ h1=>(ih e).map λ_ h2=>I0 h1.se h2.se
 |_=>exact F rfl
theorem jc(es:List Expr):Is (jx r es) (rx c n T es):=mq (λe=>(ih e).imp λ_ q=>⟨q.se,q.ns⟩) es
theorem Dv(C:Cok c T.gl)(sc:SC c n)(hf:∀x f,T.gl.lookup x=some (.fn f)->∃fn,c.P.fns f=some fn)
  (h1:T.glob g=some gv):Is (cGl r T args pos gv) (SE c n T (.Call (.Name g p) args [] pos)):=by
 induction gv with
 |fn i=>exact(jc ih args).map λ_ h2=>Dq C sc h1 (hf _ _ (gk h1).2.1) h2
 |bi b=>
  refine Is.ite2 (λhb=>?_) λ_=>Is.self.bind λ_ h2=>(jc ih args).map λ_ h3=>xU C h1 h3 h2;subst hb;rcases args with _|⟨x,_|⟨y,_|_⟩⟩
  ·exact trivial
  ·exact trivial
  ·refine (je y).bind λt hy=>Is.self.bind λg2 h2=>(uH g2).bind λtn h5=>Is.self.bind λty h4=>(ih x).map λ_ h3=>?_;obtain⟨_,rfl⟩:=hy;subst h5;exact xB C h1 h2 h4 h3.se h3.ns
  ·exact trivial
 |ty t=>exact Is.self.bind λ_ h2=>(jc ih args).map λ_ h3=>xz C h1 h3 h2
 |cls ms ats f=>
  rcases args with _|⟨x,_|_⟩
  ·exact trivial
  ·exact (ih x).map λ_ h3=>IL C sc h1 h3.se h3.ns
  ·exact trivial
 |_=>exact trivial
inductive AttrR(c:Cx)(n:Nat)(T:Tb)(o:Expr):Str->Ex×List Char->Prop
 |mk {x:Str} {ms:List (Str×Nat)} {ats:List Str} {f:Nat} {a:Ex} {nm:List Char}:(x,Gl.cls ms ats f)∈T.gl->toS nm∈ats->jR o=true->EOk c n T o a->AttrR c n T o (toS nm) (a,nm)
theorem sT(o:Expr)(name:Str):Is (Bd r T o name) (AttrR c n T o name):=
 Is.ite λhok=>(Ai T.gl).bind λ_ h2=>Is.ite λhin=>Is.self.bind λnm h5=>(ih o).map λ_ h7=>by obtain⟨x,hx⟩:=h2;have e:=(mC h5).1;subst e;exact .mk hx (bh.mp hin) hok h7
theorem CZ(C:Cok c T.gl)(sc:SC c n)(hf:∀x f,T.gl.lookup x=some (.fn f)->∃fn,c.P.fns f=some fn):Is (Fa r T f args kws pos) (SE c n T (.Call f args kws pos)):=by
 cases kws with
 |cons _ _=>exact trivial
 |nil=>
  cases f with
  |Name g p=>exact Is.self.bind λ_ h1=>Dv ih C sc hf h1
  |Attribute o name apos=>
   refine Is.ite λhc=>Is.ite2 (λ_=>?_) λ_=>?_
   ·exact Is.self.bind λ_ h1=>(ih o).bind λ_ h2=>(jc ih args).map λ_ h3=>s0 hc.1 hc.2 h2.se h3 h1 λq=>(ay.mp q).2
   ·refine Is.ite λhlt=>(Ai T.gl).bind λ_ h2=>Is.self.bind λ_ h4=>Is.self.bind λ_ h6=>(ih o).bind λ_ h8=>(jc ih args).map λ_ h10=>?_;refine dM h2 λx hx=>?_;replace h6:=(mC h6).1;subst h6;exact C5 (C.cl x _ _ _ hx) C sc h4 hc.1 hc.2 hlt h8.se h10
  |_=>exact trivial
theorem IS(l:List Expr):Is (MJ r l) λq=>(l=[]/\q=none)\/∃t x,l=[t]/\q=some x/\ST c n T t x:=by
 rcases l with _|⟨t,_|_⟩
 ·exact .inl ⟨rfl,rfl⟩
 ·exact Is.map (o:=(r t)) (ih t) λx h1=>.inr ⟨t,x,rfl,rfl,h1.st⟩
 ·exact trivial
theorem GH:Is (Ln r l ops rs) λex=>SE c n T (.Compare l ops rs p) ex/\ST c n T (.Compare l ops rs p) ex:=by
 rcases ops with _|⟨op,_|⟨o₂,_|_⟩⟩
 ·exact trivial
 ·rcases rs with _|⟨x,_|_⟩
  ·exact trivial
  ·exact (ih l).bind λ_ h1=>(ih x).map λ_ h2=>⟨Gy (kW h2.nset) h1.se h2.se,GU (kW h2.nset) h1.se h2.se⟩
  ·exact trivial
 ·rcases rs with _|⟨m,_|⟨x,_|_⟩⟩
  ·exact trivial
  ·exact trivial
  ·exact (ih l).bind λ_ h1=>(ih m).bind λ_ h2=>(ih x).map λ_ h3=>⟨DM (kW h3.nset) h1.se h2.se h3.se,C6 (kW h3.nset) h1.se h2.se h3.se⟩
  ·exact trivial
 ·exact trivial
end
inductive CompR(c:Cx)(n:Nat)(T:Tb)(elt:Expr)(scope:Scope):List Comprehension->Ex->Prop
 |mk {x:Str} {px:Pos} {iter:Expr} {ifs:List Expr} {b i:Ex} {cond:Option Ex} {mu:Bool}:CompF T x scope->rp iter->SE c n T iter i->SE c n (mT T x scope) elt b->
   ((ifs=[]/\cond=none)\/∃t q,ifs=[t]/\cond=some q/\ST c n (mT T x scope) t q)->CompR c n T elt scope [⟨.Name x px,iter,ifs,0⟩] (.comp mu b i cond)
theorem vX(ih:∀{T':Tb},T'.gl=T.gl->EI c n T' (cE k T')) :
  Is (EV (cE k) T elt gens scope pos) (CompR c n T elt scope gens):=by
 rcases gens with _|⟨⟨t,it,ifs,ia⟩,_|_⟩
 ·exact trivial
 ·refine (je t).bind λx h1=>Is.ite λhc=>(ih rfl it).bind λ_ h2=>(ih (T':=mT T x scope) rfl elt).bind λ_ h3=>(IS (ih (T':=mT T x scope) rfl) ifs).map λ_ h4=>?_;obtain⟨_,rfl⟩:=h1;obtain⟨h,hok⟩:=hc;subst h;exact .mk (MA hok) h2.nset h2.se h3.se h4
 ·exact trivial
theorem eP(hp:∀env whole,isTrue e env whole=(do let v <-whole;standAt e.pos;holding [v] (truthy v)))(ns:NS e)(nset:rp e)(h:SE c n T e ex):EOk c n T e ex:=⟨h,Ar hp h,ns,nset⟩
theorem wP(C:Cok c gl)(sc:SC c n)(hf:∀x f,gl.lookup x=some (.fn f)->∃fn,c.P.fns f=some fn)(k:Nat):∀{T:Tb},T.gl=gl->EI c n T (cE k T):=by
 induction k with
 |zero=>exact λ_ _=>trivial
 |succ k ih=>
  intro T hg e;subst hg;have iht:=ih rfl;cases e with
  |Constant a b d=>exact Is.to λ_ h=>eP (λ_ _=>rfl) rfl rfl (BO h)
  |Name a b=>exact Is.to λ_ h=>eP (λ_ _=>rfl) rfl rfl (DX C h)
  |BinOp l op r pos=>exact Is.self.bind λ_ h1=>(iht l).bind λ_ h2=>(iht r).bind λ_ h3=>Is.ite2 (λho=>eP (λ_ _=>rfl) rfl rfl (Hv h1 ho.1 h2.se h3.se)) λ_=>eP (λ_ _=>rfl) rfl rfl (zK h1 h2.se h3.se)
  |UnaryOp op x p=>
   refine(iht x).bind λ_ h1=>?_
   induction op with
   |Not=>exact⟨I7 h1.se,Hy h1.st,rfl,rfl⟩
   |USub=>exact eP (λ_ _=>rfl) rfl rfl (HX h1.se)
   |_=>exact trivial
  |BoolOp op vs p=>exact(mq iht vs).bind λ_ q=>Is.to λ_ h2=>⟨⟨λR w=>Dw (q.imp λ_ _ x=>x.se) h2 R w⟩,⟨λhP R w=>Dl (q.imp λ_ _ x=>x.st) h2 hP R w⟩,rfl,rfl⟩
  |Compare l ops rs p=>exact(GH iht).imp λ_ h=>⟨h.1,h.2,rfl,rfl⟩
  |Call f args kws pos=>exact(CZ iht C sc hf).imp λ_=>eP (λ_ _=>rfl) rfl rfl
  |Subscript v sl p=>exact(HF iht v sl).imp λ_=>eP (λ_ _=>rfl) rfl rfl
  |List es pos=>exact(jc iht es).map λ_ h1=>eP (λ_ _=>rfl) rfl rfl (CL h1)
  |Tuple es kk pos=>exact(jc iht es).map λ_ h1=>eP (λ_ _=>rfl) rfl rfl (Hl h1)
  |Dict ks vs p=>
   refine Is.imp (R:=SE c n T (.Dict ks vs p)) (Is.ite2 (λ_=>Is.ite λhc=>(mq yW ks).bind λ_ h1=>(jc iht vs).map λ_ h2=>DU C h1 h2 hc.1 hc.2) λ_=>?_) λ_=>eP (λ_ _=>rfl) rfl rfl;rcases ks with _|⟨_|ke,_|_⟩
   ·exact trivial
   ·exact trivial
   ·exact trivial
   ·rcases vs with _|⟨ve,_|_⟩
    ·exact trivial
    ·exact (iht ke).bind λ_ h1=>(iht ve).map λ_ h2=>zg C h1.se h2.se
    ·exact trivial
   ·exact trivial
  |ListComp elt gens scope pos=>exact(vX ih).imp λ_ h=>by induction h with|mk ok hns hi he hc=>exact eP (λ_ _=>rfl) rfl rfl (DJ ok hns hi he hc)
  |Attribute o name pos=>exact(sT iht o name).map λ_ h=>by induction h with|mk hx hat hok h1=>exact eP (λ_ _=>rfl) rfl rfl (CR (C.cl _ _ _ _ hx) hat hok h1.se)
  |_=>exact trivial
end
noncomputable abbrev own(env:Env):List Addr:=env.locals::env.cells.map (·.2)
noncomputable abbrev iW(env:Env):List Addr:=env.locals::own env
theorem FR.away'(_F:FR c as X h env tab ρ)(ha:a∉own env):rN [a] env tab:=
 ⟨λq=>ha (by replace q:=in1 q;subst q;exact .head _),λx i h1 h2 b e q=>ha (by replace q:=in1 q;subst q;exact .tail _ (aK.mpr ⟨(x,b),mem_of_lookup e,rfl⟩))⟩
def ResS(c:Cx)(as:dH)(X:List Addr)(h:HP)(T:Tb)(env:Env)(K:KS)(R:QE)(f:Flow)(s':Shared):Prop:=
 match f with
 |.next=>∃ρ' H' as',Ext as h as'/\SR c as' X H' s'/\KeptX as X (own env) h s'.heap/\FR c as' X s'.heap env T.tab ρ'/\ρ'.length=T.n/\K ρ' H'
 |.ret x=>∃v H' as',Ext as h as'/\SR c as' X H' s'/\KeptX as X (own env) h s'.heap/\VR c as' X s'.heap v x/\R v H'
 |_=>False
inductive EResS(c:Cx)(as:dH)(X:List Addr)(h:HP)(env:Env)(XX:XE)(x:Value)(s':Shared):Prop
 |mk (k:Nat) (H':AH) (as':dH) (e:Addr) (t:Option Addr) (ts:List Addr):x=.ref e->Ext as h as'->SR c as' (e::(ts++X)) H' s'->KeptX as X (own env) h s'.heap->ExcS s'.heap e (.ref (c.xcls k)) t->(∀T,t=some T->T∈ts)->(∀a∈e::ts,vJ c as h as' X a)->(∃m,s'.heap.Ns env.locals m)->XX k H'->EResS c as X h env XX x s'
structure Own(A:Around)(X:List Addr)(env:Env):Prop where
 mem:∀b∈own env,b∈X
 fr:env.frame=some env.locals
 out:∀l,A.frames=some l->∀e∈l,∀L,e.frame=some L->L∉env.cells.map (·.2)
theorem Own.more(o:Own A X env):Own A (I::X) env:=⟨λb hb=>.tail _ (o.mem b hb),o.fr,o.out⟩
theorem EnvFr.step{c:Cx}{A:Around}{X:List Addr}{as as':dH}{h h':HP}{env:Env}(f:EnvFr c A X as h env)(o:Own A X env)(E:Ext as h as')(k:KeptX as X (own env) h h')(hn:∃m,h'.Ns env.locals m)(lo:env.locals∉as'):EnvFr c A X as' h' env:=by
 obtain⟨env₀,outer,L,h1,h2,h3,h4⟩:=f;refine⟨env₀,outer,L,h1,λa ha=>⟨(h2 a ha).kind,?_⟩,h3,h4⟩;refine nr ((h2 a ha).there) λL' ob es n q1 q2 q3 q4 q5 q6=>?_;by_cases hL:L'=env.locals
 ·exact hn.elim λm hn=>ja hn λob' es' ep e1 e2 _=>⟨L',ob',es',ep,q1,q2,q3,hL▸lo,hL▸e1,e2⟩
 ·exact av (k L' ob q5 q4 λq=>eC q hL λq=>o.out _ h1 a ha L' q1 q) λob' e1 s=>⟨L',ob',es,n,q1,q2,q3,E.out q5 q4,e1,s.elim (λs=>s▸q6) λs=>s.2.2.elim λsl s=>s▸q6⟩
theorem KeptX.trans(k:KeptX as X Y h h₁)(x:Ext as h as₁)(k':KeptX as₁ X Y h₁ h₂):KeptX as X Y h h₂:=λb o e hb hy=>by refine av (k b o e hb hy) ?_;intro o₁ e₁ s₁;refine av (k' b o₁ e₁ (x.out e hb) hy) ?_;intro o₂ e₂ s₂;exact⟨o₂,e₂,s₁.trans s₂⟩
theorem KeptX.fr(k:KeptX as X Y h h')(hY:∀b∈Y,∃o,h'.get? b=some o)(ha:h'.get? a=none):Fr as h a:=
 (Classical.em (a∈as)).imp id λhm=>fS (o:=h.get? a) id λo hq=>(Classical.em (a∈Y)).elim (λhy=>(hY a hy).elim λ_ e=>fm (ha.symm.trans e)) λhy=>av (k a o hq hm hy) λ_ e _=>fm (ha.symm.trans e)
theorem Ext.transX(x:Ext as h as₁)(k:KeptX as X Y h h₁)(hY:∀b∈Y,∃o,h₁.get? b=some o)(y:Ext as₁ h₁ as₂):Ext as h as₂:=
 ⟨λi a e=>y.old i a (x.old i a e),λa ha=>(y.new a ha).elim (x.new a) (k.fr hY)⟩
theorem KeptX.less(k:KeptX as X' Y h h')(hX:∀b,2<=X'.count b->2<=X.count b\/Fr as h b):KeptX as X Y h h':=λb o e hb hy=>by refine av (k b o e hb hy) ?_;intro o' e' s;exact⟨o',e',s.mono λq=>(hX b q).elim id λr=>r.elim (λr=>absurd r hb) λr=>by replace e:=r.symm.trans e;cases e⟩
theorem KeptX.more(k:KeptX as X Y h h')(hX:∀b,X.count b<=X'.count b):KeptX as X' Y h h':=λb o e hb hy=>by refine av (k b o e hb hy) ?_;intro o' e' s;exact⟨o',e',s.mono λq=>aa q (hX b)⟩
theorem KeptX.but(k:KeptX as X Y h₀ h)(b:But Z h h')(hZ:∀a∈Z,Fr as h₀ a)  :KeptX as X Y h₀ h':=λx o e hx hy=>by refine av (k x o e hx hy) ?_;intro o' e' s;exact⟨o',b x o' (λq=>by refine Or.elim (hZ _ q) (λr=>?_) λr=>?_;exact hx r;replace e:=r.symm.trans e;exact fm e) e',s⟩
theorem ResS.lift{K:KS}{R:QE}(e:Ext as h as₁)(k:KeptX as X (own env) h h₁)(hY:∀b∈own env,∃o,h₁.get? b=some o)(r:ResS c as₁ X h₁ T env K R f s'):ResS c as X h T env K R f s':=by
 induction f with
 |next=>refine g9 r ?_;intro ρ' H' as' e' S k' F hl q;exact⟨ρ',H',as',e.transX k hY e',S,k.trans e k',F,hl,q⟩
 |ret x=>refine oU r ?_;intro v H' as' e' S k' hv q;exact⟨v,H',as',e.transX k hY e',S,k.trans e k',hv,q⟩
 |_=>exact r.elim
theorem EResS.lift(e:Ext as h as₁)(k:KeptX as X (own env) h h₁)(hY:∀b∈own env,∃o,h₁.get? b=some o)(r:EResS c as₁ X h₁ env XX x s'):EResS c as X h env XX x s':=by obtain⟨n,H',as',a,t,ts,hx,e',S,k',ex,ht,ap,hn,q⟩:=r;exact⟨n,H',as',a,t,ts,hx,e.transX k hY e',S,k.trans e k',ex,ht,λb hb=>⟨(ap b hb).1.elim (e.new b) (k.fr hY),(ap b hb).2⟩,hn,q⟩
theorem ERes.none(r:ERes c as X h (λ_ _=>False) x s'):False:=by obtain⟨_,_,_,_,_,_,_,_,_,_,_,_,_,q⟩:=r;exact q
theorem EResS.none(r:EResS c as X h env (λ_ _=>False) x s'):False:=by obtain⟨_,_,_,_,_,_,_,_,_,_,_,_,_,_,q⟩:=r;exact q
theorem ERes.toS(r:ERes c as X h XX x s')(F:FR c as X h env tab ρ):EResS c as X h env XX x s':=by haveI hn:=r.nsC (F.ns.imp λ_ h=>h.1) F.lout;obtain⟨n,H',as',a,t,ts,hx,e',S,k',ex,ht,ap,q⟩:=r;exact⟨n,H',as',a,t,ts,hx,e',S,k'.y _,ex,ht,ap,hn,q⟩
theorem ResS.mono{K K':KS}{R:QE}(r:ResS c as X h T env K R f s')(hK:∀ρ H,K ρ H->K' ρ H):ResS c as X h T env K' R f s':=by
 induction f with
 |next=>refine g9 r ?_;intro ρ' H' as' e' S k' F hl q;exact⟨ρ',H',as',e',S,k',F,hl,hK _ _ q⟩
 |ret x=>exact r
 |_=>exact r.elim
structure SS(c:Cx)(n:Nat)(T:Tb)(st:Stmt)(sts:List St):Prop where
 run:∀{env:Env} {A:Around} {s:Shared} {as:dH} {X:List Addr} {H:AH} {ρ:Fm} {K:KS} {R:QE} {XX:XE},
  Rdy c T env A n s as X H ρ->Own A X env->a8 c.P (aQ c.P n) sts ρ H K R XX->wpAny c.M A (exec st env) (ResS c as X s.heap T env K R) (EResS c as X s.heap env XX) s
structure SB(c:Cx)(n:Nat)(T:Tb)(b:List Stmt)(sts:List St):Prop where
 run:∀{env:Env} {A:Around} {s:Shared} {as:dH} {X:List Addr} {H:AH} {ρ:Fm} {K:KS} {R:QE} {XX:XE},
  Rdy c T env A n s as X H ρ->Own A X env->a8 c.P (aQ c.P n) sts ρ H K R XX->wpAny c.M A (execs b env) (ResS c as X s.heap T env K R) (EResS c as X s.heap env XX) s
theorem ta{P:Prog}{C:Calls}{R:QE}{X:XE}{ys:List St}{K:KS}{xs:List St}:∀{ρ:Fm} {H:AH},a8 P C (xs++ys) ρ H K R X=a8 P C xs ρ H (λρ' H'=>a8 P C ys ρ' H' K R X) R X:=by
 induction xs with
 |nil=>exact rfl
 |cons s xs ih=>exact λ{ρ H}=>congrArg (λk=>sJ P C s ρ H k R X) (funext λ_=>funext λ_=>ih)
section
variable {c:Cx}{n:Nat}{T:Tb}
theorem Rdy.step(R:Rdy c T env A n s as X H ρ)(hY:Own A X env)(e:Ext as s.heap as₁)(k:KeptX as X (own env) s.heap s₁.heap)(S:SR c as₁ X H₁ s₁)(F:FR c as₁ X s₁.heap env T.tab ρ₁)(hl:ρ₁.length=T.n):Rdy c T env A n s₁ as₁ X H₁ ρ₁:=⟨R.a,S,F,R.K,hl,R.fr.step hY e k (F.ns.imp λ_ h=>h.1) F.lout⟩
theorem Fu(h:A2 (SS c n T) b xss):SB c n T b xss.flatten:=by
 induction h with
 |nil=>refine⟨?_⟩;intro env A s as X H ρ K R XX r hY w;exact wpAny_execs_nil ⟨ρ,H,as,.refl ..,r.S,λb o e _ _=>⟨o,e,.inl rfl⟩,r.F,r.len,w⟩
 |@cons st xs l m h₁ _ ih=>
  refine⟨?_⟩;intro env A s as X H ρ K R XX r hY w;simp only [List.flatten_cons,ta]at w;refine wpAny_execs_cons (wpAny_mono (h₁.run r hY w) (λf s₁ q=>?_) λ_ _ e=>e)
  induction f with
  |next=>refine g9 q ?_;intro ρ₁ H₁ as₁ e1 S1 k1 F1 hl1 w1;exact wpAny_mono (ih.run (r.step hY e1 k1 S1 F1 hl1) hY w1) (λf s₂ q=>q.lift e1 k1 λb hb=>S1.xs b (hY.mem b hb)) λ_ _ e=>e.lift e1 k1 λb hb=>S1.xs b (hY.mem b hb)
  |ret x=>exact q
  |_=>exact q.elim
theorem Res.toS{K:KS}{Q:QE}(r:Res c as X h Q x s'):ResS c as X h T env K Q (.ret x) s':=by obtain⟨v,H',as',e,S,k,hv,q⟩:=r;exact⟨v,H',as',e,S,k.y _,hv,q⟩
theorem Ja(h:SE c n T e ex):SS c n T (.Return (some e) pos) [.ret ex]:=by refine⟨?_⟩;intro env A s as X H ρ K R XX r hY w;simp only [qe,xf]at w;exact wpAny_Return_some (wpAny_mono (h.run r w) (λ_ _ q=>q.toS) λ_ _ e=>e.toS r.F)
theorem Eh:SS c n T (.Return none pos) [.ret (.c .none)]:=by refine⟨?_⟩;intro env A s as X H ρ K R XX r hY w;simp only [qe,xf,D8]at w;exact wpAny_Return_none ⟨.none,H,as,.refl ..,r.S,λb o e _ _=>⟨o,e,.inl rfl⟩,.none,w⟩
theorem Eg:SS c n T (.Pass pos) [.pass]:=by refine⟨?_⟩;intro env A s as X H ρ K R XX r hY w;exact wpAny_Pass ⟨ρ,H,as,.refl ..,r.S,λb o e _ _=>⟨o,e,.inl rfl⟩,r.F,r.len,w⟩
structure S1(c:Cx)(n:Nat)(T:Tb)(st:Stmt)(x:St):Prop where
 run:∀{env:Env} {A:Around} {s:Shared} {as:dH} {X:List Addr} {H:AH} {ρ:Fm} {K:KS} {R:QE} {XX:XE},
  Rdy c T env A n s as X H ρ->Own A X env->sJ c.P (aQ c.P n) x ρ H K R XX->wpAny c.M A (exec st env) (ResS c as X s.heap T env K R) (EResS c as X s.heap env XX) s
theorem Di(hc:jT e=false)(h:SE c n T e ex):S1 c n T (.Expr e pos) (.e ex):=by
 refine⟨?_⟩;intro env A s as X H ρ K R XX r hY w;simp only [z4]at w;haveI hi:interactive env=false:=by dsimp only [interactive];rw [r.F.kind];rfl
 haveI hs:swapsWith e none pos.line env=pure false:=by cases e<;>first|rfl|cases hc
 rw [exec_Expr env e pos hi hs];refine wpAny_bind (wpAny_standAt (wpAny_bind (wpAny_mono (h.run r w) (λv s₁ q=>?_) λ_ _ e=>e.toS r.F)));obtain⟨v,H',as',e,S,k,hv,q⟩:=q;exact wpAny_dropValue ⟨ρ,H',as',e,S,k.y _,r.F.keep k e,r.len,q⟩
theorem LL(h:ST c n T t ex)(ha:SB c n T a xs)(hb:SB c n T b ys):S1 c n T (.If t a b pos) (.ite ex xs ys):=by
 refine⟨?_⟩;intro env A s as X H ρ K R XX r hY w;simp only [C1]at w;refine wpAny_If (wpAny_mono (h.run (Q:=λt H'=>if t then a8 c.P (aQ c.P n) xs ρ H' K R XX else a8 c.P (aQ c.P n) ys ρ H' K R XX) (λ_ _ q=>q) r w) (λt s₁ q=>?_) λ_ _ e=>e.toS r.F);obtain⟨H',as',e,S,k,q⟩:=q;haveI r':=r.next e k S
 induction t with
 |true=>simp only [if_true]at q ⊢;exact wpAny_mono (ha.run r' hY q) (λ_ _ q=>q.lift e (k.y _) λb hb=>S.xs b (hY.mem b hb)) λ_ _ e'=>e'.lift e (k.y _) λb hb=>S.xs b (hY.mem b hb)
 |false=>simp only [p9,if_false]at q ⊢;exact wpAny_mono (hb.run r' hY q) (λ_ _ q=>q.lift e (k.y _) λb hb=>S.xs b (hY.mem b hb)) λ_ _ e'=>e'.lift e (k.y _) λb hb=>S.xs b (hY.mem b hb)
theorem mm(K:KOk T env)(h:T.slot x=some i):T.tab.lookup x=some i/\(env.kindOf x=some .local\/env.kindOf x=some .cell)/\i<T.n:=
 Is.of (R:=λi=>T.tab.lookup x=some i/\(env.kindOf x=some .local\/env.kindOf x=some .cell)/\i<T.n) (Is.bind Is.self λk hk=>Is.ite λhq=>Is.bind (R:=λj=>T.tab.lookup x=some j) Is.self λj hj=>Is.ite (o:=some j) λhlt=>And.intro hj ⟨hq.imp (λq=>K.loc x (hk.trans (congrArg some q))) λq=>K.cell x (hk.trans (congrArg some q)),hlt⟩) h
theorem yx(hi:T.slot x=some i)(h:SE c n T e ex){K:KS}{R:QE}{XX:XE}
  (r:Rdy c T env A n s as X H ρ)(hY:Own A X env)(w:sJ c.P (aQ c.P n) (.a i ex) ρ H K R XX)(hs:swapsWith e (some (.Name x px)) pos.line env=pure false) :
  wpAny c.M A (exec (.Assign [.Name x px] e pos) env) (ResS c as X s.heap T env K R) (EResS c as X s.heap env XX) s:=by
 refine dQ (mm r.K hi) ?_;intro h1 h2 h3;simp only [wX]at w;refine wpAny_Assign_Name (wpAny_mono (h.run r w) (λy s₁ q=>?_) λ_ _ e=>e.toS r.F) hs;obtain⟨v,H₁,as₁,e1,S1,k1,hv,hl,q⟩:=q;refine kO S1 (r.F.keep k1 e1) h1 h2 hl hv λs₂ st=>?_;obtain⟨S2,k2,F2⟩:=st;exact ResS.lift e1 (k1.y _) (λb hb=>S1.xs b (hY.mem b hb)) ⟨_,H₁,as₁,.refl ..,S2,k2,F2,by exact(aU).symm▸r.len,q⟩
end
section
variable {c:Cx}{n:Nat}{T:Tb}
theorem yz(C:Cok c T.gl)(hg:T.glob x=some (.exc k)):S1 c n T (.Raise (some (.Call (.Name x np) [.Constant (.str m) kk mp] [] cpos)) none pos) (.raise k):=by
 refine⟨?_⟩;intro env A s as X H ρ K R XX r hY w;simp only [xV]at w;refine cY (C.gl x _ (gk hg).2.1) λhm hk=>?_;refine av (C.x k hk) ?_;intro bm xc _;have xb:(bm).contains (.type "BaseException")=true:=by obtain⟨_,_,_,tl⟩:=xc;exact tl.has (by decide)
 obtain⟨hC,hN,hmN,tl⟩:=xc.keeps r.S.stays;refine wpAny_Raise_call_subT F.excBase_ValueError xb r.a.hh rfl (hmN _ (.head _)) (jK C hg r (.inl hm) ⟨rfl,evalArgs_plain (spliced_cons (Constant_str (k:=kk) (pos:=mp) (spliced_nil ⟨rfl,(by decide:1<=sizeLine),hC,hN,tl.tail,λh' e me=>?_⟩)))⟩);refine c7 me.there ?_;intro t he ht _;have g:Grown s.heap h':=me.keeps;refine⟨k,H,as,e,none,[],rfl,.refl ..,r.S.opens (s':={s with heap:=h',toks:=_}) g (d0 (.inr me.new) λ_ hb=>.inl hb:∀b∈e::([]++X),b∈X\/s.heap.get? b=none) (d0 ⟨_,he⟩ λb hb=>(r.S.xs b hb).imp λ_ eo=>g _ _ eo) rfl rfl,(g.kept as X).y _,.fresh he rfl rfl rfl rfl rfl,nofun,dz ⟨.inr me.new,r.S.not_as me.new,r.S.not_x me.new,r.S.base_none me.new⟩,r.F.ns.imp λm h=>h.1.at λo e=>g _ o e,w⟩
theorem ExcS.obj(x:ExcS h e cls t):∃oe vs,h.get? e=some oe/\oe.cls=cls/\oe.data=.fields vs/\vs[2]? =some .none:=by
 induction x with
 |fresh he hc hd hsz v1 v2=>exact⟨_,_,he,hc,hd,v2⟩
 |traced he hc hd hsz v1 v2=>exact⟨_,_,he,hc,hd,v2⟩
theorem ExcS.trc{e T:Addr}{cls:Value}(x:ExcS h e cls (some T)):∃o,h.get? T=some o:=by cases x with|traced he hc hd hsz v1 v2 hTe hT=>exact⟨_,hT⟩
theorem CU{l:List Env}{a:Addr}{o o':Obj}(h2:∀ev∈l,FrE c X as h ev)(ho:h.get? a=some o)(q:o'=o\/a∈l.filterMap (·.frame)/\∃sl,o'={o with slots:=sl}):SameO X a o o':=
 q.imp id λq=>av (p5.mp q.1) λev he hf=>nr ((h2 ev he).there) λL' ob es m q1 _ q3 _ q5 q6=>by cases q1.symm.trans hf;cases q5.symm.trans ho;exact⟨q3,⟨es,m,q6⟩,q.2⟩
theorem yT{env₀:Env}{outer:List Env}{Y:List Addr}{s₀ s:Shared}{as as':dH}{X:List Addr}{H':AH}{e:Addr}{ts S:List Addr}{h':HP}{tk:Nat}
  (S':SR c as' (e::(ts++X)) H' s)(k':KeptX as X Y s₀.heap s.heap)(h2:∀ev∈env₀::outer,FrE c X as' s.heap ev)(ap:∀a∈e::ts,vJ c as s₀.heap as' X a)
  (tc:Touch S ((env₀::outer).filterMap (·.frame)) s.heap h')(hS:∀a∈S,a∈e::ts\/s.heap.get? a=none) :
  SR c as' X H' {s with heap:=h',toks:=tk}/\KeptX as X Y s₀.heap h':=by
 have out:∀a o,s.heap.get? a=some o->a∉e::ts->∃o',h'.get? a=some o'/\(o'=o\/a∈(env₀::outer).filterMap (·.frame)/\∃sl,o'={o with slots:=sl}):=λa o ho ha=>tc.out ho λq=>(hS a q).elim ha λr=>fm (r.symm.trans ho);have inX:∀a,a∈X->a∈e::(ts++X):=λa q=>.tail _ (az _ q);refine⟨S'.but (s':={s with heap:=h',toks:=tk}) (Z:=(e::ts)++(env₀::outer).filterMap (·.frame)) (λa o ha ho=>?_) (dk (λa ha=>⟨aI X ha,(ap a ha).2.2.2⟩) λa ha=>⟨inX a (FrE.mem h2 ha).1,(FrE.mem h2 ha).2⟩) inX (λa ha _=>(S'.xs a (inX a ha)).elim λo eo=>(tc a o eo).imp λ_ q=>q.1) rfl rfl,λa o eo ha hy=>?_⟩
 ·exact av (out a o ho λq=>ha (aI _ q)) λo' e1 q=>q.elim (λq=>q▸e1) λq=>absurd (az _ q.1) ha
 ·exact av (k' a o eo ha hy) λo₁ e₁ s₁=>(out a o₁ e₁ λq=>(ap a q).1.elim ha λr=>fm (r.symm.trans eo)).imp λo₂ q=>⟨q.1,s₁.trans (CU h2 e₁ q.2)⟩
theorem fly(tc:Touch (T₂::e::t) fs h₀ h)(ex':ExcS h' e cls (some T₂))(hk:∀b,b≠T₂->h'.get? b=h.get? b):Touch (T₂::e::t) fs h₀ h':=tc.trans λb o eb=>by
 by_cases hb:b=T₂
 ·exact ex'.trc.imp λo e=>⟨hb▸e,.inl (hb▸.head _)⟩
 ·exact ⟨o,(hk b hb).trans eb,.inr (.inl rfl)⟩
inductive Ct(c:Cx)(as as':dH)(X Y:List Addr)(H':AH)(kx:Nat)(h:HP)(s₁:Shared)(e:Addr)(h₃:HP):Prop
 |mk (T₂:Addr):ExcS h₃ e (.ref (c.xcls kx)) (some T₂)->(∀h₄,ExcS h₄ e (.ref (c.xcls kx)) (some T₂)->(∀b,b≠T₂->h₄.get? b=h₃.get? b)->SR c as' X H' {s₁ with heap:=h₄}/\KeptX as X Y h h₄)->Ct c as as' X Y H' kx h s₁ e h₃
theorem wJ{Q:Flow->Shared->Prop}{E:Value->Shared->Prop}(C:Cok c T.gl)(hg:T.glob x=some (.exc j))(r:Rdy c T env A n s as X H ρ)(hy:y=.ref e)(f:EnvFr c A X as' s₁.heap env)(S':SR c as' (e::(ts++X)) H' s₁)(k':KeptX as X Y s.heap s₁.heap)(ex:ExcS s₁.heap e (.ref (c.xcls kx)) t)(ht:∀T,t=some T->T∈ts)(ap:∀a∈e::ts,vJ c as s.heap as' X a)(hsub:(c.P.sub kx kx&&c.P.sub kx j)=true)
  (k:∀h₃,Ct c as as' X Y H' kx s.heap s₁ e h₃->codeAny c.M (A.mark (some (.ref e))) (.handlers (.ref e) [.ExceptHandler none nm body hp] env) (λr s₂=>match r with
     |.ok f=>(match nm with
      |none=>Q f s₂
      |some n=>wpAny c.M A (do bindName env n .none;unbindBehindTheSuite env n hp) (λ_ s₃=>Q f s₃) E s₂)
     |.error x=>cameBackBy c.M A env E x s₂) {s₁ with heap:=h₃}) :
  wpAny c.M A (noteFrame y env) (λ_ s₂=>wpAny c.M A (setFlight y none) (λ_ s₃=>wpAny c.M A (handleBy y env [.ExceptHandler (some (.Name x xp)) nm body hp]) Q E s₃) E s₂) E s₁:=by
 subst hy;obtain⟨env₀,outer,L,h1,h2,h3,h4⟩:=f;refine tE h1 (FrOk.fun h2) h3 h4 ex λh₂ T₂ ex₂ hT tc₂=>?_;have hS:∀a∈T₂::e::t.toList,a∈e::ts\/s₁.heap.get? a=none:=d0 (hT.imp (λh=>.tail _ (ht _ h)) id) (d0 (.inl (.head _)) λa ha=>.inl (.tail _ (ht a (iE.mp ha))));refine jJ ex₂ λh₃ ex₃ hk₃=>?_;have tc₃:=fly (tc₂.mono λb q=>.tail _ q) ex₃ hk₃;have st:c.base.StaysIn h₃:=(yT (tk:=0) S' k' h2 ap tc₃ hS).1.stays;have ss:=ay.mp hsub;refine av (C.x kx ss.1) λbm xk xs=>av (C.x j (C.gl x _ (gk hg).2.1).2) λbm' xj _=>?_;refine wpAny_handleBy_cons (codeAny_handlers_test (mx C hg r.F.kind r.F.glob r.F.bi r.K st (.inl (C.gl x _ (gk hg).2.1).1) ?_)) nofun;refine di ex₃.obj λoe _ he hcl _=>DY (xk.keeps st) (xj.keeps st) he hcl ((xs x j (gk hg).2.1).trans ss.2) ?_;exact k h₃ ⟨T₂,ex₃,λh₄ ex₄ hk₄=>yT (tk:=s₁.toks) S' k' h2 ap (fly tc₃ ex₄ hk₄) hS⟩
theorem Ii(C:Cok c T.gl)(hg:T.glob x=some (.exc j))(hb:SB c n T b bs)(hr:HdR t he) :
  S1 c n T (.Try b [.ExceptHandler (some (.Name x xp)) none [.Return (some he) p'] hp] [] [] pos) (.try_ bs j t):=by
 refine⟨?_⟩;intro env A s as X H ρ K R XX r hY w;refine wpAny_Try_except (wpAny_mono (hb.run r hY w) (λf s₁ q=>?_) λy s₁ q=>?_)
 ·induction f with
  |next=>exact wpAny_execs_nil q
  |_=>exact q
 refine q.rec λkx H' as' e tt ts hx e' S' k' ex ht ap hn hw=>wJ C hg r hx (r.fr.step hY e' k' hn λq=>(cB q).elim λi hi=>(S'.objs i _ hi).2.1 (.tail _ (az _ (hY.mem _ (.head _))))) S' k' ex ht ap hw.1 λh₃ ct=>ct.rec λT₂ ex₃ fin=>?_;refine codeAny_handlers_suite (jJ ex₃ λh₄ ex₄ hk₄=>wpAny_execs_cons (wpAny_Return_some ?_));have qq:=fin h₄ ex₄ hk₄;cases hr with
 |none=>exact Constant_none ⟨.none,H',as',e',qq.1,qq.2,.none,hw.2⟩
 |lst=>refine List_ (spliced_nil (sP qq.1 .nil rfl λz s₅ f=>?_));obtain⟨v,H₁,as₁,e1,S1,k1,hv,rfl,rfl⟩:=f.frozen (Q:=λv H=>v=.lst []/\H=H') qq.1 ⟨rfl,rfl⟩;exact ResS.lift (f:=.ret z) e' qq.2 (λb hb=>qq.1.xs b (hY.mem b hb)) ⟨_,_,as₁,e1,S1,k1.y _,hv,hw.2⟩
theorem DL{E:Value->Shared->Prop}{Q:Value->Shared->Prop}(C:Cok c T.gl)(K:KOk T env)(F:FR c as X s.heap env T.tab ρ)(st:c.base.StaysIn s.heap)(n5:s.heap.Ns env.locals m)(ku:env.kindOf u=some .local)(kl:env.kindOf y=some .local)(hu3:(u==("__debug__":Str))=false)(hy3:(y==("__debug__":Str))=false)(eu:m u=some yu)(vu:VR c as X h₀ (.int zz) yu)(ey:m y=some (.ref e))(he:s.heap.get? e=some oe)(hcl:oe.cls=.ref (c.xcls kx))(hkk:c.P.sub kx kx=true)(hin:InR T y d ie)(q:∀tk tk',Q (.int (zz+if c.P.sub kx d then 1 else 0) tk') {s with toks:=tk}):wpAny c.M A (eval (.BinOp (.Name u p2) .Add ie p3) env) Q E s:=by
 cases vu.inv with
 |int tu=>
 cases hin with
 |@mk fi q1 q2 e2 hfi hix=>
 cases hix with
 |@mk fs z q3 q4 q5 q6 hfs hzd=>
 refine av (C.x kx hkk) λbm xk xs=>av (C.x d (C.gl z _ (gk hzd).2.1).2) λbmd xd _=>?_;refine wpAny_BinOp (wpAny_Name (wpAny_loadName_local F.kind ku n5 eu ?_) hu3);refine wpAny_Call_Name_kw (mx C hfi F.kind F.glob F.bi K st (.inr (C.gl fi _ (gk hfi).2.1)) ?_);refine PySem.callWith_type rfl (evalArgs_plain (spliced_cons ?_));refine wpAny_Call_Name_kw (mx C hfs F.kind F.glob F.bi K st (.inr (C.gl fs _ (gk hfs).2.1)) ?_);refine callWith_builtin rfl (evalArgs_plain (spliced_cons (wpAny_Name (wpAny_loadName_local F.kind kl n5 ey ?_) hy3)));refine spliced_cons (mx C hzd F.kind F.glob F.bi K st (.inl (C.gl z _ (gk hzd).2.1).1) (spliced_nil ?_));refine xS (xk.keeps st) (xd.keeps st) he hcl λtk=>spliced_nil (call_int_bool ?_);rw [xs z d (gk hzd).2.1];exact add_int (q _ _)
theorem GT{E E':Value->Shared->Prop}{R:Flow->Shared->Prop}(C:Cok c T.gl)(K:KOk T env)(S:SR c as X H s)(F:FR c as X s.heap env T.tab ρ)(hx1:T.tab.lookup y=some k)(hx3:(y==("__debug__":Str))=false)(hkn:k<ρ.length)(kl:env.kindOf y=some .local)(hu1:T.tab.lookup u=some i)(hu3:(u==("__debug__":Str))=false)(huy:u≠y)(ku:env.kindOf u=some .local)(hun:i<ρ.length)(hz:ρ[i]? =some (some (.int zz)))(he:s.heap.get? e=some oe)(hcl:oe.cls=.ref (c.xcls kx))(heX:e∉X)(hkk:c.P.sub kx kx=true)(hin:InR T y d ie)
  (q:∀s₇,StepF c as X H env T.tab s.heap ((ρ.set k none).set i (some (.int (zz+if c.P.sub kx d then 1 else 0)))) s₇->R .next s₇):wpAny c.M A (storeName env y (.ref e)) (λ_ s₂=>wpAny c.M A (execs [.Assign [.Name u p1] (.BinOp (.Name u p2) .Add ie p3) p4] env) R E s₂) E' s:=
 av F.ns λm n4 rr=>av (rr u i hu1 ku (.int zz) (by rw [hz];rfl)) λyu eu vu=>wpAny_storeName_local kl n4 (λh5 n5 sb5=>haveI s5:∀tk,StepF c as X H env T.tab s.heap (ρ.set k none) {s with heap:=h5,toks:=tk}:=λtk=>Bk (o:=none) S F hx1 kl hkn rr n5 sb5 λ_ e=>fm e
  (s5 0).rec λS0 _ F5=>wpAny_execs_cons (wpAny_Assign_Name (DL C K F5 S0.stays n5 ku kl hu3 hx3 ((if_neg huy).trans eu) vu (if_pos rfl) ((sb5.2 e λhq=>heX (hq▸F.lx)).trans he) hcl hkk hin λtk tk'=>(s5 tk).rec λS5 k5 _=>kO S5 F5 hu1 (.inl ku) (aU.symm▸hun) (.int _ _) λs₇ st7=>wpAny_execs_nil (q s₇ (st7.rec λS7 k7 F7=>⟨S7,k5.trans (.refl ..) k7,F7⟩))) rfl)) (by rw [F.kind];rfl)
theorem CE{E:Value->Shared->Prop}{R:Unit->Shared->Prop}(S:SR c as X H s)(F:FR c as X s.heap env T.tab ρ)(hx1:T.tab.lookup y=some k)(hkn:k<ρ.length)(kl:env.kindOf y=some .local)(q:∀s',StepF c as X H env T.tab s.heap (ρ.set k none) s'->R () s'):wpAny c.M A (do bindName env y .none;unbindBehindTheSuite env y hp) R E s:=
 av F.ns λm7 n7 rr7=>wpAny_nameGoes_keeps kl n7 (by rw [F.kind];rfl) λh8 v8 n8 sb8=>q _ (Bk (o:=none) S F hx1 kl hkn rr7 n8 sb8 λ_ e=>fm e)
theorem zM{E:Value->Shared->Prop}{Q:Flow->Shared->Prop}(C:Cok c T.gl)(r:Rdy c T env A n s as X H ρ)(e':Ext as s.heap as')(ct:Ct c as as' X [] H' kx s.heap s₁ e h₃)(hyv:T.var y=some k)(hkn:k<T.n)(hloc:T.names.lookup y=some .local)(hu:T.var u=some i)(huy:u≠y)(hul:T.names.lookup u=some .local)(hun:i<T.n)(hz:ρ[i]? =some (some (.int zz)))(heX:e∉X)(hkk:c.P.sub kx kx=true)(hin:InR T y d ie)
  (q:∀s',SR c as' X H' s'->KeptX as X (own env) s.heap s'.heap->FR c as' X s'.heap env T.tab ((ρ.set i (some (.int (zz+if c.P.sub kx d then 1 else 0)))).set k none)->Q .next s') :
  codeAny c.M (A.mark (some (.ref e))) (.handlers (.ref e) [.ExceptHandler none (some y) [.Assign [.Name u p1] (.BinOp (.Name u p2) .Add ie p3) p4] hp] env) (λr s₂=>match r with
     |.ok f=>wpAny c.M A (do bindName env y .none;unbindBehindTheSuite env y hp) (λ_ s₃=>Q f s₃) E s₂
     |.error x=>cameBackBy c.M A env E x s₂) {s₁ with heap:=h₃}:=by
 have kl:=r.K.loc y hloc;have vu:=vj hu;have vy:=vj hyv;refine ct.rec λT₂ ex₃ fin=>codeAny_handlers_suite_as (jJ ex₃ λh₄ ex₄ hk₄=>?_);have K4:Kept as X s.heap h₄:=λb o eb hb=>(fin h₄ ex₄ hk₄).2 b o eb hb nofun;have F:=r.F.keep K4 e';refine di ex₄.obj λoe _ he hcl _=>GT C r.K (fin h₄ ex₄ hk₄).1 F vy.1 vy.2.2.1 (r.len.symm▸hkn) kl vu.1 vu.2.2.1 huy (r.K.loc u hul) (r.len.symm▸hun) hz he hcl heX hkk hin λs₇ st7=>st7.rec λS7 k7 F7=>CE S7 F7 vy.1 (by rw [aU,aU,r.len];exact hkn) kl λs₈ st8=>st8.rec λS8 k8 F8=>q _ S8 ((K4.y _).trans e' (k7.trans (.refl ..) k8)) ?_;rw [List.set_comm _ _ (show k≠i from λz=>huy (F.inj _ _ i vu.1 (z▸vy.1))),List.set_set]at F8;exact F8
theorem D5(C:Cok c T.gl)(hg:T.glob x=some (.exc j))(hyv:T.var y=some k)(hkn:k<T.n)(hloc:T.names.lookup y=some .local)(hc:jT v=false)(hv:SE c n T v ev)(hin:InR T y d ie)(hu:T.var u=some i)(huy:u≠y)(hul:T.names.lookup u=some .local)(hun:i<T.n) :
  S1 c n T (.Try [.Expr v ep] [.ExceptHandler (some (.Name x xp)) (some y) [.Assign [.Name u p1] (.BinOp (.Name u p2) .Add ie p3) p4] hp] [] [] pos) (.tryI ev j i k d):=by
 refine⟨?_⟩;intro env A s as X H ρ K R XX r hY w;haveI hia:interactive env=false:=by dsimp only [interactive];rw [r.F.kind];rfl
 haveI hs:swapsWith v none ep.line env=pure false:=by cases v<;>first|rfl|cases hc
 refine wpAny_Try_except (wpAny_execs_cons ?_);rw [exec_Expr env v ep hia hs];exact wpAny_bind (wpAny_standAt (wpAny_bind (wpAny_mono (hv.run r w) (λz s₁ q=>q.rec λu H' as' e' S k hu q=>wpAny_dropValue (wpAny_execs_nil (wpAny_execs_nil ⟨ρ,H',as',e',S,k.y _,r.F.keep k e',r.len,q⟩))) λz s₁ q=>q.rec λkx H' as' e tt ts hx e' S' k' ex ht ap hw=>wJ C hg r hx (r.fr.keep e' k') S' (k'.y []) ex ht ap hw.1 λh₃ ct=>av hw.2 λzz hz w'=>zM C r e' ct hyv hkn hloc hu huy hul hun hz (ap e (.head _)).2.2.1 (ay.mp hw.1).1 hin λs' S8 k8 F8=>⟨_,H',as',e',S8,k8,F8,by rw [aU,aU];exact r.len,w'⟩)))
end
section
variable {c:Cx}{n:Nat}{T:Tb}
theorem Aa(h:ST c n T t ex)(hb:SB c n T body xs):S1 c n T (.While t body [] pos) (.while_ ex xs):=by
 refine⟨?_⟩;intro env A s as X H ρ K R XX r hY w;simp only [yf]at w;obtain⟨k,w⟩:=w;refine wpAny_While ?_;have hown:∀{s':Shared} {as':dH} {H':AH},SR c as' X H' s'->∀b∈own env,∃o,s'.heap.get? b=some o:=λS b hb=>S.xs b (hY.mem b hb);refine codeAny_whileLoop (λm s'=>∃as' H' ρ',Ext as s.heap as'/\SR c as' X H' s'/\KeptX as X (own env) s.heap s'.heap/\FR c as' X s'.heap env T.tab ρ'/\ρ'.length=T.n/\
  lE (λρ' H' K₁ K₂=>cL c.P (aQ c.P n) ex ρ' H' (λv H''=>nT (gb v) λt=>if t then a8 c.P (aQ c.P n) xs ρ' H'' K₁ R (λ_ _=>False)else K₂ ρ' H'') (λ_ _=>False)) m ρ' H' K) ?_ k
  ⟨as,H,ρ,.refl ..,r.S,(Kept.refl _ _ _).y _,r.F,r.len,w⟩
 clear w;intro m s' h0;refine g9 h0 ?_;clear h0;intro as' H' ρ' e S kx F hl w
 induction m with
 |zero=>exact w.elim
 |succ m=>
  haveI r':Rdy c T env A n s' as' X H' ρ':=r.step hY e kx S F hl;refine wpAny_mono (h.run (λ_ _ q=>q) r' w) (λb s₂ q=>?_) λ_ _ e=>e.none.elim;obtain⟨H₂,as₂,e2,S2,k2,q2⟩:=q;haveI r2:=r'.next e2 k2 S2
  have ex2:Ext as s.heap as₂:=e.transX kx (hown S) e2;have kx2:KeptX as X (own env) s.heap s₂.heap:=kx.trans e (k2.y _)
  induction b with
  |true=>
   rw [if_pos rfl]at q2 ⊢;refine wpAny_mono (hb.run r2 hY q2) (λf s₃ q=>?_) λ_ _ e=>e.none.elim
   induction f with
   |next=>refine g9 q ?_;intro ρ₃ H₃ as₃ e₃ S₃ k₃ F₃ hl₃ q₃;exact⟨m,da m,as₃,H₃,ρ₃,ex2.transX kx2 (hown S2) e₃,S₃,kx2.trans ex2 k₃,F₃,hl₃,q₃⟩
   |ret xv=>refine oU q ?_;intro v' H₃ as₃ e₃ S₃ k₃ hv₃ q₃;exact⟨v',H₃,as₃,ex2.transX kx2 (hown S2) e₃,S₃,kx2.trans ex2 k₃,hv₃,q₃⟩
   |_=>exact q.elim
  |false=>rw [if_neg (by decide)]at q2 ⊢;exact wpAny_execs_nil ⟨ρ',H₂,as₂,ex2,S2,kx2,r2.F,hl,q2⟩
theorem xN{kvs:List (Str×Value)}{k k':Str}{x y:Value}(h:k'≠k):stored ((k',x)::kvs) k y=(k',x)::stored kvs k y:=by unfold stored;simp only [List.any_cons,h,decide_false,Cb,fJ,if_false];split<;>rfl
theorem xR{kvs:List (Str×Value)}{k:Str}{x y:Value}(h:k∉kvs.map (·.1)):stored ((k,x)::kvs) k y=(k,y)::kvs:=by
 unfold stored;simp only [List.any_cons,decide_true,Bool.true_or,if_true,fJ];congr 1
 conv=>rhs;rw [<-List.map_id kvs]
 refine cn λp hp=>?_;haveI:p.1≠k:=λe=>h (e▸bq hp);simp [this]
theorem sK{k:List Char}{y:Value}(hv:VR c as X h v y){ks:List (List Char)}:∀{vs:List V} {cs:List Value},ks.length=cs.length->(ks.map toS).Nodup->VRs c as X h vs cs->
  ∃cs',stored ((ks.map toS).zip cs) (toS k) y=((d9 k v ks vs).1.map toS).zip cs'/\(d9 k v ks vs).1.length=cs'.length/\VRs c as X h (d9 k v ks vs).2 cs'/\cs'.length<=cs.length+1:=by
 induction ks with
 |nil=>
  intro vs cs hl _ r;cases r with
  |nil=>exact⟨[y],rfl,rfl,.cons hv .nil,aM _⟩
  |cons _ _=>cases hl
 |cons k' ks ih=>
  intro vs cs hl hn r;cases r with
  |nil=>cases hl
  |@cons w vs x cs hx r=>
   haveI hn':=bk.mp hn;haveI hl':=fW hl;clear hn hl;by_cases hk:k=k'
   ·subst hk;haveI ed:d9 k v (k::ks) (w::vs)=(k::ks,v::vs):=if_pos rfl;rw [ed];refine⟨y::cs,?_,congrArg nK hl',.cons hv r,bf _⟩;show stored ((toS k,x)::(ks.map toS).zip cs) (toS k) y=_;refine xR ?_;rw [lQ (by rw [ak,hl'];exact aM _)];exact hn'.1
   ·haveI ed:d9 k v (k'::ks) (w::vs)=(k'::(d9 k v ks vs).1,w::(d9 k v ks vs).2):=if_neg hk;rw [ed];refine dB (ih hl' hn'.2 r) ?_;intro cs' e1 e2 e3 e4;exact⟨x::cs',(xN (λe=>hk (i9 e).symm)).trans (congrArg _ e1),congrArg nK e2,.cons hx e3,aA e4⟩
inductive SetI(x:V)(H H':AH):V->V->Prop
 |mk {r:Nat} {k:List Char} {ks:List (List Char)} {vs:List V}:H[r]? =some (.dict ks vs)->ks.length<=aB->H'=H.set r (.dict (d9 k x ks vs).1 (d9 k x ks vs).2)->SetI x H H' (.ref r) (.str k)
 |lst {r:Nat} {i:Int} {vs:List V}:H[r]? =some (.list vs)->0<=i/\i<vs.length->H'=H.set r (.list (vs.set i.toNat x))->SetI x H H' (.ref r) (.int i)
theorem pZ(e:d8 o i x H=some H'):SetI x H H' o i:=by
 refine Is.of (R:=λH'=>SetI x H H' o i) ?_ e;clear e;cases o with
 |ref r=>
  cases i with
  |str k=>
   haveI F:∀{ob},ob=H[r]?->Is (BW r k x H ob) λH'=>SetI x H H' (.ref r) (.str k):=λ{ob} e=>by
    induction ob with
    |none=>exact trivial
    |some ob=>
     induction ob with
     |dict ks vs=>exact Is.ite λh=>.mk e.symm h rfl
     |_=>exact trivial
   exact F rfl
  |int k=>
   haveI F:∀{ob},ob=H[r]?->Is (IC r k x H ob) λH'=>SetI x H H' (.ref r) (.int k):=λ{ob} e=>by
    cases ob with
    |none=>exact trivial
    |some ob=>
     induction ob with
     |list vs=>exact Is.ite λh=>.lst e.symm h rfl
     |_=>exact trivial
   exact F rfl
  |_=>exact trivial
 |_=>exact trivial
theorem xY{E:Value->Shared->Prop}{R:Unit->Shared->Prop}(S:SR c as X H s)(ho:VR c as X s.heap o co)(hi:VR c as X s.heap i ci)(hx:VR c as X s.heap x cx)(e:d8 o i x H=some H')
  (hR:∀s',SR c as X H' s'->Kept as X s.heap s'.heap->R () s'):wpAny c.M A (setItem co ci cx) R E s:=by
 replace e:=pZ e
 induction e with
 |@lst r i vs hob hz e=>
  (replace e:=Eq.symm e;subst e)
  obtain⟨a,ha,hb,items,hp,rr⟩:=jn S ho hob;cases hi.inv with
  |int u=>
  have hl:=rr.len_arr;refine pT hp hz.1 (Eo hz.2 (lI hb)) (hl.symm▸hz.2) λh' hp' sb=>?_;have hk:∀b o,s.heap.get? b=some o->b≠a->h'.get? b=some o:=λb o e hb=>(sb.2 b hb).trans e;have K:=SR.kept1 (X:=X) ha hk;refine hR _ (S.upd (s':={s with heap:=h'}) (o':=.list _) ha hk rfl rfl ⟨aU.symm▸hb,_,hp',?_⟩) K;rw [Array.toList_setIfInBounds];exact VRs.set _ (rr.keep K (.refl ..)) (hx.keep K (.refl ..))
 |@mk r k ks vs hob hz q_9=>
  subst q_9;replace ho:=jn S ho hob;obtain⟨a,ha,hb,hsm,cs,hd,hl,rr⟩:=ho;cases hi;haveI h1:=cz;haveI h2:=eR;haveI hn:(ks.map toS).Nodup:=by refine g9 hd ?_;intro _ _ _ _ _ _ _ _ hn;rw [lQ (by simp [hl])]at hn;exact hn
  refine wpAny_setItem_pairs (knd:=c.kd) (oo _ _) hd (λh' hd' sb=>?_) (by simp only [vq,ak];exact aa (Nat.min_le_left _ _) (aa hz h1));have hk:∀b o,s.heap.get? b=some o->b≠a->h'.get? b=some o:=λb o e hb=>(sb.2 b hb).trans e;have K:=SR.kept1 (X:=X) ha hk;refine dB (sK (k:=k) (hx.keep K (.refl ..)) hl hn (rr.keep K (.refl ..))) ?_;intro cs' e1 e2 e3 e4;simp only [e1]at hd';haveI e5:=e3.length;exact hR _ (S.upd (s':={s with heap:=h',toks:=_}) (o':=.dict _ _) ha hk rfl rfl ⟨aa (au e5) (aa e4 (aa (aA (aa (au hl.symm) hz)) (aa (aH (by decide:1<=5) aB) h2))),hsm,cs',hd',e2,e3⟩) K
theorem DN(h1:SE c n T v ev)(h2:SE c n T o eo)(h3:SE c n T i ei):S1 c n T (.Assign [.Subscript o i p'] v pos) (.s eo ei ev):=by
 refine⟨?_⟩;intro env A s as X H ρ K R XX r hY w;simp only [sY]at w;refine wpAny_Assign_Subscript (wpAny_mono (h1.run r w) (λx s₁ q=>?_) λ_ _ e=>e.toS r.F) (by cases v<;>rfl);obtain⟨vx,H₁,as₁,e1,S1,k1,hvx,w1⟩:=q;have r1:=r.next e1 k1 S1
 refine wpAny_mono (h2.run r1 w1) (λy s₂ q=>?_) λ_ _ e=>(e.lift e1 k1).toS r.F;obtain⟨vo,H₂,as₂,e2,S2,k2,hvo,w2⟩:=q;have r2:=r1.next e2 k2 S2
 refine wpAny_mono (h3.run r2 w2) (λz s₃ q=>?_) λ_ _ e=>((e.lift e2 k2).lift e1 k1).toS r.F;obtain⟨vi,H₃,as₃,e3,S3,k3,hvi,w3⟩:=q;haveI r3:=r2.next e3 k3 S3
 refine fS (o:=d8 vo vi vx H₃) (λhs=>?_) (λH' hs=>?_)
 ·replace w3:=hs▸w3;exact w3.elim
 ·simp only [hs]at w3;refine xY S3 (hvo.keep k3 e3) hvi ((hvx.keep k2 e2).keep k3 e3) hs λs' S' k'=>?_;haveI E1:=e1.trans k1 e2;haveI K1:=k1.trans e1 k2;exact⟨ρ,H',as₃,E1.trans K1 e3,S',((K1.trans E1 k3).trans (E1.trans K1 e3) k').y _,r3.F.keep k' (.refl ..),r.len,w3⟩
theorem Al{E:Value->Shared->Prop}{Q:Unit->Shared->Prop}(h:wpAny M A (f a) (λ_ s₁=>wpAny M A (g b) Q E s₁) E s):wpAny M A (assignInOrder [f,g] [a,b]) Q E s:=
 assignInOrder_cons (wpAny_mono h (λ_ _ h₁=>assignInOrder_cons (wpAny_mono h₁ (λ_ _ h₂=>assignInOrder_nil h₂) λ_ _ e=>e)) λ_ _ e=>e)
structure Tgt(c:Cx)(T:Tb)(t:Expr)(tg:Nat ⊕ List Nat):Prop where
 run:∀{env:Env} {A:Around} {s:Shared} {as:dH} {X:List Addr} {H:AH} {ρ ρ':Fm} {u:V} {z:Value} {E:Value->Shared->Prop} {Q:Unit->Shared->Prop},KOk T env->ρ.length=T.n->(∀b∈own env,b∈X)->SR c as X H s->FR c as X s.heap env T.tab ρ->VR c as X s.heap u z->
  (u.tpl.isSome=true->A.handled=none)->fO ρ tg u=some ρ'->(∀s',StepF c as X H env T.tab s.heap ρ' s'->ρ'.length=T.n->Q () s')->wpAny c.M A (assign t env z) Q E s
theorem Bl(hi:T.slot x=some i):Tgt c T (.Name x px) (.inl i) where
 run:=λ{env A s as X H ρ ρ' u z E Q} K hl _ S F hv _ e q=>by
  (replace e:=aj e;subst e)
  refine dQ (mm K hi) ?_;intro h1 h2 h3;exact wpAny_assign_Name (kO S F h1 h2 (by simp only [hl];exact h3) hv λs' st=>q s' st (by exact(aU).trans hl))
inductive Pair2(c:Cx)(as:dH)(X:List Addr)(h:HP)(ρ ρ':Fm)(i j:Nat):V->Value->Prop
 |mk {a:Addr} {ob:Obj} {n:Nat} {u v:V} {y z:Value}:ρ'=(ρ.set i (some u)).set j (some v)->h.get? a=some {cls:=.type "tuple",data:=.seq #[y,z] n}->VR c as X h u y->VR c as X h v z->Pair2 c as X h ρ ρ' i j (.tup [u,v]) (.ref a)
theorem JI(hv:VR c as X h u z)(e:fO ρ (.inr [i,j]) u=some ρ'):Pair2 c as X h ρ ρ' i j u z:=by
 cases u with
 |tup vs=>
  replace e:=dg e;obtain⟨hl,e⟩:=e
  match vs,hl with
  |[a,b],_=>
   cases hv.inv with
   |@tup addr items nn t1 t2 t3 rr t5=>
    obtain⟨items⟩:=items;cases rr with
    |cons ha rr=>
     cases rr with
     |cons hb rr=>cases rr;exact .mk (ob:=default) e.symm t3 ha hb
 |_=>exact fm e
theorem sU(hi:T.slot x=some i)(hj:T.slot y=some j):Tgt c T (.Tuple [.Name x px,.Name y py] kk pt) (.inr [i,j]) where
 run:=λ{env A s as X H ρ ρ' u z E Q} K hl hY S F hv hh e q=>by
  cases JI hv e with
  |@mk a _ n u v y z e1 t3 ha hb=>subst e1;refine dQ (mm K hi) ?_;intro x1 x2 x3;refine dQ (mm K hj) ?_;intro y1 y2 y3;clear e hv hi hj;refine assign_Tuple_tuple (hh rfl) ⟨_,t3,rfl,_,rfl⟩ rfl rfl λh' eb=>?_;have g:Grown s.heap h':=λb o e=>eb b o (λq=>by rw [q]at e;exact absurd (fB e) (c5 _)) e;clear eb t3;refine Al (wpAny_assign_Name (kO (S.grow (s':={s with heap:=h'}) g rfl rfl) (F.keep (g.kept as _) (.refl ..)) x1 x2 (by simp only [hl];exact x3) (ha.grow g) λs₂ st=>?_));obtain⟨S2,k2,F2⟩:=st;refine wpAny_assign_Name (kO S2 F2 y1 y2 (by simp only [aU,hl];exact y3) ((hb.grow g).keepX (KeptX.v (Y:=own env) k2 hY) (.refl ..):VR c as X s₂.heap v z) λs₃ st=>q s₃ ⟨st.1,?_,st.3⟩ (by simp only [aU,aU];exact hl));exact(((g.kept as _).y _).trans (.refl ..) k2).trans (.refl ..) st.2
theorem DW(hi:T.slot x=some i)(hj:T.slot y=some j)(h:SE c n T (.Call f args kws p) ex) :
  S1 c n T (.Assign [.Tuple [.Name x px,.Name y py] kk pt] (.Call f args kws p) pos) (.asgTup [i,j] ex):=by
 refine⟨?_⟩;intro env A s as X H ρ K R XX r hY w;simp only [ua]at w;refine Assign_Tuple (wpAny_mono (h.run r w) (λv s₁ q=>?_) λ_ _ e=>e.toS r.F);obtain⟨vv,H₁,as₁,e1,S1,k1,hv,w1⟩:=q;haveI r1:=r.next e1 k1 S1
 refine fS (o:=fO ρ (.inr [i,j]) vv) (λht=>?_) (λρ' ht=>?_)
 ·replace w1:=ht▸w1;exact w1.elim
 ·simp only [ht]at w1;refine(sU hi hj).run r.K r.len hY.mem S1 r1.F hv (λ_=>r.a.hh) ht λs₂ st hl=>?_;obtain⟨S2,k2,F2⟩:=st;exact⟨ρ',H₁,as₁,e1,S2,(k1.y _).trans e1 k2,F2,hl,w1⟩
theorem CW(K:CK c ms ats f)(hat:toS nm∈ats)(hc:jT v=false)(h1:SE c n T v ev)(h2:SE c n T o eo):S1 c n T (.Assign [.Attribute o (toS nm) p'] v pos) (.setAttr eo nm ev):=by
 refine⟨?_⟩;intro env A s as X H ρ Kk R XX r hY w;simp only [tI]at w;refine plainObj_wpAny_Assign_Attribute (wpAny_mono (h1.run r w) (λx s₁ q=>?_) λ_ _ e=>e.toS r.F) (by cases v<;>first|rfl|cases hc);obtain⟨vx,H₁,as₁,e1,S1,k1,hvx,w1⟩:=q;have r1:=r.next e1 k1 S1
 refine wpAny_mono (h2.run r1 w1) (λy s₂ q=>?_) λ_ _ e=>(e.lift e1 k1).toS r.F;obtain⟨vo,H₂,as₂,e2,S2,k2,hvo,w2⟩:=q;haveI r2:=r1.next e2 k2 S2
 refine fS (o:=ik vo nm vx H₂) (λhs=>?_) (λH' hs=>?_)
 ·replace w2:=hs▸w2;exact w2.elim
 ·simp only [hs]at w2;refine xI K hat S2 hvo (hvx.keep k2 e2) hs λs' S' k'=>?_;haveI E1:=e1.trans k1 e2;haveI K1:=k1.trans e1 k2;exact⟨ρ,H',as₂,E1,S',(K1.trans E1 k').y _,r2.F.keep k' (.refl ..),r.len,w2⟩
end
section
variable {c:Cx}{n:Nat}{T:Tb}{gl:List (Str×Gl)}
theorem t4:∃b,swapsWith (.ListComp elt gens scope pos) (some (.Name x px)) l env=pure b:=⟨_,rfl⟩
theorem Ac(h:jT e=false):swapsWith e (some (.Name x px)) l env=pure false:=by cases e<;>first|rfl|cases h
theorem Cw{x y:Str}{j:Nat}{px py spos:Pos}{elt iter:Expr}{ifs:List Expr}{sc:Scope}{pos:Pos}{cond:Option Ex}{mu:Bool}{K:KS}{R:QE}{XX:XE}
  (hj:T.slot y=some j)(ok:CompF T x sc)(hns:rp iter)(hi:SE c n T iter i)
  (he:SE c n {T with names:=sc.names,tab:=(x,T.n)::T.tab,n:=T.n+1} elt b)
  (hc:(ifs=[]/\cond=none)\/∃t q,ifs=[t]/\cond=some q/\ST c n {T with names:=sc.names,tab:=(x,T.n)::T.tab,n:=T.n+1} t q)
  (r:Rdy c T env A n s as X H ρ)(hY:Own A X env)(w:sJ c.P (aQ c.P n) (.a j (.comp mu b i cond)) ρ H K R XX)
  (hs:swapsWith (.ListComp elt [⟨.Name x px,iter,ifs,0⟩] sc pos) (some (.Name y py)) spos.line env=pure true) :
  wpAny c.M A (exec (.Assign [.Name y py] (.ListComp elt [⟨.Name x px,iter,ifs,0⟩] sc pos) spos) env) (ResS c as X s.heap T env K R) (EResS c as X s.heap env XX) s:=by
 refine dQ (mm r.K hj) ?_;intro h1 h2 h3;simp only [wX]at w;rw [exec_Assign_Name_used _ _ _ _ hs];refine wpAny_bind (wpAny_standAt (wpAny_bind ?_));refine wpAny_bind (wpAny_mono (A9 (Qf:=λ_ s'=>ResS c as X s.heap T env K R .next s') ok hns hi he hc r w ?_) (λ_ s' hq=>wpAny_pure (wpAny_pure hq)) λ_ _ e=>e.toS r.F);intro D Ca s' fC cX bC hm q;refine g9 q ?_;intro v H' as' e S k hv p_8 F
 (haveI hl:=p_8.1;haveI q:=p_8.2)
 refine wpAny_assign_Name (kO S F h1 h2 hl hv λs'' st=>?_);obtain⟨S2,k2,F2⟩:=st;have hCown:Ca∉own env:=λq=>cX (hY.mem _ q);haveI hCas:Ca∉as':=λq=>by obtain⟨i,hi⟩:=cB q;refine dQ (S.objs i _ hi) ?_;intro _ h2 _;exact h2 (.head _)
 obtain⟨m,hm⟩:=hm;refine⟨m,Ns.same hm λo e=>k2 _ o e hCas hCown,λh' hs'=>?_⟩;haveI b':But [Ca] s''.heap h':=λq o hq e=>(hs'.2 q (by exact Cg hq)).trans e;refine⟨_,H',as',e,S2.but (s':={s'' with heap:=h'}) b' (by simpa using bC) (λ_ q=>.tail _ q) (λa ha hz=>by replace hz:=in1 hz;(replace hz:=Eq.symm hz;subst hz);exact(cX ha).elim) rfl rfl,?_,?_,by rw [aU];exact r.len,q⟩
 ·exact ((((k.more λ_=>cg).y _).trans e k2).but b' (by exact dz fC)).less λb hb=>(x9 hb).elim (λq=>.inr (q▸fC)) .inl
 ·haveI aw:rN [Ca] env T.tab:=F2.away' (by exact hCown);exact(F2.keepY (b'.kept as' _) (by exact dz (.head _)) aw).narrow (Z:=[Ca]) (λb hb=>.tail _ hb) (λb hb=>by
   refine eC hb (λe_=>?_) λhb=>?_
   ·replace e_:=Eq.symm e_;subst e_;exact .inr (by exact .head _)
   ·exact .inl hb) aw
structure Fl(c:Cx)(T:Tb)(env:Env)(as₀:dH)(h₀:HP)(X:List Addr)(rev:Bool)(I:Addr)(v:V)(y:Value)(k:Nat)(s:Shared)(as:dH)(H:AH)(ρ:Fm):Prop where
 S:SR c as (I::X) H s
 F:FR c as (I::X) s.heap env T.tab ρ
 hl:ρ.length=T.n
 hv:VR c as (I::X) s.heap v y
 hi:ItD rev s.heap I v y k
 oi:I∉as
 E:Ext as₀ h₀ as
 K:KeptX as₀ (I::X) (own env) h₀ s.heap
theorem SR.less(S:SR c as (I::X) H s):SR c as X H s:=
 S.turn (λb o e _ _=>e) S.stays (λ_ q=>.tail _ q) (λb hb=>S.xs b (.tail _ hb)) rfl rfl
def FI(c:Cx)(T:Tb)(env:Env)(as₀:dH)(h₀:HP)(X:List Addr)(rev:Bool)(I:Addr)(v:V)(y:Value)(items:List V)(F:V->Fm->AH->KS->Prop)(K:KS)(m:Nat)(s:Shared):Prop:=
 ∃k as H ρ,m=items.length-k/\k<=items.length/\Fl c T env as₀ h₀ X rev I v y k s as H ρ/\pR F (λH'=>jB rev H' v=some items) (items.drop k) ρ H K
theorem Bw{te:Expr}{tg:Nat ⊕ List Nat}{rev:Bool}{body:List Stmt}{K:KS}{R:QE}{I:Addr}{y:Value}{RR:Result->Shared->Prop}{Kn:KOk T env}{F:V->Fm->AH->KS->Prop}
  (ht:Tgt c T te tg)(hb:SB c n T body xs)(a:AOk c A n)(fr:EnvFr c A X as₀ h₀ env)(hY:Own A X env)(bI:c.base.get? I=none)(fI:Fr as₀ h₀ I)(iX:I∉X)
  (L:Fl c T env as₀ h₀ X rev I v y 0 s as H ρ)(w:pR F (λH'=>jB rev H' v=some items) items ρ H K)
  (hF:∀{x ρ' H'} {K':KS},F x ρ' H' K'->match fO ρ' tg x with|some ρ''=>a8 c.P (aQ c.P n) xs ρ'' H' K' R (λ_ _=>False)|none=>False)
  (hR:∀f s',ResS c as₀ X h₀ T env K R f s'->RR (.ok f) s') :
  codeAny c.M A (.forLoop te (.ref I) body [] env) RR s:=by
 have iO:I∉own env:=λq=>iX (hY.mem _ q);have lessI:∀b,2<=(I::X).count b->2<=X.count b\/Fr as₀ h₀ b:=M4 (.inr fI) λ_=>.inl;refine codeAny_forLoop_any (FI c T env as₀ h₀ X rev I v y items F K) (λm s h0=>?_) (items.length-0) ⟨0,as,H,ρ,rfl,aY _,L,w⟩;clear L w;refine L8 h0 λk as H ρ q_0 hk L w=>?_;clear h0;subst q_0;have aw:rN [I] env T.tab:=L.F.away' iO;refine fS (o:=items[k]?) (λhx=>?_) λu hx=>?_
 ·have hkl:items.length=k:=mQ (yp.mp hx) hk;replace w:=(Eu (au hkl))▸w;exact Dp a.hh L.S (.head _) L.hv L.hi w.1 hkl λh' tk b=>wpAny_execs_nil (hR _ _ ⟨ρ,H,as,L.E,L.S.but (s':={s with heap:=h',toks:=tk}) b (dz ⟨.head _,bI⟩) (λ_ q=>.tail _ q) (λa ha hz=>absurd (in1 hz▸ha) iX) rfl rfl,(L.K.but b (dz fI)).less lessI,(L.F.keepY (b.kept as _) (dz (.head _)) aw).narrow (Z:=[I]) (λb hb=>.tail _ hb) (d0 (.inr (.head _)) λb hb=>.inl hb) aw,L.hl,w.2⟩)
 ·have hlt:=(af.mp hx).1;rw [qr hx]at w;refine CS a.hh L.S (.head _) bI L.hv L.hi w.1 hx λz h₁ tk₁ b₁ hu₁ hv₁ hi₁ S₁=>?_;refine He hi₁.cls ?_;haveI F₁:=L.F.keepY (b₁.kept as _) (dz (.head _)) aw;haveI K₁:=L.K.but b₁ (dz fI);haveI w2:=hF w.2;refine fS (o:=fO ρ tg u) (λhst=>?_) (λρ₂ hst=>?_)
  ·replace w2:=hst▸w2;exact w2.elim
  ·rw [hst]at w2;refine ht.run Kn L.hl (λb hb=>.tail _ (hY.mem b hb)) S₁ F₁ hu₁ (λ_=>a.hh) hst λs₂ st hl₂=>?_;obtain⟨S₂,k₂,F₂⟩:=st;haveI K₂:KeptX as₀ (I::X) (own env) h₀ s₂.heap:=K₁.trans L.E k₂;refine wpAny_mono (hb.run ⟨a,S₂,F₂,Kn,hl₂,(fr.step hY L.E (K₂.less lessI) (F₂.ns.imp λ_ h=>h.1) F₂.lout).grow (.refl _) λb=>cg⟩ hY.more w2) (λf s₃ q=>?_) λ_ _ e=>e.none.elim;haveI hI₂:ItD rev s₂.heap I v y (k+1):=hi₁.at λo e hc=>k₂.get e L.oi iO hc;haveI hown₂:∀b∈own env,∃o,s₂.heap.get? b=some o:=λb hb=>S₂.xs b (.tail _ (hY.mem b hb))
   induction f with
   |next=>exact g9 q λρ₃ H₃ as₃ e₃ S₃ k₃ F₃ hl₃ q₃=>⟨items.length-(k+1),JA hlt (da k),k+1,as₃,H₃,ρ₃,rfl,hlt,⟨S₃,F₃,hl₃,(hv₁.keepX (KeptX.v (Y:=own env) k₂ λb hb=>.tail _ (hY.mem b hb)) (.refl ..)).keepX (k₃.v λb hb=>.tail _ (hY.mem b hb)) e₃,hI₂.at λo e hc=>k₃.get e L.oi iO hc,av hI₂.here λo e _=>e₃.out e L.oi,L.E.transX K₂ hown₂ e₃,K₂.trans L.E k₃⟩,q₃⟩
   |ret xv=>exact oU q λv' H₃ as₃ e₃ S₃ k₃ hv₃ q₃=>hR _ _ ⟨v',H₃,as₃,L.E.transX K₂ hown₂ e₃,S₃.less,(K₂.trans L.E k₃).less lessI,hv₃.frames λb _ _ hb q=>hb (.tail _ q),q₃⟩
   |_=>exact q.elim
theorem tz{te:Expr}{tg:Nat ⊕ List Nat}{rev:Bool}{body:List Stmt}{K:KS}{R:QE}{y:Value}{o:Obj}{tk:Nat}{F:V->Fm->AH->KS->Prop}
  (ht:Tgt c T te tg)(hb:SB c n T body xs)(r:Rdy c T env A n s as X H ρ)(hY:Own A X env)(e1:Ext as s.heap as₁)(S1:SR c as₁ X H₁ s₁)(k1:Kept as X s.heap s₁.heap)(hv:VR c as₁ X s₁.heap v y)
  (hit:ItD rev (s₁.heap.push o) s₁.heap.objs.size v y 0)(w:pR F (λH'=>jB rev H' v=some items) items ρ H₁ K)
  (hF:∀{x ρ' H'} {K':KS},F x ρ' H' K'->match fO ρ' tg x with|some ρ''=>a8 c.P (aQ c.P n) xs ρ'' H' K' R (λ_ _=>False)|none=>False){RR:Result->Shared->Prop}(hR:∀f s',ResS c as X s.heap T env K R f s'->RR (.ok f) s') :
  codeAny c.M A (.forLoop te (.ref s₁.heap.objs.size) body [] env) RR {s₁ with heap:=s₁.heap.push o,toks:=tk}:=by
 haveI hfI:s₁.heap.get? s₁.heap.objs.size=none:=dy _;generalize s₁.heap.objs.size=I at hit hfI ⊢;haveI g:Grown s₁.heap (s₁.heap.push o):=.push _ _;haveI hX':∀b∈I::X,b∈X\/s₁.heap.get? b=none:=d0 (.inr hfI) λ_ hb=>.inl hb;exact Bw (Kn:=r.K) ht hb r.a r.fr hY (S1.base_none hfI) (k1.fr hfI) (S1.not_x hfI) (as₀:=as) (h₀:=s.heap) ⟨S1.opens (s':={s₁ with heap:=s₁.heap.push o,toks:=tk}) g hX' (d0 (hit.here.imp λ_ e=>e.1) λb hb=>(S1.xs b hb).imp λ_ e=>g _ _ e) rfl rfl,(r.F.keep k1 e1).opens g (λb hb=>.tail _ hb) hX',r.len,hv.opens g hX',hit,S1.not_as hfI,e1,((k1.trans e1 (g.kept as₁ _)).more λ_=>cg).y _⟩ w hF hR
theorem FQ(ht:Tgt c T te tg)(hns:rp iter)(h:SE c n T iter ex)(hb:SB c n T body xs) :
  S1 c n T (.For te iter body [] pos) (.f false tg ex xs):=by
 refine⟨?_⟩;intro env A s as X H ρ K R XX r hY w;simp only [qM]at w;refine wpAny_For (wpAny_mono (h.run r w) (λy s₁ q=>?_) λ_ _ e=>e.toS r.F) (m0 hns env);obtain⟨v,H₁,as₁,e1,S1,k1,hv,items,hsrc,hsz,w⟩:=q;exact sj S1 hv hsrc λo hit=>tz (rev:=false) (tk:=s₁.toks) ht hb r hY e1 S1 k1 hv hit w (λh=>h) λf s' q=>q
theorem zH:gc P C [e] ρ H (λvs H'=>W (vs.headD .none) H') X=cL P C e ρ H W X:=rfl
theorem ya(C:Cok c T.gl)(hg:T.glob g=some (.ty "reversed"))(ht:Tgt c T te tg)(h:rx c n T [e] [ex])(hb:SB c n T body xs) :
  S1 c n T (.For te (.Call (.Name g p) [e] [] p') body [] pos) (.f true tg ex xs):=by
 refine⟨?_⟩;intro env A s as X H ρ K R XX r hY w;simp only [qM]at w;haveI e1:=C.gl g _ (gk hg).2.1;refine wpAny_For (wpAny_Call_Name_kw (jK C hg r (.inr e1) ?_)) (λ_=>rfl);rw [<-zH]at w;refine PySem.callWith_type (nM h) (wpAny_mono (gF h r w) (λa s₁ q=>?_) λ_ _ e=>e.toS r.F);obtain⟨hk,vs,H₁,as₁,e1,S1,k1,hvs,hl,items,hsrc,hsz,w⟩:=q;simp only [hk];refine di (ue hvs hl) ?_;intro v y e2 hy hv;subst e2;rw [hy];exact zO hv hsrc λo tk hit=>Ml (s:={s₁ with heap:=s₁.heap.push o,toks:=tk}) hit (tz ht hb r hY e1 S1 k1 hv hit w (λh=>h) λf s' q=>q)
theorem lr{st:Stmt}{x:St}{l:Nat}(h:S1 c n T st x):SS c n T st (iL T l x):=by refine⟨?_⟩;intro env A s as X H ρ K R XX r hY w;exact wpAny_mono (h.run r hY w) (λ_ _ q=>q) λ_ _ e=>e
theorem BB(C:Cok c gl)(sc:SC c n)(hf:∀x f,gl.lookup x=some (.fn f)->∃fn,c.P.fns f=some fn)(hg:T.gl=gl)(h1:T.slot x=some i)(v:Expr) :
  Is (cE k T v) λe=>S1 c n T (.Assign [.Name x px] v pos) (.a i e):=by
 have he:=wP C sc hf k hg v;have F:jT v=false->Is (cE k T v) λe=>S1 c n T (.Assign [.Name x px] v pos) (.a i e):=λhc=>he.imp λ_ h=>⟨λr hY w=>yx h1 h.se r hY w (Ac hc)⟩;cases v with
 |ListComp elt gens scope pos'=>
  refine Is.to λex h=>⟨λ{env} {A s as X H ρ K R XX} r hY w=>?_⟩;obtain⟨b,hb⟩:=t4 (elt:=elt) (gens:=gens) (scope:=scope) (pos:=pos') (px:=px) (x:=x) (l:=pos.line) (env:=env)
  induction b with
  |false=>exact yx h1 (he.of h).se r hY w hb
  |true=>
   cases k with
   |zero=>exact fm h
   |succ k=>
    cases(vX λa=>wP C sc hf k (a.trans hg)).of h with
    |mk ok hns hi he' hc=>exact Cw h1 ok hns hi he' hc r hY w hb
 |SetComp elt gens scope pos'=>cases k<;>exact trivial
 |DictComp elt elt' gens scope pos'=>cases k<;>exact trivial
 |_=>exact F rfl
theorem wL{R:List (List St)->Prop}{S:List St->Prop}(h:Is o R)(k:∀l,R l->S l.flatten):Is (nA o) S:=by
 induction o with
 |none=>exact trivial
 |some l=>exact k l h
inductive Tgt2R(T:Tb):List Expr->List Nat->Prop
 |mk {x y:Str} {px py:Pos} {i j:Nat}:T.slot x=some i->T.slot y=some j->Tgt2R T [.Name x px,.Name y py] [i,j]
theorem xh(T:Tb)(es:List Expr):Is (yb (yR T) es) (Tgt2R T es):=by
 rcases es with _|⟨a,_|⟨b,_|_⟩⟩
 ·exact trivial
 ·exact trivial
 ·refine (je a).bind λx h1=>(je b).bind λy h2=>Is.self.bind λi h3=>Is.self.map λj h4=>?_;obtain⟨_,rfl⟩:=h1;obtain⟨_,rfl⟩:=h2;exact .mk h3 h4
 ·exact trivial
theorem Cq(t:Expr):Is (JU T t) (Tgt c T t):=by
 cases t with
 |Name x p=>exact Is.self.map λ_ h1=>Bl h1
 |Tuple es k p=>exact(xh T es).map λ_ h=>by induction h with|mk h3 h4=>exact sU h3 h4
 |_=>exact trivial
theorem AC(h:zw T f=true):∃g p,f=.Name g p/\T.glob g=some (.ty "reversed"):=by
 haveI k:Is (tJ f) λx=>(T.glob x).any (λg=>zX g==some "reversed")=true->∃g p,f=.Name g p/\T.glob g=some (.ty "reversed"):=(je f).imp λx e=>e.elim λp e q=>by
  refine⟨x,p,e,?_⟩;refine fS (o:=T.glob x) (λh2=>?_) (λg h2=>?_)
  ·rw [h2];rw [h2]at q;exact nomatch q
  ·rw [h2];rw [h2]at q;exact congrArg _ ((uH g).of (eq_of_beq q))
 unfold zw at h;refine fS (o:=tJ f) (λh1=>?_) (λx h1=>?_)
 ·rw [h1]at h;exact nomatch h
 ·rw [h1]at h;exact k.of h1 h
theorem I6(C:Cok c T.gl)(ihe:EI c n T r)(ht:Tgt c T t tg)(hb:SB c n T body xs)(it:Expr) :
  Is (cIt r T it) λq=>S1 c n T (.For t it body [] pos) (.f q.1 tg q.2 xs):=by
 have F:∀e,Is ((r e).map λx=>(false,x)) λq=>S1 c n T (.For t e body [] pos) (.f q.1 tg q.2 xs):=λe=>(ihe e).map λ_ h=>FQ ht h.nset h.se hb;cases it with
 |Call f args kws p=>
  refine Is.ite2 (λhr=>?_) λ_=>F _
  induction kws with
  |cons _ _=>exact trivial
  |nil=>
   rcases args with _|⟨e,_|_⟩
   ·exact trivial
   ·refine (ihe e).map λ_ h=>?_;obtain⟨g,p',rfl,hg⟩:=AC hr;exact ya C hg ht (.cons ⟨h.se,h.ns⟩ .nil) hb
   ·exact trivial
 |_=>exact F _
theorem DR(ihe:EI c n T r)(es:List Expr)(v:Expr):Is (Fd r T es v) (S1 c n T (.Assign [.Tuple es kk pt] v pos)):=by
 cases v with
 |Call f a k p=>exact(xh T es).bind λ_ h1=>(ihe _).map λ_ h5=>by induction h1 with|mk h3 h4=>exact DW h3 h4 h5.se
 |_=>exact trivial
theorem I3(C:Cok c gl)(sc:SC c n)(hf:∀x f,gl.lookup x=some (.fn f)->∃fn,c.P.fns f=some fn)(hg:T.gl=gl)(t v:Expr):Is (J1 (cE k T) T t v pos.line) (SS c n T (.Assign [t] v pos)):=by
 have ihe:=wP C sc hf k hg;cases t with
 |Name x px=>exact Is.self.bind λ_ h1=>(BB C sc hf hg h1 v).map λ_ h=>lr h
 |Tuple es kk pt=>exact(DR ihe es v).map λ_ h=>lr h
 |Subscript o i pp=>exact(ihe v).bind λ_ h1=>(ihe o).bind λ_ h2=>(ihe i).map λ_ h3=>lr (DN h1.se h2.se h3.se)
 |Attribute o name pp=>subst hg;exact Is.nite λhc=>(ihe v).bind λ_ h2=>(sT ihe o name).map λ_ h=>by cases h with|mk hx hat hok h1=>exact lr (CW (C.cl _ _ _ _ hx) hat hc h2.se h1.se)
 |_=>exact trivial
inductive RzR(T:Tb):Option Expr->Option Expr->Nat->Prop
 |mk {x m:Str} {p mp cp:Pos} {kk j:Nat}:T.glob x=some (.exc j)->RzR T (some (.Call (.Name x p) [.Constant (.str m) kk mp] [] cp)) none j
theorem Ka(e cause:Option Expr):Is (Ag T e cause) (RzR T e cause):=by
 induction cause with
 |some _=>exact trivial
 |none=>
  induction e with
  |none=>exact trivial
  |some e=>
   cases e with
   |Call f args kws cp=>
    induction kws with
    |cons _ _=>exact trivial
    |nil=>
     rcases args with _|⟨a,_|_⟩
     ·exact trivial
     ·refine (BE a).bind λm h1=>(je f).bind λx h2=>Is.self.bind λg h3=>(nP g).imp λ_ h4=>?_;obtain⟨_,_,rfl⟩:=h1;obtain⟨_,rfl⟩:=h2;subst h4;exact .mk h3
     ·exact trivial
   |_=>exact trivial
theorem IW(C:Cok c T.gl)(hb:SB c n T body bs)(hd:ExceptHandler) :
  Is (cHd T hd) λq=>S1 c n T (.Try body [hd] [] [] pos) (.try_ bs q.1 q.2):=by
 obtain⟨t,nm,b,p⟩:=hd
 induction nm with
 |some _=>exact trivial
 |none=>
  induction t with
  |none=>exact trivial
  |some t=>refine(je t).bind λx h1=>Is.self.bind λg h2=>(nP g).bind λj h3=>(Hk b).map λ_ h=>?_;obtain⟨_,rfl⟩:=h1;obtain⟨he,p',rfl,hr⟩:=h;subst h3;exact Ii C h2 hb hr
theorem DG(C:Cok c T.gl)(ih:∀e,Is (r e) (SE c n T e))(hd:ExceptHandler) :
  Is (cTi r T body hd) λs=>S1 c n T (.Try body [hd] [] [] pos) s:=by
 obtain⟨t,nm,b,p⟩:=hd
 induction nm with
 |none=>exact trivial
 |some y=>
  induction t with
  |none=>exact trivial
  |some t=>
   refine(je t).bind λx h1=>Is.self.bind λg h2=>(nP g).bind λj h3=>?_;obtain⟨_,rfl⟩:=h1;subst h3;rcases b with _|⟨s,_|_⟩
   ·exact trivial
   ·refine (K9 T y s).bind λq h4=>Is.self.bind λk h5=>Is.ite λh6=>(Ee body).bind λv h7=>(ih v).map λe h8=>?_;obtain⟨_,rfl,hc⟩:=h7;cases h4 with
    |mk a b c d f=>exact D5 C h2 h5 h6.2 h6.1 hc h8 a b c d f
   ·exact trivial
theorem KA(k:Nat):∀{c:Cx},Cok c gl->SC c n->(∀x f,gl.lookup x=some (.fn f)->∃fn,c.P.fns f=some fn)->∀{T:Tb},T.gl=gl->∀st,Is (cS k T st) (SS c n T st):=by
 induction k with
 |zero=>exact λ_ _ _ _ _ _=>trivial
 |succ k ih=>
  intro c C sc hf T hg st;have ihb:∀b:List Stmt,Is (nA (jx (cS k T) b)) (SB c n T b):=λb=>wL (mq (ih C sc hf hg) b) λ_ q=>Fu q;have ihe:=wP C sc hf k hg;clear ih;cases st with
  |Assign ts v pos=>
   rcases ts with _|⟨t,_|_⟩
   ·exact trivial
   ·exact I3 C sc hf hg t v
   ·exact trivial
  |While t body els pos=>
   induction els with
   |nil=>exact(ihe t).bind λ_ h1=>(ihb body).map λ_ h2=>lr (Aa h1.st h2)
   |cons _ _=>exact trivial
  |Expr v pos=>exact Is.nite λhc=>(ihe v).map λ_ h1=>lr (Di hc h1.se)
  |If t a b pos=>exact(ihe t).bind λ_ h1=>(ihb a).bind λ_ h2=>(ihb b).map λ_ h3=>lr (LL h1.st h2 h3)
  |For t it body els pos=>
   induction els with
   |nil=>exact(Cq t).bind λtg h1=>Is.self.bind λq h2=>(ihb body).map λxs h3=>lr ((I6 (hg▸C) ihe h1 h3 it).of h2)
   |cons _ _=>exact trivial
  |Return v p=>
   induction v with
   |some e=>exact(ihe e).map λ_ h1=>Ja h1.se
   |none=>exact Eh
  |Pass p=>exact Eg
  |Raise a b p=>exact(Ka a b).map λ_ h=>by induction h with|mk hx=>exact⟨λr hY w=>(yz (hg▸C) hx).run r hY w⟩
  |Try body hs els fin pos=>
   induction els with
   |cons _ _=>exact trivial
   |nil=>
    induction fin with
    |cons _ _=>exact trivial
    |nil=>
     rcases hs with _|⟨hd,_|_⟩
     ·exact trivial
     ·exact Is.orE ((ihb body).bind λ_ h1=>(IW (hg▸C) h1 hd).map λ_ h2=>lr h2) ((DG (hg▸C) (λe=>(ihe e).imp λ_ h=>h.se) hd).map λ_ h2=>lr h2)
     ·exact trivial
  |_=>exact trivial
theorem HB(C:Cok c gl)(sc:SC c n)(hf:∀x f,gl.lookup x=some (.fn f)->∃fn,c.P.fns f=some fn)(hg:T.gl=gl)(h:NU k T b=some sts):SB c n T b sts:=
 (wL (mq (KA k C sc hf hg) b) λ_ q=>Fu q).of h
end
set_option backward.match.sparseCases true in
theorem tG{R:Result->Shared->Prop} 
  
  (hroom:A.depth<recursionLimit)(ho:s.heap.get? a=some o)(hdata:o.data=.func (methDef name qual params body scope pm cd doc))(hlim:s.heap.NoLimit)(hcd:s.heap.CodeRec cd qual)
  (hbind:bindArgs (methDef name qual params body scope pm cd doc) ⟨args,[]⟩=pure binds)
  (hkind:∀x∈binds,scope.names.lookup x.1=some .local\/(scope.names.lookup x.1=some .cell/\((cellsFrom (s.heap.objs.size+1) scope.names []).lookup x.1).isSome=true))
  (h:∀h₁ tk,PyProof.Rows.Fr s.heap s.heap.objs.size h₁ (bindL (envOfC qual scope s.heap.objs.size a cd).kindOf binds λ_=>none)->
   Cl s.heap.objs.size (cellsFrom (s.heap.objs.size+1) scope.names []) h₁ (bindC (envOfC qual scope s.heap.objs.size a cd).kindOf binds λ_=>none)->
   wpAny (model prog w) (A.deeper (envOfC qual scope s.heap.objs.size a cd)) (execs body (envOfC qual scope s.heap.objs.size a cd))
    (λf s'=>R (.ok (.ret (match f with|.ret v=>v|_=>.none))) s')
    (λe s'=>wpAny (model prog w) (A.deeper (envOfC qual scope s.heap.objs.size a cd)) (leaving (envOfC qual scope s.heap.objs.size a cd) e)
     (λ_ s''=>R (.error e) s'') (λe' s''=>R (.error e') s'') s')
    {s with heap:=h₁,toks:=tk})
  (hco:scope.isCoroutine=false)(hgen:scope.isGenerator=false)(hk:scope.kind=.function) :
  codeAny (model prog w) A (.call (.ref a) ⟨args,[]⟩) R s:=by
 refine codeAny_call_cells (fd:=methDef name qual params body scope pm cd doc) hroom ho hdata hlim hcd rfl hbind rfl hkind (λs₁ X=>?_) hco hgen hk;refine dI X.done ?_;intro h₁ tk q_3 _;subst q_3;exact h h₁ tk ⟨X.toInCall.ns,X.toInCall.keep,X.toInCall.fresh⟩ ⟨X.cell,X.apart,X.above⟩
structure FOk(c:Cx)(gl:List (Str×Gl))(f:Nat)(fn:Fn) where
 name:Str
 qual:Str
 params:Arguments
 body:List Stmt
 scope:Scope
 pm:Value
 cd:Value
 doc:Value
 ps:List Str
 T:Tb
 k:Nat
 data:c.fdat f=methDef name qual params body scope pm cd doc
 code:c.base.CodeRec cd qual
 hgl:T.gl=gl
 names:T.names=scope.names
 hn:T.n=fn.arity+fn.extra
 hc:NU k T body=some fn.body
 bind:∀xs:List Value,xs.length=fn.arity->bindArgs (methDef name qual params body scope pm cd doc) ⟨xs,[]⟩=pure (ps.zip xs)
 psl:ps.length=fn.arity
 psn:ps.Nodup
 psk:∀x∈ps,scope.names.lookup x=some .local\/scope.names.lookup x=some .cell
 tabn:(T.tab.map (·.2)).Nodup
 tabp:∀x i,T.tab.lookup x=some i->i<fn.arity->ps[i]? =some x
 keys:(scope.names.map (·.1)).Nodup
 nofree:∀p∈scope.names,p.2≠.free
 kind:scope.kind=.function
 co:scope.isCoroutine=false
 gen:scope.isGenerator=false
theorem t7(names:List (Str×NameKind)):∀(n:Nat) (acc:List (Str×Addr)),((cellsFrom n names acc).map (·.1)).Perm (((names.filter (λp=>p.2==.cell)).map (·.1))++acc.map (·.1)):=by
 induction names with
 |nil=>exact λ_ _=>.refl _
 |cons p r ih=>
  intro n acc;obtain⟨x,k⟩:=p;dsimp only [cellsFrom];by_cases hk:(k==NameKind.cell)=true
  ·rw [if_pos hk,cR (p:=λp:Str×NameKind=>p.2==NameKind.cell) hk];exact(ih (n+1) ((x,n)::acc)).trans Ou
  ·rw [if_neg hk,eG (p:=λp:Str×NameKind=>p.2==NameKind.cell) hk];exact ih n acc
theorem oz(names:List (Str×NameKind)):∀(n:Nat) (acc:List (Str×Addr)) (x:Str),((x,NameKind.cell)∈names\/(∃a,acc.lookup x=some a))->∃a,(cellsFrom n names acc).lookup x=some a:=by
 induction names with
 |nil=>exact λ_ _ _ h=>h.elim (λh=>nomatch h) id
 |cons p r ih=>
  intro n acc x h;obtain⟨y,k⟩:=p;dsimp only [cellsFrom];by_cases hk:(k==NameKind.cell)=true
  ·rw [if_pos hk];refine ih _ _ _ ?_;by_cases hxy:x=y
   ·exact .inr ⟨n,by rw [bg,beq_iff_eq.mpr hxy]⟩
   ·exact h.imp (λh=>eC h (λe=>absurd (congrArg nL e) hxy) id) λh=>h.imp λa h=>by simp only [bg,beq_eq_false_iff_ne.mpr hxy];exact h
  ·rw [if_neg hk];exact ih _ _ _ (h.imp (λh=>eC h (λe=>absurd (beq_iff_eq.mpr (congrArg j5 e).symm) hk) id) id)
theorem pV{α β:Type}[BEq α][LawfulBEq α]{l:List (α×β)}(hn:(l.map (·.1)).Nodup){p:α×β}(h:p∈l):l.lookup p.1=some p.2:=by
 induction l with
 |nil=>exact nomatch h
 |cons q r ih=>
  haveI hn:=bk.mp hn;rw [bg];refine eC h (λe=>?_) λh=>?_
  ·rw [e,BEq.rfl]
  ·rw [beq_eq_false_iff_ne.mpr λe:p.1=q.1=>hn.1 (aK.mpr ⟨p,h,e⟩)];exact ih hn.2 h
theorem CO{α:Type}{l:List (α×Nat)}(hn:(l.map (·.2)).Nodup){x y:α}(h1:(x,i)∈l)(h2:(y,i)∈l):x=y:=by
 induction l with
 |nil=>exact nomatch h1
 |cons q r ih=>
  haveI hn:=bk.mp hn;refine eC h1 (λe1=>?_) λh1=>?_
  ·exact eC h2 (λe2=>congrArg nL (e1.trans e2.symm)) λh2=>absurd (aK.mpr ⟨_,h2,(congrArg j5 e1:i=q.2)⟩) hn.1
  ·exact eC h2 (λe2=>absurd (aK.mpr ⟨_,h1,(congrArg j5 e2:i=q.2)⟩) hn.1) λh2=>ih hn.2 h1 h2
section
variable {kindOf:Str->Option NameKind}{ps:List Str}{x:Str}
theorem tN(h:x∉ps):∀{xs:List Value} {m:Str->Option Value},bindL kindOf (ps.zip xs) m x=m x:=by
 induction ps with
 |nil=>exact rfl
 |cons p ps ih=>
  intro xs m
  induction xs with
  |nil=>exact rfl
  |cons y xs=>
   refine(ih (λe=>h (.tail _ e))).trans ?_;by_cases hk:kindOf p=some .local
   ·rw [if_pos hk];exact if_neg λe:x=p=>h (e▸.head _)
   ·rw [if_neg hk]
theorem zP(hn:ps.Nodup):∀{xs:List Value} {m:Str->Option Value} {i:Nat} {y:Value},ps[i]? =some x->xs[i]? =some y->kindOf x=some .local->bindL kindOf (ps.zip xs) m x=some y:=by
 induction ps with
 |nil=>exact λh=>fm h
 |cons p ps ih=>
  have hn:=bk.mp hn;intro xs m i y h1 h2 hk;cases xs with
  |nil=>exact fm h2
  |cons z xs=>
   induction i with
   |zero=>
    (replace h1:=aj h1;(replace h1:=Eq.symm h1;subst h1))
    (replace h2:=aj h2;subst h2)
    refine(tN hn.1).trans ?_;rw [if_pos hk];exact if_pos rfl
   |succ i=>exact ih hn.2 h1 h2 hk
theorem sO(h:x∉ps):∀{xs:List Value} {m:Str->Option Value},bindC kindOf (ps.zip xs) m x=m x:=by
 induction ps with
 |nil=>exact rfl
 |cons p ps ih=>
  intro xs m
  induction xs with
  |nil=>exact rfl
  |cons y xs=>
   refine(ih (λe=>h (.tail _ e))).trans ?_;by_cases hk:kindOf p=some .local
   ·rw [if_pos hk]
   ·rw [if_neg hk];exact if_neg λe:x=p=>h (e▸.head _)
theorem zZ(hn:ps.Nodup):∀{xs:List Value} {m:Str->Option Value} {i:Nat} {y:Value},ps[i]? =some x->xs[i]? =some y->kindOf x≠some .local->bindC kindOf (ps.zip xs) m x=some y:=by
 induction ps with
 |nil=>exact λh=>fm h
 |cons p ps ih=>
  have hn:=bk.mp hn;intro xs m i y h1 h2 hk;cases xs with
  |nil=>exact fm h2
  |cons z xs=>
   induction i with
   |zero=>
    (replace h1:=aj h1;(replace h1:=Eq.symm h1;subst h1))
    (replace h2:=aj h2;subst h2)
    refine(sO hn.1).trans ?_;rw [if_neg hk];exact if_pos rfl
   |succ i=>exact ih hn.2 h1 h2 hk
end
theorem ACk.deep(a:ACk c A (n+1)):AOk c (A.deeper env) n:=⟨⟨a.hh,by have:=a.hd;simp only [Around.deeper];exact eW this (by simp+arith only),by have:=a.hu;simp only [Around.deeper];exact eW this (by simp+arith only)⟩,by have:=a.hd;simp only [Around.deeper];exact eW this (by simp+arith only),by have:=a.hu;simp only [Around.deeper];exact eW this (by simp+arith only)⟩
theorem yc{h:HP}{b:Addr}(hb:h.objs.size<=b):h.get? b=none:=fS (o:=h.get? b) id λ_ e=>absurd (fB e) (iq.mpr hb)
theorem sE{vs:List V}{m i:Nat}{v:V}(e:((vs.map some++bO m none)[i]?).join=some v):i<vs.length/\vs[i]? =some v:=by
 by_cases hi:i<(vs.map some).length
 ·rw [bt hi,aV]at e;refine⟨(ak _)▸hi,?_⟩;refine fS (o:=vs[i]?) (λhq=>?_) (λv' hq=>?_)
  ·rw [hq];rw [hq]at e;exact fm e
  ·rw [hq];rw [hq]at e;exact e
 ·rw [b0 (iq.mp hi),List.getElem?_replicate]at e;split at e<;>exact fm e
theorem vA{P:Addr->Prop}(h:P env.locals)(k:∀p∈env.cells,P p.2):∀b∈own env,P b:=d0 h (JB.mpr k)
theorem tC:∀b∈iW env,b∈own env:=d0 (.head _) λ_ h=>h
theorem D9(h:env.locals=L):2<=(iW env++X).count L:=by rw [<-h,r4];exact aa (by rw [nJ,nJ];exact bL 2 _) (ax _ _)
theorem CJ{c:Cx}{n:Nat}{gl:List (Str×Gl)}(C:Cok c gl)(hf:∀x f,gl.lookup x=some (.fn f)->∃fn,c.P.fns f=some fn)(ok:∀f fn,c.P.fns f=some fn->Nonempty (FOk c gl f fn))(sc:SC c n):SC c (n+1):=by
 refine⟨?_⟩;intro f fn A s as X H vs xs Q XX hfn a fr S hvs w;obtain⟨K⟩:=ok f fn hfn;simp only [lK,hfn]at w;refine cY w λhlen w=>?_;refine av (C.fobj f fn hfn) ?_;intro o ho hdata;rw [K.data]at hdata;haveI hxl:xs.length=fn.arity:=by rw [<-hvs.length];exact hlen
 refine wpAny_call (tG (by haveI:=a.hd;exact eW this (by simp+arith only)) (S.stays _ _ ho) hdata (C.nolim.keeps S.stays) (K.code.keeps S.stays) (K.bind xs hxl) (λx hx=>?_) (λh₁ tk F0 Cl0=>?_) K.co K.gen K.kind)
 ·exact (K.psk _ (vr hx).1).imp id λq=>⟨q,dZ.mpr (oz K.scope.names (s.heap.objs.size+1) [] x.1 (.inl (mem_of_lookup q)))⟩
 ·haveI hfL:s.heap.get? s.heap.objs.size=none:=dy _;generalize hL:s.heap.objs.size=L at F0 Cl0 hfL ⊢;generalize henv:envOfC K.qual K.scope L (c.fad f) K.cd=env at F0 Cl0 ⊢;haveI ecells:env.cells=cellsFrom (L+1) K.scope.names []:=by rw [<-henv];rfl
  have eloc:env.locals=L:=by rw [<-henv];rfl
  have ekind:∀x,env.kindOf x=K.scope.names.lookup x:=λx=>by rw [<-henv];rfl
  haveI hcn:((cellsFrom (L+1) K.scope.names []).map (·.1)).Nodup:=by refine(t7 K.scope.names (L+1) []).symm.nodup ?_;simp only [Ey,aC];exact(List.filter_sublist.map _).nodup K.keys
  haveI habove:∀p∈cellsFrom (L+1) K.scope.names [],L<p.2:=λp hp=>Cl0.above p.1 p.2 hp;have hfresh:∀b,L<=b->s.heap.get? b=none:=λb hb=>yc (aa (au hL) hb);have hownc:∀p∈env.cells,p∈cellsFrom (L+1) K.scope.names []:=λp hp=>ecells▸hp;have hown:∀b∈own env,s.heap.get? b=none:=vA (hfresh _ (au eloc.symm)) λp hp=>hfresh _ (gT (habove p (hownc p hp)));have g:Grown s.heap h₁:=F0.keep;haveI ho2:∀b∈iW env,s.heap.get? b=none:=λb hb=>hown b (tC b hb);haveI hX':∀b∈iW env++X,b∈X\/s.heap.get? b=none:=dk (λb q=>.inr (ho2 b q)) λ_ q=>.inl q;haveI S1:SR c as (iW env++X) H {s with heap:=h₁,toks:=tk}:=S.opens (s':={s with heap:=h₁,toks:=tk}) g hX' (dk (λb q=>vA (P:=λb=>∃o,h₁.get? b=some o) (eloc▸lh F0.ns λo _ _ e _=>⟨o,e⟩) (λp hp=>(Cl0.cell p.1 p.2 ((λp hp=>pV hcn hp:∀p∈cellsFrom (L+1) K.scope.names [],(cellsFrom (L+1) K.scope.names []).lookup p.1=some p.2) p (hownc p hp))).imp λ_ e=>e.1) b (tC b q)) λb q=>(S.xs b q).imp λ_ e=>g _ _ e) rfl rfl;have hslot:∀{x:Str} {i:Nat} {v:V},K.T.tab.lookup x=some i->((vs.map some++bO fn.extra none)[i]?).join=some v->∃y,K.ps[i]? =some x/\xs[i]? =some y/\VR c as (iW env++X) h₁ v y:=λ{x i v} ht e=>
   (hvs.get (sE e).2).imp λy q=>⟨K.tabp x i ht (hlen▸(sE e).1),q.1,q.2.opens g hX'⟩
  haveI F1:FR c as (iW env++X) h₁ env K.T.tab (vs.map some++bO fn.extra none):=by
   refine⟨by rw [<-henv];exact K.kind,by rw [<-henv];rfl,by rw [<-henv];rfl,by simp,?_,?_,⟨_,by exact(eloc)▸F0.ns,λx i ht hk v e=>?_⟩,λx i ht hk=>?_,λx y b e1 e2=>?_,λx y i e1 e2=>?_⟩
   ·exact eloc▸S.not_as hfL
   ·exact eloc▸S.base_none hfL
   ·exact (hslot ht e).imp λy q=>⟨zP K.psn q.1 q.2.1 hk,q.2.2⟩
   ·have hk':K.scope.names.lookup x=some .cell:=hk.elim (λhk=>(ekind x).symm.trans hk) λhk=>absurd rfl (K.nofree _ (mem_of_lookup ((ekind x).symm.trans hk)));refine dM (oz K.scope.names (L+1) [] x (.inl (mem_of_lookup hk'))) λb hb=>?_;haveI hLb:=Cl0.above x b (mem_of_lookup hb);haveI hnb:=hfresh b (gT hLb);refine⟨b,_,by rw [ecells];exact hb,aI _ (.tail _ (.tail _ (aK.mpr ⟨(x,b),by rw [ecells];exact mem_of_lookup hb,rfl⟩))),S.not_as hnb,S.base_none hnb,by exact(eloc)▸gQ hLb,Cl0.cell x b hb,λv e=>?_⟩;exact(hslot ht e).imp λy q=>⟨zZ K.psn q.1 q.2.1 (λh=>nomatch hk'.symm.trans ((ekind x).symm.trans h)),q.2.2⟩
   ·exact name_of_addr Cl0.apart (hownc _ (mem_of_lookup e1)) (hownc _ (mem_of_lookup e2))
   ·exact CO K.tabn (mem_of_lookup e1) (mem_of_lookup e2)
  haveI ek:∀x,env.kindOf x=K.T.names.lookup x:=λx=>(ekind x).trans (congrArg _ K.names.symm);haveI Kn:KOk K.T env:=⟨λx h=>(ek x).trans h,λx h=>(ek x).trans h,λx h=>.inl ((ek x).trans h),λx h=>(ek x).trans h⟩;haveI a1:AOk c (A.deeper env) n:=a.deep;refine av fr ?_;intro l hfl hfe;have efr:env.frame=some L:=by rw [<-henv];rfl
  haveI ekd:env.scope.kind=.function:=by rw [<-henv];exact K.kind
  haveI hcnt:∀b,X.count b<=(iW env++X).count b:=λb=>by simp only [r4];exact bL _ _
  haveI hLX:L∈iW env++X:=aI _ (by simp only [<-eloc];exact .head _);have fr1:∀{as':dH} {Z:List Addr} {H':AH} {s':Shared},Ext as s.heap as'->Kept as (iW env++X) s.heap s'.heap->SR c as' Z H' s'->(∀b∈iW env++X,b∈Z)->(∃m,s'.heap.Ns env.locals m)->EnvFr c (A.deeper env) (iW env++X) as' s'.heap env:=λ{as' Z H' s'} e k S' hZ hn=>⟨env,l,L,Around.frames_deeper hfl,d0 (hn.elim λm hn=>ja hn λob es ep e1 e2 _=>⟨ekd▸(by decide),L,ob,es,ep,efr,S.base_none hfL,D9 eloc,λq=>(cB q).elim λi hi=>(S'.objs i _ hi).2.1 (hZ _ hLX),eloc▸e1,e2⟩) λev hev=>((hfe ev hev).grow (.refl _) hcnt).keep e k,efr,efr⟩
  have O1:Own (A.deeper env) (iW env++X) env:=by refine⟨λb hb=>aI _ (.tail _ hb),efr.trans (congrArg some eloc.symm),λl' hl' ev hev L' hL' q=>?_⟩;haveI hev:ev∈env::l:=aj ((Around.frames_deeper (env:=env) hfl).symm.trans hl')▸hev;have hlt:L<L':=(JB (P:=λb=>L<b)).mpr (λp hp=>habove p (hownc p hp)) L' q;refine d0 (p:=λev=>ev.frame=some L'->False) (λhL'=>dK hlt (aj (efr.symm.trans hL'))) (λev hev hL'=>nr ((hfe ev hev).there) λL'' o' _ _ q1 _ _ _ q5 _=>?_) ev hev hL';cases q1.symm.trans hL';exact fm ((hfresh _ (gT hlt)).symm.trans q5)
  have hE1:∀{as':dH},Ext as h₁ as'->Ext as s.heap as':=λe=>⟨e.old,λb hb=>(e.new b hb).imp id g.none⟩;have hK1:∀{h':HP},KeptX as (iW env++X) (own env) h₁ h'->Kept as (iW env++X) s.heap h':=λk b o e hb=>k b o (g _ _ e) hb λq=>fm ((hown b q).symm.trans e);have hless:∀b,2<=(iW env++X).count b->2<=X.count b\/Mine.Fr as s.heap b:=λb hb=>by
   by_cases hm:b∈iW env
   ·exact .inr (.inr (ho2 b hm))
   ·rw [r4,jo hm,dw]at hb;exact .inl hb
  haveI R1:Rdy c K.T env (A.deeper env) n {s with heap:=h₁,toks:=tk} as (iW env++X) H (vs.map some++bO fn.extra none):=⟨a1,S1,F1,Kn,by rw [K.hn,ah,ak,FG,hlen],fr1 (.refl ..) (g.kept _ _) S1 (λ_ q=>q) (F1.ns.imp λ_ h=>h.1)⟩;have fin:∀{v:V} {y:Value} {H':AH} {as':dH} {s':Shared},Ext as h₁ as'->SR c as' (iW env++X) H' s'->KeptX as (iW env++X) (own env) h₁ s'.heap->VR c as' (iW env++X) s'.heap v y->Q v H'->Res c as X s.heap Q y s':=λ{v y H' as' s'} e S' k hv q=>⟨v,H',as',hE1 e,S'.turn (λb o e _ _=>e) S'.stays (λb hb=>az _ hb) (λb hb=>S'.xs b (az _ hb)) rfl rfl,(hK1 k).less hless,hv.frames λb _ _ hb q=>hb (az _ q),q⟩
  refine wpAny_mono ((HB C sc hf K.hgl K.hc).run R1 O1 w) (λfl s' q=>?_) λx s' r=>?_
  rotate_left
  ·obtain ⟨k,H',as',e,t,ts,rfl,e',S',k',ex,ht,ap,hn,q⟩:=r;haveI er:ERes c as (iW env++X) s.heap XX (.ref e) s':=⟨k,H',as',e,t,ts,rfl,hE1 e',S',hK1 k',ex,ht,λa ha=>⟨(ap a ha).1.imp id g.none,(ap a ha).2⟩,q⟩;dsimp only [leaving];refine wpAny_bind (er.note (λas'' _ _ e'' k'' S'' hZ=>fr1 e'' k'' S'' hZ hn) λs'' er' tr _=>er'.fly tr λs₃ er₃ _=>?_);exact er₃.less (λb hb=>az _ hb) hless
  induction fl with
  |next=>refine g9 q ?_;intro ρ' H' as' e S' k _ _ q;exact fin e S' k .none q
  |ret y=>refine oU q ?_;intro v H' as' e S' k hv q;exact fin e S' k hv q
  |_=>exact q.elim
theorem C8:SC c 0:=⟨λ_ _ _ _ _ h=>h.elim⟩
theorem It(C:Cok c gl)(hf:∀x f,gl.lookup x=some (.fn f)->∃fn,c.P.fns f=some fn)(ok:∀f fn,c.P.fns f=some fn->Nonempty (FOk c gl f fn)):SC c n:=by
 induction n with
 |zero=>exact C8
 |succ n ih=>exact CJ C hf ok ih
theorem uZ{ps:List Str}{x:Str}:∀{xs:List Value},ps.length=xs.length->x∈ps->((ps.zip xs).lookup x).isSome=true:=by
 induction ps with
 |nil=>exact λ_ h=>nomatch h
 |cons p ps ih=>
  intro xs hl h;cases xs with
  |nil=>exact nomatch hl
  |cons y xs=>rw [eZ,bg];exact qQ (o:=x==p) (λe=>by rw [e];rfl) λe=>by rw [e];exact ih (fW hl) (eC h (λz=>absurd ((beq_iff_eq.mpr z).symm.trans e) (Ne.symm ai)) id)
theorem Bz{α β:Type}{f g:α->Option β}{l:List α}:(∀a∈l,f a=g a)->l.filterMap f=l.filterMap g:=by
 induction l with
 |nil=>exact λ_=>rfl
 |cons a l ih=>exact λh=>by rw [g7,g7,h a (.head _),ih λb hb=>h b (.tail _ hb)]
theorem pO{ps:List Str}:∀{xs:List Value},ps.length=xs.length->ps.Nodup->ps.filterMap (λn=>((ps.zip xs).lookup n).map (n,·))=ps.zip xs:=by
 induction ps with
 |nil=>exact λ_ _=>rfl
 |cons p ps ih=>
  intro xs hl hn;cases xs with
  |nil=>exact nomatch hl
  |cons y xs=>haveI hn':=bk.mp hn;rw [eZ,g7,bg,beq_self_eq_true];refine congrArg ((p,y)::·) ((Bz λn h=>?_).trans (ih (fW hl) hn'.2));rw [bg,show(n==p)=false from beq_false_of_ne λe=>hn'.1 (e▸h)]
theorem sB{α β:Type}{x:Sem α}{a:α}{f:α->Sem β}{r:Sem β}(h:x=pure a)(k:f a=r):(x>>= f)=r:=by subst h;exact k
theorem sI{α:Type}{A B r:Sem α}(h:c=false)(k:B=r):(if c=true then A else B)=r:=by subst h;exact k
theorem xw(hp:args.map (·.arg)=ps)(hl:decide (xs.length>ps.length)=false)
  (hm:((ps.take ps.length).filter λn=>((ps.zip xs).lookup n).isNone)=[])(hz:ps.filterMap (λn=>((ps.zip xs).lookup n).map (n,·))=ps.zip xs) :
  bindArgs (methDef name qual ⟨[],args,none,[],kd,none,df⟩ body scope pm cd doc) ⟨xs,[]⟩=pure (ps.zip xs):=by
 subst hp;haveI hd:∀k,List.drop k (((none:Option (Array Value)).getD #[]).toList)=[]:=λk=>List.drop_nil;refine sB (α:=List (Str×Value)×List (Str×Value)) rfl ?_;refine sB (a:=none) rfl ?_;refine sI ?_ ?_
 ·exact congrArg (·&&true) hl
 refine sI ?_ ?_
 ·rw [hd];exact congrArg (λl:List Str=>!l.isEmpty) hm
 refine sB (a:=(args.map (·.arg)).zip xs) (by rw [hd,List.zip_nil_right];rfl) ?_;refine sB rfl ?_;refine sI rfl ?_;refine congrArg pure ?_;exact(congrArg (λl=>List.filterMap _ l) (aC _)).trans hz
theorem uN(h1:params.posonlyargs=[])(h2:params.vararg=none)(h3:params.kwonlyargs=[])(h4:params.kwarg=none)
  (hn:(params.args.map (·.arg)).Nodup)(hl:xs.length=(params.args.map (·.arg)).length):bindArgs (methDef name qual params body scope pm cd doc) ⟨xs,[]⟩=pure ((params.args.map (·.arg)).zip xs):=by
 obtain⟨a,b,c,d,e,f,g⟩:=params;subst h1;subst h2;subst h3;subst h4;refine xw rfl (decide_eq_false λh=>absurd hl (gQ h)) ?_ (pO hl.symm hn);refine Ez.mpr λn hn' e=>?_;haveI:=uZ hl.symm (Jp hn');rw [fq.mp e]at this;exact nomatch this
noncomputable def rc(d:DefRec):List Str:=d.params.args.map (·.arg)
noncomputable def kH(d:DefRec):List Str:=(d.scope.names.filter λp=>(decide (p.2=.local)||decide (p.2=.cell))&& !(rc d).contains p.1).map (·.1)
noncomputable def Mr(gl:List (Str×Gl))(mu:List (Nat×Nat))(fz:List (Nat×List Nat))(d:DefRec):Tb:=
 {gl,meths:=[],names:=d.scope.names,tab:=(rc d++kH d).zipIdx,n:=(rc d).length+(kH d).length,mu,fz}
noncomputable def ET(d:DefRec):Bool:=
 d.params.posonlyargs.isEmpty&&d.params.vararg.isNone&&d.params.kwonlyargs.isEmpty&&d.params.kwarg.isNone&&decide (rc d).Nodup&&
 (rc d).all (λx=>decide (d.scope.names.lookup x=some .local)||decide (d.scope.names.lookup x=some .cell))&&
 decide (d.scope.names.map (·.1)).Nodup&&d.scope.names.all (λp=>decide (p.2≠.free))&&decide (d.scope.kind=.function)&& !d.scope.isCoroutine&& !d.scope.isGenerator
noncomputable def rm(gl:List (Str×Gl))(mu:List (Nat×Nat))(fz:List (Nat×List Nat))(d:DefRec):Option Fn:=
 if ET d then(NU 60 (Mr gl mu fz d) d.body).map λb=>⟨(rc d).length,(kH d).length,b⟩else none
theorem uW{α:Type}(l:List α):l.zipIdx.map (·.2)=aX l.length:=by rw [List.zipIdx_eq_zip_range',List.map_snd_zip (by simp)];simp only [Jm]
theorem xA{l:List Str}{x:Str}{i:Nat}(h:l.zipIdx.lookup x=some i):l[i]? =some x:=by
 haveI:=mem_of_lookup h;have h2:=gj.mp this
 simpa using h2
set_option tactic.hygienic true in
theorem Gq{gl:List (Str×Gl)}{mu:List (Nat×Nat)}{fz:List (Nat×List Nat)}{d:DefRec}{f:Nat}{fn:Fn}{pm cd doc:Value}{qual:Str}(h:rm gl mu fz d=some fn)(hd:c.fdat f=methDef d.name qual d.params d.body d.scope pm cd doc)
  (hc:c.base.CodeRec cd qual):Nonempty (FOk c gl f fn):=by
 unfold rm at h;split at h
 ·rename_i hok;replace h:=bz.mp h;refine av h ?_;intro b hb q_3;subst q_3;simp only [ET,dC,decide_eq_true_eq,Ov,fq,bN,jF,cu]at hok;obtain⟨⟨⟨⟨⟨⟨⟨⟨⟨⟨h1,h2⟩,h3⟩,h4⟩,h5⟩,h6⟩,h7⟩,h8⟩,h9⟩,h10⟩,h11⟩:=hok;refine⟨⟨d.name,qual,d.params,d.body,d.scope,pm,cd,doc,rc d,Mr gl mu fz d,60,hd,hc,rfl,rfl,rfl,hb,
   λxs hl=>uN h1 h2 h3 h4 h5 hl,rfl,h5,h6,?_,λx i hx hi=>?_,h7,h8,h9,h10,h11⟩⟩
  ·refine (?_:((rc d++kH d).zipIdx.map (·.2)).Nodup);rw [uW];exact Ow
  ·haveI:=xA (l:=rc d++kH d) hx;replace this:=(bt hi).symm.trans this;exact this
 ·exact fm h
noncomputable def re(recs:List DefRec)(gl:List (Str×Gl))(mu:List (Nat×Nat))(fz:List (Nat×List Nat))(cs:List (List Nat)):Prog:=
 {fns:=λf=>(recs[f]?).bind (rm gl mu fz),sub:=z6 cs}
noncomputable def Ao(h:HP)(x:Str):Bool:=
 match h.clsAt mainGlobals x with
 |some (_,_,cd)=>jV.all λn=>(h.nsMap cd.ns n).isNone
 |none=>false
noncomputable def Ce(h:HP)(n:Str):Value:=(h.nsMap mainGlobals n).getD .none
noncomputable def Lh(owns:List OwnSpec)(h:HP):Bool:=h.isNs mainGlobals&&owns.all λo=>h.ownExcOk o.name o.chain o.bm o.newId&&Ao h o.name&&decide (o.bm=zN)&&(o.newId=="ValueError.__new__")&&o.chain.all λn=>owns.any λo'=>o'.name==n
noncomputable def za(owns:List OwnSpec)(h:HP):List (List Bool):=owns.map λo=>owns.map λo'=>(Ce h o.name::(o.chain.map (Ce h)++o.bm)).contains (Ce h o'.name)
noncomputable def Gc(cs:List (List Nat))(n:Nat):List (List Bool):=(aX n).map λk=>(aX n).map λj=>z6 cs k j
def XSays(owns:List OwnSpec)(cs:List (List Nat))(h:HP):Prop:=
 ∃mg,h.Ns mainGlobals mg/\∀(k:Nat) o,owns[k]? =some o->∃C bm,mg o.name=some (.ref C)/\XC h C bm/\∀(j:Nat) o',owns[j]? =some o'->(Value.ref C::bm).contains ((mg o'.name).getD .none)=z6 cs k j
theorem XSays.keeps(x:XSays owns cs h)(hk:∀b o,h.get? b=some o->h'.get? b=some o):XSays owns cs h':=by refine av x ?_;intro mg hn r;exact⟨mg,hn.keeps hk,λk o e=>(r k o e).imp λ_ q=>q.imp λ_ q=>⟨q.1,q.2.1.keeps hk,q.2.2⟩⟩
theorem Kh{o:OwnSpec}(x:h.ownExcOk o.name o.chain o.bm o.newId=true)(y:Ao h o.name=true)(_hb:o.bm=zN)(hi:o.newId="ValueError.__new__") :
  ∃C,h.nsMap mainGlobals o.name=some (.ref C)/\∀_:XTail h (o.chain.map (Ce h)++o.bm),XC h C (o.chain.map (Ce h)++o.bm):=by
 obtain⟨C,N,nm,q,bs,hdct,sn,sub,ab,col,dd,k0,k1,k2,k3,k5,hg,hC,hN,_⟩:=Nh x;refine⟨C,hg,λT=>⟨hi▸hC,hN,λn hn=>?_,T⟩⟩;unfold Ao at y;cases hf:h.clsAt mainGlobals o.name with
 |none=>replace y:=hf▸y;cases y
 |some z=>
  obtain⟨C',o',cd'⟩:=z;simp only [hf]at y;refine dQ (Heap.clsAt_spec hf) ?_;intro hn' ho' hd';rw [hg]at hn';obtain rfl:C=C':=by injection hn' with q1;injection q1
  rw [hC]at ho';replace ho':=aj ho';obtain rfl:=ho';replace hd':=by injection hd'
  obtain rfl:_=cd':=hd';exact fq.mp (bN.mp y n hn)
theorem zY(e:(Lh owns h,za owns h)=(true,Gc cs owns.length)):XSays owns cs h:=by
 haveI e2:=congrArg j5 e;obtain⟨hn,hall⟩:=ay.mp (congrArg nL e);have all:∀o∈owns,h.ownExcOk o.name o.chain o.bm o.newId=true/\Ao h o.name=true/\o.bm=zN/\o.newId="ValueError.__new__"/\∀n∈o.chain,∃o'∈owns,o'.name=n:=λo ho=>by haveI:=bN.mp hall o ho;simp only [dC,decide_eq_true_eq,beq_iff_eq]at this;obtain⟨⟨⟨⟨h1,h2⟩,h3⟩,h4⟩,h5⟩:=this;refine⟨h1,h2,h3,h4,λn hn=>?_⟩;refine av (lU.mp (bN.mp h5 n hn)) ?_;intro o' ho' q;exact⟨o',ho',beq_iff_eq.mp q⟩
 have tail:∀(ch:List Str),(∀n∈ch,∃o'∈owns,o'.name=n)->XTail h (ch.map (Ce h)++zN):=λch=>by
  induction ch with
  |nil=>intro _;exact .base
  |cons n ch ih=>
   intro hc;refine av (hc n (.head _)) ?_;intro o' ho' q_3;subst q_3;refine EQ (all o' ho') ?_;intro h1 h2 h3 h4 h5;obtain⟨C,N,nm,q,bs,hdct,sn,sub,ab,col,dd,k0,k1,k2,k3,k5,hg,hC,hN,_⟩:=Nh h1;haveI hq:∀n∈jV,h.nsMap N n=none:=λn hn=>by
    unfold Ao at h2;cases hf:h.clsAt mainGlobals o'.name with
    |none=>replace h2:=hf▸h2;cases h2
    |some z=>
     obtain⟨C',o',cd'⟩:=z;simp only [hf]at h2;refine dQ (Heap.clsAt_spec hf) ?_;intro hn' ho' hd';rw [hg]at hn';obtain rfl:C=C':=by injection hn' with q1;injection q1
     rw [hC]at ho';replace ho':=aj ho';obtain rfl:=ho';replace hd':=by injection hd'
     obtain rfl:_=cd':=hd';exact fq.mp (bN.mp h2 n hn)
   refine(?_:XTail h ((h.nsMap mainGlobals o'.name).getD .none::(ch.map (Ce h)++zN)));rw [hg];exact .own hC hN hq (ih λn hn=>hc n (.tail _ hn))
 refine⟨_,.of_isNs hn,λk o ho=>?_⟩;refine EQ (all o (aN ho)) ?_;intro h1 h2 h3 h4 h5;refine av (Kh h1 h2 h3 h4) ?_;intro C hg hx;refine⟨C,_,hg,hx (by exact(h3)▸tail o.chain h5),λj o' ho'=>?_⟩;haveI e3:=congrArg (λl=>(l[k]?.bind λr=>r[j]?)) e2;haveI hk:=(af.mp ho).1;simp only [za,Gc,aV,ho,ho',jG,tQ,cq hk,cq ((af.mp ho').1)]at e3;haveI e4:=aj e3;simp only [<-e4];show _=(Ce h o.name::_).contains _;haveI hgC:Ce h o.name=.ref C:=by unfold Ce;rw [hg];rfl
 rw [hgC];rfl
noncomputable def KT(owns:List OwnSpec)(cs:List (List Nat)):PySem.W.Hook:=
 ⟨Bool×List (List Bool),λs=>(Lh owns s.heap,za owns s.heap),λ_=>(true,Gc cs owns.length),λ_ h=>XSays owns cs h,λ_ _ e=>zY e,λ_ _ _ x hk=>x.keeps hk⟩
noncomputable def zt(recs:List DefRec):List (Str×Gl):=recs.zipIdx.map λp=>(p.1.name,.fn p.2)
noncomputable def ox(x:Str):Gl->Bool
 |.bi b=>decide (bootBuiltins x=some (.builtin b))
 |.ty b=>decide (bootBuiltins x=some (.type b))
 |_=>false
noncomputable def EL:PyData->Option Int
 |.int j=>some j
 |_=>none
noncomputable def EJ:PyData->Option Str
 |.str j=>some j
 |_=>none
theorem zS{d:PyData}{i:Int}(h:EL d=some i):d=.int i:=Is.of (R:=λi=>d=.int i) (by cases d<;>first|exact rfl|exact trivial) h
theorem zQ{d:PyData}{i:Str}(h:EJ d=some i):d=.str i:=Is.of (R:=λi=>d=.str i) (by cases d<;>first|exact rfl|exact trivial) h
noncomputable def Bv(p:Program)(x:Str):V->Bool
 |.int i=>decide ((valOf p x).bind EL=some i)
 |.str t=>decide ((valOf p x).bind EJ=some (toS t))&&decide (t.length<=1000)
 |_=>false
theorem GA(T:Top p loose mean mg mb h)(e:Bv p x v=true):∃y,mg x=some y/\∀as X h,VR c as X h v y:=by
 cases v with
 |int i=>
  refine av (bR.mp (of_decide_eq_true e)) λd hd hi=>?_;cases zS hi;refine av (T.const x _ hd) λy h1 h2=>?_;cases h2 h with
  |int _ t=>exact⟨_,h1,λ_ _ _=>.int _ _⟩
 |str t=>
  replace e:=ay.mp e;refine av (bR.mp (of_decide_eq_true e.1)) λd hd hi=>?_;cases zQ hi;refine av (T.const x _ hd) λy h1 h2=>?_;cases h2 h with
  |str _ t=>exact⟨_,h1,λ_ _ _=>.str _ _ (aa (of_decide_eq_true e.2) (by decide))⟩
 |_=>exact absurd e ai
noncomputable def MO:Value->Option Addr
 |.ref a=>some a
 |_=>none
structure TopOk(p:Program)(loose:List Str)(csts:List (Str×V))(bis:List (Str×Gl)):Prop where
 csts:csts.all (λq=>Bv p q.1 q.2)=true
 names:((recsOf p).map (·.name)).Nodup
 boot:bis.all (λq=>ox q.1 q.2)=true
 free:bis.all (λq=>decide (q.1≠"__name__")&&decide (q.1∉startupNames)&&decide (q.1∉loose)&&decide (q.1∉(recsOf p).map (·.name))&&decide (q.1∉(litsOf p).map (·.1))&&decide (q.1∉(clssOf p loose).map (·.name)))=true
theorem ig{α β:Type}[BEq α]{x:α}{l m:List (α×β)}{v:β}:(l++m).lookup x=some v->l.lookup x=some v\/m.lookup x=some v:=by
 induction l with
 |nil=>exact .inr
 |cons p l ih=>rw [List.cons_append,bg,bg];exact qQ (o:=x==p.1) (λhx=>by rw [hx];exact .inl) λhx=>by rw [hx];exact ih
theorem zo:∀{vs:List Value} {zs:List Int},IntsAre vs zs->VRs c as X h (zs.map V.int) vs:=by
 intro vs zs x
 induction x with
 |nil=>exact .nil
 |cons n t _ ih=>exact .cons (.int n t) ih
noncomputable def glC(csts:List (Str×V)):List (Str×Gl):=csts.map λq=>(q.1,.c q.2)
noncomputable def glX(owns:List OwnSpec):List (Str×Gl):=owns.zipIdx.map λp=>(p.1.name,.exc p.2)
noncomputable def BH(p:Program)(loose:List Str):Option ClsRec:=(plainsOf p loose).head?
noncomputable def B5(m:MethRec):DefRec:=⟨m.name,m.params,m.body,m.scope,⟨0,0,0,0⟩⟩
noncomputable def ip(p:Program)(loose:List Str):List DefRec:=recsOf p++(BH p loose).elim [] λk=>k.meths.map B5
noncomputable def rU(k:ClsRec):Nat:=k.meths.findIdx λm=>m.name==("__init__":Str)
noncomputable def Of(p:Program)(k:ClsRec):Str×Gl:=(k.name,.cls (k.meths.zipIdx.map λq=>(q.1.name,(recsOf p).length+q.2)) k.statics ((recsOf p).length+rU k))
noncomputable def jt(p:Program)(loose:List Str)(csts:List (Str×V))(bis:List (Str×Gl)):List (Str×Gl):=zt (recsOf p)++(glX (ownsOf p)++((BH p loose).toList.map (Of p)++(glC csts++bis)))
noncomputable def NW(k:ClsRec):Bool:=(k.statics.all λn=>match fastLookup "object" n with|some none=>true|_=>false)&&(k.meths.all λm=>(fastLookup "object" m.name).isSome)&&k.meths.any λm=>m.name==("__init__":Str)
theorem tD(h:fastLookup "object" n=some y):typeLookup (.type "object") n=pure y:=by simp only [typeLookup_type,builtinLookup_eq_fast,h]
theorem lH{α β:Type}{f:α->Str}{g:Nat->β}{l:List α}{v:β}(h:(l.zipIdx.map λp=>(f p.1,g p.2)).lookup x=some v):∃i d,v=g i/\l[i]? =some d/\f d=x:=by refine av (aK.mp (mem_of_lookup h)) ?_;intro q hq e;haveI h2:=gj.mp hq;cases e;exact⟨q.2,q.1,rfl,by simpa using h2,rfl⟩
inductive GlR(p:Program)(loose:List Str)(bis:List (Str×Gl))(x:Str):Gl->Prop
 |fn {i:Nat} {d:DefRec}:(recsOf p)[i]? =some d->d.name=x->GlR p loose bis x (.fn i)
 |exc {i:Nat} {d:OwnSpec}:(ownsOf p)[i]? =some d->d.name=x->GlR p loose bis x (.exc i)
 |cls {k:ClsRec} {g:Gl}:BH p loose=some k->(x,g)=Of p k->GlR p loose bis x g
 |c {v:V}:Bv p x v=true->GlR p loose bis x (.c v)
 |bi {g:Gl}:bis.lookup x=some g->ox x g=true->GlR p loose bis x g
theorem uv(ok:TopOk p loose csts bis)(h:(jt p loose csts bis).lookup x=some g):GlR p loose bis x g:=by
 rcases ig h with h|h
 ·refine di (lH h) ?_;intro i d e hd hn;subst e;exact .fn hd hn
 rcases ig h with h|h
 ·refine di (lH h) ?_;intro i d e hd hn
  (replace e:=Eq.symm e;subst e)
  exact .exc hd hn
 rcases ig h with h|h
 ·refine av (aK.mp (mem_of_lookup h)) ?_;intro k hk e;exact .cls (iE.mp hk) e.symm
 rcases ig h with h|h
 ·refine av (aK.mp (mem_of_lookup h)) ?_;intro q hq e;cases e;exact .c (bN.mp ok.csts _ hq)
 ·exact .bi h (bN.mp ok.boot _ (mem_of_lookup h))
theorem Cr(ok:TopOk p loose csts bis)(h:(x,Gl.cls ms ats f)∈jt p loose csts bis):∃k,BH p loose=some k/\(x,Gl.cls ms ats f)=Of p k:=by
 have F:∀{α:Type} {l:List α} {f':α->Str×Gl},(x,Gl.cls ms ats f)∈l.map f'->(∀q,f' q≠(x,Gl.cls ms ats f))->False:=λh hq=>(aK.mp h).elim λq e=>hq q e.2;rcases b9.mp h with h|h
 ·exact (F h λ_ e=>by cases e).elim
 rcases b9.mp h with h|h
 ·exact (F h λ_ e=>by cases e).elim
 rcases b9.mp h with h|h
 ·refine av (aK.mp h) ?_;intro k hk e;exact⟨k,iE.mp hk,e.symm⟩
 rcases b9.mp h with h|h
 ·exact (F h λ_ e=>by cases e).elim
 ·exact absurd (bN.mp ok.boot _ h) ai
theorem CF(h:ox x (.bi b)=true):bootBuiltins x=some (.builtin b):=of_decide_eq_true h
theorem Dm(h:ox x (.ty b)=true):bootBuiltins x=some (.type b):=of_decide_eq_true h
theorem D0 
  {Q E:Value->Shared->Prop}
  (T:Top p loose mean mg mb s.heap)(TC:TopC p loose mg s.heap)(hko:(BH p loose).all NW=true)(ok:TopOk p loose csts bis)(Y:XSays (ownsOf p) cs s.heap)(hcs:cs.length<=(ownsOf p).length)(hg:s.gens= #[])(hd:(recsOf p)[f]? =some d)(hfa:mg d.name=some (.ref fa))(hfn:∃fn,rm (jt p loose csts bis) mu fz d=some fn)
  (hall:∀d∈ip p loose,∃fn,rm (jt p loose csts bis) mu fz d=some fn)
  (hl:s.heap.PlainList l items)(hi:IntsAre items.toList zs)(hlen:zs.length<=63)(hn:n<=300)
  (hlaw:aQ (re (ip p loose) (jt p loose csts bis) mu fz cs) n f [.lst (zs.map V.int)] [] (λv _=>v=.bool true) (λ_ _=>False))
  (hR:∀s',(∀b o,s.heap.get? b=some o->s'.heap.get? b=some o)->s'.os=s.os->s'.gens= #[]->Q (.bool true) s') :
  wpAny (model prog w) callerA (call (.ref fa) [.ref l]) Q E s:=by
 obtain⟨KC,KN,mN,hK⟩:∃(C N:Addr) (mN:Str->Option Value),∀k,BH p loose=some k->mg k.name=some (.ref C)/\PlainAt s.heap k C N mN:=by
  try clear s;try clear PlainAt;try clear mg;try clear Value;try clear Option;try clear Str;try clear Addr;try clear hK;try clear KN;try clear KC;try clear hd;try clear hall;try clear Y;try clear hi;try clear hfn;try clear hcs;try clear hfa;try clear hko;try clear hn;try clear T;try clear hlen;try clear hR;try clear hl;try clear hlaw;try clear hg;try clear ok
  cases hk:BH p loose with
  |none=>exact⟨0,0,λ_=>none,nofun⟩
  |some k=>
   refine lh (TC k (List.mem_of_mem_head? hk)) ?_;intro C N mN h1 h2
   try clear TC;try clear k
   exact⟨C,N,mN,λk' e=>by(replace e:=aj e;subst e);exact⟨h1,h2⟩⟩
 haveI hm:∀(i:Nat) d,(ip p loose)[i]? =some d->(recsOf p)[i]? =some d\/∃k j m,BH p loose=some k/\i=(recsOf p).length+j/\k.meths[j]? =some m/\d=B5 m:=λi d h=>by
  by_cases hlt:i<(recsOf p).length
  ·exact .inl ((bt hlt).symm.trans h)
  ·have h:=(b0 (fN hlt)).symm.trans h
   try clear N;try clear C;try clear mN
   cases hk:BH p loose with
   |none=>replace h:=hk▸h;exact fm h
   |some k=>
    rw [hk]at h;haveI h:(k.meths.map B5)[i-(recsOf p).length]? =some d:=h;rw [aV]at h;refine av (bz.mp h) ?_;intro m h1 h2
    try clear Option;try clear h
    exact .inr ⟨k,_,m,rfl,(jI (fN hlt)).symm,h1,h2.symm⟩
 have pick:∀g:Nat,∃q:Addr×FuncData,∀d,(ip p loose)[g]? =some d->(∃qual o pm code doc,s.heap.get? q.1=some o/\o.data=.func q.2/\q.2=methDef d.name qual d.params d.body d.scope pm code doc/\s.heap.CodeRec code qual/\((recsOf p).length<=g->mN d.name=some (.ref q.1)/\o.cls=.type "function"))/\(g<(recsOf p).length->mg d.name=some (.ref q.1)):=λg=>by
  try clear BH
  cases hq:(ip p loose)[g]? with
  |none=>exact⟨(0,default),λd e=>by cases e⟩
  |some d=>
   try clear loose;try clear p
   rcases hm g d hq with h|⟨k,j,m,hk,rfl,hj,rfl⟩
   ·refine Fp (T.fn d (aN h)) ?_;intro a o pm code doc h1 h2 h3 h4
    try clear T
    haveI hlt:=(af.mp h).1;exact⟨(a,_),λd' e=>by(replace e:=aj e;subst e);exact⟨⟨d.name,o,pm,code,doc,h2,h3,rfl,h4,λq=>absurd hlt (iq.mpr q)⟩,λ_=>h1⟩⟩
   ·refine KU ((hK k hk).2.meths m (aN hj)) ?_;intro f o pm cd doc h1 h2 h3 h4 h5
    try clear hK;try clear k
    exact⟨(f,_),λd' e=>by(replace e:=aj e;subst e);exact⟨⟨_,o,pm,cd,doc,h2,h4,rfl,h5,λ_=>⟨h1,h3⟩⟩,λq=>absurd q (iq.mpr (ax _ _))⟩⟩
 obtain⟨F,hF⟩:=Classical.axiomOfChoice pick
 let c:Cx:={prog:=prog,w:=w,base:=s.heap,mg:=mg,mb:=mb,P:=re (ip p loose) (jt p loose csts bis) mu fz cs,os:=s.os,fad:=λg=>(F g).1,fdat:=λg=>(F g).2,xcls:=λk=>((((ownsOf p)[k]?).bind λo=>mg o.name).bind MO).getD 0,ccls:=λ_=>KC}
 have fns:∀g fn,c.P.fns g=some fn->∃d,(ip p loose)[g]? =some d/\rm (jt p loose csts bis) mu fz d=some fn:=λg fn h=>bR.mp h;have inX:∀(i:Nat) d,(recsOf p)[i]? =some d->(ip p loose)[i]? =some d:=λi d h=>(bt (af.mp h).1).trans h;have has:∀(i:Nat) d,(ip p loose)[i]? =some d->∃fn,c.P.fns i=some fn:=λi d h=>by
  refine dM (hall d (aN h)) λfn hfn=>?_
  try clear hall
  exact⟨fn,by show((ip p loose)[i]?).bind _=_;exact(h)▸hfn⟩
 have hX:∀(k:Nat) o,(ownsOf p)[k]? =some o->mg o.name=some (.ref (c.xcls k))/\∃bm,XC s.heap (c.xcls k) bm/\∀(j:Nat) o',(ownsOf p)[j]? =some o'->(Value.ref (c.xcls k)::bm).contains (.ref (c.xcls j))=z6 cs k j:=by
  refine av Y ?_
  try clear Y
  intro mg' hn' r;haveI hmg:mg'=mg:=funext λx=>hn'.agree T.g x
  try clear hn';try clear hxs;try clear hrecs;try clear inX;try clear fns;try clear hF;try clear F;try clear hfn
  subst hmg;have hcl:∀(k:Nat) o,(ownsOf p)[k]? =some o->mg' o.name=some (.ref (c.xcls k)):=λk o ho=>by
   refine dI (r k o ho) ?_;intro C bm h1 _
   try clear r
   refine(?_:_=some (Value.ref (((((ownsOf p)[k]?).bind λo=>mg' o.name).bind MO).getD 0)));simp only [ho,tQ,h1];rfl
  intro k o ho;refine di (r k o ho) ?_;intro C bm h1 h2 h3
  try clear r
  have hC:=h1.symm.trans (hcl k o ho)
  try clear hmg;try clear mg';try clear k;try clear C
  cases hC;refine⟨h1,bm,h2,λj o' ho'=>?_⟩;simp only [<-h3 j o' ho',hcl j o' ho'];rfl
 haveI hbis:∀x g,bis.lookup x=some g->ox x g=true/\mg x=none/\mb x=bootBuiltins x:=λx g h=>by have hm:=mem_of_lookup h;haveI h2:=bN.mp ok.free _ hm;simp only [dC,decide_eq_true_eq]at h2;exact⟨(bN.mp ok.boot _ hm),T.free x h2.1.1.1.1.2 h2.1.1.1.2 h2.1.1.2 h2.1.2 h2.2,T.builtins x h2.1.1.1.1.1⟩
 haveI hf:∀x g,(jt p loose csts bis).lookup x=some (.fn g)->∃fn,c.P.fns g=some fn:=λx g h=>by
  cases uv ok h with
  |fn hd _=>exact has _ _ (inX _ _ hd)
  |cls _ e=>cases e
  |bi _ h=>exact absurd h ai
 haveI C:Cok c (jt p loose csts bis):=by
  refine⟨T.g,T.b,T.nolimit,λk hk=>?_,λx ms ats f h=>?_,λx g h=>?_,λg fn h=>?_⟩
  ·obtain ⟨r,hr⟩:∃r,cs[k]? =some r:=by
    try clear hr
    cases hq:cs[k]? with
    |none=>haveI hk':(cs[k]?).any (·.contains k)=true:=hk;replace hk':=hq▸hk';cases hk'
    |some r=>exact⟨r,rfl⟩
   obtain⟨_,bm,h2,h3⟩:=hX k _ (aO (bo (af.mp hr).1 hcs:k<(ownsOf p).length))
   try clear k;try clear hlt
   refine⟨bm,h2,λx j h=>?_⟩
   try clear h2;try clear bm;try clear cs;try clear r
   cases uv ok h with
   |exc hd _=>exact h3 j _ hd
   |cls _ e=>cases e
   |bi _ h=>exact absurd h ai
  ·haveI hk:=Cr ok h;refine av hk ?_
   try clear hk
   intro k hk e;cases e;obtain⟨_,P⟩:=hK k hk
   try clear hK
   rw [hk]at hko;replace hko:=ay.mp (hko:NW k=true);refine cY hko λhko ki=>?_;obtain⟨ks,km⟩:=ay.mp hko
   try clear hko
   have hmeth:∀(j:Nat) m,k.meths[j]? =some m->mN m.name=some (.ref (c.fad ((recsOf p).length+j)))/\(∃o,s.heap.get? (c.fad ((recsOf p).length+j))=some o/\o.cls=.type "function")/\∃fn,c.P.fns ((recsOf p).length+j)=some fn:=λj m hj=>by
    have hX:(ip p loose)[(recsOf p).length+j]? =some (B5 m):=by unfold ip;rw [b0 (ax _ _),cT,hk];show(k.meths.map B5)[j]? =_;rw [aV,hj];rfl
    obtain⟨⟨_,o,_,_,_,e1,_,_,_,e5⟩,_⟩:=hF _ _ hX
    try clear hF
    obtain⟨e6,e7⟩:=e5 (ax _ _)
    try clear e5
    exact⟨e6,⟨o,e1,e7⟩,has _ _ hX⟩
   obtain⟨mi,hmi,hni⟩:∃mi,k.meths[rU k]? =some mi/\mi.name="__init__":=by
    refine av (lU.mp ki) ?_;intro m h1 h2
    try clear ki
    haveI hlt:k.meths.findIdx (λm=>m.name==("__init__":Str))<k.meths.length:=List.findIdx_lt_length.mpr ⟨m,h1,h2⟩;exact⟨k.meths[rU k]'hlt,aO hlt,eq_of_beq (Jq (w:=hlt))⟩
   refine dQ (hmeth _ mi hmi) ?_;intro i1 i2 i3
   try clear mi;try clear hmi
   refine⟨P.cls,P.quiet _ (.head _),P.quiet _ (.tail _ (.head _)),P.quiet _ (.tail _ (.tail _ (.head _))),λn hn=>⟨P.quiet n (az _ hn),?_⟩,λn g e=>?_,hni▸i1,i2,i3⟩
   ·have:=bN.mp ks n hn
    try clear i3;try clear i2;try clear i1;try clear __init__;try clear rU;try clear hni;try clear km;try clear ks;try clear P;try clear e;try clear hk;try clear k
    cases hq:fastLookup "object" n with
    |none=>replace this:=hq▸this;cases this
    |some y=>
     cases y with
     |none=>exact tD hq
     |some y=>replace this:=hq▸this;cases this
   ·replace p:=lH (f:=λm:MethRec=>m.name) (g:=λj=>(recsOf p).length+j) e;refine di p ?_
    try clear p
    intro j m q_3 hj q_5;subst q_3;subst q_5
    try clear e
    refine dQ (hmeth j m hj) ?_;intro m1 m2 m3
    try clear j
    obtain⟨y,hy⟩:=dZ.mp (bN.mp km m (aN hj))
    try clear Option;try clear km;try clear m;try clear hj
    exact⟨m1,m2,⟨y,tD hy⟩,m3⟩
  ·cases uv ok h with
   |fn hd e=>subst e;exact(hF _ _ (inX _ _ hd)).2 (af.mp hd).1
   |exc hd e=>subst e;refine cY (hX _ _ hd) λh1 q_=>dM q_ λbm q_=>cY q_ λ_ h3=>?_;exact⟨h1,(h3 _ _ hd).symm.trans (by simp)⟩
   |cls hk e=>cases e;exact(hK _ hk).1
   |c h1=>exact GA T h1
   |bi hl hb=>
    refine dQ (hbis x g hl) ?_;intro _ h2 h3;cases g with
    |bi b=>exact⟨h2,h3.trans (CF hb)⟩
    |ty b=>exact⟨h2,h3.trans (Dm hb)⟩
    |_=>exact absurd hb ai
  ·refine av (fns g fn h) ?_;intro d hd _
   try clear fns
   obtain⟨⟨_,o,pm,code,doc,e1,e2,_⟩,_⟩:=hF g d hd
   try clear hF;try clear d;try clear hd
   exact⟨o,e1,e2⟩
 have sc:=It (n:=n) C hf (λg fn h=>by
  refine av (fns g fn h) ?_;intro d hd hfn
  try clear fns
  obtain⟨⟨qual,o,pm,code,doc,e1,e2,e3,e4,_⟩,_⟩:=hF g d hd
  try clear hF;try clear d;try clear hd
  exact Gq (qual:=qual) hfn e3 e4)
 obtain⟨fn,hfn⟩:=hfn;have hfs:c.P.fns f=some fn:=by show((ip p loose)[f]?).bind _=_;exact(inX _ _ hd)▸hfn
 haveI hfa':c.fad f=fa:=by
  haveI:=(hF f d (inX _ _ hd)).2 (af.mp hd).1;replace this:=hfa.symm.trans this
  try clear hfs;try clear fn;try clear hfn
  cases this;rfl
 have S:SR c [] [] [] s:=⟨rfl,λ_ _ e=>e,hg,rfl,(λ_ _ e=>nomatch e),(λ_ _ _ e=>fm e),qA⟩;haveI hv:∀{vs:List Value} {zs:List Int},IntsAre vs zs->VRs c [] [] s.heap (zs.map V.int) vs:=λ{vs zs} h=>zo h;have hbl:(zs.map V.int).length<=kR:=by
  rw [ak];have:(63:Nat)<=kR:=by decide
  exact eW hlen (eW this (by simp+arith only))
 haveI aok:ACk c callerA n:=⟨rfl,aa (aZ (bU (aH (by decide:claimMargin<=300) 1) (br 2 hn)) 5) (by decide),cZ (aZ (aH (br 10 hn) 4) 300) (by decide)⟩;haveI run:=sc.run hfs aok ⟨[],rfl,λ_ h=>nomatch h⟩ S (.cons (.lst (by simp) (by simp) hl (hv hi) hbl) .nil) hlaw;subst hfa';refine wpAny_mono run (λy s' r=>?_) λ_ _ e=>e.none.elim
 try clear run;try clear aok;try clear S
 obtain⟨v,H',as',e,S',k,hv,rfl⟩:=r
 try clear e;try clear as';try clear H';try clear v;try clear k
 cases hv.inv;exact hR s' S'.stays S'.os S'.gens
theorem AX 
  {Q E:Value->Shared->Prop}
  (T:Top p loose mean mg mb s.heap)(TC:TopC p loose mg s.heap)(hko:(BH p loose).all NW=true)(ok:TopOk p loose csts bis)(Y:XSays (ownsOf p) cs s.heap)(hcs:cs.length<=(ownsOf p).length)(hg:s.gens= #[])(hfns:(ip p loose).map (rm (jt p loose csts bis) mu fz)=fns.map some)(hnm:((recsOf p)[f]?).map (·.name)=some nm)(hfa:mg nm=some (.ref fa))
  (hl:s.heap.PlainList l items)(hi:IntsAre items.toList zs)(hlen:zs.length<=63)(hn:n<=300)
  (hlaw:aQ (wA fns cs) n f [.lst (zs.map V.int)] [] (λv _=>v=.bool true) (λ_ _=>False))
  (hR:∀s',(∀b o,s.heap.get? b=some o->s'.heap.get? b=some o)->s'.os=s.os->s'.gens= #[]->Q (.bool true) s') :
  wpAny (model prog w) callerA (call (.ref fa) [.ref l]) Q E s:=by
 have hP:re (ip p loose) (jt p loose csts bis) mu fz cs=wA fns cs:=by
  unfold re wA;congr 1;funext i;haveI h:=congrArg (·[i]?) hfns;simp only [aV]at h;cases h1:(ip p loose)[i]? with
  |none=>
   rw [h1]at h;cases h2:fns[i]? with
   |none=>rfl
   |some fn=>replace h:=h2▸h;exact fm h
  |some d=>
   rw [h1]at h;cases h2:fns[i]? with
   |none=>replace h:=h2▸h;cases h
   |some fn=>rw [h2]at h;exact aj h
 refine av (bz.mp hnm) ?_;intro d hd hdn;have hall:∀d∈ip p loose,∃fn,rm (jt p loose csts bis) mu fz d=some fn:=λd hd=>by haveI h:=bq (f:=rm (jt p loose csts bis) mu fz) hd;rw [hfns]at h;replace h:=aK.mp h;refine av h ?_;intro fn _ h;exact⟨fn,h.symm⟩
 subst hdn;exact D0 T TC hko ok Y hcs hg hd hfa (hall d (aI _ (aN hd))) hall hl hi hlen hn (hP▸hlaw) hR
end Mine
end
noncomputable section
namespace Mine
open PySem
theorem sh{F:V->Fm->AH->KS->Prop}{ok:AH->Prop}{K:KS}(Inv:List V->Fm->AH->Prop)(step:∀v vs ρ H,Inv (v::vs) ρ H->ok H/\∀K':KS,(∀ρ' H',Inv vs ρ' H'->K' ρ' H')->F v ρ H K')(fin:∀ρ H,Inv [] ρ H->ok H/\K ρ H){items:List V} :
  ∀{ρ:Fm} {H:AH},Inv items ρ H->pR F ok items ρ H K:=by
 induction items with
 |nil=>exact λi=>fin _ _ i
 |cons v vs ih=>exact λi=>⟨(step v vs _ _ i).1,(step v vs _ _ i).2 _ λ_ _ i'=>ih i'⟩
section
variable {P:Prog}{H:AH}{Q:QE}{a b:Int}
theorem dN:be P false (.bop .add) [.int a,.int b] H=some (.int (a+b),H):=rfl
theorem ro:be P false (.bop .sub) [.int a,.int b] H=some (.int (a-b),H):=rfl
theorem Ae(ha:-10 ^ 12<=a/\a<=10 ^ 12)(hb:-10 ^ 12<=b/\b<=10 ^ 12):be P false (.bop (.mul 0)) [.int a,.int b] H=some (.int (a*b),H):=by show(pU Mq (.int a) (.int b)).map _=_;have h1:cK a=true:=decide_eq_true ha;haveI h2:cK b=true:=decide_eq_true hb;refine(?_:bP _ (bP V.int (if(cK a&&cK b)=true then some (a*b)else none))=_);rw [h1,h2];rfl
theorem cI(hb:0<b):be P false (.bop .mod) [.int a,.int b] H=some (.int (a%b),H):=by show bP _ (bP V.int (if 0<b then some (a%b)else none))=_;rw [if_pos hb];rfl
theorem cO(hb:0<b)(hb':b<=10 ^ 12):be P false (.bop .f) [.int a,.int b] H=some (.int (a/b),H):=by show bP _ (bP V.int (if 0<b/\b<=10 ^ 12 then some (a/b)else none))=_;rw [if_pos ⟨hb,hb'⟩];rfl
theorem mB(h:x.length+y.length<=aB):be P false (.bop .add) [.str x,.str y] H=some (.str (x++y),H):=by show bP _ (if x.length+y.length<=aB then some (V.str (x++y))else none)=_;rw [if_pos h];rfl
theorem DA(h:x.length+y.length<=aB):be P false (.bop .add) [.tup x,.tup y] H=some (.tup (x++y),H):=by show bP _ (if x.length+y.length<=aB then some (V.tup (x++y))else none)=_;rw [if_pos h];rfl
theorem wW(h:x.length+y.length<=aB):be P false (.bop .add) [.lst x,.lst y] H=some (.lst (x++y),H):=by show bP _ (if x.length+y.length<=aB then some (V.lst (x++y))else none)=_;rw [if_pos h];rfl
theorem j0:be P false (.cop .lt) [.int a,.int b] H=some (.bool (decide (a<b)),H):=rfl
theorem Km:be P false (.cop .le) [.int a,.int b] H=some (.bool (decide (a<=b)),H):=rfl
theorem qR:be P false (.cop .gt) [.int a,.int b] H=some (.bool (decide (b<a)),H):=rfl
theorem ft(h1:rd H x=some x')(h2:rd H y=some y'):be P false (.cop .eq) [x,y] H=some (.bool (gH x' y'),H):=by show bP _ ((rd H x).bind λx=>(rd H y).map λy=>gH x y)=_;rw [h1,h2];rfl
theorem jf(h1:rd H x=some x')(h2:rd H y=some y'):be P false (.cop .ne) [x,y] H=some (.bool (!gH x' y'),H):=by show bP _ (bP _ ((rd H x).bind λx=>(rd H y).map λy=>gH x y))=_;rw [h1,h2];rfl
theorem b7:rd H (.int a)=some (.int a):=rfl
theorem jh:rd H (.str s)=some (.str s):=rfl
theorem CG(h1:V.datas vs=true)(h2:V.depths vs=0):rd H (.lst vs)=some (.lst vs):=by show(if(V.datas vs&&decide (V.depths vs+1<=50))=true then some (V.lst vs)else none)=_;rw [h1,h2];rfl
theorem jO:rd H (.lst [])=some (.lst []):=rfl
theorem I1:be P false .not [.bool t] H=some (.bool !t,H):=rfl
theorem mV:be P false .neg [.int a] H=some (.int (-a),H):=rfl
theorem mD:be P false .len [.lst xs] H=some (.int xs.length,H):=rfl
theorem rz:be P false .len [.str xs] H=some (.int xs.length,H):=rfl
theorem nQ:be P false .len [.tup xs] H=some (.int xs.length,H):=rfl
theorem Ik:be P false .min [.int a,.int b] H=some (.int (min a b),H):=rfl
theorem fj(h:-10 ^ 12<=b/\b<=10 ^ 12):be P false .range1 [.int b] H=some (.rng 0 b,H):=by exact if_pos (decide_eq_true h:cK b=true)
theorem qD(ha:-10 ^ 12<=a/\a<=10 ^ 12)(h:-10 ^ 12<=b/\b<=10 ^ 12):be P false .range2 [.int a,.int b] H=some (.rng a b,H):=by haveI h1:cK b=true:=decide_eq_true h;haveI h2:cK a=true:=decide_eq_true ha;refine(?_:(if(cK a&&cK b)=true then some (V.rng a b,H)else none)=_);rw [h1,h2];rfl
theorem s8(h:(b-a).toNat<=aB):be P false .list [.rng a b] H=some (.lst (jj a b),H):=by show bP _ (if(b-a).toNat<=aB then some (V.lst (jj a b))else none)=_;rw [if_pos h];rfl
theorem hO(h:vs.length<=aB):be P false .l vs H=some (.lst vs,H):=by exact if_pos h
theorem ky(h:vs.length<=aB):be P true .l vs H=some (.ref H.length,H++[.list vs]):=by show(if vs.length<=aB then some (V.lst vs,H)else none).bind _=_;rw [if_pos h];rfl
theorem eM(h:vs.length<=aB):be P false .t vs H=some (.tup vs,H):=by exact if_pos h
theorem fh(h:H[i]? =some (.list vs))(hl:vs.length<=aB):be P false .append [.ref i,x] H=some (.none,H.set i (.list (vs++[x]))):=by show((H[i]?.bind O.lst).bind _).bind _=_;rw [h];exact if_pos hl
theorem Hu(h:H[i]? =some (.list (vs++[x])))(hl:vs.length+1<=aB):be P false .pop [.ref i] H=some (x,H.set i (.list vs)):=by show((H[i]?.bind O.lst).bind _).bind _=_;rw [h];show(if(vs++[x]).length<=aB then _ else _)=_;rw [ah,FF,if_pos hl,List.getLast?_append,List.dropLast_concat];rfl
theorem fb(h:H[i]? =some (.list vs)):ly H (.ref i) .list=true:=by show(H[i]?.bind O.lst).isSome=_;rw [h];rfl
theorem hE(e:p=some (v,H'))(q:Q v H'):hM p Q:=by subst e;exact q
theorem hB{K:Bool->Prop}(q:K t):nT (gb (.bool t)) K:=q
theorem sz(n:Nat)(h:n<=1000):n<=aB:=aa h (by decide)
end
noncomputable def M6(p:Int->Bool):V->Option V
 |.int z=>if p z then some (.int z)else none
 |_=>none
section
variable {P:Prog}{C:Calls}{ρ:Fm}{H:AH}{K:KS}{R:QE}{X:XE}{ss:List St}
theorem dU(h:cL P C e ρ H (λv H'=>i<ρ.length/\a8 P C ss (ρ.set i (some v)) H' K R X) X):a8 P C (.a i e::ss) ρ H K R X:=h
theorem dJ(h:cL P C e ρ H (λ_ H'=>a8 P C ss ρ H' K R X) X):a8 P C (.e e::ss) ρ H K R X:=h
theorem iM(h:cL P C e ρ H R X):a8 P C (.ret e::ss) ρ H K R X:=h
theorem cH(h:K ρ H):a8 P C [] ρ H K R X:=h
theorem nc(h:cL P C e ρ H (λv H₁=>∃items,jB rev H₁ v=some items/\items.length<=aB/\
   pR (λx ρ' H' K'=>match fO ρ' tgt x with|some ρ''=>a8 P C body ρ'' H' K' R (λ_ _=>False)|none=>False)
    (λH'=>jB rev H' v=some items) items ρ H₁ (λρ' H'=>a8 P C ss ρ' H' K R X)) X):a8 P C (.f rev tgt e body::ss) ρ H K R X:=h
theorem NN{p q:Prop}(h:p):if true=true then p else q:=by exact h
theorem NZ{p q:Prop}(h:q):if false=true then p else q:=by exact h
end
section
variable {P:Prog}{H:AH}{Q:QE}{a b:Int}
theorem Fo{K:Bool->Prop}(q:K (decide (a<=b))):nT (jA .le (.int a) (.int b) H) K:=q
theorem Ei:be P false .int [.bool t] H=some (.int (if t then 1 else 0),H):=rfl
theorem xO(bs:List Bool):oK (bs.map V.bool)=some bs:=by
 induction bs with
 |nil=>rfl
 |cons b bs ih=>exact congrArg (bP (b::·)) ih
theorem AW{bs:List Bool}:be P false .all [.lst (bs.map V.bool)] H=some (.bool (bs.all id),H):=by show(oK (bs.map V.bool)).map _=_;rw [xO];rfl
theorem jQ(h0:0<=i)(h1:i<xs.length):∃v,v∈xs/\be P false .i [.lst xs,.int i] H=some (v,H):=by haveI h2:i.toNat<xs.length:=(gR h0).mpr h1;refine⟨xs[i.toNat],tR h2,?_⟩;refine(?_:((sa xs.length i).bind _).map _=_);simp only [tQ,sa,h0,h1,if_true,aO h2,jG]
theorem wR(h:j<n):sa n (j:Int)=some j:=(if_pos (bn j)).trans (if_pos (cG.mpr h))
theorem lG{j:Nat}(hj:vs[j]? =some v):be P false .i [.lst vs,.int j] H=some (v,H):=by show((sa vs.length j).bind λj=>vs[j]?).map _=_;rw [wR (af.mp hj).1];exact congrArg (bP _) hj
theorem zr{j:Nat}(hj:vs[j]? =some v):be P false .i [.tup vs,.int j] H=some (v,H):=lG (P:=P) hj
end
def tm:V->Prop
 |.none|.bool _|.int _|.str _=>True
 |_=>False
def good:V->Prop
 |.none|.bool _|.int _|.str _|.lst _|.dct _ _=>True
 |.tup vs=>∀v∈vs,tm v
 |_=>False
theorem fQ{vs:List V}:(∀v∈vs,tm v)->V.datas vs=true/\V.depths vs=0:=by
 induction vs with
 |nil=>exact λ_=>⟨rfl,rfl⟩
 |cons v vs ih=>
  intro h;haveI i:=ih λw hw=>h w (.tail _ hw);haveI ha:V.data v=true/\V.depth v=0:=haveI z:=h v (.head _);by cases v<;>first|exact z.elim|exact⟨rfl,rfl⟩
  exact⟨ay.mpr ⟨ha.1,i.1⟩,congr (congrArg max ha.2) i.2⟩
theorem GB(h:∀v∈vs,tm v):rd H (.lst vs)=some (.lst vs):=by exact CG (fQ h).1 (fQ h).2
section
variable {P:Prog}{H:AH}{Q:QE}{a b:Int}
theorem E5:be P false .i [.lst (v::vs),.int 0] H=some (v,H):=lG (j:=0) rfl
theorem DK:be P false .i [.lst (vs++[v]),.int (-1)] H=some (v,H):=by
 show((sa (vs++[v]).length (-1)).bind λj=>(vs++[v])[j]?).map _=_;haveI e:-1+((vs++[v]).length:Int)=(vs.length:Int):=by rw [ah,show [v].length=1 from rfl,Ox,EA,Cc]
 unfold sa;rw [if_neg (by decide),e,if_pos (bn _)];exact congrArg (bP (·,H)) (cP (l:=vs))
theorem rG(h:s.length<=aB):be P false .slice [.str s,.none,.int b] H=some (.str (bB s 0 (iK s.length b)),H):=by show bP _ (if s.length<=aB then _ else _)=_;rw [if_pos h];rfl
theorem sX(h:s.length<=aB):be P false .slice [.str s,.int a,.none] H=some (.str (bB s (iK s.length a) s.length),H):=by show bP _ (if s.length<=aB then _ else _)=_;rw [if_pos h];rfl
theorem oO(h:s.length<=aB):be P false .slice [.lst s,.int a,.none] H=some (.lst (bB s (iK s.length a) s.length),H):=by show bP _ (if s.length<=aB then _ else _)=_;rw [if_pos h];rfl
theorem fL(h:H[i]? =some (.list vs)):be P false .len [.ref i] H=some (.int vs.length,H):=by show(DO _ (H[i]?.bind O.lst)).map _=_;rw [h];rfl
theorem lC(h2:V.datas vs=true)(h3:V.depths vs<=50):tU vs=true:=by show(V.datas vs&&decide (V.depths vs<=50))=true;simp only [h2,decide_eq_true h3];rfl
end
theorem fH(v:V):v.data=true->gH v v=true:=
 V.rec (motive_1:=λv=>v.data=true->gH v v=true) (motive_2:=λvs=>V.datas vs=true->zW vs vs=true) (λ_=>rfl) (λb _=>beq_self_eq_true b) (λi _=>beq_self_eq_true i) (λs _=>beq_self_eq_true s) (λ_ ih=>ih) (λ_ ih=>ih) (λ_ _ _ h=>absurd h ai) (λ_ _ h=>absurd h ai) (λ_ h=>absurd h ai) (λ_=>rfl) (λ_ _ i1 i2 h=>haveI h':=ay.mp h;ay.mpr ⟨i1 h'.1,i2 h'.2⟩) v
section
variable {P:Prog}{C:Calls}{ρ:Fm}{H:AH}{K:KS}{R:QE}{X:XE}{E:XE}{ss:List St}{a b c:Ex}{v x y z:V}{s t:Bool}
def Ev(P:Prog)(C:Calls)(ρ:Fm)(H:AH)(X:XE)(e:Ex)(v:V):Prop:=∀Q:QE,Q v H->cL P C e ρ H Q X
theorem du(h:Ev P C ρ H X e v)(q:v=x):Ev P C ρ H X e x:=q▸h
theorem am:Ev P C ρ H X (.c v) v:=λ_ q=>q
theorem ae(h:ρ[i]? =some (some v)):Ev P C ρ H X (.v i) v:=λQ q=>by simp only [xm,h];exact q
theorem bY(h:Ev P C ρ H X a x)(e:be P false p [x] H=some (z,H)):Ev P C ρ H X (.p false p [a]) z:=λ_ q=>h _ (hE e q)
theorem aq(h:Ev P C ρ H X a x)(h2:Ev P C ρ H X b y)(e:be P false p [x,y] H=some (z,H)):Ev P C ρ H X (.p false p [a,b]) z:=λ_ q=>h _ (h2 _ (hE e q))
theorem iA(h:Ev P C ρ H X a x)(h2:Ev P C ρ H X b y)(h3:Ev P C ρ H X c u)(e:be P false p [x,y,u] H=some (z,H)):Ev P C ρ H X (.p false p [a,b,c]) z:=λ_ q=>h _ (h2 _ (h3 _ (hE e q)))
theorem c9(h:Ev P C ρ H X a (.bool s)):Ev P C ρ H X (.p false .not [a]) (.bool !s):=bY h I1
theorem fK(h:Ev P C ρ H X a (.bool s))(h2:s=false->Ev P C ρ H X b (.bool t)):Ev P C ρ H X (.or a b) (.bool (s||t)):=λQ q=>h _ (by
 cases s with
 |true=>exact q
 |false=>exact h2 rfl Q q)
theorem cW(h:Ev P C ρ H X a (.bool s))(h2:s=true->Ev P C ρ H X b (.bool t)):Ev P C ρ H X (.and a b) (.bool (s&&t)):=λQ q=>h _ (by
 cases s with
 |false=>exact q
 |true=>exact h2 rfl Q q)
theorem BC(h:Ev P C ρ H X a (.int i))(h2:Ev P C ρ H X b (.int j))(h3:Ev P C ρ H X c (.int k)):Ev P C ρ H X (.cmp2 a .le b .le c) (.bool (decide (i<=j)&&decide (j<=k))):=λQ q=>h _ (h2 _ (Fo (by
 cases hd:decide (i<=j)with
 |false=>rw [hd]at q;exact NZ q
 |true=>rw [hd]at q;exact NN (h3 _ (Fo q)))))
theorem dF(h:Ev P C ρ H X a x)(hc:∀Q:QE,Q v H->C f [x] H Q X):Ev P C ρ H X (.call f [a]) v:=λQ q=>h _ (hc Q q)
theorem dP(h:Ev P C ρ H X a x)(h2:Ev P C ρ H X b y)(hc:∀Q:QE,Q v H->C f [x,y] H Q X):Ev P C ρ H X (.call f [a,b]) v:=λQ q=>h _ (h2 _ (hc Q q))
theorem fR(h:Ev P C ρ H X a x)(h2:Ev P C ρ H X b y)(h3:Ev P C ρ H X c z)(hc:∀Q:QE,Q v H->C f [x,y,z] H Q X):Ev P C ρ H X (.call f [a,b,c]) v:=λQ q=>h _ (h2 _ (h3 _ (hc Q q)))
theorem bx(h:Ev P C ρ H E e v)(q:R v H):a8 P C (.ret e::ss) ρ H K R E:=h _ q
theorem bp(h:Ev P C ρ H E e v)(hi:i<ρ.length)(k:a8 P C ss (ρ.set i (some v)) H K R E):a8 P C (.a i e::ss) ρ H K R E:=h _ ⟨hi,k⟩
theorem cU(h:Ev P C ρ H E c (.bool s))(yes:s=true->a8 P C as ρ H (λρ' H'=>a8 P C ss ρ' H' K R E) R E)(no:s=false->a8 P C bs ρ H (λρ' H'=>a8 P C ss ρ' H' K R E) R E):a8 P C (.ite c as bs::ss) ρ H K R E:=h _ (by
 cases s with
 |false=>exact no rfl
 |true=>exact yes rfl)
end
noncomputable def fn0:Fn:=let q:=Ex.p false;⟨3,0,[.ret (.and (q (.s .int) [.v 0]) (.and (q .not [q (.s .bool) [.v 0]]) (.cmp2 (.v 1) .le (.v 0) .le (.v 2))))]⟩
noncomputable def fn1:Fn:=let q:=Ex.p false;⟨1,0,[.ite (.or (q .not [q (.s .str) [.v 0]]) (q .not [.cmp2 (.c (.int 1)) .le (q .len [.v 0]) .le (.c (.int 8))])) [.ret (.c (.bool false))] [],.ret (q .all [.comp false (q (.cop .in_) [.v 1,.c (.str ['a','b','c','d','e','f','g','h','i','j','k','l','m','n','o','p','q','r','s','t','u','v','w','x','y','z'])]) (.v 0) none])]⟩
noncomputable def fn2:Fn:=let q:=Ex.p false;⟨1,0,[.ite (q .not [q (.s .tuple) [.v 0]]) [.ret (.c (.bool false))] [],.ite (q (.cop .eq) [q .len [.v 0],.c (.int 2)]) [.ret (.and (q (.cop .eq) [q .i [.v 0,.c (.int 0)],.c (.str ['a','d','d'])]) (.call 0 [q .i [.v 0,.c (.int 1)],q (.bop .sub) [.c (.int 0),.c (.int 1000000000)],.c (.int 1000000000)]))] [],.ret (.or (q (.cop .eq) [.v 0,q .t [.c (.str ['f','a','u','l','t'])]]) (q (.cop .eq) [.v 0,q .t [.c (.str ['l','e','a','v','e'])]]))]⟩
noncomputable def fn3:Fn:=let q:=Ex.p false;⟨1,0,[.ite (.or (q .not [q (.s .tuple) [.v 0]]) (.or (q (.cop .ne) [q .len [.v 0],.c (.int 3)]) (q (.cop .ne) [q .i [.v 0,.c (.int 0)],.c (.str ['w','o','r','k','e','r'])]))) [.ret (.c (.bool false))] [],.ret (.and (.call 1 [q .i [.v 0,.c (.int 1)]]) (q (.cop .in_) [q .i [.v 0,.c (.int 2)],q .t [.c (.str ['a','l','w','a','y','s']),.c (.str ['f','a','u','l','t','e','d']),.c (.str ['n','e','v','e','r'])]]))]⟩
noncomputable def fn4:Fn:=let q:=Ex.p false;⟨1,0,[.ite (.or (q .not [q (.s .tuple) [.v 0]]) (.or (q (.cop .ne) [q .len [.v 0],.c (.int 6)]) (q (.cop .ne) [q .i [.v 0,.c (.int 0)],.c (.str ['w','a','r','d','e','n'])]))) [.ret (.c (.bool false))] [],.ite (.or (q .not [.call 1 [q .i [.v 0,.c (.int 1)]]]) (q (.cop .notin) [q .i [.v 0,.c (.int 2)],q .t [.c (.str ['o','n','e']),.c (.str ['r','e','s','t']),.c (.str ['a','l','l'])]])) [.ret (.c (.bool false))] [],.ite (.or (q .not [.call 0 [q .i [.v 0,.c (.int 3)],.c (.int 0),.c (.int 1000000000)]]) (q .not [.call 0 [q .i [.v 0,.c (.int 4)],.c (.int 1),.c (.int 1000000000)]])) [.ret (.c (.bool false))] [],.ret (.and (q (.s .tuple) [q .i [.v 0,.c (.int 5)]]) (.cmp2 (.c (.int 1)) .le (q .len [q .i [.v 0,.c (.int 5)]]) .le (.c (.int 8))))]⟩
noncomputable def fn5:Fn:=let q:=Ex.p false;⟨1,4,[.ite (q .not [.call 4 [.v 0]]) [.ret (.c (.bool false))] [],.a 1 (.p true .l [q .t [.v 0,.c (.int 0)]]),.a 2 (.p true (.d []) []),.while_ (q (.cop .gt) [q .len [.v 1],.c (.int 0)]) [.asgTup [3,4] (.n .list false .pop (.v 1) []),.ite (.or (q (.cop .gt) [.v 4,.c (.int 6)]) (.and (q .not [.call 3 [.v 3]]) (q .not [.call 4 [.v 3]]))) [.ret (.c (.bool false))] [],.ite (.or (q (.cop .in_) [q .i [.v 3,.c (.int 1)],.v 2]) (q (.cop .eq) [q .len [.v 2],.c (.int 60)])) [.ret (.c (.bool false))] [],.s (.v 2) (q .i [.v 3,.c (.int 1)]) (.c (.bool true)),.ite (.call 4 [.v 3]) [.e (.n .list false .extend (.v 1) [.comp false (q .t [.v 5,q (.bop .add) [.v 4,.c (.int 1)]]) (q .i [.v 3,.c (.int 5)]) none])] []],.ret (.c (.bool true))]⟩
noncomputable def fn6:Fn:=let q:=Ex.p false;⟨1,2,[.a 1 (.p true .l [.v 0]),.ite (q (.cop .eq) [q .i [.v 0,.c (.int 0)],.c (.str ['w','a','r','d','e','n'])]) [.f false (.inl 2) (q .i [.v 0,.c (.int 5)]) [.e (.n .list false .extend (.v 1) [.call 6 [.v 2]])]] [],.ret (.v 1)]⟩
noncomputable def fn7:Fn:=let q:=Ex.p false;⟨3,0,[.ret (.comp false (.v 3) (.v 0) (some (q (.cop .gt) [.v 3,q (.bop .sub) [.v 1,.v 2]])))]⟩
noncomputable def fn8:Fn:=let q:=Ex.p false;⟨3,0,[.ite (q (.cop .eq) [.v 0,.c (.str ['o','n','e'])]) [.ret (q .l [.v 2])] [],.ite (q (.cop .eq) [.v 0,.c (.str ['r','e','s','t'])]) [.ret (q .list [q .range2 [.v 2,.v 1]])] [],.ret (q .list [q .range1 [.v 1]])]⟩
noncomputable def fn9:Fn:=let q:=Ex.p false;⟨2,0,[.ite (q (.s .tuple) [.v 1]) [.ite (.or (q .not [q (.s .tuple) [.v 0]]) (q (.cop .ne) [q .len [.v 0],q .len [.v 1]])) [.ret (.c (.bool false))] [],.ret (q .all [.comp false (.call 9 [q .i [.v 0,.v 2],q .i [.v 1,.v 2]]) (q .range1 [q .len [.v 1]]) none])] [],.ite (q (.s .str) [.v 1]) [.ret (.and (q (.s .str) [.v 0]) (q (.cop .eq) [.v 0,.v 1]))] [],.ret (.and (q (.s .int) [.v 0]) (.and (q .not [q (.s .bool) [.v 0]]) (q (.cop .eq) [.v 0,.v 1])))]⟩
noncomputable def MG:Fn:=let q:=Ex.p false;⟨2,0,[.ite (.and (q (.cop .eq) [q .i [.v 1,.c (.int 0)],.c (.str ['s','e','n','t'])]) (q (.cop .eq) [q .len [.v 1],.c (.int 4)])) [.e (.m 0 58 ['s','e','n','d'] (.v 0) [q .i [.v 1,.c (.int 1)],q .i [.v 1,.c (.int 3)]]),.ret (q .slice [q (.a ['e','v','e','n','t','s']) [.v 0],q .neg [.c (.int 1)],.c .none])] [],.ite (.and (q (.cop .eq) [q .i [.v 1,.c (.int 0)],.c (.str ['w','o','r','k','s'])]) (q (.cop .eq) [q .len [.v 1],.c (.int 3)])) [.ret (.m 0 59 ['w','o','r','k'] (.v 0) [q .i [.v 1,.c (.int 1)]])] [],.ite (.and (q (.cop .eq) [q .i [.v 1,.c (.int 0)],.c (.str ['f','a','i','l','s'])]) (q (.cop .eq) [q .len [.v 1],.c (.int 2)])) [.ret (.m 0 60 ['f','a','i','l'] (.v 0) [q .i [.v 1,.c (.int 1)]])] [],.ret (q .l [])]⟩
noncomputable def JF:Fn:=let q:=Ex.p false;⟨2,0,[.ite (.or (q .not [q (.s .tuple) [.v 1]]) (q (.cop .eq) [q .len [.v 1],.c (.int 0)])) [.ret (q .l [])] [],.try_ [.ret (.call 10 [.v 0,.v 1])] 0 true]⟩
noncomputable def MN:Fn:=let q:=Ex.p false;⟨2,4,[.a 2 (.new 0 47 [.v 0]),.a 3 (.m 0 64 ['h','i','s','t','o','r','y'] (.v 2) []),.a 4 (.c (.int 0)),.while_ (.c (.bool true)) [.f false (.inl 5) (.v 3) [.ite (.or (q (.cop .eq) [.v 4,q .len [.v 1]]) (q .not [.call 9 [q .i [.v 1,.v 4],.v 5]])) [.ret (q .t [.v 2,.v 4])] [],.a 4 (q (.bop .add) [.v 4,.c (.int 1)])],.ite (q (.cop .eq) [.v 4,q .len [.v 1]]) [.ret (q .t [.v 2,.c .none])] [],.a 3 (.call 11 [.v 2,q .i [.v 1,.v 4]]),.ite (q (.cop .eq) [.v 3,q .l []]) [.ret (q .t [.v 2,.v 4])] []]]⟩
noncomputable def JE:Fn:=let q:=Ex.p false;⟨2,0,[.ret (q .i [.call 12 [.v 0,.v 1],.c (.int 1)])]⟩
noncomputable def F4:Fn:=let q:=Ex.p false;⟨2,2,[.asgTup [2,3] (.call 12 [.v 0,.v 1]),.ite (q (.cop .isnot) [.v 3,.c .none]) [.raise 7] [],.ret (.v 2)]⟩
noncomputable def L2:Fn:=let q:=Ex.p false;⟨2,0,[.ite (q (.cop .lt) [.v 1,q .len [.v 0]]) [.ret (q .i [.v 0,.v 1])] [],.ret (.c (.int 0))]⟩
noncomputable def LS:Fn:=let q:=Ex.p false;⟨1,0,[.ret (.and (q (.s .int) [.v 0]) (q .not [q (.s .bool) [.v 0]]))]⟩
noncomputable def Il:Fn:=let q:=Ex.p false;⟨2,7,[.a 2 (.c (.str ['a','b','c','d','e','f','g','h','i','j','k','l','m','n','o','p','q','r','s','t','u','v','w','x','y','z'])),.a 3 (.c (.str [])),.a 4 (q (.bop .f) [.v 0,.c (.int 48)]),.f false (.inl 5) (q .range1 [.c (.int 8)]) [.a 3 (q (.bop .add) [.v 3,q .i [.v 2,q (.bop .mod) [.v 4,.c (.int 26)]]]),.a 4 (q (.bop .f) [.v 4,.c (.int 26)])],.a 6 (q (.bop .mod) [.v 0,.c (.int 6)]),.ite (.and (q (.cop .eq) [.v 6,.c (.int 0)]) (q (.cop .lt) [.v 1,.c (.int 9)])) [.ret (.comp false (q .slice [.v 3,.c .none,q (.bop .add) [.v 9,.c (.int 1)]]) (q .range1 [.v 1]) none)] [],.ite (.and (q (.cop .eq) [.v 6,.c (.int 1)]) (q (.cop .lt) [.v 1,.c (.int 9)])) [.ret (.comp false (q .slice [.v 3,q (.bop .sub) [.c (.int 7),.v 9],.c .none]) (q .range1 [.v 1]) none)] [],.a 3 (q .slice [.v 3,.c .none,q (.bop .mod) [q (.bop .f) [.v 0,.c (.int 6)],.c (.int 7)]]),.ite (.and (q (.cop .lt) [.v 6,.c (.int 4)]) (q (.cop .lt) [.v 1,.c (.int 27)])) [.a 7 (q .slice [.v 3,.c .none,q (.bop .mod) [q (.bop .f) [.v 0,.c (.int 5)],q (.bop .add) [q .len [.v 3],.c (.int 1)]]]),.a 8 (q .slice [.v 3,q .len [.v 7],.c .none]),.ret (.comp false (q (.bop .add) [q (.bop .add) [.v 7,q .i [.v 2,q (.bop .mod) [q (.bop .add) [q (.bop .f) [.v 0,.c (.int 7)],q (.bop (.mul 0)) [.c (.int 7),.v 9]],.c (.int 26)]]],.v 8]) (q .range1 [.v 1]) none)] [],.ret (.comp false (q (.bop .add) [q (.bop .add) [.v 3,q .i [.v 2,q (.bop .f) [.v 9,.c (.int 26)]]],q .i [.v 2,q (.bop .mod) [.v 9,.c (.int 26)]]]) (q .range1 [.v 1]) none)]⟩
noncomputable def MD:Fn:=let q:=Ex.p false;⟨1,1,[.ite (q (.cop .gt) [q (.bop .mod) [.v 0,.c (.int 5)],.c (.int 2)]) [.ret (q .i [q .l [q .t [.c (.str ['f','a','u','l','t'])],q .t [.c (.str ['l','e','a','v','e'])]],q (.bop .sub) [q (.bop .mod) [.v 0,.c (.int 5)],.c (.int 3)]])] [],.a 1 (q .i [q .l [q (.bop .sub) [q (.bop .mod) [q (.bop .f) [.v 0,.c (.int 10)],.c (.int 9)],.c (.int 4)],q (.bop .sub) [q (.bop .mod) [q (.bop .f) [.v 0,.c (.int 10)],q (.bop .add) [q (.bop (.mul 0)) [.c (.int 2),q (.bop .pow) [.c (.int 10),.c (.int 9)]],.c (.int 1)]],q (.bop .pow) [.c (.int 10),.c (.int 9)]]],q .int [q (.cop .eq) [q (.bop .mod) [.v 0,.c (.int 5)],.c (.int 2)]]]),.ret (q .t [.c (.str ['a','d','d']),.v 1])]⟩
noncomputable def Dj:Fn:=let q:=Ex.p false;⟨2,7,[.a 2 (.p true .l [.p true (.d [['u','p'],['w','a','r','d','e','n'],['d','e','e','p'],['i','n','n','e','r'],['c','e','l','l']]) [q .neg [.c (.int 1)],.c (.bool true),.c (.int 1),.p true .l [],.call 15 [.v 0,.c (.int 2)]]]),.f false (.inl 3) (q .range2 [.c (.int 1),.v 1]) [.a 4 (q (.bop .add) [.call 15 [.v 0,q (.bop .add) [.c (.int 3),q (.bop .mod) [.v 3,.c (.int 10)]]],q (.bop (.mul 0)) [.c (.int 11),q (.bop .f) [.v 3,.c (.int 10)]]]),.a 5 (.comp false (.v 9) (q .range1 [q .len [.v 2]]) (some (.and (q .i [q .i [.v 2,.v 9],.c (.str ['w','a','r','d','e','n'])]) (q (.cop .lt) [q .len [q .i [q .i [.v 2,.v 9],.c (.str ['i','n','n','e','r'])]],.c (.int 8)])))),.ite (q (.cop .ne) [.v 5,q .l []]) [.a 6 (q .i [.v 5,q (.bop .mod) [q (.bop .f) [.v 4,.c (.int 4)],q .len [.v 5]]]),.a 7 (.and (q (.cop .eq) [q (.bop .mod) [.v 4,.c (.int 4)],.c (.int 3)]) (q (.cop .lt) [q .i [q .i [.v 2,.v 6],.c (.str ['d','e','e','p'])],.c (.int 6)])),.e (.n .list false .append (q .i [q .i [.v 2,.v 6],.c (.str ['i','n','n','e','r'])]) [q .len [.v 2]]),.a 8 (q (.bop .add) [q .i [q .i [.v 2,.v 6],.c (.str ['d','e','e','p'])],.c (.int 1)]),.e (.n .list false .append (.v 2) [.p true (.d [['u','p'],['w','a','r','d','e','n'],['d','e','e','p'],['i','n','n','e','r'],['c','e','l','l']]) [.v 6,.v 7,.v 8,.p true .l [],q (.bop .f) [.v 4,.c (.int 32)]]])] []],.f false (.inl 3) (q .range1 [q .len [.v 2]]) [.ite (.and (q .i [q .i [.v 2,.v 3],.c (.str ['w','a','r','d','e','n'])]) (q (.cop .eq) [q .i [q .i [.v 2,.v 3],.c (.str ['i','n','n','e','r'])],q .l []])) [.e (.n .list false .append (q .i [q .i [.v 2,.v 3],.c (.str ['i','n','n','e','r'])]) [q .len [.v 2]]),.a 8 (q (.bop .add) [q .i [q .i [.v 2,.v 3],.c (.str ['d','e','e','p'])],.c (.int 1)]),.e (.n .list false .append (.v 2) [.p true (.d [['u','p'],['w','a','r','d','e','n'],['d','e','e','p'],['i','n','n','e','r'],['c','e','l','l']]) [.v 3,.c (.bool false),.v 8,.p true .l [],q (.bop .f) [q .i [q .i [.v 2,.v 3],.c (.str ['c','e','l','l'])],.c (.int 7)]]])] []],.ret (.v 2)]⟩
noncomputable def My:Fn:=let q:=Ex.p false;⟨2,3,[.a 2 (.p true .l []),.a 3 (q .l [.v 1]),.while_ (q (.cop .ne) [.v 3,q .l []]) [.a 4 (q .i [.v 3,.c (.int 0)]),.e (.n .list false .append (.v 2) [.v 4]),.a 3 (q (.bop .add) [q .i [q .i [.v 0,.v 4],.c (.str ['i','n','n','e','r'])],q .slice [.v 3,.c (.int 1),.c .none]])],.ret (.v 2)]⟩
noncomputable def LX:Fn:=let q:=Ex.p false;⟨1,0,[.ret (q .i [q .l [.c (.int 0),.c (.int 1),.c (.int 2),.c (.int 1),.c (.int 3),q (.bop .pow) [.c (.int 10),.c (.int 9)],q (.bop .mod) [q (.bop .f) [.v 0,.c (.int 6)],.c (.int 9)],q (.bop .mod) [q (.bop .f) [.v 0,.c (.int 6)],q (.bop .add) [q (.bop .pow) [.c (.int 10),.c (.int 9)],.c (.int 1)]]],q (.bop .mod) [.v 0,.c (.int 8)]])]⟩
noncomputable def Lx:Fn:=let q:=Ex.p false;⟨1,0,[.ret (q .i [q .l [.c (.int 3),.c (.int 1),q (.bop .pow) [.c (.int 10),.c (.int 9)],.c (.int 2),q (.bop .add) [.c (.int 1),q (.bop .mod) [q (.bop .f) [.v 0,.c (.int 6)],.c (.int 12)]],q (.bop .add) [.c (.int 1),q (.bop .mod) [q (.bop .f) [.v 0,.c (.int 6)],q (.bop .pow) [.c (.int 10),.c (.int 9)]]]],q (.bop .mod) [.v 0,.c (.int 6)]])]⟩
noncomputable def Iw:Fn:=let q:=Ex.p false;⟨3,5,[.a 3 (q .i [q .i [.v 0,.v 2],.c (.str ['c','e','l','l'])]),.ite (q .not [q .i [q .i [.v 0,.v 2],.c (.str ['w','a','r','d','e','n'])]]) [.ret (q .t [.c (.str ['w','o','r','k','e','r']),q .i [.v 1,.v 2],q .i [q .l [.c (.str ['a','l','w','a','y','s']),.c (.str ['f','a','u','l','t','e','d']),.c (.str ['n','e','v','e','r']),.c (.str ['f','a','u','l','t','e','d'])],q (.bop .mod) [.v 3,.c (.int 4)]]])] [],.a 4 (q .i [q .l [.c (.str ['o','n','e']),.c (.str ['r','e','s','t']),.c (.str ['a','l','l'])],q (.bop .mod) [.v 3,.c (.int 3)]]),.a 5 (q .t []),.f false (.inl 6) (q .i [q .i [.v 0,.v 2],.c (.str ['i','n','n','e','r'])]) [.a 5 (q (.bop .add) [.v 5,q .t [.call 23 [.v 0,.v 1,.v 6]]])],.a 7 (.call 21 [q (.bop .f) [.v 3,.c (.int 3)]]),.ite (.and (q (.cop .eq) [.v 2,.c (.int 0)]) (q (.cop .gt) [q (.bop .mod) [q (.bop .f) [.v 3,.c (.int 3)],.c (.int 4)],.c (.int 0)])) [.a 7 (q .min [q (.bop .pow) [.c (.int 10),.c (.int 9)],q (.bop .add) [.v 7,.c (.int 4)]])] [],.ret (q .t [.c (.str ['w','a','r','d','e','n']),q .i [.v 1,.v 2],.v 4,.v 7,.call 22 [q (.bop .f) [.v 3,.c (.int 24)]],.v 5])]⟩
noncomputable def Iu:Fn:=let q:=Ex.p false;⟨1,5,[.a 1 (.call 15 [.v 0,.c (.int 0)]),.a 2 (q (.bop .add) [.c (.int 2),q (.bop .mod) [.v 1,.c (.int 9)]]),.ite (q (.cop .eq) [q (.bop .mod) [q (.bop .f) [.v 1,.c (.int 9)],.c (.int 12)],.c (.int 1)]) [.a 2 (.c (.int 30))] [],.a 3 (.call 19 [.v 0,.v 2]),.a 4 (.call 17 [.call 15 [.v 0,.c (.int 1)],q .len [.v 3]]),.a 5 (.comp false (.call 23 [.v 3,.v 4,.v 6]) (q .range1 [q .len [.v 3]]) none),.ret (q (.d [['n','o','d','e','s'],['n','a','m','e','s'],['p','a','r','t','s'],['p','l','a','n'],['o','r','d','e','r']]) [.v 3,.v 4,.v 5,q .i [.v 5,.c (.int 0)],.call 20 [.v 3,.c (.int 0)]])]⟩
noncomputable def MM:Fn:=let q:=Ex.p false;⟨1,1,[.ite (q .not [q (.s .list) [.v 0]]) [.ret (.c (.bool false))] [],.f false (.inl 1) (.v 0) [.ite (.or (q .not [q (.s .tuple) [.v 1]]) (.or (q (.cop .lt) [q .len [.v 1],.c (.int 2)]) (.or (q .not [q (.s .str) [q .i [.v 1,.c (.int 0)]]]) (q .not [q (.s .str) [q .i [.v 1,.c (.int 1)]]])))) [.ret (.c (.bool false))] [],.ite (.and (q (.cop .gt) [q .len [.v 1],.c (.int 2)]) (q .not [.call 16 [q .i [.v 1,.c (.int 2)]]])) [.ret (.c (.bool false))] [],.ite (.and (q (.cop .gt) [q .len [.v 1],.c (.int 3)]) (.or (q (.cop .gt) [q .len [.v 1],.c (.int 4)]) (q .not [q (.s .tuple) [q .i [.v 1,.c (.int 3)]]]))) [.ret (.c (.bool false))] []],.ret (.c (.bool true))]⟩
noncomputable def Ok:Fn:=let q:=Ex.p false;⟨1,0,[.ret (.and (q (.s .list) [.v 0]) (q (.cop .eq) [.comp false (.v 1) (.v 0) (some (q .not [.call 16 [.v 1]])),q .l []]))]⟩
noncomputable def Lj:Fn:=let q:=Ex.p false;⟨2,0,[.try_ [.ite (q (.cop .eq) [q .i [.v 1,.c (.int 0)],.c (.str ['s','e','n','d'])]) [.ret (.m 0 58 ['s','e','n','d'] (.v 0) [q .i [.v 1,.c (.int 1)],q .i [.v 1,.c (.int 2)]])] [],.ite (q (.cop .eq) [q .i [.v 1,.c (.int 0)],.c (.str ['w','o','r','k'])]) [.ret (.m 0 59 ['w','o','r','k'] (.v 0) [q .i [.v 1,.c (.int 1)]])] [],.ret (.m 0 60 ['f','a','i','l'] (.v 0) [q .i [.v 1,.c (.int 1)]])] 0 false]⟩
noncomputable def Gf:Fn:=let q:=Ex.p false;⟨4,3,[.a 4 (q (.bop .f) [.v 0,.c (.int 10)]),.a 5 (q .i [.v 1,q (.bop .mod) [.v 4,q .len [.v 1]]]),.a 6 (.comp false (.v 7) (.v 1) (some (q (.cop .in_) [.v 7,.v 2]))),.ite (.and (q (.cop .ne) [.v 6,q .l []]) (q (.cop .lt) [q (.bop .mod) [.v 0,.c (.int 10)],.c (.int 9)])) [.a 5 (q .i [.v 6,q (.bop .mod) [.v 4,q .len [.v 6]]])] [],.ite (q (.cop .lt) [q (.bop .mod) [.v 0,.c (.int 10)],.c (.int 3)]) [.ret (q .l [q .t [.c (.str ['s','e','n','d']),.v 5,.call 18 [q (.bop .f) [.v 4,.c (.int 8)]]]])] [],.ite (q (.cop .lt) [q (.bop .mod) [.v 0,.c (.int 10)],.c (.int 6)]) [.ret (q .l [q .t [.c (.str ['s','e','n','d']),.v 5,.call 18 [q (.bop .f) [.v 4,.c (.int 8)]]],q .t [.c (.str ['w','o','r','k']),.v 5]])] [],.ite (.and (q (.cop .lt) [q (.bop .mod) [.v 0,.c (.int 10)],.c (.int 8)]) (q (.cop .ne) [.v 3,q .l []])) [.ret (q .l [q .t [.c (.str ['w','o','r','k']),q .i [.v 3,q (.bop .mod) [.v 4,q .len [.v 3]]]]])] [],.ite (.and (q (.cop .eq) [q (.bop .mod) [.v 0,.c (.int 10)],.c (.int 8)]) (q (.cop .ne) [.v 2,q .l []])) [.ret (q .l [q .t [.c (.str ['f','a','i','l']),q .i [.v 2,q (.bop .mod) [.v 4,q .len [.v 2]]]]])] [],.ret (q .i [q .l [q .l [q .t [.c (.str ['w','o','r','k']),.v 5]],q .l [q .t [.c (.str ['f','a','i','l']),.v 5]],q .l [q .t [.c (.str ['s','e','n','d']),.v 5,.call 18 [q (.bop .f) [.v 4,.c (.int 8)]]]]],q (.bop .mod) [q (.bop .f) [.v 4,.c (.int 5)],.c (.int 3)]])]⟩
noncomputable def ME:Fn:=let q:=Ex.p false;⟨1,0,[.ret (.comp false (q .i [q .i [.v 0,.c (.str ['n','a','m','e','s'])],.v 1]) (q .i [.v 0,.c (.str ['o','r','d','e','r'])]) (some (q .not [q .i [q .i [q .i [.v 0,.c (.str ['n','o','d','e','s'])],.v 1],.c (.str ['w','a','r','d','e','n'])]])))]⟩
noncomputable def Kl:Fn:=let q:=Ex.p false;⟨1,2,[.a 1 (q .len [q .i [.v 0,.c (.str ['n','o','d','e','s'])]]),.a 2 (.p true (.d [['h','e','r','e'],['s','u','m'],['m','a','i','l'],['h','o','u','r'],['s','e','n','t']]) [.p true .rep [q .l [.c (.bool false)],.v 1],.p true .rep [q .l [.c (.int 0)],.v 1],.comp true (q .l []) (q .range1 [.v 1]) none,.c (.int 0),.c (.int 0)]),.s (.v 2) (.c (.str ['k','e','p','t'])) (.comp true (q .l []) (q .range1 [.v 1]) none),.s (.v 2) (.c (.str ['r','o','w','s'])) (.p true .l []),.e (.call 31 [.v 0,.v 2,.c (.int 0)]),.ret (.v 2)]⟩
noncomputable def JZ:Fn:=let q:=Ex.p false;⟨3,1,[.f false (.inl 3) (.call 20 [q .i [.v 0,.c (.str ['n','o','d','e','s'])],.v 2]) [.s (q .i [.v 1,.c (.str ['h','e','r','e'])]) (.v 3) (.c (.bool true)),.s (q .i [.v 1,.c (.str ['s','u','m'])]) (.v 3) (.c (.int 0)),.s (q .i [.v 1,.c (.str ['k','e','p','t'])]) (.v 3) (q .l []),.e (.n .list false .append (q .i [.v 1,.c (.str ['r','o','w','s'])]) [q .t [.c (.str ['b','e','g','i','n','s']),q .i [q .i [.v 0,.c (.str ['n','a','m','e','s'])],.v 3]]])]]⟩
noncomputable def KW:Fn:=let q:=Ex.p false;⟨3,1,[.f false (.inl 3) (q .rev [.v 2,q .neg [.c (.int 1)]]) [.ite (q .i [q .i [.v 1,.c (.str ['h','e','r','e'])],.v 3]) [.s (q .i [.v 1,.c (.str ['h','e','r','e'])]) (.v 3) (.c (.bool false)),.e (.n .list false .append (q .i [.v 1,.c (.str ['r','o','w','s'])]) [q .t [.c (.str ['e','n','d','s']),q .i [q .i [.v 0,.c (.str ['n','a','m','e','s'])],.v 3]]])] []]]⟩
noncomputable def J0:Fn:=let q:=Ex.p false;⟨2,0,[.ret (.and (q (.cop .eq) [q .i [q .i [q .i [.v 0,.c (.str ['p','a','r','t','s'])],.v 1],.c (.int 2)],.c (.str ['n','e','v','e','r'])]) (q .not [q .i [q .i [q .i [.v 0,.c (.str ['n','o','d','e','s'])],.v 1],.c (.str ['w','a','r','d','e','n'])]]))]⟩
noncomputable def L1:Fn:=let q:=Ex.p false;⟨4,6,[.a 4 (q .i [q .i [q .i [.v 0,.c (.str ['n','o','d','e','s'])],.v 2],.c (.str ['i','n','n','e','r'])]),.a 5 (.n .list false .lindex (.v 4) [.v 3]),.a 6 (q .i [q .i [q .i [.v 0,.c (.str ['p','a','r','t','s'])],.v 2],.c (.int 2)]),.a 7 (q .i [q (.d [['o','n','e'],['r','e','s','t'],['a','l','l']]) [q .l [.v 3],q .slice [.v 4,.v 5,.c .none],.v 4],.v 6]),.a 9 (.comp false (.v 10) (.v 7) (some (.or (q (.cop .eq) [.v 10,.v 3]) (.and (q .i [q .i [.v 1,.c (.str ['h','e','r','e'])],.v 10]) (q .not [.call 33 [.v 0,.v 10]]))))),.f false (.inl 8) (q .rev [.v 7,q .neg [.c (.int 1)]]) [.e (.call 32 [.v 0,.v 1,.call 20 [q .i [.v 0,.c (.str ['n','o','d','e','s'])],.v 8]])],.f false (.inl 8) (.v 9) [.e (.call 31 [.v 0,.v 1,.v 8])]]⟩
noncomputable def tj:Fn:=let q:=Ex.p false;⟨4,3,[.a 4 (q .not [.call 33 [.v 0,.v 2]]),.ite (q (.cop .eq) [.v 3,.c (.str ['l','e','a','v','e','s'])]) [.a 4 (q (.cop .eq) [q .i [q .i [q .i [.v 0,.c (.str ['p','a','r','t','s'])],.v 2],.c (.int 2)],.c (.str ['a','l','w','a','y','s'])])] [],.while_ (.c (.bool true)) [.s (q .i [.v 1,.c (.str ['h','e','r','e'])]) (.v 2) (.c (.bool false)),.e (.n .list false .append (q .i [.v 1,.c (.str ['r','o','w','s'])]) [q .t [.v 3,q .i [q .i [.v 0,.c (.str ['n','a','m','e','s'])],.v 2]]]),.e (.call 32 [.v 0,.v 1,q .slice [.call 20 [q .i [.v 0,.c (.str ['n','o','d','e','s'])],.v 2],.c (.int 1),.c .none]]),.a 5 (q .i [q .i [q .i [.v 0,.c (.str ['n','o','d','e','s'])],.v 2],.c (.str ['u','p'])]),.ite (.or (q .not [.v 4]) (q (.cop .lt) [.v 5,.c (.int 0)])) [.ret (.c .none)] [],.a 6 (q .i [q .i [.v 0,.c (.str ['p','a','r','t','s'])],.v 5]),.s (q .i [.v 1,.c (.str ['k','e','p','t'])]) (.v 5) (q (.bop .add) [.comp false (.v 7) (q .i [q .i [.v 1,.c (.str ['k','e','p','t'])],.v 5]) (some (q (.cop .gt) [q (.bop .add) [.v 7,q .i [.v 6,.c (.int 4)]],q .i [.v 1,.c (.str ['h','o','u','r'])]])),q .l [q .i [.v 1,.c (.str ['h','o','u','r'])]]]),.ite (q (.cop .le) [q .len [q .i [q .i [.v 1,.c (.str ['k','e','p','t'])],.v 5]],q .i [.v 6,.c (.int 3)]]) [.e (.call 34 [.v 0,.v 1,.v 5,.v 2]),.ret (.c .none)] [],.a 2 (.v 5),.a 3 (.c (.str ['f','a','i','l','s']))]]⟩
noncomputable def Mu:Fn:=let q:=Ex.p false;⟨3,2,[.a 3 (q .i [q .i [q .i [q .i [.v 1,.c (.str ['m','a','i','l'])],.v 2],.c (.int 0)],.c (.int 0)]),.a 4 (q .i [q .i [q .i [q .i [.v 1,.c (.str ['m','a','i','l'])],.v 2],.c (.int 0)],.c (.int 1)]),.s (q .i [.v 1,.c (.str ['m','a','i','l'])]) (.v 2) (q .slice [q .i [q .i [.v 1,.c (.str ['m','a','i','l'])],.v 2],.c (.int 1),.c .none]),.e (.n .list false .append (q .i [.v 1,.c (.str ['r','o','w','s'])]) [q .t [.c (.str ['w','o','r','k','s']),q .i [q .i [.v 0,.c (.str ['n','a','m','e','s'])],.v 2],.v 3]]),.ite (q (.cop .eq) [q .i [.v 4,.c (.int 0)],.c (.str ['a','d','d'])]) [.s (q .i [.v 1,.c (.str ['s','u','m'])]) (.v 2) (q (.bop .add) [q .i [q .i [.v 1,.c (.str ['s','u','m'])],.v 2],q .i [.v 4,.c (.int 1)]])] [.e (.call 35 [.v 0,.v 1,.v 2,q .i [q (.d [['f','a','u','l','t'],['l','e','a','v','e']]) [.c (.str ['f','a','i','l','s']),.c (.str ['l','e','a','v','e','s'])],q .i [.v 4,.c (.int 0)]]])]]⟩
noncomputable def Kr:Fn:=let q:=Ex.p false;⟨2,2,[.f false (.inl 2) (q .i [.v 0,.c (.str ['o','r','d','e','r'])]) [.ite (q .not [q .i [q .i [.v 1,.c (.str ['h','e','r','e'])],.v 2]]) [.f false (.inl 3) (q .i [q .i [.v 1,.c (.str ['m','a','i','l'])],.v 2]) [.e (.n .list false .append (q .i [.v 1,.c (.str ['r','o','w','s'])]) [q .t [.c (.str ['l','o','s','t']),q .i [q .i [.v 0,.c (.str ['n','a','m','e','s'])],.v 2],q .i [.v 3,.c (.int 0)]]])],.s (q .i [.v 1,.c (.str ['m','a','i','l'])]) (.v 2) (q .l [])] []]]⟩
noncomputable def Md:Fn:=let q:=Ex.p false;⟨3,1,[.ite (.or (q .not [q .i [q .i [.v 1,.c (.str ['h','e','r','e'])],.c (.int 0)]]) (q (.cop .notin) [q .i [.v 2,.c (.int 1)],q .i [.v 0,.c (.str ['n','a','m','e','s'])]])) [.ret (.c (.bool false))] [],.a 3 (.n .list false .lindex (q .i [.v 0,.c (.str ['n','a','m','e','s'])]) [q .i [.v 2,.c (.int 1)]]),.ite (.or (q .not [q .i [q .i [.v 1,.c (.str ['h','e','r','e'])],.v 3]]) (.and (q (.cop .ne) [q .i [.v 2,.c (.int 0)],.c (.str ['f','a','i','l'])]) (q .i [q .i [q .i [.v 0,.c (.str ['n','o','d','e','s'])],.v 3],.c (.str ['w','a','r','d','e','n'])]))) [.ret (.c (.bool false))] [],.ret (.or (q (.cop .ne) [q .i [.v 2,.c (.int 0)],.c (.str ['w','o','r','k'])]) (q (.cop .ne) [q .i [q .i [.v 1,.c (.str ['m','a','i','l'])],.v 3],q .l []]))]⟩
noncomputable def JN:Fn:=let q:=Ex.p false;⟨3,1,[.a 3 (.n .list false .lindex (q .i [.v 0,.c (.str ['n','a','m','e','s'])]) [q .i [.v 2,.c (.int 1)]]),.ite (q (.cop .eq) [q .i [.v 2,.c (.int 0)],.c (.str ['s','e','n','d'])]) [.s (.v 1) (.c (.str ['s','e','n','t'])) (q (.bop .add) [q .i [.v 1,.c (.str ['s','e','n','t'])],.c (.int 1)]),.s (q .i [.v 1,.c (.str ['m','a','i','l'])]) (.v 3) (q (.bop .add) [q .i [q .i [.v 1,.c (.str ['m','a','i','l'])],.v 3],q .l [q .t [q .i [.v 1,.c (.str ['s','e','n','t'])],q .i [.v 2,.c (.int 2)]]]]),.e (.n .list false .append (q .i [.v 1,.c (.str ['r','o','w','s'])]) [q .t [.c (.str ['s','e','n','t']),q .i [.v 2,.c (.int 1)],q .i [.v 1,.c (.str ['s','e','n','t'])],q .i [.v 2,.c (.int 2)]]]),.ret (.c .none)] [],.s (.v 1) (.c (.str ['h','o','u','r'])) (q (.bop .add) [q .i [.v 1,.c (.str ['h','o','u','r'])],.c (.int 1)]),.ite (q (.cop .eq) [q .i [.v 2,.c (.int 0)],.c (.str ['w','o','r','k'])]) [.e (.call 36 [.v 0,.v 1,.v 3])] [.e (.call 35 [.v 0,.v 1,.v 3,.c (.str ['f','a','i','l','s'])])],.e (.call 37 [.v 0,.v 1])]⟩
noncomputable def Ky:Fn:=let q:=Ex.p false;⟨2,0,[.ret (.comp false (q .i [q .i [.v 0,.c (.str ['n','a','m','e','s'])],.v 2]) (q .i [.v 0,.c (.str ['o','r','d','e','r'])]) (some (q .i [q .i [.v 1,.c (.str ['h','e','r','e'])],.v 2])))]⟩
noncomputable def Lk:Fn:=let q:=Ex.p false;⟨2,0,[.ret (.comp false (q .i [q .i [.v 0,.c (.str ['n','a','m','e','s'])],.v 2]) (q .i [.v 0,.c (.str ['o','r','d','e','r'])]) (some (.and (q .i [q .i [.v 1,.c (.str ['h','e','r','e'])],.v 2]) (q (.cop .ne) [q .i [q .i [.v 1,.c (.str ['m','a','i','l'])],.v 2],q .l []]))))]⟩
noncomputable def J7:Fn:=let q:=Ex.p false;⟨2,4,[.a 2 (.call 30 [.v 1]),.a 3 (.call 29 [.v 1]),.f false (.inl 4) (q .slice [.v 0,.c (.int 16),.c .none]) [.f false (.inl 5) (.call 28 [.v 4,.v 3,.call 40 [.v 1,.v 2],.call 41 [.v 1,.v 2]]) [.ite (.call 38 [.v 1,.v 2,.v 5]) [.e (.call 39 [.v 1,.v 2,.v 5])] []]],.ret (.v 2)]⟩
noncomputable def HZ:Fn:=let q:=Ex.p false;⟨3,5,[.ite (.or (q (.cop .ne) [.m 0 61 ['i','s','_','o','p','e','n'] (.v 2) [],q .i [q .i [.v 1,.c (.str ['h','e','r','e'])],.c (.int 0)]]) (.or (q (.cop .ne) [.m 0 62 ['h','o','u','r'] (.v 2) [],q .i [.v 1,.c (.str ['h','o','u','r'])]]) (q (.cop .ne) [.m 0 63 ['h','e','r','e'] (.v 2) [],.call 40 [.v 0,.v 1]]))) [.ret (.c (.bool false))] [],.f false (.inl 3) (q .i [.v 0,.c (.str ['o','r','d','e','r'])]) [.a 4 (q .i [q .i [.v 0,.c (.str ['n','a','m','e','s'])],.v 3]),.ite (q .i [q .i [q .i [.v 0,.c (.str ['n','o','d','e','s'])],.v 3],.c (.str ['w','a','r','d','e','n'])]) [.a 5 (q .i [q .i [q .i [.v 0,.c (.str ['p','a','r','t','s'])],.v 3],.c (.int 4)]),.a 6 (.comp false (.v 8) (q .i [q .i [.v 1,.c (.str ['k','e','p','t'])],.v 3]) (some (q (.cop .gt) [q (.bop .add) [.v 8,.v 5],q .i [.v 1,.c (.str ['h','o','u','r'])]]))),.ite (.and (q .i [q .i [.v 1,.c (.str ['h','e','r','e'])],.v 3]) (q (.cop .ne) [.m 0 67 ['h','o','u','r','s'] (.v 2) [.v 4],.v 6])) [.ret (.c (.bool false))] []] [.ite (q (.cop .ne) [.m 0 65 ['w','a','i','t','s'] (.v 2) [.v 4],.comp false (q .i [.v 8,.c (.int 0)]) (q .i [q .i [.v 1,.c (.str ['m','a','i','l'])],.v 3]) none]) [.ret (.c (.bool false))] [.ite (.and (q .i [q .i [.v 1,.c (.str ['h','e','r','e'])],.v 3]) (q (.cop .ne) [.m 0 66 ['s','u','m','_','o','f'] (.v 2) [.v 4],q .i [q .i [.v 1,.c (.str ['s','u','m'])],.v 3]])) [.ret (.c (.bool false))] []]]],.a 7 (.m 0 64 ['h','i','s','t','o','r','y'] (.v 2) []),.ret (.and (.call 25 [.v 7]) (q (.cop .eq) [.v 7,q .i [.v 1,.c (.str ['r','o','w','s'])]]))]⟩
noncomputable def Kf:Fn:=let q:=Ex.p false;⟨2,2,[.a 2 (.c (.int 0)),.tryI (.call 14 [.v 0,.v 1]) 0 2 3 1,.tryI (.call 13 [.v 0,.v 1]) 0 2 3 1,.ret (q (.cop .eq) [.v 2,.c (.int 2)])]⟩
noncomputable def DS:Fn:=let q:=Ex.p false;⟨1,5,[.a 1 (.call 17 [.call 15 [.v 0,.c (.int 1)],.c (.int 3)]),.a 2 (q .t [q .t [.c (.str ['w','o','r','k','e','r']),q .i [.v 1,.c (.int 1)],.c (.str ['f','a','u','l','t','e','d'])],q .t [.c (.str ['w','o','r','k','e','r']),q .i [.v 1,.c (.int 2)],.c (.str ['a','l','w','a','y','s'])]]),.a 3 (q .t [.c (.str ['w','a','r','d','e','n']),q .i [.v 1,.c (.int 0)],q .i [q .l [.c (.str ['o','n','e']),.c (.str ['r','e','s','t']),.c (.str ['a','l','l'])],q (.bop .mod) [.call 15 [.v 0,.c (.int 2)],.c (.int 3)]],q (.bop .pow) [.c (.int 10),.c (.int 9)],q (.bop .pow) [.c (.int 10),.c (.int 9)],.v 2]),.a 4 (.p true .l [.p true (.d [['u','p'],['w','a','r','d','e','n'],['i','n','n','e','r']]) [q .neg [.c (.int 1)],.c (.bool true),.p true .l [.c (.int 1),.c (.int 2)]]]),.f false (.inl 5) (q .range1 [.c (.int 2)]) [.e (.n .list false .append (.v 4) [.p true (.d [['u','p'],['w','a','r','d','e','n'],['i','n','n','e','r']]) [.c (.int 0),.c (.bool false),.p true .l []]])],.ret (q (.d [['n','o','d','e','s'],['n','a','m','e','s'],['p','a','r','t','s'],['p','l','a','n'],['o','r','d','e','r']]) [.v 4,.v 1,q .l [.v 3,q .i [.v 2,.c (.int 0)],q .i [.v 2,.c (.int 1)]],.v 3,.p true .l [.c (.int 0),.c (.int 1),.c (.int 2)]])]⟩
noncomputable def rW:Fn:=let q:=Ex.p false;⟨1,13,[.a 1 (.call 24 [.v 0]),.a 2 (.call 42 [.v 0,.v 1]),.ite (q (.cop .eq) [q (.bop .mod) [.call 15 [.v 0,.c (.int 15)],.c (.int 9)],.c (.int 2)]) [.a 1 (.call 45 [.v 0]),.a 2 (.call 30 [.v 1]),.f false (.inl 3) (q .range1 [q (.bop .add) [.c (.int 61),q (.bop .mod) [q (.bop .f) [.call 15 [.v 0,.c (.int 15)],.c (.int 9)],.c (.int 40)]]]) [.e (.call 39 [.v 1,.v 2,q .t [.c (.str ['f','a','i','l']),q .i [q .i [.v 1,.c (.str ['n','a','m','e','s'])],q (.bop .add) [.c (.int 1),q (.bop .mod) [q (.bop .add) [.call 15 [.v 0,.c (.int 14)],.v 3],.c (.int 2)]]]]])]] [],.ite (q (.cop .eq) [q (.bop .mod) [.call 15 [.v 0,.c (.int 15)],.c (.int 9)],.c (.int 1)]) [.a 4 (q .l [q .slice [q .i [.v 1,.c (.str ['p','l','a','n'])],.c .none,.c (.int 5)],q .t [.c (.str ['w','o','r','k','e','r']),.c (.str ['a']),.c (.str ['n','e','v','e','r'])],.c .none,q .list [q .i [.v 1,.c (.str ['p','l','a','n'])]]]),.a 5 (q .i [q .l [q .i [.v 2,.c (.str ['r','o','w','s'])],q .l [.c .none,.c (.int 5)]],q (.bop .mod) [q (.bop .f) [.call 15 [.v 0,.c (.int 15)],.c (.int 36)],.c (.int 2)]]),.ret (.call 44 [q .i [.v 4,q (.bop .mod) [q (.bop .f) [.call 15 [.v 0,.c (.int 15)],.c (.int 9)],.c (.int 4)]],.v 5])] [],.a 6 (.p true .list [q .i [.v 2,.c (.str ['r','o','w','s'])]]),.a 7 (.call 14 [q .i [.v 1,.c (.str ['p','l','a','n'])],.v 6]),.e (.n .list false .append (.v 6) [q .t [.c (.str ['f','a','i','l','s']),.c (.str ['a'])]]),.a 8 (q .len [.v 6]),.ite (q .not [.call 43 [.v 1,.v 2,.v 7]]) [.ret (.c (.bool false))] [],.f false (.inl 3) (q .range1 [.c (.int 4)]) [.a 9 (q (.bop .f) [.call 15 [.v 0,q (.bop .add) [.c (.int 13),q (.bop .mod) [.v 3,.c (.int 3)]]],q (.bop .add) [.v 3,.c (.int 1)]]),.f false (.inl 10) (.call 28 [.v 9,.call 29 [.v 1],.call 40 [.v 1,.v 2],.call 41 [.v 1,.v 2]]) [.a 11 (.call 27 [.v 7,.v 10]),.ite (q .not [.call 38 [.v 1,.v 2,.v 10]]) [.ite (q (.cop .isnot) [.v 11,.c .none]) [.ret (.c (.bool false))] []] [.a 12 (q .len [q .i [.v 2,.c (.str ['r','o','w','s'])]]),.e (.call 39 [.v 1,.v 2,.v 10]),.a 13 (q .slice [q .i [.v 2,.c (.str ['r','o','w','s'])],.v 12,.c .none]),.ite (q (.cop .eq) [q .i [.v 10,.c (.int 0)],.c (.str ['s','e','n','d'])]) [.a 13 (q .i [.v 2,.c (.str ['s','e','n','t'])])] [],.ite (.or (q (.cop .ne) [.v 11,.v 13]) (q .not [.call 43 [.v 1,.v 2,.v 7]])) [.ret (.c (.bool false))] []]]],.ret (.and (q (.cop .eq) [q .len [.v 6],.v 8]) (q (.cop .eq) [q .i [.v 6,q .neg [.c (.int 1)]],q .t [.c (.str ['f','a','i','l','s']),.c (.str ['a'])]]))]⟩
noncomputable def nF:Fn:=let q:=Ex.p false;⟨2,1,[.ite (q .not [.call 5 [.v 1]]) [.raise 1] [],.setAttr (.v 0) ['p','l','a','n'] (.v 1),.setAttr (.v 0) ['r','o','w'] (.p true .l []),.setAttr (.v 0) ['p','a','r','t','s'] (.p true (.d []) []),.setAttr (.v 0) ['c','h','i','e','f'] (.p true .mkdict1 [q .i [.v 1,.c (.int 1)],.c .none]),.setAttr (.v 0) ['p','r','e','s','e','n','t'] (.p true (.d []) []),.setAttr (.v 0) ['s','u','m','s'] (.p true (.d []) []),.setAttr (.v 0) ['k','e','p','t'] (.p true (.d []) []),.setAttr (.v 0) ['q','u','e','u','e','s'] (.p true (.d []) []),.f false (.inl 2) (.call 6 [.v 1]) [.e (.m 0 48 ['n','o','t','e'] (.v 0) [.v 2])],.setAttr (.v 0) ['c','l','o','c','k'] (.c (.int 0)),.setAttr (.v 0) ['l','e','t','t','e','r','s'] (.c (.int 0)),.setAttr (.v 0) ['e','v','e','n','t','s'] (.p true .l []),.e (.m 0 49 ['b','e','g','i','n'] (.v 0) [.v 1])]⟩
noncomputable def MR:Fn:=let q:=Ex.p false;⟨2,1,[.e (.n .list false .append (q (.a ['r','o','w']) [.v 0]) [q .i [.v 1,.c (.int 1)]]),.s (q (.a ['p','a','r','t','s']) [.v 0]) (q .i [.v 1,.c (.int 1)]) (.v 1),.ite (q (.cop .eq) [q .i [.v 1,.c (.int 0)],.c (.str ['w','o','r','k','e','r'])]) [.s (q (.a ['q','u','e','u','e','s']) [.v 0]) (q .i [.v 1,.c (.int 1)]) (.p true .l [])] [.f false (.inl 2) (q .i [.v 1,.c (.int 5)]) [.s (q (.a ['c','h','i','e','f']) [.v 0]) (q .i [.v 2,.c (.int 1)]) (.v 1)]]]⟩
noncomputable def KZ:Fn:=let q:=Ex.p false;⟨2,1,[.s (q (.a ['p','r','e','s','e','n','t']) [.v 0]) (q .i [.v 1,.c (.int 1)]) (.c (.bool true)),.e (.n .list false .append (q (.a ['e','v','e','n','t','s']) [.v 0]) [q .t [.c (.str ['b','e','g','i','n','s']),q .i [.v 1,.c (.int 1)]]]),.ite (q (.cop .eq) [q .i [.v 1,.c (.int 0)],.c (.str ['w','o','r','k','e','r'])]) [.s (q (.a ['s','u','m','s']) [.v 0]) (q .i [.v 1,.c (.int 1)]) (.c (.int 0))] [.s (q (.a ['k','e','p','t']) [.v 0]) (q .i [.v 1,.c (.int 1)]) (.p true .l []),.f false (.inl 2) (q .i [.v 1,.c (.int 5)]) [.e (.m 0 49 ['b','e','g','i','n'] (.v 0) [.v 2])]]]⟩
noncomputable def Lu:Fn:=let q:=Ex.p false;⟨2,1,[.ite (q (.cop .eq) [q .i [.v 1,.c (.int 0)],.c (.str ['w','a','r','d','e','n'])]) [.f true (.inl 2) (q .i [.v 1,.c (.int 5)]) [.ite (q (.cop .in_) [q .i [.v 2,.c (.int 1)],q (.a ['p','r','e','s','e','n','t']) [.v 0]]) [.e (.m 0 51 ['e','n','d'] (.v 0) [.v 2])] []]] []]⟩
noncomputable def KF:Fn:=let q:=Ex.p false;⟨2,0,[.e (.m 0 50 ['e','n','d','_','p','a','r','t','s'] (.v 0) [.v 1]),.e (.n .dict false .dpop (q (.a ['p','r','e','s','e','n','t']) [.v 0]) [q .i [.v 1,.c (.int 1)]]),.e (.n .list false .append (q (.a ['e','v','e','n','t','s']) [.v 0]) [q .t [.c (.str ['e','n','d','s']),q .i [.v 1,.c (.int 1)]]])]⟩
noncomputable def ML:Fn:=let q:=Ex.p false;⟨2,0,[.e (.n .list false .append (q (.a ['e','v','e','n','t','s']) [.v 0]) [q .t [.c (.str ['f','a','i','l','s']),q .i [.v 1,.c (.int 1)]]]),.e (.n .dict false .dpop (q (.a ['p','r','e','s','e','n','t']) [.v 0]) [q .i [.v 1,.c (.int 1)]]),.e (.m 0 50 ['e','n','d','_','p','a','r','t','s'] (.v 0) [.v 1]),.ite (.and (q (.cop .eq) [q .i [.v 1,.c (.int 0)],.c (.str ['w','o','r','k','e','r'])]) (q (.cop .eq) [q .i [.v 1,.c (.int 2)],.c (.str ['n','e','v','e','r'])])) [.ret (.c .none)] [],.ite (q (.cop .isnot) [q .i [q (.a ['c','h','i','e','f']) [.v 0],q .i [.v 1,.c (.int 1)]],.c .none]) [.e (.m 0 53 ['f','o','l','l','o','w'] (.v 0) [q .i [q (.a ['c','h','i','e','f']) [.v 0],q .i [.v 1,.c (.int 1)]],.v 1])] []]⟩
noncomputable def Mg:Fn:=let q:=Ex.p false;⟨3,6,[.a 3 (q .i [q (.a ['k','e','p','t']) [.v 0],q .i [.v 1,.c (.int 1)]]),.e (.n .list false .append (.v 3) [q (.a ['c','l','o','c','k']) [.v 0]]),.ite (q (.cop .gt) [q .len [.call 7 [.v 3,q (.a ['c','l','o','c','k']) [.v 0],q .i [.v 1,.c (.int 4)]]],q .i [.v 1,.c (.int 3)]]) [.e (.m 0 52 ['f','a','l','l'] (.v 0) [.v 1]),.ret (.c .none)] [],.a 4 (.n (.tup 0) false .index (q .i [.v 1,.c (.int 5)]) [.v 2]),.a 5 (.call 8 [q .i [.v 1,.c (.int 2)],q .len [q .i [.v 1,.c (.int 5)]],.v 4]),.a 7 (.comp false (.v 9) (.v 5) (some (q (.cop .in_) [q .i [q .i [q .i [.v 1,.c (.int 5)],.v 9],.c (.int 1)],q (.a ['p','r','e','s','e','n','t']) [.v 0]]))),.f true (.inl 6) (.v 7) [.e (.m 0 51 ['e','n','d'] (.v 0) [q .i [q .i [.v 1,.c (.int 5)],.v 6]])],.f false (.inl 6) (.v 5) [.a 8 (q .i [q .i [.v 1,.c (.int 5)],.v 6]),.ite (.or (q (.cop .eq) [.v 6,.v 4]) (.and (q (.cop .in_) [.v 6,.v 7]) (q .not [.and (q (.cop .eq) [q .i [.v 8,.c (.int 0)],.c (.str ['w','o','r','k','e','r'])]) (q (.cop .eq) [q .i [.v 8,.c (.int 2)],.c (.str ['n','e','v','e','r'])])]))) [.e (.m 0 49 ['b','e','g','i','n'] (.v 0) [.v 8])] []]]⟩
noncomputable def Kx:Fn:=let q:=Ex.p false;⟨1,3,[.f false (.inl 1) (q (.a ['r','o','w']) [.v 0]) [.ite (.and (q (.cop .in_) [.v 1,q (.a ['q','u','e','u','e','s']) [.v 0]]) (q (.cop .notin) [.v 1,q (.a ['p','r','e','s','e','n','t']) [.v 0]])) [.f false (.inr [2,3]) (q .i [q (.a ['q','u','e','u','e','s']) [.v 0],.v 1]) [.e (.n .list false .append (q (.a ['e','v','e','n','t','s']) [.v 0]) [q .t [.c (.str ['l','o','s','t']),.v 1,.v 2]])],.s (q (.a ['q','u','e','u','e','s']) [.v 0]) (.v 1) (.p true .l [])] []]]⟩
noncomputable def LW:Fn:=let q:=Ex.p false;⟨1,0,[.ite (q .not [.m 0 61 ['i','s','_','o','p','e','n'] (.v 0) []]) [.raise 6] []]⟩
noncomputable def Mi:Fn:=let q:=Ex.p false;⟨2,0,[.ite (.or (q .not [.call 1 [.v 1]]) (q (.cop .notin) [.v 1,q (.a ['q','u','e','u','e','s']) [.v 0]])) [.raise 3] []]⟩
noncomputable def KD:Fn:=let q:=Ex.p false;⟨2,0,[.ite (q (.cop .notin) [.v 1,q (.a ['p','r','e','s','e','n','t']) [.v 0]]) [.raise 4] []]⟩
noncomputable def J5:Fn:=let q:=Ex.p false;⟨3,0,[.e (.m 0 55 ['n','e','e','d','_','o','p','e','n'] (.v 0) []),.ite (q .not [.call 2 [.v 2]]) [.raise 2] [],.e (.m 0 56 ['n','e','e','d','_','w','o','r','k','e','r'] (.v 0) [.v 1]),.e (.m 0 57 ['n','e','e','d','_','h','e','r','e'] (.v 0) [.v 1]),.setAttr (.v 0) ['l','e','t','t','e','r','s'] (q (.bop .add) [q (.a ['l','e','t','t','e','r','s']) [.v 0],.c (.int 1)]),.e (.n .list false .append (q .i [q (.a ['q','u','e','u','e','s']) [.v 0],.v 1]) [q .t [q (.a ['l','e','t','t','e','r','s']) [.v 0],.v 2]]),.e (.n .list false .append (q (.a ['e','v','e','n','t','s']) [.v 0]) [q .t [.c (.str ['s','e','n','t']),.v 1,q (.a ['l','e','t','t','e','r','s']) [.v 0],.v 2]]),.ret (q (.a ['l','e','t','t','e','r','s']) [.v 0])]⟩
noncomputable def Kt:Fn:=let q:=Ex.p false;⟨2,4,[.e (.m 0 55 ['n','e','e','d','_','o','p','e','n'] (.v 0) []),.e (.m 0 56 ['n','e','e','d','_','w','o','r','k','e','r'] (.v 0) [.v 1]),.e (.m 0 57 ['n','e','e','d','_','h','e','r','e'] (.v 0) [.v 1]),.ite (q (.cop .eq) [q .len [q .i [q (.a ['q','u','e','u','e','s']) [.v 0],.v 1]],.c (.int 0)]) [.raise 5] [],.a 2 (q .len [q (.a ['e','v','e','n','t','s']) [.v 0]]),.setAttr (.v 0) ['c','l','o','c','k'] (q (.bop .add) [q (.a ['c','l','o','c','k']) [.v 0],.c (.int 1)]),.asgTup [3,4] (.n .list false .pop0 (q .i [q (.a ['q','u','e','u','e','s']) [.v 0],.v 1]) [.c (.int 0)]),.e (.n .list false .append (q (.a ['e','v','e','n','t','s']) [.v 0]) [q .t [.c (.str ['w','o','r','k','s']),.v 1,.v 3]]),.a 5 (q .i [q (.a ['p','a','r','t','s']) [.v 0],.v 1]),.ite (q (.cop .eq) [q .i [.v 4,.c (.int 0)],.c (.str ['a','d','d'])]) [.s (q (.a ['s','u','m','s']) [.v 0]) (.v 1) (q (.bop .add) [q .i [q (.a ['s','u','m','s']) [.v 0],.v 1],q .i [.v 4,.c (.int 1)]])] [.ite (q (.cop .eq) [q .i [.v 4,.c (.int 0)],.c (.str ['f','a','u','l','t'])]) [.e (.m 0 52 ['f','a','l','l'] (.v 0) [.v 5])] [.e (.n .list false .append (q (.a ['e','v','e','n','t','s']) [.v 0]) [q .t [.c (.str ['l','e','a','v','e','s']),.v 1]]),.e (.n .dict false .dpop (q (.a ['p','r','e','s','e','n','t']) [.v 0]) [.v 1]),.ite (q (.cop .eq) [q .i [.v 5,.c (.int 2)],.c (.str ['a','l','w','a','y','s'])]) [.e (.m 0 53 ['f','o','l','l','o','w'] (.v 0) [q .i [q (.a ['c','h','i','e','f']) [.v 0],.v 1],.v 5])] []]],.e (.m 0 54 ['l','o','s','e'] (.v 0) []),.ret (q .slice [q (.a ['e','v','e','n','t','s']) [.v 0],.v 2,.c .none])]⟩
noncomputable def K2:Fn:=let q:=Ex.p false;⟨2,1,[.e (.m 0 55 ['n','e','e','d','_','o','p','e','n'] (.v 0) []),.ite (.or (q .not [.call 1 [.v 1]]) (q (.cop .notin) [.v 1,q (.a ['p','a','r','t','s']) [.v 0]])) [.raise 3] [],.e (.m 0 57 ['n','e','e','d','_','h','e','r','e'] (.v 0) [.v 1]),.a 2 (q .len [q (.a ['e','v','e','n','t','s']) [.v 0]]),.setAttr (.v 0) ['c','l','o','c','k'] (q (.bop .add) [q (.a ['c','l','o','c','k']) [.v 0],.c (.int 1)]),.e (.m 0 52 ['f','a','l','l'] (.v 0) [q .i [q (.a ['p','a','r','t','s']) [.v 0],.v 1]]),.e (.m 0 54 ['l','o','s','e'] (.v 0) []),.ret (q .slice [q (.a ['e','v','e','n','t','s']) [.v 0],.v 2,.c .none])]⟩
noncomputable def Mz:Fn:=let q:=Ex.p false;⟨1,0,[.ret (q (.cop .in_) [q .i [q (.a ['p','l','a','n']) [.v 0],.c (.int 1)],q (.a ['p','r','e','s','e','n','t']) [.v 0]])]⟩
noncomputable def Ly:Fn:=let q:=Ex.p false;⟨1,0,[.ret (q (.a ['c','l','o','c','k']) [.v 0])]⟩
noncomputable def MC:Fn:=let q:=Ex.p false;⟨1,0,[.ret (.comp false (.v 1) (q (.a ['r','o','w']) [.v 0]) (some (q (.cop .in_) [.v 1,q (.a ['p','r','e','s','e','n','t']) [.v 0]])))]⟩
noncomputable def LP:Fn:=let q:=Ex.p false;⟨1,0,[.ret (q .list [q (.a ['e','v','e','n','t','s']) [.v 0]])]⟩
noncomputable def LD:Fn:=let q:=Ex.p false;⟨2,0,[.e (.m 0 56 ['n','e','e','d','_','w','o','r','k','e','r'] (.v 0) [.v 1]),.ret (.comp false (q .i [.v 2,.c (.int 0)]) (q .i [q (.a ['q','u','e','u','e','s']) [.v 0],.v 1]) none)]⟩
noncomputable def Kg:Fn:=let q:=Ex.p false;⟨2,0,[.e (.m 0 56 ['n','e','e','d','_','w','o','r','k','e','r'] (.v 0) [.v 1]),.e (.m 0 57 ['n','e','e','d','_','h','e','r','e'] (.v 0) [.v 1]),.ret (q .i [q (.a ['s','u','m','s']) [.v 0],.v 1])]⟩
noncomputable def Lf:Fn:=let q:=Ex.p false;⟨2,0,[.ite (.or (q .not [.call 1 [.v 1]]) (.or (q (.cop .notin) [.v 1,q (.a ['p','a','r','t','s']) [.v 0]]) (q (.cop .ne) [q .i [q .i [q (.a ['p','a','r','t','s']) [.v 0],.v 1],.c (.int 0)],.c (.str ['w','a','r','d','e','n'])]))) [.raise 3] [],.e (.m 0 57 ['n','e','e','d','_','h','e','r','e'] (.v 0) [.v 1]),.ret (.call 7 [q .i [q (.a ['k','e','p','t']) [.v 0],.v 1],q (.a ['c','l','o','c','k']) [.v 0],q .i [q .i [q (.a ['p','a','r','t','s']) [.v 0],.v 1],.c (.int 4)]])]⟩
noncomputable def LH:List Fn:=[fn0,fn1,fn2,fn3,fn4,fn5,fn6,fn7,fn8,fn9,MG,JF,MN,JE,F4,L2,LS,Il,MD,Dj,My,LX,Lx,Iw,Iu,MM,Ok,Lj,Gf,ME,Kl,JZ,KW,J0,L1,tj,Mu,Kr,Md,JN,Ky,Lk,J7,HZ,Kf,DS,rW,nF,MR,KZ,Lu,KF,ML,Mg,Kx,LW,Mi,KD,J5,Kt,K2,Mz,Ly,MC,LP,LD,Kg,Lf]
noncomputable def zb:List (List Nat):=[[0],[1,0],[2,0],[3,0],[4,0],[5,0],[6,0],[7,0]]
noncomputable def PL:Prog:=wA LH zb
theorem J2:PL.fns 0=some fn0:=rfl
theorem Ll:PL.fns 1=some fn1:=rfl
theorem yF:PL.fns 2=some fn2:=rfl
theorem Fj:PL.fns 3=some fn3:=rfl
theorem sg:PL.fns 4=some fn4:=rfl
theorem Fs:PL.fns 5=some fn5:=rfl
theorem FA:PL.fns 6=some fn6:=rfl
theorem MK:PL.fns 7=some fn7:=rfl
theorem AR:PL.fns 8=some fn8:=rfl
theorem zp:PL.fns 9=some fn9:=rfl
theorem uG:PL.fns 10=some MG:=rfl
theorem uK:PL.fns 11=some JF:=rfl
theorem yV:PL.fns 12=some MN:=rfl
theorem Gx:PL.fns 13=some JE:=rfl
theorem yZ:PL.fns 14=some F4:=rfl
theorem Ia:PL.fns 15=some L2:=rfl
theorem HV:PL.fns 16=some LS:=rfl
theorem FP:PL.fns 17=some Il:=rfl
theorem Gp:PL.fns 18=some MD:=rfl
theorem Hn:PL.fns 19=some Dj:=rfl
theorem Ha:PL.fns 20=some My:=rfl
theorem Hw:PL.fns 21=some LX:=rfl
theorem Hg:PL.fns 22=some Lx:=rfl
theorem FM:PL.fns 23=some Iw:=rfl
theorem Ie:PL.fns 24=some Iu:=rfl
theorem G9:PL.fns 25=some MM:=rfl
theorem uh:PL.fns 27=some Lj:=rfl
theorem HC:PL.fns 28=some Gf:=rfl
theorem Ih:PL.fns 29=some ME:=rfl
theorem IA:PL.fns 30=some Kl:=rfl
theorem Iy:PL.fns 31=some JZ:=rfl
theorem IV:PL.fns 32=some KW:=rfl
theorem Je:PL.fns 33=some J0:=rfl
theorem FK:PL.fns 34=some L1:=rfl
theorem zF:PL.fns 35=some tj:=rfl
theorem HL:PL.fns 36=some Mu:=rfl
theorem FX:PL.fns 37=some Kr:=rfl
theorem IG:PL.fns 38=some Md:=rfl
theorem uj:PL.fns 39=some JN:=rfl
theorem Hh:PL.fns 40=some Ky:=rfl
theorem IH:PL.fns 41=some Lk:=rfl
theorem HO:PL.fns 42=some J7:=rfl
theorem IE:PL.fns 43=some HZ:=rfl
theorem HN:PL.fns 44=some Kf:=rfl
theorem Gw:PL.fns 45=some DS:=rfl
theorem Jh:PL.fns 46=some rW:=rfl
theorem Bq:PL.fns 47=some nF:=rfl
theorem zj:PL.fns 48=some MR:=rfl
theorem y5:PL.fns 49=some KZ:=rfl
theorem BU:PL.fns 50=some Lu:=rfl
theorem Hi:PL.fns 51=some KF:=rfl
theorem H8:PL.fns 52=some ML:=rfl
theorem FV:PL.fns 53=some Mg:=rfl
theorem G4:PL.fns 54=some Kx:=rfl
theorem FZ:PL.fns 55=some LW:=rfl
theorem I2:PL.fns 56=some Mi:=rfl
theorem y7:PL.fns 57=some KD:=rfl
theorem G3:PL.fns 58=some J5:=rfl
theorem I5:PL.fns 59=some Kt:=rfl
theorem Ip:PL.fns 60=some K2:=rfl
theorem BF:PL.fns 61=some Mz:=rfl
theorem IY:PL.fns 62=some Ly:=rfl
theorem HW:PL.fns 63=some MC:=rfl
theorem Hd:PL.fns 64=some LP:=rfl
theorem GK:PL.fns 65=some LD:=rfl
theorem IQ:PL.fns 66=some Kg:=rfl
theorem IZ:PL.fns 67=some Lf:=rfl
noncomputable def Prim.pure:Prim->Bool
 |.bop _|.cop _|.not|.s _|.len|.i|.t|.l=>true
 |_=>false
mutual
noncomputable def pe(P:Prog)(ρ:Fm)(H:AH):Ex->Option V
 |.c v=>some v
 |.v i=>(ρ[i]?).join
 |.p mu p args=>if mu=true then none else(NA P ρ H args).bind λvs=>if p.pure=true then(prim P p vs H).map (·.1)else none
 |.and a b=>(pe P ρ H a).bind λx=>(gb x).bind λt=>if t=true then pe P ρ H b else some (.bool false)
 |.or a b=>(pe P ρ H a).bind λx=>(gb x).bind λt=>if t=true then some (.bool true)else pe P ρ H b
 |.cmp2 a o b o' c=>(pe P ρ H a).bind λx=>(pe P ρ H b).bind λy=>(jA o x y H).bind λt=>if t=true then(pe P ρ H c).bind λz=>(jA o' y z H).map V.bool else some (.bool false)
 |_=>none
noncomputable def NA(P:Prog)(ρ:Fm)(H:AH):List Ex->Option (List V)
 |[]=>some []
 |e::es=>(pe P ρ H e).bind λv=>(NA P ρ H es).map (v::·)
end
section
variable {P:Prog}{C:Calls}{ρ:Fm}{H:AH}{X:XE}
theorem xM(h:p.pure=true):Is (prim P p vs H) λr=>prim P p vs H=some (r.1,H):=by refine Is.imp (R:=λr=>prim P p vs H=some r/\r.2=H) (Is.to λr e=>⟨e,?_⟩) λr q=>q.1.trans (congrArg some (congrArg (Prod.mk r.1) q.2));refine Is.of (R:=λr=>r.2=H) ?_ e;cases p<;>first|exact absurd h ai|(rcases vs with _|⟨a,_|⟨b,_|_⟩⟩<;>first|exact trivial|exact Is.self.map λ_ _=>rfl)|exact Is.ite λ_=>rfl
theorem Ny(e:Ex):Is (pe P ρ H e) (Ev P C ρ H X e):=
 Ex.rec (motive_1:=λe=>Is (pe P ρ H e) (Ev P C ρ H X e)) (motive_2:=λes=>Is (NA P ρ H es) λvs=>∀Q:List V->AH->Prop,Q vs H->gc P C es ρ H Q X) (motive_3:=λ_=>True)
  (λv=>am)
  (λi=>Is.to λv (h:(ρ[i]?).join=some v)=>ae (fS (o:=ρ[i]?) (λhi=>fm ((congrArg Option.join hi).symm.trans h)) λo hi=>hi.trans (congrArg some ((congrArg Option.join hi).symm.trans h))))
  (λmu p args ih=>by
   cases mu with
   |true=>exact trivial
   |false=>exact ih.bind λvs h=>Is.ite λhp=>(xM hp).map λr e Q q=>h _ (hE e q))
  (λa b iha ihb=>iha.bind λx h1=>Is.self.bind λt ht=>Is.ite2 (λe=>ihb.imp λv h2 Q q=>h1 _ (by rw [ht];subst e;exact h2 Q q)) λe Q q=>h1 _ (by rw [ht];cases t with|true=>exact absurd rfl e|false=>exact q))
  (λa b iha ihb=>iha.bind λx h1=>Is.self.bind λt ht=>Is.ite2 (λe Q q=>h1 _ (by rw [ht];subst e;exact q)) λe=>ihb.imp λv h2 Q q=>h1 _ (by rw [ht];cases t with|true=>exact absurd rfl e|false=>exact h2 Q q))
  (λa o b o' c iha ihb ihc=>iha.bind λx h1=>ihb.bind λy h2=>Is.self.bind λt ht=>Is.ite2 (λe=>ihc.bind λz h3=>Is.self.map λt' ht' Q q=>h1 _ (h2 _ (by rw [ht];subst e;exact h3 _ (by rw [ht'];exact q)))) λe Q q=>h1 _ (h2 _ (by rw [ht];cases t with|true=>exact absurd rfl e|false=>exact q)))
  (λ_ _ _=>trivial) (λ_ _ _ _ _ _ _=>trivial) (λ_ _ _ _ _ _ _=>trivial) (λ_ _ _ _=>trivial) (λ_ _ _ _ _ _ _=>trivial)
  (λ_ q=>q) (λe es h1 h2=>h1.bind λv h1=>h2.map λvs h2 Q q=>h1 _ (h2 _ q)) trivial (λ_ _=>trivial) e
theorem aR(h:pe P ρ H e=some v):Ev P C ρ H X e v:=(Ny e).of h
end
theorem qH{α:Type}{F:V->AH->(Option V->AH->Prop)->Prop}{ok:AH->Prop}{f g:α->V}(hok:ok H){l:List α}:∀{acc:List V} {Q:List V->AH->Prop},
  (∀a∈l,∀K:Option V->AH->Prop,K (some (g a)) H->F (f a) H K)->Q (acc++l.map g) H->kF F ok (l.map f) acc H Q:=by
 induction l with
 |nil=>exact λ{acc _} _ q=>⟨hok,aC acc▸q⟩
 |cons a l ih=>exact λ{acc _} hF q=>⟨hok,hF a (.head _) _ (ih (λb hb=>hF b (.tail _ hb)) ((an acc [g a] (l.map g)).symm▸q))⟩
theorem xZ{α:Type}{F:V->AH->(Option V->AH->Prop)->Prop}{ok:AH->Prop}{f g:α->V}{p:α->Bool}(hok:ok H){l:List α}:∀{acc:List V} {Q:List V->AH->Prop},
  (∀a∈l,∀K:Option V->AH->Prop,K (if p a=true then some (g a)else none) H->F (f a) H K)->Q (acc++(l.filter p).map g) H->kF F ok (l.map f) acc H Q:=by
 induction l with
 |nil=>exact λ{acc _} _ q=>⟨hok,aC acc▸q⟩
 |cons a l ih=>
  refine λ{acc _} hF q=>⟨hok,hF a (.head _) _ (ih (λb hb=>hF b (.tail _ hb)) ?_)⟩;cases hp:p a with
  |false=>rw [eG (by rw [hp];exact ai)]at q;exact q
  |true=>rw [cR hp]at q;exact(an acc [g a] _).symm▸q
section
variable {P:Prog}{C:Calls}{ρ:Fm}{H:AH}{X:XE}{α:Type}{l:List α}{f g:α->V}{p:α->Bool}{elt it c:Ex}{w:V}
theorem lO(hit:Ev P C ρ H X it w)(hs:pY H w=some (l.map f))(hl:l.length<=aB)(he:∀a∈l,Ev P C (ρ++[some (f a)]) H X elt (g a)):Ev P C ρ H X (.comp false elt it none) (.lst (l.map g)):=λQ q=>hit _ ⟨l.map f,hs,(ak f).symm▸hl,qH hs (λa ha K hK=>he a ha _ hK) (hE rfl q)⟩
theorem jl(hit:Ev P C ρ H X it w)(hs:pY H w=some (l.map f))(hl:l.length<=aB)(hc:∀a∈l,Ev P C (ρ++[some (f a)]) H X c (.bool (p a)))(he:∀a∈l,p a=true->Ev P C (ρ++[some (f a)]) H X elt (g a)):Ev P C ρ H X (.comp false elt it (some c)) (.lst ((l.filter p).map g)):=λQ q=>by
 refine hit _ ⟨l.map f,hs,(ak f).symm▸hl,xZ (p:=p) hs (λa ha K hK=>hc a ha _ ?_) (hE rfl q)⟩;cases hp:p a with
 |true=>rw [hp]at hK;exact he a ha hp _ hK
 |false=>rw [hp]at hK;exact hK
end
section
variable {P:Prog}{C:Calls}{ρ:Fm}{H:AH}{K:KS}{R:QE}{X:XE}{ss body:List St}{rev:Bool}{i:Nat}{e c:Ex}{v:V}{items:List V}
theorem rD(Inv:List V->Fm->AH->Prop)(h:Ev P C ρ H X e v)(hs:∀its ρ' H',Inv its ρ' H'->jB rev H' v=some items)(hl:items.length<=aB)(h0:Inv items ρ H)
  (step:∀x xs ρ' H',Inv (x::xs) ρ' H'->∀K':KS,(∀ρ'' H'',Inv xs ρ'' H''->K' ρ'' H'')->a8 P C body (ρ'.set i (some x)) H' K' R (λ_ _=>False))
  (fin:∀ρ' H',Inv [] ρ' H'->a8 P C ss ρ' H' K R X):a8 P C (.f rev (.inl i) e body::ss) ρ H K R X:=
 h _ ⟨items,hs _ _ _ h0,hl,sh Inv (λx xs ρ' H' hI=>⟨hs _ _ _ hI,step x xs ρ' H' hI⟩) (λρ' H' hI=>⟨hs _ _ _ hI,fin ρ' H' hI⟩) h0⟩
theorem ij{o i e:Ex}(h:cL P C e ρ H (λx H₁=>cL P C o ρ H₁ (λov H₂=>cL P C i ρ H₂ (λiv H₃=>match d8 ov iv x H₃ with|some H'=>a8 P C ss ρ H' K R X|none=>False) X) X) X):a8 P C (.s o i e::ss) ρ H K R X:=h
theorem zC(k:Nat)(h:lE (λρ' H' K₁ K₂=>cL P C c ρ' H' (λv H''=>nT (gb v) λt=>if t then a8 P C body ρ' H'' K₁ R (λ_ _=>False)else K₂ ρ' H'') (λ_ _=>False)) k ρ H (λρ' H'=>a8 P C ss ρ' H' K R X)):a8 P C (.while_ c body::ss) ρ H K R X:=⟨k,h⟩
end
section
variable {P:Prog}{C:Calls}{ρ:Fm}{H:AH}{K:KS}{R:QE}{X:XE}{ss as bs:List St}{c:Ex}
theorem cV(h:Ev P C ρ H X c (.bool true))(k:a8 P C as ρ H (λρ' H'=>a8 P C ss ρ' H' K R X) R X):a8 P C (.ite c as bs::ss) ρ H K R X:=h _ k
theorem bK(h:Ev P C ρ H X c (.bool false))(k:a8 P C bs ρ H (λρ' H'=>a8 P C ss ρ' H' K R X) R X):a8 P C (.ite c as bs::ss) ρ H K R X:=h _ k
end
theorem cf(hf:P.fns f=some fn)(ha:args.length=fn.arity)(w:a8 P (aQ P n) fn.body (args.map some++bO fn.extra none) H (λ_ H'=>Q .none H') Q X):aQ P (n+1) f args H Q X:=by rw [lK,hf];exact⟨ha,w⟩
abbrev Nm:=List Char
abbrev AL(α:Type):=List (Nm×α)
noncomputable def dX{α:Type}(n:Nm):AL α->Option α
 |[]=>none
 |p::l=>if n=p.1 then some p.2 else dX n l
noncomputable def dh{α:Type}(n:Nm)(x:α):AL α->AL α
 |[]=>[(n,x)]
 |p::l=>if n=p.1 then(p.1,x)::l else p::dh n x l
noncomputable def kY{α:Type}(n:Nm):AL α->AL α
 |[]=>[]
 |p::l=>if n=p.1 then l else p::kY n l
section
variable {α:Type}{val:α->V}{n m:Nm}{x:α}{l:AL α}
theorem mJ:fo n (l.map (·.1)) (l.map λp=>val p.2)=(dX n l).map val:=by
 induction l with
 |nil=>rfl
 |cons p l ih=>
  refine(?_:(if n=p.1 then some (val p.2)else fo n _ _)=(if n=p.1 then some p.2 else dX n l).map val);by_cases h:n=p.1
  ·rw [if_pos h,if_pos h];rfl
  ·rw [if_neg h,if_neg h];exact ih
theorem Eb:d9 n (val x) (l.map (·.1)) (l.map λp=>val p.2)=((dh n x l).map (·.1),(dh n x l).map λp=>val p.2):=by
 induction l with
 |nil=>rfl
 |cons p l ih=>
  refine(?_:(if n=p.1 then(p.1::l.map (·.1),val x::l.map λp=>val p.2)else(p.1::(d9 n (val x) _ _).1,val p.2::(d9 n (val x) _ _).2))=((if n=p.1 then(p.1,x)::l else p::dh n x l).map (·.1),(if n=p.1 then(p.1,x)::l else p::dh n x l).map λp=>val p.2));by_cases h:n=p.1
  ·rw [if_pos h,if_pos h];rfl
  ·rw [if_neg h,if_neg h,ih];rfl
theorem Co:kZ n (l.map (·.1)) (l.map λp=>val p.2)=((kY n l).map (·.1),(kY n l).map λp=>val p.2):=by
 induction l with
 |nil=>rfl
 |cons p l ih=>
  refine(?_:(if n=p.1 then(l.map (·.1),l.map λp=>val p.2)else(p.1::(kZ n _ _).1,val p.2::(kZ n _ _).2))=((if n=p.1 then l else p::kY n l).map (·.1),(if n=p.1 then l else p::kY n l).map λp=>val p.2));by_cases h:n=p.1
  ·rw [if_pos h,if_pos h]
  ·rw [if_neg h,if_neg h,ih];rfl
noncomputable def eK(n:Nm)(l:AL α):Bool:=(l.map (·.1)).contains n
theorem eS:eK n l=true↔∃x,(n,x)∈l:=by unfold eK;rw [bh,aK];exact⟨λq=>av q λp h e=>⟨p.2,e▸h⟩,λq=>q.elim λ_ h=>⟨_,h,rfl⟩⟩
theorem bZ(h:dX n l=some x):(n,x)∈l:=by
 induction l with
 |nil=>exact nomatch h
 |cons p l ih=>
  haveI h:(if n=p.1 then some p.2 else dX n l)=some x:=h;by_cases e:n=p.1
  ·rw [if_pos e]at h;exact e▸aj h▸.head _
  ·rw [if_neg e]at h;exact .tail _ (ih h)
theorem gO(h:eK n l=true):∃x,dX n l=some x:=by
 induction l with
 |nil=>exact nomatch h
 |cons p l ih=>
  refine(?_:∃x,(if n=p.1 then some p.2 else dX n l)=some x);by_cases e:n=p.1
  ·rw [if_pos e];exact⟨_,rfl⟩
  ·rw [if_neg e];exact ih (eS.mpr ((eS.mp h).imp λx q=>eC q (λq=>absurd (congrArg nL q) e) id))
theorem ka{p:Nm×α}(h:p∈dh n x l):p=(n,x)\/p∈l:=by
 induction l with
 |nil=>exact .inl (in1 h)
 |cons q l ih=>
  haveI h:p∈(if n=q.1 then(q.1,x)::l else q::dh n x l):=h;by_cases e:n=q.1
  ·rw [if_pos e]at h;exact eC h (λh=>.inl (e▸h)) λh=>.inr (.tail _ h)
  ·rw [if_neg e]at h;exact eC h (λh=>.inr (h▸.head _)) λh=>(ih h).imp id λh=>.tail _ h
theorem ti{p:Nm×α}(h:p∈kY n l):p∈l:=by
 induction l with
 |nil=>exact h
 |cons q l ih=>
  haveI h:p∈(if n=q.1 then l else q::kY n l):=h;by_cases e:n=q.1
  ·rw [if_pos e]at h;exact .tail _ h
  ·rw [if_neg e]at h;exact eC h (λh=>h▸.head _) λh=>.tail _ (ih h)
theorem kT:(dh n x l).map (·.1)=if eK n l=true then l.map (·.1)else l.map (·.1)++[n]:=by
 induction l with
 |nil=>rfl
 |cons q l ih=>
  refine(?_:((if n=q.1 then(q.1,x)::l else q::dh n x l).map (·.1))=_);by_cases e:n=q.1
  ·rw [if_pos e,if_pos (eS.mpr ⟨q.2,e▸.head _⟩)];rfl
  ·rw [if_neg e,fJ,ih,show eK n (q::l)=eK n l from by unfold eK;rw [fJ,ir,beq_eq_false_iff_ne.mpr e,Cb]];by_cases h:eK n l=true
   ·rw [if_pos h,if_pos h];rfl
   ·rw [if_neg h,if_neg h];rfl
theorem mU:(kY n l).map (·.1)=(l.map (·.1)).erase n:=by
 induction l with
 |nil=>rfl
 |cons q l ih=>
  refine(?_:((if n=q.1 then l else q::kY n l).map (·.1))=(q.1::l.map (·.1)).erase n);by_cases e:n=q.1
  ·rw [if_pos e,e,List.erase_cons_head]
  ·rw [if_neg e,List.erase_cons_tail (by rw [beq_iff_eq];exact Ne.symm e),fJ,ih]
theorem ma(h:(l.map (·.1)).Nodup):((dh n x l).map (·.1)).Nodup:=by
 rw [kT];by_cases e:eK n l=true
 ·rw [if_pos e];exact h
 ·rw [if_neg e];exact bj.mpr ⟨h,bk.mpr ⟨nofun,cc⟩,λa ha b hb q=>e (bh.mpr (in1 hb▸q▸ha))⟩
theorem Cp(h:(l.map (·.1)).Nodup):((kY n l).map (·.1)).Nodup:=by rw [mU];exact h.erase n
theorem kC:eK m (dh n x l)=(decide (m=n)||eK m l):=by
 haveI h:eK m (dh n x l)=((dh n x l).map (·.1)).contains m:=rfl;rw [h,kT];by_cases e:eK n l=true
 ·rw [if_pos e];by_cases q:m=n
  ·rw [q,decide_eq_true rfl];exact e
  ·rw [decide_eq_false q];rfl
 ·rw [if_neg e,cr,bh,b9,jF,decide_eq_true_iff];exact⟨λh=>h.elim (λh=>.inr (bh.mpr h)) λh=>.inl (in1 h),λh=>h.elim (λh=>.inr (h▸.head _)) λh=>.inl (bh.mp h)⟩
theorem gP(h:(l.map (·.1)).Nodup):eK m (kY n l)=(!decide (m=n)&&eK m l):=by unfold eK;rw [mU,cr,bh,h.mem_erase_iff,dC,cu,decide_eq_false_iff_not,bh]
theorem kA:dX m (dh n x l)=if m=n then some x else dX m l:=by
 induction l with
 |nil=>rfl
 |cons q l ih=>
  refine(?_:dX m (if n=q.1 then(q.1,x)::l else q::dh n x l)=if m=n then some x else if m=q.1 then some q.2 else dX m l);by_cases e:n=q.1
  ·rw [if_pos e];show(if m=q.1 then some x else dX m l)=_;rw [<-e];by_cases h:m=n
   ·rw [if_pos h,if_pos h]
   ·rw [if_neg h,if_neg h,if_neg h]
  ·rw [if_neg e];show(if m=q.1 then some q.2 else dX m (dh n x l))=_;rw [ih];by_cases h:m=q.1
   ·rw [if_pos h,if_pos h,if_neg λz:m=n=>e (z▸h)]
   ·rw [if_neg h,if_neg h]
end
set_option genCtorIdx false in
inductive Evt where
 |beg (n:Nm)|end_ (n:Nm)|fail (n:Nm)|leave (n:Nm)|sent (n:Nm) (k:Nat) (l:V)|works (n:Nm) (k:Nat)|lost (n:Nm) (k:Nat)
noncomputable def Evt.v:Evt->V
 |.beg n=>.tup [.str ['b','e','g','i','n','s'],.str n]
 |.end_ n=>.tup [.str ['e','n','d','s'],.str n]
 |.fail n=>.tup [.str ['f','a','i','l','s'],.str n]
 |.leave n=>.tup [.str ['l','e','a','v','e','s'],.str n]
 |.sent n k l=>.tup [.str ['s','e','n','t'],.str n,.int k,l]
 |.works n k=>.tup [.str ['w','o','r','k','s'],.str n,.int k]
 |.lost n k=>.tup [.str ['l','o','s','t'],.str n,.int k]
noncomputable def oJ(p:Nat×V):V:=.tup [.int p.1,p.2]
structure Hst where
 pres:AL Unit
 sums:AL Int
 kept:AL (Nat×List Int)
 qu:AL (Nat×List (Nat×V))
 clock:Int
 letters:Nat
 ev:List Evt
 kl:Nat
 own:Nat->Option (Bool×Nm)
structure Ad where
 d:Nat
 i:Nat
 row:Nat
 parts:Nat
 chief:Nat
 pres:Nat
 sums:Nat
 kept:Nat
 qu:Nat
 ev:Nat
 plan:V
 names:List Nm
 partVs:List V
 chk:List Nm
 chv:List V
 G:List (Nat×O)
noncomputable def dO{α:Type}(val:α->V)(l:AL α):O:=.dict (l.map (·.1)) (l.map λp=>val p.2)
noncomputable def hk:List Nm:=[['p','l','a','n'],['r','o','w'],['p','a','r','t','s'],['c','h','i','e','f'],['p','r','e','s','e','n','t'],['s','u','m','s'],['k','e','p','t'],['q','u','e','u','e','s'],['c','l','o','c','k'],['l','e','t','t','e','r','s'],['e','v','e','n','t','s']]
noncomputable def hv(σ:Ad)(S:Hst):List V:=[σ.plan,.ref σ.row,.ref σ.parts,.ref σ.chief,.ref σ.pres,.ref σ.sums,.ref σ.kept,.ref σ.qu,.int S.clock,.int S.letters,.ref σ.ev]
noncomputable def KR(p:Nat×List (Nat×V)):V:=.ref p.1
noncomputable def L3(p:Nat×List Int):V:=.ref p.1
noncomputable def hH(σ:Ad)(S:Hst):List (Nat×O):=
 (σ.d,.ns hk (hv σ S))::(σ.i,.inst 0 σ.d)::(σ.row,.list (σ.names.map V.str))::(σ.parts,.dict σ.names σ.partVs)::(σ.chief,.dict σ.chk σ.chv)::(σ.pres,dO (λ_=>.bool true) S.pres)::(σ.sums,dO V.int S.sums)::
 (σ.kept,dO L3 S.kept)::(σ.qu,dO KR S.qu)::(σ.ev,.list (S.ev.map Evt.v))::σ.G
noncomputable def pP(S:Hst)(n:Nm):Hst:={S with pres:=dh n () S.pres}
noncomputable def pD(S:Hst)(n:Nm):Hst:={S with pres:=kY n S.pres}
noncomputable def pE(S:Hst)(t:Evt):Hst:={S with ev:=S.ev++[t]}
noncomputable def pS(S:Hst)(n:Nm)(i:Int):Hst:={S with sums:=dh n i S.sums}
noncomputable def pK(S:Hst)(n:Nm)(x:Nat×List Int)(f:Nat->Option (Bool×Nm)):Hst:={S with kept:=dh n x S.kept,own:=f}
noncomputable def pQ(S:Hst)(n:Nm)(x:Nat×List (Nat×V))(f:Nat->Option (Bool×Nm)):Hst:={S with qu:=dh n x S.qu,own:=f}
def KP(S:Hst)(H:AH):Prop:=∀p∈S.kept,S.own p.2.1=some (true,p.1)/\H[p.2.1]? =some (.list (p.2.2.map V.int))/\p.2.2.length<=S.kl
def QP(S:Hst)(H:AH):Prop:=∀p∈S.qu,S.own p.2.1=some (false,p.1)/\H[p.2.1]? =some (.list (p.2.2.map oJ))/\p.2.2.length<=S.letters
structure Hs(σ:Ad)(S:Hst)(H:AH):Prop where
 nd:((hH σ S).map (·.1)).Nodup
 fix:∀p∈hH σ S,H[p.1]? =some p.2/\S.own p.1=none
 kp:KP S H
 qp:QP S H
 qn:(S.qu.map (·.1)).Nodup
 pn:(S.pres.map (·.1)).Nodup
 kn:(S.kept.map (·.1)).Nodup
 fr:∀a,H.length<=a->S.own a=none
section
variable {σ:Ad}{S S':Hst}{H:AH}
theorem Hs.get(h:Hs σ S H)(k:Nat)(hk:(hH σ S)[k]? =some p):H[p.1]? =some p.2:=(h.fix p (aN hk)).1
theorem BL{L:List (Nat×O)}{k a:Nat}{o o':O}(nd:(L.map (·.1)).Nodup)(qW:∀p∈L,H[p.1]? =some p.2)(hk:L[k]? =some (a,o)):(L.set k (a,o')).map (·.1)=L.map (·.1)/\∀p∈L.set k (a,o'),(H.set a o')[p.1]? =some p.2:=by
 have h1:(L.map (·.1))[k]? =some a:=by rw [aV,hk];rfl
 have hl:=(af.mp h1).1;refine⟨?_,λp hp=>?_⟩
 ·rw [EB];refine fE λj=>?_;rw [fF];by_cases q:k=j
  ·subst q;rw [if_pos rfl,if_pos hl];exact h1.symm
  ·rw [if_neg q]
 ·refine (cB hp).elim λj hj=>?_;rw [fF]at hj;by_cases q:k=j
  ·subst q;rw [if_pos rfl,if_pos (ak (f:=nL) (as:=L)▸hl)]at hj;haveI hp:=aj hj;subst hp;exact bX (af.mp (qW _ (aN hk))).1
  ·rw [if_neg q]at hj;refine(bv λz=>?_).trans (qW p (aN hj));haveI h2:(L.map (·.1))[j]? =some a:=by rw [aV,hj,z];rfl
   exact q ((gx hl nd).mp (h1.trans h2.symm))
theorem Hs.set'(h:Hs σ S H)(k:Nat){a:Nat}{o o' o'':O}(hk:(hH σ S)[k]? =some (a,o))(e:hH σ' S'=(hH σ S).set k (a,o''))(z:o''=o')(eo:S'.own=S.own)(kp:KP S' H)(qp:QP S' H)(qn:(S'.qu.map (·.1)).Nodup)(pn:(S'.pres.map (·.1)).Nodup)(kn:(S'.kept.map (·.1)).Nodup):Hs σ' S' (H.set a o'):=by
 subst z;have ha:=h.fix _ (aN hk);haveI hne:∀{b:Nat} {x:Bool×Nm},S'.own b=some x->a≠b:=λhb q=>fm (ha.2.symm.trans (eo▸q▸hb));have c:=BL (o':=o'') h.nd (λp hp=>(h.fix p hp).1) hk;rw [<-e]at c;refine⟨c.1▸h.nd,λp hp=>⟨c.2 p hp,?_⟩,λp hp=>?_,λp hp=>?_,qn,pn,kn,λb hb=>eo▸h.fr b (aa (au aU.symm) hb)⟩
 ·haveI z:p.1∈(hH σ S).map (·.1):=c.1▸bq hp;exact av (aK.mp z) λq hq e=>eo▸e▸(h.fix q hq).2
 ·exact ⟨(kp p hp).1,(bv (hne (kp p hp).1)).trans (kp p hp).2.1,(kp p hp).2.2⟩
 ·exact ⟨(qp p hp).1,(bv (hne (qp p hp).1)).trans (qp p hp).2.1,(qp p hp).2.2⟩
theorem Hs.set(h:Hs σ S H)(k:Nat)(hk:(hH σ S)[k]? =some (a,o))(e:hH σ S'=(hH σ S).set k (a,o''))(z:o''=o')(ek:S'.kept=S.kept)(eq:S'.qu=S.qu)(eo:S'.own=S.own)(el:S.kl<=S'.kl/\S.letters<=S'.letters)(pn:(S'.pres.map (·.1)).Nodup):Hs σ S' (H.set a o'):=
 h.set' k hk e z eo (λp hp=>haveI q:=h.kp p (ek▸hp);⟨eo▸q.1,q.2.1,aa q.2.2 el.1⟩) (λp hp=>haveI q:=h.qp p (eq▸hp);⟨eo▸q.1,q.2.1,aa q.2.2 el.2⟩) (eq▸h.qn) pn (ek▸h.kn)
theorem Hs.alloc(h:Hs σ S H)(o:O)(x:Option (Bool×Nm)):Hs σ {S with own:=λa=>if a=H.length then x else S.own a} (H++[o]):=by
 haveI lt:∀{b:Nat} {o:O},H[b]? =some o->(if b=H.length then x else S.own b)=S.own b:=λe=>if_neg λq=>c5 _ (q▸(af.mp e).1);exact⟨h.nd,λp hp=>⟨dt (h.fix p hp).1,(lt (h.fix p hp).1).trans (h.fix p hp).2⟩,λp hp=>⟨(lt (h.kp p hp).2.1).trans (h.kp p hp).1,dt (h.kp p hp).2.1,(h.kp p hp).2.2⟩,
  λp hp=>⟨(lt (h.qp p hp).2.1).trans (h.qp p hp).1,dt (h.qp p hp).2.1,(h.qp p hp).2.2⟩,h.qn,h.pn,h.kn,λb hb=>by rw [ah]at hb;exact(if_neg λe:b=H.length=>Nat.not_succ_le_self H.length (e▸hb)).trans (h.fr b (aa (bf _) hb))⟩
theorem Hs.app(h:Hs σ S H):Hs σ S (H++L):=⟨h.nd,λp hp=>⟨dt (h.fix p hp).1,(h.fix p hp).2⟩,λp hp=>⟨(h.kp p hp).1,dt (h.kp p hp).2.1,(h.kp p hp).2.2⟩,λp hp=>⟨(h.qp p hp).1,dt (h.qp p hp).2.1,(h.qp p hp).2.2⟩,h.qn,h.pn,h.kn,λb hb=>h.fr b (aa (aa (ax _ _) (au ah.symm)) hb)⟩
noncomputable def pL(S:Hst)(n:Nat):Hst:={S with kl:=n}
theorem gy:(H++[o])[H.length]? =some o:=cP
theorem wM:(if H.length=H.length then x else S.own H.length)=x:=if_pos rfl
end
section
variable {P:Prog}{C:Calls}{ρ:Fm}{H:AH}{K:KS}{R:QE}{X:XE}{ss:List St}{σ:Ad}{S:Hst}{e:Ex}{nm n:Nm}{v:V}
noncomputable abbrev qW(nm:Nm):Ex:=.p false (.a nm) [.v 0]
theorem yJ(h:Hs σ S H):gq H (.ref σ.i)=some (σ.d,hk,hv σ S):=by show(H[σ.i]?.bind O.ins).bind _=_;rw [h.get 1 rfl];show(H[σ.d]?.bind O.nms).map _=_;rw [h.get 0 rfl];rfl
theorem c8(h:Hs σ S H)(h0:ρ[0]? =some (some (.ref σ.i)))(e:fo nm hk (hv σ S)=some v):Ev P C ρ H X (qW nm) v:=bY (ae h0) (by refine(?_:((gq H (.ref σ.i)).bind λq=>(fo nm q.2.1 q.2.2).map (·,H))=_);rw [yJ h];exact congrArg (bP (·,H)) e)
theorem lJ(h:Hs σ S H)(hn:hk.contains nm=false):gr H 0 nm (.ref σ.i)=true:=by show(gq H (.ref σ.i)).any _=true;rw [yJ h];show(!hk.contains nm)=true;rw [hn];rfl
theorem dY(h:Hs σ S H)(h0:ρ[0]? =some (some (.ref σ.i)))(hn:hk.contains nm=false)(ha:Ev P C ρ H X a x)(k:C f [.ref σ.i,x] H (λ_ H'=>a8 P C ss ρ H' K R X) X):a8 P C (.e (.m 0 f nm (.v 0) [a])::ss) ρ H K R X:=
 ae (P:=P) (C:=C) (X:=X) h0 (λv H₁=>gr H₁ 0 nm v=true/\gc P C [a] ρ H₁ (λvs H'=>C f (v::vs) H' (λ_ H'=>a8 P C ss ρ H' K R X) X) X) ⟨lJ h hn,ha _ k⟩
theorem l8(h:Hs σ S H)(h0:ρ[0]? =some (some (.ref σ.i)))(hn:hk.contains nm=false)(k:C f [.ref σ.i] H (λ_ H'=>a8 P C ss ρ H' K R X) X):a8 P C (.e (.m 0 f nm (.v 0) [])::ss) ρ H K R X:=
 ae (P:=P) (C:=C) (X:=X) h0 (λv H₁=>gr H₁ 0 nm v=true/\gc P C [] ρ H₁ (λvs H'=>C f (v::vs) H' (λ_ H'=>a8 P C ss ρ H' K R X) X) X) ⟨lJ h hn,k⟩
theorem HH(h:H[i]? =some (.dict ks vs)):ly H (.ref i) .dict=true:=by show(H[i]?.bind O.dct).isSome=_;rw [h];rfl
theorem gp{α:Type}{l:List α}{a:α}:l.length<=(l++[a]).length:=by rw [ah];exact ax _ _
theorem ny(h:Hs σ S H)(h0:ρ[0]? =some (some (.ref σ.i)))(t:Evt)(he:Ev P C ρ H X e t.v)(hl:S.ev.length<=aB)(k:∀H',Hs σ (pE S t) H'->a8 P C ss ρ H' K R X) :
  a8 P C (.e (.n .list false .append (qW ['e','v','e','n','t','s']) [e])::ss) ρ H K R X:=
 dJ (c8 h h0 rfl _ ⟨fb (h.get 9 rfl),he _ (hE (fh (h.get 9 rfl) (aa (au (ak _)) hl)) (k _ (h.set 9 rfl rfl (congrArg O.list aJ) rfl rfl rfl ⟨aM _,aM _⟩ h.pn)))⟩)
theorem kt{α:Type}{val:α->V}{l:AL α}{x:α}(h:H[a]? =some (dO val l))(hl:l.length<=aB):d8 (.ref a) (.str n) (val x) H=some (H.set a (dO val (dh n x l))):=by show BW a n (val x) H H[a]? =_;rw [h];show(if(l.map (·.1)).length<=aB then some (H.set a (.dict (d9 n (val x) _ _).1 (d9 n (val x) _ _).2))else none)=_;rw [if_pos (aa (au (ak _)) hl),Eb];rfl
theorem BN{α:Type}{val:α->V}{l:AL α}{x:α}(h:Hs σ S H)(h0:ρ[0]? =some (some (.ref σ.i)))(ea:fo nm hk (hv σ S)=some (.ref a))(hd:H[a]? =some (dO val l))(he:Ev P C ρ H X e (val x))(hi:Ev P C ρ H X ei (.str n))(hl:l.length<=aB)(k:a8 P C ss ρ (H.set a (dO val (dh n x l))) K R X) :
  a8 P C (.s (qW nm) ei e::ss) ρ H K R X:=ij (he _ (c8 h h0 ea _ (hi _ (by rw [kt hd hl];exact k))))
theorem wm(h:Hs σ S H)(h0:ρ[0]? =some (some (.ref σ.i)))(hi:Ev P C ρ H X e (.str n))(hl:S.pres.length<=aB)(k:∀H',Hs σ (pP S n) H'->a8 P C ss ρ H' K R X) :
  a8 P C (.s (qW ['p','r','e','s','e','n','t']) e (.c (.bool true))::ss) ρ H K R X:=
 BN (x:=()) h h0 rfl (h.get 5 rfl) am hi hl (k _ (h.set 5 rfl rfl rfl rfl rfl rfl ⟨aM _,aM _⟩ (ma h.pn)))
theorem wF(h:Hs σ S H)(h0:ρ[0]? =some (some (.ref σ.i)))(he:Ev P C ρ H X e (.int i))(hi:Ev P C ρ H X ei (.str n))(hl:S.sums.length<=aB)(k:∀H',Hs σ (pS S n i) H'->a8 P C ss ρ H' K R X) :
  a8 P C (.s (qW ['s','u','m','s']) ei e::ss) ρ H K R X:=
 BN h h0 rfl (h.get 6 rfl) he hi hl (k _ (h.set 6 rfl rfl rfl rfl rfl rfl ⟨aM _,aM _⟩ h.pn))
theorem rk(h:Hs σ S H)(h0:ρ[0]? =some (some (.ref σ.i)))(hi:Ev P C ρ H X e (.str n))(hn:eK n S.pres=true)(hl:S.pres.length<=aB)(k:∀H',Hs σ (pD S n) H'->a8 P C ss ρ H' K R X) :
  a8 P C (.e (.n .dict false .dpop (qW ['p','r','e','s','e','n','t']) [e])::ss) ρ H K R X:=by
 haveI hp:=h.get 5 rfl;obtain⟨x,hx⟩:=gO hn;refine dJ (c8 h h0 rfl _ ⟨HH hp,hi _ (hE (v:=.bool true) (H':=H.set σ.pres (dO (λ_=>.bool true) (kY n S.pres))) ?_ (k _ (h.set 5 rfl rfl rfl rfl rfl rfl ⟨aM _,aM _⟩ (Cp h.pn))))⟩);refine(?_:((H[σ.pres]?.bind O.dct).bind _).bind _=_);rw [hp];show(if(S.pres.map (·.1)).length<=aB then(fo n _ _).map λx=>(x,H.set σ.pres (.dict (kZ n _ _).1 (kZ n _ _).2))else none)=_;rw [if_pos (aa (au (ak _)) hl),mJ (val:=λ_=>V.bool true),hx,Co (val:=λ_=>V.bool true)];rfl
theorem jS(q:Q (.ref H.length) (H++[.list []])):cL P C (.p true .l []) ρ H Q X:=show hM (be P true .l [] H) Q from hE (ky (aY _)) q
theorem C9(h:Hs σ S H)(h0:ρ[0]? =some (some (.ref σ.i)))(hi:∀H,Ev P C ρ H X e (.str n))(hl:S.kept.length<=aB)(k:∀r f H',Hs σ (pK S n (r,[]) f) H'->a8 P C ss ρ H' K R X) :
  a8 P C (.s (qW ['k','e','p','t']) e (.p true .l [])::ss) ρ H K R X:=by
 haveI h1:=h.alloc (.list []) (some (true,n));refine ij (jS (c8 h1 h0 rfl _ (hi _ _ ?_)));rw [show V.ref H.length=L3 (H.length,[])from rfl,kt (h1.get 7 rfl) hl];exact k H.length _ _ (h1.set' 7 rfl rfl rfl rfl (λp hp=>(ka hp).elim (λq=>q▸⟨wM,gy,aY _⟩) (h1.kp p)) h1.qp h.qn h.pn (ma h.kn))
theorem yK(h:Hs σ S H)(h0:ρ[0]? =some (some (.ref σ.i)))(hi:∀H,Ev P C ρ H X e (.str n))(hl:S.qu.length<=aB)(k:∀r f H',Hs σ (pQ S n (r,[]) f) H'->a8 P C ss ρ H' K R X) :
  a8 P C (.s (qW ['q','u','e','u','e','s']) e (.p true .l [])::ss) ρ H K R X:=by
 haveI h1:=h.alloc (.list []) (some (false,n));refine ij (jS (c8 h1 h0 rfl _ (hi _ _ ?_)));rw [show V.ref H.length=KR (H.length,[])from rfl,kt (h1.get 8 rfl) hl];exact k H.length _ _ (h1.set' 8 rfl rfl rfl rfl h1.kp (λp hp=>(ka hp).elim (λq=>q▸⟨wM,gy,aY _⟩) (h1.qp p)) (ma h.qn) h.pn h.kn)
end
noncomputable def wk:List Char:=['w','o','r','k','e','r']
noncomputable def wd:List Char:=['w','a','r','d','e','n']
noncomputable def j8:List (List Char):=[['a','l','w','a','y','s'],['f','a','u','l','t','e','d'],['n','e','v','e','r']]
noncomputable def fT:List (List Char):=[['o','n','e'],['r','e','s','t'],['a','l','l']]
noncomputable def vm:List Char:=['a','b','c','d','e','f','g','h','i','j','k','l','m','n','o','p','q','r','s','t','u','v','w','x','y','z']
def o0(s:List Char):Prop:=1<=s.length/\s.length<=8/\∀c∈s,c∈vm
noncomputable abbrev nE(nm md:Nm):V:=.tup [.str wk,.str nm,.str md]
noncomputable abbrev j6(nm r:Nm)(m s:Int)(ps:List V):V:=.tup [.str wd,.str nm,.str r,.int m,.int s,.tup ps]
noncomputable def J3:List V->Nm
 |_::v::_=>v.txt.getD []
 |_=>[]
noncomputable def L6:List V->List V
 |[_,_,_,_,_,v]=>v.tpl.getD []
 |_=>[]
noncomputable def ao(v:V):Nm:=J3 (v.tpl.getD [])
noncomputable def kids(v:V):List V:=L6 (v.tpl.getD [])
noncomputable def nms:Nat->V->List Nm
 |0,_=>[]
 |k+1,v=>ao v::(kids v).flatMap (nms k)
structure PI where
 isW:Nm->Option Bool
 ch:Nm->Option Nm
 al:Nm->Bool
 nv:Nm->Bool
 sp:Nm->Int
 mn:Nm->Int
 sb:Nm->List Nm
 kd:Nm->List Nm
 ru:Nm->Nm
inductive Pt(π:PI):Nat->V->Prop
 |wk {k:Nat} {nm md:Nm}:o0 nm->md∈j8->π.isW nm=some false->(∀c,π.ch c≠some nm)->Pt π (k+1) (nE nm md)
 |wd {k:Nat} {nm r:Nm} {m s:Int} {ps:List V}:o0 nm->r∈fT->(0<=m/\m<=1000000000)->(1<=s/\s<=1000000000)->(1<=ps.length/\ps.length<=8)->π.isW nm=some true->(∀c,π.ch c=some nm↔∃p∈ps,ao p=c)->(∀p∈ps,Pt π k p)->Pt π (k+1) (j6 nm r m s ps)
noncomputable def hr(h:Nm->Bool):Evt->Nm->Bool
 |.beg n=>λm=>decide (m=n)||h m
 |.end_ n|.fail n|.leave n=>λm=>!decide (m=n)&&h m
 |_=>h
noncomputable def Evt.nm:Evt->Nm
 |.beg n|.end_ n|.fail n|.leave n|.sent n _ _|.works n _|.lost n _=>n
def Evt.plain(π:PI):Evt->Prop
 |.beg n|.end_ n|.fail n|.leave n=>(π.isW n).isSome=true
 |_=>False
noncomputable abbrev here(S:Hst):Nm->Bool:=λm=>eK m S.pres
noncomputable def ii(S:Hst)(c:Nm):List Int:=((dX c S.kept).map (·.2)).getD []
noncomputable def kr(c:Nm)(l:List Int):Evt->List Int
 |.beg n=>if n=c then []else l
 |_=>l
theorem wz:ii (pK S n x f) c=if n=c then x.2 else ii S c:=by
 show((dX c (dh n x S.kept)).map (·.2)).getD []=_;rw [kA];by_cases e:c=n
 ·rw [if_pos e,if_pos e.symm];rfl
 ·rw [if_neg e,if_neg λq=>e q.symm];rfl
noncomputable def m5(S:Hst)(c:Nm):Int:=(dX c S.sums).getD 0
noncomputable def nN(c:Nm)(s:Int):Evt->Int
 |.beg n=>if n=c then 0 else s
 |_=>s
theorem vY:m5 (pS S n i) c=if n=c then i else m5 S c:=by
 show(dX c (dh n i S.sums)).getD 0=_;rw [kA];by_cases e:c=n
 ·rw [if_pos e,if_pos e.symm];rfl
 ·rw [if_neg e,if_neg λq=>e q.symm];rfl
structure Sp(π:PI)(k0:Nm->List Int)(S S':Hst)(es:List Evt):Prop where
 ev:S'.ev=S.ev++es
 qu:S'.qu=S.qu
 ck:S'.clock=S.clock
 lt:S'.letters=S.letters
 kl:S'.kl<=S.kl+es.length
 hr:here S'=es.foldl hr (here S)
 nm:∀e∈es,e.plain π
 kp:∀c,ii S' c=es.foldl (kr c) (k0 c)
 sm:∀c,m5 S' c=es.foldl (nN c) (m5 S c)
structure Gd(π:PI)(S:Hst):Prop where
 kw:∀m,eK m S.pres=true->π.isW m=some true->eK m S.kept=true
 ks:∀m,eK m S.pres=true->π.isW m=some false->eK m S.sums=true
 lp:S.pres.length<=S.ev.length
 lk:S.kept.length<=S.ev.length
 ls:S.sums.length<=S.ev.length
 ll:S.kl<=S.ev.length
 ko:∀m,eK m S.kept=true->π.isW m=some true
 so:∀m,eK m S.sums=true->π.isW m=some false
theorem KM(g:Gd π S)(hw:π.isW n=some true):m5 S c=nN c (m5 S c) (.beg n):=by
 show _=if n=c then 0 else m5 S c;by_cases e:n=c
 ·rw [if_pos e];unfold m5;refine fS (o:=dX c S.sums) (λh=>by rw [h];rfl) λx h=>?_;exact absurd (aj ((e▸g.so c (eS.mpr ⟨x,bZ h⟩)).symm.trans hw)) ai
 ·rw [if_neg e]
theorem Ld(g:Gd π S)(hw:π.isW n=some false):ii S c=kr c (ii S c) (.beg n):=by
 show _=if n=c then []else ii S c;by_cases e:n=c
 ·rw [if_pos e];unfold ii;refine fS (o:=dX c S.kept) (λh=>by rw [h];rfl) λx h=>?_;exact absurd (aj (hw.symm.trans (e▸g.ko c (eS.mpr ⟨x,bZ h⟩)))) ai
 ·rw [if_neg e]
theorem Sp.refl(S:Hst):Sp π (ii S) S S []:=⟨(aC _).symm,rfl,rfl,rfl,aM _,rfl,qA,λ_=>rfl,λ_=>rfl⟩
theorem Sp.trans(a:Sp π k0 S S₁ es)(b:Sp π (ii S₁) S₁ S₂ es'):Sp π k0 S S₂ (es++es'):=
 ⟨by rw [b.ev,a.ev,an],b.qu.trans a.qu,b.ck.trans a.ck,b.lt.trans a.lt,by rw [ah,<-bD];exact aa b.kl (aZ a.kl _),by rw [b.hr,a.hr,bw],dk a.nm b.nm,λc=>by rw [b.kp c,a.kp c,bw],λc=>by rw [b.sm c,a.sm c,bw]⟩
theorem jv{α:Type}{x:α}{l:AL α}:(dh n x l).length<=l.length+1:=by
 rw [<-ak (f:=(·.1)),kT];by_cases h:eK n l=true
 ·rw [if_pos h,ak];exact bf _
 ·rw [if_neg h,ah,ak];exact aM _
theorem jw{α:Type}{l:List α}{a:α}:l.length+1<=(l++[a]).length:=au (ah (as:=l) (bs:=[a])).symm
section
variable {π:PI}{S:Hst}{n:Nm}
theorem oX{α:Type}{x:α}{l:AL α}(h:eK m l=true):eK m (dh n x l)=true:=by rw [kC,h,mM]
theorem sx{α:Type}{x:α}{l:AL α}:eK n (dh n x l)=true:=by rw [kC,decide_eq_true rfl];rfl
theorem iB{α:Type}{x:α}{l:AL α}(h:eK m (dh n x l)=true):m=n\/eK m l=true:=by rw [kC,jF,decide_eq_true_iff]at h;exact h
theorem Oc(g:Gd π S)(hw:π.isW n=some false):Gd π (pS (pE (pP S n) (.beg n)) n 0) where
 kw:=λm hm hW=>(iB hm).elim (λe=>absurd (aj (hw.symm.trans ((congrArg π.isW e).symm.trans hW))) ai) λh=>g.kw m h hW
 ks:=λm hm hW=>(iB hm).elim (λe=>e▸sx) λh=>oX (g.ks m h hW)
 lp:=aa jv (aa (aA g.lp) jw)
 lk:=aa g.lk gp
 ls:=aa jv (aa (aA g.ls) jw)
 ll:=aa g.ll gp
 ko:=g.ko
 so:=λm hm=>(iB hm).elim (λe=>e▸hw) (g.so m)
theorem Nn(g:Gd π S)(hw:π.isW n=some true):Gd π (pK (pE (pP S n) (.beg n)) n r f) where
 kw:=λm hm hW=>(iB hm).elim (λe=>e▸sx) λh=>oX (g.kw m h hW)
 ks:=λm hm hW=>(iB hm).elim (λe=>absurd (aj (hW.symm.trans ((congrArg π.isW e).trans hw))) ai) λh=>g.ks m h hW
 lp:=aa jv (aa (aA g.lp) jw)
 lk:=aa jv (aa (aA g.lk) jw)
 ls:=aa g.ls gp
 ll:=aa g.ll gp
 ko:=λm hm=>(iB hm).elim (λe=>e▸hw) (g.ko m)
 so:=g.so
end
def BI(π:PI)(σ:Ad)(S:Hst)(v:V)(k:Nat)(ps:List V)(total:List Evt)(its:List V)(ρ:Fm)(H:AH):Prop:=
 ∃o S' es,ρ=[some (.ref σ.i),some v,o]/\Hs σ S' H/\Gd π S'/\Sp π (ii S) S S' es/\es++(its.flatMap (nms k)).map .beg=total/\∀p∈its,p∈ps
theorem N9(sp:Sp π k0 S S' es)(he:es++es'=total)(hb:S.ev.length+total.length<=b):S'.ev.length+es'.length<=b:=by rw [sp.ev,ah,bD,<-ah,he];exact hb
theorem K6(h:m+(((x::xs).flatMap (nms k)).map Evt.beg).length<=b):m+(nms k x).length<=b:=by rw [ak,ce,ah]at h;exact aa (aH (ax _ _) _) h
theorem vL(hP:Pt π k v):∀{n:Nat} {S:Hst} {H:AH} {Q:QE} {X:XE},Hs σ S H->Gd π S->S.ev.length+(nms k v).length<=900000->(∀S' H',Hs σ S' H'->Gd π S'->Sp π (ii S) S S' ((nms k v).map .beg)->Q .none H')->aQ PL (n+k) 49 [.ref σ.i,v] H Q X:=by
 induction hP with
 |@wk k nm md h1 h2 h3 h4=>intro n S H Q X h g hb q;have hs:S.ev.length<=aB:=aa (ax _ _) (aa hb (by decide));exact cf y5 rfl (wm h rfl (aR rfl) (aa g.lp hs) λH1 h1=>ny h1 rfl (.beg nm) (aR rfl) hs λH2 h2=>cV (aR rfl) (wF h2 rfl (aR rfl) (aR rfl) (aa g.ls hs) λH3 h5=>q _ _ h5 (Oc g h3) ⟨rfl,rfl,rfl,rfl,bf _,funext λm=>kC,dz (congrArg c6 h3),λc=>show ii S c=kr c (ii S c) (.beg nm)from Ld g h3,λ_=>vY⟩))
 |@wd k nm rl m s ps h1 h2 h3 h4 h5 h6 h7 _ ih=>
  intro n S H Q X h g hb q;have hs:S.ev.length<=aB:=aa (ax _ _) (aa hb (by decide));refine cf y5 rfl (wm h rfl (aR rfl) (aa g.lp hs) λH1 h1=>ny h1 rfl (.beg nm) (aR rfl) hs λH2 h2=>bK (aR rfl) (C9 h2 rfl (λ_=>aR rfl) (aa g.lk hs) λr f H3 h8=>?_));refine rD (BI π σ S (j6 nm rl m s ps) k ps ((nms (k+1) (j6 nm rl m s ps)).map .beg)) (v:=.tup ps) (items:=ps) (aR rfl) (λ_ _ _ _=>rfl) (aa h5.2 (by decide)) ⟨none,_,[.beg nm],rfl,h8,Nn g h6,⟨rfl,rfl,rfl,rfl,bf _,funext λm=>kC,dz (congrArg c6 h6),λ_=>wz,λc=>show m5 S c=nN c (m5 S c) (.beg nm)from KM g h6⟩,rfl,λ_ h=>h⟩
   (λx xs ρ' H' hI K' hK=>g9 hI λo S' es e hS gS sp he hp=>?_) λρ' H' hI=>g9 hI λo S' es _ hS gS sp he _=>q _ _ hS gS (he▸(aC es).symm▸sp)
  subst e;exact dY hS rfl rfl (ae rfl) (ih x (hp x (.head _)) hS gS (K6 (N9 sp he ((ak _).symm▸hb))) λS'' H'' h' g' sp'=>hK _ _ ⟨_,S'',_,rfl,h',g',sp.trans sp',by rw [<-he,an,<-aJ];rfl,λp hp'=>hp p (.tail _ hp')⟩)
theorem AI{α0 α1 α2 α3:Type}{A0 A1 A2 A3 A4 A5 A6:α0->α1->α2->α3->Prop}{G:Prop}(h:∃a0 a1 a2 a3,A0 a0 a1 a2 a3/\A1 a0 a1 a2 a3/\A2 a0 a1 a2 a3/\A3 a0 a1 a2 a3/\A4 a0 a1 a2 a3/\A5 a0 a1 a2 a3/\A6 a0 a1 a2 a3)(k:∀a0 a1 a2 a3,A0 a0 a1 a2 a3->A1 a0 a1 a2 a3->A2 a0 a1 a2 a3->A3 a0 a1 a2 a3->A4 a0 a1 a2 a3->A5 a0 a1 a2 a3->A6 a0 a1 a2 a3->G):G:=h.elim λa0 h=>h.elim λa1 h=>h.elim λa2 h=>h.elim λa3 h=>k a0 a1 a2 a3 h.1 h.2.1 h.2.2.1 h.2.2.2.1 h.2.2.2.2.1 h.2.2.2.2.2.1 h.2.2.2.2.2.2
def GW(π:PI)(x:Nm)(h:Nm->Bool):Prop:=∀c m,π.ch c=some m->m≠x->h c=true->h m=true
noncomputable def sN(ns:List Nm)(h:Nm->Bool):Nm->Bool:=λm=>!ns.contains m&&h m
section
variable {π:PI}{k:Nat}{v:V}{x:Nm}{h:Nm->Bool}
theorem i7:sN ns h m=true↔m∉ns/\h m=true:=by show(!ns.contains m&&h m)=true↔_;rw [dC,cu,<-Bool.not_eq_true,bh]
theorem vG:sN b (sN a h)=sN (a++b) h:=funext λm=>by refine(?_:(!b.contains m&&(!a.contains m&&h m))=(!(a++b).contains m&&h m));rw [List.contains_append];cases a.contains m<;>cases b.contains m<;>rfl
theorem C2(q:∀m∈ns,h m=false):sN ns h=h:=funext λm=>by rw [cr,i7];exact⟨λq=>q.2,λr=>⟨λhm=>ai ((q m hm).symm.trans r),r⟩⟩
theorem xP(p:a.Perm b):sN a h=sN b h:=funext λm=>by refine(?_:(!a.contains m&&h m)=(!b.contains m&&h m));rw [show a.contains m=b.contains m from by rw [cr,bh,bh];exact p.mem_iff]
theorem vC(hP:Pt π k v):ao v∈nms k v:=by
 induction hP with
 |wk=>exact .head _
 |wd=>exact .head _
theorem E6(hP:Pt π k v):∀{m c:Nm},m∈nms k v->π.ch c=some m->c∈nms k v:=by
 induction hP with
 |wk _ _ _ h4=>exact λhm hc=>absurd (in1 hm▸hc) (h4 _)
 |@wd k nm _ _ _ ps _ _ _ _ _ _ h7 h8 ih=>exact λ{m c} hm hc=>.tail _ (eC hm (λe:m=nm=>av ((h7 c).mp (e▸hc)) λp hp (q:ao p=c)=>a9.mpr ⟨p,hp,q▸vC (h8 p hp)⟩) λhm=>av (a9.mp hm) λp hp hm=>a9.mpr ⟨p,hp,ih p hp hm hc⟩)
theorem yQ(hP:Pt π k v)(up:GW π x h):x∉nms k v->h (ao v)=false->∀m∈nms k v,h m=false:=by
 induction hP with
 |wk=>exact λ_ h0=>dz h0
 |@wd k nm _ _ _ ps _ _ _ _ _ _ h7 h8 ih=>intro hx h0;refine d0 h0 λm hm=>av (a9.mp hm) λp hp hm=>ih p hp (λq=>hx (.tail _ (a9.mpr ⟨p,hp,q⟩))) (dm.mpr λq=>?_) m hm;exact ai (h0.symm.trans (up _ _ ((h7 _).mpr ⟨p,hp,rfl⟩) (λe=>hx (e▸.head _)) q))
theorem Ht(hP:Pt π k v)(up:GW π x h):GW π x (sN (nms k v) h):=λc m hc hx hh=>i7.mpr ⟨λhm=>(i7.mp hh).1 (E6 hP hm hc),up c m hc hx (i7.mp hh).2⟩
end
theorem BQ{α:Type}{l:AL α}:(kY n l).length<=l.length:=by rw [<-ak (f:=(·.1)),mU,<-ak (f:=(·.1)) (as:=l)];exact List.length_erase_le
noncomputable def eE(h:Nm->Bool)(ns:List Nm):List Evt:=(ns.reverse.filter h).map .end_
section
variable {h:Nm->Bool}{a b:List Nm}
theorem um:eE h (a++b)=eE h b++eE h a:=by unfold eE;rw [JC,fZ,aJ]
theorem og:(eE h a).length<=a.length:=by unfold eE;rw [ak];exact aa (dq _ _) (au b8)
theorem zR(q:∀m∈a,h m=false):eE h a=[]:=by unfold eE;rw [Ez.mpr λm hm=>by rw [q m (dD.mp hm)];exact ai];rfl
theorem AJ(q:∀m∈a,h' m=h m):eE h' a=eE h a:=by unfold eE;exact congrArg (jp Evt.end_) (r6 λm hm=>q m (dD.mp hm))
theorem Kc:(∀c l,(eE h a).foldl (kr c) l=l)/\∀c s,(eE h a).foldl (nN c) s=s:=by
 unfold eE
 induction a.reverse.filter h with
 |nil=>exact⟨λ_ _=>rfl,λ_ _=>rfl⟩
 |cons x l ih=>exact ih
end
def GZ(π:PI)(σ:Ad)(k:Nat)(v:V):Prop:=∀{n:Nat} {S:Hst} {H:AH} {Q:QE} {X:XE} (x:Nm),x∉nms k v->Hs σ S H->Gd π S->GW π x (here S)->here S (ao v)=true->S.ev.length+(nms k v).length<=900000->
 (∀S' H',Hs σ S' H'->Gd π S'->Sp π (ii S) S S' (eE (here S) (nms k v))->here S'=sN (nms k v) (here S)->Q .none H')->aQ PL (n+2*k) 51 [.ref σ.i,v] H Q X
section
variable {P:Prog}{C:Calls}{ρ:Fm}{H:AH}{X:XE}{π:PI}{σ:Ad}{S:Hst}{k i:Nat}{v:V}{e:Ex}{n:Nm}
theorem vN(hP:Pt π k v):be P false .i [v,.int 1] H=some (.str (ao v),H):=by
 induction hP with
 |wk=>exact rfl
 |wd=>exact rfl
theorem li(hP:Pt π k v)(h:ρ[i]? =some (some v)):Ev P C ρ H X (.p false .i [.v i,.c (.int 1)]) (.str (ao v)):=aq (ae h) am (vN hP)
theorem t8(h:H[a]? =some (.dict ks vs)):be P false (.cop .in_) [.str n,.ref a] H=some (.bool (ks.contains n),H):=by show((M2 H (.str n) (.ref a) (H[a]?.bind O.lst))).map _=_;rw [h];show((H[a]?.bind O.dct).bind _).map _=_;rw [h];rfl
theorem mc(hs:Hs σ S H)(h0:ρ[0]? =some (some (.ref σ.i)))(he:Ev P C ρ H X e (.str n)):Ev P C ρ H X (.p false (.cop .in_) [e,qW ['p','r','e','s','e','n','t']]) (.bool (here S n)):=aq he (c8 hs h0 rfl) (t8 (hs.get 5 rfl))
end
def EI6(π:PI)(σ:Ad)(S:Hst)(v:V)(k:Nat)(x:Nm)(ps:List V)(its:List V)(ρ:Fm)(H:AH):Prop:=
 ∃o S' dn,ρ=[some (.ref σ.i),some v,o]/\(Hs σ S' H/\Gd π S')/\Sp π (ii S) S S' (eE (here S) (dn.reverse.flatMap (nms k)))/\ps=dn++its/\here S'=sN (dn.flatMap (nms k)) (here S)/\GW π x (here S')
def DV(π:PI)(σ:Ad)(k:Nat)(v:V):Prop:=∀{n:Nat} {S:Hst} {H:AH} {Q:QE} {X:XE} (x:Nm),x∉(kids v).flatMap (nms k)->((kids v).flatMap (nms k)).Nodup->Hs σ S H->Gd π S->GW π x (here S)->S.ev.length+((kids v).flatMap (nms k)).length<=900000->
 (∀S' H',Hs σ S' H'->Gd π S'->Sp π (ii S) S S' (eE (here S) ((kids v).flatMap (nms k)))->here S'=sN ((kids v).flatMap (nms k)) (here S)->GW π x (here S')->Q .none H')->aQ PL (n+2*k+1) 50 [.ref σ.i,v] H Q X
theorem zd:DV π σ k (nE nm md):=λ{_ S H _ _} _ _ _ h g up _ q=>cf BU rfl (bK (aR rfl) (q S H h g (Sp.refl S) rfl up))
theorem zV(h5:ps.length<=8)(h8:∀p∈ps,Pt π k p)(ih:∀p∈ps,GZ π σ k p):DV π σ k (j6 nm rl m s ps):=λ{n S H Q X} x hx hnd h g up hb q=>by
 have pm:(ps.reverse.flatMap (nms k)).Perm (ps.flatMap (nms k)):=(kX ps).flatMap_right _;have hnd:(ps.reverse.flatMap (nms k)).Nodup:=pm.nodup_iff.mpr hnd;refine cf BU rfl (cV (aR rfl) ?_);refine rD (EI6 π σ S (j6 nm rl m s ps) k x ps.reverse) (v:=.tup ps) (items:=ps.reverse) (aR rfl) (λ_ _ _ _=>rfl) (aa (au b8) (aa h5 (by decide))) ⟨none,S,[],rfl,⟨h,g⟩,Sp.refl S,rfl,rfl,up⟩
  (λp xs ρ' H' hI K' hK=>g9 hI λo S' dn e hS sp hd hh hu=>?_) λρ' H' hI=>g9 hI λo S' dn _ hS sp hd hh hu=>?_
 ·subst e;have hm:p∈ps:=dD.mp (hd▸az dn (.head _));haveI hpx:x∉nms k p:=λq=>hx (a9.mpr ⟨p,hm,q⟩);have ed:(dn++[p]).flatMap (nms k)=dn.flatMap (nms k)++nms k p:=by rw [bu,ce,i6,aC]
  have er:(dn++[p]).reverse.flatMap (nms k)=nms k p++dn.reverse.flatMap (nms k):=by rw [JC];exact ce
  have ec:ps.reverse=(dn++[p])++xs:=hd.trans (an dn [p] xs).symm;haveI ln:(eE (here S) (dn.reverse.flatMap (nms k))).length+(nms k p).length<=(ps.flatMap (nms k)).length:=by rw [<-pm.length_eq,ec,bu,ed,ah,ah];exact aa (aZ (aa og (au ((kX dn).flatMap_right _).length_eq)) _) (ax _ _)
  refine cU (mc hS.1 rfl (li (h8 p hm) rfl)) (λhp=>?_) λhp=>?_
  ·refine dY hS.1 rfl rfl (ae rfl) (ih p hm x hpx hS.1 hS.2 hu hp ?_ λS'' H'' hS' gS' sp' hh'=>hK _ _ ⟨_,S'',dn++[p],rfl,⟨hS',gS'⟩,?_,ec,?_,hh'▸Ht (h8 p hm) hu⟩)
   ·rw [sp.ev,ah,bD];exact aa (aH ln _) hb
   ·haveI e:eE (here S') (nms k p)=eE (here S) (nms k p):=AJ λm hm=>by rw [hh];refine cr.mpr ⟨λz=>(i7.mp z).2,λz=>i7.mpr ⟨λy=>?_,z⟩⟩;rw [ec,bu,ed]at hnd;exact(bj.mp (bj.mp hnd).1).2.2 m y m hm rfl
    rw [er,um,<-e];exact sp.trans sp'
   ·rw [hh',hh,vG,ed]
  ·haveI off:=yQ (h8 p hm) hu hpx hp;refine hK _ _ ⟨_,S',dn++[p],rfl,hS,?_,ec,?_,hu⟩
   ·haveI e:eE (here S) (nms k p)=[]:=zR λm hm=>by have y:=off m hm;rw [hh]at y;refine dm.mpr λz=>ai (y.symm.trans (i7.mpr ⟨λw=>?_,z⟩));rw [ec,bu,ed]at hnd;exact(bj.mp (bj.mp hnd).1).2.2 m w m hm rfl
    rw [er,um,e,aC];exact sp
   ·rw [ed,<-vG,<-hh,C2 off]
 ·haveI e:dn=ps.reverse:=((aC dn).symm.trans hd.symm);subst e;rw [List.reverse_reverse]at sp;exact q S' H' hS.1 hS.2 sp (hh.trans (xP pm)) hu
theorem vf(g:Gd π S):Gd π (pE (pD S n) t) where
 kw:=λm hm=>g.kw m (eS.mpr ((eS.mp hm).imp λ_ h=>ti h))
 ks:=λm hm=>g.ks m (eS.mpr ((eS.mp hm).imp λ_ h=>ti h))
 lp:=aa BQ (aa g.lp gp)
 lk:=aa g.lk gp
 ls:=aa g.ls gp
 ll:=aa g.ll gp
 ko:=g.ko
 so:=g.so
theorem wH{a b:Nm}:(a==b)=decide (a=b):=by rw [cr,beq_iff_eq,decide_eq_true_iff]
theorem fx:[a,b].length<=aB:=show 2<=aB by decide
theorem EM(hP:Pt π k v):(π.isW (ao v)).isSome=true:=by
 induction hP with
 |wk _ _ h=>exact congrArg c6 h
 |wd _ _ _ _ _ h=>exact congrArg c6 h
theorem uC(hn:(nms (k+1) v).Nodup)(hp:p∈kids v):(nms k p).Nodup:=
 (jX (bq hp)).nodup (dE▸(bk.mp hn).2)
theorem si{k:Nat}(hP:Pt π (k+1) v)(hn:(nms (k+1) v).Nodup)(ep:DV π σ k v):GZ π σ (k+1) v:=λ{n S H Q X} x hx h g up hh hb q=>by
 have nd:=bk.mp hn;refine cf Hi rfl (dY h rfl rfl (ae rfl) (ep (n:=n) x (λq=>hx (.tail _ q)) nd.2 h g up (aa (aH (bf _) _) hb) λS1 H1 hS gS sp hh1 _=>?_));have hs:S1.ev.length<=aB:=by rw [sp.ev,ah];exact aa (aH (aa og (bf _)) _) (aa hb (by decide))
 haveI e:eE (here S) (nms (k+1) v)=eE (here S) ((kids v).flatMap (nms k))++[.end_ (ao v)]:=by refine(um (a:=[ao v]) (b:=(kids v).flatMap (nms k))).trans (congrArg _ ?_);unfold eE;exact congrArg (jp Evt.end_) (cR hh)
 refine rk hS rfl (li hP rfl) ((congrFun hh1 _).trans (i7.mpr ⟨nd.1,hh⟩)) (aa gS.lp hs) λH2 hS2=>ny hS2 rfl (.end_ (ao v)) (aq am (li hP rfl) (eM fx)) hs λH3 hS3=>q _ _ hS3 (vf gS) (e▸sp.trans ⟨rfl,rfl,rfl,rfl,bf _,funext λm=>gP hS.pn,dz (EM hP),λ_=>rfl,λ_=>rfl⟩) (funext λm=>(gP hS.pn).trans ?_);rw [show eK m S1.pres=sN ((kids v).flatMap (nms k)) (here S) m from congrFun hh1 m];show(!decide (m=ao v)&&(!((kids v).flatMap (nms k)).contains m&&here S m))=(!(ao v::(kids v).flatMap (nms k)).contains m&&here S m);rw [ir,Bool.not_or,Bool.and_assoc,wH]
theorem E7(hP:Pt π k v):(nms k v).Nodup->GZ π σ k v:=by
 induction hP with
 |wk h1 h2 h3 h4=>exact λhn=>si (.wk h1 h2 h3 h4) hn zd
 |wd h1 h2 h3 h4 h5 h6 h7 h8 ih=>exact λhn=>si (.wd h1 h2 h3 h4 h5 h6 h7 h8) hn (zV h5.2 h8 λp hp=>ih p hp (uC hn hp))
section
variable {H:AH}{Q:QE}{X:XE}
theorem AT(k:cL P C a ρ H (λu H'=>hM (be P false p [u] H') Q) X):cL P C (.p false p [a]) ρ H Q X:=k
theorem yM(k:cL P C a ρ H (λu H'=>cL P C b ρ H' (λw H''=>hM (be P false p [u,w] H'') Q) X) X):cL P C (.p false p [a,b]) ρ H Q X:=k
theorem EK(ha:Ev P C ρ H X a x)(hb:Ev P C ρ H X b y)(k:cL P C c ρ H (λu H'=>hM (be P false p [x,y,u] H') Q) X):cL P C (.p false p [a,b,c]) ρ H Q X:=ha _ (hb _ k)
theorem gN(ha:Ev P C ρ H X a x)(k:C f [x] H Q X):cL P C (.call f [a]) ρ H Q X:=ha _ k
theorem cQ(ha:Ev P C ρ H X a x)(hb:Ev P C ρ H X b y)(k:C f [x,y] H Q X):cL P C (.call f [a,b]) ρ H Q X:=ha _ (hb _ k)
theorem kz(ha:Ev P C ρ H X a x)(hb:Ev P C ρ H X b y)(hc:Ev P C ρ H X c z)(k:cL P C d ρ H (λu H'=>C f [x,y,z,u] H' Q X) X):cL P C (.call f [a,b,c,d]) ρ H Q X:=ha _ (hb _ (hc _ k))
theorem iQ(ha:Ev P C ρ H X a x)(hb:Ev P C ρ H X b y)(hc:Ev P C ρ H X c z)(k:C f [x,y,z] H Q X):cL P C (.call f [a,b,c]) ρ H Q X:=ha _ (hb _ (hc _ k))
end
section
variable {P:Prog}{C:Calls}{ρ:Fm}{H:AH}{Q:QE}{X:XE}{α:Type}{l:List α}{f g:α->V}{p:α->Bool}{elt it c:Ex}{w:V}
theorem Dc(hit:Ev P C ρ H X it w)(hs:pY H w=some (l.map f))(hl:l.length<=aB)(he:∀a∈l,Ev P C (ρ++[some (f a)]) H X elt (g a))(q:Q (.ref H.length) (H++[.list (l.map g)])):cL P C (.comp true elt it none) ρ H Q X:=
 hit _ ⟨l.map f,hs,(ak f).symm▸hl,qH hs (λa ha K hK=>he a ha _ hK) (hE rfl q)⟩
end
theorem f8{n r:Nat}{hrs:List Int}{a b:Int}{Q:QE}{X:XE}(h:H[r]? =some (.list (hrs.map V.int)))(hl:hrs.length<=aB)(q:Q (.lst ((hrs.filter λz=>decide (a-b<z)).map V.int)) H):aQ PL (n+1) 7 [.ref r,.int a,.int b] H Q X:=
 cf MK rfl (bx (jl (f:=V.int) (g:=V.int) (p:=λz=>decide (a-b<z)) (ae rfl) (show H[r]?.bind O.lst=_ by rw [h];rfl) hl (λ_ _=>aR rfl) λ_ _ _=>ae rfl) q)
theorem kQ{a b:Nat}:jj a b=((aX (b-a)).map (a+·)).map λj:Nat=>V.int j:=by unfold jj;rw [bM,Int.toNat_sub];rfl
noncomputable def nH{α:Type}(rl:Nm)(l:List α)(i:Nat)(x:α):List α:=if rl=['o','n','e']then [x]else if rl=['r','e','s','t']then l.drop i else l
theorem sM:(aX (s-i)).map (i+·)=(aX s).drop i:=by
 refine fE λj=>?_;rw [aV,qc];by_cases h:j<s-i
 ·rw [cq h,cq (db i j▸Nat.add_lt_of_lt_sub h)];rfl
 ·haveI h:=fN h;rw [fc (by rw [a7];exact h),fc (by rw [a7];exact Nat.sub_le_iff_le_add'.mp h)];rfl
theorem f9{Q:QE}{X:XE}(hr:rl∈fT)(hi:i<s)(hs:s<=8)(q:Q (.lst ((nH rl (aX s) i i).map λj:Nat=>V.int j)) H):aQ PL (n+1) 8 [.str rl,.int s,.int i] H Q X:=by
 haveI hs':s<=1000:=aa hs (by decide);refine eC hr (λe=>?_) λhr=>eC hr (λe=>?_) λhr=>?_
 ·subst e;exact cf AR rfl (cV (aR rfl) (bx (aR rfl) q))
 ·subst e;refine cf AR rfl (bK (aR rfl) (cV (aR rfl) (bx (bY (aq (ae rfl) (ae rfl) (qD (xK (aa (gT hi) hs')) (xK hs'))) (s8 (smt hs'))) ?_)));rw [kQ,sM];exact q
 ·haveI e:=in1 hr;subst e;refine cf AR rfl (bK (aR rfl) (bK (aR rfl) (bx (bY (bY (ae rfl) (fj (xK hs'))) (s8 (smt (b:=0) hs'))) ?_)));rw [show jj 0 s=jj (0:Nat) s from rfl,kQ,sM];exact q
theorem nX{α:Type}{l:List α}{x:α}(h:l[i]? =some x):∀y∈nH rl l i x,y∈l:=λy hy=>by
 unfold nH at hy;by_cases e:rl=['o','n','e']
 ·rw [if_pos e]at hy;exact in1 hy▸aN h
 ·rw [if_neg e]at hy;by_cases e:rl=['r','e','s','t']
  ·rw [if_pos e]at hy;exact Jr hy
  ·rw [if_neg e]at hy;exact hy
theorem BA{α:Type}{l:List α}{x:α}(nd:l.Nodup):(nH rl l i x).Nodup:=by
 unfold nH;by_cases e:rl=['o','n','e']
 ·rw [if_pos e];exact bk.mpr ⟨bl,cc⟩
 ·rw [if_neg e];by_cases e:rl=['r','e','s','t']
  ·rw [if_pos e];exact nd.sublist (List.drop_sublist i l)
  ·rw [if_neg e];exact nd
theorem wo{α β:Type}{f:α->β}{l:List α}{x:α}:(nH rl l i x).map f=nH rl (l.map f) i (f x):=by
 unfold nH;by_cases e:rl=['o','n','e']
 ·rw [if_pos e,if_pos e];rfl
 ·rw [if_neg e,if_neg e];by_cases e:rl=['r','e','s','t']
  ·rw [if_pos e,if_pos e,pB]
  ·rw [if_neg e,if_neg e]
theorem vT{α:Type}{l:List α}{x:α}(h:i<l.length):(nH rl l i x).length<=l.length:=by
 unfold nH;by_cases e:rl=['o','n','e']
 ·rw [if_pos e];exact cZ (aY _) h
 ·rw [if_neg e];by_cases e:rl=['r','e','s','t']
  ·rw [if_pos e,eY];exact dS _ _
  ·rw [if_neg e];exact aM _
def Up(π:PI)(h:Nm->Bool):Prop:=∀c m,π.ch c=some m->h c=true->h m=true
section
variable {P:Prog}{C:Calls}{ρ:Fm}{H:AH}{K:KS}{R:QE}{X:XE}{ss:List St}{σ:Ad}{S:Hst}{n:Nm}{a b c:Ex}{x y z:V}
theorem jN(h:H[d]? =some (.dict ks vs))(e:fo n ks vs=some x):be P false .i [.ref d,.str n] H=some (x,H):=by show((H[d]?.bind O.dct).bind λd=>fo n d.1 d.2).map _=_;rw [h];show(fo n ks vs).map _=_;rw [e];rfl
theorem mZ{α:Type}{val:α->V}{l:AL α}{x:α}(h:H[d]? =some (dO val l))(e:dX n l=some x):be P false .i [.ref d,.str n] H=some (val x,H):=jN h (mJ.trans (congrArg (bP val) e))
theorem yX{i:Nat}(h:vs[i]? =some x):be P false .i [.tup vs,.int i] H=some (x,H):=by show((sa vs.length i).bind λj=>vs[j]?).map _=_;haveI e:sa vs.length i=some i:=(if_pos (bn i)).trans (if_pos (cG.mpr (af.mp h).1));rw [e];show(vs[i]?).map _=_;rw [h];rfl
theorem mY(ho:Ev P C ρ H X a x)(ht:ly H x t=true)(hb:Ev P C ρ H X b y)(e:be P mu p [x,y] H=some (z,H)):Ev P C ρ H X (.n t mu p a [b]) z:=λ_ q=>ho _ ⟨ht,hb _ (hE e q)⟩
theorem kL(ho:Ev P C ρ H X a x)(ht:ly H x t=true)(hb:Ev P C ρ H X b y)(k:hM (be P mu p [x,y] H) λ_ H'=>a8 P C ss ρ H' K R X):a8 P C (.e (.n t mu p a [b])::ss) ρ H K R X:=dJ (ho _ ⟨ht,hb _ k⟩)
theorem AB(ha:Ev P C ρ H X a x)(hb:Ev P C ρ H X b y)(hc:Ev P C ρ H X c u)(k:C f [x,y,u] H (λv H'=>i<ρ.length/\a8 P C ss (ρ.set i (some v)) H' K R X) X):a8 P C (.a i (.call f [a,b,c])::ss) ρ H K R X:=dU (ha _ (hb _ (hc _ k)))
end
section
variable {n:Nm}
theorem qy{α:Type}{x:α}{l:AL α}{p:Nm×α}(nd:(l.map (·.1)).Nodup)(h:p∈dh n x l):p=(n,x)\/p∈l/\p.1≠n:=by
 induction l with
 |nil=>exact .inl (in1 h)
 |cons q l ih=>
  haveI h:p∈(if n=q.1 then(q.1,x)::l else q::dh n x l):=h;haveI nd:=bk.mp nd;by_cases e:n=q.1
  ·rw [if_pos e]at h;exact eC h (λh=>.inl (e▸h)) λh=>.inr ⟨.tail _ h,λz=>nd.1 (aK.mpr ⟨p,h,z.trans e⟩)⟩
  ·rw [if_neg e]at h;exact eC h (λh=>.inr ⟨h▸.head _,h▸Ne.symm e⟩) λh=>(ih nd.2 h).imp id λh=>⟨.tail _ h.1,h.2⟩
theorem vK{α:Type}{val:α->V}{l:AL α}{x y:α}(h:dX n l=some x)(e:val x=val y):dO val (dh n y l)=dO val l:=by
 haveI q:(dh n y l).map (·.1)=l.map (·.1)/\((dh n y l).map λp=>val p.2)=l.map λp=>val p.2:=by
  induction l with
  |nil=>exact nomatch h
  |cons q l ih=>
   haveI h:(if n=q.1 then some q.2 else dX n l)=some x:=h;refine(?_:((if n=q.1 then(q.1,y)::l else q::dh n y l).map (·.1))=_/\((if n=q.1 then(q.1,y)::l else q::dh n y l).map λp=>val p.2)=_);by_cases z:n=q.1
   ·rw [if_pos z]at h ⊢;exact⟨rfl,congrArg (·::_) (e.symm.trans (congrArg val (aj h).symm))⟩
   ·rw [if_neg z]at h ⊢;exact⟨congrArg (q.1::·) (ih h).1,congrArg (val q.2::·) (ih h).2⟩
 unfold dO;rw [q.1,q.2]
end
section
variable {P:Prog}{C:Calls}{ρ:Fm}{H:AH}{K:KS}{R:QE}{X:XE}{ss:List St}{σ:Ad}{S:Hst}{n:Nm}
noncomputable def pA(S:Hst)(n:Nm)(r:Nat)(q:List Int):Hst:={S with kept:=dh n (r,q) S.kept,kl:=S.kl+1}
theorem GY:ii (pA S n r q) c=if n=c then q else ii S c:=wz (f:=S.own)
theorem Hs.keptSet(h:Hs σ S H)(e:dX n S.kept=some (r,q))(hl:q'.length<=S.kl+1):Hs σ (pA S n r q') (H.set r (.list (q'.map V.int))):=by
 haveI hp:=h.kp _ (bZ e);have ho:=hp.1;haveI hlt:r<H.length:=(af.mp hp.2.1).1;haveI ef:hH σ (pA S n r q')=hH σ S:=by unfold hH;rw [show(pA S n r q').kept=dh n (r,q') S.kept from rfl,vK (val:=L3) (y:=(r,q')) e rfl];rfl
 refine⟨ef▸h.nd,ef▸λp hp=>⟨(bv λz=>fm ((h.fix p hp).2.symm.trans (z▸ho))).trans (h.fix p hp).1,(h.fix p hp).2⟩,λp hp=>(qy h.kn hp).elim (λz=>z▸⟨ho,bX hlt,hl⟩) λz=>haveI y:=h.kp p z.1;⟨y.1,(bv λw=>z.2 ?_).trans y.2.1,aa y.2.2 (bf _)⟩,λp hp=>⟨(h.qp p hp).1,(bv λz=>?_).trans (h.qp p hp).2.1,(h.qp p hp).2.2⟩,h.qn,h.pn,ma h.kn,λb hb=>h.fr b (aa (au aU.symm) hb)⟩
 ·exact congrArg j5 (aj (y.1.symm.trans (w▸ho)))
 ·exact absurd (congrArg nL (aj ((h.qp p hp).1.symm.trans ((congrArg S.own z).symm.trans ho)))) ai
theorem ur(h:Hs σ S H)(h0:ρ[0]? =some (some (.ref σ.i)))(hi:ρ[i]? =some (some (.ref r)))(e:dX n S.kept=some (r,hrs))(hl:S.kl<=aB)(k:∀H',Hs σ (pA S n r (hrs++[S.clock])) H'->a8 P C ss ρ H' K R X) :
  a8 P C (.e (.n .list false .append (.v i) [qW ['c','l','o','c','k']])::ss) ρ H K R X:=
 haveI q:=(h.kp _ (bZ e)).2
 kL (ae hi) (fb q.1) (c8 h h0 rfl) (hE (fh q.1 (aa (au (ak _)) (aa q.2 hl))) (k _ (aJ (f:=V.int) (l₁:=hrs) (l₂:=[S.clock])▸h.keptSet e (aa (au ah) (aA q.2)))))
end
theorem jC(h:∀v∈vs,v.data=true/\v.depth<=d):V.datas vs=true/\V.depths vs<=d:=by
 induction vs with
 |nil=>exact⟨rfl,aY _⟩
 |cons w vs ih=>exact⟨ay.mpr ⟨(h w (.head _)).1,(ih λv hv=>h v (.tail _ hv)).1⟩,iu.mpr ⟨(h w (.head _)).2,(ih λv hv=>h v (.tail _ hv)).2⟩⟩
theorem uF(hP:Pt π k v):v.data=true/\v.depth<=2*k:=by
 induction hP with
 |@wk k=>exact⟨rfl,aa (by decide:1<=2) (bL 2 (2*k))⟩
 |@wd k _ _ _ _ ps _ _ _ _ _ _ _ _ ih=>
  haveI q:=jC ih;refine⟨?_,?_⟩
  ·show (V.datas ps&&true)=true;rw [q.1];rfl
  ·haveI z:∀{a:Nat},a<=2*k+1->max 0 a<=2*k+1:=λh=>iu.mpr ⟨aY _,h⟩;exact aA (z (z (z (z (z (iu.mpr ⟨aA q.2,aY _⟩))))))
theorem Ke(ha:Pt π k a)(hb:Pt π k' b)(h:gH a b=true):ao a=ao b:=by
 induction ha with
 |@wk _ n1=>
  induction hb with
  |@wk _ n2=>haveI h:(wk==wk&&(n1==n2&&_))=true:=h;exact beq_iff_eq.mp (ay.mp (ay.mp h).2).1
  |wd=>exact absurd (show false=true from h) ai
 |@wd _ n1=>
  induction hb with
  |wk=>exact absurd (show false=true from h) ai
  |@wd _ n2=>haveI h:(wd==wd&&(n1==n2&&_))=true:=h;exact beq_iff_eq.mp (ay.mp (ay.mp h).2).1
theorem HU(hk:k<=7)(h8:∀p∈ps,Pt π k p)(hv:v∈ps):∃(i:Nat) (q:V),ps[i]? =some q/\ao q=ao v/\be P false .index [.tup ps,v] H=some (.int i,H):=by
 have hk:2*k<=50:=aa (br 2 hk) (by decide);have hx:∃x,x∈ps/\gH x v=true:=⟨v,hv,fH v (uF (h8 v hv)).1⟩;haveI hd:=jC λp hp=>uF (h8 p hp);haveI e1:rd H v=some v:=by
  have q:=uF (h8 v hv);have:(v.data&&decide (v.depth<=50))=true:=by rw [q.1,decide_eq_true (aa q.2 hk)];rfl
  cases v<;>first|exact absurd q.1 ai|exact if_pos this|rfl
 haveI hl:=List.findIdx_lt_length_of_exists hx;haveI hq:=Jq (xs:=ps) (p:=λy=>gH y v) (w:=hl);refine⟨ps.findIdx λy=>gH y v,_,aO hl,Ke (h8 _ (tR hl)) (h8 v hv) hq,?_⟩;show((rd H v).bind λx'=>if tU ps=true then(ps.findIdx? λy=>gH y x').map λ(k:Nat)=>(V.int k,H)else none)=_;rw [e1];show(if tU ps=true then(ps.findIdx? λy=>gH y v).map λ(k:Nat)=>(V.int k,H)else none)=_;rw [if_pos (lC hd.1 (aa hd.2 hk)),List.findIdx?_eq_some_of_exists hx];rfl
theorem oY{α:Type}{f:α->V}{st:α->Fm->Fm}(ht:∀x ρ,fO ρ tgt (f x)=some (st x ρ)){l:List α}(Inv:List α->Fm->AH->Prop)
  (hs:∀its ρ' H',Inv its ρ' H'->jB rev H' v=some (l.map f))(hl:l.length<=aB)(h0:Inv l ρ H)
  (step:∀x xs ρ' H',Inv (x::xs) ρ' H'->∀K':KS,(∀ρ'' H'',Inv xs ρ'' H''->K' ρ'' H'')->a8 P C body (st x ρ') H' K' R (λ_ _=>False))
  (fin:∀ρ' H',Inv [] ρ' H'->a8 P C ss ρ' H' K R X):∃items,jB rev H v=some items/\items.length<=aB/\
   pR (λx ρ' H' K'=>match fO ρ' tgt x with|some ρ''=>a8 P C body ρ'' H' K' R (λ_ _=>False)|none=>False) (λH'=>jB rev H' v=some items) items ρ H (λρ' H'=>a8 P C ss ρ' H' K R X):=by
 refine⟨l.map f,hs _ _ _ h0,(ak f).symm▸hl,sh (λits ρ H=>∃js,js.map f=its/\Inv js ρ H) (λx xs ρ' H' q=>av q λjs e q=>⟨hs _ _ _ q,λK' hK=>?_⟩) (λρ' H' q=>av q λjs e q=>⟨hs _ _ _ q,fin _ _ (pq.mp e▸q)⟩) ⟨l,rfl,h0⟩⟩;cases js with
 |nil=>exact absurd e.symm (lV _ _)
 |cons j js=>haveI e:=lg e;rw [<-e.1,ht];exact step j js ρ' H' q K' λρ'' H'' q=>hK _ _ ⟨js,e.2,q⟩
theorem vF{α:Type}{f:α->V}{st:α->Fm->Fm}(ht:∀x ρ,fO ρ tgt (f x)=some (st x ρ)){l:List α}(Inv:List α->Fm->AH->Prop)(h:Ev P C ρ H X e v)
  (hs:∀its ρ' H',Inv its ρ' H'->jB rev H' v=some (l.map f))(hl:l.length<=aB)(h0:Inv l ρ H)
  (step:∀x xs ρ' H',Inv (x::xs) ρ' H'->∀K':KS,(∀ρ'' H'',Inv xs ρ'' H''->K' ρ'' H'')->a8 P C body (st x ρ') H' K' R (λ_ _=>False))
  (fin:∀ρ' H',Inv [] ρ' H'->a8 P C ss ρ' H' K R X):a8 P C (.f rev tgt e body::ss) ρ H K R X:=nc (h _ (oY ht Inv hs hl h0 step fin))
theorem eD{α:Type}{f:α->V}{l:List α}(Inv:List α->Fm->AH->Prop)(h:Ev P C ρ H X e v)
  (hs:∀its ρ' H',Inv its ρ' H'->jB rev H' v=some (l.map f))(hl:l.length<=aB)(h0:Inv l ρ H)
  (step:∀x xs ρ' H',Inv (x::xs) ρ' H'->∀K':KS,(∀ρ'' H'',Inv xs ρ'' H''->K' ρ'' H'')->a8 P C body (ρ'.set i (some (f x))) H' K' R (λ_ _=>False))
  (fin:∀ρ' H',Inv [] ρ' H'->a8 P C ss ρ' H' K R X):a8 P C (.f rev (.inl i) e body::ss) ρ H K R X:=vF (st:=λx ρ=>ρ.set i (some (f x))) (λ_ _=>rfl) Inv h hs hl h0 step fin
theorem uY(h:m<=N)(k:aQ PL (N-m+m) f args H Q X):aQ PL N f args H Q X:=by rw [fY h]at k;exact k
section
variable {π:PI}{σ:Ad}{k d:Nat}{v:V}{h:Nm->Bool}{n:Nm}
theorem wS(hP:Pt π k v)(up:Up π h):Up π (sN (nms k v) h):=λc m hc hh=>i7.mpr ⟨λhm=>(i7.mp hh).1 (E6 hP hm hc),up c m hc (i7.mp hh).2⟩
theorem Bx:sN ns (λm=>!decide (m=n)&&h m)=sN (n::ns) h:=funext λm=>by refine(?_:(!ns.contains m&&(!decide (m=n)&&h m))=(!(n::ns).contains m&&h m));rw [ir,Bool.not_or,<-wH];cases ns.contains m<;>cases m==n<;>rfl
theorem mz(hP:Pt π k v):nms k v=ao v::(kids v).flatMap (nms (k-1)):=by
 induction hP with
 |wk=>exact rfl
 |wd=>exact rfl
theorem F9(hP:Pt π k v):(nms k v).Nodup->DV π σ (k-1) v:=by
 induction hP with
 |wk=>exact λ_=>zd
 |wd h1 h2 h3 h4 h5 h6 h7 h8=>exact λhn=>zV h5.2 h8 λp hp=>E7 (h8 p hp) (uC hn hp)
theorem J6(hP:Pt π k v):∀{c m:Nm},c∈nms k v->π.ch c=some m->m∈nms k v\/c=ao v:=by
 induction hP with
 |wk=>exact λhc _=>.inr (in1 hc)
 |@wd k nm _ _ _ ps _ _ _ _ _ _ h7 _ ih=>exact λ{c m} hc hm=>eC hc .inr λhc=>av (a9.mp hc) λp hp hc=>.inl ((ih p hp hc hm).elim (λh=>.tail _ (a9.mpr ⟨p,hp,h⟩)) λe=>aj (hm.symm.trans ((h7 c).mpr ⟨p,hp,e.symm⟩))▸.head _)
theorem qz{ns:List Nm}{m:Nm}:∀{h:Nm->Bool},(ns.map Evt.beg).foldl hr h m=true↔m∈ns\/h m=true:=by
 induction ns with
 |nil=>exact⟨.inr,λq=>q.elim (λq=>absurd q bl) id⟩
 |cons a ns ih=>intro h;refine ih.trans ?_;refine(?_:m∈ns\/(decide (m=a)||h m)=true↔_);rw [jF,decide_eq_true_iff,bS,or_assoc,or_left_comm]
theorem Hm(hP:Pt π k v)(hc:π.ch (ao v)=some n)(hn:h n=true)(up:Up π h):Up π (((nms k v).map Evt.beg).foldl hr h):=λc m e hh=>qz.mpr ((qz.mp hh).elim (λq=>(J6 hP q e).elim .inl λz=>.inr (aj (hc.symm.trans (z▸e))▸hn)) λhh=>.inr (up c m e hh))
theorem dj{ps:List V}{a b:Nat}{p q:V}{x:Nm}(nd:(ps.flatMap (nms k)).Nodup)(ha:ps[a]? =some p)(hb:ps[b]? =some q)(hn:a≠b)(hx:x∈nms k p):x∉nms k q:=λhq=>by
 have w:=List.pairwise_iff_getElem.mp (nq.mp nd).2;obtain⟨la,ea⟩:=af.mp ha;obtain⟨lb,eb⟩:=af.mp hb;rcases Nat.lt_or_gt_of_ne hn with l|l
 ·exact w a b la lb l x (ea▸hx) x (eb▸hq) rfl
 ·exact w b a lb la l x (eb▸hq) x (ea▸hx) rfl
theorem vE{G:V->Nat->Prop}(hP:Pt π k w)(hp:p∈kids w)(g:∀k nm rl m s ps,rl∈fT->ps.length<=8->π.isW nm=some true->(∀c,π.ch c=some nm↔∃p∈ps,ao p=c)->(∀p∈ps,Pt π k p)->p∈ps->G (j6 nm rl m s ps) (k+1)):G w k:=by
 induction hP with
 |wk=>exact absurd hp bl
 |wd _ h2 _ _ h5 h6 h7 h8=>exact g _ _ _ _ _ _ h2 h5.2 h6 h7 h8 hp
end
noncomputable def NQ:List V->Nm
 |_::_::v::_=>v.txt.getD []
 |_=>[]
noncomputable def L7(v:V):Nm:=NQ (v.tpl.getD [])
noncomputable def Cv(v:V):Bool:=L7 v==['n','e','v','e','r']
noncomputable def Lm(v:V):Bool:=!(L7 v==['f','a','u','l','t','e','d']||Cv v)
noncomputable def Kv(k:Nat)(vs:List V):Int:=((vs[k]?).bind V.num).getD 0
noncomputable def spV(v:V):Int:=Kv 4 (v.tpl.getD [])
noncomputable def mnV(v:V):Int:=Kv 3 (v.tpl.getD [])
noncomputable def iY:Nat->V->List V
 |0,_=>[]
 |k+1,v=>v::(kids v).flatMap (iY k)
structure mdOk(π:PI)(x:V):Prop where
 nv:π.nv (ao x)=Cv x
 al:π.al (ao x)=Lm x
 sp:π.sp (ao x)=spV x
 mn:π.mn (ao x)=mnV x
 sb:π.sb (ao x)=nms 8 x
 kd:π.kd (ao x)=(kids x).map ao
 ru:π.ru (ao x)=L7 x
theorem Bj(hP:Pt π k v):∀{j:Nat},k<=j->nms j v=nms k v:=by
 induction hP with
 |wk=>intro j hj;cases j with
  |zero=>exact absurd hj (d6 _)
  |succ j=>exact rfl
 |@wd k nm _ _ _ ps _ _ _ _ _ _ _ _ ih=>intro j hj;cases j with
  |zero=>exact absurd hj (d6 _)
  |succ j=>refine(?_:nm::ps.flatMap (nms j)=nm::ps.flatMap (nms k));rw [dE,dE];exact congrArg (λl=>nm::r9 l) (cn λp hp=>ih p hp (iG hj))
theorem sG(hP:Pt π k v)(h:ρ[i]? =some (some v)):Ev P C ρ H X (.and (.p false (.cop .eq) [.p false .i [.v i,.c (.int 0)],.c (.str wk)]) (.p false (.cop .eq) [.p false .i [.v i,.c (.int 2)],.c (.str ['n','e','v','e','r'])])) (.bool (Cv v)):=by
 induction hP with
 |wk=>exact cW (s:=true) (aq (aq (ae h) am rfl) am rfl) λ_=>aq (aq (ae h) am rfl) am (ft jh jh)
 |@wd _ _ r _ _ _ _ h2=>exact du (cW (s:=false) (t:=false) (aq (aq (ae h) am rfl) am rfl) λe=>absurd e ai) (congrArg V.bool ((by decide:∀r∈fT,false=(r==['n','e','v','e','r'])) r h2))
noncomputable def Fh(t s:Int)(l:List Int):List Int:=l.filter λz=>decide (t-s<z)
noncomputable def Fc(k:Nm->List Int)(w:Nm)(x:List Int):Nm->List Int:=λc=>if w=c then x else k c
noncomputable def cF(π:PI)(n:Nm):Bool:=!π.nv n&&(π.ch n).isSome
noncomputable def pre(π:PI)(h:Nm->Bool)(e:Evt):List Evt:=e::eE (hr h e) (π.sb e.nm).tail
noncomputable def eJ(π:PI)(h:Nm->Bool):List Nm->List Evt
 |[]=>[]
 |m::ms=>eE h (π.sb m)++eJ π ((eE h (π.sb m)).foldl hr h) ms
noncomputable def Cz(π:PI)(h:Nm->Bool)(w:Nm)(i:Nat)(n:Nm):List Evt:=
 eJ π h ((nH (π.ru w) (π.kd w) i n).filter h).reverse++(((nH (π.ru w) (π.kd w) i n).filter λm=>m==n||(h m&& !π.nv m)).flatMap π.sb).map .beg
inductive Fe(π:PI)(t:Int):Bool->(Nm->Bool)->(Nm->List Int)->Evt->List Evt->(Nm->List Int)->Prop
 |stop {c:Bool} {h:Nm->Bool} {k k':Nm->List Int} {e:Evt} {es:List Evt}:c=false->es=pre π h e->k'=k->Fe π t c h k e es k'
 |here {c:Bool} {h:Nm->Bool} {k k':Nm->List Int} {e:Evt} {es:List Evt} {w:Nm} {i:Nat}:c=true->π.ch e.nm=some w->es=pre π h e++Cz π ((pre π h e).foldl hr h) w i e.nm->k'=Fc k w (k w++[t])->((Fh t (π.sp w) (k w++[t])).length:Int)<=π.mn w->(π.kd w)[i]? =some e.nm->(∀m∈π.kd w,(pre π h e).foldl hr h m=false->∀x∈π.sb m,(pre π h e).foldl hr h x=false)->Fe π t c h k e es k'
 |go {c:Bool} {h:Nm->Bool} {k k':Nm->List Int} {e:Evt} {w:Nm} {es es2:List Evt}:c=true->π.ch e.nm=some w->es=pre π h e++es2->π.mn w<((Fh t (π.sp w) (k w++[t])).length:Int)->Fe π t (cF π w) ((pre π h e).foldl hr h) (Fc k w (k w++[t])) (.fail w) es2 k'->Fe π t c h k e es k'
structure Rd(π:PI)(k:Nat)(v:V):Prop where
 pt:Pt π k v
 nd:(nms k v).Nodup
 k7:k<=7
 len:(nms k v).length<=60
 md:∀x∈iY k v,mdOk π x
def Rt(π:PI)(σ:Ad):Nat->Nat->V->Prop
 |0,k,v=>Rd π k v/\fo (ao v) σ.chk σ.chv=some .none/\∀m,π.ch (ao v)≠some m
 |d+1,k,v=>Rd π k v/\∃w,Rt π σ d (k+1) w/\v∈kids w/\fo (ao v) σ.chk σ.chv=some w
theorem Rt.rd(h:Rt π σ d k v):Rd π k v:=by
 cases d with
 |zero=>exact h.1
 |succ d=>exact h.1
def JV(π:PI)(σ:Ad)(S:Hst)(c:Bool)(m:Nm)(b:Nat)(Q:QE):Prop:=∀S' H' es k',Hs σ S' H'->Gd π S'->Sp π k' S S' es->es.length<=b->Up π (here S')->Fe π S.clock c (here S) (ii S) (.fail m) es k'->Q .none H'
def N2(π:PI)(σ:Ad)(S:Hst)(m:Nm)(b:Nat)(Q:QE):Prop:=∀S' H' es k',Hs σ S' H'->Gd π S'->Sp π k' (pL S (S.kl+1)) S' es->es.length<=b->Up π (here S')->(∀(e:Evt) (h:Nm->Bool),e.nm=m->(pre π h e).foldl hr h=here S->Fe π S.clock true h (ii S) e (pre π h e++es) k')->Q .none H'
noncomputable def bF(d:Nat):Nat:=60*(d+1)+960
def vU(π:PI)(σ:Ad)(d:Nat):Prop:=∀{k n:Nat} {v:V} {S:Hst} {H:AH} {Q:QE} {X:XE},Rt π σ d k v->Hs σ S H->Gd π S->Up π (here S)->here S (ao v)=true->S.ev.length+bF d<=900000->JV π σ S (cF π (ao v)) (ao v) (bF d) Q->aQ PL (n+(2*d+20)) 52 [.ref σ.i,v] H Q X
def Ib(π:PI)(σ:Ad)(d:Nat):Prop:=∀{k n:Nat} {w p:V} {S:Hst} {H:AH} {Q:QE} {X:XE},Rt π σ d k w->p∈kids w->Hs σ S H->Gd π S->S.kl<S.ev.length->Up π (here S)->here S (ao w)=true->S.ev.length+bF d<=900000->N2 π σ S (ao p) (bF d) Q->aQ PL (n+(2*d+21)) 53 [.ref σ.i,w,p] H Q X
theorem lL{α:Type}{f:α->V}{l:List α}(h:∀a,tm (f a)):∀v∈l.map f,tm v:=λ_ hv=>av (aK.mp hv) λa _ e=>e▸h a
theorem yI{α:Type}{f:α->V}{l:List α}(hx:rd H x=some x)(h:∀a,tm (f a)):be P false (.cop .in_) [x,.lst (l.map f)] H=some (.bool ((l.map f).any λy=>gH y x),H):=by haveI q:=fQ (lL (l:=l) h);refine(?_:((rd H x).bind λx'=>if tU _=true then some _ else none:Option Bool).map _=_);rw [hx];show(if tU _=true then some _ else none:Option Bool).map _=_;rw [if_pos (lC q.1 (aa (au q.2) (by decide)))];rfl
theorem N1(h:j<=19):j<=n+(2*d+19):=aa h (aa (bL 19 (2*d)) (bL _ n))
theorem Sp.trans'(a:Sp π k0 S S₁ es)(b:Sp π k' (pL S₁ (S₁.kl+1)) S₂ es')(hk:S₁.kl+1<=S.kl+es.length)(kf:∀c l,es.foldl (kr c) l=l):Sp π k' S S₂ (es++es'):=
 ⟨b.ev.trans ((congrArg (·++es') a.ev).trans (an ..)),b.qu.trans a.qu,b.ck.trans a.ck,b.lt.trans a.lt,by rw [ah,<-bD];exact aa b.kl (aZ hk _),b.hr.trans (by rw [bw,<-a.hr];rfl),dk a.nm b.nm,λc=>by rw [b.kp,bw,kf],λc=>(b.sm c).trans (by rw [bw,<-a.sm];rfl)⟩
theorem uL(he:∀c l,kr c l e=l):∀c l,(pre π h e).foldl (kr c) l=l:=λc l=>(congrArg (λx=>List.foldl (kr c) x _) (he c l)).trans (Kc.1 c l)
theorem kG(hP:Pt π k v):v∈iY k v:=by
 induction hP with
 |wk=>exact .head _
 |wd=>exact .head _
theorem oM(h:Hs σ S H)(h0:ρ[0]? =some (some (.ref σ.i)))(hn:hk.contains nm=false)(ha:Ev P C ρ H X a x)(hb:Ev P C ρ H X b y)(k:C f [.ref σ.i,x,y] H (λ_ H'=>a8 P C ss ρ H' K R X) X):a8 P C (.e (.m 0 f nm (.v 0) [a,b])::ss) ρ H K R X:=
 ae (P:=P) (C:=C) (X:=X) h0 (λv H₁=>gr H₁ 0 nm v=true/\gc P C [a,b] ρ H₁ (λvs H'=>C f (v::vs) H' (λ_ H'=>a8 P C ss ρ H' K R X) X) X) ⟨lJ h hn,ha _ (hb _ k)⟩
section
variable {π:PI}{σ:Ad}{d:Nat}
theorem qf(r:Rd π k v)(h:Hs σ S H)(g:Gd π S)(up:Up π (here S))(hh:here S (ao v)=true)(hb:S.ev.length+60<=900000)
  (q:JV π σ S (cF π (ao v)) (ao v) 60 Q)
  (kk:∀S' H',Hs σ S' H'->Gd π S'->Sp π (ii S) S S' (pre π (here S) (.fail (ao v)))->S'.kl+1<=S.kl+(pre π (here S) (.fail (ao v))).length->(pre π (here S) (.fail (ao v))).length<=60->Up π (here S')->here S'=sN (nms k v) (here S)->ii S'=ii S->π.nv (ao v)=false->a8 PL (aQ PL (n+(2*d+19))) [(.ite (.p false (.cop .isnot) [(.p false .i [(qW ['c','h','i','e','f']),(.p false .i [.v 1,.c (.int 1)])]),.c .none]) [(.e (.m 0 53 ['f','o','l','l','o','w'] (.v 0) [(.p false .i [(qW ['c','h','i','e','f']),(.p false .i [.v 1,.c (.int 1)])]),.v 1]))] [])] [some (.ref σ.i),some v] H' (λ_ H'=>Q .none H') Q X) :
  aQ PL (n+(2*d+20)) 52 [.ref σ.i,v] H Q X:=by
 have hs:S.ev.length<=aB:=aa (ax _ _) (aa hb (by decide));have ec:=mz r.pt;have hl0:((kids v).flatMap (nms (k-1))).length+1<=60:=aa (au (congrArg d5 ec).symm) r.len;haveI nd:=bk.mp (ec▸r.nd);have md:=r.md v (kG r.pt);have esb:π.sb (ao v)=ao v::(kids v).flatMap (nms (k-1)):=by rw [md.sb,Bj r.pt (aa r.k7 (by decide)),ec]
 refine cf H8 rfl (ny h rfl (.fail (ao v)) (aq am (li r.pt rfl) (eM fx)) hs λH1 h1=>rk h1 rfl (li r.pt rfl) hh (aa g.lp hs) λH2 h2=>dY h2 rfl rfl (ae rfl) (uY (m:=2*(k-1)+1) (N1 ?_) (F9 r.pt r.nd (n:=n+(2*d+19)-(2*(k-1)+1)) (ao v) nd.1 nd.2 h2 (vf (t:=.fail (ao v)) g) ?_ ?_ λS3 H3 h3 g3 sp3 hh3 _=>?_)))
 ·exact aa (aA (br 2 (aa (dS _ _) r.k7))) (by decide)
 ·intro c m hc hm hhc;haveI q:=(ay.mp ((gP h.pn).symm.trans hhc)).2;exact(gP h.pn).trans (ay.mpr ⟨by rw [decide_eq_false hm];rfl,up c m hc q⟩)
 ·refine aa (au ?_) (aa (aH hl0 _) hb);refine(?_:(S.ev++[Evt.fail (ao v)]).length+_=_);rw [ah,bD];exact congrArg _ (db 1 _)
 ·have e2:here (pD (pE S (.fail (ao v))) (ao v))=hr (here S) (.fail (ao v)):=funext λm=>gP h.pn;have sp:Sp π (ii S) S S3 (pre π (here S) (.fail (ao v))):=by unfold pre;rw [show(Evt.fail (ao v)).nm=ao v from rfl,esb,<-e2];exact Sp.trans (S₁:=pD (pE S (.fail (ao v))) (ao v)) ⟨rfl,rfl,rfl,rfl,bf _,e2,dz (EM r.pt),λ_=>rfl,λ_=>rfl⟩ sp3
  haveI lp:(pre π (here S) (.fail (ao v))).length<=60:=by unfold pre;rw [show(Evt.fail (ao v)).nm=ao v from rfl,esb];exact aa (aA og) hl0
  have hd:here S3=sN (nms k v) (here S):=by rw [hh3,ec,<-Bx];exact congrArg _ e2
  haveI ek:ii S3=ii S:=funext λc=>(sp.kp c).trans (uL (λ_ _=>rfl) c _);haveI hu:Up π (here S3):=hd▸wS r.pt up;haveI hk:S3.kl+1<=S.kl+(pre π (here S) (.fail (ao v))).length:=by unfold pre;rw [show(Evt.fail (ao v)).nm=ao v from rfl,esb,<-e2];exact aA sp3.kl
  refine cU (sG r.pt rfl) (λt=>bx am (q S3 H3 _ _ h3 g3 sp lp hu ?_)) λt=>kk S3 H3 h3 g3 sp hk lp hu hd ek (md.nv.trans t);rw [show cF π (ao v)=false from by unfold cF;rw [md.nv,t];rfl];exact .stop rfl rfl rfl
theorem oH(h:Hs σ S H)(hP:Pt π k v)(e:fo (ao v) σ.chk σ.chv=some x):Ev P C [some (.ref σ.i),some v] H X (.p false .i [(qW ['c','h','i','e','f']),(.p false .i [.v 1,.c (.int 1)])]) x:=aq (c8 h rfl rfl) (li hP rfl) (jN (h.get 4 rfl) e)
theorem b60(h:a+bF d<=900000):a+60<=900000:=aa (aH (aa (bL 60 (60*d)) (ax _ 960)) a) h
theorem yk(h:b<=60):b<=bF d:=aa h (aa (bL 60 (60*d)) (ax _ 960))
theorem An:vU π σ 0:=λ{k n v S H Q X} rt h g up hh hb q=>qf (d:=0) rt.1 h g up hh (b60 hb) (λS' H' es k' a b c e=>q S' H' es k' a b c (yk e)) λS' H' a b c _ e f _ _ _=>bK (aq (oH a rt.1.pt rt.2.1) am rfl) (q S' H' _ _ a b c (yk e) f (by
 rw [show cF π (ao v)=false from by unfold cF;rw [show(π.ch (ao v)).isSome=false from Option.isSome_eq_false_iff.mpr (fq.mpr (Option.eq_none_iff_forall_ne_some.mpr rt.2.2)),gK]]
 exact .stop rfl rfl rfl))
theorem zG(ih:Ib π σ d):vU π σ (d+1):=λ{k n v S H Q X} rt h g up hh hb q=>c7 rt.2 λw rw hv ec=>by
 haveI hb':S.ev.length+60+bF d<=900000:=aa (au (by unfold bF;simp+arith only)) hb;have hP:=rw.rd.pt;haveI eh:=mz hP;have cw:π.ch (ao v)=some (ao w):=vE (G:=λw _=>π.ch (ao v)=some (ao w)) hP hv λk nm rl m s ps _ _ _ h7 _ hp=>(h7 _).mpr ⟨v,hp,rfl⟩;refine qf (d:=d+1) rt.1 h g up hh (b60 hb) (λS' H' es k' a b c e=>q S' H' es k' a b c (yk e)) λS' H' a b c hk e f hd ek nv=>cV (aq (oH a rt.1.pt ec) am ?_) ?_
 ·exact vE (G:=λw _=>be PL false (.cop .isnot) [w,.none] H'=some (.bool true,H')) hP hv λk nm rl m s ps _ _ _ _ _ _=>rfl
 ·haveI hl:S'.ev.length<=S.ev.length+60:=by rw [c.ev,ah];exact aH e _
  haveI hn:ao w∉nms k v:=λz=>(bk.mp (eh▸rw.rd.nd)).1 (a9.mpr ⟨v,hv,z⟩);refine oM a rfl rfl (oH a rt.1.pt ec) (ae rfl) (ih (n:=n) rw hv a b ?_ f ?_ (aa (aZ hl _) hb') λS₂ H₂ es₂ k₂ a₂ b₂ c₂ e₂ f₂ ch=>q S₂ H₂ _ k₂ a₂ b₂ (c.trans' c₂ hk (uL λ_ _=>rfl)) ?_ f₂ ?_)
  ·rw [c.ev,ah];exact aa hk (aZ g.ll _)
  ·rw [hd];exact i7.mpr ⟨hn,up _ _ cw hh⟩
  ·rw [ah];exact aa (bU e e₂) (au (by unfold bF;simp+arith only))
  ·haveI ch:=ch (.fail (ao v)) (here S) rfl c.hr.symm;rw [c.ck,ek]at ch;rw [show cF π (ao v)=true from by unfold cF;rw [nv,cw];rfl];exact ch
end
noncomputable def pj(ps:List V)(j:Nat):V:=(ps[j]?).getD .none
theorem lw(h:j<ps.length):ps[j]? =some (pj ps j):=by unfold pj;rw [aO h];rfl
theorem oF(h:j<ps.length):pj ps j∈ps:=aN (lw h)
theorem bQ(h:Nat.ble (a+1) b=true):a<b:=aG h
noncomputable abbrev ni(j:Nat):V:=.int j
section
variable {π:PI}{σ:Ad}{d:Nat}
theorem zq:eJ π h (a++b)=eJ π h a++eJ π ((eJ π h a).foldl hr h) b:=by
 induction a generalizing h with
 |nil=>rfl
 |cons m a ih=>refine(?_:eE h (π.sb m)++eJ π _ (a++b)=(eE h (π.sb m)++eJ π _ a)++eJ π _ b);rw [ih,an,show eJ π h (m::a)=eE h (π.sb m)++eJ π ((eE h (π.sb m)).foldl hr h) a from rfl,bw]
theorem AQ:eJ π h (a++[m])=eJ π h a++eE ((eJ π h a).foldl hr h) (π.sb m):=by rw [zq];exact congrArg _ (aC _)
noncomputable abbrev nj(ps:List V)(j:Nat):Nm:=ao (pj ps j)
def FI7(π:PI)(σ:Ad)(S:Hst)(w p kp:V)(i:Nat)(l wr:List Nat)(ps:List V)(nm:Nm)(js:List Nat)(ρ:Fm)(H:AH):Prop:=
 ∃o S' dn,ρ=[some (.ref σ.i),some w,some p,some kp,some (.int i),some (.lst (l.map ni)),o,some (.lst (wr.map ni)),none]/\(Hs σ S' H/\Gd π S'/\Up π (here S'))/\Sp π (ii S) S S' (eJ π (here S) (dn.map (nj ps)))/\((eJ π (here S) (dn.map (nj ps))).length+60*js.length<=480/\dn++js=wr.reverse)/\(js.Nodup/\∀j∈js,j<ps.length/\here S' (nj ps j)=true)/\here S' nm=true
def FI8(π:PI)(σ:Ad)(S:Hst)(w p kp:V)(i:Nat)(l wr:List Nat)(ps:List V)(nm:Nm)(E0:List Evt)(cd:Nat->Bool)(js:List Nat)(ρ:Fm)(H:AH):Prop:=
 ∃o o' S' dn,ρ=[some (.ref σ.i),some w,some p,some kp,some (.int i),some (.lst (l.map ni)),o,some (.lst (wr.map ni)),o']/\(Hs σ S' H/\Gd π S')/\Up π (here S')/\Sp π (ii S) S S' (E0++((dn.filter cd).flatMap λj=>π.sb (nj ps j)).map .beg)/\(E0++((dn.filter cd).flatMap λj=>π.sb (nj ps j)).map .beg).length+60*js.length<=960/\(dn++js=l/\∀j∈js,j<ps.length)/\here S' nm=true
theorem JQ(h:a+60*(m+1)<=c)(hb:b<=60):a+b+60*m<=c:=eW h (eW hb (by simp+arith only))
theorem Fw(h:a+60*(m+1)<=c)(hb:b+c<=900000):b+a+60<=900000:=eW h (eW hb (by simp+arith only))
theorem mh{α:Type}{x:α}{l:AL α}(h:eK n l=true):(dh n x l).length=l.length:=by rw [<-ak (f:=(·.1)),kT,if_pos h,ak]
theorem Ic{l:List Nat}{j:Nat}:((l.map ni).any λy=>gH y (ni j))=true↔j∈l:=by rw [List.any_map,lU];exact⟨λq=>av q λx hx e=>eV (beq_iff_eq.mp (e:((x:Int)==j)=true))▸hx,λh=>⟨j,h,beq_iff_eq.mpr rfl⟩⟩
theorem wg:gH (ni j) (ni i)=true↔j=i:=⟨λe=>eV (beq_iff_eq.mp (show((j:Int)==i)=true from e)),λe=>beq_iff_eq.mpr (congrArg Int.ofNat e)⟩
theorem Ix:(aX ps.length).map (nj ps)=ps.map ao:=by
 refine fE λj=>?_;rw [aV,aV];by_cases h:j<ps.length
 ·rw [cq h,lw h];rfl
 ·haveI h:=fN h;rw [fc h,fc (by rw [a7];exact h)];rfl
theorem FY{i:Nat}{nm n rl:Nm}{h:Nm->Bool}{wr:List Nat}(hru:π.ru nm=rl)(hkd:π.kd nm=ps.map ao)(hi:i<ps.length)(hn:nj ps i=n)(nd:(ps.map ao).Nodup)(hmd:∀p∈ps,mdOk π p)(hwr:wr=(nH rl (aX ps.length) i i).filter λj=>h (nj ps j)) :
  eJ π h (wr.reverse.map (nj ps))++(((nH rl (aX ps.length) i i).filter λj=>gH (ni j) (ni i)||(((wr.map ni).any λy=>gH y (ni j))&& !Cv (pj ps j))).flatMap λj=>π.sb (nj ps j)).map .beg=Cz π h nm i n:=by
 haveI el:(nH rl (aX ps.length) i i).map (nj ps)=nH (π.ru nm) (π.kd nm) i n:=by rw [wo,Ix,hn,hru,hkd]
 unfold Cz;rw [<-el];refine congr (congrArg HAppend.hAppend ?_) ?_
 ·rw [hwr,gU];exact congrArg (λt=>eJ π h (List.reverse t)) (jH (f:=nj ps) (p:=h)).symm
 ·refine congrArg (jp Evt.beg) ?_;rw [jH,gV];refine congrArg (λt:List Nat=>t.flatMap λj=>π.sb (nj ps j)) (r6 λj hj=>?_);haveI hjr:=nX (rl:=rl) (cq hi) j hj;have hjl:=bE.mp hjr;haveI hm:=oF hjl;refine(?_:_=(nj ps j==n||(h (nj ps j)&& !π.nv (nj ps j))));refine congr (congrArg or ?_) (congr (congrArg and ?_) ?_)
  ·rw [cr,wg,beq_iff_eq];refine⟨λe=>e▸hn,λe=>?_⟩;haveI g:∀{x},x<ps.length->(ps.map ao)[x]? =some (nj ps x):=λh=>by rw [aV,lw h];rfl
   exact(gx (ak (f:=ao)▸hjl) nd).mp ((g hjl).trans ((congrArg some (e.trans hn.symm)).trans (g hi).symm))
  ·rw [cr,Ic,hwr,ca];exact⟨λq=>q.2,λq=>⟨hj,q⟩⟩
  ·rw [(hmd _ hm).nv]
theorem zk(ih:vU π σ d):Ib π σ d:=λ{k n w p S H Q X} rt hp h g hkl up hh hb q=>vE (G:=λw k=>Rt π σ d k w->here S (ao w)=true->aQ PL (n+(2*d+21)) 53 [.ref σ.i,w,p] H Q X) rt.rd.pt hp (λk nm rl m s ps h2 h5 h6 h7 h8 hp rt hh=>by
 haveI hs:S.ev.length<=aB:=aa (ax _ _) (aa hb (by decide));have hkl':S.kl+1<=aB:=aa hkl hs;have nd:=bk.mp rt.rd.nd;have k7:k<=7:=aa (bf _) rt.rd.k7;have hln:∀{v:V},v∈ps->(nms k v).length<=60:=λ{v} hv=>aa (aa (jX (bq hv)).length_le (aa (au (congrArg d5 (dE (f:=nms k)).symm)) (bf _))) rt.rd.len;have hx:∀{v:V},v∈ps->nm∉nms k v:=λ{v} hv q=>nd.1 (a9.mpr ⟨v,hv,q⟩);have hmd:∀{v:V},v∈ps->mdOk π v:=λ{v} hv=>rt.rd.md v (.tail _ (a9.mpr ⟨v,hv,kG (h8 v hv)⟩));have esb:∀{v:V},v∈ps->π.sb (ao v)=nms k v:=λ{v} hv=>by rw [(hmd hv).sb,Bj (h8 v hv) (aa k7 (by decide))]
 have hb9:S.ev.length+960<=900000:=aa (aH (bL _ _) _) hb;refine(gO (g.kw nm hh h6)).elim λrq er=>?_;obtain⟨r,hrs⟩:=rq;refine cf FV rfl (bp (aq (c8 h rfl rfl) (aR rfl) (mZ (val:=L3) (h.get 7 rfl) er)) (bQ rfl) (ur h rfl rfl er (aa (bf _) hkl') λH1 h1=>?_));have md:=rt.rd.md _ (kG rt.rd.pt);haveI esp:π.sp nm=s:=md.sp;haveI emn:π.mn nm=m:=md.mn;have ek:ii S nm=hrs:=by unfold ii;rw [er];rfl
 have eA:ii (pA S nm r (hrs++[S.clock]))=Fc (ii S) nm (ii S nm++[S.clock]):=funext λc=>GY.trans (by rw [ek];rfl);have cp:π.ch (ao p)=some nm:=(h7 _).mpr ⟨p,hp,rfl⟩;have eF:∀{l:List Int},(l.filter λz=>decide (S.clock-s<z))=Fh S.clock (π.sp nm) l:=λ{l}=>by rw [esp];rfl
 have g1:Gd π (pA S nm r (hrs++[S.clock])):=⟨λm a b=>oX (g.kw m a b),g.ks,g.lp,aa (au (mh (eS.mpr ⟨_,bZ er⟩))) g.lk,g.ls,hkl,λm hm=>(iB hm).elim (λe=>e▸h6) (g.ko m),g.so⟩;haveI hA:=h1.kp _ (bZ (kA.trans (if_pos rfl)));have qS:∀{S' H' es k'},Hs σ S' H'->Gd π S'->Sp π k' (pA S nm r (hrs++[S.clock])) S' es->es.length<=bF d->Up π (here S')->(∀(e:Evt) (h:Nm->Bool),e.nm=ao p->(pre π h e).foldl hr h=here S->Fe π S.clock true h (ii S) e (pre π h e++es) k')->Q .none H':=λ{S' H' es k'} a b c e f ch=>q S' H' es k' a b ⟨c.ev,c.qu,c.ck,c.lt,c.kl,c.hr,c.nm,c.kp,c.sm⟩ e f ch;refine cU (aq (bY (fR (ae rfl) (c8 h1 rfl rfl) (aR rfl) λQ q=>f8 hA.2.1 (aa hA.2.2 hkl') q) mD) (aR rfl) qR) (λhc=>dY h1 rfl rfl (ae rfl) (ih rt h1 g1 up hh hb λS' H' es k' a b c e f ch=>bx am (qS a b c e f λt h et eh=>.go rfl (et.symm▸cp) rfl ?_ (eh.symm▸eA▸ch)))) λhc=>?_
 ·rw [emn,ek,<-eF];haveI hc:=of_decide_eq_true hc;rw [ak]at hc;exact hc
 have hle:((Fh S.clock (π.sp nm) (ii S nm++[S.clock])).length:Int)<=π.mn nm:=by rw [emn,ek,<-eF];haveI hc:=cN.mp (of_decide_eq_false hc);rw [ak]at hc;exact hc
 refine di (HU (P:=PL) (H:=H1) k7 h8 hp) λi qi hqi nqi ei=>?_;have hi:i<ps.length:=(af.mp hqi).1;haveI npi:nj ps i=ao p:=(congrArg ao (aj ((lw hi).symm.trans hqi))).trans nqi;refine bp (mY (aR rfl) rfl (ae rfl) ei) (bQ rfl) (AB (aR rfl) (aR rfl) (ae rfl) (f9 h2 hi h5 ⟨bQ rfl,?_⟩));generalize hl:nH rl (aX ps.length) i i=l;have lb:∀j∈l,j<ps.length:=λj hj=>bE.mp (nX (cq hi) j (hl▸hj));have ll:l.length<=ps.length:=hl▸aa (vT (by rw [a7];exact hi)) (au a7);haveI ln:l.Nodup:=hl▸BA Ow;refine bp (jl (l:=l) (f:=ni) (g:=ni) (p:=λj=>here S (nj ps j)) (ae rfl) rfl (aa ll (aa h5 (by decide))) (λj hj=>mc (S:=pA S nm r (hrs++[S.clock])) h1 rfl (aq (aq (aR rfl) (ae rfl) (yX (lw (lb j hj)))) am (vN (h8 _ (oF (lb j hj)))))) λ_ _ _=>ae rfl) (bQ rfl) ?_;generalize hwr:(l.filter λj=>here S (nj ps j))=wr;haveI wrm:∀{j},j∈wr↔j∈l/\here S (nj ps j)=true:=λ{j}=>hwr▸ca;haveI wl:wr.reverse.length<=8:=by rw [b8,<-hwr];exact aa (dq _ _) (aa ll h5)
 haveI ndn:(ps.map ao).Nodup:=by refine List.pairwise_map.mpr (ib (λ{a b} ha hb hab e=>?_) (nq.mp nd.2).2);exact hab (ao a) (vC (h8 a ha)) (ao a) (e▸vC (h8 b hb)) rfl
 refine eD (FI7 π σ (pA S nm r (hrs++[S.clock])) (j6 nm rl m s ps) p (.ref r) i l wr ps nm) (f:=ni) (l:=wr.reverse) (ae rfl) (λ_ _ _ _=>congrArg some gU.symm) (aa wl (by decide))
  ⟨none,_,[],rfl,⟨h1,g1,up⟩,Sp.refl _,⟨aa (au (dw _)) (br 60 wl),rfl⟩,⟨(kX _).nodup_iff.mpr (hwr▸List.filter_sublist.nodup ln),λj hj=>haveI hj:=wrm.mp (dD.mp hj);⟨lb j hj.1,hj.2⟩⟩,hh⟩
  (λj js ρ' H' hI K' hK=>g9 hI λo S' dn e hS sp hl hj hn=>?_) λρ' H' hI=>g9 hI λo S' dn e hS sp hld _ hn=>?_
 ·subst e;have lt:=hj.2 j (.head _);have hm:=oF lt.1;have nj':=bk.mp hj.1;haveI ee:eJ π (here (pA S nm r (hrs++[S.clock]))) ((dn++[j]).map (nj ps))=eJ π (here (pA S nm r (hrs++[S.clock]))) (dn.map (nj ps))++eE (here S') (nms k (pj ps j)):=by rw [aJ];refine AQ.trans ?_;rw [<-sp.hr,esb hm]
  refine dY hS.1 rfl rfl (aq (aR rfl) (ae rfl) (yX (lw lt.1))) (uY (m:=2*k) (aa (br 2 k7) (aa (N1 (n:=n) (d:=d) (by decide:14<=19)) (bf _))) (E7 (h8 _ hm) (uC rt.rd.nd hm) nm (hx hm) hS.1 hS.2.1 (λc m hc _=>hS.2.2 c m hc) lt.2 ?_ λS'' H'' hS' gS' sp' hh'=>hK _ _ ⟨_,S'',dn++[j],rfl,⟨hS',gS',hh'▸wS (h8 _ hm) hS.2.2⟩,?_,⟨?_,(an dn [j] js).trans hl.2⟩,⟨nj'.2,λt ht=>⟨(hj.2 t (.tail _ ht)).1,?_⟩⟩,?_⟩))
  ·rw [sp.ev,ah];exact aa (aH (hln hm) _) (Fw hl.1 (aa (aH (by decide) _) hb9))
  ·rw [ee];exact sp.trans sp'
  ·rw [ee,ah];exact JQ hl.1 (aa og (hln hm))
  ·rw [hh'];exact i7.mpr ⟨dj nd.2 (lw (hj.2 t (.tail _ ht)).1) (lw lt.1) (λz=>nj'.1 (z▸ht)) (vC (h8 _ (oF (hj.2 t (.tail _ ht)).1))),(hj.2 t (.tail _ ht)).2⟩
  ·rw [hh'];exact i7.mpr ⟨hx hm,hn⟩
 ·subst e;have edn:dn=wr.reverse:=(aC dn).symm.trans hld.2;subst edn;generalize hcd:(λj=>gH (ni j) (ni i)||(((wr.map ni).any λy=>gH y (ni j))&& !Cv (pj ps j)))=cd;refine eD (FI8 π σ (pA S nm r (hrs++[S.clock])) (j6 nm rl m s ps) p (.ref r) i l wr ps nm (eJ π (here (pA S nm r (hrs++[S.clock]))) (wr.reverse.map (nj ps))) cd) (f:=ni) (l:=l) (ae rfl) (λ_ _ _ _=>rfl) (aa ll (aa h5 (by decide)))
   ⟨o,none,S',[],rfl,⟨hS.1,hS.2.1⟩,hS.2.2,(aC _).symm▸sp,by rw [show(([]:List Nat).filter cd).flatMap (λj=>π.sb (nj ps j))=[]from rfl,Ey,aC];exact bU hld.1 (br 60 (aa ll h5)),⟨rfl,lb⟩,hn⟩
   (λj js ρ' H' hI K' hK=>AI hI λo o' S' dn e hS hu sp hl' hj hn=>?_) λρ' H' hI=>AI hI λo o' S' dn _ hS hu sp hl' hj _=>qS hS.1 hS.2 sp (aa hl' (bL _ _)) hu λt h et eh=>?_
  case refine_2=>
   haveI edl:dn=l:=(aC dn).symm.trans hj.1;haveI z:eJ π (here (pA S nm r (hrs++[S.clock]))) (wr.reverse.map (nj ps))++((dn.filter cd).flatMap λj=>π.sb (nj ps j)).map .beg=Cz π (here S) nm i (ao p):=by rw [edl,<-hl,<-hcd];exact FY (h:=here S) md.ru (md.kd.trans rfl) hi npi ndn (λp hp=>hmd hp) (by rw [<-hwr,<-hl])
   haveI ekd:π.kd nm=ps.map ao:=md.kd;rw [z,eA,<-eh,<-et];refine .here rfl (et.symm▸cp) rfl rfl hle ?_ ?_
   ·rw [ekd,et,<-npi];show(ps.map ao)[i]? =_;rw [aV,lw hi];rfl
   ·rw [eh,ekd];exact λm hm h0=>av (aK.mp hm) λv hv ev=>by subst ev;rw [esb hv];exact yQ (h8 v hv) (x:=nm) (λc m hc _=>up c m hc) (hx hv) h0
  subst e;haveI lt:=hj.2 j (.head _);haveI hm:=oF lt;have ec:∀(dn:List Nat),(dn++[j]).filter cd=dn.filter cd++if cd j=true then [j]else []:=λdn=>by
   rw [fZ];refine congrArg _ ?_;cases z:cd j with
   |true=>exact cR z
   |false=>exact eG (by rw [z];exact ai)
  haveI es:cd j=false->eJ π (here (pA S nm r (hrs++[S.clock]))) (wr.reverse.map (nj ps))++(((dn++[j]).filter cd).flatMap λj=>π.sb (nj ps j)).map .beg=eJ π (here (pA S nm r (hrs++[S.clock]))) (wr.reverse.map (nj ps))++((dn.filter cd).flatMap λj=>π.sb (nj ps j)).map .beg:=λz=>by rw [ec,z,if_neg ai,aC]
  haveI et:cd j=true->eJ π (here (pA S nm r (hrs++[S.clock]))) (wr.reverse.map (nj ps))++(((dn++[j]).filter cd).flatMap λj=>π.sb (nj ps j)).map .beg=(eJ π (here (pA S nm r (hrs++[S.clock]))) (wr.reverse.map (nj ps))++((dn.filter cd).flatMap λj=>π.sb (nj ps j)).map .beg)++(nms k (pj ps j)).map .beg:=λz=>by rw [ec,z,if_pos rfl,bu,aJ,an,<-esb hm];exact congrArg (λt=>_++(_++jp Evt.beg t)) (aC _)
  refine bp (aq (aR rfl) (ae rfl) (yX (lw lt))) (bQ rfl) (cU (s:=cd j) (hcd▸fK (aq (ae rfl) (ae rfl) (ft b7 b7)) λ_=>cW (aq (ae rfl) (ae rfl) (yI (f:=ni) rfl λ_=>trivial)) λ_=>c9 (sG (h8 _ hm) rfl)) (λhc=>?_) λhc=>hK _ _ ⟨_,_,S',dn++[j],rfl,hS,hu,(es hc).symm▸sp,(es hc).symm▸aa (aH (br 60 (bf _)) _) hl',⟨(an dn [j] js).trans hj.1,λt ht=>hj.2 t (.tail _ ht)⟩,hn⟩);refine dY hS.1 rfl rfl (ae rfl) (uY (m:=k) (aa k7 (aa (N1 (n:=n) (d:=d) (by decide:7<=19)) (bf _))) (vL (h8 _ hm) hS.1 hS.2 ?_ λS'' H'' hS' gS' sp'=>hK _ _ ⟨_,_,S'',dn++[j],rfl,⟨hS',gS'⟩,?_,(et hc).symm▸sp.trans sp',?_,⟨(an dn [j] js).trans hj.1,λt ht=>hj.2 t (.tail _ ht)⟩,?_⟩))
  ·rw [sp.ev,ah];exact aa (aH (hln hm) _) (Fw hl' hb9)
  ·rw [sp'.hr];exact Hm (h8 _ hm) ((h7 _).mpr ⟨_,hm,rfl⟩) hn hu
  ·rw [et hc,ah,ak];exact JQ hl' (hln hm)
  ·rw [sp'.hr];exact qz.mpr (.inr hn)) rt hh
theorem un:vU π σ d/\Ib π σ d:=by
 induction d with
 |zero=>exact⟨An,zk An⟩
 |succ d ih=>exact⟨zG ih.2,zk (zG ih.2)⟩
end
inductive LV:V->Prop
 |add {i:Int}:-1000000000<=i/\i<=1000000000->LV (.tup [.str ['a','d','d'],.int i])
 |fault:LV (.tup [.str ['f','a','u','l','t']])
 |leave:LV (.tup [.str ['l','e','a','v','e']])
def Evt.ok(π:PI):Evt->Prop
 |.sent n _ l=>π.isW n=some false/\LV l
 |.works n _|.lost n _=>π.isW n=some false
 |.beg n|.end_ n|.fail n|.leave n=>(π.isW n).isSome=true
noncomputable def qS(S:Hst)(n:Nm):List (Nat×V):=((dX n S.qu).map (·.2)).getD []
structure Iv(π:PI)(S:Hst):Prop where
 gd:Gd π S
 up:Up π (here S)
 nm:∀e∈S.ev,e.ok π
 qk:∀n,eK n S.qu=true↔π.isW n=some false
 lv:∀p∈S.qu,∀q∈p.2.2,LV q.2
 lq:S.qu.length<=60
section
variable {π:PI}{S S':Hst}{es:List Evt}{n:Nm}
theorem BR(nm:∀e∈es,e.plain π):∀e∈es,e.ok π:=λe he=>by
 have p:=nm e he;cases e with
 |beg _|end_ _|fail _|leave _=>exact p
 |sent _ _ _|works _ _|lost _ _=>exact p.elim
theorem Iv.plain(iv:Iv π S)(sp:Sp π k0 S S' es)(gd:Gd π S')(up:Up π (here S')):Iv π S':=⟨gd,up,sp.ev▸dk iv.nm (BR sp.nm),sp.qu▸iv.qk,sp.qu▸iv.lv,sp.qu▸iv.lq⟩
theorem rC{α:Type}{x:α}{l:AL α}(h:eK n l=true):eK m (dh n x l)=true↔eK m l=true:=⟨λq=>(iB q).elim (λe=>e▸h) id,oX⟩
theorem mF(e:dX n S.qu=some x):qS S n=x.2:=by unfold qS;rw [e];rfl
theorem uA:qS (pQ S n x f)=λm=>if m=n then x.2 else qS S m:=funext λm=>by
 refine(?_:((dX m (dh n x S.qu)).map (·.2)).getD []=_);rw [kA];by_cases h:m=n
 ·rw [if_pos h,if_pos h];rfl
 ·rw [if_neg h,if_neg h];rfl
structure Pl(π:PI)(σ:Ad):Prop where
 nm:∀m,(π.isW m).isSome=true->m∈σ.names
 ok:∀m∈σ.names,o0 m
 le:σ.names.length<=60
 pt:∀m∈σ.names,∃d k v,(d<=6/\(d=0->π.isW m=some true))/\Rt π σ d k v/\ao v=m/\fo m σ.names σ.partVs=some v
 top:Pt π 7 σ.plan
 nd:σ.names.Nodup
end
structure Ab where
 h:Nm->Bool
 k:Nm->List Int
 s:Nm->Int
 q:Nm->List (Nat×V)
 ev:List Evt
 t:Int
 lt:Nat
noncomputable def iU(S:Hst):Ab:=⟨here S,ii S,m5 S,qS S,S.ev,S.clock,S.letters⟩
noncomputable def jq{α:Type}(f:Nm->α)(n:Nm)(x:α):Nm->α:=λm=>if m=n then x else f m
noncomputable def aF(es:List Evt)(k':Nm->List Int)(A:Ab):Ab:={A with h:=es.foldl hr A.h,k:=λc=>es.foldl (kr c) (k' c),s:=λc=>es.foldl (nN c) (A.s c),ev:=A.ev++es}
noncomputable def oS(h:Nm->Bool)(q:Nm->List (Nat×V))(ns:List Nm):List Evt:=ns.flatMap λn=>if h n=true then []else(q n).map λp=>.lost n p.1
noncomputable def aL(ns:List Nm)(A:Ab):Ab:={A with q:=λn=>if A.h n=true then A.q n else [],ev:=A.ev++oS A.h A.q ns}
noncomputable def aS(m:Nm)(l:V)(A:Ab):Ab:={A with q:=jq A.q m (A.q m++[(A.lt+1,l)]),ev:=A.ev++[.sent m (A.lt+1) l],lt:=A.lt+1}
noncomputable def aT(A:Ab):Ab:={A with t:=A.t+1}
noncomputable def aW(m:Nm)(k0:Nat)(ps:List (Nat×V))(A:Ab):Ab:={A with t:=A.t+1,q:=jq A.q m ps,ev:=A.ev++[.works m k0]}
noncomputable def aD(m:Nm)(i:Int)(A:Ab):Ab:={A with s:=jq A.s m (A.s m+i)}
inductive Wk(π:PI)(m:Nm)(k0:Nat)(ps:List (Nat×V))(A:Ab):V->Ab->Prop
 |add {i:Int}:Wk π m k0 ps A (.tup [.str ['a','d','d'],.int i]) (aD m i (aW m k0 ps A))
 |fault {es:List Evt} {k':Nm->List Int}:Fe π (A.t+1) (cF π m) A.h A.k (.fail m) es k'->Wk π m k0 ps A (.tup [.str ['f','a','u','l','t']]) (aF es k' (aW m k0 ps A))
 |leave {es:List Evt} {k':Nm->List Int}:Fe π (A.t+1) (π.al m) A.h A.k (.leave m) es k'->Wk π m k0 ps A (.tup [.str ['l','e','a','v','e']]) (aF es k' (aW m k0 ps A))
inductive De(π:PI)(ns:List Nm)(A:Ab):V->Ab->Prop
 |send {m:Nm} {l:V}:De π ns A (.tup [.str ['s','e','n','d'],.str m,l]) (aS m l A)
 |work {m:Nm} {k0:Nat} {l:V} {ps:List (Nat×V)} {A2:Ab}:A.q m=(k0,l)::ps->Wk π m k0 ps A l A2->De π ns A (.tup [.str ['w','o','r','k'],.str m]) (aL ns A2)
 |fail {m:Nm} {es:List Evt} {k':Nm->List Int}:Fe π (A.t+1) (cF π m) A.h A.k (.fail m) es k'->De π ns A (.tup [.str ['f','a','i','l'],.str m]) (aL ns (aF es k' (aT A)))
noncomputable def MZ(S:Hst)(es:List Evt):Hst:={S with ev:=S.ev++es}
theorem iI(h:H[a]? =some (.dict ks vs)):be P false (.cop .notin) [.str n,.ref a] H=some (.bool (!ks.contains n),H):=by show(((M2 H (.str n) (.ref a) (H[a]?.bind O.lst))).map _).map _=_;rw [h];show(((H[a]?.bind O.dct).bind _).map _).map _=_;rw [h];rfl
theorem gu(h:H[r]? =some (.list vs)):jB false H (.ref r)=some vs:=by show H[r]?.bind O.lst=_;rw [h];rfl
structure Lz(S S':Hst):Prop where
 lt:S'.letters=S.letters
 pr:S'.pres=S.pres
 sm:S'.sums=S.sums
 kp:S'.kept=S.kept
 ck:S'.clock=S.clock
def LI(π:PI)(σ:Ad)(S:Hst)(its:List Nm)(ρ:Fm)(H:AH):Prop:=
 ∃a b c S' dn,ρ=[some (.ref σ.i),a,b,c]/\Hs σ S' H/\Iv π S'/\Lz S S'/\S'.ev.length+its.length*S.letters<=S.ev.length+60*S.letters/\(dn++its=σ.names/\S'.ev=S.ev++oS (here S) (qS S) dn/\∀n,qS S' n=if here S n=false/\n∈dn then []else qS S n)
def LJ(σ:Ad)(S:Hst)(n:Nm)(q its:List (Nat×V))(ρ:Fm)(H:AH):Prop:=
 ∃b c dn,ρ=[some (.ref σ.i),some (.str n),b,c]/\dn++its=q/\Hs σ (MZ S (dn.map λp=>.lost n p.1)) H
theorem Gd.mono(g:Gd π S)(e1:S'.pres=S.pres)(e2:S'.kept=S.kept)(e3:S'.sums=S.sums)(e4:S'.kl=S.kl)(le:S.ev.length<=S'.ev.length):Gd π S':=by
 refine⟨?_,?_,?_,?_,?_,?_,?_,?_⟩
 ·rw [e1,e2];exact g.kw
 ·rw [e1,e3];exact g.ks
 ·rw [e1];exact aa g.lp le
 ·rw [e2];exact aa g.lk le
 ·rw [e3];exact aa g.ls le
 ·rw [e4];exact aa g.ll le
 ·rw [e2];exact g.ko
 ·rw [e3];exact g.so
theorem eO{α:Type}{a b:List α}:a.length<=(a++b).length:=aa (ax _ _) (au ah.symm)
theorem zB(h:a+(m+1)*l<=c)(hb:b<=l):a+b+m*l<=c:=by rw [Nat.succ_mul,db (m*l),<-bD]at h;exact aa (aZ (aH hb a) _) h
theorem nf(pl:Pl π σ)(h:π.isW n=some false):n∈σ.names:=pl.nm n (congrArg c6 h)
theorem tB:oS h q (dn++[n])=oS h q dn++if h n=true then []else(q n).map λp=>.lost n p.1:=by unfold oS;rw [bu];exact congrArg _ (aC _)
theorem I8(pl:Pl π σ)(h:Hs σ S H)(iv:Iv π S)(hb:S.ev.length+60*S.letters<=900000)
  (q:∀S' H',Hs σ S' H'->Iv π S'->S'.letters=S.letters->S'.ev.length<=S.ev.length+60*S.letters->iU S'=aL σ.names (iU S)->Q .none H'):aQ PL (n+1) 54 [.ref σ.i] H Q X:=by
 refine cf G4 rfl (eD (LI π σ S) (f:=V.str) (l:=σ.names) (c8 h rfl rfl) (λ_ _ _ q=>Bg q λa b c S' dn _ hS _ _ _ _=>gu (hS.get 2 rfl)) (aa pl.le (by decide))
  ⟨none,none,none,S,[],rfl,h,iv,⟨rfl,rfl,rfl,rfl,rfl⟩,aH (Js _ pl.le) _,rfl,(aC _).symm,λn=>(if_neg λz=>bl z.2).symm⟩
  (λx xs ρ' H' hI K' hK=>Bg hI λa b c S' dn e hS iS hl hn he=>?_) λρ' H' hI=>Bg hI λa b c S' dn _ hS iS hl hn he=>q S' H' hS iS hl.lt (aa (ax _ _) hn) ?_)
 case refine_2=>
  have ed:dn=σ.names:=(aC dn).symm.trans he.1;have eh:here S'=here S:=congrArg (λl m=>eK m l) hl.pr;have eq:qS S'=λn=>if here S n=true then qS S n else []:=funext λn=>by
   rw [he.2.2 n];by_cases z:here S n=true
   ·rw [if_neg λy=>ai (y.1.symm.trans z),if_pos z]
   ·rw [if_neg z];by_cases y:n∈dn
    ·rw [if_pos ⟨dm.mpr z,y⟩]
    ·rw [if_neg λw=>y w.2];unfold qS;refine fS (o:=dX n S.qu) (λe=>by rw [e];rfl) λx e=>absurd (nf pl ((iv.qk n).mp (eS.mpr ⟨x,bZ e⟩))) (ed▸y)
  refine(?_:(⟨here S',ii S',m5 S',qS S',S'.ev,S'.clock,S'.letters⟩:Ab)=⟨here S,ii S,m5 S,λn=>if here S n=true then qS S n else [],S.ev++oS (here S) (qS S) σ.names,S.clock,S.letters⟩);rw [eh,eq,he.2.1,ed,hl.ck,hl.lt,show ii S'=ii S from congrArg (λ(l:AL (Nat×List Int)) c=>((dX c l).map j5).getD []) hl.kp,show m5 S'=m5 S from congrArg (λ(l:AL Int) c=>(dX c l).getD 0) hl.sm]
 subst e;have hs:S'.ev.length+S'.letters<=900000:=by rw [hl.lt];exact aa (ax _ _) (aa (zB hn (aM _)) hb)
 have eh:here S'=here S:=congrArg (λl m=>eK m l) hl.pr;have xd:x∉dn:=λz=>(bj.mp (he.1▸pl.nd)).2.2 x z x (.head _) rfl;have ed:(dn++[x])++xs=σ.names:=(an dn [x] xs).trans he.1;have qx:qS S' x=qS S x:=(he.2.2 x).trans (if_neg λz=>xd z.2);refine cU (cW (aq (ae rfl) (c8 hS rfl rfl) (t8 (hS.get 8 rfl))) λ_=>aq (ae rfl) (c8 hS rfl rfl) (iI (hS.get 5 rfl))) (λhc=>?_) λhc=>hK _ _ ⟨_,b,c,S',dn++[x],rfl,hS,iS,hl,aa (aH (Js _ (bf _)) _) hn,ed,?_,λn=>?_⟩
 ·have hc:=ay.mp hc;have hx:here S x=false:=eh▸(cu _▸hc.2:here S' x=false);haveI hw:=(iS.qk x).mp hc.1;refine(gO hc.1).elim λrq er=>?_;haveI hq:=hS.qp _ (bZ er);haveI le:rq.2.length<=aB:=aa hq.2.2 (aa (bL _ _) (aa hs (by decide)));refine vF (st:=λp ρ=>(ρ.set 2 (some (.int p.1))).set 3 (some p.2)) (f:=oJ) (λ_ _=>rfl) (LJ σ S' x rq.2) (l:=rq.2) (v:=.ref rq.1) (aq (c8 hS rfl rfl) (ae rfl) (mZ (val:=KR) (hS.get 8 rfl) er)) (λ_ _ _ q=>ja q λb c dn _ _ hD=>gu (hD.qp _ (bZ er)).2.1) le
   ⟨b,c,[],rfl,rfl,by unfold MZ;rw [Ey,aC];exact hS⟩ (λp ps ρ' H' q K' hK=>ja q λb c dn e ed hD=>?_) λρ' H' q=>ja q λb c dn' e ed' hD=>?_
  ·subst e;refine ny hD rfl (.lost x p.1) (aR rfl) ?_ λH3 h3=>hK _ _ ⟨_,_,dn++[p],rfl,(an dn [p] ps).trans ed,?_⟩
   ·refine (?_:(S'.ev++dn.map _).length<=_);rw [ah,ak];refine aa (aH (aa ?_ hq.2.2) _) (aa hs (by decide));rw [<-ed,ah];exact ax _ _
   ·unfold MZ;rw [aJ,<-an];exact h3
  ·subst e;haveI ed':dn'=rq.2:=(aC dn').symm.trans ed';subst ed';refine yK hD rfl (λ_=>ae rfl) (aa iS.lq (by decide)) λr f H' h'=>hK _ _ ⟨_,_,_,_,dn++[x],rfl,h',⟨iS.gd.mono rfl rfl rfl rfl eO,iS.up,dk iS.nm λe he=>av (aK.mp he) λ_ _ z=>z▸hw,λm=>(rC hc.1).trans (iS.qk m),λp hp=>(ka hp).elim (λe=>e▸qA) (iS.lv p),aa (au (mh hc.1)) iS.lq⟩,⟨hl.lt,hl.pr,hl.sm,hl.kp,hl.ck⟩,?_,ed,?_,λn=>?_⟩
   ·show (S'.ev++_).length+_<=_;rw [ah,ak];exact zB hn (hl.lt▸hq.2.2)
   ·show S'.ev++_=_;rw [he.2.1,tB,hx,if_neg ai,an,<-qx,mF er]
   ·refine (congrFun (uA (S:=MZ S' _) (n:=x) (x:=(r,[])) (f:=f)) n).trans ?_;refine(?_:(if n=x then []else qS S' n)=_);by_cases z:n=x
    ·rw [if_pos z,if_pos ⟨z▸hx,z▸az _ (.head _)⟩]
    ·rw [if_neg z,he.2.2 n];by_cases y:here S n=false/\n∈dn
     ·rw [if_pos y,if_pos ⟨y.1,aI _ y.2⟩]
     ·rw [if_neg y,if_neg λw=>y ⟨w.1,(b9.mp w.2).elim id λw=>absurd (in1 w) z⟩]
 ·have e0:(if here S x=true then []else(qS S x).map λp=>Evt.lost x p.1)=[]:=by
   by_cases z:here S x=true
   ·rw [if_pos z]
   ·rw [if_neg z,<-qx];haveI hc:(eK x S'.qu&& !here S' x)=false:=hc;rw [eh,dm.mpr z]at hc;have hc:eK x S'.qu=false:=by
     cases y:eK x S'.qu with
     |false=>rfl
     |true=>rw [y]at hc;exact absurd hc (gW:¬true=false)
    unfold qS;refine fS (o:=dX x S'.qu) (λe=>by rw [e];rfl) λy e=>absurd (eS.mpr ⟨y,bZ e⟩) (by rw [hc];exact ai)
  rw [he.2.1,tB,e0,aC]
 ·rw [he.2.2 n];by_cases y:here S n=false/\n∈dn
  ·rw [if_pos y,if_pos ⟨y.1,aI _ y.2⟩]
  ·rw [if_neg y];by_cases w:here S n=false/\n∈dn++[x]
   ·rw [if_pos w];haveI ex:n=x:=(b9.mp w.2).elim (λz=>absurd ⟨w.1,z⟩ y) in1;subst ex;haveI hc:(eK n S'.qu&& !here S' n)=false:=hc;rw [eh,w.1]at hc;rw [<-qx];unfold qS;refine fS (o:=dX n S'.qu) (λe=>by rw [e];rfl) λy e=>absurd (show eK n S'.qu=true from eS.mpr ⟨y,bZ e⟩) (λz=>by rw [z]at hc;exact absurd hc (gW:¬true=false))
   ·rw [if_neg w]
section
variable {n:Nat}{H:AH}{Q:QE}{X:XE}
theorem f1(h:a<=i/\i<=b)(q:Q (.bool true) H):aQ PL (n+1) 0 [.int i,.int a,.int b] H Q X:=
 cf J2 rfl (bx (cW (s:=true) (t:=true) (aR rfl) λ_=>cW (s:=true) (t:=true) (aR rfl) λ_=>du (BC (ae rfl) (ae rfl) (ae rfl)) (by rw [decide_eq_true h.1,decide_eq_true h.2];rfl)) q)
theorem f2(h:o0 s)(q:Q (.bool true) H):aQ PL (n+1) 1 [.str s] H Q X:=by
 refine cf Ll rfl (bK (fK (s:=false) (t:=false) (aR rfl) λ_=>c9 (s:=true) (du (BC (i:=1) (j:=s.length) (k:=8) am (bY (ae rfl) rz) am) ?_)) (bx (bY (lO (l:=s) (f:=λc=>.str [c]) (g:=λc=>.bool (vm.contains c)) (ae rfl) rfl (aa h.2.1 (by decide)) λ_ _=>aR rfl) ?_) q))
 ·rw [decide_eq_true (show(1:Int)<=s.length from bW.mpr h.1),decide_eq_true (show(s.length:Int)<=8 from bW.mpr h.2.1)];rfl
 ·rw [show(s.map λc=>V.bool (vm.contains c))=(s.map λc=>vm.contains c).map V.bool from bM.symm,AW,List.all_map];exact congrArg (λt=>some (V.bool t,H)) (bN.mpr λc hc=>bh.mpr (h.2.2 c hc))
theorem f3(h:LV v)(q:Q (.bool true) H):aQ PL (n+2) 2 [v] H Q X:=by
 induction h with
 |add h=>exact cf yF rfl (bK (aR rfl) (cV (aR rfl) (bx (cW (s:=true) (t:=true) (aR rfl) λ_=>fR (aR rfl) (aR rfl) (aR rfl) λQ q=>f1 h q) q)))
 |fault=>exact cf yF rfl (bK (aR rfl) (bK (aR rfl) (bx (aR rfl) q)))
 |leave=>exact cf yF rfl (bK (aR rfl) (bK (aR rfl) (bx (aR rfl) q)))
end
section
variable {P:Prog}{C:Calls}{ρ:Fm}{H:AH}{K:KS}{R:QE}{X:XE}{ss:List St}{σ:Ad}{S S':Hst}{n nm:Nm}{e:Ex}{x:V}
theorem jy(h:Hs σ S H)(h0:ρ[i]? =some (some (.ref σ.i)))(hn:hk.contains nm=false)(hc:∀Q:QE,Q x H->C f [.ref σ.i] H Q X):Ev P C ρ H X (.m 0 f nm (.v i) []) x:=λQ q=>ae (P:=P) (C:=C) (X:=X) h0 (λv H₁=>gr H₁ 0 nm v=true/\gc P C [] ρ H₁ (λvs H'=>C f (v::vs) H' Q X) X) ⟨lJ h hn,hc Q q⟩
theorem oj(h:Hs σ S H)(h0:ρ[i]? =some (some (.ref σ.i)))(hn:hk.contains nm=false)(ha:Ev P C ρ H X a y)(hc:∀Q:QE,Q x H->C f [.ref σ.i,y] H Q X):Ev P C ρ H X (.m 0 f nm (.v i) [a]) x:=λQ q=>ae (P:=P) (C:=C) (X:=X) h0 (λv H₁=>gr H₁ 0 nm v=true/\gc P C [a] ρ H₁ (λvs H'=>C f (v::vs) H' Q X) X) ⟨lJ h hn,ha _ (hc Q q)⟩
theorem rA(h:Hs σ S H)(h0:ρ[0]? =some (some (.ref σ.i)))(he:Ev P C ρ H X e x)(ed:d9 nm x hk (hv σ S)=(hk,hv σ S'))(ef:hH σ S'=(hH σ S).set 0 (σ.d,.ns hk (hv σ S')))(ek:S'.kept=S.kept)(eq:S'.qu=S.qu)(eo:S'.own=S.own)(el:S.kl<=S'.kl/\S.letters<=S'.letters)(ep:S'.pres=S.pres)(k:∀H',Hs σ S' H'->a8 P C ss ρ H' K R X) :
  a8 P C (.setAttr (.v 0) nm e::ss) ρ H K R X:=by
 haveI z:ik (.ref σ.i) nm x H=some (H.set σ.d (.ns hk (hv σ S'))):=by show(gq H (.ref σ.i)).bind _=_;rw [yJ h];show some (H.set σ.d (.ns (d9 nm x hk (hv σ S)).1 (d9 nm x hk (hv σ S)).2))=_;rw [ed]
 exact he _ (ae (P:=P) (C:=C) (X:=X) h0 _ (by rw [z];exact k _ (h.set 0 rfl ef rfl ek eq eo el (ep▸h.pn))))
noncomputable def pC(S:Hst)(c:Int):Hst:={S with clock:=c}
noncomputable def pN(S:Hst)(c:Nat):Hst:={S with letters:=c}
theorem Hs.quSet(h:Hs σ S H)(e:dX n S.qu=some (r,q))(hl:q'.length<=S.letters):Hs σ (pQ S n (r,q') S.own) (H.set r (.list (q'.map oJ))):=by
 haveI hp:=h.qp _ (bZ e);have ho:=hp.1;haveI hlt:r<H.length:=(af.mp hp.2.1).1;haveI ef:hH σ (pQ S n (r,q') S.own)=hH σ S:=by unfold hH;rw [show(pQ S n (r,q') S.own).qu=dh n (r,q') S.qu from rfl,vK (val:=KR) (y:=(r,q')) e rfl];rfl
 refine⟨ef▸h.nd,ef▸λp hp=>⟨(bv λz=>fm ((h.fix p hp).2.symm.trans (z▸ho))).trans (h.fix p hp).1,(h.fix p hp).2⟩,λp hp=>⟨(h.kp p hp).1,(bv λz=>?_).trans (h.kp p hp).2.1,(h.kp p hp).2.2⟩,λp hp=>(qy h.qn hp).elim (λz=>z▸⟨ho,bX hlt,hl⟩) λz=>haveI y:=h.qp p z.1;⟨y.1,(bv λw=>z.2 ?_).trans y.2.1,y.2.2⟩,ma h.qn,h.pn,h.kn,λb hb=>h.fr b (aa (au aU.symm) hb)⟩
 ·exact absurd (congrArg nL (aj (ho.symm.trans ((congrArg S.own z).trans (h.kp p hp).1)))) ai
 ·exact congrArg j5 (aj (y.1.symm.trans (w▸ho)))
theorem sR{i:Nat}{x:Nat×List (Nat×V)}(h:Hs σ S H)(h0:ρ[0]? =some (some (.ref σ.i)))(hi:ρ[i]? =some (some (.str n)))(e:dX n S.qu=some x):Ev P C ρ H X (.p false .i [qW ['q','u','e','u','e','s'],.v i]) (.ref x.1):=aq (c8 h h0 rfl) (ae hi) (mZ (val:=KR) (h.get 8 rfl) e)
end
theorem iT(h:j<=n):iK n (j:Int)=j:=by
 unfold iK;rw [if_neg (cN.mpr (bn j))];by_cases q:(j:Int)<n
 ·rw [if_pos q];rfl
 ·rw [if_neg q];exact mQ (bW.mp (cN.mp q)) h
theorem qY{α:Type}{a b:List α}:bB (a++b) (iK (a++b).length (a.length:Int)) (a++b).length=b:=by rw [iT (eO (a:=a) (b:=b))];unfold bB;rw [iZ,List.drop_left]
structure At(π:PI)(σ:Ad)(S:Hst)(H:AH):Prop where
 hs:Hs σ S H
 iv:Iv π S
theorem At.app(A:At π σ S H):At π σ S (H++L):=⟨A.hs.app,A.iv⟩
def MH(π:PI)(σ:Ad)(S:Hst)(dv:V)(b:Nat)(Q:QE):Prop:=∀S' H' es,At π σ S' H'->S'.letters<=S.letters+1->S'.ev.length<=S.ev.length+b->De π σ.names (iU S) dv (iU S')->S'.ev=S.ev++es->Q (.lst (es.map Evt.v)) H'
section
variable {π:PI}{σ:Ad}{n:Nat}{S:Hst}{H:AH}{Q:QE}{X:XE}{m:Nm}
theorem Nw(pl:Pl π σ)(h:Hs σ S H)(no:here S (ao σ.plan)=false->X 6 H)(q:here S (ao σ.plan)=true->Q .none H):aQ PL (n+2) 55 [.ref σ.i] H Q X:=
 cf FZ rfl (cU (c9 (jy h rfl rfl λQ q=>cf BF rfl (bx (mc h rfl (aq (c8 h rfl rfl) am (vN pl.top))) q))) (λz=>no (cu _▸z)) λz=>q (dA _▸z))
theorem M3(h:Hs σ S H)(hn:o0 m)(hq:eK m S.qu=true)(q:Q .none H):aQ PL (n+2) 56 [.ref σ.i,.str m] H Q X:=
 cf I2 rfl (bK (fK (s:=false) (t:=false) (c9 (s:=true) (dF (ae rfl) λQ q=>f2 hn q)) λ_=>du (aq (ae rfl) (c8 h rfl rfl) (iI (h.get 8 rfl))) (congrArg (λt=>V.bool (!t)) hq)) q)
theorem Oe(h:Hs σ S H)(no:here S m=false->X 4 H)(q:here S m=true->Q .none H):aQ PL (n+1) 57 [.ref σ.i,.str m] H Q X:=
 cf y7 rfl (cU (aq (ae rfl) (c8 h rfl rfl) (iI (h.get 5 rfl))) (λz=>no (cu _▸z)) λz=>q (dA _▸z))
theorem rS(h:H[i]? =some (.list vs))(hl:vs.length<=aB):be P false .slice [.ref i,.int z,.none] H=some (.lst (bB vs (iK vs.length z) vs.length),H):=by show((H[i]?.bind O.lst).bind _).map _=_;rw [h];show(if vs.length<=aB then some _ else none:Option V).map _=_;rw [if_pos hl];rfl
theorem su(pl:Pl π σ)(h:Hs σ S₂ H)(iv:Iv π S₂)(ev:S₂.ev=S.ev++es)(lt:S₂.letters=S.letters)(hl:es.length<=1382)(de:De π σ.names (iU S) dv (aL σ.names (iU S₂)))(h0:ρ[0]? =some (some (.ref σ.i)))(h2:ρ[2]? =some (some (.int (S.ev.map Evt.v).length)))(hL:S.letters<=110)(hb:S.ev.length+8000<=900000)(q:MH π σ S dv 8000 Q) :
  a8 PL (aQ PL (n+1)) [(.e (.m 0 54 ['l','o','s','e'] (.v 0) [])),(.ret (.p false .slice [(qW ['e','v','e','n','t','s']),.v 2,.c .none]))] ρ H K Q X:=by
 have le:S₂.ev.length+6600<=S.ev.length+8000:=by rw [ev,ah,bD];exact aH (aa (aZ hl 6600) (by decide)) _
 have hL2:60*S₂.letters<=6600:=br 60 (lt.symm▸hL);refine l8 h h0 rfl (I8 pl h iv (aa (aH hL2 _) (aa le hb)) λS₃ H₃ h3 iv3 l3 zE ab=>?_);haveI zE:S₃.ev.length<=S.ev.length+8000:=aa zE (aa (aH hL2 _) le);have e3:S₃.ev=S.ev++(es++oS (here S₂) (qS S₂) σ.names):=(congrArg Ab.ev ab).trans ((congrArg (·++oS (here S₂) (qS S₂) σ.names) ev).trans (an ..));refine bx (iA (c8 h3 h0 rfl) (ae h2) am (rS (h3.get 9 rfl) (aa (au (ak _)) (aa zE (aa hb (by decide)))))) ?_;haveI z:=q S₃ H₃ _ ⟨h3,iv3⟩ (by rw [l3,lt];exact bf _) zE (ab▸de) e3;rw [e3,aJ,qY];exact z
theorem b6(h:d<=6):bF d<=1380:=aZ (br 60 (aA h)) 960
theorem fu(h:d<=6):2*d+20<=N+33:=aa (aZ (br 2 h) 20) (bL 32 (N+1))
theorem sD(sp:Sp π k' S S₂ es):iU S₂=aF es k' (iU S):=by show(⟨here S₂,ii S₂,m5 S₂,qS S₂,S₂.ev,S₂.clock,S₂.letters⟩:Ab)=⟨es.foldl hr (here S),λc=>es.foldl (kr c) (k' c),λc=>es.foldl (nN c) (m5 S c),qS S,S.ev++es,S.clock,S.letters⟩;rw [sp.hr,sp.ev,sp.ck,sp.lt,show ii S₂=_ from funext sp.kp,show m5 S₂=_ from funext sp.sm,show qS S₂=qS S from congrArg (λ(l:AL (Nat×List (Nat×V))) n=>((dX n l).map j5).getD []) sp.qu]
theorem f42(pl:Pl π σ)(A:At π σ S H)(hm:m∈σ.names)(hL:S.letters<=110)(hb:S.ev.length+8000<=900000)(x4:here S m=false->X 4 H)(x6:here S (ao σ.plan)=false->X 6 H)(q:here S (ao σ.plan)=true->here S m=true->MH π σ S (.tup [.str ['f','a','i','l'],.str m]) 8000 Q):aQ PL (n+34) 60 [.ref σ.i,.str m] H Q X:=by haveI h:=A.hs;refine qm (pl.pt m hm) λd k v hd rt en ed=>cf Ip rfl (l8 h rfl rfl (Nw pl h x6 λhr0=>bK (fK (s:=false) (t:=false) (c9 (s:=true) (dF (ae rfl) λQ q=>f2 (pl.ok m hm) q)) λ_=>du (aq (ae rfl) (c8 h rfl rfl) (iI (h.get 3 rfl))) (congrArg (λt=>V.bool (!t)) (bh.mpr hm))) (dY h rfl rfl (ae rfl) (Oe h x4 λhh=>?_))));refine bp (bY (c8 h rfl rfl) (fL (h.get 9 rfl))) (bQ rfl) (rA (S':=pC S (S.clock+1)) h rfl (aq (c8 h rfl rfl) am dN) rfl rfl rfl rfl rfl ⟨aM _,aM _⟩ rfl λH1 h1=>?_);have i1:Iv π (pC S (S.clock+1)):=⟨A.iv.gd.mono rfl rfl rfl rfl (aM _),A.iv.up,A.iv.nm,A.iv.qk,A.iv.lv,A.iv.lq⟩;refine dY h1 rfl rfl (x:=v) (aq (c8 h1 rfl rfl) (ae rfl) (jN (h1.get 3 rfl) ed)) (uY (fu hd.1) (un.1 rt h1 i1.gd i1.up (en▸hh) (aa (aH (aa (b6 hd.1) (by decide)) _) hb) λS2 H2 es k' h2 g2 sp hl up ch=>su (S:=S) pl h2 (i1.plain sp g2 up) sp.ev sp.lt (aa hl (aa (b6 hd.1) (by decide))) ?_ rfl rfl hL hb (q hr0 hh)));rw [sD sp];rw [en]at ch;exact .fail ch
end
theorem Fy(h:Ev P C ρ H X a x)(h2:Ev P C ρ H X b y)(h3:Ev P C ρ H X c u)(h4:Ev P C ρ H X d w)(e:be P false p [x,y,u,w] H=some (z,H)):Ev P C ρ H X (.p false p [a,b,c,d]) z:=λ_ q=>h _ (h2 _ (h3 _ (h4 _ (hE e q))))
section
variable {π:PI}{σ:Ad}{n:Nat}{S:Hst}{H:AH}{Q:QE}{X:XE}{m:Nm}
def MS(π:PI)(σ:Ad)(S:Hst)(m:Nm)(l:V)(b:Nat)(Q:QE):Prop:=∀S' H',At π σ S' H'->S'.letters<=S.letters+1->S'.ev.length<=S.ev.length+b->iU S'=aS m l (iU S)->Q (ni S'.letters) H'
theorem f40(pl:Pl π σ)(A:At π σ S H)(hm:π.isW m=some false)(lv:LV l)(hL:S.letters<=109)(hb:S.ev.length+8000<=900000)(x4:here S m=false->X 4 H)(x6:here S (ao σ.plan)=false->X 6 H)(q:here S (ao σ.plan)=true->here S m=true->MS π σ S m l 8000 Q):aQ PL (n+34) 58 [.ref σ.i,.str m,l] H Q X:=by
 have h:=A.hs;have hq:=(A.iv.qk m).mpr hm;haveI hs:S.ev.length<=aB:=aa (ax _ _) (aa hb (by decide));refine cf G3 rfl (l8 h rfl rfl (Nw pl h x6 λhr0=>bK (c9 (s:=true) (dF (ae rfl) λQ q=>f3 lv q)) (dY h rfl rfl (ae rfl) (M3 h (pl.ok m (nf pl hm)) hq (dY h rfl rfl (ae rfl) (Oe h x4 λhh=>?_))))));refine rA (S':=pN S (S.letters+1)) h rfl (aq (c8 h rfl rfl) am dN) rfl rfl rfl rfl rfl ⟨aM _,bf _⟩ rfl λH1 h1=>(gO hq).elim λx ex=>?_;haveI hx:=h1.qp _ (bZ ex);haveI hx':x.2.length<=S.letters:=(h.qp _ (bZ ex)).2.2;refine kL (sR h1 rfl rfl ex) (fb hx.2.1) (aq (c8 h1 rfl rfl) (ae rfl) (eM fx)) (hE (fh hx.2.1 ?_) ?_)
 ·rw [ak];exact aa hx' (aa hL (by decide))
 haveI h2:=h1.quSet (q':=x.2++[(S.letters+1,l)]) ex (aa (au ah) (aA hx'));rw [aJ]at h2;refine ny h2 rfl (.sent m (S.letters+1) l) (Fy am (ae rfl) (c8 h2 rfl rfl) (ae rfl) rfl) hs λH3 h3=>bx (c8 h3 rfl rfl) (q hr0 hh _ _ ⟨h3,⟨A.iv.gd.mono rfl rfl rfl rfl gp,A.iv.up,dk A.iv.nm (dz ⟨hm,lv⟩),λk=>(rC hq).trans (A.iv.qk k),λp hp=>(ka hp).elim (λe=>e▸dk (A.iv.lv _ (bZ ex)) (dz lv)) (A.iv.lv p),aa (au (mh hq)) A.iv.lq⟩⟩ (aM _) (aa (au ah) (aH (aG rfl) _)) ?_);exact congrArg (λq=>(⟨here S,ii S,m5 S,q,S.ev++[.sent m (S.letters+1) l],S.clock,S.letters+1⟩:Ab)) ((uA (S:=pN S (S.letters+1)) (n:=m) (x:=(x.1,x.2++[(S.letters+1,l)])) (f:=S.own)).trans (show _=jq (qS S) m (qS S m++[(S.letters+1,l)]) by rw [mF ex];rfl))
theorem f45(pl:Pl π σ)(h:Hs σ S H)(q:Q (.lst ((σ.names.filter (here S)).map V.str)) H):aQ PL (n+1) 63 [.ref σ.i] H Q X:=
 cf HW rfl (bx (jl (l:=σ.names) (f:=V.str) (g:=V.str) (c8 h rfl rfl) (gu (h.get 2 rfl)) (aa pl.le (by decide)) (λm _=>mc h rfl (ae rfl)) λ_ _ _=>ae rfl) q)
theorem yH(h:H[i]? =some (.list vs))(hl:vs.length<=aB):be P false .list [.ref i] H=some (.lst vs,H):=by show((H[i]?.bind O.lst).bind _).map _=_;rw [h];show(if vs.length<=aB then some _ else none:Option V).map _=_;rw [if_pos hl];rfl
theorem f46(h:Hs σ S H)(hb:S.ev.length<=900000)(q:Q (.lst (S.ev.map Evt.v)) H):aQ PL (n+1) 64 [.ref σ.i] H Q X:=
 cf Hd rfl (bx (bY (c8 h rfl rfl) (yH (h.get 9 rfl) (aa (au (ak _)) (aa hb (by decide))))) q)
theorem f47(pl:Pl π σ)(h:Hs σ S H)(iv:Iv π S)(hL:S.letters<=110)(hm:π.isW m=some false)(q:Q (.lst ((qS S m).map λp=>ni p.1)) H):aQ PL (n+3) 65 [.ref σ.i,.str m] H Q X:=by have hq:=(iv.qk m).mpr hm;refine(gO hq).elim λx ex=>cf GK rfl (dY h rfl rfl (ae rfl) (M3 h (pl.ok m (nf pl hm)) hq ?_));haveI hx:=h.qp _ (bZ ex);refine bx (lO (l:=x.2) (f:=oJ) (g:=λp=>ni p.1) (sR h rfl rfl ex) (gu hx.2.1) (aa hx.2.2 (aa hL (by decide))) λ_ _=>aR rfl) ?_;rw [mF ex]at q;exact q
theorem Lv(h:Hs σ S H)(hh:here S m=true)(q:Q .none H):aQ PL (n+1) 57 [.ref σ.i,.str m] H Q X:=cf y7 rfl (bK (du (aq (ae rfl) (c8 h rfl rfl) (iI (h.get 5 rfl))) (congrArg (λt=>V.bool (!t)) hh)) q)
theorem f48(pl:Pl π σ)(h:Hs σ S H)(iv:Iv π S)(hm:π.isW m=some false)(hh:here S m=true)(q:Q (.int (m5 S m)) H):aQ PL (n+3) 66 [.ref σ.i,.str m] H Q X:=
 (gO (iv.gd.ks m hh hm)).elim λz ez=>cf IQ rfl (dY h rfl rfl (ae rfl) (M3 h (pl.ok m (nf pl hm)) ((iv.qk m).mpr hm) (dY h rfl rfl (ae rfl) (Lv h hh (bx (aq (c8 h rfl rfl) (ae rfl) (mZ (val:=V.int) (h.get 6 rfl) ez)) (by unfold m5 at q;rw [ez]at q;exact q))))))
theorem Gg{G:V->Prop}(hP:Pt π k v)(hw:π.isW (ao v)=some true)(g:∀nm r m s ps,G (j6 nm r m s ps)):G v:=by
 induction hP with
 |wk _ _ h=>exact absurd (aj (h.symm.trans hw)) ai
 |wd=>exact g _ _ _ _ _
theorem f52(pl:Pl π σ)(h:Hs σ S H)(iv:Iv π S)(hw:π.isW m=some true)(hh:here S m=true)(hb:S.ev.length<=900000)(q:Q (.lst ((Fh S.clock (π.sp m) (ii S m)).map V.int)) H):aQ PL (n+2) 67 [.ref σ.i,.str m] H Q X:=by
 have hm:=pl.nm m (congrArg c6 hw);refine qm (pl.pt m hm) λd k v hd rt en ed=>(gO (iv.gd.kw m hh hw)).elim λx ex=>?_;haveI hk:=h.kp _ (bZ ex);haveI ek:ii S m=x.2:=by unfold ii;rw [ex];rfl
 haveI md:=rt.rd.md v (kG rt.rd.pt);have z:=Gg (G:=λv=>be PL false .i [v,.int 0] H=some (.str wd,H)/\be PL false .i [v,.int 4] H=some (.int (spV v),H)) rt.rd.pt (en.symm▸hw) λ_ _ _ _ _=>⟨rfl,rfl⟩;have hv:∀{C X},Ev PL C [some (.ref σ.i),some (.str m)] H X (.p false .i [(qW ['p','a','r','t','s']),.v 1]) v:=λ{C X}=>aq (c8 h rfl rfl) (ae rfl) (jN (h.get 3 rfl) ed);refine cf IZ rfl (bK (fK (s:=false) (t:=false) (c9 (s:=true) (dF (ae rfl) λQ q=>f2 (pl.ok m hm) q)) λ_=>fK (s:=false) (t:=false) (du (aq (ae rfl) (c8 h rfl rfl) (iI (h.get 3 rfl))) (congrArg (λt=>V.bool (!t)) (bh.mpr hm))) λ_=>aq (aq hv am z.1) am rfl) (dY h rfl rfl (ae rfl) (Lv h hh (iM (iQ (aq (c8 h rfl rfl) (ae rfl) (mZ (val:=L3) (h.get 7 rfl) ex)) (c8 h rfl rfl) (aq hv am z.2) (f8 hk.2.1 (aa hk.2.2 (aa iv.gd.ll (aa hb (by decide)))) ?_))))));rw [ek,<-en,md.sp]at q;exact q
end
theorem nR(h:cL P C e ρ H (λv H'=>match fO ρ (.inr is) v with|some ρ'=>a8 P C ss ρ' H' K R X|none=>False) X):a8 P C (.asgTup is e::ss) ρ H K R X:=h
theorem Dy(h:H[r]? =some (.list (x::xs)))(hl:(x::xs).length<=aB):be P false .pop0 [.ref r,.int 0] H=some (x,H.set r (.list xs)):=by show((H[r]?.bind O.lst).bind λvs=>some (r,vs)).bind _=_;rw [h];exact if_pos ⟨rfl,hl⟩
section
variable {π:PI}{σ:Ad}{n:Nat}{S:Hst}{H:AH}{Q:QE}{X:XE}{m:Nm}
theorem z9{G:V->Prop}(hP:Pt π k v)(hw:π.isW (ao v)=some false)(g:∀nm md,md∈j8->(∀c,π.ch c≠some nm)->G (nE nm md)):G v:=by
 induction hP with
 |wk _ h2 _ h4=>exact g _ _ h2 h4
 |wd _ _ _ _ _ h6=>exact absurd (aj (hw.symm.trans h6)) ai
theorem f41(pl:Pl π σ)(A:At π σ S H)(hm:π.isW m=some false)(hL:S.letters<=110)(hb:S.ev.length+8000<=900000)(x4:here S m=false->X 4 H)(x5:qS S m=[]->X 5 H)(x6:here S (ao σ.plan)=false->X 6 H)(q:here S (ao σ.plan)=true->here S m=true->qS S m≠[]->MH π σ S (.tup [.str ['w','o','r','k'],.str m]) 8000 Q):aQ PL (n+34) 59 [.ref σ.i,.str m] H Q X:=by
 have h:=A.hs;have hq:=(A.iv.qk m).mpr hm;haveI hn:=nf pl hm;refine qm (pl.pt m hn) λd k v hd rt en ed=>(gO hq).elim λx ex=>cf I5 rfl (l8 h rfl rfl (Nw pl h x6 λhr0=>dY h rfl rfl (ae rfl) (M3 h (pl.ok m hn) hq (dY h rfl rfl (ae rfl) (Oe h x4 λhh=>?_)))));haveI hx:=h.qp _ (bZ ex);have hs:∀{j:Nat},j<=8000->S.ev.length+j<=900000:=λz=>aa (aH z _) hb;obtain⟨r,_|⟨⟨k0,l⟩,ps⟩⟩:=x
 ·exact cV (aq (bY (sR h rfl rfl ex) (fL hx.2.1)) am rfl) (x5 (mF ex))
 have eq:qS S m=(k0,l)::ps:=mF ex;refine bK (du (aq (bY (sR h rfl rfl ex) (fL hx.2.1)) am (ft b7 b7)) rfl) ?_;refine bp (bY (c8 h rfl rfl) (fL (h.get 9 rfl))) (bQ rfl) (rA (S':=pC S (S.clock+1)) h rfl (aq (c8 h rfl rfl) am dN) rfl rfl rfl rfl rfl ⟨aM _,aM _⟩ rfl λH1 h1=>?_);have hx1:=h1.qp _ (bZ ex);haveI h2:Hs σ (pQ (pC S (S.clock+1)) m (r,ps) S.own) _:=h1.quSet (q':=ps) ex (aa (bf _) hx.2.2);have lp:LV l:=A.iv.lv _ (bZ ex) (k0,l) (.head _);refine nR (sR h1 rfl rfl ex _ ⟨fb hx1.2.1,am _ (hE (Dy hx1.2.1 ?_) (show a8 PL (aQ PL (n+33)) _ [some (.ref σ.i),some (.str m),some (.int (S.ev.map Evt.v).length),some (.int k0),some l,none] _ _ Q X from ny h2 rfl (.works m k0) (aR rfl) (aa (hs (aY _)) (by decide)) λH3 h3=>bp (aq (c8 h3 rfl rfl) (ae rfl) (jN (h3.get 3 rfl) ed)) (bQ rfl) ?_))⟩)
 ·exact aa (au (congrArg nK (ak _))) (aa hx.2.2 (aa hL (by decide)))
 have i3:Iv π (pE (pQ (pC S (S.clock+1)) m (r,ps) S.own) (.works m k0)):=⟨A.iv.gd.mono rfl rfl rfl rfl gp,A.iv.up,dk A.iv.nm (dz hm),λk=>(rC hq).trans (A.iv.qk k),λp hp=>(ka hp).elim (λe=>e▸λx hx=>A.iv.lv _ (bZ ex) x (.tail _ hx)) (A.iv.lv p),aa (au (mh hq)) A.iv.lq⟩;have a3:iU (pE (pQ (pC S (S.clock+1)) m (r,ps) S.own) (.works m k0))=aW m k0 ps (iU S):=congrArg (λq=>(⟨here S,ii S,m5 S,q,S.ev++[Evt.works m k0],S.clock+1,S.letters⟩:Ab)) (uA (S:=pC S (S.clock+1)) (n:=m) (x:=(r,ps)) (f:=S.own));have hl3:∀{j:Nat},j+1<=8000->(S.ev++[Evt.works m k0]).length+j<=900000:=λ{j} z=>by rw [ah,bD];exact hs (db 1 j▸z)
 have bd:bF d<=1380:=b6 hd.1;have q:=q hr0 hh (by rw [eq];exact lV _ _);cases lp with
 |@add i5 hi=>
  refine cV (aR rfl) ((gO (A.iv.gd.ks m hh hm)).elim λi ei=>wF h3 rfl (aq (aq (c8 h3 rfl rfl) (ae rfl) (mZ (val:=V.int) (h3.get 6 rfl) ei)) (aR rfl) dN) (ae rfl) (aa A.iv.gd.ls (aa (hs (aY _)) (by decide))) λH4 h4=>?_);haveI g4:Gd π (pS (pE (pQ (pC S (S.clock+1)) m (r,ps) S.own) (.works m k0)) m (i+i5)):=⟨i3.gd.kw,λk hk hw=>oX (i3.gd.ks k hk hw),i3.gd.lp,i3.gd.lk,aa (au (mh (A.iv.gd.ks m hh hm))) i3.gd.ls,i3.gd.ll,i3.gd.ko,λk hk=>(iB hk).elim (λe=>e▸hm) (i3.gd.so k)⟩;refine su (S:=S) (S₂:=pS (pE (pQ (pC S (S.clock+1)) m (r,ps) S.own) (.works m k0)) m (i+i5)) (es:=[Evt.works m k0]) pl h4 ⟨g4,i3.up,i3.nm,i3.qk,i3.lv,i3.lq⟩ rfl rfl (aG rfl) ?_ rfl rfl hL hb q;haveI a4:iU (pS (pE (pQ (pC S (S.clock+1)) m (r,ps) S.own) (.works m k0)) m (i+i5))=aD m i5 (aW m k0 ps (iU S)):=by
   rw [<-a3];refine congrArg (λs=>(⟨here S,ii S,s,qS (pE (pQ (pC S (S.clock+1)) m (r,ps) S.own) (.works m k0)),S.ev++[Evt.works m k0],S.clock+1,S.letters⟩:Ab)) (funext λc=>vY.trans ?_);refine(?_:_=if c=m then m5 S m+i5 else m5 S c);haveI em:m5 S m=i:=by unfold m5;rw [ei];rfl
   by_cases z:c=m
   ·rw [if_pos z,if_pos z.symm,em]
   ·rw [if_neg z,if_neg λy=>z y.symm];rfl
  rw [a4];exact .work eq .add
 |fault=>refine bK (aR rfl) (cV (aR rfl) (dY h3 rfl rfl (ae rfl) (uY (fu hd.1) (un.1 rt h3 i3.gd i3.up (en▸hh) (hl3 (aa (aA bd) (by decide))) λS4 H4 es k' h4 g4 sp hl up ch=>cH<|su (S:=S) (es:=Evt.works m k0::es) pl h4 (i3.plain sp g4 up) (sp.ev.trans (an ..)) sp.lt (aA (aa hl (aa bd (by decide)))) ?_ rfl rfl hL hb q))));rw [sD sp,a3];rw [en]at ch;exact .work eq (.fault ch)
 |leave=>
  refine bK (aR rfl) (bK (aR rfl) (ny h3 rfl (.leave m) (aR rfl) (aa (hl3 (j:=0) (by decide)) (by decide)) λH4 h4=>rk h4 rfl (ae rfl) hh (aa A.iv.gd.lp (aa (hs (aY _)) (by decide))) λH5 h5=>?_));have hw:π.isW (ao v)=some false:=en▸hm;haveI nk:∀c,π.ch c≠some m:=en▸z9 (G:=λv=>∀c,π.ch c≠some (ao v)) rt.rd.pt hw λ_ _ _ z=>z;have dl:∀{k:Nm},k≠m->here S k=true->eK k (kY m S.pres)=true:=λa b=>(gP h.pn).trans (ay.mpr ⟨by rw [decide_eq_false a];rfl,b⟩);have up5:Up π λk=>eK k (kY m S.pres):=λc k hc hhc=>dl (λz=>nk c (z▸hc)) (A.iv.up c k hc (ay.mp ((gP h.pn).symm.trans hhc)).2);haveI g5:=vf (n:=m) (t:=.leave m) i3.gd;haveI md:=rt.rd.md v (kG rt.rd.pt);haveI esb:π.sb m=[m]:=en▸md.sb.trans (z9 (G:=λv=>nms 8 v=[ao v]) rt.rd.pt hw λ_ _ _ _=>rfl);have ep:pre π (here S) (.leave m)=[.leave m]:=by unfold pre;rw [show(Evt.leave m).nm=m from rfl,esb];rfl
  have i5:Iv π (pD (pE (pE (pQ (pC S (S.clock+1)) m (r,ps) S.own) (.works m k0)) (.leave m)) m):=⟨g5,up5,dk i3.nm (dz (congrArg c6 hm)),i3.qk,i3.lv,i3.lq⟩;have sp5:Sp π (ii S) (pE (pQ (pC S (S.clock+1)) m (r,ps) S.own) (.works m k0)) (pD (pE (pE (pQ (pC S (S.clock+1)) m (r,ps) S.own) (.works m k0)) (.leave m)) m) [.leave m]:=⟨rfl,rfl,rfl,rfl,bf _,funext λ_=>gP h.pn,dz (congrArg c6 hm),λ_=>rfl,λ_=>rfl⟩;refine c7 (z9 (G:=λv=>∃md,be PL false .i [v,.int 2] H5=some (.str md,H5)/\L7 v=md/\md∈j8) rt.rd.pt hw λ_ md h _=>⟨md,rfl,rfl,h⟩) λmo emd et hmo=>?_;haveI al:π.al m=Lm v:=en▸md.al;refine cU (aq (aq (ae rfl) am emd) am (ft jh jh)) (λha=>?_) λha=>cH<|cH<|su (S:=S) (es:=[Evt.works m k0,Evt.leave m]) pl h5 i5 (an ..) rfl (aG rfl) ?_ rfl rfl hL hb q
  case refine_2=>
   haveI hal:π.al m=false:=by rw [al];unfold Lm Cv;rw [et];exact eC hmo (λe=>absurd (show gH (.str mo) (.str ['a','l','w','a','y','s'])=true from by rw [e];rfl) (by rw [ha];exact ai)) λh=>eC h (λe=>by rw [e];rfl) λh=>by rw [in1 h];rfl
   haveI z:Fe π ((iU S).t+1) (π.al m) (iU S).h (iU S).k (.leave m) (pre π (here S) (.leave m)) (ii S):=by rw [hal];exact .stop rfl rfl rfl
   rw [ep]at z;rw [sD sp5,a3];exact .work eq (.leave z)
  have hal:π.al m=true:=by rw [al];unfold Lm Cv;rw [et,beq_iff_eq.mp (show(mo==['a','l','w','a','y','s'])=true from ha)];rfl
  cases d with
  |zero=>exact absurd (aj (hm.symm.trans (hd.2 rfl))) ai
  |succ d=>
   have bd:bF d<=1380:=b6 (aa (bf _) hd.1);refine c7 rt.2 λw rw hv ec=>oM h5 rfl rfl (aq (c8 h5 rfl rfl) (ae rfl) (jN (h5.get 4 rfl) (en▸ec))) (ae rfl) (uY (aa (bf (2*d+21)) (fu hd.1)) (un.2 rw hv h5 g5 ?_ up5 ?_ ?_ λS6 H6 es k' h6 g6 sp hl up ch=>cH<|cH<|su (S:=S) (es:=Evt.works m k0::Evt.leave m::es) pl h6 ⟨g6,up,sp.ev▸dk i5.nm (BR sp.nm),sp.qu▸i5.qk,sp.qu▸i5.lv,sp.qu▸i5.lq⟩ (sp.ev.trans ((congrArg (·++es) (an ..)).trans (an ..))) sp.lt (aA (aA (aa hl bd))) ?_ rfl rfl hL hb q))
   ·exact cZ i3.gd.ll jw
   ·have cw:π.ch (ao v)=some (ao w)/\π.isW (ao w)=some true:=vE (G:=λw _=>π.ch (ao v)=some (ao w)/\π.isW (ao w)=some true) rw.rd.pt hv λk nm rl m s ps _ _ h6 h7 _ hp=>⟨(h7 _).mpr ⟨v,hp,rfl⟩,h6⟩;exact dl (λz=>ai (aj (hm.symm.trans (z▸cw.2)))) (A.iv.up _ _ cw.1 (en▸hh))
   ·refine (?_:(_++[Evt.leave m]).length+_<=_);rw [ah,bD];exact hl3 (aa (aA (aH bd 1)) (by decide))
   ·haveI z:=ch (.leave m) (here S) en.symm (by rw [ep];exact(funext λ_=>gP h.pn).symm);rw [ep]at z;rw [sD (sp5.trans' sp (aM _) λ_ _=>rfl),a3];exact .work eq (.leave (hal.symm▸z))
end
theorem on{α:Type}{f:α->V}{l:List α}(h:∀a,tm (f a)):rd H (.lst (l.map f))=some (.lst (l.map f)):=GB (lL h)
theorem gM{a b:Int}(hb:0<b):0<=a%b/\a%b<b:=⟨Int.emod_nonneg _ (En hb),Int.emod_lt_of_pos _ hb⟩
section
variable {n:Nat}{H:AH}{Q:QE}{X:XE}
theorem yY(h:0<=a/\a<b)(hc:b<=1000000000+1+c)(hc':c<=1000000000)(h0:0<=c):LV (.tup [.str ['a','d','d'],.int (a-c)]):=.add ⟨jE h.1 (jE hc' (by simp+arith only)),jE h.2 (jE hc (by simp+arith only))⟩
theorem f13{z:Int}(q:∀v,LV v->Q v H):aQ PL (n+1) 18 [.int z] H Q X:=by
 refine cf Gp rfl (cU (aq (aq (ae rfl) am (cI (by decide))) am qR) (λh=>?_) λh=>?_)
 ·haveI h:=of_decide_eq_true h;haveI h5:=(gM (a:=z) (b:=5) (by decide)).2;exact av (jQ (P:=PL) (H:=H) (xs:=[.tup [.str ['f','a','u','l','t']],.tup [.str ['l','e','a','v','e']]]) (i:=z%5-3) (Jk h) (Int.sub_lt_sub_right h5 3)) λv hv e=>bx (aq (aR rfl) (aq (aq (ae rfl) am (cI (by decide))) am ro) e) (q v (eC hv (λe=>e▸.fault) λh=>in1 h▸.leave))
 ·refine av (jQ (P:=PL) (H:=H) (xs:=[.int (z/10%9-4),.int (z/10%2000000001-1000000000)]) (i:=if gH (.int (z%5)) (.int 2)then 1 else 0) ?_ ?_) λv hv e=>bp (aq (aq (aq (aq (aq (ae rfl) am (cO (by decide) (by decide))) am (cI (by decide))) am ro) (aq (aq (aq (ae rfl) am (cO (by decide) (by decide))) (aR rfl) (cI (by decide))) (aR rfl) ro) (hO fx)) (bY (aq (aq (ae rfl) am (cI (by decide))) am (ft b7 b7)) Ei) e) (bQ rfl) (bx (aq am (ae rfl) (eM fx)) (q _ (eC hv (λe=>e▸yY (gM (by decide)) (by decide) (by decide) (by decide)) λh=>in1 h▸yY (gM (by decide)) (by decide) (by decide) (by decide))))
  ·cases gH (.int (z%5)) (.int 2)<;>decide
  ·cases gH (.int (z%5)) (.int 2)with
   |true=>exact(by decide:(1:Int)<2)
   |false=>exact(by decide:(0:Int)<2)
end
noncomputable def oG:List V->Nm
 |v::_=>v.txt.getD []
 |_=>[]
noncomputable def L9(v:V):Bool:=oG (v.tpl.getD [])==['s','e','n','d']
noncomputable def LR(v:V):Bool:=oG (v.tpl.getD [])==['w','o','r','k']
noncomputable def iR(r:Nm)(A:Ab)(v:V):Bool:=A.h r&&(A.h (ao v)&&(!LR v|| !(A.q (ao v)).isEmpty))
theorem qv(h:A.h r=false):iR r A v=false:=by unfold iR;rw [h];rfl
theorem qX(h:A.h (ao v)=false):iR r A v=false:=by unfold iR;rw [h,Bool.false_and,gK]
theorem ph(h:A.h r=true)(h':A.h (ao v)=true)(h2:(!LR v|| !(A.q (ao v)).isEmpty)=true):iR r A v=true:=by unfold iR;rw [h,h',h2];rfl
theorem EU(z:A.q m=[]):iR r A (.tup [.str ['w','o','r','k'],.str m])=false:=by unfold iR;rw [show A.q (ao (.tup [.str ['w','o','r','k'],.str m]))=[]from z];exact(congrArg (A.h _&&·) (gK _)).trans (gK _)
theorem Fi{m:Nm}{A:Ab}(w:A.q m≠[]):(!LR (.tup [.str ['w','o','r','k'],.str m])|| !(A.q m).isEmpty)=true:=by
 cases e:A.q m with
 |nil=>exact absurd e w
 |cons _ _=>rfl
inductive Dd(π:PI)(σ:Ad):V->Prop
 |send {m:Nm} {l:V}:π.isW m=some false->LV l->Dd π σ (.tup [.str ['s','e','n','d'],.str m,l])
 |work {m:Nm}:π.isW m=some false->Dd π σ (.tup [.str ['w','o','r','k'],.str m])
 |fail {m:Nm}:m∈σ.names->Dd π σ (.tup [.str ['f','a','i','l'],.str m])
section
variable {π:PI}{σ:Ad}{n:Nat}{S:Hst}{H:AH}{Q:QE}{X:XE}{m:Nm}
theorem vS(h:Hs σ S H)(h0:ρ[0]? =some (some (.ref σ.i)))(hn:hk.contains nm=false)(ha:Ev P C ρ H X a x)(k:C f [.ref σ.i,x] H R X):a8 P C (.ret (.m 0 f nm (.v 0) [a])::ss) ρ H K R X:=
 ae (P:=P) (C:=C) (X:=X) h0 (λv H₁=>gr H₁ 0 nm v=true/\gc P C [a] ρ H₁ (λvs H'=>C f (v::vs) H' R X) X) ⟨lJ h hn,ha _ k⟩
theorem JP(h:Hs σ S H)(h0:ρ[0]? =some (some (.ref σ.i)))(hn:hk.contains nm=false)(ha:Ev P C ρ H X a x)(hb:Ev P C ρ H X b y)(k:C f [.ref σ.i,x,y] H R X):a8 P C (.ret (.m 0 f nm (.v 0) [a,b])::ss) ρ H K R X:=
 ae (P:=P) (C:=C) (X:=X) h0 (λv H₁=>gr H₁ 0 nm v=true/\gc P C [a,b] ρ H₁ (λvs H'=>C f (v::vs) H' R X) X) ⟨lJ h hn,ha _ (hb _ k)⟩
theorem m8(h:a8 P C body ρ H (λρ' H'=>a8 P C ss ρ' H' K R X) R (λc H'=>(P.sub c c&&P.sub c cls)=true/\R (hdV e) H')):a8 P C (.try_ body cls e::ss) ρ H K R X:=h
theorem f22{v:V}(pl:Pl π σ)(A:At π σ S H)(dd:Dd π σ v)(hL:S.letters<=109)(hb:S.ev.length+8000<=900000)(q0:iR (ao σ.plan) (iU S) v=false->Q .none H)
  (qs:iR (ao σ.plan) (iU S) v=true->L9 v=true->∀S' H',At π σ S' H'->S'.letters<=S.letters+1->S'.ev.length<=S.ev.length+8000->De π σ.names (iU S) v (iU S')->Q (ni S'.letters) H')
  (qh:iR (ao σ.plan) (iU S) v=true->L9 v=false->MH π σ S v 8000 Q):aQ PL (n+35) 27 [.ref σ.i,v] H Q X:=by
 haveI hL':=aa hL (by decide:109<=110);cases dd with
 |send hm lv=>exact cf uh rfl (m8 (cV (aR rfl) (JP A.hs rfl rfl (aR rfl) (aR rfl) (f40 pl A hm lv hL hb (λz=>⟨rfl,q0 (qX z)⟩) (λz=>⟨rfl,q0 (qv z)⟩) λz y S' H' a b c e=>qs (ph z y rfl) rfl S' H' a b c (e▸.send)))))
 |@work m hm=>exact cf uh rfl (m8 (bK (aR rfl) (cV (aR rfl) (vS A.hs rfl rfl (aR rfl) (f41 pl A hm hL' hb (λz=>⟨rfl,q0 (qX z)⟩) (λz=>⟨rfl,q0 (EU z)⟩) (λz=>⟨rfl,q0 (qv z)⟩) λz y w=>qh (ph z y (Fi w)) rfl)))))
 |fail hm=>exact cf uh rfl (m8 (bK (aR rfl) (bK (aR rfl) (vS A.hs rfl rfl (aR rfl) (f42 pl A hm hL' hb (λz=>⟨rfl,q0 (qX z)⟩) (λz=>⟨rfl,q0 (qv z)⟩) λz y=>qh (ph z y rfl) rfl)))))
end
section
variable {π:PI}{σ:Ad}{n:Nat}{S:Hst}{H:AH}{Q:QE}{X:XE}
theorem yE(h:l≠[]):∃w,w∈l/\be P false .i [.lst (l.map V.str),.int (z%((l.map V.str).length:Int))] H=some (.str w,H):=by
 haveI hp:0<((l.map V.str).length:Int):=by rw [ak];exact cG.mpr (g8.mpr h)
 exact av (jQ (P:=P) (H:=H) (xs:=l.map V.str) (gM (a:=z) hp).1 (gM hp).2) λv hv e=>av (aK.mp hv) λw hw ew=>⟨w,hw,ew▸e⟩
theorem Cy(h:l≠[]):0<((l.map V.str).length:Int):=by rw [ak];exact cG.mpr (g8.mpr h)
theorem nY(hi:ρ[i]? =some (some (.lst (l.map V.str))))(hj:ρ[j]? =some (some (.int z)))(h:l≠[]):∃w,w∈l/\Ev PL C ρ H X (.p false .i [.v i,.p false (.bop .mod) [.v j,.p false .len [.v i]]]) (.str w):=
 (yE h).imp λw q=>⟨q.1,aq (ae hi) (aq (ae hj) (bY (ae hi) mD) (cI (Cy h))) q.2⟩
theorem vd(h:(!gH (.lst (l.map V.str)) (.lst []))=true):l≠[]:=λe=>by subst e;exact ai h
theorem oq(hi:ρ[i]? =some (some (.int z)))(hb:0<b):Ev P C ρ H X (.p false (.bop .mod) [.v i,.c (.int b)]) (.int (z%b)):=aq (ae hi) am (cI hb)
theorem zE:[a,b,c].length<=aB:=show 3<=aB by decide
theorem xy:[a].length<=aB:=show 1<=aB by decide
theorem rO(h4:ρ[4]? =some (some (.int z)))(h5:ρ[5]? =some (some w))(k:∀v,LV v->Q (.tup [.str ['s','e','n','d'],w,v]) H):cL PL (aQ PL (n+1)) (.p false .t [.c (.str ['s','e','n','d']),.v 5,(.call 18 [(.p false (.bop .f) [.v 4,.c (.int 8)])])]) ρ H Q X:=
 EK am (ae h5) (gN (aq (ae h4) am (cO (by decide) (by decide))) (f13 λv lv=>hE (eM zE) (k v lv)))
theorem KJ{z:Int}{w:Nm}{ws hs bs:List Nm}{so:Option V}{K:KS}(hw:π.isW w=some false)(hh:∀m∈hs,m∈σ.names)(hb:∀m∈bs,π.isW m=some false)(hn:w∈σ.names)
  (q:∀ds:List V,ds.length<=2->(∀v∈ds,Dd π σ v)->Q (.lst ds) H):a8 PL (aQ PL (n+1)) (Gf.body.drop 4) [some (.int z),some (.lst (ws.map V.str)),some (.lst (hs.map V.str)),some (.lst (bs.map V.str)),some (.int (z/10)),some (.str w),so] H K Q X:=by
 have q1:∀{v:V},Dd π σ v->Q (.lst [v]) H:=λd=>q _ (by decide:1<=2) (dz d);refine(?_:a8 PL _ [_,_,_,_,_] _ _ _ _ _);refine cU (aq (oq rfl (by decide)) am j0) (λ_=>iM (AT (rO rfl rfl λv lv=>hE (hO xy) (q1 (.send hw lv))))) λ_=>?_;refine cU (aq (oq rfl (by decide)) am j0) (λ_=>iM (yM (rO rfl rfl λv lv=>aq am (ae rfl) (eM fx) _ (hE (hO fx) (q _ (aM _) (d0 (.send hw lv) (dz (.work hw)))))))) λ_=>?_;refine cU (cW (aq (oq rfl (by decide)) am j0) λ_=>aq (ae rfl) (aR rfl) (jf (on λ_=>trivial) jO)) (λhc=>av (nY (i:=3) (j:=4) (z:=z/10) rfl rfl (vd (ay.mp hc).2)) λb hb0 eb=>bx (bY (aq am eb (eM fx)) (hO xy)) (q1 (.work (hb b hb0)))) λ_=>?_;refine cU (cW (aq (oq rfl (by decide)) am (ft b7 b7)) λ_=>aq (ae rfl) (aR rfl) (jf (on λ_=>trivial) jO)) (λhc=>av (nY (i:=2) (j:=4) (z:=z/10) rfl rfl (vd (ay.mp hc).2)) λb hb0 eb=>bx (bY (aq am eb (eM fx)) (hO xy)) (q1 (.fail (hh b hb0)))) λ_=>?_;refine iM (yM (EK (aR rfl) (aR rfl) (AT (rO rfl rfl λv lv=>hE (hO xy) (hE (hO zE) ((aq (aq (ae rfl) am (cO (by decide) (by decide))) am (cI (by decide))) _ ?_))))));exact av (jQ (P:=PL) (H:=H) (xs:=[.lst [.tup [.str ['w','o','r','k'],.str w]],.lst [.tup [.str ['f','a','i','l'],.str w]],.lst [.tup [.str ['s','e','n','d'],.str w,v]]]) (gM (a:=z/10/5) (b:=3) (by decide)).1 (gM (by decide)).2) λx hx e=>hE e (eC hx (λe=>e▸q1 (.work hw)) λhx=>eC hx (λe=>e▸q1 (.fail hn)) λhx=>in1 hx▸q1 (.send hw lv))
theorem f23{z:Int}{ws hs bs:List Nm}(hw:∀w∈ws,π.isW w=some false)(hws:ws≠[])(hwl:ws.length<=aB)(hh:∀m∈hs,m∈σ.names)(hb:∀m∈bs,m∈ws)(hn:∀m,π.isW m=some false->m∈σ.names)
  (q:∀ds:List V,ds.length<=2->(∀v∈ds,Dd π σ v)->Q (.lst ds) H):aQ PL (n+2) 28 [.int z,.lst (ws.map V.str),.lst (hs.map V.str),.lst (bs.map V.str)] H Q X:=by
 refine cf HC rfl (bp (aq (ae rfl) am (cO (by decide) (by decide))) (bQ rfl) (av (nY (i:=1) (j:=4) (z:=z/10) rfl rfl hws) λw hw0 ew=>bp ew (bQ rfl) (bp (jl (l:=ws) (f:=V.str) (g:=V.str) (ae rfl) rfl hwl (λ_ _=>aq (ae rfl) (ae rfl) (yI rfl λ_=>trivial)) λ_ _ _=>ae rfl) (bQ rfl) ?_)));refine cU (cW (aq (ae rfl) (aR rfl) (jf (on λ_=>trivial) jO)) λ_=>aq (oq rfl (by decide)) am j0) (λhc=>av (nY (i:=6) (j:=4) (z:=z/10) rfl rfl (vd (ay.mp hc).1)) λw hw1 ew=>haveI hw1:=(ca.mp hw1).1;bp ew (bQ rfl) (KJ (hw w hw1) hh (λm hm=>hw m (hb m hm)) (hn w (hw w hw1)) q)) λ_=>KJ (hw w hw0) hh (λm hm=>hw m (hb m hm)) (hn w (hw w hw0)) q
end
section
variable {H:AH}{Q:QE}{X:XE}
theorem xr{α β:Type}{f:α->β}{l:List α}:bB (l.map f) a b=(bB l a b).map f:=by unfold bB;rw [<-List.map_take,<-pB]
end
section
variable {π:PI}{n:Nat}{H:AH}{Q:QE}{X:XE}
theorem f11(q:Q (.bool true) H):aQ PL (n+1) 16 [.int i] H Q X:=cf HV rfl (bx (aR rfl) q)
theorem f20{es:List Evt}(hl:es.length<=aB)(hn:∀e∈es,e.ok π)(q:Q (.bool true) H):aQ PL (n+2) 25 [.lst (es.map Evt.v)] H Q X:=by
 refine cf G9 rfl (bK (aR rfl) (eD (λits ρ H'=>H'=H/\(∃o,ρ=[some (.lst (es.map Evt.v)),o])/\∀e∈its,e.ok π) (f:=Evt.v) (l:=es) (ae rfl) (λ_ _ _ _=>rfl) hl ⟨rfl,⟨none,rfl⟩,hn⟩ (λe es' ρ' H' hI K' hK=>dQ hI λeH eo ho=>eo.elim λo eo=>?_) λρ' H' hI=>bx am (hI.1▸q)));subst eo;subst eH;have k:∀ρ',(∃o,ρ'=[some (.lst (es.map Evt.v)),o])->K' ρ' H':=λρ' z=>hK ρ' H' ⟨rfl,z,λe he=>ho e (.tail _ he)⟩;have p:=ho e (.head _);cases e with
 |beg _|end_ _|fail _|leave _=>exact bK (aR rfl) (bK (aR rfl) (bK (aR rfl) (k _ ⟨_,rfl⟩)))
 |works _ _|lost _ _=>exact bK (aR rfl) (bK (cW (s:=true) (t:=false) (aR rfl) λ_=>c9 (s:=true) (dF (aR rfl) λQ q=>f11 q)) (bK (aR rfl) (k _ ⟨_,rfl⟩)))
 |sent _ _ l=>
  have p:=p.2;cases p with
  |add _|fault|leave=>exact bK (aR rfl) (bK (cW (s:=true) (t:=false) (aR rfl) λ_=>c9 (s:=true) (dF (aR rfl) λQ q=>f11 q)) (bK (aR rfl) (k _ ⟨_,rfl⟩)))
end
section
variable {P:Prog}{C:Calls}{ρ:Fm}{H:AH}{K:KS}{R:QE}{X:XE}{ss:List St}{e a b:Ex}{x y:V}{n:Nm}
theorem Dn(hi:ρ[i]? =some (some (.ref j)))(he:Ev P C ρ H X e (.str n))(eq:d8 (.ref j) (.str n) x H=some H')(k:a8 P C ss ρ H' K R X):a8 P C (.s (.v i) e (.c x)::ss) ρ H K R X:=ij (am (P:=P) (C:=C) (X:=X) _ (ae (P:=P) (C:=C) (X:=X) hi _ (he _ (by rw [eq];exact k))))
end
section
variable {H:AH}{n:Nm}
theorem Du{i:Nat}{l:List Nat}(h:H[i]? =some (.list (l.map ni))):rd H (.ref i)=some (.lst (l.map ni)):=by haveI q:=fQ (lL (f:=ni) (l:=l) λ_=>trivial);refine(?_:(H[i]?.bind O.lst).bind _=_);rw [h];exact if_pos (lC q.1 (aa (au q.2) (by decide)))
theorem ow{α:Type}{x:α}{l:AL α}(h:∀p∈l,p.1≠n):dh n x l=l++[(n,x)]:=by
 induction l with
 |nil=>rfl
 |cons q l ih=>refine(?_:(if n=q.1 then(q.1,x)::l else q::dh n x l)=_);rw [if_neg (h q (.head _)).symm,ih λp hp=>h p (.tail _ hp)];rfl
end
section
variable {P:Prog}{C:Calls}{ρ:Fm}{H:AH}{Q:QE}{X:XE}{a b c:Ex}{x y z:V}
end
theorem fv:∀{v:V},(iY k v).map ao=nms k v:=by
 induction k with
 |zero=>exact rfl
 |succ k ih=>intro v;refine(?_:ao v::((kids v).flatMap (iY k)).map ao=ao v::(kids v).flatMap (nms k));rw [tS];exact congrArg (ao v::·) (congrArg (λf=>List.flatMap f (kids v)) (funext λ_=>ih))
theorem A8(ho:Ev P C ρ H X a x)(ht:ly H x t=true)(k:cL P C b ρ H (λy H'=>hM (be P mu p [x,y] H') R) X):cL P C (.n t mu p a [b]) ρ H R X:=ho _ ⟨ht,k⟩
section
variable {π:PI}{n:Nat}{H:AH}{Q:QE}{X:XE}
theorem xW(h:H[i]? =some (.list vs))(h':H[j]? =some (.list ws))(hl:vs.length+ws.length<=aB):be P false .extend [.ref i,.ref j] H=some (.none,H.set i (.list (vs++ws))):=by show((H[i]?.bind O.lst).bind λvs=>some (i,vs)).bind _=_;rw [h];show(H[j]?.bind O.lst).bind _=_;rw [h'];exact if_pos hl
def Kp(H H':AH):Prop:=H.length<=H'.length/\∀a,a<H.length->H'[a]? =H[a]?
theorem Kp.refl:Kp H H:=⟨aM _,λ_ _=>rfl⟩
theorem Kp.trans(a:Kp H H₁)(b:Kp H₁ H₂):Kp H H₂:=⟨aa a.1 b.1,λi h=>(b.2 i (bo h a.1)).trans (a.2 i h)⟩
theorem Kp.new:Kp H (H++[o]):=⟨eO,λ_ h=>bt h⟩
theorem Kp.set(a:Kp H H₁)(h:H.length<=r):Kp H (H₁.set r o):=⟨aa a.1 (au aU.symm),λi hi=>(bv (gQ (bo hi h))).trans (a.2 i hi)⟩
theorem mX(k:cL P C a ρ H (λu H'=>hM (be P true p [u] H') Q) X):cL P C (.p true p [a]) ρ H Q X:=k
theorem f7(hP:Pt π k v):∀{n:Nat} {H:AH} {Q:QE} {X:XE},(iY k v).length<=60->(∀r H',Kp H H'->H.length<=r->H'[r]? =some (.list (iY k v))->Q (.ref r) H')->aQ PL (n+k) 6 [v] H Q X:=by
 induction hP with
 |@wk k nm md=>exact λ{n H Q X} _ q=>cf FA rfl (dU (mX (ae rfl _ (hE (ky xy) ⟨bQ rfl,bK (aR rfl) (bx (ae rfl) (q _ _ Kp.new (aM _) gy))⟩))))
 |@wd k nm rl m s ps _ _ _ _ h5 _ _ _ ih=>
  intro n H Q X hl q;refine cf FA rfl (dU (mX (ae rfl _ (hE (ky xy) ⟨bQ rfl,cV (aR rfl) ?_⟩))));refine rD (λits ρ H'=>∃o dn,ρ=[some (j6 nm rl m s ps),some (.ref H.length),o]/\dn++its=ps/\Kp H H'/\H'[H.length]? =some (.list (j6 nm rl m s ps::dn.flatMap (iY k)))) (v:=.tup ps) (items:=ps) (aR rfl) (λ_ _ _ _=>rfl) (aa h5.2 (by decide)) ⟨none,[],rfl,rfl,Kp.new,gy⟩ (λx xs ρ' H' hI K' hK=>kD hI λo dn e ed kp hg=>?_) λρ' H' hI=>kD hI λo dn e ed kp hg=>?_
  ·subst e;haveI hm:x∈ps:=ed▸az dn (.head _);haveI e2:(dn++[x]).flatMap (iY k)=dn.flatMap (iY k)++iY k x:=by rw [bu,ce,i6,aC]
   have e3:(j6 nm rl m s ps::dn.flatMap (iY k)).length+(iY k x).length<=60:=by refine aa ?_ hl;refine(?_:_<=(ps.flatMap (iY k)).length+1);rw [<-ed,bu,ce,ah,ah,dR,bH];exact aA (aH (ax _ _) _)
   haveI hr:H.length<H'.length:=(af.mp hg).1;refine dJ (A8 (ae rfl) (fb hg) (gN (ae rfl) (ih x hm (aa (bL _ _) e3) λr H'' kp' hr' hg'=>hE (xW ((kp'.2 _ hr).trans hg) hg' (aa e3 (by decide))) (hK _ _ ⟨_,dn++[x],rfl,(an dn [x] xs).trans ed,(kp.trans kp').set (aM _),?_⟩))));rw [bX (bo hr kp'.1),e2];rfl
  ·subst e;exact bx (ae rfl) (q _ _ kp (aM _) ((aC dn).symm.trans ed▸hg))
end
theorem l6(Inv:Nat->Fm->AH->Prop)
  (step:∀N ρ' H',Inv N ρ' H'->∃t,Ev P C ρ' H' (λ_ _=>False) c (.bool t)/\(t=true->∀K':KS,(∀ρ'' H'' N',N'<N->Inv N' ρ'' H''->K' ρ'' H'')->a8 P C body ρ' H' K' R (λ_ _=>False))/\(t=false->a8 P C ss ρ' H' K R X))
  (h0:Inv N ρ H):a8 P C (.while_ c body::ss) ρ H K R X:=by
 refine zC (N+1) ?_;haveI g:∀M N ρ H,N<M->Inv N ρ H->lE (λρ' H' K₁ K₂=>cL P C c ρ' H' (λv H''=>nT (gb v) λt=>if t then a8 P C body ρ' H'' K₁ R (λ_ _=>False)else K₂ ρ' H'') (λ_ _=>False)) M ρ H (λρ' H'=>a8 P C ss ρ' H' K R X):=by
  intro M
  induction M with
  |zero=>exact λN _ _ h=>absurd h (Nat.not_lt_zero N)
  |succ M ih=>
   intro N ρ H hN hI;refine c7 (step N ρ H hI) λt ht yes no=>ht _ ?_;cases t with
   |true=>exact yes rfl _ λρ'' H'' N' hn hI'=>ih N' ρ'' H'' (bo hn (dL hN)) hI'
   |false=>exact no rfl
 exact g _ _ _ _ (da N) h0
section
variable {π:PI}{n:Nat}{H:AH}{Q:QE}{X:XE}
theorem in3(h:md∈j8):be P false (.cop .in_) [.str md,.tup [.str ['a','l','w','a','y','s'],.str ['f','a','u','l','t','e','d'],.str ['n','e','v','e','r']]] H=some (.bool true,H):=
 eC h (λe=>by subst e;rfl) λh=>eC h (λe=>by subst e;rfl) λh=>by rw [in1 h];rfl
theorem Jg(h:rl∈fT):be P false (.cop .notin) [.str rl,.tup [.str ['o','n','e'],.str ['r','e','s','t'],.str ['a','l','l']]] H=some (.bool false,H):=
 eC h (λe=>by subst e;rfl) λh=>eC h (λe=>by subst e;rfl) λh=>by rw [in1 h];rfl
theorem f4w(h1:o0 nm)(h2:md∈j8)(q:Q (.bool true) H):aQ PL (n+2) 3 [nE nm md] H Q X:=
 cf Fj rfl (bK (aR rfl) (bx (cW (s:=true) (t:=true) (dF (aR rfl) λQ q=>f2 h1 q) λ_=>aq (aR rfl) (aR rfl) (in3 h2)) q))
theorem f4d(q:Q (.bool false) H):aQ PL (n+2) 3 [j6 nm rl m s ps] H Q X:=cf Fj rfl (cV (aR rfl) (bx am q))
theorem f5w(q:Q (.bool false) H):aQ PL (n+2) 4 [nE nm md] H Q X:=cf sg rfl (cV (aR rfl) (bx am q))
theorem f5d(h1:o0 nm)(h2:rl∈fT)(h3:0<=m/\m<=1000000000)(h4:1<=s/\s<=1000000000)(h5:1<=ps.length/\ps.length<=8)(q:Q (.bool true) H):aQ PL (n+2) 4 [j6 nm rl m s ps] H Q X:=
 cf sg rfl (bK (aR rfl) (bK (fK (s:=false) (t:=false) (c9 (s:=true) (dF (aR rfl) λQ q=>f2 h1 q)) λ_=>aq (aR rfl) (aR rfl) (Jg h2)) (bK (fK (s:=false) (t:=false) (c9 (s:=true) (fR (aR rfl) am am λQ q=>f1 h3 q)) λ_=>c9 (s:=true) (fR (aR rfl) am am λQ q=>f1 h4 q)) (bx (cW (s:=true) (t:=true) (aR rfl) λ_=>du (BC (i:=1) (j:=ps.length) (k:=8) am (aR rfl) am) (by rw [decide_eq_true (show(1:Int)<=ps.length from bW.mpr h5.1),decide_eq_true (show(ps.length:Int)<=8 from bW.mpr h5.2)];rfl)) q))))
noncomputable def ym(v:V):Bool:=!(kids v).isEmpty
theorem DT(hP:Pt π k v):(∀{n:Nat} {H:AH} {Q:QE} {X:XE},Q (.bool !(ym v)) H->aQ PL (n+2) 3 [v] H Q X)/\∀{n:Nat} {H:AH} {Q:QE} {X:XE},Q (.bool (ym v)) H->aQ PL (n+2) 4 [v] H Q X:=by
 induction hP with
 |wk h1 h2=>exact⟨λq=>f4w h1 h2 q,λq=>f5w q⟩
 |@wd _ _ _ _ _ ps h1 h2 h3 h4 h5=>
  cases ps with
  |nil=>exact absurd h5.1 (d6 0)
  |cons p ps=>exact⟨λq=>f4d q,λq=>f5d h1 h2 h3 h4 h5 q⟩
end
abbrev Td:=Nat×Nat×V
noncomputable def xG(x:Td):V:=.tup [x.2.2,.int x.2.1]
noncomputable abbrev xQ(x:Td):List Nm:=nms x.1 x.2.2
section
variable {π:PI}{n:Nat}{H:AH}{Q:QE}{X:XE}
theorem uJ(hP:Pt π k v):1<=k:=by
 induction hP with
 |wk=>exact aA (aY _)
 |wd=>exact aA (aY _)
theorem uk(hP:Pt π k v):∀p∈kids v,Pt π (k-1) p:=by
 induction hP with
 |wk=>exact qA
 |wd _ _ _ _ _ _ _ h8=>exact h8
theorem No(hP:Pt π k v)(h:ym v=true):be P false .i [v,.int 5] H=some (.tup (kids v),H):=by
 induction hP with
 |wk=>exact absurd h ai
 |wd=>exact rfl
theorem rT(hP:Pt π k v):(kids v).length<=8:=by
 induction hP with
 |wk=>exact aY _
 |wd _ _ _ _ h5=>exact h5.2
theorem DP(h:H[i]? =some (.dict ks vs)):be P false .len [.ref i] H=some (.int ks.length,H):=by show(DO _ (H[i]?.bind O.lst)).map _=_;rw [h];show((H[i]?.bind O.dct).map _).map _=_;rw [h];rfl
theorem uV(h:H[i]? =some (.list vs))(hl:vs.length+ws.length<=aB):be P false .extend [.ref i,.lst ws] H=some (.none,H.set i (.list (vs++ws))):=by show((H[i]?.bind O.lst).bind λvs=>some (i,vs)).bind _=_;rw [h];exact if_pos hl
theorem Hj(ho:Ev P C ρ H X a x)(ht:ly H x t=true)(k:hM (be P mu p [x] H) Q):cL P C (.n t mu p a []) ρ H Q X:=ho _ ⟨ht,k⟩
theorem kS(q:Q (.ref H.length) (H++[.dict [] []])):cL P C (.p true (.d []) []) ρ H Q X:=show hM (be P true (.d []) [] H) Q from hE rfl q
def IP(π:PI)(v:V)(H:AH)(N:Nat)(ρ:Fm)(H':AH):Prop:=
 ∃(td:List Td) (dn:AL Unit) (o3 o4:Option V),ρ=[some v,some (.ref H.length),some (.ref (H.length+1)),o3,o4]/\(Kp H H'/\H'.length=H.length+2)/\H'[H.length]? =some (.list (td.map xG))/\H'[H.length+1]? =some (dO (λ_=>.bool true) dn)/\(dn.map (·.1)++td.flatMap xQ).Nodup/\((dn.map (·.1)++td.flatMap xQ).length<=60/\(td.flatMap xQ).length=N)/\∀x∈td,Pt π x.1 x.2.2/\x.1+x.2.1<=7
theorem IF{td:List Td}(h:∀x∈td,Pt π x.1 x.2.2/\x.1+x.2.1<=7):td.length<=(td.flatMap xQ).length:=by
 induction td with
 |nil=>exact aM _
 |cons x td ih=>rw [ce,ah,dR,db];refine bU ?_ (ih λy hy=>h y (.tail _ hy));rw [show xQ x=_ from mz (h x (.head _)).1];exact aA (aY _)
theorem Gv(k:Kp H H')(h:H'.length=H.length+2):∃o₁ o₂,H'=H++[o₁,o₂]:=by
 have e:H'=H++H'.drop H.length:=by
  refine fE λa=>?_;by_cases ha:a<H.length
  ·rw [bt ha];exact k.2 a ha
  ·rw [b0 (fN ha),qc,jI (fN ha)]
 have l:(H'.drop H.length).length=2:=by rw [eY,h,cT]
 cases hD:H'.drop H.length with
 |nil=>rw [hD]at l;exact absurd l (by decide)
 |cons o₁ D=>
  rw [hD]at l e;cases D with
  |nil=>exact absurd l (by decide:¬1=2)
  |cons o₂ D=>exact⟨o₁,o₂,e.trans (congrArg (λt=>H++o₁::o₂::t) (Cm.mp (fW (fW l))))⟩
theorem f6{k:Nat}(hP:Pt π k v)(hk:k<=7)(hw:ym v=true)(nd:(nms k v).Nodup)(hl:(nms k v).length<=60)(q:∀o₁ o₂,Q (.bool true) (H++[o₁,o₂])):aQ PL (n+3) 5 [v] H Q X:=by
 haveI e0:[(k,0,v)].flatMap xQ=nms k v:=aC _;refine cf Fs rfl (bK (c9 (s:=true) (dF (ae rfl) λQ q=>(DT hP).2 (by rw [hw];exact q))) (dU (mX (aq (ae rfl) am (eM fx) _ (hE (ky xy) ⟨bQ rfl,dU (kS ⟨bQ rfl,?_⟩)⟩)))));haveI l1:(H++[O.list [V.tup [v,.int 0]]]).length=H.length+1:=ah;rw [l1];refine l6 (IP π v H) (N:=(nms k v).length) (λN ρ' H' hI=>AI hI λtd dn o3 o4 e kp ht hd hn hN hx=>?_) ⟨[(k,0,v)],[],none,none,rfl,⟨Kp.new.trans Kp.new,by rw [ah,l1];rfl⟩,dt gy,l1▸gy,e0.symm▸nd,⟨e0.symm▸hl,congrArg d5 e0⟩,dz ⟨hP,hk⟩⟩;subst e;refine⟨_,aq (bY (ae rfl) (fL ht)) am qR,λhc K' hK=>?_,λ_=>bx am (sH (Gv kp.1 kp.2) λo₁ o₂ e=>e▸q o₁ o₂)⟩;haveI hc:=of_decide_eq_true hc;rcases List.eq_nil_or_concat td with e|⟨ini,x,e⟩
 ·subst e;exact absurd hc (by decide)
 haveI e:td=ini++[x]:=e.trans (List.concat_eq_append ..);subst e;have hP:=hx x (az _ (.head _));have f1:(ini++[x]).flatMap xQ=ini.flatMap xQ++(ao x.2.2::(kids x.2.2).flatMap (nms (x.1-1))):=by rw [bu,ce,i6,aC,show xQ x=_ from mz hP.1]
 haveI f2:((kids x.2.2).map λc=>((x.1-1,x.2.1+1,c):Td)).flatMap xQ=(kids x.2.2).flatMap (nms (x.1-1)):=gV ..;haveI f3:∀td',td'=(kids x.2.2).map (λc=>((x.1-1,x.2.1+1,c):Td))->((dn++[(ao x.2.2,())]).map (·.1)++(ini++td').flatMap xQ).Perm (dn.map (·.1)++(ini++[x]).flatMap xQ):=λtd' e=>by rw [e,f1,bu,f2,aJ,an];exact List.Perm.append_left _ (Ou.symm:(ao x.2.2::(ini.flatMap xQ++(kids x.2.2).flatMap (nms (x.1-1)))).Perm _)
 rw [aJ]at ht;haveI hlt:H.length<H'.length:=(af.mp ht).1;haveI hlt':H.length+1<H'.length:=(af.mp hd).1;have h60:(ini.map xG).length+1<=60:=by haveI:=aa (IF hx) (aa (bL _ _) (aa (au ah.symm) hN.1));rw [ah]at this;rw [ak];exact this
 have hin:ao x.2.2∉dn.map (·.1):=λz=>(bj.mp hn).2.2 _ z (ao x.2.2) (f1▸az _ (.head _)) rfl;have hdl:dn.length+1<=60:=by haveI:=hN.1;rw [f1,ah,ah,ak,dR]at this;exact aa (aH (aa (aA (aY _)) (bL _ _)) _) this
 haveI ha:x.2.1<=6:=iG (aa (au (db x.2.1 1)) (aa (aZ (uJ hP.1) _) hP.2));have fin:∀H3,(Kp H H3/\H3.length=H.length+2)->H3[H.length]? =some (.list (ini.map xG++(kids x.2.2).map λc=>xG (x.1-1,x.2.1+1,c)))->H3[H.length+1]? =some (dO (λ_=>.bool true) (dn++[(ao x.2.2,())]))->K' [some v,some (.ref H.length),some (.ref (H.length+1)),some x.2.2,some (.int x.2.1)] H3:=λH3 k3 t3 d3=>by
  refine hK _ H3 _ ?_ ⟨ini++(kids x.2.2).map (λc=>((x.1-1,x.2.1+1,c):Td)),dn++[(ao x.2.2,())],_,_,rfl,k3,?_,d3,(f3 _ rfl).nodup_iff.mpr hn,⟨(f3 _ rfl).length_eq▸hN.1,rfl⟩,dk (λy hy=>hx y (aI _ hy)) λy hy=>av (aK.mp hy) λc hc e=>e▸⟨uk hP.1 c hc,?_⟩⟩
  ·rw [<-hN.2,f1,bu,f2,ah,ah];exact da _
  ·rw [t3,aJ,bM];rfl
  ·exact aa (au ((bH (x.1-1) x.2.1 1).trans (congrArg (·+x.2.1) (fY (uJ hP.1))))) hP.2
 haveI ht1:(H'.set H.length (.list (ini.map xG)))[H.length]? =some (.list (ini.map xG)):=bX hlt;haveI hd1:(H'.set H.length (.list (ini.map xG)))[H.length+1]? =some (dO (λ_=>.bool true) dn):=(bv (dK (da _))).trans hd;haveI e2:=kt (n:=ao x.2.2) (x:=()) (val:=λ_=>V.bool true) hd1 (aa (bf _) (aa hdl (by decide)));rw [ow λp hp z=>hin (aK.mpr ⟨p,hp,z⟩)]at e2;haveI ht2:((H'.set H.length (.list (ini.map xG))).set (H.length+1) (dO (λ_=>.bool true) (dn++[(ao x.2.2,())])))[H.length]? =some (.list (ini.map xG)):=(bv (gQ (da _))).trans ht1;haveI hd2:((H'.set H.length (.list (ini.map xG))).set (H.length+1) (dO (λ_=>.bool true) (dn++[(ao x.2.2,())])))[H.length+1]? =some (dO (λ_=>.bool true) (dn++[(ao x.2.2,())])):=bX (aU.symm▸hlt');haveI k2:Kp H ((H'.set H.length (.list (ini.map xG))).set (H.length+1) (dO (λ_=>.bool true) (dn++[(ao x.2.2,())]))):=(kp.1.set (aM _)).set (bf _);haveI l2:((H'.set H.length (.list (ini.map xG))).set (H.length+1) (dO (λ_=>.bool true) (dn++[(ao x.2.2,())]))).length=H.length+2:=aU.trans (aU.trans kp.2);refine nR (Hj (ae rfl) (fb ht) (hE (Hu ht (aa h60 (by decide))) (?_:a8 PL (aQ PL (n+2)) [_,_,_,_] [some v,some (.ref H.length),some (.ref (H.length+1)),some x.2.2,some (.int x.2.1)] _ _ Q _)));refine bK (fK (s:=false) (t:=false) (du (aq (ae rfl) am qR) (congrArg V.bool (decide_eq_false (cN.mpr (bW.mpr ha))))) λ_=>du (cW (c9 (dF (ae rfl) λQ q=>(DT hP.1).1 q)) λ_=>c9 (dF (ae rfl) λQ q=>(DT hP.1).2 q)) (by cases ym x.2.2<;>rfl)) (bK (fK (s:=false) (t:=false) (du (aq (li hP.1 rfl) (ae rfl) (t8 hd1)) (congrArg V.bool (dm.mpr λz=>hin (bh.mp z)))) λ_=>du (aq (bY (ae rfl) (DP hd1)) am (ft b7 b7)) ?_) (Dn rfl (li hP.1 rfl) e2 (cU (dF (ae rfl) λQ q=>(DT hP.1).2 q) (λhb=>?_) λhb=>?_)))
 ·refine congrArg V.bool (decide_eq_false λz:((dn.map (·.1)).length:Int)=60=>?_);rw [ak]at z;exact(by decide:¬60+1<=60) ((eV z:dn.length=60)▸hdl)
 ·refine dJ (A8 (ae rfl) (fb ht2) (lO (l:=kids x.2.2) (f:=λc=>c) (g:=λc=>xG (x.1-1,x.2.1+1,c)) (aq (ae rfl) am (No hP.1 hb)) (congrArg some (jY _).symm) (aa (rT hP.1) (by decide)) (λc _=>aq (ae rfl) (aq (ae rfl) am dN) (eM fx)) _ (hE (uV ht2 ?_) (fin _ ⟨k2.set (aM _),aU.trans l2⟩ ?_ ?_))))
  ·rw [ak (as:=kids x.2.2)];exact aa (bU (aa (bf _) h60) (rT hP.1)) (by decide)
  ·exact bX (af.mp ht2).1
  ·exact (bv (dK (da _))).trans hd2
 ·haveI ek:kids x.2.2=[]:=Ov.mp (dA _▸hb);refine fin _ ⟨k2,l2⟩ ?_ hd2;rw [ht2,ek];exact congrArg (λt=>some (O.list t)) (aC _).symm
end
section
variable {B Y:AH}{j:Nat}{o:O}
theorem iz:(B++Y)[B.length+j]? =Y[j]?:=by rw [b0 (ax _ _),cT]
theorem FC:(B++Y).set (B.length+j) o=B++Y.set j o:=by rw [iV _ _ (ax _ _),cT]
end
section
variable {P:Prog}{C:Calls}{ρ:Fm}{B Y:AH}{K:KS}{R:QE}{X:XE}{ss:List St}{nm:Nm}{e:Ex}{x:V}{ks:List Nm}{vs:List V}{o:O}
theorem Lo(h0:Y[0]? =some (.ns ks vs))(h1:Y[1]? =some (.inst 0 B.length)):gq (B++Y) (.ref (B.length+1))=some (B.length,ks,vs):=by show((B++Y)[B.length+1]?.bind O.ins).bind _=_;rw [iz,h1];show((B++Y)[B.length+0]?.bind O.nms).map _=_;rw [iz,h0];rfl
theorem Ki(h0:Y[0]? =some (.ns ks vs))(h1:Y[1]? =some (.inst 0 B.length))(hl:ks.length<=1000):ik (.ref (B.length+1)) nm x (B++Y)=some (B++Y.set 0 (.ns (d9 nm x ks vs).1 (d9 nm x ks vs).2)):=by show(gq (B++Y) (.ref (B.length+1))).bind _=_;rw [Lo h0 h1];show(if ks.length<=1000 then some ((B++Y).set (B.length+0) _)else none)=_;rw [if_pos hl,FC]
theorem MP(hρ:ρ[0]? =some (some (.ref (B.length+1))))(he:Ev P C ρ (B++Y) X e x)(h0:Y[0]? =some (.ns ks vs))(h1:Y[1]? =some (.inst 0 B.length))(hl:ks.length<=1000)(k:a8 P C ss ρ (B++Y.set 0 (.ns (d9 nm x ks vs).1 (d9 nm x ks vs).2)) K R X):a8 P C (.setAttr (.v 0) nm e::ss) ρ (B++Y) K R X:=
 he _ (ae (P:=P) (C:=C) (X:=X) hρ _ (by rw [Ki h0 h1 hl];exact k))
theorem lD(hρ:ρ[0]? =some (some (.ref (B.length+1))))(he:∀Q:QE,Q (.ref (B++Y).length) (B++Y++[o])->cL P C e ρ (B++Y) Q X)(h0:(Y++[o])[0]? =some (.ns ks vs))(h1:(Y++[o])[1]? =some (.inst 0 B.length))(hl:ks.length<=1000)(k:a8 P C ss ρ (B++(Y++[o]).set 0 (.ns (d9 nm (.ref (B.length+Y.length)) ks vs).1 (d9 nm (.ref (B.length+Y.length)) ks vs).2)) K R X):a8 P C (.setAttr (.v 0) nm e::ss) ρ (B++Y) K R X:=
 he _ (ae (P:=P) (C:=C) (X:=X) hρ _ (by rw [an,ah,Ki h0 h1 hl];exact k))
theorem Ed(ha:Ev P C ρ H X a (.str n))(q:Q (.ref H.length) (H++[.dict [n] [.none]])):cL P C (.p true .mkdict1 [a,.c .none]) ρ H Q X:=ha _ (hE rfl q:hM (be P true .mkdict1 [.str n,.none] H) Q)
end
noncomputable def yn(b:Nat)(v:V):List V:=[v,.ref (b+4),.ref (b+5),.ref (b+6),.ref (b+7),.ref (b+8),.ref (b+9),.ref (b+10)]
noncomputable def objs(n:Nm):List O:=[.list [],.dict [] [],.dict [n] [.none],.dict [] [],.dict [] [],.dict [] [],.dict [] []]
noncomputable def yS(b:Nat)(v:V)(n:Nm)(o₁ o₂:O)(m:Nat):AH:=.ns (hk.take m) ((yn b v).take m)::.inst 0 b::o₁::o₂::(objs n).take (m-1)
theorem KI(hP:Pt π k v)
  (w:a8 PL C (nF.body.drop 9) [some (.ref (B.length+1)),some v,none] (B++yS B.length v (ao v) o₁ o₂ 8) K Q X) :
  a8 PL C (nF.body.drop 1) [some (.ref (B.length+1)),some v,none] (B++[.ns [] [],.inst 0 B.length,o₁,o₂]) K Q X:=
 MP rfl (ae rfl) rfl rfl (aG rfl) (show a8 PL C (nF.body.drop 2) _ (B++yS B.length v (ao v) o₁ o₂ 1) K Q X from lD rfl (λQ q=>jS q) rfl rfl (aG rfl) (show a8 PL C (nF.body.drop 3) _ (B++yS B.length v (ao v) o₁ o₂ 2) K Q X from lD rfl (λQ q=>kS q) rfl rfl (aG rfl) (show a8 PL C (nF.body.drop 4) _ (B++yS B.length v (ao v) o₁ o₂ 3) K Q X from lD rfl (λQ q=>Ed (li hP rfl) q) rfl rfl (aG rfl) (show a8 PL C (nF.body.drop 5) _ (B++yS B.length v (ao v) o₁ o₂ 4) K Q X from lD rfl (λQ q=>kS q) rfl rfl (aG rfl) (show a8 PL C (nF.body.drop 6) _ (B++yS B.length v (ao v) o₁ o₂ 5) K Q X from lD rfl (λQ q=>kS q) rfl rfl (aG rfl) (show a8 PL C (nF.body.drop 7) _ (B++yS B.length v (ao v) o₁ o₂ 6) K Q X from lD rfl (λQ q=>kS q) rfl rfl (aG rfl) (lD rfl (λQ q=>kS q) rfl rfl (aG rfl) w:a8 PL C (nF.body.drop 8) _ (B++yS B.length v (ao v) o₁ o₂ 7) K Q X)))))))
structure Cl(B:AH)(L:List (Nat×O))(H:AH):Prop where
 nd:(L.map (·.1)).Nodup
 cell:∀p∈L,H[p.1]? =some p.2/\B.length<=p.1
 pre:∀a,a<B.length->H[a]? =B[a]?
section
variable {B H:AH}{L:List (Nat×O)}
theorem Cl.get(h:Cl B L H)(k:Nat)(hk:L[k]? =some p):H[p.1]? =some p.2:=(h.cell p (aN hk)).1
theorem Cl.set(h:Cl B L H)(k:Nat)(hk:L[k]? =some (a,o)):Cl B (L.set k (a,o')) (H.set a o'):=by
 have ha:=h.cell _ (aN hk);haveI hlt:a<H.length:=(af.mp ha.1).1;have hkl:k<L.length:=(af.mp hk).1;haveI hm:(L.set k (a,o')).map (·.1)=L.map (·.1):=by
  rw [EB];refine fE λj=>?_;rw [fF];by_cases q:k=j
  ·subst q;rw [if_pos rfl,aV,hk];exact if_pos (by rw [ak];exact hkl)
  ·rw [if_neg q]
 refine⟨hm▸h.nd,λp hp=>?_,λb hb=>(bv (gQ (bo hb ha.2))).trans (h.pre b hb)⟩;obtain⟨j,hj⟩:=cB hp;rw [fF]at hj;by_cases q:k=j
 ·subst q;rw [if_pos rfl,if_pos hkl]at hj;haveI hp:(a,o')=p:=aj hj;subst hp;exact⟨bX hlt,ha.2⟩
 ·rw [if_neg q]at hj;haveI hp:=h.cell p (aN hj);refine⟨(bv λz=>?_).trans hp.1,hp.2⟩;haveI h1:(L.map (·.1))[k]? =some a:=by rw [aV,hk];rfl
  haveI h2:(L.map (·.1))[j]? =some a:=by rw [aV,hj,z];rfl
  exact q ((gx (af.mp h1).1 h.nd).mp (h1.trans h2.symm))
theorem Cl.lt(h:Cl B L H)(hp:p∈L):p.1<H.length:=(af.mp (h.cell p hp).1).1
theorem Cl.new(h:Cl B L H)(o:O)(hb:B.length<=H.length):Cl B (L++[(H.length,o)]) (H++[o]):=by refine⟨?_,dk (λp hp=>⟨dt (h.cell p hp).1,(h.cell p hp).2⟩) (dz ⟨gy,hb⟩),λa ha=>(bt (bo ha hb)).trans (h.pre a ha)⟩;rw [aJ];refine bj.mpr ⟨h.nd,bk.mpr ⟨bl,cc⟩,λa ha b hb=>?_⟩;rw [in1 hb];exact av (aK.mp ha) λp hp e=>e▸dK (h.lt hp)
end
noncomputable def pM(x:V):V:=x
noncomputable def NL(b r:Nat)(v:V)(all:List V)(ns:List Nm)(pv ch:AL V)(qu:AL Nat):List (Nat×O):=
 [(b,.ns (hk.take 8) (yn b v)),(b+1,.inst 0 b),(b+4,.list (ns.map V.str)),(b+5,dO pM pv),(b+6,dO pM ch),(b+7,.dict [] []),(b+8,.dict [] []),(b+9,.dict [] []),(b+10,dO V.ref qu),(r,.list all)]++qu.map λp=>(p.2,.list [])
section
variable {P:Prog}{C:Calls}{ρ:Fm}{B H:AH}{X:XE}{r:Nat}{v x:V}{all:List V}{ns:List Nm}{pv ch:AL V}{qu:AL Nat}{nm:Nm}
theorem Fb(g0:H[B.length]? =some (.ns (hk.take 8) (yn B.length v)))(g1:H[B.length+1]? =some (.inst 0 B.length)):gq H (.ref (B.length+1))=some (B.length,hk.take 8,yn B.length v):=by show(H[B.length+1]?.bind O.ins).bind _=_;rw [g1];show(H[B.length]?.bind O.nms).map _=_;rw [g0];rfl
theorem mW(g0:H[B.length]? =some (.ns (hk.take 8) (yn B.length v)))(g1:H[B.length+1]? =some (.inst 0 B.length))(h0:ρ[0]? =some (some (.ref (B.length+1))))(e:fo nm (hk.take 8) (yn B.length v)=some x):Ev P C ρ H X (qW nm) x:=bY (ae h0) (by refine(?_:((gq H (.ref (B.length+1))).bind λq=>(fo nm q.2.1 q.2.2).map (·,H))=_);rw [Fb g0 g1];exact congrArg (bP (·,H)) e)
end
section
variable {π:PI}{n:Nat}{B H:AH}{Q:QE}{X:XE}{r:Nat}{v:V}{all:List V}{ns:List Nm}{pv ch:AL V}{qu:AL Nat}
noncomputable def yj(w:V)(ps:List V)(ch:AL V):AL V:=ps.foldl (λc p=>dh (ao p) w c) ch
theorem wI:∀{ch:AL V},(yj w ps ch).length<=ch.length+ps.length:=by
 induction ps with
 |nil=>exact λ{ch}=>aM _
 |cons p ps ih=>exact λ{ch}=>aa ih (aa (aZ jv _) (au (by rw [bD,db 1];rfl)))
theorem NY(h:Cl B (NL B.length r v all ns pv ch qu) H)(hb:B.length<=H.length)(h1:ns.length<=60)(h2:pv.length<=60)(h3:qu.length<=60)(hn:∀p∈qu,p.1≠nm)
  (q:∀a H',Cl B (NL B.length r v all (ns++[nm]) (dh nm (nE nm md) pv) ch (qu++[(nm,a)])) H'->B.length<=H'.length->Q .none H'):aQ PL (n+1) 48 [.ref (B.length+1),nE nm md] H Q X:=by
 haveI sz:∀{j:Nat},j<=60->j<=aB:=λh=>aa h (by decide);refine cf zj rfl (kL (mW (h.get 0 rfl) (h.get 1 rfl) rfl rfl) (fb (h.get 2 rfl)) (aR rfl) (hE (fh (h.get 2 rfl) (aa (au (ak _)) (sz h1))) ?_));have c1:Cl B (NL B.length r v all (ns++[nm]) pv ch qu) (H.set (B.length+4) (.list (ns.map V.str++[.str nm]))):=by haveI c:=h.set 2 (o':=.list (ns.map V.str++[.str nm])) rfl;rw [show ns.map V.str++[.str nm]=(ns++[nm]).map V.str from by rw [aJ];rfl]at c ⊢;exact c
 refine ij (ae rfl _ (mW (c1.get 0 rfl) (c1.get 1 rfl) rfl rfl _ (aR (v:=.str nm) rfl _ ?_)));haveI e1:d8 (.ref (B.length+5)) (.str nm) (nE nm md) _=_:=kt (val:=pM) (x:=nE nm md) (c1.get 3 rfl) (sz h2);rw [e1];haveI c2:Cl B (NL B.length r v all (ns++[nm]) (dh nm (nE nm md) pv) ch qu) _:=c1.set 3 (o':=dO pM (dh nm (nE nm md) pv)) rfl;have l2:∀{a b:Nat} {o o':O},B.length<=((H.set a o).set b o').length:=λ{a b o o'}=>aa hb (au (aU.trans aU).symm);refine cV (aR rfl) (ij (jS (mW ((c2.new (.list []) l2).get 0 rfl) ((c2.new (.list []) l2).get 1 rfl) rfl rfl _ (aR (v:=.str nm) rfl _ ?_))));haveI e2:d8 (.ref (B.length+10)) (.str nm) (.ref _) _=_:=kt (n:=nm) (val:=V.ref) (x:=((H.set (B.length+4) (.list (ns.map V.str++[.str nm]))).set (B.length+5) (dO pM (dh nm (nE nm md) pv))).length) ((c2.new (.list []) l2).get 8 rfl) (sz h3);rw [e2,ow hn];haveI c3:=(c2.new (.list []) l2).set 8 (o':=dO V.ref (qu++[(nm,((H.set (B.length+4) (.list (ns.map V.str++[.str nm]))).set (B.length+5) (dO pM (dh nm (nE nm md) pv))).length)])) rfl;refine q ((H.set (B.length+4) (.list (ns.map V.str++[.str nm]))).set (B.length+5) (dO pM (dh nm (nE nm md) pv))).length _ ?_ (aa l2 (aa eO (au aU.symm)));unfold NL;rw [aJ (l₁:=qu)];exact c3
end
section
variable {π:PI}{n:Nat}{B H:AH}{Q:QE}{X:XE}{r:Nat}{v:V}{all:List V}{ns:List Nm}{pv ch:AL V}{qu:AL Nat}
theorem Oa(h8:∀p∈ps,Pt π k p)(h5:ps.length<=8)(h:Cl B (NL B.length r v all ns pv ch qu) H)(hb:B.length<=H.length)(h1:ns.length<=60)(h2:pv.length<=60)(h3:ch.length<=900)
  (q:∀H',Cl B (NL B.length r v all (ns++[nm]) (dh nm (j6 nm rl m s ps) pv) (yj (j6 nm rl m s ps) ps ch) qu) H'->B.length<=H'.length->Q .none H'):aQ PL (n+1) 48 [.ref (B.length+1),j6 nm rl m s ps] H Q X:=by
 haveI sz:∀{j:Nat},j<=60->j<=aB:=λh=>aa h (by decide);refine cf zj rfl (kL (mW (h.get 0 rfl) (h.get 1 rfl) rfl rfl) (fb (h.get 2 rfl)) (aR rfl) (hE (fh (h.get 2 rfl) (aa (au (ak _)) (sz h1))) ?_));have c1:Cl B (NL B.length r v all (ns++[nm]) pv ch qu) (H.set (B.length+4) (.list (ns.map V.str++[.str nm]))):=by haveI c:=h.set 2 (o':=.list (ns.map V.str++[.str nm])) rfl;rw [show ns.map V.str++[.str nm]=(ns++[nm]).map V.str from by rw [aJ];rfl]at c ⊢;exact c
 refine ij (ae rfl _ (mW (c1.get 0 rfl) (c1.get 1 rfl) rfl rfl _ (aR (v:=.str nm) rfl _ ?_)));haveI e1:d8 (.ref (B.length+5)) (.str nm) (j6 nm rl m s ps) _=_:=kt (val:=pM) (x:=j6 nm rl m s ps) (c1.get 3 rfl) (sz h2);rw [e1];haveI c2:Cl B (NL B.length r v all (ns++[nm]) (dh nm (j6 nm rl m s ps) pv) ch qu) _:=c1.set 3 (o':=dO pM (dh nm (j6 nm rl m s ps) pv)) rfl;haveI l2:∀{a b:Nat} {o o':O},B.length<=((H.set a o).set b o').length:=λ{a b o o'}=>aa hb (au (aU.trans aU).symm);refine bK (aR rfl) (rD (λits ρ H'=>∃o dn,ρ=[some (.ref (B.length+1)),some (j6 nm rl m s ps),o]/\dn++its=ps/\Cl B (NL B.length r v all (ns++[nm]) (dh nm (j6 nm rl m s ps) pv) (yj (j6 nm rl m s ps) dn ch) qu) H'/\B.length<=H'.length) (v:=.tup ps) (items:=ps) (aR rfl) (λ_ _ _ _=>rfl) (aa h5 (by decide)) ⟨none,[],rfl,rfl,c2,l2⟩ (λx xs ρ' H' hI K' hK=>kD hI λo dn e ed c l=>?_) λρ' H' hI=>kD hI λo dn e ed c l=>q H' ((aC dn).symm.trans ed▸c) l);subst e;haveI hm:x∈ps:=ed▸az dn (.head _);refine ij (ae rfl _ (mW (c.get 0 rfl) (c.get 1 rfl) rfl rfl _ (li (h8 x hm) rfl _ ?_)));haveI hl:(yj (j6 nm rl m s ps) dn ch).length<=aB:=aa wI (aa (bU h3 (aa (ed▸eO) h5)) (by decide));haveI e2:d8 (.ref (B.length+6)) (.str (ao x)) (j6 nm rl m s ps) _=_:=kt (val:=pM) (x:=j6 nm rl m s ps) (c.get 4 rfl) hl;rw [e2];refine hK _ _ ⟨_,dn++[x],rfl,(an dn [x] xs).trans ed,?_,aa l (au aU.symm)⟩;rw [show yj (j6 nm rl m s ps) (dn++[x]) ch=dh (ao x) (j6 nm rl m s ps) (yj (j6 nm rl m s ps) dn ch)from bw ..];exact c.set 4 (o':=dO pM (dh (ao x) (j6 nm rl m s ps) (yj (j6 nm rl m s ps) dn ch))) rfl
end
section
variable {π:PI}{n:Nat}{B H:AH}{Q:QE}{X:XE}{r:Nat}{v:V}{all:List V}{ns:List Nm}{pv ch:AL V}{qu:AL Nat}
noncomputable def tX(x:V):List Nm:=if ym x then []else [ao x]
theorem f30(hP:Pt π k x)(h:Cl B (NL B.length r v all ns pv ch qu) H)(hb:B.length<=H.length)(h1:ns.length<=60)(h2:pv.length<=60)(h3:ch.length<=900)(h4:qu.length<=60)(hn:∀p∈qu,p.1≠ao x)
  (q:∀qu' H',Cl B (NL B.length r v all (ns++[ao x]) (dh (ao x) x pv) (yj x (kids x) ch) qu') H'->B.length<=H'.length->qu'.map (·.1)=qu.map (·.1)++tX x->Q .none H'):aQ PL (n+1) 48 [.ref (B.length+1),x] H Q X:=by
 induction hP with
 |@wk _ nm=>exact NY h hb h1 h2 h4 hn λa H' c l=>q (qu++[(nm,a)]) H' c l aJ
 |@wd _ _ _ _ _ ps _ _ _ _ h5 _ _ h8=>
  refine Oa h8 h5.2 h hb h1 h2 h3 λH' c l=>q qu H' c l ?_;cases ps with
  |nil=>exact absurd h5.1 (d6 0)
  |cons p ps=>exact(aC _).symm
noncomputable def DQ(dn:List V):AL V:=dn.foldl (λc p=>dh (ao p) p c) []
noncomputable def yo(n0:Nm)(dn:List V):AL V:=dn.foldl (λc p=>yj p (kids p) c) [(n0,.none)]
def NI(B:AH)(v:V)(r:Nat)(all:List V)(n0:Nm)(its:List V)(ρ:Fm)(H:AH):Prop:=
 ∃o dn qu,ρ=[some (.ref (B.length+1)),some v,o]/\dn++its=all/\Cl B (NL B.length r v all (dn.map ao) (DQ dn) (yo n0 dn) qu) H/\qu.map (·.1)=dn.flatMap tX/\(B.length<=H.length/\(DQ dn).length<=dn.length/\(yo n0 dn).length<=8*dn.length+1)
end
section
variable {π:PI}{n:Nat}{B H:AH}{K:KS}{Q:QE}{X:XE}{r:Nat}{v:V}{all:List V}
theorem CP{dn:List V}{a:Nm}(h:a∈dn.flatMap tX):a∈dn.map ao:=av (a9.mp h) λx hx ha=>by
 unfold tX at ha;by_cases e:ym x=true
 ·rw [if_pos e]at ha;exact absurd ha bl
 ·rw [if_neg e]at ha;exact in1 ha▸bq hx
theorem wt{dn:List V}:(dn.flatMap tX).length<=dn.length:=by
 induction dn with
 |nil=>exact aM _
 |cons x dn ih=>
  rw [ce,ah,dR,db];refine bU ih ?_;unfold tX;by_cases e:ym x=true
  ·rw [if_pos e];exact aY _
  ·rw [if_neg e];exact aM _
theorem LZ{n0:Nm}{ss:List St}{e:Ex}{H0:AH}(he:∀Q:QE,(∀r H,Cl B (NL B.length r v all [] [] [(n0,.none)] []) H->B.length<=H.length->Q (.ref r) H)->cL PL (aQ PL (n+1)) e [some (.ref (B.length+1)),some v,none] H0 Q X)(hP:∀x∈all,∃k,Pt π k x)(nd:(all.map ao).Nodup)(hl:all.length<=60)
  (q:∀r o qu H',Cl B (NL B.length r v all (all.map ao) (DQ all) (yo n0 all) qu) H'->qu.map (·.1)=all.flatMap tX->B.length<=H'.length->a8 PL (aQ PL (n+1)) ss [some (.ref (B.length+1)),some v,o] H' K Q X) :
  a8 PL (aQ PL (n+1)) (.f false (.inl 2) e [(.e (.m 0 48 ['n','o','t','e'] (.v 0) [.v 2]))]::ss) [some (.ref (B.length+1)),some v,none] H0 K Q X:=by
 refine nc (he _ λr H h hb=>oY (rev:=false) (tgt:=.inl 2) (v:=.ref r) (l:=all) (f:=λx=>x) (st:=λx ρ=>ρ.set 2 (some x)) (λ_ _=>rfl) (NI B v r all n0) (λ_ _ _ q=>oU q λo dn qu _ _ c _ _=>(gu (c.get 9 rfl)).trans (congrArg some (jY all).symm)) (aa hl (by decide)) ⟨none,[],[],rfl,rfl,h,rfl,hb,aM _,aM _⟩ (λx xs ρ' H' hI K' hK=>oU hI λo dn qu e ed c hq l=>?_) λρ' H' hI=>oU hI λo dn qu e ed c hq l=>?_)
 ·subst e;haveI hd:dn.length+1<=60:=by rw [<-ed,ah]at hl;exact aa (aH (aA (aY xs.length)) _) hl
  haveI nx:ao x∉dn.map ao:=λz=>by rw [<-ed,aJ]at nd;exact(bj.mp nd).2.2 _ z _ (.head _) rfl
  haveI e1:DQ (dn++[x])=dh (ao x) x (DQ dn):=bw ..;haveI e2:yo n0 (dn++[x])=yj x (kids x) (yo n0 dn):=bw ..;refine(hP x (ed▸az dn (.head _))).elim λk hP=>?_;refine dJ (ae (P:=PL) (C:=aQ PL (n+1)) (X:=λ_ _=>False) (ρ:=[some (.ref (B.length+1)),some v,some x]) (i:=0) rfl (λv' H₁=>gr H₁ 0 ['n','o','t','e'] v'=true/\gc PL (aQ PL (n+1)) [.v 2] [some (.ref (B.length+1)),some v,some x] H₁ (λvs H'=>aQ PL (n+1) 48 (v'::vs) H' (λ_ H'=>K' [some (.ref (B.length+1)),some v,some x] H') (λ_ _=>False)) (λ_ _=>False)) ⟨?_,ae (P:=PL) (C:=aQ PL (n+1)) (X:=λ_ _=>False) rfl _ (f30 hP c l.1 ?_ ?_ ?_ ?_ ?_ λqu' H'' c' l' hq'=>hK _ _ ⟨_,dn++[x],qu',rfl,(an dn [x] xs).trans ed,?_,?_,l',?_,?_⟩)⟩)
  ·show (gq H' (.ref (B.length+1))).any _=true;rw [Fb (c.get 0 rfl) (c.get 1 rfl)];rfl
  ·rw [ak];exact aa (bf _) hd
  ·exact aa l.2.1 (aa (bf _) hd)
  ·exact aa l.2.2 (aa (aA (br 8 (aa (bf _) hd))) (by decide))
  ·rw [<-ak (f:=(·.1)),hq];exact aa wt (aa (bf _) hd)
  ·exact λp hp z=>nx (z▸CP (hq▸bq hp))
  ·rw [aJ,e1,e2];exact c'
  ·rw [hq',hq,bu,ce,i6,aC]
  ·rw [e1,ah];exact aa jv (aA l.2.1)
  ·rw [e2,ah];exact aa wI (aa (bU l.2.2 (rT hP)) (au (bH _ _ _)))
 ·subst e;haveI ed:dn=all:=(aC dn).symm.trans ed;subst ed;exact q r o qu H' c hq l.1
end
theorem GJ{l:List V}:∀{c:AL V},(c.map (·.1)++l.map ao).Nodup->l.foldl (λc p=>dh (ao p) p c) c=c++l.map λp=>(ao p,p):=by
 induction l with
 |nil=>exact λ{c} _=>(aC c).symm
 |cons p l ih=>intro c nd;haveI e:dh (ao p) p c=c++[(ao p,p)]:=ow λq hq z=>(bj.mp nd).2.2 _ (bq hq) _ (.head _) z;refine(?_:l.foldl _ (dh (ao p) p c)=_);rw [e,ih (by rw [aJ,an];exact nd),an];rfl
theorem Hx(nd:(l.map ao).Nodup):DQ l=l.map λp=>(ao p,p):=GJ nd
theorem DH:∀{c:AL V},dX m (yj w ps c)=if m∈ps.map ao then some w else dX m c:=by
 induction ps with
 |nil=>exact λ{c}=>(if_neg bl).symm
 |cons p ps ih=>
  intro c;refine(ih (c:=dh (ao p) w c)).trans ?_;rw [kA];by_cases h:m∈ps.map ao
  ·rw [if_pos h,if_pos (.tail _ h)]
  ·rw [if_neg h];by_cases e:m=ao p
   ·rw [if_pos e,if_pos (e▸.head _)]
   ·rw [if_neg e];exact(if_neg λz=>eC z e h).symm
theorem zm{m:Nm}{w:V}{l:List V}(h:∀x∈l,m∈(kids x).map ao->x=w):∀{c:AL V},(dX m c=some w\/∃x∈l,m∈(kids x).map ao)->dX m (l.foldl (λc p=>yj p (kids p) c) c)=some w:=by
 induction l with
 |nil=>exact λq=>q.elim id λq=>av q λx hx _=>absurd hx bl
 |cons p l ih=>
  intro c q;refine ih (λx hx=>h x (.tail _ hx)) ?_;rw [DH];by_cases e:m∈(kids p).map ao
  ·rw [if_pos e];exact .inl (congrArg some (h p (.head _) e))
  ·rw [if_neg e];exact q.imp id λq=>av q λx hx hm=>eC hx (λz=>absurd (z▸hm) e) λhx=>⟨x,hx,hm⟩
section
variable {π:PI}{k:Nat}{v w x p:V}
theorem rQ(hP:Pt π k w)(hp:p∈kids w):π.ch (ao p)=some (ao w):=by
 induction hP with
 |wk=>exact absurd hp bl
 |wd _ _ _ _ _ _ h7=>exact(h7 _).mpr ⟨p,hp,rfl⟩
theorem CM(hP:Pt π k w):π.isW (ao w)=some (ym w):=by
 induction hP with
 |wk _ _ h=>exact h
 |@wd _ _ _ _ _ ps _ _ _ _ h5 h6=>
  cases ps with
  |nil=>exact absurd h5.1 (d6 0)
  |cons p ps=>exact h6
theorem Kd(hP:Pt π k w):o0 (ao w):=by
 induction hP with
 |wk h=>exact h
 |wd h=>exact h
theorem m6:∀{k:Nat} {v:V},Pt π k v->∀x∈iY k v,∃k,Pt π k x:=by
 intro k
 induction k with
 |zero=>exact λ_=>qA
 |succ k ih=>exact λhP=>d0 ⟨_,hP⟩ λx hx=>av (a9.mp hx) λp hp hx=>ih (uk hP p hp) x hx
theorem Bo{l:List V}(nd:(l.map ao).Nodup)(hx:x∈l)(hw:w∈l)(e:ao x=ao w):x=w:=by
 induction l with
 |nil=>exact absurd hx bl
 |cons y l ih=>have n:=bk.mp nd;exact eC hx (λe1=>eC hw (λe2=>e1.trans e2.symm) λh=>absurd (bq h) λz=>n.1 (e1▸e.symm▸z)) λh=>eC hw (λe2=>absurd (bq h) λz=>n.1 (e2▸e▸z)) λh'=>ih n.2 h h'
theorem DZ{l:List V}(hp:∀x∈l,∃k,Pt π k x){m:Nm}(hn:(π.isW m).isSome=true->m∈l.map ao):m∈l.flatMap tX↔π.isW m=some false:=by
 refine⟨λh=>av (a9.mp h) λx hx hm=>(hp x hx).elim λk hk=>?_,λh=>av (aK.mp (hn (congrArg c6 h))) λx hx e=>(hp x hx).elim λk hk=>a9.mpr ⟨x,hx,?_⟩⟩
 ·unfold tX at hm;by_cases e:ym x=true
  ·rw [if_pos e]at hm;exact absurd hm bl
  ·rw [if_neg e]at hm;rw [in1 hm,CM hk,dm.mpr e]
 ·unfold tX;have z:=(CM hk).symm.trans (e.symm▸h);rw [aj z,<-e];exact .head _
theorem GF{l:List V}(nd:(l.map ao).Nodup):(l.flatMap tX).Nodup:=by
 refine List.Nodup.sublist (?_:(l.flatMap tX).Sublist (l.map ao)) nd;clear nd
 induction l with
 |nil=>exact .slnil
 |cons x l ih=>
  rw [ce];unfold tX;by_cases e:ym x=true
  ·rw [if_pos e];exact .cons _ ih
  ·rw [if_neg e];exact .cons_cons _ ih
end
noncomputable def gB(B:AH):List (Nat×O):=B.zipIdx.map Prod.swap
theorem ub(h:p∈gB B):B[p.1]? =some p.2:=av (aK.mp h) λ_ hx e=>e▸gj.mp hx
theorem rB(h:B[a]? =some o):(a,o)∈gB B:=aK.mpr ⟨(o,a),gj.mpr h,rfl⟩
theorem Fk:((gB B).map (·.1)).Nodup:=by unfold gB;rw [bM];show(B.zipIdx.map j5).Nodup;rw [List.zipIdx_map_snd];exact List.nodup_range'
noncomputable def Cj(B:AH)(v:V)(all:List V)(n0:Nm)(e:Nat):Ad:=⟨B.length,B.length+1,B.length+4,B.length+5,B.length+6,B.length+7,B.length+8,B.length+9,B.length+10,e,v,all.map ao,all,(yo n0 all).map (·.1),(yo n0 all).map (·.2),gB B⟩
noncomputable def vh(qu:AL Nat)(a:Nat):Option (Bool×Nm):=(qu.find? λp=>p.2==a).map λp=>(false,p.1)
noncomputable def DB(qu:AL Nat):Hst:=⟨[],[],[],qu.map λp=>(p.1,p.2,[]),0,0,[],0,vh qu⟩
theorem DF(nd:(qu.map (·.2)).Nodup)(hp:p∈qu):vh qu p.2=some (false,p.1):=by
 unfold vh
 induction qu with
 |nil=>exact absurd hp bl
 |cons x qu ih=>
  have n:=bk.mp nd;rw [List.find?_cons];refine eC hp (λe=>?_) λh=>?_
  ·rw [e,beq_self_eq_true];rfl
  ·rw [show(x.2==p.2)=false from beq_eq_false_iff_ne.mpr λe=>n.1 (aK.mpr ⟨p,h,e.symm⟩)];exact ih n.2 h
theorem l5(h:a∉qu.map (·.2)):vh qu a=none:=by unfold vh;rw [MW.mpr λ(x:Nm×Nat) hx (e:(x.2==a)=true)=>h (aK.mpr ⟨x,hx,beq_iff_eq.mp e⟩)];rfl
theorem Lc(hn:(all.map ao).Nodup)(hq:qu.map (·.1)=all.flatMap tX)
  (c:Cl B ([(B.length,.ns hk (yn B.length v++[.int 0,.int 0,.ref e])),(B.length+1,.inst 0 B.length),(B.length+4,.list ((all.map ao).map V.str)),(B.length+5,dO pM (DQ all)),(B.length+6,dO pM (yo n0 all)),(B.length+7,.dict [] []),(B.length+8,.dict [] []),(B.length+9,.dict [] []),(B.length+10,dO V.ref qu),(r,.list all)]++(qu.map λp=>(p.2,.list []))++[(e,.list [])]) H) :
  Hs (Cj B v all n0 e) (DB qu) H:=by
 haveI nd:=c.nd;rw [aJ,aJ,an,bM (l:=qu)]at nd;have nd1:=bj.mp nd;have nd2:=bj.mp nd1.2.1;haveI hm:∀{k:Nat} {p:Nat×O},([(B.length,.ns hk (yn B.length v++[.int 0,.int 0,.ref e])),(B.length+1,.inst 0 B.length),(B.length+4,.list ((all.map ao).map V.str)),(B.length+5,dO pM (DQ all)),(B.length+6,dO pM (yo n0 all)),(B.length+7,.dict [] []),(B.length+8,.dict [] []),(B.length+9,.dict [] []),(B.length+10,dO V.ref qu),(r,.list all)]:List (Nat×O))[k]? =some p->H[p.1]? =some p.2/\vh qu p.1=none:=λ{k p} h=>by haveI m:=aN h;exact⟨(c.cell p (aI _ (aI _ m))).1,l5 λz=>nd1.2.2 _ (bq m) _ (aI _ z) rfl⟩
 haveI he:H[e]? =some (.list [])/\vh qu e=none:=⟨(c.cell _ (az _ (.head _))).1,l5 λz=>nd2.2.2 _ z _ (.head _) rfl⟩;have hge:∀{p:Nm×Nat},p∈qu->H[p.2]? =some (.list [])/\B.length<=p.2:=λ{p} hp=>c.cell (p.2,.list []) (aI _ (az _ (aK.mpr ⟨p,hp,rfl⟩)));refine⟨?_,?_,qA,λp hp=>?_,?_,cc,cc,λb hb=>l5 λz=>av (aK.mp z) λq hq e=>c5 _ (bo (af.mp (hge hq).1).1 (e▸hb))⟩
 ·refine (?_:(([B.length,B.length+1,B.length+4,B.length+5,B.length+6,B.length+7,B.length+8,B.length+9,B.length+10]++[e])++(gB B).map (·.1)).Nodup);refine bj.mpr ⟨bj.mpr ⟨?_,bk.mpr ⟨bl,cc⟩,?_⟩,Fk,?_⟩
  ·exact (bj (l₁:=[B.length,B.length+1,B.length+4,B.length+5,B.length+6,B.length+7,B.length+8,B.length+9,B.length+10]) (l₂:=[r]).mp nd1.1).1
  ·exact λa ha b hb=>nd1.2.2 a (aI [r] ha) b (az _ hb)
  ·intro a ha b hb;have h1:B.length<=a:=dk (p:=λa=>B.length<=a) (d0 (aM _) (d0 (ax _ _) (d0 (ax _ _) (d0 (ax _ _) (d0 (ax _ _) (d0 (ax _ _) (d0 (ax _ _) (d0 (ax _ _) (dz (ax _ _)))))))))) (dz (show B.length<=e from(c.cell _ (az _ (.head _))).2)) a ha;exact av (aK.mp hb) λp hp e=>e▸gQ (bo (af.mp (ub hp)).1 h1)
 ·refine d0 (hm (k:=0) rfl) (d0 (hm (k:=1) rfl) (d0 (hm (k:=2) rfl) (d0 ?_ (d0 (hm (k:=4) rfl) (d0 (hm (k:=5) rfl) (d0 (hm (k:=6) rfl) (d0 (hm (k:=7) rfl) (d0 ?_ (d0 he λp hp=>?_)))))))))
  ·haveI:=hm (k:=3) rfl;rw [Hx hn,dO,bM,bM]at this;exact⟨this.1.trans (congrArg (λt=>some (O.dict _ t)) (jY all)),this.2⟩
  ·haveI:=hm (k:=8) rfl;refine⟨this.1.trans (congrArg some ?_),this.2⟩;unfold dO DB;rw [bM,bM];rfl
  ·have hb:=ub hp;have hl:=(af.mp hb).1;exact⟨(c.pre _ hl).trans hb,l5 λz=>av (aK.mp z) λq hq e=>c5 _ (bo hl (e▸(hge hq).2))⟩
 ·refine av (aK.mp hp) λq hq e=>e▸⟨DF nd2.1 hq,(hge hq).1,aY _⟩
 ·refine (?_:((qu.map _).map _).Nodup);rw [bM];exact hq.symm▸GF hn
section
variable {π:PI}{σ:Ad}{B:AH}{v:V}{n0:Nm}{e:Nat}
theorem Nx:∀{k d:Nat} {w:V},Rt π σ d k w->d+k=7->(∀w'∈iY k w,∀p∈kids w',fo (ao p) σ.chk σ.chv=some w')->∀x∈iY k w,∃d' k',d'+k'=7/\Rt π σ d' k' x/\(d'=0->x=w):=by
 intro k
 induction k with
 |zero=>exact λ_ _ _=>qA
 |succ k ih=>intro d w h e hc;refine d0 ⟨d,k+1,e,h,λ_=>rfl⟩ λx hx=>av (a9.mp hx) λp hp hx=>?_;have r:=h.rd;have nd:((kids w).flatMap (nms k)).Nodup:=(bk.mp r.nd).2;have sub:(nms k p).Sublist ((kids w).flatMap (nms k)):=jX (bq hp);have hr:Rt π σ (d+1) k p:=⟨⟨uk r.pt p hp,nd.sublist sub,aa (bf k) r.k7,aa sub.length_le (aa (bf _) r.len),λx hx=>r.md x (.tail _ (a9.mpr ⟨p,hp,hx⟩))⟩,w,h,hp,hc w (.head _) p hp⟩;refine(ih hr ((bH d 1 k).trans e) (λw' hw'=>hc w' (.tail _ (a9.mpr ⟨p,hp,hw'⟩))) x hx).imp λd' q=>q.imp λk' q=>⟨q.1,q.2.1,λz=>?_⟩;subst z;have z:=q.2.2 rfl;subst z;haveI z:V.none=w:=aj (q.2.1.2.1.symm.trans (hc w (.head _) x hp));subst z;exact absurd hp bl
theorem HM{l:List V}{x:V}(nd:(l.map ao).Nodup)(hx:x∈l):dX (ao x) (l.map λp=>(ao p,p))=some x:=by
 induction l with
 |nil=>exact absurd hx bl
 |cons y l ih=>
  haveI n:=bk.mp nd;refine(?_:(if ao x=ao y then some y else dX (ao x) (l.map λp=>(ao p,p)))=some x);by_cases h:ao x=ao y
  ·rw [if_pos h,Bo nd hx (.head _) h]
  ·rw [if_neg h];exact ih n.2 (eC hx (λe=>absurd (congrArg ao e) h) id)
theorem Jb(hP:Pt π 7 v)(nd:(nms 7 v).Nodup):∀w∈iY 7 v,∀p∈kids w,fo (ao p) (Cj B v (iY 7 v) n0 e).chk (Cj B v (iY 7 v) n0 e).chv=some w:=λw hw p hp=>by refine(mJ (val:=pM)).trans (congrArg (bP pM) (?_:dX (ao p) (yo n0 (iY 7 v))=some w));refine zm (λx hx hm=>Bo (fv.symm▸nd) hx hw ?_) (.inr ⟨w,hw,bq hp⟩);exact av (aK.mp hm) λy hy e=>(m6 hP x hx).elim λ_ hx=>(m6 hP w hw).elim λ_ hw=>aj ((rQ hx hy).symm.trans (e▸rQ hw hp))
theorem Hq(hP:Pt π 7 v)(hr:∀w,π.ch (ao v)≠some w):fo (ao v) (Cj B v (iY 7 v) (ao v) e).chk (Cj B v (iY 7 v) (ao v) e).chv=some .none:=by refine(mJ (val:=pM)).trans (congrArg (bP pM) (?_:dX (ao v) (yo (ao v) (iY 7 v))=some .none));exact zm (λx hx hm=>av (aK.mp hm) λy hy e=>(m6 hP x hx).elim λ_ hx=>absurd (e▸rQ hx hy) (hr _)) (.inl (if_pos rfl))
structure Plan(π:PI)(v:V):Prop where
 pt:Pt π 7 v
 w:ym v=true
 nd:(nms 7 v).Nodup
 le:(nms 7 v).length<=60
 top:∀w,π.ch (ao v)≠some w
 nm:∀m,(π.isW m).isSome=true->m∈nms 7 v
 md:∀x∈iY 7 v,mdOk π x
theorem Plan.rt(h:Plan π v):∀x∈iY 7 v,∃d k,d+k=7/\Rt π (Cj B v (iY 7 v) (ao v) e) d k x/\(d=0->x=v):=Nx (d:=0) ⟨⟨h.pt,h.nd,aM _,h.le,h.md⟩,Hq h.pt h.top,h.top⟩ rfl (Jb h.pt h.nd)
theorem Plan.pl(h:Plan π v):Pl π (Cj B v (iY 7 v) (ao v) e) where
 nm:=λm hm=>show m∈(iY 7 v).map ao from fv.symm▸h.nm m hm
 ok:=λm hm=>av (aK.mp hm) λx hx e=>(m6 h.pt x hx).elim λk hk=>e▸Kd hk
 le:=aa (au (congrArg d5 (fv (k:=7)))) h.le
 pt:=λm hm=>av (aK.mp hm) λx hx ex=>di (h.rt (B:=B) (e:=e) x hx) λd k q1 q2 q3=>⟨d,k,x,⟨dL (bo (Cn (uJ q2.rd.pt)) (au q1)),λz=>by rw [<-ex,q3 z,CM h.pt,h.w]⟩,q2,ex,by
  have nd:((iY 7 v).map ao).Nodup:=fv.symm▸h.nd;haveI z:=mJ (n:=m) (val:=pM) (l:=(iY 7 v).map λp=>(ao p,p));rw [bM,bM]at z;refine Eq.trans ?_ (z.trans (congrArg (bP pM) (?_:_=some x)))
  ·exact congrArg (fo m _) (jY _).symm
  ·rw [<-ex];exact HM nd hx⟩
 top:=h.pt
 nd:=show((iY 7 v).map ao).Nodup from fv.symm▸h.nd
end
section
variable {P:Prog}{C:Calls}{ρ:Fm}{B H:AH}{K:KS}{R:QE}{X:XE}{ss:List St}{nm:Nm}{e:Ex}{x:V}{ks:List Nm}{vs:List V}
theorem KQ(g0:H[b]? =some (.ns ks vs))(g1:H[b+1]? =some (.inst 0 b)):gq H (.ref (b+1))=some (b,ks,vs):=by show(H[b+1]?.bind O.ins).bind _=_;rw [g1];show(H[b]?.bind O.nms).map _=_;rw [g0];rfl
theorem Nv(g0:H[b]? =some (.ns ks vs))(g1:H[b+1]? =some (.inst 0 b))(hl:ks.length<=1000):ik (.ref (b+1)) nm x H=some (H.set b (.ns (d9 nm x ks vs).1 (d9 nm x ks vs).2)):=by show(gq H (.ref (b+1))).bind _=_;rw [KQ g0 g1];exact if_pos hl
theorem AP(hρ:ρ[0]? =some (some (.ref (b+1))))(he:∀Q:QE,Q x H->cL P C e ρ B Q X)(g0:H[b]? =some (.ns ks vs))(g1:H[b+1]? =some (.inst 0 b))(hl:ks.length<=1000)(k:a8 P C ss ρ (H.set b (.ns (d9 nm x ks vs).1 (d9 nm x ks vs).2)) K R X):a8 P C (.setAttr (.v 0) nm e::ss) ρ B K R X:=
 he _ (ae (P:=P) (C:=C) (X:=X) hρ _ (by rw [Nv g0 g1 hl];exact k))
end
section
variable {π:PI}{n:Nat}{B H:AH}{K:KS}{Q:QE}{X:XE}{r:Nat}{v:V}{qu:AL Nat}
theorem iv0(h:Plan π v)(hq:qu.map (·.1)=(iY 7 v).flatMap tX):Iv π (DB qu) where
 gd:=⟨λ_ z=>absurd z ai,λ_ z=>absurd z ai,aM _,aM _,aM _,aM _,λ_ z=>absurd z ai,λ_ z=>absurd z ai⟩
 up:=λ_ _ _ z=>absurd z ai
 nm:=qA
 qk:=λm=>by refine(?_:((qu.map λp=>(p.1,(p.2,([]:List (Nat×V))))).map (·.1)).contains m=true↔_);rw [bM,show((·.1)∘λp:Nm×Nat=>(p.1,(p.2,([]:List (Nat×V)))))=(·.1)from rfl,hq,bh];exact DZ (m6 h.pt) λz=>fv.symm▸h.nm m z
 lv:=λp hp=>av (aK.mp hp) λq _ e=>e▸qA
 lq:=by refine(?_:(qu.map _).length<=60);rw [ak,<-ak (f:=(·.1)),hq];exact aa wt (aa (au ((ak ao).symm.trans (congrArg d5 fv))) h.le)
noncomputable def rj:Ab:=⟨λ_=>false,λ_=>[],λ_=>0,λ_=>[],[],0,0⟩
theorem Ob:iU (DB qu)=rj:=by
 refine congrArg (λq=>(⟨λ_=>false,λ_=>[],λ_=>0,q,[],0,0⟩:Ab)) (funext λm=>?_);refine(?_:((dX m (qu.map λp=>(p.1,(p.2,([]:List (Nat×V)))))).map _).getD []=[])
 induction qu with
 |nil=>rfl
 |cons p qu ih=>
  refine(?_:((if m=p.1 then some (p.2,[])else dX m (qu.map λp=>(p.1,(p.2,([]:List (Nat×V)))))).map _).getD []=[]);by_cases e:m=p.1
  ·rw [if_pos e];rfl
  ·rw [if_neg e];exact ih
theorem KO(h:Plan π v)(c:Cl B (NL B.length r v (iY 7 v) ((iY 7 v).map ao) (DQ (iY 7 v)) (yo (ao v) (iY 7 v)) qu) H)(hq:qu.map (·.1)=(iY 7 v).flatMap tX)(hb:B.length<=H.length)
  (q:∀e S H',At π (Cj B v (iY 7 v) (ao v) e) S H'->S.ev.length<=60->iU S=aF ((nms 7 v).map .beg) (λ_=>[]) rj->Q .none H') :
  a8 PL (aQ PL (n+8)) (nF.body.drop 10) [some (.ref (B.length+1)),some v,o] H (λ_ H'=>Q .none H') Q X:=by
 haveI nd:((iY 7 v).map ao).Nodup:=fv.symm▸h.nd;have ln:(nms 7 v).length<=60:=h.le;refine AP (x:=.int 0) (H:=H) rfl (λQ q=>q) (c.get 0 rfl) (c.get 1 rfl) (aG rfl) ?_;haveI c1:=c.set 0 (o':=.ns (d9 ['c','l','o','c','k'] (.int 0) (hk.take 8) (yn B.length v)).1 (d9 ['c','l','o','c','k'] (.int 0) (hk.take 8) (yn B.length v)).2) rfl;refine AP (x:=.int 0) rfl (λQ q=>q) (c1.get 0 rfl) (c1.get 1 rfl) (aG rfl) ?_;haveI c2:=c1.set 0 (o':=.ns (hk.take 10) (yn B.length v++[.int 0,.int 0])) rfl;haveI c3:=c2.new (.list []) (aa hb (au (aU.trans aU).symm));refine AP (x:=.ref _) rfl (λQ q=>jS q) (c3.get 0 rfl) (c3.get 1 rfl) (aG rfl) ?_;have hs:=Lc nd hq (c3.set 0 (o':=.ns hk (yn B.length v++[.int 0,.int 0,.ref _])) rfl);have iv:=iv0 h hq;refine dY hs rfl rfl (ae rfl) (vL (n:=n+1) h.pt hs iv.gd (aa (aH ln _) (aG rfl)) λS' H' hs' gd' sp=>?_);have hh:∀m,here S' m=true↔m∈nms 7 v:=λm=>by rw [sp.hr];exact qz.trans ⟨λz=>z.elim id λz=>absurd z ai,.inl⟩
 haveI up:Up π (here S'):=λa m e z=>by
  haveI z:=(hh a).mp z;rw [<-fv]at z;refine av (aK.mp z) λx hx ex=>di (h.rt (B:=B) (e:=r) x hx) λd k q1 q2 q3=>?_;cases d with
  |zero=>exact absurd (q3 rfl▸ex▸e) (h.top m)
  |succ d=>exact c7 q2.2 λw hw hx _=>(hh m).mpr (h.nm m (aj ((rQ hw.rd.pt hx).symm.trans (ex▸e))▸congrArg c6 (CM hw.rd.pt)))
 refine q _ S' H' ⟨hs',iv.plain sp gd' up⟩ ?_ ((sD sp).trans (congrArg (aF _ _) Ob));rw [sp.ev];exact aa (au (ak _)) ln
theorem cl0(kp:Kp (B++yS B.length v (ao v) o₁ o₂ 8) H)(hr:(B++yS B.length v (ao v) o₁ o₂ 8).length<=r)(hg:H[r]? =some (.list all)):Cl B (NL B.length r v all [] [] [(ao v,.none)] []) H:=by rw [ah]at hr;haveI g:∀{j:Nat} {o:O},(yS B.length v (ao v) o₁ o₂ 8)[j]? =some o->H[B.length+j]? =some o/\B.length<=B.length+j:=λ{j o} e=>⟨(kp.2 _ (by rw [ah];exact JD (af.mp e).1 _)).trans (iz.trans e),ax _ _⟩;refine⟨?_,d0 (g (j:=0) rfl) (d0 (g (j:=1) rfl) (d0 (g (j:=4) rfl) (d0 (g (j:=5) rfl) (d0 (g (j:=6) rfl) (d0 (g (j:=7) rfl) (d0 (g (j:=8) rfl) (d0 (g (j:=9) rfl) (d0 (g (j:=10) rfl) (dz ⟨hg,aa (ax _ _) hr⟩))))))))),λa ha=>(kp.2 a (bo ha eO)).trans (bt ha)⟩;refine(?_:([0,1,4,5,6,7,8,9,10].map (B.length+·)++[r]).Nodup);refine bj.mpr ⟨lf.map _ (λa b (h:a≠b) e=>h (pw e)) (by decide:([0,1,4,5,6,7,8,9,10]:List Nat).Nodup),bk.mpr ⟨bl,cc⟩,λa ha b hb=>?_⟩;refine av (aK.mp ha) λj hj e=>in1 hb▸e▸dK (bo (JD ?_ _) hr);exact(by decide:∀j∈([0,1,4,5,6,7,8,9,10]:List Nat),j<11) j hj
theorem f29(h:Plan π v)(q:∀e S H',At π (Cj B v (iY 7 v) (ao v) e) S H'->S.ev.length<=60->iU S=aF ((nms 7 v).map .beg) (λ_=>[]) rj->Q .none H'):aQ PL (n+9) 47 [.ref (B.length+1),v] (B++[.ns [] [],.inst 0 B.length]) Q X:=by have nl:(iY 7 v).length<=60:=aa (au ((ak ao).symm.trans (congrArg d5 fv))) h.le;refine cf Bq rfl (AT (gN (ae rfl) (f6 (n:=n+5) h.pt (aM _) h.w h.nd h.le λo₁ o₂=>hE rfl ?_)));rw [an];refine KI h.pt ?_;refine LZ (n:=n+7) (n0:=ao v) (λQ q=>gN (ae rfl) (f7 (n:=n+1) h.pt nl λr H kp hr hg=>q r H (cl0 kp hr hg) (aa eO kp.1))) (m6 h.pt) (fv.symm▸h.nd) nl λr o qu H' c hq hb=>KO h c hq hb q
end
noncomputable def cA(i:Int):Char:=vm.getD i.toNat 'a'
def vH(s:Nm):Prop:=∀c∈s,c∈vm
theorem rE(h:0<=i/\i<26):vm[i.toNat]? =some (cA i):=by haveI l:i.toNat<vm.length:=show i.toNat<26 from(gR h.1).mpr h.2;unfold cA;rw [gL,aO l];rfl
theorem xe(h:0<=i/\i<26):vH [cA i]:=dz (aN (rE h))
theorem ui(hi:0<=i/\i<26)(hj:0<=j/\j<26)(e:cA i=cA j):i=j:=by haveI l:i.toNat<vm.length:=show i.toNat<26 from(gR hi.1).mpr hi.2;haveI z:=(gx l (by decide:vm.Nodup)).mp ((rE hi).trans ((congrArg some e).trans (rE hj).symm));rw [<-bT hi.1,<-bT hj.1,z]
theorem l9(h:vH s)(h':vH t):vH (s++t):=dk h h'
theorem ot(h:vH s):vH (bB s a b):=λc hc=>h c (Jp (Jr hc))
theorem xl(h:b<=s.length):(bB s 0 b).length=b:=by unfold bB;rw [yh,fM,Nat.min_eq_left h]
theorem wZ:(bB s a s.length).length=s.length-a:=by unfold bB;rw [eY,fM,rZ]
section
variable {P:Prog}{C:Calls}{ρ:Fm}{H:AH}{K:KS}{R:QE}{X:XE}{ss:List St}{m:Nat}{elt:Ex}{hd:Nm}
theorem rh(h:0<=i/\i<26):be P false .i [.str vm,.int i] H=some (.str [cA i],H):=by show((sa 26 i).bind λk=>(vm[k]?).map λc=>V.str [c]).map _=_;rw [show sa 26 i=some i.toNat from(if_pos h.1).trans (if_pos h.2)];show((vm[i.toNat]?).map _).map _=_;rw [rE h];rfl
structure Nms(m:Nat)(f:Nat->Nm):Prop where
 ok:∀k,k<m->o0 (f k)
 inj:∀j k,j<m->k<m->f j=f k->j=k
theorem rL(hm:m<=60)(h1:ρ[1]? =some (some (.int m)))(he:∀k:Nat,k<m->Ev P C (ρ++[some (.int k)]) H X elt (.str (f k)))(ok:Nms m f)(q:∀f,Nms m f->R (.lst ((aX m).map λk=>.str (f k))) H):a8 P C (.ret (.comp false elt (.p false .range1 [.v 1]) none)::ss) ρ H K R X:=
 bx (lO (l:=aX m) (f:=λk:Nat=>V.int k) (g:=λk=>V.str (f k)) (bY (ae h1) (fj (xK (aa hm (by decide))))) (congrArg some ((show jj 0 m=jj (0:Nat) m from rfl).trans (kQ.trans (by rw [bM,mO];exact cn λk _=>congrArg (λj:Nat=>V.int j) (dw k))))) (by rw [a7];exact aa hm (by decide)) λk hk=>he k (bE.mp hk)) (q f ok)
theorem yU(h:vH s)(e:s.length=k+1)(hk:k<8):o0 s:=⟨e▸aA (aY k),e▸hk,h⟩
end
section
variable {n:Nat}{H:AH}{K:KS}{R:QE}{X:XE}{m:Nat}{hd:Nm}{c:Int}
theorem Nj(hl:vH l)(hr:vH r)(hx:vH [x])(h:l.length+r.length<=6):o0 (l++[x]++r):=⟨by rw [ah,ah];exact aa (bL 1 l.length) (ax _ _),by rw [ah,ah,bH];exact aa (aA h) (by decide),l9 (l9 hl hx) hr⟩
theorem n7{a:Int}{j k:Nat}(hj:j<26)(hk:k<26)(h:(a+7*j)%26=(a+7*k)%26):j=k:=(by decide:∀j<26,∀k<26,7*j%26=7*k%26->j=k) j hj k hk (eV (Int.emod_add_cancel_left.mp h))
theorem n26{j k:Nat}(h1:(j:Int)/26=k/26)(h2:(j:Int)%26=k%26):j=k:=(Nat.div_add_mod j 26).symm.trans ((congrArg (26*·+j%26) (eV h1)).trans ((congrArg (26*(k/26)+·) (eV h2)).trans (Nat.div_add_mod k 26)))
theorem M9(h:k<m)(hm:m<=60):0<=(k:Int)/26/\(k:Int)/26<26:=⟨bn (k/26),(cG (n:=k/26) (m:=26)).mpr (Nat.div_lt_of_lt_mul (bo h (aa hm (by decide))))⟩
theorem NJ{r5 r7 r8:Option V}{w rs:Int}(hm:m<=60)(hh:hd.length<=6)(ha:vH hd)(q:∀f,Nms m f->R (.lst ((aX m).map λk=>.str (f k))) H) :
  a8 PL (aQ PL n) (Il.body.drop 8) [some (.int c),some (.int m),some (.str vm),some (.str hd),some (.int rs),r5,some (.int w),r7,r8] H K R X:=by
 haveI hs:hd.length<=aB:=aa hh (by decide);refine cU (cW (aq (ae rfl) am j0) λ_=>aq (ae rfl) am j0) (λh=>?_) λ_=>?_
 ·haveI hm':m<27:=cG.mp (of_decide_eq_true (ay.mp h).2);refine bp (iA (ae rfl) am (aq (aq (ae rfl) am (cO (by decide) (by decide))) (aq (bY (ae rfl) rz) am dN) (cI (Jt (bn _)))) (rG hs)) (bQ rfl) ?_;refine bp (iA (ae rfl) (bY (ae rfl) rz) am (sX hs)) (bQ rfl) ?_;generalize hL:bB hd 0 _=L;generalize hR:bB hd _ _=T;haveI hLT:L.length+T.length<=6:=by
   have e:L.length<=hd.length:=by rw [<-hL];unfold bB;rw [yh,fM];exact i0 _ _
   have e2:T.length=hd.length-L.length:=by rw [<-hR,iT e];exact wZ
   exact aa (au ((congrArg (L.length+·) e2).trans (jI e))) hh
  haveI hLa:vH L:=hL▸ot ha;haveI hTa:vH T:=hR▸ot ha;haveI h26:∀k:Nat,0<=(c/7+7*(k:Int))%26/\(c/7+7*(k:Int))%26<26:=λk=>gM (by decide);refine rL (f:=λk=>L++[cA ((c/7+7*(k:Int))%26)]++T) hm rfl (λk hk=>?_) ⟨λk _=>Nj hLa hTa (xe (h26 k)) hLT,λj k hj hk e=>n7 (bo hj (dL hm')) (bo hk (dL hm')) (ui (h26 j) (h26 k) (lg (lW (List.append_cancel_right e))).1)⟩ q;refine aq (aq (ae rfl) (aq (ae rfl) (aq (aq (aq (ae rfl) am (cO (by decide) (by decide))) (aq am (ae rfl) (Ae (by decide) (xK (aa (gT hk) (aa hm (by decide)))))) dN) am (cI (by decide))) (rh (h26 k))) (mB ?_)) (ae rfl) (mB ?_)
  ·exact aa (aA (aa (ax _ _) hLT)) (by decide)
  ·rw [ah,bH];exact aa (aA hLT) (by decide)
 ·haveI h26:∀k:Nat,0<=(k:Int)%26/\(k:Int)%26<26:=λk=>gM (by decide);refine rL (f:=λk=>hd++[cA ((k:Int)/26)]++[cA ((k:Int)%26)]) hm rfl (λk hk=>?_) ⟨λk hk=>?_,λj k hj hk e=>?_⟩ q
  ·refine aq (aq (ae rfl) (aq (ae rfl) (aq (ae rfl) am (cO (by decide) (by decide))) (rh (M9 hk hm))) (mB ?_)) (aq (ae rfl) (aq (ae rfl) am (cI (by decide))) (rh (h26 k))) (mB ?_)
   ·exact aa (aA hh) (by decide)
   ·rw [ah];exact aa (aA (aA hh)) (by decide)
  ·exact ⟨by rw [ah];exact bL 1 _,by rw [ah,ah];exact aA (aA hh),l9 (l9 ha (xe (M9 hk hm))) (xe (h26 k))⟩
  ·haveI z:=List.append_inj' e rfl;exact n26 (ui (M9 hj hm) (M9 hk hm) (lg (lW z.1)).1) (ui (h26 j) (h26 k) (lg z.2).1)
end
section
variable {n:Nat}{H:AH}{K:KS}{Q:QE}{X:XE}{m:Nat}{c:Int}
def NH(H0:AH)(c:Int)(m:Nat)(its:List Int)(ρ:Fm)(H:AH):Prop:=∃hd rs o,H=H0/\ρ=[some (.int c),some (.int m),some (.str vm),some (.str hd),some (.int rs),o,none,none,none]/\hd.length+its.length=8/\vH hd
theorem n9(h:(gH (.int c) (.int d)&&decide ((m:Int)<9))=true):m<=8:=dL (cG.mp (of_decide_eq_true (ay.mp h).2))
theorem f12(hm:m<=60)(q:∀f,Nms m f->Q (.lst ((aX m).map λk=>.str (f k))) H):aQ PL (n+1) 17 [.int c,.int m] H Q X:=by
 refine cf FP rfl (bp am (bQ rfl) (bp am (bQ rfl) (bp (aq (ae rfl) am (cO (by decide) (by decide))) (bQ rfl) (eD (NH H c m) (f:=V.int) (l:=[0,1,2,3,4,5,6,7]) (v:=.rng 0 8) (bY am (fj ⟨by decide,by decide⟩)) (λ_ _ _ _=>rfl) (by decide) ⟨[],_,none,rfl,rfl,rfl,qA⟩ (λx xs ρ' H' hI K' hK=>qm hI λhd rs o e0 e hl ha=>?_) λρ' H' hI=>qm hI λhd rs o e0 e hl ha=>?_))))
 ·subst e e0;haveI h:=gM (a:=rs) (b:=26) (by decide);refine bp (aq (ae rfl) (aq (ae rfl) (aq (ae rfl) am (cI (by decide))) (rh h)) (mB ?_)) (bQ rfl) (bp (aq (ae rfl) am (cO (by decide) (by decide))) (bQ rfl) (hK _ _ ⟨_,_,_,rfl,rfl,?_,l9 ha (xe h)⟩))
  ·exact aa (aA (aa (ax _ _) (au hl))) (by decide)
  ·rw [ah,bD,db _ xs.length];exact hl
 ·subst e e0;haveI hl:hd.length=8:=hl;haveI hs:hd.length<=aB:=aa (au hl) (by decide);refine bp (aq (ae rfl) am (cI (by decide))) (bQ rfl) (cU (cW (aq (ae rfl) am (ft b7 b7)) λ_=>aq (ae rfl) am j0) (λh=>?_) λ_=>cU (cW (aq (ae rfl) am (ft b7 b7)) λ_=>aq (ae rfl) am j0) (λh=>?_) λ_=>?_)
  ·have h8:∀{k},k<m->k+1<=hd.length:=λhk=>hl▸aa hk (n9 h);have e:∀{k},k<m->(bB hd 0 (k+1)).length=k+1:=λhk=>xl (h8 hk);exact rL (f:=λk=>bB hd 0 (k+1)) hm rfl (λk hk=>iA (ae rfl) am (aq (ae rfl) am dN) ((rG hs).trans (congrArg (λt=>some (V.str (bB hd 0 t),H')) (iT (j:=k+1) (h8 hk))))) ⟨λk hk=>yU (ot ha) (e hk) (aa hk (n9 h)),λj k hj hk z=>fW ((e hj).symm.trans ((congrArg d5 z).trans (e hk)))⟩ q
  ·have hk8:m<=8:=n9 h;have e0:∀{k},k<m->8-(7-k)=k+1:=λhk=>(Nat.succ_sub (dS 7 _)).trans (congrArg nK (Nat.sub_sub_self (dL (aa hk hk8))));have e:∀{k},k<m->(bB hd (7-k) hd.length).length=k+1:=λhk=>wZ.trans (hl.symm▸e0 hk);refine rL (f:=λk=>bB hd (7-k) hd.length) hm rfl (λk hk=>iA (ae rfl) (aq am (ae rfl) ro) am ((sX hs).trans (congrArg (λt=>some (V.str (bB hd t hd.length),H')) ?_))) ⟨λk hk=>yU (ot ha) (e hk) (aa hk hk8),λj k hj hk z=>fW ((e hj).symm.trans ((congrArg d5 z).trans (e hk)))⟩ q;rw [show(7:Int)-k=((7-k:Nat):Int)from(B9 (dL (aa hk hk8))).symm];exact iT (hl▸aa (dS _ _) (by decide))
  ·haveI h7:=gM (a:=c/6) (b:=7) (by decide);refine bp (iA (ae rfl) am (aq (aq (ae rfl) am (cO (by decide) (by decide))) am (cI (by decide))) (rG hs)) (bQ rfl) (NJ hm ?_ (ot ha) q);haveI h6:(c/6%7).toNat<=6:=dL ((gR h7.1).mpr h7.2);rw [<-bT h7.1,iT (hl.symm▸aa h6 (by decide)),xl (hl.symm▸aa h6 (by decide))];exact h6
end
structure Nd where
 d:Nat
 a:Nat
 up:Int
 w:Bool
 deep:Nat
 inner:List Nat
 cell:Int
noncomputable def tY:List Nm:=[['u','p'],['w','a','r','d','e','n'],['d','e','e','p'],['i','n','n','e','r'],['c','e','l','l']]
noncomputable def tW(x:Nd):List V:=[.int x.up,.bool x.w,.int x.deep,.ref x.a,.int x.cell]
noncomputable def iN(x:Nd):O:=.list (x.inner.map ni)
noncomputable def IT(x:Nd):List (Nat×O):=[(x.a,iN x),(x.d,.dict tY (tW x))]
noncomputable def LN(r:Nat)(ns:List Nd):List (Nat×O):=(r,.list (ns.map λx=>.ref x.d))::ns.flatMap IT
def GN(r:Nat)(ns:List Nd)(H:AH):Prop:=∀p∈LN r ns,H[p.1]? =some p.2
section
variable {P:Prog}{C:Calls}{ρ:Fm}{B H:AH}{K:KS}{R:QE}{X:XE}{ss:List St}{r i j k:Nat}{ns:List Nd}{x:Nd}{key:Nm}{v:V}
theorem Cl.gn(c:Cl B (LN r ns) H):GN r ns H:=λp hp=>(c.cell p hp).1
theorem GN.row(g:GN r ns H):H[r]? =some (.list (ns.map λx=>.ref x.d)):=g _ (.head _)
theorem GN.inn(g:GN r ns H)(hj:ns[j]? =some x):H[x.a]? =some (iN x):=g _ (.tail _ (a9.mpr ⟨x,aN hj,.head _⟩))
theorem GN.dic(g:GN r ns H)(hj:ns[j]? =some x):H[x.d]? =some (.dict tY (tW x)):=g _ (.tail _ (a9.mpr ⟨x,aN hj,.tail _ (.head _)⟩))
theorem ji(h:H[r]? =some (.list vs))(hj:vs[j]? =some v):be P false .i [.ref r,.int j] H=some (v,H):=by show((H[r]?.bind O.lst).bind λvs=>(sa vs.length j).bind λj=>vs[j]?).map _=_;rw [h];show((sa vs.length j).bind λj=>vs[j]?).map _=_;rw [wR (af.mp hj).1];exact congrArg (bP _) hj
theorem LA(g:GN r ns H)(hj:ns[j]? =some x)(h:ρ[i]? =some (some (.ref r)))(hk:ρ[k]? =some (some (.int j))):Ev P C ρ H X (.p false .i [.v i,.v k]) (.ref x.d):=
 aq (ae h) (ae hk) (ji g.row (by rw [aV,hj];rfl))
theorem j9(g:GN r ns H)(hj:ns[j]? =some x)(h:ρ[i]? =some (some (.ref r)))(hk:ρ[k]? =some (some (.int j)))(e:fo key tY (tW x)=some v):Ev P C ρ H X (.p false .i [.p false .i [.v i,.v k],.c (.str key)]) v:=
 aq (LA g hj h hk) am (jN (g.dic hj) e)
theorem oA(g:GN r ns H)(h:ρ[i]? =some (some (.ref r))):Ev P C ρ H X (.p false .len [.v i]) (ni ns.length):=du (bY (ae h) (fL g.row)) (congrArg ni (ak _))
theorem vP{u z:Int}{t:Bool}{dp:Nat}(ha:Ev P C ρ H X a (.int u))(hb:Ev P C ρ H X b (.bool t))(hc:Ev P C ρ H X c (.int dp))(he:Ev P C ρ (H++[.list []]) X e (.int z))(q:R (.ref (H.length+1)) (H++[.list []]++[.dict tY (tW ⟨H.length+1,H.length,u,t,dp,[],z⟩)])) :
  cL P C (.p true (.d tY) [a,b,c,.p true .l [],e]) ρ H R X:=
 ha _ (hb _ (hc _ (jS (he _ (hE rfl ((congrArg V.ref (ah (as:=H) (bs:=[O.list []]))).symm▸q):hM (be P true (.d tY) (tW ⟨H.length+1,H.length,u,t,dp,[],z⟩) (H++[.list []])) R)))))
theorem Im:∀{ns:List Nd} {u:Nat} {x:Nd},ns[u]? =some x->y.a=x.a/\y.d=x.d/\tW y=tW x->(ns.flatMap IT).set (2*u) (x.a,iN y)=(ns.set u y).flatMap IT:=by
 intro ns
 induction ns with
 |nil=>exact λh=>nomatch h
 |cons z ns ih=>
  intro u x h e;cases u with
  |zero=>haveI h:z=x:=aj h;subst h;refine(?_:(z.a,iN y)::(z.d,.dict tY (tW z))::ns.flatMap IT=(y.a,iN y)::(y.d,.dict tY (tW y))::ns.flatMap IT);rw [e.1,e.2.1,e.2.2]
  |succ u=>exact congrArg (λt=>(z.a,iN z)::(z.d,O.dict tY (tW z))::t) (ih (u:=u) h e)
theorem Iz:∀{ns:List Nd} {u:Nat} {x:Nd},ns[u]? =some x->(ns.flatMap IT)[2*u]? =some (x.a,iN x):=by
 intro ns
 induction ns with
 |nil=>exact λh=>nomatch h
 |cons z ns ih=>
  intro u x h;cases u with
  |zero=>exact congrArg (λz=>some (z.a,iN z)) (aj h)
  |succ u=>exact ih (u:=u) h
noncomputable def sA(y:Nd)(n:Nat):Nd:={y with inner:=y.inner++[n]}
theorem IB(h:ns[u]? =some y):(ns.set u (sA y m)).map (λx=>V.ref x.d)=ns.map λx=>V.ref x.d:=by
 rw [EB];refine fE λl=>?_;rw [fF];by_cases q:u=l
 ·subst q;rw [if_pos rfl,aV,h];exact if_pos (by rw [ak];exact(af.mp h).1)
 ·rw [if_neg q]
theorem Cl.push(c:Cl B (LN r ns) H)(h:ns[u]? =some y)(m:Nat):Cl B (LN r (ns.set u (sA y m))) (H.set y.a (.list (y.inner.map ni++[ni m]))):=by haveI z:=c.set (2*u+1) (a:=y.a) (o':=iN (sA y m)) (Iz h);unfold LN;rw [IB h,<-Im (y:=sA y m) h ⟨rfl,rfl,rfl⟩,show O.list (y.inner.map ni++[ni m])=iN (sA y m)from congrArg O.list (aJ (f:=ni) (l₁:=y.inner) (l₂:=[m])).symm];exact z
theorem By{u:Nat}{y:Nd}{z:Int}{t:Bool}(c:Cl B (LN r ns) H)(hb:B.length<=H.length)(hu:ns[u]? =some y)(hl:ns.length<=60)(hil:y.inner.length<=60)(h2:ρ[2]? =some (some (.ref r)))(hi:ρ[i]? =some (some (.int u)))(h8:8<ρ.length)(hi8:i≠8)
  (h1:∀H,Ev P C (ρ.set 8 (some (ni (y.deep+1)))) H X e1 (.int u))(h3:∀H,Ev P C (ρ.set 8 (some (ni (y.deep+1)))) H X e2 (.bool t))(h5:∀H,GN r (ns.set u (sA y ns.length)) H->Ev P C (ρ.set 8 (some (ni (y.deep+1)))) H X e5 (.int z))
  (q:∀d a H',Cl B (LN r (ns.set u (sA y ns.length)++[⟨d,a,u,t,y.deep+1,[],z⟩])) H'->B.length<=H'.length->a8 P C ss (ρ.set 8 (some (ni (y.deep+1)))) H' K R X) :
  a8 P C (.e (.n .list false .append (.p false .i [.p false .i [.v 2,.v i],.c (.str ['i','n','n','e','r'])]) [.p false .len [.v 2]])::
   .a 8 (.p false (.bop .add) [.p false .i [.p false .i [.v 2,.v i],.c (.str ['d','e','e','p'])],.c (.int 1)])::
   .e (.n .list false .append (.v 2) [.p true (.d tY) [e1,e2,.v 8,.p true .l [],e5]])::ss) ρ H K R X:=by
 have sz:∀{j:Nat},j<=60->j<=aB:=λh=>aa h (by decide);have g:=c.gn;refine kL (j9 g hu h2 hi rfl) (fb (g.inn hu)) (oA g h2) (hE (fh (g.inn hu) (aa (au (ak _)) (sz hil))) ?_);have c1:=c.push hu ns.length;have hu1:(ns.set u (sA y ns.length))[u]? =some (sA y ns.length):=bX (af.mp hu).1;refine bp (v:=ni (y.deep+1)) (aq (j9 c1.gn hu1 h2 hi rfl) am dN) h8 ?_;haveI h2':(ρ.set 8 (some (ni (y.deep+1))))[2]? =some (some (.ref r)):=(bv (by decide)).trans h2;have hb1:=aa hb (au (aU (as:=H) (i:=y.a) (a:=O.list (y.inner.map ni++[ni ns.length]))).symm);haveI c2:=c1.new (.list []) hb1;haveI c3:=c2.new (.dict tY (tW ⟨(H.set y.a (.list (y.inner.map ni++[ni ns.length]))).length+1,(H.set y.a (.list (y.inner.map ni++[ni ns.length]))).length,u,t,y.deep+1,[],z⟩)) (aa hb1 eO);refine dJ (A8 (ae h2') (fb c1.gn.row) (vP (h1 _) (h3 _) (ae (bX h8)) (h5 _ λp hp=>dt (c1.gn p hp)) (hE (fh (c3.get 0 rfl) ?_) ?_)))
 ·rw [ak,aU];exact sz hl
 ·refine q ((H.set y.a (.list (y.inner.map ni++[ni ns.length]))).length+1) (H.set y.a (.list (y.inner.map ni++[ni ns.length]))).length _ ?_ (aa hb1 (aa eO (aa eO (au aU.symm))));haveI c4:=c3.set 0 (o':=.list ((ns.set u (sA y ns.length)).map (λx=>.ref x.d)++[.ref ((H.set y.a (.list (y.inner.map ni++[ni ns.length]))).length+1)])) rfl;haveI e:∀{x:Nd} {l:List Nd} {o:O},LN r (l++[x])=(r,.list (l.map (λx=>.ref x.d)++[.ref x.d]))::(l.flatMap IT++[(x.a,iN x)]++[(x.d,.dict tY (tW x))]):=λ{x l o}=>by unfold LN;rw [aJ,bu,an];rfl
  rw [e (o:=.list [])];rw [show(H.set y.a (.list (y.inner.map ni++[ni ns.length]))++[O.list []]).length=(H.set y.a (.list (y.inner.map ni++[ni ns.length]))).length+1 from ah]at c4;exact c4
end
structure Lim(y:Nd):Prop where
 le:y.inner.length<=8
 nd:y.inner.Nodup
 dp:y.deep<=if y.w=true then 6 else 7
 wk:y.w=false->y.inner=[]
structure Tr(ns:List Nd):Prop where
 top:∃x,ns[0]? =some x/\x.w=true/\x.deep=1
 tup:∀(i:Nat) (x:Nd),ns[i]? =some x->i=0->x.up=-1
 up:∀(i:Nat) (x:Nd),ns[i]? =some x->0<i->∃(j:Nat) (y:Nd),ns[j]? =some y/\j<i/\x.up=j/\i∈y.inner
 inn:∀(j:Nat) (y:Nd),ns[j]? =some y->∀i∈y.inner,∃x,ns[i]? =some x/\j<i/\x.up=j/\x.deep=y.deep+1
 lim:∀(j:Nat) (y:Nd),ns[j]? =some y->Lim y
section
variable {ns:List Nd}{u i:Nat}{x y z:Nd}
noncomputable def ut(u n i:Nat)(x:Nd):Nd:=if i=u then sA x n else x
theorem jM{F:Nd->Prop}(h:F x)(h':∀l,F {x with inner:=l}):F (ut u n i x):=by
 unfold ut;by_cases e:i=u
 ·rw [if_pos e];exact h' _
 ·rw [if_neg e];exact h
theorem wK(h:k∈x.inner):k∈(ut u n i x).inner:=by
 unfold ut;by_cases e:i=u
 ·rw [if_pos e];exact aI _ h
 ·rw [if_neg e];exact h
theorem mI(hu:ns[u]? =some y)(h:ns[i]? =some x):(ns.set u (sA y ns.length)++[z])[i]? =some (ut u ns.length i x):=by
 haveI l:=(af.mp h).1;rw [bt (aU.symm▸l),fF];unfold ut;by_cases e:u=i
 ·subst e;rw [if_pos rfl,if_pos l,if_pos rfl,aj (hu.symm.trans h)]
 ·rw [if_neg e,if_neg (Ne.symm e)];exact h
theorem we:(ns.set u (sA y ns.length)++[z])[ns.length]? =some z:=by haveI:=cP (l:=ns.set u (sA y ns.length)) (a:=z);rw [aU]at this;exact this
theorem mG{F:Nat->Nd->Prop}(hu:ns[u]? =some y)(hz:F ns.length z)(ho:∀(i:Nat) (x:Nd),ns[i]? =some x->F i (ut u ns.length i x)):∀(i:Nat) (x:Nd),(ns.set u (sA y ns.length)++[z])[i]? =some x->F i x:=by
 intro i x h;haveI l:=(af.mp h).1;rw [ah,aU]at l;by_cases e:i=ns.length
 ·subst e;exact aj (we.symm.trans h)▸hz
 ·have l:i<ns.length:=p8 (dL l) e;haveI h':=aO l;exact aj ((mI hu h').symm.trans h)▸ho i _ h'
theorem Tr.add(T:Tr ns)(hu:ns[u]? =some y)(hy:y.w=true)(hl:y.inner.length<8)(hz:z.up=u/\z.deep=y.deep+1/\z.inner=[]/\(z.w=true->y.deep<6)):Tr (ns.set u (sA y ns.length)++[z]) where
 top:=c7 T.top λx h0 hw hd=>⟨_,mI hu h0,jM (F:=λx=>x.w=true) hw λ_=>hw,jM (F:=λx=>x.deep=1) hd λ_=>hd⟩
 tup:=mG hu (λz=>absurd (z▸(af.mp hu).1) (Nat.not_lt_zero u)) λi x h z=>jM (F:=λx=>x.up=-1) (T.tup i x h z) λ_=>T.tup i x h z
 up:=mG hu (λ_=>⟨u,_,mI hu hu,(af.mp hu).1,hz.1,by unfold ut;rw [if_pos rfl];exact az _ (.head _)⟩) λi x h hi=>kD (T.up i x h hi) λj w hj hji e hm=>⟨j,_,mI hu hj,hji,jM (F:=λx=>x.up=j) e λ_=>e,wK hm⟩
 inn:=mG hu (hz.2.2.1.symm▸qA) λj w h k hk=>by
  have old:k∈w.inner->∃x,(ns.set u (sA y ns.length)++[z])[k]? =some x/\j<k/\x.up=j/\x.deep=(ut u ns.length j w).deep+1:=λhk=>dB (T.inn j w h k hk) λx hx l e d=>⟨_,mI hu hx,l,jM (F:=λx=>x.up=j) e λ_=>e,jM (F:=λt=>(ut u ns.length k x).deep=t.deep+1) (jM (F:=λx=>x.deep=w.deep+1) d λ_=>d) λ_=>jM (F:=λx=>x.deep=w.deep+1) d λ_=>d⟩;by_cases e:j=u
  ·subst e;haveI ew:=aj (hu.symm.trans h);subst ew;unfold ut at hk;rw [if_pos rfl]at hk;refine(b9.mp hk).elim old λhk=>⟨z,by rw [in1 hk];exact we,in1 hk▸(af.mp hu).1,hz.1,?_⟩;unfold ut;rw [if_pos rfl];exact hz.2.1
  ·unfold ut at hk;rw [if_neg e]at hk;exact old hk
 lim:=mG hu ⟨hz.2.2.1.symm▸aY _,hz.2.2.1.symm▸cc,by
   haveI d:=(T.lim u y hu).dp;rw [hy,if_pos rfl]at d;rw [hz.2.1];by_cases e:z.w=true
   ·rw [if_pos e];exact hz.2.2.2 e
   ·rw [if_neg e];exact aA d,λ_=>hz.2.2.1⟩ λj w h=>by
  have L:=T.lim j w h;unfold ut;by_cases e:j=u
  ·subst e;have ew:=aj (hu.symm.trans h);subst ew;rw [if_pos rfl];refine⟨by show(y.inner++[ns.length]).length<=8;rw [ah];exact hl,bj.mpr ⟨L.nd,bk.mpr ⟨bl,cc⟩,λa ha b hb=>?_⟩,L.dp,λq=>absurd (hy.symm.trans q) gW⟩;exact in1 hb▸dB (T.inn _ _ hu a ha) λx hx _ _ _=>dK (af.mp hx).1
  ·rw [if_neg e];exact L
end
noncomputable def xu:St->List St
 |.f _ _ _ b=>b
 |.while_ _ b=>b
 |.ite _ a _=>a
 |_=>[]
section
variable {n:Nat}{B H:AH}{K:KS}{Q:QE}{X:XE}{zs:List Int}{m r:Nat}{ns:List Nd}
theorem Ci(h:0<=i)(q:Q (.int (zs.getD i.toNat 0)) H):aQ PL (n+1) 15 [.lst (zs.map V.int),.int i] H Q X:=by
 refine cf Ia rfl (cU (aq (ae rfl) (bY (ae rfl) mD) j0) (λhd=>?_) λhd=>?_)
 ·have hl:i.toNat<zs.length:=(gR h).mpr (ak V.int▸of_decide_eq_true hd);have e:(zs.map V.int)[i.toNat]? =some (.int (zs.getD i.toNat 0)):=by rw [aV,gL,aO hl];rfl
  refine bx (aq (ae rfl) (ae rfl) ?_) q;haveI z:=lG (P:=PL) (H:=H) e;rw [bT h]at z;exact z
 ·haveI hd:=cN.mp (of_decide_eq_false hd);rw [ak,<-bT h]at hd;have hl:zs.length<=i.toNat:=bW.mp hd;rw [gL,fc hl]at q;exact bx am q
noncomputable def JG(zs:List Int)(m r:Nat)(o:Nat->Option V):Fm:=[some (.lst (zs.map V.int)),some (ni m),some (.ref r),o 3,o 4,o 5,o 6,o 7,o 8]
theorem mS:∃o,[some (.lst (zs.map V.int)),some (ni m),some (.ref r),a,b,c,d,e,f]=JG zs m r o:=⟨λi=>([a,b,c,d,e,f][i-3]?).join,rfl⟩
def NI1(B:AH)(zs:List Int)(m r:Nat)(its:List Nat)(ρ:Fm)(H:AH):Prop:=∃ns,(∃o,ρ=JG zs m r o)/\Cl B (LN r ns) H/\Tr ns/\(ns.length+its.length<=m/\B.length<=H.length)/\∀j∈its,j<=60
noncomputable def JX(ns:List Nd)(j:Nat):Bool:=(ns[j]?).any λx=>x.w&&decide ((x.inner.length:Int)<8)
theorem Ij(h:u∈(aX ns.length).filter (JX ns)):∃y,ns[u]? =some y/\y.w=true/\y.inner.length<8:=by have h1:=ca.mp h;haveI e:=aO (bE.mp h1.1);haveI h2:=h1.2;unfold JX at h2;rw [e]at h2;haveI h2:=ay.mp h2;exact⟨_,e,h2.1,cG.mp (of_decide_eq_true h2.2)⟩
theorem DI(h:l≠[]):∃w,w∈l/\be P false .i [.lst (l.map ni),.int (z%((l.map ni).length:Int))] H=some (ni w,H):=by
 haveI hp:0<((l.map ni).length:Int):=by rw [ak];exact cG.mpr (g8.mpr h)
 exact av (jQ (P:=P) (H:=H) (gM (a:=z) hp).1 (gM (a:=z) hp).2) λv hv e=>av (aK.mp hv) λw hw ew=>⟨w,hw,ew▸e⟩
theorem Fq:(!gH (.lst (l.map ni)) (.lst []))=true->l≠[]:=λh e=>by subst e;exact absurd h ai
theorem n12{k:Nat}(h:k<=60):-10 ^ 12<=(k:Int)/10/\(k:Int)/10<=10 ^ 12:=xK (m:=k/10) (aa (Nat.div_le_self _ _) (aa h (by decide)))
theorem n13(h:a+(b+1)<=m):a+1+b<=m/\a+b<=m/\a<=m:=⟨bH a b 1▸h,Nf h,aa (ax a _) h⟩
theorem LC{k:Nat}{its:List Nat}{o:Nat->Option V}{K':KS}(hm:m<=30)(c:Cl B (LN r ns) H)(T:Tr ns)(hl:ns.length+(its.length+1)<=m)(hb:B.length<=H.length)(hk:k<=60)(hj:∀j∈its,j<=60)(hK:∀ρ'' H'',NI1 B zs m r its ρ'' H''->K' ρ'' H'') :
  a8 PL (aQ PL (n+1)) (xu (Dj.body.getD 1 .pass)) ((JG zs m r o).set 3 (some (ni k))) H K' Q X:=by
 have g:=c.gn;haveI hl':=n13 hl;refine bp (aq (dP (ae rfl) (aq am (aq (ae rfl) am (cI (by decide))) dN) λQ q=>Ci (iH (by decide) (gM (by decide)).1) q) (aq am (aq (ae rfl) am (cO (by decide) (by decide))) (Ae (by decide) (n12 hk))) dN) (bQ rfl) ?_;generalize zs.getD _ 0+11*((k:Int)/10)=z;refine bp (v:=.lst (((aX ns.length).filter (JX ns)).map ni)) (jl (l:=aX ns.length) (f:=ni) (g:=ni) (p:=JX ns) (bY (oA g rfl) (fj (xK (aa hl'.2.2 (aa hm (by decide)))))) ?_ ?_ (λj hj=>?_) λj _ _=>ae rfl) (bQ rfl) ?_
 ·exact congrArg some ((rfl:jj 0 ns.length=jj (0:Nat) ns.length).trans (kQ.trans (by rw [bM,mO];exact cn λk _=>congrArg ni (dw k))))
 ·rw [a7];exact aa hl'.2.2 (aa hm (by decide))
 ·haveI e:=aO (bE.mp hj);refine du (cW (j9 g e rfl rfl rfl) λ_=>aq (bY (j9 g e rfl rfl rfl) (fL (g.inn e))) am j0) ?_;unfold JX;rw [e,ak];rfl
 refine cU (aq (ae rfl) (aR rfl) (jf (on (f:=ni) λ_=>trivial) jO)) (λhn=>?_) λ_=>hK _ _ ⟨ns,mS,c,T,⟨hl'.2.1,hb⟩,hj⟩;refine av (DI (P:=PL) (H:=H) (z:=z/4) (Fq hn)) λu hu eu=>c7 (Ij hu) λy hy hw h8=>?_;refine bp (aq (ae rfl) (aq (aq (ae rfl) am (cO (by decide) (by decide))) (bY (ae rfl) mD) (cI ?_)) eu) (bQ rfl) ?_
 ·rw [ak];exact cG.mpr (g8.mpr (Fq hn))
 refine bp (cW (aq (aq (ae rfl) am (cI (by decide))) am (ft b7 b7)) λ_=>aq (j9 g hy rfl rfl rfl) am j0) (bQ rfl) ?_;refine By c hb hy (aa hl'.2.2 (aa hm (by decide))) (aa (gT h8) (by decide)) rfl rfl (bQ rfl) (by decide) (λ_=>ae rfl) (λ_=>ae rfl) (λ_ _=>aq (ae rfl) am (cO (by decide) (by decide))) λd a H' c' hb'=>hK _ _ ⟨_,mS,c',T.add hy hw h8 ⟨rfl,rfl,rfl,λht=>cG.mp (of_decide_eq_true (ay.mp ht).2)⟩,⟨?_,hb'⟩,hj⟩;rw [ah,aU];exact hl'.1
end
theorem Fv{α0:Type}{A0 A1 A2 A3 A4 A5:α0->Prop}{G:Prop}(h:∃a0,A0 a0/\A1 a0/\A2 a0/\A3 a0/\A4 a0/\A5 a0)(k:∀a0,A0 a0->A1 a0->A2 a0->A3 a0->A4 a0->A5 a0->G):G:=h.elim λa0 h=>k a0 h.1 h.2.1 h.2.2.1 h.2.2.2.1 h.2.2.2.2.1 h.2.2.2.2.2
theorem xF(h:gH (.lst l) (.lst [])=true):l=[]:=by
 cases l with
 |nil=>rfl
 |cons _ _=>exact absurd h ai
section
variable {n:Nat}{B H:AH}{K:KS}{Q:QE}{X:XE}{zs:List Int}{m r:Nat}{ns:List Nd}
theorem oW:jj 0 m=(aX m).map ni:=(show jj 0 m=jj (0:Nat) m from rfl).trans (kQ.trans (by rw [bM,mO];exact cn λk _=>congrArg ni (dw k)))
def Emp(ns:List Nd)(its:List Nat):Prop:=∀(i:Nat) (x:Nd),ns[i]? =some x->x.w=true->x.inner≠[]\/i∈its
def NI2(B:AH)(zs:List Int)(m r:Nat)(its:List Nat)(ρ:Fm)(H:AH):Prop:=∃ns,(∃o,ρ=JG zs m r o)/\Cl B (LN r ns) H/\Tr ns/\(ns.length+its.length<=60/\B.length<=H.length)/\Emp ns its/\∀j∈its,j<ns.length
theorem JO(c:Cl B (LN r ns) H)(T:Tr ns)(hl:ns.length+(its.length+1)<=60)(hb:B.length<=H.length)(he:Emp ns (k::its))(hj:∀j∈k::its,j<ns.length)(hK:∀ρ'' H'',NI2 B zs m r its ρ'' H''->K' ρ'' H'') :
  a8 PL (aQ PL (n+1)) (xu (Dj.body.getD 2 .pass)) ((JG zs m r o).set 3 (some (ni k))) H K' Q X:=by
 have g:=c.gn;haveI hl':=n13 hl;refine(⟨_,aO (hj k (.head _))⟩:∃y,ns[k]? =some y).elim λy e=>?_;have hj':∀j∈its,j<ns.length:=λj h=>hj j (.tail _ h);refine cU (cW (j9 g e rfl rfl rfl) λ_=>aq (j9 g e rfl rfl rfl) (aR rfl) (ft (Du (g.inn e)) jO)) (λh=>?_) λh=>hK _ _ ⟨ns,mS,c,T,⟨hl'.2.1,hb⟩,λi x hx hw=>?_,hj'⟩
 ·have h:=ay.mp h;have h0:y.inner=[]:=pq.mp (xF h.2);refine By c hb e hl'.2.2 (h0.symm▸aY _) rfl rfl (bQ rfl) (by decide) (λ_=>ae rfl) (λ_=>am) (λH' g'=>aq (j9 g' (bX (hj k (.head _))) rfl rfl rfl) am (cO (by decide) (by decide))) λd a H' c' hb'=>hK _ _ ⟨_,mS,c',T.add e h.1 (h0.symm▸(by decide:0<8)) ⟨rfl,rfl,rfl,λz=>absurd z ai⟩,⟨?_,hb'⟩,?_,λj hj=>?_⟩
  ·rw [ah,aU];exact hl'.1
  ·refine mG e (λz=>absurd z ai) λi x hx hw=>?_;haveI hw:x.w=true:=jM (F:=λt=>t.w=true->x.w=true) id (λ_=>id) hw;refine(he i x hx hw).elim (λh=>.inl (λz=>?_)) λh=>eC h (λh=>.inl λz=>?_) .inr
   ·exact h (List.eq_nil_iff_forall_not_mem.mpr λk hk=>bl (z▸wK hk))
   ·subst h;unfold ut at z;rw [if_pos rfl]at z;exact absurd (List.append_eq_nil_iff.mp z).2 (lV _ _)
  ·rw [ah,aU];exact Nat.lt_succ_of_lt (hj' j hj)
 ·refine (he i x hx hw).elim .inl λh'=>eC h' (λz=>.inl λz'=>?_) .inr;subst z;haveI ex:=aj (e.symm.trans hx);rw [ex,hw,z']at h;exact absurd h (gW:¬true=false)
structure Tree(ns:List Nd):Prop where
 tr:Tr ns
 le:ns.length<=60
 ne:∀(i:Nat) (x:Nd),ns[i]? =some x->x.w=true->x.inner≠[]
theorem f14(h2:2<=m)(hm:m<=30)(q:∀ns H',Cl B (LN (B.length+2) ns) H'->Tree ns->Q (.ref (B.length+2)) H'):aQ PL (n+2) 19 [.lst (zs.map V.int),ni m] B Q X:=by
 refine cf Hn rfl (dU (mX (vP (bY am mV) am (dp:=1) am (dP (ae rfl) am λQ q=>Ci (by decide) q) (hE (ky xy) ⟨bQ rfl,?_⟩))));generalize zs.getD _ 0=z;haveI c0:Cl B (LN (B.length+2) [⟨B.length+1,B.length,-1,true,1,[],z⟩]) (B++[.list []]++[.dict tY (tW ⟨B.length+1,B.length,-1,true,1,[],z⟩)]++[.list [.ref (B.length+1)]]):=by rw [an,an];refine⟨?_,d0 ⟨iz (j:=2),ax _ _⟩ (d0 ⟨iz (j:=0),aM _⟩ (dz ⟨iz (j:=1),ax _ _⟩)),λa ha=>bt ha⟩;exact lf.map (B.length+·) (λa b (h:a≠b) e=>h (pw e)) (by decide:([2,0,1]:List Nat).Nodup)
 haveI T0:Tr [⟨B.length+1,B.length,-1,true,1,[],z⟩]:=⟨⟨_,rfl,rfl,rfl⟩,λi x h z=>by subst z;exact aj h▸rfl,λi x h h0=>?_,λj y h=>?_,λj y h=>?_⟩
 ·haveI hl:(B++[O.list []]++[O.dict tY (tW ⟨B.length+1,B.length,-1,true,1,[],z⟩)]).length=B.length+2:=by rw [ah,ah];rfl
  rw [hl];refine eD (NI1 B zs m (B.length+2)) (f:=ni) (l:=(aX (m-1)).map (1+·)) (v:=.rng 1 m) (aq am (ae rfl) (qD (by decide) (xK (aa hm (by decide))))) (λ_ _ _ _=>congrArg some (kQ (a:=1))) ?_ ⟨_,mS,c0,T0,⟨?_,?_⟩,λj hj=>?_⟩ (λk its ρ' H' hI K' hK=>y8 hI λns e c T l hj=>e.elim λo e=>?_) λρ' H' hI=>y8 hI λns e c T l hj=>e.elim λo e=>?_
  ·rw [ak,a7];exact aa (dS _ _) (aa hm (by decide))
  ·rw [ak,a7];exact au (jI (show 1<=m from aa (by decide) h2))
  ·exact aa eO (aa eO eO)
  ·refine av (aK.mp hj) λk hk e=>?_;exact e▸aa (au (db 1 k)) (aa (bE.mp hk) (aa (dS _ _) (aa hm (by decide))))
  ·subst e;exact LC hm c T l.1 l.2 (hj k (.head _)) (λj h=>hj j (.tail _ h)) hK
  ·subst e;haveI l0:ns.length<=30:=aa l.1 hm;refine eD (NI2 B zs m (B.length+2)) (f:=ni) (l:=aX ns.length) (v:=.rng 0 ns.length) (bY (oA c.gn rfl) (fj (xK (aa l0 (by decide))))) (λ_ _ _ _=>congrArg some oW) (by rw [a7];exact aa l0 (by decide)) ⟨ns,mS,c,T,⟨?_,l.2⟩,λi x hx _=>.inr (bE.mpr (af.mp hx).1),λj hj=>bE.mp hj⟩ (λk its ρ' H' hI K' hK=>Fv hI λns e c T l he hj=>e.elim λo e=>?_) λρ' H' hI=>Fv hI λns e c T l he hj=>e.elim λo e=>?_
   ·rw [a7];exact bU l0 l0
   ·subst e;exact JO c T l.1 l.2 he hj hK
   ·subst e;exact bx (ae rfl) (q ns H' c ⟨T,l.1,λi x hx hw=>(he i x hx hw).elim id λh=>absurd h bl⟩)
 ·cases i with
  |zero=>exact absurd h0 (c5 0)
  |succ i=>exact nomatch h
 ·cases j with
  |zero=>exact aj h▸qA
  |succ j=>exact nomatch h
 ·cases j with
  |zero=>exact aj h▸⟨aY _,cc,(by decide:1<=6),λh=>absurd h gW⟩
  |succ j=>exact nomatch h
end
theorem jU{α:Type}{l:List α}{f:α->V}(d:α)(hL:(l.length:Int)=L)(h0:0<L):be P false .i [.lst (l.map f),.int (c%L)] H=some (f (l.getD (c%L).toNat d),H)/\l.getD (c%L).toNat d∈l:=by
 haveI h:=gM (a:=c) h0;have hl:(c%L).toNat<l.length:=(gR h.1).mpr (hL.symm▸h.2);have e:l.getD (c%L).toNat d=l[(c%L).toNat]:=by rw [gL,aO hl];rfl
 haveI z:=lG (P:=P) (H:=H) (vs:=l.map f) (j:=(c%L).toNat) (v:=f (l.getD (c%L).toNat d)) (by rw [aV,e,aO hl];rfl);rw [bT h.1]at z;exact⟨z,e▸tR hl⟩
def M5(P:Prog)(C:Calls)(ρ:Fm)(H:AH)(X:XE)(es:List Ex)(vs:List V):Prop:=∀Q:List V->AH->Prop,Q vs H->gc P C es ρ H Q X
section
variable {P:Prog}{C:Calls}{ρ:Fm}{H:AH}{X:XE}{e:Ex}{es:List Ex}{v:V}{vs:List V}{p:Prim}
theorem nD:M5 P C ρ H X [] []:=λ_ q=>q
theorem dG(h:Ev P C ρ H X e v)(k:M5 P C ρ H X es vs):M5 P C ρ H X (e::es) (v::vs):=λ_ q=>h _ (k _ q)
theorem nu(h:M5 P C ρ H X es vs)(e:be P false p vs H=some (v,H)):Ev P C ρ H X (.p false p es) v:=λ_ q=>h _ (hE e q)
end
noncomputable def MF:List Nm:=[['a','l','w','a','y','s'],['f','a','u','l','t','e','d'],['n','e','v','e','r'],['f','a','u','l','t','e','d']]
noncomputable def D1(c:Int):Nm:=MF.getD (c%4).toNat []
noncomputable def zh(c:Int):Nm:=fT.getD (c%3).toNat []
noncomputable def Bt(c:Int):List Int:=[0,1,2,1,3,1000000000,c/6%9,c/6%1000000001]
noncomputable def MU(c:Int):Int:=(Bt c).getD (c%8).toNat 0
noncomputable def Ax(c:Int):List Int:=[3,1,1000000000,2,1+c/6%12,1+c/6%1000000000]
noncomputable def Ji(c:Int):Int:=(Ax c).getD (c%6).toNat 0
noncomputable def y6(k:Nat)(c:Int):Int:=if(gH (ni k) (.int 0)&&decide (0<c/3%4))=true then min 1000000000 (MU (c/3)+4)else MU (c/3)
section
variable {n:Nat}{H:AH}{K:KS}{Q:QE}{X:XE}{c:Int}
theorem wf:D1 c∈j8:=(by decide:∀x∈MF,x∈j8) _ (jU (P:=PL) (H:=[]) (f:=V.str) (l:=MF) (L:=4) [] rfl (by decide)).2
theorem rR:zh c∈fT:=(jU (P:=PL) (H:=[]) (f:=V.str) (l:=fT) (L:=3) [] rfl (by decide)).2
theorem HS{a b d:Int}(h:0<b)(hd:b<=d):0<=a%b/\a%b<=d:=⟨(gM h).1,bA (eU (gM h).2) hd⟩
theorem vz{a b d:Int}(h:0<b)(hd:b<=d):1<=1+a%b/\1+a%b<=d:=⟨yi (gM h).1,EA 1 _▸bA (gM h).2 hd⟩
theorem Ir:0<=MU c/\MU c<=1000000000:=(d0 (by decide) (d0 (by decide) (d0 (by decide) (d0 (by decide) (d0 (by decide) (d0 (by decide) (d0 (HS (by decide) (by decide)) (dz ⟨(gM (by decide)).1,Ju (gM (by decide)).2⟩))))))):∀x∈Bt c,0<=x/\x<=1000000000) _ (jU (P:=PL) (H:=[]) (f:=V.int) (l:=Bt c) (L:=8) 0 rfl (by decide)).2
theorem AD:1<=Ji c/\Ji c<=1000000000:=(d0 (by decide) (d0 (by decide) (d0 (by decide) (d0 (by decide) (d0 (vz (by decide) (by decide)) (dz (vz (by decide) (by decide))))))):∀x∈Ax c,1<=x/\x<=1000000000) _ (jU (P:=PL) (H:=[]) (f:=V.int) (l:=Ax c) (L:=6) 0 rfl (by decide)).2
theorem FO:0<=y6 k c/\y6 k c<=1000000000:=by
 unfold y6;haveI h:=Ir (c:=c/3);by_cases e:(gH (ni k) (.int 0)&&decide (0<c/3%4))=true
 ·rw [if_pos e];exact⟨Int.le_min.mpr ⟨by decide,iH h.1 (by decide)⟩,Int.min_le_left _ _⟩
 ·rw [if_neg e];exact h
theorem f16(q:Q (.int (MU c)) H):aQ PL (n+1) 21 [.int c] H Q X:=
 cf Hw rfl (bx (aq (nu (vs:=(Bt c).map V.int) (dG am (dG am (dG am (dG am (dG am (dG (aR rfl) (dG (aq (aq (ae rfl) am (cO (by decide) (by decide))) am (cI (by decide))) (dG (aq (aq (ae rfl) am (cO (by decide) (by decide))) (aR (v:=.int 1000000001) rfl) (cI (by decide))) nD)))))))) (hO (aG rfl))) (aq (ae rfl) am (cI (by decide))) (jU (l:=Bt c) (L:=8) 0 rfl (by decide)).1) q)
theorem f17(q:Q (.int (Ji c)) H):aQ PL (n+1) 22 [.int c] H Q X:=
 cf Hg rfl (bx (aq (nu (vs:=(Ax c).map V.int) (dG am (dG am (dG (aR rfl) (dG am (dG (aq am (aq (aq (ae rfl) am (cO (by decide) (by decide))) am (cI (by decide))) dN) (dG (aq am (aq (aq (ae rfl) am (cO (by decide) (by decide))) (aR (v:=.int 1000000000) rfl) (cI (by decide))) dN) nD)))))) (hO (aG rfl))) (aq (ae rfl) am (cI (by decide))) (jU (l:=Ax c) (L:=6) 0 rfl (by decide)).1) q)
end
noncomputable def bd(ns:List Nd)(nm:Nat->Nm):Nat->Nat->V
 |0,_=>.none
 |f+1,k=>(ns[k]?).elim .none λx=>if x.w=true then j6 (nm k) (zh x.cell) (y6 k x.cell) (Ji (x.cell/24)) (x.inner.map (bd ns nm f))else nE (nm k) (D1 x.cell)
noncomputable def nw(nm:Nat->Nm)(m:Nat):V:=.lst ((aX m).map λk=>.str (nm k))
section
variable {n r:Nat}{H:AH}{ns:List Nd}{nm:Nat->Nm}
theorem iy(h:k<m):be P false .i [nw nm m,ni k] H=some (.str (nm k),H):=lG (by rw [aV,cq h];rfl)
theorem jZ(h:ns[k]? =some x):bd ns nm (f+1) k=if x.w=true then j6 (nm k) (zh x.cell) (y6 k x.cell) (Ji (x.cell/24)) (x.inner.map (bd ns nm f))else nE (nm k) (D1 x.cell):=by show(ns[k]?).elim _ _=_;rw [h];rfl
def Ol(H0:AH)(r:Nat)(nv:V)(k:Nat)(c:Int)(rl:Nm)(il:List Nat)(g:Nat->V)(its:List Nat)(ρ:Fm)(H:AH):Prop:=∃o dn,H=H0/\ρ=[some (.ref r),some nv,some (ni k),some (.int c),some (.str rl),some (.tup (dn.map g)),o,none]/\dn++its=il
theorem f18(T:Tr ns)(g:GN r ns H):∀{f k:Nat} {x:Nd} {Q:QE} {X:XE},ns[k]? =some x->f+x.deep=8->Q (bd ns nm f k) H->aQ PL (n+f+1) 23 [.ref r,nw nm ns.length,ni k] H Q X:=by
 intro f
 induction f with
 |zero=>intro k x Q X h e q;haveI:=(T.lim k x h).dp;exact absurd (aa this (by cases x.w<;>decide)) (tT (au (e.symm.trans (dw _)):7<x.deep))
 |succ f ih=>
  intro k x Q X h e q;have hk:k<ns.length:=(af.mp h).1;rw [jZ h]at q;refine cf FM rfl (bp (j9 g h rfl rfl rfl) (bQ rfl) (cU (c9 (j9 g h rfl rfl rfl)) (λhw=>?_) λhw=>?_))
  ·rw [if_neg λz:x.w=true=>absurd (z▸hw:(!true)=true) ai]at q;exact bx (iA am (aq (ae rfl) (ae rfl) (iy hk)) (aq (x:=.lst (MF.map V.str)) (aR rfl) (aq (ae rfl) am (cI (by decide))) (jU (l:=MF) (L:=4) [] rfl (by decide)).1) (eM zE)) q
  ·rw [if_pos (dA _▸hw)]at q;haveI L:=T.lim k x h;refine bp (aq (x:=.lst (fT.map V.str)) (aR rfl) (aq (ae rfl) am (cI (by decide))) (jU (l:=fT) (L:=3) [] rfl (by decide)).1) (bQ rfl) (bp (aR rfl) (bQ rfl) ?_);refine eD (Ol H r (nw nm ns.length) k x.cell (zh x.cell) x.inner (bd ns nm f)) (f:=ni) (l:=x.inner) (j9 g h rfl rfl rfl) (λ_ _ _ q=>di q λ_ _ e0 _ _=>e0▸gu (g.inn h)) (aa L.le (by decide)) ⟨none,[],rfl,rfl,rfl⟩ (λi its ρ' H' hI K' hK=>di hI λo dn e0 er ed=>?_) λρ' H' hI=>di hI λo dn e0 er ed=>?_
   ·subst e0 er;have hi:i∈x.inner:=ed▸az dn (.head _);refine dB (T.inn k x h i hi) λy hy _ _ hd=>?_;refine bp (aq (ae rfl) (bY (fR (ae rfl) (ae rfl) (ae rfl) λQ q=>ih hy ((congrArg (f+·) hd).trans ((bH f x.deep 1).trans e)) q) (eM xy)) (DA ?_)) (bQ rfl) (hK _ _ ⟨some (ni i),dn++[i],rfl,?_,(an dn [i] its).trans ed⟩)
    ·rw [ak];exact aa (aA (aa (ed▸eO) L.le)) (by decide)
    ·rw [aJ];rfl
   ·subst e0 er;have ed:dn=x.inner:=(aC dn).symm.trans ed;subst ed;have fin:∀{mv:Int},mv=y6 k x.cell->a8 PL (aQ PL (n+(f+1))) (Iw.body.drop 7) [some (.ref r),some (nw nm ns.length),some (ni k),some (.int x.cell),some (.str (zh x.cell)),some (.tup (x.inner.map (bd ns nm f))),o,some (.int mv)] H' (λ_ H'=>Q .none H') Q X:=λe=>by subst e;exact bx (nu (dG am (dG (aq (ae rfl) (ae rfl) (iy hk)) (dG (ae rfl) (dG (ae rfl) (dG (dF (aq (ae rfl) am (cO (by decide) (by decide))) λQ q=>f17 q) (dG (ae rfl) nD)))))) (eM (aG rfl))) q
    refine bp (dF (aq (ae rfl) am (cO (by decide) (by decide))) λQ q=>f16 q) (bQ rfl) (cU (cW (aq (ae rfl) am (ft b7 b7)) λ_=>aq (aq (aq (ae rfl) am (cO (by decide) (by decide))) am (cI (by decide))) am qR) (λhc=>?_) λhc=>?_)
    ·exact bp (aq (x:=.int 1000000000) (aR rfl) (aq (ae rfl) am dN) Ik) (bQ rfl) (fin (if_pos hc).symm)
    ·exact fin (if_neg (by rw [hc];exact ai)).symm
end
noncomputable def k6(ns:List Nd)(k:Nat):List Nat:=(ns[k]?).elim [] Nd.inner
noncomputable def sub(ns:List Nd):Nat->Nat->List Nat
 |0,_=>[]
 |f+1,k=>k::(k6 ns k).flatMap (sub ns f)
section
variable {ns:List Nd}{nm:Nat->Nm}{f k i j:Nat}{x:Nd}
theorem fU(h:ns[k]? =some x):k6 ns k=x.inner:=congrArg (Option.elim · [] Nd.inner) h
noncomputable def NG(ns:List Nd)(i:Nat):Nat:=(ns[i]?).elim 0 λx=>x.up.toNat
noncomputable def NO(ns:List Nd):Nat->Nat->Nat
 |0,i=>i
 |d+1,i=>NG ns (NO ns d i)
theorem Tr.fpos(T:Tr ns)(h:ns[k]? =some x)(e:f+x.deep=8):∃f',f=f'+1:=by
 cases f with
 |zero=>haveI:=aa (T.lim k x h).dp (show(if x.w=true then 6 else 7)<=7 by cases x.w<;>decide);exact absurd (au (e.symm.trans (dw _))) (tT (Nat.lt_succ_of_le this))
 |succ f=>exact⟨f,rfl⟩
theorem Tr.anc(T:Tr ns):∀{f k:Nat} {x:Nd},ns[k]? =some x->∀i∈sub ns f k,∃d y,ns[i]? =some y/\y.deep=x.deep+d/\NO ns d i=k:=by
 intro f
 induction f with
 |zero=>exact λ_=>qA
 |succ f ih=>intro k x h;refine d0 ⟨0,x,h,rfl,rfl⟩ λi hi=>av (a9.mp hi) λj hj hi=>?_;rw [fU h]at hj;refine dB (T.inn k x h j hj) λy hy _ hu hd=>di (ih hy i hi) λd z hz e eu=>⟨d+1,z,hz,by rw [e,hd,bD,db 1],?_⟩;show NG ns (NO ns d i)=k;unfold NG;rw [eu,hy];exact congrArg tP hu
theorem Tr.nd(T:Tr ns):∀{f k:Nat} {x:Nd},ns[k]? =some x->(sub ns f k).Nodup:=by
 intro f
 induction f with
 |zero=>exact λ_=>cc
 |succ f ih=>
  intro k x h;refine bk.mpr ⟨λz=>?_,nq.mpr ⟨λj hj=>?_,?_⟩⟩
  ·refine av (a9.mp z) λj hj hk=>?_;rw [fU h]at hj;refine dB (T.inn k x h j hj) λy hy _ _ hd=>di (T.anc hy k hk) λd z hz e _=>?_;rw [aj (hz.symm.trans h),hd]at e;exact absurd e (dK (bo (da _) (ax _ _)))
  ·rw [fU h]at hj;exact dB (T.inn k x h j hj) λy hy _ _ _=>ih hy
  ·rw [fU h];refine ib (λ{a b} ha hb hab u hu v hv e=>hab ?_) (T.lim k x h).nd;subst e;refine dB (T.inn k x h a ha) λy hy _ _ hd=>dB (T.inn k x h b hb) λy' hy' _ _ hd'=>di (T.anc hy u hu) λd z hz e eu=>di (T.anc hy' u hv) λd' z' hz' e' eu'=>?_;rw [aj (hz.symm.trans hz'),e',hd,hd']at e;rw [<-eu,<-eu',pw e]
theorem Tr.step(T:Tr ns):∀{f k:Nat} {x:Nd},ns[k]? =some x->f+x.deep=8->∀i∈sub ns f k,∀j∈k6 ns i,j∈sub ns f k:=by
 intro f
 induction f with
 |zero=>exact λ_ _=>qA
 |succ f ih=>
  intro k x h e;have e':∀{y:Nd},y.deep=x.deep+1->f+y.deep=8:=λh=>by rw [h,<-bD,bH];exact e
  refine d0 (λj hj=>.tail _ (a9.mpr ⟨j,hj,?_⟩)) λi hi j hj=>av (a9.mp hi) λl hl hi=>.tail _ (a9.mpr ⟨l,hl,?_⟩)
  ·rw [fU h]at hj;refine dB (T.inn k x h j hj) λy hy _ _ hd=>(T.fpos hy (e' hd)).elim λf' ef=>?_;subst ef;exact .head _
  ·rw [fU h]at hl;exact dB (T.inn k x h l hl) λy hy _ _ hd=>ih hy (e' hd) i hi j hj
theorem Tr.all(T:Tr ns):∀{i:Nat},i<ns.length->i∈sub ns 7 0:=by
 intro i
 induction i using Nat.strongRecOn with
 |_ i ih=>
  intro hi;refine c7 T.top λx h0 _ hd=>?_;cases i with
  |zero=>exact .head _
  |succ i=>exact kD (T.up _ _ (aO hi) (Es i)) λj y hj hji _ hm=>T.step h0 (hd.symm▸rfl) j (ih j hji (jW hji hi)) _ (fU hj▸hm)
theorem Tr.lt(T:Tr ns)(h:ns[k]? =some x):∀i∈sub ns f k,i<ns.length:=λi hi=>di (T.anc h i hi) λd y hy _ _=>(af.mp hy).1
theorem io(h:ns[k]? =some x):ao (bd ns nm (f+1) k)=nm k:=by
 rw [jZ h];by_cases e:x.w=true
 ·rw [if_pos e];rfl
 ·rw [if_neg e];rfl
theorem Tr.kids(T:Tr ns)(h:ns[k]? =some x):kids (bd ns nm (f+1) k)=x.inner.map (bd ns nm f):=by
 rw [jZ h];by_cases e:x.w=true
 ·rw [if_pos e];rfl
 ·rw [if_neg e,(T.lim k x h).wk (dm.mpr e)];rfl
theorem Tr.nms(T:Tr ns):∀{f k:Nat} {x:Nd},ns[k]? =some x->nms f (bd ns nm f k)=(sub ns f k).map nm:=by
 intro f
 induction f with
 |zero=>exact λ_=>rfl
 |succ f ih=>intro k x h;refine(?_:ao _::(Mine.kids _).flatMap (Mine.nms f)=nm k::((k6 ns k).flatMap (sub ns f)).map nm);rw [io h,T.kids h,fU h,gV,tS];refine congrArg (nm k::·) ?_;rw [dE,dE];exact congrArg r9 (cn λi hi=>dB (T.inn k x h i hi) λy hy _ _ _=>ih hy)
end
noncomputable def k9(m:Nat)(nm:Nat->Nm)(a:Nm):Option Nat:=(aX m).find? λk=>nm k==a
noncomputable def iD(x:Nd):Nm:=if x.w=true then zh x.cell else D1 x.cell
noncomputable def HG(x:Nd):Bool:=iD x==['n','e','v','e','r']
noncomputable def JM(x:Nd):Bool:=!(iD x==['f','a','u','l','t','e','d']||HG x)
noncomputable def tV(x:Nd):Int:=if x.w=true then Ji (x.cell/24)else 0
noncomputable def GC(k:Nat)(x:Nd):Int:=if x.w=true then y6 k x.cell else 0
noncomputable def cC(ns:List Nd)(nm:Nat->Nm):PI:=⟨λa=>(k9 ns.length nm a).bind λk=>(ns[k]?).map Nd.w,λa=>(k9 ns.length nm a).bind λk=>if k=0 then none else(ns[k]?).map λx=>nm x.up.toNat,λa=>(k9 ns.length nm a).any λk=>(ns[k]?).any JM,λa=>(k9 ns.length nm a).any λk=>(ns[k]?).any HG,λa=>(k9 ns.length nm a).elim 0 λk=>(ns[k]?).elim 0 tV,λa=>(k9 ns.length nm a).elim 0 λk=>(ns[k]?).elim 0 (GC k),λa=>(k9 ns.length nm a).elim [] λk=>(sub ns 8 k).map nm,λa=>(k9 ns.length nm a).elim [] λk=>(k6 ns k).map nm,λa=>(k9 ns.length nm a).elim [] λk=>(ns[k]?).elim [] iD⟩
section
variable {ns:List Nd}{nm:Nat->Nm}{f k i j:Nat}{x:Nd}{a:Nm}
theorem mE(h:k9 ns.length nm a=some k):nm k=a/\k<ns.length:=⟨beq_iff_eq.mp (List.find?_some (p:=λk=>nm k==a) h),bE.mp (List.mem_of_find?_eq_some h)⟩
theorem nz(N:Nms ns.length nm)(h:k<ns.length):k9 ns.length nm (nm k)=some k:=by
 refine fS (o:=k9 ns.length nm (nm k)) (λe=>?_) λj e=>?_
 ·exact absurd (beq_self_eq_true (nm k)) (MW.mp e k (bE.mpr h))
 ·rw [e,N.inj j k (mE e).2 h (mE e).1]
theorem jm(N:Nms ns.length nm)(h:ns[k]? =some x):(cC ns nm).isW (nm k)=some x.w:=by show(k9 ns.length nm (nm k)).bind _=_;rw [nz N (af.mp h).1];exact congrArg (bP Nd.w) h
theorem tO(T:Tr ns)(N:Nms ns.length nm)(h:ns[k]? =some x)(hi:i∈x.inner):(cC ns nm).ch (nm i)=some (nm k):=dB (T.inn k x h i hi) λy hy hk hu _=>by refine(?_:(k9 ns.length nm (nm i)).bind _=_);rw [nz N (af.mp hy).1];show(if i=0 then none else(ns[i]?).map λx=>nm x.up.toNat)=_;rw [if_neg (gQ (cZ (aY k) hk)),hy];show some (nm y.up.toNat)=_;rw [hu];rfl
theorem ER(T:Tr ns)(h:(cC ns nm).ch a=some m):∃i j x,nm i=a/\nm j=m/\ns[j]? =some x/\i∈x.inner/\0<i:=by
 haveI h:(k9 ns.length nm a).bind _=some m:=h;refine fS (o:=k9 ns.length nm a) (λe=>fm ((by rw [e];rfl:none=(k9 ns.length nm a).bind _).trans h)) λi e=>?_;rw [e]at h;have h:(if i=0 then none else(ns[i]?).map λx=>nm x.up.toNat)=some m:=h;by_cases z:i=0
 ·rw [if_pos z]at h;exact fm h
 ·refine (⟨_,aO (mE e).2⟩:∃x,ns[i]? =some x).elim λx hx=>?_;rw [if_neg z,hx]at h;exact kD (T.up i x hx (dT z)) λj y hj _ hu hm=>⟨i,j,y,(mE e).1,(by rw [hu];rfl:nm j=nm x.up.toNat).trans (aj h),hj,hm,dT z⟩
theorem Tr.pt(T:Tr ns)(N:Nms ns.length nm)(ne:∀(i:Nat) (x:Nd),ns[i]? =some x->x.w=true->x.inner≠[]):∀{f k:Nat} {x:Nd},ns[k]? =some x->f+x.deep=8->Pt (cC ns nm) f (bd ns nm f k):=by
 intro f
 induction f with
 |zero=>exact λh e=>(T.fpos h e).elim λf' e=>nomatch e
 |succ f ih=>
  intro k x h e;have hk:=(af.mp h).1;have L:=T.lim k x h;have e':∀{y:Nd},y.deep=x.deep+1->f+y.deep=8:=λh=>by rw [h,<-bD,bH];exact e
  have up:∀{c:Nm},(cC ns nm).ch c=some (nm k)->∃i,i∈x.inner/\nm i=c:=λ{c} hc=>(ER T hc).elim λi q=>q.elim λj q=>q.elim λy q=>by haveI ej:=N.inj j k (af.mp q.2.2.1).1 hk q.2.1;subst ej;exact⟨i,aj (q.2.2.1.symm.trans h)▸q.2.2.2.1,q.1⟩
  rw [jZ h];by_cases w:x.w=true
  ·rw [if_pos w];refine .wd (N.ok k hk) rR FO AD ⟨?_,?_⟩ ((jm N h).trans (congrArg some w)) (λc=>⟨λhc=>?_,λhp=>?_⟩) λp hp=>?_
   ·rw [ak];exact g8.mpr (ne k x h w)
   ·rw [ak];exact L.le
   ·refine av (up hc) λi hi ei=>dB (T.inn k x h i hi) λy hy _ _ hd=>(T.fpos hy (e' hd)).elim λf' ef=>⟨_,bq hi,?_⟩;subst ef;exact(io hy).trans ei
   ·refine av hp λp hp ec=>av (aK.mp hp) λi hi ei=>dB (T.inn k x h i hi) λy hy _ _ hd=>(T.fpos hy (e' hd)).elim λf' ef=>?_;subst ef ei;rw [<-ec,io hy];exact tO T N h hi
   ·exact av (aK.mp hp) λi hi ei=>dB (T.inn k x h i hi) λy hy _ _ hd=>ei▸ih hy (e' hd)
  ·rw [if_neg w];haveI w:=dm.mpr w;exact .wk (N.ok k hk) wf ((jm N h).trans (congrArg some w)) λc hc=>av (up hc) λi hi _=>absurd hi (L.wk w▸bl)
theorem ul(h:ns[k]? =some x):L7 (bd ns nm (f+1) k)=iD x:=by
 rw [jZ h];unfold iD;by_cases e:x.w=true
 ·rw [if_pos e,if_pos e];rfl
 ·rw [if_neg e,if_neg e];rfl
theorem qt(N:Nms ns.length nm)(h:ns[k]? =some x):(cC ns nm).sp (nm k)=tV x/\(cC ns nm).mn (nm k)=GC k x:=by
 haveI e:=nz N (af.mp h).1;refine⟨?_,?_⟩
 ·show (k9 ns.length nm (nm k)).elim 0 _=_;rw [e];show(ns[k]?).elim 0 tV=_;rw [h];rfl
 ·show (k9 ns.length nm (nm k)).elim 0 _=_;rw [e];show(ns[k]?).elim 0 (GC k)=_;rw [h];rfl
theorem nZ(N:Nms ns.length nm)(h:ns[k]? =some x):(cC ns nm).sb (nm k)=(sub ns 8 k).map nm:=by show(k9 ns.length nm (nm k)).elim [] _=_;rw [nz N (af.mp h).1];rfl
theorem oV(N:Nms ns.length nm)(h:ns[k]? =some x):(cC ns nm).kd (nm k)=x.inner.map nm/\(cC ns nm).ru (nm k)=iD x:=by
 haveI e:=nz N (af.mp h).1;refine⟨?_,?_⟩
 ·show (k9 ns.length nm (nm k)).elim [] _=_;rw [e];exact congrArg (jp nm) (fU h)
 ·show (k9 ns.length nm (nm k)).elim [] _=_;rw [e];show(ns[k]?).elim [] iD=_;rw [h];rfl
theorem Tr.nmsG(T:Tr ns):∀{f k j:Nat} {x:Nd},ns[k]? =some x->f+x.deep=8->f<=j->Mine.nms j (bd ns nm f k)=(sub ns j k).map nm:=by
 intro f
 induction f with
 |zero=>exact λh e _=>(T.fpos h e).elim λf' e=>nomatch e
 |succ f ih=>
  intro k j x h e hj;cases j with
  |zero=>exact absurd hj (d6 _)
  |succ j=>refine(?_:ao _::(Mine.kids _).flatMap (Mine.nms j)=nm k::((k6 ns k).flatMap (sub ns j)).map nm);rw [io h,T.kids h,fU h,gV,tS];refine congrArg (nm k::·) ?_;rw [dE,dE];exact congrArg r9 (cn λi hi=>dB (T.inn k x h i hi) λy hy _ _ hd=>ih hy (by rw [hd,<-bD,bH];exact e) (iG hj))
theorem J4(T:Tr ns)(N:Nms ns.length nm)(h:ns[k]? =some x)(e8:f+1+x.deep=8):mdOk (cC ns nm) (bd ns nm (f+1) k):=by
 haveI e:=nz N (af.mp h).1;refine⟨?_,?_,?_,?_,?_,?_,?_⟩
 ·rw [io h];show(k9 ns.length nm (nm k)).any _=_;rw [e];show(ns[k]?).any HG=_;rw [h];unfold Cv;rw [ul h];rfl
 ·rw [io h];show(k9 ns.length nm (nm k)).any _=_;rw [e];show(ns[k]?).any JM=_;rw [h];unfold Lm Cv;rw [ul h];rfl
 ·rw [io h,(qt N h).1,jZ h];unfold tV;by_cases e:x.w=true
  ·rw [if_pos e,if_pos e];rfl
  ·rw [if_neg e,if_neg e];rfl
 ·rw [io h,(qt N h).2,jZ h];unfold GC;by_cases e:x.w=true
  ·rw [if_pos e,if_pos e];rfl
  ·rw [if_neg e,if_neg e];rfl
 ·rw [io h,nZ N h,T.nmsG h e8 (aa (ax _ _) (au e8))]
 ·rw [io h,(oV N h).1,T.kids h,bM];exact cn λi hi=>dB (T.inn k x h i hi) λy hy _ _ hd=>(T.fpos (f:=f) hy (by rw [hd,<-bD,bH];exact e8)).elim λf' ef=>by subst ef;exact(io hy).symm
 ·rw [io h,(oV N h).2,ul h]
theorem Tr.md(T:Tr ns)(N:Nms ns.length nm):∀{f k:Nat} {x:Nd},ns[k]? =some x->f+x.deep=8->∀y∈iY f (bd ns nm f k),mdOk (cC ns nm) y:=by
 intro f
 induction f with
 |zero=>exact λ_ _=>qA
 |succ f ih=>intro k x h e8;refine d0 (J4 T N h e8) λy hy=>av (a9.mp hy) λp hp hy=>?_;rw [T.kids h]at hp;exact av (aK.mp hp) λi hi e=>dB (T.inn k x h i hi) λz hz _ _ hd=>ih hz (by rw [hd,<-bD,bH];exact e8) y (e▸hy)
theorem Tree.plan(t:Tree ns)(N:Nms ns.length nm):Plan (cC ns nm) (bd ns nm 7 0):=c7 t.tr.top λx h0 hw hd=>by
 haveI e8:7+x.deep=8:=hd.symm▸rfl;haveI en:nms 7 (bd ns nm 7 0)=(sub ns 7 0).map nm:=t.tr.nms h0;haveI e0:ao (bd ns nm 7 0)=nm 0:=io h0;refine⟨t.tr.pt N t.ne h0 e8,?_,?_,?_,λw z=>?_,λm hm=>?_,t.tr.md N h0 e8⟩
 ·refine (?_:(!(kids (bd ns nm 7 0)).isEmpty)=true);rw [t.tr.kids h0];haveI:=t.ne 0 x h0 hw;cases hx:x.inner with
  |nil=>exact absurd hx this
  |cons a l=>rfl
 ·rw [en];exact lf.map nm (λ_ _ h=>h) (ib (λ{a b} ha hb hab e=>hab (N.inj a b (t.tr.lt h0 a ha) (t.tr.lt h0 b hb) e)) (t.tr.nd h0))
 ·rw [en,ak];exact aa ((t.tr.nd h0).length_le_of_subset (l₂:=aX ns.length) λi hi=>bE.mpr (t.tr.lt h0 i hi)) (aa (au a7) t.le)
 ·rw [e0]at z;refine(ER t.tr z).elim λi q=>q.elim λj q=>q.elim λy q=>?_;refine dB (t.tr.inn j y q.2.2.1 i q.2.2.2.1) λu hu _ _ _=>?_;haveI:=N.inj i 0 (af.mp hu).1 (af.mp h0).1 q.1;exact absurd (this▸q.2.2.2.2) (c5 0)
 ·rw [en];haveI hm:((k9 ns.length nm m).bind _).isSome=true:=hm;refine fS (o:=k9 ns.length nm m) (λe=>?_) λk e=>(mE e).1▸bq (t.tr.all (mE e).2);rw [e]at hm;exact absurd hm ai
end
noncomputable def uy:List Nm:=[['u','p'],['w','a','r','d','e','n'],['i','n','n','e','r']]
noncomputable def LF(x:Nd):List V:=[.int x.up,.bool x.w,.ref x.a]
def Dk(o:O)(x:Nd):Prop:=∃ks vs,o=.dict ks vs/\∀key v,fo key uy (LF x)=some v->fo key ks vs=some v
noncomputable def LM(D:Nd->O)(r:Nat)(ns:List Nd):List (Nat×O):=(r,.list (ns.map λx=>.ref x.d))::ns.flatMap λx=>[(x.a,iN x),(x.d,D x)]
def GM(r:Nat)(ns:List Nd)(H:AH):Prop:=∃D,(∀x,Dk (D x) x)/\∀p∈LM D r ns,H[p.1]? =some p.2
theorem dk5:Dk (.dict tY (tW x)) x:=⟨_,_,rfl,λkey v e=>by
 refine(?_:(if key=['u','p']then some (V.int x.up)else if key=['w','a','r','d','e','n']then some (.bool x.w)else if key=['d','e','e','p']then some (.int x.deep)else if key=['i','n','n','e','r']then some (.ref x.a)else if key=['c','e','l','l']then some (.int x.cell)else none)=some v);have e:(if key=['u','p']then some (V.int x.up)else if key=['w','a','r','d','e','n']then some (.bool x.w)else if key=['i','n','n','e','r']then some (.ref x.a)else none)=some v:=e;by_cases h:key=['u','p']
 ·rw [if_pos h]at e ⊢;exact e
 rw [if_neg h]at e ⊢;by_cases h:key=['w','a','r','d','e','n']
 ·rw [if_pos h]at e ⊢;exact e
 rw [if_neg h]at e ⊢;by_cases h:key=['i','n','n','e','r']
 ·rw [if_pos h]at e ⊢;rw [if_neg (by rw [h];decide)];exact e
 ·rw [if_neg h]at e;exact fm e⟩
section
variable {n r:Nat}{H:AH}{Q:QE}{X:XE}{ns:List Nd}{nm:Nat->Nm}{x:Nd}{i j k:Nat}{P:Prog}{C:Calls}{ρ:Fm}{key:Nm}{v:V}
theorem GN.gm(g:GN r ns H):GM r ns H:=⟨λx=>.dict tY (tW x),λ_=>dk5,g⟩
theorem GM.app(g:GM r ns H):GM r ns (H++L):=g.imp λ_ q=>⟨q.1,λp hp=>dt (q.2 p hp)⟩
theorem GM.row(g:GM r ns H):H[r]? =some (.list (ns.map λx=>.ref x.d)):=g.elim λ_ q=>q.2 _ (.head _)
theorem GM.inn(g:GM r ns H)(hj:ns[j]? =some x):H[x.a]? =some (iN x):=g.elim λ_ q=>q.2 _ (.tail _ (a9.mpr ⟨x,aN hj,.head _⟩))
theorem GM.it(g:GM r ns H)(hj:ns[j]? =some x)(e:fo key uy (LF x)=some v):be P false .i [.ref x.d,.str key] H=some (v,H):=g.elim λD q=>dI (q.1 x) λ_ _ eo h=>jN ((q.2 _ (.tail _ (a9.mpr ⟨x,aN hj,.tail _ (.head _)⟩))).trans (congrArg some eo)) (h _ _ e)
theorem Kb(g:GM r ns H)(hj:ns[j]? =some x)(h:ρ[i]? =some (some (.ref r)))(hk:ρ[k]? =some (some (.int j)))(e:fo key uy (LF x)=some v):Ev P C ρ H X (.p false .i [.p false .i [.v i,.v k],.c (.str key)]) v:=
 aq (aq (ae h) (ae hk) (ji g.row (by rw [aV,hj];rfl))) am (g.it hj e)
theorem D2{P:Prog}{a:Nat}{x y:List V}(hg:H[a]? =some (.list x))(h:x.length+y.length<=aB):be P false (.bop .add) [.ref a,.lst y] H=some (.lst (x++y),H):=by show((H[a]?.bind O.lst).bind λvs=>if vs.length+y.length<=aB then some (V.lst (vs++y))else none).map _=_;rw [hg];show(if x.length+y.length<=aB then some (V.lst (x++y))else none).map _=_;rw [if_pos h];rfl
theorem Df:(H++[o]).set H.length o'=H++[o']:=by rw [iV _ _ (aM _),EC];rfl
theorem rI:bB (a::l) (iK (a::l).length 1) (a::l).length=l:=by rw [show iK (a::l).length 1=1 from iT (j:=1) (aA (aY _))];unfold bB;rw [iZ];rfl
noncomputable abbrev sb(ns:List Nd)(p:Nat×Nat):List Nat:=sub ns p.1 p.2
theorem Hb{td:List (Nat×Nat)}(h:∀p∈td,∃f,p.1=f+1):td.length<=(td.flatMap (sb ns)).length:=by
 induction td with
 |nil=>exact aM _
 |cons p td ih=>rw [ce,ah,dR,db];refine bU ((h p (.head _)).elim λf e=>?_) (ih λy hy=>h y (.tail _ hy));refine(?_:1<=(sub ns p.1 p.2).length);rw [e];exact aA (aY _)
def IU(ns:List Nd)(r k0:Nat)(H:AH)(tot:List Nat)(N:Nat)(ρ:Fm)(H':AH):Prop:=
 ∃(td:List (Nat×Nat)) (dn:List Nat) (o:Option V),ρ=[some (.ref r),some (ni k0),some (.ref H.length),some (.lst (td.map λp=>ni p.2)),o]/\H'=H++[.list (dn.map ni)]/\dn++td.flatMap (sb ns)=tot/\(td.flatMap (sb ns)).length=N/\(td.length<=N/\N<=60)/\∀p∈td,∃x,ns[p.2]? =some x/\p.1+x.deep=8
theorem f15{f0 k0:Nat}{x0:Nd}(t:Tree ns)(g:GM r ns H)(h0:ns[k0]? =some x0)(e80:f0+x0.deep=8)(q:Q (.ref H.length) (H++[.list ((sub ns f0 k0).map ni)])):aQ PL (n+1) 20 [.ref r,ni k0] H Q X:=by
 have T:=t.tr;have yk:(sub ns f0 k0).length<=60:=aa ((T.nd h0).length_le_of_subset (l₂:=aX ns.length) λi hi=>bE.mpr (T.lt h0 i hi)) (aa (au a7) t.le);haveI e0:[((f0,k0):Nat×Nat)].flatMap (sb ns)=sub ns f0 k0:=aC _;refine cf Ha rfl (dU (jS ⟨bQ rfl,bp (aR rfl) (bQ rfl) ?_⟩));refine l6 (IU ns r k0 H (sub ns f0 k0)) (N:=(sub ns f0 k0).length) (λN ρ' H' hI=>g9 hI λtd dn o e eh ed eN l hp=>?_) ⟨[(f0,k0)],[],none,rfl,rfl,e0,congrArg d5 e0,⟨(T.fpos h0 e80).elim λf' ef=>ef▸aA (aY _),yk⟩,dz ⟨x0,h0,e80⟩⟩;subst e eh;refine⟨_,aq (ae rfl) (aR rfl) (jf (on (f:=λp:Nat×Nat=>ni p.2) λ_=>trivial) jO),λhc K' hK=>?_,λhc=>?_⟩
 ·cases td with
  |nil=>exact absurd hc ai
  |cons p td=>
   refine av (hp p (.head _)) λx hx e8=>(T.fpos hx e8).elim λf ef=>?_;have es:sb ns p=p.2::x.inner.flatMap (sub ns f):=by show sub ns p.1 p.2=_;rw [ef];exact congrArg (λt=>p.2::List.flatMap (sub ns f) t) (fU hx)
   haveI ei:(x.inner.map λi=>(f,i)).flatMap (sb ns)=x.inner.flatMap (sub ns f):=gV ..;haveI g':∀{l:List Nat},GM r ns (H++[.list (l.map ni)]):=λ{l}=>g.app;rw [ce,es]at ed eN;haveI lt:td.length<=60:=aa (bf _) (aa l.1 l.2);haveI lx:=(T.lim _ x hx).le;refine bp (aq (ae rfl) am E5) (bQ rfl) (kL (ae rfl) (fb gy) (ae rfl) (hE (fh gy ?_) ?_))
   ·rw [ak];haveI:=congrArg d5 ed;rw [ah]at this;exact aa (ax _ _) (aa (au this) (aa yk (by decide)))
   rw [Df,show dn.map ni++[ni p.2]=(dn++[p.2]).map ni from(aJ (f:=ni) (l₁:=dn) (l₂:=[p.2])).symm];have kid8:∀i∈x.inner,∃y,ns[i]? =some y/\f+y.deep=8:=λi hi=>dB (T.inn _ x hx i hi) λy hy _ _ hd=>⟨y,hy,by rw [hd,<-bD,bH];exact ef▸e8⟩;haveI ln:(x.inner.map λi=>(f,i)).length+td.length<=(x.inner.flatMap (sub ns f)++td.flatMap (sb ns)).length:=by haveI:=Hb (ns:=ns) (td:=(x.inner.map λi=>(f,i))++td) (dk (λy hy=>av (aK.mp hy) λi hi e=>e▸av (kid8 i hi) λy hy e=>(T.fpos hy e).imp λ_ e=>e) λy hy=>av (hp y (.tail _ hy)) λz hz e=>(T.fpos hz e).imp λ_ e=>e);rw [ah,bu,ei]at this;exact this
   haveI eN':(x.inner.flatMap (sub ns f)++td.flatMap (sb ns)).length+1=N:=eN;refine bp (aq (Kb g' hx rfl rfl rfl) (iA (ae rfl) am am ((oO ?_).trans (congrArg (λt=>some (V.lst t,H++[O.list ((dn++[p.2]).map ni)])) rI))) (D2 (g'.inn hx) ?_)) (bQ rfl) (hK _ _ (x.inner.flatMap (sub ns f)++td.flatMap (sb ns)).length (Nat.lt_of_succ_le (au eN')) ⟨(x.inner.map λi=>(f,i))++td,dn++[p.2],some (ni p.2),?_,rfl,?_,?_,⟨?_,?_⟩,dk (λy hy=>av (aK.mp hy) λi hi e=>e▸kid8 i hi) λy hy=>hp y (.tail _ hy)⟩)
   ·rw [ak];exact aa l.1 (aa l.2 (by decide))
   ·rw [ak,ak];exact aa (bU lx lt) (by decide)
   ·rw [aJ,bM];rfl
   ·rw [bu,ei,an];exact ed
   ·rw [bu,ei]
   ·rw [ah];exact ln
   ·exact aa (bf _) (aa (au eN') l.2)
 ·cases td with
  |nil=>refine bx (ae rfl) ?_;rw [<-ed,i6,aC]at q;exact q
  |cons p td=>exact absurd hc (gW:¬true=false)
theorem Tr.subS(T:Tr ns):∀{f k j:Nat} {x:Nd},ns[k]? =some x->f+x.deep=8->f<=j->sub ns j k=sub ns f k:=by
 intro f
 induction f with
 |zero=>exact λh e _=>(T.fpos h e).elim λf' e=>nomatch e
 |succ f ih=>
  intro k j x h e hj;cases j with
  |zero=>exact absurd hj (d6 _)
  |succ j=>refine(?_:k::(k6 ns k).flatMap (sub ns j)=k::(k6 ns k).flatMap (sub ns f));rw [fU h,dE,dE];exact congrArg (λl=>k::r9 l) (cn λi hi=>dB (T.inn k x h i hi) λy hy _ _ hd=>ih hy (by rw [hd,<-bD,bH];exact e) (iG hj))
theorem Hc(t:Tree ns)(g:GM r ns H)(h:ns[k]? =some x)(q:Q (.ref H.length) (H++[.list ((sub ns 8 k).map ni)])):aQ PL (n+1) 20 [.ref r,ni k] H Q X:=by haveI d:=aa (t.tr.lim k x h).dp (show(if x.w=true then 6 else 7)<=8 by cases x.w<;>decide);haveI e8:=fY d;rw [t.tr.subS h e8 (dS _ _)]at q;exact f15 t g h e8 q
end
noncomputable def Gz(ns:List Nd)(k:Nat):Nat:=(ns[k]?).elim 0 λx=>8-x.deep
noncomputable def M7(ns:List Nd)(nm:Nat->Nm):List V:=(aX ns.length).map λk=>bd ns nm (Gz ns k) k
noncomputable def bV(r:Nat)(ns:List Nd)(nm:Nat->Nm)(o:Nat):V:=.dct [['n','o','d','e','s'],['n','a','m','e','s'],['p','a','r','t','s'],['p','l','a','n'],['o','r','d','e','r']] [.ref r,nw nm ns.length,.lst (M7 ns nm),bd ns nm 7 0,.ref o]
section
variable {n r:Nat}{H:AH}{Q:QE}{X:XE}{ns:List Nd}{nm:Nat->Nm}{zs:List Int}
theorem n30:∃m:Nat,(2+a%9:Int)=m/\2<=m/\m<=30:=haveI h:=gM (a:=a) (b:=9) (by decide);⟨(2+a%9).toNat,(bT (iH (by decide) h.1)).symm,(Int.le_toNat (iH (by decide) h.1)).mpr (yi h.1),mK.mpr (bA (Jx (eU h.2) 2) (by decide))⟩
theorem Mm(h2:2<=m)(hm:m<=30)(q:∀ns nm o H',Tree ns->Nms ns.length nm->GN (H.length+2) ns H'->H'[o]? =some (.list ((sub ns 7 0).map ni))->Q (bV (H.length+2) ns nm o) H') :
  a8 PL (aQ PL (n+12)) (Iu.body.drop 3) [some (.lst (zs.map V.int)),some (.int c),some (ni m),none,none,none] H K Q X:=by
 refine dU (cQ (ae rfl) (ae rfl) (f14 h2 hm λns H' cl t=>⟨bQ rfl,?_⟩));have g:=cl.gn;haveI T:=t.tr;refine dU (cQ (dP (ae rfl) am λQ q=>Ci (by decide) q) (oA g rfl) (f12 t.le λnm N=>⟨bQ rfl,?_⟩));refine c7 T.top λx0 h0 _ hd0=>?_;haveI hl:=(af.mp h0).1;refine bp (lO (l:=aX ns.length) (f:=ni) (g:=λk=>bd ns nm (Gz ns k) k) (bY (oA g rfl) (fj (xK (aa t.le (by decide))))) (congrArg some oW) (by rw [a7];exact aa t.le (by decide)) λk hk=>fR (ae rfl) (ae rfl) (ae rfl) λQ q=>?_) (bQ rfl) ?_
 ·refine (⟨_,aO (bE.mp hk)⟩:∃x,ns[k]? =some x).elim λx hx=>?_;haveI e:Gz ns k=8-x.deep:=congrArg (λt:Option Nd=>t.elim 0 λx=>8-x.deep) hx;haveI d:=aa (T.lim k x hx).dp (show(if x.w=true then 6 else 7)<=7 by cases x.w<;>decide);rw [e]at q;exact uY (m:=8-x.deep+1) (aa (aA (dS _ _)) (aa (by decide:9<=12) (bL _ _))) (f18 T g hx (fY (aa d (by decide))) q)
 haveI e7:Gz ns 0=7:=(congrArg (λt:Option Nd=>t.elim 0 λx=>8-x.deep) h0).trans (show 8-x0.deep=7 by rw [hd0]);refine iM (show gc PL (aQ PL (n+12)) [_,_,_,_,_] _ _ _ _ from ae (P:=PL) (C:=aQ PL (n+12)) (X:=X) (v:=.ref (H.length+2)) rfl _ (ae (P:=PL) (C:=aQ PL (n+12)) (X:=X) (v:=nw nm ns.length) rfl _ (ae (P:=PL) (C:=aQ PL (n+12)) (X:=X) (v:=.lst ((aX ns.length).map λk=>bd ns nm (Gz ns k) k)) rfl _ (aq (P:=PL) (C:=aQ PL (n+12)) (X:=X) (z:=bd ns nm 7 0) (ae rfl) am ?_ _ (cQ (ae rfl) am (f15 t g.gm h0 (hd0.symm▸rfl) (hE rfl (q ns nm H'.length _ t N (λp hp=>dt (g p hp)) gy))))))));refine(lG (j:=0) (v:=bd ns nm (Gz ns 0) 0) ?_).trans (by rw [e7]);rw [aV,cq hl];rfl
theorem f19(q:∀ns nm o H',Tree ns->Nms ns.length nm->GN (H.length+2) ns H'->H'[o]? =some (.list ((sub ns 7 0).map ni))->Q (bV (H.length+2) ns nm o) H'):aQ PL (n+13) 24 [.lst (zs.map V.int)] H Q X:=by refine cf Ie rfl (bp (dP (ae rfl) am λQ q=>Ci (by decide) q) (bQ rfl) ?_);generalize zs.getD _ 0=z;refine c7 (n30 (a:=z)) λm em h2 hm=>bp (v:=ni m) (du (aq am (aq (ae rfl) am (cI (by decide))) dN) (congrArg V.int em)) (bQ rfl) ?_;exact cU (aq (aq (aq (ae rfl) am (cO (by decide) (by decide))) am (cI (by decide))) am (ft b7 b7)) (λ_=>bp (v:=ni 30) am (bQ rfl) (Mm (by decide) (aM _) q)) λ_=>Mm h2 hm q
noncomputable def Bm(ns:List Nd)(k:Nat):Bool:=!(ns[k]?).any Nd.w
theorem f24(t:Tree ns)(g:GM r ns H)(ho:H[o]? =some (.list ((sub ns 7 0).map ni)))(q:Q (.lst ((((sub ns 7 0).filter (Bm ns)).map nm).map V.str)) H):aQ PL (n+1) 29 [bV r ns nm o] H Q X:=by
 refine c7 t.tr.top λx0 h0 _ _=>?_;rw [bM]at q;refine cf Ih rfl (bx (jl (l:=sub ns 7 0) (f:=ni) (g:=λk=>V.str (nm k)) (p:=Bm ns) (w:=.ref o) (aq (ae rfl) am rfl) (gu ho) ?_ (λk hk=>?_) λk hk _=>aq (x:=nw nm ns.length) (aq (ae rfl) am rfl) (ae rfl) (iy (t.tr.lt h0 k hk))) q)
 ·exact aa ((t.tr.nd h0).length_le_of_subset (l₂:=aX ns.length) λi hi=>bE.mpr (t.tr.lt h0 i hi)) (aa (au a7) (aa t.le (by decide)))
 ·refine (⟨_,aO (t.tr.lt h0 k hk)⟩:∃x,ns[k]? =some x).elim λx hx=>?_;refine du (c9 (s:=x.w) (aq (x:=.ref x.d) (aq (x:=.ref r) (aq (ae rfl) am rfl) (ae rfl) (ji g.row (by rw [aV,hx];rfl))) am (g.it hx rfl))) ?_;unfold Bm;rw [hx];rfl
end
noncomputable def iC(σ:Ad)(g:List (Nat×O)):Ad:={σ with G:=g}
noncomputable def upd{α:Type}(f:Nat->α)(k:Nat)(x:α):Nat->α:=λj=>if j=k then x else f j
noncomputable def rg(N:Nat)(f:Nat->V):O:=.list ((aX N).map f)
noncomputable def Cf(l:List Int):V:=.lst (l.map V.int)
noncomputable def uf(l:List (Nat×V)):V:=.lst (l.map oJ)
noncomputable def kK:List Nm:=[['h','e','r','e'],['s','u','m'],['m','a','i','l'],['h','o','u','r'],['s','e','n','t'],['k','e','p','t'],['r','o','w','s']]
noncomputable def pd(b:Nat)(t:Int)(lt:Nat):List V:=[.ref b,.ref (b+1),.ref (b+2),.int t,.int lt,.ref (b+4),.ref (b+5)]
noncomputable def wN(b N:Nat)(nm:Nat->Nm)(T:Ab):List (Nat×O):=[(b,rg N λk=>.bool (T.h (nm k))),(b+1,rg N λk=>.int (T.s (nm k))),(b+2,rg N λk=>uf (T.q (nm k))),(b+3,.dict kK (pd b T.t T.lt)),(b+4,rg N λk=>Cf (T.k (nm k))),(b+5,.list (T.ev.map Evt.v))]
section
variable {P:Prog}{C:Calls}{ρ:Fm}{H:AH}{K:KS}{R:QE}{X:XE}{ss:List St}{σ:Ad}{S:Hst}{G0 W:List (Nat×O)}{a N k i:Nat}{e:Ex}
def Hz(σ:Ad)(g:List (Nat×O))(S:Option Hst)(H:AH):Prop:=match S with
 |some S=>Hs (iC σ g) S H
 |none=>(g.map (·.1)).Nodup/\∀p∈g,H[p.1]? =some p.2
theorem N3(h:Hs (iC σ g) S H)(hp:p∈g):H[p.1]? =some p.2:=(h.fix p (.tail _ (.tail _ (.tail _ (.tail _ (.tail _ (.tail _ (.tail _ (.tail _ (.tail _ (.tail _ hp))))))))))).1
theorem J8:(hH (iC σ g) S)[j+10]? =g[j]?:=rfl
theorem Hs.gset(w:Hs (iC σ (G0++W)) S H)(k:Nat)(hk:W[k]? =some (a,o)):Hs (iC σ (G0++W.set k (a,o'))) S (H.set a o'):=by
 refine w.set' (G0.length+k+10) (o:=o) (J8.trans ?_) (o'':=o') ?_ rfl rfl w.kp w.qp w.qn w.pn w.kn
 ·rw [b0 (ax _ _),cT];exact hk
 ·haveI z:(G0++W).set (G0.length+k) (a,o')=G0++W.set k (a,o'):=by rw [iV _ _ (ax _ _),cT]
  unfold hH iC;rw [<-z];rfl
theorem m9(hk:k<N):((aX N).map f)[k]? =some (f k):=by rw [aV,cq hk];rfl
theorem G5{f:Nat->V}:((aX N).map f).set k x=(aX N).map (upd f k x):=by
 refine fE λj=>?_;rw [fF];by_cases hj:j<N
 ·rw [m9 (f:=f) hj,m9 (f:=upd f k x) hj,ak,a7];show _=some (if j=k then x else f j);by_cases e:k=j
  ·rw [if_pos e,if_pos (e▸hj),if_pos e.symm]
  ·rw [if_neg e,if_neg (Ne.symm e)]
 ·haveI n1:∀{g:Nat->V},((aX N).map g)[j]? =none:=λ{g}=>fc (by rw [ak,a7];exact fN hj);rw [n1 (g:=f),n1 (g:=upd f k x)];by_cases e:k=j
  ·rw [if_pos e,if_neg (by rw [ak,a7,e];exact hj)]
  ·rw [if_neg e]
theorem GD(hr:H[r]? =some (rg N f))(hk:k<N):d8 (.ref r) (ni k) x H=some (H.set r (rg N (upd f k x))):=by show IC r k x H H[r]? =_;rw [hr];show(if 0<=(k:Int)/\(k:Int)<((aX N).map f).length then some (H.set r (.list (((aX N).map f).set k x)))else none)=_;rw [if_pos ⟨bn k,by rw [ak,a7];exact cG.mpr hk⟩,G5];rfl
end
theorem Mv(h:p∈σ.G):p∈hH σ S:=.tail _ (.tail _ (.tail _ (.tail _ (.tail _ (.tail _ (.tail _ (.tail _ (.tail _ (.tail _ h)))))))))
theorem Hs.addG(h:Hs σ S H)(kp:∀a,a<H.length->H'[a]? =H[a]?)(le:H.length<=H'.length)(nd:(G1.map (·.1)).Nodup)(c:∀p∈G1,H.length<=p.1/\H'[p.1]? =some p.2):Hs (iC σ (σ.G++G1)) S H':=by
 have lt:∀{b:Nat} {o:O},H[b]? =some o->b<H.length:=λe=>(af.mp e).1;haveI g:∀{a:Nat} {o:O},H[a]? =some o->H'[a]? =some o:=λ{a _} e=>(kp a (lt e)).trans e;haveI ef:hH (iC σ (σ.G++G1)) S=hH σ S++G1:=rfl;refine⟨?_,?_,λp hp=>⟨(h.kp p hp).1,g (h.kp p hp).2.1,(h.kp p hp).2.2⟩,λp hp=>⟨(h.qp p hp).1,g (h.qp p hp).2.1,(h.qp p hp).2.2⟩,h.qn,h.pn,h.kn,λb hb=>h.fr b (aa le hb)⟩
 ·rw [ef,aJ];refine bj.mpr ⟨h.nd,nd,λa ha b hb e=>?_⟩;exact av (aK.mp ha) λp hp ep=>av (aK.mp hb) λq hq eq=>absurd (c q hq).1 (tT (by rw [eq,<-e,<-ep];exact lt (h.fix p hp).1))
 ·rw [ef];exact dk (λp hp=>⟨g (h.fix p hp).1,(h.fix p hp).2⟩) λp hp=>⟨(c p hp).2,h.fr _ (c p hp).1⟩
theorem Hs.dropG(h:Hs (iC σ (G++G1)) S H):Hs (iC σ G) S H:=by haveI ef:hH (iC σ (G++G1)) S=hH (iC σ G) S++G1:=rfl;haveI nd:=h.nd;rw [ef,aJ]at nd;exact⟨(bj.mp nd).1,λp hp=>h.fix p (ef▸aI _ hp),h.kp,h.qp,h.qn,h.pn,h.kn,h.fr⟩
theorem Rt.g{g:List (Nat×O)}:∀{d k:Nat} {v:V},Rt π σ d k v->Rt π (iC σ g) d k v:=by
 intro d
 induction d with
 |zero=>exact λh=>h
 |succ d ih=>exact λh=>⟨h.1,h.2.imp λw q=>⟨ih q.1,q.2⟩⟩
theorem Pl.g{g:List (Nat×O)}(pl:Pl π σ):Pl π (iC σ g):=⟨pl.nm,pl.ok,pl.le,λm hm=>qm (pl.pt m hm) λd k v a b c e=>⟨d,k,v,a,b.g,c,e⟩,pl.top,pl.nd⟩
theorem Dd.g{g:List (Nat×O)}(h:Dd π σ v):Dd π (iC σ g) v:=by
 cases h with
 |send a b=>exact .send a b
 |work a=>exact .work a
 |fail a=>exact .fail a
structure Fx(σ:Ad)(G0:List (Nat×O))(ns:List Nd)(nm:Nat->Nm)(r o:Nat):Prop where
 t:Tree ns
 n:Nms ns.length nm
 g:∃D,(∀x,Dk (D x) x)/\∀p∈LM D r ns,p∈G0
 o:(o,O.list ((sub ns 7 0).map ni))∈G0
 pl:Pl (cC ns nm) σ
 en:σ.names=(sub ns 7 0).map nm
 ep:σ.plan=bd ns nm 7 0
abbrev WX(σ:Ad)(G0:List (Nat×O))(b N:Nat)(nm:Nat->Nm)(T:Ab)(X:List (Nat×O))(S:Option Hst)(H:AH):Prop:=Hz σ (G0++(wN b N nm T++X)) S H
section
variable {σ:Ad}{S:Option Hst}{H:AH}{g g1 G0 W:List (Nat×O)}
theorem Hz.at(h:Hz σ g S H)(hp:p∈g):H[p.1]? =some p.2:=by
 cases S with
 |none=>exact h.2 p hp
 |some S=>exact N3 h hp
theorem Hz.gset(w:Hz σ (G0++W) S H)(k:Nat)(hk:W[k]? =some (a,o)):Hz σ (G0++W.set k (a,o')) S (H.set a o'):=by
 cases S with
 |none=>
  haveI z:(G0++W).set (G0.length+k) (a,o')=G0++W.set k (a,o'):=by rw [iV _ _ (ax _ _),cT]
  haveI c:=BL (o':=o') w.1 w.2 (k:=G0.length+k) (by rw [b0 (ax _ _),cT];exact hk);rw [z]at c;exact⟨c.1▸w.1,c.2⟩
 |some S=>exact Hs.gset w k hk
theorem Hz.push(w:Hz σ g S H)(o:O):Hz σ (g++[(H.length,o)]) S (H++[o]):=by
 cases S with
 |none=>exact⟨by rw [aJ];refine bj.mpr ⟨w.1,bk.mpr ⟨bl,cc⟩,λa ha b hb e=>av (aK.mp ha) λp hp ep=>?_⟩;exact dK (af.mp (w.2 p hp)).1 (ep.trans (e.trans (in1 hb))),dk (λp hp=>dt (w.2 p hp)) (dz gy)⟩
 |some S=>exact Hs.addG (H':=H++[o]) (G1:=[(H.length,o)]) w (λa ha=>bt ha) (aa (ax _ _) (au ah.symm)) (bk.mpr ⟨bl,cc⟩) (dz ⟨aM _,gy⟩)
theorem Hz.drop(h:Hz σ (g++g1) S H):Hz σ g S H:=by
 cases S with
 |none=>exact⟨(bj.mp (aJ▸h.1)).1,λp hp=>h.2 p (aI _ hp)⟩
 |some S=>exact Hs.dropG h
theorem Hz.app(h:Hz σ g S H):Hz σ g S (H++L):=by
 cases S with
 |none=>exact⟨h.1,λp hp=>dt (h.2 p hp)⟩
 |some S=>exact Hs.app h
end
section
variable {P:Prog}{C:Calls}{ρ:Fm}{σ:Ad}{S:Option Hst}{H:AH}{G0:List (Nat×O)}{ns:List Nd}{nm:Nat->Nm}{x y:Nd}{k j f a o r n N b:Nat}{Q R:QE}{X:XE}{K:KS}{T T':Ab}{Y Z:List (Nat×O)}{ss:List St}{i:Nat}{e:Ex}
theorem WX.push(w:WX σ G0 b N nm T Y S H)(o:O):WX σ G0 b N nm T (Y++[(H.length,o)]) S (H++[o]):=by haveI y:=Hz.push w o;rw [an,an]at y;exact y
theorem WX.pop(w:WX σ G0 b N nm T (Y++Z) S H):WX σ G0 b N nm T Y S H:=Hz.drop (g1:=Z) (by rw [an,an];exact w)
theorem WX.at(w:WX σ G0 b N nm T Y S H)(k:Nat)(hk:(wN b N nm T++Y)[k]? =some p):H[p.1]? =some p.2:=Hz.at w (az _ (aN hk))
theorem WX.top{a:Nat}{o:O}(w:WX σ G0 b N nm T (Y++[(a,o)]) S H):H[a]? =some o:=Hz.at w (az _ (az _ (az _ (.head _))))
theorem WX.gn(w:WX σ G0 b N nm T Y S H)(hG:∃D,(∀x,Dk (D x) x)/\∀p∈LM D r ns,p∈G0):GM r ns H:=hG.imp λ_ q=>⟨q.1,λp hp=>Hz.at w (aI _ (q.2 p hp))⟩
theorem kj{f g:Nat->V}(h:∀j,j<N->f j=g j):rg N f=rg N g:=congrArg O.list (cn λj hj=>h j (bE.mp hj))
theorem Me{α:Type}{f:Nm->α}{x:α}(N':Nms N nm)(hk:k<N)(hj:j<N):(if j=k then x else f (nm j))=jq f (nm k) x (nm j):=by
 unfold jq;by_cases z:j=k
 ·rw [if_pos z,if_pos (z▸rfl)]
 ·rw [if_neg z,if_neg λq=>z (N'.inj j k hj hk q)]
theorem eX(w:WX σ G0 b N nm T Y S H)(hi:ρ[i]? =some (some (.ref (b+3))))(e:fo key kK (pd b T.t T.lt)=some v):Ev P C ρ H X (.p false .i [.v i,.c (.str key)]) v:=aq (ae hi) am (jN (w.at 3 rfl) e)
theorem lB(w:WX σ G0 b N nm T Y S H)(hi:ρ[i]? =some (some (.ref (b+3))))(he:Ev P C ρ H X e (ni k))(hk:k<N):Ev P C ρ H X (.p false .i [.p false .i [.v i,.c (.str ['h','e','r','e'])],e]) (.bool (T.h (nm k))):=aq (eX w hi rfl) he (ji (w.at 0 rfl) (m9 hk))
theorem Fz(w:WX σ G0 b N nm T Y S H)(hi:ρ[i]? =some (some (.ref (b+3))))(he:Ev P C ρ H X e (ni k))(hk:k<N):Ev P C ρ H X (.p false .i [.p false .i [.v i,.c (.str ['s','u','m'])],e]) (.int (T.s (nm k))):=aq (eX w hi rfl) he (ji (w.at 1 rfl) (m9 hk))
theorem qB(w:WX σ G0 b N nm T Y S H)(hi:ρ[i]? =some (some (.ref (b+3))))(he:Ev P C ρ H X e (ni k))(hk:k<N):Ev P C ρ H X (.p false .i [.p false .i [.v i,.c (.str ['m','a','i','l'])],e]) (uf (T.q (nm k))):=aq (eX w hi rfl) he (ji (w.at 2 rfl) (m9 hk))
theorem Au(w:WX σ G0 b N nm T Y S H)(hi:ρ[i]? =some (some (.ref (b+3))))(he:Ev P C ρ H X e (ni k))(hk:k<N):Ev P C ρ H X (.p false .i [.p false .i [.v i,.c (.str ['k','e','p','t'])],e]) (Cf (T.k (nm k))):=aq (eX w hi rfl) he (ji (w.at 4 rfl) (m9 hk))
theorem wU{H':AH}{oe ie e:Ex}{x ov iv:V}(he:Ev P C ρ H X e x)(ho:Ev P C ρ H X oe ov)(hi:Ev P C ρ H X ie iv)(es:d8 ov iv x H=some H')(k:a8 P C ss ρ H' K R X):a8 P C (.s oe ie e::ss) ρ H K R X:=ij (he _ (ho _ (hi _ (by rw [es];exact k))))
theorem pG{α:Type}{g:α->V}{f:Nm->α}{x:α}(N':Nms N nm)(w:WX σ G0 b N nm T Y S H)(hi:ρ[i]? =some (some (.ref (b+3))))(hx:Ev P C ρ H X ex (g x))(he:Ev P C ρ H X ei (ni k))(hk:k<N)(ek:fo key kK (pd b T.t T.lt)=some (.ref c))(ep:(wN b N nm T++Y)[p]? =some (c,rg N λj=>g (f (nm j))))
  (es:(wN b N nm T++Y).set p (c,rg N λj=>g (jq f (nm k) x (nm j)))=wN b N nm T'++Y)(q:∀H',WX σ G0 b N nm T' Y S H'->a8 P C ss ρ H' K R X):a8 P C (.s (.p false .i [.v i,.c (.str key)]) ei ex::ss) ρ H K R X:=by
 refine wU hx (eX w hi ek) he ((GD (w.at p ep) hk).trans (congrArg (λt=>some (H.set c t)) (kj (g:=λj=>g (jq f (nm k) x (nm j))) λj hj=>?_))) (q _ (by haveI z:=w.gset p (o':=rg N λj=>g (jq f (nm k) x (nm j))) ep;rw [es]at z;exact z));refine(?_:(if j=k then g x else g (f (nm j)))=_);rw [<-apply_ite g,Me N' hk hj]
theorem nb(t:Evt)(w:WX σ G0 b N nm T Y S H)(hi:ρ[i]? =some (some (.ref (b+3))))(he:Ev P C ρ H X e t.v)(hl:T.ev.length<=aB)(q:∀H',WX σ G0 b N nm {T with ev:=T.ev++[t]} Y S H'->a8 P C ss ρ H' K R X):a8 P C (.e (.n .list false .append (.p false .i [.v i,.c (.str ['r','o','w','s'])]) [e])::ss) ρ H K R X:=by
 refine kL (eX w hi rfl) (fb (w.at 5 rfl)) he (hE (fh (w.at 5 rfl) (aa (au (ak _)) hl)) (q _ ?_));haveI z:=w.gset 5 (o':=.list (T.ev.map Evt.v++[t.v])) rfl;haveI e:T.ev.map Evt.v++[t.v]=(T.ev++[t]).map Evt.v:=by rw [aJ];rfl
 rw [e]at z ⊢;exact z
theorem qU(g:GM r ns H)(hx:ns[k]? =some x)(hi:ρ[i]? =some (some (bV r ns nm o)))(hj:ρ[j]? =some (some (ni k)))(e:fo key uy (LF x)=some v):Ev P C ρ H X (.p false .i [.p false .i [.p false .i [.v i,.c (.str ['n','o','d','e','s'])],.v j],.c (.str key)]) v:=
 aq (aq (aq (ae hi) am rfl) (ae hj) (ji g.row (by rw [aV,hx];rfl))) am (g.it hx e)
theorem nU(N':Nms N nm)(hk:k<N):be P false .lindex [nw nm N,.str (nm k)] H=some (ni k,H):=by
 haveI q:=fQ (lL (f:=λk=>V.str (nm k)) (l:=aX N) λ_=>trivial);refine(?_:(if tU _=true then(((aX N).map λk=>V.str (nm k)).findIdx? λy=>gH y (.str (nm k))).map λ(k:Nat)=>(V.int k,H)else none)=_);rw [if_pos (lC q.1 (aa (au q.2) (by decide))),show(((aX N).map λk=>V.str (nm k)).findIdx? λy=>gH y (.str (nm k)))=some k from ?_]
 ·rfl
 ·have hl:((aX N).map λk=>V.str (nm k)).length=N:=by rw [ak,a7]
  refine fk.mpr ⟨hl.symm▸hk,?_,λj hj=>?_⟩
  ·rw [lX,MX];exact beq_iff_eq.mpr rfl
  ·rw [lX,MX];exact λz=>dK hj (N'.inj j k (jW hj hk) hk (beq_iff_eq.mp z))
theorem G8(h:ns[k]? =some x):be P false .i [bd ns nm (f+1) k,.int 2] H=some (.str (iD x),H):=by
 rw [jZ h];unfold iD;by_cases e:x.w=true
 ·rw [if_pos e,if_pos e];rfl
 ·rw [if_neg e,if_neg e];rfl
theorem rJ(T:Tr ns)(hx:ns[k]? =some x)(h0:ρ[i]? =some (some (bV r ns nm o)))(h3:ρ[l]? =some (some (ni k))):∃f,Ev P C ρ H X (.p false .i [(.p false .i [(.v i),.c (.str ['p','a','r','t','s'])]),(.v l)]) (bd ns nm (f+1) k):=by haveI hk:=(af.mp hx).1;haveI e:Gz ns k=8-x.deep:=congrArg (λt:Option Nd=>t.elim 0 λx=>8-x.deep) hx;haveI d:=aa (T.lim k x hx).dp (show(if x.w=true then 6 else 7)<=7 by cases x.w<;>decide);refine(T.fpos hx (fY (aa d (by decide)))).imp λf ef=>?_;refine aq (x:=.lst (M7 ns nm)) (aq (ae h0) am rfl) (ae h3) (lG ?_);unfold M7;rw [aV,cq hk];exact congrArg (λt=>some (bd ns nm t k)) (e.trans ef)
theorem oQ(T:Tr ns)(hx:ns[k]? =some x)(h0:ρ[i]? =some (some (bV r ns nm o)))(h3:ρ[l]? =some (some (ni k))):Ev P C ρ H X (.p false .i [(.p false .i [(.p false .i [(.v i),.c (.str ['p','a','r','t','s'])]),(.v l)]),.c (.int 2)]) (.str (iD x)):=(rJ T hx h0 h3).elim λ_ h=>aq h am (G8 hx)
theorem JY(T:Tr ns)(hx:ns[k]? =some x)(hw:x.w=true)(h0:ρ[i]? =some (some (bV r ns nm o)))(h3:ρ[l]? =some (some (ni k))):Ev P C ρ H X (.p false .i [(.p false .i [(.p false .i [(.v i),.c (.str ['p','a','r','t','s'])]),(.v l)]),.c (.int 4)]) (.int (tV x)):=(rJ T hx h0 h3).elim λ_ h=>aq h am (by rw [jZ hx,if_pos hw];unfold tV;rw [if_pos hw];rfl)
theorem tq(N':Nms ns.length nm)(hx:ns[k]? =some x):(cC ns nm).nv (nm k)=HG x/\(cC ns nm).al (nm k)=JM x:=by
 haveI e:=nz N' (af.mp hx).1;refine⟨?_,?_⟩
 ·show (k9 ns.length nm (nm k)).any _=_;rw [e];show(ns[k]?).any HG=_;rw [hx];rfl
 ·show (k9 ns.length nm (nm k)).any _=_;rw [e];show(ns[k]?).any JM=_;rw [hx];rfl
theorem wc(h:((cC ns nm).isW m).isSome=true):∃k x,ns[k]? =some x/\nm k=m:=by haveI h:((k9 ns.length nm m).bind _).isSome=true:=h;refine fS (o:=k9 ns.length nm m) (λz=>?_) λk z=>⟨k,_,aO (mE z).2,(mE z).1⟩;rw [z]at h;exact absurd h ai
end
noncomputable def aE(es:List Evt)(T:Ab):Ab:=aF es T.k T
theorem oE:aE (a++b) T=aE b (aE a T):=by show(⟨(a++b).foldl hr T.h,λc=>(a++b).foldl (kr c) (T.k c),λc=>(a++b).foldl (nN c) (T.s c),T.q,T.ev++(a++b),T.t,T.lt⟩:Ab)=⟨b.foldl hr (a.foldl hr T.h),λc=>b.foldl (kr c) (a.foldl (kr c) (T.k c)),λc=>b.foldl (nN c) (a.foldl (nN c) (T.s c)),T.q,T.ev++a++b,T.t,T.lt⟩;rw [bw,an,show(λc=>(a++b).foldl (kr c) (T.k c))=λc=>b.foldl (kr c) (a.foldl (kr c) (T.k c))from funext λc=>bw,show(λc=>(a++b).foldl (nN c) (T.s c))=λc=>b.foldl (nN c) (a.foldl (nN c) (T.s c))from funext λc=>bw]
theorem uq:aE [] T=T:=congrArg (λl=>(⟨T.h,T.k,T.s,T.q,l,T.t,T.lt⟩:Ab)) (aC T.ev)
theorem L4:hr h (.beg n)=jq h n true:=funext λm=>by
 refine(?_:(decide (m=n)||h m)=if m=n then true else h m);by_cases e:m=n
 ·rw [if_pos e,decide_eq_true e];rfl
 ·rw [if_neg e,decide_eq_false e];rfl
theorem MI:(λm=>!decide (m=n)&&h m)=jq h n false:=funext λm=>by
 refine(?_:_=if m=n then false else h m);by_cases e:m=n
 ·rw [if_pos e,decide_eq_true e];rfl
 ·rw [if_neg e,decide_eq_false e];rfl
theorem GX:({T with h:=jq T.h n true,s:=jq T.s n 0,k:=jq T.k n [],ev:=T.ev++[.beg n]}:Ab)=aE [.beg n] T:=by
 haveI e1:jq T.s n 0=λc=>nN c (T.s c) (.beg n):=funext λc=>by
  refine(?_:(if c=n then 0 else T.s c)=if n=c then 0 else T.s c);by_cases e:c=n
  ·rw [if_pos e,if_pos e.symm]
  ·rw [if_neg e,if_neg λq=>e q.symm]
 haveI e2:jq T.k n []=λc=>kr c (T.k c) (.beg n):=funext λc=>by
  refine(?_:(if c=n then []else T.k c)=if n=c then []else T.k c);by_cases e:c=n
  ·rw [if_pos e,if_pos e.symm]
  ·rw [if_neg e,if_neg λq=>e q.symm]
 rw [e1,e2,<-L4];rfl
theorem E9(h1:hr T.h e=λm=>!decide (m=n)&&T.h m)(h2:∀c l,kr c l e=l)(h3:∀c s,nN c s e=s):({T with h:=jq T.h n false,ev:=T.ev++[e]}:Ab)=aE [e] T:=by show _=(⟨hr T.h e,λc=>kr c (T.k c) e,λc=>nN c (T.s c) e,T.q,T.ev++[e],T.t,T.lt⟩:Ab);rw [h1,MI,show(λc=>kr c (T.k c) e)=T.k from funext λc=>h2 c _,show(λc=>nN c (T.s c) e)=T.s from funext λc=>h3 c _]
section
variable {P:Prog}{C:Calls}{ρ:Fm}{σ:Ad}{S:Option Hst}{H:AH}{G0:List (Nat×O)}{ns:List Nd}{nm:Nat->Nm}{x y:Nd}{k j f a o r n N b:Nat}{Q R:QE}{X:XE}{K:KS}{T T':Ab}{Y Z:List (Nat×O)}{ss:List St}{i:Nat}{e:Ex}
theorem Tr.sub8(t:Tree ns)(hx:ns[k]? =some x):(sub ns 8 k).length<=60:=aa ((t.tr.nd hx).length_le_of_subset (l₂:=aX ns.length) λi hi=>bE.mpr (t.tr.lt hx i hi)) (aa (au a7) t.le)
noncomputable def Oh(hall:V)(b k:Nat)(o3:Option V):Fm:=[some hall,some (.ref (b+3)),some (ni k),o3]
def BG(σ:Ad)(G0:List (Nat×O))(b:Nat)(ns:List Nd)(nm:Nat->Nm)(T:Ab)(Y:List (Nat×O))(S:Option Hst)(hall:V)(k a:Nat)(its:List Nat)(ρ:Fm)(H:AH):Prop:=
 ∃o3 dn,ρ=Oh hall b k o3/\dn++its=sub ns 8 k/\WX σ G0 b ns.length nm (aE (dn.map λj=>.beg (nm j)) T) (Y++[(a,.list ((sub ns 8 k).map ni))]) S H
theorem f26(F:Fx σ G0 ns nm r o)(w:WX σ G0 b ns.length nm T Y S H)(hx:ns[k]? =some x)(hl:T.ev.length+60<=900000)(q:∀H',WX σ G0 b ns.length nm (aE (((cC ns nm).sb (nm k)).map .beg) T) Y S H'->Q .none H'):aQ PL (n+2) 31 [bV r ns nm o,.ref (b+3),ni k] H Q X:=by
 haveI yk:=Tr.sub8 F.t hx;refine cf Iy rfl (nc (cQ (aq (z:=.ref r) (ae rfl) am rfl) (ae rfl) (Hc F.t (w.gn F.g) hx ?_)));refine oY (rev:=false) (v:=.ref H.length) (ss:=[]) (tgt:=.inl 3) (st:=λj ρ=>ρ.set 3 (some (ni j))) (f:=ni) (λ_ _=>rfl) (BG σ G0 b ns nm T Y S (bV r ns nm o) k H.length) (l:=sub ns 8 k) (λ_ _ _ q=>di q λ_ _ _ _ w=>gu w.top) (aa yk (by decide)) ⟨none,[],rfl,rfl,(uq.symm▸w.push _:WX σ G0 b ns.length nm (aE [] T) (Y++[(H.length,.list ((sub ns 8 k).map ni))]) S _)⟩
  (λj js ρ' H' hI K' hK=>di hI λo3 dn e ed w=>?_) λρ' H' hI=>di hI λo3 dn e ed w=>q H' ?_
 ·subst e;have hj:j<ns.length:=F.t.tr.lt hx j (ed▸az dn (.head _));haveI ld:(aE (dn.map λj=>.beg (nm j)) T).ev.length<=aB:=by show(T.ev++dn.map _).length<=_;rw [ah,ak];refine aa (aH (aa ?_ yk) _) (aa hl (by decide));rw [<-ed,ah];exact ax _ _
  refine pG (g:=V.bool) (x:=true) (p:=0) F.n w rfl am (ae rfl) hj rfl rfl (T':={aE (dn.map λj=>.beg (nm j)) T with h:=jq (aE (dn.map λj=>.beg (nm j)) T).h (nm j) true}) rfl λH1 w1=>pG (g:=V.int) (x:=0) (p:=1) F.n w1 rfl am (ae rfl) hj rfl rfl (T':={aE (dn.map λj=>.beg (nm j)) T with h:=jq (aE (dn.map λj=>.beg (nm j)) T).h (nm j) true,s:=jq (aE (dn.map λj=>.beg (nm j)) T).s (nm j) 0}) rfl λH2 w2=>pG (g:=Cf) (x:=[]) (p:=4) F.n w2 rfl (aR rfl) (ae rfl) hj rfl rfl (T':={aE (dn.map λj=>.beg (nm j)) T with h:=jq (aE (dn.map λj=>.beg (nm j)) T).h (nm j) true,s:=jq (aE (dn.map λj=>.beg (nm j)) T).s (nm j) 0,k:=jq (aE (dn.map λj=>.beg (nm j)) T).k (nm j) []}) rfl λH3 w3=>nb (.beg (nm j)) w3 rfl (aq am (aq (x:=nw nm ns.length) (aq (ae rfl) am rfl) (ae rfl) (iy hj)) (eM fx)) ld λH4 w4=>hK _ _ ⟨_,dn++[j],rfl,(an dn [j] js).trans ed,?_⟩;rw [aJ,oE];exact(GX (T:=aE (dn.map λj=>.beg (nm j)) T) (n:=nm j))▸w4
 ·haveI ed:dn=sub ns 8 k:=(aC dn).symm.trans ed;rw [nZ F.n hx,bM,<-ed];exact w.pop
theorem BJ(h:d7 H v=some vs)(hl:vs.length<=aB):be P false .rev [v,.int (-1)] H=some (.lst vs.reverse,H):=by show(d7 H v).bind _=_;rw [h];exact if_pos hl
def EG(σ:Ad)(G0:List (Nat×O))(b:Nat)(ns:List Nd)(nm:Nat->Nm)(T:Ab)(Y:List (Nat×O))(S:Option Hst)(hall sv:V)(l its:List Nat)(ρ:Fm)(H:AH):Prop:=
 ∃o3 dn,ρ=[some hall,some (.ref (b+3)),some sv,o3]/\dn++its=l.reverse/\WX σ G0 b ns.length nm (aE ((dn.filter λj=>T.h (nm j)).map λj=>.end_ (nm j)) T) Y S H
theorem EZ{ms:List Nm}{c:Nm}:∀{h:Nm->Bool},c∉ms->(ms.map Evt.end_).foldl hr h c=h c:=by
 induction ms with
 |nil=>exact λ_=>rfl
 |cons m ms ih=>intro h hc;refine(ih λz=>hc (.tail _ z)).trans ?_;refine(?_:(!decide (c=m)&&h c)=h c);rw [decide_eq_false λz:c=m=>hc (z▸.head _)];rfl
theorem f27{l:List Nat}(F:Fx σ G0 ns nm r o)(w:WX σ G0 b ns.length nm T Y S H)(hv:d7 H sv=some (l.map ni))(hlt:∀j∈l,j<ns.length)(nd:l.Nodup)(hl60:l.length<=60)(hl:T.ev.length+60<=900000)(q:∀H',WX σ G0 b ns.length nm (aE (eE T.h (l.map nm)) T) Y S H'->Q .none H'):aQ PL (n+1) 32 [bV r ns nm o,.ref (b+3),sv] H Q X:=by
 haveI ndr:l.reverse.Nodup:=(kX l).nodup_iff.mpr nd;refine cf IV rfl (eD (EG σ G0 b ns nm T Y S (bV r ns nm o) sv l) (f:=ni) (l:=l.reverse) (aq (ae rfl) (bY am mV) (BJ hv (by rw [ak];exact aa hl60 (by decide)))) (λ_ _ _ _=>congrArg some gU.symm) (by rw [b8];exact aa hl60 (by decide)) ⟨none,[],rfl,rfl,(uq.symm▸w:WX σ G0 b ns.length nm (aE [] T) Y S H)⟩
  (λj js ρ' H' hI K' hK=>di hI λo3 dn e ed w=>?_) λρ' H' hI=>di hI λo3 dn e ed w=>q H' ?_)
 ·subst e;haveI hjm:j∈l.reverse:=ed▸az dn (.head _);have hj:j<ns.length:=hlt j (dD.mp hjm);haveI jd:nm j∉(dn.filter λj=>T.h (nm j)).map nm:=λz=>av (aK.mp z) λi hi e=>by have hi:=(ca.mp hi).1;haveI hil:i<ns.length:=hlt i (dD.mp (ed▸aI _ hi));exact(bj.mp (ed.symm▸ndr)).2.2 i hi j (.head _) (F.n.inj i j hil hj e)
  haveI eh:(aE ((dn.filter λj=>T.h (nm j)).map λj=>.end_ (nm j)) T).h (nm j)=T.h (nm j):=by show((dn.filter λj=>T.h (nm j)).map λj=>Evt.end_ (nm j)).foldl hr T.h (nm j)=_;rw [show((dn.filter λj=>T.h (nm j)).map λj=>Evt.end_ (nm j))=((dn.filter λj=>T.h (nm j)).map nm).map .end_ from bM.symm,EZ jd]
  haveI ld:(aE ((dn.filter λj=>T.h (nm j)).map λj=>.end_ (nm j)) T).ev.length<=aB:=by show(T.ev++jp _ _).length<=_;rw [ah,ak];refine aa (aH (aa (dq _ _) (aa ?_ hl60)) _) (aa hl (by decide));rw [<-b8 (as:=l),<-ed,ah];exact ax _ _
  refine cU (du (lB w rfl (ae rfl) hj) (congrArg V.bool eh)) (λhc=>?_) λhc=>hK _ _ ⟨_,dn++[j],rfl,(an dn [j] js).trans ed,?_⟩
  ·refine pG (g:=V.bool) (x:=false) (p:=0) F.n w rfl am (ae rfl) hj rfl rfl (T':={aE ((dn.filter λj=>T.h (nm j)).map λj=>.end_ (nm j)) T with h:=jq (aE ((dn.filter λj=>T.h (nm j)).map λj=>.end_ (nm j)) T).h (nm j) false}) rfl λH1 w1=>nb (.end_ (nm j)) w1 rfl (aq am (aq (x:=nw nm ns.length) (aq (ae rfl) am rfl) (ae rfl) (iy hj)) (eM fx)) ld λH2 w2=>cH (hK _ _ ⟨_,dn++[j],rfl,(an dn [j] js).trans ed,?_⟩);rw [fZ,cR (p:=λj=>T.h (nm j)) hc,aJ,oE];exact(E9 (T:=aE ((dn.filter λj=>T.h (nm j)).map λj=>.end_ (nm j)) T) (n:=nm j) (e:=.end_ (nm j)) rfl (λ_ _=>rfl) λ_ _=>rfl)▸w2
  ·rw [fZ,eG (p:=λj=>T.h (nm j)) (by rw [hc];exact ai),show Jo (λj=>T.h (nm j)) []=[]from rfl,aC];exact w
 ·haveI ed:dn=l.reverse:=(aC dn).symm.trans ed;subst ed;have e:eE T.h (l.map nm)=(l.reverse.filter λj=>T.h (nm j)).map λj=>.end_ (nm j):=by unfold eE;rw [<-gU,jH,bM];rfl
  rw [e];exact w
theorem FS(F:Fx σ G0 ns nm r o)(g:GM r ns H)(hx:ns[k]? =some x)(q:Q (.bool ((cC ns nm).nv (nm k))) H):aQ PL (n+1) 33 [bV r ns nm o,ni k] H Q X:=by
 rw [(tq F.n hx).1]at q;refine cf Je rfl (bx (du (cW (aq (oQ F.t.tr hx rfl rfl) am (ft jh jh)) λ_=>c9 (qU g hx rfl rfl rfl)) (congrArg V.bool ?_)) q);refine(?_:(iD x==['n','e','v','e','r']&& !x.w)=(iD x==['n','e','v','e','r']));cases hw:x.w with
 |false=>exact B7 _
 |true=>unfold iD;rw [if_pos hw];exact(by decide:∀r∈fT,(r==['n','e','v','e','r']&& !true)=(r==['n','e','v','e','r'])) _ rR
end
section
variable {π:PI}
theorem zJ:∀{h:Nm->Bool},(∀m∈ms,(π.sb m).length<=60)->(eJ π h ms).length<=60*ms.length:=by
 induction ms with
 |nil=>exact λ_=>aM _
 |cons m ms ih=>intro h q;refine(?_:(eE h (π.sb m)++eJ π _ ms).length<=60*(ms.length+1));rw [ah,Nat.mul_succ,db (60*ms.length)];exact bU (aa og (q m (.head _))) (ih λm hm=>q m (.tail _ hm))
theorem Gr{ms:List Nm}{c:Nm}:∀{h:Nm->Bool},(ms.map Evt.end_).foldl hr h c=true->h c=true:=by
 induction ms with
 |nil=>exact λz=>z
 |cons m ms ih=>exact λz=>(ay.mp (ih z)).2
theorem CX:∀{h:Nm->Bool},(eJ π h ms).foldl hr h c=true->h c=true:=by
 induction ms with
 |nil=>exact λz=>z
 |cons m ms ih=>intro h z;haveI z:(eE h (π.sb m)++eJ π ((eE h (π.sb m)).foldl hr h) ms).foldl hr h c=true:=z;rw [bw]at z;exact Gr (ih z)
end
section
variable {σ:Ad}{S:Option Hst}{H:AH}{G0:List (Nat×O)}{ns:List Nd}{nm:Nat->Nm}{x y:Nd}{k j f a o r n N b i:Nat}{Q R:QE}{X:XE}{K:KS}{T T':Ab}{Y Z:List (Nat×O)}{ss:List St}
theorem qj{P:Prog}{C:Calls}{ρ:Fm}{a b c:Ex}{x y:V}{f:Nat}(ha:Ev P C ρ H X a x)(hb:Ev P C ρ H X b y)(k:cL P C c ρ H (λu H'=>C f [x,y,u] H' Q X) X):cL P C (.call f [a,b,c]) ρ H Q X:=ha _ (hb _ k)
theorem IM{α β:Type}{f:α->List β}{l:List α}(h:∀a∈l,(f a).length<=60):(l.flatMap f).length<=60*l.length:=by
 induction l with
 |nil=>exact aM _
 |cons a l ih=>rw [ce,ah,dR,Nat.mul_succ,db (60*l.length)];exact bU (h a (.head _)) (ih λc hc=>h c (.tail _ hc))
theorem F6{l:List Nat}(hv:d7 H v=some (l.map ni))(nd:l.Nodup)(hi:l[i]? =some k):be P false .lindex [v,ni k] H=some (ni i,H):=by
 haveI q:=fQ (lL (f:=ni) (l:=l) λ_=>trivial);refine(?_:((d7 H v).bind λvs=>if tU vs=true then(vs.findIdx? λy=>gH y (ni k)).map λ(k:Nat)=>(V.int k,H)else none)=_);rw [hv];show(if tU _=true then((l.map ni).findIdx? λy=>gH y (ni k)).map λ(k:Nat)=>(V.int k,H)else none)=_;have hl:=(af.mp hi).1;rw [if_pos (lC q.1 (aa (au q.2) (by decide))),show((l.map ni).findIdx? λy=>gH y (ni k))=some i from ?_]
 ·rfl
 ·refine fk.mpr ⟨by rw [ak];exact hl,?_,λj hj=>?_⟩
  ·rw [lX];exact wg.mpr (aj ((aO hl).symm.trans hi))
  ·rw [lX];exact λz=>dK hj ((gx (jW hj hl) nd).mp ((aO (jW hj hl)).trans ((congrArg some (wg.mp z)).trans hi.symm)))
theorem CN(hr:rl∈fT)(h3:ρ[3]? =some (some (ni k)))(h4:ρ[4]? =some (some (.ref a)))(h5:ρ[5]? =some (some (ni i)))(h6:ρ[6]? =some (some (.str rl)))(ha:H[a]? =some (.list (l.map ni)))(hi:l[i]? =some k)(hl:l.length<=8) :
  ∃sv,Ev PL C ρ H X (.p false .i [(.p false (.d [['o','n','e'],['r','e','s','t'],['a','l','l']]) [(.p false .l [.v 3]),(.p false .slice [.v 4,.v 5,.c .none]),.v 4]),.v 6]) sv/\pY H sv=d7 H sv/\(sv=.ref a/\nH rl l i k=l\/sv=.lst ((nH rl l i k).map ni)):=by
 have il:=(af.mp hi).1;have e:Ev PL C ρ H X (.p false (.d [['o','n','e'],['r','e','s','t'],['a','l','l']]) [(.p false .l [.v 3]),(.p false .slice [.v 4,.v 5,.c .none]),.v 4]) (.dct [['o','n','e'],['r','e','s','t'],['a','l','l']] [.lst [ni k],.lst ((l.drop i).map ni),.ref a]):=by refine nu (dG (bY (ae h3) (hO xy)) (dG (iA (ae h4) (ae h5) am ?_) (dG (ae h4) nD))) rfl;refine(?_:((H[a]?.bind O.lst).bind _).map _=_);rw [ha];show(if(l.map ni).length<=aB then some (V.lst (bB (l.map ni) (iK (l.map ni).length i) (l.map ni).length))else none:Option V).map _=_;rw [if_pos (by rw [ak];exact aa hl (by decide)),iT (by rw [ak];exact gT il)];unfold bB;rw [iZ,<-pB];rfl
 refine eC hr (λz=>?_) λhr=>eC hr (λz=>?_) λhr=>?_
 ·subst z;exact⟨_,aq e (ae h6) rfl,rfl,.inr rfl⟩
 ·subst z;exact⟨_,aq e (ae h6) rfl,rfl,.inr rfl⟩
 ·haveI z:=in1 hr;subst z;exact⟨_,aq e (ae h6) rfl,rfl,.inl ⟨rfl,rfl⟩⟩
noncomputable def JH(hall:V)(b u k a i:Nat)(rl:Nm)(sv:V)(o8:Option V)(ag:V):Fm:=[some hall,some (.ref (b+3)),some (ni u),some (ni k),some (.ref a),some (ni i),some (.str rl),some sv,o8,some ag]
def AN(σ:Ad)(G0:List (Nat×O))(b:Nat)(ns:List Nd)(nm:Nat->Nm)(T:Ab)(Y:List (Nat×O))(S:Option Hst)(fr:Option V->Fm)(l:List Nat)(Ev:List Nat->List Evt)(its:List Nat)(ρ:Fm)(H:AH):Prop:=
 ∃o8 dn,ρ=fr o8/\dn++its=l/\WX σ G0 b ns.length nm (aE (Ev dn) T) Y S H
theorem NE(F:Fx σ G0 ns nm r o)(w:WX σ G0 b ns.length nm T Y S H)(hy:ns[j]? =some y)(hw:y.w=true)(hi:y.inner[i]? =some k)(off:∀m∈(cC ns nm).kd (nm j),T.h m=false->∀x∈(cC ns nm).sb m,T.h x=false)(hl:T.ev.length+1100<=900000)(q:∀H',WX σ G0 b ns.length nm (aE (Cz (cC ns nm) T.h (nm j) i (nm k)) T) Y S H'->Q .none H'):aQ PL (n+3) 34 [bV r ns nm o,.ref (b+3),ni j,ni k] H Q X:=by
 have Tt:=F.t.tr;have lm:=Tt.lim j y hy;have g:=w.gn F.g;haveI rl:=iD y;haveI hrl:iD y∈fT:=by unfold iD;rw [if_pos hw];exact rR
 refine cf FK rfl (bp (qU g hy rfl rfl rfl) (bQ rfl) (bp (v:=ni i) (mY (ae rfl) (fb (g.inn hy)) (ae rfl) (F6 (show H[y.a]?.bind O.lst=_ by rw [g.inn hy];rfl) lm.nd hi)) (bQ rfl) (bp (oQ Tt hy rfl rfl) (bQ rfl) ?_)));refine c7 (CN (X:=X) (C:=aQ PL (n+2)) hrl (ρ:=[some (bV r ns nm o),some (.ref (b+3)),some (ni j),some (ni k),some (.ref y.a),some (ni i),some (.str (iD y)),none,none,none]) rfl rfl rfl rfl (g.inn hy) hi lm.le) λsv esv esr hsv=>bp esv (bQ rfl) ?_;generalize hpl:nH (iD y) y.inner i k=l at hsv;have vw:∀{H'},GM r ns H'->d7 H' sv=some (l.map ni):=λ{H'} g=>hsv.elim (λz=>by rw [z.1];show H'[y.a]?.bind O.lst=_;rw [g.inn hy,z.2];rfl) λz=>by rw [z];rfl
 have eW:∀m∈l,∃z,ns[m]? =some z/\(cC ns nm).sb (nm m)=(sub ns 8 m).map nm/\nm m∈(cC ns nm).kd (nm j):=λm hm=>by have him:=nX (rl:=iD y) hi m (hpl▸hm);exact dB (Tt.inn j y hy m him) λz hz _ _ _=>⟨z,hz,nZ F.n hz,(oV F.n hy).1▸bq him⟩
 haveI lnd:l.Nodup:=hpl▸BA lm.nd;have ll:l.length<=8:=hpl▸aa (vT (af.mp hi).1) lm.le;haveI el:nH ((cC ns nm).ru (nm j)) ((cC ns nm).kd (nm j)) i (nm k)=l.map nm:=by rw [(oV F.n hy).1,(oV F.n hy).2,<-hpl,wo]
 haveI hkn:∀m∈l,(m==k)=(nm m==nm k):=λm hm=>by rw [cr,beq_iff_eq,beq_iff_eq];refine⟨λe=>e▸rfl,λe=>c7 (eW m hm) λz hz _ _=>?_⟩;have hkl:k∈y.inner:=aN hi;exact dB (Tt.inn j y hy k hkl) λz' hz' _ _ _=>F.n.inj m k (af.mp hz).1 (af.mp hz').1 e
 haveI hag:((l.map nm).filter λm=>m==nm k||(T.h m&& !(cC ns nm).nv m))=(l.filter λm=>gH (ni m) (ni k)||(T.h (nm m)&& !(cC ns nm).nv (nm m))).map nm:=by rw [jH];refine congrArg (jp nm) (r6 λm hm=>?_);refine(?_:(nm m==nm k||_)=_);rw [<-hkn m hm];exact congrArg (·||_) (cr.mpr (beq_iff_eq.trans wg.symm))
 refine bp (jl (l:=l) (f:=ni) (g:=ni) (p:=λm=>gH (ni m) (ni k)||(T.h (nm m)&& !(cC ns nm).nv (nm m))) (w:=sv) (ae rfl) (esr.trans (vw g)) (aa ll (by decide)) (λm hm=>c7 (eW m hm) λz hz _ _=>fK (aq (ae rfl) (ae rfl) (ft b7 b7)) λ_=>cW (lB w rfl (ae rfl) (af.mp hz).1) λ_=>c9 (dP (ae rfl) (ae rfl) λQ q=>FS F g hz q)) λ_ _ _=>ae rfl) (bQ rfl) ?_;have agl:∀m∈(l.filter λm=>gH (ni m) (ni k)||(T.h (nm m)&& !(cC ns nm).nv (nm m))),m∈l:=λm hm=>(ca.mp hm).1;haveI agn:(l.filter λm=>gH (ni m) (ni k)||(T.h (nm m)&& !(cC ns nm).nv (nm m))).length<=8:=aa (dq _ _) ll;generalize (l.filter λm=>gH (ni m) (ni k)||(T.h (nm m)&& !(cC ns nm).nv (nm m)))=ag at hag agl agn;have sb60:∀m∈l,((cC ns nm).sb (nm m)).length<=60:=λm hm=>c7 (eW m hm) λz hz e _=>by rw [e,ak];exact Tr.sub8 F.t hz
 have e1len:∀{dn its:List Nat},dn++its=l.reverse->(eJ (cC ns nm) T.h ((dn.map nm).filter T.h)).length<=480:=λ{dn its} ed=>by have ld:dn.length<=8:=aa (aa eO (au (congrArg d5 ed))) (aa (au b8) ll);refine aa (zJ λm hm=>av (aK.mp (ca.mp hm).1) λc hc e=>e▸sb60 c (dD.mp (ed▸aI _ hc))) (aa (br 60 ?_) (by decide:60*8<=480));exact aa (dq _ _) (aa (au (ak _)) ld)
 refine eD (AN σ G0 b ns nm T Y S (λo8=>JH (bV r ns nm o) b j k y.a i (iD y) sv o8 (.lst (ag.map ni))) l.reverse λdn=>eJ (cC ns nm) T.h ((dn.map nm).filter T.h)) (f:=ni) (l:=l.reverse) (aq (ae rfl) (bY am mV) (BJ (vw g) (by rw [ak];exact aa ll (by decide)))) (λ_ _ _ _=>congrArg some gU.symm) (by rw [b8];exact aa ll (by decide)) ⟨none,[],rfl,rfl,(uq.symm▸w:WX σ G0 b ns.length nm (aE [] T) Y S H)⟩
  (λm js ρ' H' hI K' hK=>di hI λo8 dn e ed w=>?_) λρ' H' hI=>di hI λo8 dn e ed w=>?_
 ·subst e;haveI hm:m∈l:=dD.mp (ed▸az dn (.head _));refine c7 (eW m hm) λz hz esb hkd=>?_;haveI lT:(aE (eJ (cC ns nm) T.h ((dn.map nm).filter T.h)) T).ev.length+60<=900000:=by show(T.ev++_).length+60<=_;rw [ah,bD];exact aa (aH (aa (aZ (e1len ed) 60) (by decide)) _) hl
  refine dJ (qj (ae rfl) (ae rfl) (cQ (aq (z:=.ref r) (ae rfl) am rfl) (ae rfl) (Hc (n:=n+1) F.t (w.gn F.g) hz (f27 (n:=n+1) (l:=sub ns 8 m) F (w.push _) ?_ (Tt.lt hz) (Tt.nd hz) (Tr.sub8 F.t hz) lT λH1 w1=>hK _ _ ⟨_,dn++[m],rfl,(an dn [m] js).trans ed,?_⟩))))
  ·refine (?_:(H'++[_])[H'.length]?.bind O.lst=_);rw [gy];rfl
  ·haveI w1:=w1.pop;rw [<-esb,<-oE]at w1;haveI e:eJ (cC ns nm) T.h (((dn++[m]).map nm).filter T.h)=eJ (cC ns nm) T.h ((dn.map nm).filter T.h)++eE (aE (eJ (cC ns nm) T.h ((dn.map nm).filter T.h)) T).h ((cC ns nm).sb (nm m)):=by
    rw [aJ,fZ];cases hh:T.h (nm m)with
    |true=>rw [show([m].map nm).filter T.h=[nm m]from cR hh];exact AQ
    |false=>rw [show([m].map nm).filter T.h=[]from eG (by rw [hh];exact ai),aC];haveI z:=zR (h:=(aE (eJ (cC ns nm) T.h ((dn.map nm).filter T.h)) T).h) (a:=(cC ns nm).sb (nm m)) λc hc=>dm.mpr λy=>ai ((off _ hkd hh c hc).symm.trans (CX y));rw [z,aC]
   refine(?_:WX σ G0 b ns.length nm (aE (eJ (cC ns nm) T.h (((dn++[m]).map nm).filter T.h)) T) Y S H1);rw [e];exact w1
 ·subst e;haveI edn:dn=l.reverse:=(aC dn).symm.trans ed;subst edn;haveI E0:eJ (cC ns nm) T.h ((l.reverse.map nm).filter T.h)=eJ (cC ns nm) T.h ((l.map nm).filter T.h).reverse:=by rw [gU,List.filter_reverse]
  refine eD (AN σ G0 b ns nm T Y S (λo8=>JH (bV r ns nm o) b j k y.a i (iD y) sv o8 (.lst (ag.map ni))) ag λdn=>eJ (cC ns nm) T.h ((l.reverse.map nm).filter T.h)++((dn.map nm).flatMap (cC ns nm).sb).map .beg) (f:=ni) (l:=ag) (ae rfl) (λ_ _ _ _=>rfl) (aa agn (by decide)) ⟨o8,[],rfl,rfl,by show WX σ G0 b ns.length nm (aE (eJ (cC ns nm) T.h ((l.reverse.map nm).filter T.h)++[]) T) Y S H';rw [aC];exact w⟩
   (λm js ρ' H' hI K' hK=>di hI λo8 dn e ed2 w=>?_) λρ' H' hI=>di hI λo8 dn e ed2 w=>q H' ?_
  ·subst e;haveI hm:m∈l:=agl m (ed2▸az dn (.head _));refine c7 (eW m hm) λz hz esb hkd=>?_;have lb:(((dn.map nm).flatMap (cC ns nm).sb).map Evt.beg).length<=480:=by rw [ak,gV];haveI ld:dn.length<=8:=aa (aa eO (au (congrArg d5 ed2))) agn;exact aa (IM λc hc=>sb60 c (agl c (ed2▸aI _ hc))) (br 60 ld)
   refine dJ (iQ (ae rfl) (ae rfl) (ae rfl) (f26 (n:=n) F w hz ?_ λH1 w1=>hK _ _ ⟨_,dn++[m],rfl,(an dn [m] js).trans ed2,?_⟩))
   ·refine (?_:(T.ev++(_++_)).length+60<=_);rw [ah,ah,bD];exact aa (aH (aa (aZ (bU (e1len ed) lb) 60) (by decide)) _) hl
   ·rw [<-oE,an,<-aJ]at w1;show WX σ G0 b ns.length nm (aE (eJ (cC ns nm) T.h ((l.reverse.map nm).filter T.h)++(((dn++[m]).map nm).flatMap (cC ns nm).sb).map .beg) T) Y S H1;rw [aJ,bu,show([m].map nm).flatMap (cC ns nm).sb=(cC ns nm).sb (nm m)from aC _];exact w1
  ·haveI edn:dn=ag:=(aC dn).symm.trans ed2;subst edn;unfold Cz;rw [el,<-E0,hag];exact w
end
noncomputable def IK(c:Nm):Evt->Bool
 |.beg n=>decide (n=c)
 |_=>false
theorem nW{c:Nm}{es:List Evt}:∀{l:List Int},es.foldl (kr c) l=if es.any (IK c)=true then []else l:=by
 induction es with
 |nil=>exact rfl
 |cons e es ih=>
  intro l;refine(?_:es.foldl (kr c) (kr c l e)=if(IK c e||es.any (IK c))=true then []else l);rw [ih];cases e with
  |beg n=>
   refine(?_:(if es.any (IK c)=true then []else if n=c then []else l)=if(decide (n=c)||es.any (IK c))=true then []else l);by_cases z:n=c
   ·rw [if_pos z,decide_eq_true z,Bool.true_or,if_pos rfl];exact ite_self _
   ·rw [if_neg z,decide_eq_false z,Cb]
  |_=>rfl
section
variable {t s:Int}{l:List Int}
theorem Aq(h:1<=s):Fh t s (l++[t])=Fh t s l++[t]:=by unfold Fh;rw [fZ,cR (by exact decide_eq_true (jE h (by simp+arith only):t-s<t))];rfl
theorem C0:Fh t s (Fh t s l)=Fh t s l:=by unfold Fh;rw [MY];exact congrArg (λp=>l.filter p) (funext λz=>Bool.and_self _)
theorem EN:(Fh t s l).length<=l.length:=dq _ _
end
def Rk(π:PI)(t:Int)(f g:Nm->List Int):Prop:=∀w,π.isW w=some true->Fh t (π.sp w) (f w)=Fh t (π.sp w) (g w)
structure Sm(π:PI)(A T:Ab):Prop where
 h:T.h=A.h
 s:T.s=A.s
 q:T.q=A.q
 ev:T.ev=A.ev
 t:T.t=A.t
 lt:T.lt=A.lt
 k:Rk π A.t T.k A.k
 kb:∀w,(T.k w).length<=T.ev.length
section
variable {π:PI}{A T:Ab}{es:List Evt}{k' f:Nm->List Int}{w:Nm}{e:Evt}
theorem Sm.upk(sm:Sm π A T)(k1:Rk π A.t f k')(kb:∀w,(f w).length<=T.ev.length)(es:List Evt):Sm π (aF es k' A) (aF es f T) where
 h:=congrArg (λh=>es.foldl hr h) sm.h
 s:=congrArg (λ(s:Nm->Int) c=>es.foldl (nN c) (s c)) sm.s
 q:=sm.q
 ev:=congrArg (·++es) sm.ev
 t:=sm.t
 lt:=sm.lt
 k:=λw hw=>by
  refine(?_:Fh A.t (π.sp w) (es.foldl (kr w) (f w))=Fh A.t (π.sp w) (es.foldl (kr w) (k' w)));rw [nW,nW];cases es.any (IK w)with
  |true=>rfl
  |false=>exact k1 w hw
 kb:=λw=>by
  refine(?_:(es.foldl (kr w) (f w)).length<=(T.ev++es).length);rw [nW,ah];cases es.any (IK w)with
  |true=>exact aY _
  |false=>exact aa (kb w) (ax _ _)
theorem Bi(ha:∀c l,a.foldl (kr c) l=l):aF b k' {aF a k0 A with k:=f}=aF (a++b) k' A:=by refine(?_:(⟨b.foldl hr (a.foldl hr A.h),λc=>b.foldl (kr c) (k' c),λc=>b.foldl (nN c) (a.foldl (nN c) (A.s c)),A.q,A.ev++a++b,A.t,A.lt⟩:Ab)=⟨(a++b).foldl hr A.h,λc=>(a++b).foldl (kr c) (k' c),λc=>(a++b).foldl (nN c) (A.s c),A.q,A.ev++(a++b),A.t,A.lt⟩);rw [bw,an,show(λc=>(a++b).foldl (kr c) (k' c))=λc=>b.foldl (kr c) (k' c)from funext λc=>by rw [bw,ha],show(λc=>(a++b).foldl (nN c) (A.s c))=λc=>b.foldl (nN c) (a.foldl (nN c) (A.s c))from funext λc=>bw]
end
section
variable {P:Prog}{C:Calls}{ρ:Fm}{σ:Ad}{S:Option Hst}{H:AH}{G0:List (Nat×O)}{ns:List Nd}{nm:Nat->Nm}{x y:Nd}{k j f a o r n N b i:Nat}{Q R:QE}{X:XE}{K:KS}{A T T':Ab}{Y Z:List (Nat×O)}{ss:List St}{e:Evt}
theorem wG(Tt:Tr ns)(N':Nms ns.length nm)(hx:ns[k]? =some x):((cC ns nm).ch (nm k)).isSome=decide (0<k):=by
 by_cases z:k=0
 ·subst z;refine(?_:((k9 ns.length nm (nm 0)).bind _).isSome=_);rw [nz N' (af.mp hx).1];rfl
 ·rw [decide_eq_true (dT z)];exact kD (Tt.up k x hx (dT z)) λj y hj _ _ hm=>by rw [tO Tt N' hj hm];rfl
def M8(e:Evt):Prop:=e=.fail e.nm\/e=.leave e.nm
noncomputable def wdE:Evt->Nm
 |.fail _=>['f','a','i','l','s']
 |_=>['l','e','a','v','e','s']
theorem EF(h:M8 e):(∀h,hr h e=λm=>!decide (m=e.nm)&&h m)/\(∀c l,kr c l e=l)/\(∀c s,nN c s e=s)/\e.v=.tup [.str (wdE e),.str e.nm]:=by rcases h with z|z<;>rw [z]<;>exact⟨λ_=>rfl,λ_ _=>rfl,λ_ _=>rfl,rfl⟩
noncomputable def t0(hall:V)(b k:Nat)(e:Evt)(ct:Bool)(o5 o6:Option V):Fm:=[some hall,some (.ref (b+3)),some (ni k),some (.str (wdE e)),some (.bool ct),o5,o6]
structure FU(σ:Ad)(G0:List (Nat×O))(b:Nat)(ns:List Nd)(nm:Nat->Nm)(Y:List (Nat×O))(S:Option Hst)(Af:Ab)(k':Nm->List Int)(A T:Ab)(k:Nat)(e:Evt)(es:List Evt)(ct:Bool)(H:AH):Prop where
 w:WX σ G0 b ns.length nm T Y S H
 sm:Sm (cC ns nm) A T
 hx:∃x,ns[k]? =some x
 en:e.nm=nm k
 fl:M8 e
 fe:Fe (cC ns nm) A.t (ct&&decide (0<k)) A.h A.k e es k'
 fin:aF es k' A=Af
def FL(σ:Ad)(G0:List (Nat×O))(b:Nat)(ns:List Nd)(nm:Nat->Nm)(Y:List (Nat×O))(S:Option Hst)(Af:Ab)(k':Nm->List Int)(hall:V)(M:Nat)(ρ:Fm)(H:AH):Prop:=
 ∃A T k e es ct,(∃o5 o6,ρ=t0 hall b k e ct o5 o6)/\(FU σ G0 b ns nm Y S Af k' A T k e es ct H/\es.length=M)
theorem AZ(F:Fx σ G0 ns nm r o)(w:WX σ G0 b ns.length nm T Y S H)(hx:ns[k]? =some x)(h0:ρ[0]? =some (some (bV r ns nm o)))(h1:ρ[1]? =some (some (.ref (b+3))))(h2:ρ[2]? =some (some (ni k)))(hl:T.ev.length+60<=900000)(q:∀H',WX σ G0 b ns.length nm (aE (eE T.h ((cC ns nm).sb (nm k)).tail) T) Y S H'->a8 PL (aQ PL (n+1)) ss ρ H' K R X) :
  a8 PL (aQ PL (n+1)) (.e (.call 32 [.v 0,.v 1,(.p false .slice [(.call 20 [(.p false .i [.v 0,.c (.str ['n','o','d','e','s'])]),.v 2]),.c (.int 1),.c .none])])::ss) ρ H K R X:=by
 have yk:=Tr.sub8 F.t hx;haveI nd:(k::(k6 ns k).flatMap (sub ns 7)).Nodup:=F.t.tr.nd (f:=8) hx;haveI l60':((k6 ns k).flatMap (sub ns 7)).length+1<=60:=yk;haveI lt:∀j∈k::(k6 ns k).flatMap (sub ns 7),j<ns.length:=F.t.tr.lt (f:=8) hx;haveI ls:((sub ns 8 k).map ni).length<=aB:=by rw [ak];exact aa yk (by decide)
 haveI e8:sub ns 8 k=k::(k6 ns k).flatMap (sub ns 7):=rfl;haveI w1:WX σ G0 b ns.length nm T Y S (H++[.list ((sub ns 8 k).map ni)]):=w.app;refine dJ (qj (ae h0) (ae h1) (cQ (f:=20) (Q:=λu H'=>hM (be PL false .slice [u,.int 1,.none] H') λv H'=>aQ PL (n+1) 32 [bV r ns nm o,.ref (b+3),v] H' (λ_ H'=>a8 PL (aQ PL (n+1)) ss ρ H' K R X) X) (aq (z:=.ref r) (ae h0) am rfl) (ae h2) (Hc (n:=n) F.t (w.gn F.g) hx (hE (v:=.lst (((k6 ns k).flatMap (sub ns 7)).map ni)) (H':=H++[.list ((sub ns 8 k).map ni)]) ?_ (f27 (n:=n) (l:=(k6 ns k).flatMap (sub ns 7)) F w1 rfl (λj hj=>lt j (.tail _ hj)) (bk.mp nd).2 (aa (bf _) l60') hl λH2 w2=>q H2 ?_)))))
 ·refine (?_:(((H++[_])[H.length]?.bind O.lst).bind _).map _=_);rw [gy];show(if((sub ns 8 k).map ni).length<=aB then some (V.lst (bB ((sub ns 8 k).map ni) (iK ((sub ns 8 k).map ni).length 1) ((sub ns 8 k).map ni).length))else none:Option V).map _=_;rw [if_pos ls,e8];exact congrArg (λt=>some (V.lst t,_)) rI
 ·rw [nZ F.n hx,e8];exact w2
end
section
variable {σ:Ad}{S:Option Hst}{H:AH}{G0:List (Nat×O)}{ns:List Nd}{nm:Nat->Nm}{x y:Nd}{k j o r n b i:Nat}{Q R:QE}{X:XE}{K:KS}{A T T' Af:Ab}{Y:List (Nat×O)}{ss:List St}{e:Evt}{k':Nm->List Int}{es:List Evt}{π:PI}{w:Nm}{ct:Bool}{o5 o6:Option V}
theorem Oi(hw:y.w=true):1<=tV y:=by unfold tV;rw [if_pos hw];exact AD.1
theorem Be:1<=(pre π h e).length:=aA (aY _)
theorem N6{h:Nm->Bool}{k:Nm->List Int}(fe:Fe π t c h k e es k')(hc:c=false):es=pre π h e/\k'=k:=by
 induction fe with
 |stop _ h1 h2=>exact⟨h1,h2⟩
 |here z|go z=>exact absurd (hc.symm.trans z) ai
theorem Nr{G:Prop}{h:Nm->Bool}{k:Nm->List Int}(fe:Fe π t c h k e es k')(hc:c=true)(hw:π.ch e.nm=some w)
  (kh:∀i,((Fh t (π.sp w) (k w++[t])).length:Int)<=π.mn w->(π.kd w)[i]? =some e.nm->(∀m∈π.kd w,(pre π h e).foldl hr h m=false->∀x∈π.sb m,(pre π h e).foldl hr h x=false)->es=pre π h e++Cz π ((pre π h e).foldl hr h) w i e.nm->k'=Fc k w (k w++[t])->G)
  (kg:∀es2,π.mn w<((Fh t (π.sp w) (k w++[t])).length:Int)->Fe π t (cF π w) ((pre π h e).foldl hr h) (Fc k w (k w++[t])) (.fail w) es2 k'->es=pre π h e++es2->G):G:=by
 induction fe with
 |stop z=>exact absurd (z.symm.trans hc) ai
 |here _ h1 e1 e2 h2 h3 h4=>have z:=aj (h1.symm.trans hw);subst z;exact kh _ h2 h3 h4 e1 e2
 |go _ h1 e1 h2 h3=>have z:=aj (h1.symm.trans hw);subst z;exact kg _ h2 h3 e1
theorem Sm.kept(sm:Sm π A T)(hw:π.isW w=some true)(esp:π.sp w=sp)(h1:1<=sp)(hE:∀c l,es.foldl (kr c) l=l)(he:1<=es.length) :
  Sm π {aF es A.k A with k:=Fc A.k w (A.k w++[A.t])} {aE es T with k:=jq T.k w (Fh T.t sp (T.k w)++[T.t])}/\Fh A.t (π.sp w) (A.k w++[A.t])=Fh T.t sp (T.k w)++[T.t]:=by
 haveI et:=sm.t;have eln:Fh A.t (π.sp w) (A.k w++[A.t])=Fh T.t sp (T.k w)++[T.t]:=by have z:=sm.k w hw;replace z:=esp▸z;rw [esp,Aq h1,et,z]
 haveI s1:=sm.upk sm.k sm.kb es;refine⟨⟨s1.h,s1.s,s1.q,s1.ev,s1.t,s1.lt,λc hc=>?_,λc=>?_⟩,eln⟩
 ·refine (?_:Fh A.t _ (if c=w then _ else T.k c)=Fh A.t _ (if w=c then _ else A.k c));by_cases z:c=w
  ·rw [if_pos z,if_pos z.symm,z,eln,esp,<-et,Aq h1,C0]
  ·rw [if_neg z,if_neg λq=>z q.symm];exact sm.k c hc
 ·refine (?_:(if c=w then _ else T.k c).length<=(T.ev++es).length);rw [ah];by_cases z:c=w
  ·rw [if_pos z,ah];exact bU (aa EN (sm.kb _)) he
  ·rw [if_neg z];exact aa (sm.kb c) (ax _ _)
theorem B3(F:Fx σ G0 ns nm r o)(w:WX σ G0 b ns.length nm T Y S H)(hx:ns[k]? =some x)(en:e.nm=nm k)(fl:M8 e)(hl:T.ev.length+1100<=900000)(q:∀H',WX σ G0 b ns.length nm (aE (pre (cC ns nm) T.h e) T) Y S H'->a8 PL (aQ PL (n+3)) ss (t0 (bV r ns nm o) b k e ct o5 o6) H' K R X) :
  a8 PL (aQ PL (n+3)) ((xu (tj.body.getD 2 .pass)).take 3++ss) (t0 (bV r ns nm o) b k e ct o5 o6) H K R X:=by
 have hk:=(af.mp hx).1;haveI fg:=EF fl;refine(?_:a8 PL (aQ PL (n+3)) (_::_::_::ss) _ _ _ _ _);refine pG (g:=V.bool) (x:=false) (p:=0) (F.n) w rfl am (ae rfl) hk rfl rfl (T':={T with h:=jq T.h (nm k) false}) rfl λH1 w1=>nb e w1 rfl (fg.2.2.2▸en.symm▸aq (ae rfl) (aq (x:=nw nm ns.length) (aq (ae rfl) am rfl) (ae rfl) (iy hk)) (eM fx)) (aa (ax _ _) (aa hl (by decide))) λH2 w2=>?_;refine AZ (k:=k) (x:=x) F ((E9 (T:=T) (n:=nm k) (e:=e) (en▸fg.1 T.h) fg.2.1 fg.2.2.1)▸w2:WX σ G0 b ns.length nm (aE [e] T) Y S H2) hx rfl rfl rfl ?_ λH3 w3=>q H3 ?_
 ·refine (?_:(T.ev++[e]).length+60<=_);rw [ah,bD];exact aa (aH (by decide:1+60<=1100) _) hl
 ·rw [show pre (cC ns nm) T.h e=[e]++eE (hr T.h e) ((cC ns nm).sb (nm k)).tail from by unfold pre;rw [en];rfl,oE];exact w3
theorem LG(Tt:Tr ns)(hx:ns[k]? =some x):decide (x.up<0)= !decide (0<k):=by
 by_cases z:k=0
 ·rw [Tt.tup k x hx z,z];rfl
 ·refine kD (Tt.up k x hx (dT z)) λj y hj _ e _=>?_;rw [e,decide_eq_true (dT z),decide_eq_false (cN.mpr (bn j))];rfl
theorem JL(Tt:Tr ns)(N':Nms ns.length nm)(hj:ns[j]? =some y)(hk:k<ns.length)(h:((cC ns nm).kd (nm j))[i]? =some (nm k)):y.inner[i]? =some k:=by rw [(oV N' hj).1,aV]at h;refine fS (o:=y.inner[i]?) (λe=>by rw [e]at h;exact fm h) λc e=>?_;rw [e]at h;rw [e,dB (Tt.inn j y hj c (aN e)) λz hz _ _ _=>N'.inj c k (af.mp hz).1 hk (aj h)]
theorem Nk(Tt:Tr ns)(N':Nms ns.length nm)(hj:ns[j]? =some y)(yw:y.w=true):cF (cC ns nm) (nm j)=(true&&decide (0<j)):=by unfold cF;simp only [wG Tt N' hj,(tq N' hj).1];refine congrArg (·&&_) ?_;unfold HG iD;rw [if_pos yw];exact(by decide:∀r∈fT,(!(r==['n','e','v','e','r']))=true) _ rR
theorem FE{P:Prog}{C:Calls}{ρ:Fm}{s t:Int}{l:List Int}{es et:Ex}(hs:∀z,Ev P C (ρ++[some (.int z)]) H X es (.int s))(ht:∀z,Ev P C (ρ++[some (.int z)]) H X et (.int t))(hv:∀z:V,(ρ++[some z])[ρ.length]? =some (some z)){it:Ex}(hi:Ev P C ρ H X it (Cf l))(hl:l.length<=aB):Ev P C ρ H X (.comp false (.v ρ.length) it (some (.p false (.cop .gt) [(.p false (.bop .add) [(.v ρ.length),es]),et]))) (Cf (Fh t s l)):=
 du (jl (l:=l) (f:=V.int) (g:=V.int) (p:=λz=>decide (t<z+s)) (w:=Cf l) hi rfl hl (λz _=>aq (aq (ae (hv _)) (hs z) dN) (ht z) qR) λ_ _ _=>ae (hv _)) (congrArg (λp:Int->Bool=>V.lst ((l.filter p).map V.int)) (funext λz=>by rw [cr,decide_eq_true_iff,decide_eq_true_iff];exact⟨Int.sub_right_lt_of_lt_add,Int.lt_add_of_sub_right_lt⟩))
theorem FW{ff:Nat}{u:Int}(eu:u=j)(N':Nms ns.length nm)(hj:ns[j]? =some y)(yw:y.w=true)(w:WX σ G0 b ns.length nm T Y S H)(hl:(T.k (nm j)).length+1<=aB)(e:ρ=[some (bV r ns nm o),some (.ref (b+3)),some (ni k),o5,o6,some (.int u),some (bd ns nm (ff+1) j)])
  (q:∀H',WX σ G0 b ns.length nm {T with k:=jq T.k (nm j) (Fh T.t (tV y) (T.k (nm j))++[T.t])} Y S H'->a8 PL (aQ PL (n+3)) ss ρ H' K R X):a8 PL (aQ PL (n+3)) (((xu (tj.body.getD 2 .pass)).drop 6).take 1++ss) ρ H K R X:=by
 subst e;haveI hjl:=(af.mp hj).1;haveI i4:∀{H},be PL false .i [bd ns nm (ff+1) j,.int 4] H=some (.int (tV y),H):=by rw [jZ hj,if_pos yw];unfold tV;exact(if_pos yw)▸rfl
 refine(?_:a8 PL (aQ PL (n+3)) (_::ss) _ _ _ _ _);refine pG (T:=T) (g:=Cf) (f:=T.k) (x:=Fh T.t (tV y) (T.k (nm j))++[T.t]) (p:=4) (k:=j) N' w rfl ?_ (du (ae rfl) (congrArg V.int eu)) hjl rfl rfl (T':={T with k:=jq T.k (nm j) (Fh T.t (tV y) (T.k (nm j))++[T.t])}) rfl q;refine aq (FE (ρ:=[_,_,_,_,_,_,_]) (λ_=>aq (ae rfl) am i4) (λ_=>eX w rfl rfl) (λ_=>rfl) (Au w rfl (du (ae rfl) (congrArg V.int eu)) hjl) (aa (bf _) hl)) (bY (eX w rfl rfl) (hO xy)) ((wW ?_).trans ?_)
 ·rw [ak];exact aa (aZ EN 1) hl
 ·refine (?_:some (V.lst _,H)=some (V.lst _,H));rw [aJ];rfl
theorem Om(pk:∀c l,es.foldl (kr c) l=l):aE es T={aE es T with k:=T.k}:=congrArg (λk=>({aE es T with k:=k}:Ab)) (funext λc=>pk c _)
theorem yd{X}(F:Fx σ G0 ns nm r o)(hk:k<ns.length)(en:e.nm=nm k)(hj:ns[j]? =some y)(yw:y.w=true)(eu:x.up=j)(wp:WX σ G0 b ns.length nm (aE (pre (cC ns nm) T.h e) T) Y S H)(fl:M8 e)(sm:Sm (cC ns nm) A T)(fe:Fe (cC ns nm) A.t true A.h A.k e es k')(hch:(cC ns nm).ch (nm k)=some (nm j))(evl:T.ev.length+es.length+1100<=900000)(fin:aF es k' A=Af)(q:∀T' H',WX σ G0 b ns.length nm T' Y S H'->Sm (cC ns nm) Af T'->R .none H')
  (kq:∀H' A' T' es2 o6,WX σ G0 b ns.length nm T' Y S H'->Sm (cC ns nm) A' T'->Fe (cC ns nm) A'.t (cF (cC ns nm) (nm j)) A'.h A'.k (.fail (nm j)) es2 k'->aF es2 k' A'=Af->es2.length<es.length->K (t0 (bV r ns nm o) b j (.fail (nm j)) ct (some (.int x.up)) o6) H') :
  a8 PL (aQ PL (n+3)) ((xu (tj.body.getD 2 .pass)).drop 5) (t0 (bV r ns nm o) b k e ct (some (.int x.up)) o6) H K R X:=by
 have N':=F.n;have Tt:=F.t.tr;haveI hjl:=(af.mp hj).1;have eh:=sm.h;have pk:=uL (π:=cC ns nm) (h:=T.h) (EF fl).2.1;have sk:=sm.kept (w:=nm j) (es:=pre (cC ns nm) T.h e) ((jm N' hj).trans (congrArg some yw)) (qt N' hj).1 (Oi yw) pk Be;haveI emn:=(qt N' hj).2;have ev5:∀{ρ:Fm} {H X},ρ[5]? =some (some (.int x.up))->Ev PL (aQ PL (n+3)) ρ H X (.v 5) (ni j):=λh=>du (ae h) (congrArg V.int eu);haveI lpre:∀{es2:List Evt},es=pre (cC ns nm) A.h e++es2->(T.ev++pre (cC ns nm) T.h e).length+1100<=900000:=λ{es2} z=>by refine aa (aZ ?_ _) evl;simp only [ah,z,eh,ah];exact aH (ax _ _) _
 haveI lk:(T.k (nm j)).length+1<=aB:=aa (aZ (sm.kb _) 1) (aa (aa (bU (ax _ es.length) (by decide:1<=1100)) evl) (by decide));refine(rJ (P:=PL) (C:=aQ PL (n+3)) (X:=X) (H:=H) (ρ:=t0 (bV r ns nm o) b k e ct (some (.int x.up)) o6) (i:=0) (l:=5) Tt hj rfl (congrArg (λt:Int=>some (some (V.int t))) eu)).elim λff hpv=>?_;haveI i3:∀{H},be PL false .i [bd ns nm (ff+1) j,.int 3] H=some (.int (GC j y),H):=by rw [jZ hj,if_pos yw];unfold GC;exact(if_pos yw)▸rfl
 refine bp hpv (bQ rfl) (FW (T:={aE (pre (cC ns nm) T.h e) T with k:=T.k}) (ss:=(xu (tj.body.getD 2 .pass)).drop 7) eu N' hj yw (Om pk▸wp) lk rfl λH4 w4=>?_);have le:∀{ρ:Fm} {X},ρ[1]? =some (some (.ref (b+3)))->ρ[5]? =some (some (.int x.up))->ρ[6]? =some (some (bd ns nm (ff+1) j))->Ev PL (aQ PL (n+3)) ρ H4 X (.p false (.cop .le) [(.p false .len [(.p false .i [(.p false .i [.v 1,.c (.str ['k','e','p','t'])]),.v 5])]),(.p false .i [.v 6,.c (.int 3)])]) (.bool (decide (((Fh T.t (tV y) (T.k (nm j))++[T.t]).length:Int)<=GC j y))):=λh1 h5 h6=>aq (bY (du (Au w4 h1 (ev5 h5) hjl) (congrArg Cf (if_pos rfl))) (mD.trans (congrArg (λl:Nat=>some (V.int l,H4)) (ak _)))) (aq (ae h6) am i3) Km;refine Nr fe rfl (en.symm▸hch) (λi h2 h3 h4 e1 e2=>?_) λes2 h2 h3 e1=>?_
 ·rw [sk.2,emn]at h2;rw [en]at h3;rw [<-eh]at h4;refine cV (du (le rfl rfl rfl) (congrArg V.bool (decide_eq_true h2))) (dJ (kz (ae rfl) (ae rfl) (ev5 rfl) (ae (v:=ni k) rfl _ (NE (n:=n) F w4 hj yw (JL Tt N' hj hk h3) h4 (lpre e1) λH5 w5=>bx am (q _ _ w5 ?_)))));rw [<-fin,e1,e2,<-eh,en,<-Bi (k0:=A.k) pk];exact(sk.1.upk sk.1.k sk.1.kb (Cz (cC ns nm) ((pre (cC ns nm) T.h e).foldl hr T.h) (nm j) i (nm k)))
 ·rw [sk.2,emn]at h2;refine bK (du (le rfl rfl rfl) (congrArg V.bool (decide_eq_false (gJ.mpr h2)))) (cH (bp (v:=ni j) (ev5 rfl) (bQ rfl) (bp am (bQ rfl) (kq H4 _ _ es2 _ w4 sk.1 ?_ ?_ ?_))))
  ·refine (?_:Fe _ _ _ ((pre (cC ns nm) T.h e).foldl hr A.h) _ _ _ _);exact(eh).symm▸h3
  ·rw [<-fin,e1,<-eh];exact Bi pk
  ·simp only [e1,ah];exact bo (da _) (aa (au (db _ 1)) (aZ Be _))
theorem qO(F:Fx σ G0 ns nm r o)(u:FU σ G0 b ns nm Y S Af k' A T k e es ct H)(hb:Af.ev.length+1100<=900000)(q:∀T' H',WX σ G0 b ns.length nm T' Y S H'->Sm (cC ns nm) Af T'->R .none H') :
  a8 PL (aQ PL (n+3)) (tj.body.drop 2) (t0 (bV r ns nm o) b k e ct o5 o6) H K R X:=by
 have N':=F.n;have Tt:=F.t.tr;refine l6 (FL σ G0 b ns nm Y S Af k' (bV r ns nm o)) (N:=es.length) (λM ρ' H' hI=>Lg hI λA T k e es ct eρ u=>eρ.elim λo5 eρ=>eρ.elim λo6 eρ=>⟨true,am,λ_ K' hK=>?_,λz=>absurd z.symm ai⟩) ⟨A,T,k,e,es,ct,⟨o5,o6,rfl⟩,u,rfl⟩;subst eρ;haveI u2:=u.2;have u:=u.1;refine u.hx.elim λx hx=>?_;have evl:T.ev.length+es.length+1100<=900000:=by haveI z:(A.ev++es).length=Af.ev.length:=congrArg (λA:Ab=>A.ev.length) u.fin;rw [ah,<-u.sm.ev]at z;exact(z)▸hb
 refine B3 (ss:=(xu (tj.body.getD 2 .pass)).drop 3) F u.w hx u.en u.fl (aa (aZ (ax _ _) _) evl) λH3 wp=>?_;refine bp (qU (wp.gn F.g) hx rfl rfl rfl) (bQ rfl) (cU (s:=!(ct&&decide (0<k))) (du (fK (c9 (ae rfl)) λ_=>aq (ae rfl) am j0) (congrArg V.bool (by rw [LG Tt hx];cases ct<;>cases decide (0<k)<;>rfl))) (λhc=>?_) λhc=>?_)
 ·haveI z:=N6 u.fe (cu _▸hc);refine bx am (q _ _ wp ?_);haveI sm:=u.sm.upk u.sm.k u.sm.kb es;rw [<-u.fin,z.2];rw [z.1,<-u.sm.h]at sm ⊢;exact sm
 haveI hc:(ct&&decide (0<k))=true:=dA _▸hc;haveI ht:=ay.mp hc;refine kD (Tt.up k x hx (of_decide_eq_true ht.2)) λj y hj _ eu hi=>?_;have yw:y.w=true:=by
  cases z:y.w with
  |true=>rfl
  |false=>exact absurd hi ((Tt.lim j y hj).wk z▸bl)
 exact cH (yd F (af.mp hx).1 u.en hj yw eu wp u.fl u.sm (hc▸u.fe) (tO Tt N' hj hi) evl u.fin q λH4 A2 T2 es2 o6 w4 s4 fe2 ef hl=>hK _ _ es2.length (u2▸hl) ⟨A2,T2,j,.fail (nm j),es2,ct,⟨_,o6,rfl⟩,⟨w4,s4,⟨y,hj⟩,rfl,.inl rfl,by rw [ht.1,<-Nk Tt N' hj yw];exact fe2,ef⟩,rfl⟩)
end
section
variable {σ:Ad}{S:Option Hst}{H:AH}{G0:List (Nat×O)}{ns:List Nd}{nm:Nat->Nm}{x y:Nd}{k j o r n b i:Nat}{Q R:QE}{X:XE}{K:KS}{A T T' Af:Ab}{Y:List (Nat×O)}{ss:List St}{e:Evt}{k':Nm->List Int}{es:List Evt}
theorem Mf(F:Fx σ G0 ns nm r o)(w:WX σ G0 b ns.length nm T Y S H)(sm:Sm (cC ns nm) A T)(hx:ns[k]? =some x)(fe:Fe (cC ns nm) A.t (cF (cC ns nm) (nm k)) A.h A.k (.fail (nm k)) es k')(hb:(aF es k' A).ev.length+1100<=900000)(q:∀T' H',WX σ G0 b ns.length nm T' Y S H'->Sm (cC ns nm) (aF es k' A) T'->Q .none H'):aQ PL (n+4) 35 [bV r ns nm o,.ref (b+3),ni k,.str ['f','a','i','l','s']] H Q X:=by refine cf zF rfl (bp (c9 (dP (ae rfl) (ae rfl) λQ q=>FS F (w.gn F.g) hx q)) (bQ rfl) (bK (aR rfl) (qO (e:=.fail (nm k)) F ⟨w,sm,⟨x,hx⟩,rfl,.inl rfl,?_,rfl⟩ hb q)));rw [<-wG F.t.tr F.n hx];exact fe
theorem Os(F:Fx σ G0 ns nm r o)(w:WX σ G0 b ns.length nm T Y S H)(sm:Sm (cC ns nm) A T)(hx:ns[k]? =some x)(hw:x.w=false)(fe:Fe (cC ns nm) A.t ((cC ns nm).al (nm k)) A.h A.k (.leave (nm k)) es k')(hb:(aF es k' A).ev.length+1100<=900000)(q:∀T' H',WX σ G0 b ns.length nm T' Y S H'->Sm (cC ns nm) (aF es k' A) T'->Q .none H'):aQ PL (n+4) 35 [bV r ns nm o,.ref (b+3),ni k,.str ['l','e','a','v','e','s']] H Q X:=by
 refine cf zF rfl (bp (c9 (dP (ae rfl) (ae rfl) λQ q=>FS F (w.gn F.g) hx q)) (bQ rfl) (cV (aR rfl) (bp (aq (oQ F.t.tr hx rfl rfl) am (ft jh jh)) (bQ rfl) (cH (qO (e:=.leave (nm k)) F ⟨w,sm,⟨x,hx⟩,rfl,.inr rfl,?_,rfl⟩ hb q)))));have hk:0<k:=dT λz=>by subst z;exact c7 F.t.tr.top λy hy hyw _=>absurd ((aj (hx.symm.trans hy)▸hw).symm.trans hyw) ai
 have e:(gH (.str (iD x)) (.str ['a','l','w','a','y','s'])&&decide (0<k))=(cC ns nm).al (nm k):=by rw [decide_eq_true hk,B7,(tq F.n hx).2];unfold JM HG iD;rw [if_neg (by rw [hw];exact ai)];exact(by decide:∀m∈j8,gH (.str m) (.str ['a','l','w','a','y','s'])= !(m==['f','a','u','l','t','e','d']||m==['n','e','v','e','r'])) _ wf
 rw [e];exact fe
theorem xi:Fh (t+1) s (Fh t s l)=Fh (t+1) s l:=by unfold Fh;rw [MY];refine congrArg (λp=>l.filter p) (funext λz=>?_);rw [cr,dC,decide_eq_true_iff,decide_eq_true_iff];exact⟨And.left,λh=>⟨h,p6 (Int.sub_le_sub_right (Int.le_add_one (Int.le_refl t)) s) h⟩⟩
theorem Sm.next(sm:Sm π A T):Sm π (aT A) (aT T):=⟨sm.h,sm.s,sm.q,sm.ev,congrArg (·+1) sm.t,sm.lt,λw hw=>by refine(?_:Fh (A.t+1) _ (T.k w)=Fh (A.t+1) _ (A.k w));rw [<-xi,sm.k w hw,xi],sm.kb⟩
theorem EE:be P false .i [.dct [['f','a','u','l','t'],['l','e','a','v','e']] [a,c],.str ['f','a','u','l','t']] H=some (a,H)/\be P false .i [.dct [['f','a','u','l','t'],['l','e','a','v','e']] [a,c],.str ['l','e','a','v','e']] H=some (c,H):=⟨rfl,rfl⟩
theorem f31(F:Fx σ G0 ns nm r o)(w:WX σ G0 b ns.length nm (aT T) Y S H)(sm:Sm (cC ns nm) A T)(hx:ns[k]? =some x)(hw:x.w=false)(hq:T.q (nm k)=(k0,l)::ps)(wk:Wk (cC ns nm) (nm k) k0 ps A l Af)(hps:(T.q (nm k)).length<=1000)(hb:Af.ev.length+1100<=900000)(hT:T.ev.length+1100<=900000)(q:∀T' H',WX σ G0 b ns.length nm T' Y S H'->Sm (cC ns nm) Af T'->Q .none H'):aQ PL (n+5) 36 [bV r ns nm o,.ref (b+3),ni k] H Q X:=by
 have hk:=(af.mp hx).1;have em:∀{ρ:Fm} {C X},ρ[1]? =some (some (.ref (b+3)))->ρ[2]? =some (some (ni k))->Ev PL C ρ H X (.p false .i [(.p false .i [.v 1,.c (.str ['m','a','i','l'])]),.v 2]) (uf ((k0,l)::ps)):=λh1 h2=>du (qB w h1 (ae h2) hk) (congrArg uf hq);have e0:∀{H},be PL false .i [uf ((k0,l)::ps),.int 0] H=some (oJ (k0,l),H):=E5;refine cf HL rfl (bp (v:=ni k0) (aq (aq (em rfl rfl) am e0) am rfl) (bQ rfl) (bp (v:=l) (aq (aq (em rfl rfl) am e0) am rfl) (bQ rfl) ?_));have lps:(((k0,l)::ps).map oJ).length<=aB:=by rw [ak,<-hq];exact aa hps (by decide)
 refine pG (g:=uf) (f:=(aT T).q) (x:=ps) (p:=2) (T':={aT T with q:=jq T.q (nm k) ps}) F.n w rfl (iA (em rfl rfl) am am ((oO lps).trans (congrArg (λt=>some (V.lst t,H)) rI))) (ae rfl) hk rfl rfl rfl λH1 w1=>nb (.works (nm k) k0) w1 rfl (iA am (aq (x:=nw nm ns.length) (aq (ae rfl) am rfl) (ae rfl) (iy hk)) (ae rfl) (eM zE)) (aa (ax _ _) (aa hT (by decide))) λH2 w2=>?_;haveI sn:=sm.next
 haveI sm2:Sm (cC ns nm) (aW (nm k) k0 ps A) {aT T with q:=jq T.q (nm k) ps,ev:=T.ev++[.works (nm k) k0]}:=⟨sn.h,sn.s,congrArg (λq=>jq q (nm k) ps) sm.q,congrArg (·++_) sm.ev,sn.t,sn.lt,sn.k,λw=>aa (sm.kb w) eO⟩;cases wk with
 |@add i=>refine cV (aR rfl) (pG (g:=V.int) (f:=T.s) (x:=T.s (nm k)+i) (p:=1) (T':={aT T with q:=jq T.q (nm k) ps,ev:=T.ev++[.works (nm k) k0],s:=jq T.s (nm k) (T.s (nm k)+i)}) F.n w2 rfl (aq (Fz w2 rfl (ae rfl) hk) (aR rfl) dN) (ae rfl) hk rfl rfl rfl λH3 w3=>cH (q _ _ w3 ⟨sm2.h,?_,sm2.q,sm2.ev,sm2.t,sm2.lt,sm2.k,sm2.kb⟩));refine(?_:jq T.s (nm k) (T.s (nm k)+i)=jq A.s (nm k) (A.s (nm k)+i));rw [sm.s]
 |fault fe=>exact bK (aR rfl) (dJ (kz (ae rfl) (ae rfl) (ae rfl) (aq (P:=PL) (C:=aQ PL (n+4)) (X:=X) (nu (dG am (dG am nD)) rfl) (aR rfl) EE.1 _ (Mf F w2 sm2 hx fe hb λT' H' w' s'=>cH (q T' H' w' s')))))
 |leave fe=>exact bK (aR rfl) (dJ (kz (ae rfl) (ae rfl) (ae rfl) (aq (P:=PL) (C:=aQ PL (n+4)) (X:=X) (nu (dG am (dG am nD)) rfl) (aR rfl) EE.2 _ (Os F w2 sm2 hx hw fe hb λT' H' w' s'=>cH (q T' H' w' s')))))
end
section
variable {σ:Ad}{S:Option Hst}{H:AH}{G0:List (Nat×O)}{ns:List Nd}{nm:Nat->Nm}{x y:Nd}{k j o r n b i N:Nat}{Q R:QE}{X:XE}{K:KS}{A T T' Af:Ab}{Y:List (Nat×O)}{ss:List St}{e:Evt}{k':Nm->List Int}{es:List Evt}
theorem WX.congr(w:WX σ G0 b N nm T Y S H)(e1:∀j,j<N->T.h (nm j)=T'.h (nm j))(e2:∀j,j<N->T.s (nm j)=T'.s (nm j))(e3:∀j,j<N->T.q (nm j)=T'.q (nm j))(e4:∀j,j<N->T.k (nm j)=T'.k (nm j))(e5:T.ev=T'.ev/\T.t=T'.t/\T.lt=T'.lt):WX σ G0 b N nm T' Y S H:=by
 haveI e:wN b N nm T=wN b N nm T':=by unfold wN;rw [kj λj hj=>congrArg V.bool (e1 j hj),kj λj hj=>congrArg V.int (e2 j hj),kj λj hj=>congrArg uf (e3 j hj),kj λj hj=>congrArg Cf (e4 j hj),e5.1,e5.2.1,e5.2.2]
 exact(e▸w:Hz σ (G0++(wN b N nm T'++Y)) S H)
noncomputable def aP(T:Ab)(dn:List Nm):Ab:={T with q:=λn=>if T.h n=false/\n∈dn then []else T.q n,ev:=T.ev++oS T.h T.q dn}
def LO(σ:Ad)(G0:List (Nat×O))(b:Nat)(ns:List Nd)(nm:Nat->Nm)(T:Ab)(Y:List (Nat×O))(S:Option Hst)(hall:V)(its:List Nat)(ρ:Fm)(H:AH):Prop:=
 ∃o2 o3 dn,ρ=[some hall,some (.ref (b+3)),o2,o3]/\dn++its=sub ns 7 0/\WX σ G0 b ns.length nm (aP T (dn.map nm)) Y S H
def LO2(σ:Ad)(G0:List (Nat×O))(b:Nat)(ns:List Nd)(nm:Nat->Nm)(T:Ab)(Y:List (Nat×O))(S:Option Hst)(hall:V)(k:Nat)(q its:List (Nat×V))(ρ:Fm)(H:AH):Prop:=
 ∃o3 dn,ρ=[some hall,some (.ref (b+3)),some (ni k),o3]/\dn++its=q/\WX σ G0 b ns.length nm {T with ev:=T.ev++dn.map λp=>.lost (nm k) p.1} Y S H
theorem gA(F:Fx σ G0 ns nm r o):(sub ns 7 0).Nodup/\(sub ns 7 0).length<=60/\(∀j∈sub ns 7 0,j<ns.length)/\∀j,j<ns.length->j∈sub ns 7 0:=c7 F.t.tr.top λx0 h0 _ _=>⟨F.t.tr.nd h0,aa ((F.t.tr.nd h0).length_le_of_subset (l₂:=aX ns.length) λi hi=>bE.mpr (F.t.tr.lt h0 i hi)) (aa (au a7) F.t.le),F.t.tr.lt h0,λj hj=>F.t.tr.all hj⟩
theorem f32(F:Fx σ G0 ns nm r o)(w:WX σ G0 b ns.length nm T Y S H)(hq:∀n,(T.q n).length<=1000)(hb:(aL σ.names T).ev.length<=900000)(q:∀H',WX σ G0 b ns.length nm (aL σ.names T) Y S H'->Q .none H'):aQ PL (n+1) 37 [bV r ns nm o,.ref (b+3)] H Q X:=by
 haveI oa:=gA F;have N':=F.n;haveI kR:∀{dn:List Nat} {its:List Nat},dn++its=sub ns 7 0->(T.ev++oS T.h T.q (dn.map nm)).length<=900000:=λ{dn its} ed=>by refine aa ?_ hb;refine(?_:_<=(T.ev++oS T.h T.q σ.names).length);rw [F.en,<-ed,aJ];unfold oS;rw [bu,<-an];exact eO
 have step:∀{dn js:List Nat} {k:Nat},dn++k::js=sub ns 7 0->nm k∉dn.map nm:=λ{dn js k} ed z=>av (aK.mp z) λi hi e=>(bj.mp (ed.symm▸oa.1)).2.2 i hi k (.head _) (N'.inj i k (oa.2.2.1 i (ed▸aI _ hi)) (oa.2.2.1 k (ed▸az _ (.head _))) e);refine cf FX rfl (eD (LO σ G0 b ns nm T Y S (bV r ns nm o)) (f:=ni) (l:=sub ns 7 0) (v:=.ref o) (aq (ae rfl) am rfl) (λ_ _ _ q=>ja q λ_ _ _ _ _ w=>gu (Hz.at w (aI _ F.o))) (aa oa.2.1 (by decide)) ⟨none,none,[],rfl,rfl,w.congr (λ_ _=>rfl) (λ_ _=>rfl) (λj _=>(if_neg λz=>bl z.2).symm) (λ_ _=>rfl) ⟨(aC _).symm,rfl,rfl⟩⟩
  (λk js ρ' H' hI K' hK=>ja hI λo2 o3 dn e ed w=>?_) λρ' H' hI=>ja hI λo2 o3 dn e ed w=>q H' ?_)
 ·subst e;have hk:=oa.2.2.1 k (ed▸az _ (.head _));haveI kd:=step ed;have ed':=(an dn [k] js).trans ed;haveI eq0:(aP T (dn.map nm)).q (nm k)=T.q (nm k):=if_neg λz=>kd z.2;refine cU (c9 (lB w rfl (ae rfl) hk)) (λhc=>?_) λhc=>hK _ _ ⟨_,o3,dn++[k],rfl,ed',w.congr (λ_ _=>rfl) (λ_ _=>rfl) (λj hj=>?_) (λ_ _=>rfl) ⟨?_,rfl,rfl⟩⟩
  ·have hh:T.h (nm k)=false:=cu _▸hc;refine eD (LO2 σ G0 b ns nm (aP T (dn.map nm)) Y S (bV r ns nm o) k (T.q (nm k))) (f:=oJ) (l:=T.q (nm k)) (du (qB w rfl (ae rfl) hk) (congrArg uf eq0)) (λ_ _ _ _=>rfl) (aa (hq _) (by decide)) ⟨o3,[],rfl,rfl,(congrArg (λl=>WX σ G0 b ns.length nm {aP T (dn.map nm)with ev:=l} Y S H') (aC _)).mpr w⟩
    (λp ps ρ' H' hJ K' hK=>di hJ λo3 dn2 e ed2 w=>?_) λρ' H' hJ=>di hJ λo3 dn2 e ed2 w=>?_
   ·subst e;refine nb (.lost (nm k) p.1) w rfl (iA am (aq (x:=nw nm ns.length) (aq (ae rfl) am rfl) (ae rfl) (iy hk)) (aq (ae rfl) am rfl) (eM zE)) ?_ λH1 w1=>hK _ _ ⟨_,dn2++[p],rfl,(an dn2 [p] ps).trans ed2,?_⟩
    ·refine (?_:(T.ev++oS T.h T.q (dn.map nm)++dn2.map _).length<=_);refine aa ?_ (aa (kR ed') (by decide));rw [aJ,show([k].map nm)=[nm k]from rfl,tB,hh,if_neg ai,<-an,ah (bs:=jp _ dn2),ah (bs:=jp _ (T.q (nm k))),ak,ak];refine aH ?_ _;rw [<-ed2,ah];exact ax _ _
    ·refine w1.congr (λ_ _=>rfl) (λ_ _=>rfl) (λ_ _=>rfl) (λ_ _=>rfl) ⟨?_,rfl,rfl⟩;show T.ev++oS T.h T.q (dn.map nm)++(dn2.map λp=>Evt.lost (nm k) p.1)++[.lost (nm k) p.1]=T.ev++oS T.h T.q (dn.map nm)++((dn2++[p]).map λp=>Evt.lost (nm k) p.1);rw [aJ,<-an];rfl
   ·subst e;haveI ed2:dn2=T.q (nm k):=(aC dn2).symm.trans ed2;subst ed2;refine pG (g:=uf) (f:=(aP T (dn.map nm)).q) (x:=[]) (p:=2) (T':={aP T (dn.map nm)with ev:=(aP T (dn.map nm)).ev++(T.q (nm k)).map λp=>.lost (nm k) p.1,q:=jq (aP T (dn.map nm)).q (nm k) []}) N' w rfl (aR rfl) (ae rfl) hk rfl rfl rfl λH1 w1=>cH (hK _ _ ⟨_,_,dn++[k],rfl,ed',w1.congr (λ_ _=>rfl) (λ_ _=>rfl) (λj hj=>?_) (λ_ _=>rfl) ⟨?_,rfl,rfl⟩⟩)
    ·refine (?_:(if nm j=nm k then []else if T.h (nm j)=false/\nm j∈dn.map nm then []else T.q (nm j))=if T.h (nm j)=false/\nm j∈(dn++[k]).map nm then []else T.q (nm j));rw [aJ];by_cases z:nm j=nm k
     ·rw [if_pos z,if_pos ⟨z▸hh,z▸az _ (.head _)⟩]
     ·rw [if_neg z];by_cases y:T.h (nm j)=false/\nm j∈dn.map nm
      ·rw [if_pos y,if_pos ⟨y.1,aI _ y.2⟩]
      ·rw [if_neg y,if_neg λv=>y ⟨v.1,(b9.mp v.2).elim id λv=>absurd (in1 v) z⟩]
    ·show T.ev++oS T.h T.q (dn.map nm)++(T.q (nm k)).map _=T.ev++oS T.h T.q ((dn++[k]).map nm);rw [aJ,show([k].map nm)=[nm k]from rfl,tB,hh,if_neg ai,an]
  ·haveI hh:T.h (nm k)=true:=dA _▸hc;refine(?_:(if T.h (nm j)=false/\nm j∈dn.map nm then []else T.q (nm j))=if T.h (nm j)=false/\nm j∈(dn++[k]).map nm then []else T.q (nm j));rw [aJ];by_cases y:T.h (nm j)=false/\nm j∈dn.map nm
   ·rw [if_pos y,if_pos ⟨y.1,aI _ y.2⟩]
   ·rw [if_neg y,if_neg λv=>y ⟨v.1,(b9.mp v.2).elim id λz=>absurd (v.1.symm.trans (in1 z▸hh)) ai⟩]
  ·haveI hh:T.h (nm k)=true:=dA _▸hc;refine(?_:T.ev++oS T.h T.q (dn.map nm)=T.ev++oS T.h T.q ((dn++[k]).map nm));rw [aJ,show([k].map nm)=[nm k]from rfl,tB,hh,if_pos rfl,aC]
 ·haveI edn:dn=sub ns 7 0:=(aC dn).symm.trans ed;subst edn;refine w.congr (λ_ _=>rfl) (λ_ _=>rfl) (λj hj=>?_) (λ_ _=>rfl) ⟨by show T.ev++oS T.h T.q ((sub ns 7 0).map nm)=T.ev++oS T.h T.q σ.names;rw [F.en],rfl,rfl⟩;refine(?_:(if T.h (nm j)=false/\nm j∈(sub ns 7 0).map nm then []else T.q (nm j))=if T.h (nm j)=true then T.q (nm j)else []);by_cases z:T.h (nm j)=true
  ·rw [if_pos z,if_neg λy=>ai (y.1.symm.trans z)]
  ·rw [if_neg z,if_pos ⟨dm.mpr z,bq (oa.2.2.2 j hj)⟩]
end
section
variable {σ:Ad}{S:Option Hst}{H:AH}{G0:List (Nat×O)}{ns:List Nd}{nm:Nat->Nm}{x y:Nd}{k j o r n b i N:Nat}{Q R:QE}{X:XE}{K:KS}{A T T' Af:Ab}{Y:List (Nat×O)}{ss:List St}{e:Evt}{k':Nm->List Int}{es:List Evt}{d:V}{P:Prog}{C:Calls}{ρ:Fm}
theorem A7(h:LV v):v.data=true/\v.depth<=1:=by
 cases h with
 |add _|fault|leave=>exact⟨rfl,aM _⟩
theorem EY(h:∀p∈q,LV p.2):rd H (uf q)=some (uf q):=by
 haveI z:=jC (d:=2) (vs:=q.map oJ) λv hv=>av (aK.mp hv) λp hp e=>e▸by
  haveI y:=A7 (h p hp);refine⟨?_,?_⟩
  ·show (p.2.data&&true)=true;rw [y.1];rfl
  ·show max 0 (max p.2.depth 0)+1<=2;exact aA (iu.mpr ⟨aY _,iu.mpr ⟨y.2,aY _⟩⟩)
 refine if_pos ?_;show(V.datas _&&decide (V.depths _+1<=50))=true;rw [z.1,decide_eq_true (aa (aA z.2) (by decide))];rfl
theorem Ff:(!gH (uf q) (.lst []))= !q.isEmpty:=by
 cases q with
 |nil=>rfl
 |cons _ _=>rfl
theorem D6(hk:k<N):be P false (.cop .notin) [.str (nm k),nw nm N] H=some (.bool false,H):=by haveI q:=fQ (lL (f:=λk=>V.str (nm k)) (l:=aX N) λ_=>trivial);refine(?_:((if tU _=true then some (((aX N).map λk=>V.str (nm k)).any λy=>gH y (.str (nm k)))else none:Option Bool).map _).map _=_);rw [if_pos (lC q.1 (aa (au q.2) (by decide))),show(((aX N).map λk=>V.str (nm k)).any λy=>gH y (.str (nm k)))=true from lU.mpr ⟨_,bq (bE.mpr hk),fH (.str (nm k)) rfl⟩];rfl
theorem NF(F:Fx σ G0 ns nm r o)(w:WX σ G0 b ns.length nm T Y S H)(dd:Dd (cC ns nm) σ d)(lv:∀n,∀p∈T.q n,LV p.2)(q:Q (.bool (iR (nm 0) T d)) H):aQ PL (n+1) 38 [bV r ns nm o,.ref (b+3),d] H Q X:=by
 haveI N':=F.n;refine c7 F.t.tr.top λx0 h0 _ _=>?_;haveI h00:=(af.mp h0).1;haveI g:=w.gn F.g;have go:∀{k x} {wn fl:Bool},ns[k]? =some x->nm k=ao d->(∀{C ρ H X},ρ[2]? =some (some d)->Ev PL C ρ H X (.p false .i [.v 2,.c (.int 1)]) (.str (nm k)))->(∀{C ρ H X},ρ[2]? =some (some d)->Ev PL C ρ H X (.p false (.cop .ne) [(.p false .i [.v 2,.c (.int 0)]),.c (.str ['f','a','i','l'])]) (.bool fl))->(fl&&x.w)=false->(∀{C ρ H X},ρ[2]? =some (some d)->Ev PL C ρ H X (.p false (.cop .ne) [(.p false .i [.v 2,.c (.int 0)]),.c (.str ['w','o','r','k'])]) (.bool wn))->wn= !LR d->aQ PL (n+1) 38 [bV r ns nm o,.ref (b+3),d] H Q X:=λ{k x wn fl} hx ek e1 e2 e3 e4 e5=>by
  have hk:=(af.mp hx).1;unfold iR at q;rw [<-ek,<-e5]at q;refine cf IG rfl (cU (fK (c9 (lB w rfl (am (v:=ni 0)) h00)) λ_=>aq (y:=nw nm ns.length) (e1 rfl) (aq (ae rfl) am rfl) (D6 hk)) (λhc=>?_) λhc=>?_)
  ·rw [Cd]at hc;rw [show T.h (nm 0)=false from cu _▸hc]at q;exact bx am q
  rw [Cd]at hc;rw [show T.h (nm 0)=true from dA _▸hc,hU]at q;refine bp (v:=ni k) (mY (aq (z:=nw nm ns.length) (ae rfl) am rfl) rfl (e1 rfl) (nU N' hk)) (bQ rfl) (cU (s:=!T.h (nm k)) (du (fK (c9 (lB w rfl (ae rfl) hk)) λ_=>cW (e2 rfl) λ_=>qU g hx rfl rfl rfl) (congrArg V.bool (by rw [e3,Cd]))) (λhc=>?_) λhc=>?_)
  ·rw [show T.h (nm k)=false from cu _▸hc]at q;exact bx am q
  ·rw [show T.h (nm k)=true from dA _▸hc,hU]at q;refine bx (fK (e4 rfl) λ_=>aq (qB w rfl (ae rfl) hk) (aR rfl) ((jf (EY (lv _)) jO).trans ?_)) q;rw [Ff]
 cases dd with
 |@send m l hm lv=>exact dI (wc (congrArg c6 hm)) λk x hx ek=>go (wn:=true) (fl:=true) hx ek (λh=>ek▸aq (ae h) am rfl) (λh=>aq (aq (ae h) am rfl) am rfl) (aj ((jm N' hx).symm.trans (ek.symm▸hm))) (λh=>aq (aq (ae h) am rfl) am rfl) rfl
 |@work m hm=>exact dI (wc (congrArg c6 hm)) λk x hx ek=>go (wn:=false) (fl:=true) hx ek (λh=>ek▸aq (ae h) am rfl) (λh=>aq (aq (ae h) am rfl) am rfl) (aj ((jm N' hx).symm.trans (ek.symm▸hm))) (λh=>aq (aq (ae h) am rfl) am rfl) rfl
 |@fail m hm=>have hm':m∈(sub ns 7 0).map nm:=F.en▸hm;exact av (aK.mp hm') λk hk ek=>go (wn:=true) (fl:=false) (aO ((gA F).2.2.1 k hk)) ek (λh=>ek▸aq (ae h) am rfl) (λh=>aq (aq (ae h) am rfl) am rfl) rfl (λh=>aq (aq (ae h) am rfl) am rfl) rfl
theorem uO(w:WX σ G0 b N nm T Y S H)(hi:ρ[1]? =some (some (.ref (b+3))))(he:Ev P C ρ H X ex v)(ed:d9 key v kK (pd b T.t T.lt)=(kK,pd b T'.t T'.lt))(es:(wN b N nm T++Y).set 3 (b+3,.dict kK (pd b T'.t T'.lt))=wN b N nm T'++Y)(q:∀H',WX σ G0 b N nm T' Y S H'->a8 P C ss ρ H' K R X):a8 P C (.s (.v 1) (.c (.str key)) ex::ss) ρ H K R X:=by refine wU he (ae hi) am (H':=H.set (b+3) (.dict kK (pd b T'.t T'.lt))) ?_ (q _ (by haveI z:=w.gset 3 (o':=.dict kK (pd b T'.t T'.lt)) rfl;rw [es]at z;exact z));refine(?_:BW (b+3) key v H H[b+3]? =_);rw [w.at 3 rfl];show(if kK.length<=aB then some (H.set (b+3) (.dict (d9 key v kK (pd b T.t T.lt)).1 (d9 key v kK (pd b T.t T.lt)).2))else none)=_;rw [if_pos (by decide:kK.length<=aB),ed]
theorem Sm.lost(sm:Sm π A T):Sm π (aL l A) (aL l T):=⟨sm.h,sm.s,by show(λn=>if T.h n=true then T.q n else [])=λn=>if A.h n=true then A.q n else [];rw [sm.h,sm.q],by show T.ev++oS T.h T.q l=A.ev++oS A.h A.q l;rw [sm.h,sm.q,sm.ev],sm.t,sm.lt,sm.k,λw=>aa (sm.kb w) eO⟩
theorem Db(hl:q.length<=1000):be P false (.bop .add) [uf q,.lst [oJ p]] H=some (uf (q++[p]),H):=by refine(wW (by rw [ak];exact aa (aZ hl 1) (by decide))).trans ?_;refine(?_:some (V.lst _,H)=some (V.lst _,H));rw [aJ];rfl
theorem ND{f:Nm->List (Nat×V)}(e:f m=p::ps)(h:∀n,(f n).length<=1000)(n:Nm):(jq f m ps n).length<=1000:=by
 unfold jq;by_cases z:n=m
 ·rw [if_pos z];haveI y:=h m;rw [e]at y;exact aa (bf _) y
 ·rw [if_neg z];exact h n
theorem Dd.ok(h:Dd π σ d):((oG (d.tpl.getD [])==['f','a','i','l'])=true->ao d∈σ.names)/\((oG (d.tpl.getD [])==['f','a','i','l'])=false->π.isW (ao d)=some false):=by
 induction h with
 |send hm _=>exact⟨λz=>absurd z ai,λ_=>hm⟩
 |work hm=>exact⟨λz=>absurd z ai,λ_=>hm⟩
 |fail hm=>exact⟨λ_=>hm,λz=>absurd z.symm ai⟩
theorem Wk.q(h:Wk π m k0 ps A l Af):Af.q=jq A.q m ps:=by cases h<;>rfl
theorem Wk.ev(h:Wk π m k0 ps A l Af):∃es,Af.ev=A.ev++es:=by
 cases h with
 |add=>exact⟨_,rfl⟩
 |fault _|leave _=>exact⟨_,an ..⟩
theorem f34(F:Fx σ G0 ns nm r o)(w:WX σ G0 b ns.length nm T Y S H)(sm:Sm (cC ns nm) A T)(dd:Dd (cC ns nm) σ d)(de:De (cC ns nm) σ.names A d Af)(hq:∀n,(A.q n).length<=999)(hb:Af.ev.length+1100<=900000)(q:∀T' H',WX σ G0 b ns.length nm T' Y S H'->Sm (cC ns nm) Af T'->Q .none H'):aQ PL (n+6) 39 [bV r ns nm o,.ref (b+3),d] H Q X:=by
 have N':=F.n;have hqT:∀n,(T.q n).length<=1000:=λn=>by rw [sm.q];exact aa (hq n) (by decide)
 have lost:∀{A2 T2:Ab} {H2:AH} {ρ:Fm},ρ[0]? =some (some (bV r ns nm o))->ρ[1]? =some (some (.ref (b+3)))->Af=aL σ.names A2->WX σ G0 b ns.length nm T2 Y S H2->Sm (cC ns nm) A2 T2->(∀n,(A2.q n).length<=1000)->a8 PL (aQ PL (n+5)) [(.e (.call 37 [.v 0,.v 1]))] ρ H2 (λ_ H'=>Q .none H') Q X:=λ{A2 T2 H2 ρ} h0 h1 ea w2 s2 hq2=>by subst ea;have s3:=s2.lost (l:=σ.names);exact dJ (cQ (ae h0) (ae h1) (f32 F w2 (λn=>by rw [s2.q];exact hq2 n) (by rw [s3.ev];exact aa (ax _ _) hb) λH3 w3=>cH (q _ _ w3 s3)))
 have hA:∀{A1:Ab},(∃es,Af.ev=A1.ev++es)->A1.ev.length+1100<=900000:=λ{A1} z=>z.elim λes z=>aa (aZ (by rw [z];exact eO) _) hb;cases de with
 |@send m l=>
  refine(wc (m:=m) (congrArg c6 (dd.ok.2 rfl))).elim λk z=>z.elim λx z=>?_;have ek:=z.2;subst ek;have hk:=(af.mp z.1).1;have hT:=hA (A1:=A) ⟨_,rfl⟩;refine cf uj rfl (bp (v:=ni k) (mY (aq (z:=nw nm ns.length) (ae rfl) am rfl) rfl (aR rfl) (nU N' hk)) (bQ rfl) (cV (aR rfl) (uO (T':={T with lt:=T.lt+1}) (v:=ni (T.lt+1)) w rfl (aq (eX w rfl rfl) am dN) rfl rfl λH1 w1=>?_)));refine pG (g:=uf) (f:=T.q) (x:=T.q (nm k)++[(T.lt+1,l)]) (p:=2) (T':={T with lt:=T.lt+1,q:=jq T.q (nm k) (T.q (nm k)++[(T.lt+1,l)])}) N' w1 rfl (aq (qB w1 rfl (ae rfl) hk) (bY (aq (eX w1 rfl rfl) (aR rfl) (eM fx)) (hO xy)) (Db (p:=(T.lt+1,l)) (hqT (nm k)))) (ae rfl) hk rfl rfl rfl λH2 w2=>nb (.sent (nm k) (T.lt+1) l) w2 rfl (Fy am (aR rfl) (eX w2 rfl rfl) (aR rfl) rfl) (by show T.ev.length<=_;rw [sm.ev];exact aa (ax _ _) (aa hT (by decide))) λH3 w3=>bx am (q _ _ w3 ⟨sm.h,sm.s,?_,?_,sm.t,congrArg (·+1) sm.lt,sm.k,λw=>aa (sm.kb w) eO⟩)
  ·refine (?_:jq T.q (nm k) (T.q (nm k)++[(T.lt+1,l)])=jq A.q (nm k) (A.q (nm k)++[(A.lt+1,l)]));rw [sm.q,sm.lt]
  ·refine (?_:T.ev++[.sent (nm k) (T.lt+1) l]=A.ev++[.sent (nm k) (A.lt+1) l]);rw [sm.ev,sm.lt]
 |@fail m es k' fe=>have hm:m∈(sub ns 7 0).map nm:=F.en▸dd.ok.1 rfl;refine av (aK.mp hm) λk hk ek=>?_;subst ek;have hk:=(gA F).2.2.1 k hk;refine cf uj rfl (bp (v:=ni k) (mY (aq (z:=nw nm ns.length) (ae rfl) am rfl) rfl (aR rfl) (nU N' hk)) (bQ rfl) (bK (aR rfl) (uO (T':=aT T) (v:=.int (T.t+1)) w rfl (aq (eX w rfl rfl) am dN) rfl rfl λH1 w1=>bK (aR rfl) (dJ (kz (ae rfl) (ae rfl) (ae rfl) (am _ (Mf (n:=n+1) F w1 sm.next (aO hk) fe (hA ⟨_,rfl⟩) λT2 H2 w2 s2=>cH (lost rfl rfl rfl w2 s2 λn=>aa (hq n) (by decide)))))))))
 |@work m k0 l ps A2 eq wk=>refine(show ∃k x,ns[k]? =some x/\nm k=m/\x.w=false from dI (wc (m:=m) (congrArg c6 (dd.ok.2 rfl))) λk x hx ek=>⟨k,x,hx,ek,aj ((jm N' hx).symm.trans (ek.symm▸dd.ok.2 rfl))⟩).elim λk z=>z.elim λx z=>?_;have ek:=z.2.1;subst ek;have hk:=(af.mp z.1).1;refine cf uj rfl (bp (v:=ni k) (mY (aq (z:=nw nm ns.length) (ae rfl) am rfl) rfl (aR rfl) (nU N' hk)) (bQ rfl) (bK (aR rfl) (uO (T':=aT T) (v:=.int (T.t+1)) w rfl (aq (eX w rfl rfl) am dN) rfl rfl λH1 w1=>cV (aR rfl) (dJ (iQ (ae rfl) (ae rfl) (ae rfl) (f31 F w1 sm z.1 z.2.2 (sm.q▸eq) wk (hqT _) (hA ⟨_,rfl⟩) (by rw [sm.ev];exact wk.ev.elim λes e=>hA ⟨es++_,(congrArg (·++_) e).trans (an ..)⟩) λT2 H2 w2 s2=>cH (lost rfl rfl rfl w2 s2 λn=>by rw [wk.q];exact ND eq (λn=>aa (hq n) (by decide)) n)))))))
end
def Dt(vs:List V):Prop:=∀v∈vs,v.data=true/\v.depth<=3
section
variable {π:PI}{σ:Ad}{S:Option Hst}{H:AH}{G0:List (Nat×O)}{ns:List Nd}{nm:Nat->Nm}{x y:Nd}{k j o r n b i N a:Nat}{Q R:QE}{X:XE}{K:KS}{A A' T T' Af:Ab}{Y:List (Nat×O)}{ss:List St}{e:Evt}{es:List Evt}{d:V}{P:Prog}{C:Calls}{ρ:Fm}
theorem Jc(h:Dt vs):tU vs=true:=haveI q:=jC h;lC q.1 (aa q.2 (by decide))
theorem lu(h:Dt vs):rd H (.lst vs)=some (.lst vs):=by haveI q:=jC h;refine if_pos ?_;show(V.datas vs&&decide (V.depths vs+1<=50))=true;rw [q.1,decide_eq_true (aa (aA q.2) (by decide))];rfl
theorem uS(sm:Sm π A T):iR m T d=iR m A d:=by unfold iR;rw [sm.h,sm.q]
theorem II(h:Dt vs)(ha:H[a]? =some (.list vs)):rd H (.ref a)=some (.lst vs):=by show(H[a]?.bind O.lst).bind _=_;rw [ha];exact if_pos (Jc h)
theorem Av{α:Type}{f:α->V}{l:List α}(h:∀a,tm (f a)):Dt (l.map f):=λv hv=>by have z:=lL h v hv;cases v<;>first|exact z.elim|exact⟨rfl,aY _⟩
theorem IN(h:e.ok π):e.v.data=true/\e.v.depth<=3:=by
 cases e with
 |beg _|end_ _|fail _|leave _|works _ _|lost _ _=>exact⟨rfl,aG rfl⟩
 |sent _ _ l=>
  haveI y:=A7 h.2;refine⟨?_,?_⟩
  ·show (l.data&&true)=true;rw [y.1];rfl
  ·show max 0 (max 0 (max 0 (max l.depth 0)))+1<=3;exact aA (iu.mpr ⟨aY _,iu.mpr ⟨aY _,iu.mpr ⟨aY _,iu.mpr ⟨aa y.2 (by decide),aY _⟩⟩⟩⟩)
theorem yO(h:∀e∈es,e.ok π):Dt (es.map Evt.v):=λv hv=>av (aK.mp hv) λe he z=>z▸IN (h e he)
theorem E4(h:Dt vs):gH (.lst vs) (.lst vs)=true:=fH (.lst vs) (jC h).1
theorem B2{p:Nm->Bool}{l:List Nat}:((l.filter λk=>p (nm k)).map λk=>V.str (nm k))=((l.map nm).filter p).map V.str:=by rw [jH,bM];rfl
theorem f35(F:Fx σ G0 ns nm r o)(w:WX σ G0 b ns.length nm T Y S H)(q:Q (.lst ((σ.names.filter T.h).map V.str)) H):aQ PL (n+1) 40 [bV r ns nm o,.ref (b+3)] H Q X:=by haveI oa:=gA F;rw [F.en,<-B2]at q;exact cf Hh rfl (bx (jl (l:=sub ns 7 0) (f:=ni) (g:=λk=>V.str (nm k)) (p:=λk=>T.h (nm k)) (w:=.ref o) (aq (ae rfl) am rfl) (gu (Hz.at w (aI _ F.o))) (aa oa.2.1 (by decide)) (λk hk=>lB w rfl (ae rfl) (oa.2.2.1 k hk)) λk hk _=>aq (x:=nw nm ns.length) (aq (ae rfl) am rfl) (ae rfl) (iy (oa.2.2.1 k hk))) q)
theorem f36(F:Fx σ G0 ns nm r o)(w:WX σ G0 b ns.length nm T Y S H)(lv:∀n,∀p∈T.q n,LV p.2)(q:Q (.lst ((σ.names.filter λm=>T.h m&& !(T.q m).isEmpty).map V.str)) H):aQ PL (n+1) 41 [bV r ns nm o,.ref (b+3)] H Q X:=by haveI oa:=gA F;rw [F.en,<-B2]at q;exact cf IH rfl (bx (jl (l:=sub ns 7 0) (f:=ni) (g:=λk=>V.str (nm k)) (p:=λk=>T.h (nm k)&& !(T.q (nm k)).isEmpty) (w:=.ref o) (aq (ae rfl) am rfl) (gu (Hz.at w (aI _ F.o))) (aa oa.2.1 (by decide)) (λk hk=>cW (lB w rfl (ae rfl) (oa.2.2.1 k hk)) λ_=>aq (qB w rfl (ae rfl) (oa.2.2.1 k hk)) (aR rfl) ((jf (EY (lv _)) jO).trans (by rw [Ff]))) λk hk _=>aq (x:=nw nm ns.length) (aq (ae rfl) am rfl) (ae rfl) (iy (oa.2.2.1 k hk))) q)
end
section
variable {π:PI}{σ:Ad}{S:Option Hst}{H:AH}{G0 g:List (Nat×O)}{ns:List Nd}{nm:Nat->Nm}{x y:Nd}{k j o r n b i N a:Nat}{Q R:QE}{X:XE}{K:KS}{A A' T T' Af:Ab}{Y:List (Nat×O)}{ss:List St}{e:Evt}{es:List Evt}{d v:V}{P:Prog}{C:Calls}{ρ:Fm}
theorem Hz.pushG(w:Hz σ g S H)(o:O)(ea:H.length=a):Hz σ (g++[(a,o)]) S (H++[o])/\(H++[o]).length=a+1:=⟨ea▸w.push o,ah.trans (congrArg (·+1) ea)⟩
theorem HY:bO N z=(aX N).map λ_=>z:=by rw [List.map_const',a7]
theorem Bu(h:ρ[i]? =some (some (ni N)))(hN:N<=60)(ea:H.length=a)(q:Q (.ref a) (H++[rg N λ_=>z])):cL P C (.p true .rep [.p false .l [.c z],.v i]) ρ H Q X:=by refine ae (P:=P) (C:=C) (X:=X) h _ (hE (v:=.ref a) (H':=H++[rg N λ_=>z]) ?_ q);refine(?_:(if 0<=(N:Int)/\(N:Int)<=1000 then some (V.lst (bO N z),H)else none:Option (V×AH)).bind _=_);rw [if_pos ⟨bn _,bW.mpr (aa hN (by decide))⟩,HY,<-ea];rfl
theorem wy(h:ρ[i]? =some (some (ni N)))(hN:N<=60)(ea:H.length=a)(q:Q (.ref a) (H++[rg N λ_=>.lst []])):cL P C (.comp true (.p false .l []) (.p false .range1 [.v i]) none) ρ H Q X:=
 Dc (l:=aX N) (f:=ni) (g:=λ_=>.lst []) (w:=.rng 0 N) (bY (ae h) (fj (xK (aa hN (by decide))))) (congrArg some oW) (by rw [a7];exact aa hN (by decide)) (λ_ _=>aR rfl) (ea▸q)
theorem wV(hi:ρ[i]? =some (some (.ref a)))(he:∀Q:QE,(∀H',H'[a]? =some (.dict ks vs)->ks.length<=10->a8 P C ss ρ (H'.set a (.dict (d9 key z ks vs).1 (d9 key z ks vs).2)) K R X->Q z H')->cL P C ex ρ H Q X):a8 P C (.s (.v i) (.c (.str key)) ex::ss) ρ H K R X:=ij (he _ λH' h hl k=>by
 refine ae (P:=P) (C:=C) (X:=X) hi _ ?_;refine(?_:match BW a key z H' H'[a]? with|some H'=>_|none=>False);rw [h];show match(if ks.length<=aB then some _ else none:Option AH)with|some H'=>_|none=>False
 rw [if_pos (aa hl (by decide))];exact k)
theorem Mh{p:Prim}{a b c:Ex}{u v:V}(k:cL P C a ρ H (λx H1=>cL P C b ρ H1 (λy H2=>cL P C c ρ H2 (λz H3=>hM (be P true p [x,y,z,u,v] H3) Q) X) X) X):cL P C (.p true p [a,b,c,.c u,.c v]) ρ H Q X:=k
theorem f25(F:Fx σ G0 ns nm r o)(w:Hz σ G0 S H)(q:∀T H',WX σ G0 H.length ns.length nm T [] S H'->T=aF (σ.names.map .beg) (λ_=>[]) rj->Q (.ref (H.length+3)) H'):aQ PL (n+3) 30 [bV r ns nm o] H Q X:=by haveI g:GM r ns H:=F.g.imp λ_ q=>⟨q.1,λp hp=>w.at (q.2 p hp)⟩;have hN:=F.t.le;refine c7 F.t.tr.top λx0 h0 _ hd=>?_;haveI w1:=w.pushG (rg ns.length λ_=>.bool false) rfl;haveI w2:=w1.1.pushG (rg ns.length λ_=>.int 0) w1.2;haveI w3:=w2.1.pushG (rg ns.length λ_=>.lst []) w2.2;haveI w4:=w3.1.pushG (.dict (kK.take 5) [.ref H.length,.ref (H.length+1),.ref (H.length+2),.int 0,.int 0]) w3.2;haveI w5:=w4.1.pushG (rg ns.length λ_=>.lst []) w4.2;rw [an,an,an,an]at w5;refine cf IA rfl (bp (v:=ni ns.length) (du (bY (aq (z:=.ref r) (ae rfl) am rfl) (fL g.row)) (congrArg ni (ak _))) (bQ rfl) (dU (Mh (Bu rfl hN rfl (Bu rfl hN w1.2 (wy rfl hN w2.2 (hE (v:=.ref (H.length+3)) (congrArg (λt=>some (V.ref t,_)) w3.2) ⟨bQ rfl,?_⟩)))))));refine wV (a:=H.length+3) (ks:=kK.take 5) (vs:=[.ref H.length,.ref (H.length+1),.ref (H.length+2),.int 0,.int 0]) (z:=.ref (H.length+4)) rfl λQ1 q1=>wy rfl hN w4.2 (q1 _ (w5.1.at (az _ (aN (i:=3) rfl))) (aG rfl) ?_);haveI w6:=w5.1.gset 3 (a:=H.length+3) (o':=.dict (kK.take 6) [.ref H.length,.ref (H.length+1),.ref (H.length+2),.int 0,.int 0,.ref (H.length+4)]) rfl;haveI w7:=w6.pushG (.list []) (aU.trans w5.2);rw [an]at w7;refine wV (a:=H.length+3) (ks:=kK.take 6) (vs:=[.ref H.length,.ref (H.length+1),.ref (H.length+2),.int 0,.int 0,.ref (H.length+4)]) (z:=.ref (H.length+5)) rfl λQ1 q1=>jS (aU.trans w5.2▸q1 _ (w7.1.at (az _ (aN (i:=3) rfl))) (aG rfl) ?_);haveI w8:WX σ G0 H.length ns.length nm rj [] S _:=w7.1.gset 3 (a:=H.length+3) (o':=.dict kK (pd H.length 0 0)) rfl;refine dJ (iQ (ae rfl) (ae rfl) am (f26 (n:=n) (k:=0) F w8 h0 (aG rfl) λH' w'=>bx (ae rfl) (q _ H' w' ?_)));rw [nZ F.n h0,F.en,F.t.tr.subS h0 (f:=7) (hd.symm▸rfl) (by decide)];rfl
end
theorem Az{α0 α1 α2 α3 α4:Type}{A0 A1 A2:α0->α1->α2->α3->α4->Prop}{G:Prop}(h:∃a0 a1 a2 a3 a4,A0 a0 a1 a2 a3 a4/\A1 a0 a1 a2 a3 a4/\A2 a0 a1 a2 a3 a4)(k:∀a0 a1 a2 a3 a4,A0 a0 a1 a2 a3 a4->A1 a0 a1 a2 a3 a4->A2 a0 a1 a2 a3 a4->G):G:=h.elim λa0 h=>h.elim λa1 h=>h.elim λa2 h=>h.elim λa3 h=>h.elim λa4 h=>k a0 a1 a2 a3 a4 h.1 h.2.1 h.2.2
section
variable {π:PI}{σ:Ad}{S:Hst}{H:AH}{G0 g:List (Nat×O)}{ns:List Nd}{nm:Nat->Nm}{x y:Nd}{k j o r n b i N a:Nat}{Q R:QE}{X:XE}{K:KS}{A A' T T' Af:Ab}{Y:List (Nat×O)}{ss:List St}{e:Evt}{es:List Evt}{d v:V}{P:Prog}{C:Calls}{ρ:Fm}
theorem qZ(d:Dt vs)(hu:rd H u=some (.lst vs))(hw:rd H w=some (.lst vs)):be P false (.cop .ne) [u,w] H=some (.bool false,H):=(jf hu hw).trans (by rw [E4 d];rfl)
theorem HJ(d:Dt vs)(hu:rd H u=some (.lst vs))(hw:rd H w=some (.lst vs)):be P false (.cop .eq) [u,w] H=some (.bool true,H):=(ft hu hw).trans (by rw [E4 d])
theorem wx(h:Hs σ S H):(qS S m).length<=S.letters:=by
 unfold qS;refine fS (o:=dX m S.qu) (λz=>?_) λx z=>?_
 ·rw [z];exact aY _
 ·rw [z];exact(h.qp _ (bZ z)).2.2
theorem Am(iv:Iv π S):∀p∈qS S m,LV p.2:=by
 unfold qS;refine fS (o:=dX m S.qu) (λz=>?_) λx z=>?_
 ·rw [z];exact λp hp=>absurd hp bl
 ·rw [z];exact iv.lv _ (bZ z)
def As(hall:V)(b i:Nat)(ns:List Nd)(H:AH)(its:List Nat)(ρ:Fm)(H':AH):Prop:=∃o3 o4 o5 o6 o7,ρ=[some hall,some (.ref (b+3)),some (.ref i),o3,o4,o5,o6,o7]/\H'=H/\∀k∈its,k<ns.length
theorem xq(F:Fx σ G0 ns nm r o)(w:WX σ G0 b ns.length nm T Y (some S) H)(iv:Iv (cC ns nm) S)(sm:Sm (cC ns nm) (iU S) T)(hL:S.letters<=110)(hb:S.ev.length<=900000)(hx:ns[k]? =some x)(hi:∀k∈its,k<ns.length)(hK:∀ρ' H',As (bV r ns nm o) b σ.i ns H its ρ' H'->K ρ' H') :
  a8 PL (aQ PL (n+3)) (xu (HZ.body.getD 1 .pass)) [some (bV r ns nm o),some (.ref (b+3)),some (.ref σ.i),some (ni k),o4,o5,o6,o7] H K R X:=by
 have pl:=F.pl.g (g:=G0++(wN b ns.length nm T++Y));have h:Hs (iC σ (G0++(wN b ns.length nm T++Y))) S H:=w;have hk:=(af.mp hx).1;have gn:=w.gn F.g;have kn:∀{o4 o5 o6 o7:Option V},K [some (bV r ns nm o),some (.ref (b+3)),some (.ref σ.i),some (ni k),o4,o5,o6,o7] H:=λ{o4 o5 o6 o7}=>hK _ _ ⟨_,o4,o5,o6,o7,rfl,rfl,hi⟩;refine bp (v:=.str (nm k)) (aq (x:=nw nm ns.length) (aq (ae rfl) am rfl) (ae rfl) (iy hk)) (bQ rfl) ?_;cases hw:x.w with
 |false=>
  have iw:(cC ns nm).isW (nm k)=some false:=hw▸jm F.n hx;have d:Dt ((qS S (nm k)).map λp=>ni p.1):=Av λ_=>trivial;have eq:T.q (nm k)=qS S (nm k):=congrFun sm.q _;have ql:(T.q (nm k)).length<=aB:=by rw [eq];exact aa (wx h) (aa hL (by decide))
  refine bK (du (qU gn hx rfl rfl rfl) (congrArg V.bool hw)) (bK (aq (oj h rfl rfl (ae rfl) λQ q=>f47 (n:=n) pl h iv hL iw q) (lO (l:=T.q (nm k)) (f:=oJ) (g:=λp=>ni p.1) (qB w rfl (ae rfl) hk) rfl ql λ_ _=>aR rfl) (qZ d (lu d) (by rw [eq];exact lu d))) (bK (du (cW (s:=T.h (nm k)) (t:=false) (lB w rfl (ae rfl) hk) λhh=>?_) (congrArg V.bool (gK _))) (cH (cH (cH kn)))));refine aq (oj h rfl rfl (ae rfl) λQ q=>f48 (n:=n) pl h iv iw ((congrFun sm.h (nm k)).symm.trans hh) q) (Fz w rfl (ae rfl) hk) ((jf b7 b7).trans ?_);rw [show T.s (nm k)=m5 S (nm k)from congrFun sm.s _,fH (.int _) rfl];rfl
 |true=>
  have iw:(cC ns nm).isW (nm k)=some true:=hw▸jm F.n hx;haveI d:Dt ((Fh S.clock ((cC ns nm).sp (nm k)) (ii S (nm k))).map V.int):=Av λ_=>trivial;have ef:Fh T.t (tV x) (T.k (nm k))=Fh S.clock ((cC ns nm).sp (nm k)) (ii S (nm k)):=by show _=Fh (iU S).t _ ((iU S).k (nm k));rw [<-sm.k (nm k) iw,(qt F.n hx).1,sm.t]
  have tl:(T.k (nm k)).length<=aB:=aa (sm.kb _) (by rw [sm.ev];exact aa hb (by decide));exact cV (du (qU gn hx rfl rfl rfl) (congrArg V.bool hw)) (bp (JY F.t.tr hx hw rfl rfl) (bQ rfl) (bp (v:=Cf (Fh T.t (tV x) (T.k (nm k)))) (FE (ρ:=[_,_,_,_,_,_,_,_]) (λ_=>ae rfl) (λ_=>eX w rfl rfl) (λ_=>rfl) (Au w rfl (ae rfl) hk) tl) (bQ rfl) (bK (du (cW (s:=T.h (nm k)) (t:=false) (lB w rfl (ae rfl) hk) λhh=>aq (oj h rfl rfl (ae rfl) λQ q=>f52 (n:=n+1) pl h iv iw ((congrFun sm.h (nm k)).symm.trans hh) hb q) (ae rfl) (qZ d (lu d) (by rw [ef];exact lu d))) (congrArg V.bool (gK _))) (cH (cH kn)))))
theorem f43(F:Fx σ G0 ns nm r o)(w:WX σ G0 b ns.length nm T Y (some S) H)(iv:Iv (cC ns nm) S)(sm:Sm (cC ns nm) (iU S) T)(hL:S.letters<=110)(hb:S.ev.length<=900000)(q:Q (.bool true) H):aQ PL (n+4) 43 [bV r ns nm o,.ref (b+3),.ref σ.i] H Q X:=by
 haveI pl:=F.pl.g (g:=G0++(wN b ns.length nm T++Y));have h:Hs (iC σ (G0++(wN b ns.length nm T++Y))) S H:=w;refine c7 F.t.tr.top λx0 h0 _ _=>?_;haveI l0:=(af.mp h0).1;haveI e0:ao σ.plan=nm 0:=F.ep▸io h0;haveI oa:=gA F;haveI hn:σ.names.length<=aB:=aa F.pl.le (by decide);haveI d1:Dt ((σ.names.filter (here S)).map V.str):=Av λ_=>trivial;haveI d2:Dt (S.ev.map Evt.v):=yO iv.nm;refine cf IE rfl (bK (fK (s:=false) (t:=false) (aq (jy h rfl rfl λQ q=>cf BF rfl (bx (mc h rfl (aq (c8 h rfl rfl) am (vN pl.top))) q)) (lB w rfl am l0) ((jf rfl rfl).trans ?_)) λ_=>fK (s:=false) (t:=false) (aq (jy h rfl rfl λQ q=>cf IY rfl (bx (c8 h rfl rfl) q)) (eX w rfl rfl) ((jf rfl rfl).trans ?_)) λ_=>aq (jy h rfl rfl λQ q=>f45 (n:=n+2) pl h q) (dP (ae rfl) (ae rfl) λQ q=>f35 (n:=n+2) F w q) (qZ d1 (lu d1) (by rw [sm.h];exact lu d1))) (eD (As (bV r ns nm o) b σ.i ns H) (f:=ni) (l:=sub ns 7 0) (v:=.ref o) (aq (ae rfl) am rfl) (λ_ _ _ z=>Az z λ_ _ _ _ _ _ e _=>gu (e▸Hz.at w (aI _ F.o))) (aa oa.2.1 (by decide)) ⟨none,none,none,none,none,rfl,rfl,oa.2.2.1⟩
   (λk js ρ' H' hI K' hK=>Az hI λo3 o4 o5 o6 o7 e eH hi=>?_) λρ' H' hI=>Az hI λo3 o4 o5 o6 o7 e eH _=>?_))
 ·rw [sm.h,<-e0];show some (V.bool !(gH (.bool (here S (ao σ.plan))) (.bool (here S (ao σ.plan)))),H)=_;rw [fH _ rfl];rfl
 ·rw [sm.t];show some (V.bool !(gH (.int S.clock) (.int S.clock)),H)=_;rw [fH _ rfl];rfl
 ·subst e;subst eH;exact xq (n:=n) F w iv sm hL hb (aO (hi k (.head _))) (λk hk=>hi k (.tail _ hk)) hK
 ·subst e;subst eH;exact bp (jy h rfl rfl λQ q=>f46 (n:=n+2) h hb q) (bQ rfl) (bx (cW (s:=true) (t:=true) (dF (ae rfl) λQ q=>f20 (n:=n+1) (aa hb (by decide)) iv.nm q) λ_=>aq (ae rfl) (eX w rfl rfl) (HJ d2 (lu d2) (II d2 ((w.at 5 rfl).trans (congrArg (λl:List Evt=>some (O.list (l.map Evt.v))) sm.ev))))) q)
end
section
variable {P:Prog}{C:Calls}{G:Prop}
abbrev QG(G:Prop)(Q:QE):Prop:=∀v H,Q v H->G
abbrev XG(G:Prop)(X:XE):Prop:=∀c H,X c H->G
abbrev KG(G:Prop)(K:KS):Prop:=∀ρ H,K ρ H->G
theorem xg(q:QG G Q)(h:hM r Q):G:=by
 cases r with
 |none=>exact h.elim
 |some p=>exact q _ _ h
theorem om{K:Bool->Prop}(k:∀t,K t->G)(h:nT r K):G:=by
 cases r with
 |none=>exact h.elim
 |some t=>exact k t h
theorem qg{t:Bool}{A B:Prop}(a:A->G)(b:B->G)(h:if t then A else B):G:=by
 cases t with
 |false=>exact b h
 |true=>exact a h
theorem ww{F:V->AH->(Option V->AH->Prop)->Prop}{ok:AH->Prop}{Q:List V->AH->Prop}(hF:∀x H K,(∀r H',K r H'->G)->F x H K->G)(q:∀ys H,Q ys H->G):∀{acc H},kF F ok items acc H Q->G:=by
 induction items with
 |nil=>exact λh=>q _ _ h.2
 |cons x xs ih=>exact λh=>hF _ _ _ (λ_ _ k=>ih k) h.2
theorem I9{F:V->Fm->AH->KS->Prop}{ok:AH->Prop}(hF:∀x ρ H K,KG G K->F x ρ H K->G)(k:KG G K):∀{ρ H},pR F ok items ρ H K->G:=by
 induction items with
 |nil=>exact λh=>k _ _ h.2
 |cons x xs ih=>exact λh=>hF _ _ _ _ (λ_ _ k=>ih k) h.2
theorem BM{F:Fm->AH->KS->KS->Prop}(hF:∀ρ H K₁ K₂,KG G K₁->KG G K₂->F ρ H K₁ K₂->G)(k:KG G K):∀{ρ H},lE F n ρ H K->G:=by
 induction n with
 |zero=>exact λh=>h.elim
 |succ n ih=>exact λh=>hF _ _ _ _ (λ_ _ k=>ih k) k h
abbrev GE(G:Prop)(P:Prog)(C:Calls)(e:Ex):Prop:=∀{ρ H Q X},QG G Q->XG G X->cL P C e ρ H Q X->G
abbrev GEs(G:Prop)(P:Prog)(C:Calls)(es:List Ex):Prop:=∀{ρ H X} {Q:List V->AH->Prop},(∀vs H,Q vs H->G)->XG G X->gc P C es ρ H Q X->G
abbrev GEo(G:Prop)(P:Prog)(C:Calls)(o:Option Ex):Prop:=∀e,o=some e->GE G P C e
theorem gE(hC:∀{f vs H Q X},QG G Q->XG G X->C f vs H Q X->G)(e:Ex):GE G P C e:=by
 refine Ex.rec (motive_1:=λe=>GE G P C e) (motive_2:=λe=>GEs G P C e) (motive_3:=GEo G P C) ?_ ?_ ?_ ?_ ?_ ?_ ?_ ?_ ?_ ?_ ?_ ?_ ?_ ?_ ?_ e
 ·exact λ_ _ _ _ _ q _ h=>q _ _ h
 ·intro i ρ H Q X q _ h;have h:match ρ[i]? with|some (some v)=>Q v H|_=>False:=h
  cases e:ρ[i]? with
  |none=>rw [e]at h;exact h.elim
  |some o=>
   rw [e]at h;cases o with
   |none=>exact h.elim
   |some v=>exact q _ _ h
 ·exact λ_ _ _ ih _ _ _ _ q x h=>ih (λ_ _ h=>xg q h) x h
 ·exact λ_ _ iha ihb _ _ _ _ q x h=>iha (λ_ _ h=>om (λ_ h=>qg (ihb q x) (q _ _) h) h) x h
 ·exact λ_ _ iha ihb _ _ _ _ q x h=>iha (λ_ _ h=>om (λ_ h=>qg (ihb q x) (q _ _) h) h) x h
 ·exact λ_ _ _ _ _ iha ihb ihc _ _ _ _ q x h=>iha (λ_ _ h=>ihb (λ_ _ h=>om (λ_ h=>qg (ihc (λ_ _ h=>om (λ_ h=>q _ _ h) h) x) (q _ _) h) h) x h) x h
 ·exact λ_ _ ih _ _ _ _ q x h=>ih (λ_ _ h=>hC q x h) x h
 ·exact λ_ _ _ _ _ iho ih _ _ _ _ q x h=>iho (λ_ _ h=>ih (λ_ _ h=>hC q x h) x h.2) x h
 ·exact λ_ _ _ _ _ iho ih _ _ _ _ q x h=>iho (λ_ _ h=>ih (λ_ _ h=>xg q h) x h.2) x h
 ·exact λ_ _ _ ih _ _ _ _ q x h=>ih (λ_ _ h=>hC (λ_ _ h=>q _ _ h.2) x h) x h
 ·intro mu elt it cond ihe ihi ihc ρ H Q X q x h;cases cond with
  |none=>exact ihi (λ_ _ (h:∃_,_)=>h.elim λ_ h=>ww (λ_ _ _ k h=>ihe (λ_ _ h=>k _ _ h) x h) (λ_ _ h=>xg q h) h.2.2) x (BD▸h)
  |some c=>exact ihi (λ_ _ (h:∃_,_)=>h.elim λ_ h=>ww (λ_ _ _ k h=>ihc c rfl (λ_ _ h=>om (λ_ h=>qg (ihe (λ_ _ h=>k _ _ h) x) (k _ _) h) h) x h) (λ_ _ h=>xg q h) h.2.2) x (uo▸h)
 ·exact λq _ h=>q _ _ h
 ·exact λ_ _ ih ihs _ _ _ _ q x h=>ih (λ_ _ h=>ihs (λ_ _ h=>q _ _ h) x h) x h
 ·exact λ_ h=>fm h
 ·exact λ_ ih _ h=>aj h▸ih
abbrev GS(G:Prop)(P:Prog)(C:Calls)(s:St):Prop:=∀{ρ H K R X},KG G K->QG G R->XG G X->sJ P C s ρ H K R X->G
abbrev GSs(G:Prop)(P:Prog)(C:Calls)(ss:List St):Prop:=∀{ρ H K R X},KG G K->QG G R->XG G X->a8 P C ss ρ H K R X->G
theorem gSs(hC:∀{f vs H Q X},QG G Q->XG G X->C f vs H Q X->G)(ss:List St):GSs G P C ss:=by
 have gE:=@gE P C G hC;have no:XG G λ_ _=>False:=λ_ _ h=>h.elim;intro ρ H K R X;refine St.rec_1 (motive_1:=λs=>GS G P C s) (motive_2:=λs=>GSs G P C s) ?_ ?_ ?_ ?_ ?_ ?_ ?_ ?_ ?_ ?_ ?_ ?_ ?_ ?_ ?_ ss
 ·exact λ_ e _ _ _ _ _ k _ x h=>gE e (λ_ _ h=>k _ _ h.2) x h
 ·intro is e ρ H K R X k _ x h;refine gE e (λv H' h=>?_) x h;generalize fO ρ (.inr is) v=o at h;cases o with
  |none=>exact h.elim
  |some _=>exact k _ _ h
 ·intro o i e ρ H K R X k _ x h;refine gE e (λv H' h=>gE o (λv2 H2 h=>gE i (λv3 H3 h=>?_) x h) x h) x h;generalize d8 v2 v3 v H3=o at h;cases o with
  |none=>exact h.elim
  |some _=>exact k _ _ h
 ·intro o n e ρ H K R X k _ x h;refine gE e (λv H' h=>gE o (λv2 H2 h=>?_) x h) x h;generalize ik v2 n v H2=o at h;cases o with
  |none=>exact h.elim
  |some _=>exact k _ _ h
 ·exact λe _ _ _ _ _ k _ x h=>gE e (λ_ _ h=>k _ _ h) x h
 ·exact λc _ _ iha ihb _ _ _ _ _ k r x h=>gE c (λ_ _ h=>om (λ_ h=>qg (iha k r x) (ihb k r x) h) h) x h
 ·intro rev tgt e body ih ρ H K R X k r x h;refine gE e (λ_ _ h=>h.elim λ_ h=>I9 (λy ρ' H' K' k h=>?_) k h.2.2) x h;generalize fO ρ' tgt y=o at h;cases o with
  |none=>exact h.elim
  |some _=>exact ih k r no h
 ·exact λc _ ih _ _ _ _ _ k r x h=>h.elim λ_ h=>BM (λ_ _ _ _ k₁ k₂ h=>gE c (λ_ _ h=>om (λ_ h=>qg (ih k₁ r no) (k₂ _ _) h) h) no h) k h
 ·exact λe _ _ _ _ _ _ r x h=>gE e r x h
 ·exact λ_ _ _ _ _ _ _ _ x h=>x _ _ h
 ·exact λ_ _ _ ih _ _ _ _ _ k r x h=>ih k r (λ_ _ h=>r _ _ h.2) h
 ·exact λe _ _ _ _ _ _ _ _ _ k _ x h=>gE e (λ_ _ h=>k _ _ h) (λ_ _ h=>h.2.elim λ_ h=>k _ _ h.2) h
 ·exact λk _ _ h=>k _ _ h
 ·exact λk _ _ h=>k _ _ h
 ·exact λ_ _ ih ihs _ _ _ _ _ k r x h=>ih (λ_ _ h=>ihs k r x h) r x h
theorem gC:∀{f vs H Q X},QG G Q->XG G X->aQ P n f vs H Q X->G:=by
 induction n with
 |zero=>exact λ_ _ h=>h.elim
 |succ n ih=>
  intro f vs H Q X q x h;rw [lK]at h;generalize P.fns f=o at h;cases o with
  |none=>exact h.elim
  |some fn=>exact gSs ih fn.body (λ_ _ h=>q _ _ h) (λ_ _ h=>q _ _ h) (λ_ _ h=>x _ _ h) h.2
end
def SV:Nat->V->Prop
 |0,v=>(∃s,v=.str s)\/∃i,v=.int i
 |d+1,v=>SV d v\/∃vs,v=.tup vs/\vs.length<=9/\∀x∈vs,SV d x
section
variable {π:PI}{σ:Ad}{S:Hst}{H:AH}{n:Nat}{Q:QE}{X:XE}{v d:V}{e:Evt}{m:Nm}{P:Prog}
theorem tA{d:Nat}{s:Nm}:SV d (.str s):=by
 induction d with
 |zero=>exact .inl ⟨_,rfl⟩
 |succ d ih=>exact .inl ih
theorem HE{d:Nat}{i:Int}:SV d (.int i):=by
 induction d with
 |zero=>exact .inr ⟨_,rfl⟩
 |succ d ih=>exact .inl ih
theorem Io{d:Nat}:∀{v:V},SV d v->∀{n Q X},Q (.bool true) H->aQ PL (n+(d+1)) 9 [v,v] H Q X:=by
 have s1:∀{s:Nm} {n Q X},Q (.bool true) H->aQ PL (n+1) 9 [.str s,.str s] H Q X:=λ{s n Q X} q=>cf zp rfl (bK (aR rfl) (cV (aR rfl) (bx (cW (s:=true) (t:=true) (aR rfl) λ_=>aq (ae rfl) (ae rfl) ((ft jh jh).trans (by rw [fH (.str s) rfl]))) q)));have i1:∀{i:Int} {n Q X},Q (.bool true) H->aQ PL (n+1) 9 [.int i,.int i] H Q X:=λ{i n Q X} q=>cf zp rfl (bK (aR rfl) (bK (aR rfl) (bx (cW (s:=true) (t:=true) (aR rfl) λ_=>cW (s:=true) (t:=true) (aR rfl) λ_=>aq (ae rfl) (ae rfl) ((ft b7 b7).trans (by rw [fH (.int i) rfl]))) q)))
 induction d with
 |zero=>exact λ{v} h {n Q X} q=>h.elim (λh=>h.elim λs e=>e▸s1 q) λh=>h.elim λi e=>e▸i1 q
 |succ d ih=>
  intro v h n Q X q;refine h.elim (λh=>(bH n 1 (d+1)▸ih h (n:=n+1) q:aQ PL (n+(d+1)+1) 9 [v,v] H Q X)) λh=>c7 h λvs e hl hv=>?_;subst e;refine(cf zp rfl (cV (aR rfl) (bK (fK (s:=false) (t:=false) (aR rfl) λ_=>aq (bY (ae rfl) nQ) (bY (ae rfl) nQ) ((jf b7 b7).trans (by rw [fH (.int _) rfl];rfl))) (bx (bY (lO (l:=aX vs.length) (f:=ni) (g:=λ_=>.bool true) (bY (bY (ae rfl) nQ) (fj (xK (aa hl (by decide))))) (congrArg some oW) (by rw [a7];exact aa hl (by decide)) λk hk=>?_) ?_) q))):aQ PL (n+(d+1)+1) 9 [.tup vs,.tup vs] H Q X)
  ·refine (⟨_,aO (bE.mp hk)⟩:∃x,vs[k]? =some x).elim λx hx=>dP (aq (ae rfl) (ae rfl) (zr hx)) (aq (ae rfl) (ae rfl) (zr hx)) λQ q=>ih (hv x (aN hx)) q
  ·rw [show((aX vs.length).map λ_=>V.bool true)=((aX vs.length).map λ_=>true).map V.bool from bM.symm,AW];exact congrArg (λt=>some (V.bool t,H)) (bN.mpr λb hb=>av (aK.mp hb) λ_ _ e=>e.symm)
theorem Lq(h:e.ok π):SV 2 e.v:=by
 have two:∀{a b:Nm},SV 2 (.tup [.str a,.str b]):=.inr ⟨_,rfl,aG rfl,d0 tA (dz tA)⟩;have three:∀{a b:Nm} {i:Int},SV 2 (.tup [.str a,.str b,.int i]):=.inr ⟨_,rfl,aG rfl,d0 tA (d0 tA (dz HE))⟩;cases e with
 |beg _|end_ _|fail _|leave _=>exact two
 |works _ _|lost _ _=>exact three
 |sent _ _ l=>
  refine .inr ⟨_,rfl,aG rfl,d0 tA (d0 tA (d0 HE (dz ?_)))⟩;cases h.2 with
  |add _=>exact .inr ⟨_,rfl,aG rfl,d0 tA (dz HE)⟩
  |fault|leave=>exact .inr ⟨_,rfl,aG rfl,dz tA⟩
inductive Dr(π:PI)(σ:Ad):V->V->Prop
 |send {m:Nm} {k l:V}:π.isW m=some false->LV l->Dr π σ (.tup [.str ['s','e','n','d'],.str m,l]) (.tup [.str ['s','e','n','t'],.str m,k,l])
 |work {m:Nm} {k:V}:π.isW m=some false->Dr π σ (.tup [.str ['w','o','r','k'],.str m]) (.tup [.str ['w','o','r','k','s'],.str m,k])
 |fail {m:Nm}:m∈σ.names->Dr π σ (.tup [.str ['f','a','i','l'],.str m]) (.tup [.str ['f','a','i','l','s'],.str m])
theorem C7:iK (n+1) (-1)=n:=by
 unfold iK;rw [if_pos (by decide)];have e:-1+((n+1:Nat):Int)=(n:Int):=by rw [Ox,EA,Cc]
 rw [e,if_neg (cN.mpr (bn n))];rfl
theorem DE{α:Type}{l:List α}{a:α}:bB (l++[a]) (iK (l++[a]).length (-1)) (l++[a]).length=[a]:=by rw [ah,show [a].length=1 from rfl,C7];unfold bB;rw [Ew (by rw [ah];exact aM _),List.drop_left]
theorem GO(pl:Pl π σ)(A:At π σ S H)(dr:Dr π σ d v)(hL:S.letters<=109)(hb:S.ev.length+8000<=900000)(q0:iR (ao σ.plan) (iU S) d=false->Q (.lst []) H)(qh:iR (ao σ.plan) (iU S) d=true->MH π σ S d 8000 Q):aQ PL (n+36) 11 [.ref σ.i,v] H Q X:=by
 haveI hL':=aa hL (by decide:109<=110)
 induction dr with
 |@send m k l hm lv=>refine cf uK rfl (bK (aR rfl) (m8 (iM (cQ (ae rfl) (ae rfl) (cf uG rfl (cV (aR rfl) (oM A.hs rfl rfl (aR rfl) (aR rfl) (f40 pl A hm lv hL hb (λz=>⟨rfl,q0 (qX z)⟩) (λz=>⟨rfl,q0 (qv z)⟩) λz y S' H' A' a b e=>?_))))))));have ev:S'.ev=S.ev++[.sent m (S.letters+1) l]:=congrArg Ab.ev e;refine bx (iA (c8 A'.hs rfl rfl) (bY am mV) am (rS (A'.hs.get 9 rfl) (aa (au (ak _)) (aa b (aa hb (by decide)))))) ?_;haveI z:=qh (ph z y rfl) S' H' _ A' a b (e▸.send) ev;rw [ev,aJ];exact(DE (l:=S.ev.map Evt.v) (a:=(Evt.sent m (S.letters+1) l).v)).symm▸z
 |@work m k hm=>exact cf uK rfl (bK (aR rfl) (m8 (iM (cQ (ae rfl) (ae rfl) (cf uG rfl (bK (aR rfl) (cV (aR rfl) (vS A.hs rfl rfl (aR rfl) (f41 pl A hm hL' hb (λz=>⟨rfl,q0 (qX z)⟩) (λz=>⟨rfl,q0 (EU z)⟩) (λz=>⟨rfl,q0 (qv z)⟩) λz y w=>qh (ph z y (Fi w)))))))))))
 |fail hm=>exact cf uK rfl (bK (aR rfl) (m8 (iM (cQ (ae rfl) (ae rfl) (cf uG rfl (bK (aR rfl) (bK (aR rfl) (cV (aR rfl) (vS A.hs rfl rfl (aR rfl) (f42 pl A hm hL' hb (λz=>⟨rfl,q0 (qX z)⟩) (λz=>⟨rfl,q0 (qv z)⟩) λz y=>qh (ph z y rfl)))))))))))
end
section
variable {π:PI}{t:Int}{c:Bool}{h:Nm->Bool}{k k1 k2:Nm->List Int}{e:Evt}{es es1 es2:List Evt}{ns:List Nm}{A A' B B':Ab}{d v l:V}{m r:Nm}{k0:Nat}{ps:List (Nat×V)}{σ:Ad}{N:Nat}
theorem vB{p:Prop}(a:c=false)(b:c=true):p:=absurd (a.symm.trans b) ai
theorem Fe.hd(f:Fe π t c h k e es k1):∃tl,es=e::tl:=by
 induction f with
 |stop _ ee _=>exact⟨_,ee⟩
 |here _ _ ee=>exact⟨_,ee⟩
 |go _ _ ee=>exact⟨_,ee⟩
theorem Fe.inv(f:Fe π t c h k e es k1):(c=false->es=pre π h e/\k1=k)/\(c=true->∃w,π.ch e.nm=some w/\(((Fh t (π.sp w) (k w++[t])).length:Int)<=π.mn w->∃i,(π.kd w)[i]? =some e.nm/\es=pre π h e++Cz π ((pre π h e).foldl hr h) w i e.nm/\k1=Fc k w (k w++[t]))/\(π.mn w<((Fh t (π.sp w) (k w++[t])).length:Int)->∃es2,es=pre π h e++es2/\Fe π t (cF π w) ((pre π h e).foldl hr h) (Fc k w (k w++[t])) (.fail w) es2 k1)):=by
 induction f with
 |stop c0 ee ek=>exact⟨λ_=>⟨ee,ek⟩,λct=>vB c0 ct⟩
 |@here c h k k' e es w i ct cw ee ek le ix _=>exact⟨λc0=>vB c0 ct,λ_=>⟨w,cw,λ_=>⟨i,ix,ee,ek⟩,λlt=>absurd lt (cN.mpr le)⟩⟩
 |@go c h k k' e w es es2 ct cw ee lt f _=>exact⟨λc0=>vB c0 ct,λ_=>⟨w,cw,λle=>absurd lt (cN.mpr le),λ_=>⟨es2,ee,f⟩⟩⟩
theorem Fe.det(nd:∀w,(π.kd w).Nodup)(f:Fe π t c h k e es1 k1):∀{es2 k2},Fe π t c h k e es2 k2->es1=es2/\k1=k2:=by
 induction f with
 |stop c0 ee ek=>exact λg=>⟨ee.trans (g.inv.1 c0).1.symm,ek.trans (g.inv.1 c0).2.symm⟩
 |@here c h k k' e es w i ct cw ee ek le ix _=>refine λg=>c7 (g.inv.2 ct) λw2 cw2 q _=>?_;haveI ew:=aj (cw.symm.trans cw2);subst ew;refine c7 (q le) λi2 ix2 ee2 ek2=>?_;rw [(gx (af.mp ix2).1 (nd w)).mp (ix2.trans ix.symm)]at ee2;exact⟨ee.trans ee2.symm,ek.trans ek2.symm⟩
 |@go c h k k' e w es es2 ct cw ee lt _ ih=>refine λg=>c7 (g.inv.2 ct) λw2 cw2 _ q=>?_;haveI ew:=aj (cw.symm.trans cw2);subst ew;exact av (q lt) λes4 ee2 f2=>⟨ee.trans ((congrArg (_++·) (ih f2).1).trans ee2.symm),(ih f2).2⟩
noncomputable def scd(v:V):V:=(v.tpl.getD []).getD 1 .none
noncomputable def thr(v:V):V:=(v.tpl.getD []).getD 2 .none
theorem Wk.inv(w:Wk π m k0 ps A l B):((oG (l.tpl.getD [])==['a','d','d'])=true->∃i,scd l=.int i/\B=aD m i (aW m k0 ps A))/\((oG (l.tpl.getD [])==['f','a','u','l','t'])=true->∃es k',Fe π (A.t+1) (cF π m) A.h A.k (.fail m) es k'/\B=aF es k' (aW m k0 ps A))/\((oG (l.tpl.getD [])==['l','e','a','v','e'])=true->∃es k',Fe π (A.t+1) (π.al m) A.h A.k (.leave m) es k'/\B=aF es k' (aW m k0 ps A)):=by
 induction w with
 |add=>exact⟨λ_=>⟨_,rfl,rfl⟩,λz=>absurd z ai,λz=>absurd z ai⟩
 |fault f=>exact⟨λz=>absurd z ai,λ_=>⟨_,_,f,rfl⟩,λz=>absurd z ai⟩
 |leave f=>exact⟨λz=>absurd z ai,λz=>absurd z ai,λ_=>⟨_,_,f,rfl⟩⟩
theorem Wk.ev1(w:Wk π m k0 ps A l B):∃tl,B.ev=A.ev++.works m k0::tl:=by
 induction w with
 |add=>exact⟨_,rfl⟩
 |fault _|leave _=>exact⟨_,an ..⟩
theorem Wk.det(nd:∀w,(π.kd w).Nodup)(w:Wk π m k0 ps A l B)(w':Wk π m k0 ps A l B'):B=B':=by
 induction w with
 |add=>exact av (w'.inv.1 rfl) λi ei e=>by cases ei;exact e.symm
 |fault f=>exact dI (w'.inv.2.1 rfl) λes k' f' e=>by rw [e,(f.det nd f').1,(f.det nd f').2]
 |leave f=>exact dI (w'.inv.2.2 rfl) λes k' f' e=>by rw [e,(f.det nd f').1,(f.det nd f').2]
theorem De.inv(w:De π ns A d B):((oG (d.tpl.getD [])==['s','e','n','d'])=true->B=aS (ao d) (thr d) A)/\((oG (d.tpl.getD [])==['w','o','r','k'])=true->∃k0 l ps A2,A.q (ao d)=(k0,l)::ps/\Wk π (ao d) k0 ps A l A2/\B=aL ns A2)/\((oG (d.tpl.getD [])==['f','a','i','l'])=true->∃es k',Fe π (A.t+1) (cF π (ao d)) A.h A.k (.fail (ao d)) es k'/\B=aL ns (aF es k' (aT A))):=by
 induction w with
 |send=>exact⟨λ_=>rfl,λz=>absurd z ai,λz=>absurd z ai⟩
 |work a b=>exact⟨λz=>absurd z ai,λ_=>⟨_,_,_,_,a,b,rfl⟩,λz=>absurd z ai⟩
 |fail f=>exact⟨λz=>absurd z ai,λz=>absurd z ai,λ_=>⟨_,_,f,rfl⟩⟩
theorem De.det(nd:∀w,(π.kd w).Nodup)(w:De π ns A d B)(w':De π ns A d B'):B=B':=by
 induction w with
 |send=>exact(w'.inv.1 rfl).symm
 |@work m k0 l ps A2 eq wk=>
  refine(w'.inv.2.1 rfl).elim λk1 q=>ja q λl1 ps1 A3 eq1 wk1 e=>?_;haveI z:=lg (eq.symm.trans eq1);haveI y:=Jj z.1;haveI wk1:Wk π m k0 ps A l A3:=by rw [y.1,y.2,z.2];exact wk1
  rw [e,wk.det nd wk1]
 |fail f=>exact dI (w'.inv.2.2 rfl) λes k' f' e=>by rw [e,(f.det nd f').1,(f.det nd f').2]
theorem Dd.inv(h:Dd π σ d):(L9 d=true->π.isW (ao d)=some false/\LV (thr d))/\(LR d=true->π.isW (ao d)=some false)/\((oG (d.tpl.getD [])==['f','a','i','l'])=true->ao d∈σ.names):=by
 induction h with
 |send a b=>exact⟨λ_=>⟨a,b⟩,λz=>absurd z ai,λz=>absurd z ai⟩
 |work a=>exact⟨λz=>absurd z ai,λ_=>a,λz=>absurd z ai⟩
 |fail a=>exact⟨λz=>absurd z ai,λz=>absurd z ai,λ_=>a⟩
theorem De.row(w:De π ns A d B)(dd:Dd π σ d):∃(e:Evt) (tl:List Evt),B.ev=A.ev++e::tl/\Dr π σ d e.v:=by
 induction w with
 |@send m l=>exact⟨.sent m _ l,[],rfl,.send (dd.inv.1 rfl).1 (dd.inv.1 rfl).2⟩
 |work eq wk=>exact wk.ev1.elim λtl e=>⟨_,_,(congrArg (·++_) e).trans (an ..),.work (dd.inv.2.1 rfl)⟩
 |fail f=>exact f.hd.elim λtl e=>⟨_,tl++_,by rw [e];exact an ..,.fail (dd.inv.2.2 rfl)⟩
end
noncomputable abbrev lz(B:AH)(v:V)(e:Nat):Ad:=Cj B v (iY 7 v) (ao v) e
inductive Gh(π:PI)(v:V)(A:Ab):Prop
 |mk (B:AH) (e:Nat) (S:Hst) (H:AH):At π (lz B v e) S H->iU S=A->Gh π v A
section
variable {π:PI}{v d:V}{A A' B C:Ab}{σ σ':Ad}{B0:AH}{e N:Nat}{ns:List Nm}{r:Nm}{dd:V->Prop}
theorem Dd.of(h:Dd π σ d)(en:σ.names=σ'.names):Dd π σ' d:=by
 induction h with
 |send a b=>exact .send a b
 |work a=>exact .work a
 |fail a=>exact .fail (en▸a)
theorem gh0(h:Plan π v):Gh π v (aF ((nms 7 v).map .beg) (λ_=>[]) rj):=gC (P:=PL) (λ_ _ h=>h) (λ_ _ h=>h) (f29 (n:=0) (B:=[]) (Q:=λ_ _=>Gh π v (aF ((nms 7 v).map .beg) (λ_=>[]) rj)) (X:=λ_ _=>Gh π v (aF ((nms 7 v).map .beg) (λ_=>[]) rj)) h λe S H' A _ a=>⟨[],e,S,H',A,a⟩)
theorem Hp(iv:Iv π S)(h:(qS S m).isEmpty=false):π.isW m=some false:=by unfold qS at h;refine fS (o:=dX m S.qu) (λz=>?_) λx z=>(iv.qk m).mp (eS.mpr ⟨x,bZ z⟩);rw [z]at h;exact absurd h.symm ai
theorem z7(h:Hs σ S H)(iv:Iv π S):(ii S w).length<=S.ev.length:=by
 unfold ii;refine fS (o:=dX w S.kept) (λz=>?_) λx z=>?_
 ·rw [z];exact aY _
 ·rw [z];exact aa (h.kp _ (bZ z)).2.2 iv.gd.ll
structure Gi(π:PI)(A:Ab):Prop where
 lv:∀n,∀p∈A.q n,LV p.2
 ql:∀n,(A.q n).length<=A.lt
 ok:∀e∈A.ev,e.ok π
 qw:∀m,(A.q m).isEmpty=false->π.isW m=some false
 kl:∀w,(A.k w).length<=A.ev.length
theorem Gh.gi(g:Gh π v A):Gi π A:=g.rec λ_ _ S _ h e=>e▸⟨λ_=>Am h.iv,λ_=>wx h.hs,h.iv.nm,λ_=>Hp h.iv,λ_=>z7 h.hs h.iv⟩
structure Gs(π:PI)(v:V)(d:V)(A A':Ab):Prop where
 gh:Gh π v A'
 de:De π ((iY 7 v).map ao) A d A'
 lt:A'.lt<=A.lt+1
 le:A'.ev.length<=A.ev.length+8000
theorem gh1(h:Plan π v)(g:Gh π v A)(dd:Dd π (lz B0 v e) d)(hc:iR (ao v) A d=true)(hL:A.lt<=109)(hb:A.ev.length+8000<=900000):∃A',Gs π v d A A':=g.rec λB1 e1 S1 H1 a e=>by subst e;exact gC (P:=PL) (λ_ _ h=>h) (λ_ _ h=>h) (f22 (n:=0) (Q:=λ_ _=>∃A',Gs π v d (iU S1) A') (X:=λ_ _=>∃A',Gs π v d (iU S1) A') h.pl a (dd.of rfl) hL hb (λz=>absurd (z.symm.trans hc) ai) (λ_ _ S' H' a' l' b' d'=>⟨_,⟨_,_,S',H',a',rfl⟩,d',l',b'⟩) λ_ _ S' H' es a' l' b' d' _=>⟨_,⟨_,_,S',H',a',rfl⟩,d',l',b'⟩)
inductive Rn(π:PI)(v:V)(dd:V->Prop):Nat->Ab->Ab->Prop
 |nil {A:Ab}:Rn π v dd 0 A A
 |cons {N:Nat} {A B C:Ab} {d:V}:dd d->iR (ao v) A d=true->Gs π v d A B->Rn π v dd N B C->Rn π v dd (N+1) A C
theorem Rn.snoc(h:Rn π v dd N A B)(hd:dd d)(hc:iR (ao v) B d=true)(g:Gs π v d B C):Rn π v dd (N+1) A C:=by
 induction h with
 |nil=>exact .cons hd hc g .nil
 |cons a b c _ ih=>exact .cons a b c (ih hc g)
end
noncomputable abbrev NX(ns:List Nd)(nm:Nat->Nm):List Nm:=((sub ns 7 0).filter (Bm ns)).map nm
section
variable {σ:Ad}{S:Option Hst}{H:AH}{G0:List (Nat×O)}{ns:List Nd}{nm:Nat->Nm}{x y:Nd}{k j o r n b i N:Nat}{Q R:QE}{X:XE}{K:KS}{A A' T T' Af:Ab}{Y:List (Nat×O)}{ss:List St}{d v:V}{P:Prog}{C:Calls}{ρ:Fm}{z:Int}{zs:List Int}
theorem Gb(F:Fx σ G0 ns nm r o):(∀m∈((sub ns 7 0).filter (Bm ns)).map nm,(cC ns nm).isW m=some false)/\(((sub ns 7 0).filter (Bm ns)).map nm).length<=60:=by
 haveI oa:=gA F;refine⟨λm hm=>av (aK.mp hm) λk hk e=>?_,?_⟩
 ·have hk:=ca.mp hk;refine(⟨_,aO (oa.2.2.1 k hk.1)⟩:∃x,ns[k]? =some x).elim λx hx=>?_;have h2:=hk.2;unfold Bm at h2;rw [hx]at h2;rw [<-e,jm F.n hx];exact congrArg some (cu _▸h2)
 ·rw [ak];exact aa (dq _ _) oa.2.1
theorem G7(F:Fx σ G0 ns nm r o)(hm:m∈σ.names)(iw:(cC ns nm).isW m=some false):m∈((sub ns 7 0).filter (Bm ns)).map nm:=by rw [F.en]at hm;refine av (aK.mp hm) λk hk e=>aK.mpr ⟨k,ca.mpr ⟨hk,?_⟩,e⟩;refine(⟨_,aO ((gA F).2.2.1 k hk)⟩:∃x,ns[k]? =some x).elim λx hx=>?_;rw [<-e,jm F.n hx]at iw;unfold Bm;rw [hx];exact congrArg (!·) (aj iw)
theorem MQ(t:Tree ns):(sub ns 7 0).filter (Bm ns)≠[]:=λe=>c7 t.tr.top λx0 h0 _ _=>by
 haveI l0:=(af.mp h0).1;haveI ll:ns.length-1<ns.length:=Nat.sub_lt l0 Nat.one_pos;refine bl (e▸ca.mpr ⟨t.tr.all ll,?_⟩:ns.length-1∈[]);refine(⟨_,aO ll⟩:∃x,ns[ns.length-1]? =some x).elim λx hx=>?_;unfold Bm;rw [hx];show(!x.w)=true;cases hw:x.w with
 |false=>rfl
 |true=>refine(List.exists_mem_of_ne_nil _ (t.ne _ x hx hw)).elim λi hi=>dB (t.tr.inn _ x hx i hi) λy hy l _ _=>?_;exact absurd (af.mp hy).1 (iq.mpr (Nat.le_of_pred_lt l))
theorem wC{a:Ex}{x:V}{c f:Nat}(ha:Ev P C ρ H X a x)(k:C f [.ref (H.length+1),x] (H++[.ns [] [],.inst c H.length]) (λv H'=>v=.none/\Q (.ref (H.length+1)) H') X):cL P C (.new c f [a]) ρ H Q X:=ha _ k
theorem tF(F:Fx σ G0 ns nm r o)(w:WX σ G0 b ns.length nm T Y S H)(sm:Sm (cC ns nm) A T)(gi:Gi (cC ns nm) A)(ha:Ev PL (aQ PL (n+2)) ρ H X a (.int z))(hc:Ev PL (aQ PL (n+2)) ρ H X c (.lst ((NX ns nm).map V.str)))(hi:ρ[i]? =some (some (bV r ns nm o)))(hj:ρ[j]? =some (some (.ref (b+3))))(q:∀ds:List V,ds.length<=2->(∀v∈ds,Dd (cC ns nm) σ v)->Q (.lst ds) H):cL PL (aQ PL (n+2)) (.call 28 [a,c,.call 40 [.v i,.v j],.call 41 [.v i,.v j]]) ρ H Q X:=by haveI wa:=Gb F;refine kz ha hc (dP (ae hi) (ae hj) λQ q=>f35 (n:=n+1) F w q) (cQ (ae hi) (ae hj) (f36 (n:=n+1) F w (sm.q▸gi.lv) (f23 (n:=n) (σ:=σ) wa.1 (λz=>MQ F.t (pq.mp z)) (aa wa.2 (by decide)) (λm hm=>(ca.mp hm).1) (λm hm=>?_) (λm hm=>nf F.pl hm) q)));have hm:=ca.mp hm;haveI h2:=(ay.mp hm.2).2;rw [sm.q]at h2;exact G7 F hm.1 (gi.qw m (cu _▸h2))
end
structure Mw(σ:Ad)(G0:List (Nat×O))(b:Nat)(ns:List Nd)(nm:Nat->Nm)(A0 A:Ab)(N:Nat)(S:Option Hst)(T:Ab)(H:AH):Prop where
 w:WX σ G0 b ns.length nm T [] S H
 sm:Sm (cC ns nm) A T
 gh:Gh (cC ns nm) (bd ns nm 7 0) A
 rn:Rn (cC ns nm) (bd ns nm 7 0) (Dd (cC ns nm) σ) N A0 A
noncomputable def s42(zv hall ws:V)(b:Nat)(o4 o5:Option V):Fm:=[some zv,some hall,some (.ref (b+3)),some ws,o4,o5]
inductive PH(σ:Ad)(G0:List (Nat×O))(ns:List Nd)(nm:Nat->Nm)(A0:Ab)(b:Nat)(zv hall ws:V)(its:List Int)(ρ:Fm)(H:AH):Prop
 |mk (A T:Ab) (N:Nat) (o4 o5:Option V):ρ=s42 zv hall ws b o4 o5->Mw σ G0 b ns nm A0 A N none T H->A.lt+2*its.length<=100->A.ev.length+16000*its.length<=810000->PH σ G0 ns nm A0 b zv hall ws its ρ H
inductive PJ(σ:Ad)(G0:List (Nat×O))(ns:List Nd)(nm:Nat->Nm)(A0:Ab)(b:Nat)(zv hall ws c:V)(m:Nat)(ds:List V)(ρ:Fm)(H:AH):Prop
 |mk (A T:Ab) (N:Nat) (o5:Option V):ρ=s42 zv hall ws b (some c) o5->Mw σ G0 b ns nm A0 A N none T H->A.lt+(ds.length+2*m)<=100->A.ev.length+(8000*ds.length+16000*m)<=810000->(∀v∈ds,Dd (cC ns nm) σ v)->PJ σ G0 ns nm A0 b zv hall ws c m ds ρ H
theorem n1(h:a+(d+1+2*r)<=100)(e:b<=a+1):b+(d+2*r)<=100/\a<=109:=⟨eW h (eW e (by simp+arith only)),eW h (by simp+arith only)⟩
theorem n2(h:a+(8000*(d+1)+16000*r)<=810000)(e:b<=a+8000):b+(8000*d+16000*r)<=810000/\a+8000<=900000/\b+1100<=900000:=⟨eW h (eW e (by simp+arith only)),eW h (by simp+arith only),eW h (eW e (by simp+arith only))⟩
theorem n3(h:a+2*(r+1)<=100)(e:d<=2):a+(d+2*r)<=100:=eW h (eW e (by simp+arith only))
theorem n4(h:a+16000*(r+1)<=810000)(e:d<=2):a+(8000*d+16000*r)<=810000:=eW h (eW (br 8000 e) (by simp+arith only))
section
variable {σ:Ad}{S:Option Hst}{H:AH}{G0:List (Nat×O)}{ns:List Nd}{nm:Nat->Nm}{x y:Nd}{k j o r n b i N e:Nat}{Q R:QE}{X:XE}{K:KS}{A A' A0 T T' Af:Ab}{Y:List (Nat×O)}{ss:List St}{d v:V}{P:Prog}{C:Calls}{ρ:Fm}{z:Int}{zs:List Int}{B:AH}
theorem sm0:Sm π (aF es (λ_=>[]) rj) (aF es (λ_=>[]) rj):=⟨rfl,rfl,rfl,rfl,rfl,rfl,λ_ _=>rfl,λw=>by refine(?_:(es.foldl (kr w) []).length<=_);rw [nW,ite_self];exact aY _⟩
theorem Mw.did(F:Fx (lz B (bd ns nm 7 0) e) G0 ns nm r o)(M:Mw (lz B (bd ns nm 7 0) e) G0 b ns nm A0 A N S T H)(dd:Dd (cC ns nm) (lz B (bd ns nm 7 0) e) d)(hc:iR (ao (bd ns nm 7 0)) A d=true)(hL:A.lt<=109)(hb:A.ev.length+8000<=900000)(hb':∀{a},a<=A.ev.length+8000->a+1100<=900000)(q:∀A' T' H',Mw (lz B (bd ns nm 7 0) e) G0 b ns nm A0 A' (N+1) S T' H'->Gs (cC ns nm) (bd ns nm 7 0) d A A'->Q .none H'):aQ PL (n+6) 39 [bV r ns nm o,.ref (b+3),d] H Q X:=
 (gh1 (F.t.plan F.n) M.gh dd hc hL hb).elim λA' g=>f34 F M.w M.sm dd g.de (λn=>aa (M.gh.gi.ql n) (aa hL (by decide))) (hb' g.le) λT' H' w' s'=>q A' T' H' ⟨w',s',g.gh,M.rn.snoc dd hc g⟩ g
theorem Nt(F:Fx (lz B (bd ns nm 7 0) e) G0 ns nm r o)(hw:Hz (lz B (bd ns nm 7 0) e) G0 none H)(hz:zs.length<=63)(q:∀A T N H',Mw (lz B (bd ns nm 7 0) e) G0 H.length ns nm (aF ((nms 7 (bd ns nm 7 0)).map .beg) (λ_=>[]) rj) A N none T H'->A.lt<=100->A.ev.length<=810000->Q (.ref (H.length+3)) H'):aQ PL (n+8) 42 [.lst (zs.map V.int),bV r ns nm o] H Q X:=by
 haveI pn:=F.t.plan F.n;haveI en:(lz B (bd ns nm 7 0) e).names=nms 7 (bd ns nm 7 0):=fv (k:=7);refine c7 F.t.tr.top λx0 h0 _ _=>?_;have e0:ao (bd ns nm 7 0)=nm 0:=io h0;refine cf HO rfl (dU (gN (ae rfl) (f25 (n:=n+4) F hw λT0 H1 w1 e1=>⟨bQ rfl,?_⟩)));refine dU (gN (ae rfl) (f24 (n:=n+6) F.t (w1.gn F.g) (Hz.at w1 (aI _ F.o)) ⟨bQ rfl,?_⟩));haveI hz':(zs.map V.int).length<=aB:=aa (au (ak _)) (aa hz (by decide));haveI hc:(bB zs (iK (zs.map V.int).length 16) (zs.map V.int).length).length<=47:=by
  unfold bB iK;rw [eY,fM,ak];by_cases h:(16:Int)<zs.length
  ·rw [if_neg (by decide),if_pos h];exact aa (Nat.sub_le_sub_right (i0 _ _) _) (Nat.sub_le_of_le_add hz)
  ·rw [if_neg (by decide),if_neg h,rZ,EC];exact aY _
 refine eD (PH (lz B (bd ns nm 7 0) e) G0 ns nm (aF ((nms 7 (bd ns nm 7 0)).map .beg) (λ_=>[]) rj) H.length (.lst (zs.map V.int)) (bV r ns nm o) (.lst ((NX ns nm).map V.str))) (f:=V.int) (l:=bB zs (iK (zs.map V.int).length 16) (zs.map V.int).length) (iA (ae rfl) am am ((oO hz').trans (congrArg (λt=>some (V.lst t,H1)) xr))) (λ_ _ _ _=>rfl) (aa hc (by decide))
  (.mk (aF ((nms 7 (bd ns nm 7 0)).map .beg) (λ_=>[]) rj) T0 0 none none rfl ⟨w1,?_,gh0 pn,.nil⟩ ?_ ?_) (λc cs ρ' H' hI K' hK=>?_) λρ' H' hI=>?_
 ·rw [e1,en];exact sm0
 ·exact aa (au (dw _)) (aa (br 2 hc) (by decide))
 ·refine (?_:((nms 7 (bd ns nm 7 0)).map Evt.beg).length+_<=_);rw [ak];exact aa (bU pn.le (br 16000 hc)) (by decide)
 ·refine PH.rec (motive:=λ_=>a8 _ _ _ _ _ _ _ _) (λA T N o4 o5 eρ M hl hv=>?_) hI;subst eρ;refine nc (tF (n:=n+5) F M.w M.sm M.gh.gi (ae rfl) (ae rfl) rfl rfl λds hd dd=>?_);refine oY (rev:=false) (v:=.lst ds) (ss:=[]) (K:=K') (tgt:=.inl 5) (st:=λx ρ=>ρ.set 5 (some x)) (f:=λx=>x) (λ_ _=>rfl) (PJ (lz B (bd ns nm 7 0) e) G0 ns nm (aF ((nms 7 (bd ns nm 7 0)).map .beg) (λ_=>[]) rj) H.length (.lst (zs.map V.int)) (bV r ns nm o) (.lst ((NX ns nm).map V.str)) (.int c) cs.length) (l:=ds) (λ_ _ _ _=>congrArg some (jY ds).symm) (aa hd (by decide)) (.mk A T N o5 rfl M (n3 hl hd) (n4 hv hd) dd) (λv vs ρ' H' hJ K' hK=>?_) λρ' H' hJ=>?_
  ·refine PJ.rec (motive:=λ_=>a8 _ _ _ _ _ _ _ _) (λA T N o5 eρ M l2 v2 d2=>?_) hJ;subst eρ;have dd:=d2 v (.head _);have d3:∀v∈vs,Dd (cC ns nm) (lz B (bd ns nm 7 0) e) v:=λv hv=>d2 v (.tail _ hv);refine cU (fR (ae rfl) (ae rfl) (ae rfl) λQ q=>NF (n:=n+6) F M.w dd (M.sm.q▸M.gh.gi.lv) q) (λhc=>?_) λ_=>cH (hK _ _ (.mk A T N _ rfl M (n1 l2 (bf _)).1 (n2 v2 (ax _ _)).1 d3));exact dJ (iQ (ae rfl) (ae rfl) (ae rfl) (M.did (n:=n+1) F dd (by rw [e0,<-uS M.sm];exact hc) (n1 l2 (aM _)).2 (n2 v2 (aM _)).2.1 (λha=>(n2 v2 ha).2.2) λA' T' H' M' g=>cH (hK _ _ (.mk A' T' (N+1) _ rfl M' (n1 l2 g.lt).1 (n2 v2 g.le).1 d3))))
  ·exact PJ.rec (motive:=λ_=>K' ρ' H') (λA T N o5 eρ M l2 v2 _=>hK _ _ (.mk A T N _ o5 eρ M (dw (2*cs.length)▸l2) (dw (16000*cs.length)▸v2))) hJ
 ·exact PH.rec (motive:=λ_=>a8 _ _ _ _ _ _ _ _) (λA T N o4 o5 eρ M hl hv=>eρ▸bx (ae rfl) (q A T N H' M hl hv)) hI
end
section
variable {π:PI}{v d:V}{A A' A0 Af B C:Ab}{σ σ':Ad}{B0 H:AH}{e N n a:Nat}{ns:List Nm}{r:Nm}{Q:QE}{X:XE}{dd:V->Prop}
theorem De.lt(w:De π ns A d B):A.lt<=B.lt:=by
 induction w with
 |send=>exact bf _
 |work _ wk=>exact wk.rec (aM _) (λ_=>aM _) λ_=>aM _
 |fail _=>exact aM _
theorem Rn.le(h:Rn π v (Dd π σ) N A B):A.lt<=B.lt/\∃es,B.ev=A.ev++es:=by
 induction h with
 |nil=>exact⟨aM _,[],(aC _).symm⟩
 |cons dd _ g _ ih=>exact⟨aa g.de.lt ih.1,ih.2.elim λes e=>dI (g.de.row dd) λx tl e2 _=>⟨x::tl++es,by rw [e,e2,an]⟩⟩
theorem zf(h:l=p++x::es):(l.map Evt.v)[p.length]? =some x.v:=by rw [aV,h,b0 (aM _),EC];rfl
theorem zy(h:l=p++x::es):gH (.int p.length) (.int (l.map Evt.v).length)=false:=by refine beq_false_of_ne λz=>?_;rw [ak,h,ah]at z;exact dK (Cn (Es _)) (eV z)
def IR(v:V)(a i:Nat)(due:V)(pt:List Evt)(H:AH)(its:List Evt)(ρ:Fm)(H':AH):Prop:=∃(p:List Evt) (o5:Option V),ρ=[some v,some (.ref a),some (.ref i),some due,some (ni p.length),o5]/\H'=H/\p++its=pt
inductive JR(π:PI)(v:V)(H:AH)(e a:Nat)(Af:Ab)(N:Nat)(ρ:Fm)(H':AH):Prop
 |mk (S:Hst) (pre es:List Evt) (o5:Option V):ρ=[some v,some (.ref a),some (.ref (H.length+1)),some (.lst (es.map Evt.v)),some (ni pre.length),o5]->At π (lz H v e) S H'->(iU S).ev=pre++es->Rn π v (Dd π (lz H v e)) N (iU S) Af->JR π v H e a Af N ρ H'
theorem yr(pn:Plan π v)(nd:∀w,(π.kd w).Nodup)(rn:Rn π v (Dd π (lz B0 v e)) N (aF ((nms 7 v).map .beg) (λ_=>[]) rj) Af)(gi:Gi π Af)(ha:H[a]? =some (.list (Af.ev.map Evt.v)))(hL:Af.lt<=100)(hb:Af.ev.length<=810000)(q:∀e S H',At π (lz H v e) S H'->iU S=Af->Q (.tup [.ref (H.length+1),.none]) H'):aQ PL (n+38) 12 [v,.ref a] H Q X:=by
 refine cf yV rfl (dU (wC (ae rfl) (f29 (n:=n+28) pn λe1 S1 H1 A1 l1 a1=>⟨rfl,bQ rfl,?_⟩)));have le:∀{l:List Evt},(∃es,Af.ev=l++es)->l.length<=810000:=λ{l} z=>z.elim λes z=>aa (z▸eO) hb;have hA:∀{S H'},At π (lz H v e1) S H'->H'[a]? =some (.list (Af.ev.map Evt.v)):=λh=>(h.hs.fix _ (Mv (rB ha))).1;have rn1:Rn π v (Dd π (lz H v e1)) N (iU S1) Af:=a1.symm▸rn.rec .nil λd c g _ ih=>.cons (d.of rfl) c g ih;refine bp (jy A1.hs rfl rfl λQ q=>f46 (n:=n+36) A1.hs (aa l1 (by decide)) q) (bQ rfl) (bp am (bQ rfl) ?_);refine l6 (JR π v H e1 a Af) (N:=N) (λN' ρ' H' hI=>hI.rec λS pre es o5 eρ A' ev rn=>⟨true,am,λ_ K' hK=>?_,λz=>absurd z.symm ai⟩) (.mk S1 [] S1.ev none rfl A1 rfl rn1);subst eρ;have l2:=rn.le;have lS:S.ev.length<=810000:=le l2.2;haveI el:(es.map Evt.v).length<=aB:=by rw [ak];refine aa ?_ (aa lS (by decide));rw [show S.ev=pre++es from ev,ah];exact bL _ _
 refine eD (IR v a (H.length+1) (.lst (es.map Evt.v)) S.ev H') (f:=Evt.v) (l:=es) (ae rfl) (λ_ _ _ _=>rfl) (ak Evt.v▸el) ⟨pre,o5,rfl,rfl,ev.symm⟩ (λx xs ρ' H2 hI K' hK=>di hI λp o5 eρ eH ep=>?_) λρ' H2 hI=>di hI λp o5 eρ eH ep=>?_
 ·subst eρ;subst eH;haveI e2:∃r,Af.ev=p++x::r:=l2.2.elim λr z=>⟨xs++r,by rw [z,show(iU S).ev=S.ev from rfl,<-ep,an];rfl⟩;refine e2.elim λr e2=>bK (fK (s:=false) (t:=false) (aq (ae rfl) (bY (ae rfl) (fL (hA A'))) ((ft b7 b7).trans (by rw [zy e2]))) λ_=>c9 (s:=true) (dP (aq (ae rfl) (ae rfl) (ji (hA A') (zf e2))) (ae rfl) λQ q=>Io (n:=n+34) (Lq (gi.ok x (e2▸az _ (.head _)))) q)) (bp (aq (ae rfl) am dN) (bQ rfl) (cH (hK _ _ ⟨p++[x],some x.v,?_,rfl,(an ..).trans ep⟩)));rw [ah];rfl
 subst eρ;subst eH;have ep:p=S.ev:=(aC p).symm.trans ep;subst ep;generalize eA:iU S=A at rn;cases rn with
 |nil=>exact cV (aq (ae rfl) (bY (ae rfl) (fL (hA A'))) ((ft b7 b7).trans (by rw [<-eA,ak,show(iU S).ev=S.ev from rfl,fH (.int _) rfl]))) (bx (aq (ae rfl) am (eM fx)) (q e1 S _ A' eA))
 |@cons N' _ B _ d dd hc g rn'=>
  subst eA;refine dI (g.de.row dd) λx tl ex dr=>rn'.le.2.elim λr2 er=>?_;have e3:Af.ev=S.ev++x::(tl++r2):=by rw [er,ex,an];rfl
  refine bK (aq (ae rfl) (bY (ae rfl) (fL (hA A'))) ((ft b7 b7).trans (by rw [zy e3]))) (dU (cQ (x:=.ref (H.length+1)) (y:=x.v) (ae rfl) (aq (ae rfl) (ae rfl) (ji (hA A') (zf e3))) (GO (σ:=lz H v e1) (S:=S) (v:=x.v) (d:=d) (n:=n+1) pn.pl A' dr (aa l2.1 (aa hL (by decide))) (aa (aZ lS _) (by decide)) (λz=>absurd (z.symm.trans hc) ai) λ_ S2 H2 es2 A2 l3 v3 d3 ev3=>⟨bQ rfl,?_⟩)));have Nj:∀y∈x::tl,y.ok π:=λy hy=>gi.ok y (by rw [er,ex];exact aI _ (az _ hy));have eB:=d3.det nd g.de;have e4:es2=x::tl:=lW (ev3.symm.trans ((congrArg Ab.ev eB).trans ex));subst e4;refine bK (aq (ae rfl) (aR rfl) ((ft (lu (yO Nj)) jO).trans rfl)) (cH (hK _ _ N' (da _) (.mk S2 S.ev (x::tl) _ rfl A2 ev3 (eB.symm▸rn'))))
end
section
variable {π:PI}{v d:V}{A A' A0 Af B C:Ab}{σ σ':Ad}{B0 H:AH}{e N n a:Nat}{ns:List Nm}{r:Nm}{Q R:QE}{X:XE}{K:KS}{dd:V->Prop}{ρ:Fm}{P:Prog}{ss:List St}
theorem Mo(pn:Plan π v)(nd:∀w,(π.kd w).Nodup)(rn:Rn π v (Dd π (lz B0 v e)) N (aF ((nms 7 v).map .beg) (λ_=>[]) rj) Af)(gi:Gi π Af)(ha:H[a]? =some (.list (Af.ev.map Evt.v)))(hL:Af.lt<=100)(hb:Af.ev.length<=810000)(q:∀e S H',At π (lz H v e) S H'->iU S=Af->Q (.ref (H.length+1)) H'):aQ PL (n+39) 14 [v,.ref a] H Q X:=
 cf yZ rfl (nR (cQ (ae rfl) (ae rfl) (yr (n:=n) pn nd rn gi ha hL hb λe S H' A' eA=>(bK (aR rfl) (bx (ae rfl) (q e S H' A' eA)):a8 PL (aQ PL (n+38)) (F4.body.drop 1) [some v,some (.ref a),some (.ref (H.length+1)),some .none] H' _ Q X))))
def Jw(v:V):Prop:=(∃vs,v=.tup vs/\vs.length≠6)\/v=.none\/∃vs,v=.lst vs
theorem Gm(h:Jw v)(q:Q (.bool false) H):aQ PL (n+2) 5 [v] H Q X:=by
 refine cf Fs rfl (cV (c9 (s:=false) (dF (ae rfl) λQ q=>?_)) (bx am q));refine h.elim (λh=>av h λvs e hl=>?_) λh=>h.elim (λe=>?_) λh=>h.elim λvs e=>?_
 ·subst e;refine cf sg rfl (cV (fK (s:=false) (t:=true) (aR rfl) λ_=>du (fK (s:=true) (t:=true) (aq (bY (ae rfl) nQ) am ((jf b7 b7).trans ?_)) λz=>absurd z.symm ai) rfl) (bx am q));rw [show gH (.int vs.length) (.int 6)=false from beq_false_of_ne λz=>hl (eV z)];rfl
 ·subst e;exact cf sg rfl (cV (aR rfl) (bx am q))
 ·subst e;exact cf sg rfl (cV (fK (s:=true) (t:=true) (aR rfl) λz=>absurd z.symm ai) (bx am q))
theorem JK(h:Jw v)(x:∀H',X 1 H'):aQ PL (n+3) 47 [.ref i,v] H Q X:=cf Bq rfl (cV (c9 (s:=false) (dF (ae rfl) λQ q=>Gm (n:=n) h q)) (x _))
theorem Bb(h:Jw v)(x:∀H',X 1 H'):aQ PL (n+4) 12 [v,w] H Q X:=cf yV rfl (dU (wC (ae rfl) (JK (n:=n) h x)))
theorem vZ{C:Calls}(h:cL P C ex ρ H (λ_ H'=>a8 P C ss ρ H' K R X) (λc H'=>(P.sub c c&&P.sub c cls)=true/\∃z,ρ[i]? =some (some (.int z))/\a8 P C ss ((ρ.set i (some (.int (z+if P.sub c dc then 1 else 0)))).set x none) H' K R X)):a8 P C (.tryI ex cls i x dc::ss) ρ H K R X:=h
theorem Mp(h:Jw v)(q:∀H',Q (.bool true) H'):aQ PL (n+6) 44 [v,w] H Q X:=by refine cf HN rfl (bp am (bQ rfl) (vZ (cQ (ae rfl) (ae rfl) (cf yZ rfl (nR (cQ (ae rfl) (ae rfl) (Bb (n:=n) h λH1=>⟨rfl,0,rfl,?_⟩)))))));exact vZ (cQ (ae rfl) (ae rfl) (cf Gx rfl (iM (yM (cQ (ae rfl) (ae rfl) (Bb (n:=n) h λH1=>⟨rfl,1,rfl,bx (aR rfl) (q _)⟩))))))
end
noncomputable def iJ(L:Nat)(z:Int):List Nd:=[⟨L+1,L,-1,true,1,[1,2],z%3+3*21⟩,⟨L+4,L+3,0,false,2,[],1⟩,⟨L+6,L+5,0,false,2,[],0⟩]
noncomputable def N4(L:Nat):List O:=[.list [.int 1,.int 2],.dict uy [.int (-1),.bool true,.ref L],.list [.ref (L+1),.ref (L+4),.ref (L+6)],.list [],.dict uy [.int 0,.bool false,.ref (L+3)],.list [],.dict uy [.int 0,.bool false,.ref (L+5)],.list [.int 0,.int 1,.int 2]]
section
variable {L:Nat}{z:Int}{n:Nat}{B:AH}{Y:List O}{Q R:QE}{X:XE}{K:KS}{zs:List Int}{nm:Nat->Nm}{P:Prog}{C:Calls}{ρ:Fm}
theorem vQ:(z%3+3*21)/3=21/\zh (z%3+3*21)=zh z:=by
 have h:=gM (a:=z) (b:=3) (by decide);refine⟨?_,?_⟩
 ·rw [Int.add_mul_ediv_left _ _ (by decide),Int.ediv_eq_zero_of_lt h.1 h.2];rfl
 ·unfold zh;rw [Int.add_mul_emod_self_left,Int.emod_emod]
theorem bdG:bd (iJ L z) nm (f+2) 0=j6 (nm 0) (zh z) 1000000000 1000000000 [nE (nm 1) ['f','a','u','l','t','e','d'],nE (nm 2) ['a','l','w','a','y','s']]:=by
 have e:(z%3+3*21)/24=2:=by rw [show(24:Int)=3*8 from rfl,<-Int.ediv_ediv_of_nonneg (by decide),vQ.1];rfl
 refine(?_:j6 (nm 0) (zh (z%3+3*21)) (y6 0 (z%3+3*21)) (Ji ((z%3+3*21)/24)) _=_);unfold y6;rw [vQ.1,vQ.2,e];rfl
theorem Le{G:Nat->Nd->Prop}(h:(iJ L z)[i]? =some x)(h0:G 0 ⟨L+1,L,-1,true,1,[1,2],z%3+3*21⟩)(h1:G 1 ⟨L+4,L+3,0,false,2,[],1⟩)(h2:G 2 ⟨L+6,L+5,0,false,2,[],0⟩):G i x:=by
 match i,h with
 |0,h=>exact aj h▸h0
 |1,h=>exact aj h▸h1
 |2,h=>exact aj h▸h2
theorem AF:Tree (iJ L z):=by
 refine⟨⟨⟨_,rfl,rfl,rfl⟩,λi x h=>?_,λi x h=>?_,λj y h=>?_,λj y h=>?_⟩,aG rfl,λi x h=>?_⟩
 ·exact Le (G:=λi x=>i=0->x.up=-1) h (λ_=>rfl) (λz=>nomatch z) λz=>nomatch z
 ·exact Le (G:=λi x=>0<i->∃(j:Nat) (y:Nd),(iJ L z)[j]? =some y/\j<i/\x.up=j/\i∈y.inner) h (λz=>absurd z (c5 0)) (λ_=>⟨0,_,rfl,by decide,rfl,.head _⟩) λ_=>⟨0,_,rfl,by decide,rfl,.tail _ (.head _)⟩
 ·exact Le (G:=λj y=>∀i∈y.inner,∃x,(iJ L z)[i]? =some x/\j<i/\x.up=j/\x.deep=y.deep+1) h (d0 ⟨_,rfl,by decide,rfl,rfl⟩ (dz ⟨_,rfl,by decide,rfl,rfl⟩)) qA qA
 ·exact Le (G:=λ_ y=>Lim y) h ⟨aG rfl,(by decide:[1,2].Nodup),aG rfl,λz=>nomatch z⟩ ⟨aY _,cc,aG rfl,λ_=>rfl⟩ ⟨aY _,cc,aG rfl,λ_=>rfl⟩
 ·exact Le (G:=λ_ x=>x.w=true->x.inner≠[]) h (λ_=>lV _ _) (λz=>nomatch z) λz=>nomatch z
theorem gmG:GM (B.length+2) (iJ B.length z) (B++N4 B.length):=⟨λx=>.dict uy (LF x),λx=>⟨_,_,rfl,λ_ _ e=>e⟩,d0 (iz (j:=2)) (d0 (iz (j:=0)) (d0 (iz (j:=1)) (d0 (iz (j:=3)) (d0 (iz (j:=4)) (d0 (iz (j:=5)) (dz (iz (j:=6))))))))⟩
theorem Bs(ha:Ev P C ρ (B++Y) X a (.int u))(hb:Ev P C ρ (B++Y) X b (.bool t))(hl:∀Q:QE,Q (.ref (B++Y).length) (B++Y++[O.list l])->cL P C (.p true .l es) ρ (B++Y) Q X)(q:R (.ref (B.length+(Y.length+1))) (B++(Y++[O.list l,.dict uy [.int u,.bool t,.ref (B.length+Y.length)]]))):cL P C (.p true (.d uy) [a,b,.p true .l es]) ρ (B++Y) R X:=by refine ha _ (hb _ (hl _ (show hM (be P true (.d uy) [.int u,.bool t,.ref (B++Y).length] (B++Y++[O.list l])) R from hE (v:=.ref (B++Y++[O.list l]).length) (H':=B++Y++[O.list l]++[.dict uy [.int u,.bool t,.ref (B++Y).length]]) rfl ?_)));rw [ah,ah,bD,an,an];exact q
theorem vI(er:r=B.length+j)(hr:ρ[4]? =some (some (.ref r)))(hj:Y[j]? =some (O.list l))(hl:l.length<=9)(q:a8 P C ss ρ (B++((Y++[O.list [],.dict uy [.int 0,.bool false,.ref (B.length+Y.length)]]).set j (O.list (l++[.ref (B.length+(Y.length+1))])))) K R X):a8 P C (.e (.n .list false .append (.v 4) [.p true (.d uy) [.c (.int 0),.c (.bool false),.p true .l []]])::ss) ρ (B++Y) K R X:=by subst er;refine dJ (?_:cL _ _ (.n _ _ _ _ _) _ _ _ _);refine ae (P:=P) (C:=C) (X:=X) hr (λv H₁=>ly H₁ v .list=true/\gc P C [_] ρ H₁ (λvs H'=>hM (be P false .append (v::vs) H') _) X) ⟨fb (iz.trans hj),?_⟩;refine(?_:cL P C (.p true (.d uy) [.c (.int 0),.c (.bool false),.p true .l []]) ρ (B++Y) (λv H'=>hM (be P false .append [.ref (B.length+j),v] H') λ_ H'=>a8 P C ss ρ H' K R X) X);refine Bs am am (λQ q=>jS q) (hE (fh (iz.trans (dt hj)) (aa hl (by decide))) ?_);rw [FC];exact q
theorem Np{Q:List V->AH->Prop}(k:cL P C e ρ H (λv H'=>Q [v] H') X):gc P C [e] ρ H Q X:=k
theorem Hr(q:Q (.ref H.length) (H++[O.list [.int 0,.int 1,.int 2]])):cL P C (.p true .l [.c (.int 0),.c (.int 1),.c (.int 2)]) ρ H Q X:=show hM (be P true .l [.int 0,.int 1,.int 2] H) Q from hE (ky zE) q
theorem Oo(q:∀nm z,Nms 3 nm->Q (bV (B.length+2) (iJ B.length z) nm (B.length+7)) (B++N4 B.length)):aQ PL (n+2) 45 [.lst (zs.map V.int)] B Q X:=by
 refine cf Gw rfl (dU (cQ (dP (ae rfl) am λQ q=>Ci (n:=n) (by decide) q) am (f12 (n:=n) (m:=3) (by decide) λnm N=>⟨bQ rfl,?_⟩)));generalize hz:zs.getD (2:Int).toNat 0=z;refine bp (aR rfl) (bQ rfl) (bp (v:=bd (iJ B.length z) nm 7 0) (du (nu (dG am (dG (aR rfl) (dG (aq (x:=.lst (fT.map V.str)) (aR rfl) (aq (dP (ae rfl) am λQ q=>Ci (n:=n) (by decide) (hz▸q)) am (cI (by decide))) (jU (l:=fT) (L:=3) [] rfl (by decide)).1) (dG (aR rfl) (dG (aR rfl) (dG (ae rfl) nD)))))) (eM (aG rfl))) bdG.symm) (bQ rfl) ?_);refine(?_:a8 PL (aQ PL (n+1)) (DS.body.drop 3) [some (.lst (zs.map V.int)),some (nw nm 3),some (.tup [nE (nm 1) ['f','a','u','l','t','e','d'],nE (nm 2) ['a','l','w','a','y','s']]),some (bd (iJ B.length z) nm 7 0),none,none] B _ Q X);have q1:=q nm z N;unfold bV at q1;rw [show M7 (iJ B.length z) nm=[bd (iJ B.length z) nm 7 0,nE (nm 1) ['f','a','u','l','t','e','d'],nE (nm 2) ['a','l','w','a','y','s']]from rfl]at q1;generalize bd (iJ B.length z) nm 7 0=pv at q1 ⊢;have key:a8 PL (aQ PL (n+1)) (DS.body.drop 3) [some (.lst (zs.map V.int)),some (nw nm 3),some (.tup [nE (nm 1) ['f','a','u','l','t','e','d'],nE (nm 2) ['a','l','w','a','y','s']]),some pv,none,none] (B++[]) (λ_ H'=>Q .none H') Q X:=by refine dU (mX (Bs (Y:=[]) (bY am mV) am (l:=[.int 1,.int 2]) (λQ q=>(hE (ky fx) q:hM (be PL true .l [.int 1,.int 2] (B++[])) Q)) (hE (ky xy) ⟨bQ rfl,?_⟩)));rw [ah,an B];refine nc (bY am (fj ⟨by decide,by decide⟩) _ ⟨[.int 0,.int 1],rfl,by decide,rfl,vI (j:=2) rfl rfl rfl (aG rfl) ⟨rfl,vI (j:=2) rfl rfl rfl (aG rfl) ⟨rfl,?_⟩⟩⟩);refine iM (show gc PL (aQ PL (n+1)) [_,_,_,_,_] _ _ _ _ from ae (P:=PL) (C:=aQ PL (n+1)) (X:=X) (v:=.ref (B.length+2)) rfl _ (ae (P:=PL) (C:=aQ PL (n+1)) (X:=X) (v:=nw nm 3) rfl _ (aR (P:=PL) (C:=aQ PL (n+1)) (X:=X) (v:=.lst [pv,nE (nm 1) ['f','a','u','l','t','e','d'],nE (nm 2) ['a','l','w','a','y','s']]) rfl _ (ae (P:=PL) (C:=aQ PL (n+1)) (X:=X) (v:=pv) rfl _ ?_))));refine Np (Hr ?_);rw [ah,an B];exact hE rfl q1
 rw [aC]at key;exact key
end
noncomputable def ES(zv hall:V)(b a i:Nat)(sz:Nat)(o3 o9 o10 o11 o12 o13:Option V):Fm:=[some zv,some hall,some (.ref (b+3)),o3,none,none,some (.ref a),some (.ref i),some (ni sz),o9,o10,o11,o12,o13]
structure W13(σ:Ad)(G0:List (Nat×O))(b:Nat)(ns:List Nd)(nm:Nat->Nm)(Y:List (Nat×O))(S:Hst)(T:Ab)(H:AH):Prop where
 w:WX σ G0 b ns.length nm T Y (some S) H
 iv:Iv (cC ns nm) S
 sm:Sm (cC ns nm) (iU S) T
section
variable {σ:Ad}{S S':Hst}{H:AH}{G0 Y:List (Nat×O)}{ns:List Nd}{nm:Nat->Nm}{x y:Nd}{k j o r n b i N e a sz:Nat}{Q R:QE}{X:XE}{K:KS}{A A' A0 T T' Af:Ab}{ss:List St}{d v zv:V}{P:Prog}{C:Calls}{ρ:Fm}{z:Int}{zs:List Int}{B:AH}{o3 o9 o10 o11 o12 o13:Option V}
theorem JT(dd:Dd π σ d)(h:ρ[i]? =some (some d)):Ev P C ρ H X (.p false (.cop .eq) [.p false .i [.v i,.c (.int 0)],.c (.str ['s','e','n','d'])]) (.bool (L9 d)):=by
 induction dd with
 |send _ _=>exact aq (aq (ae h) am rfl) am rfl
 |work _=>exact aq (aq (ae h) am rfl) am rfl
 |fail _=>exact aq (aq (ae h) am rfl) am rfl
theorem wT(F:Fx σ G0 ns nm r o)(w:WX σ G0 b ns.length nm T Y (some S') H)(iv:Iv (cC ns nm) S')(sm:Sm (cC ns nm) A T)(gi:Gi (cC ns nm) A)(dd:Dd (cC ns nm) σ d)(hc:iR (nm 0) A d=true)(de:De (cC ns nm) σ.names A d (iU S'))(hL:S'.letters<=110)(hb:S'.ev.length+1100<=900000)
  (hv:if L9 d=true then v=ni S'.letters else ∃es,v=.lst (es.map Evt.v)/\S'.ev=A.ev++es)
  (q:∀T' H' o12 o13,W13 σ G0 b ns nm Y S' T' H'->K (ES zv (bV r ns nm o) b a σ.i sz o3 o9 (some d) (some v) o12 o13) H'):a8 PL (aQ PL (n+36)) ((xu ((xu (rW.body.getD 9 .pass)).getD 1 .pass)).drop 1) (ES zv (bV r ns nm o) b a σ.i sz o3 o9 (some d) (some v) o12 o13) H K R X:=by
 have hA:∀n,(A.q n).length<=999:=λn=>aa (gi.ql n) (aa (aa de.lt hL) (by decide));refine bK (c9 (s:=true) (fR (ae rfl) (ae rfl) (ae rfl) λQ q=>NF (n:=n+35) F w dd (sm.q▸gi.lv) (by rw [uS sm,hc];exact q))) (bp (v:=.int (A.ev.map Evt.v).length) (bY (eX w rfl rfl) (sm.ev▸fL (w.at 5 rfl))) (bQ rfl) (dJ (iQ (ae rfl) (ae rfl) (ae rfl) (f34 (n:=n+30) F w sm dd de hA hb λT' H' w' s'=>?_))));haveI tl:(T'.ev.map Evt.v).length<=aB:=by rw [ak,s'.ev];exact aa (ax _ _) (aa hb (by decide))
 have e5:T'.ev=S'.ev:=s'.ev;have same:∀{ρ X},ρ[1]? =some (some (bV r ns nm o))->ρ[2]? =some (some (.ref (b+3)))->ρ[7]? =some (some (.ref σ.i))->Ev PL (aQ PL (n+36)) ρ H' X (.p false .not [.call 43 [.v 1,.v 2,.v 7]]) (.bool false):=λh1 h2 h7=>c9 (s:=true) (fR (ae h1) (ae h2) (ae h7) λQ q=>f43 (n:=n+32) F w' iv s' hL (aa (ax _ _) hb) q);refine bp (iA (eX w' rfl rfl) (ae rfl) am (rS (w'.at 5 rfl) tl)) (bQ rfl) (cU (JT dd rfl) (λhs=>?_) λhs=>?_)
 ·rw [if_pos hs]at hv;subst hv;refine bp (eX w' rfl rfl) (bQ rfl) (cH (bK (fK (s:=false) (t:=false) (aq (ae rfl) (ae rfl) ((jf b7 b7).trans ?_)) λ_=>same rfl rfl rfl) (cH (cH (q T' H' _ _ ⟨w',iv,s'⟩)))));rw [show(T'.lt:Int)=S'.letters from congrArg Nat.cast s'.lt,fH (.int _) rfl];rfl
 ·rw [if_neg (by rw [hs];exact ai)]at hv;refine av hv λes ev e6=>?_;subst ev;have ok:Dt (es.map Evt.v):=yO (π:=cC ns nm) λx hx=>iv.nm x (e6▸az _ hx);have e7:bB (T'.ev.map Evt.v) (iK (T'.ev.map Evt.v).length (A.ev.map Evt.v).length) (T'.ev.map Evt.v).length=es.map Evt.v:=by rw [e5,e6,aJ,qY]
  refine cH (bK (fK (s:=false) (t:=false) (aq (ae rfl) (ae rfl) (qZ ok (lu ok) (by rw [e7];exact lu ok))) λ_=>same rfl rfl rfl) (cH (cH (q T' H' _ _ ⟨w',iv,s'⟩))))
theorem Gu(F:Fx σ G0 ns nm r o)(W:W13 σ G0 b ns nm Y S T H)(dd:Dd (cC ns nm) σ d)(hL:S.letters<=109)(hb:S.ev.length+8000<=900000/\∀a,a<=S.ev.length+8000->a+1100<=900000)(q:∀S' T' H' o11 o12 o13,W13 σ G0 b ns nm Y S' T' H'->S'.letters<=S.letters+1->S'.ev.length<=S.ev.length+8000->K (ES zv (bV r ns nm o) b a σ.i sz o3 o9 (some d) o11 o12 o13) H') :
  a8 PL (aQ PL (n+36)) (xu ((xu (rW.body.getD 9 .pass)).getD 1 .pass)) (ES zv (bV r ns nm o) b a σ.i sz o3 o9 (some d) o11 o12 o13) H K R X:=by
 refine c7 F.t.tr.top λx0 h0 _ _=>?_;have e0:ao σ.plan=nm 0:=F.ep▸io h0;have h:Hs (iC σ (G0++(wN b ns.length nm T++Y))) S H:=W.w;have gi:Gi (cC ns nm) (iU S):=⟨λn=>Am W.iv,λn=>wx h,W.iv.nm,λ_=>Hp W.iv,λ_=>z7 h W.iv⟩;have lS:∀{S':Hst},S'.letters<=S.letters+1->S'.letters<=110:=λh=>aa h (aA hL);refine dU (cQ (ae rfl) (ae rfl) (f22 (σ:=iC σ (G0++(wN b ns.length nm T++Y))) (n:=n+1) F.pl.g ⟨h,W.iv⟩ dd.g hL hb.1 (λhc=>⟨bQ rfl,?_⟩) (λhc sd S' H' A' l' v' de=>⟨bQ rfl,?_⟩) λhc sd S' H' es A' l' v' de ev=>⟨bQ rfl,?_⟩))
 ·exact cV (c9 (s:=false) (fR (ae rfl) (ae rfl) (ae rfl) λQ q=>NF (n:=n+35) F W.w dd (W.sm.q▸gi.lv) (by rw [uS W.sm,<-e0];exact hc.symm▸q))) (bK (aR rfl) (cH (cH (q S T H _ _ _ W (bf _) (ax _ _)))))
 ·exact wT F (S':=S') A'.hs A'.iv W.sm gi dd (e0▸hc) de (lS l') (hb.2 _ v') (by rw [if_pos sd]) λT' H' o12 o13 W'=>q S' T' H' _ o12 o13 W' l' v'
 ·exact wT F (S':=S') A'.hs A'.iv W.sm gi dd (e0▸hc) de (lS l') (hb.2 _ v') (by rw [if_neg (by rw [sd];exact ai)];exact⟨es,rfl,ev⟩) λT' H' o12 o13 W'=>q S' T' H' _ o12 o13 W' l' v'
end
inductive PR(σ:Ad)(G0:List (Nat×O))(ns:List Nd)(nm:Nat->Nm)(zv hall:V)(b a sz:Nat)(Y:List (Nat×O))(its:List Nat)(ρ:Fm)(H:AH):Prop
 |mk (S:Hst) (T:Ab) (o3 o9 o10 o11 o12 o13:Option V):ρ=ES zv hall b a σ.i sz o3 o9 o10 o11 o12 o13->W13 σ G0 b ns nm Y S T H->S.letters+2*its.length<=109->S.ev.length+16000*its.length<=880000->(∀k∈its,k<=9)->PR σ G0 ns nm zv hall b a sz Y its ρ H
inductive PD(σ:Ad)(G0:List (Nat×O))(ns:List Nd)(nm:Nat->Nm)(zv hall:V)(b a sz:Nat)(Y:List (Nat×O))(o3 o9:Option V)(m:Nat)(ds:List V)(ρ:Fm)(H:AH):Prop
 |mk (S:Hst) (T:Ab) (o10 o11 o12 o13:Option V):ρ=ES zv hall b a σ.i sz o3 o9 o10 o11 o12 o13->W13 σ G0 b ns nm Y S T H->S.letters+(ds.length+2*m)<=109->S.ev.length+(8000*ds.length+16000*m)<=880000->(∀v∈ds,Dd (cC ns nm) σ v)->PD σ G0 ns nm zv hall b a sz Y o3 o9 m ds ρ H
theorem n5(h:a+(d+1+2*r)<=109)(e:b<=a+1):b+(d+2*r)<=109/\a<=109:=⟨eW h (eW e (by simp+arith only)),eW h (by simp+arith only)⟩
theorem n6(h:a+(8000*(d+1)+16000*r)<=880000)(e:b<=a+8000):b+(8000*d+16000*r)<=880000/\a+8000<=900000/\b+1100<=900000:=⟨eW h (eW e (by simp+arith only)),eW h (by simp+arith only),eW h (eW e (by simp+arith only))⟩
theorem n7'(h:a+2*(r+1)<=109)(e:d<=2):a+(d+2*r)<=109:=eW h (eW e (by simp+arith only))
theorem n8(h:a+16000*(r+1)<=880000)(e:d<=2):a+(8000*d+16000*r)<=880000:=eW h (eW (br 8000 e) (by simp+arith only))
section
variable {σ:Ad}{S S':Hst}{H:AH}{G0 Y:List (Nat×O)}{ns:List Nd}{nm:Nat->Nm}{x y:Nd}{k j o r n b i N e a sz:Nat}{Q R:QE}{X:XE}{K:KS}{A A' A0 T T' Af:Ab}{ss:List St}{d v zv:V}{P:Prog}{C:Calls}{ρ:Fm}{z:Int}{zs:List Int}{B:AH}{o3 o9 o10 o11 o12 o13:Option V}
theorem FT(F:Fx σ G0 ns nm r o)(W:W13 σ G0 b ns nm Y S T H)(hL:S.letters<=100)(hb:S.ev.length<=810000)(q:∀S T H' o3 o9 o10 o11 o12 o13,W13 σ G0 b ns nm Y S T H'->a8 PL (aQ PL (n+36)) (rW.body.drop 10) (ES (.lst (zs.map V.int)) (bV r ns nm o) b a σ.i sz o3 o9 o10 o11 o12 o13) H' K R X) :
  a8 PL (aQ PL (n+36)) (rW.body.drop 9) (ES (.lst (zs.map V.int)) (bV r ns nm o) b a σ.i sz o3 none none none none none) H K R X:=by
 refine eD (PR σ G0 ns nm (.lst (zs.map V.int)) (bV r ns nm o) b a sz Y) (f:=ni) (l:=[0,1,2,3]) (v:=.rng 0 4) (bY am (fj ⟨by decide,by decide⟩)) (λ_ _ _ _=>rfl) (by decide) (.mk S T o3 none none none none none rfl W (aa (aZ hL 8) (by decide)) (aa (aZ hb 64000) (by decide)) (by decide)) (λk ks ρ' H' hI K' hK=>?_) λρ' H' hI=>?_
 ·refine PR.rec (motive:=λ_=>a8 _ _ _ _ _ _ _ _) (λS T o3 o9 o10 o11 o12 o13 eρ W hl hv hk=>?_) hI;subst eρ;have h:Hs (iC σ (G0++(wN b ns.length nm T++Y))) S H':=W.w;have gi:Gi (cC ns nm) (iU S):=⟨λn=>Am W.iv,λn=>wx h,W.iv.nm,λ_=>Hp W.iv,λ_=>z7 h W.iv⟩;have k0:(0:Int)<=13+(k:Int)%3:=iH (by decide) (gM (by decide)).1;have k1:0<(k:Int)+1:=Jt (bn k);have k2:(k:Int)+1<=10 ^ 12:=bA (Int.add_le_add_right (bW.mpr (hk k (.head _))) 1) (by decide);refine bp (aq (dP (ae rfl) (aq am (aq (ae rfl) am (cI (by decide))) dN) λQ q=>Ci (n:=n+35) k0 q) (aq (ae rfl) am dN) (cO k1 k2)) (bQ rfl) ?_;refine nc (tF (n:=n+34) F W.w W.sm gi (ae rfl) (dF (ae rfl) λQ q=>f24 (n:=n+35) F.t (W.w.gn F.g) (Hz.at W.w (aI _ F.o)) q) rfl rfl λds hd dd=>?_);refine oY (rev:=false) (v:=.lst ds) (ss:=[]) (K:=K') (tgt:=.inl 10) (st:=λx ρ=>ρ.set 10 (some x)) (f:=λx=>x) (λ_ _=>rfl) (PD σ G0 ns nm (.lst (zs.map V.int)) (bV r ns nm o) b a sz Y (some (ni k)) (some (.int _)) ks.length) (l:=ds) (λ_ _ _ _=>congrArg some (jY ds).symm) (aa hd (by decide)) (.mk S T o10 o11 o12 o13 rfl W (n7' hl hd) (n8 hv hd) dd) (λv vs ρ' H' hJ K' hK=>?_) λρ' H' hJ=>?_
  ·refine PD.rec (motive:=λ_=>a8 _ _ _ _ _ _ _ _) (λS T o10 o11 o12 o13 eρ W l2 v2 d2=>?_) hJ;subst eρ;exact Gu F W (d2 v (.head _)) (n5 l2 (aM _)).2 ⟨(n6 v2 (aM _)).2.1,λa ha=>(n6 v2 ha).2.2⟩ λS' T' H' o11 o12 o13 W' l3 v3=>hK _ _ (.mk S' T' _ _ _ _ rfl W' (n5 l2 l3).1 (n6 v2 v3).1 λv hv=>d2 v (.tail _ hv))
  ·exact PD.rec (motive:=λ_=>K' ρ' H') (λS T o10 o11 o12 o13 eρ W l2 v2 _=>hK _ _ (.mk S T _ _ o10 o11 o12 o13 eρ W (dw (2*ks.length)▸l2) (dw (16000*ks.length)▸v2) λk hk'=>hk k (.tail _ hk'))) hJ
 ·exact PR.rec (motive:=λ_=>a8 _ _ _ _ _ _ _ _) (λS T o3 o9 o10 o11 o12 o13 eρ W _ _ _=>eρ▸q S T H' _ _ _ _ _ _ W) hI
end
section
variable {π:PI}{L:Nat}{z:Int}{nm:Nat->Nm}{A A':Ab}{c:Nm}{ns:List Nm}{j:Nat}
theorem Ho:∀{h:Nm->Bool},(∀m∈ms,c∉π.sb m)->(eJ π h ms).foldl hr h c=h c:=by
 induction ms with
 |nil=>exact λ_=>rfl
 |cons m ms ih=>intro h hm;refine(?_:(eE h (π.sb m)++eJ π ((eE h (π.sb m)).foldl hr h) ms).foldl hr h c=h c);rw [bw,ih λm hm'=>hm m (.tail _ hm')];exact EZ λq=>hm m (.head _) (dD.mp (ca.mp q).1)
theorem yA{α:Type}{l:List α}{x:α}(h:l[i]? =some x):x∈nH rl l i x:=by
 unfold nH;by_cases e:rl=['o','n','e']
 ·rw [if_pos e];exact .head _
 ·rw [if_neg e];by_cases e:rl=['r','e','s','t']
  ·rw [if_pos e];refine aN (i:=0) ?_;rw [qc];exact h
  ·rw [if_neg e];exact aN h
theorem ud(N:Nms 3 nm)(hj:j=1\/j=2)(h:∀k,k<3->A.h (nm k)=true)(kl:∀w,(A.k w).length<=A.ev.length)(hb:A.ev.length<=810000)(de:De (cC (iJ L z) nm) ns A (.tup [.str ['f','a','i','l'],.str (nm j)]) A'):∀k,k<3->A'.h (nm k)=true:=by
 have T:Tr (iJ L z):=AF.tr;have sb1:∀k,k=1\/k=2->(cC (iJ L z) nm).sb (nm k)=[nm k]/\(cC (iJ L z) nm).nv (nm k)=false:=λk hk=>hk.elim (λe=>e▸⟨nZ N (k:=1) rfl,(tq (ns:=iJ L z) N (k:=1) rfl).1⟩) λe=>e▸⟨nZ N (k:=2) rfl,(tq (ns:=iJ L z) N (k:=2) rfl).1⟩;have cj:(cC (iJ L z) nm).ch (nm j)=some (nm 0):=hj.elim (λe=>e▸tO T N (k:=0) rfl (.head _)) λe=>e▸tO T N (k:=0) rfl (.tail _ (.head _));have kd0:(cC (iJ L z) nm).kd (nm 0)=[nm 1,nm 2]:=(oV (ns:=iJ L z) N (k:=0) rfl).1;have mn0:(cC (iJ L z) nm).mn (nm 0)=1000000000:=by rw [(qt (ns:=iJ L z) N (k:=0) rfl).2];refine(?_:y6 0 (z%3+3*21)=_);unfold y6;rw [vQ.1];rfl
 have j3:j<3:=hj.elim (λe=>e▸by decide) λe=>e▸by decide
 refine dI (de.inv.2.2 rfl) λes k' fe eA k hk=>?_;subst eA;refine(?_:es.foldl hr A.h (nm k)=true);have fe:Fe (cC (iJ L z) nm) (A.t+1) (cF (cC (iJ L z) nm) (nm j)) A.h A.k (.fail (nm j)) es k':=fe;have cf:cF (cC (iJ L z) nm) (nm j)=true:=by unfold cF;rw [cj,(sb1 j hj).2];rfl
 have ep:pre (cC (iJ L z) nm) A.h (.fail (nm j))=[.fail (nm j)]:=by unfold pre;rw [show(Evt.fail (nm j)).nm=nm j from rfl,(sb1 j hj).1];rfl
 cases fe with
 |stop c0=>exact vB c0 cf
 |go _ cw _ lt=>have cw:(cC (iJ L z) nm).ch (nm j)=_:=cw;haveI ew:=aj (cj.symm.trans cw);subst ew;rw [mn0]at lt;refine absurd (p7 lt (bW.mpr (aa (dq _ _) (aa (au ah) (aA (aa (kl _) hb)))))) (by decide)
 |@here _ _ _ _ _ _ w i _ cw ee _ _ ix _=>
  have cw:(cC (iJ L z) nm).ch (nm j)=_:=cw;haveI ew:=aj (cj.symm.trans cw);subst ew;rw [ee,ep,bw];have hx:∀{x},x<3->x≠j->hr A.h (.fail (nm j)) (nm x)=true:=λ{x} h3 ne=>ay.mpr ⟨by rw [decide_eq_false λe=>ne (N.inj x j h3 j3 e)];rfl,h x h3⟩;have pl:∀y∈nH ((cC (iJ L z) nm).ru (nm 0)) ((cC (iJ L z) nm).kd (nm 0)) i (nm j),∃t,(t=1\/t=2)/\y=nm t:=λy hy=>by haveI hy:=nX ix y hy;rw [kd0]at hy;exact eC hy (λe=>⟨1,.inl rfl,e⟩) λhy=>⟨2,.inr rfl,in1 hy⟩
  refine(?_:(eJ _ _ _++jp Evt.beg _).foldl hr _ _=true);rw [bw];refine qz.mpr ?_;by_cases hp:nm k∈nH ((cC (iJ L z) nm).ru (nm 0)) ((cC (iJ L z) nm).kd (nm 0)) i (nm j)
  ·refine .inl (a9.mpr ⟨nm k,ca.mpr ⟨hp,?_⟩,?_⟩)
   ·by_cases ek:k=j
    ·rw [ek,show(nm j==(Evt.fail (nm j)).nm)=true from beq_self_eq_true _];rfl
    ·exact av (pl _ hp) λt ht et=>by rw [show [Evt.fail (nm j)].foldl hr A.h (nm k)=true from hx hk ek,et,(sb1 t ht).2];exact mM _
   ·exact av (pl _ hp) λt ht et=>by rw [et,(sb1 t ht).1];exact .head _
  ·refine .inr ((Ho λy hy=>?_).trans (hx hk λe=>hp (by rw [e];exact yA ix)));haveI hy:=(ca.mp (dD.mp hy)).1;exact av (pl y hy) λt ht et=>by rw [et,(sb1 t ht).1];exact λq=>hp (in1 q▸et▸hy)
end
section
variable {σ:Ad}{S S':Hst}{H:AH}{G0 Y g g1:List (Nat×O)}{ns:List Nd}{nm:Nat->Nm}{x y:Nd}{k j o r n b i N e a sz:Nat}{Q R:QE}{X:XE}{K:KS}{A A' A0 T T' Af:Ab}{ss:List St}{d v zv:V}{P:Prog}{C:Calls}{ρ:Fm}{z:Int}{zs:List Int}{B:AH}{o3 o9 o10 o11 o12 o13:Option V}
theorem Hs.sub(h:Hs (iC σ g1) S H)(sub:∀p∈g,p∈g1)(gnd:(g.map (·.1)).Nodup):Hs (iC σ g) S H:=by
 have ef:∀g:List (Nat×O),hH (iC σ g) S=hH (iC σ []) S++g:=λ_=>rfl;haveI nd:=h.nd;haveI hf:=h.fix;rw [ef g1]at nd hf;rw [aJ]at nd;have nd3:=bj.mp nd;refine⟨?_,?_,h.kp,h.qp,h.qn,h.pn,h.kn,h.fr⟩
 ·rw [ef g,aJ];exact bj.mpr ⟨nd3.1,gnd,λa ha b hb=>av (aK.mp hb) λp hp e=>nd3.2.2 a ha b (aK.mpr ⟨p,sub p hp,e⟩)⟩
 ·rw [ef g];exact dk (λp hp=>hf p (aI _ hp)) λp hp=>hf p (az _ (sub p hp))
theorem K8(t:Tr ns)(N:Nms ns.length nm)(w:Nm):((cC ns nm).kd w).Nodup:=by refine(?_:((k9 ns.length nm w).elim [] λk=>(k6 ns k).map nm).Nodup);refine fS (o:=k9 ns.length nm w) (λz=>by rw [z];exact cc) λk z=>?_;rw [z];refine(⟨_,aO (mE z).2⟩:∃x,ns[k]? =some x).elim λx hx=>?_;refine(?_:((k6 ns k).map nm).Nodup);rw [fU hx];exact lf.map nm (λ_ _ h=>h) (ib (λ{a b} ha hb hab e=>hab (N.inj a b (dB (t.inn k x hx a ha) λy hy _ _ _=>(af.mp hy).1) (dB (t.inn k x hx b hb) λy hy _ _ _=>(af.mp hy).1) e)) (t.lim k x hx).nd)
theorem Bp(h:H[i]? =some (.list vs))(hl:vs.length<=aB):be P true .list [.ref i] H=some (.ref H.length,H++[.list vs]):=by show(((H[i]?.bind O.lst).bind _).map _).bind _=_;rw [h];show((if vs.length<=aB then some _ else none:Option V).map _).bind _=_;rw [if_pos hl];rfl
theorem BZ(h:H[i]? =some (.list (vs++[v]))):be P false .i [.ref i,.int (-1)] H=some (v,H):=by show((H[i]?.bind O.lst).bind λvs=>(sa vs.length (-1)).bind λj=>vs[j]?).map _=_;rw [h];exact DK (P:=P) (H:=H)
noncomputable abbrev fA:V:=.tup [.str ['f','a','i','l','s'],.str ['a']]
theorem AM(F:Fx (lz B (bd ns nm 7 0) e) G0 ns nm r o)(M:Mw (lz B (bd ns nm 7 0) e) G0 b ns nm (aF ((nms 7 (bd ns nm 7 0)).map .beg) (λ_=>[]) rj) A N none T H)(hL:A.lt<=100)(hb:A.ev.length<=810000)(q:∀H',Q (.bool true) H') :
  a8 PL (aQ PL (n+39)) (rW.body.drop 3) [some (.lst (zs.map V.int)),some (bV r ns nm o),some (.ref (b+3)),o3,none,none,none,none,none,none,none,none,none,none] H K Q X:=by
 refine c7 F.t.tr.top λx0 h0 hw0 _=>?_;have pn:=F.t.plan F.n;have gi:=M.gh.gi;have ev:T.ev=A.ev:=M.sm.ev;have el:(T.ev.map Evt.v).length<=810000:=by rw [ak,ev];exact hb
 have cel:∀{ρ:Fm} {H X},ρ[0]? =some (some (.lst (zs.map V.int)))->Ev PL (aQ PL (n+39)) ρ H X (.call 15 [.v 0,.c (.int 15)]) (.int (zs.getD 15 0)):=λh=>dP (ae h) am λQ q=>Ci (n:=n+38) (i:=15) (by decide) q;generalize zs.getD 15 0=c15 at cel;have hpl:∃a1 a2 a3 a4 a5,bd ns nm 7 0=.tup [.str ['w','a','r','d','e','n'],a1,a2,a3,a4,a5]:=⟨_,_,_,_,_,by rw [jZ h0,if_pos hw0];rfl⟩;refine cU (aq (aq (cel rfl) am (cI (by decide))) am (ft b7 b7)) (λ_=>?_) λ_=>?_
 ·refine hpl.elim λa1 hp=>KH hp λa2 a3 a4 a5 hp=>?_;have pv:∀{ρ:Fm} {H X},ρ[1]? =some (some (bV r ns nm o))->Ev PL (aQ PL (n+39)) ρ H X (.p false .i [.v 1,.c (.str ['p','l','a','n'])]) (.tup [.str ['w','a','r','d','e','n'],a1,a2,a3,a4,a5]):=λh=>hp▸aq (ae h) am rfl;refine bp (v:=.lst [.tup [.str ['w','a','r','d','e','n'],a1,a2,a3,a4],.tup [.str ['w','o','r','k','e','r'],.str ['a'],.str ['n','e','v','e','r']],.none,.lst [.str ['w','a','r','d','e','n'],a1,a2,a3,a4,a5]]) (nu (dG (iA (pv rfl) am am rfl) (dG (aR rfl) (dG am (dG (bY (pv rfl) rfl) nD)))) rfl) (bQ rfl) ?_;refine av (jQ (P:=PL) (H:=H) (xs:=[.ref (b+5),.lst [.none,.int 5]]) (i:=c15/36%2) (gM (by decide)).1 (gM (by decide)).2) λw _ ew=>?_;refine bp (v:=w) (aq (aq (eX M.w rfl rfl) (aR rfl) (hO fx)) (aq (aq (cel rfl) am (cO (by decide) (by decide))) am (cI (by decide))) ew) (bQ rfl) ?_;refine av (jQ (P:=PL) (H:=H) (xs:=[.tup [.str ['w','a','r','d','e','n'],a1,a2,a3,a4],.tup [.str ['w','o','r','k','e','r'],.str ['a'],.str ['n','e','v','e','r']],.none,.lst [.str ['w','a','r','d','e','n'],a1,a2,a3,a4,a5]]) (i:=c15/9%4) (gM (by decide)).1 (gM (by decide)).2) λu hu eu=>?_;have bad:Jw u:=(d0 (.inl ⟨_,rfl,by exact(by decide:5≠6)⟩) (d0 (.inl ⟨_,rfl,by exact(by decide:3≠6)⟩) (d0 (.inr (.inl rfl)) (dz (.inr (.inr ⟨_,rfl⟩))))):∀u∈[V.tup [.str ['w','a','r','d','e','n'],a1,a2,a3,a4],.tup [.str ['w','o','r','k','e','r'],.str ['a'],.str ['n','e','v','e','r']],.none,.lst [.str ['w','a','r','d','e','n'],a1,a2,a3,a4,a5]],Jw u) u hu;exact iM (cQ (aq (ae rfl) (aq (aq (cel rfl) am (cO (by decide) (by decide))) am (cI (by decide))) eu) (ae rfl) (Mp (n:=n+33) bad q))
 refine dU (mX (eX M.w rfl rfl _ (hE (Bp (M.w.at 5 rfl) (aa el (by decide))) ⟨bQ rfl,?_⟩)));have w5:WX (lz B (bd ns nm 7 0) e) G0 b ns.length nm T ([]++[(H.length,.list (T.ev.map Evt.v))]) none (H++[.list (T.ev.map Evt.v)]):=M.w.push _;have ha:(H++[O.list (T.ev.map Evt.v)])[H.length]? =some (.list (A.ev.map Evt.v)):=gy.trans (by rw [ev]);refine dU (cQ (x:=bd ns nm 7 0) (aq (ae rfl) am rfl) (ae rfl) (Mo (n:=n) pn (K8 F.t.tr F.n) M.rn gi ha hL hb λe' S H' A' eA=>⟨bQ rfl,?_⟩));have F':Fx (lz (H++[.list (T.ev.map Evt.v)]) (bd ns nm 7 0) e') G0 ns nm r o:=⟨F.t,F.n,F.g,F.o,pn.pl,F.en,rfl⟩;have w6:WX (lz (H++[.list (T.ev.map Evt.v)]) (bd ns nm 7 0) e') G0 b ns.length nm T [(H.length,.list (T.ev.map Evt.v))] (some S) H':=Hs.sub (g1:=gB (H++[O.list (T.ev.map Evt.v)])) A'.hs (λp hp=>rB (w5.2 p hp)) w5.1;have h6:H'[H.length]? =some (.list (T.ev.map Evt.v)):=w6.at 6 rfl;refine kL (ae rfl) (fb h6) (aR rfl) (hE (fh h6 (aa el (by decide))) ?_);have w7:=Hz.gset (W:=wN b ns.length nm T++[(H.length,.list (T.ev.map Evt.v))]) w6 6 (o':=.list (T.ev.map Evt.v++[fA])) rfl;have W7:W13 (lz (H++[.list (T.ev.map Evt.v)]) (bd ns nm 7 0) e') G0 b ns nm [(H.length,.list (T.ev.map Evt.v++[fA]))] S T _:=⟨w7,A'.iv,eA.symm▸M.sm⟩;have eL:S.letters=A.lt:=congrArg Ab.lt eA;have eE:S.ev=A.ev:=congrArg Ab.ev eA;refine bp (v:=ni (T.ev.map Evt.v++[fA]).length) (bY (ae rfl) (fL (W7.w.at 6 rfl))) (bQ rfl) (bK (c9 (s:=true) (fR (ae rfl) (ae rfl) (ae rfl) λQ q=>f43 (n:=n+35) F' W7.w W7.iv W7.sm (eL▸aa hL (by decide)) (eE▸aa hb (by decide)) q)) ?_);refine FT (n:=n+3) (a:=H.length) (sz:=(T.ev.map Evt.v++[fA]).length) F' W7 (eL▸hL) (eE▸hb) λS T' H2 o3 o9 o10 o11 o12 o13 W8=>?_;have h8:H2[H.length]? =some (.list (T.ev.map Evt.v++[fA])):=W8.w.at 6 rfl;refine bx (cW (s:=true) (t:=true) (aq (bY (ae rfl) (fL h8)) (ae rfl) ((ft b7 b7).trans (by rw [fH (.int _) rfl]))) λ_=>aq (aq (ae rfl) (bY am mV) (BZ h8)) (aR rfl) rfl) (q _)
end
inductive PG(σ:Ad)(G0:List (Nat×O))(ns:List Nd)(nm:Nat->Nm)(A0:Ab)(b:Nat)(zv hall:V)(its:List Nat)(ρ:Fm)(H:AH):Prop
 |mk (A T:Ab) (N:Nat) (o3:Option V):ρ=[some zv,some hall,some (.ref (b+3)),o3,none,none,none,none,none,none,none,none,none,none]->Mw σ G0 b ns nm A0 A N none T H->A.lt+its.length<=100->A.ev.length+8000*its.length<=810000->(∀k,k<3->A.h (nm k)=true)->PG σ G0 ns nm A0 b zv hall its ρ H
theorem n9g(h:a+(r+1)<=100)(e:b<=a+1):b+r<=100/\a<=109:=⟨eW h (eW e (by simp+arith only)),eW h (by simp+arith only)⟩
theorem Cu(h:a+8000*(r+1)<=810000)(e:b<=a+8000):b+8000*r<=810000/\a+8000<=900000/\b+1100<=900000/\a<=810000:=⟨eW h (eW e (by simp+arith only)),eW h (by simp+arith only),eW h (eW e (by simp+arith only)),eW h (by simp+arith only)⟩
theorem n61:∃m:Nat,(61+a%40:Int)=m/\m<=100:=haveI h:=gM (a:=a) (b:=40) (by decide);⟨(61+a%40).toNat,(bT (iH (by decide) h.1)).symm,mK.mpr (show 61+a%40<=(100:Int)from jE (Ju (b:=39) h.2) (by simp+arith only))⟩
theorem Oj:∃t:Nat,(1+a%2:Int)=t/\(t=1\/t=2):=(Int.emod_two_eq a).elim (λe=>⟨1,by rw [e];rfl,.inl rfl⟩) λe=>⟨2,by rw [e];rfl,.inr rfl⟩
section
variable {σ:Ad}{S S':Hst}{H:AH}{G0 Y g g1:List (Nat×O)}{ns:List Nd}{nm:Nat->Nm}{x y:Nd}{k j o r n b i N e a sz:Nat}{Q R:QE}{X:XE}{K:KS}{A A' A0 T T' Af:Ab}{ss:List St}{d v zv:V}{P:Prog}{C:Calls}{ρ:Fm}{z:Int}{zs:List Int}{B:AH}{o3 o9 o10 o11 o12 o13:Option V}
theorem fx0(t:Tree ns)(N:Nms ns.length nm)(g:GM r ns H)(ho:H[o]? =some (.list ((sub ns 7 0).map ni))):Fx (lz H (bd ns nm 7 0) 0) (gB H) ns nm r o:=c7 t.tr.top λ_ h0 _ _=>⟨t,N,g.imp λ_ q=>⟨q.1,λp hp=>rB (q.2 p hp)⟩,rB ho,(t.plan N).pl,(fv (k:=7)).trans (t.tr.nms h0),rfl⟩
theorem hz0:Hz σ (gB H) none H:=⟨Fk,λ_ hp=>ub hp⟩
theorem Do(q:∀H',Q (.bool true) H')(o1 o2:Option V) :
  a8 PL (aQ PL (n+39)) (xu (rW.body.getD 2 .pass)) [some (.lst (zs.map V.int)),o1,o2,none,none,none,none,none,none,none,none,none,none,none] H (λρ' H'=>a8 PL (aQ PL (n+39)) (rW.body.drop 3) ρ' H' K Q X) Q X:=by
 refine dU (gN (ae rfl) (Oo (n:=n+37) λnm z N=>⟨bQ rfl,?_⟩));have F:=fx0 (AF (L:=H.length) (z:=z)) N gmG (iz (j:=7));have pn:=F.t.plan F.n;have en:nms 7 (bd (iJ H.length z) nm 7 0)=[nm 0,nm 1,nm 2]:=(fv (k:=7)).symm.trans F.en;generalize H++N4 H.length=H1 at F ⊢;refine dU (gN (ae rfl) (f25 (n:=n+36) F hz0 λT0 H3 w3 e0=>⟨bQ rfl,?_⟩));have cel:∀{ρ:Fm} {H X} {i:Int},0<=i->ρ[0]? =some (some (.lst (zs.map V.int)))->Ev PL (aQ PL (n+39)) ρ H X (.call 15 [.v 0,.c (.int i)]) (.int (zs.getD i.toNat 0)):=λhi h=>dP (ae h) am λQ q=>Ci (n:=n+38) hi q;refine av (n61 (a:=zs.getD (15:Int).toNat 0/9)) λm em hm=>?_;refine eD (PG (lz H1 (bd (iJ H.length z) nm 7 0) 0) (gB H1) (iJ H.length z) nm (aF ((nms 7 (bd (iJ H.length z) nm 7 0)).map .beg) (λ_=>[]) rj) H1.length (.lst (zs.map V.int)) (bV (H.length+2) (iJ H.length z) nm (H.length+7))) (f:=ni) (l:=aX m) (v:=.rng 0 m) (bY (du (aq am (aq (aq (cel (by decide) rfl) am (cO (by decide) (by decide))) am (cI (by decide))) dN) (congrArg V.int em)) (fj (xK (aa hm (by decide))))) (λ_ _ _ _=>congrArg some oW) (by rw [a7];exact aa hm (by decide))
  (.mk (aF ((nms 7 (bd (iJ H.length z) nm 7 0)).map .beg) (λ_=>[]) rj) T0 0 none rfl ⟨w3,?_,gh0 pn,.nil⟩ ?_ ?_ λk hk=>?_) (λk ks ρ' H' hI K' hK=>?_) λρ' H' hI=>?_
 ·rw [e0,show(lz H1 (bd (iJ H.length z) nm 7 0) 0).names=nms 7 (bd (iJ H.length z) nm 7 0)from fv (k:=7)];exact sm0
 ·rw [a7];exact aa (au (dw _)) hm
 ·refine (?_:((nms 7 (bd (iJ H.length z) nm 7 0)).map Evt.beg).length+_<=_);rw [ak,a7];exact aa (bU pn.le (br 8000 hm)) (by decide)
 ·refine qz.mpr (.inl ?_);rw [en]
  match k,hk with
  |0,_=>exact .head _
  |1,_=>exact .tail _ (.head _)
  |2,_=>exact .tail _ (.tail _ (.head _))
 ·refine PG.rec (motive:=λ_=>a8 _ _ _ _ _ _ _ _) (λA T N' o3 eρ M hl hv hh=>?_) hI;subst eρ;refine av (Oj (a:=zs.getD (14:Int).toNat 0+k)) λt et ht=>?_;have t3:t<3:=ht.elim (λe=>e▸by decide) λe=>e▸by decide
  have e0:ao (bd (iJ H.length z) nm 7 0)=nm 0:=io (ns:=iJ H.length z) (k:=0) rfl;have dd:Dd (cC (iJ H.length z) nm) (lz H1 (bd (iJ H.length z) nm 7 0) 0) (.tup [.str ['f','a','i','l'],.str (nm t)]):=.fail (by rw [F.en];exact bq (f:=nm) (AF.tr.all (ns:=iJ H.length z) t3))
  refine dJ (iQ (z:=.tup [.str ['f','a','i','l'],.str (nm t)]) (ae rfl) (ae rfl) (aq am (aq (x:=nw nm 3) (aq (ae rfl) am rfl) (du (aq am (aq (aq (cel (by decide) rfl) (ae rfl) dN) am (cI (by decide))) dN) (congrArg V.int et)) (iy t3)) (eM fx)) (M.did (n:=n+33) F dd (ph (e0▸hh 0 (by decide)) (hh t t3) rfl) (n9g hl (aM _)).2 (Cu hv (aM _)).2.1 (λha=>(Cu hv ha).2.2.1) λA' T' H2 M' g=>cH (hK _ _ (.mk A' T' (N'+1) _ rfl M' (n9g hl g.lt).1 (Cu hv g.le).1 (ud N ht hh M.gh.gi.kl (Cu hv (aM _)).2.2.2 g.de)))))
 ·exact PG.rec (motive:=λ_=>a8 _ _ _ _ _ _ _ _) (λA T N' o3 eρ M hl hv _=>eρ▸cH (AM F M hl hv q)) hI
theorem LB(hz:zs.length<=63)(q:∀H',Q (.bool true) H'):aQ PL (n+40) 46 [.lst (zs.map V.int)] H Q X:=by refine cf Jh rfl (dU (gN (ae rfl) (f19 (n:=n+26) λns nm o B t N g ho=>⟨bQ rfl,?_⟩)));have F:=fx0 t N g.gm ho;refine dU (cQ (ae rfl) (ae rfl) (Nt (n:=n+31) F hz0 hz λA T N' H' M hL hb=>⟨bQ rfl,?_⟩));exact cU (aq (aq (dP (ae rfl) am λQ q=>Ci (n:=n+38) (by decide) q) am (cI (by decide))) am (ft b7 b7)) (λ_=>Do q _ _) λ_=>cH (AM F M hL hb q)
end
end Mine
end
noncomputable section
open PySem PySem.W PyProof.Rows
set_option maxHeartbeats 8000000
namespace Mine
noncomputable def Ni:List (Str×Gl):=[("len",.bi "len"),("all",.bi "all"),("isinstance",.bi "isinstance"),("min",.bi "min"),("range",.ty "range"),("int",.ty "int"),("bool",.ty "bool"),("str",.ty "str"),("tuple",.ty "tuple"),("list",.ty "list"),("ValueError",.ty "ValueError"),("reversed",.ty "reversed")]
noncomputable def muL:List (Nat×Nat):=[(52,11),(53,12),(65,12),(86,19),(87,21),(88,21),(89,23),(90,20),(91,20),(92,22),(97,22),(104,35),(115,33),(160,36),(322,22),(322,23),(322,70),(331,35),(331,102),(336,35),(336,95),(339,17),(412,20),(412,82),(413,28),(414,28),(536,22),(536,23),(536,59),(538,31),(538,67),(539,144),(552,18)]
noncomputable def Nu:List (Str×V):=[("LETTERS",.str ['a','b','c','d','e','f','g','h','i','j','k','l','m','n','o','p','q','r','s','t','u','v','w','x','y','z']),("LONGEST",.int 8),("GREATEST",.int 1000000000),("MOST_NAMES",.int 60),("MOST_ABOVE",.int 6),("MOST_PARTS",.int 8)]
theorem BK{P:Params}{h:Heap}{l:Addr}{vs:List Value}{xs:List PyData}(w1:Well P h (.ref l) (ofPy (.list xs)))(hL:h.IsList l vs.toArray):h.PlainList l vs.toArray:=by
 have w2:Well P h (.ref l) (.list (ofPys xs)):=w1;cases w2 with
 |list e _=>obtain⟨o,ho,_,n,hd⟩:=hL;rw [e]at ho;cases ho;cases hd;exact⟨_,e⟩
theorem yq{a b:List OwnSpec}{cs:List (List Nat)}{h:HP}(e:a=b)(x:XSays b cs h):XSays a cs h:=e▸x
namespace walk13
variable(p:Prop)(h:p)
include h
theorem tw12089174186515027825:p:=h
theorem tw7504435362232671699:p:=h
theorem tw9132496021008091930:p:=h
theorem tw12142439318939833916:p:=h
theorem tw15067777762875294718:p:=h
theorem tw8388561950173234038:p:=h
theorem tw13352848195840104505:p:=h
theorem tw7970084124346798479:p:=h
theorem tw14369582552263019572:p:=h
theorem tw16221051450816245587:p:=h
theorem tw18333477771963776794:p:=h
theorem tw10266864926604796338:p:=h
theorem tw3667037981869791605:p:=h
theorem tw5795486326051205960:p:=h
theorem tw4367523775649023033:p:=h
theorem tw4782806226906837800:p:=h
theorem tw16553371496335885304:p:=h
theorem tw5978935720815053973:p:=h
theorem tw3605560505735622929:p:=h
theorem tw629879859328910675:p:=h
theorem tw11277882431664569484:p:=h
theorem tw6655267122238336120:p:=h
theorem tw15485571643024840830:p:=h
theorem tw9465076614743268496:p:=h
theorem tw10961302146850662797:p:=h
theorem tw3771658519609344176:p:=h
theorem tw17482242265646998697:p:=h
theorem tw757651766608973328:p:=h
theorem tw2156362550135854225:p:=h
theorem tw11322626150925035369:p:=h
theorem tw15474078421319489861:p:=h
theorem tw17180812131960255270:p:=h
theorem tw3641930379132744781:p:=h
theorem tw9929680685208929700:p:=h
theorem tw11384433914278409536:p:=h
theorem tw17589255515879599372:p:=h
theorem tw13097838367366498839:p:=h
theorem tw11463908289460221070:p:=h
theorem tw17134991866624169722:p:=h
theorem tw16545478479691685581:p:=h
theorem tw14632389282703938614:p:=h
theorem tw17492205402481896505:p:=h
theorem tw7497348590608793392:p:=h
theorem tw10771768633179381821:p:=h
theorem tw17913063009891135493:p:=h
theorem tw9676532242482751869:p:=h
theorem tw16265556466854734036:p:=h
theorem tw13925709022659038654:p:=h
theorem tw7290992483772551337:p:=h
theorem tw1841923425004454595:p:=h
theorem tw9605533376518770475:p:=h
theorem tw8219896569432521432:p:=h
theorem tw9459001398332572560:p:=h
theorem tw11989460858435627219:p:=h
theorem tw928945846470011496:p:=h
theorem tw5793318752994852771:p:=h
theorem tw3406404646090175777:p:=h
theorem tw447162596059703313:p:=h
theorem tw3312697488030299139:p:=h
theorem tw490050744297197736:p:=h
theorem tw8158031763215777376:p:=h
theorem tw14928239221489066966:p:=h
theorem tw10042930564621518787:p:=h
theorem tw13918093969649167527:p:=h
theorem tw13043473344999634923:p:=h
theorem tw5881764385363799180:p:=h
theorem tw780651132381823923:p:=h
theorem tw9550217736193011549:p:=h
theorem tw5659846146301273279:p:=h
theorem tw17459684935736697989:p:=h
theorem tw12651005791980922896:p:=h
theorem tw15968873643726659284:p:=h
theorem tw10504502060631853166:p:=h
theorem tw4276534934741714905:p:=h
theorem tw2507385169436640339:p:=h
theorem tw4838655628842970907:p:=h
theorem tw14954145509970165135:p:=h
theorem tw1787932272997300200:p:=h
theorem tw12211689164261130265:p:=h
theorem tw14980214342913347667:p:=h
theorem tw8139943964969979373:p:=h
theorem tw12266036939265070849:p:=h
theorem tw9203022372776011995:p:=h
theorem tw7892310470831061987:p:=h
theorem tw5860766072201689240:p:=h
theorem tw17649960257335814240:p:=h
theorem tw9066039189892754226:p:=h
theorem tw10221595860953856511:p:=h
theorem tw13581354713808544087:p:=h
theorem tw15705260621109361792:p:=h
theorem tw1081436179906566689:p:=h
theorem tw3360170822551113887:p:=h
theorem tw14499145919632982017:p:=h
theorem tw8035502037036598752:p:=h
theorem tw9133003879585343249:p:=h
theorem tw12287959336622728979:p:=h
theorem tw1408398804537690970:p:=h
theorem tw4364052444546581470:p:=h
theorem tw7100266838404796737:p:=h
theorem tw13444671077953373952:p:=h
theorem tw8338638283191302254:p:=h
theorem tw10505858563589649198:p:=h
theorem tw17862035965814862484:p:=h
theorem tw7443997568497442831:p:=h
theorem tw11648320432339231963:p:=h
theorem tw11951264288822521086:p:=h
theorem tw17583056464951497344:p:=h
theorem tw10002442133143036565:p:=h
theorem tw15351085226392985744:p:=h
theorem tw510371739927205258:p:=h
theorem tw3541222278069446953:p:=h
theorem tw14277874195669203395:p:=h
theorem tw16421024077727245942:p:=h
theorem tw7840854649259966471:p:=h
theorem tw13915217119702299966:p:=h
theorem tw11638672985263730492:p:=h
theorem tw14670827577557951700:p:=h
theorem tw2692480172234903059:p:=h
theorem tw7047777321933306438:p:=h
theorem tw5092372300070081283:p:=h
theorem tw12392700765588722357:p:=h
theorem tw17013835466561619350:p:=h
theorem tw16833866176257425127:p:=h
theorem tw5947867376069095881:p:=h
theorem tw7876410172837903656:p:=h
theorem tw16119551459618171358:p:=h
theorem tw5834110345468662087:p:=h
theorem tw8916101600026684414:p:=h
theorem tw12548712875847348509:p:=h
theorem tw15353647911023265541:p:=h
theorem tw13073827017690979730:p:=h
theorem tw10147071209306886245:p:=h
theorem tw15467366843482008906:p:=h
theorem tw687497749090603731:p:=h
theorem tw14483837341907274081:p:=h
theorem tw1830106398891022821:p:=h
theorem tw13584314147081203001:p:=h
theorem tw14882326189181571180:p:=h
theorem tw17974977185830318995:p:=h
theorem tw2322596843989827025:p:=h
theorem tw14593538543719691150:p:=h
theorem tw3466954519451115883:p:=h
theorem tw18109146303074220505:p:=h
theorem tw9515801044406954308:p:=h
theorem tw10999192690830411645:p:=h
theorem tw4854359034248689972:p:=h
theorem tw11826561816858136983:p:=h
theorem tw15479126882188992238:p:=h
theorem tw4508396945348986832:p:=h
theorem tw16635780303241100418:p:=h
theorem tw15474776593386091412:p:=h
theorem tw1616305750011510249:p:=h
theorem tw5951723690310290404:p:=h
theorem tw12040535993360617871:p:=h
theorem tw13162071918827993154:p:=h
theorem tw14520715855362058607:p:=h
theorem tw17239992667087184789:p:=h
theorem tw4449244363713230432:p:=h
theorem tw8614665710566304169:p:=h
theorem tw6041484642279524118:p:=h
theorem tw7183727712930210016:p:=h
theorem tw18192400472185868733:p:=h
theorem tw6456525614646315521:p:=h
theorem tw10883481502908077942:p:=h
theorem tw3151945997322280829:p:=h
theorem tw12286006710734293411:p:=h
theorem tw16044737251082274611:p:=h
theorem tw11302641271551735158:p:=h
theorem tw4340329205422990740:p:=h
theorem tw7309113170428926375:p:=h
theorem tw8608900399103129886:p:=h
theorem tw7794483549477836366:p:=h
theorem tw8602121397318585876:p:=h
theorem tw6563800095536224240:p:=h
theorem tw14158900747479219518:p:=h
theorem tw6858309956010002911:p:=h
theorem tw3424662789843407763:p:=h
theorem tw17688759136411912796:p:=h
theorem tw6334574562803443402:p:=h
theorem tw2306883685878414554:p:=h
theorem tw4848347924091126068:p:=h
theorem tw7078275602310178400:p:=h
theorem tw13167306806590685555:p:=h
theorem tw11681092414544597997:p:=h
theorem tw2136633444189092875:p:=h
theorem tw17470197252528557163:p:=h
theorem tw3510737977565741998:p:=h
theorem tw6513174520699020282:p:=h
theorem tw7390458442177485682:p:=h
theorem tw16816020518958797883:p:=h
theorem tw5672774325951505568:p:=h
theorem tw5918254255600645376:p:=h
theorem tw5361515140792753143:p:=h
theorem tw3944538411071512847:p:=h
theorem tw8258569966721978123:p:=h
theorem tw4474219260412660308:p:=h
theorem tw2730915207628541717:p:=h
theorem tw782237351094961210:p:=h
theorem tw7166454088110049482:p:=h
theorem tw6401855479905905589:p:=h
theorem tw9969300919122268483:p:=h
theorem tw18188206659559729312:p:=h
theorem tw12678462323943548636:p:=h
theorem tw11934891776743137208:p:=h
theorem tw9263706298025831371:p:=h
theorem tw3535999040005828392:p:=h
theorem tw6915385346875550840:p:=h
theorem tw12823345709234319762:p:=h
theorem tw7763615519199414981:p:=h
theorem tw766406433844987466:p:=h
theorem tw8496925614574296838:p:=h
theorem tw15066556170602710293:p:=h
theorem tw14956713387990231633:p:=h
theorem tw12699683926185065996:p:=h
theorem tw1266148720338323615:p:=h
theorem tw15166143742999811113:p:=h
theorem tw8713067850591561459:p:=h
theorem tw5361637083844914736:p:=h
theorem tw13974151185033774577:p:=h
theorem tw3055258298845485681:p:=h
theorem tw2985910033376039532:p:=h
theorem tw11577439433776007767:p:=h
theorem tw10141566514733314666:p:=h
theorem tw17383511729570835220:p:=h
theorem tw6835356488530814874:p:=h
theorem tw10097235738158903144:p:=h
theorem tw13718664616562446032:p:=h
theorem tw2609295575615576979:p:=h
theorem tw8536812912052982433:p:=h
theorem tw11793003197031425049:p:=h
theorem tw6562953650690666984:p:=h
theorem tw4297436017034400404:p:=h
theorem tw9354193350844766654:p:=h
theorem tw3573314943329644331:p:=h
theorem tw5307150006458021710:p:=h
theorem tw11271054027669221273:p:=h
theorem tw961421496977863588:p:=h
theorem tw13235534806720812854:p:=h
theorem tw16180364632983550634:p:=h
theorem tw3059308845598814417:p:=h
theorem tw1074869624863178650:p:=h
theorem tw17387121180769357766:p:=h
theorem tw18199569015661880028:p:=h
theorem tw6490181481395965371:p:=h
theorem tw11369443150418890067:p:=h
theorem tw16137613542234568843:p:=h
theorem tw14022241304714496950:p:=h
theorem tw10509418928404675274:p:=h
theorem tw11269102204061822508:p:=h
theorem tw5058503675958662709:p:=h
theorem tw6982125211918728115:p:=h
theorem tw15887879749395266469:p:=h
theorem tw1404864765332795590:p:=h
theorem tw16608442873211082735:p:=h
theorem tw398652985416146688:p:=h
theorem tw15522729943977413286:p:=h
theorem tw18135584132189413611:p:=h
theorem tw5372150478996011013:p:=h
theorem tw16678610142258575992:p:=h
theorem tw5042041370741586097:p:=h
theorem tw10308192170742699712:p:=h
theorem tw16423658836413854725:p:=h
theorem tw2559748245050691289:p:=h
theorem tw9965620443122442509:p:=h
theorem tw4424109312640911297:p:=h
theorem tw6733551675884459953:p:=h
theorem tw14311678083020486496:p:=h
theorem tw16867342356071362574:p:=h
theorem tw787196288308124898:p:=h
theorem tw5214349826409599314:p:=h
theorem tw3196801851078185768:p:=h
theorem tw4361056355170943887:p:=h
theorem tw15329762283793213636:p:=h
theorem tw6437491801861431657:p:=h
theorem tw16980487982595585581:p:=h
theorem tw16296204241958936441:p:=h
theorem tw8033835795159926030:p:=h
theorem tw7548609708783103740:p:=h
theorem tw18445297672288185304:p:=h
theorem tw2443476787804889833:p:=h
theorem tw1287141301601337546:p:=h
theorem tw15117227922643566120:p:=h
theorem tw15407749286002667503:p:=h
theorem tw4218747811376654967:p:=h
theorem tw12377805697155478133:p:=h
theorem tw17282490568536727610:p:=h
theorem tw1414678163441347988:p:=h
theorem tw1183888149941002844:p:=h
theorem tw10922622347330538108:p:=h
theorem tw14771735657409506417:p:=h
theorem tw11701702476765493620:p:=h
theorem tw11199138809107134649:p:=h
theorem tw8242615310279581548:p:=h
theorem tw12000576152208974889:p:=h
theorem tw5602849779736520052:p:=h
theorem tw489011017549225571:p:=h
theorem tw10589269549909058030:p:=h
theorem tw6985548609431001687:p:=h
theorem tw16496801330849062631:p:=h
theorem tw11246095378417390420:p:=h
theorem tw17983711465973601110:p:=h
theorem tw12437276450692577218:p:=h
theorem tw11749304705175509525:p:=h
theorem tw15867374933546174868:p:=h
theorem tw8263424246767362025:p:=h
theorem tw14147625941133175624:p:=h
theorem tw16976062098052405267:p:=h
theorem tw2804910588314827283:p:=h
theorem tw14454007350246585458:p:=h
theorem tw16830817475915177569:p:=h
theorem tw7779258914309545038:p:=h
theorem tw17040548085080424792:p:=h
theorem tw7808840472656242470:p:=h
theorem tw2473925928636155023:p:=h
theorem tw13846060985125974203:p:=h
theorem tw12890090868908140569:p:=h
theorem tw365929072115523754:p:=h
theorem tw441160363752999085:p:=h
theorem tw11990586793984388674:p:=h
theorem tw13571582656702144450:p:=h
theorem tw9765344562756157177:p:=h
theorem tw13356311440451054351:p:=h
theorem tw11694395188062816021:p:=h
theorem tw5133700640748125254:p:=h
theorem tw6451481744262989701:p:=h
theorem tw7062894339333187018:p:=h
theorem tw17867646060295996573:p:=h
theorem tw8977697462218778918:p:=h
theorem tw15164026941392412292:p:=h
theorem tw2362515245669484993:p:=h
theorem tw6135001537810659277:p:=h
theorem tw104060784664706912:p:=h
theorem tw10118171699982966186:p:=h
theorem tw14087567950634124452:p:=h
theorem tw3056690598448179904:p:=h
theorem tw7957508544586713533:p:=h
theorem tw2507935330244769508:p:=h
theorem tw2222641269697247037:p:=h
theorem tw13659792979772790967:p:=h
theorem tw2354686094261425966:p:=h
theorem tw4037804296112084681:p:=h
theorem tw16444322437743403886:p:=h
theorem tw15255696110713974023:p:=h
theorem tw11056104450617495192:p:=h
theorem tw5411711902306851348:p:=h
theorem tw2640060750410964809:p:=h
theorem tw18199588132844629869:p:=h
theorem tw3388762770807073541:p:=h
theorem tw12991436269561913277:p:=h
theorem tw14608562099269043560:p:=h
theorem tw15811379330206911009:p:=h
theorem tw1595731389194349180:p:=h
theorem tw15719832975762267364:p:=h
theorem tw6652553695581165603:p:=h
theorem tw8611384991777373860:p:=h
theorem tw3076887750821940928:p:=h
theorem tw11934778389552344007:p:=h
theorem tw10739900072486907781:p:=h
theorem tw5104250473424381767:p:=h
theorem tw12800452650369639673:p:=h
theorem tw13335374404069153894:p:=h
theorem tw1641353881555879811:p:=h
theorem tw16054497609571936262:p:=h
theorem tw4784924776024735282:p:=h
theorem tw16388934962321932443:p:=h
theorem tw9992088444469064469:p:=h
theorem tw17317696936150210068:p:=h
theorem tw14216210309943732070:p:=h
theorem tw16251628883417382120:p:=h
theorem tw14101271585087389415:p:=h
theorem tw8682806426149394035:p:=h
theorem tw28232249769161937:p:=h
theorem tw3903646894763805172:p:=h
theorem tw1969870740835045580:p:=h
theorem tw8658826676082448977:p:=h
theorem tw4980198350889338848:p:=h
theorem tw14940613287671287653:p:=h
theorem tw4532279646764171382:p:=h
theorem tw11238691350299470587:p:=h
theorem tw14386859236841452815:p:=h
theorem tw16841825998172751727:p:=h
theorem tw17198823563431186685:p:=h
theorem tw2316023702887706328:p:=h
theorem tw530268310673428335:p:=h
theorem tw694186859937679033:p:=h
theorem tw9893016445633062755:p:=h
theorem tw934726188974549530:p:=h
theorem tw3551319028473861305:p:=h
theorem tw9150319023501747951:p:=h
theorem tw5092202915795546523:p:=h
theorem tw9453734223416287160:p:=h
theorem tw15295785933626257016:p:=h
theorem tw4047324025274578671:p:=h
theorem tw2411400795197997458:p:=h
theorem tw16497085518752176807:p:=h
theorem tw8331410116938561700:p:=h
theorem tw5636956993759991266:p:=h
theorem tw17728929384647191497:p:=h
theorem tw10513635508814552910:p:=h
theorem tw8825176840385562738:p:=h
theorem tw7989895219194191128:p:=h
theorem tw6104407657376440117:p:=h
theorem tw2004074746027620875:p:=h
theorem tw6203758876908879815:p:=h
theorem tw17424862694654421042:p:=h
theorem tw14344134388193965214:p:=h
theorem tw8724578429966147826:p:=h
theorem tw2188590433965121182:p:=h
theorem tw15355682831414588537:p:=h
theorem tw4553688772973650824:p:=h
theorem tw8247926639231808093:p:=h
theorem tw9737816458069891322:p:=h
theorem tw17577913218309786929:p:=h
theorem tw3934924413975606454:p:=h
theorem tw6540366314701679734:p:=h
theorem tw18184183024413885415:p:=h
theorem tw5395450125649333148:p:=h
theorem tw10745761022015794916:p:=h
theorem tw14874568512967993416:p:=h
theorem tw7481932767078428180:p:=h
theorem tw4579386478408824973:p:=h
theorem tw8407798870268885122:p:=h
theorem tw13956774413664990378:p:=h
theorem tw1942094586203829104:p:=h
theorem tw4719968368222699418:p:=h
theorem tw11207913192341745144:p:=h
theorem tw4212791378679833045:p:=h
theorem tw32347157847387231:p:=h
theorem tw2629417463696138037:p:=h
theorem tw12912468007006891871:p:=h
theorem tw1715696965989957180:p:=h
theorem tw4770235797627593353:p:=h
theorem tw3536101611675716315:p:=h
theorem tw15362367602258233130:p:=h
theorem tw17296170931218759836:p:=h
theorem tw9233090295146588553:p:=h
theorem tw1588327552816998459:p:=h
theorem tw3405671112319073856:p:=h
theorem tw5541230468420852793:p:=h
theorem tw11712537365178790970:p:=h
theorem tw1823336895486239686:p:=h
theorem tw3373089730153310994:p:=h
theorem tw7002872138639245338:p:=h
theorem tw13401809413379341727:p:=h
theorem tw11915825980712760498:p:=h
theorem tw6664820493752478886:p:=h
theorem tw2212743051729456046:p:=h
theorem tw14254596595294241298:p:=h
theorem tw7539630623317879641:p:=h
theorem tw16782856384174230734:p:=h
theorem tw597751545858614426:p:=h
theorem tw434374853760099379:p:=h
theorem tw5800592043305665587:p:=h
theorem tw16018474126755325911:p:=h
theorem tw16431393723118947190:p:=h
theorem tw14051352135924981345:p:=h
theorem tw394032556001147856:p:=h
theorem tw15913254960940987350:p:=h
theorem tw5314270247841249283:p:=h
theorem tw6217254388126470156:p:=h
theorem tw12427880300471271838:p:=h
theorem tw5530112568393983686:p:=h
theorem tw13871653012191899865:p:=h
theorem tw3838614630458770938:p:=h
theorem tw2349078718681719932:p:=h
theorem tw7305170370760441711:p:=h
theorem tw1737729203452487494:p:=h
theorem tw9694562458072719920:p:=h
theorem tw12403108442481875920:p:=h
theorem tw10300993178379905225:p:=h
theorem tw6135702122910488996:p:=h
theorem tw17653429871247522975:p:=h
theorem tw39225912441448119:p:=h
theorem tw18265782908029142044:p:=h
theorem tw7001513973106980199:p:=h
theorem tw5864243550620168542:p:=h
theorem tw958174011978392779:p:=h
theorem tw13983487494128721249:p:=h
theorem tw14911641559870415682:p:=h
theorem tw16835013563711905228:p:=h
theorem tw4320030244530981995:p:=h
theorem tw10870014536472212915:p:=h
theorem tw10573265106514736099:p:=h
theorem tw6546483913600605024:p:=h
theorem tw9984906391080155573:p:=h
theorem tw3549477710737801278:p:=h
theorem tw8609030307897008940:p:=h
theorem tw2660275606006019844:p:=h
theorem tw13122013409197796182:p:=h
theorem tw15906577955204021002:p:=h
theorem tw17943040737246012016:p:=h
theorem tw18428436222062888696:p:=h
theorem tw838784777485176411:p:=h
theorem tw3013411983310937145:p:=h
theorem tw16218843073671659778:p:=h
theorem tw11709994435674175230:p:=h
theorem tw774112400729050047:p:=h
theorem tw6022598879365314518:p:=h
theorem tw10393302430048092763:p:=h
theorem tw7758498730721954146:p:=h
theorem tw12263148570037416318:p:=h
theorem tw1317159211691378579:p:=h
theorem tw11709654892469499016:p:=h
theorem tw7208482223396946484:p:=h
theorem tw13751557263907979990:p:=h
theorem tw6694708056121844930:p:=h
theorem tw16146426645672484833:p:=h
theorem tw12731163298553362950:p:=h
theorem tw16248392732186554385:p:=h
theorem tw13335669643237816038:p:=h
theorem tw14471022107237693946:p:=h
theorem tw8290753234346855996:p:=h
theorem tw9013517771459605937:p:=h
theorem tw11330104985646827799:p:=h
theorem tw7949513517848473366:p:=h
theorem tw3268968018807770959:p:=h
theorem tw4592920959983809562:p:=h
theorem tw11929420479880502161:p:=h
theorem tw850663767726379152:p:=h
theorem tw4809305054202913301:p:=h
theorem tw10510029483430383062:p:=h
theorem tw8447931221636357334:p:=h
theorem tw11343431762893762778:p:=h
theorem tw7398843267921620850:p:=h
theorem tw9110126798149048268:p:=h
theorem tw15663753341224789842:p:=h
theorem tw2675710357997855623:p:=h
theorem tw8932333542557984229:p:=h
theorem tw469564262830261656:p:=h
theorem tw8784446290603770656:p:=h
theorem tw118053131652159940:p:=h
theorem tw17559011853917819156:p:=h
theorem tw5136931908711979616:p:=h
theorem tw16097298289708200984:p:=h
theorem tw17898904209912481940:p:=h
theorem tw15954995638515574241:p:=h
theorem tw9330894572574325489:p:=h
theorem tw7253101014374989686:p:=h
theorem tw6883318835708779421:p:=h
theorem tw15945929491918403324:p:=h
theorem tw6127667046625634322:p:=h
theorem tw7454610385088504596:p:=h
theorem tw4674271152736864717:p:=h
theorem tw14241378161983555140:p:=h
theorem tw13815320181515637637:p:=h
theorem tw30925415158216831:p:=h
theorem tw7789218308336330093:p:=h
theorem tw12647585907866792107:p:=h
theorem tw17039121555095839009:p:=h
theorem tw3105788288921074706:p:=h
theorem tw7492303344776932038:p:=h
theorem tw11310060424820071249:p:=h
theorem tw15106872380884380472:p:=h
theorem tw3548958174522706571:p:=h
theorem tw880602266768565729:p:=h
theorem tw3873252284366464668:p:=h
theorem tw4849562414507998702:p:=h
theorem tw3973192082752066229:p:=h
theorem tw7504161694243708172:p:=h
theorem tw1095837232877743804:p:=h
theorem tw29717656796493446:p:=h
theorem tw11655859299363386995:p:=h
theorem tw9270140864265049267:p:=h
theorem tw13032120256080922082:p:=h
theorem tw8922547993948274265:p:=h
theorem tw13363882907854275118:p:=h
theorem tw13505606008233651011:p:=h
theorem tw16856646845258308008:p:=h
theorem tw2885346401200807630:p:=h
theorem tw13764522552174203334:p:=h
theorem tw15784611761722840901:p:=h
theorem tw7176907956543670595:p:=h
theorem tw16663781499465093962:p:=h
theorem tw13488622616531007109:p:=h
theorem tw12197710684831859292:p:=h
theorem tw15513739703153121416:p:=h
theorem tw9312499545142679755:p:=h
theorem tw15842737812522980580:p:=h
theorem tw13890846061313726659:p:=h
theorem tw4555353840230316030:p:=h
theorem tw9002402326587666590:p:=h
theorem tw8600465410111901470:p:=h
theorem tw5188460206843402877:p:=h
theorem tw6063611715769402879:p:=h
theorem tw7625277592016261226:p:=h
theorem tw12405996422764330190:p:=h
theorem tw11443119953393026769:p:=h
theorem tw14462714762014427060:p:=h
theorem tw15218106870600053977:p:=h
theorem tw6948978387168639561:p:=h
theorem tw9337123315875405329:p:=h
theorem tw1543980386746473368:p:=h
theorem tw15260015528980883703:p:=h
theorem tw1054687480768390980:p:=h
theorem tw2666095386126829513:p:=h
theorem tw16530088072997761104:p:=h
theorem tw17904235508950734126:p:=h
theorem tw17368916765538310529:p:=h
theorem tw2658651927515335627:p:=h
theorem tw14319406911446445198:p:=h
theorem tw13070825846389515177:p:=h
theorem tw3701441041752448319:p:=h
end walk13
set_option Elab.async true in
set_option tactic.hygienic true in
theorem walk13:PySem.Challenge.rw_uf010035_13.Holds:=by
 w_on
 o_law
 o_head (KT (ownsOf PySem.Challenge.pw_uf010035_13) zb)
 case hw=>w_witness2
 intro w s₀ s₁ mg mb G Y fa o pm cd doc dV kV ho hd hcd hD hmg hg args vals as hpre hlay hrd hwl hlo;refine Ground.open G ?_;intro T B D TE TW
 wrow_args hpre hlay hrd hwl hlo
 all_goals (
  rename_i zs hs hlay0 hL1 hr1 hl2 as4 as3 l vs as0 hL ra w1 r0 hI hr hc1 hc0;refine AX (csts:=Nu) (bis:=Ni) (mu:=muL) (fz:=[]) (fns:=LH) (cs:=zb) (f:=46) (n:=40) T TE.topC (by decide+kernel) ⟨by decide+kernel,by decide+kernel,by decide+kernel,by decide+kernel⟩ (yq (by kernel_rfl) Y) (by decide+kernel) hg (by kernel_rfl) (by decide+kernel) hmg (BK w1 hL) (by simpa using hI) (by omega) (by decide) (LB (n:=0) (by omega) λ_=>rfl) λs' h1 h2 h3=>GoodW.toG ⟨.inl ⟨.bool true,.bool true,[],rfl,λcls=>rfl,.bool true,?_,λ_=>⟨.nil,by simp⟩⟩,h1,h2,h3⟩
  first|exact postW_of (by wrow_shape) (by wtm_val) (by str_meet;first|done|w_fin)|decide)
end Mine
end
theorem PySem.Challenge.cw_uf010035_13_holds : PySem.Challenge.rw_uf010035_13.Holds :=
 Mine.walk13
